import PyProof.Rows.All
import Wide.All
import OpenK.AllK
import Wide.FinOn
import HandS.ForMost
import HandS.Flow
import HandS.Style
import HandS.TupAny
import HandS.TupMul
import HandS.Conv
import HandS.IsInst
import HandS.Defaults
import HandS.Strs
import HandS.Deep
import HandS.Walk
import HandS.Zip
import HandS.CallRecv
import HandS.CallSlots
import HandS.ClsMeth
import HandS.HeadHook1
import KE.GoesMore
import KE.GoesZip
import KE.GoesEnum
import HandS.Set
import PyProof.Rows.SetFrom
import PyProof.Rows.SortStr
import PySem.Challenge.RW_manyboard_k40_whole_more_hands_still_mee
import KE.KStateDown
import Lean
import HandS.Head0
import HandS.Head1
import HandS.Head2
import HandS.HeadEnd
import HandS.HeadHook2
import HandS.ReCall
set_option Elab.async false
set_option linter.all false
set_option maxRecDepth 100000

/-! Data behind values, heaps that know part of a heap, steps. -/
namespace K4
open PySem L2

/-- plain data that never changes any more -/
inductive D where
  | non
  | bl (b : Bool)
  | int (i : Int)
  | str (x : Str)
  | tup (l : List D)
  | lst (l : List D)

mutual
def Rep (G : Hp) : D → V → Prop
  | .non, v => v = V.non
  | .bl b, v => v = V.bl b
  | .int i, v => v = V.int i
  | .str x, v => v = V.str x
  | .tup l, v => ∃ a xs, v = V.ref a ∧ G a = some (.tup xs) ∧ RepL G l xs
  | .lst l, v => ∃ a xs, v = V.ref a ∧ G a = some (.lst xs) ∧ RepL G l xs
def RepL (G : Hp) : List D → List V → Prop
  | [], xs => xs = []
  | d :: l, xs => ∃ x r, xs = x :: r ∧ Rep G d x ∧ RepL G l r
end

def Ex (G H : Hp) : Prop := ∀ a o, G a = some o → H a = some o
theorem Ex.rfl' (G : Hp) : Ex G G := fun _ _ h => h
theorem Ex.trans {G H J : Hp} (a : Ex G H) (b : Ex H J) : Ex G J := fun x o h => b x o (a x o h)
theorem Ex.free {G H : Hp} (e : Ex G H) {p : Addr} (h : H p = none) : G p = none := by
  cases q : G p with
  | none => rfl
  | some o => rw [e p o q] at h; cases h

mutual
theorem Rep.mono {G G' : Hp} (e : Ex G G') : ∀ (d : D) {v : V}, Rep G d v → Rep G' d v
  | .non, _, h => h
  | .bl _, _, h => h
  | .int _, _, h => h
  | .str _, _, h => h
  | .tup l, v, h => by
    obtain ⟨a, xs, h1, h2, h3⟩ := (show ∃ a xs, v = V.ref a ∧ G a = some (.tup xs) ∧ RepL G l xs from h)
    exact ⟨a, xs, h1, e _ _ h2, RepL.mono e l h3⟩
  | .lst l, v, h => by
    obtain ⟨a, xs, h1, h2, h3⟩ := (show ∃ a xs, v = V.ref a ∧ G a = some (.lst xs) ∧ RepL G l xs from h)
    exact ⟨a, xs, h1, e _ _ h2, RepL.mono e l h3⟩
theorem RepL.mono {G G' : Hp} (e : Ex G G') : ∀ (l : List D) {xs : List V}, RepL G l xs → RepL G' l xs
  | [], _, h => h
  | d :: l, xs, h => by
    obtain ⟨x, r, h1, h2, h3⟩ := (show ∃ x r, xs = x :: r ∧ Rep G d x ∧ RepL G l r from h)
    exact ⟨x, r, h1, Rep.mono e d h2, RepL.mono e l h3⟩
end
theorem Rep.up {G G' : Hp} {d : D} {v : V} (h : Rep G d v) (e : Ex G G') : Rep G' d v := Rep.mono e d h
theorem RepL.up {G G' : Hp} {l : List D} {xs : List V} (h : RepL G l xs) (e : Ex G G') : RepL G' l xs := RepL.mono e l h

theorem RepL.nil {G : Hp} : RepL G [] [] := rfl
theorem RepL.cons {G : Hp} {d : D} {l : List D} {x : V} {r : List V} (h : Rep G d x) (t : RepL G l r) : RepL G (d :: l) (x :: r) := ⟨x, r, rfl, h, t⟩
theorem RepL.len {G : Hp} : ∀ {l : List D} {xs : List V}, RepL G l xs → xs.length = l.length
  | [], xs, h => by rw [show xs = [] from h]; rfl
  | d :: l, xs, h => by
    obtain ⟨x, r, rfl, _, h3⟩ := (show ∃ x r, xs = x :: r ∧ Rep G d x ∧ RepL G l r from h)
    rw [List.length_cons, List.length_cons, RepL.len h3]
theorem RepL.get {G : Hp} : ∀ {l : List D} {xs : List V} {i : Nat} {x : V}, RepL G l xs → xs[i]? = some x → ∃ d, l[i]? = some d ∧ Rep G d x
  | [], xs, i, x, h, e => by rw [show xs = [] from h] at e; simp at e
  | d :: l, xs, i, x, h, e => by
    obtain ⟨y, r, rfl, h2, h3⟩ := (show ∃ x r, xs = x :: r ∧ Rep G d x ∧ RepL G l r from h)
    cases i with
    | zero => simp at e; subst e; exact ⟨d, by simp, h2⟩
    | succ i =>
      obtain ⟨d', q1, q2⟩ := RepL.get (i := i) h3 (by simpa using e)
      exact ⟨d', by simpa using q1, q2⟩
theorem RepL.at {G : Hp} {l : List D} {xs : List V} {i : Nat} {d : D} (h : RepL G l xs) (e : l[i]? = some d) : ∃ x, xs[i]? = some x ∧ Rep G d x := by
  have hl := h.len
  obtain ⟨hi, _⟩ := List.getElem?_eq_some_iff.mp e
  have hx : xs[i]? = some xs[i] := List.getElem?_eq_getElem (by omega)
  obtain ⟨d', e1, r⟩ := h.get hx
  rw [e] at e1; cases e1
  exact ⟨_, hx, r⟩
theorem RepL.app {G : Hp} : ∀ {l m : List D} {xs ys : List V}, RepL G l xs → RepL G m ys → RepL G (l ++ m) (xs ++ ys)
  | [], _, xs, _, h, t => by rw [show xs = [] from h]; exact t
  | d :: l, m, xs, ys, h, t => by
    obtain ⟨x, r, rfl, h2, h3⟩ := (show ∃ x r, xs = x :: r ∧ Rep G d x ∧ RepL G l r from h)
    exact ⟨x, r ++ ys, rfl, h2, h3.app t⟩
theorem RepL.snoc {G : Hp} {l : List D} {xs : List V} {d : D} {x : V} (h : RepL G l xs) (t : Rep G d x) : RepL G (l ++ [d]) (xs ++ [x]) := h.app (.cons t .nil)
theorem RepL.drop {G : Hp} : ∀ {l : List D} {xs : List V} (n : Nat), RepL G l xs → RepL G (l.drop n) (xs.drop n)
  | _, _, 0, h => h
  | [], xs, n + 1, h => by rw [show xs = [] from h]; exact RepL.nil
  | d :: l, xs, n + 1, h => by
    obtain ⟨x, r, rfl, h2, h3⟩ := (show ∃ x r, xs = x :: r ∧ Rep G d x ∧ RepL G l r from h)
    exact h3.drop n
theorem RepL.take {G : Hp} : ∀ {l : List D} {xs : List V} (n : Nat), RepL G l xs → RepL G (l.take n) (xs.take n)
  | _, _, 0, _ => RepL.nil
  | [], xs, n + 1, h => by rw [show xs = [] from h]; exact RepL.nil
  | d :: l, xs, n + 1, h => by
    obtain ⟨x, r, rfl, h2, h3⟩ := (show ∃ x r, xs = x :: r ∧ Rep G d x ∧ RepL G l r from h)
    exact .cons h2 (h3.take n)
theorem RepL.strs {G : Hp} : ∀ {l : List Str} {xs : List V}, RepL G (l.map D.str) xs → xs = l.map V.str
  | [], xs, h => h
  | z :: l, xs, h => by
    obtain ⟨x, r, rfl, h2, h3⟩ := (show ∃ x r, xs = x :: r ∧ Rep G (D.str z) x ∧ RepL G (l.map D.str) r from h)
    rw [show x = V.str z from h2, RepL.strs h3] <;> rfl
theorem RepL.of_strs {G : Hp} : ∀ (l : List Str), RepL G (l.map D.str) (l.map V.str)
  | [] => rfl
  | z :: l => .cons (show Rep G (D.str z) (V.str z) from rfl) (RepL.of_strs l)
theorem RepL.ints {G : Hp} : ∀ {l : List Int} {xs : List V}, RepL G (l.map D.int) xs → xs = l.map V.int
  | [], xs, h => h
  | z :: l, xs, h => by
    obtain ⟨x, r, rfl, h2, h3⟩ := (show ∃ x r, xs = x :: r ∧ Rep G (D.int z) x ∧ RepL G (l.map D.int) r from h)
    rw [show x = V.int z from h2, RepL.ints h3] <;> rfl
theorem RepL.of_ints {G : Hp} : ∀ (l : List Int), RepL G (l.map D.int) (l.map V.int)
  | [] => rfl
  | z :: l => .cons (show Rep G (D.int z) (V.int z) from rfl) (RepL.of_ints l)
theorem rep_tup {G : Hp} {a : Addr} {xs : List V} {l : List D} (h : G a = some (.tup xs)) (r : RepL G l xs) : Rep G (.tup l) (.ref a) := ⟨a, xs, rfl, h, r⟩
theorem rep_lst {G : Hp} {a : Addr} {xs : List V} {l : List D} (h : G a = some (.lst xs)) (r : RepL G l xs) : Rep G (.lst l) (.ref a) := ⟨a, xs, rfl, h, r⟩
theorem Rep.tup {G : Hp} {l : List D} {v : V} (h : Rep G (.tup l) v) : ∃ a xs, v = V.ref a ∧ G a = some (.tup xs) ∧ RepL G l xs := h
theorem Rep.lst {G : Hp} {l : List D} {v : V} (h : Rep G (.lst l) v) : ∃ a xs, v = V.ref a ∧ G a = some (.lst xs) ∧ RepL G l xs := h
theorem Rep.str {G : Hp} {x : Str} {v : V} (h : Rep G (.str x) v) : v = V.str x := h
theorem Rep.int {G : Hp} {x : Int} {v : V} (h : Rep G (.int x) v) : v = V.int x := h
/-- one, two, three items -/
theorem RepL.c1 {G : Hp} {d : D} {l : List D} {xs : List V} (h : RepL G (d :: l) xs) : ∃ x r, xs = x :: r ∧ Rep G d x ∧ RepL G l r := h
theorem RepL.n0 {G : Hp} {xs : List V} (h : RepL G [] xs) : xs = [] := h
theorem RepL.l1 {G : Hp} {d : D} {xs : List V} (h : RepL G [d] xs) : ∃ x, xs = [x] ∧ Rep G d x := by
  obtain ⟨x, r, rfl, h1, h2⟩ := h.c1
  rw [h2.n0]
  exact ⟨x, rfl, h1⟩
theorem RepL.l2 {G : Hp} {d e : D} {xs : List V} (h : RepL G [d, e] xs) : ∃ x y, xs = [x, y] ∧ Rep G d x ∧ Rep G e y := by
  obtain ⟨x, r, rfl, h1, h2⟩ := h.c1
  obtain ⟨y, rfl, h3⟩ := h2.l1
  exact ⟨x, y, rfl, h1, h3⟩
theorem RepL.l3 {G : Hp} {d e f : D} {xs : List V} (h : RepL G [d, e, f] xs) : ∃ x y z, xs = [x, y, z] ∧ Rep G d x ∧ Rep G e y ∧ Rep G f z := by
  obtain ⟨x, r, rfl, h1, h2⟩ := h.c1
  obtain ⟨y, z, rfl, h3, h4⟩ := h2.l2
  exact ⟨x, y, z, rfl, h1, h3, h4⟩

/-! ### heaps that grow -/
theorem Ex.new {H : Hp} {p : Addr} {o : HO} (h : H p = none) : Ex H (upd H p o) := fun a u e => by
  rw [upd_ne (ne_of_none e h)]; exact e
theorem Ex.wid {G H : Hp} {p : Addr} {o : HO} (e : Ex G H) (h : H p = none) : Ex G (upd H p o) := e.trans (Ex.new h)
/-- an object that G does not know may change -/
theorem Ex.mut {G H : Hp} {p : Addr} {o : HO} (e : Ex G H) (h : G p = none) : Ex G (upd H p o) := fun a u q => by
  rw [upd_ne (ne_of_none q h)]; exact e a u q
theorem Ex.both {G H : Hp} {p : Addr} {o : HO} (e : Ex G H) : Ex (upd G p o) (upd H p o) := fun a u q => by
  by_cases z : a = p
  · subst z; rw [upd_same] at q ⊢; exact q
  · rw [upd_ne z] at q ⊢; exact e a u q

/-- what a call leaves: W may change, the rest stays -/
structure Fr (W : Addr → Prop) (H H' : Hp) : Prop where
  fr : ∀ a o, ¬ W a → H a = some o → H' a = some o
  dm : ∀ a, H' a = none → H a = none
abbrev NoW : Addr → Prop := fun _ => False
theorem Fr.refl (W : Addr → Prop) (H : Hp) : Fr W H H := ⟨fun _ _ _ h => h, fun _ h => h⟩
theorem Fr.trans {W W' : Addr → Prop} {H H1 H2 : Hp} (a : Fr W H H1) (b : Fr W' H1 H2) (hw : ∀ a, W' a → W a ∨ H a = none := by first | exact fun _ h => False.elim h | exact fun _ h => Or.inl h) : Fr W H H2 :=
  ⟨fun x o n h => b.fr x o (fun w => (hw x w).elim n fun z => by rw [z] at h; cases h) (a.fr x o n h), fun x h => a.dm x (b.dm x h)⟩
theorem Fr.new {W : Addr → Prop} {H : Hp} {p : Addr} {o : HO} (h : H p = none) : Fr W H (upd H p o) :=
  ⟨fun a u _ e => by rw [upd_ne (ne_of_none e h)]; exact e, fun a q => by
    by_cases z : a = p
    · subst z; exact h
    · rw [upd_ne z] at q; exact q⟩
theorem Fr.up {W : Addr → Prop} {H H1 : Hp} {p : Addr} {o : HO} (a : Fr W H H1) (h : H1 p = none) : Fr W H (upd H1 p o) :=
  a.trans (Fr.new (W := NoW) h)
/-- a thing that is new, or may change, is changed -/
theorem Fr.mut {W : Addr → Prop} {H H1 : Hp} {p : Addr} {o u : HO} (a : Fr W H H1) (h : W p ∨ H p = none) (hu : H1 p = some u) : Fr W H (upd H1 p o) :=
  ⟨fun x q n e => by
    have z : x ≠ p := by
      rintro rfl
      rcases h with h | h
      · exact n h
      · rw [h] at e; cases e
    rw [upd_ne z]; exact a.fr x q n e, fun x q => by
    have z : x ≠ p := by rintro rfl; rw [upd_same] at q; cases q
    rw [upd_ne z] at q; exact a.dm x q⟩
theorem Fr.same {H H' : Hp} (h : Fr NoW H H') : Ex H H' := fun a o e => h.fr a o (fun z => z) e
theorem Fr.of_ex {H H' : Hp} (h : Ex H H') : Fr NoW H H' := ⟨fun a o _ e => h a o e, fun a q => h.free q⟩
theorem Fr.any {W : Addr → Prop} {H H' : Hp} (h : Fr NoW H H') : Fr W H H' := ⟨fun a o _ e => h.same a o e, h.dm⟩

structure Step (W : Addr → Prop) (G H G' H' : Hp) : Prop extends Fr W H H' where
  eg : Ex G G'
  gh : Ex G' H'
  nw : ∀ a o, H a = some o → G a = none → G' a = none
theorem Step.refl {W : Addr → Prop} {G H : Hp} (e : Ex G H) : Step W G H G H := ⟨Fr.refl W H, Ex.rfl' G, e, fun _ _ _ h => h⟩
theorem Step.trans {W W' : Addr → Prop} {G H G1 H1 G2 H2 : Hp} (a : Step W G H G1 H1) (b : Step W' G1 H1 G2 H2) (hw : ∀ a, W' a → W a ∨ H a = none := by first | exact fun _ h => False.elim h | exact fun _ h => Or.inl h) : Step W G H G2 H2 :=
  ⟨a.toFr.trans b.toFr hw, a.eg.trans b.eg, b.gh, fun x o h g => by
    have g1 := a.nw x o h g
    cases q : H1 x with
    | none => rw [a.dm x q] at h; cases h
    | some u => exact b.nw x u q g1⟩
theorem Step.newD {W : Addr → Prop} {G H G1 H1 : Hp} {p : Addr} {o : HO} (a : Step W G H G1 H1) (h : H1 p = none) : Step W G H (upd G1 p o) (upd H1 p o) :=
  ⟨a.toFr.up h, a.eg.trans (Ex.new (a.gh.free h)), a.gh.both, fun x u e g => by
    have z : x ≠ p := by rintro rfl; rw [a.dm _ h] at e; cases e
    rw [upd_ne z]; exact a.nw x u e g⟩
theorem Step.newM {W : Addr → Prop} {G H G1 H1 : Hp} {p : Addr} {o : HO} (a : Step W G H G1 H1) (h : H1 p = none) : Step W G H G1 (upd H1 p o) :=
  ⟨a.toFr.up h, a.eg, a.gh.wid h, a.nw⟩
theorem Step.mut {W : Addr → Prop} {G H G1 H1 : Hp} {p : Addr} {o u : HO} (a : Step W G H G1 H1) (h : W p ∨ H p = none) (g : G1 p = none) (hu : H1 p = some u) : Step W G H G1 (upd H1 p o) :=
  ⟨a.toFr.mut h hu, a.eg, a.gh.mut g, a.nw⟩
/-- a new thing is known from now on -/
theorem Step.frz {W : Addr → Prop} {G H G1 H1 : Hp} {p : Addr} {o : HO} (a : Step W G H G1 H1) (h : H p = none) (hu : H1 p = some o) (g : G1 p = none) : Step W G H (upd G1 p o) H1 :=
  ⟨a.toFr, a.eg.trans (Ex.new g), fun x q e => by
    by_cases z : x = p
    · subst z; rw [upd_same] at e; cases e; exact hu
    · rw [upd_ne z] at e; exact a.gh x q e, fun x u e gx => by
    have z : x ≠ p := by rintro rfl; rw [h] at e; cases e
    rw [upd_ne z]; exact a.nw x u e gx⟩
theorem Fr.step {W : Addr → Prop} {G H H' : Hp} (f : Fr W H H') (e : Ex G H) (hg : ∀ a, W a → G a = none := by exact fun _ h => False.elim h) : Step W G H G H' :=
  ⟨f, Ex.rfl' G, fun a o q => f.fr a o (fun w => by rw [hg a w] at q; cases q) (e a o q), fun _ _ _ g => g⟩
theorem Step.wide {W W' : Addr → Prop} {G H G' H' : Hp} (s : Step W G H G' H') (h : ∀ a, W a → W' a := by exact fun _ h => False.elim h) : Step W' G H G' H' :=
  ⟨⟨fun a o n e => s.fr a o (fun w => n (h a w)) e, s.dm⟩, s.eg, s.gh, s.nw⟩
/-- the mutable thing at f stands behind a step as before -/
theorem Step.held {W : Addr → Prop} {G H G' H' : Hp} (s : Step W G H G' H') {f : Addr} {o : HO} (h : H f = some o) (n : ¬ W f := by exact fun h => h) : H' f = some o := s.fr f o n h
theorem ne_fresh {H : Hp} {a b : Addr} {o : HO} (h : H a = some o) (g : H b = none) : b ≠ a := fun e => by rw [e, h] at g; cases g
end K4

/-! Rules that the layer lacks. -/
namespace K4
open PySem PySem.Spec PyProof.Rows L2

section
variable {X : Cx}
/-! ### count of flat things in a list, in a tuple -/
def cntV (x : V) (ys : List V) : Nat := ys.countP fun y => eqV y x
theorem countP_eqU {x : V} : ∀ {ys : List V} {us : List Value}, Vals ys us → ys.all flatV = true → us.countP (eqU x) = cntV x ys
  | _, _, .nil, _ => rfl
  | y :: ys, u :: us, .cons r t, f => by
    rw [List.all_cons, Bool.and_eq_true] at f
    have ih := countP_eqU (x := x) t f.2
    unfold cntV at ih ⊢
    rw [List.countP_cons, List.countP_cons, ih, eqU_of r f.1]
def rCntL (K : PySem.W.Frag) : V → List V → Hp → VK → Prop := fun v as H Q =>
  ∃ (p : Addr) (ys : List V) (x : V), v = .ref p ∧ as = [x] ∧ SqL K H p ys ∧ flatV x = true ∧ ys.all flatV = true ∧ Q (.int (cntV x ys : Nat)) H
def rCntT (K : PySem.W.Frag) : V → List V → Hp → VK → Prop := fun v as H Q =>
  ∃ (p : Addr) (ys : List V) (x : V), v = .ref p ∧ as = [x] ∧ SqT K H p ys ∧ flatV x = true ∧ ys.all flatV = true ∧ Q (.int (cntV x ys : Nat)) H
theorem mt_cntL : MtR X "list.count" (rCntL X.K) := by
  intro pins s σ H v as ov us Q J r1 rs h
  obtain ⟨p, ys, x, rfl, rfl, hq, fx, fy, q⟩ := h
  cases r1
  obtain ⟨u, rfl, ru⟩ := rs.one
  obtain ⟨its, rv, ⟨⟨c0, d0, dt, sl⟩, n, ho, hc, hn, hd⟩, _⟩ := J.list hq
  simp only at hc hd
  subst hc hd
  refine call_meets PySem.F.slot_list_count ⟨_, ho, rfl⟩ PySem.F.entry_list_count (PySem.F.args_list_count_2 _ _)
    (SeqAt.list_countAt p its.toArray n d0 sl u (eqU x)) ⟨ho, fun y hy => mem_eqAt ru fx rv fy y (by simpa using hy), ?_⟩
  refine ⟨.int (cntV x ys : Nat), H, J.tok _, ⟨s.toks, ?_⟩, q⟩
  rw [← countP_eqU rv fy] <;> rfl
theorem mt_cntT : MtR X "tuple.count" (rCntT X.K) := by
  intro pins s σ H v as ov us Q J r1 rs h
  obtain ⟨p, ys, x, rfl, rfl, hq, fx, fy, q⟩ := h
  cases r1
  obtain ⟨u, rfl, ru⟩ := rs.one
  obtain ⟨its, rv, ⟨⟨c0, d0, dt, sl⟩, ho, hc, n, hd⟩, _⟩ := J.tuple hq
  simp only at hc hd
  subst hc hd
  refine call_meets PySem.F.slot_tuple_count ⟨_, ho, rfl⟩ PySem.F.entry_tuple_count (PySem.F.args_tuple_count_2 _ _)
    (SeqAt.tuple_countAt p its.toArray n d0 sl u (eqU x)) ⟨ho, fun y hy => mem_eqAt ru fx rv fy y (by simpa using hy), ?_⟩
  refine ⟨.int (cntV x ys : Nat), H, J.tok _, ⟨s.toks, ?_⟩, q⟩
  rw [← countP_eqU rv fy] <;> rfl

/-! ### names of the module that are texts, numbers -/
theorem pk_str {x z : Str} {pos : Pos} (h : ∃ t, X.mg x = some (.str z t)) (hg : Gl X x := by rfl) (hd : (x == ("__debug__" : Str)) = false := by decide) : PE X (.Name x pos) (tC (.str z)) := by
  obtain ⟨t, e⟩ := h
  exact pe_glob hg e ⟨t, rfl⟩ hd
theorem pk_int {x : Str} {i : Int} {pos : Pos} (h : ∃ t, X.mg x = some (.int i t)) (hg : Gl X x := by rfl) (hd : (x == ("__debug__" : Str)) = false := by decide) : PE X (.Name x pos) (tC (.int i)) := by
  obtain ⟨t, e⟩ := h
  exact pe_glob hg e ⟨t, rfl⟩ hd
theorem pk_ref {x : Str} {a : Addr} {pos : Pos} (h : X.mg x = some (.ref a)) (hg : Gl X x := by rfl) (hd : (x == ("__debug__" : Str)) = false := by decide) : PE X (.Name x pos) (tC (.ref a)) := pe_glob hg h rfl hd
end

/-! ### defs as contracts -/
section
variable {P : Program} {w : World} {K : PySem.W.Frag} {mg : Str → Option Value} {base : Heap}
/-- a def of the top as the top has left it -/
structure Fn1 (K : PySem.W.Frag) (mg : Str → Option Value) (x : Str) (st : Stmt) (ps : List Str) : Prop where
  ex : ∃ f fd, mg x = some (.ref f) ∧ FunD K x x (defArgs st) (defBody st) (defScope st) [] [] f fd ∧ Binds K fd ps []
/-- a method of the class at C -/
structure Mt1 (K : PySem.W.Frag) (C : Addr) (m qual : Str) (st : Stmt) (ps : List Str) : Prop where
  ex : ∃ f fd, Meth K C m f ∧ FunD K m qual (defArgs st) (defBody st) (defScope st) [] [] f fd ∧ Binds K fd ps []
  cl : Cls K C
/-- the __init__ of the class at C -/
structure In1 (K : PySem.W.Frag) (C : Addr) (qual : Str) (st : Stmt) (ps : List Str) (ds : List Value) : Prop where
  ex : ∃ f fd dvs, Mk K C f ∧ FunD K "__init__" qual (defArgs st) (defBody st) (defScope st) dvs [] f fd ∧ Binds K fd ps ds

structure Cal (P : Program) (w : World) (K : PySem.W.Frag) (mg : Str → Option Value) (base : Heap) (k : Nat) (x : Str) (ps : List Str) (sp : Sp) : Prop where
  ex : ∃ f fd, mg x = some (.ref f) ∧ PySem.W.keepIn K (.ref f) = true ∧ Binds K fd ps [] ∧ FnOk P w K mg base CX0 k f fd ps sp
structure CalM (P : Program) (w : World) (K : PySem.W.Frag) (mg : Str → Option Value) (base : Heap) (k : Nat) (C : Addr) (m : Str) (ps : List Str) (sp : Sp) : Prop where
  ex : ∃ f fd, Meth K C m f ∧ Binds K fd ps [] ∧ FnOk P w K mg base CX0 k f fd ps sp
  cl : Cls K C
structure CalC (P : Program) (w : World) (K : PySem.W.Frag) (mg : Str → Option Value) (base : Heap) (k : Nat) (C : Addr) (ps : List Str) (ds : List Value) (sp : Sp) : Prop where
  ex : ∃ f fd, Mk K C f ∧ Binds K fd ps ds ∧ FnOk P w K mg base CX0 k f fd ps sp

theorem ok_of {x qual : Str} {st : Stmt} {dvs : List V} {f : Addr} {fd : FuncData} {N ps : List Str} {k : Nat} {sp : Sp} (F : FunD K x qual (defArgs st) (defBody st) (defScope st) dvs [] f fd) (S : FnScope N ps (defScope st))
    (len : ∀ vs H Q E, sp vs H Q E → vs.length = ps.length)
    (b : ∀ (cdv : Value) (A : Around) (outer : List Env) (s : Shared) (H : Hp) (vs : List V) (Q : VK) (E : XK), Room k (A.deeper (envOfC qual (defScope st) s.heap.objs.size f cdv)) → sp vs H Q E →
      ∃ t, PSs (cxOf CX0 P w K mg base N qual (defScope st) f cdv A outer s H E).nox (defBody st) t ∧ t { nx := fun _ H' => Q .non H', rt := Q } (start N vs) H) : FnOk P w K mg base CX0 (k + 1) f fd ps sp :=
  F.ok S len fun cdv A outer s H vs Q E hr h => by
    obtain ⟨t, h1, h2⟩ := b cdv A outer s H vs Q E hr h
    exact ⟨t, h1.nox, h2⟩
/-- what a body's proof is -/
abbrev Body (P : Program) (w : World) (K : PySem.W.Frag) (mg : Str → Option Value) (base : Heap) (k : Nat) (N ps : List Str) (qual : Str) (st : Stmt) (sp : Sp) : Prop :=
  ∀ (f : Addr) (cdv : Value) (A : Around) (outer : List Env) (s : Shared) (H : Hp) (vs : List V) (Q : VK) (E : XK), Room k (A.deeper (envOfC qual (defScope st) s.heap.objs.size f cdv)) → sp vs H Q E →
      ∃ t, PSs (cxOf CX0 P w K mg base N qual (defScope st) f cdv A outer s H E).nox (defBody st) t ∧ t { nx := fun _ H' => Q .non H', rt := Q } (start N vs) H
theorem Cal.of {x : Str} {st : Stmt} {N ps : List Str} {k : Nat} {sp : Sp} (F : Fn1 K mg x st ps) (S : FnScope N ps (defScope st)) (len : ∀ vs H Q E, sp vs H Q E → vs.length = ps.length) (b : Body P w K mg base k N ps x st sp) :
    Cal P w K mg base (k + 1) x ps sp := by
  obtain ⟨f, fd, h1, h2, h3⟩ := F.ex
  exact ⟨f, fd, h1, h2.kp, h3, ok_of h2 S len (b f)⟩
theorem CalM.of {C : Addr} {m qual : Str} {st : Stmt} {N ps : List Str} {k : Nat} {sp : Sp} (F : Mt1 K C m qual st ps) (S : FnScope N ps (defScope st)) (len : ∀ vs H Q E, sp vs H Q E → vs.length = ps.length) (b : Body P w K mg base k N ps qual st sp) :
    CalM P w K mg base (k + 1) C m ps sp := by
  obtain ⟨f, fd, h1, h2, h3⟩ := F.ex
  exact ⟨⟨f, fd, h1, h3, ok_of h2 S len (b f)⟩, F.cl⟩
theorem CalC.of {C : Addr} {qual : Str} {st : Stmt} {N ps : List Str} {ds : List Value} {k : Nat} {sp : Sp} (F : In1 K C qual st ps ds) (S : FnScope N ps (defScope st)) (len : ∀ vs H Q E, sp vs H Q E → vs.length = ps.length) (b : Body P w K mg base k N ps qual st sp) :
    CalC P w K mg base (k + 1) C ps ds sp := by
  obtain ⟨f, fd, dvs, h1, h2, h3⟩ := F.ex
  exact ⟨f, fd, h1, h3, ok_of h2 S len (b f)⟩
theorem Cal.up {x : Str} {ps : List Str} {j k : Nat} {sp : Sp} (c : Cal P w K mg base j x ps sp) (h : j ≤ k) : Cal P w K mg base k x ps sp := by
  obtain ⟨f, fd, h1, h2, h3, h4⟩ := c.ex
  exact ⟨f, fd, h1, h2, h3, h4.mono h⟩
theorem CalM.up {C : Addr} {x : Str} {ps : List Str} {j k : Nat} {sp : Sp} (c : CalM P w K mg base j C x ps sp) (h : j ≤ k) : CalM P w K mg base k C x ps sp := by
  obtain ⟨f, fd, h1, h2, h3⟩ := c.ex
  exact ⟨⟨f, fd, h1, h2, h3.mono h⟩, c.cl⟩
theorem Cal.imp {x : Str} {ps : List Str} {k : Nat} {sp sp' : Sp} (c : Cal P w K mg base k x ps sp) (h : ∀ vs H Q E, sp' vs H Q E → sp vs H Q E) : Cal P w K mg base k x ps sp' := by
  obtain ⟨f, fd, h1, h2, h3, h4⟩ := c.ex
  exact ⟨f, fd, h1, h2, h3, h4.imp h⟩
theorem CalM.imp {C : Addr} {x : Str} {ps : List Str} {k : Nat} {sp sp' : Sp} (c : CalM P w K mg base k C x ps sp) (h : ∀ vs H Q E, sp' vs H Q E → sp vs H Q E) : CalM P w K mg base k C x ps sp' := by
  obtain ⟨f, fd, h1, h2, h3⟩ := c.ex
  exact ⟨⟨f, fd, h1, h2, h3.imp h⟩, c.cl⟩
end

section
variable {X : Cx} {k : Nat} {x m : Str} {ps : List Str} {sp : Sp} {e o : Expr} {es : List Expr} {t : TA} {ta : TE} {p pos apos : Pos} {C : Addr}
theorem pc (c : Cal X.prog X.w X.K X.mg X.base k x ps sp) (hr : Room k X.A) (ha : PA X (e :: es) t) (hg : Gl X x := by rfl) (hdb : (x == ("__debug__" : Str)) = false := by decide)
    (he : starEach (e :: es) X.env = (false, eval e X.env) :: starEach es X.env := by rfl) (hpl : (backTo pos (starEach es X.env)).any (·.1) = false := by rfl) : PE X (.Call (.Name x p) (e :: es) [] pos) (tCall sp [] E0 t) := by
  obtain ⟨f, fd, h1, h2, h3, h4⟩ := c.ex
  exact pe_call h4 hr hg h1 h2 h3 .nil pass0 ha hdb he hpl
theorem cm {pl : Sem Bool} (c : CalM X.prog X.w X.K X.mg X.base k C m ps sp) (hr : Room k X.A) (ho : PE X o ta) (ha : PA X (e :: es) t)
    (hst : starEach (e :: es) X.env = (false, eval e X.env) :: starEach es X.env := by rfl) (hpl : (backTo pos (starEach es X.env)).any (·.1) = false := by rfl)
    (ht : eval (.Call (.Attribute o m apos) (e :: es) [] pos) X.env = (do
      let ov ← eval o X.env
      standAt apos.atName
      let (f, first) ← holding [ov] (getMethod ov m pl)
      callWith pos f first (backTo pos (starEach (e :: es) X.env)) (backToKw pos (keywordEach [] X.env))) := by rfl) :
    PE X (.Call (.Attribute o m apos) (e :: es) [] pos) (tMeth C m sp [] E0 ta t) := by
  obtain ⟨f, fd, h1, h2, h3⟩ := c.ex
  exact pe_meth ho c.cl h1 h3 hr h2 .nil pass0 ha hst hpl ht
theorem cm0 {pl : Sem Bool} (c : CalM X.prog X.w X.K X.mg X.base k C m ps sp) (hr : Room k X.A) (ho : PE X o ta)
    (ht : eval (.Call (.Attribute o m apos) [] [] pos) X.env = (do
      let ov ← eval o X.env
      standAt apos.atName
      let (f, first) ← holding [ov] (getMethod ov m pl)
      callWith pos f first (backTo pos (starEach [] X.env)) (backToKw pos (keywordEach [] X.env))) := by rfl) :
    PE X (.Call (.Attribute o m apos) [] [] pos) (tMeth C m sp [] E0 ta tNil) := by
  obtain ⟨f, fd, h1, h2, h3⟩ := c.ex
  exact pe_meth0 ho c.cl h1 h3 hr h2 .nil pass0 ht
/-- o.m() where the class of o is one of a family -/
def tMethV (fam : Addr → Prop) (m : Str) (spC : Addr → Sp) (ta : TE) : TE := fun σ H Q => ta σ H fun v H1 => ∃ a C dx fs, v = .ref a ∧ H1 a = some (.ins C dx fs) ∧ fam C ∧ fs.lookup m = none ∧ spC C [v] H1 Q E0
theorem cmV0 {pl : Sem Bool} {fam : Addr → Prop} {spC : Addr → Sp} (c : ∀ C, fam C → CalM X.prog X.w X.K X.mg X.base k C m ps (spC C)) (hr : Room k X.A) (ho : PE X o ta)
    (ht : eval (.Call (.Attribute o m apos) [] [] pos) X.env = (do
      let ov ← eval o X.env
      standAt apos.atName
      let (f, first) ← holding [ov] (getMethod ov m pl)
      callWith pos f first (backTo pos (starEach [] X.env)) (backToKw pos (keywordEach [] X.env))) := by rfl) :
    PE X (.Call (.Attribute o m apos) [] [] pos) (tMethV fam m spC ta) := by
  refine ⟨fun pn s σ H Q J h => PySem.W.methodCall_KW (pl := pl) (thn (ho.run pn s σ H _ J h) fun u s1 ⟨v, H1, J1, rv, a, C, dx, fs, ev, ea, hC, l, q⟩ => ?_) ht⟩
  subst ev
  obtain rfl : u = Value.ref a := rv
  obtain ⟨f, fd, h1, h2, h3⟩ := (c C hC).ex
  refine getmeth_ok J1 ea (c C hC).cl h1 l ?_
  exact PySem.W.callWith_K0 (first := [.ref a]) J1.kIn h1.kp (run_fn (us := [.ref a]) (vs := [.ref a]) h3 hr h2 .nil pass0 J1 (.cons rfl .nil) q)
/-- C(e, ..), the parameters all given -/
theorem pcc {ds : List Value} {dvs : List V} (c : CalC X.prog X.w X.K X.mg X.base k C ps ds sp) (hr : Room (k + 1) X.A) (hm : X.mg x = some (.ref C)) (hv : Vals dvs ds) (ha : PA X (e :: es) t) (hg : Gl X x := by rfl) (hdb : (x == ("__debug__" : Str)) = false := by decide)
    (he : starEach (e :: es) X.env = (false, eval e X.env) :: starEach es X.env := by rfl) (hpl : (backTo pos (starEach es X.env)).any (·.1) = false := by rfl) : PE X (.Call (.Name x p) (e :: es) [] pos) (tMake C sp dvs E0 t) := by
  obtain ⟨f, fd, h1, h2, h3⟩ := c.ex
  exact pe_make h1 h3 hr hg hm h2 hv pass0 ha hdb he hpl
/-- C() of a class that has object's __init__ -/
structure Mk0 (K : PySem.W.Frag) (C : Addr) : Prop where
  makes : PySem.W.makesIn K C = true
  init : PySem.W.findIn K (.ref C) "__init__" = some (some (.builtin "object.__init__"))
  kp : PySem.W.keepIn K (.ref C) = true
def tMake0 (C : Addr) : TE := fun _ H Q => ∀ a dx, H a = none → H dx = none → dx ≠ a → Q (.ref a) (upd (upd H dx (.own a)) a (.ins C dx []))
theorem pcc0 (M : Mk0 X.K C) (hm : X.mg x = some (.ref C)) (hg : Gl X x := by rfl) (hdb : (x == ("__debug__" : Str)) = false := by decide) : PE X (.Call (.Name x p) [] [] pos) (tMake0 C) := by
  refine ⟨fun pn s σ H Q J h => wpAny_Call_Name_kw (ld_glob J hg hm (PySem.W.callWith_K0 J.kIn M.kp (wpAny_call ?_)) hdb)⟩
  have J2 := Inv.made (C := C) J
  have q := h (s.heap.objs.size + 1) s.heap.objs.size (J.hok.fresh (Nat.le_succ _)) (J.hok.fresh (Nat.le_refl _)) (Nat.ne_of_lt (Nat.lt_succ_self _))
  refine make_map0 J.kIn M.makes M.init (fun self => PySem.W.Looks.of_pure (PySem.W.oi_bind self)) ?_
  have top := (PySem.W.makes_of (M := model X.prog X.w) J2.kIn M.makes).top
  have gi : ((s.heap.push PySem.W.emptyDict).push (PySem.W.instObj C s.heap.objs.size)).get? (s.heap.objs.size + 1) = some (PySem.W.instObj C s.heap.objs.size) := by
    have z := Heap.get?_push_size (s.heap.push PySem.W.emptyDict) (o := PySem.W.instObj C s.heap.objs.size) rfl
    rwa [Heap.size_push] at z
  have t2 : PySem.W.Looks (model X.prog X.w) ((s.heap.push PySem.W.emptyDict).push (PySem.W.instObj C s.heap.objs.size)) (isInstance (.ref (s.heap.objs.size + 1)) (.type "object")) true :=
    ((PySem.W.Looks.ld gi).andThen .now).andThen top
  refine codeAny_call_builtin PySem.W.oi_plain PySem.W.entry_oi (@PySem.W.check_slot (model X.prog X.w) _ _ _ "object.__init__" "object" "__init__" (.ref (s.heap.objs.size + 1)) [] [] _ PySem.W.oi_kind PySem.W.oi_split t2 (PySem.W.oi_args (.ref (s.heap.objs.size + 1))) ?_)
  rw [PySem.W.oi_run]
  exact wpAny_pure ⟨rfl, .ref (s.heap.objs.size + 1), _, J2, rfl, q⟩
/-- C.m as a contract -/
structure Cf1 (K : PySem.W.Frag) (C : Addr) (m qual : Str) (st : Stmt) (ps : List Str) : Prop where
  ex : ∃ f fd, ClX.CRead K C (.type "type") ∧ ClX.CVal K C (.type "type") m (.ref f) (.ref f) ∧ FunD K m qual (defArgs st) (defBody st) (defScope st) [] [] f fd ∧ Binds K fd ps []
/-- C.m(e, ..): a def read off its class -/
structure CFn (K : PySem.W.Frag) (C : Addr) (m : Str) (f : Addr) : Prop where
  rd : ClX.CRead K C (.type "type")
  val : ClX.CVal K C (.type "type") m (.ref f) (.ref f)
  kp : PySem.W.keepIn K (.ref f) = true
structure CalF (P : Program) (w : World) (K : PySem.W.Frag) (mg : Str → Option Value) (base : Heap) (k : Nat) (C : Addr) (m : Str) (ps : List Str) (sp : Sp) : Prop where
  ex : ∃ f fd, CFn K C m f ∧ Binds K fd ps [] ∧ FnOk P w K mg base CX0 k f fd ps sp
theorem CalF.of {P : Program} {w : World} {K : PySem.W.Frag} {mg : Str → Option Value} {base : Heap} {C : Addr} {m qual : Str} {st : Stmt} {N ps : List Str} {k : Nat} {sp : Sp} (F : Cf1 K C m qual st ps) (S : FnScope N ps (defScope st)) (len : ∀ vs H Q E, sp vs H Q E → vs.length = ps.length)
    (b : Body P w K mg base k N ps qual st sp) : CalF P w K mg base (k + 1) C m ps sp := by
  obtain ⟨f, fd, h1, h2, h3, h4⟩ := F.ex
  exact ⟨f, fd, ⟨h1, h2, h3.kp⟩, h4, ok_of h3 S len (b f)⟩
theorem pcf {cn : Str} {pl : Sem Bool} {cpos : Pos} (cf : CalF X.prog X.w X.K X.mg X.base k C m ps sp) (hm : X.mg cn = some (.ref C)) (hr : Room k X.A) (ha : PA X (e :: es) t)
    (hg : Gl X cn := by rfl) (hdb : (cn == ("__debug__" : Str)) = false := by decide)
    (hst : starEach (e :: es) X.env = (false, eval e X.env) :: starEach es X.env := by rfl) (hpl : (backTo pos (starEach es X.env)).any (·.1) = false := by rfl)
    (ht : eval (.Call (.Attribute (.Name cn cpos) m apos) (e :: es) [] pos) X.env = (do
      let ov ← eval (.Name cn cpos) X.env
      standAt apos.atName
      let (f, first) ← holding [ov] (getMethod ov m pl)
      callWith pos f first (backTo pos (starEach (e :: es) X.env)) (backToKw pos (keywordEach [] X.env))) := by rfl) :
    PE X (.Call (.Attribute (.Name cn cpos) m apos) (e :: es) [] pos) (tCall sp [] E0 t) := by
  obtain ⟨f, fd, c, hb, F⟩ := cf.ex
  refine ⟨fun pn s σ H Q J h => PySem.W.methodCall_KW (pl := pl) (ld_glob J hg hm ?_ hdb) ht⟩
  refine PySem.W.method_cls J.kIn c.rd.ga (ClX.getcval_ok J c.rd c.val fun s2 J2 => ?_)
  refine PySem.W.callWith_K (first := []) (h₀ := X.base) J2.ok.mod.kin c.kp (thn (ha.run pos pn s2 σ H _ J2 h) fun us s3 ⟨vs, H2, J3, r, q2⟩ => ⟨J3.kIn, ?_⟩) hst hpl
  exact run_fn F hr hb .nil pass0 J3 r q2
theorem hu64 {A : Around} (hr : Room k A) : A.units + 64 < cLine := hr.units
theorem hu65 {A : Around} (hr : Room k A) : A.units + 65 < cLine := by have := hr.un; omega
end
end K4

/-! Walks that the layer lacks: enumerate of a tuple, zip of a list and a tuple. -/
namespace K4
open PySem PySem.Spec PyProof.Rows L2

theorem enum_new_tup (l : Addr) (items : Array Value) :
    Meets (Builtin.«enumerate.__new__» ⟨[.type "enumerate", .ref l], []⟩) (fun _ R s => s.heap.IsTuple l items ∧
      R (.ok (.ret (.ref (s.heap.push { cls := .type "tuple_iterator", data := .fields #[.ref l, .int 0 0] }).objs.size)))
        { s with heap := (s.heap.push { cls := .type "tuple_iterator", data := .fields #[.ref l, .int 0 0] }).push { cls := .type "enumerate", data := .fields #[.none, .bool false, .ref s.heap.objs.size, rawInt 0, .none, .none] } }) :=
  .of_wp fun prog w A R s hyp => by
    obtain ⟨hp, gs, dr, tk, os⟩ := s
    obtain ⟨hT, fin⟩ := hyp
    have esub := sub_enumerate
    have itq : ∀ {A' : Around} {E : Value → Shared → Prop} {Q : Value → Shared → Prop}, Q (.ref hp.objs.size) ⟨hp.push { cls := .type "tuple_iterator", data := .fields #[.ref l, .int 0 0] }, gs, dr, tk, os⟩ →
        wpAny (model prog w) A' (pyIter (.ref l)) Q E ⟨hp, gs, dr, tk, os⟩ := fun q => (begins_tuple l items).iter prog w _ _ ⟨hp, gs, dr, tk, os⟩ _ hT q
    wp_walk using itq
    refine wpAny_stack_any fun st => wpAny_pure ?_
    split
    · rename_i c _ _ _ _ _
      cases (c == Value.type "enumerate")
      · wp_walk using itq
        exact ⟨_, rfl, fin⟩
      · wp_walk using itq
        exact ⟨_, rfl, fin⟩
    · wp_walk using itq
      exact ⟨_, rfl, fin⟩
theorem call_enum_tup {prog : Program} {w : World} {A : Around} {E : Value → Shared → Prop} {s : Shared} {l : Addr} {items : Array Value} {Q : Value → Shared → Prop} (hT : s.heap.IsTuple l items)
    (fin : ∀ h', IsEnum h' (s.heap.objs.size + 1) s.heap.objs.size 0 .none → h'.IsTupleIter s.heap.objs.size l 0 → (∀ b o, s.heap.get? b = some o → h'.get? b = some o) → Q (.ref (s.heap.objs.size + 1)) { s with heap := h' }) :
    wpAny (model prog w) A (call (.type "enumerate") [.ref l]) Q E s := by
  refine callType_new F.called_enumerate (by decide) (F.typeCall_enumerate_1 _) (F.newCall_enumerate_1 _) (fun obj => F.args_object_init_2 obj _) F.entry_enumerate_new (enum_new_tup l items) ⟨hT, ?_⟩
  have z1 : (s.heap.push { cls := .type "tuple_iterator", data := .fields #[.ref l, .int 0 0] }).objs.size = s.heap.objs.size + 1 := Heap.size_push ..
  show _ ∧ _
  rw [z1]
  have ge : IsEnum ((s.heap.push { cls := .type "tuple_iterator", data := .fields #[.ref l, .int 0 0] }).push { cls := .type "enumerate", data := .fields #[.none, .bool false, .ref s.heap.objs.size, rawInt 0, .none, .none] }) (s.heap.objs.size + 1) s.heap.objs.size 0 .none := by
    have q := Heap.get?_push_size (s.heap.push { cls := .type "tuple_iterator", data := .fields #[.ref l, .int 0 0] }) (o := { cls := .type "enumerate", data := .fields #[.none, .bool false, .ref s.heap.objs.size, rawInt 0, .none, .none] }) rfl
    rw [z1] at q
    exact q
  exact ⟨⟨_, ge, rfl⟩, fin _ ge ⟨_, Heap.get?_push_of_some _ (Heap.get?_push_size _ rfl), rfl, rfl⟩ fun b o q => Heap.get?_push_of_some _ (Heap.get?_push_of_some _ q)⟩

/-- the tuple at a, each item in a new pair with its place -/
def Iten (K : PySem.W.Frag) (a : Addr) : It :=
  ⟨fun i H => ∃ (xs : List V) (x : V), SqT K H a xs ∧ xs[i]? = some x, fun i H v H' => ∃ T x, v = .ref T ∧ H T = none ∧ H' = upd H T (.tup [.int (i : Nat), x]) ∧ ∀ xs, SqT K H a xs → xs[i]? = some x, fun i H => ∃ xs : List V, SqT K H a xs ∧ xs.length ≤ i⟩
theorem turn_enumT {P : Program} {w : World} {K : PySem.W.Frag} {elts : List Expr} {kk : Nat} {tpos : Pos} (a e it : Addr) :
    Turn P w K (.Tuple elts kk tpos) (Iten K a) [e, it] e (fun i h => (∃ old, IsEnum h e it ((i : Nat) : Int) old) ∧ h.IsTupleIter it a i ∧ e ≠ it) where
  mem := by simp
  obj := by
    rintro i h ⟨⟨old, he⟩, ⟨o, ho, hc, hd⟩, _⟩ b hb
    rcases (show b = e ∨ b = it by simpa using hb) with z | z
    · exact ⟨_, by rw [z]; exact he, fun v q => by cases q⟩
    · exact ⟨o, by rw [z]; exact ho, fun v q => by rw [hd] at q; cases q⟩
  keep := by
    rintro i h h' ⟨⟨old, he⟩, hi, hne⟩ k
    exact ⟨⟨old, k e (by simp) _ he⟩, hi.at fun o q => k it (by simp) o q, hne⟩
  item := by
    intro X hP hw hK hc i pins s σ H E J hf st hg
    subst hP hw hK
    obtain ⟨⟨old, he⟩, hit, hne⟩ := st
    obtain ⟨xs, x, hq, hx⟩ := hg
    obtain ⟨its, rv, pt, _⟩ := J.tuple hq
    obtain ⟨u, hu, ru⟩ := rv.get hx
    have le : e < s.heap.objs.size := Heap.lt_size he
    have li : it < s.heap.objs.size := by obtain ⟨_, q, _⟩ := id hit; exact Heap.lt_size q
    have la : a < s.heap.objs.size := pt.lt
    have nai : a ≠ it := fun z => by
      have q := (hf it (by simp)).1
      rcases hq with hq | ⟨ob, its2, n2, hk, _⟩
      · rw [z] at hq
        rcases hq with hq | ⟨_, hq⟩ <;> (rw [q] at hq; cases hq)
      · have q2 := (J.kIn a ob hk)
        rw [z] at q2
        obtain ⟨o3, q3, c3, d3⟩ := id hit
        obtain ⟨o4, q4, c4, _⟩ := id pt
        rw [z, q3] at q4
        cases q4
        rw [c3] at c4
        simp at c4
    have nea : e ∉ [it, a] := fun z => by
      rcases (show e = it ∨ e = a by simpa using z) with z | z
      · exact hne z
      · obtain ⟨o4, q4, c4, _⟩ := id pt
        rw [← z, he] at q4
        cases q4
        simp at c4
    have D := PySem.Draws.tuple (prog := X.prog) (w := X.w) (A := X.A.in1) (by simpa using J.ok.hd hc) it a nai its.toArray
    refine wpAny_pyNext_enum_itemD D he ⟨hit, (show s.heap.IsTuple a its.toArray from pt)⟩ (by have := (List.getElem?_eq_some_iff.mp hu).1; simpa using this) hne nea fun u' h' tk hu' ho hst' hT hsz hk => ?_
    have eu : u' = u := by
      have q : its.toArray[i]? = some u := by simpa using hu
      rw [q] at hu'
      exact (Option.some.inj hu').symm
    subst eu
    refine ⟨_, rfl, wpAny_letOwnedTupleGo_enum (s := { s with heap := h', toks := tk + 1 }) ho fun h2 he2 sb => ?_⟩
    have gT : h2.get? s.heap.objs.size = some { cls := .type "tuple", data := .seq #[.int i tk, u'] } := (sb.2 _ (Nat.ne_of_gt le)).trans hT
    have isnew : ObjOk X.prog X.w (upd H s.heap.objs.size (.tup [.int (i : Nat), x])) h2 s.heap.objs.size (.tup [.int (i : Nat), x]) :=
      ⟨(show 2 ≤ sizeLine by decide), [.int i tk, u'], .cons ⟨_, rfl⟩ (.cons ru .nil), ⟨_, gT, rfl, _, rfl⟩⟩
    have J1 : Inv X pins σ (upd H s.heap.objs.size (.tup [.int (i : Nat), x])) { s with heap := h2, toks := tk + 1 } :=
      J.turnedNew (ch := [e, it]) (fun b ob hb q => by
        have n1 : b ≠ e := fun z => hb (by simp [z])
        have n2 : b ≠ it := fun z => hb (by simp [z])
        exact (sb.2 b n1).trans (hk b ob n1 n2 q)) hf (Nat.le_refl _) isnew
    refine ⟨.ref s.heap.objs.size, _, J1, rfl, ⟨_, x, rfl, J.hok.fresh (Nat.le_refl _), rfl, fun ys hy => by rw [J.tuple_inj hy hq]; exact hx⟩, ⟨⟨u', ?_⟩, hst'.1.at fun o q => (sb.2 it (Ne.symm hne)).trans q, hne⟩, fun b hb => ?_⟩
    · rw [show ((i + 1 : Nat) : Int) = (i : Int) + 1 by omega]
      exact he2
    · have lb : b < s.heap.objs.size := by
        rcases (show b = e ∨ b = it by simpa using hb) with z | z
        · rw [z]; exact le
        · rw [z]; exact li
      rw [upd_ne (Nat.ne_of_lt lb)]
      exact (hf b hb).1
  done := by
    intro X hP hw hK hc i pins s σ H E J hf st hg
    subst hP hw hK
    obtain ⟨⟨old, he⟩, hit, hne⟩ := st
    obtain ⟨xs, hq, hx⟩ := hg
    obtain ⟨its, rv, pt, _⟩ := J.tuple hq
    obtain ⟨f0, f1, f2, f3, f4, f5⟩ := hf it (by simp)
    have hl := rv.length
    -- the tuple is walked to its end: an iterator whose place lies behind it
    have hT : s.TypeIs (.ref e) "enumerate" := ⟨_, he, rfl⟩
    unfold pyNext
    refine wpAny_bind (wpAny_attempt (wpAny_callSpecial?_slot (name := Str.ofString "__next__") hT F.slot_enumerate_next
      (wpAny_call_entry F.slot_enumerate_next hT F.entry_enumerate_next ?_ (F.args_enumerate_next_1 _))))
    show wpAny _ _ (field (.ref e) 2 >>= _) _ _ _
    refine wpAny_bind (wpAny_field he rfl (x := .ref it) rfl ?_)
    refine wpAny_bind (wpAny_nextOf_tuple_end (by simpa using J.ok.hd hc) hit (show s.heap.IsTuple a its.toArray from pt) (by simp; omega) fun h' x he' hx' => ?_)
    obtain ⟨ob, hob, hcb⟩ := hx'
    refine wpAny_bind (wpAny_isInstance (T := "StopIteration") (b := true) ⟨ob, hob, hcb⟩ isSubtype_stop ?_)
    exact wpAny_pure ⟨rfl, J.turned (t' := s.toks) (fun b o hb q => he' b o hb q) f0 f1 f3 f4 f5⟩
  self := fun A i s Q E st h => by
    obtain ⟨⟨_, he⟩, _⟩ := st
    exact wpAny_pyIter_enum he h
def iEnumT (K : PySem.W.Frag) (ta : TA) : TI := fun σ H R => ta σ H fun vs H1 => ∃ a xs, vs = [.ref a] ∧ SqT K H1 a xs ∧ R (Iten K a) H1
theorem pi_enumT {X : Cx} {e : Expr} {ta : TA} {p pos tpos : Pos} {elts : List Expr} {kk : Nat} (hg : Gl X "enumerate") (hm : X.mg "enumerate" = none) (ha : PA X [e] ta) (hs : starEach [e] X.env = [(false, eval e X.env)] := by rfl) :
    PI X (.Tuple elts kk tpos) (.Call (.Name "enumerate" p) [e] [] pos) (iEnumT X.K ta) := by
  refine ⟨fun pn s σ H R J h => Call_ (ld_blt J hg hm boot_enumerate (PyProof.Rows.callWith_type1 (thn (ha.run pos pn s σ H _ J h) fun us s1 ⟨vs, H1, J1, r1, a, xs, ev, hq, q⟩ => ?_) hs rfl))⟩
  subst ev
  obtain ⟨u, rfl, ru⟩ := vals1 r1
  cases ru
  obtain ⟨its, rv, pt, _⟩ := J1.tuple hq
  refine call_enum_tup (items := its.toArray) (show s1.heap.IsTuple a its.toArray from pt) fun h' he hit hk => wpAny_pyIter_enum he ?_
  have J2 : Inv X pn σ H1 { s1 with heap := h' } := J1.kept (t' := s1.toks) hk
  refine ⟨s1.heap.objs.size + 1, [s1.heap.objs.size + 1, s1.heap.objs.size], _, _, H1, rfl, J2, turn_enumT a (s1.heap.objs.size + 1) s1.heap.objs.size, ⟨⟨.none, he⟩, hit, Nat.succ_ne_self _⟩, fun b hb => ?_, q⟩
  have hle : s1.heap.objs.size ≤ b := by
    rcases (show b = s1.heap.objs.size + 1 ∨ b = s1.heap.objs.size by simpa using hb) with z | z
    · rw [z]; exact Nat.le_succ _
    · rw [z]; exact Nat.le_refl _
  exact J1.fpOk hle (J1.hok.fresh hle)
theorem walk_enumT {K : PySem.W.Frag} {a : Addr} {xs : List V} : Walk (Iten K a) xs.length (fun H => SqT K H a xs) (fun i H v H' => ∃ T x, v = .ref T ∧ H T = none ∧ H' = upd H T (.tup [.int (i : Nat), x]) ∧ xs[i]? = some x) := by
  refine ⟨fun i H hi g => ⟨xs, xs[i], g, by simp [hi]⟩, fun H g => ⟨xs, g, Nat.le_refl _⟩, fun i H v H' _ g y => ?_⟩
  obtain ⟨T, x, e1, e2, e3, e4⟩ := y
  exact ⟨T, x, e1, e2, e3, e4 xs g⟩

/-! ### zip of a list and a tuple -/
/-- the list at a, the tuple at b: their items in new pairs -/
def Itzm (K : PySem.W.Frag) (a b : Addr) : It :=
  ⟨fun i H => ∃ (xs ys : List V) (x y : V), SqL K H a xs ∧ SqT K H b ys ∧ xs[i]? = some x ∧ ys[i]? = some y,
   fun i H v H' => ∃ T x y, v = .ref T ∧ H T = none ∧ H' = upd H T (.tup [x, y]) ∧ (∀ xs, SqL K H a xs → xs[i]? = some x) ∧ ∀ ys, SqT K H b ys → ys[i]? = some y,
   fun i H => ∃ xs ys : List V, SqL K H a xs ∧ SqT K H b ys ∧ i = xs.length ∧ xs.length ≤ ys.length⟩
theorem cls_apart {h : Heap} {a b : Addr} {o u : Obj} (e : h.get? a = some o) (q : h.get? b = some u) (n : o.cls ≠ u.cls) : a ≠ b := by
  rintro rfl
  rw [e] at q
  cases q
  exact n rfl
theorem turn_zipM {P : Program} {w : World} {K : PySem.W.Frag} {elts : List Expr} {kk : Nat} {tpos : Pos} {a b z TI TO i1 i2 : Addr} (S : ZipSep2 z TI TO i1 i2 [i1, a] [i2, b]) :
    Turn P w K (.Tuple elts kk tpos) (Itzm K a b) [z, TI, TO, i1, i2] z (fun i h => IsZip h z TI TO .none ∧ IsTupOf2 h TI (.ref i1) (.ref i2) ∧ (∃ x y, IsTupOf2 h TO x y) ∧ h.IsListIter i1 a i ∧ h.IsTupleIter i2 b i) where
  mem := by simp
  obj := by
    rintro i h ⟨hz, hTI, ⟨x, y, hTO⟩, ⟨o1, e1, _, d1⟩, ⟨o2, e2, _, d2⟩⟩ c hc
    rcases (show c = z ∨ c = TI ∨ c = TO ∨ c = i1 ∨ c = i2 by simpa using hc) with q | q | q | q | q <;> rw [q]
    · exact ⟨_, hz, fun v r => by cases r⟩
    · exact ⟨_, hTI, fun v r => by cases r⟩
    · exact ⟨_, hTO, fun v r => by cases r⟩
    · exact ⟨o1, e1, fun v r => by rw [d1] at r; cases r⟩
    · exact ⟨o2, e2, fun v r => by rw [d2] at r; cases r⟩
  keep := by
    rintro i h h' ⟨hz, hTI, ⟨x, y, hTO⟩, h1, h2⟩ k
    exact ⟨k z (by simp) _ hz, k TI (by simp) _ hTI, ⟨x, y, k TO (by simp) _ hTO⟩, h1.at fun o q => k i1 (by simp) o q, h2.at fun o q => k i2 (by simp) o q⟩
  item := by
    intro X hP hw hK hc i pins s σ H E J hf st hg
    subst hP hw hK
    obtain ⟨hz, hTI, ⟨x0, y0, hTO⟩, h1, h2⟩ := st
    obtain ⟨xs, ys, x, y, hqx, hqy, hx, hy⟩ := hg
    obtain ⟨its, rv, p1, _⟩ := J.list hqx
    obtain ⟨its2, rv2, p2, _⟩ := J.tuple hqy
    obtain ⟨u, hu, ru⟩ := rv.get hx
    obtain ⟨u2, hu2, ru2⟩ := rv2.get hy
    have lz : z < s.heap.objs.size := Heap.lt_size hz
    have n1 : a ≠ i1 := by
      obtain ⟨o1, e1, c1, _⟩ := id h1
      obtain ⟨o2, e2, c2, _⟩ := id p1.isList
      exact cls_apart e2 e1 (by rw [c1, c2]; simp)
    have n2 : b ≠ i2 := by
      obtain ⟨o1, e1, c1, _⟩ := id h2
      obtain ⟨o2, e2, c2, _⟩ := id p2
      exact cls_apart e2 e1 (by rw [c1, c2]; simp)
    have D1 := PySem.Draws.list (prog := X.prog) (w := X.w) (A := X.A.in1) (by simpa using J.ok.hd hc) i1 a n1 its.toArray
    have D2 := PySem.Draws.tuple (prog := X.prog) (w := X.w) (A := X.A.in1) (by simpa using J.ok.hd hc) i2 b n2 its2.toArray
    refine wpAny_pyNext_zipD2_item S D1 D2 hz hTI hTO ⟨h1, p1.isList⟩ ⟨h2, (show s.heap.IsTuple b its2.toArray from p2)⟩ (by have q := (List.getElem?_eq_some_iff.mp hu).1; simpa using q) (by have q := (List.getElem?_eq_some_iff.mp hu2).1; simpa using q)
      fun v1 v2 h' tk q1 q2 z' TO' st1 st2 hT hsz hk => ?_
    have ev1 : v1 = u := by
      have q : its.toArray[i]? = some u := by simpa using hu
      rw [q] at q1
      exact (Option.some.inj q1).symm
    have ev2 : v2 = u2 := by
      have q : its2.toArray[i]? = some u2 := by simpa using hu2
      rw [q] at q2
      exact (Option.some.inj q2).symm
    subst ev1 ev2
    refine ⟨_, rfl, wpAny_letOwnedTupleGo_zip (s := { s with heap := h', toks := tk }) z' fun h2' z2 sb => ?_⟩
    have gT : h2'.get? s.heap.objs.size = some { cls := .type "tuple", data := .seq #[v1, v2] } := (sb.2 _ (Nat.ne_of_gt lz)).trans hT
    have isnew : ObjOk X.prog X.w (upd H s.heap.objs.size (.tup [x, y])) h2' s.heap.objs.size (.tup [x, y]) :=
      ⟨(show 2 ≤ sizeLine by decide), [v1, v2], .cons ru (.cons ru2 .nil), ⟨_, gT, rfl, _, rfl⟩⟩
    have J1 : Inv X pins σ (upd H s.heap.objs.size (.tup [x, y])) { s with heap := h2', toks := tk } :=
      J.turnedNew (ch := [z, TI, TO, i1, i2]) (fun c o hb q => by
        have m1 : c ≠ z := fun r => hb (by simp [r])
        have m2 : c ≠ TO := fun r => hb (by simp [r])
        have m3 : c ≠ i1 := fun r => hb (by simp [r])
        have m4 : c ≠ i2 := fun r => hb (by simp [r])
        exact (sb.2 c m1).trans (hk c o m1 m2 m3 m4 q)) hf (Nat.le_refl _) isnew
    refine ⟨.ref s.heap.objs.size, _, J1, rfl, ⟨_, x, y, rfl, J.hok.fresh (Nat.le_refl _), rfl, fun l hl => by rw [J.list_inj hl hqx]; exact hx, fun l hl => by rw [J.tuple_inj hl hqy]; exact hy⟩, ⟨z2, ?_, ⟨v1, v2, ?_⟩, ?_, ?_⟩, fun c hcm => ?_⟩
    · exact (sb.2 _ S.TIz).trans (hk _ _ S.TIz S.TITO S.TIi1 S.TIi2 hTI)
    · exact (sb.2 _ S.TOz).trans TO'
    · exact st1.1.at fun o q => (sb.2 _ (Ne.symm S.zi1)).trans q
    · exact st2.1.at fun o q => (sb.2 _ (Ne.symm S.zi2)).trans q
    · have hlt : c < s.heap.objs.size := by
        rcases (show c = z ∨ c = TI ∨ c = TO ∨ c = i1 ∨ c = i2 by simpa using hcm) with q | q | q | q | q <;> rw [q]
        · exact lz
        · exact Heap.lt_size hTI
        · exact Heap.lt_size hTO
        · obtain ⟨_, e1, _⟩ := id h1; exact Heap.lt_size e1
        · obtain ⟨_, e2, _⟩ := id h2; exact Heap.lt_size e2
      rw [upd_ne (Nat.ne_of_lt hlt)]
      exact (hf c hcm).1
  done := by
    intro X hP hw hK hc i pins s σ H E J hf st hg
    subst hP hw hK
    obtain ⟨hz, hTI, ⟨x0, y0, hTO⟩, h1, h2⟩ := st
    obtain ⟨xs, ys, hqx, hqy, hend, hle⟩ := hg
    obtain ⟨its, rv, p1, _⟩ := J.list hqx
    obtain ⟨its2, rv2, p2, _⟩ := J.tuple hqy
    have l1 := rv.length
    have l2 := rv2.length
    have n1 : a ≠ i1 := by
      obtain ⟨o1, e1, c1, _⟩ := id h1
      obtain ⟨o2, e2, c2, _⟩ := id p1.isList
      exact cls_apart e2 e1 (by rw [c1, c2]; simp)
    have n2 : b ≠ i2 := by
      obtain ⟨o1, e1, c1, _⟩ := id h2
      obtain ⟨o2, e2, c2, _⟩ := id p2
      exact cls_apart e2 e1 (by rw [c1, c2]; simp)
    have D1 := PySem.Draws.list (prog := X.prog) (w := X.w) (A := X.A.in1) (by simpa using J.ok.hd hc) i1 a n1 its.toArray
    have D2 := PySem.Draws.tuple (prog := X.prog) (w := X.w) (A := X.A.in1) (by simpa using J.ok.hd hc) i2 b n2 its2.toArray
    exact wpAny_pyNext_zipD2_end S D1 D2 hz hTI hTO ⟨h1, p1.isList⟩ ⟨h2, (show s.heap.IsTuple b its2.toArray from p2)⟩ (by simp; omega) (by simp; omega) (by simp; omega)
      fun h' tk hk => ⟨rfl, J.turnedL (t' := tk) (ch := [z, TI, TO, i1, i2]) (fun c o hb q =>
        hk c o (fun r => hb (by simp [r])) (fun r => hb (by simp [r])) (fun r => hb (by simp [r])) (fun r => hb (by simp [r])) q) hf⟩
  self := fun A i s Q E st h => wpAny_pyIter_zip st.1 h
def iZipM (K : PySem.W.Frag) (ta : TA) : TI := fun σ H R => ta σ H fun vs H1 => ∃ a b xs ys, vs = [.ref a, .ref b] ∧ SqL K H1 a xs ∧ SqT K H1 b ys ∧ R (Itzm K a b) H1
theorem pi_zipM {X : Cx} {e e2 : Expr} {ta : TA} {p pos tpos : Pos} {elts : List Expr} {kk : Nat} (hg : Gl X "zip") (hm : X.mg "zip" = none) (ha : PA X [e, e2] ta)
    (hs : starEach [e, e2] X.env = (false, eval e X.env) :: starEach [e2] X.env := by rfl) (hpl : (backTo pos (starEach [e2] X.env)).any (·.1) = false := by rfl) :
    PI X (.Tuple elts kk tpos) (.Call (.Name "zip" p) [e, e2] [] pos) (iZipM X.K ta) := by
  refine ⟨fun pn s σ H R J h => Call_ (ld_blt J hg hm PyProof.Rows.boot_zip (PyProof.Rows.callWith_type1 (thn (ha.run pos pn s σ H _ J h) fun us s1 ⟨vs, H1, J1, r1, a, b, xs, ys, ev, hqx, hqy, q⟩ => ?_) hs hpl))⟩
  subst ev
  obtain ⟨u1, u2, rfl, ra, rb⟩ := vals2 r1
  cases ra
  cases rb
  obtain ⟨its, rv, p1, _⟩ := J1.list hqx
  obtain ⟨its2, rv2, p2, _⟩ := J1.tuple hqy
  have la : a < s1.heap.objs.size := p1.lt
  have lb : b < s1.heap.objs.size := p2.lt
  refine zip_begins2 (begins_list a its.toArray) (begins_tuple b its2.toArray) p1.isList (show s1.heap.IsTuple b its2.toArray from p2) fun h' hz hTI hTO g1 g2 hsz hk => wpAny_pyIter_zip hz ?_
  have J2 : Inv X pn σ H1 { s1 with heap := h' } := J1.kept (t' := s1.toks) hk
  have S := zip_sep2 (N := s1.heap.objs.size) (fp1 := [a]) (fp2 := [b]) (by simpa using la) (by simpa using lb)
  refine ⟨s1.heap.objs.size + 4, [s1.heap.objs.size + 4, s1.heap.objs.size + 2, s1.heap.objs.size + 3, s1.heap.objs.size, s1.heap.objs.size + 1], _, _, H1, rfl, J2, turn_zipM S, ⟨hz, hTI, ⟨_, _, hTO⟩, ⟨_, g1, rfl, rfl⟩, ⟨_, g2, rfl, rfl⟩⟩, fun c hcm => ?_, q⟩
  have hle : s1.heap.objs.size ≤ c := by
    rcases (show c = s1.heap.objs.size + 4 ∨ c = s1.heap.objs.size + 2 ∨ c = s1.heap.objs.size + 3 ∨ c = s1.heap.objs.size ∨ c = s1.heap.objs.size + 1 by simpa using hcm) with q | q | q | q | q <;> rw [q]
    · exact Nat.le_add_right _ _
    · exact Nat.le_add_right _ _
    · exact Nat.le_add_right _ _
    · exact Nat.le_refl _
    · exact Nat.le_succ _
  exact J1.fpOk hle (J1.hok.fresh hle)
theorem walk_zipM {K : PySem.W.Frag} {a b : Addr} {xs ys : List V} (hl : xs.length ≤ ys.length) : Walk (Itzm K a b) xs.length (fun H => SqL K H a xs ∧ SqT K H b ys)
    (fun i H v H' => ∃ T x y, v = .ref T ∧ H T = none ∧ H' = upd H T (.tup [x, y]) ∧ xs[i]? = some x ∧ ys[i]? = some y) := by
  refine ⟨fun i H hi g => ⟨xs, ys, xs[i], ys[i], g.1, g.2, by simp [hi], List.getElem?_eq_getElem (by omega)⟩, fun H g => ⟨xs, ys, g.1, g.2, rfl, hl⟩, fun i H v H' _ g y => ?_⟩
  obtain ⟨T, x, y, e1, e2, e3, e4, e5⟩ := y
  exact ⟨T, x, y, e1, e2, e3, e4 xs g.1, e5 ys g.2⟩
end K4

set_option maxHeartbeats 4000000
/-! sorted(set(texts)): some list whose items are among the texts. -/
namespace K4
open PySem PySem.Spec PyProof.Rows L2

def OkE (w : World) (xs : List Str) (e : Int × Value) : Prop := ∃ z tk, e.2 = Value.str z tk ∧ e.1 = hashStr w z ∧ z ∈ xs
def SetX (w : World) (h : Heap) (a : Addr) (xs : List Str) (m : Nat) : Prop :=
  ∃ o es ep t, h.get? a = some o ∧ o.ExactSet ∧ o.data = .set es ep t ∧ (∀ e ∈ es.toList, OkE w xs e) ∧ es.size ≤ m ∧ es.size < scanBound ∧ t.fits es.size = true ∧ Ris t.place.toList ∧
    (w.params.followText "set-order" = true ∨ t.led = true)
theorem SetX.keep {w : World} {h h' : Heap} {a : Addr} {xs : List Str} {m : Nat} (r : SetX w h a xs m) (k : ∀ o, h.get? a = some o → h'.get? a = some o) : SetX w h' a xs m := by
  obtain ⟨o, es, ep, t, g, q⟩ := r
  exact ⟨o, es, ep, t, k o g, q⟩
section
variable {P : Program} {w : World} {A : Around} {E : Value → Shared → Prop} {s : Shared} {a : Addr} {xs : List Str} {m : Nat}
theorem okE_elems {l : List (Int × Value)} (g : ∀ e ∈ l, OkE w xs e) : ElemsOf (PySem.strKind P w) l := fun e he => by
  obtain ⟨z, tk, h1, h2, _⟩ := g e he
  exact ⟨⟨z, by rw [h1]; exact strKind_is P w z tk, h2⟩, by rw [h1]; rfl⟩

theorem setX_tail {g : Bool → Sem Unit} (hg : ∀ (b : Bool) (s₁ : Shared) (Q' : Unit → Shared → Prop), Q' () s₁ → wpAny (model P w) A (g b) Q' E s₁)
    {o : Obj} {es : Array (Int × Value)} {ep : Nat} {t : SetTable} (ho : s.heap.get? a = some o) (hex : o.ExactSet) (hd : o.data = .set es ep t)
    {es1 : Array (Int × Value)} {t2 : SetTable} (g1 : ∀ e ∈ es1.toList, OkE w xs e) (hm1 : es1.size ≤ m) (hb1 : es1.size < scanBound) (hf2 : t2.fits es1.size = true) (hr : Ris t2.place.toList)
    (hl : w.params.followText "set-order" = true ∨ t2.led = true) {dum : Bool} {R : Option Bool → Shared → Prop} (hR : ∀ h', Heap.SameBut a s.heap h' → SetX w h' a xs m → R (some true) { s with heap := h' }) :
    wpAny (model P w) A (do
        storeSet a es1 t2
        if (!dum && t2.tooFull) = true then do
            g (relayAll t2 es1 (SetTable.grown es1.size)).2.2
            storeSet a (relayAll t2 es1 (SetTable.grown es1.size)).1 (relayAll t2 es1 (SetTable.grown es1.size)).2.1
            pure (some true)
          else pure (some true)) R E s := by
  refine wpAny_bind (wpAny_storeSet_of ho hd ?_ (fits_of_scanBound hb1))
  have q1 := store_at (es' := es1) (t' := t2) ho hd
  have b1 := Heap.SameBut.update s.heap a (Obj.putSet es1 t2)
  split
  · have p2 := relayAll_perm t2 es1 (SetTable.grown es1.size)
    have f2 := relayAll_fits t2 es1 (SetTable.grown es1.size)
    have r2 := relayAll_ris t2 es1 (SetTable.grown es1.size)
    have l2 := relayAll_led t2 es1 (SetTable.grown es1.size)
    generalize relayAll t2 es1 (SetTable.grown es1.size) = Y at p2 f2 r2 l2 ⊢
    obtain ⟨es2, t3, gv⟩ := Y
    dsimp only at p2 f2 r2 l2 ⊢
    have z2 : es2.size = es1.size := by rw [← Array.length_toList, p2.length_eq, Array.length_toList]
    refine wpAny_bind (hg _ _ _ ?_)
    refine wpAny_bind (wpAny_storeSet_of q1 rfl ?_ (fits_of_scanBound (by rw [z2]; exact hb1)))
    have q2 := store_at (es' := es2) (t' := t3) q1 rfl
    exact wpAny_pure (hR _ (b1.trans (Heap.SameBut.update _ a _)) ⟨_, es2, _, t3, q2, hex, rfl, fun e he => g1 e (p2.mem_iff.mp he), by rw [z2]; exact hm1, by rw [z2]; exact hb1, f2, r2, hl.imp id fun y => by rw [l2]; exact y⟩)
  · exact wpAny_pure (hR _ b1 ⟨_, es1, _, t2, q1, hex, rfl, g1, hm1, hb1, hf2, hr, hl⟩)

theorem setX_add {z : Str} {tk : Tok} {Q : Bool → Shared → Prop} (hz : z ∈ xs) (R : SetX w s.heap a xs m) (room : m + 1 < scanBound)
    (hQ : ∀ b h', Heap.SameBut a s.heap h' → SetX w h' a xs (m + 1) → Q b { s with heap := h' }) : wpAny (model P w) A (setAddHashed a (.str z tk) ((PySem.strKind P w).hash z)) Q E s := by
  obtain ⟨o, es, ep, t, ho, hex, hd, g, hm, hb, hf, hr, hl⟩ := R
  have isk : (PySem.strKind P w).is z (.str z tk) = true := strKind_is P w z tk
  have scn : (Value.str z tk).scannable = true := rfl
  have els : ElemsOf (PySem.strKind P w) es.toList := okE_elems g
  unfold setAddHashed setAddHashedIn
  refine wpAny_holding (wpAny_bind (wpAny_setState_of ho hd hf ?_))
  dsimp only
  rw [byScan_of scn hb els]
  simp only [↓reduceIte]
  unfold setAddByScan
  refine wpAny_bind (wpAny_bind (wpAny_rule (wpAny_bind (wpAny_setScan_of isk ho hd hf els ?_))))
  cases List.findIdx? (fun e => (PySem.strKind P w).is z e.2) es.toList with
  | some j =>
    dsimp only
    exact wpAny_pure (wpAny_pure (hQ _ s.heap (Heap.SameBut.refl a s.heap) ⟨o, es, ep, t, ho, hex, hd, g, by omega, hb, hf, hr, hl⟩))
  | none =>
    dsimp only
    have gw : ∀ (b : Bool) {s₁ : Shared} {Q' : Unit → Shared → Prop}, Q' () s₁ → wpAny (model P w) A (match b with | true => rule "set.scan.the-table-gave-way" | false => pure ()) Q' E s₁ := by
      intro b s₁ Q' y
      cases b
      · exact wpAny_pure y
      · exact wpAny_rule y
    have p1 := layNew_perm t es ((PySem.strKind P w).hash z) (.str z tk)
    have f1 := layNew_fits t es ((PySem.strKind P w).hash z) (.str z tk)
    have r1 := layNew_ris t es ((PySem.strKind P w).hash z) (.str z tk) hr
    have l1 := layNew_led t es ((PySem.strKind P w).hash z) (.str z tk)
    generalize layNew t es ((PySem.strKind P w).hash z) (.str z tk) = Y at p1 f1 r1 l1 ⊢
    obtain ⟨es1, t1, dum, gv⟩ := Y
    dsimp only at p1 f1 r1 l1 ⊢
    rw [Array.toList_push] at p1
    have pc : es1.toList.Perm (((PySem.strKind P w).hash z, Value.str z tk) :: es.toList) := p1.trans (List.perm_append_singleton _ _)
    have g1 : ∀ e ∈ es1.toList, OkE w xs e := by
      intro e he
      rcases List.mem_cons.mp (pc.mem_iff.mp he) with y | y
      · rw [y]; exact ⟨z, tk, rfl, rfl, hz⟩
      · exact g e y
    have z1 : es1.size = es.size + 1 := by rw [← Array.length_toList, pc.length_eq, List.length_cons, Array.length_toList]
    have m1 : es1.size ≤ m + 1 := by omega
    have c1 : es1.size < scanBound := by omega
    have led : w.params.followText "set-order" = true ∨ t1.led = true := hl.imp id fun y => by rw [l1]; exact y
    refine wpAny_bind (gw _ ?_)
    split
    · refine wpAny_bind ?_
      rw [hashByValue_scannable 8 scn]
      refine wpAny_pure (setX_tail (xs := xs) (m := m + 1) ?_ ho hex hd g1 m1 c1 ?_ ?_ ?_ ?_)
      · intro b s₁ Q' y
        cases b <;> first | exact wpAny_pure y | exact wpAny_rule y
      · first | (split <;> first | exact f1 | exact SetTable.fits_plain_off f1) | exact f1
      · first | (split <;> exact r1) | exact r1
      · first | (split <;> exact led) | exact led
      · intro h' sb r
        dsimp only
        exact wpAny_pure (hQ _ h' sb r)
    · refine wpAny_bind (wpAny_pure ?_)
      simp only [↓reduceIte]
      refine setX_tail (xs := xs) (m := m + 1) ?_ ho hex hd g1 m1 c1 f1 r1 led ?_
      · intro b s₁ Q' y
        cases b <;> first | exact wpAny_pure y | exact wpAny_rule y
      · intro h' sb r
        dsimp only
        exact wpAny_pure (hQ _ h' sb r)

theorem setX_fresh (w : World) (xs : List Str) {h : Heap} : SetX w (h.push { cls := .type "set", dict := none, data := .set #[] 0 (.fresh 0 0 (!w.params.followText "set-order")) }) h.objs.size xs 0 := by
  refine ⟨_, #[], 0, _, Heap.get?_push_size _ rfl, ⟨rfl, rfl, rfl⟩, rfl, fun e he => by simp at he, Nat.le_refl _, by decide, by rfl, List.Pairwise.nil, ?_⟩
  show _ ∨ (!w.params.followText "set-order") = true
  cases w.params.followText "set-order"
  · exact .inr rfl
  · exact .inl rfl
theorem code_set1_led (v : Value) {Q₁ : Value → Shared → Prop}
    (h : Q₁ (.ref s.heap.objs.size) { s with heap := s.heap.push { cls := .type "set", dict := none, data := .set #[] 0 (.fresh 0 0 (!w.params.followText "set-order")) } }) :
    codeAny (model P w) A (.call (.builtin "set.__new__") ⟨[.type "set", v], []⟩) (wants Q₁ E) s := by
  refine codeAny_of_tree ?_
  show wpAny _ A.in1 (do checkBuiltinCall "set.__new__" ⟨[.type "set", v], []⟩; again (.builtin "set.__new__" ⟨[.type "set", v], []⟩)) _ _ s
  refine wpAny_bind (wpAny_of_eq (F.newCall_set_1 v) (wpAny_pure ⟨plainId_quiet F.plain_set_new _, codeAny_builtin F.entry_set_new ?_⟩))
  rw [Around.under_plainId F.plain_set_new _]
  unfold Builtin.«set.__new__» Builtin.Frozenset.newClass
  have hsub := sub_set_self
  obtain ⟨hp, g, d, tk, os⟩ := s
  dsimp only
  wp_walk
  refine wpAny_askSetting (wpAny_pure ?_)
  dsimp only
  simp only [newObj]
  refine wpAny_bind (wpAny_alloc (wpAny_pure ?_))
  exact wpAny_pure h
end

section
variable {prog : Program} {w : World} {A : Around} {R : Result → Shared → Prop} {I : Addr} {fp wr : List Addr} {G : Array GenState → Array GenState → Prop} {n : Nat} {Pv : Nat → Value → Prop} {St : Nat → Shared → Prop}
theorem setX_loop (W : WalksS prog w A.in1 I fp wr G n Pv St) (S : Addr) (hSf : S ∉ fp) (xs : List Str) (hval : ∀ i v, Pv i v → ∃ z t, v = .str z t ∧ z ∈ xs) (hb : n + 1 < scanBound) :
    ∀ (k i : Nat) (s : Shared), n - i = k → i ≤ n → St i s → SetX w s.heap S xs i → (∀ s', Moved (S :: wr) G s s' → SetX w s'.heap S xs n → R (.ok (.ret .none)) s') →
      codeAny (model prog w) A (.builtin "set.update.loop" ⟨[.ref S, .ref I], []⟩) R s := by
  have hSw : S ∉ wr := fun h => hSf (W.sub _ h)
  have hsub : ∀ b ∈ wr, b ∈ S :: wr := fun b y => List.mem_cons_of_mem _ y
  intro k
  induction k with
  | zero =>
    intro i s hk hi hst hS hR
    obtain rfl : i = n := by omega
    refine codeAny_builtin PyProof.Rows.F.entry_set_update_loop ?_
    rw [Around.under_plainId PyProof.Rows.F.plain_set_update_loop _]
    refine wpAny_bind (W.done s _ _ hst fun s' hm => ?_)
    exact wpAny_pure (hR s' (hm.mono hsub) (hS.keep fun o y => hm.heap S o hSw y))
  | succ k ih =>
    intro i s hk hi hst hS hR
    have hlt : i < n := by omega
    refine codeAny_builtin PyProof.Rows.F.entry_set_update_loop ?_
    rw [Around.under_plainId PyProof.Rows.F.plain_set_update_loop _]
    refine wpAny_bind (W.item i s _ _ hlt hst fun v s' hP hst' hm => ?_)
    obtain ⟨z, t, rfl, hz⟩ := hval i v hP
    have hS' : SetX w s'.heap S xs i := hS.keep fun o y => hm.heap S o hSw y
    show wpAny _ A.in1 (holding [Value.str z t] (setAdd S (.str z t)) >>= _) _ _ s'
    refine wpAny_bind (wpAny_holding ?_)
    unfold setAdd
    refine wpAny_holding (wpAny_bind ((PySem.strKind prog w).pyHash (k := z) (strKind_is _ _ _ _) ?_))
    refine setX_add (s := { s' with toks := s'.toks + 1 }) hz hS' (by omega) fun b h' hsb hS2 => ?_
    refine wpAny_pure ⟨plainId_quiet PyProof.Rows.F.plain_set_update_loop _, ih (i + 1) _ (by omega) hlt (W.frame _ s' _ _ hst' (Nat.le_succ _) fun b y o e => ?_) hS2 fun s2 hm2 hS3 => ?_⟩
    · rw [hsb.2 b (fun q : b = S => hSf (by rw [← q]; exact y))]; exact e
    · refine hR s2 (Moved.trans W.gtrans ((hm.mono hsub).then_heap (Nat.le_succ _) fun b o y e => ?_) hm2) hS3
      rw [hsb.2 b (fun q : b = S => y (by rw [q]; exact List.mem_cons_self))]; exact e
end

section
variable {prog : Program} {w : World} {A : Around} {E : Value → Shared → Prop} {s : Shared}
theorem call_setX {l : Addr} {items : Array Value} {xs : List Str} {Q : Value → Shared → Prop} (hh : A.handled = none) (hl : s.heap.IsList l items) (hi : PyProof.Rows.StrsAre items.toList xs) (hb : items.size + 1 < scanBound)
    (fin : ∀ (h' : Heap) (tk : Nat), SetX w h' s.heap.objs.size xs items.size → (∀ b o, b < s.heap.objs.size → s.heap.get? b = some o → h'.get? b = some o) → Q (.ref s.heap.objs.size) { s with heap := h', toks := tk }) :
    wpAny (model prog w) A (call (.type "set") [.ref l]) Q E s := by
  obtain ⟨c, tl, hmro⟩ := PySem.F.called_set.mro
  have hmade := PySem.F.called_set.made
  have hsub := PySem.F.called_set.sub
  refine wpAny_call (codeAny_of_tree ?_)
  show wpAny _ _ (callAny (.type "set") _) _ _ _
  refine wpAny_pure ⟨Code.quiet_builtin _ (by decide +kernel), codeAny_builtin PySem.F.entry_type_call ?_⟩
  rw [Around.under_plain (weight_type_call_type "set" [.ref l] []) rfl]
  have c1 := PySem.F.called_set.notType
  have c2 := PySem.F.called_set.canCreate
  have c3 := PySem.F.typeCall_set_1 (.ref l)
  repeat (any_goals (first | assumption | wp_step))
  refine codeAny_mono (code_set1_led (P := prog) (w := w) (.ref l) (E := E) (Q₁ := fun ob s₁ => ob = .ref s.heap.objs.size ∧ s₁ = { s with heap := s.heap.push { cls := .type "set", dict := none, data := .set #[] 0 (.fresh 0 0 (!w.params.followText "set-order")) } }) ⟨rfl, rfl⟩) fun r s₁ hr => ?_
  cases r with
  | error e => exact hr
  | ok fl =>
    cases fl with
    | ret ob =>
      obtain ⟨rfl, rfl⟩ := hr
      generalize hfresh : (!w.params.followText "set-order") = led
      have gS : (s.heap.push { cls := .type "set", dict := none, data := .set #[] 0 (.fresh 0 0 led) }).get? s.heap.objs.size = some { cls := .type "set", dict := none, data := .set #[] 0 (.fresh 0 0 led) } := Heap.get?_push_size _ rfl
      have tS : Shared.TypeIs { s with heap := s.heap.push { cls := .type "set", dict := none, data := .set #[] 0 (.fresh 0 0 led) } } (.ref s.heap.objs.size) "set" := ⟨_, gS, rfl⟩
      have i1 := PySem.F.called_set.init.lookup
      have i2 := PySem.F.called_set.init.bind (.ref s.heap.objs.size)
      repeat (any_goals (first | assumption | wp_step))
      refine codeAny_mono (codeAny_call_builtin (R := wants (fun r s₂ => r = .none ∧ ∃ h' tk, s₂ = { s with heap := h', toks := tk } ∧ SetX w h' s.heap.objs.size xs items.size ∧
          (∀ b o, b < s.heap.objs.size → s.heap.get? b = some o → h'.get? b = some o)) E) PySem.F.called_set.init.plain PySem.F.entry_set_init (check_set_init_1 tS ?_)) fun r₂ s₂ hr₂ => ?_
      · obtain ⟨ol, hol, hcl, nl, hdl⟩ := hl
        obtain ⟨k1, k2, k3, k4⟩ := ol
        simp only at hcl hdl
        subst hcl; subst hdl
        have gl : (s.heap.push { cls := .type "set", dict := none, data := .set #[] 0 (.fresh 0 0 led) }).get? l = some { cls := .type "list", dict := k2, data := .seq items nl, slots := k4 } := Heap.get?_push_of_some _ hol
        have s1 := PySem.F.sub_list_set
        have s2 := PySem.F.sub_list_frozenset
        have ne1 : (Value.type "list" == Value.type "dict") = false := by decide
        have hl1 : (s.heap.push { cls := .type "set", dict := none, data := .set #[] 0 (.fresh 0 0 led) }).IsList l items := ⟨_, gl, rfl, nl, rfl⟩
        unfold Builtin.«set.__init__» noKeywords Builtin.Frozenset.updateFrom
        generalize hPI : pyIter = PI
        wp_walk
        subst hPI
        refine wpAny_pyIter_list hl1 ?_
        refine wpAny_bind (wpAny_runValue ?_)
        have ll : l < s.heap.objs.size := Heap.lt_size hol
        have h3 : A.in1.in1.in1.handled = none := by simp [hh]
        have zp : (s.heap.push { cls := .type "set", dict := none, data := .set #[] 0 (.fresh 0 0 led) }).objs.size = s.heap.objs.size + 1 := Heap.size_push ..
        have neI : l ≠ (s.heap.push { cls := .type "set", dict := none, data := .set #[] 0 (.fresh 0 0 led) }).objs.size := by
          rw [zp]; exact Nat.ne_of_lt (Nat.lt_succ_of_lt ll)
        have hSf : s.heap.objs.size ∉ [(s.heap.push { cls := .type "set", dict := none, data := .set #[] 0 (.fresh 0 0 led) }).objs.size, l] := by
          rw [zp]
          intro y
          rcases List.mem_cons.mp y with y | y
          · exact absurd y (Nat.ne_of_lt (Nat.lt_succ_self _))
          · exact absurd (List.mem_singleton.mp y) (Nat.ne_of_gt ll)
        have hval : ∀ (i : Nat) (v : Value), items[i]? = some v → ∃ z t, v = .str z t ∧ z ∈ xs := fun i v hv => by
          have q := hi.all v (List.mem_of_getElem? (by rw [Array.getElem?_toList]; exact hv))
          obtain ⟨z, t, rfl⟩ := q
          refine ⟨z, t, rfl, ?_⟩
          have e := hi.strs
          rw [← e]
          exact List.mem_map.mpr ⟨.str z t, List.mem_of_getElem? (by rw [Array.getElem?_toList]; exact hv), rfl⟩
        refine setX_loop ((Walks.list h3 _ l neI items).toS) s.heap.objs.size hSf xs hval hb (items.size - 0) 0 _ (by omega) (Nat.zero_le _) ⟨⟨_, Heap.get?_push_size _ rfl, rfl, rfl⟩, (hl1.push _)⟩ ?hS0 ?hR
        case hS0 =>
          rw [← hfresh]
          exact (setX_fresh w xs).keep fun o y => Heap.get?_push_of_some _ y
        case hR =>
          intro s' hm hS'
          obtain ⟨h', g', d', tk', os'⟩ := s'
          obtain rfl : g' = s.gens := hm.gens
          obtain rfl : d' = s.drawn := hm.drawn
          obtain rfl : os' = s.os := hm.os
          show wpAny _ _ _ _ _ _
          refine wpAny_pure ?_
          show wpAny _ _ (ret Value.none) _ _ _
          refine wpAny_pure ⟨rfl, h', tk', rfl, hS', fun b o hb e => ?_⟩
          refine hm.heap b o (fun y => ?_) (Heap.get?_push_of_some _ (Heap.get?_push_of_some _ e))
          rcases List.mem_cons.mp y with y | y
          · exact absurd y (Nat.ne_of_lt hb)
          · have y2 := List.mem_singleton.mp y
            rw [zp] at y2
            exact absurd y2 (Nat.ne_of_lt (Nat.lt_succ_of_lt hb))
      · cases r₂ with
        | error e => exact hr₂
        | ok fl₂ =>
          cases fl₂ with
          | ret r =>
            obtain ⟨rfl, h', tk, rfl, hS', hk'⟩ := hr₂
            repeat (any_goals (first | assumption | wp_step))
            exact fin _ _ hS' hk'
          | _ => exact hr₂.elim
    | _ => exact hr.elim

theorem sorted_setX {a : Addr} {xs : List Str} {m : Nat} {Q : Value → Shared → Prop} (R : SetX w s.heap a xs m) (hh : A.handled = none) (h64 : m < 64)
    (hQ : ∀ s' p (out : Array Value) (c : Nat) (ys : List Str), (∀ b o, s.heap.get? b = some o → s'.heap.get? b = some o) → s'.gens = s.gens → s'.os = s.os → s.heap.objs.size ≤ p →
      s'.heap.get? p = some (seqObj "list" out c) → StrsAre out.toList ys → (∀ y ∈ ys, y ∈ xs) → ys.length ≤ m → Q (.ref p) s') :
    wpAny (model prog w) A (call (.builtin "sorted") [.ref a]) Q E s := by
  obtain ⟨o, es, ep, t, ho, hex, hd, g, hm, hb, hf, hr, hl⟩ := R
  refine Calls.call_function_entry kind_sorted plain_sorted entry_sorted (args_sorted1 _) ?_
  unfold Builtin.«sorted»
  refine wpAny_bind (m := checkCount "sorted" 1 1 _) (wpAny_pure ?_)
  refine wpAny_bind (collect_set (A := A.in1) hh ⟨o, ho, hex.1, hd⟩ hf hb hr hl fun s1 vs k1 hz g1 o1 pm => ?_)
  have lv : vs.length ≤ m := by rw [pm.length_eq, List.length_map, Array.length_toList]; exact hm
  have all1 : ∀ v, v ∈ vs → ∃ x t, v = Value.str x t ∧ x ∈ xs := fun v hv => by
    obtain ⟨e, he, q⟩ := List.mem_map.mp (pm.mem_iff.mp hv)
    obtain ⟨z, tk, h1, _, h3⟩ := g e he
    exact ⟨z, tk, by rw [← q]; exact h1, h3⟩
  have hS : StrsAre vs (vs.map strOf) := strsAre_map vs fun v hv => by
    obtain ⟨x, t, e, _⟩ := all1 v hv
    exact ⟨x, t, e⟩
  refine wpAny_bind (wpAny_newList ?_ (by rw [sizeLine_eq]; omega))
  have gL : (s1.heap.push (seqObj "list" vs.toArray 0)).get? s1.heap.objs.size = some (seqObj "list" vs.toArray 0) := Heap.get?_push_size _ rfl
  refine wpAny_bind (wpAny_holding (wpAny_call_entry slot_list_sort ⟨_, gL, rfl⟩ entry_list_sort (list_sort_treeK strKind_oneLt gL hS.keysOf (fun v₁ v₂ rest e => keyKind_strs (by rw [← e]; exact hS)) (by omega) fun st' hp hs => ⟨_, rfl, ?_⟩) (args_list_sort _)))
  obtain ⟨ys, a1, a2, _⟩ := sorted_out_str hS hp hs
  obtain ⟨c, hc⟩ := sortedHeap_at (vs := vs) (out := (arrOf st').map (·.2)) gL
  refine wpAny_pure ⟨_, rfl, hQ _ s1.heap.objs.size _ c ys (fun b u e => ?_) g1 o1 hz hc a1 (fun y hy => ?_) ?_⟩
  · have q := k1 b u e
    have hlt := Heap.lt_size q
    show (sortedHeap (s1.heap.push (seqObj "list" vs.toArray 0)) s1.heap.objs.size vs _).get? b = some u
    rw [sortedHeap_old (Nat.ne_of_lt hlt) (by rw [Heap.size_push]; exact Nat.lt_succ_of_lt hlt)]
    exact Heap.get?_push_of_some _ q
  · obtain ⟨v, hv, q⟩ := List.mem_map.mp (a2.mem_iff.mp hy)
    obtain ⟨x, t, e, hx⟩ := all1 v hv
    rw [← q, e]
    exact hx
  · rw [a2.length_eq, List.length_map]; exact lv
end

/-! ### over the layer -/
def SetH (w : World) (a : Addr) (xs : List Str) (m : Nat) : HO := .ext fun h => SetX w h a xs m
section
variable {X : Cx}
theorem setH_get {pins : List (Addr × Obj)} {σ : L2.St} {H : Hp} {s : Shared} {a : Addr} {xs : List Str} {m : Nat} (J : Inv X pins σ H s) (ha : H a = some (SetH X.w a xs m)) : SetX X.w s.heap a xs m := (J.hok a _ ha).1
/-- set(l), l a list of texts -/
def rSetOfS (w : World) (K : PySem.W.Frag) : List V → Hp → VK → Prop := fun vs H Q => ∃ (l : Addr) (xs : List Str), vs = [V.ref l] ∧ SqL K H l (xs.map V.str) ∧ xs.length < 64 ∧ ∀ p, H p = none → Q (.ref p) (upd H p (SetH w p xs xs.length))
theorem cr_setOfS (hc : X.calm = true) : CallR X (.type "set") (rSetOfS X.w X.K) := by
  intro pins s σ H vs us Q J r h
  obtain ⟨l, xs, rfl, hq, h64, q⟩ := h
  rw [Vals.ref1 r]
  obtain ⟨its, rv, pl, _⟩ := J.list hq
  have ln : its.length = xs.length := by rw [← rv.length, List.length_map]
  refine call_setX (xs := xs) (J.ok.hd hc) pl.isList (by simpa using strsAre_of rv) (by rw [List.size_toArray, ln]; unfold scanBound; omega) fun h' tk hS hk => ?_
  have ez : its.toArray.size = xs.length := by rw [List.size_toArray, ln]
  rw [ez] at hS
  have isnew : ObjOk X.prog X.w (upd H s.heap.objs.size (SetH X.w s.heap.objs.size xs xs.length)) h' s.heap.objs.size (SetH X.w s.heap.objs.size xs xs.length) := by
    refine ⟨hS, ?_, fun h1 h2 r k => r.keep k⟩
    obtain ⟨o, _, _, _, g, _⟩ := hS
    exact ⟨o, g⟩
  exact ⟨.ref s.heap.objs.size, _, J.laid (h' := h') (t' := tk) (fun b u e => hk b u (Heap.lt_size e) e) (Nat.le_refl _) isnew, rfl, q _ (J.hok.fresh (Nat.le_refl _))⟩
/-- sorted of such a set -/
def rSortSet (w : World) : List V → Hp → VK → Prop := fun vs H Q => ∃ (a : Addr) (xs : List Str) (m : Nat), vs = [V.ref a] ∧ H a = some (SetH w a xs m) ∧ m < 64 ∧
  ∀ (ys : List Str) (p : Addr), (∀ y ∈ ys, y ∈ xs) → ys.length ≤ m → H p = none → Q (.ref p) (upd H p (.lst (ys.map V.str)))
theorem cr_sortSet (hc : X.calm = true) : CallR X (.builtin "sorted") (rSortSet X.w) := by
  intro pins s σ H vs us Q J r h
  obtain ⟨a, xs, m, rfl, ha, h64, q⟩ := h
  rw [Vals.ref1 r]
  refine sorted_setX (setH_get J ha) (J.ok.hd hc) h64 fun s' p out c ys k g o hp hg hi hs hl => ?_
  have hn : H p = none := J.hok.fresh hp
  have len : (ys.map V.str).length ≤ sizeLine := by rw [List.length_map, sizeLine_eq]; omega
  have J2 : Inv X pins σ (upd H p (.lst (ys.map V.str))) s' :=
    J.call' (ch := []) o (Un.laid k hp hn) (J.hok.laid k hp ⟨len, out.toList, c, vals_of_strs hi, hg⟩) (by rw [g]; exact J.bare) (fun _ z => nomatch z)
  exact ⟨.ref p, _, J2, rfl, q ys p hs hl hn⟩
end
end K4

/-! Statements as data: the law's tuples, the program's objects, sizes, marks. -/
namespace K4
open PySem L2

inductive Stm where
  | wr (c v : Str) | wt (c v : Str) | mk (m : Str) | sk | st
  | ie (c v : Str) (y n : List Stm) | wh (c v : Str) (b : List Stm) | ch (a b : List Stm) | lo (b : List Stm)
abbrev Row := List Stm
/-- the programs within, in the text's order -/
def Stm.parts : Stm → List Row
  | .ie _ _ y n => [y, n]
  | .wh _ _ b => [b]
  | .ch a b => [a, b]
  | .lo b => [b]
  | _ => []
mutual
def Stm.size : Stm → Nat
  | .ie _ _ y n => 1 + (rowSize y + rowSize n)
  | .wh _ _ b => 1 + rowSize b
  | .ch a b => 1 + (rowSize a + rowSize b)
  | .lo b => 1 + rowSize b
  | _ => 1
def rowSize : List Stm → Nat
  | [] => 0
  | s :: r => s.size + rowSize r
end
mutual
def Stm.deep : Stm → Nat
  | .ie _ _ y n => max (rowDeep y) (rowDeep n) + 1
  | .wh _ _ b => rowDeep b + 1
  | .ch a b => max (rowDeep a) (rowDeep b) + 1
  | .lo b => rowDeep b + 1
  | _ => 0
/-- the depth of the deepest program within -/
def rowDeep : List Stm → Nat
  | [] => 0
  | s :: r => max s.deep (rowDeep r)
end
mutual
/-- all its statements, in the text's order -/
def Stm.flat : Stm → List Stm
  | .ie c v y n => .ie c v y n :: (rowFlat y ++ rowFlat n)
  | .wh c v b => .wh c v b :: rowFlat b
  | .ch a b => .ch a b :: (rowFlat a ++ rowFlat b)
  | .lo b => .lo b :: rowFlat b
  | .wr c v => [.wr c v]
  | .wt c v => [.wt c v]
  | .mk m => [.mk m]
  | .sk => [.sk]
  | .st => [.st]
def rowFlat : List Stm → List Stm
  | [] => []
  | s :: r => s.flat ++ rowFlat r
end
mutual
theorem flat_len : ∀ s : Stm, s.flat.length = s.size
  | .ie c v y n => by
    have h1 := rowFlat_len y
    have h2 := rowFlat_len n
    simp only [Stm.flat, Stm.size, List.length_cons, List.length_append]; omega
  | .wh c v b => by
    have h1 := rowFlat_len b
    simp only [Stm.flat, Stm.size, List.length_cons]; omega
  | .ch a b => by
    have h1 := rowFlat_len a
    have h2 := rowFlat_len b
    simp only [Stm.flat, Stm.size, List.length_cons, List.length_append]; omega
  | .lo b => by
    have h1 := rowFlat_len b
    simp only [Stm.flat, Stm.size, List.length_cons]; omega
  | .wr _ _ => rfl
  | .wt _ _ => rfl
  | .mk _ => rfl
  | .sk => rfl
  | .st => rfl
theorem rowFlat_len : ∀ r : List Stm, (rowFlat r).length = rowSize r
  | [] => rfl
  | s :: r => by
    have h1 := flat_len s
    have h2 := rowFlat_len r
    simp only [rowFlat, rowSize, List.length_append]; omega
end
def Stm.partsSize (s : Stm) : Nat := (s.parts.map rowSize).sum
theorem size_parts (s : Stm) : s.size = 1 + s.partsSize := by
  cases s <;> simp [Stm.size, Stm.partsSize, Stm.parts]
theorem rowSize_sum : ∀ r : Row, rowSize r = r.length + (r.map Stm.partsSize).sum
  | [] => rfl
  | s :: r => by
    have h := rowSize_sum r
    have h2 := size_parts s
    simp only [rowSize, List.length_cons, List.map_cons, List.sum_cons]; omega
theorem rowSize_sum' : ∀ r : Row, rowSize r = (r.map Stm.size).sum
  | [] => rfl
  | s :: r => by rw [rowSize, rowSize_sum' r]; rfl
theorem size_pos (s : Stm) : 0 < s.size := by rw [size_parts]; omega
theorem len_le_size : ∀ r : Row, r.length ≤ rowSize r
  | [] => Nat.le_refl _
  | s :: r => by
    have h := len_le_size r
    have h2 := size_pos s
    simp only [rowSize, List.length_cons]; omega
theorem flat_parts (s : Stm) : s.flat = s :: (s.parts.map rowFlat).flatten := by
  cases s <;> simp [Stm.flat, Stm.parts]
theorem rowSize_app : ∀ a b : Row, rowSize (a ++ b) = rowSize a + rowSize b
  | [], b => by simp [rowSize]
  | s :: r, b => by
    have h := rowSize_app r b
    simp only [List.cons_append, rowSize, h]; omega
theorem rowFlat_app : ∀ a b : Row, rowFlat (a ++ b) = rowFlat a ++ rowFlat b
  | [], b => rfl
  | s :: r, b => by simp only [List.cons_append, rowFlat, rowFlat_app r b, List.append_assoc]
theorem rowDeep_app : ∀ a b : Row, rowDeep (a ++ b) = max (rowDeep a) (rowDeep b)
  | [], b => by simp [rowDeep]
  | s :: r, b => by simp only [List.cons_append, rowDeep, rowDeep_app r b]; omega
mutual
theorem deep_le : ∀ s : Stm, s.deep ≤ s.size
  | .ie c v y n => by
    have h1 := rowDeep_le y
    have h2 := rowDeep_le n
    simp only [Stm.deep, Stm.size]; omega
  | .wh c v b => by
    have h1 := rowDeep_le b
    simp only [Stm.deep, Stm.size]; omega
  | .ch a b => by
    have h1 := rowDeep_le a
    have h2 := rowDeep_le b
    simp only [Stm.deep, Stm.size]; omega
  | .lo b => by
    have h1 := rowDeep_le b
    simp only [Stm.deep, Stm.size]; omega
  | .wr _ _ => by simp [Stm.deep, Stm.size]
  | .wt _ _ => by simp [Stm.deep, Stm.size]
  | .mk _ => by simp [Stm.deep, Stm.size]
  | .sk => by simp [Stm.deep, Stm.size]
  | .st => by simp [Stm.deep, Stm.size]
theorem rowDeep_le : ∀ r : Row, rowDeep r ≤ rowSize r
  | [] => Nat.le_refl _
  | s :: r => by
    have h1 := deep_le s
    have h2 := rowDeep_le r
    simp only [rowDeep, rowSize]; omega
end
/-- a part is less deep -/
theorem part_deep {s : Stm} {p : Row} (h : p ∈ s.parts) : rowDeep p + 1 ≤ s.deep := by
  cases s <;> simp [Stm.parts] at h <;> (try rcases h with rfl | rfl) <;> simp only [Stm.deep] <;> (try subst h) <;> omega
theorem mem_deep {s : Stm} : ∀ {r : Row}, s ∈ r → s.deep ≤ rowDeep r
  | [], h => by cases h
  | t :: r, h => by
    simp only [rowDeep]
    rcases List.mem_cons.mp h with rfl | h
    · omega
    · have := mem_deep h; omega
theorem part_size {s : Stm} {p : Row} (h : p ∈ s.parts) : rowSize p + 1 ≤ s.size := by
  cases s <;> simp [Stm.parts] at h <;> (try rcases h with rfl | rfl) <;> simp only [Stm.size] <;> (try subst h) <;> omega
theorem mem_size {s : Stm} : ∀ {r : Row}, s ∈ r → s.size ≤ rowSize r
  | [], h => by cases h
  | t :: r, h => by
    simp only [rowSize]
    rcases List.mem_cons.mp h with rfl | h
    · omega
    · have := mem_size h; omega

/-! ### the law's tuples -/
mutual
def Stm.d : Stm → D
  | .wr c v => .tup [.str "write", .str c, .str v]
  | .wt c v => .tup [.str "wait", .str c, .str v]
  | .mk m => .tup [.str "mark", .str m]
  | .sk => .tup [.str "skip"]
  | .st => .tup [.str "stop"]
  | .ie c v y n => .tup [.str "if", .str c, .str v, .tup (rowD y), .tup (rowD n)]
  | .wh c v b => .tup [.str "while", .str c, .str v, .tup (rowD b)]
  | .ch a b => .tup [.str "choose", .tup (rowD a), .tup (rowD b)]
  | .lo b => .tup [.str "loop", .tup (rowD b)]
def rowD : List Stm → List D
  | [] => []
  | s :: r => s.d :: rowD r
end
theorem rowD_map : ∀ r : Row, rowD r = r.map Stm.d
  | [] => rfl
  | s :: r => by rw [rowD, rowD_map r]; rfl
def rowDT (r : Row) : D := .tup (rowD r)
end K4

/-! The layer's rules with the written part told by name (so a comprehension's term does not lean on its block). -/
namespace K4
open PySem PySem.Spec PyProof.Rows L2
section
variable {X : Cx} (K : PySem.W.Frag)
theorem k_ixL (h : X.K = K := by rfl) : IxR X (rIxL K) := by subst h; exact ix_list
theorem k_ixT (h : X.K = K := by rfl) : IxR X (rIxT K) := by subst h; exact ix_tup
theorem k_ixA (h : X.K = K := by rfl) : IxR X (rIx K) := by subst h; exact ix_seq
theorem k_slL (h : X.K = K := by rfl) : SlR X (rSlL K) := by subst h; exact sl_list
theorem k_slT (h : X.K = K := by rfl) : SlR X (rSlA K) := by subst h; exact sl_tupA
theorem k_catT (h : X.K = K := by rfl) : OpR X (binaryOp .Add) (rCatA K) := by subst h; exact op_catA
theorem k_repT (h : X.K = K := by rfl) : OpR X (binaryOp .Mult) (rRepT K) := by subst h; exact op_repT
theorem k_inS (h : X.K = K := by rfl) : OpR X (compareOp .In) (rIn K false) := by subst h; exact op_in_seq
theorem k_ninS (h : X.K = K := by rfl) : OpR X (compareOp .NotIn) (rIn K true) := by subst h; exact op_notIn_seq
theorem k_lenS (h : X.K = K := by rfl) : CallR X (.builtin "len") (fun xs H Q => ∃ p ys, xs = [.ref p] ∧ (SqL K H p ys ∨ SqT K H p ys) ∧ Q (.int ys.length) H) := by subst h; exact call_len_seq
theorem k_lenA (h : X.K = K := by rfl) : CallR X (.builtin "len") (fun xs H Q => ∃ x n, xs = [x] ∧ LenV K x H n ∧ Q (.int n) H) := by subst h; exact call_len
theorem k_listOf (h : X.K = K := by rfl) : CallR X (.type "list") (fun xs H Q => ∃ p ys, xs = [.ref p] ∧ (SqL K H p ys ∨ SqT K H p ys) ∧ ∀ l, H l = none → Q (.ref l) (upd H l (.lst ys))) := by subst h; exact call_list_of
theorem k_tupOf (h : X.K = K := by rfl) : CallR X (.type "tuple") (fun xs H Q => ∃ p ys, xs = [.ref p] ∧ ((SqL K H p ys ∧ ∀ l, H l = none → Q (.ref l) (upd H l (.tup ys))) ∨ (SqT K H p ys ∧ Q (.ref p) H))) := by subst h; exact call_tuple_of
theorem k_sortedS (h : X.K = K := by rfl) : CallR X (.builtin "sorted") (rSortedS K) := by subst h; exact cr_sortedS
theorem k_isi (h : X.K = K := by rfl) : CallR X (.builtin "isinstance") (rIsi K) := by subst h; exact call_isi
theorem k_isiT (h : X.K = K := by rfl) : CallR X (.builtin "isinstance") (rIsiT K) := by subst h; exact call_isiT
theorem k_index (h : X.K = K := by rfl) : MtR X "list.index" (rIndex K) := by subst h; exact mt_index
theorem k_cntL (h : X.K = K := by rfl) : MtR X "list.count" (rCntL K) := by subst h; exact mt_cntL
theorem k_cntT (h : X.K = K := by rfl) : MtR X "tuple.count" (rCntT K) := by subst h; exact mt_cntT
theorem k_tindex (h : X.K = K := by rfl) : MtR X "tuple.index" (fun x xs H Q => ∃ p, ∃ ys : List Str, ∃ z j, x = .ref p ∧ xs = [.str z] ∧ SqT K H p (ys.map V.str) ∧ ys[j]? = some z ∧ (∀ m, m < j → ys[m]? ≠ some z) ∧ Q (.int (j : Nat)) H) := by subst h; exact mt_tup_index
theorem k_sum (hc : X.calm = true) (h : X.K = K := by rfl) : CallR X (.builtin "sum") (rSum K) := by subst h; exact cr_sum hc
theorem k_max (hc : X.calm = true) (h : X.K = K := by rfl) : CallR X (.builtin "max") (rMax K) := by subst h; exact cr_max hc
theorem k_all (hc : X.calm = true) (h : X.K = K := by rfl) : CallR X (.builtin "all") (rAll K) := by subst h; exact cr_all hc
theorem k_dictP (hc : X.calm = true) (h : X.K = K := by rfl) : CallR X (.type "dict") (fun xs H Q => ∃ (a : Addr) (ps : List Addr) (kvs : List (Key × V)), xs = [.ref a] ∧ SqL K H a (ps.map V.ref) ∧ Paired (fun p kv => SqT K H p [kV kv.1, kv.2]) ps kvs ∧
    ∀ p, H p = none → Q (.ref p) (upd H p (.dK (mergeK [] kvs)))) := by subst h; exact call_dictP hc
theorem k_setOf (w : World) (hc : X.calm = true) (h : X.K = K := by rfl) (hw : X.w = w := by rfl) : CallR X (.type "set") (rSetOfS w K) := by subst h; subst hw; exact cr_setOfS hc
theorem k_sortSet (w : World) (hc : X.calm = true) (hw : X.w = w := by rfl) : CallR X (.builtin "sorted") (rSortSet w) := by subst hw; exact cr_sortSet hc
theorem k_eqD (hu : X.A.units + 64 < cLine) (h : X.K = K := by rfl) : OpR X (compareOp .Eq) (rEqD K) := by subst h; exact op_eqD hu
theorem k_neD (hu : X.A.units + 64 < cLine) (h : X.K = K := by rfl) : OpR X (compareOp .NotEq) (rNeD K) := by subst h; exact op_neD hu
theorem k_inD (hu : X.A.units + 65 < cLine) (h : X.K = K := by rfl) : OpR X (compareOp .In) (rInD K) := by subst h; exact op_inD hu
theorem k_ninD (hu : X.A.units + 65 < cLine) (h : X.K = K := by rfl) : OpR X (compareOp .NotIn) (rNotInD K) := by subst h; exact op_notInD hu
variable {e o a b value : Expr} {es rest : List Expr} {ta tb te to tv : TE} {t : TA} {f name : Str} {pos pos' apos cpos : Pos} {T id : String} {r : V → List V → Hp → VK → Prop}
theorem k_fld (he : PE X e ta) (hb : attributeBase e f X.env (eval e X.env) = eval e X.env := by rfl) (h : X.K = K := by rfl) : PE X (.Attribute e f pos) (tFld K ta f) := by subst h; exact pe_fld he hb
theorem k_sfld (ha : PE X o ta) (hv : PE X value tv) (hs : swapsWith value (some (.Attribute o f pos')) pos.line X.env = pure false := by rfl) (h : X.K = K := by rfl) : PS X (.Assign [.Attribute o f pos'] value pos) (sFld K ta tv f) := by subst h; exact ps_fld ha hv hs
theorem k_bm (pa : PlainAttrs T) (slot : Slot T name id) (hty : typeOf (.builtin id) = pure (.type "method_descriptor")) (hm : MtR X id r) (ho : PE X o to) (ha : PA X (e :: es) t)
    (hbase : attributeBase o name X.env (eval o X.env) = eval o X.env := by rfl)
    (hfew : ((backTo cpos (starEach (e :: es) X.env)).all (fun x => !x.1) && (backToKw cpos (keywordEach [] X.env)).all (fun x => x.1.isSome)
      && decide ((e :: es).length + ([] : List Keyword).length + (if ([] : List Keyword).isEmpty then 0 else 1) < 30)) = true := by rfl)
    (hline : (apos.endLine == cpos.line) = true := by rfl) (hs : starEach (e :: es) X.env = (false, eval e X.env) :: starEach es X.env := by rfl) (hplain : (backTo cpos (starEach es X.env)).any (·.1) = false := by rfl)
    (h : X.K = K := by rfl) : PE X (.Call (.Attribute o name apos) (e :: es) [] cpos) (tBM K T r to t) := by subst h; exact pe_bm pa slot hty hm ho ha hbase hfew hline hs hplain
theorem k_orT (ha : PE X a ta) (hb : PE X (.BoolOp .Or (b :: rest) pos) tb) (h : X.K = K := by rfl) : PE X (.BoolOp .Or (a :: b :: rest) pos) (tOrT K ta tb) := by subst h; exact pe_orT ha hb
theorem k_revL {k : Nat} {p1 p2 p3 : Pos} (he : PE X e te) (h : X.K = K := by rfl) : PE X (.Subscript e (.Slice none none (some (.UnaryOp .USub (.Constant (.int 1) k p1) p2)) p3) pos) (tRevL K te) := by subst h; exact pe_revL he
theorem k_list {tg l : Expr} {tl : TE} (hl : PE X l tl) (h : X.K = K := by rfl) : PI X tg l (iList K tl) := by subst h; exact pi_list hl
theorem k_tup {tg l : Expr} {tl : TE} (hl : PE X l tl) (h : X.K = K := by rfl) : PI X tg l (iTup K tl) := by subst h; exact pi_tup hl
theorem k_enum {tpos p : Pos} {elts : List Expr} {kk : Nat} (hg : Gl X "enumerate") (hm : X.mg "enumerate" = none) (ha : PA X [e] t) (hs : starEach [e] X.env = [(false, eval e X.env)] := by rfl) (h : X.K = K := by rfl) :
    PI X (.Tuple elts kk tpos) (.Call (.Name "enumerate" p) [e] [] pos) (iEnum K t) := by subst h; exact pi_enum hg hm ha hs
theorem k_enumT {tpos p : Pos} {elts : List Expr} {kk : Nat} (hg : Gl X "enumerate") (hm : X.mg "enumerate" = none) (ha : PA X [e] t) (hs : starEach [e] X.env = [(false, eval e X.env)] := by rfl) (h : X.K = K := by rfl) :
    PI X (.Tuple elts kk tpos) (.Call (.Name "enumerate" p) [e] [] pos) (iEnumT K t) := by subst h; exact pi_enumT hg hm ha hs
theorem k_zipM {e2 : Expr} {tpos p : Pos} {elts : List Expr} {kk : Nat} (hg : Gl X "zip") (hm : X.mg "zip" = none) (ha : PA X [e, e2] t)
    (hs : starEach [e, e2] X.env = (false, eval e X.env) :: starEach [e2] X.env := by rfl) (hpl : (backTo pos (starEach [e2] X.env)).any (·.1) = false := by rfl) (h : X.K = K := by rfl) :
    PI X (.Tuple elts kk tpos) (.Call (.Name "zip" p) [e, e2] [] pos) (iZipM K t) := by subst h; exact pi_zipM hg hm ha hs hpl
theorem k_gtup {ts : List Expr} {k : Nat} {tt : TGs} {n : Nat} (hc : X.calm = true) (hh : PGs X ts tt)
    (hn : (assignEach ts X.env).length = n := by rfl) (hst : (assignEach ts X.env).findIdx? (·.1) = none := by rfl) (h : X.K = K := by rfl) : PG X (.Tuple ts k pos) (gTup K n tt) := by subst h; exact pg_tup hc hh hn hst
end
end K4

/-! The text by places, the defs' scopes, what is asked of the top. -/
namespace K4
open PySem L2
def topS (i : Nat) : Stmt := PySem.Challenge.pw_manyboard_k40_whole_more_hands_still_mee.main.body.getD i (.Pass ⟨0, 0, 0, 0⟩)
abbrev s_is_name : Stmt := topS 14
abbrev s_asked_names : Stmt := topS 15
abbrev s_asked_once : Stmt := topS 16
abbrev s_Question_init : Stmt := inClass (topS 19) 0
abbrev s_asked_of : Stmt := topS 20
abbrev s_is_led : Stmt := topS 21
abbrev s_is_held : Stmt := topS 22
abbrev s_marks_at : Stmt := topS 23
abbrev s_met : Stmt := topS 24
abbrev s_asked_cells : Stmt := topS 29
abbrev s_Board_init : Stmt := inClass (topS 30) 0
abbrev s_Board_values_of : Stmt := inClass (topS 30) 2
abbrev s_Board_first : Stmt := inClass (topS 30) 3
abbrev s_Board_asked : Stmt := inClass (topS 30) 4
abbrev s_Board_others : Stmt := inClass (topS 30) 5
abbrev s_Board_value_at : Stmt := inClass (topS 30) 7
abbrev s_asked_size : Stmt := topS 34
abbrev s_Statement_parts : Stmt := inClass (topS 35) 1
abbrev s_Statement_size : Stmt := inClass (topS 35) 2
abbrev s_OnCell_init : Stmt := inClass (topS 36) 0
abbrev s_Mark_init : Stmt := inClass (topS 39) 0
abbrev s_If_init : Stmt := inClass (topS 43) 0
abbrev s_If_parts : Stmt := inClass (topS 43) 2
abbrev s_While_init : Stmt := inClass (topS 44) 0
abbrev s_While_parts : Stmt := inClass (topS 44) 2
abbrev s_Choose_init : Stmt := inClass (topS 45) 0
abbrev s_Choose_parts : Stmt := inClass (topS 45) 2
abbrev s_Loop_init : Stmt := inClass (topS 46) 0
abbrev s_Loop_parts : Stmt := inClass (topS 46) 2
abbrev s_Program_init : Stmt := inClass (topS 47) 0
abbrev s_Program_size : Stmt := inClass (topS 47) 1
abbrev s_Program_deep : Stmt := inClass (topS 47) 2
abbrev s_looks : Stmt := topS 50
abbrev s_Machine_init : Stmt := inClass (topS 51) 0
abbrev s_Machine_number_row : Stmt := inClass (topS 51) 1
abbrev s_Machine_lay_row : Stmt := inClass (topS 51) 2
abbrev s_Machine_begin_of : Stmt := inClass (topS 51) 3
abbrev s_Machine_lay : Stmt := inClass (topS 51) 4
abbrev s_Machine_steps_of : Stmt := inClass (topS 51) 5
abbrev s_Machine_asked : Stmt := inClass (topS 51) 7
abbrev s_Machine_mark_of : Stmt := inClass (topS 51) 9
abbrev s_Machine_marks : Stmt := inClass (topS 51) 10
abbrev s_asked_many : Stmt := topS 54
abbrev s_Game_init : Stmt := inClass (topS 55) 0
abbrev s_Game_machine : Stmt := inClass (topS 55) 1
abbrev s_Game_board : Stmt := inClass (topS 55) 2
abbrev s_Game_begin : Stmt := inClass (topS 55) 4
abbrev s_law_cell_at : Stmt := topS 57
abbrev s_law_well : Stmt := topS 58
abbrev s_law_draw : Stmt := topS 59
abbrev s_law_of : Stmt := topS 60
abbrev s_law_word : Stmt := topS 61
abbrev s_law_plan : Stmt := topS 62
abbrev s_law_parts : Stmt := topS 63
abbrev s_law_length : Stmt := topS 64
abbrev s_law_statement : Stmt := topS 65
abbrev s_law_row : Stmt := topS 66
abbrev s_law_built : Stmt := topS 67
abbrev s_law_made : Stmt := topS 68
abbrev s_law_exits : Stmt := topS 69
abbrev s_law_lay : Stmt := topS 70
abbrev s_law_rooms : Stmt := topS 71
abbrev s_law_world : Stmt := topS 72
abbrev s_law_drawn : Stmt := topS 73
abbrev s_law_own : Stmt := topS 74
abbrev s_law_behind : Stmt := topS 76
abbrev s_law_open : Stmt := topS 77
abbrev s_law_nexts : Stmt := topS 78
abbrev s_law_marks : Stmt := topS 79
abbrev s_law_put_as : Stmt := topS 81
abbrev s_law_full : Stmt := topS 84
abbrev s_law_less : Stmt := topS 85
abbrev s_law_mixed : Stmt := topS 86
abbrev s_law_more : Stmt := topS 87
abbrev s_law_wrong : Stmt := topS 88
abbrev s_law : Stmt := topS 89
abbrev N_is_name : List Str := ["text", "sign"]
abbrev P_is_name : List Str := ["text"]
theorem sc_is_name : FnScope N_is_name P_is_name (defScope s_is_name) := ⟨rfl, rfl, rfl, by decide +kernel, rfl, by decide +kernel, by decide +kernel⟩
abbrev N_asked_names : List Str := ["texts", "text"]
abbrev P_asked_names : List Str := ["texts"]
theorem sc_asked_names : FnScope N_asked_names P_asked_names (defScope s_asked_names) := ⟨rfl, rfl, rfl, by decide +kernel, rfl, by decide +kernel, by decide +kernel⟩
abbrev N_asked_once : List Str := ["names", "seen", "name"]
abbrev P_asked_once : List Str := ["names"]
theorem sc_asked_once : FnScope N_asked_once P_asked_once (defScope s_asked_once) := ⟨rfl, rfl, rfl, by decide +kernel, rfl, by decide +kernel, by decide +kernel⟩
abbrev N_Question_init : List Str := ["self", "lead", "follows", "holds", "cell", "value"]
abbrev P_Question_init : List Str := ["self", "lead", "follows", "holds"]
theorem sc_Question_init : FnScope N_Question_init P_Question_init (defScope s_Question_init) := ⟨rfl, rfl, rfl, by decide +kernel, rfl, by decide +kernel, by decide +kernel⟩
abbrev N_asked_of : List Str := ["game", "question", "known", "name", "cell", "value"]
abbrev P_asked_of : List Str := ["game", "question"]
theorem sc_asked_of : FnScope N_asked_of P_asked_of (defScope s_asked_of) := ⟨rfl, rfl, rfl, by decide +kernel, rfl, by decide +kernel, by decide +kernel⟩
abbrev N_is_led : List Str := ["game", "question", "room"]
abbrev P_is_led : List Str := ["game", "question", "room"]
theorem sc_is_led : FnScope N_is_led P_is_led (defScope s_is_led) := ⟨rfl, rfl, rfl, by decide +kernel, rfl, by decide +kernel, by decide +kernel⟩
abbrev N_is_held : List Str := ["game", "question", "state", "cell", "value"]
abbrev P_is_held : List Str := ["game", "question", "state"]
theorem sc_is_held : FnScope N_is_held P_is_held (defScope s_is_held) := ⟨rfl, rfl, rfl, by decide +kernel, rfl, by decide +kernel, by decide +kernel⟩
abbrev N_marks_at : List Str := ["game", "rooms", "room"]
abbrev P_marks_at : List Str := ["game", "rooms"]
theorem sc_marks_at : FnScope N_marks_at P_marks_at (defScope s_marks_at) := ⟨rfl, rfl, rfl, by decide +kernel, rfl, by decide +kernel, by decide +kernel⟩
abbrev N_met : List Str := ["game", "question", "standing", "room", "state", "rooms", "marks", "name"]
abbrev P_met : List Str := ["game", "question", "standing"]
theorem sc_met : FnScope N_met P_met (defScope s_met) := ⟨rfl, rfl, rfl, by decide +kernel, rfl, by decide +kernel, by decide +kernel⟩
abbrev N_asked_cells : List Str := ["cells", "name", "values"]
abbrev P_asked_cells : List Str := ["cells"]
theorem sc_asked_cells : FnScope N_asked_cells P_asked_cells (defScope s_asked_cells) := ⟨rfl, rfl, rfl, by decide +kernel, rfl, by decide +kernel, by decide +kernel⟩
abbrev N_Board_init : List Str := ["self", "cells", "name", "values"]
abbrev P_Board_init : List Str := ["self", "cells"]
theorem sc_Board_init : FnScope N_Board_init P_Board_init (defScope s_Board_init) := ⟨rfl, rfl, rfl, by decide +kernel, rfl, by decide +kernel, by decide +kernel⟩
abbrev N_Board_values_of : List Str := ["self", "cell"]
abbrev P_Board_values_of : List Str := ["self", "cell"]
theorem sc_Board_values_of : FnScope N_Board_values_of P_Board_values_of (defScope s_Board_values_of) := ⟨rfl, rfl, rfl, by decide +kernel, rfl, by decide +kernel, by decide +kernel⟩
abbrev N_Board_first : List Str := ["self", "name"]
abbrev P_Board_first : List Str := ["self"]
theorem sc_Board_first : FnScope N_Board_first P_Board_first (defScope s_Board_first) := ⟨rfl, rfl, rfl, by decide +kernel, rfl, by decide +kernel, by decide +kernel⟩
abbrev N_Board_asked : List Str := ["self", "cell", "value"]
abbrev P_Board_asked : List Str := ["self", "cell", "value"]
theorem sc_Board_asked : FnScope N_Board_asked P_Board_asked (defScope s_Board_asked) := ⟨rfl, rfl, rfl, by decide +kernel, rfl, by decide +kernel, by decide +kernel⟩
abbrev N_Board_others : List Str := ["self", "cell", "value", "one"]
abbrev P_Board_others : List Str := ["self", "cell", "value"]
theorem sc_Board_others : FnScope N_Board_others P_Board_others (defScope s_Board_others) := ⟨rfl, rfl, rfl, by decide +kernel, rfl, by decide +kernel, by decide +kernel⟩
abbrev N_Board_value_at : List Str := ["self", "state", "cell"]
abbrev P_Board_value_at : List Str := ["self", "state", "cell"]
theorem sc_Board_value_at : FnScope N_Board_value_at P_Board_value_at (defScope s_Board_value_at) := ⟨rfl, rfl, rfl, by decide +kernel, rfl, by decide +kernel, by decide +kernel⟩
abbrev N_asked_size : List Str := ["size", "deep"]
abbrev P_asked_size : List Str := ["size", "deep"]
theorem sc_asked_size : FnScope N_asked_size P_asked_size (defScope s_asked_size) := ⟨rfl, rfl, rfl, by decide +kernel, rfl, by decide +kernel, by decide +kernel⟩
abbrev N_Statement_parts : List Str := ["self"]
abbrev P_Statement_parts : List Str := ["self"]
theorem sc_Statement_parts : FnScope N_Statement_parts P_Statement_parts (defScope s_Statement_parts) := ⟨rfl, rfl, rfl, by decide +kernel, rfl, by decide +kernel, by decide +kernel⟩
abbrev N_Statement_size : List Str := ["self", "part"]
abbrev P_Statement_size : List Str := ["self"]
theorem sc_Statement_size : FnScope N_Statement_size P_Statement_size (defScope s_Statement_size) := ⟨rfl, rfl, rfl, by decide +kernel, rfl, by decide +kernel, by decide +kernel⟩
abbrev N_OnCell_init : List Str := ["self", "cell", "value"]
abbrev P_OnCell_init : List Str := ["self", "cell", "value"]
theorem sc_OnCell_init : FnScope N_OnCell_init P_OnCell_init (defScope s_OnCell_init) := ⟨rfl, rfl, rfl, by decide +kernel, rfl, by decide +kernel, by decide +kernel⟩
abbrev N_Mark_init : List Str := ["self", "name"]
abbrev P_Mark_init : List Str := ["self", "name"]
theorem sc_Mark_init : FnScope N_Mark_init P_Mark_init (defScope s_Mark_init) := ⟨rfl, rfl, rfl, by decide +kernel, rfl, by decide +kernel, by decide +kernel⟩
abbrev N_If_init : List Str := ["self", "cell", "value", "yes", "no"]
abbrev P_If_init : List Str := ["self", "cell", "value", "yes", "no"]
theorem sc_If_init : FnScope N_If_init P_If_init (defScope s_If_init) := ⟨rfl, rfl, rfl, by decide +kernel, rfl, by decide +kernel, by decide +kernel⟩
abbrev N_If_parts : List Str := ["self"]
abbrev P_If_parts : List Str := ["self"]
theorem sc_If_parts : FnScope N_If_parts P_If_parts (defScope s_If_parts) := ⟨rfl, rfl, rfl, by decide +kernel, rfl, by decide +kernel, by decide +kernel⟩
abbrev N_While_init : List Str := ["self", "cell", "value", "body"]
abbrev P_While_init : List Str := ["self", "cell", "value", "body"]
theorem sc_While_init : FnScope N_While_init P_While_init (defScope s_While_init) := ⟨rfl, rfl, rfl, by decide +kernel, rfl, by decide +kernel, by decide +kernel⟩
abbrev N_While_parts : List Str := ["self"]
abbrev P_While_parts : List Str := ["self"]
theorem sc_While_parts : FnScope N_While_parts P_While_parts (defScope s_While_parts) := ⟨rfl, rfl, rfl, by decide +kernel, rfl, by decide +kernel, by decide +kernel⟩
abbrev N_Choose_init : List Str := ["self", "one", "other"]
abbrev P_Choose_init : List Str := ["self", "one", "other"]
theorem sc_Choose_init : FnScope N_Choose_init P_Choose_init (defScope s_Choose_init) := ⟨rfl, rfl, rfl, by decide +kernel, rfl, by decide +kernel, by decide +kernel⟩
abbrev N_Choose_parts : List Str := ["self"]
abbrev P_Choose_parts : List Str := ["self"]
theorem sc_Choose_parts : FnScope N_Choose_parts P_Choose_parts (defScope s_Choose_parts) := ⟨rfl, rfl, rfl, by decide +kernel, rfl, by decide +kernel, by decide +kernel⟩
abbrev N_Loop_init : List Str := ["self", "body"]
abbrev P_Loop_init : List Str := ["self", "body"]
theorem sc_Loop_init : FnScope N_Loop_init P_Loop_init (defScope s_Loop_init) := ⟨rfl, rfl, rfl, by decide +kernel, rfl, by decide +kernel, by decide +kernel⟩
abbrev N_Loop_parts : List Str := ["self"]
abbrev P_Loop_parts : List Str := ["self"]
theorem sc_Loop_parts : FnScope N_Loop_parts P_Loop_parts (defScope s_Loop_parts) := ⟨rfl, rfl, rfl, by decide +kernel, rfl, by decide +kernel, by decide +kernel⟩
abbrev N_Program_init : List Str := ["self", "statements"]
abbrev P_Program_init : List Str := ["self", "statements"]
theorem sc_Program_init : FnScope N_Program_init P_Program_init (defScope s_Program_init) := ⟨rfl, rfl, rfl, by decide +kernel, rfl, by decide +kernel, by decide +kernel⟩
abbrev N_Program_size : List Str := ["self", "statement"]
abbrev P_Program_size : List Str := ["self"]
theorem sc_Program_size : FnScope N_Program_size P_Program_size (defScope s_Program_size) := ⟨rfl, rfl, rfl, by decide +kernel, rfl, by decide +kernel, by decide +kernel⟩
abbrev N_Program_deep : List Str := ["self", "found", "statement", "part"]
abbrev P_Program_deep : List Str := ["self"]
theorem sc_Program_deep : FnScope N_Program_deep P_Program_deep (defScope s_Program_deep) := ⟨rfl, rfl, rfl, by decide +kernel, rfl, by decide +kernel, by decide +kernel⟩
abbrev N_looks : List Str := ["board", "statement", "then", "other", "found", "value"]
abbrev P_looks : List Str := ["board", "statement", "then", "other"]
theorem sc_looks : FnScope N_looks P_looks (defScope s_looks) := ⟨rfl, rfl, rfl, by decide +kernel, rfl, by decide +kernel, by decide +kernel⟩
abbrev N_Machine_init : List Str := ["self", "board", "program", "statement"]
abbrev P_Machine_init : List Str := ["self", "board", "program"]
theorem sc_Machine_init : FnScope N_Machine_init P_Machine_init (defScope s_Machine_init) := ⟨rfl, rfl, rfl, by decide +kernel, rfl, by decide +kernel, by decide +kernel⟩
abbrev N_Machine_number_row : List Str := ["self", "program", "statement", "part"]
abbrev P_Machine_number_row : List Str := ["self", "program"]
theorem sc_Machine_number_row : FnScope N_Machine_number_row P_Machine_number_row (defScope s_Machine_number_row) := ⟨rfl, rfl, rfl, by decide +kernel, rfl, by decide +kernel, by decide +kernel⟩
abbrev N_Machine_lay_row : List Str := ["self", "program", "first", "behind", "at", "k", "statement", "after", "goal"]
abbrev P_Machine_lay_row : List Str := ["self", "program", "first", "behind"]
theorem sc_Machine_lay_row : FnScope N_Machine_lay_row P_Machine_lay_row (defScope s_Machine_lay_row) := ⟨rfl, rfl, rfl, by decide +kernel, rfl, by decide +kernel, by decide +kernel⟩
abbrev N_Machine_begin_of : List Str := ["self", "program", "first", "behind"]
abbrev P_Machine_begin_of : List Str := ["self", "program", "first", "behind"]
theorem sc_Machine_begin_of : FnScope N_Machine_begin_of P_Machine_begin_of (defScope s_Machine_begin_of) := ⟨rfl, rfl, rfl, by decide +kernel, rfl, by decide +kernel, by decide +kernel⟩
abbrev N_Machine_lay : List Str := ["self", "statement", "at", "goal", "begins", "inner", "back", "part"]
abbrev P_Machine_lay : List Str := ["self", "statement", "at", "goal"]
theorem sc_Machine_lay : FnScope N_Machine_lay P_Machine_lay (defScope s_Machine_lay) := ⟨rfl, rfl, rfl, by decide +kernel, rfl, by decide +kernel, by decide +kernel⟩
abbrev N_Machine_steps_of : List Str := ["self", "statement", "begins", "goal", "begin"]
abbrev P_Machine_steps_of : List Str := ["self", "statement", "begins", "goal"]
theorem sc_Machine_steps_of : FnScope N_Machine_steps_of P_Machine_steps_of (defScope s_Machine_steps_of) := ⟨rfl, rfl, rfl, by decide +kernel, rfl, by decide +kernel, by decide +kernel⟩
abbrev N_Machine_asked : List Str := ["self", "room"]
abbrev P_Machine_asked : List Str := ["self", "room"]
theorem sc_Machine_asked : FnScope N_Machine_asked P_Machine_asked (defScope s_Machine_asked) := ⟨rfl, rfl, rfl, by decide +kernel, rfl, by decide +kernel, by decide +kernel⟩
abbrev N_Machine_mark_of : List Str := ["self", "room"]
abbrev P_Machine_mark_of : List Str := ["self", "room"]
theorem sc_Machine_mark_of : FnScope N_Machine_mark_of P_Machine_mark_of (defScope s_Machine_mark_of) := ⟨rfl, rfl, rfl, by decide +kernel, rfl, by decide +kernel, by decide +kernel⟩
abbrev N_Machine_marks : List Str := ["self", "found", "statement"]
abbrev P_Machine_marks : List Str := ["self"]
theorem sc_Machine_marks : FnScope N_Machine_marks P_Machine_marks (defScope s_Machine_marks) := ⟨rfl, rfl, rfl, by decide +kernel, rfl, by decide +kernel, by decide +kernel⟩
abbrev N_asked_many : List Str := ["many", "most"]
abbrev P_asked_many : List Str := ["many", "most"]
theorem sc_asked_many : FnScope N_asked_many P_asked_many (defScope s_asked_many) := ⟨rfl, rfl, rfl, by decide +kernel, rfl, by decide +kernel, by decide +kernel⟩
abbrev N_Game_init : List Str := ["self", "board", "leader", "follower"]
abbrev P_Game_init : List Str := ["self", "board", "leader", "follower"]
theorem sc_Game_init : FnScope N_Game_init P_Game_init (defScope s_Game_init) := ⟨rfl, rfl, rfl, by decide +kernel, rfl, by decide +kernel, by decide +kernel⟩
abbrev N_Game_machine : List Str := ["self", "which"]
abbrev P_Game_machine : List Str := ["self", "which"]
theorem sc_Game_machine : FnScope N_Game_machine P_Game_machine (defScope s_Game_machine) := ⟨rfl, rfl, rfl, by decide +kernel, rfl, by decide +kernel, by decide +kernel⟩
abbrev N_Game_board : List Str := ["self"]
abbrev P_Game_board : List Str := ["self"]
theorem sc_Game_board : FnScope N_Game_board P_Game_board (defScope s_Game_board) := ⟨rfl, rfl, rfl, by decide +kernel, rfl, by decide +kernel, by decide +kernel⟩
abbrev N_Game_begin : List Str := ["self", "many"]
abbrev P_Game_begin : List Str := ["self", "many"]
theorem sc_Game_begin : FnScope N_Game_begin P_Game_begin (defScope s_Game_begin) := ⟨rfl, rfl, rfl, by decide +kernel, rfl, by decide +kernel, by decide +kernel⟩
abbrev N_law_cell_at : List Str := ["_law_script", "_law_k"]
abbrev P_law_cell_at : List Str := ["_law_script", "_law_k"]
theorem sc_law_cell_at : FnScope N_law_cell_at P_law_cell_at (defScope s_law_cell_at) := ⟨rfl, rfl, rfl, by decide +kernel, rfl, by decide +kernel, by decide +kernel⟩
abbrev N_law_well : List Str := ["_law_cell"]
abbrev P_law_well : List Str := ["_law_cell"]
theorem sc_law_well : FnScope N_law_well P_law_well (defScope s_law_well) := ⟨rfl, rfl, rfl, by decide +kernel, rfl, by decide +kernel, by decide +kernel⟩
abbrev N_law_draw : List Str := ["_law_well_here", "_law_many", "_law_digit", "_law_prime", "_law_number"]
abbrev P_law_draw : List Str := ["_law_well_here", "_law_many"]
theorem sc_law_draw : FnScope N_law_draw P_law_draw (defScope s_law_draw) := ⟨rfl, rfl, rfl, by decide +kernel, rfl, by decide +kernel, by decide +kernel⟩
abbrev N_law_of : List Str := ["_law_well_here", "_law_some"]
abbrev P_law_of : List Str := ["_law_well_here", "_law_some"]
theorem sc_law_of : FnScope N_law_of P_law_of (defScope s_law_of) := ⟨rfl, rfl, rfl, by decide +kernel, rfl, by decide +kernel, by decide +kernel⟩
abbrev N_law_word : List Str := ["_law_well_here", "_law_taken", "_law_signs", "_law_name", "_law_kind", "_law_k", "_law_some", "_law_one"]
abbrev P_law_word : List Str := ["_law_well_here", "_law_taken"]
theorem sc_law_word : FnScope N_law_word P_law_word (defScope s_law_word) := ⟨rfl, rfl, rfl, by decide +kernel, rfl, by decide +kernel, by decide +kernel⟩
abbrev N_law_plan : List Str := ["_law_well_here", "_law_most", "_law_found", "_law_k", "_law_values", "_law_j", "_law_cell"]
abbrev P_law_plan : List Str := ["_law_well_here", "_law_most"]
theorem sc_law_plan : FnScope N_law_plan P_law_plan (defScope s_law_plan) := ⟨rfl, rfl, rfl, by decide +kernel, rfl, by decide +kernel, by decide +kernel⟩
abbrev N_law_parts : List Str := ["_law_one"]
abbrev P_law_parts : List Str := ["_law_one"]
theorem sc_law_parts : FnScope N_law_parts P_law_parts (defScope s_law_parts) := ⟨rfl, rfl, rfl, by decide +kernel, rfl, by decide +kernel, by decide +kernel⟩
abbrev N_law_length : List Str := ["_law_row_here", "_law_one", "_law_part"]
abbrev P_law_length : List Str := ["_law_row_here"]
theorem sc_law_length : FnScope N_law_length P_law_length (defScope s_law_length) := ⟨rfl, rfl, rfl, by decide +kernel, rfl, by decide +kernel, by decide +kernel⟩
abbrev N_law_statement : List Str := ["_law_well_here", "_law_plan_here", "_law_marks_here", "_law_size", "_law_cell", "_law_values", "_law_value", "_law_kind", "_law_one", "_law_other", "_law_yes", "_law_first_here"]
abbrev P_law_statement : List Str := ["_law_well_here", "_law_plan_here", "_law_marks_here", "_law_size"]
theorem sc_law_statement : FnScope N_law_statement P_law_statement (defScope s_law_statement) := ⟨rfl, rfl, rfl, by decide +kernel, rfl, by decide +kernel, by decide +kernel⟩
abbrev N_law_row : List Str := ["_law_well_here", "_law_plan_here", "_law_marks_here", "_law_size", "_law_found", "_law_k", "_law_free"]
abbrev P_law_row : List Str := ["_law_well_here", "_law_plan_here", "_law_marks_here", "_law_size"]
theorem sc_law_row : FnScope N_law_row P_law_row (defScope s_law_row) := ⟨rfl, rfl, rfl, by decide +kernel, rfl, by decide +kernel, by decide +kernel⟩
abbrev N_law_built : List Str := ["_law_one", "_law_some", "_law_part"]
abbrev P_law_built : List Str := ["_law_one"]
theorem sc_law_built : FnScope N_law_built P_law_built (defScope s_law_built) := ⟨rfl, rfl, rfl, by decide +kernel, rfl, by decide +kernel, by decide +kernel⟩
abbrev N_law_made : List Str := ["_law_row_here", "_law_one"]
abbrev P_law_made : List Str := ["_law_row_here"]
theorem sc_law_made : FnScope N_law_made P_law_made (defScope s_law_made) := ⟨rfl, rfl, rfl, by decide +kernel, rfl, by decide +kernel, by decide +kernel⟩
abbrev N_law_exits : List Str := ["_law_plan_here", "_law_one", "_law_begins", "_law_goal", "_law_found", "_law_value", "_law_begin"]
abbrev P_law_exits : List Str := ["_law_plan_here", "_law_one", "_law_begins", "_law_goal"]
theorem sc_law_exits : FnScope N_law_exits P_law_exits (defScope s_law_exits) := ⟨rfl, rfl, rfl, by decide +kernel, rfl, by decide +kernel, by decide +kernel⟩
abbrev N_law_lay : List Str := ["_law_plan_here", "_law_row_here", "_law_first_here", "_law_behind_here", "_law_found", "_law_at", "_law_k", "_law_one", "_law_goal", "_law_back", "_law_begins", "_law_inner", "_law_part"]
abbrev P_law_lay : List Str := ["_law_plan_here", "_law_row_here", "_law_first_here", "_law_behind_here", "_law_found"]
theorem sc_law_lay : FnScope N_law_lay P_law_lay (defScope s_law_lay) := ⟨rfl, rfl, rfl, by decide +kernel, rfl, by decide +kernel, by decide +kernel⟩
abbrev N_law_rooms : List Str := ["_law_plan_here", "_law_row_here", "_law_last", "_law_found", "_law_room"]
abbrev P_law_rooms : List Str := ["_law_plan_here", "_law_row_here"]
theorem sc_law_rooms : FnScope N_law_rooms P_law_rooms (defScope s_law_rooms) := ⟨rfl, rfl, rfl, by decide +kernel, rfl, by decide +kernel, by decide +kernel⟩
abbrev N_law_world : List Str := ["_law_plan_here", "_law_rows", "_law_row_here"]
abbrev P_law_world : List Str := ["_law_plan_here", "_law_rows"]
theorem sc_law_world : FnScope N_law_world P_law_world (defScope s_law_world) := ⟨rfl, rfl, rfl, by decide +kernel, rfl, by decide +kernel, by decide +kernel⟩
abbrev N_law_drawn : List Str := ["_law_well_here", "_law_cells", "_law_sizes", "_law_plan_here", "_law_marks_here", "_law_rows", "_law_most"]
abbrev P_law_drawn : List Str := ["_law_well_here", "_law_cells", "_law_sizes"]
theorem sc_law_drawn : FnScope N_law_drawn P_law_drawn (defScope s_law_drawn) := ⟨rfl, rfl, rfl, by decide +kernel, rfl, by decide +kernel, by decide +kernel⟩
abbrev N_law_own : List Str := ["_law_g", "_law_board", "_law_cell", "_law_values"]
abbrev P_law_own : List Str := ["_law_g"]
theorem sc_law_own : FnScope N_law_own P_law_own (defScope s_law_own) := ⟨rfl, rfl, rfl, by decide +kernel, rfl, by decide +kernel, by decide +kernel⟩
abbrev N_law_behind : List Str := ["_law_g", "_law_state", "_law_act", "_law_at", "_law_cell", "_law_values"]
abbrev P_law_behind : List Str := ["_law_g", "_law_state", "_law_act"]
theorem sc_law_behind : FnScope N_law_behind P_law_behind (defScope s_law_behind) := ⟨rfl, rfl, rfl, by decide +kernel, rfl, by decide +kernel, by decide +kernel⟩
abbrev N_law_open : List Str := ["_law_g", "_law_which", "_law_room", "_law_state", "_law_found", "_law_number", "_law_act", "_law_goal", "_law_later"]
abbrev P_law_open : List Str := ["_law_g", "_law_which", "_law_room", "_law_state"]
theorem sc_law_open : FnScope N_law_open P_law_open (defScope s_law_open) := ⟨rfl, rfl, rfl, by decide +kernel, rfl, by decide +kernel, by decide +kernel⟩
abbrev N_law_nexts : List Str := ["_law_g", "_law_spot", "_law_room", "_law_state", "_law_rooms_here", "_law_found", "_law_at", "_law_here", "_law_number", "_law_goal", "_law_later"]
abbrev P_law_nexts : List Str := ["_law_g", "_law_spot"]
theorem sc_law_nexts : FnScope N_law_nexts P_law_nexts (defScope s_law_nexts) := ⟨rfl, rfl, rfl, by decide +kernel, rfl, by decide +kernel, by decide +kernel⟩
abbrev N_law_marks : List Str := ["_law_g", "_law_which", "_law_mark", "_law_some"]
abbrev P_law_marks : List Str := ["_law_g", "_law_which"]
theorem sc_law_marks : FnScope N_law_marks P_law_marks (defScope s_law_marks) := ⟨rfl, rfl, rfl, by decide +kernel, rfl, by decide +kernel, by decide +kernel⟩
abbrev N_law_put_as : List Str := ["_law_q"]
abbrev P_law_put_as : List Str := ["_law_q"]
theorem sc_law_put_as : FnScope N_law_put_as P_law_put_as (defScope s_law_put_as) := ⟨rfl, rfl, rfl, by decide +kernel, rfl, by decide +kernel, by decide +kernel⟩
abbrev N_law_full : List Str := ["_law_g", "_law_spot", "_law_room", "_law_state", "_law_rooms_here", "_law_some", "_law_one", "_law_cell", "_law_value", "_law_values"]
abbrev P_law_full : List Str := ["_law_g", "_law_spot"]
theorem sc_law_full : FnScope N_law_full P_law_full (defScope s_law_full) := ⟨rfl, rfl, rfl, by decide +kernel, rfl, by decide +kernel, by decide +kernel⟩
abbrev N_law_less : List Str := ["_law_well_here", "_law_q", "_law_head", "_law_some", "_law_pairs", "_law_k", "_law_at"]
abbrev P_law_less : List Str := ["_law_well_here", "_law_q"]
theorem sc_law_less : FnScope N_law_less P_law_less (defScope s_law_less) := ⟨rfl, rfl, rfl, by decide +kernel, rfl, by decide +kernel, by decide +kernel⟩
abbrev N_law_mixed : List Str := ["_law_well_here", "_law_some", "_law_free", "_law_found", "_law_k"]
abbrev P_law_mixed : List Str := ["_law_well_here", "_law_some"]
theorem sc_law_mixed : FnScope N_law_mixed P_law_mixed (defScope s_law_mixed) := ⟨rfl, rfl, rfl, by decide +kernel, rfl, by decide +kernel, by decide +kernel⟩
abbrev N_law_more : List Str := ["_law_well_here", "_law_g", "_law_spot", "_law_room", "_law_state", "_law_rooms_here", "_law_found", "_law_k"]
abbrev P_law_more : List Str := ["_law_well_here", "_law_g", "_law_spot"]
theorem sc_law_more : FnScope N_law_more P_law_more (defScope s_law_more) := ⟨rfl, rfl, rfl, by decide +kernel, rfl, by decide +kernel, by decide +kernel⟩
abbrev N_law_wrong : List Str := ["_law_well_here", "_law_g", "_law_spot", "_law_head", "_law_some", "_law_pairs", "_law_there", "_law_found", "_law_name", "_law_cell", "_law_values", "_law_one", "_law_value"]
abbrev P_law_wrong : List Str := ["_law_well_here", "_law_g", "_law_spot"]
theorem sc_law_wrong : FnScope N_law_wrong P_law_wrong (defScope s_law_wrong) := ⟨rfl, rfl, rfl, by decide +kernel, rfl, by decide +kernel, by decide +kernel⟩
abbrev N_law : List Str := ["_law_script", "_law_cell", "_law_well_here", "_law_g", "_law_own_here", "_law_spot", "_law_k", "_law_some", "_law_q", "_law_other", "_law_ask"]
abbrev P_law : List Str := ["_law_script"]
theorem sc_law : FnScope N_law P_law (defScope s_law) := ⟨rfl, rfl, rfl, by decide +kernel, rfl, by decide +kernel, by decide +kernel⟩
/-- the class at a name of the module -/
abbrev cA (K : PySem.W.Frag) (x : Str) : Addr := He.ga K x
/-- the classes of statements -/
inductive Cl where
  | write | wait | mark | skip | stop | ife | whl | cho | lop
  deriving DecidableEq
def cn : Cl → Str
  | .write => "Write"
  | .wait => "Wait"
  | .mark => "Mark"
  | .skip => "Skip"
  | .stop => "Stop"
  | .ife => "If"
  | .whl => "While"
  | .cho => "Choose"
  | .lop => "Loop"
abbrev cS (K : PySem.W.Frag) (c : Cl) : Addr := cA K (cn c)
def Stm.cl : Stm → Cl
  | .wr _ _ => .write
  | .wt _ _ => .wait
  | .mk _ => .mark
  | .sk => .skip
  | .st => .stop
  | .ie _ _ _ _ => .ife
  | .wh _ _ _ => .whl
  | .ch _ _ => .cho
  | .lo _ => .lop
abbrev partsS : Cl → Stmt
  | .ife => s_If_parts
  | .whl => s_While_parts
  | .cho => s_Choose_parts
  | .lop => s_Loop_parts
  | _ => s_Statement_parts
abbrev partsQ : Cl → Str
  | .ife => "If.parts"
  | .whl => "While.parts"
  | .cho => "Choose.parts"
  | .lop => "Loop.parts"
  | _ => "Statement.parts"
/-- isinstance may ask for the class at C -/
structure IsF (K : PySem.W.Frag) (C : Addr) : Prop where
  ha : PySem.W.findIn K (.ref C) "__class__" = some (some (.builtin "object.__class__"))
  hn : PySem.W.specialIn K (.builtin "object.__class__") "__get__" = some (some (.builtin "getset_descriptor.__get__"))
  tk : PySem.W.takesIn K (.builtin "object.__class__") = some true
  ro : PySem.W.mroIn K C (.type "object") = some true
structure Txt (K : PySem.W.Frag) (mg : Str → Option Value) : Prop where
  f_len : mg "len" = none
  f_all : mg "all" = none
  f_range : mg "range" = none
  f_enumerate : mg "enumerate" = none
  f_zip : mg "zip" = none
  f_sum : mg "sum" = none
  f_max : mg "max" = none
  f_int : mg "int" = none
  f_str : mg "str" = none
  f_list : mg "list" = none
  f_tuple : mg "tuple" = none
  f_sorted : mg "sorted" = none
  f_set : mg "set" = none
  f_dict : mg "dict" = none
  f_isinstance : mg "isinstance" = none
  k_LETTERS : ∃ t, mg "LETTERS" = some (.str "abcdefghijklmnopqrstuvwxyz" t)
  k_FIGURES : ∃ t, mg "FIGURES" = some (.str "0123456789" t)
  k_LONGEST : ∃ t, mg "LONGEST" = some (.int 10 t)
  k_MOST_FOLLOWS : ∃ t, mg "MOST_FOLLOWS" = some (.int 6 t)
  k_MOST_CELLS : ∃ t, mg "MOST_CELLS" = some (.int 3 t)
  k_LEAST_VALUES : ∃ t, mg "LEAST_VALUES" = some (.int 2 t)
  k_MOST_VALUES : ∃ t, mg "MOST_VALUES" = some (.int 4 t)
  k_MOST_STATEMENTS : ∃ t, mg "MOST_STATEMENTS" = some (.int 24 t)
  k_MOST_DEEP : ∃ t, mg "MOST_DEEP" = some (.int 6 t)
  k_MOST_FOLLOWERS : ∃ t, mg "MOST_FOLLOWERS" = some (.int 400 t)
  k_GO : mg "GO" = some (.ref (cA K "GO"))
  g_Question : mg "Question" = some (.ref (cA K "Question"))
  g_Board : mg "Board" = some (.ref (cA K "Board"))
  g_Program : mg "Program" = some (.ref (cA K "Program"))
  g_Machine : mg "Machine" = some (.ref (cA K "Machine"))
  g_Game : mg "Game" = some (.ref (cA K "Game"))
  g_OnCell : mg "OnCell" = some (.ref (cA K "OnCell"))
  g_Write : mg "Write" = some (.ref (cA K "Write"))
  g_Wait : mg "Wait" = some (.ref (cA K "Wait"))
  g_Mark : mg "Mark" = some (.ref (cA K "Mark"))
  g_Skip : mg "Skip" = some (.ref (cA K "Skip"))
  g_Stop : mg "Stop" = some (.ref (cA K "Stop"))
  g_If : mg "If" = some (.ref (cA K "If"))
  g_While : mg "While" = some (.ref (cA K "While"))
  g_Choose : mg "Choose" = some (.ref (cA K "Choose"))
  g_Loop : mg "Loop" = some (.ref (cA K "Loop"))
  cl_Question : Cls K (cA K "Question")
  cl_Board : Cls K (cA K "Board")
  cl_Program : Cls K (cA K "Program")
  cl_Machine : Cls K (cA K "Machine")
  cl_Game : Cls K (cA K "Game")
  clS : ∀ c : Cl, Cls K (cS K c)
  n_Question_lead : NoAttr K (cA K "Question") "lead"
  n_Question_follows : NoAttr K (cA K "Question") "follows"
  n_Question_holds : NoAttr K (cA K "Question") "holds"
  n_Board_names : NoAttr K (cA K "Board") "names"
  n_Board_rows : NoAttr K (cA K "Board") "rows"
  n_Program_row : NoAttr K (cA K "Program") "row"
  n_Machine_plan : NoAttr K (cA K "Machine") "plan"
  n_Machine_text : NoAttr K (cA K "Machine") "text"
  n_Machine_places : NoAttr K (cA K "Machine") "places"
  n_Machine_exits : NoAttr K (cA K "Machine") "exits"
  n_Game_plan : NoAttr K (cA K "Game") "plan"
  n_Game_hands : NoAttr K (cA K "Game") "hands"
  n_Game_texts : NoAttr K (cA K "Game") "texts"
  nS_cell : ∀ c : Cl, NoAttr K (cS K c) "cell"
  nS_value : ∀ c : Cl, NoAttr K (cS K c) "value"
  nS_name : ∀ c : Cl, NoAttr K (cS K c) "name"
  nS_yes : ∀ c : Cl, NoAttr K (cS K c) "yes"
  nS_no : ∀ c : Cl, NoAttr K (cS K c) "no"
  nS_body : ∀ c : Cl, NoAttr K (cS K c) "body"
  nS_one : ∀ c : Cl, NoAttr K (cS K c) "one"
  nS_other : ∀ c : Cl, NoAttr K (cS K c) "other"
  fn_is_name : Fn1 K mg "is_name" s_is_name P_is_name
  fn_asked_names : Fn1 K mg "asked_names" s_asked_names P_asked_names
  fn_asked_once : Fn1 K mg "asked_once" s_asked_once P_asked_once
  fn_asked_of : Fn1 K mg "asked_of" s_asked_of P_asked_of
  fn_is_led : Fn1 K mg "is_led" s_is_led P_is_led
  fn_is_held : Fn1 K mg "is_held" s_is_held P_is_held
  fn_marks_at : Fn1 K mg "marks_at" s_marks_at P_marks_at
  fn_met : Fn1 K mg "met" s_met P_met
  fn_asked_cells : Fn1 K mg "asked_cells" s_asked_cells P_asked_cells
  fn_asked_size : Fn1 K mg "asked_size" s_asked_size P_asked_size
  fn_looks : Fn1 K mg "looks" s_looks P_looks
  fn_asked_many : Fn1 K mg "asked_many" s_asked_many P_asked_many
  fn_law_cell_at : Fn1 K mg "_law_cell_at" s_law_cell_at P_law_cell_at
  fn_law_well : Fn1 K mg "_law_well" s_law_well P_law_well
  fn_law_draw : Fn1 K mg "_law_draw" s_law_draw P_law_draw
  fn_law_of : Fn1 K mg "_law_of" s_law_of P_law_of
  fn_law_word : Fn1 K mg "_law_word" s_law_word P_law_word
  fn_law_plan : Fn1 K mg "_law_plan" s_law_plan P_law_plan
  fn_law_parts : Fn1 K mg "_law_parts" s_law_parts P_law_parts
  fn_law_length : Fn1 K mg "_law_length" s_law_length P_law_length
  fn_law_statement : Fn1 K mg "_law_statement" s_law_statement P_law_statement
  fn_law_row : Fn1 K mg "_law_row" s_law_row P_law_row
  fn_law_built : Fn1 K mg "_law_built" s_law_built P_law_built
  fn_law_made : Fn1 K mg "_law_made" s_law_made P_law_made
  fn_law_exits : Fn1 K mg "_law_exits" s_law_exits P_law_exits
  fn_law_lay : Fn1 K mg "_law_lay" s_law_lay P_law_lay
  fn_law_rooms : Fn1 K mg "_law_rooms" s_law_rooms P_law_rooms
  fn_law_world : Fn1 K mg "_law_world" s_law_world P_law_world
  fn_law_drawn : Fn1 K mg "_law_drawn" s_law_drawn P_law_drawn
  fn_law_own : Fn1 K mg "_law_own" s_law_own P_law_own
  fn_law_behind : Fn1 K mg "_law_behind" s_law_behind P_law_behind
  fn_law_open : Fn1 K mg "_law_open" s_law_open P_law_open
  fn_law_nexts : Fn1 K mg "_law_nexts" s_law_nexts P_law_nexts
  fn_law_marks : Fn1 K mg "_law_marks" s_law_marks P_law_marks
  fn_law_put_as : Fn1 K mg "_law_put_as" s_law_put_as P_law_put_as
  fn_law_full : Fn1 K mg "_law_full" s_law_full P_law_full
  fn_law_less : Fn1 K mg "_law_less" s_law_less P_law_less
  fn_law_mixed : Fn1 K mg "_law_mixed" s_law_mixed P_law_mixed
  fn_law_more : Fn1 K mg "_law_more" s_law_more P_law_more
  fn_law_wrong : Fn1 K mg "_law_wrong" s_law_wrong P_law_wrong
  fn_law : Fn1 K mg "law" s_law P_law
  mt_Board_values_of : Mt1 K (cA K "Board") "values_of" "Board.values_of" s_Board_values_of P_Board_values_of
  mt_Board_first : Mt1 K (cA K "Board") "first" "Board.first" s_Board_first P_Board_first
  mt_Board_asked : Mt1 K (cA K "Board") "asked" "Board.asked" s_Board_asked P_Board_asked
  mt_Board_others : Mt1 K (cA K "Board") "others" "Board.others" s_Board_others P_Board_others
  mt_Board_value_at : Mt1 K (cA K "Board") "value_at" "Board.value_at" s_Board_value_at P_Board_value_at
  mt_Program_size : Mt1 K (cA K "Program") "size" "Program.size" s_Program_size P_Program_size
  mt_Program_deep : Mt1 K (cA K "Program") "deep" "Program.deep" s_Program_deep P_Program_deep
  mt_Machine_number_row : Mt1 K (cA K "Machine") "number_row" "Machine.number_row" s_Machine_number_row P_Machine_number_row
  mt_Machine_lay_row : Mt1 K (cA K "Machine") "lay_row" "Machine.lay_row" s_Machine_lay_row P_Machine_lay_row
  mt_Machine_begin_of : Mt1 K (cA K "Machine") "begin_of" "Machine.begin_of" s_Machine_begin_of P_Machine_begin_of
  mt_Machine_lay : Mt1 K (cA K "Machine") "lay" "Machine.lay" s_Machine_lay P_Machine_lay
  mt_Machine_steps_of : Mt1 K (cA K "Machine") "steps_of" "Machine.steps_of" s_Machine_steps_of P_Machine_steps_of
  mt_Machine_asked : Mt1 K (cA K "Machine") "asked" "Machine.asked" s_Machine_asked P_Machine_asked
  mt_Machine_mark_of : Mt1 K (cA K "Machine") "mark_of" "Machine.mark_of" s_Machine_mark_of P_Machine_mark_of
  mt_Machine_marks : Mt1 K (cA K "Machine") "marks" "Machine.marks" s_Machine_marks P_Machine_marks
  mt_Game_machine : Mt1 K (cA K "Game") "machine" "Game.machine" s_Game_machine P_Game_machine
  mt_Game_board : Mt1 K (cA K "Game") "board" "Game.board" s_Game_board P_Game_board
  mt_Game_begin : Mt1 K (cA K "Game") "begin" "Game.begin" s_Game_begin P_Game_begin
  mtSize : ∀ c : Cl, Mt1 K (cS K c) "size" "Statement.size" s_Statement_size P_Statement_size
  mtParts : ∀ c : Cl, Mt1 K (cS K c) "parts" (partsQ c) (partsS c) ["self"]
  in_Question : In1 K (cA K "Question") "Question.__init__" s_Question_init P_Question_init []
  in_Board : In1 K (cA K "Board") "Board.__init__" s_Board_init P_Board_init []
  in_Program : In1 K (cA K "Program") "Program.__init__" s_Program_init P_Program_init []
  in_Machine : In1 K (cA K "Machine") "Machine.__init__" s_Machine_init P_Machine_init []
  in_Game : In1 K (cA K "Game") "Game.__init__" s_Game_init P_Game_init []
  in_Write : In1 K (cA K "Write") "OnCell.__init__" s_OnCell_init P_OnCell_init []
  in_Wait : In1 K (cA K "Wait") "OnCell.__init__" s_OnCell_init P_OnCell_init []
  in_Mark : In1 K (cA K "Mark") "Mark.__init__" s_Mark_init P_Mark_init []
  in_If : In1 K (cA K "If") "If.__init__" s_If_init P_If_init []
  in_While : In1 K (cA K "While") "While.__init__" s_While_init P_While_init []
  in_Choose : In1 K (cA K "Choose") "Choose.__init__" s_Choose_init P_Choose_init []
  in_Loop : In1 K (cA K "Loop") "Loop.__init__" s_Loop_init P_Loop_init []
  m0_Skip : Mk0 K (cA K "Skip")
  m0_Stop : Mk0 K (cA K "Stop")
  cf_OnCell : Cf1 K (cA K "OnCell") "__init__" "OnCell.__init__" s_OnCell_init P_OnCell_init
  isF : ∀ c : Cl, IsF K (cS K c)
  kit : ∀ c d : Cl, PySem.W.kitOne K (.ref (cS K c)) (.ref (cS K d)) = some (decide (c = d))
end K4

set_option maxHeartbeats 0
/-! The head: the top's run in the kernel, with the facts that Txt asks. -/
namespace K4
open PySem L2
/-! ### facts beside He.Fa's -/
inductive FX where
  | m0 (x : Str) | isf (x : Str) | cfn (x m : Str) | kits
def cls9 : List Cl := [.write, .wait, .mark, .skip, .stop, .ife, .whl, .cho, .lop]
theorem cls9_all (c : Cl) : c ∈ cls9 := by cases c <;> simp [cls9]
def FX.ok (K : PySem.W.Frag) : FX → Bool
  | .m0 x => PySem.W.makesIn K (cA K x) && (decide (PySem.W.findIn K (.ref (cA K x)) "__init__" = some (some (.builtin "object.__init__"))) && PySem.W.keepIn K (.ref (cA K x)))
  | .isf x => decide (PySem.W.findIn K (.ref (cA K x)) "__class__" = some (some (.builtin "object.__class__"))) && (decide (PySem.W.specialIn K (.builtin "object.__class__") "__get__" = some (some (.builtin "getset_descriptor.__get__"))) &&
      (decide (PySem.W.takesIn K (.builtin "object.__class__") = some true) && decide (PySem.W.mroIn K (cA K x) (.type "object") = some true)))
  | .cfn x m => PySem.W.readsIn K (cA K x) (.type "type") && (decide (PySem.W.specialIn K (.ref (cA K x)) "__getattribute__" = some (some (.builtin "type.__getattribute__"))) && (match PySem.W.findCls K (.ref (cA K x)) (.type "type") m with
      | some (.val (.ref f)) => decide (f = He.ma K (cA K x) m)
      | _ => false))
  | .kits => cls9.all fun c => cls9.all fun d => decide (PySem.W.kitOne K (.ref (cS K c)) (.ref (cS K d)) = some (decide (c = d)))
section
variable {K : PySem.W.Frag}
theorem FX.m0_ok {x : Str} (h : (FX.m0 x).ok K = true) : Mk0 K (cA K x) := by
  obtain ⟨h1, h2⟩ := He.ba h
  obtain ⟨h3, h4⟩ := He.ba h2
  exact ⟨h1, of_decide_eq_true h3, h4⟩
theorem FX.isf_ok {x : Str} (h : (FX.isf x).ok K = true) : IsF K (cA K x) := by
  obtain ⟨h1, h2⟩ := He.ba h
  obtain ⟨h3, h4⟩ := He.ba h2
  obtain ⟨h5, h6⟩ := He.ba h4
  exact ⟨of_decide_eq_true h1, of_decide_eq_true h3, of_decide_eq_true h5, of_decide_eq_true h6⟩
theorem FX.cfn_ok {x m : Str} (h : (FX.cfn x m).ok K = true) : ClX.CRead K (cA K x) (.type "type") ∧ ClX.CVal K (cA K x) (.type "type") m (.ref (He.ma K (cA K x) m)) (.ref (He.ma K (cA K x) m)) := by
  obtain ⟨h1, h2⟩ := He.ba h
  obtain ⟨h3, h4⟩ := He.ba h2
  refine ⟨⟨h1, of_decide_eq_true h3⟩, ?_, rfl⟩
  have h5 : (match PySem.W.findCls K (.ref (cA K x)) (.type "type") m with
      | some (.val (.ref f)) => decide (f = He.ma K (cA K x) m)
      | _ => false) = true := h4
  split at h5
  · rename_i f e
    rw [← of_decide_eq_true h5]
    exact e
  · cases h5
/-- the __init__ with defaults, every parameter written -/
theorem in_dfl {C f : Addr} {qual : Str} {st : Stmt} {ps : List Str} {fd : FuncData} {dvs : List V} (M : Mk K C f) (W : FunD K "__init__" qual (defArgs st) (defBody st) (defScope st) dvs [] f fd) (hd : dvs ≠ [])
    (h : ∀ (T : Addr) (kV doc pm : Value) (an : Option Addr) (cdv ct : Value) (us its : List Value), us.length = ps.length → its.length = dvs.length →
      ∃ k, bindArgs (PySem.W.fnOf "__init__" qual (defArgs st) (defBody st) (defScope st) (.ref T) kV doc pm an cdv ct) ⟨us, []⟩ = seqItems? (.ref T) >>= k ∧ k (some its.toArray) = pure (ps.zip us)) : In1 K C qual st ps [] := by
  obtain ⟨ds, h1, h2⟩ := W.binds1 (ps := ps) ps.length dvs.length hd (by omega) fun T kV doc pm an cdv ct us its e1 e2 => by
    obtain ⟨k, q1, q2⟩ := h T kV doc pm an cdv ct us its e1 e2
    refine ⟨k, q1, ?_⟩
    rw [q2, List.drop_of_length_le (by omega), List.append_nil]
  rw [List.drop_length] at h1
  cases h1
  exact ⟨f, fd, dvs, M, W, h2⟩
end
/-! ### which objects the facts lean on -/
def hVals (g : Addr → Option Obj) (a : Addr) : List Addr := match g a with
  | some o => (match o.data with
    | .dict es _ => es.toList.flatMap fun e => He.refV e.val
    | _ => [])
  | none => []
def hStep (g : Addr → Option Obj) (a : Addr) : List Addr := match g a with
  | some o => (match o.data with
    | .func fd => He.refV fd.code ++ He.refV fd.defaults
    | .cls cd => [cd.ns]
    | _ => [])
  | none => []
def hAs (g : Addr → Option Obj) : List Addr :=
  let v := hVals g mainGlobals
  let c := v.flatMap (hStep g)
  let m := c.flatMap (hVals g)
  mainGlobals :: cStatics :: (v ++ (c ++ (m ++ m.flatMap (hStep g))))
/-! ### the facts -/
def hFa0 : List He.Fa := [.free ("len" : PySem.Str),
  .free ("all" : PySem.Str),
  .free ("range" : PySem.Str),
  .free ("enumerate" : PySem.Str),
  .free ("zip" : PySem.Str),
  .free ("sum" : PySem.Str),
  .free ("max" : PySem.Str),
  .free ("int" : PySem.Str),
  .free ("str" : PySem.Str),
  .free ("list" : PySem.Str),
  .free ("tuple" : PySem.Str),
  .free ("sorted" : PySem.Str),
  .free ("set" : PySem.Str),
  .free ("dict" : PySem.Str),
  .free ("isinstance" : PySem.Str),
  .str ("LETTERS" : PySem.Str) ("abcdefghijklmnopqrstuvwxyz" : PySem.Str),
  .str ("FIGURES" : PySem.Str) ("0123456789" : PySem.Str),
  .int ("LONGEST" : PySem.Str) 10,
  .int ("MOST_FOLLOWS" : PySem.Str) 6,
  .int ("MOST_CELLS" : PySem.Str) 3]
def hFa1 : List He.Fa := [.int ("LEAST_VALUES" : PySem.Str) 2,
  .int ("MOST_VALUES" : PySem.Str) 4,
  .int ("MOST_STATEMENTS" : PySem.Str) 24,
  .int ("MOST_DEEP" : PySem.Str) 6,
  .int ("MOST_FOLLOWERS" : PySem.Str) 400,
  .glo ("GO" : PySem.Str),
  .glo ("Question" : PySem.Str),
  .glo ("Board" : PySem.Str),
  .glo ("Program" : PySem.Str),
  .glo ("Machine" : PySem.Str),
  .glo ("Game" : PySem.Str),
  .glo ("OnCell" : PySem.Str),
  .glo ("Write" : PySem.Str),
  .glo ("Wait" : PySem.Str),
  .glo ("Mark" : PySem.Str),
  .glo ("Skip" : PySem.Str),
  .glo ("Stop" : PySem.Str),
  .glo ("If" : PySem.Str),
  .glo ("While" : PySem.Str),
  .glo ("Choose" : PySem.Str)]
def hFa2 : List He.Fa := [.glo ("Loop" : PySem.Str),
  .cls ("Question" : PySem.Str),
  .cls ("Board" : PySem.Str),
  .cls ("Program" : PySem.Str),
  .cls ("Machine" : PySem.Str),
  .cls ("Game" : PySem.Str),
  .cls ("Write" : PySem.Str),
  .cls ("Wait" : PySem.Str),
  .cls ("Mark" : PySem.Str),
  .cls ("Skip" : PySem.Str),
  .cls ("Stop" : PySem.Str),
  .cls ("If" : PySem.Str),
  .cls ("While" : PySem.Str),
  .cls ("Choose" : PySem.Str),
  .cls ("Loop" : PySem.Str),
  .noat ("Question" : PySem.Str) ("lead" : PySem.Str),
  .noat ("Question" : PySem.Str) ("follows" : PySem.Str),
  .noat ("Question" : PySem.Str) ("holds" : PySem.Str),
  .noat ("Board" : PySem.Str) ("names" : PySem.Str),
  .noat ("Board" : PySem.Str) ("rows" : PySem.Str)]
def hFa3 : List He.Fa := [.noat ("Program" : PySem.Str) ("row" : PySem.Str),
  .noat ("Machine" : PySem.Str) ("plan" : PySem.Str),
  .noat ("Machine" : PySem.Str) ("text" : PySem.Str),
  .noat ("Machine" : PySem.Str) ("places" : PySem.Str),
  .noat ("Machine" : PySem.Str) ("exits" : PySem.Str),
  .noat ("Game" : PySem.Str) ("plan" : PySem.Str),
  .noat ("Game" : PySem.Str) ("hands" : PySem.Str),
  .noat ("Game" : PySem.Str) ("texts" : PySem.Str),
  .noat ("Write" : PySem.Str) ("cell" : PySem.Str),
  .noat ("Wait" : PySem.Str) ("cell" : PySem.Str),
  .noat ("Mark" : PySem.Str) ("cell" : PySem.Str),
  .noat ("Skip" : PySem.Str) ("cell" : PySem.Str),
  .noat ("Stop" : PySem.Str) ("cell" : PySem.Str),
  .noat ("If" : PySem.Str) ("cell" : PySem.Str),
  .noat ("While" : PySem.Str) ("cell" : PySem.Str),
  .noat ("Choose" : PySem.Str) ("cell" : PySem.Str),
  .noat ("Loop" : PySem.Str) ("cell" : PySem.Str),
  .noat ("Write" : PySem.Str) ("value" : PySem.Str),
  .noat ("Wait" : PySem.Str) ("value" : PySem.Str),
  .noat ("Mark" : PySem.Str) ("value" : PySem.Str)]
def hFa4 : List He.Fa := [.noat ("Skip" : PySem.Str) ("value" : PySem.Str),
  .noat ("Stop" : PySem.Str) ("value" : PySem.Str),
  .noat ("If" : PySem.Str) ("value" : PySem.Str),
  .noat ("While" : PySem.Str) ("value" : PySem.Str),
  .noat ("Choose" : PySem.Str) ("value" : PySem.Str),
  .noat ("Loop" : PySem.Str) ("value" : PySem.Str),
  .noat ("Write" : PySem.Str) ("name" : PySem.Str),
  .noat ("Wait" : PySem.Str) ("name" : PySem.Str),
  .noat ("Mark" : PySem.Str) ("name" : PySem.Str),
  .noat ("Skip" : PySem.Str) ("name" : PySem.Str),
  .noat ("Stop" : PySem.Str) ("name" : PySem.Str),
  .noat ("If" : PySem.Str) ("name" : PySem.Str),
  .noat ("While" : PySem.Str) ("name" : PySem.Str),
  .noat ("Choose" : PySem.Str) ("name" : PySem.Str),
  .noat ("Loop" : PySem.Str) ("name" : PySem.Str),
  .noat ("Write" : PySem.Str) ("yes" : PySem.Str),
  .noat ("Wait" : PySem.Str) ("yes" : PySem.Str),
  .noat ("Mark" : PySem.Str) ("yes" : PySem.Str),
  .noat ("Skip" : PySem.Str) ("yes" : PySem.Str),
  .noat ("Stop" : PySem.Str) ("yes" : PySem.Str)]
def hFa5 : List He.Fa := [.noat ("If" : PySem.Str) ("yes" : PySem.Str),
  .noat ("While" : PySem.Str) ("yes" : PySem.Str),
  .noat ("Choose" : PySem.Str) ("yes" : PySem.Str),
  .noat ("Loop" : PySem.Str) ("yes" : PySem.Str),
  .noat ("Write" : PySem.Str) ("no" : PySem.Str),
  .noat ("Wait" : PySem.Str) ("no" : PySem.Str),
  .noat ("Mark" : PySem.Str) ("no" : PySem.Str),
  .noat ("Skip" : PySem.Str) ("no" : PySem.Str),
  .noat ("Stop" : PySem.Str) ("no" : PySem.Str),
  .noat ("If" : PySem.Str) ("no" : PySem.Str),
  .noat ("While" : PySem.Str) ("no" : PySem.Str),
  .noat ("Choose" : PySem.Str) ("no" : PySem.Str),
  .noat ("Loop" : PySem.Str) ("no" : PySem.Str),
  .noat ("Write" : PySem.Str) ("body" : PySem.Str),
  .noat ("Wait" : PySem.Str) ("body" : PySem.Str),
  .noat ("Mark" : PySem.Str) ("body" : PySem.Str),
  .noat ("Skip" : PySem.Str) ("body" : PySem.Str),
  .noat ("Stop" : PySem.Str) ("body" : PySem.Str),
  .noat ("If" : PySem.Str) ("body" : PySem.Str),
  .noat ("While" : PySem.Str) ("body" : PySem.Str)]
def hFa6 : List He.Fa := [.noat ("Choose" : PySem.Str) ("body" : PySem.Str),
  .noat ("Loop" : PySem.Str) ("body" : PySem.Str),
  .noat ("Write" : PySem.Str) ("one" : PySem.Str),
  .noat ("Wait" : PySem.Str) ("one" : PySem.Str),
  .noat ("Mark" : PySem.Str) ("one" : PySem.Str),
  .noat ("Skip" : PySem.Str) ("one" : PySem.Str),
  .noat ("Stop" : PySem.Str) ("one" : PySem.Str),
  .noat ("If" : PySem.Str) ("one" : PySem.Str),
  .noat ("While" : PySem.Str) ("one" : PySem.Str),
  .noat ("Choose" : PySem.Str) ("one" : PySem.Str),
  .noat ("Loop" : PySem.Str) ("one" : PySem.Str),
  .noat ("Write" : PySem.Str) ("other" : PySem.Str),
  .noat ("Wait" : PySem.Str) ("other" : PySem.Str),
  .noat ("Mark" : PySem.Str) ("other" : PySem.Str),
  .noat ("Skip" : PySem.Str) ("other" : PySem.Str),
  .noat ("Stop" : PySem.Str) ("other" : PySem.Str),
  .noat ("If" : PySem.Str) ("other" : PySem.Str),
  .noat ("While" : PySem.Str) ("other" : PySem.Str),
  .noat ("Choose" : PySem.Str) ("other" : PySem.Str),
  .noat ("Loop" : PySem.Str) ("other" : PySem.Str)]
def hFa7 : List He.Fa := [.glo ("is_name" : PySem.Str),
  .glo ("asked_names" : PySem.Str),
  .glo ("asked_once" : PySem.Str),
  .glo ("asked_of" : PySem.Str),
  .glo ("is_led" : PySem.Str),
  .glo ("is_held" : PySem.Str),
  .glo ("marks_at" : PySem.Str),
  .glo ("met" : PySem.Str),
  .glo ("asked_cells" : PySem.Str),
  .glo ("asked_size" : PySem.Str),
  .glo ("looks" : PySem.Str),
  .glo ("asked_many" : PySem.Str),
  .glo ("_law_cell_at" : PySem.Str),
  .glo ("_law_well" : PySem.Str),
  .glo ("_law_draw" : PySem.Str),
  .glo ("_law_of" : PySem.Str),
  .glo ("_law_word" : PySem.Str),
  .glo ("_law_plan" : PySem.Str),
  .glo ("_law_parts" : PySem.Str),
  .glo ("_law_length" : PySem.Str)]
def hFa8 : List He.Fa := [.glo ("_law_statement" : PySem.Str),
  .glo ("_law_row" : PySem.Str),
  .glo ("_law_built" : PySem.Str),
  .glo ("_law_made" : PySem.Str),
  .glo ("_law_exits" : PySem.Str),
  .glo ("_law_lay" : PySem.Str),
  .glo ("_law_rooms" : PySem.Str),
  .glo ("_law_world" : PySem.Str),
  .glo ("_law_drawn" : PySem.Str),
  .glo ("_law_own" : PySem.Str),
  .glo ("_law_behind" : PySem.Str),
  .glo ("_law_open" : PySem.Str),
  .glo ("_law_nexts" : PySem.Str),
  .glo ("_law_marks" : PySem.Str),
  .glo ("_law_put_as" : PySem.Str),
  .glo ("_law_full" : PySem.Str),
  .glo ("_law_less" : PySem.Str),
  .glo ("_law_mixed" : PySem.Str),
  .glo ("_law_more" : PySem.Str),
  .glo ("_law_wrong" : PySem.Str)]
def hFa9 : List He.Fa := [.glo ("law" : PySem.Str),
  .meth ("Board" : PySem.Str) ("values_of" : PySem.Str),
  .meth ("Board" : PySem.Str) ("first" : PySem.Str),
  .meth ("Board" : PySem.Str) ("asked" : PySem.Str),
  .meth ("Board" : PySem.Str) ("others" : PySem.Str),
  .meth ("Board" : PySem.Str) ("value_at" : PySem.Str),
  .meth ("Program" : PySem.Str) ("size" : PySem.Str),
  .meth ("Program" : PySem.Str) ("deep" : PySem.Str),
  .meth ("Machine" : PySem.Str) ("number_row" : PySem.Str),
  .meth ("Machine" : PySem.Str) ("lay_row" : PySem.Str),
  .meth ("Machine" : PySem.Str) ("begin_of" : PySem.Str),
  .meth ("Machine" : PySem.Str) ("lay" : PySem.Str),
  .meth ("Machine" : PySem.Str) ("steps_of" : PySem.Str),
  .meth ("Machine" : PySem.Str) ("asked" : PySem.Str),
  .meth ("Machine" : PySem.Str) ("mark_of" : PySem.Str),
  .meth ("Machine" : PySem.Str) ("marks" : PySem.Str),
  .meth ("Game" : PySem.Str) ("machine" : PySem.Str),
  .meth ("Game" : PySem.Str) ("board" : PySem.Str),
  .meth ("Game" : PySem.Str) ("begin" : PySem.Str),
  .meth ("Write" : PySem.Str) ("size" : PySem.Str)]
def hFa10 : List He.Fa := [.meth ("Wait" : PySem.Str) ("size" : PySem.Str),
  .meth ("Mark" : PySem.Str) ("size" : PySem.Str),
  .meth ("Skip" : PySem.Str) ("size" : PySem.Str),
  .meth ("Stop" : PySem.Str) ("size" : PySem.Str),
  .meth ("If" : PySem.Str) ("size" : PySem.Str),
  .meth ("While" : PySem.Str) ("size" : PySem.Str),
  .meth ("Choose" : PySem.Str) ("size" : PySem.Str),
  .meth ("Loop" : PySem.Str) ("size" : PySem.Str),
  .meth ("Write" : PySem.Str) ("parts" : PySem.Str),
  .meth ("Wait" : PySem.Str) ("parts" : PySem.Str),
  .meth ("Mark" : PySem.Str) ("parts" : PySem.Str),
  .meth ("Skip" : PySem.Str) ("parts" : PySem.Str),
  .meth ("Stop" : PySem.Str) ("parts" : PySem.Str),
  .meth ("If" : PySem.Str) ("parts" : PySem.Str),
  .meth ("While" : PySem.Str) ("parts" : PySem.Str),
  .meth ("Choose" : PySem.Str) ("parts" : PySem.Str),
  .meth ("Loop" : PySem.Str) ("parts" : PySem.Str),
  .mkr ("Question" : PySem.Str),
  .mkr ("Board" : PySem.Str),
  .mkr ("Program" : PySem.Str)]
def hFa11 : List He.Fa := [.mkr ("Machine" : PySem.Str),
  .mkr ("Game" : PySem.Str),
  .mkr ("Write" : PySem.Str),
  .mkr ("Wait" : PySem.Str),
  .mkr ("Mark" : PySem.Str),
  .mkr ("If" : PySem.Str),
  .mkr ("While" : PySem.Str),
  .mkr ("Choose" : PySem.Str),
  .mkr ("Loop" : PySem.Str)]
def hFa : List He.Fa := hFa0 ++ hFa1 ++ hFa2 ++ hFa3 ++ hFa4 ++ hFa5 ++ hFa6 ++ hFa7 ++ hFa8 ++ hFa9 ++ hFa10 ++ hFa11
def hFx0 : List FX := [.m0 ("Skip" : PySem.Str),
  .m0 ("Stop" : PySem.Str),
  .cfn ("OnCell" : PySem.Str) ("__init__" : PySem.Str),
  .isf ("Write" : PySem.Str),
  .isf ("Wait" : PySem.Str),
  .isf ("Mark" : PySem.Str),
  .isf ("Skip" : PySem.Str),
  .isf ("Stop" : PySem.Str),
  .isf ("If" : PySem.Str),
  .isf ("While" : PySem.Str),
  .isf ("Choose" : PySem.Str),
  .isf ("Loop" : PySem.Str),
  .kits]
def hFx : List FX := hFx0
def hFn0 : List He.DefD := [⟨(("is_name" : PySem.Str), none), ("is_name" : PySem.Str), ("is_name" : PySem.Str), defArgs s_is_name, defBody s_is_name, defScope s_is_name, [], []⟩,
  ⟨(("asked_names" : PySem.Str), none), ("asked_names" : PySem.Str), ("asked_names" : PySem.Str), defArgs s_asked_names, defBody s_asked_names, defScope s_asked_names, [], []⟩,
  ⟨(("asked_once" : PySem.Str), none), ("asked_once" : PySem.Str), ("asked_once" : PySem.Str), defArgs s_asked_once, defBody s_asked_once, defScope s_asked_once, [], []⟩,
  ⟨(("asked_of" : PySem.Str), none), ("asked_of" : PySem.Str), ("asked_of" : PySem.Str), defArgs s_asked_of, defBody s_asked_of, defScope s_asked_of, [], []⟩,
  ⟨(("is_led" : PySem.Str), none), ("is_led" : PySem.Str), ("is_led" : PySem.Str), defArgs s_is_led, defBody s_is_led, defScope s_is_led, [], []⟩,
  ⟨(("is_held" : PySem.Str), none), ("is_held" : PySem.Str), ("is_held" : PySem.Str), defArgs s_is_held, defBody s_is_held, defScope s_is_held, [], []⟩,
  ⟨(("marks_at" : PySem.Str), none), ("marks_at" : PySem.Str), ("marks_at" : PySem.Str), defArgs s_marks_at, defBody s_marks_at, defScope s_marks_at, [], []⟩,
  ⟨(("met" : PySem.Str), none), ("met" : PySem.Str), ("met" : PySem.Str), defArgs s_met, defBody s_met, defScope s_met, [], []⟩,
  ⟨(("asked_cells" : PySem.Str), none), ("asked_cells" : PySem.Str), ("asked_cells" : PySem.Str), defArgs s_asked_cells, defBody s_asked_cells, defScope s_asked_cells, [], []⟩,
  ⟨(("asked_size" : PySem.Str), none), ("asked_size" : PySem.Str), ("asked_size" : PySem.Str), defArgs s_asked_size, defBody s_asked_size, defScope s_asked_size, [], []⟩,
  ⟨(("looks" : PySem.Str), none), ("looks" : PySem.Str), ("looks" : PySem.Str), defArgs s_looks, defBody s_looks, defScope s_looks, [], []⟩,
  ⟨(("asked_many" : PySem.Str), none), ("asked_many" : PySem.Str), ("asked_many" : PySem.Str), defArgs s_asked_many, defBody s_asked_many, defScope s_asked_many, [], []⟩,
  ⟨(("_law_cell_at" : PySem.Str), none), ("_law_cell_at" : PySem.Str), ("_law_cell_at" : PySem.Str), defArgs s_law_cell_at, defBody s_law_cell_at, defScope s_law_cell_at, [], []⟩,
  ⟨(("_law_well" : PySem.Str), none), ("_law_well" : PySem.Str), ("_law_well" : PySem.Str), defArgs s_law_well, defBody s_law_well, defScope s_law_well, [], []⟩,
  ⟨(("_law_draw" : PySem.Str), none), ("_law_draw" : PySem.Str), ("_law_draw" : PySem.Str), defArgs s_law_draw, defBody s_law_draw, defScope s_law_draw, [], []⟩,
  ⟨(("_law_of" : PySem.Str), none), ("_law_of" : PySem.Str), ("_law_of" : PySem.Str), defArgs s_law_of, defBody s_law_of, defScope s_law_of, [], []⟩,
  ⟨(("_law_word" : PySem.Str), none), ("_law_word" : PySem.Str), ("_law_word" : PySem.Str), defArgs s_law_word, defBody s_law_word, defScope s_law_word, [], []⟩,
  ⟨(("_law_plan" : PySem.Str), none), ("_law_plan" : PySem.Str), ("_law_plan" : PySem.Str), defArgs s_law_plan, defBody s_law_plan, defScope s_law_plan, [], []⟩,
  ⟨(("_law_parts" : PySem.Str), none), ("_law_parts" : PySem.Str), ("_law_parts" : PySem.Str), defArgs s_law_parts, defBody s_law_parts, defScope s_law_parts, [], []⟩,
  ⟨(("_law_length" : PySem.Str), none), ("_law_length" : PySem.Str), ("_law_length" : PySem.Str), defArgs s_law_length, defBody s_law_length, defScope s_law_length, [], []⟩]
def hFn1 : List He.DefD := [⟨(("_law_statement" : PySem.Str), none), ("_law_statement" : PySem.Str), ("_law_statement" : PySem.Str), defArgs s_law_statement, defBody s_law_statement, defScope s_law_statement, [], []⟩,
  ⟨(("_law_row" : PySem.Str), none), ("_law_row" : PySem.Str), ("_law_row" : PySem.Str), defArgs s_law_row, defBody s_law_row, defScope s_law_row, [], []⟩,
  ⟨(("_law_built" : PySem.Str), none), ("_law_built" : PySem.Str), ("_law_built" : PySem.Str), defArgs s_law_built, defBody s_law_built, defScope s_law_built, [], []⟩,
  ⟨(("_law_made" : PySem.Str), none), ("_law_made" : PySem.Str), ("_law_made" : PySem.Str), defArgs s_law_made, defBody s_law_made, defScope s_law_made, [], []⟩,
  ⟨(("_law_exits" : PySem.Str), none), ("_law_exits" : PySem.Str), ("_law_exits" : PySem.Str), defArgs s_law_exits, defBody s_law_exits, defScope s_law_exits, [], []⟩,
  ⟨(("_law_lay" : PySem.Str), none), ("_law_lay" : PySem.Str), ("_law_lay" : PySem.Str), defArgs s_law_lay, defBody s_law_lay, defScope s_law_lay, [], []⟩,
  ⟨(("_law_rooms" : PySem.Str), none), ("_law_rooms" : PySem.Str), ("_law_rooms" : PySem.Str), defArgs s_law_rooms, defBody s_law_rooms, defScope s_law_rooms, [], []⟩,
  ⟨(("_law_world" : PySem.Str), none), ("_law_world" : PySem.Str), ("_law_world" : PySem.Str), defArgs s_law_world, defBody s_law_world, defScope s_law_world, [], []⟩,
  ⟨(("_law_drawn" : PySem.Str), none), ("_law_drawn" : PySem.Str), ("_law_drawn" : PySem.Str), defArgs s_law_drawn, defBody s_law_drawn, defScope s_law_drawn, [], []⟩,
  ⟨(("_law_own" : PySem.Str), none), ("_law_own" : PySem.Str), ("_law_own" : PySem.Str), defArgs s_law_own, defBody s_law_own, defScope s_law_own, [], []⟩,
  ⟨(("_law_behind" : PySem.Str), none), ("_law_behind" : PySem.Str), ("_law_behind" : PySem.Str), defArgs s_law_behind, defBody s_law_behind, defScope s_law_behind, [], []⟩,
  ⟨(("_law_open" : PySem.Str), none), ("_law_open" : PySem.Str), ("_law_open" : PySem.Str), defArgs s_law_open, defBody s_law_open, defScope s_law_open, [], []⟩,
  ⟨(("_law_nexts" : PySem.Str), none), ("_law_nexts" : PySem.Str), ("_law_nexts" : PySem.Str), defArgs s_law_nexts, defBody s_law_nexts, defScope s_law_nexts, [], []⟩,
  ⟨(("_law_marks" : PySem.Str), none), ("_law_marks" : PySem.Str), ("_law_marks" : PySem.Str), defArgs s_law_marks, defBody s_law_marks, defScope s_law_marks, [], []⟩,
  ⟨(("_law_put_as" : PySem.Str), none), ("_law_put_as" : PySem.Str), ("_law_put_as" : PySem.Str), defArgs s_law_put_as, defBody s_law_put_as, defScope s_law_put_as, [], []⟩,
  ⟨(("_law_full" : PySem.Str), none), ("_law_full" : PySem.Str), ("_law_full" : PySem.Str), defArgs s_law_full, defBody s_law_full, defScope s_law_full, [], []⟩,
  ⟨(("_law_less" : PySem.Str), none), ("_law_less" : PySem.Str), ("_law_less" : PySem.Str), defArgs s_law_less, defBody s_law_less, defScope s_law_less, [], []⟩,
  ⟨(("_law_mixed" : PySem.Str), none), ("_law_mixed" : PySem.Str), ("_law_mixed" : PySem.Str), defArgs s_law_mixed, defBody s_law_mixed, defScope s_law_mixed, [], []⟩,
  ⟨(("_law_more" : PySem.Str), none), ("_law_more" : PySem.Str), ("_law_more" : PySem.Str), defArgs s_law_more, defBody s_law_more, defScope s_law_more, [], []⟩,
  ⟨(("_law_wrong" : PySem.Str), none), ("_law_wrong" : PySem.Str), ("_law_wrong" : PySem.Str), defArgs s_law_wrong, defBody s_law_wrong, defScope s_law_wrong, [], []⟩]
def hFn2 : List He.DefD := [⟨(("law" : PySem.Str), none), ("law" : PySem.Str), ("law" : PySem.Str), defArgs s_law, defBody s_law, defScope s_law, [], []⟩,
  ⟨(("Board" : PySem.Str), some ("values_of" : PySem.Str)), ("values_of" : PySem.Str), ("Board.values_of" : PySem.Str), defArgs s_Board_values_of, defBody s_Board_values_of, defScope s_Board_values_of, [], []⟩,
  ⟨(("Board" : PySem.Str), some ("first" : PySem.Str)), ("first" : PySem.Str), ("Board.first" : PySem.Str), defArgs s_Board_first, defBody s_Board_first, defScope s_Board_first, [], []⟩,
  ⟨(("Board" : PySem.Str), some ("asked" : PySem.Str)), ("asked" : PySem.Str), ("Board.asked" : PySem.Str), defArgs s_Board_asked, defBody s_Board_asked, defScope s_Board_asked, [], []⟩,
  ⟨(("Board" : PySem.Str), some ("others" : PySem.Str)), ("others" : PySem.Str), ("Board.others" : PySem.Str), defArgs s_Board_others, defBody s_Board_others, defScope s_Board_others, [], []⟩,
  ⟨(("Board" : PySem.Str), some ("value_at" : PySem.Str)), ("value_at" : PySem.Str), ("Board.value_at" : PySem.Str), defArgs s_Board_value_at, defBody s_Board_value_at, defScope s_Board_value_at, [], []⟩,
  ⟨(("Program" : PySem.Str), some ("size" : PySem.Str)), ("size" : PySem.Str), ("Program.size" : PySem.Str), defArgs s_Program_size, defBody s_Program_size, defScope s_Program_size, [], []⟩,
  ⟨(("Program" : PySem.Str), some ("deep" : PySem.Str)), ("deep" : PySem.Str), ("Program.deep" : PySem.Str), defArgs s_Program_deep, defBody s_Program_deep, defScope s_Program_deep, [], []⟩,
  ⟨(("Machine" : PySem.Str), some ("number_row" : PySem.Str)), ("number_row" : PySem.Str), ("Machine.number_row" : PySem.Str), defArgs s_Machine_number_row, defBody s_Machine_number_row, defScope s_Machine_number_row, [], []⟩,
  ⟨(("Machine" : PySem.Str), some ("lay_row" : PySem.Str)), ("lay_row" : PySem.Str), ("Machine.lay_row" : PySem.Str), defArgs s_Machine_lay_row, defBody s_Machine_lay_row, defScope s_Machine_lay_row, [], []⟩,
  ⟨(("Machine" : PySem.Str), some ("begin_of" : PySem.Str)), ("begin_of" : PySem.Str), ("Machine.begin_of" : PySem.Str), defArgs s_Machine_begin_of, defBody s_Machine_begin_of, defScope s_Machine_begin_of, [], []⟩,
  ⟨(("Machine" : PySem.Str), some ("lay" : PySem.Str)), ("lay" : PySem.Str), ("Machine.lay" : PySem.Str), defArgs s_Machine_lay, defBody s_Machine_lay, defScope s_Machine_lay, [], []⟩,
  ⟨(("Machine" : PySem.Str), some ("steps_of" : PySem.Str)), ("steps_of" : PySem.Str), ("Machine.steps_of" : PySem.Str), defArgs s_Machine_steps_of, defBody s_Machine_steps_of, defScope s_Machine_steps_of, [], []⟩,
  ⟨(("Machine" : PySem.Str), some ("asked" : PySem.Str)), ("asked" : PySem.Str), ("Machine.asked" : PySem.Str), defArgs s_Machine_asked, defBody s_Machine_asked, defScope s_Machine_asked, [], []⟩,
  ⟨(("Machine" : PySem.Str), some ("mark_of" : PySem.Str)), ("mark_of" : PySem.Str), ("Machine.mark_of" : PySem.Str), defArgs s_Machine_mark_of, defBody s_Machine_mark_of, defScope s_Machine_mark_of, [], []⟩,
  ⟨(("Machine" : PySem.Str), some ("marks" : PySem.Str)), ("marks" : PySem.Str), ("Machine.marks" : PySem.Str), defArgs s_Machine_marks, defBody s_Machine_marks, defScope s_Machine_marks, [], []⟩,
  ⟨(("Game" : PySem.Str), some ("machine" : PySem.Str)), ("machine" : PySem.Str), ("Game.machine" : PySem.Str), defArgs s_Game_machine, defBody s_Game_machine, defScope s_Game_machine, [], []⟩,
  ⟨(("Game" : PySem.Str), some ("board" : PySem.Str)), ("board" : PySem.Str), ("Game.board" : PySem.Str), defArgs s_Game_board, defBody s_Game_board, defScope s_Game_board, [], []⟩,
  ⟨(("Game" : PySem.Str), some ("begin" : PySem.Str)), ("begin" : PySem.Str), ("Game.begin" : PySem.Str), defArgs s_Game_begin, defBody s_Game_begin, defScope s_Game_begin, [], []⟩,
  ⟨(("Write" : PySem.Str), some ("size" : PySem.Str)), ("size" : PySem.Str), ("Statement.size" : PySem.Str), defArgs s_Statement_size, defBody s_Statement_size, defScope s_Statement_size, [], []⟩]
def hFn3 : List He.DefD := [⟨(("Wait" : PySem.Str), some ("size" : PySem.Str)), ("size" : PySem.Str), ("Statement.size" : PySem.Str), defArgs s_Statement_size, defBody s_Statement_size, defScope s_Statement_size, [], []⟩,
  ⟨(("Mark" : PySem.Str), some ("size" : PySem.Str)), ("size" : PySem.Str), ("Statement.size" : PySem.Str), defArgs s_Statement_size, defBody s_Statement_size, defScope s_Statement_size, [], []⟩,
  ⟨(("Skip" : PySem.Str), some ("size" : PySem.Str)), ("size" : PySem.Str), ("Statement.size" : PySem.Str), defArgs s_Statement_size, defBody s_Statement_size, defScope s_Statement_size, [], []⟩,
  ⟨(("Stop" : PySem.Str), some ("size" : PySem.Str)), ("size" : PySem.Str), ("Statement.size" : PySem.Str), defArgs s_Statement_size, defBody s_Statement_size, defScope s_Statement_size, [], []⟩,
  ⟨(("If" : PySem.Str), some ("size" : PySem.Str)), ("size" : PySem.Str), ("Statement.size" : PySem.Str), defArgs s_Statement_size, defBody s_Statement_size, defScope s_Statement_size, [], []⟩,
  ⟨(("While" : PySem.Str), some ("size" : PySem.Str)), ("size" : PySem.Str), ("Statement.size" : PySem.Str), defArgs s_Statement_size, defBody s_Statement_size, defScope s_Statement_size, [], []⟩,
  ⟨(("Choose" : PySem.Str), some ("size" : PySem.Str)), ("size" : PySem.Str), ("Statement.size" : PySem.Str), defArgs s_Statement_size, defBody s_Statement_size, defScope s_Statement_size, [], []⟩,
  ⟨(("Loop" : PySem.Str), some ("size" : PySem.Str)), ("size" : PySem.Str), ("Statement.size" : PySem.Str), defArgs s_Statement_size, defBody s_Statement_size, defScope s_Statement_size, [], []⟩,
  ⟨(("Write" : PySem.Str), some ("parts" : PySem.Str)), ("parts" : PySem.Str), ("Statement.parts" : PySem.Str), defArgs s_Statement_parts, defBody s_Statement_parts, defScope s_Statement_parts, [], []⟩,
  ⟨(("Wait" : PySem.Str), some ("parts" : PySem.Str)), ("parts" : PySem.Str), ("Statement.parts" : PySem.Str), defArgs s_Statement_parts, defBody s_Statement_parts, defScope s_Statement_parts, [], []⟩,
  ⟨(("Mark" : PySem.Str), some ("parts" : PySem.Str)), ("parts" : PySem.Str), ("Statement.parts" : PySem.Str), defArgs s_Statement_parts, defBody s_Statement_parts, defScope s_Statement_parts, [], []⟩,
  ⟨(("Skip" : PySem.Str), some ("parts" : PySem.Str)), ("parts" : PySem.Str), ("Statement.parts" : PySem.Str), defArgs s_Statement_parts, defBody s_Statement_parts, defScope s_Statement_parts, [], []⟩,
  ⟨(("Stop" : PySem.Str), some ("parts" : PySem.Str)), ("parts" : PySem.Str), ("Statement.parts" : PySem.Str), defArgs s_Statement_parts, defBody s_Statement_parts, defScope s_Statement_parts, [], []⟩,
  ⟨(("If" : PySem.Str), some ("parts" : PySem.Str)), ("parts" : PySem.Str), ("If.parts" : PySem.Str), defArgs s_If_parts, defBody s_If_parts, defScope s_If_parts, [], []⟩,
  ⟨(("While" : PySem.Str), some ("parts" : PySem.Str)), ("parts" : PySem.Str), ("While.parts" : PySem.Str), defArgs s_While_parts, defBody s_While_parts, defScope s_While_parts, [], []⟩,
  ⟨(("Choose" : PySem.Str), some ("parts" : PySem.Str)), ("parts" : PySem.Str), ("Choose.parts" : PySem.Str), defArgs s_Choose_parts, defBody s_Choose_parts, defScope s_Choose_parts, [], []⟩,
  ⟨(("Loop" : PySem.Str), some ("parts" : PySem.Str)), ("parts" : PySem.Str), ("Loop.parts" : PySem.Str), defArgs s_Loop_parts, defBody s_Loop_parts, defScope s_Loop_parts, [], []⟩,
  ⟨(("Question" : PySem.Str), some ("__init__" : PySem.Str)), ("__init__" : PySem.Str), ("Question.__init__" : PySem.Str), defArgs s_Question_init, defBody s_Question_init, defScope s_Question_init, [.non, .non, .non], []⟩,
  ⟨(("Board" : PySem.Str), some ("__init__" : PySem.Str)), ("__init__" : PySem.Str), ("Board.__init__" : PySem.Str), defArgs s_Board_init, defBody s_Board_init, defScope s_Board_init, [], []⟩,
  ⟨(("Program" : PySem.Str), some ("__init__" : PySem.Str)), ("__init__" : PySem.Str), ("Program.__init__" : PySem.Str), defArgs s_Program_init, defBody s_Program_init, defScope s_Program_init, [], []⟩]
def hFn4 : List He.DefD := [⟨(("Machine" : PySem.Str), some ("__init__" : PySem.Str)), ("__init__" : PySem.Str), ("Machine.__init__" : PySem.Str), defArgs s_Machine_init, defBody s_Machine_init, defScope s_Machine_init, [], []⟩,
  ⟨(("Game" : PySem.Str), some ("__init__" : PySem.Str)), ("__init__" : PySem.Str), ("Game.__init__" : PySem.Str), defArgs s_Game_init, defBody s_Game_init, defScope s_Game_init, [], []⟩,
  ⟨(("Write" : PySem.Str), some ("__init__" : PySem.Str)), ("__init__" : PySem.Str), ("OnCell.__init__" : PySem.Str), defArgs s_OnCell_init, defBody s_OnCell_init, defScope s_OnCell_init, [], []⟩,
  ⟨(("Wait" : PySem.Str), some ("__init__" : PySem.Str)), ("__init__" : PySem.Str), ("OnCell.__init__" : PySem.Str), defArgs s_OnCell_init, defBody s_OnCell_init, defScope s_OnCell_init, [], []⟩,
  ⟨(("Mark" : PySem.Str), some ("__init__" : PySem.Str)), ("__init__" : PySem.Str), ("Mark.__init__" : PySem.Str), defArgs s_Mark_init, defBody s_Mark_init, defScope s_Mark_init, [], []⟩,
  ⟨(("If" : PySem.Str), some ("__init__" : PySem.Str)), ("__init__" : PySem.Str), ("If.__init__" : PySem.Str), defArgs s_If_init, defBody s_If_init, defScope s_If_init, [], []⟩,
  ⟨(("While" : PySem.Str), some ("__init__" : PySem.Str)), ("__init__" : PySem.Str), ("While.__init__" : PySem.Str), defArgs s_While_init, defBody s_While_init, defScope s_While_init, [], []⟩,
  ⟨(("Choose" : PySem.Str), some ("__init__" : PySem.Str)), ("__init__" : PySem.Str), ("Choose.__init__" : PySem.Str), defArgs s_Choose_init, defBody s_Choose_init, defScope s_Choose_init, [], []⟩,
  ⟨(("Loop" : PySem.Str), some ("__init__" : PySem.Str)), ("__init__" : PySem.Str), ("Loop.__init__" : PySem.Str), defArgs s_Loop_init, defBody s_Loop_init, defScope s_Loop_init, [], []⟩,
  ⟨(("OnCell" : PySem.Str), some ("__init__" : PySem.Str)), ("__init__" : PySem.Str), ("OnCell.__init__" : PySem.Str), defArgs s_OnCell_init, defBody s_OnCell_init, defScope s_OnCell_init, [], []⟩]
def hFn : List He.DefD := hFn0 ++ hFn1 ++ hFn2 ++ hFn3 ++ hFn4
def hLoose0 : List PySem.Str := [("_wall" : PySem.Str),
  ("BoardError" : PySem.Str),
  ("BadCount" : PySem.Str),
  ("NoName" : PySem.Str),
  ("Twice" : PySem.Str),
  ("NoCell" : PySem.Str),
  ("NoValue" : PySem.Str),
  ("NoRoom" : PySem.Str),
  ("NoMark" : PySem.Str),
  ("LETTERS" : PySem.Str),
  ("FIGURES" : PySem.Str),
  ("LONGEST" : PySem.Str),
  ("is_name" : PySem.Str),
  ("asked_names" : PySem.Str),
  ("asked_once" : PySem.Str),
  ("MOST_FOLLOWS" : PySem.Str),
  ("Question" : PySem.Str),
  ("asked_of" : PySem.Str),
  ("is_led" : PySem.Str),
  ("is_held" : PySem.Str),
  ("marks_at" : PySem.Str),
  ("met" : PySem.Str),
  ("MOST_CELLS" : PySem.Str),
  ("LEAST_VALUES" : PySem.Str),
  ("MOST_VALUES" : PySem.Str),
  ("asked_cells" : PySem.Str),
  ("Board" : PySem.Str),
  ("MOST_STATEMENTS" : PySem.Str),
  ("MOST_DEEP" : PySem.Str),
  ("asked_size" : PySem.Str),
  ("Statement" : PySem.Str),
  ("OnCell" : PySem.Str),
  ("Write" : PySem.Str),
  ("Wait" : PySem.Str),
  ("Mark" : PySem.Str)]
def hLoose1 : List PySem.Str := [("Skip" : PySem.Str),
  ("Stop" : PySem.Str),
  ("in_braces" : PySem.Str),
  ("If" : PySem.Str),
  ("While" : PySem.Str),
  ("Choose" : PySem.Str),
  ("Loop" : PySem.Str),
  ("Program" : PySem.Str),
  ("GO" : PySem.Str),
  ("looks" : PySem.Str),
  ("Machine" : PySem.Str),
  ("MOST_FOLLOWERS" : PySem.Str),
  ("asked_many" : PySem.Str),
  ("Game" : PySem.Str),
  ("_law_cell_at" : PySem.Str),
  ("_law_well" : PySem.Str),
  ("_law_draw" : PySem.Str),
  ("_law_of" : PySem.Str),
  ("_law_word" : PySem.Str),
  ("_law_plan" : PySem.Str),
  ("_law_parts" : PySem.Str),
  ("_law_length" : PySem.Str),
  ("_law_statement" : PySem.Str),
  ("_law_row" : PySem.Str),
  ("_law_built" : PySem.Str),
  ("_law_made" : PySem.Str),
  ("_law_exits" : PySem.Str),
  ("_law_lay" : PySem.Str),
  ("_law_rooms" : PySem.Str),
  ("_law_world" : PySem.Str),
  ("_law_drawn" : PySem.Str),
  ("_law_own" : PySem.Str),
  ("_law_first" : PySem.Str),
  ("_law_behind" : PySem.Str),
  ("_law_open" : PySem.Str)]
def hLoose2 : List PySem.Str := [("_law_nexts" : PySem.Str),
  ("_law_marks" : PySem.Str),
  ("_law_asked" : PySem.Str),
  ("_law_put_as" : PySem.Str),
  ("_law_held" : PySem.Str),
  ("_law_meets" : PySem.Str),
  ("_law_full" : PySem.Str),
  ("_law_less" : PySem.Str),
  ("_law_mixed" : PySem.Str),
  ("_law_more" : PySem.Str),
  ("_law_wrong" : PySem.Str)]
def hLoose : List PySem.Str := hLoose0 ++ hLoose1 ++ hLoose2
structure Obs where
  fa : Bool
  fx : Bool
  fn : List He.FnW
  fo : Bool
def obsK (K : PySem.W.Frag) : Obs := ⟨hFa.all fun f => f.ok K, hFx.all fun f => f.ok K, hFn.map fun d => He.fnW K d.at_, hFn.all fun d => d.ok K⟩
def valK : Obs := ⟨true, true, hFn.map He.DefD.val, true⟩
def hk : PySem.W.Hook where
  α := Obs
  obs := fun s => obsK (He.frG s.heap.get? (hAs s.heap.get?))
  val := fun _ => valK
  says := fun _ h => ∃ K : PySem.W.Frag, K.In h ∧ obsK K = valK
  of := fun _ _ e => ⟨_, He.frG_in, e⟩
  keeps := fun _ _ _ ⟨K, hK, c⟩ k => ⟨K, PySem.W.Frag.In.keeps hK k, c⟩
def ob (s : PySem.W.SharedT) : Obs := obsK (He.frG (HandSHeadRun.getT s) (hAs (HandSHeadRun.getT s)))
theorem ob_eq (s : PySem.W.SharedT) : ob s = hk.obs s.abs := by
  have e : HandSHeadRun.getT s = s.abs.heap.get? := funext (HandSHeadRun.getT_eq s)
  unfold ob
  rw [e]
  rfl
abbrev hR : PySem.W.OpenRow := PySem.W.OpenLaw.row PySem.Challenge.rw_manyboard_k40_whole_more_hands_still_mee
abbrev hq : Program := PySem.W.view hR.prog [89]
theorem run (w : World) : HandSHeadRun.RunEq hR hq hk ob 20000 hLoose w := by
  intro os
  kernel_rfl
section
variable {K : PySem.W.Frag}
structure Says (K : PySem.W.Frag) : Prop where
  e : obsK K = valK
theorem Says.fact (c : Says K) (i : Nat) {f : He.Fa} (h : hFa[i]? = some f) : f.ok K = true :=
  List.all_eq_true.mp (show (hFa.all fun f => f.ok K) = true from congrArg Obs.fa c.e) f (List.mem_of_getElem? h)
theorem Says.def_ (c : Says K) (i : Nat) {d : He.DefD} (h : hFn[i]? = some d) : ∃ fd, FunD K d.name d.qual d.params d.body d.scope (d.dvs K) (d.kws K) (He.fAd K d.at_) fd := by
  have e1 : hFn.map (fun d => He.fnW K d.at_) = hFn.map He.DefD.val := congrArg Obs.fn c.e
  have e2 : (hFn.map fun d => He.fnW K d.at_)[i]? = (hFn.map He.DefD.val)[i]? := by rw [e1]
  rw [List.getElem?_map, List.getElem?_map, h] at e2
  exact He.DefD.funD (Option.some.inj e2) (List.all_eq_true.mp (show (hFn.all fun d => d.ok K) = true from congrArg Obs.fo c.e) d (List.mem_of_getElem? h))
structure SaysX (K : PySem.W.Frag) : Prop where
  e : obsK K = valK
theorem SaysX.fact (c : SaysX K) (i : Nat) {f : FX} (h : hFx[i]? = some f) : f.ok K = true :=
  List.all_eq_true.mp (show (hFx.all fun f => f.ok K) = true from congrArg Obs.fx c.e) f (List.mem_of_getElem? h)
theorem kits (c : SaysX K) (a b : Cl) : PySem.W.kitOne K (.ref (cS K a)) (.ref (cS K b)) = some (decide (a = b)) := by
  have h := c.fact 12 (f := .kits) rfl
  exact of_decide_eq_true (List.all_eq_true.mp (List.all_eq_true.mp h a (cls9_all a)) b (cls9_all b))
theorem txt_of {h : Heap} {mg : Str → Option Value} (X : K.In h) (G : h.Ns mainGlobals mg) (e : obsK K = valK) : Txt K mg := by
  have c : Says K := ⟨e⟩
  have cc : Says K := c
  have ce : SaysX K := ⟨e⟩
  exact {
    f_len := He.free_ok X G (c.fact 0 rfl),
    f_all := He.free_ok X G (c.fact 1 rfl),
    f_range := He.free_ok X G (c.fact 2 rfl),
    f_enumerate := He.free_ok X G (c.fact 3 rfl),
    f_zip := He.free_ok X G (c.fact 4 rfl),
    f_sum := He.free_ok X G (c.fact 5 rfl),
    f_max := He.free_ok X G (c.fact 6 rfl),
    f_int := He.free_ok X G (c.fact 7 rfl),
    f_str := He.free_ok X G (c.fact 8 rfl),
    f_list := He.free_ok X G (c.fact 9 rfl),
    f_tuple := He.free_ok X G (c.fact 10 rfl),
    f_sorted := He.free_ok X G (c.fact 11 rfl),
    f_set := He.free_ok X G (c.fact 12 rfl),
    f_dict := He.free_ok X G (c.fact 13 rfl),
    f_isinstance := He.free_ok X G (c.fact 14 rfl),
    k_LETTERS := He.str_ok X G (c.fact 15 rfl),
    k_FIGURES := He.str_ok X G (c.fact 16 rfl),
    k_LONGEST := He.int_ok X G (c.fact 17 rfl),
    k_MOST_FOLLOWS := He.int_ok X G (c.fact 18 rfl),
    k_MOST_CELLS := He.int_ok X G (c.fact 19 rfl),
    k_LEAST_VALUES := He.int_ok X G (c.fact 20 rfl),
    k_MOST_VALUES := He.int_ok X G (c.fact 21 rfl),
    k_MOST_STATEMENTS := He.int_ok X G (c.fact 22 rfl),
    k_MOST_DEEP := He.int_ok X G (c.fact 23 rfl),
    k_MOST_FOLLOWERS := He.int_ok X G (c.fact 24 rfl),
    k_GO := He.glo_ok X G (c.fact 25 rfl),
    g_Question := He.glo_ok X G (c.fact 26 rfl),
    g_Board := He.glo_ok X G (c.fact 27 rfl),
    g_Program := He.glo_ok X G (c.fact 28 rfl),
    g_Machine := He.glo_ok X G (c.fact 29 rfl),
    g_Game := He.glo_ok X G (c.fact 30 rfl),
    g_OnCell := He.glo_ok X G (c.fact 31 rfl),
    g_Write := He.glo_ok X G (c.fact 32 rfl),
    g_Wait := He.glo_ok X G (c.fact 33 rfl),
    g_Mark := He.glo_ok X G (c.fact 34 rfl),
    g_Skip := He.glo_ok X G (c.fact 35 rfl),
    g_Stop := He.glo_ok X G (c.fact 36 rfl),
    g_If := He.glo_ok X G (c.fact 37 rfl),
    g_While := He.glo_ok X G (c.fact 38 rfl),
    g_Choose := He.glo_ok X G (c.fact 39 rfl),
    g_Loop := He.glo_ok X G (c.fact 40 rfl),
    cl_Question := He.cls_ok (c.fact 41 rfl),
    cl_Board := He.cls_ok (c.fact 42 rfl),
    cl_Program := He.cls_ok (c.fact 43 rfl),
    cl_Machine := He.cls_ok (c.fact 44 rfl),
    cl_Game := He.cls_ok (c.fact 45 rfl),
    clS := fun d => match d with | .write => He.cls_ok (cc.fact 46 rfl) | .wait => He.cls_ok (cc.fact 47 rfl) | .mark => He.cls_ok (cc.fact 48 rfl) | .skip => He.cls_ok (cc.fact 49 rfl) | .stop => He.cls_ok (cc.fact 50 rfl) | .ife => He.cls_ok (cc.fact 51 rfl) | .whl => He.cls_ok (cc.fact 52 rfl) | .cho => He.cls_ok (cc.fact 53 rfl) | .lop => He.cls_ok (cc.fact 54 rfl),
    n_Question_lead := He.noat_ok (c.fact 55 rfl),
    n_Question_follows := He.noat_ok (c.fact 56 rfl),
    n_Question_holds := He.noat_ok (c.fact 57 rfl),
    n_Board_names := He.noat_ok (c.fact 58 rfl),
    n_Board_rows := He.noat_ok (c.fact 59 rfl),
    n_Program_row := He.noat_ok (c.fact 60 rfl),
    n_Machine_plan := He.noat_ok (c.fact 61 rfl),
    n_Machine_text := He.noat_ok (c.fact 62 rfl),
    n_Machine_places := He.noat_ok (c.fact 63 rfl),
    n_Machine_exits := He.noat_ok (c.fact 64 rfl),
    n_Game_plan := He.noat_ok (c.fact 65 rfl),
    n_Game_hands := He.noat_ok (c.fact 66 rfl),
    n_Game_texts := He.noat_ok (c.fact 67 rfl),
    nS_cell := fun d => match d with | .write => He.noat_ok (cc.fact 68 rfl) | .wait => He.noat_ok (cc.fact 69 rfl) | .mark => He.noat_ok (cc.fact 70 rfl) | .skip => He.noat_ok (cc.fact 71 rfl) | .stop => He.noat_ok (cc.fact 72 rfl) | .ife => He.noat_ok (cc.fact 73 rfl) | .whl => He.noat_ok (cc.fact 74 rfl) | .cho => He.noat_ok (cc.fact 75 rfl) | .lop => He.noat_ok (cc.fact 76 rfl),
    nS_value := fun d => match d with | .write => He.noat_ok (cc.fact 77 rfl) | .wait => He.noat_ok (cc.fact 78 rfl) | .mark => He.noat_ok (cc.fact 79 rfl) | .skip => He.noat_ok (cc.fact 80 rfl) | .stop => He.noat_ok (cc.fact 81 rfl) | .ife => He.noat_ok (cc.fact 82 rfl) | .whl => He.noat_ok (cc.fact 83 rfl) | .cho => He.noat_ok (cc.fact 84 rfl) | .lop => He.noat_ok (cc.fact 85 rfl),
    nS_name := fun d => match d with | .write => He.noat_ok (cc.fact 86 rfl) | .wait => He.noat_ok (cc.fact 87 rfl) | .mark => He.noat_ok (cc.fact 88 rfl) | .skip => He.noat_ok (cc.fact 89 rfl) | .stop => He.noat_ok (cc.fact 90 rfl) | .ife => He.noat_ok (cc.fact 91 rfl) | .whl => He.noat_ok (cc.fact 92 rfl) | .cho => He.noat_ok (cc.fact 93 rfl) | .lop => He.noat_ok (cc.fact 94 rfl),
    nS_yes := fun d => match d with | .write => He.noat_ok (cc.fact 95 rfl) | .wait => He.noat_ok (cc.fact 96 rfl) | .mark => He.noat_ok (cc.fact 97 rfl) | .skip => He.noat_ok (cc.fact 98 rfl) | .stop => He.noat_ok (cc.fact 99 rfl) | .ife => He.noat_ok (cc.fact 100 rfl) | .whl => He.noat_ok (cc.fact 101 rfl) | .cho => He.noat_ok (cc.fact 102 rfl) | .lop => He.noat_ok (cc.fact 103 rfl),
    nS_no := fun d => match d with | .write => He.noat_ok (cc.fact 104 rfl) | .wait => He.noat_ok (cc.fact 105 rfl) | .mark => He.noat_ok (cc.fact 106 rfl) | .skip => He.noat_ok (cc.fact 107 rfl) | .stop => He.noat_ok (cc.fact 108 rfl) | .ife => He.noat_ok (cc.fact 109 rfl) | .whl => He.noat_ok (cc.fact 110 rfl) | .cho => He.noat_ok (cc.fact 111 rfl) | .lop => He.noat_ok (cc.fact 112 rfl),
    nS_body := fun d => match d with | .write => He.noat_ok (cc.fact 113 rfl) | .wait => He.noat_ok (cc.fact 114 rfl) | .mark => He.noat_ok (cc.fact 115 rfl) | .skip => He.noat_ok (cc.fact 116 rfl) | .stop => He.noat_ok (cc.fact 117 rfl) | .ife => He.noat_ok (cc.fact 118 rfl) | .whl => He.noat_ok (cc.fact 119 rfl) | .cho => He.noat_ok (cc.fact 120 rfl) | .lop => He.noat_ok (cc.fact 121 rfl),
    nS_one := fun d => match d with | .write => He.noat_ok (cc.fact 122 rfl) | .wait => He.noat_ok (cc.fact 123 rfl) | .mark => He.noat_ok (cc.fact 124 rfl) | .skip => He.noat_ok (cc.fact 125 rfl) | .stop => He.noat_ok (cc.fact 126 rfl) | .ife => He.noat_ok (cc.fact 127 rfl) | .whl => He.noat_ok (cc.fact 128 rfl) | .cho => He.noat_ok (cc.fact 129 rfl) | .lop => He.noat_ok (cc.fact 130 rfl),
    nS_other := fun d => match d with | .write => He.noat_ok (cc.fact 131 rfl) | .wait => He.noat_ok (cc.fact 132 rfl) | .mark => He.noat_ok (cc.fact 133 rfl) | .skip => He.noat_ok (cc.fact 134 rfl) | .stop => He.noat_ok (cc.fact 135 rfl) | .ife => He.noat_ok (cc.fact 136 rfl) | .whl => He.noat_ok (cc.fact 137 rfl) | .cho => He.noat_ok (cc.fact 138 rfl) | .lop => He.noat_ok (cc.fact 139 rfl),
    fn_is_name := by obtain ⟨fd, W⟩ := c.def_ 0 rfl; exact ⟨_, fd, He.glo_ok X G (c.fact 140 rfl), W, W.bindsN (fun _ _ _ _ _ _ us hl => match us, hl with | [_], _ => rfl)⟩,
    fn_asked_names := by obtain ⟨fd, W⟩ := c.def_ 1 rfl; exact ⟨_, fd, He.glo_ok X G (c.fact 141 rfl), W, W.bindsN (fun _ _ _ _ _ _ us hl => match us, hl with | [_], _ => rfl)⟩,
    fn_asked_once := by obtain ⟨fd, W⟩ := c.def_ 2 rfl; exact ⟨_, fd, He.glo_ok X G (c.fact 142 rfl), W, W.bindsN (fun _ _ _ _ _ _ us hl => match us, hl with | [_], _ => rfl)⟩,
    fn_asked_of := by obtain ⟨fd, W⟩ := c.def_ 3 rfl; exact ⟨_, fd, He.glo_ok X G (c.fact 143 rfl), W, W.bindsN (fun _ _ _ _ _ _ us hl => match us, hl with | [_, _], _ => rfl)⟩,
    fn_is_led := by obtain ⟨fd, W⟩ := c.def_ 4 rfl; exact ⟨_, fd, He.glo_ok X G (c.fact 144 rfl), W, W.bindsN (fun _ _ _ _ _ _ us hl => match us, hl with | [_, _, _], _ => rfl)⟩,
    fn_is_held := by obtain ⟨fd, W⟩ := c.def_ 5 rfl; exact ⟨_, fd, He.glo_ok X G (c.fact 145 rfl), W, W.bindsN (fun _ _ _ _ _ _ us hl => match us, hl with | [_, _, _], _ => rfl)⟩,
    fn_marks_at := by obtain ⟨fd, W⟩ := c.def_ 6 rfl; exact ⟨_, fd, He.glo_ok X G (c.fact 146 rfl), W, W.bindsN (fun _ _ _ _ _ _ us hl => match us, hl with | [_, _], _ => rfl)⟩,
    fn_met := by obtain ⟨fd, W⟩ := c.def_ 7 rfl; exact ⟨_, fd, He.glo_ok X G (c.fact 147 rfl), W, W.bindsN (fun _ _ _ _ _ _ us hl => match us, hl with | [_, _, _], _ => rfl)⟩,
    fn_asked_cells := by obtain ⟨fd, W⟩ := c.def_ 8 rfl; exact ⟨_, fd, He.glo_ok X G (c.fact 148 rfl), W, W.bindsN (fun _ _ _ _ _ _ us hl => match us, hl with | [_], _ => rfl)⟩,
    fn_asked_size := by obtain ⟨fd, W⟩ := c.def_ 9 rfl; exact ⟨_, fd, He.glo_ok X G (c.fact 149 rfl), W, W.bindsN (fun _ _ _ _ _ _ us hl => match us, hl with | [_, _], _ => rfl)⟩,
    fn_looks := by obtain ⟨fd, W⟩ := c.def_ 10 rfl; exact ⟨_, fd, He.glo_ok X G (c.fact 150 rfl), W, W.bindsN (fun _ _ _ _ _ _ us hl => match us, hl with | [_, _, _, _], _ => rfl)⟩,
    fn_asked_many := by obtain ⟨fd, W⟩ := c.def_ 11 rfl; exact ⟨_, fd, He.glo_ok X G (c.fact 151 rfl), W, W.bindsN (fun _ _ _ _ _ _ us hl => match us, hl with | [_, _], _ => rfl)⟩,
    fn_law_cell_at := by obtain ⟨fd, W⟩ := c.def_ 12 rfl; exact ⟨_, fd, He.glo_ok X G (c.fact 152 rfl), W, W.bindsN (fun _ _ _ _ _ _ us hl => match us, hl with | [_, _], _ => rfl)⟩,
    fn_law_well := by obtain ⟨fd, W⟩ := c.def_ 13 rfl; exact ⟨_, fd, He.glo_ok X G (c.fact 153 rfl), W, W.bindsN (fun _ _ _ _ _ _ us hl => match us, hl with | [_], _ => rfl)⟩,
    fn_law_draw := by obtain ⟨fd, W⟩ := c.def_ 14 rfl; exact ⟨_, fd, He.glo_ok X G (c.fact 154 rfl), W, W.bindsN (fun _ _ _ _ _ _ us hl => match us, hl with | [_, _], _ => rfl)⟩,
    fn_law_of := by obtain ⟨fd, W⟩ := c.def_ 15 rfl; exact ⟨_, fd, He.glo_ok X G (c.fact 155 rfl), W, W.bindsN (fun _ _ _ _ _ _ us hl => match us, hl with | [_, _], _ => rfl)⟩,
    fn_law_word := by obtain ⟨fd, W⟩ := c.def_ 16 rfl; exact ⟨_, fd, He.glo_ok X G (c.fact 156 rfl), W, W.bindsN (fun _ _ _ _ _ _ us hl => match us, hl with | [_, _], _ => rfl)⟩,
    fn_law_plan := by obtain ⟨fd, W⟩ := c.def_ 17 rfl; exact ⟨_, fd, He.glo_ok X G (c.fact 157 rfl), W, W.bindsN (fun _ _ _ _ _ _ us hl => match us, hl with | [_, _], _ => rfl)⟩,
    fn_law_parts := by obtain ⟨fd, W⟩ := c.def_ 18 rfl; exact ⟨_, fd, He.glo_ok X G (c.fact 158 rfl), W, W.bindsN (fun _ _ _ _ _ _ us hl => match us, hl with | [_], _ => rfl)⟩,
    fn_law_length := by obtain ⟨fd, W⟩ := c.def_ 19 rfl; exact ⟨_, fd, He.glo_ok X G (c.fact 159 rfl), W, W.bindsN (fun _ _ _ _ _ _ us hl => match us, hl with | [_], _ => rfl)⟩,
    fn_law_statement := by obtain ⟨fd, W⟩ := c.def_ 20 rfl; exact ⟨_, fd, He.glo_ok X G (c.fact 160 rfl), W, W.bindsN (fun _ _ _ _ _ _ us hl => match us, hl with | [_, _, _, _], _ => rfl)⟩,
    fn_law_row := by obtain ⟨fd, W⟩ := c.def_ 21 rfl; exact ⟨_, fd, He.glo_ok X G (c.fact 161 rfl), W, W.bindsN (fun _ _ _ _ _ _ us hl => match us, hl with | [_, _, _, _], _ => rfl)⟩,
    fn_law_built := by obtain ⟨fd, W⟩ := c.def_ 22 rfl; exact ⟨_, fd, He.glo_ok X G (c.fact 162 rfl), W, W.bindsN (fun _ _ _ _ _ _ us hl => match us, hl with | [_], _ => rfl)⟩,
    fn_law_made := by obtain ⟨fd, W⟩ := c.def_ 23 rfl; exact ⟨_, fd, He.glo_ok X G (c.fact 163 rfl), W, W.bindsN (fun _ _ _ _ _ _ us hl => match us, hl with | [_], _ => rfl)⟩,
    fn_law_exits := by obtain ⟨fd, W⟩ := c.def_ 24 rfl; exact ⟨_, fd, He.glo_ok X G (c.fact 164 rfl), W, W.bindsN (fun _ _ _ _ _ _ us hl => match us, hl with | [_, _, _, _], _ => rfl)⟩,
    fn_law_lay := by obtain ⟨fd, W⟩ := c.def_ 25 rfl; exact ⟨_, fd, He.glo_ok X G (c.fact 165 rfl), W, W.bindsN (fun _ _ _ _ _ _ us hl => match us, hl with | [_, _, _, _, _], _ => rfl)⟩,
    fn_law_rooms := by obtain ⟨fd, W⟩ := c.def_ 26 rfl; exact ⟨_, fd, He.glo_ok X G (c.fact 166 rfl), W, W.bindsN (fun _ _ _ _ _ _ us hl => match us, hl with | [_, _], _ => rfl)⟩,
    fn_law_world := by obtain ⟨fd, W⟩ := c.def_ 27 rfl; exact ⟨_, fd, He.glo_ok X G (c.fact 167 rfl), W, W.bindsN (fun _ _ _ _ _ _ us hl => match us, hl with | [_, _], _ => rfl)⟩,
    fn_law_drawn := by obtain ⟨fd, W⟩ := c.def_ 28 rfl; exact ⟨_, fd, He.glo_ok X G (c.fact 168 rfl), W, W.bindsN (fun _ _ _ _ _ _ us hl => match us, hl with | [_, _, _], _ => rfl)⟩,
    fn_law_own := by obtain ⟨fd, W⟩ := c.def_ 29 rfl; exact ⟨_, fd, He.glo_ok X G (c.fact 169 rfl), W, W.bindsN (fun _ _ _ _ _ _ us hl => match us, hl with | [_], _ => rfl)⟩,
    fn_law_behind := by obtain ⟨fd, W⟩ := c.def_ 30 rfl; exact ⟨_, fd, He.glo_ok X G (c.fact 170 rfl), W, W.bindsN (fun _ _ _ _ _ _ us hl => match us, hl with | [_, _, _], _ => rfl)⟩,
    fn_law_open := by obtain ⟨fd, W⟩ := c.def_ 31 rfl; exact ⟨_, fd, He.glo_ok X G (c.fact 171 rfl), W, W.bindsN (fun _ _ _ _ _ _ us hl => match us, hl with | [_, _, _, _], _ => rfl)⟩,
    fn_law_nexts := by obtain ⟨fd, W⟩ := c.def_ 32 rfl; exact ⟨_, fd, He.glo_ok X G (c.fact 172 rfl), W, W.bindsN (fun _ _ _ _ _ _ us hl => match us, hl with | [_, _], _ => rfl)⟩,
    fn_law_marks := by obtain ⟨fd, W⟩ := c.def_ 33 rfl; exact ⟨_, fd, He.glo_ok X G (c.fact 173 rfl), W, W.bindsN (fun _ _ _ _ _ _ us hl => match us, hl with | [_, _], _ => rfl)⟩,
    fn_law_put_as := by obtain ⟨fd, W⟩ := c.def_ 34 rfl; exact ⟨_, fd, He.glo_ok X G (c.fact 174 rfl), W, W.bindsN (fun _ _ _ _ _ _ us hl => match us, hl with | [_], _ => rfl)⟩,
    fn_law_full := by obtain ⟨fd, W⟩ := c.def_ 35 rfl; exact ⟨_, fd, He.glo_ok X G (c.fact 175 rfl), W, W.bindsN (fun _ _ _ _ _ _ us hl => match us, hl with | [_, _], _ => rfl)⟩,
    fn_law_less := by obtain ⟨fd, W⟩ := c.def_ 36 rfl; exact ⟨_, fd, He.glo_ok X G (c.fact 176 rfl), W, W.bindsN (fun _ _ _ _ _ _ us hl => match us, hl with | [_, _], _ => rfl)⟩,
    fn_law_mixed := by obtain ⟨fd, W⟩ := c.def_ 37 rfl; exact ⟨_, fd, He.glo_ok X G (c.fact 177 rfl), W, W.bindsN (fun _ _ _ _ _ _ us hl => match us, hl with | [_, _], _ => rfl)⟩,
    fn_law_more := by obtain ⟨fd, W⟩ := c.def_ 38 rfl; exact ⟨_, fd, He.glo_ok X G (c.fact 178 rfl), W, W.bindsN (fun _ _ _ _ _ _ us hl => match us, hl with | [_, _, _], _ => rfl)⟩,
    fn_law_wrong := by obtain ⟨fd, W⟩ := c.def_ 39 rfl; exact ⟨_, fd, He.glo_ok X G (c.fact 179 rfl), W, W.bindsN (fun _ _ _ _ _ _ us hl => match us, hl with | [_, _, _], _ => rfl)⟩,
    fn_law := by obtain ⟨fd, W⟩ := c.def_ 40 rfl; exact ⟨_, fd, He.glo_ok X G (c.fact 180 rfl), W, W.bindsN (fun _ _ _ _ _ _ us hl => match us, hl with | [_], _ => rfl)⟩,
    mt_Board_values_of := by obtain ⟨fd, W⟩ := c.def_ 41 rfl; exact ⟨⟨_, fd, He.meth_ok (c.fact 181 rfl), W, W.bindsN (fun _ _ _ _ _ _ us hl => match us, hl with | [_, _], _ => rfl)⟩, He.cls_ok (c.fact 42 rfl)⟩,
    mt_Board_first := by obtain ⟨fd, W⟩ := c.def_ 42 rfl; exact ⟨⟨_, fd, He.meth_ok (c.fact 182 rfl), W, W.bindsN (fun _ _ _ _ _ _ us hl => match us, hl with | [_], _ => rfl)⟩, He.cls_ok (c.fact 42 rfl)⟩,
    mt_Board_asked := by obtain ⟨fd, W⟩ := c.def_ 43 rfl; exact ⟨⟨_, fd, He.meth_ok (c.fact 183 rfl), W, W.bindsN (fun _ _ _ _ _ _ us hl => match us, hl with | [_, _, _], _ => rfl)⟩, He.cls_ok (c.fact 42 rfl)⟩,
    mt_Board_others := by obtain ⟨fd, W⟩ := c.def_ 44 rfl; exact ⟨⟨_, fd, He.meth_ok (c.fact 184 rfl), W, W.bindsN (fun _ _ _ _ _ _ us hl => match us, hl with | [_, _, _], _ => rfl)⟩, He.cls_ok (c.fact 42 rfl)⟩,
    mt_Board_value_at := by obtain ⟨fd, W⟩ := c.def_ 45 rfl; exact ⟨⟨_, fd, He.meth_ok (c.fact 185 rfl), W, W.bindsN (fun _ _ _ _ _ _ us hl => match us, hl with | [_, _, _], _ => rfl)⟩, He.cls_ok (c.fact 42 rfl)⟩,
    mt_Program_size := by obtain ⟨fd, W⟩ := c.def_ 46 rfl; exact ⟨⟨_, fd, He.meth_ok (c.fact 186 rfl), W, W.bindsN (fun _ _ _ _ _ _ us hl => match us, hl with | [_], _ => rfl)⟩, He.cls_ok (c.fact 43 rfl)⟩,
    mt_Program_deep := by obtain ⟨fd, W⟩ := c.def_ 47 rfl; exact ⟨⟨_, fd, He.meth_ok (c.fact 187 rfl), W, W.bindsN (fun _ _ _ _ _ _ us hl => match us, hl with | [_], _ => rfl)⟩, He.cls_ok (c.fact 43 rfl)⟩,
    mt_Machine_number_row := by obtain ⟨fd, W⟩ := c.def_ 48 rfl; exact ⟨⟨_, fd, He.meth_ok (c.fact 188 rfl), W, W.bindsN (fun _ _ _ _ _ _ us hl => match us, hl with | [_, _], _ => rfl)⟩, He.cls_ok (c.fact 44 rfl)⟩,
    mt_Machine_lay_row := by obtain ⟨fd, W⟩ := c.def_ 49 rfl; exact ⟨⟨_, fd, He.meth_ok (c.fact 189 rfl), W, W.bindsN (fun _ _ _ _ _ _ us hl => match us, hl with | [_, _, _, _], _ => rfl)⟩, He.cls_ok (c.fact 44 rfl)⟩,
    mt_Machine_begin_of := by obtain ⟨fd, W⟩ := c.def_ 50 rfl; exact ⟨⟨_, fd, He.meth_ok (c.fact 190 rfl), W, W.bindsN (fun _ _ _ _ _ _ us hl => match us, hl with | [_, _, _, _], _ => rfl)⟩, He.cls_ok (c.fact 44 rfl)⟩,
    mt_Machine_lay := by obtain ⟨fd, W⟩ := c.def_ 51 rfl; exact ⟨⟨_, fd, He.meth_ok (c.fact 191 rfl), W, W.bindsN (fun _ _ _ _ _ _ us hl => match us, hl with | [_, _, _, _], _ => rfl)⟩, He.cls_ok (c.fact 44 rfl)⟩,
    mt_Machine_steps_of := by obtain ⟨fd, W⟩ := c.def_ 52 rfl; exact ⟨⟨_, fd, He.meth_ok (c.fact 192 rfl), W, W.bindsN (fun _ _ _ _ _ _ us hl => match us, hl with | [_, _, _, _], _ => rfl)⟩, He.cls_ok (c.fact 44 rfl)⟩,
    mt_Machine_asked := by obtain ⟨fd, W⟩ := c.def_ 53 rfl; exact ⟨⟨_, fd, He.meth_ok (c.fact 193 rfl), W, W.bindsN (fun _ _ _ _ _ _ us hl => match us, hl with | [_, _], _ => rfl)⟩, He.cls_ok (c.fact 44 rfl)⟩,
    mt_Machine_mark_of := by obtain ⟨fd, W⟩ := c.def_ 54 rfl; exact ⟨⟨_, fd, He.meth_ok (c.fact 194 rfl), W, W.bindsN (fun _ _ _ _ _ _ us hl => match us, hl with | [_, _], _ => rfl)⟩, He.cls_ok (c.fact 44 rfl)⟩,
    mt_Machine_marks := by obtain ⟨fd, W⟩ := c.def_ 55 rfl; exact ⟨⟨_, fd, He.meth_ok (c.fact 195 rfl), W, W.bindsN (fun _ _ _ _ _ _ us hl => match us, hl with | [_], _ => rfl)⟩, He.cls_ok (c.fact 44 rfl)⟩,
    mt_Game_machine := by obtain ⟨fd, W⟩ := c.def_ 56 rfl; exact ⟨⟨_, fd, He.meth_ok (c.fact 196 rfl), W, W.bindsN (fun _ _ _ _ _ _ us hl => match us, hl with | [_, _], _ => rfl)⟩, He.cls_ok (c.fact 45 rfl)⟩,
    mt_Game_board := by obtain ⟨fd, W⟩ := c.def_ 57 rfl; exact ⟨⟨_, fd, He.meth_ok (c.fact 197 rfl), W, W.bindsN (fun _ _ _ _ _ _ us hl => match us, hl with | [_], _ => rfl)⟩, He.cls_ok (c.fact 45 rfl)⟩,
    mt_Game_begin := by obtain ⟨fd, W⟩ := c.def_ 58 rfl; exact ⟨⟨_, fd, He.meth_ok (c.fact 198 rfl), W, W.bindsN (fun _ _ _ _ _ _ us hl => match us, hl with | [_, _], _ => rfl)⟩, He.cls_ok (c.fact 45 rfl)⟩,
    mtSize := fun d => match d with | .write => (by obtain ⟨fd, W⟩ := cc.def_ 59 rfl; exact ⟨⟨_, fd, He.meth_ok (cc.fact 199 rfl), W, W.bindsN (fun _ _ _ _ _ _ us hl => match us, hl with | [_], _ => rfl)⟩, He.cls_ok (cc.fact 46 rfl)⟩) | .wait => (by obtain ⟨fd, W⟩ := cc.def_ 60 rfl; exact ⟨⟨_, fd, He.meth_ok (cc.fact 200 rfl), W, W.bindsN (fun _ _ _ _ _ _ us hl => match us, hl with | [_], _ => rfl)⟩, He.cls_ok (cc.fact 47 rfl)⟩) | .mark => (by obtain ⟨fd, W⟩ := cc.def_ 61 rfl; exact ⟨⟨_, fd, He.meth_ok (cc.fact 201 rfl), W, W.bindsN (fun _ _ _ _ _ _ us hl => match us, hl with | [_], _ => rfl)⟩, He.cls_ok (cc.fact 48 rfl)⟩) | .skip => (by obtain ⟨fd, W⟩ := cc.def_ 62 rfl; exact ⟨⟨_, fd, He.meth_ok (cc.fact 202 rfl), W, W.bindsN (fun _ _ _ _ _ _ us hl => match us, hl with | [_], _ => rfl)⟩, He.cls_ok (cc.fact 49 rfl)⟩) | .stop => (by obtain ⟨fd, W⟩ := cc.def_ 63 rfl; exact ⟨⟨_, fd, He.meth_ok (cc.fact 203 rfl), W, W.bindsN (fun _ _ _ _ _ _ us hl => match us, hl with | [_], _ => rfl)⟩, He.cls_ok (cc.fact 50 rfl)⟩) | .ife => (by obtain ⟨fd, W⟩ := cc.def_ 64 rfl; exact ⟨⟨_, fd, He.meth_ok (cc.fact 204 rfl), W, W.bindsN (fun _ _ _ _ _ _ us hl => match us, hl with | [_], _ => rfl)⟩, He.cls_ok (cc.fact 51 rfl)⟩) | .whl => (by obtain ⟨fd, W⟩ := cc.def_ 65 rfl; exact ⟨⟨_, fd, He.meth_ok (cc.fact 205 rfl), W, W.bindsN (fun _ _ _ _ _ _ us hl => match us, hl with | [_], _ => rfl)⟩, He.cls_ok (cc.fact 52 rfl)⟩) | .cho => (by obtain ⟨fd, W⟩ := cc.def_ 66 rfl; exact ⟨⟨_, fd, He.meth_ok (cc.fact 206 rfl), W, W.bindsN (fun _ _ _ _ _ _ us hl => match us, hl with | [_], _ => rfl)⟩, He.cls_ok (cc.fact 53 rfl)⟩) | .lop => (by obtain ⟨fd, W⟩ := cc.def_ 67 rfl; exact ⟨⟨_, fd, He.meth_ok (cc.fact 207 rfl), W, W.bindsN (fun _ _ _ _ _ _ us hl => match us, hl with | [_], _ => rfl)⟩, He.cls_ok (cc.fact 54 rfl)⟩),
    mtParts := fun d => match d with | .write => (by obtain ⟨fd, W⟩ := cc.def_ 68 rfl; exact ⟨⟨_, fd, He.meth_ok (cc.fact 208 rfl), W, W.bindsN (fun _ _ _ _ _ _ us hl => match us, hl with | [_], _ => rfl)⟩, He.cls_ok (cc.fact 46 rfl)⟩) | .wait => (by obtain ⟨fd, W⟩ := cc.def_ 69 rfl; exact ⟨⟨_, fd, He.meth_ok (cc.fact 209 rfl), W, W.bindsN (fun _ _ _ _ _ _ us hl => match us, hl with | [_], _ => rfl)⟩, He.cls_ok (cc.fact 47 rfl)⟩) | .mark => (by obtain ⟨fd, W⟩ := cc.def_ 70 rfl; exact ⟨⟨_, fd, He.meth_ok (cc.fact 210 rfl), W, W.bindsN (fun _ _ _ _ _ _ us hl => match us, hl with | [_], _ => rfl)⟩, He.cls_ok (cc.fact 48 rfl)⟩) | .skip => (by obtain ⟨fd, W⟩ := cc.def_ 71 rfl; exact ⟨⟨_, fd, He.meth_ok (cc.fact 211 rfl), W, W.bindsN (fun _ _ _ _ _ _ us hl => match us, hl with | [_], _ => rfl)⟩, He.cls_ok (cc.fact 49 rfl)⟩) | .stop => (by obtain ⟨fd, W⟩ := cc.def_ 72 rfl; exact ⟨⟨_, fd, He.meth_ok (cc.fact 212 rfl), W, W.bindsN (fun _ _ _ _ _ _ us hl => match us, hl with | [_], _ => rfl)⟩, He.cls_ok (cc.fact 50 rfl)⟩) | .ife => (by obtain ⟨fd, W⟩ := cc.def_ 73 rfl; exact ⟨⟨_, fd, He.meth_ok (cc.fact 213 rfl), W, W.bindsN (fun _ _ _ _ _ _ us hl => match us, hl with | [_], _ => rfl)⟩, He.cls_ok (cc.fact 51 rfl)⟩) | .whl => (by obtain ⟨fd, W⟩ := cc.def_ 74 rfl; exact ⟨⟨_, fd, He.meth_ok (cc.fact 214 rfl), W, W.bindsN (fun _ _ _ _ _ _ us hl => match us, hl with | [_], _ => rfl)⟩, He.cls_ok (cc.fact 52 rfl)⟩) | .cho => (by obtain ⟨fd, W⟩ := cc.def_ 75 rfl; exact ⟨⟨_, fd, He.meth_ok (cc.fact 215 rfl), W, W.bindsN (fun _ _ _ _ _ _ us hl => match us, hl with | [_], _ => rfl)⟩, He.cls_ok (cc.fact 53 rfl)⟩) | .lop => (by obtain ⟨fd, W⟩ := cc.def_ 76 rfl; exact ⟨⟨_, fd, He.meth_ok (cc.fact 216 rfl), W, W.bindsN (fun _ _ _ _ _ _ us hl => match us, hl with | [_], _ => rfl)⟩, He.cls_ok (cc.fact 54 rfl)⟩),
    in_Question := by obtain ⟨fd, W⟩ := c.def_ 77 rfl; exact in_dfl (He.mkr_ok (c.fact 217 rfl)) W (fun z => by cases z) (fun T kV doc pm an cdv ct us its h1 h2 => match us, h1, its, h2 with | [_, _, _, _], _, [_, _, _], _ => ⟨_, by rfl, by rfl⟩),
    in_Board := by obtain ⟨fd, W⟩ := c.def_ 78 rfl; exact ⟨_, fd, _, He.mkr_ok (c.fact 218 rfl), W, W.bindsN (fun _ _ _ _ _ _ us hl => match us, hl with | [_, _], _ => rfl)⟩,
    in_Program := by obtain ⟨fd, W⟩ := c.def_ 79 rfl; exact ⟨_, fd, _, He.mkr_ok (c.fact 219 rfl), W, W.bindsN (fun _ _ _ _ _ _ us hl => match us, hl with | [_, _], _ => rfl)⟩,
    in_Machine := by obtain ⟨fd, W⟩ := c.def_ 80 rfl; exact ⟨_, fd, _, He.mkr_ok (c.fact 220 rfl), W, W.bindsN (fun _ _ _ _ _ _ us hl => match us, hl with | [_, _, _], _ => rfl)⟩,
    in_Game := by obtain ⟨fd, W⟩ := c.def_ 81 rfl; exact ⟨_, fd, _, He.mkr_ok (c.fact 221 rfl), W, W.bindsN (fun _ _ _ _ _ _ us hl => match us, hl with | [_, _, _, _], _ => rfl)⟩,
    in_Write := by obtain ⟨fd, W⟩ := c.def_ 82 rfl; exact ⟨_, fd, _, He.mkr_ok (c.fact 222 rfl), W, W.bindsN (fun _ _ _ _ _ _ us hl => match us, hl with | [_, _, _], _ => rfl)⟩,
    in_Wait := by obtain ⟨fd, W⟩ := c.def_ 83 rfl; exact ⟨_, fd, _, He.mkr_ok (c.fact 223 rfl), W, W.bindsN (fun _ _ _ _ _ _ us hl => match us, hl with | [_, _, _], _ => rfl)⟩,
    in_Mark := by obtain ⟨fd, W⟩ := c.def_ 84 rfl; exact ⟨_, fd, _, He.mkr_ok (c.fact 224 rfl), W, W.bindsN (fun _ _ _ _ _ _ us hl => match us, hl with | [_, _], _ => rfl)⟩,
    in_If := by obtain ⟨fd, W⟩ := c.def_ 85 rfl; exact ⟨_, fd, _, He.mkr_ok (c.fact 225 rfl), W, W.bindsN (fun _ _ _ _ _ _ us hl => match us, hl with | [_, _, _, _, _], _ => rfl)⟩,
    in_While := by obtain ⟨fd, W⟩ := c.def_ 86 rfl; exact ⟨_, fd, _, He.mkr_ok (c.fact 226 rfl), W, W.bindsN (fun _ _ _ _ _ _ us hl => match us, hl with | [_, _, _, _], _ => rfl)⟩,
    in_Choose := by obtain ⟨fd, W⟩ := c.def_ 87 rfl; exact ⟨_, fd, _, He.mkr_ok (c.fact 227 rfl), W, W.bindsN (fun _ _ _ _ _ _ us hl => match us, hl with | [_, _, _], _ => rfl)⟩,
    in_Loop := by obtain ⟨fd, W⟩ := c.def_ 88 rfl; exact ⟨_, fd, _, He.mkr_ok (c.fact 228 rfl), W, W.bindsN (fun _ _ _ _ _ _ us hl => match us, hl with | [_, _], _ => rfl)⟩,
    m0_Skip := FX.m0_ok (ce.fact 0 rfl),
    m0_Stop := FX.m0_ok (ce.fact 1 rfl),
    cf_OnCell := by obtain ⟨fd, W⟩ := c.def_ 89 rfl; obtain ⟨h1, h2⟩ := FX.cfn_ok (ce.fact 2 rfl); exact ⟨_, fd, h1, h2, W, W.bindsN (fun _ _ _ _ _ _ us hl => match us, hl with | [_, _, _], _ => rfl)⟩,
    isF := fun d => match d with | .write => FX.isf_ok (ce.fact 3 rfl) | .wait => FX.isf_ok (ce.fact 4 rfl) | .mark => FX.isf_ok (ce.fact 5 rfl) | .skip => FX.isf_ok (ce.fact 6 rfl) | .stop => FX.isf_ok (ce.fact 7 rfl) | .ife => FX.isf_ok (ce.fact 8 rfl) | .whl => FX.isf_ok (ce.fact 9 rfl) | .cho => FX.isf_ok (ce.fact 10 rfl) | .lop => FX.isf_ok (ce.fact 11 rfl),
    kit := kits ce }
end
end K4

set_option maxHeartbeats 4000000
/-! Tuples made out of lists that may be asked by a method; a tuple once. -/
namespace K4
open PySem PySem.Spec PyProof.Rows L2
section
variable {X : Cx} (K : PySem.W.Frag)
/-- a tuple of the run whose object is known to have no dict -/
def FTup (H : Hp) (p : Addr) (ys : List V) : Prop := ∃ o : Obj, H p = some (.frz o (.tup ys)) ∧ o.cls = .type "tuple" ∧ o.dict = none
def rTupF : List V → Hp → VK → Prop := fun xs H Q => ∃ p ys, xs = [.ref p] ∧ SqL K H p ys ∧ ∀ l o, H l = none → o.cls = Value.type "tuple" → o.dict = none → Q (.ref l) (upd H l (.frz o (.tup ys)))
theorem cr_tupF : CallR X (.type "tuple") (rTupF X.K) := by
  intro pn s σ H vs us Q J rv h
  obtain ⟨p, ys, rfl, hp, k⟩ := h
  obtain ⟨u, rfl, ru⟩ := vals1 rv
  cases ru
  obtain ⟨its, ri, pl, z⟩ := J.list hp
  have le := ri.length
  refine call_tuple_list pl.isList (fun hq kept => ?_) (by simp only [List.size_toArray] <;> omega)
  have J1 : Inv X pn σ H { s with heap := hq } := J.kept (t' := s.toks) kept
  let ob : Obj := { cls := .type "tuple", data := .seq its.toArray }
  have g : (hq.push ob).get? hq.objs.size = some ob := Heap.get?_push_size hq (o := ob) rfl
  have J2 : Inv X pn σ (upd H hq.objs.size (.frz ob (.tup ys))) { s with heap := hq.push ob } :=
    J1.laid (t' := s.toks) (fun b o e => Heap.get?_push_of_some _ e) (Nat.le_refl _) (show ObjOk X.prog X.w _ _ _ (.frz ob (.tup ys)) from ⟨g, z, its, ri, ⟨ob, g, rfl, _, rfl⟩⟩)
  exact ⟨.ref hq.objs.size, _, J2, rfl, k _ ob (J1.hok.fresh (Nat.le_refl _)) rfl rfl⟩
theorem k_tupF (h : X.K = K := by rfl) : CallR X (.type "tuple") (rTupF K) := by subst h; exact cr_tupF
def tyF (x : V) (H : Hp) : Prop := ∃ p ys, x = .ref p ∧ FTup H p ys
theorem ty_tupF : TyOk X "tuple" tyF := by
  intro pn σ H s x v J rv h
  obtain ⟨p, ys, rfl, o, hp, hc, hd⟩ := h
  cases rv
  obtain ⟨ho, _⟩ := J.hok p _ hp
  exact ⟨⟨o, ho, hc⟩, fun a e => by cases e; exact ⟨o, ho, hd⟩⟩
theorem FTup.sq {H : Hp} {p : Addr} {ys : List V} (h : FTup H p ys) : SqT K H p ys := by
  obtain ⟨o, h1, _⟩ := h
  exact .inl (.inr ⟨o, h1⟩)
/-- a tuple once is itself -/
theorem tuple_once (l : Addr) (its : Array Value) (n : Nat) (dd : Option Addr) (sl : Array (Option Value)) (u : Tok) :
    Meets (Builtin.«tuple.__mul__» ⟨[.ref l, .int 1 u], []⟩) (fun _ R s => s.heap.get? l = some { cls := .type "tuple", dict := dd, data := .seq its n, slots := sl } ∧ R (.ok (.ret (Value.ref l))) s) :=
  .of_wp fun prog w A R s h => by
    obtain ⟨hp, g, d, tk, os⟩ := s
    obtain ⟨hl, h⟩ := h
    have f1 := AutoSeq1.idx_int
    wp_walk using wpAny_loadPart' hl
    exact ⟨_, rfl, h⟩
def rRepA : R2 := fun x y H Q => rRepT K x y H Q ∨ ∃ l xs, x = .ref l ∧ y = .int 1 ∧ SqT K H l xs ∧ Q (.ref l) H
theorem op_repA : OpR X (binaryOp .Mult) (rRepA X.K) := by
  intro pn s σ H x y v u Q J rx ry h
  rcases h with h | h
  · exact op_repT pn s σ H x y v u Q J rx ry h
  · obtain ⟨l, xs, rfl, rfl, hl, k⟩ := h
    cases rx
    obtain ⟨t, rfl⟩ := ry
    obtain ⟨its, ri, ⟨⟨c, dd, dt, sl⟩, ho, hc, n, hd⟩, z⟩ := J.tuple hl
    simp only at hc hd
    subst hc hd
    exact wpAny_binaryOp_repeat_ref (T := "tuple") (U := "int") (by decide) ⟨_, ho, rfl⟩ (fun s' => typeIs_int s' 1 t) noFill_tuple_mul F.fills_int_mul F.slot_int_rmul repeat_tuple F.slot_int_index.lookup
      (call_meets F.slot_int_rmul (typeIs_int s 1 t) F.entry_int_rmul (F.args_int_rmul_2 _ _) (int_rmul_tuple 1 t l its.toArray n dd sl)
        ⟨ho, rfl, ⟨_, ho, rfl⟩, call_meets F.slot_tuple_mul ⟨_, ho, rfl⟩ F.entry_tuple_mul (F.args_tuple_mul_2 _ _) (tuple_once l its.toArray n dd sl t) ⟨ho, ⟨.ref l, H, J, rfl, k⟩⟩⟩)
theorem k_repA (h : X.K = K := by rfl) : OpR X (binaryOp .Mult) (rRepA K) := by subst h; exact op_repA
end
end K4

/-! Words for readings. -/
namespace K4
open PySem L2
theorem ifT {b : Bool} {A B : Prop} (h : b = true) (a : A) : if b = true then A else B := by rw [if_pos h]; exact a
theorem ifF {b : Bool} {A B : Prop} (h : b = false) (a : B) : if b = true then A else B := by rw [if_neg (by rw [h]; exact Bool.false_ne_true)]; exact a
theorem if2 {b : Bool} {A B : Prop} (h1 : b = true → A) (h2 : b = false → B) : if b = true then A else B := by
  cases b with
  | true => exact ifT rfl (h1 rfl)
  | false => exact ifF rfl (h2 rfl)
theorem dT {p : Prop} [Decidable p] (h : p) : decide p = true := decide_eq_true h
theorem dF {p : Prop} [Decidable p] (h : ¬ p) : decide p = false := decide_eq_false h
theorem nD {p : Prop} [Decidable p] (h : p) : (!decide p) = false := by rw [decide_eq_true h]; rfl
theorem nT {p : Prop} [Decidable p] (h : ¬ p) : (!decide p) = true := by rw [decide_eq_false h]; rfl
theorem nB {b : Bool} (h : b = true) : (!b) = false := by rw [h]; rfl
theorem nB' {b : Bool} (h : b = false) : (!b) = true := by rw [h]; rfl
theorem bT {b : Bool} {A : Bool → Prop} (h : b = true) (a : A true) : A b := by rw [h]; exact a
theorem bF {b : Bool} {A : Bool → Prop} (h : b = false) (a : A false) : A b := by rw [h]; exact a
theorem zl {n : Nat} (h : n ≤ 1000000) : n ≤ sizeLine := Nat.le_trans h (by decide)
theorem zl' {n : Nat} (h : n ≤ 1000000) : n < sizeLine := Nat.lt_of_le_of_lt h (by decide)
theorem sqL {K : PySem.W.Frag} {G H : Hp} {a : Addr} {xs : List V} (h : G a = some (.lst xs)) (e : Ex G H) : SqL K H a xs := SqL.of (e _ _ h)
theorem sqT {K : PySem.W.Frag} {G H : Hp} {a : Addr} {xs : List V} (h : G a = some (.tup xs)) (e : Ex G H) : SqT K H a xs := SqT.of (e _ _ h)
theorem Ex.same {H H' : Hp} (e : Ex H H') : Same H H' := e
theorem Ex.sqL {K : PySem.W.Frag} {H H' : Hp} {a : Addr} {xs : List V} (e : Ex H H') (h : SqL K H a xs) : SqL K H' a xs := Same.seq e h
theorem Ex.sqT {K : PySem.W.Frag} {H H' : Hp} {a : Addr} {xs : List V} (e : Ex H H') (h : SqT K H a xs) : SqT K H' a xs := by
  rcases h with (h | ⟨o, h⟩) | h
  · exact .inl (.inl (e _ _ h))
  · exact .inl (.inr ⟨o, e _ _ h⟩)
  · exact .inr h
theorem Fr.ex {H H' : Hp} (f : Fr NoW H H') : Ex H H' := f.same
/-- things told by E -/
def Al {β : Type} (E : Hp → β → V → Prop) (G : Hp) : List β → List V → Prop
  | [], xs => xs = []
  | d :: l, xs => ∃ x r, xs = x :: r ∧ E G d x ∧ Al E G l r
section
variable {β : Type} {E : Hp → β → V → Prop}
theorem Al.up (m : ∀ G G' d v, Ex G G' → E G d v → E G' d v) {G G' : Hp} (e : Ex G G') : ∀ {l : List β} {xs : List V}, Al E G l xs → Al E G' l xs
  | [], _, h => h
  | d :: l, xs, h => by
    obtain ⟨x, r, h1, h2, h3⟩ := (show ∃ x r, xs = x :: r ∧ E G d x ∧ Al E G l r from h)
    exact ⟨x, r, h1, m _ _ _ _ e h2, Al.up m e h3⟩
theorem Al.len {G : Hp} : ∀ {l : List β} {xs : List V}, Al E G l xs → xs.length = l.length
  | [], xs, h => by rw [show xs = [] from h]; rfl
  | d :: l, xs, h => by
    obtain ⟨x, r, rfl, _, h3⟩ := (show ∃ x r, xs = x :: r ∧ E G d x ∧ Al E G l r from h)
    rw [List.length_cons, List.length_cons, Al.len h3]
theorem Al.get {G : Hp} : ∀ {l : List β} {xs : List V} {i : Nat} {x : V}, Al E G l xs → xs[i]? = some x → ∃ d, l[i]? = some d ∧ E G d x
  | [], xs, i, x, h, e => by rw [show xs = [] from h] at e; simp at e
  | d :: l, xs, i, x, h, e => by
    obtain ⟨y, r, rfl, h2, h3⟩ := (show ∃ x r, xs = x :: r ∧ E G d x ∧ Al E G l r from h)
    cases i with
    | zero => simp at e; subst e; exact ⟨d, by simp, h2⟩
    | succ i =>
      obtain ⟨d', q1, q2⟩ := Al.get (i := i) h3 (by simpa using e)
      exact ⟨d', by simpa using q1, q2⟩
theorem Al.at {G : Hp} {l : List β} {xs : List V} {i : Nat} {d : β} (h : Al E G l xs) (e : l[i]? = some d) : ∃ x, xs[i]? = some x ∧ E G d x := by
  have hl := h.len
  obtain ⟨hi, _⟩ := List.getElem?_eq_some_iff.mp e
  have hx : xs[i]? = some xs[i] := List.getElem?_eq_getElem (by omega)
  obtain ⟨d', e1, r⟩ := h.get hx
  rw [e] at e1; cases e1
  exact ⟨_, hx, r⟩
theorem Al.snoc {G : Hp} : ∀ {l : List β} {xs : List V} {d : β} {x : V}, Al E G l xs → E G d x → Al E G (l ++ [d]) (xs ++ [x])
  | [], xs, d, x, h, t => by rw [show xs = [] from h]; exact ⟨x, [], rfl, t, rfl⟩
  | d :: l, xs, d', x', h, t => by
    obtain ⟨x, r, rfl, h2, h3⟩ := (show ∃ x r, xs = x :: r ∧ E G d x ∧ Al E G l r from h)
    exact ⟨x, r ++ [x'], rfl, h2, h3.snoc t⟩
end
theorem RepL.al {G : Hp} : ∀ {l : List D} {xs : List V}, RepL G l xs → Al Rep G l xs
  | [], _, h => h
  | d :: l, xs, h => by
    obtain ⟨x, r, h1, h2, h3⟩ := h.c1
    exact ⟨x, r, h1, h2, RepL.al h3⟩
theorem Al.rep {G : Hp} : ∀ {l : List D} {xs : List V}, Al Rep G l xs → RepL G l xs
  | [], _, h => h
  | d :: l, xs, h => by
    obtain ⟨x, r, h1, h2, h3⟩ := (show ∃ x r, xs = x :: r ∧ Rep G d x ∧ Al Rep G l r from h)
    exact ⟨x, r, h1, h2, Al.rep h3⟩
theorem take_snoc {α : Type} {l : List α} {i : Nat} {a : α} (h : l[i]? = some a) : l.take (i + 1) = l.take i ++ [a] := by
  rw [List.take_add_one, h]; rfl
section
variable {J : It} {n : Nat} {Gd : Hp → Prop} {Y : Nat → Hp → V → Hp → Prop} {g : TG} {tt : TT} {te : TE} {vs : List Nat} {σ : L2.St} {H1 : Hp} {L : Addr} {Qd : Hp → Prop} {G0 : Hp}
/-- a comprehension: R tells of the turn, the known heap and what is made so far -/
theorem lcC (w : Walk J n Gd Y) (hn : n ≤ 1000000) (e0 : Ex G0 H1) (nL : H1 L = none)
    (hGd : ∀ H, Ex H1 H → Gd H) (R : Nat → Hp → List V → Prop) (r0 : R 0 G0 [])
    (hs : ∀ i x G H H' acc (K1 : VK) (K0 : Hp → Prop), i < n → Step NoW G0 H1 G H → R i G acc → Y i H x H' →
      (∀ y G4 H4, Step NoW G H G4 H4 → R (i + 1) G4 (acc ++ [y]) → K1 y H4) → (∀ G3 H3, Step NoW G H G3 H3 → R (i + 1) G3 acc → K0 H3) →
      g x (wipe σ vs) H' fun σ2 H2 => wipe σ2 vs = wipe σ vs ∧ tt σ2 H2 fun b H3 => if b = true then te σ2 H3 K1 else K0 H3)
    (hd : ∀ G H ys, Step NoW G0 H1 G H → H L = some (.lst ys) → G L = none → ys.length ≤ n → R n G ys → Qd H) :
    ∃ W : Nat → Nat → Hp → Prop, (∃ m, W 0 m (upd H1 L (.lst []))) ∧ ∀ i m H, W i m H →
      (J.stop i H ∧ Qd H) ∨ (J.go i H ∧ ∃ Nx : Hp → Prop, (∀ H', Nx H' → ∃ m', m' < m ∧ W (i + 1) m' H') ∧ ∀ x H', J.yld i H x H' → g x (wipe σ vs) H' fun σ2 H2 => wipe σ2 vs = wipe σ vs ∧ tt σ2 H2 fun b H3 =>
        if b = true then te σ2 H3 fun y H4 => ∃ acc, H4 L = some (.lst acc) ∧ acc.length < sizeLine ∧ Nx (upd H4 L (.lst (acc ++ [y]))) else Nx H3) := by
  refine lc_it w (fun i H => ∃ G acc, Step NoW G0 H1 G H ∧ H L = some (.lst acc) ∧ G L = none ∧ acc.length ≤ i ∧ R i G acc)
    ⟨G0, [], (Step.refl e0).newM nL, upd_same, e0.free nL, Nat.le_refl _, r0⟩ (fun i H _ ⟨G, acc, s, _⟩ => hGd H s.toFr.same) ?_ ?_
  · rintro i x H H' hi ⟨G, acc, s, hL, gL, la, r⟩ y
    refine hs i x G H H' acc _ _ hi s r y (fun v G4 H4 s4 r4 => ?_) (fun G3 H3 s3 r3 => ?_)
    · exact ⟨acc, s4.held hL, zl' (by omega), G4, acc ++ [v], (s.trans s4).mut (.inr nL) (s4.nw _ _ hL gL) (s4.held hL), upd_same, s4.nw _ _ hL gL, by rw [List.length_append, List.length_singleton]; omega, r4⟩
    · exact ⟨G3, acc, s.trans s3, s3.held hL, s3.nw _ _ hL gL, by omega, r3⟩
  · rintro H ⟨G, acc, s, hL, gL, la, r⟩
    exact hd G H acc s hL gL la r
/-- a comprehension over known things: the list of what they give -/
theorem lcE {α β : Type} {E : Hp → β → V → Prop} (m : ∀ G G' d v, Ex G G' → E G d v → E G' d v) (l : List α) (f : α → Option β) (w : Walk J l.length Gd Y) (hn : l.length ≤ 1000000) (e0 : Ex G0 H1) (nL : H1 L = none)
    (hGd : ∀ H, Ex H1 H → Gd H)
    (hs : ∀ i a x G H H' (K1 : VK) (K0 : Hp → Prop), l[i]? = some a → Step NoW G0 H1 G H → Y i H x H' →
      (∀ y d G4 H4, f a = some d → Step NoW G H G4 H4 → E G4 d y → K1 y H4) → (∀ G3 H3, f a = none → Step NoW G H G3 H3 → K0 H3) →
      g x (wipe σ vs) H' fun σ2 H2 => wipe σ2 vs = wipe σ vs ∧ tt σ2 H2 fun b H3 => if b = true then te σ2 H3 K1 else K0 H3)
    (hd : ∀ G H ys, Step NoW G0 H1 G H → H L = some (.lst ys) → G L = none → Al E G (l.filterMap f) ys → Qd H) :
    ∃ W : Nat → Nat → Hp → Prop, (∃ m, W 0 m (upd H1 L (.lst []))) ∧ ∀ i m H, W i m H →
      (J.stop i H ∧ Qd H) ∨ (J.go i H ∧ ∃ Nx : Hp → Prop, (∀ H', Nx H' → ∃ m', m' < m ∧ W (i + 1) m' H') ∧ ∀ x H', J.yld i H x H' → g x (wipe σ vs) H' fun σ2 H2 => wipe σ2 vs = wipe σ vs ∧ tt σ2 H2 fun b H3 =>
        if b = true then te σ2 H3 fun y H4 => ∃ acc, H4 L = some (.lst acc) ∧ acc.length < sizeLine ∧ Nx (upd H4 L (.lst (acc ++ [y]))) else Nx H3) := by
  refine lcC w hn e0 nL hGd (fun i G acc => Al E G ((l.take i).filterMap f) acc) rfl ?_ (fun G H ys s h g _ r => hd G H ys s h g (by rw [List.take_length] at r; exact r))
  intro i x G H H' acc K1 K0 hi s r y k1 k0
  have ha : l[i]? = some l[i] := List.getElem?_eq_getElem hi
  refine hs i l[i] x G H H' K1 K0 ha s y (fun v d G4 H4 fd s4 e4 => k1 v G4 H4 s4 ?_) (fun G3 H3 fn s3 => k0 G3 H3 s3 ?_)
  · rw [take_snoc ha, List.filterMap_append]
    have : [l[i]].filterMap f = [d] := by simp [fd]
    rw [this]
    exact (r.up m s4.eg).snoc e4
  · rw [take_snoc ha, List.filterMap_append]
    have : [l[i]].filterMap f = [] := by simp [fn]
    rw [this, List.append_nil]
    exact r.up m s3.eg
theorem lcD {α : Type} (l : List α) (f : α → Option K4.D) (w : Walk J l.length Gd Y) (hn : l.length ≤ 1000000) (e0 : Ex G0 H1) (nL : H1 L = none)
    (hGd : ∀ H, Ex H1 H → Gd H)
    (hs : ∀ i a x G H H' (K1 : VK) (K0 : Hp → Prop), l[i]? = some a → Step NoW G0 H1 G H → Y i H x H' →
      (∀ y d G4 H4, f a = some d → Step NoW G H G4 H4 → Rep G4 d y → K1 y H4) → (∀ G3 H3, f a = none → Step NoW G H G3 H3 → K0 H3) →
      g x (wipe σ vs) H' fun σ2 H2 => wipe σ2 vs = wipe σ vs ∧ tt σ2 H2 fun b H3 => if b = true then te σ2 H3 K1 else K0 H3)
    (hd : ∀ G H ys, Step NoW G0 H1 G H → H L = some (.lst ys) → G L = none → RepL G (l.filterMap f) ys → Qd H) :
    ∃ W : Nat → Nat → Hp → Prop, (∃ m, W 0 m (upd H1 L (.lst []))) ∧ ∀ i m H, W i m H →
      (J.stop i H ∧ Qd H) ∨ (J.go i H ∧ ∃ Nx : Hp → Prop, (∀ H', Nx H' → ∃ m', m' < m ∧ W (i + 1) m' H') ∧ ∀ x H', J.yld i H x H' → g x (wipe σ vs) H' fun σ2 H2 => wipe σ2 vs = wipe σ vs ∧ tt σ2 H2 fun b H3 =>
        if b = true then te σ2 H3 fun y H4 => ∃ acc, H4 L = some (.lst acc) ∧ acc.length < sizeLine ∧ Nx (upd H4 L (.lst (acc ++ [y]))) else Nx H3) :=
  lcE (E := Rep) (fun _ _ d _ e h => Rep.mono e d h) l f w hn e0 nL hGd hs (fun G H ys s h g r => hd G H ys s h g r.rep)
end
/-! small things -/
theorem some_of {α : Type} {l : List α} {i : Nat} (h : i < l.length) : ∃ a, l[i]? = some a := ⟨l[i], List.getElem?_eq_getElem h⟩
theorem lt_of_some {α : Type} {l : List α} {i : Nat} {a : α} (h : l[i]? = some a) : i < l.length := (List.getElem?_eq_some_iff.mp h).1
theorem mem_of {α : Type} {l : List α} {i : Nat} {a : α} (h : l[i]? = some a) : a ∈ l := List.mem_of_getElem? h
theorem map_some {α β : Type} {l : List α} {f : α → β} {i : Nat} {b : β} (h : (l.map f)[i]? = some b) : ∃ a, l[i]? = some a ∧ b = f a := by
  rw [List.getElem?_map] at h
  cases e : l[i]? with
  | none => rw [e] at h; cases h
  | some a => rw [e] at h; cases h; exact ⟨a, rfl, rfl⟩
theorem at_nat {α : Type} {l : List α} {i : Nat} {j : Int} {a : α} (h : l[i]? = some a) (hj : j = (i : Nat) := by first | rfl | omega) : atI l j = some a := by
  subst hj
  have hi := lt_of_some h
  have : ixN l.length (i : Nat) = some i := by unfold ixN; simp [hi]
  unfold atI
  rw [this]
  exact h
theorem at_last {α : Type} {l : List α} {i : Nat} {a : α} (h : l[i]? = some a) (hl : l.length = i + 1) : atI l (-1) = some a := by
  have : ixN l.length (-1) = some i := by unfold ixN; simp [hl]; omega
  unfold atI
  rw [this]
  exact h
theorem ifStep {b : Bool} {A : Prop} {R : Hp → Prop} {H1 : Hp} (I : Hp → Prop) (h2 : b = false → I H1) (h1 : b = true → (∀ H2, I H2 → R H2) → A) (k : ∀ H2, I H2 → R H2) : if b = true then A else R H1 := by
  cases b with
  | true => exact ifT rfl (h1 rfl k)
  | false => exact ifF rfl (k H1 (h2 rfl))
/-- list(x or []) -/
theorem orList {K : PySem.W.Frag} {i : Nat} {G H : Hp} {a : Addr} {xs : List V} {σ : L2.St} {Q : VK} (h : G a = some (.lst xs)) (e : Ex G H)
    (k : ∀ l G1 H1, Step NoW G H G1 H1 → H l = none → G1 l = some (.lst xs) → Q (.ref l) H1) (hi : σ[i]? = some (some (.ref a)) := by rfl) :
    tCB (fun xs H Q => ∃ p ys, xs = [.ref p] ∧ (SqL K H p ys ∨ SqT K H p ys) ∧ ∀ l, H l = none → Q (.ref l) (upd H l (.lst ys))) (tCons (tOrT K (tVar i) (tLst tNil)) tNil) σ H Q := by
  have s0 : Step NoW G H G H := Step.refl e
  refine ⟨_, hi, _, .inl ⟨_, sqL h e, rfl⟩, if2 (fun _ => ?_) (fun q => ?_)⟩
  · exact ⟨a, xs, rfl, .inl (sqL h e), fun l nl => k l _ _ (s0.newD nl) nl upd_same⟩
  · have : xs = [] := by
      cases xs with
      | nil => rfl
      | cons _ _ => cases q
    subst this
    refine ⟨Nat.zero_le _, fun p np => ⟨p, [], rfl, .inl (.of upd_same), fun l nl => ?_⟩⟩
    exact k l _ _ ((s0.newM np).newD nl) ((s0.newM np).dm _ nl) upd_same
/-- pairs of texts -/
def pairD (c : Str × Str) : D := .tup [.str c.1, .str c.2]
def optV : Option Str → V
  | none => .non
  | some z => .str z
def optD : Option Str → D
  | none => .non
  | some z => .str z
theorem rep_optD {G : Hp} {o : Option Str} {v : V} (h : Rep G (optD o) v) : v = optV o := by
  cases o with
  | none => exact h
  | some z => exact h
theorem rep_optV {G : Hp} (o : Option Str) : Rep G (optD o) (optV o) := by
  cases o with
  | none => exact (rfl : V.non = V.non)
  | some z => exact (rfl : V.str z = V.str z)
theorem RepL.map {G : Hp} {α : Type} {f : α → D} {l : List α} {xs : List V} {i : Nat} {x : V} (h : RepL G (l.map f) xs) (e : xs[i]? = some x) : ∃ a, l[i]? = some a ∧ Rep G (f a) x := by
  obtain ⟨d, h1, h2⟩ := h.get e
  obtain ⟨a, h3, rfl⟩ := map_some h1
  exact ⟨a, h3, h2⟩
section
variable {te : TE} {t u : TS} {i : Nat} {D : Ends} {σ : L2.St} {H : Hp} {g : TG} {tt : TT}
theorem seqSet (h : te σ H fun x H1 => u D (σ.set i (some x)) H1) : tSeq (tAsg te (gName i)) u D σ H := h
theorem oneSet (h : te σ H fun x H1 => D.nx (σ.set i (some x)) H1) : tAsg te (gName i) D σ H := h
theorem seqAsg (h : te σ H fun x H1 => g x σ H1 (u D)) : tSeq (tAsg te g) u D σ H := h
theorem seqDrop (h : te σ H fun _ H1 => u D σ H1) : tSeq (tDrop te) u D σ H := h
theorem seqAny (h : t { D with nx := u D } σ H) : tSeq t u D σ H := h
end
theorem zs {l : List V} (h : l.length ≤ 100 := by simp) : l.length ≤ sizeLine := zl (Nat.le_trans h (by decide))
section
variable {K : PySem.W.Frag} {a : Addr} {x y z : V} {i j k : Nat} {σ : L2.St} {H : Hp} {Q : L2.St → Hp → Prop}
theorem g2 (h : SqT K H a [x, y]) (q : Q ((σ.set i (some x)).set j (some y)) H) : gTup K 2 (gCons (gName i) (gCons (gName j) gNil)) (.ref a) σ H Q := ⟨a, _, rfl, h, rfl, _, _, rfl, _, _, rfl, rfl, q⟩
theorem g3 (h : SqT K H a [x, y, z]) (q : Q (((σ.set i (some x)).set j (some y)).set k (some z)) H) : gTup K 3 (gCons (gName i) (gCons (gName j) (gCons (gName k) gNil))) (.ref a) σ H Q := ⟨a, _, rfl, h, rfl, _, _, rfl, _, _, rfl, _, _, rfl, rfl, q⟩
theorem walkL {xs : List V} {n : Nat} (h : n = xs.length) : Walk (Itl K a) n (fun H => SqL K H a xs) (YAt xs) := h ▸ walk_list
theorem walkT {xs : List V} {n : Nat} (h : n = xs.length) : Walk (Itt K a) n (fun H => SqT K H a xs) (YAt xs) := h ▸ walk_tup
end
theorem filterMap_some {α β : Type} (f : α → β) (l : List α) : l.filterMap (fun a => some (f a)) = l.map f := by
  rw [← List.filterMap_eq_map]; rfl
theorem RepL.strs' {G : Hp} {α : Type} {f : α → Str} {l : List α} {xs : List V} (h : RepL G (l.filterMap fun a => some (.str (f a))) xs) : xs = (l.map f).map V.str := by
  rw [filterMap_some] at h
  exact RepL.strs (by rw [List.map_map]; exact h)
/-- a thing that may change: it stands in the heap, and no one else knows it -/
structure Mi (G H : Hp) (p : Addr) (o : HO) : Prop where
  h : H p = some o
  g : G p = none
section
variable {W : Addr → Prop} {G H G1 H1 H2 : Hp} {p : Addr} {o u : HO}
theorem Mi.go {G' H' : Hp} (m : Mi G H p o) (s : Step W G H G' H') (n : ¬ W p := by exact fun h => h) : Mi G' H' p o := ⟨s.held m.h n, s.nw _ _ m.h m.g⟩
theorem Step.mutE (a : Step W G H G1 H1) (h : W p ∨ H p = none) (m : Mi G1 H1 p u) (e : upd H1 p o = H2) : Step W G H G1 H2 ∧ Mi G1 H2 p o ∧ ∀ x, x ≠ p → H2 x = H1 x := by
  subst e
  exact ⟨a.mut h m.g m.h, ⟨upd_same, m.g⟩, fun x z => upd_ne z⟩
theorem Step.newME (a : Step W G H G1 H1) (h : H1 p = none) (e : upd H1 p o = H2) : Step W G H G1 H2 ∧ Step NoW G1 H1 G1 H2 ∧ Mi G1 H2 p o := by
  subst e
  exact ⟨a.newM h, (Step.refl a.gh).newM h, upd_same, a.gh.free h⟩
theorem Step.newDE (a : Step W G H G1 H1) (h : H1 p = none) (e : upd H1 p o = H2) : ∃ G2, Step W G H G2 H2 ∧ Step NoW G1 H1 G2 H2 ∧ G2 p = some o := by
  subst e
  exact ⟨_, a.newD h, (Step.refl a.gh).newD h, upd_same⟩
theorem Step.frzE (a : Step W G H G1 H1) (h : H p = none) (m : Mi G1 H1 p o) : ∃ G2, Step W G H G2 H1 ∧ Ex G1 G2 ∧ G2 p = some o ∧ ∀ x, x ≠ p → G2 x = G1 x :=
  ⟨_, a.frz h m.h m.g, Ex.new m.g, upd_same, fun x z => upd_ne z⟩
theorem Mi.ne {q : Addr} {v : HO} (m : Mi G H p o) (h : G q = some v) : q ≠ p := fun e => by rw [e, m.g] at h; cases h
theorem Mi.ne' {q : Addr} (m : Mi G H p o) (h : H q = none) : p ≠ q := fun e => by rw [← e, m.h] at h; cases h
theorem Mi.to {G' : Hp} (m : Mi G H p o) (e : ∀ x, x ≠ u' → G' x = G x) (z : p ≠ u') : Mi G' H p o := ⟨m.h, by rw [e p z]; exact m.g⟩
end
theorem FTup.up {G H : Hp} {p : Addr} {ys : List V} (h : FTup G p ys) (e : Ex G H) : FTup H p ys := by
  obtain ⟨o, h1, h2⟩ := h
  exact ⟨o, e _ _ h1, h2⟩
theorem FTup.of {G : Hp} {p : Addr} {ys : List V} {o : Obj} (h : G p = some (.frz o (.tup ys))) (c : o.cls = .type "tuple") (d : o.dict = none) : FTup G p ys := ⟨o, h, c, d⟩
theorem lenPut {n : Nat} {f : Str} {v : V} {fs : List (Str × V)} (h : fs.length ≤ n) : (putF f v fs).length ≤ n + 1 := Nat.le_trans (length_putF f v fs) (Nat.succ_le_succ h)
theorem ln0 {f : Str} {v : V} : (putF f v []).length ≤ 1 := lenPut (Nat.le_refl 0)
theorem ln {n : Nat} (h : n ≤ 20) : n < 1000 := by omega
theorem ln1 {f : Str} {v : V} : (putF f v []).length < 1000 := ln (Nat.le_trans ln0 (by decide))
theorem ln2 {f g : Str} {v x : V} : (putF f v (putF g x [])).length < 1000 := ln (Nat.le_trans (lenPut ln0) (by decide))
theorem ln3 {f g h : Str} {v x y : V} : (putF f v (putF g x (putF h y []))).length < 1000 := ln (Nat.le_trans (lenPut (lenPut ln0)) (by decide))
theorem ln4 {f g h k : Str} {v x y z : V} : (putF f v (putF g x (putF h y (putF k z [])))).length < 1000 := ln (Nat.le_trans (lenPut (lenPut (lenPut ln0))) (by decide))
theorem qI {Q : VK} {i j : Int} {H : Hp} (q : Q (.int i) H) (h : j = i := by omega) : Q (.int j) H := by rw [h]; exact q
theorem qB {Q : VK} {i j : Bool} {H : Hp} (q : Q (.bl i) H) (h : j = i) : Q (.bl j) H := by rw [h]; exact q
theorem qS {Q : VK} {i j : Str} {H : Hp} (q : Q (.str i) H) (h : j = i) : Q (.str j) H := by rw [h]; exact q
theorem sumI : ∀ l : List Nat, (l.map fun n => ((n : Nat) : Int)).sum = ((l.sum : Nat) : Int)
  | [] => rfl
  | a :: l => by simp only [List.map_cons, List.sum_cons, sumI l]; omega
theorem Ex.put {G H : Hp} {p : Addr} {o : HO} (e : Ex G H) (h : H p = some o) : Ex (upd G p o) H := fun a u q => by
  by_cases z : a = p
  · subst z; rw [upd_same] at q; cases q; exact h
  · rw [upd_ne z] at q; exact e a u q
theorem seqJ {t u : TS} {D : Ends} {σ : L2.St} {H : Hp} (I : L2.St → Hp → Prop) (h : (∀ σ' H', I σ' H' → u D σ' H') → t { D with nx := u D } σ H) (k : ∀ σ' H', I σ' H' → u D σ' H') : tSeq t u D σ H := h k
theorem qM {Q : VK} {x : Int} {m : Nat} {H : Hp} (hm : 0 < m) (h : ∀ i : Nat, i < m → Q (.int i) H) : Q (.int (x % m)) H := by
  have h1 := Int.emod_nonneg x (show (m : Int) ≠ 0 by omega)
  have h2 := Int.emod_lt_of_pos x (show (0 : Int) < m by omega)
  exact qI (h (x % m).toNat (by omega)) (by omega)
end K4

set_option maxHeartbeats 4000000
/-! Names. -/
namespace K4
open PySem L2
def LET : Str := "abcdefghijklmnopqrstuvwxyz"
def FIG : Str := "0123456789"
/-- a name's signs -/
structure NameOk (z : Str) : Prop where
  lo : 1 ≤ z.cps.size
  hi : z.cps.size ≤ 10
  fst : ∀ c, z.cps.toList[0]? = some c → c ∈ LET.cps.toList
  all : ∀ c ∈ z.cps.toList, c ∈ LET.cps.toList ∨ c ∈ FIG.cps.toList
def spIsName : Sp := fun vs H Q _ => ∃ z : Str, vs = [.str z] ∧ NameOk z ∧ ∀ H', Fr NoW H H' → Q (.bl true) H'
def spAskedNames (K : PySem.W.Frag) : Sp := fun vs H Q _ => ∃ (a : Addr) (zs : List Str), vs = [.ref a] ∧ SqL K H a (zs.map V.str) ∧ (∀ z ∈ zs, NameOk z) ∧ ∀ H', Fr NoW H H' → Q .non H'
def spAskedOnce (K : PySem.W.Frag) : Sp := fun vs H Q _ => ∃ (a : Addr) (zs : List Str), vs = [.ref a] ∧ SqL K H a (zs.map V.str) ∧ zs.Nodup ∧ zs.length ≤ 1000 ∧ ∀ H', Fr NoW H H' → Q .non H'
section
variable {P : Program} {w : World} {K : PySem.W.Frag} {mg : Str → Option Value} {base : Heap}
theorem ok_is_name (T : Txt K mg) : Cal P w K mg base 1 "is_name" P_is_name spIsName := by
  refine Cal.of T.fn_is_name sc_is_name (fun vs H Q E h => ?_) (fun f cdv A outer s H vs Q E hr h => ?_)
  · obtain ⟨z, rfl, _⟩ := h; rfl
  · obtain ⟨z, rfl, hz, k⟩ := h
    refine ⟨_, (pss_cons (ps_if (PW.pt (pw_or (pt_not (pt_chain op_le op_le pe_int (pe_callB call_len_str (by rfl) T.f_len (by decide +kernel) (pa_cons (pv 0) pa_nil)) (pk_int T.k_LONGEST))) (pw_or1 (pt_cmpR op_notIn_sign (pe_ix ix_str (pv 0) pe_int (fun _ _ => rfl)) (pk_str T.k_LETTERS) (by first | exact nomark _ | rfl)))))
      (pss_one (ps_ret pe_bl))
      pss_nil)
    (pss_one (ps_ret (pe_callB (k_all K rfl) (by rfl) T.f_all (by decide +kernel) (pa_cons (pe_lc (own := [("sign", 1)]) (by rfl) sc_is_name.nd (pi_str (pv 0)) (blkOk_by (own := [("sign", 1)]) (N := N_is_name) (by kernel_rfl)) (fun _ _ _ _ _ => (pg_name (i := 1) sc_is_name.nd rfl (Or.inl rfl))) (fun _ _ _ _ _ => pts_nil) (fun _ _ _ _ _ => (pe_or (pe_cmpR op_in_sign (pv 1) (pk_str T.k_LETTERS) (by first | exact nomark _ | rfl)) (pe_one (pe_cmpR op_in_sign (pv 1) (pk_str T.k_FIGURES) (by first | exact nomark _ | rfl)))))) pa_nil))))), ?_⟩
    have l1 := hz.lo
    have l2 := hz.hi
    have z1 : z.length ≤ sizeLine := zl (Nat.le_trans l2 (by decide))
    have z0 : 0 < z.cps.toList.length := by rw [Array.length_toList]; exact l1
    obtain ⟨c, ec⟩ := some_of z0
    refine ⟨_, rfl, z, rfl, z1, _, _, rfl, rfl, _, rfl, ifT (dT (by show (1 : Int) ≤ (z.cps.size : Nat); omega)) ⟨_, _, rfl, rfl, _, rfl, ifF (nD (by show ((z.cps.size : Nat) : Int) ≤ 10; omega)) ?_⟩⟩
    refine ⟨_, rfl, z, 0, c, rfl, rfl, z1, at_nat ec, _, _, rfl, rfl, _, rfl, ifF (nD (hz.fst c ec)) ?_⟩
    refine ⟨_, rfl, z, rfl, fun L nL => ?_⟩
    refine lcC walk_str (by omega) (Ex.rfl' H) nL (fun _ _ => trivial) (fun i G acc => acc = List.replicate i (V.bl true)) rfl ?_ ?_
    · rintro i x G H1 H2 acc K1 K0 hi s r ⟨rfl, c, ec, rfl⟩ k1 k0
      have mc : c ∈ z.cps.toList := by
        have : z.cps.toList[i]? = some c := by rw [Array.getElem?_toList]; exact ec
        exact mem_of this
      have fin : K1 (.bl true) H2 := k1 _ _ _ (Step.refl s.gh) (by rw [r, List.replicate_succ'])
      refine ⟨rfl, ?_⟩
      refine ⟨_, rfl, _, _, rfl, rfl, _, rfl, if2 (fun _ => fin) (fun h => ⟨_, rfl, _, _, rfl, rfl, ?_⟩)⟩
      have : decide (c ∈ FIG.cps.toList) = true := dT ((hz.all c mc).resolve_left (of_decide_eq_false h))
      exact this ▸ fin
    · rintro G H1 ys s h g _ rfl
      refine ⟨L, List.replicate z.cps.size true, rfl, .inl (.inl (by rw [List.map_replicate]; exact h)), ?_⟩
      rw [List.all_replicate]
      simp
      exact k _ s.toFr
theorem ok_asked_names {k : Nat} (T : Txt K mg) (c_is_name : Cal P w K mg base k "is_name" P_is_name spIsName) : Cal P w K mg base (k + 1) "asked_names" P_asked_names (spAskedNames K) := by
  refine Cal.of T.fn_asked_names sc_asked_names (fun vs H Q E h => ?_) (fun f cdv A outer s H vs Q E hr h => ?_)
  · obtain ⟨a, z, rfl, _⟩ := h; rfl
  · obtain ⟨a, zs, rfl, ha, hz, k⟩ := h
    refine ⟨_, (pss_one (ps_for PassesOwn.never rfl (k_list K (pv 0)) (pg_name (i := 1) sc_asked_names.nd rfl (Or.inl rfl))
      (pss_one (ps_if (pt_not (pt_val (pc c_is_name (hr.mono (by first | decide | omega)) (pa_cons (pv 1) pa_nil))))
        pss_never
        pss_nil)))), ?_⟩
    refine ⟨_, rfl, a, rfl, ⟨_, ha⟩, ?_⟩
    refine for_list (xs := zs.map V.str) (fun i σ H1 => Fr NoW H H1 ∧ ∃ x, σ = [some (.ref a), x]) ⟨Fr.refl _ _, _, rfl⟩ (fun i σ H1 _ h => h.1.same.sqL ha) ?_ ?_
    · rintro i x σ H1 e ⟨fr, y, rfl⟩
      obtain ⟨z, ez, rfl⟩ := map_some e
      refine ⟨_, rfl, z, rfl, hz z (mem_of ez), fun H2 f2 => ⟨_, rfl, ifF rfl ⟨fr.trans f2, _, rfl⟩⟩⟩
    · rintro σ H1 ⟨fr, y, rfl⟩
      exact k _ fr
theorem ok_asked_once (T : Txt K mg) : Cal P w K mg base 1 "asked_once" P_asked_once (spAskedOnce K) := by
  refine Cal.of T.fn_asked_once sc_asked_once (fun vs H Q E h => ?_) (fun f cdv A outer s H vs Q E hr h => ?_)
  · obtain ⟨a, z, rfl, _⟩ := h; rfl
  · obtain ⟨a, zs, rfl, ha, hz, hl, k⟩ := h
    refine ⟨_, (pss_cons (ps_set (i := 1) sc_asked_once.nd rfl (Or.inl rfl) pe_dnewK)
    (pss_one (ps_for PassesOwn.never rfl (k_list K (pv 0)) (pg_name (i := 2) sc_asked_once.nd rfl (Or.inl rfl))
      (pss_cons (ps_if (pt_cmp (pc_din (hu_of hr) (pv 2) (pv 1)))
        pss_never
        pss_nil)
      (pss_one (ps_dput (hu_of hr) (pv 1) (pv 2) pe_bl rfl)))))), ?_⟩
    refine fun d nd => ?_
    refine ⟨_, rfl, a, rfl, ⟨_, (Ex.new nd).sqL ha⟩, ?_⟩
    refine for_list (xs := zs.map V.str) (fun i σ H1 => Fr NoW H H1 ∧ ∃ x, σ = [some (.ref a), some (.ref d), x] ∧ H1 d = some (.dK ((zs.take i).map fun z => (.inr z, .bl true)))) ⟨Fr.new nd, _, rfl, upd_same⟩ (fun i σ H1 _ h => h.1.same.sqL ha) ?_ ?_
    · rintro i x σ H1 e ⟨fr, y, rfl, hd⟩
      obtain ⟨z, ez, rfl⟩ := map_some e
      have nz : valV ((zs.take i).map fun z => ((.inr z : Key), V.bl true)) (.inr z) = none := by
        cases q : valV ((zs.take i).map fun z => ((.inr z : Key), V.bl true)) (.inr z) with
        | none => rfl
        | some v =>
          exfalso
          unfold valV at q
          rw [Option.map_eq_some_iff] at q
          obtain ⟨p, q1, _⟩ := q
          have q2 := List.mem_of_find?_eq_some q1
          have q3 := List.find?_some q1
          obtain ⟨z', q4, q5⟩ := List.mem_map.mp q2
          rw [← q5] at q3
          have : z' = z := by simpa using q3
          rw [this] at q4
          obtain ⟨j, hj⟩ := List.getElem?_of_mem q4
          rw [List.getElem?_take] at hj
          split at hj
          · rename_i lt
            have := (List.getElem?_inj (lt_of_some hj) hz).mp (hj.trans ez.symm)
            omega
          · cases hj
      refine ⟨_, rfl, _, rfl, d, none, rfl, nz ▸ DGet.k (k := .inr z) hd, _, rfl, ?_⟩
      have lz : ((zs.take i).map fun z => ((.inr z : Key), V.bl true)).length < sizeLine := zl' (by rw [List.length_map, List.length_take]; omega)
      refine ifF rfl ⟨_, rfl, _, rfl, d, _, rfl, DPut.k (k := .inr z) hd lz, fr.mut (.inr nd) hd, _, rfl, ?_⟩
      rw [upd_same, putK_new _ nz, take_snoc ez, List.map_append] <;> rfl
    · rintro σ H1 ⟨fr, y, rfl, _⟩
      exact k _ fr
end
end K4

set_option maxHeartbeats 4000000
/-! A question made. -/
namespace K4
open PySem L2
def spQuestionInit (K : PySem.W.Frag) : Sp := fun vs H Q _ => ∃ (G : Hp) (self dx fa ha : Addr) (lead : Option Str) (fs : List Str) (hs : List (Str × Str)) (hv : List V),
  vs = [.ref self, optV lead, .ref fa, .ref ha] ∧ Ex G H ∧ H self = some (.ins (cA K "Question") dx []) ∧ G self = none ∧ G fa = some (.lst (fs.map V.str)) ∧ G ha = some (.lst hv) ∧ RepL G (hs.map pairD) hv ∧
  (∀ z, lead = some z → NameOk z) ∧ (∀ z ∈ fs, NameOk z) ∧ (∀ p ∈ hs, NameOk p.1 ∧ NameOk p.2) ∧ fs.length ≤ 6 ∧ hs.length ≤ 10 ∧ (hs.map Prod.fst).Nodup ∧
  ∀ G' H' fp hp, Step (fun a => a = self) G H G' H' → H' self = some (.ins (cA K "Question") dx [("lead", optV lead), ("follows", .ref fp), ("holds", .ref hp)]) → FTup G' fp (fs.map V.str) → FTup G' hp hv → Q .non H'
section
variable {P : Program} {w : World} {K : PySem.W.Frag} {mg : Str → Option Value} {base : Heap}
theorem ok_Question_init {k : Nat} (T : Txt K mg) (c_asked_names : Cal P w K mg base k "asked_names" P_asked_names (spAskedNames K)) (c_asked_once : Cal P w K mg base k "asked_once" P_asked_once (spAskedOnce K)) :
    CalC P w K mg base (k + 1) (cA K "Question") P_Question_init [] (spQuestionInit K) := by
  refine CalC.of T.in_Question sc_Question_init (fun vs H Q E h => ?_) (fun f cdv A outer s H vs Q E hr h => ?_)
  · obtain ⟨G, self, dx, fa, ha, lead, fs, hs, hv, rfl, _⟩ := h; rfl
  · obtain ⟨G, self, dx, fa, ha, lead, fs, hs, hv, rfl, e, hself, gself, hfa, hha, rh, oklead, okfs, okhs, lfs, lhs, nd, k⟩ := h
    refine ⟨_, (pss_cons (ps_set (i := 2) sc_Question_init.nd rfl (Or.inl rfl) (pe_callTy (k_listOf K) (by rfl) T.f_list (by decide +kernel) (pa_cons (k_orT K (pv 2) (pe_one (pe_lst pa_nil))) pa_nil)))
    (pss_cons (ps_set (i := 3) sc_Question_init.nd rfl (Or.inl rfl) (pe_callTy (k_listOf K) (by rfl) T.f_list (by decide +kernel) (pa_cons (k_orT K (pv 3) (pe_one (pe_lst pa_nil))) pa_nil)))
    (pss_cons (ps_if (pt_cmpR op_gt (pe_callB (k_lenS K) (by rfl) T.f_len (by decide +kernel) (pa_cons (pv 2) pa_nil)) (pk_int T.k_MOST_FOLLOWS) (by first | exact nomark _ | rfl))
      pss_never
      pss_nil)
    (pss_cons (ps_if (pt_cmpR op_notN (pv 1) pe_non (by first | exact nomark _ | rfl))
      (pss_one (ps_expr (pc c_asked_names (hr.mono (by first | decide | omega)) (pa_cons (pe_lst (pa_cons (pv 1) pa_nil)) pa_nil))))
      pss_nil)
    (pss_cons (ps_expr (pc c_asked_names (hr.mono (by first | decide | omega)) (pa_cons (pv 2) pa_nil)))
    (pss_cons (ps_for PassesOwn.never rfl (k_list K (pv 3)) (k_gtup K (n := 2) rfl (pgs_cons (pg_name (i := 4) sc_Question_init.nd rfl (Or.inl rfl)) (pgs_cons (pg_name (i := 5) sc_Question_init.nd rfl (Or.inl rfl)) pgs_nil)))
      (pss_one (ps_expr (pc c_asked_names (hr.mono (by first | decide | omega)) (pa_cons (pe_lst (pa_cons (pv 4) (pa_cons (pv 5) pa_nil))) pa_nil)))))
    (pss_cons (ps_expr (pc c_asked_once (hr.mono (by first | decide | omega)) (pa_cons (pe_lc (own := [("cell", 4), ("value", 5)]) (by rfl) sc_Question_init.nd (k_list K (pv 3)) (blkOk_by (own := [("cell", 4), ("value", 5)]) (N := N_Question_init) (by kernel_rfl)) (fun _ _ _ _ _ => (k_gtup K (n := 2) rfl (pgs_cons (pg_name (i := 4) sc_Question_init.nd rfl (Or.inl rfl)) (pgs_cons (pg_name (i := 5) sc_Question_init.nd rfl (Or.inl rfl)) pgs_nil)))) (fun _ _ _ _ _ => pts_nil) (fun _ _ _ _ _ => (pv 4))) pa_nil)))
    (pss_cons (k_sfld K (pv 0) (pv 1))
    (pss_cons (k_sfld K (pv 0) (pe_callTy (k_tupF K) (by rfl) T.f_tuple (by decide +kernel) (pa_cons (pv 2) pa_nil)))
    (pss_one (k_sfld K (pv 0) (pe_callTy (k_tupF K) (by rfl) T.f_tuple (by decide +kernel) (pa_cons (pv 3) pa_nil))))))))))))), ?_⟩
    refine seqSet (orList hfa e fun l G1 H1 s1 nl hl => ?_)
    refine seqSet (orList (s1.eg _ _ hha) s1.gh fun m G2 H2 s2 nm hm => ?_)
    have S2 := s1.trans s2
    have hl := s2.eg _ _ hl
    refine ⟨_, rfl, _, _, rfl, .inl (sqL hl S2.gh), _, _, rfl, rfl, _, rfl, ifF (dF (by rw [List.length_map]; omega)) ?_⟩
    refine ⟨_, rfl, rfl, _, rfl, ifStep (fun H3 => Fr NoW H2 H3) (fun _ => Fr.refl _ _) (fun b C => ?_) (fun H3 f3 => ?_)⟩
    · cases lead with
      | none => cases b
      | some z =>
        exact ⟨_, rfl, zs, fun p np => ⟨p, [z], rfl, .of upd_same, fun z' hz' => by rw [List.mem_singleton.mp hz']; exact oklead z rfl, fun H3 f3 => C _ ((Fr.new np).trans f3)⟩⟩
    have S3 := S2.trans (f3.step S2.gh)
    refine ⟨_, rfl, l, fs, rfl, sqL hl S3.gh, okfs, fun H4 f4 => ?_⟩
    have S4 := S3.trans (f4.step S3.gh)
    refine ⟨_, rfl, m, rfl, ⟨_, sqL hm S4.gh⟩, ?_⟩
    refine for_list (xs := hv) (fun i σ H5 => Step NoW G H G2 H5 ∧ ∃ x y, σ = [some (.ref self), some (optV lead), some (.ref l), some (.ref m), x, y]) ⟨S4, _, _, rfl⟩ (fun i σ H5 _ h => sqL hm h.1.gh) ?_ ?_
    · rintro i x σ H5 e5 ⟨S5, y, z, rfl⟩
      obtain ⟨p, hp, rp⟩ := rh.map e5
      obtain ⟨b, xs, rfl, gb, rb⟩ := rp.tup
      obtain ⟨u, v, rfl, ru, rv⟩ := rb.l2
      cases ru; cases rv
      refine g2 (.of (S5.gh _ _ (S5.eg _ _ gb))) ⟨_, rfl, _, rfl, zs, fun q nq => ⟨q, [p.1, p.2], rfl, .of upd_same, fun z hz => ?_, fun H6 f6 => ?_⟩⟩
      · have := okhs p (mem_of hp)
        rcases List.mem_cons.mp hz with rfl | hz
        · exact this.1
        · rw [List.mem_singleton.mp hz]; exact this.2
      · exact ⟨S5.trans (((Fr.new (W := NoW) nq).trans f6).step S5.gh), _, _, rfl⟩
    · rintro σ H5 ⟨S5, y, z, rfl⟩
      refine ⟨_, rfl, m, rfl, ⟨_, sqL hm S5.gh⟩, fun L nL => ?_⟩
      refine lcD hs (fun p => some (.str p.1)) (walkL (by have := rh.len; rw [List.length_map] at this; exact this.symm)) (by omega) S5.gh nL (fun H6 e6 => sqL hm (S5.gh.trans e6)) ?_ ?_
      · rintro i p x G6 H6 H6' K1 K0 hp s6 ⟨rfl, ex⟩ k1 k0
        obtain ⟨p', hp', rp⟩ := rh.map ex
        rw [hp] at hp'; cases hp'
        obtain ⟨b, xs, rfl, gb, rb⟩ := rp.tup
        obtain ⟨u, v, rfl, ru, rv⟩ := rb.l2
        cases ru; cases rv
        exact g2 (.of ((S5.trans s6).gh _ _ ((S5.trans s6).eg _ _ gb))) ⟨rfl, _, rfl, k1 _ _ _ _ rfl (Step.refl s6.gh) rfl⟩
      · rintro G6 H6 ys s6 hL gL ry
        cases ry.strs'
        refine ⟨L, hs.map Prod.fst, rfl, .of hL, nd, by rw [List.length_map]; omega, fun H7 f7 => ?_⟩
        have s7 := s6.trans (f7.step s6.gh)
        have S7 := S5.trans s7
        have hl := s7.eg _ _ hl
        have hm := s7.eg _ _ hm
        have M7 : Mi G6 H7 self _ := Mi.go ⟨hself, gself⟩ S7
        refine ⟨_, rfl, _, rfl, self, _, dx, _, rfl, M7.h, T.cl_Question, T.n_Question_lead, by decide, ?_⟩
        generalize e8 : upd H7 self _ = H8
        obtain ⟨S8, M8, _⟩ := (S7.wide (W' := fun a => a = self)).mutE (.inl rfl) M7 e8
        refine ⟨_, rfl, l, _, rfl, sqL hl S8.gh, fun fp o nf oc od => ?_⟩
        generalize e9 : upd H8 fp _ = H9
        obtain ⟨G9, S9, s9, h9⟩ := S8.newDE nf e9
        have M9 := M8.go s9
        refine ⟨_, rfl, self, _, dx, _, rfl, M9.h, T.cl_Question, T.n_Question_follows, ln1, ?_⟩
        generalize e10 : upd H9 self _ = H10
        obtain ⟨S10, M10, _⟩ := S9.mutE (.inl rfl) M9 e10
        refine ⟨_, rfl, m, _, rfl, sqL (s9.eg _ _ hm) S10.gh, fun hp o2 nh oc2 od2 => ?_⟩
        generalize e11 : upd H10 hp _ = H11
        obtain ⟨G11, S11, s11, h11⟩ := S10.newDE nh e11
        have M11 := M10.go s11
        refine ⟨_, rfl, self, _, dx, _, rfl, M11.h, T.cl_Question, T.n_Question_holds, ln2, ?_⟩
        generalize e12 : upd H11 self _ = H12
        obtain ⟨S12, M12, _⟩ := S11.mutE (.inl rfl) M11 e12
        exact k _ _ fp hp S12 M12.h (.of (s11.eg _ _ h9) oc od) (.of h11 oc2 od2)
end
end K4

set_option maxHeartbeats 4000000
/-! The board. -/
namespace K4
open PySem L2
abbrev Plan := List (Str × List Str)
structure PlanOk (p : Plan) : Prop where
  lo : 1 ≤ p.length
  hi : p.length ≤ 3
  nm : ∀ c ∈ p, NameOk c.1
  vl : ∀ c ∈ p, 2 ≤ c.2.length ∧ c.2.length ≤ 4 ∧ c.2.Nodup ∧ ∀ v ∈ c.2, NameOk v
  nd : (p.map Prod.fst).Nodup
def cellD (c : Str × List Str) : D := .tup [.str c.1, .lst (c.2.map D.str)]
def planD (p : Plan) : D := .lst (p.map cellD)
def RowsOk (G : Hp) (p : Plan) (rows : List (Key × V)) : Prop := ∀ c ∈ p, ∃ tp, valV rows (.inr c.1) = some (.ref tp) ∧ G tp = some (.tup (c.2.map V.str))
structure BdO (K : PySem.W.Frag) (G : Hp) (b : Addr) (p : Plan) : Prop where
  ex : ∃ dx np rp rows, G b = some (.ins (cA K "Board") dx [("names", .ref np), ("rows", .ref rp)]) ∧ FTup G np ((p.map Prod.fst).map V.str) ∧ G rp = some (.dK rows) ∧ RowsOk G p rows
theorem BdO.up {K : PySem.W.Frag} {G G' : Hp} {b : Addr} {p : Plan} (h : BdO K G b p) (e : Ex G G') : BdO K G' b p := by
  obtain ⟨dx, np, rp, rows, h1, h2, h3, h4⟩ := h.ex
  exact ⟨dx, np, rp, rows, e _ _ h1, h2.up e, e _ _ h3, fun c hc => by obtain ⟨tp, q1, q2⟩ := h4 c hc; exact ⟨tp, q1, e _ _ q2⟩⟩
theorem rep_cell {G : Hp} {c : Str × List Str} {v : V} (h : Rep G (cellD c) v) : ∃ b l, v = .ref b ∧ G b = some (.tup [.str c.1, .ref l]) ∧ G l = some (.lst (c.2.map V.str)) := by
  obtain ⟨b, xs, rfl, gb, rb⟩ := h.tup
  obtain ⟨u, v, rfl, ru, rv⟩ := rb.l2
  cases ru
  obtain ⟨l, ys, rfl, gl, rl⟩ := rv.lst
  cases rl.strs
  exact ⟨b, l, rfl, gb, gl⟩
def spAskedCells : Sp := fun vs H Q _ => ∃ (G : Hp) (a : Addr) (p : Plan) (xs : List V), vs = [.ref a] ∧ Ex G H ∧ G a = some (.lst xs) ∧ RepL G (p.map cellD) xs ∧ PlanOk p ∧ ∀ H', Fr NoW H H' → Q .non H'
def spBoardInit (K : PySem.W.Frag) : Sp := fun vs H Q _ => ∃ (G : Hp) (self dx a : Addr) (p : Plan) (xs : List V), vs = [.ref self, .ref a] ∧ Ex G H ∧ H self = some (.ins (cA K "Board") dx []) ∧ G self = none ∧
  G a = some (.lst xs) ∧ RepL G (p.map cellD) xs ∧ PlanOk p ∧ ∀ G' H' np rp rows, Step (fun a => a = self) G H G' H' → Mi G' H' self (.ins (cA K "Board") dx [("names", .ref np), ("rows", .ref rp)]) →
    FTup G' np ((p.map Prod.fst).map V.str) → G' rp = some (.dK rows) → RowsOk G' p rows → Q .non H'
def spValuesOf (K : PySem.W.Frag) : Sp := fun vs H Q _ => ∃ (G : Hp) (b : Addr) (p : Plan) (c : Str × List Str), vs = [.ref b, .str c.1] ∧ Ex G H ∧ BdO K G b p ∧ c ∈ p ∧
  ∀ G' H' l, Step NoW G H G' H' → G' l = some (.lst (c.2.map V.str)) → Q (.ref l) H'
def fstOf (c : Str × List Str) : Str := c.2.headD ⟨#[]⟩
def spFirst (K : PySem.W.Frag) : Sp := fun vs H Q _ => ∃ (G : Hp) (b : Addr) (p : Plan), vs = [.ref b] ∧ Ex G H ∧ BdO K G b p ∧ PlanOk p ∧
  ∀ G' H' t, Step NoW G H G' H' → G' t = some (.tup ((p.map fstOf).map V.str)) → Q (.ref t) H'
def spBAsked (K : PySem.W.Frag) : Sp := fun vs H Q _ => ∃ (G : Hp) (b : Addr) (p : Plan) (c : Str × List Str) (v : Str), vs = [.ref b, .str c.1, .str v] ∧ Ex G H ∧ BdO K G b p ∧ c ∈ p ∧ v ∈ c.2 ∧ ∀ H', Fr NoW H H' → Q .non H'
def spOthers (K : PySem.W.Frag) : Sp := fun vs H Q _ => ∃ (G : Hp) (b : Addr) (p : Plan) (c : Str × List Str) (v : Str), vs = [.ref b, .str c.1, .str v] ∧ Ex G H ∧ BdO K G b p ∧ c ∈ p ∧ c.2.length ≤ 4 ∧
  ∀ G' H' l xs, Step NoW G H G' H' → G' l = some (.lst xs) → xs.length ≤ 4 → Q (.ref l) H'
def spValueAt (K : PySem.W.Frag) : Sp := fun vs H Q _ => ∃ (G : Hp) (b t : Addr) (p : Plan) (st : List Str) (j : Nat) (c : Str × List Str) (v : Str), vs = [.ref b, .ref t, .str c.1] ∧ Ex G H ∧ BdO K G b p ∧ PlanOk p ∧ G t = some (.tup (st.map V.str)) ∧
  p[j]? = some c ∧ st[j]? = some v ∧ Q (.str v) H
section
variable {P : Program} {w : World} {K : PySem.W.Frag} {mg : Str → Option Value} {base : Heap}
theorem ok_asked_cells {k : Nat} (T : Txt K mg) (c_asked_names : Cal P w K mg base k "asked_names" P_asked_names (spAskedNames K)) (c_asked_once : Cal P w K mg base k "asked_once" P_asked_once (spAskedOnce K)) :
    Cal P w K mg base (k + 1) "asked_cells" P_asked_cells spAskedCells := by
  refine Cal.of T.fn_asked_cells sc_asked_cells (fun vs H Q E h => ?_) (fun f cdv A outer s H vs Q E hr h => ?_)
  · obtain ⟨G, a, p, xs, rfl, _⟩ := h; rfl
  · obtain ⟨G, a, p, xs, rfl, e, ha, rx, ok, k⟩ := h
    have lp := rx.len
    rw [List.length_map] at lp
    have lo := ok.lo
    have hi := ok.hi
    refine ⟨_, (pss_cons (ps_if (pt_not (pt_chain op_le op_le pe_int (pe_callB (k_lenS K) (by rfl) T.f_len (by decide +kernel) (pa_cons (pv 0) pa_nil)) (pk_int T.k_MOST_CELLS)))
      pss_never
      pss_nil)
    (pss_cons (ps_for PassesOwn.never rfl (k_list K (pv 0)) (k_gtup K (n := 2) rfl (pgs_cons (pg_name (i := 1) sc_asked_cells.nd rfl (Or.inl rfl)) (pgs_cons (pg_name (i := 2) sc_asked_cells.nd rfl (Or.inl rfl)) pgs_nil)))
      (pss_cons (ps_expr (pc c_asked_names (hr.mono (by first | decide | omega)) (pa_cons (pe_lst (pa_cons (pv 1) pa_nil)) pa_nil)))
      (pss_cons (ps_if (pt_not (pt_chain op_le op_le (pk_int T.k_LEAST_VALUES) (pe_callB (k_lenS K) (by rfl) T.f_len (by decide +kernel) (pa_cons (pv 2) pa_nil)) (pk_int T.k_MOST_VALUES)))
        pss_never
        pss_nil)
      (pss_cons (ps_expr (pc c_asked_names (hr.mono (by first | decide | omega)) (pa_cons (pv 2) pa_nil)))
      (pss_one (ps_expr (pc c_asked_once (hr.mono (by first | decide | omega)) (pa_cons (pv 2) pa_nil))))))))
    (pss_one (ps_expr (pc c_asked_once (hr.mono (by first | decide | omega)) (pa_cons (pe_lc (own := [("name", 1), ("values", 2)]) (by rfl) sc_asked_cells.nd (k_list K (pv 0)) (blkOk_by (own := [("name", 1), ("values", 2)]) (N := N_asked_cells) (by kernel_rfl)) (fun _ _ _ _ _ => (k_gtup K (n := 2) rfl (pgs_cons (pg_name (i := 1) sc_asked_cells.nd rfl (Or.inl rfl)) (pgs_cons (pg_name (i := 2) sc_asked_cells.nd rfl (Or.inl rfl)) pgs_nil)))) (fun _ _ _ _ _ => pts_nil) (fun _ _ _ _ _ => (pv 1))) pa_nil)))))), ?_⟩
    refine ⟨_, rfl, a, xs, rfl, .inl (sqL ha e), _, _, rfl, rfl, _, rfl, ifT (dT (by omega)) ⟨_, _, rfl, rfl, _, rfl, ifF (nD (by omega)) ?_⟩⟩
    refine ⟨_, rfl, a, rfl, ⟨_, sqL ha e⟩, ?_⟩
    refine for_list (xs := xs) (fun i σ H1 => Fr NoW H H1 ∧ ∃ x y, σ = [some (.ref a), x, y]) ⟨Fr.refl _ _, _, _, rfl⟩ (fun i σ H1 _ h => sqL ha (e.trans h.1.same)) ?_ ?_
    · rintro i x σ H1 ex ⟨f1, y, z, rfl⟩
      obtain ⟨c, hc, rc⟩ := rx.map ex
      obtain ⟨b, l, rfl, gb, gl⟩ := rep_cell rc
      have okc := ok.vl c (mem_of hc)
      have e1 := e.trans f1.same
      refine g2 (.of (e1 _ _ gb)) ⟨_, rfl, zs, fun q nq => ⟨q, [c.1], rfl, .of upd_same, fun z hz => by rw [List.mem_singleton.mp hz]; exact ok.nm c (mem_of hc), fun H2 f2 => ?_⟩⟩
      have f3 := f1.trans ((Fr.new (W := NoW) nq).trans f2)
      have e3 := e.trans f3.same
      refine ⟨_, rfl, l, _, rfl, .inl (sqL gl e3), _, _, rfl, rfl, _, rfl, ifT (dT (by rw [List.length_map]; omega)) ⟨_, _, rfl, rfl, _, rfl, ifF (nD (by rw [List.length_map]; omega)) ?_⟩⟩
      refine ⟨_, rfl, l, c.2, rfl, sqL gl e3, okc.2.2.2, fun H4 f4 => ⟨_, rfl, l, c.2, rfl, sqL gl (e3.trans f4.same), okc.2.2.1, by omega, fun H5 f5 => ⟨(f3.trans f4).trans f5, _, _, rfl⟩⟩⟩
    · rintro σ H1 ⟨f1, y, z, rfl⟩
      have e1 := e.trans f1.same
      refine ⟨_, rfl, a, rfl, ⟨_, sqL ha e1⟩, fun L nL => ?_⟩
      refine lcD p (fun c => some (.str c.1)) (walkL lp.symm) (by omega) e1 nL (fun H2 e2 => sqL ha (e1.trans e2)) ?_ ?_
      · rintro i c x G2 H2 H2' K1 K0 hc s2 ⟨rfl, ex⟩ k1 k0
        obtain ⟨c', hc', rc⟩ := rx.map ex
        rw [hc] at hc'; cases hc'
        obtain ⟨b, l, rfl, gb, gl⟩ := rep_cell rc
        exact g2 (.of (s2.gh _ _ (s2.eg _ _ gb))) ⟨rfl, _, rfl, k1 _ _ _ _ rfl (Step.refl s2.gh) rfl⟩
      · rintro G2 H2 ys s2 hL gL ry
        cases ry.strs'
        exact ⟨L, p.map Prod.fst, rfl, .of hL, ok.nd, by rw [List.length_map]; omega, fun H3 f3 => k _ ((f1.trans s2.toFr).trans f3)⟩
theorem ok_Board_init {k : Nat} (T : Txt K mg) (c_asked_cells : Cal P w K mg base k "asked_cells" P_asked_cells spAskedCells) : CalC P w K mg base (k + 1) (cA K "Board") P_Board_init [] (spBoardInit K) := by
  refine CalC.of T.in_Board sc_Board_init (fun vs H Q E h => ?_) (fun f cdv A outer s H vs Q E hr h => ?_)
  · obtain ⟨G, self, dx, a, p, xs, rfl, _⟩ := h; rfl
  · obtain ⟨G, self, dx, a, p, xs, rfl, e, hself, gself, ha, rx, ok, k⟩ := h
    have lp := rx.len
    rw [List.length_map] at lp
    have lo := ok.lo
    have hi := ok.hi
    refine ⟨_, (pss_cons (ps_expr (pc c_asked_cells (hr.mono (by first | decide | omega)) (pa_cons (pv 1) pa_nil)))
    (pss_cons (k_sfld K (pv 0) (pe_callTy (k_tupF K) (by rfl) T.f_tuple (by decide +kernel) (pa_cons (pe_lc (own := [("name", 2), ("values", 3)]) (by rfl) sc_Board_init.nd (k_list K (pv 1)) (blkOk_by (own := [("name", 2), ("values", 3)]) (N := N_Board_init) (by kernel_rfl)) (fun _ _ _ _ _ => (k_gtup K (n := 2) rfl (pgs_cons (pg_name (i := 2) sc_Board_init.nd rfl (Or.inl rfl)) (pgs_cons (pg_name (i := 3) sc_Board_init.nd rfl (Or.inl rfl)) pgs_nil)))) (fun _ _ _ _ _ => pts_nil) (fun _ _ _ _ _ => (pv 2))) pa_nil)))
    (pss_cons (k_sfld K (pv 0) pe_dnewK)
    (pss_one (ps_for PassesOwn.never rfl (k_list K (pv 1)) (k_gtup K (n := 2) rfl (pgs_cons (pg_name (i := 2) sc_Board_init.nd rfl (Or.inl rfl)) (pgs_cons (pg_name (i := 3) sc_Board_init.nd rfl (Or.inl rfl)) pgs_nil)))
      (pss_one (ps_dput (hu_of hr) (k_fld K (pv 0)) (pv 2) (pe_callTy (k_tupOf K) (by rfl) T.f_tuple (by decide +kernel) (pa_cons (pv 3) pa_nil)) rfl))))))), ?_⟩
    refine ⟨_, rfl, G, a, p, xs, rfl, e, ha, rx, ok, fun H1 f1 => ?_⟩
    have S1 : Step NoW G H G H1 := f1.step e
    refine ⟨_, rfl, a, rfl, ⟨_, sqL ha S1.gh⟩, fun L nL => ?_⟩
    refine lcD p (fun c => some (.str c.1)) (walkL lp.symm) (by omega) S1.gh nL (fun H2 e2 => sqL ha (S1.gh.trans e2)) ?_ ?_
    · rintro i c x G2 H2 H2' K1 K0 hc s2 ⟨rfl, ex⟩ k1 k0
      obtain ⟨c', hc', rc⟩ := rx.map ex
      rw [hc] at hc'; cases hc'
      obtain ⟨b, l, rfl, gb, gl⟩ := rep_cell rc
      exact g2 (.of (s2.gh _ _ (s2.eg _ _ gb))) ⟨rfl, _, rfl, k1 _ _ _ _ rfl (Step.refl s2.gh) rfl⟩
    · rintro G2 H2 ys s2 hL gL ry
      cases ry.strs'
      have S2 := S1.trans s2
      refine ⟨L, _, rfl, .of hL, fun np o nf oc od => ?_⟩
      generalize e3 : upd H2 np _ = H3
      obtain ⟨G3, S3, s3, h3⟩ := S2.newDE nf e3
      have M3 : Mi G3 H3 self _ := Mi.go ⟨hself, gself⟩ S3
      refine ⟨_, rfl, self, _, dx, _, rfl, M3.h, T.cl_Board, T.n_Board_names, by decide, ?_⟩
      generalize e4 : upd H3 self _ = H4
      obtain ⟨S4, M4, _⟩ := (S3.wide (W' := fun a => a = self)).mutE (.inl rfl) M3 e4
      refine fun rp nr => ?_
      generalize e5 : upd H4 rp _ = H5
      obtain ⟨S5, s5, D5⟩ := S4.newME nr e5
      have M5 := M4.go s5
      refine ⟨_, rfl, self, _, dx, _, rfl, M5.h, T.cl_Board, T.n_Board_rows, ln1, ?_⟩
      generalize e6 : upd H5 self _ = H6
      obtain ⟨S6, M6, n6⟩ := S5.mutE (.inl rfl) M5 e6
      have nrs : rp ≠ self := (M4.ne' nr).symm
      have D6 : Mi G3 H6 rp _ := ⟨(n6 rp nrs).trans D5.h, D5.g⟩
      have nH : H rp = none := S4.dm _ nr
      refine ⟨_, rfl, a, rfl, ⟨_, sqL (S6.eg _ _ ha) S6.gh⟩, ?_⟩
      refine for_list (xs := xs) (fun i σ H7 => ∃ G7 rows, Step (fun a => a = self) G H G7 H7 ∧ Step (fun a => a = rp) G3 H6 G7 H7 ∧ Mi G7 H7 rp (.dK rows) ∧ rows.length ≤ i ∧ RowsOk G7 (p.take i) rows ∧ ∃ x y, σ = [some (.ref self), some (.ref a), x, y])
        ⟨G3, [], S6, Step.refl S6.gh, D6, Nat.le_refl _, fun c hc => by simp at hc, _, _, rfl⟩ (fun i σ H7 _ ⟨G7, rows, S7, _⟩ => sqL (S7.eg _ _ ha) S7.gh) ?_ ?_
      · rintro i x σ H7 ex ⟨G7, rows, S7, s7, D7, lr, ro, y, z, rfl⟩
        obtain ⟨c, hc, rc⟩ := rx.map ex
        obtain ⟨b, l, rfl, gb, gl⟩ := rep_cell (rc.up S7.eg)
        have hi := lt_of_some hc
        refine g2 (sqT gb S7.gh) ⟨_, rfl, l, _, rfl, .inl ⟨sqL gl S7.gh, fun t nt => ?_⟩⟩
        generalize e8 : upd H7 t _ = H8
        obtain ⟨G8, S8, s8, h8⟩ := S7.newDE nt e8
        have D8 := D7.go s8
        have M8 := M6.go (s7.trans s8) (fun e => nrs e.symm)
        refine ⟨_, rfl, self, _, dx, _, _, rfl, M8.h, T.cl_Board, T.n_Board_rows, rfl, _, rfl, rp, _, rfl, DPut.k (k := .inr c.1) D8.h (zl' (by omega)), ?_⟩
        generalize e9 : upd H8 rp _ = H9
        obtain ⟨S9, D9, n9⟩ := S8.mutE (.inr nH) D8 e9
        refine ⟨G8, _, S9, (s7.trans s8).trans ((Step.refl (W := fun a => a = rp) s8.gh).mutE (.inl rfl) D8 e9).1, D9, ?_, ?_, _, _, rfl⟩
        · have : ∀ (kvs : List (Key × V)) k v, (putK kvs k v).length ≤ kvs.length + 1 := fun kvs k v => by
            unfold putK
            split
            · rw [List.length_map]; omega
            · rw [List.length_append]; simp
          have := this rows (.inr c.1) (.ref t)
          omega
        · intro c2 hc2
          rw [take_snoc hc] at hc2
          rw [valV_put]
          rcases List.mem_append.mp hc2 with h | h
          · obtain ⟨tp, q1, q2⟩ := ro c2 h
            have : c2.1 ≠ c.1 := by
              intro eq
              obtain ⟨j, hj⟩ := List.getElem?_of_mem h
              rw [List.getElem?_take] at hj
              split at hj
              · rename_i lt
                have e1 : (p.map Prod.fst)[j]? = some c2.1 := by rw [List.getElem?_map, hj]; rfl
                have e2 : (p.map Prod.fst)[i]? = some c.1 := by rw [List.getElem?_map, hc]; rfl
                have := (List.getElem?_inj (lt_of_some e1) ok.nd).mp (e1.trans ((congrArg some eq).trans e2.symm))
                omega
              · cases hj
            rw [if_neg (by simpa using this)]
            exact ⟨tp, q1, s8.eg _ _ q2⟩
          · rw [List.mem_singleton.mp h, if_pos rfl]
            exact ⟨t, rfl, h8⟩
      · rintro σ H7 ⟨G7, rows, S7, s7, D7, lr, ro, y, z, rfl⟩
        have M7 := M6.go s7 (fun e => nrs e.symm)
        obtain ⟨G8, S8, e8, h8, n8⟩ := S7.frzE nH D7
        have M8 : Mi G8 H7 self _ := ⟨M7.h, by rw [n8 _ nrs.symm]; exact M7.g⟩
        rw [lp, List.take_length] at ro
        exact k G8 H7 np rp rows S8 M8 (.of (e8 _ _ (s7.eg _ _ h3)) oc od) h8 (fun c hc => by obtain ⟨tp, q1, q2⟩ := ro c hc; exact ⟨tp, q1, e8 _ _ q2⟩)
theorem ok_values_of (T : Txt K mg) : CalM P w K mg base 1 (cA K "Board") "values_of" P_Board_values_of (spValuesOf K) := by
  refine CalM.of T.mt_Board_values_of sc_Board_values_of (fun vs H Q E h => ?_) (fun f cdv A outer s H vs Q E hr h => ?_)
  · obtain ⟨G, b, p, c, rfl, _⟩ := h; rfl
  · obtain ⟨G, b, p, c, rfl, e, hb, hc, k⟩ := h
    obtain ⟨dx, np, rp, rows, h1, h2, h3, h4⟩ := hb.ex
    obtain ⟨tp, q1, q2⟩ := h4 c hc
    refine ⟨_, (pss_cons (ps_if (pt_cmp (pc_dnotin (hu_of hr) (pv 1) (k_fld K (pv 0))))
      pss_never
      pss_nil)
    (pss_one (ps_ret (pe_callTy (k_listOf K) (by rfl) T.f_list (by decide +kernel) (pa_cons (pe_dget (hu_of hr) (k_fld K (pv 0)) (pv 1) (fun _ _ => rfl)) pa_nil))))), ?_⟩
    refine ⟨_, rfl, _, rfl, b, _, dx, _, _, rfl, e _ _ h1, T.cl_Board, T.n_Board_rows, rfl, rp, some (.ref tp), rfl, q1 ▸ DGet.k (k := .inr c.1) (e _ _ h3), _, rfl, ifF rfl ?_⟩
    refine ⟨_, rfl, b, _, dx, _, _, rfl, e _ _ h1, T.cl_Board, T.n_Board_rows, rfl, _, rfl, rp, _, rfl, q1 ▸ DGet.k (k := .inr c.1) (e _ _ h3), tp, _, rfl, .inr (sqT q2 e), fun l nl => ?_⟩
    generalize e3 : upd H l _ = H3
    obtain ⟨G3, S3, s3, g3⟩ := (Step.refl e).newDE nl e3
    exact k _ _ l S3 g3
theorem ok_first (T : Txt K mg) : CalM P w K mg base 1 (cA K "Board") "first" P_Board_first (spFirst K) := by
  refine CalM.of T.mt_Board_first sc_Board_first (fun vs H Q E h => ?_) (fun f cdv A outer s H vs Q E hr h => ?_)
  · obtain ⟨G, b, p, rfl, _⟩ := h; rfl
  · obtain ⟨G, b, p, rfl, e, hb, ok, k⟩ := h
    obtain ⟨dx, np, rp, rows, h1, h2, h3, h4⟩ := hb.ex
    have hi := ok.hi
    refine ⟨_, (pss_one (ps_ret (pe_callTy (k_tupOf K) (by rfl) T.f_tuple (by decide +kernel) (pa_cons (pe_lc (own := [("name", 1)]) (by rfl) sc_Board_first.nd (k_tup K (k_fld K (pv 0))) (blkOk_by (own := [("name", 1)]) (N := N_Board_first) (by kernel_rfl)) (fun _ _ _ _ _ => (pg_name (i := 1) sc_Board_first.nd rfl (Or.inl rfl))) (fun _ _ _ _ _ => pts_nil) (fun _ _ _ _ _ => (pe_ix (k_ixT K) (pe_dget (hu_of hr) (k_fld K (pv 0)) (pv 1) (fun _ _ => rfl)) pe_int (fun _ _ => rfl)))) pa_nil)))), ?_⟩
    refine ⟨_, rfl, b, _, dx, _, _, rfl, e _ _ h1, T.cl_Board, T.n_Board_names, rfl, np, rfl, ⟨_, (h2.up e).sq K⟩, fun L nL => ?_⟩
    refine lcD p (fun c => some (.str (fstOf c))) (walkT (by simp)) (by omega) e nL (fun H2 e2 => (h2.up (e.trans e2)).sq K) ?_ ?_
    · rintro i c x G2 H2 H2' K1 K0 hc s2 ⟨rfl, ex⟩ k1 k0
      rw [List.map_map, List.getElem?_map, hc] at ex
      cases ex
      obtain ⟨tp, q1, q2⟩ := h4 c (mem_of hc)
      have okc := ok.vl c (mem_of hc)
      have e2 : Ex G H2' := s2.eg.trans s2.gh
      refine ⟨rfl, _, rfl, b, _, dx, _, _, rfl, e2 _ _ h1, T.cl_Board, T.n_Board_rows, rfl, _, rfl, rp, _, rfl, q1 ▸ DGet.k (k := .inr c.1) (e2 _ _ h3), tp, _, 0, .str (fstOf c), rfl, rfl, sqT q2 e2, at_nat (i := 0) ?_, ?_⟩
      · have : 0 < c.2.length := by omega
        unfold fstOf
        cases z : c.2 with
        | nil => rw [z] at this; simp at this
        | cons x r => rfl
      · exact k1 _ _ _ _ rfl (Step.refl s2.gh) rfl
    · rintro G2 H2 ys s2 hL gL ry
      cases ry.strs'
      refine ⟨L, _, rfl, .inl ⟨.of hL, fun t nt => ?_⟩⟩
      generalize e3 : upd H2 t _ = H3
      obtain ⟨G3, S3, s3, g3⟩ := s2.newDE nt e3
      exact k _ _ t S3 g3
theorem flat_str (l : List Str) : (l.map V.str).all flatV = true := by
  rw [List.all_eq_true]
  intro x hx
  obtain ⟨z, _, rfl⟩ := List.mem_map.mp hx
  rfl
theorem inV_str {z : Str} : ∀ {l : List Str}, inV (.str z) (l.map V.str) = decide (z ∈ l)
  | [] => rfl
  | a :: l => by
    have ih := inV_str (z := z) (l := l)
    unfold inV at ih ⊢
    rw [List.map_cons, List.any_cons, ih]
    show (a == z || _) = _
    by_cases h : a = z
    · subst h; simp
    · have h2 : (a == z) = false := beq_eq_false_iff_ne.mpr h
      have h3 : ¬ z = a := fun e => h e.symm
      simp [h2, h3]
theorem ok_BAsked {k : Nat} (T : Txt K mg) (c_Board_values_of : CalM P w K mg base k (cA K "Board") "values_of" P_Board_values_of (spValuesOf K)) : CalM P w K mg base (k + 1) (cA K "Board") "asked" P_Board_asked (spBAsked K) := by
  refine CalM.of T.mt_Board_asked sc_Board_asked (fun vs H Q E h => ?_) (fun f cdv A outer s H vs Q E hr h => ?_)
  · obtain ⟨G, b, p, c, v, rfl, _⟩ := h; rfl
  · obtain ⟨G, b, p, c, v, rfl, e, hb, hc, hv, k⟩ := h
    obtain ⟨dx, np, rp, rows, h1, h2, h3, h4⟩ := hb.ex
    refine ⟨_, (pss_one (ps_if (pt_cmpR (k_ninS K) (pv 2) (cm c_Board_values_of (hr.mono (by first | decide | omega)) (pv 0) (pa_cons (pv 1) pa_nil)) (by first | exact nomark _ | rfl))
      pss_never
      pss_nil)), ?_⟩
    refine ⟨_, rfl, _, rfl, b, dx, _, rfl, e _ _ h1, rfl, _, rfl, G, b, p, c, rfl, e, hb, hc, fun G2 H2 l s2 gl => ?_⟩
    refine ⟨l, _, rfl, .inl (sqL gl s2.gh), rfl, flat_str _, _, rfl, ifF (nB ?_) (k _ s2.toFr)⟩
    rw [inV_str]
    exact dT hv
theorem ok_others {k : Nat} (T : Txt K mg) (c_Board_values_of : CalM P w K mg base k (cA K "Board") "values_of" P_Board_values_of (spValuesOf K)) : CalM P w K mg base (k + 1) (cA K "Board") "others" P_Board_others (spOthers K) := by
  refine CalM.of T.mt_Board_others sc_Board_others (fun vs H Q E h => ?_) (fun f cdv A outer s H vs Q E hr h => ?_)
  · obtain ⟨G, b, p, c, v, rfl, _⟩ := h; rfl
  · obtain ⟨G, b, p, c, v, rfl, e, hb, hc, l4, k⟩ := h
    obtain ⟨dx, np, rp, rows, h1, h2, h3, h4⟩ := hb.ex
    refine ⟨_, (pss_one (ps_ret (pe_lc (own := [("one", 3)]) (by rfl) sc_Board_others.nd (k_list K (cm c_Board_values_of (hr.mono (by first | decide | omega)) (pv 0) (pa_cons (pv 1) pa_nil))) (blkOk_by (own := [("one", 3)]) (N := N_Board_others) (by kernel_rfl)) (fun _ _ _ _ _ => (pg_name (i := 3) sc_Board_others.nd rfl (Or.inl rfl))) (fun _ _ _ _ _ => (pts_one (pt_cmpR op_ne (pv 3) (pv 2) (by first | exact nomark _ | rfl)))) (fun _ _ _ _ _ => (pv 3))))), ?_⟩
    refine ⟨_, rfl, b, dx, _, rfl, e _ _ h1, rfl, _, rfl, G, b, p, c, rfl, e, hb, hc, fun G2 H2 l s2 gl => ?_⟩
    refine ⟨l, rfl, ⟨_, sqL gl s2.gh⟩, fun L nL => ?_⟩
    refine lcD c.2 (fun z => if z = v then none else some (.str z)) (walkL (by simp)) (by omega) s2.gh nL (fun H3 e3 => sqL gl (s2.gh.trans e3)) ?_ ?_
    · rintro i z x G3 H3 H3' K1 K0 hz s3 ⟨rfl, ex⟩ k1 k0
      rw [List.getElem?_map, hz] at ex
      cases ex
      refine ⟨rfl, _, rfl, _, rfl, rfl, _, rfl, if2 (fun h => ⟨_, rfl, k1 _ (.str z) _ _ (if_neg ?_) (Step.refl s3.gh) rfl⟩) (fun h => k0 _ _ (if_pos ?_) (Step.refl s3.gh))⟩
      · rintro rfl; simp at h
      · simpa using h
    · rintro G3 H3 ys s3 hL gL ry
      obtain ⟨G4, S4, e4, g4, _⟩ := s3.frzE nL ⟨hL, gL⟩
      refine k _ _ L ys (s2.trans S4) g4 ?_
      rw [ry.len]
      exact Nat.le_trans (List.length_filterMap_le _ _) l4
theorem ok_value_at (T : Txt K mg) : CalM P w K mg base 1 (cA K "Board") "value_at" P_Board_value_at (spValueAt K) := by
  refine CalM.of T.mt_Board_value_at sc_Board_value_at (fun vs H Q E h => ?_) (fun f cdv A outer s H vs Q E hr h => ?_)
  · obtain ⟨G, b, t, p, st, j, c, v, rfl, _⟩ := h; rfl
  · obtain ⟨G, b, t, p, st, j, c, v, rfl, e, hb, ok, ht, hj, hv, k⟩ := h
    obtain ⟨dx, np, rp, rows, h1, h2, h3, h4⟩ := hb.ex
    refine ⟨_, (pss_one (ps_ret (pe_ix (k_ixT K) (pv 1) (pe_mG ty_tupF PySem.F.plainAttrs_tuple PySem.F.slot_tuple_index PySem.F.type_tuple_index (k_tindex K) (k_fld K (pv 0)) (pa_cons (pv 2) pa_nil)) (fun _ _ => rfl)))), ?_⟩
    have ej : (p.map Prod.fst)[j]? = some c.1 := by rw [List.getElem?_map, hj]; rfl
    refine ⟨_, rfl, _, rfl, b, _, dx, _, _, rfl, e _ _ h1, T.cl_Board, T.n_Board_names, rfl, ⟨np, _, rfl, h2.up e⟩, _, rfl, np, p.map Prod.fst, c.1, j, rfl, rfl, (h2.up e).sq K, ej, fun m hm em => ?_, ?_⟩
    · have := (List.getElem?_inj (lt_of_some em) ok.nd).mp (em.trans ej.symm)
      omega
    · exact ⟨t, _, _, .str v, rfl, rfl, sqT ht e, at_nat (i := j) (by rw [List.getElem?_map, hv]; rfl), k⟩
end
end K4

set_option maxHeartbeats 4000000
/-! Programs as trees. -/
namespace K4
open PySem L2
/-- a program's object whose row is told by R -/
def Pg (K : PySem.W.Frag) (G : Hp) (R : List V → Prop) (x : V) : Prop := ∃ a dx t xs, x = .ref a ∧ G a = some (.ins (cA K "Program") dx [("row", .ref t)]) ∧ G t = some (.tup xs) ∧ R xs
mutual
def StmO (K : PySem.W.Frag) (G : Hp) : Stm → V → Prop
  | .wr c v, x => ∃ a dx, x = .ref a ∧ G a = some (.ins (cS K .write) dx [("cell", .str c), ("value", .str v)])
  | .wt c v, x => ∃ a dx, x = .ref a ∧ G a = some (.ins (cS K .wait) dx [("cell", .str c), ("value", .str v)])
  | .mk m, x => ∃ a dx, x = .ref a ∧ G a = some (.ins (cS K .mark) dx [("name", .str m)])
  | .sk, x => ∃ a dx, x = .ref a ∧ G a = some (.ins (cS K .skip) dx [])
  | .st, x => ∃ a dx, x = .ref a ∧ G a = some (.ins (cS K .stop) dx [])
  | .ie c v y n, x => ∃ a dx u t, x = .ref a ∧ G a = some (.ins (cS K .ife) dx [("cell", .str c), ("value", .str v), ("yes", u), ("no", t)]) ∧ Pg K G (fun xs => StmOs K G y xs) u ∧ Pg K G (fun xs => StmOs K G n xs) t
  | .wh c v b, x => ∃ a dx u, x = .ref a ∧ G a = some (.ins (cS K .whl) dx [("cell", .str c), ("value", .str v), ("body", u)]) ∧ Pg K G (fun xs => StmOs K G b xs) u
  | .ch y n, x => ∃ a dx u t, x = .ref a ∧ G a = some (.ins (cS K .cho) dx [("one", u), ("other", t)]) ∧ Pg K G (fun xs => StmOs K G y xs) u ∧ Pg K G (fun xs => StmOs K G n xs) t
  | .lo b, x => ∃ a dx u, x = .ref a ∧ G a = some (.ins (cS K .lop) dx [("body", u)]) ∧ Pg K G (fun xs => StmOs K G b xs) u
def StmOs (K : PySem.W.Frag) (G : Hp) : List Stm → List V → Prop
  | [], xs => xs = []
  | s :: r, xs => ∃ x ys, xs = x :: ys ∧ StmO K G s x ∧ StmOs K G r ys
end
def PrgO (K : PySem.W.Frag) (G : Hp) (r : Row) (x : V) : Prop := Pg K G (fun xs => StmOs K G r xs) x
theorem Pg.up {K : PySem.W.Frag} {G G' : Hp} {R R' : List V → Prop} {x : V} (h : Pg K G R x) (e : Ex G G') (m : ∀ xs, R xs → R' xs) : Pg K G' R' x := by
  obtain ⟨a, dx, t, xs, h1, h2, h3, h4⟩ := h
  exact ⟨a, dx, t, xs, h1, e _ _ h2, e _ _ h3, m xs h4⟩
mutual
theorem StmO.mono {K : PySem.W.Frag} {G G' : Hp} (e : Ex G G') : ∀ (s : Stm) {x : V}, StmO K G s x → StmO K G' s x
  | .wr c v, x, h => by
    simp only [StmO] at h ⊢
    obtain ⟨a, dx, h1, h2⟩ := h; exact ⟨a, dx, h1, e _ _ h2⟩
  | .wt c v, x, h => by
    simp only [StmO] at h ⊢
    obtain ⟨a, dx, h1, h2⟩ := h; exact ⟨a, dx, h1, e _ _ h2⟩
  | .mk m, x, h => by
    simp only [StmO] at h ⊢
    obtain ⟨a, dx, h1, h2⟩ := h; exact ⟨a, dx, h1, e _ _ h2⟩
  | .sk, x, h => by
    simp only [StmO] at h ⊢
    obtain ⟨a, dx, h1, h2⟩ := h; exact ⟨a, dx, h1, e _ _ h2⟩
  | .st, x, h => by
    simp only [StmO] at h ⊢
    obtain ⟨a, dx, h1, h2⟩ := h; exact ⟨a, dx, h1, e _ _ h2⟩
  | .ie c v y n, x, h => by
    simp only [StmO] at h ⊢
    obtain ⟨a, dx, u, t, h1, h2, h3, h4⟩ := h
    exact ⟨a, dx, u, t, h1, e _ _ h2, h3.up e fun xs => StmOs.mono e y, h4.up e fun xs => StmOs.mono e n⟩
  | .wh c v b, x, h => by
    simp only [StmO] at h ⊢
    obtain ⟨a, dx, u, h1, h2, h3⟩ := h
    exact ⟨a, dx, u, h1, e _ _ h2, h3.up e fun xs => StmOs.mono e b⟩
  | .ch y n, x, h => by
    simp only [StmO] at h ⊢
    obtain ⟨a, dx, u, t, h1, h2, h3, h4⟩ := h
    exact ⟨a, dx, u, t, h1, e _ _ h2, h3.up e fun xs => StmOs.mono e y, h4.up e fun xs => StmOs.mono e n⟩
  | .lo b, x, h => by
    simp only [StmO] at h ⊢
    obtain ⟨a, dx, u, h1, h2, h3⟩ := h
    exact ⟨a, dx, u, h1, e _ _ h2, h3.up e fun xs => StmOs.mono e b⟩
theorem StmOs.mono {K : PySem.W.Frag} {G G' : Hp} (e : Ex G G') : ∀ (r : List Stm) {xs : List V}, StmOs K G r xs → StmOs K G' r xs
  | [], xs, h => by simp only [StmOs] at h ⊢; exact h
  | s :: r, xs, h => by
    simp only [StmOs] at h ⊢
    obtain ⟨x, ys, h1, h2, h3⟩ := h
    exact ⟨x, ys, h1, StmO.mono e s h2, StmOs.mono e r h3⟩
end
theorem PrgO.up {K : PySem.W.Frag} {G G' : Hp} {r : Row} {x : V} (h : PrgO K G r x) (e : Ex G G') : PrgO K G' r x := Pg.up h e fun xs => StmOs.mono e r
theorem StmOs.al {K : PySem.W.Frag} {G : Hp} : ∀ {r : List Stm} {xs : List V}, StmOs K G r xs ↔ Al (StmO K) G r xs
  | [], xs => by simp only [StmOs, Al]
  | s :: r, xs => by
    simp only [StmOs, Al]
    constructor
    · rintro ⟨x, ys, h1, h2, h3⟩; exact ⟨x, ys, h1, h2, StmOs.al.mp h3⟩
    · rintro ⟨x, ys, h1, h2, h3⟩; exact ⟨x, ys, h1, h2, StmOs.al.mpr h3⟩
/-- the fields of a statement's object -/
def fsOf : Stm → List V → List (Str × V)
  | .wr c v, _ => [("cell", .str c), ("value", .str v)]
  | .wt c v, _ => [("cell", .str c), ("value", .str v)]
  | .mk m, _ => [("name", .str m)]
  | .sk, _ => []
  | .st, _ => []
  | .ie c v _ _, ps => [("cell", .str c), ("value", .str v), ("yes", ps.getD 0 .non), ("no", ps.getD 1 .non)]
  | .wh c v _, ps => [("cell", .str c), ("value", .str v), ("body", ps.getD 0 .non)]
  | .ch _ _, ps => [("one", ps.getD 0 .non), ("other", ps.getD 1 .non)]
  | .lo _, ps => [("body", ps.getD 0 .non)]
theorem StmO.view {K : PySem.W.Frag} {G : Hp} {s : Stm} {x : V} (h : StmO K G s x) : ∃ a dx ps, x = .ref a ∧ G a = some (.ins (cS K s.cl) dx (fsOf s ps)) ∧ Al (PrgO K) G s.parts ps := by
  cases s with
  | wr c v => simp only [StmO] at h; obtain ⟨a, dx, h1, h2⟩ := h; exact ⟨a, dx, [], h1, h2, rfl⟩
  | wt c v => simp only [StmO] at h; obtain ⟨a, dx, h1, h2⟩ := h; exact ⟨a, dx, [], h1, h2, rfl⟩
  | mk m => simp only [StmO] at h; obtain ⟨a, dx, h1, h2⟩ := h; exact ⟨a, dx, [], h1, h2, rfl⟩
  | sk => simp only [StmO] at h; obtain ⟨a, dx, h1, h2⟩ := h; exact ⟨a, dx, [], h1, h2, rfl⟩
  | st => simp only [StmO] at h; obtain ⟨a, dx, h1, h2⟩ := h; exact ⟨a, dx, [], h1, h2, rfl⟩
  | ie c v y n => simp only [StmO] at h; obtain ⟨a, dx, u, t, h1, h2, h3, h4⟩ := h; exact ⟨a, dx, [u, t], h1, h2, ⟨u, _, rfl, h3, t, _, rfl, h4, rfl⟩⟩
  | wh c v b => simp only [StmO] at h; obtain ⟨a, dx, u, h1, h2, h3⟩ := h; exact ⟨a, dx, [u], h1, h2, ⟨u, _, rfl, h3, rfl⟩⟩
  | ch y n => simp only [StmO] at h; obtain ⟨a, dx, u, t, h1, h2, h3, h4⟩ := h; exact ⟨a, dx, [u, t], h1, h2, ⟨u, _, rfl, h3, t, _, rfl, h4, rfl⟩⟩
  | lo b => simp only [StmO] at h; obtain ⟨a, dx, u, h1, h2, h3⟩ := h; exact ⟨a, dx, [u], h1, h2, ⟨u, _, rfl, h3, rfl⟩⟩
theorem PrgO.view {K : PySem.W.Frag} {G : Hp} {r : Row} {x : V} (h : PrgO K G r x) : ∃ a dx t xs, x = .ref a ∧ G a = some (.ins (cA K "Program") dx [("row", .ref t)]) ∧ G t = some (.tup xs) ∧ Al (StmO K) G r xs := by
  obtain ⟨a, dx, t, xs, h1, h2, h3, h4⟩ := h
  exact ⟨a, dx, t, xs, h1, h2, h3, StmOs.al.mp h4⟩
theorem cS_inj {K : PySem.W.Frag} {mg : Str → Option Value} (T : Txt K mg) {c d : Cl} (h : cS K c = cS K d) : c = d := by
  have h1 := T.kit c d
  rw [h] at h1
  have h2 := T.kit d d
  rw [h2] at h1
  injection h1 with h1
  have : decide (c = d) = true := by rw [← h1]; simp
  exact of_decide_eq_true this
def FamS (K : PySem.W.Frag) (C : Addr) : Prop := ∃ c, C = cS K c
theorem fs_no_size (s : Stm) (ps : List V) : (fsOf s ps).lookup ("size" : Str) = none := by cases s <;> rfl
theorem fs_no_parts (s : Stm) (ps : List V) : (fsOf s ps).lookup ("parts" : Str) = none := by cases s <;> rfl
def spParts (K : PySem.W.Frag) (C : Addr) : Sp := fun vs H Q _ => ∃ (G : Hp) (s : Stm) (x : V), vs = [x] ∧ Ex G H ∧ StmO K G s x ∧ cS K s.cl = C ∧ ∀ G' H' l xs, Step NoW G H G' H' → G' l = some (.lst xs) → Al (PrgO K) G' s.parts xs → Q (.ref l) H'
/-- sizes of statements less deep than d; of programs -/
def spSizeS (K : PySem.W.Frag) (d : Nat) (C : Addr) : Sp := fun vs H Q _ => ∃ (G : Hp) (s : Stm) (x : V), vs = [x] ∧ Ex G H ∧ StmO K G s x ∧ cS K s.cl = C ∧ s.deep ≤ d ∧ s.size ≤ 1000 ∧ ∀ H', Fr NoW H H' → Q (.int s.size) H'
def spSizeP (K : PySem.W.Frag) (d : Nat) : Sp := fun vs H Q _ => ∃ (G : Hp) (r : Row) (x : V), vs = [x] ∧ Ex G H ∧ PrgO K G r x ∧ rowDeep r < d ∧ rowSize r ≤ 1000 ∧ ∀ H', Fr NoW H H' → Q (.int (rowSize r)) H'
def spDeepP (K : PySem.W.Frag) (d : Nat) : Sp := fun vs H Q _ => ∃ (G : Hp) (r : Row) (x : V), vs = [x] ∧ Ex G H ∧ PrgO K G r x ∧ rowDeep r < d ∧ rowSize r ≤ 1000 ∧ ∀ H', Fr NoW H H' → Q (.int (1 + rowDeep r : Nat)) H'
def spAskedSize : Sp := fun vs H Q _ => ∃ n d : Nat, vs = [.int n, .int d] ∧ n ≤ 24 ∧ d ≤ 6 ∧ Q .non H
section
variable {P : Program} {w : World} {K : PySem.W.Frag} {mg : Str → Option Value} {base : Heap}
theorem ok_asked_size (T : Txt K mg) : Cal P w K mg base 1 "asked_size" P_asked_size spAskedSize := by
  refine Cal.of T.fn_asked_size sc_asked_size (fun vs H Q E h => ?_) (fun f cdv A outer s H vs Q E hr h => ?_)
  · obtain ⟨n, d, rfl, _⟩ := h; rfl
  · obtain ⟨n, d, rfl, h1, h2, k⟩ := h
    refine ⟨_, (pss_cons (ps_if (pt_cmpR op_gt (pv 0) (pk_int T.k_MOST_STATEMENTS) (by first | exact nomark _ | rfl))
      pss_never
      pss_nil)
    (pss_one (ps_if (pt_cmpR op_gt (pv 1) (pk_int T.k_MOST_DEEP) (by first | exact nomark _ | rfl))
      pss_never
      pss_nil))), ?_⟩
    exact ⟨_, rfl, _, _, rfl, rfl, _, rfl, ifF (dF (by omega)) ⟨_, rfl, _, _, rfl, rfl, _, rfl, ifF (dF (by omega)) k⟩⟩
theorem cl_of {c : Cl} (T : Txt K mg) {s : Stm} (h : cS K s.cl = cS K c) : s.cl = c := cS_inj T h
theorem ok_parts0 (T : Txt K mg) (c : Cl) (hc : ∀ s : Stm, s.cl = c → s.parts = []) (F : Mt1 K (cS K c) "parts" "Statement.parts" s_Statement_parts ["self"]) : CalM P w K mg base 1 (cS K c) "parts" ["self"] (spParts K (cS K c)) := by
  refine CalM.of F sc_Statement_parts (fun vs H Q E h => ?_) (fun f cdv A outer s H vs Q E hr h => ?_)
  · obtain ⟨G, s, x, rfl, _⟩ := h; rfl
  · obtain ⟨G, s, x, rfl, e, hs, hcl, k⟩ := h
    have hp := hc s (cl_of T hcl)
    refine ⟨_, (pss_one (ps_ret (pe_lst pa_nil))), ?_⟩
    refine ⟨zs, fun p np => ?_⟩
    generalize e1 : upd H p _ = H1
    obtain ⟨G1, S1, s1, g1⟩ := (Step.refl e).newDE np e1
    exact k _ _ p [] S1 g1 (by rw [hp]; rfl)
theorem ok_parts (T : Txt K mg) (c : Cl) : CalM P w K mg base 1 (cS K c) "parts" ["self"] (spParts K (cS K c)) := by
  have F := T.mtParts c
  have no : (c = .write ∨ c = .wait ∨ c = .mark ∨ c = .skip ∨ c = .stop) → ∀ s : Stm, s.cl = c → s.parts = [] := by
    intro h s e
    cases s <;> first | rfl | (exfalso; subst e; simp [Stm.cl] at h)
  cases c with
  | write => exact ok_parts0 T .write (no (by simp)) F
  | wait => exact ok_parts0 T .wait (no (by simp)) F
  | mark => exact ok_parts0 T .mark (no (by simp)) F
  | skip => exact ok_parts0 T .skip (no (by simp)) F
  | stop => exact ok_parts0 T .stop (no (by simp)) F
  | ife =>
    refine CalM.of F sc_If_parts (fun vs H Q E h => ?_) (fun f cdv A outer s H vs Q E hr h => ?_)
    · obtain ⟨G, s, x, rfl, _⟩ := h; rfl
    · obtain ⟨G, s, x, rfl, e, hs, hcl, k⟩ := h
      have ec := cl_of T hcl
      obtain ⟨a, dx, ps, rfl, ga, al⟩ := hs.view
      cases s with
      | ie c v y n =>
        obtain ⟨u, r, rfl, hu, t, r', rfl, ht, rfl⟩ := al
        refine ⟨_, (pss_one (ps_ret (pe_lst (pa_cons (k_fld K (pv 0)) (pa_cons (k_fld K (pv 0)) pa_nil))))), ?_⟩
        refine ⟨_, rfl, a, _, dx, _, _, rfl, e _ _ ga, T.clS .ife, T.nS_yes .ife, rfl, _, rfl, a, _, dx, _, _, rfl, e _ _ ga, T.clS .ife, T.nS_no .ife, rfl, zs, fun p np => ?_⟩
        generalize e1 : upd H p _ = H1
        obtain ⟨G1, S1, s1, g1⟩ := (Step.refl e).newDE np e1
        exact k _ _ p _ S1 g1 ⟨u, _, rfl, hu.up S1.eg, t, _, rfl, ht.up S1.eg, rfl⟩
      | _ => simp [Stm.cl] at ec
  | whl =>
    refine CalM.of F sc_While_parts (fun vs H Q E h => ?_) (fun f cdv A outer s H vs Q E hr h => ?_)
    · obtain ⟨G, s, x, rfl, _⟩ := h; rfl
    · obtain ⟨G, s, x, rfl, e, hs, hcl, k⟩ := h
      have ec := cl_of T hcl
      obtain ⟨a, dx, ps, rfl, ga, al⟩ := hs.view
      cases s with
      | wh c v y =>
        obtain ⟨u, r, rfl, hu, rfl⟩ := al
        refine ⟨_, (pss_one (ps_ret (pe_lst (pa_cons (k_fld K (pv 0)) pa_nil)))), ?_⟩
        refine ⟨_, rfl, a, _, dx, _, _, rfl, e _ _ ga, T.clS .whl, T.nS_body .whl, rfl, zs, fun p np => ?_⟩
        generalize e1 : upd H p _ = H1
        obtain ⟨G1, S1, s1, g1⟩ := (Step.refl e).newDE np e1
        exact k _ _ p _ S1 g1 ⟨u, _, rfl, hu.up S1.eg, rfl⟩
      | _ => simp [Stm.cl] at ec
  | cho =>
    refine CalM.of F sc_Choose_parts (fun vs H Q E h => ?_) (fun f cdv A outer s H vs Q E hr h => ?_)
    · obtain ⟨G, s, x, rfl, _⟩ := h; rfl
    · obtain ⟨G, s, x, rfl, e, hs, hcl, k⟩ := h
      have ec := cl_of T hcl
      obtain ⟨a, dx, ps, rfl, ga, al⟩ := hs.view
      cases s with
      | ch y n =>
        obtain ⟨u, r, rfl, hu, t, r', rfl, ht, rfl⟩ := al
        refine ⟨_, (pss_one (ps_ret (pe_lst (pa_cons (k_fld K (pv 0)) (pa_cons (k_fld K (pv 0)) pa_nil))))), ?_⟩
        refine ⟨_, rfl, a, _, dx, _, _, rfl, e _ _ ga, T.clS .cho, T.nS_one .cho, rfl, _, rfl, a, _, dx, _, _, rfl, e _ _ ga, T.clS .cho, T.nS_other .cho, rfl, zs, fun p np => ?_⟩
        generalize e1 : upd H p _ = H1
        obtain ⟨G1, S1, s1, g1⟩ := (Step.refl e).newDE np e1
        exact k _ _ p _ S1 g1 ⟨u, _, rfl, hu.up S1.eg, t, _, rfl, ht.up S1.eg, rfl⟩
      | _ => simp [Stm.cl] at ec
  | lop =>
    refine CalM.of F sc_Loop_parts (fun vs H Q E h => ?_) (fun f cdv A outer s H vs Q E hr h => ?_)
    · obtain ⟨G, s, x, rfl, _⟩ := h; rfl
    · obtain ⟨G, s, x, rfl, e, hs, hcl, k⟩ := h
      have ec := cl_of T hcl
      obtain ⟨a, dx, ps, rfl, ga, al⟩ := hs.view
      cases s with
      | lo y =>
        obtain ⟨u, r, rfl, hu, rfl⟩ := al
        refine ⟨_, (pss_one (ps_ret (pe_lst (pa_cons (k_fld K (pv 0)) pa_nil)))), ?_⟩
        refine ⟨_, rfl, a, _, dx, _, _, rfl, e _ _ ga, T.clS .lop, T.nS_body .lop, rfl, zs, fun p np => ?_⟩
        generalize e1 : upd H p _ = H1
        obtain ⟨G1, S1, s1, g1⟩ := (Step.refl e).newDE np e1
        exact k _ _ p _ S1 g1 ⟨u, _, rfl, hu.up S1.eg, rfl⟩
      | _ => simp [Stm.cl] at ec
theorem ok_sizeS {k d : Nat} (T : Txt K mg) (hk : 1 ≤ k) (c : Cl) (c_Program_size : CalM P w K mg base k (cA K "Program") "size" P_Program_size (spSizeP K d)) : CalM P w K mg base (k + 1) (cS K c) "size" P_Statement_size (spSizeS K d (cS K c)) := by
  have c_Statement_parts : CalM P w K mg base k (cS K c) "parts" ["self"] (spParts K (cS K c)) := (ok_parts T c).up hk
  refine CalM.of (T.mtSize c) sc_Statement_size (fun vs H Q E h => ?_) (fun f cdv A outer s H vs Q E hr h => ?_)
  · obtain ⟨G, s, x, rfl, _⟩ := h; rfl
  · obtain ⟨G, s, x, rfl, e, hs, hcl, hd, hz, k⟩ := h
    obtain ⟨a, dx, ps, rfl, ga, al⟩ := hs.view
    have sp := size_parts s
    refine ⟨_, (pss_one (ps_ret (pe_op op_add pe_int (pe_callB (k_sum K rfl) (by rfl) T.f_sum (by decide +kernel) (pa_cons (pe_lc (own := [("part", 1)]) (by rfl) sc_Statement_size.nd (k_list K (cm0 c_Statement_parts (hr.mono (by first | decide | omega)) (pv 0))) (blkOk_by (own := [("part", 1)]) (N := N_Statement_size) (by kernel_rfl)) (fun _ _ _ _ _ => (pg_name (i := 1) sc_Statement_size.nd rfl (Or.inl rfl))) (fun _ _ _ _ _ => pts_nil) (fun _ _ _ _ _ => (cm0 c_Program_size (hr.mono (by first | decide | omega)) (pv 1)))) pa_nil))))), ?_⟩
    refine ⟨_, rfl, a, dx, _, rfl, hcl ▸ e _ _ ga, fs_no_parts s ps, G, s, _, rfl, e, hs, hcl, fun G1 H1 l xs s1 gl al1 => ?_⟩
    have lx := al1.len
    have lp : s.parts.length ≤ 1000 := by
      have : s.parts.length ≤ 2 := by cases s <;> simp [Stm.parts]
      omega
    refine ⟨l, rfl, ⟨_, sqL gl s1.gh⟩, fun L nL => ?_⟩
    refine lcD s.parts (fun p => some (.int (rowSize p))) (walkL lx.symm) (by omega) s1.gh nL (fun H2 e2 => sqL gl (s1.gh.trans e2)) ?_ ?_
    · rintro i p x G2 H2 H2' K1 K0 hp s2 ⟨rfl, ex⟩ k1 k0
      obtain ⟨p', hp', op⟩ := al1.get ex
      rw [hp] at hp'; cases hp'
      have op2 := op.up s2.eg
      obtain ⟨b, dxb, t, ys, rfl, gb, _⟩ := op2.view
      have d1 := part_deep (mem_of hp)
      have z1 := part_size (mem_of hp)
      exact ⟨rfl, _, rfl, b, dxb, _, rfl, s2.gh _ _ gb, rfl, G2, p, _, rfl, s2.gh, op2, by omega, by omega, fun H3 f3 => k1 _ _ _ _ rfl (f3.step s2.gh) rfl⟩
    · rintro G2 H2 ys s2 hL gL ry
      rw [filterMap_some] at ry
      have : ys = (s.parts.map fun p => ((rowSize p : Nat) : Int)).map V.int := RepL.ints (by rw [List.map_map]; exact ry)
      subst this
      refine ⟨L, _, rfl, .of hL, _, _, rfl, rfl, ?_⟩
      have : (1 : Int) + (s.parts.map fun p => ((rowSize p : Nat) : Int)).sum = (s.size : Nat) := by
        rw [sp]; unfold Stm.partsSize
        have : ∀ l : List Row, (l.map fun p => ((rowSize p : Nat) : Int)).sum = (((l.map rowSize).sum : Nat) : Int) := by
          intro l
          induction l with
          | nil => rfl
          | cons a l ih => simp only [List.map_cons, List.sum_cons, ih]; omega
        rw [this]; omega
      exact qI (Q := Q) (k _ (s1.toFr.trans s2.toFr)) this
end
end K4

set_option maxHeartbeats 4000000
/-! Sizes and depths of programs; programs made. -/
namespace K4
open PySem L2
theorem deep_max (s : Stm) (f m : Nat) (h1 : m ∈ f :: s.parts.map (fun p => 1 + rowDeep p)) (h2 : ∀ y ∈ f :: s.parts.map (fun p => 1 + rowDeep p), y ≤ m) : m = max f s.deep := by
  cases s <;> simp [Stm.parts, Stm.deep] at h1 h2 ⊢ <;> omega
theorem rowDeep_take {r : Row} {i : Nat} {s : Stm} (h : r[i]? = some s) : rowDeep (r.take (i + 1)) = max (rowDeep (r.take i)) s.deep := by
  rw [take_snoc h, rowDeep_app]
  simp [rowDeep]
section
variable {P : Program} {w : World} {K : PySem.W.Frag} {mg : Str → Option Value} {base : Heap}
theorem ok_sizeP {k d : Nat} (T : Txt K mg) (c_St_size : ∀ C, FamS K C → CalM P w K mg base k C "size" P_Statement_size (spSizeS K d C)) : CalM P w K mg base (k + 1) (cA K "Program") "size" P_Program_size (spSizeP K (d + 1)) := by
  refine CalM.of T.mt_Program_size sc_Program_size (fun vs H Q E h => ?_) (fun f cdv A outer s H vs Q E hr h => ?_)
  · obtain ⟨G, s, x, rfl, _⟩ := h; rfl
  · obtain ⟨G, r, x, rfl, e, hs, hd, hz, k⟩ := h
    obtain ⟨a, dx, t, xs, rfl, ga, gt, al⟩ := hs.view
    have lx := al.len
    have lz := len_le_size r
    refine ⟨_, (pss_one (ps_ret (pe_callB (k_sum K rfl) (by rfl) T.f_sum (by decide +kernel) (pa_cons (pe_lc (own := [("statement", 1)]) (by rfl) sc_Program_size.nd (k_tup K (k_fld K (pv 0))) (blkOk_by (own := [("statement", 1)]) (N := N_Program_size) (by kernel_rfl)) (fun _ _ _ _ _ => (pg_name (i := 1) sc_Program_size.nd rfl (Or.inl rfl))) (fun _ _ _ _ _ => pts_nil) (fun _ _ _ _ _ => (cmV0 c_St_size (hr.mono (by first | decide | omega)) (pv 1)))) pa_nil)))), ?_⟩
    refine ⟨_, rfl, a, _, dx, _, _, rfl, e _ _ ga, T.cl_Program, T.n_Program_row, rfl, t, rfl, ⟨_, sqT gt e⟩, fun L nL => ?_⟩
    refine lcD r (fun s => some (.int s.size)) (walkT lx.symm) (by omega) e nL (fun H2 e2 => sqT gt (e.trans e2)) ?_ ?_
    · rintro i p x G2 H2 H2' K1 K0 hp s2 ⟨rfl, ex⟩ k1 k0
      obtain ⟨p', hp', op⟩ := al.get ex
      rw [hp] at hp'; cases hp'
      have op2 := op.mono s2.eg
      obtain ⟨b, dxb, ps, rfl, gb, _⟩ := op2.view
      have d1 := mem_deep (mem_of hp)
      have z1 := mem_size (mem_of hp)
      exact ⟨rfl, _, rfl, b, _, dxb, _, rfl, s2.gh _ _ gb, ⟨_, rfl⟩, fs_no_size p ps, G2, p, _, rfl, s2.gh, op2, rfl, by omega, by omega, fun H3 f3 => k1 _ _ _ _ rfl (f3.step s2.gh) rfl⟩
    · rintro G2 H2 ys s2 hL gL ry
      rw [filterMap_some] at ry
      have : ys = (r.map fun p => ((p.size : Nat) : Int)).map V.int := RepL.ints (by rw [List.map_map]; exact ry)
      subst this
      refine ⟨L, _, rfl, .of hL, qI (Q := Q) (k _ s2.toFr) ?_⟩
      rw [rowSize_sum', ← sumI, List.map_map] <;> rfl
theorem ok_deepP {k d : Nat} (T : Txt K mg) (hk : 1 ≤ k) (c_Program_deep : CalM P w K mg base k (cA K "Program") "deep" P_Program_deep (spDeepP K d)) : CalM P w K mg base (k + 1) (cA K "Program") "deep" P_Program_deep (spDeepP K (d + 1)) := by
  have c_St_parts : ∀ C, FamS K C → CalM P w K mg base k C "parts" ["self"] (spParts K C) := by
    rintro C ⟨c, rfl⟩
    exact (ok_parts T c).up hk
  refine CalM.of T.mt_Program_deep sc_Program_deep (fun vs H Q E h => ?_) (fun f cdv A outer s H vs Q E hr h => ?_)
  · obtain ⟨G, s, x, rfl, _⟩ := h; rfl
  · obtain ⟨G, r, x, rfl, e, hs, hd, hz, k⟩ := h
    obtain ⟨a, dx, t, xs, rfl, ga, gt, al⟩ := hs.view
    have lx := al.len
    have lz := len_le_size r
    refine ⟨_, (pss_cons (ps_set (i := 1) sc_Program_deep.nd rfl (Or.inl rfl) pe_int)
    (pss_cons (ps_for PassesOwn.never rfl (k_tup K (k_fld K (pv 0))) (pg_name (i := 2) sc_Program_deep.nd rfl (Or.inl rfl))
      (pss_one (ps_set (i := 1) sc_Program_deep.nd rfl (Or.inl rfl) (pe_callB (k_max K rfl) (by rfl) T.f_max (by decide +kernel) (pa_cons (pe_op op_cat (pe_lst (pa_cons (pv 1) pa_nil)) (pe_lc (own := [("part", 3)]) (by rfl) sc_Program_deep.nd (k_list K (cmV0 c_St_parts (hr.mono (by first | decide | omega)) (pv 2))) (blkOk_by (own := [("part", 3)]) (N := N_Program_deep) (by kernel_rfl)) (fun _ _ _ _ _ => (pg_name (i := 3) sc_Program_deep.nd rfl (Or.inl rfl))) (fun _ _ _ _ _ => pts_nil) (fun _ _ _ _ _ => (cm0 c_Program_deep (hr.mono (by first | decide | omega)) (pv 3))))) pa_nil)))))
    (pss_one (ps_ret (pe_op op_add pe_int (pv 1)))))), ?_⟩
    refine ⟨_, rfl, a, _, dx, _, _, rfl, e _ _ ga, T.cl_Program, T.n_Program_row, rfl, t, rfl, ⟨_, sqT gt e⟩, ?_⟩
    refine for_tup (xs := xs) (fun i σ H1 => ∃ G1, Step NoW G H G1 H1 ∧ ∃ x y, σ = [some (.ref a), some (.int (rowDeep (r.take i))), x, y]) ⟨G, Step.refl e, _, _, rfl⟩ (fun i σ H1 _ ⟨G1, s1, _⟩ => sqT gt (s1.eg.trans s1.gh)) ?_ ?_
    · rintro i x σ H1 ex ⟨G1, s1, y, z, rfl⟩
      obtain ⟨p, hp, op⟩ := al.get ex
      have op1 := op.mono s1.eg
      obtain ⟨b, dxb, ps, rfl, gb, _⟩ := op1.view
      have d1 := mem_deep (mem_of hp)
      have z1 := mem_size (mem_of hp)
      refine ⟨_, rfl, zs, fun q nq => ?_⟩
      generalize e2 : upd H1 q _ = H2
      obtain ⟨G2, S2, s2, g2⟩ := s1.newDE nq e2
      refine ⟨_, rfl, b, _, dxb, _, rfl, s2.gh _ _ (s2.eg _ _ gb), ⟨_, rfl⟩, fs_no_parts p ps, G2, p, _, rfl, s2.gh, op1.mono s2.eg, rfl, fun G3 H3 l ws s3 gl al3 => ?_⟩
      have S3 := S2.trans s3
      have lw := al3.len
      have l2 : p.parts.length ≤ 2 := by cases p <;> simp [Stm.parts]
      refine ⟨l, rfl, ⟨_, sqL gl s3.gh⟩, fun L nL => ?_⟩
      refine lcD p.parts (fun p => some (.int (1 + rowDeep p : Nat))) (walkL lw.symm) (by omega) s3.gh nL (fun H4 e4 => sqL gl (s3.gh.trans e4)) ?_ ?_
      · rintro j u x G4 H4 H4' K1 K0 hu s4 ⟨rfl, ex⟩ k1 k0
        obtain ⟨u', hu', ou⟩ := al3.get ex
        rw [hu] at hu'; cases hu'
        have ou4 := ou.up s4.eg
        obtain ⟨b4, dx4, t4, ys4, rfl, gb4, _⟩ := ou4.view
        have d4 := part_deep (mem_of hu)
        have z4 := part_size (mem_of hu)
        exact ⟨rfl, _, rfl, b4, dx4, _, rfl, s4.gh _ _ gb4, rfl, G4, u, _, rfl, s4.gh, ou4, by omega, by omega, fun H5 f5 => k1 _ _ _ _ rfl (f5.step s4.gh) rfl⟩
      · rintro G4 H4 ys s4 hL gL ry
        rw [filterMap_some] at ry
        have : ys = (p.parts.map fun p => ((1 + rowDeep p : Nat) : Int)).map V.int := RepL.ints (by rw [List.map_map]; exact ry)
        subst this
        have S4 := S3.trans s4
        refine ⟨q, L, _, _, rfl, rfl, s4.gh _ _ (s4.eg _ _ (s3.eg _ _ g2)), hL, by simp only [List.length_map, List.length_cons, List.length_nil]; exact zl (by omega), fun u nu => ?_⟩
        generalize e5 : upd H4 u _ = H5
        obtain ⟨G5, S5, s5, g5⟩ := S4.newDE nu e5
        refine ⟨u, ((rowDeep (r.take i) : Nat) : Int) :: p.parts.map fun p => ((1 + rowDeep p : Nat) : Int), rfl, sqL g5 S5.gh, by simp, fun m hm hall => ?_⟩
        have key : m = ((max (rowDeep (r.take i)) p.deep : Nat) : Int) := by
          have hh : ∃ n : Nat, n ∈ rowDeep (r.take i) :: p.parts.map (fun p => 1 + rowDeep p) ∧ m = n := by
            rcases List.mem_cons.mp hm with h | h
            · exact ⟨_, List.mem_cons_self, h⟩
            · obtain ⟨a, ha, rfl⟩ := List.mem_map.mp h
              exact ⟨_, List.mem_cons_of_mem _ (List.mem_map.mpr ⟨a, ha, rfl⟩), rfl⟩
          obtain ⟨n, hn, rfl⟩ := hh
          rw [deep_max p (rowDeep (r.take i)) n hn]
          intro y hy
          have : ((y : Nat) : Int) ≤ n := by
            refine hall _ ?_
            rcases List.mem_cons.mp hy with h | h
            · rw [h]; exact List.mem_cons_self
            · obtain ⟨a, ha, rfl⟩ := List.mem_map.mp h
              exact List.mem_cons_of_mem _ (List.mem_map.mpr ⟨a, ha, rfl⟩)
          omega
        rw [← rowDeep_take hp] at key
        subst key
        exact ⟨G5, S5, _, _, rfl⟩
    · rintro σ H1 ⟨G1, s1, y, z, rfl⟩
      refine ⟨_, rfl, _, _, rfl, rfl, qI (Q := Q) (k _ s1.toFr) ?_⟩
      rw [lx, List.take_length]
      omega
end
end K4

set_option maxHeartbeats 4000000
/-! Statements and programs made. -/
namespace K4
open PySem L2
theorem madeE {G H1 H2 : Hp} {x dx C : Addr} (e : Ex G H1) (nx : H1 x = none) (nd : H1 dx = none) (ne : dx ≠ x) (e2 : upd (upd H1 dx (.own x)) x (.ins C dx []) = H2) : Step NoW G H1 G H2 ∧ Mi G H2 x (.ins C dx []) := by
  subst e2
  have s1 : Step NoW G H1 G (upd H1 dx (.own x)) := (Step.refl e).newM nd
  have n2 : (upd H1 dx (HO.own x)) x = none := by rw [upd_ne ne.symm]; exact nx
  exact ⟨s1.newM n2, upd_same, e.free nx⟩
theorem initE {G H1 H2 G' H3 : Hp} {x : Addr} {o : HO} (s1 : Step NoW G H1 G H2) (nx : H1 x = none) (s2 : Step (fun a => a = x) G H2 G' H3) (m : Mi G' H3 x o) : ∃ G3, Step NoW G H1 G3 H3 ∧ Ex G' G3 ∧ G3 x = some o := by
  have s : Step NoW G H1 G' H3 := s1.trans s2 (fun a h => Or.inr (h ▸ nx))
  obtain ⟨G3, s3, e3, g3, _⟩ := s.frzE nx m
  exact ⟨G3, s3, e3, g3⟩
def spProgramInit (K : PySem.W.Frag) : Sp := fun vs H Q _ => ∃ (G : Hp) (self dx a : Addr) (r : Row) (xs : List V), vs = [.ref self, .ref a] ∧ Ex G H ∧ Mi G H self (.ins (cA K "Program") dx []) ∧ G a = some (.lst xs) ∧ Al (StmO K) G r xs ∧
  rowSize r ≤ 24 ∧ rowDeep r ≤ 5 ∧ ∀ G' H' t, Step (fun a => a = self) G H G' H' → Mi G' H' self (.ins (cA K "Program") dx [("row", .ref t)]) → G' t = some (.tup xs) → Q .non H'
def spOnCell (K : PySem.W.Frag) : Sp := fun vs H Q _ => ∃ (G : Hp) (self dx : Addr) (c : Cl) (z v : Str), vs = [.ref self, .str z, .str v] ∧ Ex G H ∧ Mi G H self (.ins (cS K c) dx []) ∧ NameOk z ∧ NameOk v ∧
  ∀ H', Step (fun a => a = self) G H G H' → Mi G H' self (.ins (cS K c) dx [("cell", .str z), ("value", .str v)]) → Q .non H'
def spMarkInit (K : PySem.W.Frag) : Sp := fun vs H Q _ => ∃ (G : Hp) (self dx : Addr) (z : Str), vs = [.ref self, .str z] ∧ Ex G H ∧ Mi G H self (.ins (cS K .mark) dx []) ∧ NameOk z ∧
  ∀ H', Step (fun a => a = self) G H G H' → Mi G H' self (.ins (cS K .mark) dx [("name", .str z)]) → Q .non H'
def spIfInit (K : PySem.W.Frag) : Sp := fun vs H Q _ => ∃ (G : Hp) (self dx : Addr) (z v : Str) (x y : V), vs = [.ref self, .str z, .str v, x, y] ∧ Ex G H ∧ Mi G H self (.ins (cS K .ife) dx []) ∧ NameOk z ∧ NameOk v ∧
  ∀ H', Step (fun a => a = self) G H G H' → Mi G H' self (.ins (cS K .ife) dx [("cell", .str z), ("value", .str v), ("yes", x), ("no", y)]) → Q .non H'
def spWhileInit (K : PySem.W.Frag) : Sp := fun vs H Q _ => ∃ (G : Hp) (self dx : Addr) (z v : Str) (x : V), vs = [.ref self, .str z, .str v, x] ∧ Ex G H ∧ Mi G H self (.ins (cS K .whl) dx []) ∧ NameOk z ∧ NameOk v ∧
  ∀ H', Step (fun a => a = self) G H G H' → Mi G H' self (.ins (cS K .whl) dx [("cell", .str z), ("value", .str v), ("body", x)]) → Q .non H'
def spChooseInit (K : PySem.W.Frag) : Sp := fun vs H Q _ => ∃ (G : Hp) (self dx : Addr) (x y : V), vs = [.ref self, x, y] ∧ Ex G H ∧ Mi G H self (.ins (cS K .cho) dx []) ∧
  ∀ H', Step (fun a => a = self) G H G H' → Mi G H' self (.ins (cS K .cho) dx [("one", x), ("other", y)]) → Q .non H'
def spLoopInit (K : PySem.W.Frag) : Sp := fun vs H Q _ => ∃ (G : Hp) (self dx : Addr) (x : V), vs = [.ref self, x] ∧ Ex G H ∧ Mi G H self (.ins (cS K .lop) dx []) ∧
  ∀ H', Step (fun a => a = self) G H G H' → Mi G H' self (.ins (cS K .lop) dx [("body", x)]) → Q .non H'
section
variable {P : Program} {w : World} {K : PySem.W.Frag} {mg : Str → Option Value} {base : Heap}
theorem sizesP (T : Txt K mg) : ∀ d, CalM P w K mg base (2 * d + 1) (cA K "Program") "size" P_Program_size (spSizeP K d)
  | 0 => by
    refine CalM.of T.mt_Program_size sc_Program_size (fun vs H Q E h => ?_) (fun f cdv A outer s H vs Q E hr h => ?_)
    · obtain ⟨_, _, _, _, _, _, h, _⟩ := h; exact absurd h (Nat.not_lt_zero _)
    · obtain ⟨_, _, _, _, _, _, h, _⟩ := h; exact absurd h (Nat.not_lt_zero _)
  | d + 1 => by
    refine ok_sizeP (k := 2 * d + 2) T ?_
    rintro C ⟨c, rfl⟩
    exact ok_sizeS T (by omega) c (sizesP T d)
theorem sizesS (T : Txt K mg) (d : Nat) : ∀ C, FamS K C → CalM P w K mg base (2 * d + 2) C "size" P_Statement_size (spSizeS K d C) := by
  rintro C ⟨c, rfl⟩
  exact ok_sizeS T (by omega) c (sizesP T d)
theorem deepsP (T : Txt K mg) : ∀ d, CalM P w K mg base (d + 1) (cA K "Program") "deep" P_Program_deep (spDeepP K d)
  | 0 => by
    refine CalM.of T.mt_Program_deep sc_Program_deep (fun vs H Q E h => ?_) (fun f cdv A outer s H vs Q E hr h => ?_)
    · obtain ⟨_, _, _, _, _, _, h, _⟩ := h; exact absurd h (Nat.not_lt_zero _)
    · obtain ⟨_, _, _, _, _, _, h, _⟩ := h; exact absurd h (Nat.not_lt_zero _)
  | d + 1 => ok_deepP T (by omega) (deepsP T d)
theorem ok_Program_init {k : Nat} (T : Txt K mg) (c_asked_size : Cal P w K mg base k "asked_size" P_asked_size spAskedSize) (c_Program_size : CalM P w K mg base k (cA K "Program") "size" P_Program_size (spSizeP K 6)) (c_Program_deep : CalM P w K mg base k (cA K "Program") "deep" P_Program_deep (spDeepP K 6)) :
    CalC P w K mg base (k + 1) (cA K "Program") P_Program_init [] (spProgramInit K) := by
  refine CalC.of T.in_Program sc_Program_init (fun vs H Q E h => ?_) (fun f cdv A outer s H vs Q E hr h => ?_)
  · obtain ⟨G, self, dx, a, r, xs, rfl, _⟩ := h; rfl
  · obtain ⟨G, self, dx, a, r, xs, rfl, e, m0, ha, al, hz, hd, k⟩ := h
    refine ⟨_, (pss_cons (k_sfld K (pv 0) (pe_callTy (k_tupOf K) (by rfl) T.f_tuple (by decide +kernel) (pa_cons (pv 1) pa_nil)))
    (pss_one (ps_expr (pc c_asked_size (hr.mono (by first | decide | omega)) (pa_cons (cm0 c_Program_size (hr.mono (by first | decide | omega)) (pv 0)) (pa_cons (cm0 c_Program_deep (hr.mono (by first | decide | omega)) (pv 0)) pa_nil)))))), ?_⟩
    refine ⟨_, rfl, a, xs, rfl, .inl ⟨sqL ha e, fun t nt => ?_⟩⟩
    generalize e1 : upd H t _ = H1
    obtain ⟨G1, S1, s1, g1⟩ := (Step.refl (W := fun a => a = self) e).newDE nt e1
    have M1 := m0.go s1
    refine ⟨_, rfl, self, _, dx, _, rfl, M1.h, T.cl_Program, T.n_Program_row, by decide, ?_⟩
    generalize e2 : upd H1 self _ = H2
    obtain ⟨S2, M2, _⟩ := S1.mutE (.inl rfl) M1 e2
    have E2 := S2.gh.put M2.h
    have O2 : PrgO K (upd G1 self (.ins (cA K "Program") dx [("row", .ref t)])) r (.ref self) := by
      have up1 : Ex G1 (upd G1 self (.ins (cA K "Program") dx [("row", .ref t)])) := Ex.new M2.g
      exact ⟨self, dx, t, xs, rfl, upd_same, up1 _ _ g1, StmOs.mono (s1.eg.trans up1) r (StmOs.al.mpr al)⟩
    have lz := rowDeep_le r
    refine ⟨_, rfl, self, dx, _, rfl, M2.h, rfl, _, r, _, rfl, E2, O2, by omega, by omega, fun H3 f3 => ?_⟩
    refine ⟨_, rfl, self, dx, _, rfl, f3.same _ _ M2.h, rfl, _, r, _, rfl, E2.trans f3.same, O2, by omega, by omega, fun H4 f4 => ?_⟩
    refine ⟨rowSize r, 1 + rowDeep r, rfl, by omega, by omega, ?_⟩
    have s4 := (f3.trans f4).step S2.gh
    exact k _ _ t (S2.trans s4) (M2.go s4) g1
theorem onCell_body {k : Nat} (T : Txt K mg) (c_asked_names : Cal P w K mg base k "asked_names" P_asked_names (spAskedNames K)) : Body P w K mg base k N_OnCell_init P_OnCell_init "OnCell.__init__" s_OnCell_init (spOnCell K) := by
  intro f cdv A outer s H vs Q E hr h
  obtain ⟨G, self, dx, c, z, v, rfl, e, m0, hz, hv, k⟩ := h
  refine ⟨_, (pss_cons (ps_expr (pc c_asked_names (hr.mono (by first | decide | omega)) (pa_cons (pe_lst (pa_cons (pv 1) (pa_cons (pv 2) pa_nil))) pa_nil)))
    (pss_cons (k_sfld K (pv 0) (pv 1))
    (pss_one (k_sfld K (pv 0) (pv 2))))), ?_⟩
  refine ⟨_, rfl, _, rfl, zs, fun q nq => ⟨q, [z, v], rfl, .of upd_same, fun y hy => ?_, fun H1 f1 => ?_⟩⟩
  · rcases List.mem_cons.mp hy with rfl | hy
    · exact hz
    · rw [List.mem_singleton.mp hy]; exact hv
  · have s1 : Step NoW G H G H1 := ((Fr.new (W := NoW) nq).trans f1).step e
    have S1 := s1.wide (W' := fun a => a = self)
    have M1 := m0.go s1
    refine ⟨_, rfl, _, rfl, self, _, dx, _, rfl, M1.h, T.clS c, T.nS_cell c, by decide, ?_⟩
    generalize e2 : upd H1 self _ = H2
    obtain ⟨S2, M2, _⟩ := S1.mutE (.inl rfl) M1 e2
    refine ⟨_, rfl, _, rfl, self, _, dx, _, rfl, M2.h, T.clS c, T.nS_value c, ln1, ?_⟩
    generalize e3 : upd H2 self _ = H3
    obtain ⟨S3, M3, _⟩ := S2.mutE (.inl rfl) M2 e3
    exact k _ S3 M3
theorem onCell_len : ∀ vs H Q E, spOnCell K vs H Q E → vs.length = P_OnCell_init.length := fun vs H Q E h => by
  obtain ⟨G, self, dx, c, z, v, rfl, _⟩ := h; rfl
theorem ok_Write {k : Nat} (T : Txt K mg) (c : Cal P w K mg base k "asked_names" P_asked_names (spAskedNames K)) : CalC P w K mg base (k + 1) (cA K "Write") P_OnCell_init [] (spOnCell K) := CalC.of T.in_Write sc_OnCell_init onCell_len (onCell_body T c)
theorem ok_Wait {k : Nat} (T : Txt K mg) (c : Cal P w K mg base k "asked_names" P_asked_names (spAskedNames K)) : CalC P w K mg base (k + 1) (cA K "Wait") P_OnCell_init [] (spOnCell K) := CalC.of T.in_Wait sc_OnCell_init onCell_len (onCell_body T c)
theorem ok_OnCell {k : Nat} (T : Txt K mg) (c : Cal P w K mg base k "asked_names" P_asked_names (spAskedNames K)) : CalF P w K mg base (k + 1) (cA K "OnCell") "__init__" P_OnCell_init (spOnCell K) := CalF.of T.cf_OnCell sc_OnCell_init onCell_len (onCell_body T c)
theorem ok_Mark {k : Nat} (T : Txt K mg) (c_asked_names : Cal P w K mg base k "asked_names" P_asked_names (spAskedNames K)) : CalC P w K mg base (k + 1) (cA K "Mark") P_Mark_init [] (spMarkInit K) := by
  refine CalC.of T.in_Mark sc_Mark_init (fun vs H Q E h => ?_) (fun f cdv A outer s H vs Q E hr h => ?_)
  · obtain ⟨G, self, dx, z, rfl, _⟩ := h; rfl
  · obtain ⟨G, self, dx, z, rfl, e, m0, hz, k⟩ := h
    refine ⟨_, (pss_cons (ps_expr (pc c_asked_names (hr.mono (by first | decide | omega)) (pa_cons (pe_lst (pa_cons (pv 1) pa_nil)) pa_nil)))
    (pss_one (k_sfld K (pv 0) (pv 1)))), ?_⟩
    refine ⟨_, rfl, zs, fun q nq => ⟨q, [z], rfl, .of upd_same, fun y hy => by rw [List.mem_singleton.mp hy]; exact hz, fun H1 f1 => ?_⟩⟩
    have s1 : Step NoW G H G H1 := ((Fr.new (W := NoW) nq).trans f1).step e
    have M1 := m0.go s1
    refine ⟨_, rfl, _, rfl, self, _, dx, _, rfl, M1.h, T.clS .mark, T.nS_name .mark, by decide, ?_⟩
    generalize e2 : upd H1 self _ = H2
    obtain ⟨S2, M2, _⟩ := (s1.wide (W' := fun a => a = self)).mutE (.inl rfl) M1 e2
    exact k _ S2 M2
theorem ok_If {k : Nat} (T : Txt K mg) (cf_OnCell : CalF P w K mg base k (cA K "OnCell") "__init__" P_OnCell_init (spOnCell K)) : CalC P w K mg base (k + 1) (cA K "If") P_If_init [] (spIfInit K) := by
  refine CalC.of T.in_If sc_If_init (fun vs H Q E h => ?_) (fun f cdv A outer s H vs Q E hr h => ?_)
  · obtain ⟨G, self, dx, z, v, x, y, rfl, _⟩ := h; rfl
  · obtain ⟨G, self, dx, z, v, x, y, rfl, e, m0, hz, hv, k⟩ := h
    refine ⟨_, (pss_cons (ps_expr (pcf cf_OnCell T.g_OnCell (hr.mono (by first | decide | omega)) (pa_cons (pv 0) (pa_cons (pv 1) (pa_cons (pv 2) pa_nil)))))
    (pss_cons (k_sfld K (pv 0) (pv 3))
    (pss_one (k_sfld K (pv 0) (pv 4))))), ?_⟩
    refine ⟨_, rfl, _, rfl, _, rfl, G, self, dx, .ife, z, v, rfl, e, m0, hz, hv, fun H1 S1 M1 => ?_⟩
    refine ⟨_, rfl, _, rfl, self, _, dx, _, rfl, M1.h, T.clS .ife, T.nS_yes .ife, ln (n := 2) (by decide), ?_⟩
    generalize e2 : upd H1 self _ = H2
    obtain ⟨S2, M2, _⟩ := S1.mutE (.inl rfl) M1 e2
    refine ⟨_, rfl, _, rfl, self, _, dx, _, rfl, M2.h, T.clS .ife, T.nS_no .ife, ln (Nat.le_trans (lenPut (n := 2) (Nat.le_refl 2)) (by decide)), ?_⟩
    generalize e3 : upd H2 self _ = H3
    obtain ⟨S3, M3, _⟩ := S2.mutE (.inl rfl) M2 e3
    exact k _ S3 M3
theorem ok_While {k : Nat} (T : Txt K mg) (cf_OnCell : CalF P w K mg base k (cA K "OnCell") "__init__" P_OnCell_init (spOnCell K)) : CalC P w K mg base (k + 1) (cA K "While") P_While_init [] (spWhileInit K) := by
  refine CalC.of T.in_While sc_While_init (fun vs H Q E h => ?_) (fun f cdv A outer s H vs Q E hr h => ?_)
  · obtain ⟨G, self, dx, z, v, x, rfl, _⟩ := h; rfl
  · obtain ⟨G, self, dx, z, v, x, rfl, e, m0, hz, hv, k⟩ := h
    refine ⟨_, (pss_cons (ps_expr (pcf cf_OnCell T.g_OnCell (hr.mono (by first | decide | omega)) (pa_cons (pv 0) (pa_cons (pv 1) (pa_cons (pv 2) pa_nil)))))
    (pss_one (k_sfld K (pv 0) (pv 3)))), ?_⟩
    refine ⟨_, rfl, _, rfl, _, rfl, G, self, dx, .whl, z, v, rfl, e, m0, hz, hv, fun H1 S1 M1 => ?_⟩
    refine ⟨_, rfl, _, rfl, self, _, dx, _, rfl, M1.h, T.clS .whl, T.nS_body .whl, ln (n := 2) (by decide), ?_⟩
    generalize e2 : upd H1 self _ = H2
    obtain ⟨S2, M2, _⟩ := S1.mutE (.inl rfl) M1 e2
    exact k _ S2 M2
theorem ok_Choose {k : Nat} (T : Txt K mg) : CalC P w K mg base (k + 1) (cA K "Choose") P_Choose_init [] (spChooseInit K) := by
  refine CalC.of T.in_Choose sc_Choose_init (fun vs H Q E h => ?_) (fun f cdv A outer s H vs Q E hr h => ?_)
  · obtain ⟨G, self, dx, x, y, rfl, _⟩ := h; rfl
  · obtain ⟨G, self, dx, x, y, rfl, e, m0, k⟩ := h
    refine ⟨_, (pss_cons (k_sfld K (pv 0) (pv 1))
    (pss_one (k_sfld K (pv 0) (pv 2)))), ?_⟩
    refine ⟨_, rfl, _, rfl, self, _, dx, _, rfl, m0.h, T.clS .cho, T.nS_one .cho, by decide, ?_⟩
    generalize e2 : upd H self _ = H2
    obtain ⟨S2, M2, _⟩ := (Step.refl (W := fun a => a = self) e).mutE (.inl rfl) m0 e2
    refine ⟨_, rfl, _, rfl, self, _, dx, _, rfl, M2.h, T.clS .cho, T.nS_other .cho, ln1, ?_⟩
    generalize e3 : upd H2 self _ = H3
    obtain ⟨S3, M3, _⟩ := S2.mutE (.inl rfl) M2 e3
    exact k _ S3 M3
theorem ok_Loop {k : Nat} (T : Txt K mg) : CalC P w K mg base (k + 1) (cA K "Loop") P_Loop_init [] (spLoopInit K) := by
  refine CalC.of T.in_Loop sc_Loop_init (fun vs H Q E h => ?_) (fun f cdv A outer s H vs Q E hr h => ?_)
  · obtain ⟨G, self, dx, x, rfl, _⟩ := h; rfl
  · obtain ⟨G, self, dx, x, rfl, e, m0, k⟩ := h
    refine ⟨_, (pss_one (k_sfld K (pv 0) (pv 1))), ?_⟩
    refine ⟨_, rfl, _, rfl, self, _, dx, _, rfl, m0.h, T.clS .lop, T.nS_body .lop, by decide, ?_⟩
    generalize e2 : upd H self _ = H2
    obtain ⟨S2, M2, _⟩ := (Step.refl (W := fun a => a = self) e).mutE (.inl rfl) m0 e2
    exact k _ S2 M2
end
end K4

set_option maxHeartbeats 4000000
/-! The machine: its places, its looks and steps. -/
namespace K4
open PySem L2
theorem kitAny_S {K : PySem.W.Frag} {mg : Str → Option Value} (T : Txt K mg) (d : Cl) : ∀ cs : List Cl, PySem.W.kitAny K (.ref (cS K d)) (cs.map fun c => .ref (cS K c)) = some (decide (d ∈ cs))
  | [] => rfl
  | c :: cs => by
    have ih := kitAny_S T d cs
    simp only [List.map_cons, PySem.W.kitAny, T.kit d c, ih]
    by_cases h : d = c
    · subst h; simp
    · simp [h]
theorem StmO.ty {K : PySem.W.Frag} {mg : Str → Option Value} (T : Txt K mg) {G H : Hp} {s : Stm} {x : V} (e : Ex G H) (h : StmO K G s x) : TyX K H x (.ref (cS K s.cl)) := by
  obtain ⟨a, dx, ps, rfl, ga, _⟩ := h.view
  have f := T.isF s.cl
  exact .base (.ins (e _ _ ga) (T.clS s.cl) f.ha f.hn f.tk f.ro)
theorem isiS {K : PySem.W.Frag} {mg : Str → Option Value} (T : Txt K mg) {G H : Hp} {s : Stm} {x : V} {Q : VK} (e : Ex G H) (h : StmO K G s x) (c : Cl) (q : Q (.bl (decide (s.cl = c))) H) : rIsi K [x, .ref (cS K c)] H Q :=
  ⟨x, .ref (cS K c), .ref (cS K s.cl), .ref (cS K c), _, rfl, .own _, h.ty T e, T.kit _ _, q⟩
theorem isiST {K : PySem.W.Frag} {mg : Str → Option Value} (T : Txt K mg) {G H : Hp} {s : Stm} {x : V} {Q : VK} {tp : Addr} (e : Ex G H) (h : StmO K G s x) (cs : List Cl) (ht : H tp = some (.tup (cs.map fun c => .ref (cS K c)))) (q : Q (.bl (decide (s.cl ∈ cs))) H) : rIsiT K [x, .ref tp] H Q := by
  refine ⟨x, tp, _, .ref (cS K s.cl), cs.map fun c => .ref (cS K c), _, rfl, ht, ?_, h.ty T e, kitAny_S T _ cs, q⟩
  clear ht q
  induction cs with
  | nil => exact .nil
  | cons c cs ih => exact .cons (.own _) ih
theorem Al.app {β : Type} {E : Hp → β → V → Prop} {G : Hp} : ∀ {l m : List β} {xs ys : List V}, Al E G l xs → Al E G m ys → Al E G (l ++ m) (xs ++ ys)
  | [], m, xs, ys, h, t => by rw [show xs = [] from h]; exact t
  | d :: l, m, xs, ys, h, t => by
    obtain ⟨x, r, rfl, h2, h3⟩ := (show ∃ x r, xs = x :: r ∧ E G d x ∧ Al E G l r from h)
    exact ⟨x, r ++ ys, rfl, h2, h3.app t⟩
theorem Al.one {β : Type} {E : Hp → β → V → Prop} {G : Hp} {d : β} {x : V} (h : E G d x) : Al E G [d] [x] := ⟨x, [], rfl, h, rfl⟩
theorem stmO_mono {K : PySem.W.Frag} : ∀ G G' (s : Stm) v, Ex G G' → StmO K G s v → StmO K G' s v := fun _ _ s _ e h => StmO.mono e s h
/-- the cell and the value that a statement names -/
def Stm.cv : Stm → Option (Str × Str)
  | .wr c v => some (c, v)
  | .wt c v => some (c, v)
  | .ie c v _ _ => some (c, v)
  | .wh c v _ => some (c, v)
  | _ => none
theorem cv_cell {s : Stm} {c v : Str} (ps : List V) (h : s.cv = some (c, v)) : (fsOf s ps).lookup ("cell" : Str) = some (.str c) := by
  cases s <;> simp [Stm.cv] at h <;> (obtain ⟨rfl, rfl⟩ := h; rfl)
theorem cv_value {s : Stm} {c v : Str} (ps : List V) (h : s.cv = some (c, v)) : (fsOf s ps).lookup ("value" : Str) = some (.str v) := by
  cases s <;> simp [Stm.cv] at h <;> (obtain ⟨rfl, rfl⟩ := h; rfl)
/-- the statement names a cell and a value of the plan; its mark is a name -/
structure StmOk (p : Plan) (s : Stm) : Prop where
  cv : ∀ c v, s.cv = some (c, v) → ∃ vs, (c, vs) ∈ p ∧ v ∈ vs
  mark : ∀ m, s = .mk m → NameOk m
def spNumberRow (K : PySem.W.Frag) (d : Nat) : Sp := fun vs H Q _ => ∃ (G : Hp) (self dx pl : Addr) (fs : List (Str × V)) (r : Row) (x : V) (acc : List V), vs = [.ref self, x] ∧ Ex G H ∧ H self = some (.ins (cA K "Machine") dx fs) ∧ self ≠ pl ∧
  fs.lookup ("places" : Str) = some (.ref pl) ∧ fs.lookup ("number_row" : Str) = none ∧ Mi G H pl (.lst acc) ∧ PrgO K G r x ∧ rowDeep r < d ∧ acc.length + rowSize r ≤ 1000 ∧
  ∀ G' H' ys, Step (fun a => a = pl) G H G' H' → Mi G' H' pl (.lst (acc ++ ys)) → Al (StmO K) G' (rowFlat r) ys → Q .non H'
def spBeginOf (K : PySem.W.Frag) : Sp := fun vs H Q _ => ∃ (G : Hp) (m x : V) (r : Row) (i j : Int), vs = [m, x, .int i, .int j] ∧ Ex G H ∧ PrgO K G r x ∧ ∀ k : Int, Q (.int k) H
def spLooks (K : PySem.W.Frag) : Sp := fun vs H Q _ => ∃ (G : Hp) (b : Addr) (p : Plan) (s : Stm) (x : V) (i j : Int) (cv : Str × Str), vs = [.ref b, x, .int i, .int j] ∧ Ex G H ∧ BdO K G b p ∧ PlanOk p ∧ StmO K G s x ∧ s.cv = some cv ∧ StmOk p s ∧
  ∀ G' H' l, Step NoW G H G' H' → Q (.ref l) H'
def spStepsOf (K : PySem.W.Frag) : Sp := fun vs H Q _ => ∃ (G : Hp) (self dx b bg : Addr) (fs : List (Str × V)) (p : Plan) (s : Stm) (x : V) (is : List Int) (j : Int), vs = [.ref self, x, .ref bg, .int j] ∧ Ex G H ∧ H self = some (.ins (cA K "Machine") dx fs) ∧
  fs.lookup ("plan" : Str) = some (.ref b) ∧ BdO K G b p ∧ PlanOk p ∧ StmO K G s x ∧ StmOk p s ∧ G bg = some (.lst (is.map V.int)) ∧ is.length = s.parts.length ∧ ∀ G' H' l, Step NoW G H G' H' → Q (.ref l) H'
section
variable {P : Program} {w : World} {K : PySem.W.Frag} {mg : Str → Option Value} {base : Heap}
theorem ok_number_row {k d : Nat} (T : Txt K mg) (hk : 1 ≤ k) (c_Machine_number_row : CalM P w K mg base k (cA K "Machine") "number_row" P_Machine_number_row (spNumberRow K d)) : CalM P w K mg base (k + 1) (cA K "Machine") "number_row" P_Machine_number_row (spNumberRow K (d + 1)) := by
  have c_St_parts : ∀ C, FamS K C → CalM P w K mg base k C "parts" ["self"] (spParts K C) := by
    rintro C ⟨c, rfl⟩
    exact (ok_parts T c).up hk
  refine CalM.of T.mt_Machine_number_row sc_Machine_number_row (fun vs H Q E h => ?_) (fun f cdv A outer s H vs Q E hr h => ?_)
  · obtain ⟨_, _, _, _, _, _, _, _, rfl, _⟩ := h; rfl
  · obtain ⟨G, self, dx, pl, fs, r, x, acc, rfl, e, hself, nsp, hpl, hnr, m0, hs, hd, hz, k⟩ := h
    obtain ⟨a, dxa, t, xs, rfl, ga, gt, al⟩ := hs.view
    have lx := al.len
    have lz := len_le_size r
    refine ⟨_, (pss_one (ps_for PassesOwn.never rfl (k_tup K (k_fld K (pv 1))) (pg_name (i := 2) sc_Machine_number_row.nd rfl (Or.inl rfl))
      (pss_cons (ps_expr (k_bm K PySem.F.plainAttrs_list PySem.F.slot_list_append PySem.F.type_list_append mt_append (k_fld K (pv 0)) (pa_cons (pv 2) pa_nil)))
      (pss_one (ps_for PassesOwn.never rfl (k_list K (cmV0 c_St_parts (hr.mono (by first | decide | omega)) (pv 2))) (pg_name (i := 3) sc_Machine_number_row.nd rfl (Or.inl rfl))
        (pss_one (ps_expr (cm c_Machine_number_row (hr.mono (by first | decide | omega)) (pv 0) (pa_cons (pv 3) pa_nil))))))))), ?_⟩
    refine ⟨_, rfl, a, _, dxa, _, _, rfl, e _ _ ga, T.cl_Program, T.n_Program_row, rfl, t, rfl, ⟨_, sqT gt e⟩, ?_⟩
    refine for_tup (xs := xs) (fun i σ H1 => ∃ G1 ys, Step (fun a => a = pl) G H G1 H1 ∧ Mi G1 H1 pl (.lst (acc ++ ys)) ∧ Al (StmO K) G1 (rowFlat (r.take i)) ys ∧ ∃ x y, σ = [some (.ref self), some (.ref a), x, y])
      ⟨G, [], Step.refl e, by rw [List.append_nil]; exact m0, rfl, _, _, rfl⟩ (fun i σ H1 _ ⟨G1, ys, s1, _⟩ => sqT gt (s1.eg.trans s1.gh)) ?_ ?_
    · rintro i x σ H1 ex ⟨G1, ys, s1, M1, al1, y, z, rfl⟩
      obtain ⟨p, hp, op⟩ := al.get ex
      have op1 := op.mono s1.eg
      have hi := lt_of_some hp
      have ly := al1.len
      rw [rowFlat_len] at ly
      have ztake : rowSize (r.take i) + p.size ≤ rowSize r := by
        have h1 : rowSize (r.take (i + 1)) = rowSize (r.take i) + p.size := by rw [take_snoc hp, rowSize_app]; simp [rowSize]
        have h2 : rowSize r = rowSize (r.take (i + 1)) + rowSize (r.drop (i + 1)) := by rw [← rowSize_app, List.take_append_drop]
        omega
      have hself1 := s1.held hself nsp
      have sp := size_parts p
      refine ⟨_, rfl, self, _, dx, _, _, rfl, hself1, T.cl_Machine, T.n_Machine_places, hpl, .inl ⟨rfl, _, .of M1.h⟩, _, rfl, pl, _, _, rfl, rfl, M1.h, zl' (by rw [List.length_append]; omega), ?_⟩
      generalize e2 : upd H1 pl _ = H2
      obtain ⟨S2, M2, _⟩ := s1.mutE (.inl rfl) M1 e2
      obtain ⟨b, dxb, ps, rfl, gb, _⟩ := op1.view
      refine ⟨_, rfl, b, _, dxb, _, rfl, S2.gh _ _ gb, ⟨_, rfl⟩, fs_no_parts p ps, G1, p, _, rfl, S2.gh, op1, rfl, fun G3 H3 l ws s3 gl al3 => ?_⟩
      have S3 := S2.trans s3
      have M3 := M2.go s3
      have lw := al3.len
      refine ⟨l, rfl, ⟨_, sqL gl s3.gh⟩, ?_⟩
      refine for_list (xs := ws) (fun j σ H4 => ∃ G4 us, Step (fun a => a = pl) G H G4 H4 ∧ Ex G3 G4 ∧ Mi G4 H4 pl (.lst (acc ++ us)) ∧ Al (StmO K) G4 (rowFlat (r.take i) ++ (p :: ((p.parts.take j).map rowFlat).flatten)) us ∧ ∃ x y, σ = [some (.ref self), some (.ref a), x, y])
        ⟨G3, ys ++ [V.ref b], S3, Ex.rfl' _, by rw [← List.append_assoc]; exact M3, (al1.up stmO_mono s3.eg).app (Al.one (op1.mono s3.eg)), _, _, rfl⟩ (fun j σ H4 _ ⟨G4, us, s4, e4, _⟩ => sqL (e4 _ _ gl) s4.gh) ?_ ?_
      · rintro j x σ H4 ex4 ⟨G4, us, s4, e4, M4, al4, y4, z4, rfl⟩
        obtain ⟨u, hu, ou⟩ := al3.get ex4
        have d4 := part_deep (mem_of hu)
        have dd := mem_deep (mem_of hp)
        have lu := al4.len
        have lj : ((p.parts.take j).map rowFlat).flatten.length + rowSize u ≤ p.partsSize := by
          have h1 : ∀ l : List Row, ((l.map rowFlat).flatten).length = (l.map rowSize).sum := by
            intro l
            induction l with
            | nil => rfl
            | cons a l ih => simp only [List.map_cons, List.flatten_cons, List.length_append, ih, rowFlat_len, List.sum_cons]
          rw [h1]
          unfold Stm.partsSize
          have h2 : p.parts = p.parts.take j ++ u :: p.parts.drop (j + 1) := by
            conv => lhs; rw [← List.take_append_drop (j + 1) p.parts, take_snoc hu, List.append_assoc]
            rfl
          conv => rhs; rw [h2]
          rw [List.map_append, List.sum_append, List.map_cons, List.sum_cons]
          omega
        rw [List.length_append, List.length_cons, rowFlat_len] at lu
        refine ⟨_, rfl, self, dx, _, rfl, s4.held hself nsp, hnr, _, rfl, G4, self, dx, pl, fs, u, x, acc ++ us, rfl, s4.gh, s4.held hself nsp, nsp, hpl, hnr, M4, ou.up e4, by omega, by rw [List.length_append]; omega, fun G5 H5 vs s5 M5 al5 => ?_⟩
        refine ⟨G5, us ++ vs, s4.trans s5, e4.trans s5.eg, by rw [← List.append_assoc]; exact M5, ?_, _, _, rfl⟩
        rw [take_snoc hu, List.map_append, List.flatten_append, ← List.cons_append, ← List.append_assoc]
        have : ([u].map rowFlat).flatten = rowFlat u := by simp
        rw [this]
        exact (al4.up stmO_mono s5.eg).app al5
      · rintro σ H4 ⟨G4, us, s4, e4, M4, al4, y4, z4, rfl⟩
        refine ⟨G4, us, s4, M4, ?_, _, _, rfl⟩
        rw [lw, List.take_length, ← flat_parts] at al4
        rw [take_snoc hp, rowFlat_app]
        have : rowFlat [p] = p.flat := by simp [rowFlat]
        rw [this]
        exact al4
    · rintro σ H1 ⟨G1, ys, s1, M1, al1, y, z, rfl⟩
      rw [lx, List.take_length] at al1
      exact k G1 H1 ys s1 M1 al1
theorem ok_begin_of (T : Txt K mg) : CalM P w K mg base 1 (cA K "Machine") "begin_of" P_Machine_begin_of (spBeginOf K) := by
  refine CalM.of T.mt_Machine_begin_of sc_Machine_begin_of (fun vs H Q E h => ?_) (fun f cdv A outer s H vs Q E hr h => ?_)
  · obtain ⟨_, _, _, _, _, _, rfl, _⟩ := h; rfl
  · obtain ⟨G, m, x, r, i, j, rfl, e, hp, k⟩ := h
    obtain ⟨a, dx, t, xs, rfl, ga, gt, al⟩ := hp.view
    refine ⟨_, (pss_cons (ps_if (pt_cmpR op_eq (pe_callB (k_lenS K) (by rfl) T.f_len (by decide +kernel) (pa_cons (k_fld K (pv 1)) pa_nil)) pe_int (by first | exact nomark _ | rfl))
      (pss_one (ps_ret (pv 3)))
      pss_nil)
    (pss_one (ps_ret (pv 2)))), ?_⟩
    exact ⟨_, rfl, a, _, dx, _, _, rfl, e _ _ ga, T.cl_Program, T.n_Program_row, rfl, t, _, rfl, .inr (sqT gt e), rfl, _, rfl, if2 (fun _ => ⟨_, rfl, k _⟩) (fun _ => ⟨_, rfl, k _⟩)⟩
end
end K4

set_option maxHeartbeats 4000000
/-! The machine: its steps laid. -/
namespace K4
open PySem L2
section
variable {P : Program} {w : World} {K : PySem.W.Frag} {mg : Str → Option Value} {base : Heap}
theorem ok_looks {k : Nat} (T : Txt K mg) (c_Board_others : CalM P w K mg base k (cA K "Board") "others" P_Board_others (spOthers K)) : Cal P w K mg base (k + 1) "looks" P_looks (spLooks K) := by
  refine Cal.of T.fn_looks sc_looks (fun vs H Q E h => ?_) (fun f cdv A outer s H vs Q E hr h => ?_)
  · obtain ⟨_, _, _, _, _, _, _, _, rfl, _⟩ := h; rfl
  · obtain ⟨G, b, p, s, x, i, j, ⟨c, v⟩, rfl, e, hb, okp, hs, hcv, oks, k⟩ := h
    obtain ⟨a, dx, ps, rfl, ga, _⟩ := hs.view
    obtain ⟨vl, hvl, hv⟩ := oks.cv c v hcv
    obtain ⟨dxb, np, rp, rows, h1, h2, h3, h4⟩ := hb.ex
    have lc := cv_cell ps hcv
    have lv := cv_value ps hcv
    refine ⟨_, (pss_cons (ps_set (i := 4) sc_looks.nd rfl (Or.inl rfl) (pe_lst (pa_cons (pe_tup (pa_cons (pe_tup (pa_cons pe_str (pa_cons (k_fld K (pv 1)) (pa_cons (k_fld K (pv 1)) pa_nil)))) (pa_cons (pv 2) pa_nil))) pa_nil)))
    (pss_cons (ps_for PassesOwn.never rfl (k_list K (cm c_Board_others (hr.mono (by first | decide | omega)) (pv 0) (pa_cons (k_fld K (pv 1)) (pa_cons (k_fld K (pv 1)) pa_nil)))) (pg_name (i := 5) sc_looks.nd rfl (Or.inl rfl))
      (pss_one (ps_expr (k_bm K PySem.F.plainAttrs_list PySem.F.slot_list_append PySem.F.type_list_append mt_append (pv 4) (pa_cons (pe_tup (pa_cons (pe_tup (pa_cons pe_str (pa_cons (k_fld K (pv 1)) (pa_cons (pv 5) pa_nil)))) (pa_cons (pv 3) pa_nil))) pa_nil)))))
    (pss_one (ps_ret (pv 4))))), ?_⟩
    refine seqSet ⟨_, rfl, a, _, dx, _, _, rfl, e _ _ ga, T.clS s.cl, T.nS_cell s.cl, lc, _, rfl, a, _, dx, _, _, rfl, e _ _ ga, T.clS s.cl, T.nS_value s.cl, lv, zs, fun t1 n1 => ⟨_, rfl, zs, fun t2 n2 => ⟨zs, fun l nl => ?_⟩⟩⟩
    generalize e1 : upd H t1 _ = H1 at nl n2 ⊢
    generalize e2 : upd H1 t2 _ = H2 at nl ⊢
    generalize e3 : upd H2 l _ = H3
    obtain ⟨S1, _, _⟩ := (Step.refl (W := NoW) e).newME n1 e1
    obtain ⟨S2, _, _⟩ := S1.newME n2 e2
    obtain ⟨S3, _, M3⟩ := S2.newME nl e3
    have nlH : H l = none := S2.dm _ nl
    have f3 := fun (z : HO) (h : G a = some z) => S3.gh _ _ h
    refine ⟨_, rfl, b, dxb, _, rfl, S3.gh _ _ h1, rfl, _, rfl, a, _, dx, _, _, rfl, S3.gh _ _ ga, T.clS s.cl, T.nS_cell s.cl, lc, _, rfl, a, _, dx, _, _, rfl, S3.gh _ _ ga, T.clS s.cl, T.nS_value s.cl, lv, G, b, p, (c, vl), v, rfl, S3.gh, hb, hvl, (okp.vl _ hvl).2.1, fun G4 H4 m xs s4 g4 l4 => ?_⟩
    refine ⟨m, rfl, ⟨_, sqL g4 s4.gh⟩, ?_⟩
    have S4 := S3.trans s4
    have M4 := M3.go s4
    refine for_list (xs := xs) (fun n σ H5 => ∃ acc, Step NoW G H G4 H5 ∧ Mi G4 H5 l (.lst acc) ∧ acc.length ≤ 1 + n ∧ ∃ y, σ = [some (.ref b), some (.ref a), some (.int i), some (.int j), some (.ref l), y])
      ⟨_, S4, M4, by simp, _, rfl⟩ (fun n σ H5 _ ⟨acc, s5, _⟩ => sqL g4 s5.gh) ?_ ?_
    · rintro n x σ H5 ex ⟨acc, s5, M5, la, y, rfl⟩
      have hn := lt_of_some ex
      refine ⟨_, rfl, .inl ⟨rfl, _, .of M5.h⟩, _, rfl, a, _, dx, _, _, rfl, s5.gh _ _ (s5.eg _ _ ga), T.clS s.cl, T.nS_cell s.cl, lc, _, rfl, zs, fun t1 n1 => ⟨_, rfl, zs, fun t2 n2 => ?_⟩⟩
      generalize e6 : upd H5 t1 _ = H6 at n2 ⊢
      generalize e7 : upd H6 t2 _ = H7
      obtain ⟨S6, s6, _⟩ := s5.newME n1 e6
      obtain ⟨S7, s7, _⟩ := S6.newME n2 e7
      have M7 := (M5.go s6).go s7
      refine ⟨l, _, _, rfl, rfl, M7.h, zl' (by omega), ?_⟩
      generalize e8 : upd H7 l _ = H8
      obtain ⟨S8, M8, _⟩ := S7.mutE (.inr nlH) M7 e8
      exact ⟨_, S8, M8, by rw [List.length_append]; simp; omega, _, rfl⟩
    · rintro σ H5 ⟨acc, s5, M5, la, y, rfl⟩
      exact ⟨_, rfl, k _ _ l s5⟩
theorem ok_steps_of {k : Nat} (T : Txt K mg) (c_looks : Cal P w K mg base k "looks" P_looks (spLooks K)) : CalM P w K mg base (k + 1) (cA K "Machine") "steps_of" P_Machine_steps_of (spStepsOf K) := by
  refine CalM.of T.mt_Machine_steps_of sc_Machine_steps_of (fun vs H Q E h => ?_) (fun f cdv A outer s H vs Q E hr h => ?_)
  · obtain ⟨_, _, _, _, _, _, _, _, _, _, _, rfl, _⟩ := h; rfl
  · obtain ⟨G, self, dx, b, bg, fs, p, s, x, is, j, rfl, e, hself, hplan, hb, okp, hs, oks, hbg, lis, k⟩ := h
    refine ⟨_, (pss_cons (ps_if (pt_val (pe_callB (k_isi K) (by rfl) T.f_isinstance (by decide +kernel) (pa_cons (pv 1) (pa_cons (pk_ref T.g_Write) pa_nil))))
      (pss_one (ps_ret (pe_lst (pa_cons (pe_tup (pa_cons (pe_tup (pa_cons pe_str (pa_cons (k_fld K (pv 1)) (pa_cons (k_fld K (pv 1)) pa_nil)))) (pa_cons (pv 3) pa_nil))) pa_nil))))
      pss_nil)
    (pss_cons (ps_if (pt_val (pe_callB (k_isi K) (by rfl) T.f_isinstance (by decide +kernel) (pa_cons (pv 1) (pa_cons (pk_ref T.g_Wait) pa_nil))))
      (pss_one (ps_ret (pe_lst (pa_cons (pe_tup (pa_cons (pe_tup (pa_cons pe_str (pa_cons (k_fld K (pv 1)) (pa_cons (k_fld K (pv 1)) pa_nil)))) (pa_cons (pv 3) pa_nil))) pa_nil))))
      pss_nil)
    (pss_cons (ps_if (pt_val (pe_callB (k_isiT K) (by rfl) T.f_isinstance (by decide +kernel) (pa_cons (pv 1) (pa_cons (pe_tup (pa_cons (pk_ref T.g_Mark) (pa_cons (pk_ref T.g_Skip) pa_nil))) pa_nil))))
      (pss_one (ps_ret (pe_lst (pa_cons (pe_tup (pa_cons (pk_ref T.k_GO) (pa_cons (pv 3) pa_nil))) pa_nil))))
      pss_nil)
    (pss_cons (ps_if (pt_val (pe_callB (k_isi K) (by rfl) T.f_isinstance (by decide +kernel) (pa_cons (pv 1) (pa_cons (pk_ref T.g_Stop) pa_nil))))
      (pss_one (ps_ret (pe_lst pa_nil)))
      pss_nil)
    (pss_cons (ps_if (pt_val (pe_callB (k_isi K) (by rfl) T.f_isinstance (by decide +kernel) (pa_cons (pv 1) (pa_cons (pk_ref T.g_If) pa_nil))))
      (pss_one (ps_ret (pc c_looks (hr.mono (by first | decide | omega)) (pa_cons (k_fld K (pv 0)) (pa_cons (pv 1) (pa_cons (pe_ix (k_ixL K) (pv 2) pe_int (fun _ _ => rfl)) (pa_cons (pe_ix (k_ixL K) (pv 2) pe_int (fun _ _ => rfl)) pa_nil)))))))
      pss_nil)
    (pss_cons (ps_if (pt_val (pe_callB (k_isi K) (by rfl) T.f_isinstance (by decide +kernel) (pa_cons (pv 1) (pa_cons (pk_ref T.g_While) pa_nil))))
      (pss_one (ps_ret (pc c_looks (hr.mono (by first | decide | omega)) (pa_cons (k_fld K (pv 0)) (pa_cons (pv 1) (pa_cons (pe_ix (k_ixL K) (pv 2) pe_int (fun _ _ => rfl)) (pa_cons (pv 3) pa_nil)))))))
      pss_nil)
    (pss_one (ps_ret (pe_lc (own := [("begin", 4)]) (by rfl) sc_Machine_steps_of.nd (k_list K (pv 2)) (blkOk_by (own := [("begin", 4)]) (N := N_Machine_steps_of) (by kernel_rfl)) (fun _ _ _ _ _ => (pg_name (i := 4) sc_Machine_steps_of.nd rfl (Or.inl rfl))) (fun _ _ _ _ _ => pts_nil) (fun _ _ _ _ _ => (pe_tup (pa_cons (pk_ref T.k_GO) (pa_cons (pv 4) pa_nil))))))))))))), ?_⟩
    have hv := hs.view
    cases s with
    | wr c v =>
      obtain ⟨a, dx', ps, rfl, ga, al⟩ := hv
      refine ⟨_, rfl, _, _, _, _, _, rfl, .own _, hs.ty T e, T.kit _ .write, _, rfl, ifT rfl ?_⟩
      refine ⟨_, rfl, a, _, dx', _, _, rfl, e _ _ ga, T.clS .write, T.nS_cell .write, rfl, _, rfl, a, _, dx', _, _, rfl, e _ _ ga, T.clS .write, T.nS_value .write, rfl, zs, fun t1 n1 => ⟨_, rfl, zs, fun t2 n2 => ⟨zs, fun l nl => ?_⟩⟩⟩
      exact k _ _ l ((((Step.refl e).newM n1).newM n2).newM nl)
    | wt c v =>
      obtain ⟨a, dx', ps, rfl, ga, al⟩ := hv
      refine ⟨_, rfl, _, _, _, _, _, rfl, .own _, hs.ty T e, T.kit _ .write, _, rfl, ifF rfl ?_⟩
      refine ⟨_, rfl, _, _, _, _, _, rfl, .own _, hs.ty T e, T.kit _ .wait, _, rfl, ifT rfl ?_⟩
      refine ⟨_, rfl, a, _, dx', _, _, rfl, e _ _ ga, T.clS .wait, T.nS_cell .wait, rfl, _, rfl, a, _, dx', _, _, rfl, e _ _ ga, T.clS .wait, T.nS_value .wait, rfl, zs, fun t1 n1 => ⟨_, rfl, zs, fun t2 n2 => ⟨zs, fun l nl => ?_⟩⟩⟩
      exact k _ _ l ((((Step.refl e).newM n1).newM n2).newM nl)
    | mk m =>
      obtain ⟨a, dx', ps, rfl, ga, al⟩ := hv
      refine ⟨_, rfl, _, _, _, _, _, rfl, .own _, hs.ty T e, T.kit _ .write, _, rfl, ifF rfl ?_⟩
      refine ⟨_, rfl, _, _, _, _, _, rfl, .own _, hs.ty T e, T.kit _ .wait, _, rfl, ifF rfl ?_⟩
      refine ⟨_, rfl, zs, fun tp ntp => ⟨_, tp, _, _, _, _, rfl, upd_same, .cons (.own _) (.cons (.own _) .nil), hs.ty T (e.wid ntp), kitAny_S T _ [.mark, .skip], _, rfl, ifT rfl ?_⟩⟩
      generalize e1 : upd H tp _ = H1
      obtain ⟨S1, s1, _⟩ := (Step.refl (W := NoW) e).newME ntp e1
      refine ⟨_, rfl, zs, fun t n => ⟨zs, fun l nl => ?_⟩⟩
      exact k _ _ l ((S1.newM n).newM nl)
    | sk =>
      obtain ⟨a, dx', ps, rfl, ga, al⟩ := hv
      refine ⟨_, rfl, _, _, _, _, _, rfl, .own _, hs.ty T e, T.kit _ .write, _, rfl, ifF rfl ?_⟩
      refine ⟨_, rfl, _, _, _, _, _, rfl, .own _, hs.ty T e, T.kit _ .wait, _, rfl, ifF rfl ?_⟩
      refine ⟨_, rfl, zs, fun tp ntp => ⟨_, tp, _, _, _, _, rfl, upd_same, .cons (.own _) (.cons (.own _) .nil), hs.ty T (e.wid ntp), kitAny_S T _ [.mark, .skip], _, rfl, ifT rfl ?_⟩⟩
      generalize e1 : upd H tp _ = H1
      obtain ⟨S1, s1, _⟩ := (Step.refl (W := NoW) e).newME ntp e1
      refine ⟨_, rfl, zs, fun t n => ⟨zs, fun l nl => ?_⟩⟩
      exact k _ _ l ((S1.newM n).newM nl)
    | st =>
      obtain ⟨a, dx', ps, rfl, ga, al⟩ := hv
      refine ⟨_, rfl, _, _, _, _, _, rfl, .own _, hs.ty T e, T.kit _ .write, _, rfl, ifF rfl ?_⟩
      refine ⟨_, rfl, _, _, _, _, _, rfl, .own _, hs.ty T e, T.kit _ .wait, _, rfl, ifF rfl ?_⟩
      refine ⟨_, rfl, zs, fun tp ntp => ⟨_, tp, _, _, _, _, rfl, upd_same, .cons (.own _) (.cons (.own _) .nil), hs.ty T (e.wid ntp), kitAny_S T _ [.mark, .skip], _, rfl, ifF rfl ?_⟩⟩
      generalize e1 : upd H tp _ = H1
      obtain ⟨S1, s1, _⟩ := (Step.refl (W := NoW) e).newME ntp e1
      refine ⟨_, rfl, _, _, _, _, _, rfl, .own _, hs.ty T S1.gh, T.kit _ .stop, _, rfl, ifT rfl ?_⟩
      refine ⟨zs, fun l nl => ?_⟩
      exact k _ _ l (S1.newM nl)
    | ie c v y n =>
      obtain ⟨a, dx', ps, rfl, ga, al⟩ := hv
      refine ⟨_, rfl, _, _, _, _, _, rfl, .own _, hs.ty T e, T.kit _ .write, _, rfl, ifF rfl ?_⟩
      refine ⟨_, rfl, _, _, _, _, _, rfl, .own _, hs.ty T e, T.kit _ .wait, _, rfl, ifF rfl ?_⟩
      refine ⟨_, rfl, zs, fun tp ntp => ⟨_, tp, _, _, _, _, rfl, upd_same, .cons (.own _) (.cons (.own _) .nil), hs.ty T (e.wid ntp), kitAny_S T _ [.mark, .skip], _, rfl, ifF rfl ?_⟩⟩
      generalize e1 : upd H tp _ = H1
      obtain ⟨S1, s1, _⟩ := (Step.refl (W := NoW) e).newME ntp e1
      refine ⟨_, rfl, _, _, _, _, _, rfl, .own _, hs.ty T S1.gh, T.kit _ .stop, _, rfl, ifF rfl ?_⟩
      refine ⟨_, rfl, _, _, _, _, _, rfl, .own _, hs.ty T S1.gh, T.kit _ .ife, _, rfl, ifT rfl ?_⟩
      have l2 : is.length = 2 := lis
      obtain ⟨i0, i1, rfl⟩ : ∃ i0 i1, is = [i0, i1] := by
        match is, l2 with
        | [i0, i1], _ => exact ⟨i0, i1, rfl⟩
      refine ⟨_, rfl, self, _, dx, _, _, rfl, s1.toFr.same _ _ hself, T.cl_Machine, T.n_Machine_plan, hplan, _, rfl, _, rfl, bg, _, 0, _, rfl, rfl, sqL hbg S1.gh, at_nat (i := 0) rfl, _, rfl, bg, _, 1, _, rfl, rfl, sqL hbg S1.gh, at_nat (i := 1) rfl, G, b, p, .ie c v y n, _, i0, i1, (c, v), rfl, S1.gh, hb, okp, hs, rfl, oks, fun G2 H2 l s2 => ?_⟩
      exact k _ _ l (S1.trans s2)
    | wh c v y =>
      obtain ⟨a, dx', ps, rfl, ga, al⟩ := hv
      refine ⟨_, rfl, _, _, _, _, _, rfl, .own _, hs.ty T e, T.kit _ .write, _, rfl, ifF rfl ?_⟩
      refine ⟨_, rfl, _, _, _, _, _, rfl, .own _, hs.ty T e, T.kit _ .wait, _, rfl, ifF rfl ?_⟩
      refine ⟨_, rfl, zs, fun tp ntp => ⟨_, tp, _, _, _, _, rfl, upd_same, .cons (.own _) (.cons (.own _) .nil), hs.ty T (e.wid ntp), kitAny_S T _ [.mark, .skip], _, rfl, ifF rfl ?_⟩⟩
      generalize e1 : upd H tp _ = H1
      obtain ⟨S1, s1, _⟩ := (Step.refl (W := NoW) e).newME ntp e1
      refine ⟨_, rfl, _, _, _, _, _, rfl, .own _, hs.ty T S1.gh, T.kit _ .stop, _, rfl, ifF rfl ?_⟩
      refine ⟨_, rfl, _, _, _, _, _, rfl, .own _, hs.ty T S1.gh, T.kit _ .ife, _, rfl, ifF rfl ?_⟩
      refine ⟨_, rfl, _, _, _, _, _, rfl, .own _, hs.ty T S1.gh, T.kit _ .whl, _, rfl, ifT rfl ?_⟩
      have l2 : is.length = 1 := lis
      obtain ⟨i0, rfl⟩ : ∃ i0, is = [i0] := by
        match is, l2 with
        | [i0], _ => exact ⟨i0, rfl⟩
      refine ⟨_, rfl, self, _, dx, _, _, rfl, s1.toFr.same _ _ hself, T.cl_Machine, T.n_Machine_plan, hplan, _, rfl, _, rfl, bg, _, 0, _, rfl, rfl, sqL hbg S1.gh, at_nat (i := 0) rfl, _, rfl, G, b, p, .wh c v y, _, i0, j, (c, v), rfl, S1.gh, hb, okp, hs, rfl, oks, fun G2 H2 l s2 => ?_⟩
      exact k _ _ l (S1.trans s2)
    | ch y n =>
      obtain ⟨a, dx', ps, rfl, ga, al⟩ := hv
      refine ⟨_, rfl, _, _, _, _, _, rfl, .own _, hs.ty T e, T.kit _ .write, _, rfl, ifF rfl ?_⟩
      refine ⟨_, rfl, _, _, _, _, _, rfl, .own _, hs.ty T e, T.kit _ .wait, _, rfl, ifF rfl ?_⟩
      refine ⟨_, rfl, zs, fun tp ntp => ⟨_, tp, _, _, _, _, rfl, upd_same, .cons (.own _) (.cons (.own _) .nil), hs.ty T (e.wid ntp), kitAny_S T _ [.mark, .skip], _, rfl, ifF rfl ?_⟩⟩
      generalize e1 : upd H tp _ = H1
      obtain ⟨S1, s1, _⟩ := (Step.refl (W := NoW) e).newME ntp e1
      refine ⟨_, rfl, _, _, _, _, _, rfl, .own _, hs.ty T S1.gh, T.kit _ .stop, _, rfl, ifF rfl ?_⟩
      refine ⟨_, rfl, _, _, _, _, _, rfl, .own _, hs.ty T S1.gh, T.kit _ .ife, _, rfl, ifF rfl ?_⟩
      refine ⟨_, rfl, _, _, _, _, _, rfl, .own _, hs.ty T S1.gh, T.kit _ .whl, _, rfl, ifF rfl ?_⟩
      refine ⟨_, rfl, bg, rfl, ⟨_, sqL hbg S1.gh⟩, fun L nL => ?_⟩
      refine lcC (walk_list (xs := is.map V.int)) (by rw [List.length_map, lis]; simp [Stm.parts]) S1.gh nL (fun H2 e2 => sqL hbg (S1.gh.trans e2)) (fun _ _ _ => True) trivial ?_ ?_
      · rintro i x G2 H2 H2' acc K1 K0 hi s2 r ⟨rfl, ex⟩ k1 k0
        exact ⟨rfl, _, rfl, zs, fun t nt => k1 _ _ _ ((Step.refl s2.gh).newM nt) trivial⟩
      · rintro G2 H2 ys s2 hL gL _ _
        exact k _ _ L (S1.trans s2)
    | lo y =>
      obtain ⟨a, dx', ps, rfl, ga, al⟩ := hv
      refine ⟨_, rfl, _, _, _, _, _, rfl, .own _, hs.ty T e, T.kit _ .write, _, rfl, ifF rfl ?_⟩
      refine ⟨_, rfl, _, _, _, _, _, rfl, .own _, hs.ty T e, T.kit _ .wait, _, rfl, ifF rfl ?_⟩
      refine ⟨_, rfl, zs, fun tp ntp => ⟨_, tp, _, _, _, _, rfl, upd_same, .cons (.own _) (.cons (.own _) .nil), hs.ty T (e.wid ntp), kitAny_S T _ [.mark, .skip], _, rfl, ifF rfl ?_⟩⟩
      generalize e1 : upd H tp _ = H1
      obtain ⟨S1, s1, _⟩ := (Step.refl (W := NoW) e).newME ntp e1
      refine ⟨_, rfl, _, _, _, _, _, rfl, .own _, hs.ty T S1.gh, T.kit _ .stop, _, rfl, ifF rfl ?_⟩
      refine ⟨_, rfl, _, _, _, _, _, rfl, .own _, hs.ty T S1.gh, T.kit _ .ife, _, rfl, ifF rfl ?_⟩
      refine ⟨_, rfl, _, _, _, _, _, rfl, .own _, hs.ty T S1.gh, T.kit _ .whl, _, rfl, ifF rfl ?_⟩
      refine ⟨_, rfl, bg, rfl, ⟨_, sqL hbg S1.gh⟩, fun L nL => ?_⟩
      refine lcC (walk_list (xs := is.map V.int)) (by rw [List.length_map, lis]; simp [Stm.parts]) S1.gh nL (fun H2 e2 => sqL hbg (S1.gh.trans e2)) (fun _ _ _ => True) trivial ?_ ?_
      · rintro i x G2 H2 H2' acc K1 K0 hi s2 r ⟨rfl, ex⟩ k1 k0
        exact ⟨rfl, _, rfl, zs, fun t nt => k1 _ _ _ ((Step.refl s2.gh).newM nt) trivial⟩
      · rintro G2 H2 ys s2 hL gL _ _
        exact k _ _ L (S1.trans s2)
end
end K4

set_option maxHeartbeats 4000000
/-! The machine laid. -/
namespace K4
open PySem L2
def mfs (b : Addr) (pr : V) (pl ex : Addr) : List (Str × V) := [("plan", .ref b), ("text", pr), ("places", .ref pl), ("exits", .ref ex)]
def spLay (K : PySem.W.Frag) (d : Nat) : Sp := fun vs H Q _ => ∃ (G : Hp) (self dx b pl ex : Addr) (pr : V) (p : Plan) (s : Stm) (x : V) (at_ : Nat) (j : Int) (es : List V), vs = [.ref self, x, .int at_, .int j] ∧ Ex G H ∧
  H self = some (.ins (cA K "Machine") dx (mfs b pr pl ex)) ∧ self ≠ ex ∧ BdO K G b p ∧ PlanOk p ∧ StmO K G s x ∧ (∀ t ∈ s.flat, StmOk p t) ∧ s.deep ≤ d ∧ s.deep ≤ 5 ∧ Mi G H ex (.lst es) ∧ at_ + s.size ≤ es.length ∧ es.length ≤ 1000 ∧
  ∀ G' H' es', Step (fun a => a = ex) G H G' H' → Mi G' H' ex (.lst es') → es'.length = es.length → Q .non H'
def spLayRow (K : PySem.W.Frag) (d : Nat) : Sp := fun vs H Q _ => ∃ (G : Hp) (self dx b pl ex : Addr) (pr : V) (p : Plan) (r : Row) (x : V) (at_ : Nat) (j : Int) (es : List V), vs = [.ref self, x, .int at_, .int j] ∧ Ex G H ∧
  H self = some (.ins (cA K "Machine") dx (mfs b pr pl ex)) ∧ self ≠ ex ∧ BdO K G b p ∧ PlanOk p ∧ PrgO K G r x ∧ (∀ t ∈ rowFlat r, StmOk p t) ∧ rowDeep r < d ∧ rowDeep r ≤ 5 ∧ Mi G H ex (.lst es) ∧ at_ + rowSize r ≤ es.length ∧ es.length ≤ 1000 ∧
  ∀ G' H' es', Step (fun a => a = ex) G H G' H' → Mi G' H' ex (.lst es') → es'.length = es.length → Q .non H'
theorem mem_flat {t : Stm} : ∀ {r : Row} {s : Stm}, s ∈ r → t ∈ s.flat → t ∈ rowFlat r
  | [], _, h, _ => by cases h
  | u :: r, s, h, ht => by
    simp only [rowFlat, List.mem_append]
    rcases List.mem_cons.mp h with rfl | h
    · exact .inl ht
    · exact .inr (mem_flat h ht)
theorem part_flat {t s : Stm} {u : Row} (h : u ∈ s.parts) (ht : t ∈ rowFlat u) : t ∈ s.flat := by
  rw [flat_parts]
  exact List.mem_cons_of_mem _ (List.mem_flatten.mpr ⟨_, List.mem_map.mpr ⟨u, h, rfl⟩, ht⟩)
theorem self_flat (s : Stm) : s ∈ s.flat := by rw [flat_parts]; exact List.mem_cons_self
theorem split_at {α : Type} {l : List α} {i : Nat} {a : α} (h : l[i]? = some a) : l = l.take i ++ a :: l.drop (i + 1) := by
  conv => lhs; rw [← List.take_append_drop (i + 1) l, take_snoc h, List.append_assoc]
  rfl
theorem ixN_nat' {n j : Nat} (hj : j < n) : ixN n (j : Int) = some j := by unfold ixN; simp [hj]
section
variable {P : Program} {w : World} {K : PySem.W.Frag} {mg : Str → Option Value} {base : Heap}
theorem ok_lay {k d : Nat} (T : Txt K mg) (hk : 1 ≤ k) (c_Machine_lay_row : CalM P w K mg base k (cA K "Machine") "lay_row" P_Machine_lay_row (spLayRow K d)) (c_Machine_begin_of : CalM P w K mg base k (cA K "Machine") "begin_of" P_Machine_begin_of (spBeginOf K))
    (c_Machine_steps_of : CalM P w K mg base k (cA K "Machine") "steps_of" P_Machine_steps_of (spStepsOf K)) (c_Program_size : CalM P w K mg base k (cA K "Program") "size" P_Program_size (spSizeP K 6)) : CalM P w K mg base (k + 1) (cA K "Machine") "lay" P_Machine_lay (spLay K d) := by
  have c_St_parts : ∀ C, FamS K C → CalM P w K mg base k C "parts" ["self"] (spParts K C) := by
    rintro C ⟨c, rfl⟩
    exact (ok_parts T c).up hk
  refine CalM.of T.mt_Machine_lay sc_Machine_lay (fun vs H Q E h => ?_) (fun f cdv A outer s H vs Q E hr h => ?_)
  · obtain ⟨_, _, _, _, _, _, _, _, _, _, _, _, _, rfl, _⟩ := h; rfl
  · obtain ⟨G, self, dx, b, pl, ex, pr, p, s, x, at_, j, es, rfl, e, hself, nse, hb, okp, hs, oks, hd, hd5, m0, hat, hes, k⟩ := h
    obtain ⟨a, dxa, ps, rfl, ga, _⟩ := hs.view
    have sp := size_parts s
    refine ⟨_, (pss_cons (ps_set (i := 4) sc_Machine_lay.nd rfl (Or.inl rfl) (pe_lst pa_nil))
    (pss_cons (ps_set (i := 5) sc_Machine_lay.nd rfl (Or.inl rfl) (pe_op op_add (pv 2) pe_int))
    (pss_cons (ps_set (i := 6) sc_Machine_lay.nd rfl (Or.inl rfl) (pv 3))
    (pss_cons (ps_if (pt_val (pe_callB (k_isiT K) (by rfl) T.f_isinstance (by decide +kernel) (pa_cons (pv 1) (pa_cons (pe_tup (pa_cons (pk_ref T.g_While) (pa_cons (pk_ref T.g_Loop) pa_nil))) pa_nil))))
      (pss_one (ps_set (i := 6) sc_Machine_lay.nd rfl (Or.inl rfl) (pv 2)))
      pss_nil)
    (pss_cons (ps_for PassesOwn.never rfl (k_list K (cmV0 c_St_parts (hr.mono (by first | decide | omega)) (pv 1))) (pg_name (i := 7) sc_Machine_lay.nd rfl (Or.inl rfl))
      (pss_cons (ps_expr (k_bm K PySem.F.plainAttrs_list PySem.F.slot_list_append PySem.F.type_list_append mt_append (pv 4) (pa_cons (cm c_Machine_begin_of (hr.mono (by first | decide | omega)) (pv 0) (pa_cons (pv 7) (pa_cons (pv 5) (pa_cons (pv 6) pa_nil)))) pa_nil)))
      (pss_cons (ps_expr (cm c_Machine_lay_row (hr.mono (by first | decide | omega)) (pv 0) (pa_cons (pv 7) (pa_cons (pv 5) (pa_cons (pv 6) pa_nil)))))
      (pss_one (ps_set (i := 5) sc_Machine_lay.nd rfl (Or.inl rfl) (pe_op op_add (pv 5) (cm0 c_Program_size (hr.mono (by first | decide | omega)) (pv 7))))))))
    (pss_one (ps_asg (cm c_Machine_steps_of (hr.mono (by first | decide | omega)) (pv 0) (pa_cons (pv 1) (pa_cons (pv 4) (pa_cons (pv 3) pa_nil)))) (pg_sub (k_fld K (pv 0)) (pv 2) set_list)))))))), ?_⟩
    refine seqSet ⟨zs, fun bg nb => ?_⟩
    generalize e1 : upd H bg _ = H1
    obtain ⟨S1, s1, B1⟩ := (Step.refl (W := fun a => a = ex) e).newME nb e1
    have M1 := m0.go s1
    have nbx : bg ≠ ex := fun h => by rw [h, m0.h] at nb; cases nb
    refine seqSet ⟨_, rfl, _, _, rfl, rfl, ?_⟩
    refine seqSet ⟨_, rfl, ?_⟩
    refine seqJ (fun σ' H2 => Step (fun a => a = ex) G H G H2 ∧ Mi G H2 ex (.lst es) ∧ Mi G H2 bg (.lst []) ∧ ∃ bk : Int, ∃ y, σ' = [some (.ref self), some (.ref a), some (.int at_), some (.int j), some (.ref bg), some (.int (at_ + 1)), some (.int bk), y]) (fun C => ?_) ?_
    · refine ⟨_, rfl, zs, fun tp ntp => ⟨_, tp, _, _, _, _, rfl, upd_same, .cons (.own _) (.cons (.own _) .nil), hs.ty T (s1.gh.wid ntp), kitAny_S T _ [.whl, .lop], _, rfl, ?_⟩⟩
      generalize e2 : upd H1 tp _ = H2
      obtain ⟨S2, s2, _⟩ := S1.newME ntp e2
      exact if2 (fun _ => ⟨_, rfl, C _ _ ⟨S2, M1.go s2, B1.go s2, _, _, rfl⟩⟩) (fun _ => C _ _ ⟨S2, M1.go s2, B1.go s2, _, _, rfl⟩)
    · rintro σ' H2 ⟨S2, M2, B2, bk, y, rfl⟩
      refine ⟨_, rfl, a, _, dxa, _, rfl, S2.gh _ _ ga, ⟨_, rfl⟩, fs_no_parts s ps, G, s, _, rfl, S2.gh, hs, rfl, fun G3 H3 l ws s3 gl al3 => ?_⟩
      have S3 := S2.trans s3
      have lw := al3.len
      refine ⟨l, rfl, ⟨_, sqL gl s3.gh⟩, ?_⟩
      refine for_list (xs := ws) (fun i σ H4 => ∃ G4 es' is, Step (fun a => a = ex) G H G4 H4 ∧ Ex G3 G4 ∧ Mi G4 H4 ex (.lst es') ∧ es'.length = es.length ∧ Mi G4 H4 bg (.lst (is.map V.int)) ∧ is.length = i ∧
          ∃ y, σ = [some (.ref self), some (.ref a), some (.int at_), some (.int j), some (.ref bg), some (.int (at_ + 1 + ((s.parts.take i).map rowSize).sum : Nat)), some (.int bk), y])
        ⟨G3, es, [], S3, Ex.rfl' _, M2.go s3, rfl, B2.go s3, rfl, _, rfl⟩ (fun i σ H4 _ ⟨G4, _, _, s4, e4, _⟩ => sqL (e4 _ _ gl) s4.gh) ?_ ?_
      · rintro i x σ H4 ex4 ⟨G4, es', is, s4, e4, M4, les, B4, lis, z, rfl⟩
        obtain ⟨u, hu, ou⟩ := al3.get ex4
        have ou4 := ou.up e4
        have hself4 := s4.held hself nse
        have d4 := part_deep (mem_of hu)
        have split := split_at hu
        have szs : ((s.parts.take i).map rowSize).sum + rowSize u ≤ s.partsSize := by
          unfold Stm.partsSize
          conv => rhs; rw [split]
          rw [List.map_append, List.sum_append, List.map_cons, List.sum_cons]
          omega
        have lp2 : s.parts.length ≤ 2 := by cases s <;> simp [Stm.parts]
        have hi := lt_of_some hu
        refine ⟨_, rfl, .inl ⟨rfl, _, .of B4.h⟩, _, rfl, self, dx, _, rfl, hself4, rfl, _, rfl, _, rfl, _, rfl, G4, _, x, u, _, _, rfl, s4.gh, ou4, fun kk => ?_⟩
        refine ⟨bg, _, _, rfl, rfl, B4.h, zl' (by rw [List.length_map]; omega), ?_⟩
        generalize e5 : upd H4 bg _ = H5
        obtain ⟨S5, B5, n5⟩ := s4.mutE (.inr nb) B4 e5
        have M5 : Mi G4 H5 ex (.lst es') := ⟨(n5 ex nbx.symm).trans M4.h, M4.g⟩
        have hself5 := S5.held hself nse
        refine ⟨_, rfl, self, dx, _, rfl, hself5, rfl, _, rfl, _, rfl, _, rfl, G4, self, dx, b, pl, ex, pr, p, u, x, at_ + 1 + ((s.parts.take i).map rowSize).sum, bk, es', rfl, S5.gh, hself5, nse, hb.up s4.eg, okp, ou4, fun t ht => oks t (part_flat (mem_of hu) ht), by omega, by omega, M5, by omega, by omega, fun G6 H6 es6 s6 M6 l6 => ?_⟩
        have S6 := S5.trans s6
        have B6 := B5.go s6 nbx
        have ou6 := ou4.up s6.eg
        obtain ⟨bu, dxu, tu, yu, rfl, gu, _⟩ := ou6.view
        have zu := part_size (mem_of hu)
        refine ⟨_, rfl, _, rfl, bu, dxu, _, rfl, S6.gh _ _ gu, rfl, G6, u, _, rfl, S6.gh, ou6, by omega, by omega, fun H7 f7 => ?_⟩
        have s7 := f7.step S6.gh
        refine ⟨_, _, rfl, rfl, G6, es6, is ++ [kk], S6.trans s7, e4.trans s6.eg, M6.go s7, by omega, ?_, by simp [lis], some (.ref bu), ?_⟩
        · have := B6.go s7
          rw [List.map_append]
          exact this
        · have : ((at_ + 1 + ((s.parts.take i).map rowSize).sum : Nat) : Int) + (rowSize u : Nat) = ((at_ + 1 + ((s.parts.take (i + 1)).map rowSize).sum : Nat) : Int) := by
            rw [take_snoc hu, List.map_append, List.sum_append]
            simp
            omega
          rw [← this]
          rfl
      · rintro σ H4 ⟨G4, es', is, s4, e4, M4, les, B4, lis, z, rfl⟩
        obtain ⟨G5, S5, e5, g5, n5⟩ := s4.frzE nb B4
        have hself5 := S5.held hself nse
        have M5 : Mi G5 H4 ex (.lst es') := ⟨M4.h, by rw [n5 _ nbx.symm]; exact M4.g⟩
        have s50 := e4.trans e5
        refine ⟨_, rfl, self, dx, _, rfl, hself5, rfl, _, rfl, _, rfl, _, rfl, G5, self, dx, b, bg, _, p, s, _, is, j, rfl, S5.gh, hself5, rfl, hb.up S5.eg, okp, hs.mono S5.eg, oks s (self_flat s), g5, by omega, fun G6 H6 L s6 => ?_⟩
        have S6 := S5.trans s6
        have M6 := M5.go s6
        have at1 : at_ < es'.length := by have := size_pos s; omega
        refine ⟨_, rfl, self, _, dx, _, _, rfl, S6.held hself nse, T.cl_Machine, T.n_Machine_exits, rfl, _, rfl, ex, es', at_, at_, rfl, rfl, M6.h, ixN_nat' at1, ?_⟩
        generalize e7 : upd H6 ex _ = H7
        obtain ⟨S7, M7, _⟩ := S6.mutE (.inl rfl) M6 e7
        exact k _ _ _ S7 M7 (by rw [List.length_set]; exact les)
theorem ok_lay_row {k d : Nat} (T : Txt K mg) (c_Machine_lay : CalM P w K mg base k (cA K "Machine") "lay" P_Machine_lay (spLay K d)) (c_St_size : ∀ C, FamS K C → CalM P w K mg base k C "size" P_Statement_size (spSizeS K 5 C)) :
    CalM P w K mg base (k + 1) (cA K "Machine") "lay_row" P_Machine_lay_row (spLayRow K (d + 1)) := by
  refine CalM.of T.mt_Machine_lay_row sc_Machine_lay_row (fun vs H Q E h => ?_) (fun f cdv A outer s H vs Q E hr h => ?_)
  · obtain ⟨_, _, _, _, _, _, _, _, _, _, _, _, _, rfl, _⟩ := h; rfl
  · obtain ⟨G, self, dx, b, pl, ex, pr, p, r, x, at_, j, es, rfl, e, hself, nse, hb, okp, hs, oks, hd, hd5, m0, hat, hes, k⟩ := h
    obtain ⟨a, dxa, t, xs, rfl, ga, gt, al⟩ := hs.view
    have lx := al.len
    have lz := len_le_size r
    refine ⟨_, (pss_cons (ps_set (i := 4) sc_Machine_lay_row.nd rfl (Or.inl rfl) (pv 2))
    (pss_one (ps_for PassesOwn.never rfl (k_enumT K (by rfl) T.f_enumerate (pa_cons (k_fld K (pv 1)) pa_nil)) (k_gtup K (n := 2) rfl (pgs_cons (pg_name (i := 5) sc_Machine_lay_row.nd rfl (Or.inl rfl)) (pgs_cons (pg_name (i := 6) sc_Machine_lay_row.nd rfl (Or.inl rfl)) pgs_nil)))
      (pss_cons (ps_set (i := 7) sc_Machine_lay_row.nd rfl (Or.inl rfl) (pe_op op_add (pv 4) (cmV0 c_St_size (hr.mono (by first | decide | omega)) (pv 6))))
      (pss_cons (ps_set (i := 8) sc_Machine_lay_row.nd rfl (Or.inl rfl) (pv 7))
      (pss_cons (ps_if (pt_cmpR op_eq (pe_op op_add (pv 5) pe_int) (pe_callB (k_lenS K) (by rfl) T.f_len (by decide +kernel) (pa_cons (k_fld K (pv 1)) pa_nil)) (by first | exact nomark _ | rfl))
        (pss_one (ps_set (i := 8) sc_Machine_lay_row.nd rfl (Or.inl rfl) (pv 3)))
        pss_nil)
      (pss_cons (ps_expr (cm c_Machine_lay (hr.mono (by first | decide | omega)) (pv 0) (pa_cons (pv 6) (pa_cons (pv 4) (pa_cons (pv 8) pa_nil)))))
      (pss_one (ps_set (i := 4) sc_Machine_lay_row.nd rfl (Or.inl rfl) (pv 7)))))))))), ?_⟩
    refine seqSet ⟨_, rfl, ?_⟩
    refine ⟨_, rfl, a, _, dxa, _, _, rfl, e _ _ ga, T.cl_Program, T.n_Program_row, rfl, t, xs, rfl, sqT gt e, ?_⟩
    refine for_it (walk_enumT (xs := xs)) (fun i σ H1 => ∃ G1 es', Step (fun a => a = ex) G H G1 H1 ∧ Mi G1 H1 ex (.lst es') ∧ es'.length = es.length ∧ ∃ y1 y2 y3 y4, σ = [some (.ref self), some (.ref a), some (.int at_), some (.int j), some (.int (at_ + rowSize (r.take i) : Nat)), y1, y2, y3, y4])
      ⟨G, es, Step.refl e, m0, rfl, _, _, _, _, rfl⟩ (fun i σ H1 _ ⟨G1, _, s1, _⟩ => sqT gt (s1.eg.trans s1.gh)) ?_ ?_
    · rintro i x σ H1 H1' hi ⟨G1, es', s1, M1, les, y1, y2, y3, y4, rfl⟩ ⟨tp, x', rfl, ntp, rfl, ex1⟩
      obtain ⟨s, hsi, os⟩ := al.get ex1
      have ztake : rowSize (r.take (i + 1)) = rowSize (r.take i) + s.size := by rw [take_snoc hsi, rowSize_app]; simp [rowSize]
      have zall : rowSize r = rowSize (r.take (i + 1)) + rowSize (r.drop (i + 1)) := by rw [← rowSize_app, List.take_append_drop]
      have dd := mem_deep (mem_of hsi)
      refine g2 (.of upd_same) ?_
      generalize e2 : upd H1 tp _ = H2
      obtain ⟨S2, s2, _⟩ := s1.newME ntp e2
      have M2 := M1.go s2
      have os2 := os.mono S2.eg
      obtain ⟨bs, dxs, ps, rfl, gs, _⟩ := os2.view
      refine seqSet ⟨_, rfl, _, rfl, bs, _, dxs, _, rfl, S2.gh _ _ gs, ⟨_, rfl⟩, fs_no_size s ps, G1, s, _, rfl, S2.gh, os2, rfl, by omega, by omega, fun H3 f3 => ⟨_, _, rfl, rfl, ?_⟩⟩
      have s3 := f3.step S2.gh
      have S3 := S2.trans s3
      have M3 := M2.go s3
      refine seqSet ⟨_, rfl, ?_⟩
      refine seqJ (fun σ' H4 => H4 = H3 ∧ ∃ g : Int, σ' = [some (.ref self), some (.ref a), some (.int at_), some (.int j), some (.int (at_ + rowSize (r.take i) : Nat)), some (.int i), some (.ref bs), some (.int ((at_ + rowSize (r.take i) : Nat) + s.size)), some (.int g)]) (fun C => ?_) ?_
      · refine ⟨_, rfl, _, _, rfl, rfl, _, rfl, a, _, dxa, _, _, rfl, S3.gh _ _ (S3.eg _ _ ga), T.cl_Program, T.n_Program_row, rfl, t, xs, rfl, .inr (sqT (S3.eg _ _ gt) S3.gh), rfl, _, rfl, ?_⟩
        exact if2 (fun _ => ⟨_, rfl, C _ _ ⟨rfl, _, rfl⟩⟩) (fun _ => C _ _ ⟨rfl, _, rfl⟩)
      · rintro σ' H4 ⟨rfl, g, rfl⟩
        have hself4 := S3.held hself nse
        refine ⟨_, rfl, self, dx, _, rfl, hself4, rfl, _, rfl, _, rfl, _, rfl, G1, self, dx, b, pl, ex, pr, p, s, _, at_ + rowSize (r.take i), g, es', rfl, S3.gh, hself4, nse, hb.up S3.eg, okp, os2, fun t ht => oks t (mem_flat (mem_of hsi) ht), by omega, by omega, M3, by omega, by omega, fun G5 H5 es5 s5 M5 l5 => ?_⟩
        refine ⟨_, rfl, G5, es5, S3.trans s5, M5, by omega, some (.int i), some (.ref bs), some (.int ((at_ + rowSize (r.take i) : Nat) + s.size)), some (.int g), ?_⟩
        rw [ztake]
        have : (((at_ + rowSize (r.take i) : Nat) : Int) + (s.size : Nat)) = ((at_ + (rowSize (r.take i) + s.size) : Nat) : Int) := by omega
        rw [← this]
        rfl
    · rintro σ H1 ⟨G1, es', s1, M1, les, y1, y2, y3, y4, rfl⟩
      exact k _ _ _ s1 M1 les
end
end K4

set_option maxHeartbeats 4000000
/-! The machine made; its marks. -/
namespace K4
open PySem L2
structure MaO (K : PySem.W.Frag) (G : Hp) (m : Addr) (r : Row) : Prop where
  ex : ∃ dx b pr pl ex pxs es, G m = some (.ins (cA K "Machine") dx (mfs b pr pl ex)) ∧ G pl = some (.lst pxs) ∧ Al (StmO K) G (rowFlat r) pxs ∧ G ex = some (.lst es) ∧ es.length = rowSize r + 1
theorem MaO.up {K : PySem.W.Frag} {G G' : Hp} {m : Addr} {r : Row} (h : MaO K G m r) (e : Ex G G') : MaO K G' m r := by
  obtain ⟨dx, b, pr, pl, ex, pxs, es, h1, h2, h3, h4, h5⟩ := h.ex
  exact ⟨dx, b, pr, pl, ex, pxs, es, e _ _ h1, e _ _ h2, h3.up stmO_mono e, e _ _ h4, h5⟩
def Stm.mark : Stm → Option Str
  | .mk m => some m
  | _ => none
/-- the mark that stands in a room -/
def markAt (r : Row) (n : Nat) : Option Str := (rowFlat r)[n]?.bind Stm.mark
structure RowOk (p : Plan) (r : Row) : Prop where
  ok : ∀ t ∈ rowFlat r, StmOk p t
  deep : rowDeep r ≤ 5
  size : rowSize r ≤ 24
def spMachineInit (K : PySem.W.Frag) : Sp := fun vs H Q _ => ∃ (G : Hp) (self dx b : Addr) (p : Plan) (r : Row) (x : V), vs = [.ref self, .ref b, x] ∧ Ex G H ∧ Mi G H self (.ins (cA K "Machine") dx []) ∧ BdO K G b p ∧ PlanOk p ∧ PrgO K G r x ∧ RowOk p r ∧
  ∀ G' H' pl ex pxs es, Step (fun a => a = self) G H G' H' → Mi G' H' self (.ins (cA K "Machine") dx (mfs b x pl ex)) → G' pl = some (.lst pxs) → Al (StmO K) G' (rowFlat r) pxs → G' ex = some (.lst es) → es.length = rowSize r + 1 → Q .non H'
def spMAsked (K : PySem.W.Frag) : Sp := fun vs H Q _ => ∃ (G : Hp) (m : Addr) (r : Row) (n : Nat), vs = [.ref m, .int n] ∧ Ex G H ∧ MaO K G m r ∧ n ≤ rowSize r ∧ Q .non H
def spMarkOf (K : PySem.W.Frag) : Sp := fun vs H Q _ => ∃ (G : Hp) (m : Addr) (r : Row) (n : Nat), vs = [.ref m, .int n] ∧ Ex G H ∧ MaO K G m r ∧ n ≤ rowSize r ∧ Q (optV (markAt r n)) H
def spMarks (K : PySem.W.Frag) : Sp := fun vs H Q _ => ∃ (G : Hp) (m : Addr) (r : Row), vs = [.ref m] ∧ Ex G H ∧ MaO K G m r ∧ rowSize r ≤ 24 ∧
  ∀ (G' H' : Hp) (l : Addr) (ms : List Str), Step NoW G H G' H' → G' l = some (.lst (ms.map V.str)) → (∀ z, z ∈ ms ↔ Stm.mk z ∈ rowFlat r) → Q (.ref l) H'
section
variable {P : Program} {w : World} {K : PySem.W.Frag} {mg : Str → Option Value} {base : Heap}
theorem numbers (T : Txt K mg) : ∀ d, CalM P w K mg base (d + 1) (cA K "Machine") "number_row" P_Machine_number_row (spNumberRow K d)
  | 0 => by
    refine CalM.of T.mt_Machine_number_row sc_Machine_number_row (fun vs H Q E h => ?_) (fun f cdv A outer s H vs Q E hr h => ?_)
    · obtain ⟨_, _, _, _, _, _, _, _, _, _, _, _, _, _, _, _, h, _⟩ := h; exact absurd h (Nat.not_lt_zero _)
    · obtain ⟨_, _, _, _, _, _, _, _, _, _, _, _, _, _, _, _, h, _⟩ := h; exact absurd h (Nat.not_lt_zero _)
  | d + 1 => ok_number_row T (by omega) (numbers T d)
theorem lays (T : Txt K mg) (c_Machine_begin_of : CalM P w K mg base 1 (cA K "Machine") "begin_of" P_Machine_begin_of (spBeginOf K)) (c_Machine_steps_of : CalM P w K mg base 4 (cA K "Machine") "steps_of" P_Machine_steps_of (spStepsOf K)) :
    ∀ d, CalM P w K mg base (13 + 2 * d) (cA K "Machine") "lay_row" P_Machine_lay_row (spLayRow K d)
  | 0 => by
    refine CalM.up (j := 1) ?_ (by omega)
    refine CalM.of T.mt_Machine_lay_row sc_Machine_lay_row (fun vs H Q E h => ?_) (fun f cdv A outer s H vs Q E hr h => ?_)
    · obtain ⟨_, _, _, _, _, _, _, _, _, _, _, _, _, _, _, _, _, _, _, _, _, h, _⟩ := h; exact absurd h (Nat.not_lt_zero _)
    · obtain ⟨_, _, _, _, _, _, _, _, _, _, _, _, _, _, _, _, _, _, _, _, _, h, _⟩ := h; exact absurd h (Nat.not_lt_zero _)
  | d + 1 => ok_lay_row (k := 13 + 2 * d + 1) T (ok_lay (k := 13 + 2 * d) T (by omega) (lays T c_Machine_begin_of c_Machine_steps_of d) (c_Machine_begin_of.up (by omega)) (c_Machine_steps_of.up (by omega)) ((sizesP T 6).up (by omega))) fun C hC => (sizesS T 5 C hC).up (by omega)
theorem ok_Machine_init {k : Nat} (T : Txt K mg) (c_Machine_number_row : CalM P w K mg base k (cA K "Machine") "number_row" P_Machine_number_row (spNumberRow K 6)) (c_Board_asked : CalM P w K mg base k (cA K "Board") "asked" P_Board_asked (spBAsked K))
    (c_Machine_lay_row : CalM P w K mg base k (cA K "Machine") "lay_row" P_Machine_lay_row (spLayRow K 6)) : CalC P w K mg base (k + 1) (cA K "Machine") P_Machine_init [] (spMachineInit K) := by
  refine CalC.of T.in_Machine sc_Machine_init (fun vs H Q E h => ?_) (fun f cdv A outer s H vs Q E hr h => ?_)
  · obtain ⟨_, _, _, _, _, _, _, rfl, _⟩ := h; rfl
  · obtain ⟨G, self, dx, b, p, r, x, rfl, e, m0, hb, okp, hp, okr, k⟩ := h
    have z24 := okr.size
    have d5 := okr.deep
    obtain ⟨dxb, np, rp, rows, hb1, _⟩ := hb.ex
    refine ⟨_, (pss_cons (k_sfld K (pv 0) (pv 1))
    (pss_cons (k_sfld K (pv 0) (pv 2))
    (pss_cons (k_sfld K (pv 0) (pe_lst pa_nil))
    (pss_cons (ps_expr (cm c_Machine_number_row (hr.mono (by first | decide | omega)) (pv 0) (pa_cons (pv 2) pa_nil)))
    (pss_cons (ps_for PassesOwn.never rfl (k_list K (k_fld K (pv 0))) (pg_name (i := 3) sc_Machine_init.nd rfl (Or.inl rfl))
      (pss_one (ps_if (pt_val (pe_callB (k_isiT K) (by rfl) T.f_isinstance (by decide +kernel) (pa_cons (pv 3) (pa_cons (pe_tup (pa_cons (pk_ref T.g_Write) (pa_cons (pk_ref T.g_Wait) (pa_cons (pk_ref T.g_If) (pa_cons (pk_ref T.g_While) pa_nil))))) pa_nil))))
        (pss_one (ps_expr (cm c_Board_asked (hr.mono (by first | decide | omega)) (pv 1) (pa_cons (k_fld K (pv 3)) (pa_cons (k_fld K (pv 3)) pa_nil)))))
        pss_nil)))
    (pss_cons (k_sfld K (pv 0) (pe_lc (own := [("statement", 3)]) (by rfl) sc_Machine_init.nd (k_list K (k_fld K (pv 0))) (blkOk_by (own := [("statement", 3)]) (N := N_Machine_init) (by kernel_rfl)) (fun _ _ _ _ _ => (pg_name (i := 3) sc_Machine_init.nd rfl (Or.inl rfl))) (fun _ _ _ _ _ => pts_nil) (fun _ _ _ _ _ => (pe_lst pa_nil))))
    (pss_cons (ps_expr (k_bm K PySem.F.plainAttrs_list PySem.F.slot_list_append PySem.F.type_list_append mt_append (k_fld K (pv 0)) (pa_cons (pe_lst pa_nil) pa_nil)))
    (pss_one (ps_expr (cm c_Machine_lay_row (hr.mono (by first | decide | omega)) (pv 0) (pa_cons (pv 2) (pa_cons pe_int (pa_cons (pe_callB (k_lenS K) (by rfl) T.f_len (by decide +kernel) (pa_cons (k_fld K (pv 0)) pa_nil)) pa_nil))))))))))))), ?_⟩
    refine ⟨_, rfl, _, rfl, self, _, dx, _, rfl, m0.h, T.cl_Machine, T.n_Machine_plan, by decide, ?_⟩
    generalize e1 : upd H self _ = H1
    obtain ⟨S1, M1, _⟩ := (Step.refl (W := fun a => a = self) e).mutE (.inl rfl) m0 e1
    refine ⟨_, rfl, _, rfl, self, _, dx, _, rfl, M1.h, T.cl_Machine, T.n_Machine_text, ln1, ?_⟩
    generalize e2 : upd H1 self _ = H2
    obtain ⟨S2, M2, _⟩ := S1.mutE (.inl rfl) M1 e2
    refine ⟨zs, fun pl npl => ?_⟩
    generalize e3 : upd H2 pl _ = H3
    obtain ⟨S3, s3, L3⟩ := S2.newME npl e3
    have M3 := M2.go s3
    have nsp : self ≠ pl := M2.ne' npl
    have nplH : H pl = none := S2.dm _ npl
    refine ⟨_, rfl, self, _, dx, _, rfl, M3.h, T.cl_Machine, T.n_Machine_places, ln2, ?_⟩
    generalize e4 : upd H3 self _ = H4
    obtain ⟨S4, M4, n4⟩ := S3.mutE (.inl rfl) M3 e4
    have L4 : Mi G H4 pl (.lst []) := ⟨(n4 pl nsp.symm).trans L3.h, L3.g⟩
    refine ⟨_, rfl, self, dx, _, rfl, M4.h, rfl, _, rfl, G, self, dx, pl, _, r, x, [], rfl, S4.gh, M4.h, nsp, rfl, rfl, L4, hp, by omega, by simp; omega, fun G5 H5 pxs s5 L5 al5 => ?_⟩
    have S5 := S4.trans s5 (fun a h => Or.inr (h ▸ nplH))
    have M5 := M4.go s5 nsp
    obtain ⟨G6, S6, e6, g6, n6⟩ := S5.frzE nplH L5
    have M6 : Mi G6 H5 self _ := ⟨M5.h, by rw [n6 _ nsp]; exact M5.g⟩
    rw [List.nil_append] at g6
    have al6 := al5.up stmO_mono e6
    have lpx := al6.len
    rw [rowFlat_len] at lpx
    refine ⟨_, rfl, self, _, dx, _, _, rfl, M6.h, T.cl_Machine, T.n_Machine_places, rfl, pl, rfl, ⟨_, sqL g6 S6.gh⟩, ?_⟩
    refine for_list (xs := pxs) (fun i σ H7 => Step (fun a => a = self) G H G6 H7 ∧ H7 self = H5 self ∧ ∃ y, σ = [some (.ref self), some (.ref b), some x, y]) ⟨S6, rfl, _, rfl⟩ (fun i σ H7 _ h => sqL g6 h.1.gh) ?_ ?_
    · rintro i y σ H7 ey ⟨S7, h7, z, rfl⟩
      obtain ⟨s, hsi, os⟩ := al6.get ey
      have oks := okr.ok s (mem_of hsi)
      obtain ⟨a, dxa, ps, rfl, ga, _⟩ := os.view
      refine ⟨_, rfl, zs, fun tp ntp => ⟨_, tp, _, _, _, _, rfl, upd_same, .cons (.own _) (.cons (.own _) (.cons (.own _) (.cons (.own _) .nil))), os.ty T (S7.gh.wid ntp), kitAny_S T _ [.write, .wait, .ife, .whl], _, rfl, ?_⟩⟩
      have nts : self ≠ tp := fun h => by rw [← h, h7, M6.h] at ntp; cases ntp
      generalize e8 : upd H7 tp _ = H8
      obtain ⟨S8, s8, _⟩ := S7.newME ntp e8
      have h8 : H8 self = H5 self := by rw [← e8, upd_ne nts]; exact h7
      refine if2 (fun hc => ?_) (fun _ => ⟨S8, h8, _, rfl⟩)
      have : ∃ c v, s.cv = some (c, v) := by
        have hc := of_decide_eq_true hc
        cases s <;> simp [Stm.cl] at hc <;> exact ⟨_, _, rfl⟩
      obtain ⟨c, v, hcv⟩ := this
      obtain ⟨vl, hvl, hv⟩ := oks.cv c v hcv
      refine ⟨_, rfl, b, dxb, _, rfl, S8.gh _ _ (S8.eg _ _ hb1), rfl, _, rfl, a, _, dxa, _, _, rfl, S8.gh _ _ ga, T.clS s.cl, T.nS_cell s.cl, cv_cell ps hcv, _, rfl, a, _, dxa, _, _, rfl, S8.gh _ _ ga, T.clS s.cl, T.nS_value s.cl, cv_value ps hcv,
        G6, b, p, (c, vl), v, rfl, S8.gh, hb.up S8.eg, hvl, hv, fun H9 f9 => ⟨S8.trans (f9.step S8.gh), ?_, _, rfl⟩⟩
      have : H9 self = some _ := f9.same _ _ (h8.trans M6.h)
      rw [this, M6.h]
    · rintro σ H7 ⟨S7, h7, z, rfl⟩
      have M7 : Mi G6 H7 self _ := ⟨h7.trans M6.h, M6.g⟩
      refine ⟨_, rfl, self, _, dx, _, _, rfl, M7.h, T.cl_Machine, T.n_Machine_places, rfl, pl, rfl, ⟨_, sqL g6 S7.gh⟩, fun L nL => ?_⟩
      refine lcC (walk_list (xs := pxs)) (by omega) S7.gh nL (fun H8 e8 => sqL g6 (S7.gh.trans e8)) (fun i _ acc => acc.length = i) rfl ?_ ?_
      · rintro i y G8 H8 H8' acc K1 K0 hi s8 la ⟨rfl, ex⟩ k1 k0
        exact ⟨rfl, zs, fun t nt => k1 _ _ _ ((Step.refl s8.gh).newM nt) (by rw [List.length_append, la]; rfl)⟩
      · rintro G8 H8 ys s8 hL gL _ ly
        have S8 := S7.trans s8
        have M8 := M7.go s8
        have nLs : self ≠ L := M7.ne' nL
        have nLH : H L = none := S7.dm _ nL
        refine ⟨_, rfl, self, _, dx, _, rfl, M8.h, T.cl_Machine, T.n_Machine_exits, ln3, ?_⟩
        generalize e9 : upd H8 self _ = H9
        obtain ⟨S9, M9, n9⟩ := S8.mutE (.inl rfl) M8 e9
        have L9 : Mi G8 H9 L (.lst ys) := ⟨(n9 L nLs.symm).trans hL, gL⟩
        refine ⟨_, rfl, self, _, dx, _, _, rfl, M9.h, T.cl_Machine, T.n_Machine_exits, rfl, .inl ⟨rfl, _, .of L9.h⟩, zs, fun t nt => ?_⟩
        generalize e10 : upd H9 t _ = H10
        obtain ⟨S10, s10, _⟩ := S9.newME nt e10
        have L10 := L9.go s10
        refine ⟨L, _, _, rfl, rfl, L10.h, zl' (by omega), ?_⟩
        generalize e11 : upd H10 L _ = H11
        obtain ⟨S11, L11, n11⟩ := S10.mutE (.inr nLH) L10 e11
        have M10 := M9.go s10
        have M11 : Mi G8 H11 self _ := ⟨(n11 self nLs).trans M10.h, M10.g⟩
        have g8 := s8.eg _ _ g6
        have les : (ys ++ [V.ref t]).length = rowSize r + 1 := by rw [List.length_append, ly, lpx]; rfl
        refine ⟨_, rfl, self, dx, _, rfl, M11.h, rfl, _, rfl, _, rfl, self, _, dx, _, _, rfl, M11.h, T.cl_Machine, T.n_Machine_places, rfl, pl, _, rfl, .inl (sqL g8 S11.gh), ?_⟩
        refine ⟨G8, self, dx, b, pl, L, x, p, r, x, 0, _, _, rfl, S11.gh, M11.h, nLs, hb.up S11.eg, okp, hp.up S11.eg, okr.ok, by omega, by omega, L11, by omega, by omega, fun G12 H12 es s12 L12 l12 => ?_⟩
        have S12 := S11.trans s12 (fun a h => Or.inr (h ▸ nLH))
        have M12 := M11.go s12 nLs
        obtain ⟨G13, S13, e13, g13, n13⟩ := S12.frzE nLH L12
        have M13 : Mi G13 H12 self _ := ⟨M12.h, by rw [n13 _ nLs]; exact M12.g⟩
        have e613 := s8.eg.trans (s12.eg.trans e13)
        exact k G13 H12 pl L pxs es S13 M13 (e613 _ _ g6) (al6.up stmO_mono e613) g13 (by omega)
theorem ok_MAsked (T : Txt K mg) : CalM P w K mg base 1 (cA K "Machine") "asked" P_Machine_asked (spMAsked K) := by
  refine CalM.of T.mt_Machine_asked sc_Machine_asked (fun vs H Q E h => ?_) (fun f cdv A outer s H vs Q E hr h => ?_)
  · obtain ⟨_, _, _, _, rfl, _⟩ := h; rfl
  · obtain ⟨G, m, r, n, rfl, e, hm, hn, k⟩ := h
    obtain ⟨dx, b, pr, pl, ex, pxs, es, h1, h2, h3, h4, h5⟩ := hm.ex
    refine ⟨_, (pss_one (ps_if (pt_not (pt_chain op_le op_lt pe_int (pv 1) (pe_callB (k_lenS K) (by rfl) T.f_len (by decide +kernel) (pa_cons (k_fld K (pv 0)) pa_nil))))
      pss_never
      pss_nil)), ?_⟩
    exact ⟨_, rfl, _, _, rfl, rfl, _, rfl, ifT (dT (by omega)) ⟨_, rfl, m, _, dx, _, _, rfl, e _ _ h1, T.cl_Machine, T.n_Machine_exits, rfl, ex, _, rfl, .inl (sqL h4 e), _, _, rfl, rfl, _, rfl, ifF (nD (by omega)) k⟩⟩
theorem ok_mark_of {k : Nat} (T : Txt K mg) (c_Machine_asked : CalM P w K mg base k (cA K "Machine") "asked" P_Machine_asked (spMAsked K)) : CalM P w K mg base (k + 1) (cA K "Machine") "mark_of" P_Machine_mark_of (spMarkOf K) := by
  refine CalM.of T.mt_Machine_mark_of sc_Machine_mark_of (fun vs H Q E h => ?_) (fun f cdv A outer s H vs Q E hr h => ?_)
  · obtain ⟨_, _, _, _, rfl, _⟩ := h; rfl
  · obtain ⟨G, m, r, n, rfl, e, hm, hn, k⟩ := h
    obtain ⟨dx, b, pr, pl, ex, pxs, es, h1, h2, h3, h4, h5⟩ := hm.ex
    have lp := h3.len
    rw [rowFlat_len] at lp
    refine ⟨_, (pss_cons (ps_expr (cm c_Machine_asked (hr.mono (by first | decide | omega)) (pv 0) (pa_cons (pv 1) pa_nil)))
    (pss_cons (ps_if (PW.pt (pw_and (pt_cmpR op_lt (pv 1) (pe_callB (k_lenS K) (by rfl) T.f_len (by decide +kernel) (pa_cons (k_fld K (pv 0)) pa_nil)) (by first | exact nomark _ | rfl)) (pw_and1 (pt_val (pe_callB (k_isi K) (by rfl) T.f_isinstance (by decide +kernel) (pa_cons (pe_ix (k_ixL K) (k_fld K (pv 0)) (pv 1) (fun _ _ => rfl)) (pa_cons (pk_ref T.g_Mark) pa_nil)))))))
      (pss_one (ps_ret (k_fld K (pe_ix (k_ixL K) (k_fld K (pv 0)) (pv 1) (fun _ _ => rfl)))))
      pss_nil)
    (pss_one (ps_ret pe_non)))), ?_⟩
    refine ⟨_, rfl, m, dx, _, rfl, e _ _ h1, rfl, _, rfl, G, m, r, n, rfl, e, hm, hn, ?_⟩
    refine ⟨_, rfl, _, rfl, m, _, dx, _, _, rfl, e _ _ h1, T.cl_Machine, T.n_Machine_places, rfl, pl, _, rfl, .inl (sqL h2 e), _, _, rfl, rfl, _, rfl, if2 (fun hl => ?_) (fun hl => ?_)⟩
    · have hl : n < pxs.length := by have := of_decide_eq_true hl; omega
      obtain ⟨x, hx⟩ := some_of hl
      obtain ⟨s, hs, os⟩ := h3.get hx
      have fin : ∀ c : Bool, c = decide (s.cl = .mark) → _ := fun c hc => hc
      refine ⟨_, rfl, m, _, dx, _, _, rfl, e _ _ h1, T.cl_Machine, T.n_Machine_places, rfl, _, rfl, pl, _, n, x, rfl, rfl, sqL h2 e, at_nat hx, _, _, _, _, _, rfl, .own _, os.ty T e, T.kit _ .mark, _, rfl, if2 (fun hc => ?_) (fun hc => ?_)⟩
      · obtain ⟨a, dxa, ps, rfl, ga, _⟩ := os.view
        have hc := of_decide_eq_true hc
        cases s with
        | mk z =>
          have : markAt r n = some z := by unfold markAt; rw [hs]; rfl
          rw [this] at k
          exact ⟨_, rfl, m, _, dx, _, _, rfl, e _ _ h1, T.cl_Machine, T.n_Machine_places, rfl, _, rfl, pl, _, n, _, rfl, rfl, sqL h2 e, at_nat hx, a, _, dxa, _, _, rfl, e _ _ ga, T.clS .mark, T.nS_name .mark, rfl, k⟩
        | _ => simp [Stm.cl] at hc
      · have hc := of_decide_eq_false hc
        have : markAt r n = none := by
          unfold markAt; rw [hs]
          cases s <;> first | rfl | exact absurd rfl hc
        rw [this] at k
        exact k
    · have : markAt r n = none := by
        have := of_decide_eq_false hl
        unfold markAt
        rw [List.getElem?_eq_none (by rw [rowFlat_len]; omega)]; rfl
      rw [this] at k
      exact k
theorem ok_marks (T : Txt K mg) : CalM P w K mg base 1 (cA K "Machine") "marks" P_Machine_marks (spMarks K) := by
  refine CalM.of T.mt_Machine_marks sc_Machine_marks (fun vs H Q E h => ?_) (fun f cdv A outer s H vs Q E hr h => ?_)
  · obtain ⟨_, _, _, rfl, _⟩ := h; rfl
  · obtain ⟨G, m, r, rfl, e, hm, z24, k⟩ := h
    obtain ⟨dx, b, pr, pl, ex, pxs, es, h1, h2, h3, h4, h5⟩ := hm.ex
    have lp := h3.len
    rw [rowFlat_len] at lp
    refine ⟨_, (pss_cons (ps_set (i := 1) sc_Machine_marks.nd rfl (Or.inl rfl) pe_dnewK)
    (pss_cons (ps_for PassesOwn.never rfl (k_list K (k_fld K (pv 0))) (pg_name (i := 2) sc_Machine_marks.nd rfl (Or.inl rfl))
      (pss_one (ps_if (pt_val (pe_callB (k_isi K) (by rfl) T.f_isinstance (by decide +kernel) (pa_cons (pv 2) (pa_cons (pk_ref T.g_Mark) pa_nil))))
        (pss_one (ps_dput (hu_of hr) (pv 1) (k_fld K (pv 2)) pe_bl rfl))
        pss_nil)))
    (pss_one (ps_ret (pe_callB (k_sortedS K) (by rfl) T.f_sorted (by decide +kernel) (pa_cons (pe_callTy (call_list_dK rfl) (by rfl) T.f_list (by decide +kernel) (pa_cons (pv 1) pa_nil)) pa_nil)))))), ?_⟩
    refine seqSet fun d nd => ?_
    generalize e1 : upd H d _ = H1
    obtain ⟨S1, s1, D1⟩ := (Step.refl (W := NoW) e).newME nd e1
    refine ⟨_, rfl, m, _, dx, _, _, rfl, S1.gh _ _ h1, T.cl_Machine, T.n_Machine_places, rfl, pl, rfl, ⟨_, sqL h2 S1.gh⟩, ?_⟩
    refine for_list (xs := pxs) (fun i σ H2 => ∃ zs : List Str, Step NoW G H G H2 ∧ Mi G H2 d (.dK (zs.map fun z => (.inr z, .bl true))) ∧ zs.length ≤ i ∧ (∀ z, z ∈ zs ↔ Stm.mk z ∈ (rowFlat r).take i) ∧ ∃ y, σ = [some (.ref m), some (.ref d), y])
      ⟨[], S1, D1, Nat.le_refl _, by simp, _, rfl⟩ (fun i σ H2 _ ⟨zs, s2, _⟩ => sqL h2 s2.gh) ?_ ?_
    · rintro i x σ H2 ex ⟨us, s2, D2, lu, iu, y, rfl⟩
      obtain ⟨s, hs, os⟩ := h3.get ex
      have hi := lt_of_some ex
      refine ⟨_, rfl, _, _, _, _, _, rfl, .own _, os.ty T s2.gh, T.kit _ .mark, _, rfl, if2 (fun hc => ?_) (fun hc => ?_)⟩
      · obtain ⟨a, dxa, ps, rfl, ga, _⟩ := os.view
        have hc := of_decide_eq_true hc
        cases s with
        | mk z =>
          refine ⟨_, rfl, _, rfl, a, _, dxa, _, _, rfl, s2.gh _ _ ga, T.clS .mark, T.nS_name .mark, rfl, d, _, rfl, DPut.k (k := .inr z) D2.h (zl' (by rw [List.length_map]; omega)), ?_⟩
          generalize e3 : upd H2 d _ = H3
          obtain ⟨S3, D3, _⟩ := s2.mutE (.inr nd) D2 e3
          by_cases hz : z ∈ us
          · refine ⟨us, S3, ?_, by omega, fun z' => ?_, _, rfl⟩
            · have : putK (us.map fun z => ((.inr z : Key), V.bl true)) (.inr z) (.bl true) = us.map fun z => ((.inr z : Key), V.bl true) := by
                unfold putK
                rw [if_pos ?_]
                · rw [List.map_map]
                  apply List.map_congr_left
                  intro u _
                  simp only [Function.comp]
                  split
                  · rfl
                  · rfl
                · rw [List.any_eq_true]
                  exact ⟨_, List.mem_map.mpr ⟨z, hz, rfl⟩, by simp⟩
              rw [this] at D3
              exact D3
            · rw [iu, take_snoc hs, List.mem_append, List.mem_singleton]
              constructor
              · exact .inl
              · rintro (h | h)
                · exact h
                · cases h; exact (iu z).mp hz
          · refine ⟨us ++ [z], S3, ?_, by rw [List.length_append]; simp; omega, fun z' => ?_, _, rfl⟩
            · have nv : valV (us.map fun z => ((.inr z : Key), V.bl true)) (.inr z) = none := by
                unfold valV
                rw [Option.map_eq_none_iff, List.find?_eq_none]
                intro p hp
                obtain ⟨u, hu, rfl⟩ := List.mem_map.mp hp
                simp
                rintro rfl
                exact hz hu
              rw [putK_new _ nv] at D3
              rw [List.map_append]
              exact D3
            · rw [List.mem_append, iu, take_snoc hs, List.mem_append, List.mem_singleton, List.mem_singleton]
              constructor
              · rintro (h | rfl)
                · exact .inl h
                · exact .inr rfl
              · rintro (h | h)
                · exact .inl h
                · cases h; exact .inr rfl
        | _ => simp [Stm.cl] at hc
      · have hc := of_decide_eq_false hc
        refine ⟨us, s2, D2, by omega, fun z' => ?_, _, rfl⟩
        rw [iu, take_snoc hs, List.mem_append, List.mem_singleton]
        constructor
        · exact .inl
        · rintro (h | h)
          · exact h
          · subst h; exact absurd rfl hc
    · rintro σ H2 ⟨us, s2, D2, lu, iu, y, rfl⟩
      rw [lp, ← rowFlat_len, List.take_length] at iu
      refine ⟨_, rfl, d, _, rfl, D2.h, fun q nq => ?_⟩
      have em : ((us.map fun z => ((.inr z : Key), V.bl true)).map fun kv => kV kv.1) = us.map V.str := by rw [List.map_map]; rfl
      rw [em]
      generalize e3 : upd H2 q _ = H3
      obtain ⟨G3, S3, _, g3⟩ := s2.newDE nq e3
      refine ⟨q, us, rfl, sqL g3 S3.gh, by omega, fun ys p perm _ np => ?_⟩
      generalize e4 : upd H3 p _ = H4
      obtain ⟨G4, S4, _, g4⟩ := S3.newDE np e4
      exact k _ _ p ys S4 g4 fun z => (perm.mem_iff).trans (iu z)
end
end K4

set_option maxHeartbeats 4000000
/-! The game; a moment and a question. -/
namespace K4
open PySem L2
structure GaO (K : PySem.W.Frag) (G : Hp) (g : Addr) (p : Plan) (r0 r1 : Row) : Prop where
  ex : ∃ dx b hp m0 m1 t, G g = some (.ins (cA K "Game") dx [("plan", .ref b), ("hands", .ref hp), ("texts", t)]) ∧ BdO K G b p ∧ G hp = some (.tup [.ref m0, .ref m1]) ∧ MaO K G m0 r0 ∧ MaO K G m1 r1
theorem GaO.up {K : PySem.W.Frag} {G G' : Hp} {g : Addr} {p : Plan} {r0 r1 : Row} (h : GaO K G g p r0 r1) (e : Ex G G') : GaO K G' g p r0 r1 := by
  obtain ⟨dx, b, hp, m0, m1, t, h1, h2, h3, h4, h5⟩ := h.ex
  exact ⟨dx, b, hp, m0, m1, t, e _ _ h1, h2.up e, e _ _ h3, h4.up e, h5.up e⟩
structure QuO (K : PySem.W.Frag) (G : Hp) (q : Addr) (lead : Option Str) (fs : List Str) (hs : List (Str × Str)) : Prop where
  ex : ∃ dx fp hp hv, G q = some (.ins (cA K "Question") dx [("lead", optV lead), ("follows", .ref fp), ("holds", .ref hp)]) ∧ FTup G fp (fs.map V.str) ∧ FTup G hp hv ∧ RepL G (hs.map pairD) hv
theorem QuO.up {K : PySem.W.Frag} {G G' : Hp} {q : Addr} {lead : Option Str} {fs : List Str} {hs : List (Str × Str)} (h : QuO K G q lead fs hs) (e : Ex G G') : QuO K G' q lead fs hs := by
  obtain ⟨dx, fp, hp, hv, h1, h2, h3, h4⟩ := h.ex
  exact ⟨dx, fp, hp, hv, e _ _ h1, h2.up e, h3.up e, h4.up e⟩
/-- a standing -/
structure Spot where
  room : Nat
  st : List Str
  rooms : List Nat
def natsD (l : List Nat) : List D := l.map fun n : Nat => D.int n
def Spot.d (s : Spot) : D := .tup [.int s.room, .tup (s.st.map D.str), .tup (natsD s.rooms)]
structure SpotOk (p : Plan) (r0 r1 : Row) (s : Spot) : Prop where
  room : s.room ≤ rowSize r0
  len : s.st.length = p.length
  vals : ∀ (j : Nat) c v, p[j]? = some c → s.st[j]? = some v → v ∈ c.2
  rooms : ∀ n ∈ s.rooms, n ≤ rowSize r1
  few : s.rooms.length ≤ 20
/-- what a game may be asked -/
structure QOk (p : Plan) (r0 r1 : Row) (lead : Option Str) (fs : List Str) (hs : List (Str × Str)) : Prop where
  ld : ∀ z, lead = some z → Stm.mk z ∈ rowFlat r0
  fo : ∀ z ∈ fs, Stm.mk z ∈ rowFlat r1
  ho : ∀ h ∈ hs, ∃ vl, (h.1, vl) ∈ p ∧ h.2 ∈ vl
  lf : fs.length ≤ 6
  lh : hs.length ≤ 10
def Led (r0 : Row) (lead : Option Str) (s : Spot) : Prop := lead = none ∨ markAt r0 s.room = lead
def Held (p : Plan) (hs : List (Str × Str)) (st : List Str) : Prop := ∀ h ∈ hs, ∃ (j : Nat) (c : Str × List Str), p[j]? = some c ∧ c.1 = h.1 ∧ st[j]? = some h.2
def Fol (r1 : Row) (fs : List Str) (s : Spot) : Prop := ∀ z ∈ fs, fs.count z ≤ (s.rooms.map (markAt r1)).count (some z)
def Met (p : Plan) (r0 r1 : Row) (lead : Option Str) (fs : List Str) (hs : List (Str × Str)) (s : Spot) : Prop := Led r0 lead s ∧ Held p hs s.st ∧ Fol r1 fs s
def spAskedMany : Sp := fun vs H Q _ => ∃ n m : Nat, vs = [.int n, .int m] ∧ n ≤ m ∧ Q .non H
def spGameInit (K : PySem.W.Frag) : Sp := fun vs H Q _ => ∃ (G : Hp) (self dx b : Addr) (p : Plan) (r0 r1 : Row) (x0 x1 : V), vs = [.ref self, .ref b, x0, x1] ∧ Ex G H ∧ Mi G H self (.ins (cA K "Game") dx []) ∧ BdO K G b p ∧ PlanOk p ∧ PrgO K G r0 x0 ∧ PrgO K G r1 x1 ∧ RowOk p r0 ∧ RowOk p r1 ∧
  ∀ G' H' hp t m0 m1, Step (fun a => a = self) G H G' H' → Mi G' H' self (.ins (cA K "Game") dx [("plan", .ref b), ("hands", .ref hp), ("texts", t)]) → G' hp = some (.tup [.ref m0, .ref m1]) → MaO K G' m0 r0 → MaO K G' m1 r1 → Q .non H'
def spGMachine (K : PySem.W.Frag) : Sp := fun vs H Q _ => ∃ (G : Hp) (g : Addr) (p : Plan) (r0 r1 : Row), (∃ i : Nat, i < 2 ∧ vs = [.ref g, .int i] ∧ ∀ m, MaO K G m (if i = 0 then r0 else r1) → Q (.ref m) H) ∧ Ex G H ∧ GaO K G g p r0 r1
def spGBoard (K : PySem.W.Frag) : Sp := fun vs H Q _ => ∃ (G : Hp) (g : Addr) (p : Plan) (r0 r1 : Row), vs = [.ref g] ∧ Ex G H ∧ GaO K G g p r0 r1 ∧ ∀ b, BdO K G b p → Q (.ref b) H
def spBegin (K : PySem.W.Frag) : Sp := fun vs H Q _ => ∃ (G : Hp) (g : Addr) (p : Plan) (r0 r1 : Row) (n : Nat), vs = [.ref g, .int n] ∧ Ex G H ∧ GaO K G g p r0 r1 ∧ PlanOk p ∧ 1 ≤ n ∧ n ≤ 6 ∧
  ∀ G' H' v, Step NoW G H G' H' → Rep G' (Spot.d ⟨0, p.map fstOf, List.replicate n 0⟩) v → Q v H'
def spAskedOf (K : PySem.W.Frag) : Sp := fun vs H Q _ => ∃ (G : Hp) (g q : Addr) (p : Plan) (r0 r1 : Row) (lead : Option Str) (fs : List Str) (hs : List (Str × Str)), vs = [.ref g, .ref q] ∧ Ex G H ∧ GaO K G g p r0 r1 ∧ QuO K G q lead fs hs ∧ QOk p r0 r1 lead fs hs ∧
  rowSize r0 ≤ 24 ∧ rowSize r1 ≤ 24 ∧ ∀ H', Fr NoW H H' → Q .non H'
def spIsLed (K : PySem.W.Frag) : Sp := fun vs H Q _ => ∃ (G : Hp) (g q : Addr) (p : Plan) (r0 r1 : Row) (lead : Option Str) (fs : List Str) (hs : List (Str × Str)) (s : Spot), vs = [.ref g, .ref q, .int s.room] ∧ Ex G H ∧ GaO K G g p r0 r1 ∧ QuO K G q lead fs hs ∧ s.room ≤ rowSize r0 ∧
  ∀ b : Bool, (b = true ↔ Led r0 lead s) → Q (.bl b) H
def spIsHeld (K : PySem.W.Frag) : Sp := fun vs H Q _ => ∃ (G : Hp) (g q t : Addr) (p : Plan) (r0 r1 : Row) (lead : Option Str) (fs : List Str) (hs : List (Str × Str)) (st : List Str), vs = [.ref g, .ref q, .ref t] ∧ Ex G H ∧ GaO K G g p r0 r1 ∧ QuO K G q lead fs hs ∧ PlanOk p ∧ QOk p r0 r1 lead fs hs ∧
  G t = some (.tup (st.map V.str)) ∧ st.length = p.length ∧ ∀ (b : Bool) H', (b = true ↔ Held p hs st) → Fr NoW H H' → Q (.bl b) H'
def spMarksAt (K : PySem.W.Frag) : Sp := fun vs H Q _ => ∃ (G : Hp) (g t : Addr) (p : Plan) (r0 r1 : Row) (ns : List Nat) (xs : List V), vs = [.ref g, .ref t] ∧ Ex G H ∧ GaO K G g p r0 r1 ∧ G t = some (.tup xs) ∧ RepL G (natsD ns) xs ∧ ns.length ≤ 20 ∧ (∀ n ∈ ns, n ≤ rowSize r1) ∧
  ∀ G' H' l, Step NoW G H G' H' → G' l = some (.lst ((ns.map (markAt r1)).map optV)) → Q (.ref l) H'
def spMet (K : PySem.W.Frag) : Sp := fun vs H Q _ => ∃ (G : Hp) (g q : Addr) (p : Plan) (r0 r1 : Row) (lead : Option Str) (fs : List Str) (hs : List (Str × Str)) (s : Spot) (x : V), vs = [.ref g, .ref q, x] ∧ Ex G H ∧ GaO K G g p r0 r1 ∧ QuO K G q lead fs hs ∧ PlanOk p ∧ QOk p r0 r1 lead fs hs ∧
  SpotOk p r0 r1 s ∧ Rep G s.d x ∧ rowSize r0 ≤ 24 ∧ rowSize r1 ≤ 24 ∧ ∀ (b : Bool) H', (b = true ↔ Met p r0 r1 lead fs hs s) → Fr NoW H H' → Q (.bl b) H'
theorem nats_vs {G : Hp} {l : List Nat} {xs : List V} (h : RepL G (natsD l) xs) : xs = l.map fun n : Nat => V.int n := by
  have := RepL.ints (l := l.map fun n => ((n : Nat) : Int)) (xs := xs) (by rw [List.map_map]; exact h)
  rw [this, List.map_map]; rfl
theorem nats_rep {G : Hp} (l : List Nat) : RepL G (natsD l) (l.map fun n : Nat => V.int n) := by
  have := RepL.of_ints (G := G) (l.map fun n => ((n : Nat) : Int))
  rw [List.map_map, List.map_map] at this
  exact this
section
variable {P : Program} {w : World} {K : PySem.W.Frag} {mg : Str → Option Value} {base : Heap}
theorem ok_asked_many (T : Txt K mg) : Cal P w K mg base 1 "asked_many" P_asked_many spAskedMany := by
  refine Cal.of T.fn_asked_many sc_asked_many (fun vs H Q E h => ?_) (fun f cdv A outer s H vs Q E hr h => ?_)
  · obtain ⟨_, _, rfl, _⟩ := h; rfl
  · obtain ⟨n, m, rfl, h, k⟩ := h
    refine ⟨_, (pss_one (ps_if (pt_not (pt_chain op_le op_le pe_int (pv 0) (pv 1)))
      pss_never
      pss_nil)), ?_⟩
    exact ⟨_, rfl, _, _, rfl, rfl, _, rfl, ifT (dT (by omega)) ⟨_, rfl, _, _, rfl, rfl, _, rfl, ifF (nD (by omega)) k⟩⟩
theorem ok_Game_init {k : Nat} (T : Txt K mg) (c_Machine : CalC P w K mg base k (cA K "Machine") P_Machine_init [] (spMachineInit K)) : CalC P w K mg base (k + 2) (cA K "Game") P_Game_init [] (spGameInit K) := by
  refine CalC.of T.in_Game sc_Game_init (fun vs H Q E h => ?_) (fun f cdv A outer s H vs Q E hr h => ?_)
  · obtain ⟨_, _, _, _, _, _, _, _, _, rfl, _⟩ := h; rfl
  · obtain ⟨G, self, dx, b, p, r0, r1, x0, x1, rfl, e, m0, hb, okp, hp0, hp1, ok0, ok1, k⟩ := h
    refine ⟨_, (pss_cons (k_sfld K (pv 0) (pv 1))
    (pss_cons (k_sfld K (pv 0) (pe_tup (pa_cons (pcc c_Machine (hr.mono (by first | decide | omega)) T.g_Machine .nil (pa_cons (pv 1) (pa_cons (pv 2) pa_nil))) (pa_cons (pcc c_Machine (hr.mono (by first | decide | omega)) T.g_Machine .nil (pa_cons (pv 1) (pa_cons (pv 3) pa_nil))) pa_nil))))
    (pss_one (k_sfld K (pv 0) (pe_tup (pa_cons (pv 2) (pa_cons (pv 3) pa_nil))))))), ?_⟩
    refine ⟨_, rfl, _, rfl, self, _, dx, _, rfl, m0.h, T.cl_Game, T.n_Game_plan, by decide, ?_⟩
    generalize e1 : upd H self _ = H1
    obtain ⟨S1, M1, _⟩ := (Step.refl (W := fun a => a = self) e).mutE (.inl rfl) m0 e1
    refine ⟨_, rfl, _, rfl, fun a0 dx0 na0 nd0 ne0 => ?_⟩
    generalize e2 : upd (upd H1 dx0 _) a0 _ = H2
    obtain ⟨s2, A2⟩ := madeE S1.gh na0 nd0 ne0 e2
    refine ⟨G, a0, dx0, b, p, r0, x0, rfl, s2.gh, A2, hb, okp, hp0, ok0, fun G3 H3 pl0 ex0 px0 es0 s3 A3 h1 h2 h3 h4 => ⟨rfl, ?_⟩⟩
    obtain ⟨G4, s4, e4, g4⟩ := initE s2 na0 s3 A3
    have S4 := S1.trans s4
    have M4 := M1.go s4
    have ma0 : MaO K G4 a0 r0 := ⟨dx0, b, x0, pl0, ex0, px0, es0, g4, e4 _ _ h1, h2.up stmO_mono e4, e4 _ _ h3, h4⟩
    refine ⟨_, rfl, _, rfl, fun a1 dx1 na1 nd1 ne1 => ?_⟩
    generalize e5 : upd (upd H3 dx1 _) a1 _ = H5
    obtain ⟨s5, A5⟩ := madeE S4.gh na1 nd1 ne1 e5
    refine ⟨G4, a1, dx1, b, p, r1, x1, rfl, s5.gh, A5, hb.up S4.eg, okp, hp1.up S4.eg, ok1, fun G6 H6 pl1 ex1 px1 es1 s6 A6 h1 h2 h3 h4 => ⟨rfl, ?_⟩⟩
    obtain ⟨G7, s7, e7, g7⟩ := initE s5 na1 s6 A6
    have S7 := S4.trans s7
    have M7 := M4.go s7
    have ma1 : MaO K G7 a1 r1 := ⟨dx1, b, x1, pl1, ex1, px1, es1, g7, e7 _ _ h1, h2.up stmO_mono e7, e7 _ _ h3, h4⟩
    refine ⟨zs, fun hp nhp => ?_⟩
    generalize e8 : upd H6 hp _ = H8
    obtain ⟨G8, S8, s8, g8⟩ := S7.newDE nhp e8
    have M8 := M7.go s8
    refine ⟨_, rfl, self, _, dx, _, rfl, M8.h, T.cl_Game, T.n_Game_hands, ln1, ?_⟩
    generalize e9 : upd H8 self _ = H9
    obtain ⟨S9, M9, _⟩ := S8.mutE (.inl rfl) M8 e9
    refine ⟨_, rfl, _, rfl, zs, fun tp ntp => ?_⟩
    generalize e10 : upd H9 tp _ = H10
    obtain ⟨S10, s10, _⟩ := S9.newME ntp e10
    have M10 := M9.go s10
    refine ⟨_, rfl, self, _, dx, _, rfl, M10.h, T.cl_Game, T.n_Game_texts, ln2, ?_⟩
    generalize e11 : upd H10 self _ = H11
    obtain ⟨S11, M11, _⟩ := S10.mutE (.inl rfl) M10 e11
    exact k G8 H11 hp _ a0 a1 S11 M11 g8 (ma0.up (s7.eg.trans s8.eg)) (ma1.up s8.eg)
theorem ok_GMachine (T : Txt K mg) : CalM P w K mg base 1 (cA K "Game") "machine" P_Game_machine (spGMachine K) := by
  refine CalM.of T.mt_Game_machine sc_Game_machine (fun vs H Q E h => ?_) (fun f cdv A outer s H vs Q E hr h => ?_)
  · obtain ⟨_, _, _, _, _, ⟨_, _, rfl, _⟩, _⟩ := h; rfl
  · obtain ⟨G, g, p, r0, r1, ⟨i, hi, rfl, k⟩, e, hg⟩ := h
    obtain ⟨dx, b, hp, m0, m1, t, h1, h2, h3, h4, h5⟩ := hg.ex
    refine ⟨_, (pss_one (ps_ret (pe_ix (k_ixT K) (k_fld K (pv 0)) (pv 1) (fun _ _ => rfl)))), ?_⟩
    refine ⟨_, rfl, g, _, dx, _, _, rfl, e _ _ h1, T.cl_Game, T.n_Game_hands, rfl, _, rfl, hp, _, (i : Nat), .ref (if i = 0 then m0 else m1), rfl, rfl, sqT h3 e, at_nat ?_, k _ ?_⟩
    · match i, hi with
      | 0, _ => rfl
      | 1, _ => rfl
    · match i, hi with
      | 0, _ => exact h4
      | 1, _ => exact h5
theorem ok_GBoard (T : Txt K mg) : CalM P w K mg base 1 (cA K "Game") "board" P_Game_board (spGBoard K) := by
  refine CalM.of T.mt_Game_board sc_Game_board (fun vs H Q E h => ?_) (fun f cdv A outer s H vs Q E hr h => ?_)
  · obtain ⟨_, _, _, _, _, rfl, _⟩ := h; rfl
  · obtain ⟨G, g, p, r0, r1, rfl, e, hg, k⟩ := h
    obtain ⟨dx, b, hp, m0, m1, t, h1, h2, h3, h4, h5⟩ := hg.ex
    refine ⟨_, (pss_one (ps_ret (k_fld K (pv 0)))), ?_⟩
    exact ⟨_, rfl, g, _, dx, _, _, rfl, e _ _ h1, T.cl_Game, T.n_Game_plan, rfl, k b h2⟩
theorem ok_begin {k : Nat} (T : Txt K mg) (c_asked_many : Cal P w K mg base k "asked_many" P_asked_many spAskedMany) (c_Board_first : CalM P w K mg base k (cA K "Board") "first" P_Board_first (spFirst K)) : CalM P w K mg base (k + 1) (cA K "Game") "begin" P_Game_begin (spBegin K) := by
  refine CalM.of T.mt_Game_begin sc_Game_begin (fun vs H Q E h => ?_) (fun f cdv A outer s H vs Q E hr h => ?_)
  · obtain ⟨_, _, _, _, _, _, rfl, _⟩ := h; rfl
  · obtain ⟨G, g, p, r0, r1, n, rfl, e, hg, okp, n1, n6, k⟩ := h
    obtain ⟨dx, b, hp, m0, m1, t, h1, h2, h3, h4, h5⟩ := hg.ex
    obtain ⟨dxb, np, rp, rows, hb1, _⟩ := h2.ex
    refine ⟨_, (pss_cons (ps_expr (pc c_asked_many (hr.mono (by first | decide | omega)) (pa_cons (pv 1) (pa_cons (pk_int T.k_MOST_FOLLOWERS) pa_nil))))
    (pss_one (ps_ret (pe_tup (pa_cons pe_int (pa_cons (cm0 c_Board_first (hr.mono (by first | decide | omega)) (k_fld K (pv 0))) (pa_cons (pe_op (k_repA K) (pe_tup (pa_cons pe_int pa_nil)) (pv 1)) pa_nil))))))), ?_⟩
    refine ⟨_, rfl, n, 400, rfl, by omega, ?_⟩
    refine ⟨_, rfl, g, _, dx, _, _, rfl, e _ _ h1, T.cl_Game, T.n_Game_plan, rfl, b, dxb, _, rfl, e _ _ hb1, rfl, G, b, p, rfl, e, h2, okp, fun G1 H1 t1 s1 g1 => ?_⟩
    refine ⟨zs, fun t2 nt2 => ?_⟩
    generalize e2 : upd H1 t2 _ = H2
    obtain ⟨G2, S2, s2, g2⟩ := s1.newDE nt2 e2
    by_cases h : n = 1
    · subst h
      refine ⟨_, rfl, .inr ⟨t2, _, rfl, rfl, sqT g2 S2.gh, zs, fun u nu => ?_⟩⟩
      generalize e3 : upd H2 u _ = H3
      obtain ⟨G3, S3, s3, g3⟩ := S2.newDE nu e3
      exact k _ _ _ S3 (rep_tup g3 ⟨_, _, rfl, rfl, _, _, rfl, ⟨t1, _, rfl, s3.eg _ _ (s2.eg _ _ g1), RepL.of_strs _⟩, _, _, rfl, ⟨t2, _, rfl, s3.eg _ _ g2, nats_rep [0]⟩, rfl⟩)
    · refine ⟨_, rfl, .inl ⟨t2, n, _, rfl, rfl, sqT g2 S2.gh, by simp, by omega, by omega, by simp, fun t3 nt3 => ?_⟩⟩
      generalize e3 : upd H2 t3 _ = H3
      obtain ⟨G3, S3, s3, g3⟩ := S2.newDE nt3 e3
      refine ⟨zs, fun u nu => ?_⟩
      generalize e4 : upd H3 u _ = H4
      obtain ⟨G4, S4, s4, g4⟩ := S3.newDE nu e4
      have er : (List.replicate (n : Int).toNat [V.int 0]).flatten = (List.replicate n 0).map fun n : Nat => V.int n := by
        rw [Int.toNat_natCast]
        clear k nu nt3 e3 s3 S3 S4 s4 e4 g3 g4 n1 n6 h
        induction n with
        | zero => rfl
        | succ n ih => rw [List.replicate_succ, List.flatten_cons, ih]; rfl
      rw [er] at g3
      exact k _ _ _ S4 (rep_tup g4 ⟨_, _, rfl, rfl, _, _, rfl, ⟨t1, _, rfl, s4.eg _ _ (s3.eg _ _ (s2.eg _ _ g1)), RepL.of_strs _⟩, _, _, rfl, ⟨t3, _, rfl, s4.eg _ _ g3, nats_rep _⟩, rfl⟩)
end
end K4

set_option maxHeartbeats 4000000
/-! Whether a moment meets a question. -/
namespace K4
open PySem L2
theorem decOptV (a b : Option Str) : decide (optV a = optV b) = decide (a = b) := by
  cases a <;> cases b <;> simp [optV]
theorem scalOpt (a b : Option Str) : scal (optV a) (optV b) = true := by cases a <;> cases b <;> rfl
theorem flat_opt (l : List (Option Str)) : (l.map optV).all flatV = true := by
  rw [List.all_eq_true]
  intro x hx
  obtain ⟨z, _, rfl⟩ := List.mem_map.mp hx
  cases z <;> rfl
theorem eqV_opt (a : Option Str) (z : Str) : eqV (optV a) (.str z) = (a == some z) := by
  cases a with
  | none => rfl
  | some y =>
    show (y == z) = _
    by_cases h : y = z
    · subst h; simp
    · have : (y == z) = false := beq_eq_false_iff_ne.mpr h
      rw [this]
      symm
      exact beq_eq_false_iff_ne.mpr (fun e => h (Option.some.inj e))
theorem cnt_opt (z : Str) (l : List (Option Str)) : cntV (.str z) (l.map optV) = l.count (some z) := by
  unfold cntV List.count
  rw [List.countP_map]
  congr 1
  funext a
  exact eqV_opt a z
theorem cnt_str (z : Str) (l : List Str) : cntV (.str z) (l.map V.str) = l.count z := by
  unfold cntV List.count
  rw [List.countP_map]
  congr 1
section
variable {P : Program} {w : World} {K : PySem.W.Frag} {mg : Str → Option Value} {base : Heap}
theorem ok_asked_of {k : Nat} (T : Txt K mg) (c_Machine_marks : CalM P w K mg base k (cA K "Machine") "marks" P_Machine_marks (spMarks K)) (c_Game_machine : CalM P w K mg base k (cA K "Game") "machine" P_Game_machine (spGMachine K))
    (c_Game_board : CalM P w K mg base k (cA K "Game") "board" P_Game_board (spGBoard K)) (c_Board_asked : CalM P w K mg base k (cA K "Board") "asked" P_Board_asked (spBAsked K)) : Cal P w K mg base (k + 1) "asked_of" P_asked_of (spAskedOf K) := by
  refine Cal.of T.fn_asked_of sc_asked_of (fun vs H Q E h => ?_) (fun f cdv A outer s H vs Q E hr h => ?_)
  · obtain ⟨_, _, _, _, _, _, _, _, _, rfl, _⟩ := h; rfl
  · obtain ⟨G, g, q, p, r0, r1, lead, fs, hs, rfl, e, hg, hq, ok, z0, z1, k⟩ := h
    obtain ⟨dx, b, hp, m0, m1, t, h1, h2, h3, h4, h5⟩ := hg.ex
    obtain ⟨dxq, fp, op, hv, q1, q2, q3, q4⟩ := hq.ex
    refine ⟨_, (pss_cons (ps_if (PW.pt (pw_and (pt_cmpR op_notN (k_fld K (pv 1)) pe_non (by first | exact nomark _ | rfl)) (pw_and1 (pt_cmpR (k_ninS K) (k_fld K (pv 1)) (cm0 c_Machine_marks (hr.mono (by first | decide | omega)) (cm c_Game_machine (hr.mono (by first | decide | omega)) (pv 0) (pa_cons pe_int pa_nil))) (by first | exact nomark _ | rfl)))))
      pss_never
      pss_nil)
    (pss_cons (ps_set (i := 2) sc_asked_of.nd rfl (Or.inl rfl) (cm0 c_Machine_marks (hr.mono (by first | decide | omega)) (cm c_Game_machine (hr.mono (by first | decide | omega)) (pv 0) (pa_cons pe_int pa_nil))))
    (pss_cons (ps_for PassesOwn.never rfl (k_tup K (k_fld K (pv 1))) (pg_name (i := 3) sc_asked_of.nd rfl (Or.inl rfl))
      (pss_one (ps_if (pt_cmpR (k_ninS K) (pv 3) (pv 2) (by first | exact nomark _ | rfl))
        pss_never
        pss_nil)))
    (pss_one (ps_for PassesOwn.never rfl (k_tup K (k_fld K (pv 1))) (k_gtup K (n := 2) rfl (pgs_cons (pg_name (i := 4) sc_asked_of.nd rfl (Or.inl rfl)) (pgs_cons (pg_name (i := 5) sc_asked_of.nd rfl (Or.inl rfl)) pgs_nil)))
      (pss_one (ps_expr (cm c_Board_asked (hr.mono (by first | decide | omega)) (cm0 c_Game_board (hr.mono (by first | decide | omega)) (pv 0)) (pa_cons (pv 4) (pa_cons (pv 5) pa_nil)))))))))), ?_⟩
    refine seqJ (fun σ' H1 => Step NoW G H G H1 ∧ σ' = start N_asked_of [.ref g, .ref q]) (fun C => ?_) ?_
    · refine ⟨_, rfl, q, _, dxq, _, _, rfl, e _ _ q1, T.cl_Question, T.n_Question_lead, rfl, rfl, _, rfl, if2 (fun hl => ?_) (fun hl => C _ _ ⟨Step.refl e, rfl⟩)⟩
      cases lead with
      | none => simp [optV] at hl
      | some z =>
        refine ⟨_, rfl, q, _, dxq, _, _, rfl, e _ _ q1, T.cl_Question, T.n_Question_lead, rfl, _, rfl, g, dx, _, rfl, e _ _ h1, rfl, G, g, p, r0, r1, ⟨0, by omega, rfl, fun m hm => ?_⟩, e, hg⟩
        obtain ⟨dxm, b', pr, pl, ex, pxs, es, hm1, _⟩ := hm.ex
        refine ⟨m, dxm, _, rfl, e _ _ hm1, rfl, G, m, r0, rfl, e, hm, z0, fun G1 H1 l ms s1 g1 hms => ?_⟩
        refine ⟨l, _, rfl, .inl (sqL g1 s1.gh), rfl, flat_str _, _, rfl, ifF (nB ?_) (C _ _ ⟨s1.toFr.step e, rfl⟩)⟩
        show inV (.str z) _ = true
        rw [inV_str]
        exact dT ((hms z).mpr (ok.ld z rfl))
    · rintro σ' H1 ⟨S1, rfl⟩
      refine seqSet ⟨_, rfl, g, dx, _, rfl, S1.gh _ _ h1, rfl, G, g, p, r0, r1, ⟨1, by omega, rfl, fun m hm => ?_⟩, S1.gh, hg⟩
      obtain ⟨dxm, b', pr, pl, ex, pxs, es, hm1, _⟩ := hm.ex
      refine ⟨m, dxm, _, rfl, S1.gh _ _ hm1, rfl, G, m, r1, rfl, S1.gh, hm, z1, fun G2 H2 l ms s2 g2' hms => ?_⟩
      have S2 := S1.trans s2
      refine ⟨_, rfl, q, _, dxq, _, _, rfl, S2.gh _ _ (S2.eg _ _ q1), T.cl_Question, T.n_Question_follows, rfl, fp, rfl, ⟨_, (q2.up (S2.eg.trans S2.gh)).sq K⟩, ?_⟩
      refine for_tup (xs := fs.map V.str) (fun i σ H3 => H3 = H2 ∧ ∃ x y z, σ = [some (.ref g), some (.ref q), some (.ref l), x, y, z]) ⟨rfl, _, _, _, rfl⟩ (fun i σ H3 _ h => by rw [h.1]; exact (q2.up (S2.eg.trans S2.gh)).sq K) ?_ ?_
      · rintro i x σ H3 ex ⟨rfl, y1, y2, y3, rfl⟩
        obtain ⟨z, hz, rfl⟩ := map_some ex
        refine ⟨_, rfl, _, rfl, l, _, rfl, .inl (sqL g2' S2.gh), rfl, flat_str _, _, rfl, ifF (nB ?_) ⟨rfl, _, _, _, rfl⟩⟩
        rw [inV_str]
        exact dT ((hms z).mpr (ok.fo z (mem_of hz)))
      · rintro σ H3 ⟨rfl, y1, y2, y3, rfl⟩
        refine ⟨_, rfl, q, _, dxq, _, _, rfl, S2.gh _ _ (S2.eg _ _ q1), T.cl_Question, T.n_Question_holds, rfl, op, rfl, ⟨_, (q3.up (S2.eg.trans S2.gh)).sq K⟩, ?_⟩
        refine for_tup (xs := hv) (fun i σ H4 => Step NoW G H G2 H4 ∧ ∃ x y z, σ = [some (.ref g), some (.ref q), some (.ref l), x, y, z]) ⟨S2, _, _, _, rfl⟩ (fun i σ H4 _ h => (q3.up (h.1.eg.trans h.1.gh)).sq K) ?_ ?_
        · rintro i x σ H4 ex ⟨S4, y1, y2, y3, rfl⟩
          obtain ⟨h, hh, rh⟩ := q4.map ex
          obtain ⟨bb, xs, rfl, gb, rb⟩ := rh.tup
          obtain ⟨u, v, rfl, ru, rv⟩ := rb.l2
          cases ru; cases rv
          obtain ⟨vl, hvl, hv2⟩ := ok.ho h (mem_of hh)
          have e4 := S4.eg.trans S4.gh
          obtain ⟨dxb, np, rp, rows, hb1, _⟩ := h2.ex
          refine g2 (.of (e4 _ _ gb)) ⟨_, rfl, g, dx, _, rfl, e4 _ _ h1, rfl, G, g, p, r0, r1, rfl, e4, hg, fun b2 hb2 => ?_⟩
          obtain ⟨dxb2, np2, rp2, rows2, hb21, _⟩ := hb2.ex
          exact ⟨b2, dxb2, _, rfl, e4 _ _ hb21, rfl, _, rfl, _, rfl, G, b2, p, (h.1, vl), h.2, rfl, e4, hb2, hvl, hv2, fun H5 f5 => ⟨S4.trans (f5.step S4.gh), _, _, _, rfl⟩⟩
        · rintro σ H4 ⟨S4, y1, y2, y3, rfl⟩
          exact k _ S4.toFr
theorem ok_is_led {k : Nat} (T : Txt K mg) (c_Machine_mark_of : CalM P w K mg base k (cA K "Machine") "mark_of" P_Machine_mark_of (spMarkOf K)) (c_Game_machine : CalM P w K mg base k (cA K "Game") "machine" P_Game_machine (spGMachine K)) : Cal P w K mg base (k + 1) "is_led" P_is_led (spIsLed K) := by
  refine Cal.of T.fn_is_led sc_is_led (fun vs H Q E h => ?_) (fun f cdv A outer s H vs Q E hr h => ?_)
  · obtain ⟨_, _, _, _, _, _, _, _, _, _, rfl, _⟩ := h; rfl
  · obtain ⟨G, g, q, p, r0, r1, lead, fs, hs, s, rfl, e, hg, hq, hrm, k⟩ := h
    obtain ⟨dx, b, hp, m0, m1, t, h1, h2, h3, h4, h5⟩ := hg.ex
    obtain ⟨dxq, fp, op, hv, q1, q2, q3, q4⟩ := hq.ex
    refine ⟨_, (pss_one (ps_ret (pe_or (pe_cmpR op_isN (k_fld K (pv 1)) pe_non (by first | exact nomark _ | rfl)) (pe_one (pe_cmpR op_eq (cm c_Machine_mark_of (hr.mono (by first | decide | omega)) (cm c_Game_machine (hr.mono (by first | decide | omega)) (pv 0) (pa_cons pe_int pa_nil)) (pa_cons (pv 2) pa_nil)) (k_fld K (pv 1)) (by first | exact nomark _ | rfl)))))), ?_⟩
    refine ⟨_, rfl, q, _, dxq, _, _, rfl, e _ _ q1, T.cl_Question, T.n_Question_lead, rfl, rfl, _, rfl, if2 (fun hl => ?_) (fun hl => ?_)⟩
    · have : lead = none := by
        cases lead with
        | none => rfl
        | some z => simp [optV] at hl
      exact k true ⟨fun _ => .inl this, fun _ => rfl⟩
    · have nl : lead ≠ none := by
        rintro rfl
        simp [optV] at hl
      refine ⟨_, rfl, g, dx, _, rfl, e _ _ h1, rfl, G, g, p, r0, r1, ⟨0, by omega, rfl, fun m hm => ?_⟩, e, hg⟩
      obtain ⟨dxm, b', pr, pl, ex, pxs, es, hm1, _⟩ := hm.ex
      refine ⟨m, dxm, _, rfl, e _ _ hm1, rfl, _, rfl, G, m, r0, s.room, rfl, e, hm, hrm, ?_⟩
      refine ⟨_, rfl, q, _, dxq, _, _, rfl, e _ _ q1, T.cl_Question, T.n_Question_lead, rfl, scalOpt _ _, k _ ?_⟩
      rw [decOptV, decide_eq_true_iff]
      constructor
      · exact .inr
      · rintro (h | h)
        · exact absurd h nl
        · exact h
theorem ok_is_held {k : Nat} (T : Txt K mg) (c_Board_value_at : CalM P w K mg base k (cA K "Board") "value_at" P_Board_value_at (spValueAt K)) (c_Game_board : CalM P w K mg base k (cA K "Game") "board" P_Game_board (spGBoard K)) : Cal P w K mg base (k + 1) "is_held" P_is_held (spIsHeld K) := by
  refine Cal.of T.fn_is_held sc_is_held (fun vs H Q E h => ?_) (fun f cdv A outer s H vs Q E hr h => ?_)
  · obtain ⟨_, _, _, _, _, _, _, _, _, _, _, rfl, _⟩ := h; rfl
  · obtain ⟨G, g, q, t, p, r0, r1, lead, fs, hs, st, rfl, e, hg, hq, okp, ok, ht, lst, k⟩ := h
    obtain ⟨dx, b, hp, m0, m1, t', h1, h2, h3, h4, h5⟩ := hg.ex
    obtain ⟨dxq, fp, op, hv, q1, q2, q3, q4⟩ := hq.ex
    have lv := q4.len
    rw [List.length_map] at lv
    have lh := ok.lh
    refine ⟨_, (pss_one (ps_ret (pe_callB (k_all K rfl) (by rfl) T.f_all (by decide +kernel) (pa_cons (pe_lc (own := [("cell", 3), ("value", 4)]) (by rfl) sc_is_held.nd (k_tup K (k_fld K (pv 1))) (blkOk_by (own := [("cell", 3), ("value", 4)]) (N := N_is_held) (by kernel_rfl)) (fun _ _ _ _ _ => (k_gtup K (n := 2) rfl (pgs_cons (pg_name (i := 3) sc_is_held.nd rfl (Or.inl rfl)) (pgs_cons (pg_name (i := 4) sc_is_held.nd rfl (Or.inl rfl)) pgs_nil)))) (fun _ _ _ _ _ => pts_nil) (fun _ _ _ _ _ => (pe_cmpR op_eq (cm c_Board_value_at (hr.mono (by first | decide | omega)) (cm0 c_Game_board (hr.mono (by first | decide | omega)) (pv 0)) (pa_cons (pv 2) (pa_cons (pv 3) pa_nil))) (pv 4) (by first | exact nomark _ | rfl)))) pa_nil)))), ?_⟩
    refine ⟨_, rfl, q, _, dxq, _, _, rfl, e _ _ q1, T.cl_Question, T.n_Question_holds, rfl, op, rfl, ⟨_, (q3.up e).sq K⟩, fun L nL => ?_⟩
    refine lcC (walk_tup (xs := hv)) (by omega) e nL (fun H2 e2 => (q3.up (e.trans e2)).sq K) (fun i _ acc => ∃ bs : List Bool, acc = bs.map V.bl ∧ (bs.all id = true ↔ Held p (hs.take i) st)) ⟨[], rfl, by simp [Held]⟩ ?_ ?_
    · rintro i x G2 H2 H2' acc K1 K0 hi s2 ⟨bs, rfl, hbs⟩ ⟨rfl, ex⟩ k1 k0
      obtain ⟨h, hh, rh⟩ := q4.map ex
      obtain ⟨bb, xs, rfl, gb, rb⟩ := rh.tup
      obtain ⟨u, v, rfl, ru, rv⟩ := rb.l2
      cases ru; cases rv
      obtain ⟨vl, hvl, hv2⟩ := ok.ho h (mem_of hh)
      have e2 := s2.eg.trans s2.gh
      obtain ⟨j, hj⟩ := List.getElem?_of_mem hvl
      have hjs : j < st.length := by rw [lst]; exact lt_of_some hj
      obtain ⟨v, hv3⟩ := some_of hjs
      refine g2 (.of (e2 _ _ gb)) ⟨rfl, _, rfl, g, dx, _, rfl, e2 _ _ h1, rfl, G, g, p, r0, r1, rfl, e2, hg, fun b2 hb2 => ?_⟩
      obtain ⟨dxb2, np2, rp2, rows2, hb21, _⟩ := hb2.ex
      refine ⟨b2, dxb2, _, rfl, e2 _ _ hb21, rfl, _, rfl, _, rfl, G, b2, t, p, st, j, (h.1, vl), v, rfl, e2, hb2, okp, ht, hj, hv3, ?_⟩
      refine ⟨_, rfl, rfl, k1 _ _ _ (Step.refl s2.gh) ⟨bs ++ [decide (v = h.2)], ?_, ?_⟩⟩
      · rw [List.map_append]
        have : decide (V.str v = V.str h.2) = decide (v = h.2) := by simp
        rw [this]; rfl
      · rw [List.all_append, Bool.and_eq_true, hbs, take_snoc hh]
        simp only [List.all_cons, List.all_nil, Bool.and_true, id, decide_eq_true_iff]
        constructor
        · rintro ⟨h1, h2⟩ y hy
          rcases List.mem_append.mp hy with hy | hy
          · exact h1 y hy
          · rw [List.mem_singleton.mp hy]
            exact ⟨j, _, hj, rfl, by rw [hv3, h2]⟩
        · intro hall
          refine ⟨fun y hy => hall y (List.mem_append_left _ hy), ?_⟩
          obtain ⟨j', c, hc, hc1, hst⟩ := hall h (List.mem_append_right _ (List.mem_singleton.mpr rfl))
          have e1 : (p.map Prod.fst)[j]? = some h.1 := by rw [List.getElem?_map, hj]; rfl
          have e2 : (p.map Prod.fst)[j']? = some h.1 := by rw [List.getElem?_map, hc]; exact congrArg some hc1
          have := (List.getElem?_inj (lt_of_some e1) okp.nd).mp (e1.trans e2.symm)
          subst this
          rw [hv3] at hst
          exact Option.some.inj hst
    · rintro G2 H2 ys s2 hL gL _ ⟨bs, rfl, hbs⟩
      rw [lv, List.take_length] at hbs
      exact ⟨L, bs, rfl, .of hL, k _ _ hbs s2.toFr⟩
theorem ok_marks_at {k : Nat} (T : Txt K mg) (c_Machine_mark_of : CalM P w K mg base k (cA K "Machine") "mark_of" P_Machine_mark_of (spMarkOf K)) (c_Game_machine : CalM P w K mg base k (cA K "Game") "machine" P_Game_machine (spGMachine K)) : Cal P w K mg base (k + 1) "marks_at" P_marks_at (spMarksAt K) := by
  refine Cal.of T.fn_marks_at sc_marks_at (fun vs H Q E h => ?_) (fun f cdv A outer s H vs Q E hr h => ?_)
  · obtain ⟨_, _, _, _, _, _, _, _, rfl, _⟩ := h; rfl
  · obtain ⟨G, g, t, p, r0, r1, ns, xs, rfl, e, hg, ht, rx, ln, hn, k⟩ := h
    obtain ⟨dx, b, hp, m0, m1, t', h1, h2, h3, h4, h5⟩ := hg.ex
    cases nats_vs rx
    refine ⟨_, (pss_one (ps_ret (pe_lc (own := [("room", 2)]) (by rfl) sc_marks_at.nd (k_tup K (pv 1)) (blkOk_by (own := [("room", 2)]) (N := N_marks_at) (by kernel_rfl)) (fun _ _ _ _ _ => (pg_name (i := 2) sc_marks_at.nd rfl (Or.inl rfl))) (fun _ _ _ _ _ => pts_nil) (fun _ _ _ _ _ => (cm c_Machine_mark_of (hr.mono (by first | decide | omega)) (cm c_Game_machine (hr.mono (by first | decide | omega)) (pv 0) (pa_cons pe_int pa_nil)) (pa_cons (pv 2) pa_nil)))))), ?_⟩
    refine ⟨_, rfl, t, rfl, ⟨_, sqT ht e⟩, fun L nL => ?_⟩
    refine lcD ns (fun n => some (optD (markAt r1 n))) (walkT (by simp)) (by omega) e nL (fun H2 e2 => sqT ht (e.trans e2)) ?_ ?_
    · rintro i n x G2 H2 H2' K1 K0 hi s2 ⟨rfl, ex⟩ k1 k0
      rw [List.getElem?_map, hi] at ex
      cases ex
      have e2 := s2.eg.trans s2.gh
      refine ⟨rfl, _, rfl, g, dx, _, rfl, e2 _ _ h1, rfl, G, g, p, r0, r1, ⟨1, by omega, rfl, fun m hm => ?_⟩, e2, hg⟩
      obtain ⟨dxm, b', pr, pl, ex, pxs, es, hm1, _⟩ := hm.ex
      exact ⟨m, dxm, _, rfl, e2 _ _ hm1, rfl, _, rfl, G, m, r1, n, rfl, e2, hm, hn n (mem_of hi), k1 _ _ _ _ rfl (Step.refl s2.gh) (rep_optV _)⟩
    · rintro G2 H2 ys s2 hL gL ry
      obtain ⟨G3, S3, e3, g3, _⟩ := s2.frzE nL ⟨hL, gL⟩
      have : ys = (ns.map (markAt r1)).map optV := by
        rw [filterMap_some] at ry
        clear hL g3 k hn rx ht ln
        induction ns generalizing ys with
        | nil => exact ry
        | cons n ns ih =>
          obtain ⟨x, r, rfl, hx, hr⟩ := ry.c1
          rw [rep_optD hx, ih _ hr]; rfl
      subst this
      exact k _ _ L S3 g3
theorem ok_met {k : Nat} (T : Txt K mg) (c_asked_of : Cal P w K mg base k "asked_of" P_asked_of (spAskedOf K)) (c_is_led : Cal P w K mg base k "is_led" P_is_led (spIsLed K)) (c_is_held : Cal P w K mg base k "is_held" P_is_held (spIsHeld K)) (c_marks_at : Cal P w K mg base k "marks_at" P_marks_at (spMarksAt K)) :
    Cal P w K mg base (k + 1) "met" P_met (spMet K) := by
  refine Cal.of T.fn_met sc_met (fun vs H Q E h => ?_) (fun f cdv A outer s H vs Q E hr h => ?_)
  · obtain ⟨_, _, _, _, _, _, _, _, _, _, _, rfl, _⟩ := h; rfl
  · obtain ⟨G, g, q, p, r0, r1, lead, fs, hs, s, x, rfl, e, hg, hq, okp, ok, oks, rs, z0, z1, k⟩ := h
    obtain ⟨dxq, fp, op, hv, q1, q2, q3, q4⟩ := hq.ex
    obtain ⟨a, xs, rfl, ga, rx⟩ := rs.tup
    obtain ⟨x1, x2, x3, rfl, hx1, hx2, hx3⟩ := rx.l3
    cases hx1
    obtain ⟨t2, ys2, rfl, gt2, r2⟩ := hx2.tup
    cases r2.strs
    obtain ⟨t3, ys3, rfl, gt3, r3⟩ := hx3.tup
    refine ⟨_, (pss_cons (ps_expr (pc c_asked_of (hr.mono (by first | decide | omega)) (pa_cons (pv 0) (pa_cons (pv 1) pa_nil))))
    (pss_cons (ps_asg (pv 2) (k_gtup K (n := 3) rfl (pgs_cons (pg_name (i := 3) sc_met.nd rfl (Or.inl rfl)) (pgs_cons (pg_name (i := 4) sc_met.nd rfl (Or.inl rfl)) (pgs_cons (pg_name (i := 5) sc_met.nd rfl (Or.inl rfl)) pgs_nil)))))
    (pss_cons (ps_if (PW.pt (pw_or (pt_not (pt_val (pc c_is_led (hr.mono (by first | decide | omega)) (pa_cons (pv 0) (pa_cons (pv 1) (pa_cons (pv 3) pa_nil)))))) (pw_or1 (pt_not (pt_val (pc c_is_held (hr.mono (by first | decide | omega)) (pa_cons (pv 0) (pa_cons (pv 1) (pa_cons (pv 4) pa_nil)))))))))
      (pss_one (ps_ret pe_bl))
      pss_nil)
    (pss_cons (ps_set (i := 6) sc_met.nd rfl (Or.inr rfl) (pc c_marks_at (hr.mono (by first | decide | omega)) (pa_cons (pv 0) (pa_cons (pv 5) pa_nil))))
    (pss_one (ps_ret (pe_callB (k_all K rfl) (by rfl) T.f_all (by decide +kernel) (pa_cons (pe_lc (own := [("name", 7)]) (by rfl) sc_met.nd (k_tup K (k_fld K (pv 1))) (blkOk_by (own := [("name", 7)]) (N := N_met) (by kernel_rfl)) (fun _ _ _ _ _ => (pg_name (i := 7) sc_met.nd rfl (Or.inl rfl))) (fun _ _ _ _ _ => pts_nil) (fun _ _ _ _ _ => (pe_cmpR op_ge (k_bm K PySem.F.plainAttrs_list PySem.F.slot_list_count PySem.F.type_list_count (k_cntL K) (pv 6) (pa_cons (pv 7) pa_nil)) (pe_mG ty_tupF PySem.F.plainAttrs_tuple PySem.F.slot_tuple_count PySem.F.type_tuple_count (k_cntT K) (k_fld K (pv 1)) (pa_cons (pv 7) pa_nil)) (by first | exact nomark _ | rfl)))) pa_nil)))))))), ?_⟩
    refine seqDrop ⟨_, rfl, _, rfl, G, g, q, p, r0, r1, lead, fs, hs, rfl, e, hg, hq, ok, z0, z1, fun H1 f1 => ?_⟩
    have e1 := e.trans f1.same
    refine seqAsg ⟨_, rfl, g3 (sqT ga e1) ?_⟩
    refine ⟨_, rfl, _, rfl, _, rfl, G, g, q, p, r0, r1, lead, fs, hs, s, rfl, e1, hg, hq, oks.room, fun b1 hb1 => ⟨_, rfl, ?_⟩⟩
    cases b1 with
    | false => exact k false _ ⟨fun h => (by cases h), fun h => (hb1.mpr h.1)⟩ f1
    | true =>
      refine ifF rfl ⟨_, rfl, _, rfl, _, rfl, G, g, q, t2, p, r0, r1, lead, fs, hs, s.st, rfl, e1, hg, hq, okp, ok, gt2, oks.len, fun b2 H2 hb2 f2 => ⟨_, rfl, ?_⟩⟩
      cases b2 with
      | false => exact k false _ ⟨fun h => (by cases h), fun h => (hb2.mpr h.2.1)⟩ (f1.trans f2)
      | true =>
        have e2 := e1.trans f2.same
        have S2 : Step NoW G H G H2 := (f1.trans f2).step e
        refine ifF rfl ⟨_, rfl, _, rfl, G, g, t3, p, r0, r1, s.rooms, ys3, rfl, e2, hg, gt3, r3, oks.few, oks.rooms, fun G3 H3 l s3 gl => ?_⟩
        have S3 := S2.trans s3
        have e3 := S3.eg.trans S3.gh
        refine ⟨_, rfl, q, _, dxq, _, _, rfl, e3 _ _ q1, T.cl_Question, T.n_Question_follows, rfl, fp, rfl, ⟨_, (q2.up e3).sq K⟩, fun L nL => ?_⟩
        refine lcC (walk_tup (xs := fs.map V.str)) (by have := ok.lf; rw [List.length_map]; omega) S3.gh nL (fun H4 e4 => (q2.up (e3.trans e4)).sq K)
          (fun i _ acc => ∃ bs : List Bool, acc = bs.map V.bl ∧ (bs.all id = true ↔ ∀ z ∈ fs.take i, fs.count z ≤ (s.rooms.map (markAt r1)).count (some z))) ⟨[], rfl, by simp⟩ ?_ ?_
        · rintro i x G4 H4 H4' acc K1 K0 hi s4 ⟨bs, rfl, hbs⟩ ⟨rfl, ex⟩ k1 k0
          obtain ⟨z, hz, rfl⟩ := map_some ex
          have e4 := (s3.eg.trans s4.eg).trans s4.gh
          have e04 : Ex G H4' := e4
          refine ⟨rfl, _, rfl, .inl ⟨rfl, _, sqL (s4.eg _ _ gl) s4.gh⟩, _, rfl, l, _, .str z, rfl, rfl, sqL (s4.eg _ _ gl) s4.gh, rfl, flat_opt _, ?_⟩
          refine ⟨_, rfl, q, _, dxq, _, _, rfl, e04 _ _ q1, T.cl_Question, T.n_Question_follows, rfl, ⟨fp, _, rfl, q2.up e04⟩, _, rfl, fp, _, .str z, rfl, rfl, (q2.up e04).sq K, rfl, flat_str _, ?_⟩
          refine ⟨_, _, rfl, rfl, k1 _ _ _ (Step.refl s4.gh) ⟨bs ++ [decide (fs.count z ≤ (s.rooms.map (markAt r1)).count (some z))], ?_, ?_⟩⟩
          · rw [List.map_append, cnt_opt, cnt_str]
            simp
          · rw [List.all_append, Bool.and_eq_true, hbs, take_snoc hz]
            simp only [List.all_cons, List.all_nil, Bool.and_true, id, decide_eq_true_iff]
            constructor
            · rintro ⟨h1, h2⟩ y hy
              rcases List.mem_append.mp hy with hy | hy
              · exact h1 y hy
              · rw [List.mem_singleton.mp hy]; exact h2
            · intro hall
              exact ⟨fun y hy => hall y (List.mem_append_left _ hy), hall z (List.mem_append_right _ (List.mem_singleton.mpr rfl))⟩
        · rintro G4 H4 ys s4 hL gL _ ⟨bs, rfl, hbs⟩
          rw [List.length_map, List.take_length] at hbs
          exact ⟨L, bs, rfl, .of hL, k _ _ (hbs.trans ⟨fun h => ⟨hb1.mp rfl, hb2.mp rfl, h⟩, fun h => h.2.2⟩) (S3.trans s4).toFr⟩
end
end K4

set_option maxHeartbeats 4000000
/-! The law's draws and words. -/
namespace K4
open PySem L2
/-- the well: what it holds, and at most c draws behind it -/
structure WO (G H : Hp) (wa : Addr) (c : Nat) : Prop where
  ex : ∃ a b n : Int, Mi G H wa (.lst [.int a, .int b, .int n]) ∧ 0 ≤ a ∧ 0 ≤ b ∧ b < 2147483647 ∧ 0 ≤ n ∧ n ≤ c
theorem WO.up {G H : Hp} {wa : Addr} {c d : Nat} (h : WO G H wa c) (l : c ≤ d) : WO G H wa d := by
  obtain ⟨a, b, n, m, h1, h2, h3, h4, h5⟩ := h.ex
  exact ⟨a, b, n, m, h1, h2, h3, h4, by omega⟩
theorem WO.go {W : Addr → Prop} {G H G' H' : Hp} {wa : Addr} {c : Nat} (h : WO G H wa c) (s : Step W G H G' H') (n : ¬ W wa := by exact fun h => h) : WO G' H' wa c := by
  obtain ⟨a, b, k, m, r⟩ := h.ex
  exact ⟨a, b, k, m.go s n, r⟩
theorem WO.get {G H : Hp} {wa : Addr} {c : Nat} (h : WO G H wa c) : ∃ o, H wa = some o := by
  obtain ⟨a, b, k, m, _⟩ := h.ex
  exact ⟨_, m.h⟩
theorem WO.gn {G H : Hp} {wa : Addr} {c : Nat} (h : WO G H wa c) : G wa = none := by
  obtain ⟨a, b, k, m, _⟩ := h.ex
  exact m.g
theorem WO.ne {G H : Hp} {wa q : Addr} {c : Nat} (h : WO G H wa c) (n : H q = none) : q ≠ wa := by
  obtain ⟨o, ho⟩ := h.get
  exact ne_fresh ho n
abbrev Wa (wa : Addr) : Addr → Prop := fun a => a = wa
def spWell : Sp := fun vs H Q _ => ∃ (G : Hp) (i : Int), vs = [.int i] ∧ Ex G H ∧ ∀ H' l, Step NoW G H G H' → H l = none → WO G H' l 0 → Q (.ref l) H'
def spDraw : Sp := fun vs H Q _ => ∃ (G : Hp) (wa : Addr) (c m : Nat), vs = [.ref wa, .int m] ∧ Ex G H ∧ WO G H wa c ∧ c < 1000000 ∧ 0 < m ∧ m < 1000000 ∧ ∀ (i : Nat) H', i < m → Step (Wa wa) G H G H' → WO G H' wa (c + 1) → Q (.int i) H'
def spOf (K : PySem.W.Frag) : Sp := fun vs H Q _ => ∃ (G : Hp) (wa : Addr) (c m : Nat) (x : V), vs = [.ref wa, x] ∧ Ex G H ∧ WO G H wa c ∧ c < 1000000 ∧ LenV K x H m ∧ 0 < m ∧ m < 1000000 ∧
  ∀ (i : Nat) H', i < m → Step (Wa wa) G H G H' → WO G H' wa (c + 1) → rIx K x (.int i) H' Q
def spCellAt (K : PySem.W.Frag) : Sp := fun vs H Q _ => ∃ (a : Addr) (xs : List Int), vs = [.ref a, .int 0] ∧ SqL K H a (xs.map V.int) ∧ ∀ i, Q (.int i) H
section
variable {P : Program} {w : World} {K : PySem.W.Frag} {mg : Str → Option Value} {base : Heap}
theorem ok_cell_at (T : Txt K mg) : Cal P w K mg base 1 "_law_cell_at" P_law_cell_at (spCellAt K) := by
  refine Cal.of T.fn_law_cell_at sc_law_cell_at (fun vs H Q E h => ?_) (fun f cdv A outer s H vs Q E hr h => ?_)
  · obtain ⟨_, _, rfl, _⟩ := h; rfl
  · obtain ⟨a, xs, rfl, ha, k⟩ := h
    refine ⟨_, (pss_cons (ps_if (pt_cmpR op_lt (pv 1) (pe_callB (k_lenS K) (by rfl) T.f_len (by decide +kernel) (pa_cons (pv 0) pa_nil)) (by first | exact nomark _ | rfl))
      (pss_one (ps_ret (pe_ix (k_ixL K) (pv 0) (pv 1) (fun _ _ => rfl))))
      pss_nil)
    (pss_one (ps_ret pe_int))), ?_⟩
    refine ⟨_, rfl, _, rfl, a, _, rfl, .inl ha, _, _, rfl, rfl, _, rfl, if2 (fun h => ?_) (fun _ => k 0)⟩
    have h := of_decide_eq_true h
    cases xs with
    | nil => exact absurd h (by decide)
    | cons x xs => exact ⟨_, rfl, _, rfl, a, _, 0, _, rfl, rfl, ha, at_nat (i := 0) rfl, k x⟩
theorem ok_well (T : Txt K mg) : Cal P w K mg base 1 "_law_well" P_law_well spWell := by
  refine Cal.of T.fn_law_well sc_law_well (fun vs H Q E h => ?_) (fun f cdv A outer s H vs Q E hr h => ?_)
  · obtain ⟨_, _, rfl, _⟩ := h; rfl
  · obtain ⟨G, i, rfl, e, k⟩ := h
    refine ⟨_, (pss_one (ps_ret (pe_lst (pa_cons (pe_op op_mul (pv 0) (pe_callTy call_int1 (by rfl) T.f_int (by decide +kernel) (pa_cons (pe_cmpR op_ge (pv 0) (pe_op op_pow pe_int pe_int) (by first | exact nomark _ | rfl)) pa_nil))) (pa_cons (pe_op op_mod (pv 0) pe_int) (pa_cons pe_int pa_nil)))))), ?_⟩
    have fin : ∀ j : Int, 0 ≤ i * j → ∀ l, H l = none → Q (.ref l) (upd H l (.lst [.int (i * j), .int (i % 2147483647), .int 0])) := fun j hj l nl => by
      generalize e1 : upd H l _ = H1
      obtain ⟨S1, s1, M1⟩ := (Step.refl (W := NoW) e).newME nl e1
      exact k _ l S1 nl ⟨_, _, _, M1, hj, Int.emod_nonneg _ (by decide), Int.emod_lt_of_pos _ (by decide), by omega, by omega⟩
    refine ⟨_, rfl, _, rfl, _, _, rfl, rfl, ⟨by decide, by decide, by decide⟩, _, _, rfl, rfl, .inr ⟨_, rfl, _, _, rfl, rfl, .inr ?_, _, rfl, _, _, rfl, rfl, (show (0 : Int) < 2147483647 by decide), zs, fun l nl => fin _ ?_ l nl⟩⟩
    · split <;> decide
    · split
      · rename_i h
        have h := of_decide_eq_true h
        have : (0 : Int) ≤ 10 ^ (18 : Int).toNat := by decide
        omega
      · omega
theorem ok_draw (T : Txt K mg) : Cal P w K mg base 1 "_law_draw" P_law_draw spDraw := by
  refine Cal.of T.fn_law_draw sc_law_draw (fun vs H Q E h => ?_) (fun f cdv A outer s H vs Q E hr h => ?_)
  · obtain ⟨_, _, _, _, rfl, _⟩ := h; rfl
  · obtain ⟨G, wa, c, m, rfl, e, wo, hc, m0, m1, k⟩ := h
    obtain ⟨a, b, n, M, a0, b0, b1, n0, n1⟩ := wo.ex
    refine ⟨_, (pss_cons (ps_if (pt_cmpR op_gt (pe_ix (k_ixL K) (pv 0) pe_int (fun _ _ => rfl)) pe_int (by first | exact nomark _ | rfl))
      (pss_cons (ps_set (i := 2) sc_law_draw.nd rfl (Or.inl rfl) (pe_op op_mod (pe_ix (k_ixL K) (pv 0) pe_int (fun _ _ => rfl)) (pv 1)))
      (pss_cons (ps_asg (pe_op op_fdiv (pe_ix (k_ixL K) (pv 0) pe_int (fun _ _ => rfl)) (pv 1)) (pg_sub (pv 0) pe_int set_list))
      (pss_one (ps_ret (pv 2)))))
      pss_nil)
    (pss_cons (ps_asg (pe_op op_add (pe_ix (k_ixL K) (pv 0) pe_int (fun _ _ => rfl)) pe_int) (pg_sub (pv 0) pe_int set_list))
    (pss_cons (ps_set (i := 3) sc_law_draw.nd rfl (Or.inl rfl) (pe_ix (k_ixL K) (pe_lst (pa_cons pe_int (pa_cons pe_int (pa_cons pe_int (pa_cons pe_int (pa_cons pe_int pa_nil)))))) (pe_op op_mod (pe_ix (k_ixL K) (pv 0) pe_int (fun _ _ => rfl)) pe_int) (fun _ _ => rfl)))
    (pss_cons (ps_set (i := 4) sc_law_draw.nd rfl (Or.inl rfl) (pe_op op_mod (pe_op op_pow (pe_op op_add (pe_op op_add (pe_op op_mul (pe_ix (k_ixL K) (pv 0) pe_int (fun _ _ => rfl)) (pe_op op_add (pe_op op_mul pe_int (pe_ix (k_ixL K) (pv 0) pe_int (fun _ _ => rfl))) pe_int)) (pe_op op_mul pe_int (pe_ix (k_ixL K) (pv 0) pe_int (fun _ _ => rfl)))) pe_int) pe_int) (pv 3)))
    (pss_cons (ps_set (i := 4) sc_law_draw.nd rfl (Or.inl rfl) (pe_op op_mod (pe_op op_mul (pe_op op_add (pv 4) (pe_ix (k_ixL K) (pv 0) pe_int (fun _ _ => rfl))) (pe_op op_add (pe_op op_fdiv (pv 4) pe_int) pe_int)) (pv 3)))
    (pss_one (ps_ret (pe_op op_mod (pe_op op_fdiv (pv 4) pe_int) (pv 1))))))))), ?_⟩
    refine ⟨_, rfl, wa, _, 0, _, rfl, rfl, .of M.h, at_nat (i := 0) rfl, _, _, rfl, rfl, _, rfl, if2 (fun _ => ?_) (fun _ => ?_)⟩
    · refine seqSet ⟨_, rfl, wa, _, 0, _, rfl, rfl, .of M.h, at_nat (i := 0) rfl, _, rfl, _, _, rfl, rfl, by omega, ?_⟩
      refine ⟨_, rfl, wa, _, 0, _, rfl, rfl, .of M.h, at_nat (i := 0) rfl, _, rfl, _, _, rfl, rfl, ⟨by omega, by omega⟩, _, rfl, wa, _, 0, 0, rfl, rfl, M.h, rfl, ?_⟩
      generalize e1 : upd H wa _ = H1
      obtain ⟨S1, M1, _⟩ := (Step.refl (W := Wa wa) e).mutE (.inl rfl) M e1
      have h1 := Int.emod_nonneg a (show (m : Int) ≠ 0 by omega)
      have h2 := Int.emod_lt_of_pos a (show (0 : Int) < m by omega)
      refine ⟨_, rfl, qI (Q := Q) (k (a % m).toNat _ (by omega) S1 ⟨_, _, _, M1, Int.ediv_nonneg a0 (by omega), b0, b1, n0, by omega⟩) (by omega)⟩
    · refine ⟨_, rfl, wa, _, 2, _, rfl, rfl, .of M.h, at_nat (i := 2) rfl, _, _, rfl, rfl, _, rfl, wa, _, 2, 2, rfl, rfl, M.h, rfl, ?_⟩
      generalize e1 : upd H wa _ = H1
      obtain ⟨S1, M1, _⟩ := (Step.refl (W := Wa wa) e).mutE (.inl rfl) M e1
      have M1 : Mi G H1 wa (.lst [.int a, .int b, .int (n + 1)]) := M1
      have p0 := Int.emod_nonneg (n + 1) (show (5 : Int) ≠ 0 by decide)
      have p1 := Int.emod_lt_of_pos (n + 1) (show (0 : Int) < 5 by decide)
      have pr : ∃ q : Int, ([V.int 2147483647, .int 2147483629, .int 2147483587, .int 2147483579, .int 2147483563])[((n + 1) % 5).toNat]? = some (.int q) ∧ 0 < q ∧ q ≤ 2147483647 := by
        have : ((n + 1) % 5).toNat < 5 := by omega
        generalize ((n + 1) % 5).toNat = j at this
        match j, this with
        | 0, _ => exact ⟨_, rfl, by decide, by decide⟩
        | 1, _ => exact ⟨_, rfl, by decide, by decide⟩
        | 2, _ => exact ⟨_, rfl, by decide, by decide⟩
        | 3, _ => exact ⟨_, rfl, by decide, by decide⟩
        | 4, _ => exact ⟨_, rfl, by decide, by decide⟩
      obtain ⟨q, hq, q0, q1⟩ := pr
      refine ⟨zs, fun l nl => ?_⟩
      generalize e2 : upd H1 l _ = H2
      obtain ⟨S2, s2, L2'⟩ := S1.newME nl e2
      have M2 := M1.go s2
      refine ⟨_, rfl, wa, _, 2, _, rfl, rfl, .of M2.h, at_nat (i := 2) rfl, _, _, rfl, rfl, (show (0 : Int) < 5 by decide), l, _, (n + 1) % 5, .int q, rfl, rfl, .of L2'.h, at_nat hq (by omega), ?_⟩
      have hbn : 0 ≤ b * (2 * (n + 1) + 1) := Int.mul_nonneg b0 (by omega)
      have hbn2 : b * (2 * (n + 1) + 1) ≤ 2147483647 * 2000005 := Int.mul_le_mul (by omega) (by omega) (by omega) (by decide)
      refine ⟨_, rfl, wa, _, 1, _, rfl, rfl, .of M2.h, at_nat (i := 1) rfl, _, rfl, wa, _, 2, _, rfl, rfl, .of M2.h, at_nat (i := 2) rfl, _, _, rfl, rfl, .inl ⟨by decide, by decide⟩, _, _, rfl, rfl, _, _, rfl, rfl, .inl ⟨by omega, by omega⟩,
        _, rfl, wa, _, 2, _, rfl, rfl, .of M2.h, at_nat (i := 2) rfl, _, _, rfl, rfl, .inl ⟨by decide, by decide⟩, _, _, rfl, rfl, _, _, rfl, rfl, _, _, rfl, rfl, ⟨by decide, by decide, by omega⟩, _, rfl, _, _, rfl, rfl, q0, ?_⟩
      generalize ev : ((b * (2 * (n + 1) + 1) + 7919 * (n + 1) + 1) ^ (5 : Int).toNat) % q = v
      have v0 : 0 ≤ v := ev ▸ Int.emod_nonneg _ (by omega)
      have v1 : v < q := ev ▸ Int.emod_lt_of_pos _ q0
      refine ⟨_, rfl, _, rfl, wa, _, 2, _, rfl, rfl, .of M2.h, at_nat (i := 2) rfl, _, _, rfl, rfl, _, rfl, _, _, rfl, rfl, ⟨by decide, by decide⟩, _, _, rfl, rfl, _, _, rfl, rfl, .inl ⟨by omega, by omega⟩, _, rfl, _, _, rfl, rfl, q0, ?_⟩
      exact ⟨_, rfl, _, _, rfl, rfl, ⟨by decide, by decide⟩, _, rfl, _, _, rfl, rfl, by omega, qM (Q := Q) m0 fun i hi => k i _ hi S2 ⟨_, _, _, M2, a0, b0, b1, by omega, by omega⟩⟩
theorem ok_lawOf {k : Nat} (T : Txt K mg) (c_law_draw : Cal P w K mg base k "_law_draw" P_law_draw spDraw) : Cal P w K mg base (k + 1) "_law_of" P_law_of (spOf K) := by
  refine Cal.of T.fn_law_of sc_law_of (fun vs H Q E h => ?_) (fun f cdv A outer s H vs Q E hr h => ?_)
  · obtain ⟨_, _, _, _, _, rfl, _⟩ := h; rfl
  · obtain ⟨G, wa, c, m, x, rfl, e, wo, hc, hl, m0, m1, k⟩ := h
    refine ⟨_, (pss_one (ps_ret (pe_ix (k_ixA K) (pv 1) (pc c_law_draw (hr.mono (by first | decide | omega)) (pa_cons (pv 0) (pa_cons (pe_callB (k_lenA K) (by rfl) T.f_len (by decide +kernel) (pa_cons (pv 1) pa_nil)) pa_nil))) (fun _ _ => rfl)))), ?_⟩
    exact ⟨_, rfl, _, rfl, _, rfl, x, m, rfl, hl, G, wa, c, m, rfl, e, wo, hc, m0, m1, k⟩
end
end K4

set_option maxHeartbeats 4000000
/-! The law's words and plans. -/
namespace K4
open PySem L2
theorem seqSetC {v : V} {u : TS} {i : Nat} {D : Ends} {σ : L2.St} {H : Hp} (h : u D (σ.set i (some v)) H) : tSeq (tAsg (tC v) (gName i)) u D σ H := h
def nameOkB (z : Str) : Bool := decide (1 ≤ z.cps.size) && decide (z.cps.size ≤ 10) && (match z.cps.toList[0]? with | some c => decide (c ∈ LET.cps.toList) | none => true) && z.cps.toList.all fun c => decide (c ∈ LET.cps.toList) || decide (c ∈ FIG.cps.toList)
theorem nameOk_of {z : Str} (h : nameOkB z = true) : NameOk z := by
  unfold nameOkB at h
  simp only [Bool.and_eq_true, decide_eq_true_iff, List.all_eq_true, Bool.or_eq_true] at h
  obtain ⟨⟨⟨h1, h2⟩, h3⟩, h4⟩ := h
  refine ⟨h1, h2, fun c hc => ?_, h4⟩
  rw [hc] at h3
  exact of_decide_eq_true h3
def zk (k : Nat) : Str := ("z" : Str) ++ ((toString (k : Int) : String) : Str)
theorem zk_ok : ∀ k : Nat, k < 10 → nameOkB (zk k) = true := by decide +kernel
theorem zk_inj : ∀ i : Nat, i < 10 → ∀ j : Nat, j < 10 → zk i = zk j → i = j := by decide +kernel
theorem sub_len {α : Type} [BEq α] [LawfulBEq α] : ∀ {l m : List α}, l.Nodup → (∀ x ∈ l, x ∈ m) → l.length ≤ m.length
  | [], m, _, _ => Nat.zero_le _
  | a :: l, m, nd, h => by
    have ha := h a List.mem_cons_self
    have nd' := List.nodup_cons.mp nd
    have ih := sub_len (l := l) (m := m.erase a) nd'.2 fun x hx => (List.mem_erase_of_ne (fun e => by rw [e] at hx; exact nd'.1 hx)).mpr (h x (List.mem_cons_of_mem _ hx))
    rw [List.length_erase_of_mem ha] at ih
    have : 0 < m.length := List.length_pos_of_mem ha
    rw [List.length_cons]; omega
theorem zk_free (ts : List Str) (h : ts.length < 10) : ∃ k, k ≤ ts.length ∧ zk k ∉ ts := by
  by_cases hx : ∃ k, k ≤ ts.length ∧ zk k ∉ ts
  · exact hx
  · exfalso
    have all : ∀ k, k ≤ ts.length → zk k ∈ ts := fun k hk => by
      by_cases q : zk k ∈ ts
      · exact q
      · exact absurd ⟨k, hk, q⟩ hx
    have nd : ((List.range (ts.length + 1)).map zk).Nodup := by
      refine List.pairwise_map.mpr (List.Pairwise.imp_of_mem ?_ List.nodup_range)
      intro i j hi hj ne e
      rw [List.mem_range] at hi hj
      exact ne (zk_inj i (by omega) j (by omega) e)
    have := sub_len nd (m := ts) (fun x hx => by
      obtain ⟨k, hk, rfl⟩ := List.mem_map.mp hx
      rw [List.mem_range] at hk
      exact all k (by omega))
    rw [List.length_map, List.length_range] at this
    omega
theorem app_cps (a b : Str) : (a ++ b).cps = a.cps ++ b.cps := rfl
theorem name_one {c : Nat} (h : c ∈ LET.cps.toList) : NameOk ⟨#[c]⟩ := by
  refine ⟨Nat.le_refl 1, (by decide : (1 : Nat) ≤ 10), fun d hd => ?_, fun d hd => ?_⟩
  · have : c = d := by simpa using hd
    exact this ▸ h
  · have : d = c := by simpa using hd
    exact .inl (this ▸ h)
theorem name_more {z : Str} {c : Nat} (n : NameOk z) (l : z.cps.size ≤ 9) (h : c ∈ LET.cps.toList ∨ c ∈ FIG.cps.toList) : NameOk (z ++ ⟨#[c]⟩) := by
  have lo := n.lo
  have sz : (z ++ ⟨#[c]⟩ : Str).cps.size = z.cps.size + 1 := by rw [app_cps, Array.size_append]; rfl
  refine ⟨by omega, by omega, fun d hd => ?_, fun d hd => ?_⟩
  · rw [app_cps, Array.toList_append, List.getElem?_append_left (by rw [Array.length_toList]; omega)] at hd
    exact n.fst d hd
  · rw [app_cps, Array.toList_append] at hd
    rcases List.mem_append.mp hd with hd | hd
    · exact n.all d hd
    · have : d = c := by simpa using hd
      exact this ▸ h
def WORDS : List Str := ["write", "wait", "skip", "else", "or", "lead", "with", "holds", "any", "mark", "stop"]
theorem words_ok : ∀ z ∈ WORDS, nameOkB z = true := by decide +kernel
theorem words_sz : ∀ z ∈ WORDS, z.cps.size ≤ 5 := by decide +kernel
def spWord (K : PySem.W.Frag) : Sp := fun vs H Q _ => ∃ (G : Hp) (wa ta c : Nat) (ts : List Str), vs = [.ref wa, .ref ta] ∧ Ex G H ∧ WO G H wa c ∧ c < 900000 ∧ H ta = some (.lst (ts.map V.str)) ∧ ta ≠ wa ∧ ts.length < 10 ∧
  ∀ (z : Str) G' H', NameOk z → z ∉ ts → Step (Wa wa) G H G' H' → WO G' H' wa (c + 20) → Q (.str z) H'
section
variable {P : Program} {w : World} {K : PySem.W.Frag} {mg : Str → Option Value} {base : Heap}
theorem ok_word {k : Nat} (T : Txt K mg) (c_law_draw : Cal P w K mg base k "_law_draw" P_law_draw spDraw) (c_law_of : Cal P w K mg base k "_law_of" P_law_of (spOf K)) : Cal P w K mg base (k + 1) "_law_word" P_law_word (spWord K) := by
  refine Cal.of T.fn_law_word sc_law_word (fun vs H Q E h => ?_) (fun f cdv A outer s H vs Q E hr h => ?_)
  · obtain ⟨_, _, _, _, _, rfl, _⟩ := h; rfl
  · obtain ⟨G, wa, ta, c, ts, rfl, e, wo, hc, ht, ntw, lt, k⟩ := h
    refine ⟨_, (pss_cons (ps_set (i := 2) sc_law_word.nd rfl (Or.inl rfl) pe_str)
    (pss_cons (ps_set (i := 3) sc_law_word.nd rfl (Or.inl rfl) (pc c_law_of (hr.mono (by first | decide | omega)) (pa_cons (pv 0) (pa_cons (pv 2) pa_nil))))
    (pss_cons (ps_set (i := 4) sc_law_word.nd rfl (Or.inl rfl) (pc c_law_draw (hr.mono (by first | decide | omega)) (pa_cons (pv 0) (pa_cons pe_int pa_nil))))
    (pss_cons (ps_if (pt_cmpR op_eq (pv 4) pe_int (by first | exact nomark _ | rfl))
      (pss_one (ps_set (i := 3) sc_law_word.nd rfl (Or.inl rfl) (pc c_law_of (hr.mono (by first | decide | omega)) (pa_cons (pv 0) (pa_cons (pe_lst (pa_cons pe_str (pa_cons pe_str (pa_cons pe_str (pa_cons pe_str (pa_cons pe_str (pa_cons pe_str (pa_cons pe_str (pa_cons pe_str (pa_cons pe_str (pa_cons pe_str (pa_cons pe_str pa_nil)))))))))))) pa_nil)))))
      (pss_one (ps_if (pt_cmpR op_lt (pv 4) pe_int (by first | exact nomark _ | rfl))
        (pss_one (ps_for PassesOwn.never rfl (pi_range1 (by rfl) T.f_range (pa_cons (pc c_law_draw (hr.mono (by first | decide | omega)) (pa_cons (pv 0) (pa_cons pe_int pa_nil))) pa_nil)) (pg_name (i := 5) sc_law_word.nd rfl (Or.inl rfl))
          (pss_one (ps_set (i := 3) sc_law_word.nd rfl (Or.inl rfl) (pe_op op_add_str (pv 3) (pc c_law_of (hr.mono (by first | decide | omega)) (pa_cons (pv 0) (pa_cons (pe_op op_add_str (pv 2) pe_str) pa_nil))))))))
        pss_nil)))
    (pss_cons (ps_set (i := 6) sc_law_word.nd rfl (Or.inl rfl) (pe_op op_cat (pe_lst (pa_cons (pv 3) pa_nil)) (pe_lc (own := [("_law_k", 5)]) (by rfl) sc_law_word.nd (pi_range1 (by rfl) T.f_range (pa_cons (pe_op op_add (pe_callB (k_lenS K) (by rfl) T.f_len (by decide +kernel) (pa_cons (pv 1) pa_nil)) pe_int) pa_nil)) (blkOk_by (own := [("_law_k", 5)]) (N := N_law_word) (by kernel_rfl)) (fun _ _ _ _ _ => (pg_name (i := 5) sc_law_word.nd rfl (Or.inl rfl))) (fun _ _ _ _ _ => pts_nil) (fun _ _ _ _ _ => (pe_op op_add_str pe_str (pe_callTy call_str_int (by rfl) T.f_str (by decide +kernel) (pa_cons (pv 5) pa_nil)))))))
    (pss_one (ps_ret (pe_ix (k_ixL K) (pe_lc (own := [("_law_one", 7)]) (by rfl) sc_law_word.nd (k_list K (pv 6)) (blkOk_by (own := [("_law_one", 7)]) (N := N_law_word) (by kernel_rfl)) (fun _ _ _ _ _ => (pg_name (i := 7) sc_law_word.nd rfl (Or.inl rfl))) (fun _ _ _ _ _ => (pts_one (pt_cmpR (k_ninS K) (pv 7) (pv 1) (by first | exact nomark _ | rfl)))) (fun _ _ _ _ _ => (pv 7))) pe_int (fun _ _ => rfl))))))))), ?_⟩
    refine seqSetC ?_
    refine seqSet ⟨_, rfl, _, rfl, G, wa, c, 26, .str LET, rfl, e, wo, by omega, ⟨by decide, rfl⟩, by decide, by decide, fun i H1 hi s1 w1 => ?_⟩
    have hi' : i < LET.cps.toList.length := hi
    obtain ⟨l0, hl0⟩ := some_of hi'
    have n1 : NameOk ⟨#[l0]⟩ := name_one (mem_of hl0)
    refine .inr (.inr ⟨LET, i, l0, rfl, rfl, by decide, at_nat hl0, ?_⟩)
    refine seqSet ⟨_, rfl, G, wa, c + 1, 6, rfl, s1.gh, w1, by omega, by decide, by decide, fun kind H2 hk s2 w2 => ?_⟩
    have S2 := s1.trans s2
    refine seqJ (fun σ' H' => ∃ (nm : Str) (G' : Hp), NameOk nm ∧ nm.cps.size ≤ 9 ∧ Step (Wa wa) G H G' H' ∧ WO G' H' wa (c + 12) ∧ ∃ y1 y2 y3, σ' = [some (.ref wa), some (.ref ta), some (.str LET), some (.str nm), some (.int kind), y1, y2, y3]) (fun C => ?_) ?_
    · refine ⟨_, rfl, rfl, _, rfl, if2 (fun _ => ?_) (fun _ => ?_)⟩
      · refine ⟨_, rfl, zs, fun l nl => ?_⟩
        generalize e3 : upd H2 l _ = H3
        obtain ⟨G3, S3, s3, g3⟩ := S2.newDE nl e3
        have w3 := w2.go s3
        have g3 : G3 l = some (.lst (WORDS.map V.str)) := g3
        refine ⟨G3, wa, c + 1 + 1, 11, .ref l, rfl, S3.gh, w3, by omega, .inl ⟨_, sqL g3 S3.gh, rfl⟩, by decide, by decide, fun j H4 hj s4 w4 => ?_⟩
        obtain ⟨z, hz⟩ := some_of (show j < WORDS.length from hj)
        refine .inl ⟨l, _, j, .str z, rfl, rfl, sqL (s4.eg _ _ g3) s4.gh, at_nat (by rw [List.getElem?_map, hz]; rfl), ?_⟩
        exact C _ _ ⟨z, G3, nameOk_of (words_ok z (mem_of hz)), Nat.le_trans (words_sz z (mem_of hz)) (by decide), S3.trans s4, w4.up (by omega), _, _, _, rfl⟩
      · refine ⟨_, rfl, _, _, rfl, rfl, _, rfl, if2 (fun _ => ?_) (fun _ => ?_)⟩
        · refine ⟨_, rfl, G, wa, c + 1 + 1, 8, rfl, S2.gh, w2, by omega, by decide, by decide, fun m H3 hm s3 w3 => ⟨_, rfl, by omega, by omega, ?_⟩⟩
          have S3 := S2.trans s3
          refine for_range (fun i σ H4 => ∃ nm : Str, NameOk nm ∧ nm.cps.size ≤ 1 + i ∧ Step (Wa wa) G H G H4 ∧ WO G H4 wa (c + 3 + i) ∧ ∃ y1, σ = [some (.ref wa), some (.ref ta), some (.str LET), some (.str nm), some (.int kind), y1, none, none]) ⟨_, n1, Nat.le_refl _, S3, w3, _, rfl⟩ ?_ ?_
          · rintro i σ H4 hi4 ⟨nm, hn, zn, S4, w4, y, rfl⟩
            have hi7 : i < 7 := by omega
            refine ⟨_, rfl, _, rfl, _, rfl, LET, FIG, rfl, rfl, by decide, G, wa, c + 3 + i, 36, .str (LET ++ FIG), rfl, S4.gh, w4, by omega, ⟨by decide, rfl⟩, by decide, by decide, fun j H5 hj s5 w5 => ?_⟩
            obtain ⟨d, hd⟩ := some_of (show j < (LET ++ FIG).cps.toList.length from hj)
            refine .inr (.inr ⟨LET ++ FIG, j, d, rfl, rfl, by decide, at_nat hd, nm, ⟨#[d]⟩, rfl, rfl, ?_, nm ++ ⟨#[d]⟩, name_more hn (by omega) ?_, ?_, S4.trans s5, w5, _, rfl⟩)
            · exact zl (show nm.cps.size + 1 ≤ 1000000 by omega)
            · have := mem_of hd
              rw [app_cps, Array.toList_append] at this
              exact List.mem_append.mp this
            · rw [app_cps, Array.size_append]
              show nm.cps.size + 1 ≤ 1 + (i + 1)
              omega
          · rintro σ H4 ⟨nm, hn, zn, S4, w4, y, rfl⟩
            have : ((m : Nat) : Int).toNat = m := Int.toNat_natCast m
            rw [this] at zn w4
            exact C _ _ ⟨nm, G, hn, by omega, S4, w4.up (by omega), _, _, _, rfl⟩
        · exact C _ _ ⟨_, G, n1, (by decide : (1 : Nat) ≤ 9), S2, w2.up (by omega), _, _, _, rfl⟩
    · rintro σ' H3 ⟨nm, G3, hn, zn, S3, w3, y1, y2, y3, rfl⟩
      have ht3 := S3.held ht ntw
      refine ⟨_, rfl, zs, fun p np => ?_⟩
      generalize e4 : upd H3 p _ = H4
      obtain ⟨G4, S4, s4, g4⟩ := S3.newDE np e4
      have ht4 := S4.held ht ntw
      refine ⟨_, rfl, ta, _, rfl, .inl (.of ht4), _, _, rfl, rfl, _, rfl, by rw [List.length_map]; omega, by rw [List.length_map]; omega, fun L nL => ?_⟩
      rw [List.length_map, show ((ts.length : Int) + 1).toNat = ts.length + 1 by omega]
      refine lcD (List.range (ts.length + 1)) (fun k => some (.str (zk k))) (by rw [List.length_range]; exact walk_range) (by rw [List.length_range]; omega) S4.gh nL (fun _ _ => trivial) ?_ ?_
      · rintro i a x G5 H5 H5' K1 K0 ha s5 ⟨rfl, rfl⟩ k1 k0
        have hi : i < ts.length + 1 := by have := lt_of_some ha; rw [List.length_range] at this; exact this
        rw [List.getElem?_range hi] at ha
        cases ha
        have zi := zk_ok i (by omega)
        have z2 := (nameOk_of zi).hi
        have z3 : (zk i).cps.size = 1 + ((toString (i : Int) : String) : Str).cps.size := by unfold zk; rw [app_cps, Array.size_append]; rfl
        refine ⟨rfl, _, rfl, 0 + i, rfl, ?_, "z", _, rfl, rfl, ?_, ?_⟩
        · rw [Int.zero_add]
          show i.log2 < 1920
          exact Nat.lt_of_le_of_lt (Nat.log2_le_self i) (by omega)
        · rw [Int.zero_add]
          exact zl (show 1 + ((toString (i : Int) : String) : Str).cps.size ≤ 1000000 by omega)
        · rw [Int.zero_add]
          exact k1 _ _ _ _ rfl (Step.refl s5.gh) rfl
      · rintro G5 H5 ys s5 hL gL ry
        cases ry.strs'
        have S5 := S4.trans s5
        refine ⟨p, L, _, _, rfl, rfl, s5.gh _ _ (s5.eg _ _ g4), hL, zl (by simp; omega), fun q nq => ?_⟩
        generalize e6 : upd H5 q _ = H6
        obtain ⟨G6, S6, s6, g6⟩ := S5.newDE nq e6
        have g6 : G6 q = some (.lst ((nm :: (List.range (ts.length + 1)).map zk).map V.str)) := g6
        have ht6 := S6.held ht ntw
        refine ⟨_, rfl, q, rfl, ⟨_, sqL g6 S6.gh⟩, fun L2 nL2 => ?_⟩
        refine lcD (nm :: (List.range (ts.length + 1)).map zk) (fun z => if z ∈ ts then none else some (.str z)) (walkL (by simp)) (by simp; omega) S6.gh nL2 (fun H7 e7 => sqL g6 (S6.gh.trans e7)) ?_ ?_
        · rintro i z x G7 H7 H7' K1 K0 hz s7 ⟨rfl, ex⟩ k1 k0
          rw [List.getElem?_map, hz] at ex
          cases ex
          have ht7 := s7.held ht6
          refine ⟨rfl, _, rfl, _, rfl, ta, _, rfl, .inl (.of ht7), rfl, flat_str _, _, rfl, if2 (fun h => ⟨_, rfl, k1 _ (.str z) _ _ (if_neg ?_) (Step.refl s7.gh) rfl⟩) (fun h => k0 _ _ (if_pos ?_) (Step.refl s7.gh))⟩
          · intro hin
            have : inV (.str z) (ts.map V.str) = true := by rw [inV_str]; exact dT hin
            simp [this] at h
          · have : inV (.str z) (ts.map V.str) = true := by simpa using h
            rw [inV_str] at this
            exact of_decide_eq_true this
        · rintro G7 H7 ys s7 hL2 gL2 ry
          have S7 := S6.trans s7
          have w7 := ((w3.go s4).go s5).go s6 |>.go s7
          obtain ⟨kk, hkk, hfree⟩ := zk_free ts lt
          have hne : ∃ z r, (nm :: (List.range (ts.length + 1)).map zk).filterMap (fun z => if z ∈ ts then none else some (D.str z)) = D.str z :: r ∧ NameOk z ∧ z ∉ ts := by
            have hin : D.str (zk kk) ∈ (nm :: (List.range (ts.length + 1)).map zk).filterMap (fun z => if z ∈ ts then none else some (D.str z)) :=
              List.mem_filterMap.mpr ⟨zk kk, List.mem_cons_of_mem _ (List.mem_map.mpr ⟨kk, List.mem_range.mpr (by omega), rfl⟩), if_neg hfree⟩
            cases hl : (nm :: (List.range (ts.length + 1)).map zk).filterMap (fun z => if z ∈ ts then none else some (D.str z)) with
            | nil => rw [hl] at hin; cases hin
            | cons d r =>
              have hd : d ∈ (nm :: (List.range (ts.length + 1)).map zk).filterMap (fun z => if z ∈ ts then none else some (D.str z)) := by rw [hl]; exact List.mem_cons_self
              obtain ⟨z, hz, hz2⟩ := List.mem_filterMap.mp hd
              by_cases hzt : z ∈ ts
              · rw [if_pos hzt] at hz2; cases hz2
              · rw [if_neg hzt] at hz2
                cases hz2
                refine ⟨z, r, rfl, ?_, hzt⟩
                rcases List.mem_cons.mp hz with rfl | hz
                · exact hn
                · obtain ⟨i, hi, rfl⟩ := List.mem_map.mp hz
                  rw [List.mem_range] at hi
                  exact nameOk_of (zk_ok i (by omega))
          obtain ⟨z, r, hzr, hz1, hz2⟩ := hne
          rw [hzr] at ry
          obtain ⟨x, xs, rfl, hx, _⟩ := ry.c1
          cases hx
          exact ⟨L2, _, 0, _, rfl, rfl, .of hL2, at_nat (i := 0) rfl, k z _ _ hz1 hz2 S7 (w7.up (by omega))⟩
end
end K4

set_option maxHeartbeats 4000000
/-! The law's plans, parts and lengths. -/
namespace K4
open PySem L2
def spPlan : Sp := fun vs H Q _ => ∃ (G : Hp) (wa c : Nat), vs = [.ref wa, .int 2] ∧ Ex G H ∧ WO G H wa c ∧ c < 800000 ∧
  ∀ (p : Plan) G' H' v, PlanOk p → Step (Wa wa) G H G' H' → WO G' H' wa (c + 300) → Rep G' (planD p) v → Q v H'
def spLParts : Sp := fun vs H Q _ => ∃ (G : Hp) (s : Stm) (v : V), vs = [v] ∧ Ex G H ∧ Rep G s.d v ∧ ∀ G' H' v', Step NoW G H G' H' → Rep G' (.tup (s.parts.map rowDT)) v' → Q v' H'
def spLen (d : Nat) : Sp := fun vs H Q _ => ∃ (G : Hp) (r : Row) (v : V), vs = [v] ∧ Ex G H ∧ Rep G (rowDT r) v ∧ rowDeep r < d ∧ rowSize r ≤ 1000 ∧ ∀ H', Fr NoW H H' → Q (.int (rowSize r)) H'
def Stm.kw : Stm → Str
  | .wr _ _ => "write"
  | .wt _ _ => "wait"
  | .mk _ => "mark"
  | .sk => "skip"
  | .st => "stop"
  | .ie _ _ _ _ => "if"
  | .wh _ _ _ => "while"
  | .ch _ _ => "choose"
  | .lo _ => "loop"
theorem slW {xs : List V} {k : Nat} (hk : 0 < k) (hx : 0 < xs.length) : ¬ (HT.sIx xs.length 0 (some (k : Int)) = 0 ∧ HT.sIx xs.length xs.length none = xs.length) := by
  rw [HT.sIx_nat]
  rintro ⟨z, _⟩
  omega
theorem slCut {xs : List V} {k : Nat} : cutV xs (some (k : Int)) none = xs.drop k := by
  unfold cutV
  rw [HT.sIx_nat, HT.sIx_none]
  by_cases hl : k ≤ xs.length
  · rw [Nat.min_eq_left hl, List.take_of_length_le (by rw [List.length_drop]; omega)]
  · rw [Nat.min_eq_right (by omega), List.drop_of_length_le (Nat.le_refl _), List.drop_of_length_le (by omega)]; simp
section
variable {P : Program} {w : World} {K : PySem.W.Frag} {mg : Str → Option Value} {base : Heap}
theorem ok_lparts (T : Txt K mg) : Cal P w K mg base 1 "_law_parts" P_law_parts spLParts := by
  refine Cal.of T.fn_law_parts sc_law_parts (fun vs H Q E h => ?_) (fun f cdv A outer s H vs Q E hr h => ?_)
  · obtain ⟨_, _, _, rfl, _⟩ := h; rfl
  · obtain ⟨G, s, v, rfl, e, hv, k⟩ := h
    refine ⟨_, (pss_one (ps_ret (pe_dget2 (hu_of hr) (pe_disp (pps_cons pe_str (pe_slice (k_slT K) (pv 0) (po_some pe_int) po_none) (pps_cons pe_str (pe_slice (k_slT K) (pv 0) (po_some pe_int) po_none) (pps_cons pe_str (pe_slice (k_slT K) (pv 0) (po_some pe_int) po_none) (pps_cons pe_str (pe_slice (k_slT K) (pv 0) (po_some pe_int) po_none) pps_nil)))) (by rfl) (by rfl) (fun z => by cases z) (by decide)) (pe_ix (k_ixT K) (pv 0) pe_int (fun _ _ => rfl)) (pe_tup pa_nil) ⟨by rfl, by rfl, by rfl, by rfl⟩))), ?_⟩
    have hv0 : ∃ a xs, v = .ref a ∧ G a = some (.tup xs) ∧ xs[0]? = some (.str s.kw) := by
      cases s <;> (obtain ⟨a, xs, rfl, ga, rx⟩ := hv; obtain ⟨x, r, rfl, hx, _⟩ := rx.c1; cases hx; exact ⟨a, _, rfl, ga, rfl⟩)
    obtain ⟨a, xs, rfl, ga, h0⟩ := hv0
    have hx := lt_of_some h0
    refine fun d nd => ?_
    generalize e1 : upd H d _ = H1
    obtain ⟨S1, _, D1⟩ := (Step.refl (W := NoW) e).newME nd e1
    refine ⟨_, rfl, _, rfl, a, xs, rfl, sqT (S1.eg _ _ ga) S1.gh, fun z => absurd z (slW (k := 3) (by decide) hx), fun _ p1 np1 => ?_⟩
    generalize e2 : upd H1 p1 _ = H2
    obtain ⟨G2, S2, s2, g2⟩ := S1.newDE np1 e2
    have g2 : G2 p1 = some (.tup (xs.drop 3)) := by rw [g2]; exact congrArg (fun z => some (HO.tup z)) (slCut (k := 3))
    refine ⟨_, rfl, _, rfl, a, xs, rfl, sqT (S2.eg _ _ ga) S2.gh, fun z => absurd z (slW (k := 3) (by decide) hx), fun _ p2 np2 => ?_⟩
    generalize e3 : upd H2 p2 _ = H3
    obtain ⟨G3, S3, s3, g3⟩ := S2.newDE np2 e3
    have g3 : G3 p2 = some (.tup (xs.drop 3)) := by rw [g3]; exact congrArg (fun z => some (HO.tup z)) (slCut (k := 3))
    refine ⟨_, rfl, _, rfl, a, xs, rfl, sqT (S3.eg _ _ ga) S3.gh, fun z => absurd z (slW (k := 1) (by decide) hx), fun _ p3 np3 => ?_⟩
    generalize e4 : upd H3 p3 _ = H4
    obtain ⟨G4, S4, s4, g4⟩ := S3.newDE np3 e4
    have g4 : G4 p3 = some (.tup (xs.drop 1)) := by rw [g4]; exact congrArg (fun z => some (HO.tup z)) (slCut (k := 1))
    refine ⟨_, rfl, _, rfl, a, xs, rfl, sqT (S4.eg _ _ ga) S4.gh, fun z => absurd z (slW (k := 1) (by decide) hx), fun _ p4 np4 => ?_⟩
    generalize e5 : upd H4 p4 _ = H5
    obtain ⟨G5, S5, s5, g5⟩ := S4.newDE np4 e5
    have g5 : G5 p4 = some (.tup (xs.drop 1)) := by rw [g5]; exact congrArg (fun z => some (HO.tup z)) (slCut (k := 1))
    have D5 := (((D1.go s2).go s3).go s4).go s5
    refine ⟨D5.h, [(.inr "if", .ref p1), (.inr "while", .ref p2), (.inr "choose", .ref p3), (.inr "loop", .ref p4)], rfl, (by simp), ?_⟩
    generalize e6 : upd H5 d _ = H6
    obtain ⟨S6, D6, _⟩ := S5.mutE (.inr nd) D5 e6
    have s26 := (s3.trans s4).trans s5
    have up : Ex G2 G5 := s26.eg
    refine ⟨d, rfl, .inl ⟨_, .of D6.h⟩, _, rfl, a, xs, 0, _, rfl, rfl, sqT (S6.eg _ _ ga) S6.gh, at_nat (i := 0) h0, zs, fun z nz => ?_⟩
    generalize e7 : upd H6 z _ = H7
    obtain ⟨G7, S7, s7, g7⟩ := S6.newDE nz e7
    have D7 := D6.go s7
    refine ⟨_, DGet.k (k := .inr s.kw) D7.h, ?_⟩
    cases s with
    | ie c v y n =>
      obtain ⟨b, ys, hb, gb, rb⟩ := hv
      cases hb
      rw [ga] at gb; cases gb
      exact k _ _ _ S7 (rep_tup (s7.eg _ _ (up _ _ g2)) ((rb.up S7.eg).drop 3))
    | wh c v y =>
      obtain ⟨b, ys, hb, gb, rb⟩ := hv
      cases hb
      rw [ga] at gb; cases gb
      exact k _ _ _ S7 (rep_tup (s7.eg _ _ (s5.eg _ _ (s4.eg _ _ g3))) ((rb.up S7.eg).drop 3))
    | ch y n =>
      obtain ⟨b, ys, hb, gb, rb⟩ := hv
      cases hb
      rw [ga] at gb; cases gb
      exact k _ _ _ S7 (rep_tup (s7.eg _ _ (s5.eg _ _ g4)) ((rb.up S7.eg).drop 1))
    | lo y =>
      obtain ⟨b, ys, hb, gb, rb⟩ := hv
      cases hb
      rw [ga] at gb; cases gb
      exact k _ _ _ S7 (rep_tup (s7.eg _ _ g5) ((rb.up S7.eg).drop 1))
    | _ => exact k _ _ _ S7 (rep_tup g7 .nil)
theorem ok_len {k d : Nat} (T : Txt K mg) (c_law_parts : Cal P w K mg base k "_law_parts" P_law_parts spLParts) (c_law_length : Cal P w K mg base k "_law_length" P_law_length (spLen d)) : Cal P w K mg base (k + 1) "_law_length" P_law_length (spLen (d + 1)) := by
  refine Cal.of T.fn_law_length sc_law_length (fun vs H Q E h => ?_) (fun f cdv A outer s H vs Q E hr h => ?_)
  · obtain ⟨_, _, _, rfl, _⟩ := h; rfl
  · obtain ⟨G, r, v, rfl, e, hv, hd, hz, k⟩ := h
    obtain ⟨a, xs, rfl, ga, rx⟩ := hv.tup
    rw [rowD_map] at rx
    have lx := rx.len
    rw [List.length_map] at lx
    have lz := len_le_size r
    refine ⟨_, (pss_one (ps_ret (pe_op op_add (pe_callB (k_lenS K) (by rfl) T.f_len (by decide +kernel) (pa_cons (pv 0) pa_nil)) (pe_callB (k_sum K rfl) (by rfl) T.f_sum (by decide +kernel) (pa_cons (pe_lc (own := [("_law_one", 1)]) (by rfl) sc_law_length.nd (k_tup K (pv 0)) (blkOk_by (own := [("_law_one", 1)]) (N := N_law_length) (by kernel_rfl)) (fun _ _ _ _ _ => (pg_name (i := 1) sc_law_length.nd rfl (Or.inl rfl))) (fun _ _ _ _ _ => pts_nil) (fun _ _ _ _ _ => (pe_callB (k_sum K rfl) (by rfl) T.f_sum (by decide +kernel) (pa_cons (pe_lc (own := [("_law_part", 2)]) (by rfl) sc_law_length.nd (k_tup K (pc c_law_parts (hr.mono (by first | decide | omega)) (pa_cons (pv 1) pa_nil))) (blkOk_by (own := [("_law_part", 2)]) (N := N_law_length) (by kernel_rfl)) (fun _ _ _ _ _ => (pg_name (i := 2) sc_law_length.nd rfl (Or.inl rfl))) (fun _ _ _ _ _ => pts_nil) (fun _ _ _ _ _ => (pc c_law_length (hr.mono (by first | decide | omega)) (pa_cons (pv 2) pa_nil)))) pa_nil)))) pa_nil))))), ?_⟩
    refine ⟨_, rfl, a, xs, rfl, .inr (sqT ga e), _, rfl, a, rfl, ⟨_, sqT ga e⟩, fun L nL => ?_⟩
    refine lcD r (fun s => some (.int s.partsSize)) (walkT lx.symm) (by omega) e nL (fun H2 e2 => sqT ga (e.trans e2)) ?_ ?_
    · rintro i s x G2 H2 H2' K1 K0 hs s2 ⟨rfl, ex⟩ k1 k0
      obtain ⟨s', hs', rs⟩ := rx.map ex
      rw [hs] at hs'; cases hs'
      have zs' := mem_size (mem_of hs)
      have ds := mem_deep (mem_of hs)
      have sp := size_parts s
      refine ⟨rfl, _, rfl, G2, s, x, rfl, s2.gh, rs.up s2.eg, fun G3 H3 v3 s3 r3 => ?_⟩
      obtain ⟨b, ys, rfl, gb, ry⟩ := r3.tup
      have ly := ry.len
      rw [List.length_map] at ly
      have lp2 : s.parts.length ≤ 2 := by cases s <;> simp [Stm.parts]
      refine ⟨b, rfl, ⟨_, sqT gb s3.gh⟩, fun M nM => ?_⟩
      refine lcD s.parts (fun u => some (.int (rowSize u))) (walkT ly.symm) (by omega) s3.gh nM (fun H4 e4 => sqT gb (s3.gh.trans e4)) ?_ ?_
      · rintro j u y G4 H4 H4' K1' K0' hu s4 ⟨rfl, ey⟩ k1' k0'
        obtain ⟨u', hu', ru⟩ := ry.map ey
        rw [hu] at hu'; cases hu'
        have du := part_deep (mem_of hu)
        have zu := part_size (mem_of hu)
        exact ⟨rfl, _, rfl, G4, u, y, rfl, s4.gh, ru.up s4.eg, by omega, by omega, fun H5 f5 => k1' _ _ _ _ rfl (f5.step s4.gh) rfl⟩
      · rintro G4 H4 zs s4 hM gM rz
        rw [filterMap_some] at rz
        have : zs = (s.parts.map fun p => ((rowSize p : Nat) : Int)).map V.int := RepL.ints (by rw [List.map_map]; exact rz)
        subst this
        refine ⟨M, _, rfl, .of hM, k1 _ _ _ _ rfl (s3.trans s4) ?_⟩
        show V.int _ = V.int _
        congr 1
        unfold Stm.partsSize
        rw [← sumI, List.map_map]; rfl
    · rintro G2 H2 ys s2 hL gL ry
      rw [filterMap_some] at ry
      have : ys = (r.map fun s => ((s.partsSize : Nat) : Int)).map V.int := RepL.ints (by rw [List.map_map]; exact ry)
      subst this
      refine ⟨L, _, rfl, .of hL, _, _, rfl, rfl, qI (Q := Q) (k _ s2.toFr) ?_⟩
      rw [rowSize_sum, lx]
      have : (r.map fun s => ((s.partsSize : Nat) : Int)).sum = (((r.map Stm.partsSize).sum : Nat) : Int) := by rw [← sumI, List.map_map]; rfl
      rw [this]; omega
theorem lens (T : Txt K mg) (c_law_parts : Cal P w K mg base 1 "_law_parts" P_law_parts spLParts) : ∀ d, Cal P w K mg base (d + 1) "_law_length" P_law_length (spLen d)
  | 0 => by
    refine Cal.of T.fn_law_length sc_law_length (fun vs H Q E h => ?_) (fun f cdv A outer s H vs Q E hr h => ?_)
    · obtain ⟨_, _, _, _, _, _, h, _⟩ := h; exact absurd h (Nat.not_lt_zero _)
    · obtain ⟨_, _, _, _, _, _, h, _⟩ := h; exact absurd h (Nat.not_lt_zero _)
  | d + 1 => ok_len T (c_law_parts.up (by omega)) (lens T c_law_parts d)
theorem ok_plan {k : Nat} (T : Txt K mg) (c_law_draw : Cal P w K mg base k "_law_draw" P_law_draw spDraw) (c_law_word : Cal P w K mg base k "_law_word" P_law_word (spWord K)) : Cal P w K mg base (k + 1) "_law_plan" P_law_plan spPlan := by
  refine Cal.of T.fn_law_plan sc_law_plan (fun vs H Q E h => ?_) (fun f cdv A outer s H vs Q E hr h => ?_)
  · obtain ⟨_, _, _, rfl, _⟩ := h; rfl
  · obtain ⟨G, wa, c, rfl, e, wo, hc, k⟩ := h
    refine ⟨_, (pss_cons (ps_set (i := 2) sc_law_plan.nd rfl (Or.inl rfl) (pe_lst pa_nil))
    (pss_cons (ps_for PassesOwn.never rfl (pi_range1 (by rfl) T.f_range (pa_cons (pe_op op_add pe_int (pc c_law_draw (hr.mono (by first | decide | omega)) (pa_cons (pv 0) (pa_cons (pv 1) pa_nil)))) pa_nil)) (pg_name (i := 3) sc_law_plan.nd rfl (Or.inl rfl))
      (pss_cons (ps_set (i := 4) sc_law_plan.nd rfl (Or.inl rfl) (pe_lst pa_nil))
      (pss_cons (ps_for PassesOwn.never rfl (pi_range1 (by rfl) T.f_range (pa_cons (pe_op op_add pe_int (pc c_law_draw (hr.mono (by first | decide | omega)) (pa_cons (pv 0) (pa_cons pe_int pa_nil)))) pa_nil)) (pg_name (i := 5) sc_law_plan.nd rfl (Or.inl rfl))
        (pss_one (ps_expr (k_bm K PySem.F.plainAttrs_list PySem.F.slot_list_append PySem.F.type_list_append mt_append (pv 4) (pa_cons (pc c_law_word (hr.mono (by first | decide | omega)) (pa_cons (pv 0) (pa_cons (pv 4) pa_nil))) pa_nil)))))
      (pss_one (ps_expr (k_bm K PySem.F.plainAttrs_list PySem.F.slot_list_append PySem.F.type_list_append mt_append (pv 2) (pa_cons (pe_tup (pa_cons (pc c_law_word (hr.mono (by first | decide | omega)) (pa_cons (pv 0) (pa_cons (pe_lc (own := [("_law_cell", 6)]) (by rfl) sc_law_plan.nd (k_list K (pv 2)) (blkOk_by (own := [("_law_cell", 6)]) (N := N_law_plan) (by kernel_rfl)) (fun _ _ _ _ _ => (pg_name (i := 6) sc_law_plan.nd rfl (Or.inl rfl))) (fun _ _ _ _ _ => pts_nil) (fun _ _ _ _ _ => (pe_ix (k_ixT K) (pv 6) pe_int (fun _ _ => rfl)))) pa_nil))) (pa_cons (pv 4) pa_nil))) pa_nil)))))))
    (pss_one (ps_ret (pv 2))))), ?_⟩
    refine seqSet ⟨zs, fun fa nf => ?_⟩
    generalize e1 : upd H fa _ = H1
    obtain ⟨S1, s1, F1⟩ := (Step.refl (W := Wa wa) e).newME nf e1
    have w1 := wo.go s1
    have nfw := wo.ne nf
    refine ⟨_, rfl, _, rfl, G, wa, c, 2, rfl, S1.gh, w1, by omega, by decide, by decide, fun n H2 hn s2 w2 => ⟨_, _, rfl, rfl, _, rfl, by omega, by omega, ?_⟩⟩
    have S2 := S1.trans s2
    have F2 := F1.go s2 nfw
    rw [show (1 + (n : Int)).toNat = n + 1 by omega]
    refine for_range (fun i σ H3 => ∃ (G3 : Hp) (p : Plan) (xs : List V), Step (Wa wa) G H G3 H3 ∧ WO G3 H3 wa (c + 1 + 90 * i) ∧ Mi G3 H3 fa (.lst xs) ∧ RepL G3 (p.map cellD) xs ∧ p.length = i ∧ (∀ c ∈ p, NameOk c.1) ∧ (∀ c ∈ p, 2 ≤ c.2.length ∧ c.2.length ≤ 4 ∧ c.2.Nodup ∧ ∀ v ∈ c.2, NameOk v) ∧ (p.map Prod.fst).Nodup ∧
        ∃ y1 y2 y3 y4, σ = [some (.ref wa), some (.int 2), some (.ref fa), y1, y2, y3, y4])
      ⟨G, [], [], S2, w2, F2, rfl, rfl, by simp, by simp, by simp, _, _, _, _, rfl⟩ ?_ ?_
    · rintro i σ H3 hi ⟨G3, p, xs, S3, w3, F3, rx, lp, ok1, ok2, nd, y1, y2, y3, y4, rfl⟩
      have lx := rx.len
      rw [List.length_map] at lx
      refine ⟨zs, fun va nv => ?_⟩
      generalize e4 : upd H3 va _ = H4
      obtain ⟨S4, s4, V4⟩ := S3.newME nv e4
      have w4 := w3.go s4
      have F4 := F3.go s4
      have nvw := w3.ne nv
      have nvf : va ≠ fa := (F3.ne' nv).symm
      have nvH : H va = none := S3.dm _ nv
      refine ⟨_, rfl, G3, wa, c + 1 + 90 * i, 2, rfl, S4.gh, w4, by omega, by decide, by decide, fun m H5 hm s5 w5 => ⟨_, _, rfl, rfl, _, rfl, by omega, by omega, ?_⟩⟩
      have S5 := S4.trans s5
      have V5 := V4.go s5 nvw
      have F5 := F4.go s5 nfw
      rw [show (2 + (m : Int)).toNat = m + 2 by omega]
      refine for_range (fun j σ H6 => ∃ (G6 : Hp) (ts : List Str), Step (Wa wa) G H G6 H6 ∧ Ex G3 G6 ∧ WO G6 H6 wa (c + 1 + 90 * i + 1 + 20 * j) ∧ Mi G6 H6 va (.lst (ts.map V.str)) ∧ Mi G6 H6 fa (.lst xs) ∧ ts.length = j ∧ ts.Nodup ∧ (∀ v ∈ ts, NameOk v) ∧
          ∃ y1 y3 y4, σ = [some (.ref wa), some (.int 2), some (.ref fa), y1, some (.ref va), y3, y4])
        ⟨G3, [], S5, Ex.rfl' _, w5, V5, F5, rfl, List.nodup_nil, by simp, _, _, _, rfl⟩ ?_ ?_
      · rintro j σ H6 hj ⟨G6, ts, S6, e36, w6, V6, F6, lt, ndt, okt, y1, y3, y4, rfl⟩
        refine ⟨_, rfl, .inl ⟨rfl, _, .of V6.h⟩, _, rfl, _, rfl, G6, wa, va, c + 1 + 90 * i + 1 + 20 * j, ts, rfl, S6.gh, w6, by omega, V6.h, nvw, by omega, fun z G7 H7 nz fz s7 w7 => ?_⟩
        have S7 := S6.trans s7
        have V7 := V6.go s7 nvw
        have F7 := F6.go s7 nfw
        refine ⟨va, _, _, rfl, rfl, V7.h, zl' (by rw [List.length_map]; omega), ?_⟩
        generalize e8 : upd H7 va _ = H8
        obtain ⟨S8, V8, n8⟩ := S7.mutE (.inr nvH) V7 e8
        refine ⟨G7, ts ++ [z], S8, e36.trans s7.eg, ?_, by rw [List.map_append]; exact V8, ⟨(n8 fa nvf.symm).trans F7.h, F7.g⟩, by simp [lt], ?_, ?_, _, _, _, rfl⟩
        · obtain ⟨a, b, nn, M, r⟩ := w7.ex
          exact (WO.mk ⟨a, b, nn, ⟨(n8 wa nvw.symm).trans M.h, M.g⟩, r⟩ : WO G7 H8 wa _).up (by omega)
        · rw [List.nodup_append]
          refine ⟨ndt, by simp, fun a ha b hb => ?_⟩
          rw [List.mem_singleton.mp hb]
          rintro rfl
          exact fz ha
        · intro v hv
          rcases List.mem_append.mp hv with hv | hv
          · exact okt v hv
          · rw [List.mem_singleton.mp hv]; exact nz
      · rintro σ H6 ⟨G6, ts, S6, e36, w6, V6, F6, lt, ndt, okt, y1, y3, y4, rfl⟩
        obtain ⟨G7, S7, e67, g7, n7⟩ := S6.frzE nvH V6
        have F7 : Mi G7 H6 fa (.lst xs) := ⟨F6.h, by rw [n7 _ nvf.symm]; exact F6.g⟩
        have w7 : WO G7 H6 wa (c + 1 + 90 * i + 1 + 20 * (m + 2)) := by
          obtain ⟨a, b, nn, M, r⟩ := w6.ex
          exact ⟨a, b, nn, ⟨M.h, by rw [n7 _ nvw.symm]; exact M.g⟩, r⟩
        have rx7 := rx.up (e36.trans e67)
        refine ⟨_, rfl, .inl ⟨rfl, _, .of F7.h⟩, _, rfl, _, rfl, fa, rfl, ⟨_, .of F7.h⟩, fun L nL => ?_⟩
        refine lcD p (fun c => some (.str c.1)) (walkL lx.symm) (by omega) S7.gh nL (fun H8 e8 => .of (e8 _ _ F7.h)) ?_ ?_
        · rintro a c2 x G8 H8 H8' K1 K0 hc2 s8 ⟨rfl, ex⟩ k1 k0
          obtain ⟨c', hc', rc⟩ := rx7.map ex
          rw [hc2] at hc'; cases hc'
          obtain ⟨b, l, rfl, gb, gl⟩ := rep_cell (rc.up s8.eg)
          exact ⟨rfl, _, rfl, b, _, 0, _, rfl, rfl, sqT gb s8.gh, at_nat (i := 0) rfl, k1 _ _ _ _ rfl (Step.refl s8.gh) rfl⟩
        · rintro G8 H8 ys s8 hL gL ry
          cases ry.strs'
          have S8 := S7.trans s8
          have w8 := w7.go s8
          have F8 := F7.go s8
          have nLw := w7.ne nL
          refine ⟨G8, wa, L, _, p.map Prod.fst, rfl, S8.gh, w8, by omega, hL, nLw, by rw [List.length_map]; omega, fun z G9 H9 nz fz s9 w9 => ?_⟩
          have S9 := S8.trans s9
          have F9 := F8.go s9 nfw
          refine ⟨_, rfl, zs, fun t nt => ?_⟩
          generalize e10 : upd H9 t _ = H10
          obtain ⟨G10, S10, s10, g10⟩ := S9.newDE nt e10
          have F10 := F9.go s10
          have w10 := w9.go s10
          refine ⟨fa, _, _, rfl, rfl, F10.h, zl' (by omega), ?_⟩
          generalize e11 : upd H10 fa _ = H11
          obtain ⟨S11, F11, n11⟩ := S10.mutE (.inr nf) F10 e11
          have up := (s8.eg.trans s9.eg).trans s10.eg
          refine ⟨G10, p ++ [(z, ts)], _, S11, ?_, F11, ?_, by simp [lp], ?_, ?_, ?_, _, _, _, _, rfl⟩
          · obtain ⟨a, b, nn, M, r⟩ := w10.ex
            exact (WO.mk ⟨a, b, nn, ⟨(n11 wa nfw.symm).trans M.h, M.g⟩, r⟩ : WO G10 H11 wa _).up (by omega)
          · rw [List.map_append]
            exact (rx7.up up).snoc (rep_tup g10 ⟨_, _, rfl, rfl, _, _, rfl, ⟨va, _, rfl, up _ _ g7, RepL.of_strs _⟩, rfl⟩)
          · intro c2 hc2
            rcases List.mem_append.mp hc2 with h | h
            · exact ok1 c2 h
            · rw [List.mem_singleton.mp h]; exact nz
          · intro c2 hc2
            rcases List.mem_append.mp hc2 with h | h
            · exact ok2 c2 h
            · rw [List.mem_singleton.mp h]
              exact ⟨by simp only; omega, by simp only; omega, ndt, okt⟩
          · rw [List.map_append, List.nodup_append]
            refine ⟨nd, by simp, fun a ha b hb => ?_⟩
            have : b = z := by simpa using hb
            rw [this]
            rintro rfl
            exact fz ha
    · rintro σ H3 ⟨G3, p, xs, S3, w3, F3, rx, lp, ok1, ok2, nd, y1, y2, y3, y4, rfl⟩
      obtain ⟨G4, S4, e34, g4, n4⟩ := S3.frzE nf F3
      have w4 : WO G4 H3 wa (c + 1 + 90 * (n + 1)) := by
        obtain ⟨a, b, nn, M, r⟩ := w3.ex
        exact ⟨a, b, nn, ⟨M.h, by rw [n4 _ nfw.symm]; exact M.g⟩, r⟩
      exact ⟨_, rfl, k p _ _ _ ⟨by omega, by omega, ok1, ok2, nd⟩ S4 (w4.up (by omega)) (rep_lst g4 (rx.up e34))⟩
end
end K4

set_option maxHeartbeats 4000000
/-! The law's statements and rows. -/
namespace K4
open PySem L2
def kR : Nat → Nat
  | 0 => 0
  | n + 1 => (n + 1) * (5 + 2 * kR n)
def kS (n : Nat) : Nat := 5 + 2 * kR (n - 1)
theorem kR_mono : ∀ a : Nat, a ≤ 5 → ∀ b : Nat, b ≤ 5 → a ≤ b → kR a ≤ kR b := by decide
theorem kS_mono : ∀ a : Nat, a ≤ 5 → ∀ b : Nat, b ≤ 5 → a ≤ b → kS a ≤ kS b := by decide
theorem kR_S : ∀ a : Nat, a ≤ 5 → kR a = a * kS a := by decide
theorem kR_two : ∀ a : Nat, a ≤ 5 → ∀ b : Nat, b ≤ 5 → ∀ n : Nat, n ≤ 5 → a + b + 1 ≤ n → 5 + kR a + kR b ≤ kS n := by decide
/-- the plan's and the marks' values -/
structure Src (G : Hp) (p : Plan) (ms : List Str) (pv mv : V) : Prop where
  pr : Rep G (planD p) pv
  mr : Rep G (.lst (ms.map D.str)) mv
  ok : PlanOk p
  lo : 1 ≤ ms.length
  hi : ms.length ≤ 10
  nm : ∀ m ∈ ms, NameOk m
theorem Src.up {G G' : Hp} {p : Plan} {ms : List Str} {pv mv : V} (h : Src G p ms pv mv) (e : Ex G G') : Src G' p ms pv mv := ⟨h.pr.up e, h.mr.up e, h.ok, h.lo, h.hi, h.nm⟩
def spStatement (n : Nat) : Sp := fun vs H Q _ => ∃ (G : Hp) (wa c sz : Nat) (p : Plan) (ms : List Str) (pv mv : V), vs = [.ref wa, pv, mv, .int sz] ∧ Ex G H ∧ WO G H wa c ∧ c + kS sz ≤ 900000 ∧ Src G p ms pv mv ∧ 1 ≤ sz ∧ sz ≤ n ∧ sz ≤ 5 ∧
  ∀ (s : Stm) G' H' v, s.size ≤ sz → (∀ t ∈ s.flat, StmOk p t) → Step (Wa wa) G H G' H' → WO G' H' wa (c + kS sz) → Rep G' s.d v → Q v H'
def spRow (n : Nat) : Sp := fun vs H Q _ => ∃ (G : Hp) (wa c sz : Nat) (p : Plan) (ms : List Str) (pv mv : V), vs = [.ref wa, pv, mv, .int sz] ∧ Ex G H ∧ WO G H wa c ∧ c + kR sz ≤ 900000 ∧ Src G p ms pv mv ∧ sz ≤ n ∧ sz ≤ 5 ∧
  ∀ (r : Row) G' H' v, rowSize r ≤ sz → (∀ t ∈ rowFlat r, StmOk p t) → Step (Wa wa) G H G' H' → WO G' H' wa (c + kR sz) → Rep G' (rowDT r) v → Q v H'
section
variable {P : Program} {w : World} {K : PySem.W.Frag} {mg : Str → Option Value} {base : Heap}
theorem ok_statement {k n : Nat} (T : Txt K mg) (c_law_draw : Cal P w K mg base k "_law_draw" P_law_draw spDraw) (c_law_of : Cal P w K mg base k "_law_of" P_law_of (spOf K)) (c_law_row : Cal P w K mg base k "_law_row" P_law_row (spRow n)) :
    Cal P w K mg base (k + 1) "_law_statement" P_law_statement (spStatement (n + 1)) := by
  refine Cal.of T.fn_law_statement sc_law_statement (fun vs H Q E h => ?_) (fun f cdv A outer s H vs Q E hr h => ?_)
  · obtain ⟨_, _, _, _, _, _, _, _, rfl, _⟩ := h; rfl
  · obtain ⟨G, wa, c, sz, p, ms, pv, mv, rfl, e, wo, hc, src, s1', sn, s5', k⟩ := h
    have five : 5 ≤ kS sz := by unfold kS; omega
    obtain ⟨pa, xs, rfl, gp, rx⟩ := src.pr.lst
    obtain ⟨ma, ys, rfl, gm, rm⟩ := src.mr.lst
    cases rm.strs
    have lx := rx.len
    rw [List.length_map] at lx
    have plo := src.ok.lo
    have phi := src.ok.hi
    have mlo := src.lo
    have mhi := src.hi
    refine ⟨_, (pss_cons (ps_asg (pc c_law_of (hr.mono (by first | decide | omega)) (pa_cons (pv 0) (pa_cons (pv 1) pa_nil))) (k_gtup K (n := 2) rfl (pgs_cons (pg_name (i := 4) sc_law_statement.nd rfl (Or.inl rfl)) (pgs_cons (pg_name (i := 5) sc_law_statement.nd rfl (Or.inl rfl)) pgs_nil))))
    (pss_cons (ps_set (i := 6) sc_law_statement.nd rfl (Or.inl rfl) (pc c_law_of (hr.mono (by first | decide | omega)) (pa_cons (pv 0) (pa_cons (pv 5) pa_nil))))
    (pss_cons (ps_set (i := 7) sc_law_statement.nd rfl (Or.inl rfl) (pc c_law_draw (hr.mono (by first | decide | omega)) (pa_cons (pv 0) (pa_cons (pe_ix (k_ixL K) (pe_lst (pa_cons pe_int (pa_cons pe_int pa_nil))) (pe_callTy call_int1 (by rfl) T.f_int (by decide +kernel) (pa_cons (pe_cmpR op_gt (pv 3) pe_int (by first | exact nomark _ | rfl)) pa_nil)) (fun _ _ => rfl)) pa_nil))))
    (pss_cons (ps_if (pt_cmpR op_lt (pv 7) pe_int (by first | exact nomark _ | rfl))
      (pss_one (ps_ret (pe_tup (pa_cons pe_str (pa_cons (pv 4) (pa_cons (pv 6) pa_nil))))))
      pss_nil)
    (pss_cons (ps_if (pt_cmpR op_lt (pv 7) pe_int (by first | exact nomark _ | rfl))
      (pss_one (ps_ret (pe_tup (pa_cons pe_str (pa_cons (pv 4) (pa_cons (pv 6) pa_nil))))))
      pss_nil)
    (pss_cons (ps_if (pt_cmpR op_lt (pv 7) pe_int (by first | exact nomark _ | rfl))
      (pss_one (ps_ret (pe_tup (pa_cons pe_str (pa_cons (pc c_law_of (hr.mono (by first | decide | omega)) (pa_cons (pv 0) (pa_cons (pv 2) pa_nil))) pa_nil)))))
      pss_nil)
    (pss_cons (ps_if (pt_cmpR op_lt (pv 7) pe_int (by first | exact nomark _ | rfl))
      (pss_one (ps_ret (pe_ix (k_ixL K) (pe_lst (pa_cons (pe_tup (pa_cons pe_str pa_nil)) (pa_cons (pe_tup (pa_cons pe_str pa_nil)) (pa_cons (pe_tup (pa_cons pe_str pa_nil)) pa_nil)))) (pc c_law_draw (hr.mono (by first | decide | omega)) (pa_cons (pv 0) (pa_cons pe_int pa_nil))) (fun _ _ => rfl))))
      pss_nil)
    (pss_cons (ps_set (i := 8) sc_law_statement.nd rfl (Or.inl rfl) (pc c_law_draw (hr.mono (by first | decide | omega)) (pa_cons (pv 0) (pa_cons (pv 3) pa_nil))))
    (pss_cons (ps_set (i := 9) sc_law_statement.nd rfl (Or.inl rfl) (pc c_law_draw (hr.mono (by first | decide | omega)) (pa_cons (pv 0) (pa_cons (pe_op op_sub (pv 3) (pv 8)) pa_nil))))
    (pss_cons (ps_if (PW.pt (pw_or (pt_cmpR op_eq (pv 7) pe_int (by first | exact nomark _ | rfl)) (pw_or1 (pt_cmpR op_eq (pv 7) pe_int (by first | exact nomark _ | rfl)))))
      (pss_cons (ps_set (i := 10) sc_law_statement.nd rfl (Or.inl rfl) (pc c_law_row (hr.mono (by first | decide | omega)) (pa_cons (pv 0) (pa_cons (pv 1) (pa_cons (pv 2) (pa_cons (pv 8) pa_nil))))))
      (pss_one (ps_ret (pe_tup (pa_cons pe_str (pa_cons (pv 4) (pa_cons (pv 6) (pa_cons (pv 10) (pa_cons (pc c_law_row (hr.mono (by first | decide | omega)) (pa_cons (pv 0) (pa_cons (pv 1) (pa_cons (pv 2) (pa_cons (pv 9) pa_nil))))) pa_nil)))))))))
      pss_nil)
    (pss_cons (ps_if (pt_cmpR op_eq (pv 7) pe_int (by first | exact nomark _ | rfl))
      (pss_one (ps_ret (pe_tup (pa_cons pe_str (pa_cons (pv 4) (pa_cons (pv 6) (pa_cons (pc c_law_row (hr.mono (by first | decide | omega)) (pa_cons (pv 0) (pa_cons (pv 1) (pa_cons (pv 2) (pa_cons (pv 8) pa_nil))))) pa_nil)))))))
      pss_nil)
    (pss_cons (ps_if (pt_cmpR op_eq (pv 7) pe_int (by first | exact nomark _ | rfl))
      (pss_one (ps_ret (pe_tup (pa_cons pe_str (pa_cons (pc c_law_row (hr.mono (by first | decide | omega)) (pa_cons (pv 0) (pa_cons (pv 1) (pa_cons (pv 2) (pa_cons (pv 8) pa_nil))))) pa_nil)))))
      pss_nil)
    (pss_cons (ps_set (i := 11) sc_law_statement.nd rfl (Or.inl rfl) (pc c_law_row (hr.mono (by first | decide | omega)) (pa_cons (pv 0) (pa_cons (pv 1) (pa_cons (pv 2) (pa_cons (pv 8) pa_nil))))))
    (pss_one (ps_ret (pe_tup (pa_cons pe_str (pa_cons (pv 11) (pa_cons (pc c_law_row (hr.mono (by first | decide | omega)) (pa_cons (pv 0) (pa_cons (pv 1) (pa_cons (pv 2) (pa_cons (pv 9) pa_nil))))) pa_nil))))))))))))))))))), ?_⟩
    refine seqAsg ⟨_, rfl, _, rfl, G, wa, c, p.length, .ref pa, rfl, e, wo, by omega, .inl ⟨_, sqL gp e, lx.symm⟩, by omega, by omega, fun i H1 hi s1 w1 => ?_⟩
    obtain ⟨x, hx⟩ := some_of (show i < xs.length by omega)
    obtain ⟨cell, hcell, rc⟩ := rx.map hx
    obtain ⟨cn, vl⟩ := cell
    obtain ⟨b, l, rfl, gb, gl⟩ := rep_cell rc
    have okc := src.ok.vl _ (mem_of hcell)
    refine .inl ⟨pa, xs, i, _, rfl, rfl, sqL gp s1.gh, at_nat hx, g2 (sqT gb s1.gh) ?_⟩
    refine seqSet ⟨_, rfl, _, rfl, G, wa, c + 1, vl.length, .ref l, rfl, s1.gh, w1, by omega, .inl ⟨_, sqL gl s1.gh, by rw [List.length_map]⟩, by simp only at okc; omega, by simp only at okc; omega, fun j H2 hj s2 w2 => ?_⟩
    obtain ⟨v, hv⟩ := some_of hj
    have S2 := s1.trans s2
    have cvok : ∀ s : Stm, s.cv = some (cn, v) → s.mark = none → StmOk p s := fun s h1 h2 => ⟨fun c' v' h => by
      rw [h1] at h; cases h
      exact ⟨vl, mem_of hcell, mem_of hv⟩, fun m hm => by subst hm; cases h2⟩
    refine .inl ⟨l, _, j, .str v, rfl, rfl, sqL gl S2.gh, at_nat (by rw [List.getElem?_map, hv]; rfl), ?_⟩
    refine seqSet ⟨_, rfl, zs, fun lk nk => ?_⟩
    generalize e3 : upd H2 lk _ = H3
    obtain ⟨G3, S3, s3, gk⟩ := S2.newDE nk e3
    have w3 := w2.go s3
    obtain ⟨mk, hmk, mk0, mk1, mk2⟩ : ∃ mk : Nat, atI [V.int 9, .int 14] (if decide ((1 : Int) < sz) = true then 1 else 0) = some (.int mk) ∧ 0 < mk ∧ mk < 100 ∧ (9 < mk → 1 < sz) := by
      by_cases h : (1 : Int) < sz
      · rw [decide_eq_true h]
        exact ⟨14, rfl, by decide, by decide, fun _ => by omega⟩
      · rw [decide_eq_false h]
        exact ⟨9, rfl, by decide, by decide, fun h => absurd h (by decide)⟩
    refine ⟨_, rfl, _, _, rfl, rfl, .inr ⟨_, rfl, lk, _, _, _, rfl, rfl, sqL gk S3.gh, hmk, G3, wa, c + 1 + 1, mk, rfl, S3.gh, w3, by omega, mk0, by omega, fun kd H4 hk s4 w4 => ?_⟩⟩
    have S4 := S3.trans s4
    have src4 := src.up S4.eg
    refine ⟨_, rfl, _, _, rfl, rfl, _, rfl, if2 (fun _ => ?_) (fun k3 => ?_)⟩
    · refine ⟨_, rfl, _, rfl, zs, fun t nt => ?_⟩
      generalize e5 : upd H4 t _ = H5
      obtain ⟨G5, S5, s5, g5⟩ := S4.newDE nt e5
      exact k (.wr cn v) _ _ _ s1' (fun t ht => by rw [List.mem_singleton.mp ht]; exact cvok _ rfl rfl) S5 ((w4.go s5).up (by omega)) (rep_tup g5 ⟨_, _, rfl, rfl, _, _, rfl, rfl, _, _, rfl, rfl, rfl⟩)
    refine ⟨_, rfl, _, _, rfl, rfl, _, rfl, if2 (fun _ => ?_) (fun k5 => ?_)⟩
    · refine ⟨_, rfl, _, rfl, zs, fun t nt => ?_⟩
      generalize e5 : upd H4 t _ = H5
      obtain ⟨G5, S5, s5, g5⟩ := S4.newDE nt e5
      exact k (.wt cn v) _ _ _ s1' (fun t ht => by rw [List.mem_singleton.mp ht]; exact cvok _ rfl rfl) S5 ((w4.go s5).up (by omega)) (rep_tup g5 ⟨_, _, rfl, rfl, _, _, rfl, rfl, _, _, rfl, rfl, rfl⟩)
    refine ⟨_, rfl, _, _, rfl, rfl, _, rfl, if2 (fun _ => ?_) (fun k7 => ?_)⟩
    · refine ⟨_, rfl, _, rfl, G3, wa, c + 1 + 1 + 1, ms.length, .ref ma, rfl, S4.gh, w4, by omega, .inl ⟨_, sqL (S4.eg _ _ gm) S4.gh, by rw [List.length_map]⟩, by omega, by omega, fun a H5 ha s5 w5 => ?_⟩
      obtain ⟨m, hm⟩ := some_of ha
      refine .inl ⟨ma, _, a, .str m, rfl, rfl, sqL (S4.eg _ _ gm) s5.gh, at_nat (by rw [List.getElem?_map, hm]; rfl), zs, fun t nt => ?_⟩
      generalize e6 : upd H5 t _ = H6
      obtain ⟨G6, S6, s6, g6⟩ := (S4.trans s5).newDE nt e6
      exact k (.mk m) _ _ _ s1' (fun t ht => by rw [List.mem_singleton.mp ht]; exact ⟨fun _ _ h => (by cases h), fun m' h => by cases h; exact src.nm m (mem_of hm)⟩) S6 ((w5.go s6).up (by omega)) (rep_tup g6 ⟨_, _, rfl, rfl, _, _, rfl, rfl, rfl⟩)
    refine ⟨_, rfl, _, _, rfl, rfl, _, rfl, if2 (fun _ => ?_) (fun k9 => ?_)⟩
    · refine ⟨zs, fun t1 n1 => ?_⟩
      generalize e5 : upd H4 t1 _ = H5
      obtain ⟨G5, S5, s5, g5⟩ := S4.newDE n1 e5
      refine ⟨zs, fun t2 n2 => ?_⟩
      generalize e6 : upd H5 t2 _ = H6
      obtain ⟨G6, S6, s6, g6⟩ := S5.newDE n2 e6
      refine ⟨zs, fun t3 n3 => ?_⟩
      generalize e7 : upd H6 t3 _ = H7
      obtain ⟨G7, S7, s7, g7⟩ := S6.newDE n3 e7
      refine ⟨zs, fun tl nl => ?_⟩
      generalize e8 : upd H7 tl _ = H8
      obtain ⟨G8, S8, s8, g8⟩ := S7.newDE nl e8
      have w8 := (((w4.go s5).go s6).go s7).go s8
      refine ⟨_, rfl, G8, wa, c + 1 + 1 + 1, 3, rfl, S8.gh, w8, by omega, by decide, by decide, fun a H9 ha s9 w9 => ?_⟩
      have S9 := S8.trans s9
      have up5 := ((s6.eg.trans s7.eg).trans s8.eg) _ _ g5
      have up6 := (s7.eg.trans s8.eg) _ _ g6
      have up7 := s8.eg _ _ g7
      match a, ha with
      | 0, _ => exact ⟨tl, _, 0, _, rfl, rfl, sqL g8 S9.gh, at_nat (i := 0) rfl, k .sk _ _ _ s1' (fun t ht => by rw [List.mem_singleton.mp ht]; exact ⟨fun _ _ h => (by cases h), fun m' h => by cases h⟩) S9 (w9.up (by omega)) (rep_tup up5 ⟨_, _, rfl, rfl, rfl⟩)⟩
      | 1, _ => exact ⟨tl, _, 1, _, rfl, rfl, sqL g8 S9.gh, at_nat (i := 1) rfl, k .sk _ _ _ s1' (fun t ht => by rw [List.mem_singleton.mp ht]; exact ⟨fun _ _ h => (by cases h), fun m' h => by cases h⟩) S9 (w9.up (by omega)) (rep_tup up6 ⟨_, _, rfl, rfl, rfl⟩)⟩
      | 2, _ => exact ⟨tl, _, 2, _, rfl, rfl, sqL g8 S9.gh, at_nat (i := 2) rfl, k .st _ _ _ s1' (fun t ht => by rw [List.mem_singleton.mp ht]; exact ⟨fun _ _ h => (by cases h), fun m' h => by cases h⟩) S9 (w9.up (by omega)) (rep_tup up7 ⟨_, _, rfl, rfl, rfl⟩)⟩
    have kd9 : 9 ≤ kd := by have := of_decide_eq_false k9; omega
    have sz2 : 1 < sz := mk2 (by omega)
    refine ⟨_, rfl, _, rfl, G3, wa, c + 1 + 1 + 1, sz, rfl, S4.gh, w4, by omega, by omega, by omega, fun one H5 h1 s5 w5 => ?_⟩
    have S5 := S4.trans s5
    refine ⟨_, rfl, _, rfl, _, rfl, _, _, rfl, rfl, G3, wa, c + 1 + 1 + 1 + 1, sz - one, ?_, S5.gh, w5, by omega, by omega, by omega, fun oth H6 h2 s6 w6 => ?_⟩
    · rw [show ((sz - one : Nat) : Int) = (sz : Int) - (one : Int) by omega]; rfl
    have S6 := S5.trans s6
    have src6 := src.up S6.eg
    have k2 := kR_two one (by omega) oth (by omega) sz s5' (by omega)
    have flat2 : ∀ (s : Stm) (y n : Row), s.parts = [y, n] → StmOk p s → (∀ t ∈ rowFlat y, StmOk p t) → (∀ t ∈ rowFlat n, StmOk p t) → ∀ t ∈ s.flat, StmOk p t := fun s y n hp h0 hy hn t ht => by
      rw [flat_parts, hp] at ht
      simp at ht
      rcases ht with rfl | ht | ht
      · exact h0
      · exact hy t ht
      · exact hn t ht
    have flat1 : ∀ (s : Stm) (y : Row), s.parts = [y] → StmOk p s → (∀ t ∈ rowFlat y, StmOk p t) → ∀ t ∈ s.flat, StmOk p t := fun s y hp h0 hy t ht => by
      rw [flat_parts, hp] at ht
      simp at ht
      rcases ht with rfl | ht
      · exact h0
      · exact hy t ht
    refine ⟨_, rfl, rfl, _, rfl, if2 (fun _ => ?_) (fun _ => ⟨_, rfl, rfl, _, rfl, if2 (fun _ => ?_) (fun _ => ?_)⟩)⟩
    · refine ⟨_, rfl, _, rfl, _, rfl, _, rfl, G3, wa, c + 1 + 1 + 1 + 1 + 1, one, p, ms, _, _, rfl, S6.gh, w6, by omega, src6, by omega, by omega, fun y G7 H7 v7 zy oky s7 w7 r7 => ?_⟩
      have S7 := S6.trans s7
      refine ⟨_, rfl, _, rfl, _, rfl, _, rfl, _, rfl, _, rfl, _, rfl, G7, wa, c + 1 + 1 + 1 + 1 + 1 + kR one, oth, p, ms, _, _, rfl, S7.gh, w7, by omega, src6.up s7.eg, by omega, by omega, fun n' G8 H8 v8 zn okn s8 w8 r8 => ⟨zs, fun t nt => ?_⟩⟩
      generalize e9 : upd H8 t _ = H9
      obtain ⟨G9, S9, s9, g9⟩ := (S7.trans s8).newDE nt e9
      exact k (.ie cn v y n') _ _ _ (by simp only [Stm.size]; omega) (flat2 _ y n' rfl (cvok _ rfl rfl) oky okn) S9 ((w8.go s9).up (by omega)) (rep_tup g9 ⟨_, _, rfl, rfl, _, _, rfl, rfl, _, _, rfl, rfl, _, _, rfl, r7.up (s8.eg.trans s9.eg), _, _, rfl, r8.up s9.eg, rfl⟩)
    · refine ⟨_, rfl, _, rfl, _, rfl, _, rfl, G3, wa, c + 1 + 1 + 1 + 1 + 1, one, p, ms, _, _, rfl, S6.gh, w6, by omega, src6, by omega, by omega, fun y G7 H7 v7 zy oky s7 w7 r7 => ?_⟩
      have S7 := S6.trans s7
      refine ⟨_, rfl, _, rfl, _, rfl, _, rfl, _, rfl, _, rfl, _, rfl, G7, wa, c + 1 + 1 + 1 + 1 + 1 + kR one, oth, p, ms, _, _, rfl, S7.gh, w7, by omega, src6.up s7.eg, by omega, by omega, fun n' G8 H8 v8 zn okn s8 w8 r8 => ⟨zs, fun t nt => ?_⟩⟩
      generalize e9 : upd H8 t _ = H9
      obtain ⟨G9, S9, s9, g9⟩ := (S7.trans s8).newDE nt e9
      exact k (.ie cn v y n') _ _ _ (by simp only [Stm.size]; omega) (flat2 _ y n' rfl (cvok _ rfl rfl) oky okn) S9 ((w8.go s9).up (by omega)) (rep_tup g9 ⟨_, _, rfl, rfl, _, _, rfl, rfl, _, _, rfl, rfl, _, _, rfl, r7.up (s8.eg.trans s9.eg), _, _, rfl, r8.up s9.eg, rfl⟩)
    refine ⟨_, rfl, rfl, _, rfl, if2 (fun _ => ?_) (fun _ => ?_)⟩
    · refine ⟨_, rfl, _, rfl, _, rfl, _, rfl, _, rfl, _, rfl, G3, wa, c + 1 + 1 + 1 + 1 + 1, one, p, ms, _, _, rfl, S6.gh, w6, by omega, src6, by omega, by omega, fun y G7 H7 v7 zy oky s7 w7 r7 => ?_⟩
      have S7 := S6.trans s7
      refine ⟨zs, fun t nt => ?_⟩
      generalize e9 : upd H7 t _ = H9
      obtain ⟨G9, S9, s9, g9⟩ := S7.newDE nt e9
      exact k (.wh cn v y) _ _ _ (by simp only [Stm.size]; omega) (flat1 _ y rfl (cvok _ rfl rfl) oky) S9 ((w7.go s9).up (by omega)) (rep_tup g9 ⟨_, _, rfl, rfl, _, _, rfl, rfl, _, _, rfl, rfl, _, _, rfl, r7.up s9.eg, rfl⟩)
    refine ⟨_, rfl, rfl, _, rfl, if2 (fun _ => ?_) (fun _ => ?_)⟩
    · refine ⟨_, rfl, _, rfl, _, rfl, _, rfl, G3, wa, c + 1 + 1 + 1 + 1 + 1, one, p, ms, _, _, rfl, S6.gh, w6, by omega, src6, by omega, by omega, fun y G7 H7 v7 zy oky s7 w7 r7 => ?_⟩
      have S7 := S6.trans s7
      refine ⟨zs, fun t nt => ?_⟩
      generalize e9 : upd H7 t _ = H9
      obtain ⟨G9, S9, s9, g9⟩ := S7.newDE nt e9
      exact k (.lo y) _ _ _ (by simp only [Stm.size]; omega) (flat1 _ y rfl ⟨fun _ _ h => (by cases h), fun m' h => by cases h⟩ oky) S9 ((w7.go s9).up (by omega)) (rep_tup g9 ⟨_, _, rfl, rfl, _, _, rfl, r7.up s9.eg, rfl⟩)
    refine ⟨_, rfl, _, rfl, _, rfl, _, rfl, G3, wa, c + 1 + 1 + 1 + 1 + 1, one, p, ms, _, _, rfl, S6.gh, w6, by omega, src6, by omega, by omega, fun y G7 H7 v7 zy oky s7 w7 r7 => ?_⟩
    have S7 := S6.trans s7
    refine ⟨_, rfl, _, rfl, _, rfl, _, rfl, _, rfl, G7, wa, c + 1 + 1 + 1 + 1 + 1 + kR one, oth, p, ms, _, _, rfl, S7.gh, w7, by omega, src6.up s7.eg, by omega, by omega, fun n' G8 H8 v8 zn okn s8 w8 r8 => ⟨zs, fun t nt => ?_⟩⟩
    generalize e9 : upd H8 t _ = H9
    obtain ⟨G9, S9, s9, g9⟩ := (S7.trans s8).newDE nt e9
    exact k (.ch y n') _ _ _ (by simp only [Stm.size]; omega) (flat2 _ y n' rfl ⟨fun _ _ h => (by cases h), fun m' h => by cases h⟩ oky okn) S9 ((w8.go s9).up (by omega)) (rep_tup g9 ⟨_, _, rfl, rfl, _, _, rfl, r7.up (s8.eg.trans s9.eg), _, _, rfl, r8.up s9.eg, rfl⟩)
theorem ok_row {k n : Nat} (T : Txt K mg) (c_law_length : Cal P w K mg base k "_law_length" P_law_length (spLen 6)) (c_law_statement : Cal P w K mg base k "_law_statement" P_law_statement (spStatement n)) :
    Cal P w K mg base (k + 1) "_law_row" P_law_row (spRow n) := by
  refine Cal.of T.fn_law_row sc_law_row (fun vs H Q E h => ?_) (fun f cdv A outer s H vs Q E hr h => ?_)
  · obtain ⟨_, _, _, _, _, _, _, _, rfl, _⟩ := h; rfl
  · obtain ⟨G, wa, c, sz, p, ms, qv, mv, rfl, e, wo, hc, src, sn, s5', k⟩ := h
    rw [kR_S sz s5'] at hc k
    refine ⟨_, (pss_cons (ps_set (i := 4) sc_law_row.nd rfl (Or.inl rfl) (pe_tup pa_nil))
    (pss_cons (ps_for PassesOwn.never rfl (pi_range1 (by rfl) T.f_range (pa_cons (pv 3) pa_nil)) (pg_name (i := 5) sc_law_row.nd rfl (Or.inl rfl))
      (pss_cons (ps_set (i := 6) sc_law_row.nd rfl (Or.inl rfl) (pe_op op_sub (pv 3) (pc c_law_length (hr.mono (by first | decide | omega)) (pa_cons (pv 4) pa_nil))))
      (pss_one (ps_if (pt_cmpR op_gt (pv 6) pe_int (by first | exact nomark _ | rfl))
        (pss_one (ps_set (i := 4) sc_law_row.nd rfl (Or.inl rfl) (pe_op (k_catT K) (pv 4) (pe_tup (pa_cons (pc c_law_statement (hr.mono (by first | decide | omega)) (pa_cons (pv 0) (pa_cons (pv 1) (pa_cons (pv 2) (pa_cons (pv 6) pa_nil))))) pa_nil)))))
        pss_nil))))
    (pss_one (ps_ret (pv 4))))), ?_⟩
    refine seqSet ⟨zs, fun t0 n0 => ?_⟩
    generalize e1 : upd H t0 _ = H1
    obtain ⟨G1, S1, s1, g1⟩ := (Step.refl (W := Wa wa) e).newDE n0 e1
    have w1 := wo.go s1
    refine ⟨_, rfl, _, rfl, by omega, by omega, ?_⟩
    rw [Int.toNat_natCast]
    refine for_range (fun i σ H2 => ∃ (G2 : Hp) (r : Row) (v : V), Step (Wa wa) G H G2 H2 ∧ WO G2 H2 wa (c + i * kS sz) ∧ Rep G2 (rowDT r) v ∧ rowSize r ≤ sz ∧ (∀ t ∈ rowFlat r, StmOk p t) ∧ ∃ y1 y2, σ = [some (.ref wa), some qv, some mv, some (.int sz), some v, y1, y2])
      ⟨G1, [], _, S1, by rw [Nat.zero_mul]; exact w1, rep_tup g1 .nil, Nat.zero_le _, fun t ht => (by cases ht), _, _, rfl⟩ ?_ ?_
    · rintro i σ H2 hi ⟨G2, r, v, S2, w2, rv, zr, okr, y1, y2, rfl⟩
      have dr := rowDeep_le r
      have im : (i + 1) * kS sz ≤ sz * kS sz := Nat.mul_le_mul_right _ hi
      rw [Nat.succ_mul] at im
      refine ⟨_, rfl, _, rfl, G2, r, v, rfl, S2.gh, rv, by omega, by omega, fun H3 f3 => ?_⟩
      have s3 := f3.step S2.gh
      have S3 := S2.trans s3
      have w3 := w2.go s3
      refine ⟨_, _, rfl, rfl, ?_⟩
      refine ⟨_, rfl, _, _, rfl, rfl, _, rfl, if2 (fun hf => ?_) (fun _ => ?_)⟩
      · have hf := of_decide_eq_true hf
        have km := kS_mono (sz - rowSize r) (by omega) sz s5' (by omega)
        refine ⟨_, rfl, _, rfl, _, rfl, _, rfl, _, rfl, G2, wa, c + i * kS sz, sz - rowSize r, p, ms, qv, mv, ?_, S3.gh, w3, by omega, src.up S3.eg, by omega, by omega, by omega, fun s G4 H4 v4 zs4 ok4 s4 w4 r4 => ?_⟩
        · rw [show ((sz - rowSize r : Nat) : Int) = (sz : Int) - (rowSize r : Nat) by omega]; rfl
        have S4 := S3.trans s4
        refine ⟨zs, fun t nt => ?_⟩
        generalize e5 : upd H4 t _ = H5
        obtain ⟨G5, S5, s5, g5⟩ := S4.newDE nt e5
        have rv5 := rv.up (s4.eg.trans s5.eg)
        obtain ⟨a, xs, ev, ga, rx⟩ := rv5.tup
        subst ev
        have lx := rx.len
        rw [rowD_map, List.length_map] at lx
        have lr := len_le_size r
        have fin : ∀ (G6 H6 : Hp) (u : V) (y5 y6 : Option V), Step NoW G5 H5 G6 H6 → Rep G6 (rowDT (r ++ [s])) u → ∃ (G2 : Hp) (r : Row) (v : V), Step (Wa wa) G H G2 H6 ∧ WO G2 H6 wa (c + (i + 1) * kS sz) ∧ Rep G2 (rowDT r) v ∧ rowSize r ≤ sz ∧ (∀ t ∈ rowFlat r, StmOk p t) ∧ ∃ y1 y2, [some (.ref wa), some qv, some mv, some (.int sz), some u, y5, y6] = [some (.ref wa), some qv, some mv, some (.int sz), some v, y1, y2] := by
          intro G6 H6 u y5 y6 s6 ru
          refine ⟨G6, r ++ [s], u, S5.trans s6, ?_, ru, ?_, fun t ht => ?_, _, _, rfl⟩
          · rw [Nat.succ_mul]; exact ((w4.go s5).go s6).up (by omega)
          · rw [rowSize_app]; simp only [rowSize]; omega
          · rw [rowFlat_app] at ht
            rcases List.mem_append.mp ht with ht | ht
            · exact okr t ht
            · simp [rowFlat] at ht; exact ok4 t ht
        have r45 := r4.up s5.eg
        refine ⟨a, t, xs, [v4], rfl, rfl, sqT ga S5.gh, sqT g5 S5.gh, zl (by simp; omega), fun hx => ?_, fun _ h => (by cases h), fun _ _ u nu => ?_⟩
        · have hr : r = [] := by
            cases r with
            | nil => rfl
            | cons _ _ => subst hx; simp at lx
          subst hr
          exact fin G5 H5 _ _ _ (Step.refl S5.gh) (rep_tup g5 ⟨_, _, rfl, r45, rfl⟩)
        · generalize e6 : upd H5 u _ = H6
          obtain ⟨G6, S6, s6, g6⟩ := (Step.refl (W := NoW) S5.gh).newDE nu e6
          refine fin G6 H6 _ _ _ S6 (rep_tup g6 ?_)
          rw [rowD_map, List.map_append, ← rowD_map]
          exact (rx.up S6.eg).snoc (r45.up S6.eg)
      · refine ⟨G2, r, v, S3, ?_, rv, zr, okr, _, _, rfl⟩
        rw [Nat.succ_mul]; exact w3.up (by omega)
    · rintro σ H2 ⟨G2, r, v, S2, w2, rv, zr, okr, y1, y2, rfl⟩
      exact ⟨_, rfl, k r _ _ _ zr okr S2 w2 rv⟩
theorem rows_ok (T : Txt K mg) (c_law_length : Cal P w K mg base 7 "_law_length" P_law_length (spLen 6)) (c_law_draw : Cal P w K mg base 1 "_law_draw" P_law_draw spDraw) (c_law_of : Cal P w K mg base 2 "_law_of" P_law_of (spOf K)) : ∀ n, Cal P w K mg base (8 + 2 * n) "_law_row" P_law_row (spRow n)
  | 0 => by
    refine ok_row (k := 7) T c_law_length (Cal.up (j := 1) ?_ (by omega))
    refine Cal.of T.fn_law_statement sc_law_statement (fun vs H Q E h => ?_) (fun f cdv A outer s H vs Q E hr h => ?_)
    · obtain ⟨_, _, _, _, _, _, _, _, _, _, _, _, _, h1, h2, _⟩ := h; omega
    · obtain ⟨_, _, _, _, _, _, _, _, _, _, _, _, _, h1, h2, _⟩ := h; omega
  | n + 1 => ok_row (k := 8 + 2 * n + 1) T (c_law_length.up (by omega)) (ok_statement (k := 8 + 2 * n) T (c_law_draw.up (by omega)) (c_law_of.up (by omega)) (rows_ok T c_law_length c_law_draw c_law_of n))
end
end K4

set_option maxHeartbeats 4000000
/-! The program's own statements and programs, built from the law's. -/
namespace K4
open PySem L2
def spBuilt (K : PySem.W.Frag) (d : Nat) : Sp := fun vs H Q _ => ∃ (G : Hp) (p : Plan) (s : Stm) (v : V), vs = [v] ∧ Ex G H ∧ Rep G s.d v ∧ PlanOk p ∧ (∀ t ∈ s.flat, StmOk p t) ∧ s.deep ≤ d ∧ s.deep ≤ 5 ∧ s.size ≤ 24 ∧
  ∀ G' H' v', Step NoW G H G' H' → StmO K G' s v' → Q v' H'
def spMade (K : PySem.W.Frag) (d : Nat) : Sp := fun vs H Q _ => ∃ (G : Hp) (p : Plan) (r : Row) (v : V), vs = [v] ∧ Ex G H ∧ Rep G (rowDT r) v ∧ PlanOk p ∧ (∀ t ∈ rowFlat r, StmOk p t) ∧ rowDeep r < d ∧ rowDeep r ≤ 5 ∧ rowSize r ≤ 24 ∧
  ∀ G' H' v', Step NoW G H G' H' → PrgO K G' r v' → Q v' H'
theorem prgO_mono {K : PySem.W.Frag} : ∀ G G' (s : Row) v, Ex G G' → PrgO K G s v → PrgO K G' s v := fun _ _ s _ e h => h.up e
theorem cv_names {p : Plan} {s : Stm} (ok : PlanOk p) (h : StmOk p s) {c v : Str} (e : s.cv = some (c, v)) : NameOk c ∧ NameOk v := by
  obtain ⟨vl, h1, h2⟩ := h.cv c v e
  exact ⟨ok.nm _ h1, (ok.vl _ h1).2.2.2 v h2⟩
section
variable {P : Program} {w : World} {K : PySem.W.Frag} {mg : Str → Option Value} {base : Heap}
theorem ok_built {k d : Nat} (T : Txt K mg) (hk : 1 ≤ k) (c_law_parts : Cal P w K mg base k "_law_parts" P_law_parts spLParts) (c_law_made : Cal P w K mg base k "_law_made" P_law_made (spMade K d)) (c_Write : CalC P w K mg base k (cA K "Write") P_OnCell_init [] (spOnCell K)) (c_Wait : CalC P w K mg base k (cA K "Wait") P_OnCell_init [] (spOnCell K))
    (c_Mark : CalC P w K mg base k (cA K "Mark") P_Mark_init [] (spMarkInit K)) (c_If : CalC P w K mg base k (cA K "If") P_If_init [] (spIfInit K)) (c_While : CalC P w K mg base k (cA K "While") P_While_init [] (spWhileInit K)) (c_Choose : CalC P w K mg base k (cA K "Choose") P_Choose_init [] (spChooseInit K))
    (c_Loop : CalC P w K mg base k (cA K "Loop") P_Loop_init [] (spLoopInit K)) : Cal P w K mg base (k + 2) "_law_built" P_law_built (spBuilt K d) := by
  refine Cal.of T.fn_law_built sc_law_built (fun vs H Q E h => ?_) (fun f cdv A outer s H vs Q E hr h => ?_)
  · obtain ⟨_, _, _, _, rfl, _⟩ := h; rfl
  · obtain ⟨G, p, s, v, rfl, e, rv, okp, oks, hd, hd5, hz, k⟩ := h
    refine ⟨_, (pss_cons (ps_setLc (i := 1) (own := [("_law_part", 2)]) (by rfl) sc_law_built.nd rfl rfl (sw_true rfl rfl rfl (by decide +kernel)) (k_tup K (pc c_law_parts (hr.mono (by first | decide | omega)) (pa_cons (pv 0) pa_nil))) (blkOk_by (own := [("_law_part", 2)]) (N := N_law_built) (by kernel_rfl)) (fun _ _ _ _ _ => (pg_name (i := 2) sc_law_built.nd rfl (Or.inl rfl))) (fun _ _ _ _ _ => pts_nil) (fun _ _ _ _ _ => (pc c_law_made (hr.mono (by first | decide | omega)) (pa_cons (pv 2) pa_nil))))
    (pss_cons (ps_if (pt_cmpR op_eq (pe_ix (k_ixT K) (pv 0) pe_int (fun _ _ => rfl)) pe_str (by first | exact nomark _ | rfl))
      (pss_one (ps_ret (pcc c_Write (hr.mono (by first | decide | omega)) T.g_Write .nil (pa_cons (pe_ix (k_ixT K) (pv 0) pe_int (fun _ _ => rfl)) (pa_cons (pe_ix (k_ixT K) (pv 0) pe_int (fun _ _ => rfl)) pa_nil)))))
      pss_nil)
    (pss_cons (ps_if (pt_cmpR op_eq (pe_ix (k_ixT K) (pv 0) pe_int (fun _ _ => rfl)) pe_str (by first | exact nomark _ | rfl))
      (pss_one (ps_ret (pcc c_Wait (hr.mono (by first | decide | omega)) T.g_Wait .nil (pa_cons (pe_ix (k_ixT K) (pv 0) pe_int (fun _ _ => rfl)) (pa_cons (pe_ix (k_ixT K) (pv 0) pe_int (fun _ _ => rfl)) pa_nil)))))
      pss_nil)
    (pss_cons (ps_if (pt_cmpR op_eq (pe_ix (k_ixT K) (pv 0) pe_int (fun _ _ => rfl)) pe_str (by first | exact nomark _ | rfl))
      (pss_one (ps_ret (pcc c_Mark (hr.mono (by first | decide | omega)) T.g_Mark .nil (pa_cons (pe_ix (k_ixT K) (pv 0) pe_int (fun _ _ => rfl)) pa_nil))))
      pss_nil)
    (pss_cons (ps_if (pt_cmpR op_eq (pe_ix (k_ixT K) (pv 0) pe_int (fun _ _ => rfl)) pe_str (by first | exact nomark _ | rfl))
      (pss_one (ps_ret (pcc c_If (hr.mono (by first | decide | omega)) T.g_If .nil (pa_cons (pe_ix (k_ixT K) (pv 0) pe_int (fun _ _ => rfl)) (pa_cons (pe_ix (k_ixT K) (pv 0) pe_int (fun _ _ => rfl)) (pa_cons (pe_ix (k_ixL K) (pv 1) pe_int (fun _ _ => rfl)) (pa_cons (pe_ix (k_ixL K) (pv 1) pe_int (fun _ _ => rfl)) pa_nil)))))))
      pss_nil)
    (pss_cons (ps_if (pt_cmpR op_eq (pe_ix (k_ixT K) (pv 0) pe_int (fun _ _ => rfl)) pe_str (by first | exact nomark _ | rfl))
      (pss_one (ps_ret (pcc c_While (hr.mono (by first | decide | omega)) T.g_While .nil (pa_cons (pe_ix (k_ixT K) (pv 0) pe_int (fun _ _ => rfl)) (pa_cons (pe_ix (k_ixT K) (pv 0) pe_int (fun _ _ => rfl)) (pa_cons (pe_ix (k_ixL K) (pv 1) pe_int (fun _ _ => rfl)) pa_nil))))))
      pss_nil)
    (pss_cons (ps_if (pt_cmpR op_eq (pe_ix (k_ixT K) (pv 0) pe_int (fun _ _ => rfl)) pe_str (by first | exact nomark _ | rfl))
      (pss_one (ps_ret (pcc c_Choose (hr.mono (by first | decide | omega)) T.g_Choose .nil (pa_cons (pe_ix (k_ixL K) (pv 1) pe_int (fun _ _ => rfl)) (pa_cons (pe_ix (k_ixL K) (pv 1) pe_int (fun _ _ => rfl)) pa_nil)))))
      pss_nil)
    (pss_cons (ps_if (pt_cmpR op_eq (pe_ix (k_ixT K) (pv 0) pe_int (fun _ _ => rfl)) pe_str (by first | exact nomark _ | rfl))
      (pss_one (ps_ret (pcc c_Loop (hr.mono (by first | decide | omega)) T.g_Loop .nil (pa_cons (pe_ix (k_ixL K) (pv 1) pe_int (fun _ _ => rfl)) pa_nil))))
      pss_nil)
    (pss_one (ps_ret (pe_ix (k_ixL K) (pe_lst (pa_cons (pcc0 T.m0_Stop T.g_Stop) (pa_cons (pcc0 T.m0_Skip T.g_Skip) pa_nil))) (pe_callTy call_int1 (by rfl) T.f_int (by decide +kernel) (pa_cons (pe_cmpR op_eq (pe_ix (k_ixT K) (pv 0) pe_int (fun _ _ => rfl)) pe_str (by first | exact nomark _ | rfl)) pa_nil)) (fun _ _ => rfl)))))))))))), ?_⟩
    refine seqSet ⟨_, rfl, G, s, v, rfl, e, rv, fun G1 H1 pv s1 rp => ?_⟩
    obtain ⟨pa, ps, rfl, gp, rps⟩ := rp.tup
    have lps := rps.len
    rw [List.length_map] at lps
    have lp2 : s.parts.length ≤ 2 := by cases s <;> simp [Stm.parts]
    refine ⟨pa, rfl, ⟨_, sqT gp s1.gh⟩, fun L nL => ?_⟩
    refine lcE (E := PrgO K) prgO_mono s.parts (fun u => some u) (walkT lps.symm) (by omega) s1.gh nL (fun H4 e4 => sqT gp (s1.gh.trans e4)) ?_ ?_
    · rintro i u x G2 H2 H2' K1 K0 hu s2 ⟨rfl, ex⟩ k1 k0
      obtain ⟨u', hu', ru⟩ := rps.map ex
      rw [hu] at hu'; cases hu'
      have du := part_deep (mem_of hu)
      have zu := part_size (mem_of hu)
      exact ⟨rfl, _, rfl, G2, p, u, x, rfl, s2.gh, ru.up s2.eg, okp, fun t ht => oks t (part_flat (mem_of hu) ht), by omega, by omega, by omega, fun G3 H3 v3 s3 o3 => k1 _ _ _ _ rfl s3 o3⟩
    · rintro G2 H2 ys s2 hL gL al
      obtain ⟨G3, S3, e23, g3, _⟩ := s2.frzE nL ⟨hL, gL⟩
      have S := s1.trans S3
      have al3 : Al (PrgO K) G3 s.parts ys := by
        have : s.parts.filterMap (fun u => some u) = s.parts := List.filterMap_some
        rw [this] at al
        exact al.up prgO_mono e23
      have rv3 := rv.up S.eg
      have ok0 := oks s (self_flat s)
      clear rv rps al
      cases s with
      | wr c v =>
        obtain ⟨n1, n2⟩ := cv_names okp ok0 rfl
        obtain ⟨a, xs, rfl, ga, rx⟩ := rv3
        obtain ⟨x0, x1, x2, rfl, h0, h1, h2⟩ := rx.l3
        cases h0; cases h1; cases h2
        refine ⟨_, rfl, a, _, 0, _, rfl, rfl, sqT ga S.gh, at_nat (i := 0) rfl, rfl, _, rfl, ifT (by decide) ?_⟩
        refine ⟨_, rfl, a, _, 1, _, rfl, rfl, sqT ga S.gh, at_nat (i := 1) rfl, _, rfl, a, _, 2, _, rfl, rfl, sqT ga S.gh, at_nat (i := 2) rfl, fun x dx nx nd ne => ?_⟩
        generalize e5 : upd (upd H2 dx _) x _ = H5
        obtain ⟨s5, A5⟩ := madeE S.gh nx nd ne e5
        refine ⟨G3, x, dx, .write, c, v, rfl, s5.gh, A5, n1, n2, fun H6 s6 A6 => ⟨rfl, ?_⟩⟩
        obtain ⟨G7, s7, e7, g7⟩ := initE s5 nx s6 A6
        exact k G7 H6 _ (S.trans s7) (by simp only [StmO]; exact ⟨x, dx, rfl, g7⟩)
      | wt c v =>
        obtain ⟨n1, n2⟩ := cv_names okp ok0 rfl
        obtain ⟨a, xs, rfl, ga, rx⟩ := rv3
        obtain ⟨x0, x1, x2, rfl, h0, h1, h2⟩ := rx.l3
        cases h0; cases h1; cases h2
        refine ⟨_, rfl, a, _, 0, _, rfl, rfl, sqT ga S.gh, at_nat (i := 0) rfl, rfl, _, rfl, ifF (by decide) ?_⟩
        refine ⟨_, rfl, a, _, 0, _, rfl, rfl, sqT ga S.gh, at_nat (i := 0) rfl, rfl, _, rfl, ifT (by decide) ?_⟩
        refine ⟨_, rfl, a, _, 1, _, rfl, rfl, sqT ga S.gh, at_nat (i := 1) rfl, _, rfl, a, _, 2, _, rfl, rfl, sqT ga S.gh, at_nat (i := 2) rfl, fun x dx nx nd ne => ?_⟩
        generalize e5 : upd (upd H2 dx _) x _ = H5
        obtain ⟨s5, A5⟩ := madeE S.gh nx nd ne e5
        refine ⟨G3, x, dx, .wait, c, v, rfl, s5.gh, A5, n1, n2, fun H6 s6 A6 => ⟨rfl, ?_⟩⟩
        obtain ⟨G7, s7, e7, g7⟩ := initE s5 nx s6 A6
        exact k G7 H6 _ (S.trans s7) (by simp only [StmO]; exact ⟨x, dx, rfl, g7⟩)
      | mk m =>
        have n1 := ok0.mark m rfl
        obtain ⟨a, xs, rfl, ga, rx⟩ := rv3
        obtain ⟨x0, x1, rfl, h0, h1⟩ := rx.l2
        cases h0; cases h1
        refine ⟨_, rfl, a, _, 0, _, rfl, rfl, sqT ga S.gh, at_nat (i := 0) rfl, rfl, _, rfl, ifF (by decide) ?_⟩
        refine ⟨_, rfl, a, _, 0, _, rfl, rfl, sqT ga S.gh, at_nat (i := 0) rfl, rfl, _, rfl, ifF (by decide) ?_⟩
        refine ⟨_, rfl, a, _, 0, _, rfl, rfl, sqT ga S.gh, at_nat (i := 0) rfl, rfl, _, rfl, ifT (by decide) ?_⟩
        refine ⟨_, rfl, a, _, 1, _, rfl, rfl, sqT ga S.gh, at_nat (i := 1) rfl, fun x dx nx nd ne => ?_⟩
        generalize e5 : upd (upd H2 dx _) x _ = H5
        obtain ⟨s5, A5⟩ := madeE S.gh nx nd ne e5
        refine ⟨G3, x, dx, m, rfl, s5.gh, A5, n1, fun H6 s6 A6 => ⟨rfl, ?_⟩⟩
        obtain ⟨G7, s7, e7, g7⟩ := initE s5 nx s6 A6
        exact k G7 H6 _ (S.trans s7) (by simp only [StmO]; exact ⟨x, dx, rfl, g7⟩)
      | ie c v y n =>
        obtain ⟨n1, n2⟩ := cv_names okp ok0 rfl
        obtain ⟨a, xs, rfl, ga, rx⟩ := rv3
        obtain ⟨x0, r0, rfl, h0, rx⟩ := rx.c1
        obtain ⟨x1, r1, rfl, h1, rx⟩ := rx.c1
        obtain ⟨x2, r2, rfl, h2, rx⟩ := rx.c1
        cases h0; cases h1; cases h2
        obtain ⟨u, r, rfl, ou, t, r', rfl, ot, rfl⟩ := al3
        refine ⟨_, rfl, a, _, 0, _, rfl, rfl, sqT ga S.gh, at_nat (i := 0) rfl, rfl, _, rfl, ifF (by decide) ?_⟩
        refine ⟨_, rfl, a, _, 0, _, rfl, rfl, sqT ga S.gh, at_nat (i := 0) rfl, rfl, _, rfl, ifF (by decide) ?_⟩
        refine ⟨_, rfl, a, _, 0, _, rfl, rfl, sqT ga S.gh, at_nat (i := 0) rfl, rfl, _, rfl, ifF (by decide) ?_⟩
        refine ⟨_, rfl, a, _, 0, _, rfl, rfl, sqT ga S.gh, at_nat (i := 0) rfl, rfl, _, rfl, ifT (by decide) ?_⟩
        refine ⟨_, rfl, a, _, 1, _, rfl, rfl, sqT ga S.gh, at_nat (i := 1) rfl, _, rfl, a, _, 2, _, rfl, rfl, sqT ga S.gh, at_nat (i := 2) rfl, _, rfl, L, _, 0, _, rfl, rfl, sqL g3 S.gh, at_nat (i := 0) rfl, _, rfl, L, _, 1, _, rfl, rfl, sqL g3 S.gh, at_nat (i := 1) rfl, fun x dx nx nd ne => ?_⟩
        generalize e5 : upd (upd H2 dx _) x _ = H5
        obtain ⟨s5, A5⟩ := madeE S.gh nx nd ne e5
        refine ⟨G3, x, dx, c, v, u, t, rfl, s5.gh, A5, n1, n2, fun H6 s6 A6 => ⟨rfl, ?_⟩⟩
        obtain ⟨G7, s7, e7, g7⟩ := initE s5 nx s6 A6
        exact k G7 H6 _ (S.trans s7) (by simp only [StmO]; exact ⟨x, dx, u, t, rfl, g7, ou.up s7.eg, ot.up s7.eg⟩)
      | wh c v y =>
        obtain ⟨n1, n2⟩ := cv_names okp ok0 rfl
        obtain ⟨a, xs, rfl, ga, rx⟩ := rv3
        obtain ⟨x0, r0, rfl, h0, rx⟩ := rx.c1
        obtain ⟨x1, r1, rfl, h1, rx⟩ := rx.c1
        obtain ⟨x2, r2, rfl, h2, rx⟩ := rx.c1
        cases h0; cases h1; cases h2
        obtain ⟨u, r, rfl, ou, rfl⟩ := al3
        refine ⟨_, rfl, a, _, 0, _, rfl, rfl, sqT ga S.gh, at_nat (i := 0) rfl, rfl, _, rfl, ifF (by decide) ?_⟩
        refine ⟨_, rfl, a, _, 0, _, rfl, rfl, sqT ga S.gh, at_nat (i := 0) rfl, rfl, _, rfl, ifF (by decide) ?_⟩
        refine ⟨_, rfl, a, _, 0, _, rfl, rfl, sqT ga S.gh, at_nat (i := 0) rfl, rfl, _, rfl, ifF (by decide) ?_⟩
        refine ⟨_, rfl, a, _, 0, _, rfl, rfl, sqT ga S.gh, at_nat (i := 0) rfl, rfl, _, rfl, ifF (by decide) ?_⟩
        refine ⟨_, rfl, a, _, 0, _, rfl, rfl, sqT ga S.gh, at_nat (i := 0) rfl, rfl, _, rfl, ifT (by decide) ?_⟩
        refine ⟨_, rfl, a, _, 1, _, rfl, rfl, sqT ga S.gh, at_nat (i := 1) rfl, _, rfl, a, _, 2, _, rfl, rfl, sqT ga S.gh, at_nat (i := 2) rfl, _, rfl, L, _, 0, _, rfl, rfl, sqL g3 S.gh, at_nat (i := 0) rfl, fun x dx nx nd ne => ?_⟩
        generalize e5 : upd (upd H2 dx _) x _ = H5
        obtain ⟨s5, A5⟩ := madeE S.gh nx nd ne e5
        refine ⟨G3, x, dx, c, v, u, rfl, s5.gh, A5, n1, n2, fun H6 s6 A6 => ⟨rfl, ?_⟩⟩
        obtain ⟨G7, s7, e7, g7⟩ := initE s5 nx s6 A6
        exact k G7 H6 _ (S.trans s7) (by simp only [StmO]; exact ⟨x, dx, u, rfl, g7, ou.up s7.eg⟩)
      | ch y n =>
        obtain ⟨a, xs, rfl, ga, rx⟩ := rv3
        obtain ⟨x0, r0, rfl, h0, rx⟩ := rx.c1
        cases h0
        obtain ⟨u, r, rfl, ou, t, r', rfl, ot, rfl⟩ := al3
        refine ⟨_, rfl, a, _, 0, _, rfl, rfl, sqT ga S.gh, at_nat (i := 0) rfl, rfl, _, rfl, ifF (by decide) ?_⟩
        refine ⟨_, rfl, a, _, 0, _, rfl, rfl, sqT ga S.gh, at_nat (i := 0) rfl, rfl, _, rfl, ifF (by decide) ?_⟩
        refine ⟨_, rfl, a, _, 0, _, rfl, rfl, sqT ga S.gh, at_nat (i := 0) rfl, rfl, _, rfl, ifF (by decide) ?_⟩
        refine ⟨_, rfl, a, _, 0, _, rfl, rfl, sqT ga S.gh, at_nat (i := 0) rfl, rfl, _, rfl, ifF (by decide) ?_⟩
        refine ⟨_, rfl, a, _, 0, _, rfl, rfl, sqT ga S.gh, at_nat (i := 0) rfl, rfl, _, rfl, ifF (by decide) ?_⟩
        refine ⟨_, rfl, a, _, 0, _, rfl, rfl, sqT ga S.gh, at_nat (i := 0) rfl, rfl, _, rfl, ifT (by decide) ?_⟩
        refine ⟨_, rfl, L, _, 0, _, rfl, rfl, sqL g3 S.gh, at_nat (i := 0) rfl, _, rfl, L, _, 1, _, rfl, rfl, sqL g3 S.gh, at_nat (i := 1) rfl, fun x dx nx nd ne => ?_⟩
        generalize e5 : upd (upd H2 dx _) x _ = H5
        obtain ⟨s5, A5⟩ := madeE S.gh nx nd ne e5
        refine ⟨G3, x, dx, u, t, rfl, s5.gh, A5, fun H6 s6 A6 => ⟨rfl, ?_⟩⟩
        obtain ⟨G7, s7, e7, g7⟩ := initE s5 nx s6 A6
        exact k G7 H6 _ (S.trans s7) (by simp only [StmO]; exact ⟨x, dx, u, t, rfl, g7, ou.up s7.eg, ot.up s7.eg⟩)
      | lo y =>
        obtain ⟨a, xs, rfl, ga, rx⟩ := rv3
        obtain ⟨x0, r0, rfl, h0, rx⟩ := rx.c1
        cases h0
        obtain ⟨u, r, rfl, ou, rfl⟩ := al3
        refine ⟨_, rfl, a, _, 0, _, rfl, rfl, sqT ga S.gh, at_nat (i := 0) rfl, rfl, _, rfl, ifF (by decide) ?_⟩
        refine ⟨_, rfl, a, _, 0, _, rfl, rfl, sqT ga S.gh, at_nat (i := 0) rfl, rfl, _, rfl, ifF (by decide) ?_⟩
        refine ⟨_, rfl, a, _, 0, _, rfl, rfl, sqT ga S.gh, at_nat (i := 0) rfl, rfl, _, rfl, ifF (by decide) ?_⟩
        refine ⟨_, rfl, a, _, 0, _, rfl, rfl, sqT ga S.gh, at_nat (i := 0) rfl, rfl, _, rfl, ifF (by decide) ?_⟩
        refine ⟨_, rfl, a, _, 0, _, rfl, rfl, sqT ga S.gh, at_nat (i := 0) rfl, rfl, _, rfl, ifF (by decide) ?_⟩
        refine ⟨_, rfl, a, _, 0, _, rfl, rfl, sqT ga S.gh, at_nat (i := 0) rfl, rfl, _, rfl, ifF (by decide) ?_⟩
        refine ⟨_, rfl, a, _, 0, _, rfl, rfl, sqT ga S.gh, at_nat (i := 0) rfl, rfl, _, rfl, ifT (by decide) ?_⟩
        refine ⟨_, rfl, L, _, 0, _, rfl, rfl, sqL g3 S.gh, at_nat (i := 0) rfl, fun x dx nx nd ne => ?_⟩
        generalize e5 : upd (upd H2 dx _) x _ = H5
        obtain ⟨s5, A5⟩ := madeE S.gh nx nd ne e5
        refine ⟨G3, x, dx, u, rfl, s5.gh, A5, fun H6 s6 A6 => ⟨rfl, ?_⟩⟩
        obtain ⟨G7, s7, e7, g7⟩ := initE s5 nx s6 A6
        exact k G7 H6 _ (S.trans s7) (by simp only [StmO]; exact ⟨x, dx, u, rfl, g7, ou.up s7.eg⟩)
      | sk =>
        obtain ⟨a, xs, rfl, ga, rx⟩ := rv3
        obtain ⟨x0, rfl, h0⟩ := rx.l1
        cases h0
        refine ⟨_, rfl, a, _, 0, _, rfl, rfl, sqT ga S.gh, at_nat (i := 0) rfl, rfl, _, rfl, ifF (by decide) ?_⟩
        refine ⟨_, rfl, a, _, 0, _, rfl, rfl, sqT ga S.gh, at_nat (i := 0) rfl, rfl, _, rfl, ifF (by decide) ?_⟩
        refine ⟨_, rfl, a, _, 0, _, rfl, rfl, sqT ga S.gh, at_nat (i := 0) rfl, rfl, _, rfl, ifF (by decide) ?_⟩
        refine ⟨_, rfl, a, _, 0, _, rfl, rfl, sqT ga S.gh, at_nat (i := 0) rfl, rfl, _, rfl, ifF (by decide) ?_⟩
        refine ⟨_, rfl, a, _, 0, _, rfl, rfl, sqT ga S.gh, at_nat (i := 0) rfl, rfl, _, rfl, ifF (by decide) ?_⟩
        refine ⟨_, rfl, a, _, 0, _, rfl, rfl, sqT ga S.gh, at_nat (i := 0) rfl, rfl, _, rfl, ifF (by decide) ?_⟩
        refine ⟨_, rfl, a, _, 0, _, rfl, rfl, sqT ga S.gh, at_nat (i := 0) rfl, rfl, _, rfl, ifF (by decide) ?_⟩
        refine fun y1 d1 ny1 nd1 ne1 => ?_
        generalize e5 : upd (upd H2 d1 _) y1 _ = H5
        obtain ⟨s5, A5⟩ := madeE S.gh ny1 nd1 ne1 e5
        obtain ⟨G6, S6, e6, g6, _⟩ := s5.frzE ny1 A5
        refine fun y2 d2 ny2 nd2 ne2 => ?_
        generalize e7 : upd (upd H5 d2 _) y2 _ = H7
        obtain ⟨s7, A7⟩ := madeE S6.gh ny2 nd2 ne2 e7
        obtain ⟨G8, S8, e8, g8, _⟩ := s7.frzE ny2 A7
        refine ⟨zs, fun l nl => ?_⟩
        generalize e9 : upd H7 l _ = H9
        obtain ⟨G9, S9, s9, g9⟩ := ((S.trans S6).trans S8).newDE nl e9
        have up := S6.trans (S8.trans s9)
        refine ⟨_, rfl, a, _, 0, _, rfl, rfl, sqT (up.eg _ _ ga) S9.gh, at_nat (i := 0) rfl, rfl, .inr ⟨_, rfl, l, _, 1, .ref y2, rfl, ?_, sqL g9 S9.gh, at_nat (i := 1) rfl, ?_⟩⟩
        · exact congrArg V.int (by decide)
        · exact k G9 H9 _ S9 (by simp only [StmO]; exact ⟨y2, d2, rfl, s9.eg _ _ g8⟩)
      | st =>
        obtain ⟨a, xs, rfl, ga, rx⟩ := rv3
        obtain ⟨x0, rfl, h0⟩ := rx.l1
        cases h0
        refine ⟨_, rfl, a, _, 0, _, rfl, rfl, sqT ga S.gh, at_nat (i := 0) rfl, rfl, _, rfl, ifF (by decide) ?_⟩
        refine ⟨_, rfl, a, _, 0, _, rfl, rfl, sqT ga S.gh, at_nat (i := 0) rfl, rfl, _, rfl, ifF (by decide) ?_⟩
        refine ⟨_, rfl, a, _, 0, _, rfl, rfl, sqT ga S.gh, at_nat (i := 0) rfl, rfl, _, rfl, ifF (by decide) ?_⟩
        refine ⟨_, rfl, a, _, 0, _, rfl, rfl, sqT ga S.gh, at_nat (i := 0) rfl, rfl, _, rfl, ifF (by decide) ?_⟩
        refine ⟨_, rfl, a, _, 0, _, rfl, rfl, sqT ga S.gh, at_nat (i := 0) rfl, rfl, _, rfl, ifF (by decide) ?_⟩
        refine ⟨_, rfl, a, _, 0, _, rfl, rfl, sqT ga S.gh, at_nat (i := 0) rfl, rfl, _, rfl, ifF (by decide) ?_⟩
        refine ⟨_, rfl, a, _, 0, _, rfl, rfl, sqT ga S.gh, at_nat (i := 0) rfl, rfl, _, rfl, ifF (by decide) ?_⟩
        refine fun y1 d1 ny1 nd1 ne1 => ?_
        generalize e5 : upd (upd H2 d1 _) y1 _ = H5
        obtain ⟨s5, A5⟩ := madeE S.gh ny1 nd1 ne1 e5
        obtain ⟨G6, S6, e6, g6, _⟩ := s5.frzE ny1 A5
        refine fun y2 d2 ny2 nd2 ne2 => ?_
        generalize e7 : upd (upd H5 d2 _) y2 _ = H7
        obtain ⟨s7, A7⟩ := madeE S6.gh ny2 nd2 ne2 e7
        obtain ⟨G8, S8, e8, g8, _⟩ := s7.frzE ny2 A7
        refine ⟨zs, fun l nl => ?_⟩
        generalize e9 : upd H7 l _ = H9
        obtain ⟨G9, S9, s9, g9⟩ := ((S.trans S6).trans S8).newDE nl e9
        have up := S6.trans (S8.trans s9)
        refine ⟨_, rfl, a, _, 0, _, rfl, rfl, sqT (up.eg _ _ ga) S9.gh, at_nat (i := 0) rfl, rfl, .inr ⟨_, rfl, l, _, 0, .ref y1, rfl, ?_, sqL g9 S9.gh, at_nat (i := 0) rfl, ?_⟩⟩
        · exact congrArg V.int (by decide)
        · exact k G9 H9 _ S9 (by simp only [StmO]; exact ⟨y1, d1, rfl, (S8.eg.trans s9.eg) _ _ g6⟩)
theorem ok_made {k d : Nat} (T : Txt K mg) (c_law_built : Cal P w K mg base k "_law_built" P_law_built (spBuilt K d)) (c_Program : CalC P w K mg base k (cA K "Program") P_Program_init [] (spProgramInit K)) : Cal P w K mg base (k + 2) "_law_made" P_law_made (spMade K (d + 1)) := by
  refine Cal.of T.fn_law_made sc_law_made (fun vs H Q E h => ?_) (fun f cdv A outer s H vs Q E hr h => ?_)
  · obtain ⟨_, _, _, _, rfl, _⟩ := h; rfl
  · obtain ⟨G, p, r, v, rfl, e, rv, okp, okr, hd, hd5, hz, k⟩ := h
    obtain ⟨a, xs, rfl, ga, rx⟩ := rv.tup
    rw [rowD_map] at rx
    have lx := rx.len
    rw [List.length_map] at lx
    have lz := len_le_size r
    refine ⟨_, (pss_one (ps_ret (pcc c_Program (hr.mono (by first | decide | omega)) T.g_Program .nil (pa_cons (pe_lc (own := [("_law_one", 1)]) (by rfl) sc_law_made.nd (k_tup K (pv 0)) (blkOk_by (own := [("_law_one", 1)]) (N := N_law_made) (by kernel_rfl)) (fun _ _ _ _ _ => (pg_name (i := 1) sc_law_made.nd rfl (Or.inl rfl))) (fun _ _ _ _ _ => pts_nil) (fun _ _ _ _ _ => (pc c_law_built (hr.mono (by first | decide | omega)) (pa_cons (pv 1) pa_nil)))) pa_nil)))), ?_⟩
    refine ⟨_, rfl, a, rfl, ⟨_, sqT ga e⟩, fun L nL => ?_⟩
    refine lcE (E := StmO K) stmO_mono r (fun u => some u) (walkT lx.symm) (by omega) e nL (fun H4 e4 => sqT ga (e.trans e4)) ?_ ?_
    · rintro i u x G2 H2 H2' K1 K0 hu s2 ⟨rfl, ex⟩ k1 k0
      obtain ⟨u', hu', ru⟩ := rx.map ex
      rw [hu] at hu'; cases hu'
      have du := mem_deep (mem_of hu)
      have zu := mem_size (mem_of hu)
      exact ⟨rfl, _, rfl, G2, p, u, x, rfl, s2.gh, ru.up s2.eg, okp, fun t ht => okr t (mem_flat (mem_of hu) ht), by omega, by omega, by omega, fun G3 H3 v3 s3 o3 => k1 _ _ _ _ rfl s3 o3⟩
    · rintro G2 H2 ys s2 hL gL al
      obtain ⟨G3, S3, e23, g3, _⟩ := s2.frzE nL ⟨hL, gL⟩
      have : r.filterMap (fun u => some u) = r := List.filterMap_some
      rw [this] at al
      have al := al.up stmO_mono e23
      refine fun x dx nx nd ne => ?_
      generalize e5 : upd (upd H2 dx _) x _ = H5
      obtain ⟨s5, A5⟩ := madeE S3.gh nx nd ne e5
      refine ⟨G3, x, dx, L, r, ys, rfl, s5.gh, A5, g3, al, hz, hd5, fun G6 H6 t s6 A6 g6 => ⟨rfl, ?_⟩⟩
      obtain ⟨G7, s7, e7, g7⟩ := initE s5 nx s6 A6
      exact k G7 H6 _ (S3.trans s7) ⟨x, dx, t, ys, rfl, g7, e7 _ _ g6, StmOs.al.mpr (al.up stmO_mono s7.eg)⟩
end
end K4

set_option maxHeartbeats 4000000
/-! The law's steps of a statement. -/
namespace K4
open PySem L2
mutual
def toPy : D → PyData
  | .non => .none
  | .bl b => .bool b
  | .int i => .int i
  | .str x => .str x
  | .tup l => .tuple (toPys l)
  | .lst l => .list (toPys l)
def toPys : List D → List PyData
  | [] => []
  | d :: l => toPy d :: toPys l
end
mutual
theorem Rep.dp {K : PySem.W.Frag} {G H : Hp} (e : Ex G H) : ∀ (d : D) {v : V}, Rep G d v → Dp K H v (toPy d)
  | .non, v, h => by cases (show v = V.non from h); exact .non
  | .bl b, v, h => by cases (show v = V.bl b from h); exact .bl b
  | .int i, v, h => by cases (show v = V.int i from h); exact .int i
  | .str x, v, h => by cases (show v = V.str x from h); exact .str x
  | .tup l, v, h => by
    obtain ⟨a, xs, rfl, h2, h3⟩ := h.tup
    exact .tup (sqT h2 e) (RepL.dp e l h3)
  | .lst l, v, h => by
    obtain ⟨a, xs, rfl, h2, h3⟩ := h.lst
    exact .lst (sqL h2 e) (RepL.dp e l h3)
theorem RepL.dp {K : PySem.W.Frag} {G H : Hp} (e : Ex G H) : ∀ (l : List D) {xs : List V}, RepL G l xs → DpAll K H xs (toPys l)
  | [], xs, h => by cases (show xs = [] from h); exact .nil
  | d :: l, xs, h => by
    obtain ⟨x, r, rfl, h2, h3⟩ := h.c1
    exact .cons (Rep.dp e d h2) (RepL.dp e l h3)
end
theorem let_lt : ∀ c ∈ LET.cps.toList, c < 128 := by decide +kernel
theorem fig_lt : ∀ c ∈ FIG.cps.toList, c < 128 := by decide +kernel
theorem strOk_name {z : Str} (h : NameOk z) : PyData.strOk z = true := by
  unfold PyData.strOk
  rw [← Array.all_toList, List.all_eq_true]
  intro c hc
  have : c < 128 := by
    rcases h.all c hc with h | h
    · exact let_lt c h
    · exact fig_lt c h
  simp; omega
structure NmOk (t : Stm) : Prop where
  cv : ∀ c v, t.cv = some (c, v) → NameOk c ∧ NameOk v
  mark : ∀ m, t = .mk m → NameOk m
theorem nm_of {p : Plan} {s : Stm} (ok : PlanOk p) (h : StmOk p s) : NmOk s := ⟨fun c v e => cv_names ok h e, h.mark⟩
theorem kw1 : PyData.strOk ("write" : Str) = true := by decide +kernel
theorem kw2 : PyData.strOk ("wait" : Str) = true := by decide +kernel
theorem kw3 : PyData.strOk ("mark" : Str) = true := by decide +kernel
theorem kw4 : PyData.strOk ("skip" : Str) = true := by decide +kernel
theorem kw5 : PyData.strOk ("stop" : Str) = true := by decide +kernel
theorem kw6 : PyData.strOk ("if" : Str) = true := by decide +kernel
theorem kw7 : PyData.strOk ("while" : Str) = true := by decide +kernel
theorem kw8 : PyData.strOk ("choose" : Str) = true := by decide +kernel
theorem kw9 : PyData.strOk ("loop" : Str) = true := by decide +kernel
mutual
theorem lay_stm : ∀ s : Stm, (∀ t ∈ s.flat, NmOk t) → (toPy s.d).canLay0 = true ∧ (toPy s.d).depth ≤ 2 * s.deep + 1
  | .wr c v, h => by
    obtain ⟨h1, h2⟩ := (h _ (self_flat _)).cv c v rfl
    simp [Stm.d, toPy, toPys, PyData.canLay0, PyData.canLayAll0, PyData.depth, PyData.depthAll, strOk_name h1, strOk_name h2, kw1]
  | .wt c v, h => by
    obtain ⟨h1, h2⟩ := (h _ (self_flat _)).cv c v rfl
    simp [Stm.d, toPy, toPys, PyData.canLay0, PyData.canLayAll0, PyData.depth, PyData.depthAll, strOk_name h1, strOk_name h2, kw2]
  | .mk m, h => by
    have h1 := (h _ (self_flat _)).mark m rfl
    simp [Stm.d, toPy, toPys, PyData.canLay0, PyData.canLayAll0, PyData.depth, PyData.depthAll, strOk_name h1, kw3]
  | .sk, h => by simp [Stm.d, toPy, toPys, PyData.canLay0, PyData.canLayAll0, PyData.depth, PyData.depthAll, kw4]
  | .st, h => by simp [Stm.d, toPy, toPys, PyData.canLay0, PyData.canLayAll0, PyData.depth, PyData.depthAll, kw5]
  | .ie c v y n, h => by
    obtain ⟨h1, h2⟩ := (h _ (self_flat _)).cv c v rfl
    have hy := lay_row y fun t ht => h t (by simp only [Stm.flat]; exact List.mem_cons_of_mem _ (List.mem_append_left _ ht))
    have hn := lay_row n fun t ht => h t (by simp only [Stm.flat]; exact List.mem_cons_of_mem _ (List.mem_append_right _ ht))
    simp [Stm.d, toPy, toPys, PyData.canLay0, PyData.canLayAll0, PyData.depth, PyData.depthAll, strOk_name h1, strOk_name h2, kw6, hy.1, hn.1, Stm.deep]
    omega
  | .wh c v y, h => by
    obtain ⟨h1, h2⟩ := (h _ (self_flat _)).cv c v rfl
    have hy := lay_row y fun t ht => h t (by simp only [Stm.flat]; exact List.mem_cons_of_mem _ ht)
    simp [Stm.d, toPy, toPys, PyData.canLay0, PyData.canLayAll0, PyData.depth, PyData.depthAll, strOk_name h1, strOk_name h2, kw7, hy.1, Stm.deep]
    omega
  | .ch y n, h => by
    have hy := lay_row y fun t ht => h t (by simp only [Stm.flat]; exact List.mem_cons_of_mem _ (List.mem_append_left _ ht))
    have hn := lay_row n fun t ht => h t (by simp only [Stm.flat]; exact List.mem_cons_of_mem _ (List.mem_append_right _ ht))
    simp [Stm.d, toPy, toPys, PyData.canLay0, PyData.canLayAll0, PyData.depth, PyData.depthAll, kw8, hy.1, hn.1, Stm.deep]
    omega
  | .lo y, h => by
    have hy := lay_row y fun t ht => h t (by simp only [Stm.flat]; exact List.mem_cons_of_mem _ ht)
    simp [Stm.d, toPy, toPys, PyData.canLay0, PyData.canLayAll0, PyData.depth, PyData.depthAll, kw9, hy.1, Stm.deep]
    omega
theorem lay_row : ∀ r : List Stm, (∀ t ∈ rowFlat r, NmOk t) → PyData.canLayAll0 (toPys (rowD r)) = true ∧ PyData.depthAll (toPys (rowD r)) ≤ 2 * rowDeep r + 1
  | [], h => by simp [rowD, toPys, PyData.canLayAll0, PyData.depthAll]
  | s :: r, h => by
    have hs := lay_stm s fun t ht => h t (by simp only [rowFlat]; exact List.mem_append_left _ ht)
    have hr := lay_row r fun t ht => h t (by simp only [rowFlat]; exact List.mem_append_right _ ht)
    simp [rowD, toPys, PyData.canLayAll0, PyData.depthAll, hs.1, hr.1, rowDeep]
    omega
end
theorem shaped_row {r : Row} (h : ∀ t ∈ rowFlat r, NmOk t) (d : rowDeep r ≤ 5) : SeqAt.shaped (toPy (rowDT r)) = true := by
  obtain ⟨h1, h2⟩ := lay_row r h
  unfold SeqAt.shaped rowDT
  simp only [toPy, PyData.canLay0, PyData.depth, h1, Bool.true_and, decide_eq_true_iff]
  omega
/-! ### steps -/
inductive Act where
  | go
  | put (c v : Str)
  | look (c v : Str)
def actD : Act → D
  | .go => .tup [.str "go"]
  | .put c v => .tup [.str "put", .str c, .str v]
  | .look c v => .tup [.str "look", .str c, .str v]
def stepD (x : Act × Nat) : D := .tup [actD x.1, .int x.2]
def ActOk (p : Plan) : Act → Prop
  | .go => True
  | .put c v => ∃ vl, (c, vl) ∈ p ∧ v ∈ vl
  | .look c v => ∃ vl, (c, vl) ∈ p ∧ v ∈ vl
structure StepOk (p : Plan) (N : Nat) (x : Act × Nat) : Prop where
  act : ActOk p x.1
  goal : x.2 ≤ N
def spExits : Sp := fun vs H Q _ => ∃ (G : Hp) (p : Plan) (s : Stm) (bg N : Nat) (is : List Nat) (goal : Nat) (pv v : V), vs = [pv, v, .ref bg, .int goal] ∧ Ex G H ∧ Rep G (planD p) pv ∧ PlanOk p ∧ Rep G s.d v ∧ StmOk p s ∧ G bg = some (.lst (is.map fun n : Nat => V.int n)) ∧
  is.length = s.parts.length ∧ (∀ n ∈ is, n ≤ N) ∧ goal ≤ N ∧ ∀ (es : List (Act × Nat)) G' H' v', (∀ x ∈ es, StepOk p N x) → es.length ≤ 5 → Step NoW G H G' H' → Rep G' (.lst (es.map stepD)) v' → Q v' H'
theorem merge_get {k : Key} {v : V} : ∀ (more acc : List (Key × V)), (more.map Prod.fst).Nodup → ((k, v) ∈ more → valV (mergeK acc more) k = some v) ∧ (k ∉ more.map Prod.fst → valV (mergeK acc more) k = valV acc k)
  | [], acc, _ => ⟨fun h => (by cases h), fun _ => rfl⟩
  | (a, b) :: more, acc, nd => by
    rw [List.map_cons, List.nodup_cons] at nd
    have ih := merge_get (k := k) (v := v) more (putK acc a b) nd.2
    have em : mergeK acc ((a, b) :: more) = mergeK (putK acc a b) more := rfl
    rw [em]
    constructor
    · intro h
      rcases List.mem_cons.mp h with h | h
      · cases h
        rw [ih.2 nd.1, valV_put, if_pos rfl]
      · exact ih.1 h
    · intro h
      rw [List.map_cons, List.mem_cons, not_or] at h
      rw [ih.2 h.2, valV_put, if_neg h.1]
section
variable {P : Program} {w : World} {K : PySem.W.Frag} {mg : Str → Option Value} {base : Heap}
theorem plan_pairs {G : Hp} : ∀ {p : Plan} {xs : List V}, RepL G (p.map cellD) xs → ∃ (ps : List Addr) (kvs : List (Key × V)), xs = ps.map V.ref ∧ Paired (fun q kv => G q = some (.tup [kV kv.1, kv.2])) ps kvs ∧ kvs.map Prod.fst = p.map (fun c => Sum.inr c.1) ∧
    ∀ c ∈ p, ∃ l, (Sum.inr c.1, V.ref l) ∈ kvs ∧ G l = some (.lst (c.2.map V.str))
  | [], xs, h => ⟨[], [], h, .nil, rfl, by simp⟩
  | c :: p, xs, h => by
    obtain ⟨x, r, rfl, h1, h2⟩ := h.c1
    obtain ⟨ps, kvs, rfl, h3, h4, h5⟩ := plan_pairs h2
    obtain ⟨b, l, rfl, gb, gl⟩ := rep_cell h1
    refine ⟨b :: ps, (.inr c.1, .ref l) :: kvs, rfl, .cons gb h3, by rw [List.map_cons, List.map_cons, h4], fun c2 hc => ?_⟩
    rcases List.mem_cons.mp hc with rfl | hc
    · exact ⟨l, List.mem_cons_self, gl⟩
    · obtain ⟨l2, q1, q2⟩ := h5 c2 hc
      exact ⟨l2, List.mem_cons_of_mem _ q1, q2⟩
theorem pairs_sq {G H : Hp} (e : Ex G H) : ∀ {ps : List Addr} {kvs : List (Key × V)}, Paired (fun q kv => G q = some (.tup [kV kv.1, kv.2])) ps kvs → Paired (fun q (kv : Key × V) => SqT K H q [kV kv.1, kv.2]) ps kvs
  | _, _, .nil => .nil
  | _, _, .cons h t => .cons (sqT h e) (pairs_sq e t)
end
end K4

set_option maxHeartbeats 4000000
/-! The law's steps of a statement, walked. -/
namespace K4
open PySem L2
theorem step_rep {G : Hp} {a t : Addr} {x : V} {e : Act} {n : Nat} (h : G t = some (.tup [x, .int n])) (ha : Rep G (actD e) x) : Rep G (stepD (e, n)) (.ref t) := rep_tup h ⟨_, _, rfl, ha, _, _, rfl, rfl, rfl⟩
section
variable {P : Program} {w : World} {K : PySem.W.Frag} {mg : Str → Option Value} {base : Heap}
theorem ok_exits (T : Txt K mg) : Cal P w K mg base 1 "_law_exits" P_law_exits spExits := by
  refine Cal.of T.fn_law_exits sc_law_exits (fun vs H Q E h => ?_) (fun f cdv A outer s H vs Q E hr h => ?_)
  · obtain ⟨_, _, _, _, _, _, _, _, _, rfl, _⟩ := h; rfl
  · obtain ⟨G, p, s, bg, N, is, goal, qv, v, rfl, e, rp, okp, rv, oks, hbg, lis, his, hgoal, k⟩ := h
    refine ⟨_, (pss_cons (ps_if (pt_cmpR (k_inS K) (pe_ix (k_ixT K) (pv 1) pe_int (fun _ _ => rfl)) (pe_tup (pa_cons pe_str (pa_cons pe_str pa_nil))) (by first | exact nomark _ | rfl))
      (pss_one (ps_ret (pe_lst (pa_cons (pe_tup (pa_cons (pe_tup (pa_cons pe_str pa_nil)) (pa_cons (pv 3) pa_nil))) pa_nil))))
      pss_nil)
    (pss_cons (ps_if (pt_cmpR op_eq (pe_ix (k_ixT K) (pv 1) pe_int (fun _ _ => rfl)) pe_str (by first | exact nomark _ | rfl))
      (pss_one (ps_ret (pe_lst (pa_cons (pe_tup (pa_cons (pe_tup (pa_cons pe_str (pa_cons (pe_ix (k_ixT K) (pv 1) pe_int (fun _ _ => rfl)) (pa_cons (pe_ix (k_ixT K) (pv 1) pe_int (fun _ _ => rfl)) pa_nil)))) (pa_cons (pv 3) pa_nil))) pa_nil))))
      pss_nil)
    (pss_cons (ps_if (pt_cmpR op_eq (pe_ix (k_ixT K) (pv 1) pe_int (fun _ _ => rfl)) pe_str (by first | exact nomark _ | rfl))
      (pss_one (ps_ret (pe_lst (pa_cons (pe_tup (pa_cons (pe_tup (pa_cons pe_str (pa_cons (pe_ix (k_ixT K) (pv 1) pe_int (fun _ _ => rfl)) (pa_cons (pe_ix (k_ixT K) (pv 1) pe_int (fun _ _ => rfl)) pa_nil)))) (pa_cons (pv 3) pa_nil))) pa_nil))))
      pss_nil)
    (pss_cons (ps_if (pt_cmpR (k_inS K) (pe_ix (k_ixT K) (pv 1) pe_int (fun _ _ => rfl)) (pe_tup (pa_cons pe_str (pa_cons pe_str pa_nil))) (by first | exact nomark _ | rfl))
      (pss_cons (ps_set (i := 4) sc_law_exits.nd rfl (Or.inl rfl) (pe_lst (pa_cons (pe_tup (pa_cons (pe_tup (pa_cons pe_str (pa_cons (pe_ix (k_ixT K) (pv 1) pe_int (fun _ _ => rfl)) (pa_cons (pe_ix (k_ixT K) (pv 1) pe_int (fun _ _ => rfl)) pa_nil)))) (pa_cons (pe_ix (k_ixL K) (pv 2) pe_int (fun _ _ => rfl)) pa_nil))) pa_nil)))
      (pss_cons (ps_for PassesOwn.never rfl (k_list K (pe_dget (hu_of hr) (pe_callTy (k_dictP K rfl) (by rfl) T.f_dict (by decide +kernel) (pa_cons (pv 0) pa_nil)) (pe_ix (k_ixT K) (pv 1) pe_int (fun _ _ => rfl)) (fun _ _ => rfl))) (pg_name (i := 5) sc_law_exits.nd rfl (Or.inl rfl))
        (pss_one (ps_if (pt_cmpR op_ne (pv 5) (pe_ix (k_ixT K) (pv 1) pe_int (fun _ _ => rfl)) (by first | exact nomark _ | rfl))
          (pss_one (ps_expr (k_bm K PySem.F.plainAttrs_list PySem.F.slot_list_append PySem.F.type_list_append mt_append (pv 4) (pa_cons (pe_tup (pa_cons (pe_tup (pa_cons pe_str (pa_cons (pe_ix (k_ixT K) (pv 1) pe_int (fun _ _ => rfl)) (pa_cons (pv 5) pa_nil)))) (pa_cons (pe_ix (k_ixL K) (pe_op op_cat (pv 2) (pe_lst (pa_cons (pv 3) pa_nil))) pe_int (fun _ _ => rfl)) pa_nil))) pa_nil))))
          pss_nil)))
      (pss_one (ps_ret (pv 4)))))
      pss_nil)
    (pss_one (ps_ret (pe_lc (own := [("_law_begin", 6)]) (by rfl) sc_law_exits.nd (k_list K (pv 2)) (blkOk_by (own := [("_law_begin", 6)]) (N := N_law_exits) (by kernel_rfl)) (fun _ _ _ _ _ => (pg_name (i := 6) sc_law_exits.nd rfl (Or.inl rfl))) (fun _ _ _ _ _ => pts_nil) (fun _ _ _ _ _ => (pe_tup (pa_cons (pe_tup (pa_cons pe_str pa_nil)) (pa_cons (pv 6) pa_nil))))))))))), ?_⟩
    have comp : (s.cl = .stop ∨ s.cl = .cho ∨ s.cl = .lop) → ∀ (H1 : Hp), Step NoW G H G H1 → ∀ L, H1 L = none → ∃ W : Nat → Nat → Hp → Prop, (∃ m, W 0 m (upd H1 L (.lst []))) ∧ ∀ i m H, W i m H →
      ((Itl K bg).stop i H ∧ Q (.ref L) H) ∨ ((Itl K bg).go i H ∧ ∃ Nx : Hp → Prop, (∀ H', Nx H' → ∃ m', m' < m ∧ W (i + 1) m' H') ∧ ∀ x H', (Itl K bg).yld i H x H' → gName 6 x (wipe (start N_law_exits [qv, v, .ref bg, .int goal]) [6]) H' fun σ2 H2 => wipe σ2 [6] = wipe (start N_law_exits [qv, v, .ref bg, .int goal]) [6] ∧ tYes σ2 H2 fun b H3 =>
        if b = true then tTup (tCons (tTup (tCons (tC (.str "go")) tNil)) (tCons (tVar 6) tNil)) σ2 H3 fun y H4 => ∃ acc, H4 L = some (.lst acc) ∧ acc.length < sizeLine ∧ Nx (upd H4 L (.lst (acc ++ [y]))) else Nx H3) := by
      intro _ H1 S1 L nL
      have lp2 : s.parts.length ≤ 2 := by cases s <;> simp [Stm.parts]
      refine lcD is (fun n => some (stepD (.go, n))) (walkL (by simp)) (by omega) S1.gh nL (fun H4 e4 => sqL hbg (S1.gh.trans e4)) ?_ ?_
      · rintro i n x G2 H2 H2' K1 K0 hn s2 ⟨rfl, ex⟩ k1 k0
        rw [List.getElem?_map, hn] at ex
        cases ex
        refine ⟨rfl, zs, fun t1 n1 => ?_⟩
        generalize e5 : upd H2' t1 _ = H5
        obtain ⟨G5, S5, s5, g5⟩ := (Step.refl (W := NoW) s2.gh).newDE n1 e5
        refine ⟨_, rfl, zs, fun t2 n2 => ?_⟩
        generalize e6 : upd H5 t2 _ = H6
        obtain ⟨G6, S6, s6, g6⟩ := S5.newDE n2 e6
        exact k1 _ _ _ _ rfl S6 (step_rep (a := t1) g6 (rep_tup (s6.eg _ _ g5) ⟨_, _, rfl, rfl, rfl⟩))
      · rintro G2 H2 ys s2 hL gL ry
        obtain ⟨G3, S3, e3, g3, _⟩ := s2.frzE nL ⟨hL, gL⟩
        have er : is.filterMap (fun n => some (stepD (.go, n))) = (is.map fun n => (Act.go, n)).map stepD := by rw [filterMap_some, List.map_map]; rfl
        rw [er] at ry
        refine k (is.map fun n => (Act.go, n)) _ _ _ (fun x hx => ?_) (by rw [List.length_map]; omega) (S1.trans S3) (rep_lst g3 (ry.up e3))
        obtain ⟨n, hn, rfl⟩ := List.mem_map.mp hx
        exact ⟨trivial, his n hn⟩
    cases s with
    | mk m =>
      obtain ⟨a, xs, rfl, ga, rx⟩ := rv
      obtain ⟨x0, x1, rfl, h0, h1⟩ := rx.l2
      cases h0; cases h1
      refine ⟨_, rfl, a, _, 0, _, rfl, rfl, sqT ga (Step.refl (W := NoW) e).gh, at_nat (i := 0) rfl, zs, fun tp1 ntp1 => ⟨tp1, _, rfl, .inr (.of upd_same), rfl, rfl, _, rfl, ifT (by decide) ?_⟩⟩
      generalize e1 : upd H tp1 _ = H1
      obtain ⟨S1, _, _⟩ := (Step.refl (W := NoW) e).newME ntp1 e1
      refine ⟨zs, fun t1 n1 => ?_⟩
      generalize e5 : upd H1 t1 _ = H5
      obtain ⟨G5, S5, s5, g5⟩ := S1.newDE n1 e5
      refine ⟨_, rfl, zs, fun t2 n2 => ?_⟩
      generalize e6 : upd H5 t2 _ = H6
      obtain ⟨G6, S6, s6, g6⟩ := S5.newDE n2 e6
      refine ⟨zs, fun l nl => ?_⟩
      generalize e7 : upd H6 l _ = H7
      obtain ⟨G7, S7, s7, g7⟩ := S6.newDE nl e7
      exact k [(.go, goal)] _ _ _ (fun x hx => by rw [List.mem_singleton.mp hx]; exact ⟨trivial, hgoal⟩) (by simp) S7 (rep_lst g7 ⟨_, _, rfl, step_rep (a := t1) (s7.eg _ _ g6) (rep_tup ((s6.eg.trans s7.eg) _ _ g5) ⟨_, _, rfl, rfl, rfl⟩), rfl⟩)
    | sk =>
      obtain ⟨a, xs, rfl, ga, rx⟩ := rv
      obtain ⟨x0, rfl, h0⟩ := rx.l1
      cases h0
      refine ⟨_, rfl, a, _, 0, _, rfl, rfl, sqT ga (Step.refl (W := NoW) e).gh, at_nat (i := 0) rfl, zs, fun tp1 ntp1 => ⟨tp1, _, rfl, .inr (.of upd_same), rfl, rfl, _, rfl, ifT (by decide) ?_⟩⟩
      generalize e1 : upd H tp1 _ = H1
      obtain ⟨S1, _, _⟩ := (Step.refl (W := NoW) e).newME ntp1 e1
      refine ⟨zs, fun t1 n1 => ?_⟩
      generalize e5 : upd H1 t1 _ = H5
      obtain ⟨G5, S5, s5, g5⟩ := S1.newDE n1 e5
      refine ⟨_, rfl, zs, fun t2 n2 => ?_⟩
      generalize e6 : upd H5 t2 _ = H6
      obtain ⟨G6, S6, s6, g6⟩ := S5.newDE n2 e6
      refine ⟨zs, fun l nl => ?_⟩
      generalize e7 : upd H6 l _ = H7
      obtain ⟨G7, S7, s7, g7⟩ := S6.newDE nl e7
      exact k [(.go, goal)] _ _ _ (fun x hx => by rw [List.mem_singleton.mp hx]; exact ⟨trivial, hgoal⟩) (by simp) S7 (rep_lst g7 ⟨_, _, rfl, step_rep (a := t1) (s7.eg _ _ g6) (rep_tup ((s6.eg.trans s7.eg) _ _ g5) ⟨_, _, rfl, rfl, rfl⟩), rfl⟩)
    | wr c v =>
      have hcv := oks.cv c v rfl
      obtain ⟨a, xs, rfl, ga, rx⟩ := rv
      obtain ⟨x0, x1, x2, rfl, h0, h1, h2⟩ := rx.l3
      cases h0; cases h1; cases h2
      refine ⟨_, rfl, a, _, 0, _, rfl, rfl, sqT ga (Step.refl (W := NoW) e).gh, at_nat (i := 0) rfl, zs, fun tp1 ntp1 => ⟨tp1, _, rfl, .inr (.of upd_same), rfl, rfl, _, rfl, ifF (by decide) ?_⟩⟩
      generalize e1 : upd H tp1 _ = H1
      obtain ⟨S1, _, _⟩ := (Step.refl (W := NoW) e).newME ntp1 e1
      refine ⟨_, rfl, a, _, 0, _, rfl, rfl, sqT ga S1.gh, at_nat (i := 0) rfl, rfl, _, rfl, ifT (by decide) ?_⟩
      refine ⟨_, rfl, a, _, 1, _, rfl, rfl, sqT ga S1.gh, at_nat (i := 1) rfl, _, rfl, a, _, 2, _, rfl, rfl, sqT ga S1.gh, at_nat (i := 2) rfl, zs, fun t1 n1 => ?_⟩
      generalize e5 : upd H1 t1 _ = H5
      obtain ⟨G5, S5, s5, g5⟩ := S1.newDE n1 e5
      refine ⟨_, rfl, zs, fun t2 n2 => ?_⟩
      generalize e6 : upd H5 t2 _ = H6
      obtain ⟨G6, S6, s6, g6⟩ := S5.newDE n2 e6
      refine ⟨zs, fun l nl => ?_⟩
      generalize e7 : upd H6 l _ = H7
      obtain ⟨G7, S7, s7, g7⟩ := S6.newDE nl e7
      exact k [(.put c v, goal)] _ _ _ (fun x hx => by rw [List.mem_singleton.mp hx]; exact ⟨hcv, hgoal⟩) (by simp) S7 (rep_lst g7 ⟨_, _, rfl, step_rep (a := t1) (s7.eg _ _ g6) (rep_tup ((s6.eg.trans s7.eg) _ _ g5) ⟨_, _, rfl, rfl, _, _, rfl, rfl, _, _, rfl, rfl, rfl⟩), rfl⟩)
    | wt c v =>
      have hcv := oks.cv c v rfl
      obtain ⟨a, xs, rfl, ga, rx⟩ := rv
      obtain ⟨x0, x1, x2, rfl, h0, h1, h2⟩ := rx.l3
      cases h0; cases h1; cases h2
      refine ⟨_, rfl, a, _, 0, _, rfl, rfl, sqT ga (Step.refl (W := NoW) e).gh, at_nat (i := 0) rfl, zs, fun tp1 ntp1 => ⟨tp1, _, rfl, .inr (.of upd_same), rfl, rfl, _, rfl, ifF (by decide) ?_⟩⟩
      generalize e1 : upd H tp1 _ = H1
      obtain ⟨S1, _, _⟩ := (Step.refl (W := NoW) e).newME ntp1 e1
      refine ⟨_, rfl, a, _, 0, _, rfl, rfl, sqT ga S1.gh, at_nat (i := 0) rfl, rfl, _, rfl, ifF (by decide) ?_⟩
      refine ⟨_, rfl, a, _, 0, _, rfl, rfl, sqT ga S1.gh, at_nat (i := 0) rfl, rfl, _, rfl, ifT (by decide) ?_⟩
      refine ⟨_, rfl, a, _, 1, _, rfl, rfl, sqT ga S1.gh, at_nat (i := 1) rfl, _, rfl, a, _, 2, _, rfl, rfl, sqT ga S1.gh, at_nat (i := 2) rfl, zs, fun t1 n1 => ?_⟩
      generalize e5 : upd H1 t1 _ = H5
      obtain ⟨G5, S5, s5, g5⟩ := S1.newDE n1 e5
      refine ⟨_, rfl, zs, fun t2 n2 => ?_⟩
      generalize e6 : upd H5 t2 _ = H6
      obtain ⟨G6, S6, s6, g6⟩ := S5.newDE n2 e6
      refine ⟨zs, fun l nl => ?_⟩
      generalize e7 : upd H6 l _ = H7
      obtain ⟨G7, S7, s7, g7⟩ := S6.newDE nl e7
      exact k [(.look c v, goal)] _ _ _ (fun x hx => by rw [List.mem_singleton.mp hx]; exact ⟨hcv, hgoal⟩) (by simp) S7 (rep_lst g7 ⟨_, _, rfl, step_rep (a := t1) (s7.eg _ _ g6) (rep_tup ((s6.eg.trans s7.eg) _ _ g5) ⟨_, _, rfl, rfl, _, _, rfl, rfl, _, _, rfl, rfl, rfl⟩), rfl⟩)
    | st =>
      obtain ⟨a, xs, rfl, ga, rx⟩ := rv
      obtain ⟨x0, rfl, h0⟩ := rx.l1
      cases h0
      refine ⟨_, rfl, a, _, 0, _, rfl, rfl, sqT ga (Step.refl (W := NoW) e).gh, at_nat (i := 0) rfl, zs, fun tp1 ntp1 => ⟨tp1, _, rfl, .inr (.of upd_same), rfl, rfl, _, rfl, ifF (by decide) ?_⟩⟩
      generalize e1 : upd H tp1 _ = H1
      obtain ⟨S1, _, _⟩ := (Step.refl (W := NoW) e).newME ntp1 e1
      refine ⟨_, rfl, a, _, 0, _, rfl, rfl, sqT ga S1.gh, at_nat (i := 0) rfl, rfl, _, rfl, ifF (by decide) ?_⟩
      refine ⟨_, rfl, a, _, 0, _, rfl, rfl, sqT ga S1.gh, at_nat (i := 0) rfl, rfl, _, rfl, ifF (by decide) ?_⟩
      refine ⟨_, rfl, a, _, 0, _, rfl, rfl, sqT ga S1.gh, at_nat (i := 0) rfl, zs, fun tp2 ntp2 => ⟨tp2, _, rfl, .inr (.of upd_same), rfl, rfl, _, rfl, ifF (by decide) ?_⟩⟩
      generalize e2 : upd H1 tp2 _ = H2
      obtain ⟨S2, _, _⟩ := S1.newME ntp2 e2
      refine ⟨_, rfl, bg, rfl, ⟨_, sqL hbg S2.gh⟩, fun L nL => comp (by simp [Stm.cl]) H2 S2 L nL⟩
    | ch y n =>
      obtain ⟨a, xs, rfl, ga, rx⟩ := rv
      obtain ⟨x0, r0, rfl, h0, rx⟩ := rx.c1
      cases h0
      refine ⟨_, rfl, a, _, 0, _, rfl, rfl, sqT ga (Step.refl (W := NoW) e).gh, at_nat (i := 0) rfl, zs, fun tp1 ntp1 => ⟨tp1, _, rfl, .inr (.of upd_same), rfl, rfl, _, rfl, ifF (by decide) ?_⟩⟩
      generalize e1 : upd H tp1 _ = H1
      obtain ⟨S1, _, _⟩ := (Step.refl (W := NoW) e).newME ntp1 e1
      refine ⟨_, rfl, a, _, 0, _, rfl, rfl, sqT ga S1.gh, at_nat (i := 0) rfl, rfl, _, rfl, ifF (by decide) ?_⟩
      refine ⟨_, rfl, a, _, 0, _, rfl, rfl, sqT ga S1.gh, at_nat (i := 0) rfl, rfl, _, rfl, ifF (by decide) ?_⟩
      refine ⟨_, rfl, a, _, 0, _, rfl, rfl, sqT ga S1.gh, at_nat (i := 0) rfl, zs, fun tp2 ntp2 => ⟨tp2, _, rfl, .inr (.of upd_same), rfl, rfl, _, rfl, ifF (by decide) ?_⟩⟩
      generalize e2 : upd H1 tp2 _ = H2
      obtain ⟨S2, _, _⟩ := S1.newME ntp2 e2
      refine ⟨_, rfl, bg, rfl, ⟨_, sqL hbg S2.gh⟩, fun L nL => comp (by simp [Stm.cl]) H2 S2 L nL⟩
    | lo y =>
      obtain ⟨a, xs, rfl, ga, rx⟩ := rv
      obtain ⟨x0, r0, rfl, h0, rx⟩ := rx.c1
      cases h0
      refine ⟨_, rfl, a, _, 0, _, rfl, rfl, sqT ga (Step.refl (W := NoW) e).gh, at_nat (i := 0) rfl, zs, fun tp1 ntp1 => ⟨tp1, _, rfl, .inr (.of upd_same), rfl, rfl, _, rfl, ifF (by decide) ?_⟩⟩
      generalize e1 : upd H tp1 _ = H1
      obtain ⟨S1, _, _⟩ := (Step.refl (W := NoW) e).newME ntp1 e1
      refine ⟨_, rfl, a, _, 0, _, rfl, rfl, sqT ga S1.gh, at_nat (i := 0) rfl, rfl, _, rfl, ifF (by decide) ?_⟩
      refine ⟨_, rfl, a, _, 0, _, rfl, rfl, sqT ga S1.gh, at_nat (i := 0) rfl, rfl, _, rfl, ifF (by decide) ?_⟩
      refine ⟨_, rfl, a, _, 0, _, rfl, rfl, sqT ga S1.gh, at_nat (i := 0) rfl, zs, fun tp2 ntp2 => ⟨tp2, _, rfl, .inr (.of upd_same), rfl, rfl, _, rfl, ifF (by decide) ?_⟩⟩
      generalize e2 : upd H1 tp2 _ = H2
      obtain ⟨S2, _, _⟩ := S1.newME ntp2 e2
      refine ⟨_, rfl, bg, rfl, ⟨_, sqL hbg S2.gh⟩, fun L nL => comp (by simp [Stm.cl]) H2 S2 L nL⟩
    | ie c v y n =>
      have hcv := oks.cv c v rfl
      obtain ⟨a, xs, rfl, ga, rx⟩ := rv
      obtain ⟨x0, r0, rfl, h0, rx⟩ := rx.c1
      obtain ⟨x1, r1, rfl, h1, rx⟩ := rx.c1
      obtain ⟨x2, r2, rfl, h2, rx⟩ := rx.c1
      cases h0; cases h1; cases h2
      refine ⟨_, rfl, a, _, 0, _, rfl, rfl, sqT ga (Step.refl (W := NoW) e).gh, at_nat (i := 0) rfl, zs, fun tp1 ntp1 => ⟨tp1, _, rfl, .inr (.of upd_same), rfl, rfl, _, rfl, ifF (by decide) ?_⟩⟩
      generalize e1 : upd H tp1 _ = H1
      obtain ⟨S1, _, _⟩ := (Step.refl (W := NoW) e).newME ntp1 e1
      refine ⟨_, rfl, a, _, 0, _, rfl, rfl, sqT ga S1.gh, at_nat (i := 0) rfl, rfl, _, rfl, ifF (by decide) ?_⟩
      refine ⟨_, rfl, a, _, 0, _, rfl, rfl, sqT ga S1.gh, at_nat (i := 0) rfl, rfl, _, rfl, ifF (by decide) ?_⟩
      refine ⟨_, rfl, a, _, 0, _, rfl, rfl, sqT ga S1.gh, at_nat (i := 0) rfl, zs, fun tp2 ntp2 => ⟨tp2, _, rfl, .inr (.of upd_same), rfl, rfl, _, rfl, ifT (by decide) ?_⟩⟩
      generalize e2 : upd H1 tp2 _ = H2
      obtain ⟨S2, _, _⟩ := S1.newME ntp2 e2
      obtain ⟨vl, hvl, hv⟩ := hcv
      have okc := okp.vl _ hvl
      simp only at okc
      have hbg2 : ∃ i0 io, (True : Prop) ∧ i0 ≤ N ∧ io ≤ N ∧ (is.map (fun n : Nat => V.int n))[0]? = some (.int i0) ∧ ((is.map (fun n : Nat => V.int n)) ++ [V.int goal])[1]? = some (.int io) := by
        have l2 : is.length = 2 := lis
        match is, l2, his with
        | [i0, i1], _, his => exact ⟨i0, i1, trivial, his i0 (by simp), his i1 (by simp), rfl, rfl⟩
      obtain ⟨i0, io, _, hi0, hio, ei0, eio⟩ := hbg2
      obtain ⟨pa, xs, rfl, gp, rxp⟩ := rp.lst
      obtain ⟨ps, kvs, rfl, pr, keys, ents⟩ := plan_pairs rxp
      obtain ⟨lv, hlv, glv⟩ := ents _ hvl
      have ndk : (kvs.map Prod.fst).Nodup := by
        rw [keys]
        have := okp.nd
        have hh : p.map (fun c => (Sum.inr c.1 : Key)) = (p.map Prod.fst).map Sum.inr := by rw [List.map_map]; rfl
        rw [hh]
        exact List.pairwise_map.mpr (List.Pairwise.imp (fun h e => h (Sum.inr.inj e)) this)
      have hget := (merge_get kvs [] ndk).1 hlv
      refine ⟨_, rfl, a, _, 1, _, rfl, rfl, sqT ga S2.gh, at_nat (i := 1) rfl, _, rfl, a, _, 2, _, rfl, rfl, sqT ga S2.gh, at_nat (i := 2) rfl, zs, fun t1 n1 => ?_⟩
      generalize e5 : upd H2 t1 _ = H5
      obtain ⟨G5, S5, s5, g5⟩ := S2.newDE n1 e5
      refine ⟨_, rfl, bg, _, 0, _, rfl, rfl, sqL (S5.eg _ _ hbg) S5.gh, at_nat (i := 0) ei0, zs, fun t2 n2 => ?_⟩
      generalize e6 : upd H5 t2 _ = H6
      obtain ⟨G6, S6, s6, g6⟩ := S5.newDE n2 e6
      refine ⟨zs, fun l nl => ?_⟩
      generalize e7 : upd H6 l _ = H7
      obtain ⟨S7, s7, L7⟩ := S6.newME nl e7
      have nlH : H l = none := S6.dm _ nl
      refine ⟨_, rfl, pa, ps, kvs, rfl, sqL (S7.eg _ _ gp) S7.gh, pairs_sq (S7.eg.trans S7.gh) pr, fun d nd => ?_⟩
      generalize e8 : upd H7 d _ = H8
      obtain ⟨G8, S8, s8, g8⟩ := S7.newDE nd e8
      have L8 := L7.go s8
      refine ⟨_, rfl, a, _, 1, _, rfl, rfl, sqT (S8.eg _ _ ga) S8.gh, at_nat (i := 1) rfl, d, .ref lv, rfl, hget ▸ DGet.k (k := .inr c) (S8.gh _ _ g8), lv, rfl, ⟨_, sqL (S8.eg _ _ glv) S8.gh⟩, ?_⟩
      have up68 := s7.eg.trans s8.eg
      refine for_list (xs := vl.map V.str) (fun i σ H9 => ∃ (G9 : Hp) (es : List (Act × Nat)) (ys : List V), Step NoW G H G9 H9 ∧ Ex G8 G9 ∧ Mi G9 H9 l (.lst ys) ∧ RepL G9 (es.map stepD) ys ∧ es.length ≤ 1 + i ∧ (∀ x ∈ es, StepOk p N x) ∧ ∃ y5 y6, σ = [some (.ref pa), some (.ref a), some (.ref bg), some (.int goal), some (.ref l), y5, y6])
        ⟨G8, [(.look c v, i0)], _, S8, Ex.rfl' _, L8, ⟨_, _, rfl, step_rep (a := t1) (up68 _ _ g6) (rep_tup ((s6.eg.trans up68) _ _ g5) ⟨_, _, rfl, rfl, _, _, rfl, rfl, _, _, rfl, rfl, rfl⟩), rfl⟩, by simp, fun x hx => (by rw [List.mem_singleton.mp hx]; exact ⟨⟨vl, hvl, hv⟩, hi0⟩), _, _, rfl⟩
        (fun i σ H9 _ ⟨G9, _, _, S9, e89, _⟩ => sqL (e89 _ _ (S8.eg _ _ glv)) S9.gh) ?_ ?_
      · rintro i x σ H9 ex ⟨G9, es, ys, S9, e89, L9, ry, les, okes, y5, y6, rfl⟩
        obtain ⟨z, hz, rfl⟩ := map_some ex
        have hi := lt_of_some hz
        have lys := ry.len
        rw [List.length_map] at lys
        refine ⟨_, rfl, _, rfl, a, _, 2, _, rfl, rfl, sqT (S9.eg _ _ ga) S9.gh, at_nat (i := 2) rfl, rfl, _, rfl, if2 (fun _ => ?_) (fun _ => ⟨G9, es, ys, S9, e89, L9, ry, by omega, okes, _, _, rfl⟩)⟩
        refine ⟨_, rfl, .inl ⟨rfl, _, .of L9.h⟩, _, rfl, a, _, 1, _, rfl, rfl, sqT (S9.eg _ _ ga) S9.gh, at_nat (i := 1) rfl, _, rfl, zs, fun t1 n1 => ?_⟩
        generalize e10 : upd H9 t1 _ = H10
        obtain ⟨G10, S10, s10, g10⟩ := S9.newDE n1 e10
        refine ⟨_, rfl, _, rfl, zs, fun t3 n3 => ?_⟩
        generalize e11 : upd H10 t3 _ = H11
        obtain ⟨G11, S11, s11, g11⟩ := S10.newDE n3 e11
        refine ⟨bg, t3, _, _, rfl, rfl, S11.gh _ _ (S11.eg _ _ hbg), S11.gh _ _ g11, zl (by rw [List.length_map, lis]; simp [Stm.parts]), fun t4 n4 => ?_⟩
        generalize e12 : upd H11 t4 _ = H12
        obtain ⟨G12, S12, s12, g12⟩ := S11.newDE n4 e12
        refine ⟨t4, _, 1, _, rfl, rfl, sqL g12 S12.gh, at_nat (i := 1) eio, zs, fun t2 n2 => ?_⟩
        generalize e13 : upd H12 t2 _ = H13
        obtain ⟨G13, S13, s13, g13⟩ := S12.newDE n2 e13
        have up := (s11.eg.trans s12.eg).trans s13.eg
        have L13 := ((L9.go s10).go s11).go s12 |>.go s13
        refine ⟨l, _, _, rfl, rfl, L13.h, zl' (by omega), ?_⟩
        generalize e14 : upd H13 l _ = H14
        obtain ⟨S14, L14, _⟩ := S13.mutE (.inr nlH) L13 e14
        refine ⟨G13, es ++ [(.look c z, io)], _, S14, e89.trans (s10.eg.trans up), L14, ?_, by simp; omega, fun x hx => ?_, _, _, rfl⟩
        · rw [List.map_append]
          exact (ry.up (s10.eg.trans up)).snoc (step_rep (a := t1) g13 (rep_tup (up _ _ g10) ⟨_, _, rfl, rfl, _, _, rfl, rfl, _, _, rfl, rfl, rfl⟩))
        · rcases List.mem_append.mp hx with hx | hx
          · exact okes x hx
          · rw [List.mem_singleton.mp hx]; exact ⟨⟨vl, hvl, mem_of hz⟩, hio⟩
      · rintro σ H9 ⟨G9, es, ys, S9, e89, L9, ry, les, okes, y5, y6, rfl⟩
        obtain ⟨G10, S10, e910, g10, _⟩ := S9.frzE nlH L9
        rw [List.length_map] at les
        exact ⟨_, rfl, k es _ _ _ okes (by omega) S10 (rep_lst g10 (ry.up e910))⟩
    | wh c v y =>
      have hcv := oks.cv c v rfl
      obtain ⟨a, xs, rfl, ga, rx⟩ := rv
      obtain ⟨x0, r0, rfl, h0, rx⟩ := rx.c1
      obtain ⟨x1, r1, rfl, h1, rx⟩ := rx.c1
      obtain ⟨x2, r2, rfl, h2, rx⟩ := rx.c1
      cases h0; cases h1; cases h2
      refine ⟨_, rfl, a, _, 0, _, rfl, rfl, sqT ga (Step.refl (W := NoW) e).gh, at_nat (i := 0) rfl, zs, fun tp1 ntp1 => ⟨tp1, _, rfl, .inr (.of upd_same), rfl, rfl, _, rfl, ifF (by decide) ?_⟩⟩
      generalize e1 : upd H tp1 _ = H1
      obtain ⟨S1, _, _⟩ := (Step.refl (W := NoW) e).newME ntp1 e1
      refine ⟨_, rfl, a, _, 0, _, rfl, rfl, sqT ga S1.gh, at_nat (i := 0) rfl, rfl, _, rfl, ifF (by decide) ?_⟩
      refine ⟨_, rfl, a, _, 0, _, rfl, rfl, sqT ga S1.gh, at_nat (i := 0) rfl, rfl, _, rfl, ifF (by decide) ?_⟩
      refine ⟨_, rfl, a, _, 0, _, rfl, rfl, sqT ga S1.gh, at_nat (i := 0) rfl, zs, fun tp2 ntp2 => ⟨tp2, _, rfl, .inr (.of upd_same), rfl, rfl, _, rfl, ifT (by decide) ?_⟩⟩
      generalize e2 : upd H1 tp2 _ = H2
      obtain ⟨S2, _, _⟩ := S1.newME ntp2 e2
      obtain ⟨vl, hvl, hv⟩ := hcv
      have okc := okp.vl _ hvl
      simp only at okc
      have hbg2 : ∃ i0 io, (True : Prop) ∧ i0 ≤ N ∧ io ≤ N ∧ (is.map (fun n : Nat => V.int n))[0]? = some (.int i0) ∧ ((is.map (fun n : Nat => V.int n)) ++ [V.int goal])[1]? = some (.int io) := by
        have l2 : is.length = 1 := lis
        match is, l2, his with
        | [i0], _, his => exact ⟨i0, goal, trivial, his i0 (by simp), hgoal, rfl, rfl⟩
      obtain ⟨i0, io, _, hi0, hio, ei0, eio⟩ := hbg2
      obtain ⟨pa, xs, rfl, gp, rxp⟩ := rp.lst
      obtain ⟨ps, kvs, rfl, pr, keys, ents⟩ := plan_pairs rxp
      obtain ⟨lv, hlv, glv⟩ := ents _ hvl
      have ndk : (kvs.map Prod.fst).Nodup := by
        rw [keys]
        have := okp.nd
        have hh : p.map (fun c => (Sum.inr c.1 : Key)) = (p.map Prod.fst).map Sum.inr := by rw [List.map_map]; rfl
        rw [hh]
        exact List.pairwise_map.mpr (List.Pairwise.imp (fun h e => h (Sum.inr.inj e)) this)
      have hget := (merge_get kvs [] ndk).1 hlv
      refine ⟨_, rfl, a, _, 1, _, rfl, rfl, sqT ga S2.gh, at_nat (i := 1) rfl, _, rfl, a, _, 2, _, rfl, rfl, sqT ga S2.gh, at_nat (i := 2) rfl, zs, fun t1 n1 => ?_⟩
      generalize e5 : upd H2 t1 _ = H5
      obtain ⟨G5, S5, s5, g5⟩ := S2.newDE n1 e5
      refine ⟨_, rfl, bg, _, 0, _, rfl, rfl, sqL (S5.eg _ _ hbg) S5.gh, at_nat (i := 0) ei0, zs, fun t2 n2 => ?_⟩
      generalize e6 : upd H5 t2 _ = H6
      obtain ⟨G6, S6, s6, g6⟩ := S5.newDE n2 e6
      refine ⟨zs, fun l nl => ?_⟩
      generalize e7 : upd H6 l _ = H7
      obtain ⟨S7, s7, L7⟩ := S6.newME nl e7
      have nlH : H l = none := S6.dm _ nl
      refine ⟨_, rfl, pa, ps, kvs, rfl, sqL (S7.eg _ _ gp) S7.gh, pairs_sq (S7.eg.trans S7.gh) pr, fun d nd => ?_⟩
      generalize e8 : upd H7 d _ = H8
      obtain ⟨G8, S8, s8, g8⟩ := S7.newDE nd e8
      have L8 := L7.go s8
      refine ⟨_, rfl, a, _, 1, _, rfl, rfl, sqT (S8.eg _ _ ga) S8.gh, at_nat (i := 1) rfl, d, .ref lv, rfl, hget ▸ DGet.k (k := .inr c) (S8.gh _ _ g8), lv, rfl, ⟨_, sqL (S8.eg _ _ glv) S8.gh⟩, ?_⟩
      have up68 := s7.eg.trans s8.eg
      refine for_list (xs := vl.map V.str) (fun i σ H9 => ∃ (G9 : Hp) (es : List (Act × Nat)) (ys : List V), Step NoW G H G9 H9 ∧ Ex G8 G9 ∧ Mi G9 H9 l (.lst ys) ∧ RepL G9 (es.map stepD) ys ∧ es.length ≤ 1 + i ∧ (∀ x ∈ es, StepOk p N x) ∧ ∃ y5 y6, σ = [some (.ref pa), some (.ref a), some (.ref bg), some (.int goal), some (.ref l), y5, y6])
        ⟨G8, [(.look c v, i0)], _, S8, Ex.rfl' _, L8, ⟨_, _, rfl, step_rep (a := t1) (up68 _ _ g6) (rep_tup ((s6.eg.trans up68) _ _ g5) ⟨_, _, rfl, rfl, _, _, rfl, rfl, _, _, rfl, rfl, rfl⟩), rfl⟩, by simp, fun x hx => (by rw [List.mem_singleton.mp hx]; exact ⟨⟨vl, hvl, hv⟩, hi0⟩), _, _, rfl⟩
        (fun i σ H9 _ ⟨G9, _, _, S9, e89, _⟩ => sqL (e89 _ _ (S8.eg _ _ glv)) S9.gh) ?_ ?_
      · rintro i x σ H9 ex ⟨G9, es, ys, S9, e89, L9, ry, les, okes, y5, y6, rfl⟩
        obtain ⟨z, hz, rfl⟩ := map_some ex
        have hi := lt_of_some hz
        have lys := ry.len
        rw [List.length_map] at lys
        refine ⟨_, rfl, _, rfl, a, _, 2, _, rfl, rfl, sqT (S9.eg _ _ ga) S9.gh, at_nat (i := 2) rfl, rfl, _, rfl, if2 (fun _ => ?_) (fun _ => ⟨G9, es, ys, S9, e89, L9, ry, by omega, okes, _, _, rfl⟩)⟩
        refine ⟨_, rfl, .inl ⟨rfl, _, .of L9.h⟩, _, rfl, a, _, 1, _, rfl, rfl, sqT (S9.eg _ _ ga) S9.gh, at_nat (i := 1) rfl, _, rfl, zs, fun t1 n1 => ?_⟩
        generalize e10 : upd H9 t1 _ = H10
        obtain ⟨G10, S10, s10, g10⟩ := S9.newDE n1 e10
        refine ⟨_, rfl, _, rfl, zs, fun t3 n3 => ?_⟩
        generalize e11 : upd H10 t3 _ = H11
        obtain ⟨G11, S11, s11, g11⟩ := S10.newDE n3 e11
        refine ⟨bg, t3, _, _, rfl, rfl, S11.gh _ _ (S11.eg _ _ hbg), S11.gh _ _ g11, zl (by rw [List.length_map, lis]; simp [Stm.parts]), fun t4 n4 => ?_⟩
        generalize e12 : upd H11 t4 _ = H12
        obtain ⟨G12, S12, s12, g12⟩ := S11.newDE n4 e12
        refine ⟨t4, _, 1, _, rfl, rfl, sqL g12 S12.gh, at_nat (i := 1) eio, zs, fun t2 n2 => ?_⟩
        generalize e13 : upd H12 t2 _ = H13
        obtain ⟨G13, S13, s13, g13⟩ := S12.newDE n2 e13
        have up := (s11.eg.trans s12.eg).trans s13.eg
        have L13 := ((L9.go s10).go s11).go s12 |>.go s13
        refine ⟨l, _, _, rfl, rfl, L13.h, zl' (by omega), ?_⟩
        generalize e14 : upd H13 l _ = H14
        obtain ⟨S14, L14, _⟩ := S13.mutE (.inr nlH) L13 e14
        refine ⟨G13, es ++ [(.look c z, io)], _, S14, e89.trans (s10.eg.trans up), L14, ?_, by simp; omega, fun x hx => ?_, _, _, rfl⟩
        · rw [List.map_append]
          exact (ry.up (s10.eg.trans up)).snoc (step_rep (a := t1) g13 (rep_tup (up _ _ g10) ⟨_, _, rfl, rfl, _, _, rfl, rfl, _, _, rfl, rfl, rfl⟩))
        · rcases List.mem_append.mp hx with hx | hx
          · exact okes x hx
          · rw [List.mem_singleton.mp hx]; exact ⟨⟨vl, hvl, mem_of hz⟩, hio⟩
      · rintro σ H9 ⟨G9, es, ys, S9, e89, L9, ry, les, okes, y5, y6, rfl⟩
        obtain ⟨G10, S10, e910, g10, _⟩ := S9.frzE nlH L9
        rw [List.length_map] at les
        exact ⟨_, rfl, k es _ _ _ okes (by omega) S10 (rep_lst g10 (ry.up e910))⟩
end
end K4

set_option maxHeartbeats 4000000
/-! The law's rooms laid. -/
namespace K4
open PySem L2
abbrev Rm := Option Str × List (Act × Nat)
def rmD (x : Rm) : D := .tup [optD x.1, .lst (x.2.map stepD)]
def EntOk (G : Hp) (p : Plan) (N : Nat) (kvs : List (Key × V)) (n : Nat) (m : Option Str) : Prop :=
  ∃ v es, valV kvs (.inl (n : Int)) = some v ∧ Rep G (rmD (m, es)) v ∧ (∀ x ∈ es, StepOk p N x) ∧ es.length ≤ 5
theorem EntOk.up {G G' : Hp} {p : Plan} {N : Nat} {kvs kvs' : List (Key × V)} {n : Nat} {m : Option Str} (h : EntOk G p N kvs n m) (e : Ex G G') (q : valV kvs' (.inl (n : Int)) = valV kvs (.inl (n : Int))) : EntOk G' p N kvs' n m := by
  obtain ⟨v, es, h1, h2, h3⟩ := h
  exact ⟨v, es, q.trans h1, h2.up e, h3⟩
def spLLay (d : Nat) : Sp := fun vs H Q _ => ∃ (G : Hp) (p : Plan) (r : Row) (fo f b N : Nat) (kvs : List (Key × V)) (qv v : V), vs = [qv, v, .int f, .int b, .ref fo] ∧ Ex G H ∧ Rep G (planD p) qv ∧ PlanOk p ∧ Rep G (rowDT r) v ∧ (∀ t ∈ rowFlat r, StmOk p t) ∧ rowDeep r < d ∧ rowDeep r ≤ 5 ∧ rowSize r ≤ 24 ∧
  f + rowSize r ≤ N ∧ b ≤ N ∧ N ≤ 100 ∧ Mi G H fo (.dK kvs) ∧ kvs.length + rowSize r ≤ 1000 ∧
  ∀ G' H' kvs', Step (fun a => a = fo) G H G' H' → Mi G' H' fo (.dK kvs') → kvs'.length ≤ kvs.length + rowSize r → (∀ n : Nat, n < f ∨ f + rowSize r ≤ n → valV kvs' (.inl (n : Int)) = valV kvs (.inl (n : Int))) →
    (∀ i s, (rowFlat r)[i]? = some s → EntOk G' p N kvs' (f + i) s.mark) → Q .non H'
theorem pickI (c : Bool) (x y : V) : atI [x, y] (if c = true then 1 else 0) = some (if c = true then y else x) := by cases c <;> rfl
theorem natOf (c : Bool) (x y N : Nat) (hx : x ≤ N) (hy : y ≤ N) : ∃ g : Nat, (if c = true then V.int y else V.int x) = V.int g ∧ g ≤ N := by
  cases c
  · exact ⟨x, rfl, hx⟩
  · exact ⟨y, rfl, hy⟩
theorem lastAt (x : V) (r : List V) : ∃ z, atI (x :: r) (-1) = some z := by
  obtain ⟨z, hz⟩ := some_of (show r.length < (x :: r).length by simp)
  exact ⟨z, at_last hz rfl⟩
theorem one_view {G : Hp} {s : Stm} {v : V} (h : Rep G s.d v) : ∃ a xs last, v = .ref a ∧ G a = some (.tup xs) ∧ xs[0]? = some (.str s.kw) ∧ atI xs (-1) = some last ∧ ∀ m, s = .mk m → last = .str m := by
  cases s with
  | mk m =>
    obtain ⟨a, xs, rfl, ga, rx⟩ := h
    obtain ⟨x, y, rfl, h1, h2⟩ := rx.l2
    cases h1; cases h2
    exact ⟨a, _, _, rfl, ga, rfl, rfl, fun m' e => by cases e; rfl⟩
  | _ =>
    obtain ⟨a, xs, rfl, ga, rx⟩ := h
    obtain ⟨x, r, rfl, h1, _⟩ := rx.c1
    cases h1
    obtain ⟨z, hz⟩ := lastAt (V.str _) r
    exact ⟨a, _, z, rfl, ga, rfl, hz, fun m' e => (by cases e)⟩
theorem kw_mark (s : Stm) : decide (V.str s.kw = V.str "mark") = s.mark.isSome := by cases s <;> rfl
theorem putK_len (kvs : List (Key × V)) (k : Key) (v : V) : (putK kvs k v).length ≤ kvs.length + 1 := by
  unfold putK
  split
  · rw [List.length_map]; omega
  · rw [List.length_append]; simp
theorem flat_len_sum : ∀ l : List Row, ((l.map rowFlat).flatten).length = (l.map rowSize).sum
  | [] => rfl
  | a :: l => by
    have ih := flat_len_sum l
    simp only [List.map_cons, List.flatten_cons, List.length_append, ih, rowFlat_len, List.sum_cons]
theorem rowSize_one (s : Stm) : rowSize [s] = s.size := by simp [rowSize]
theorem rowDeep_one (s : Stm) : rowDeep [s] = s.deep := by simp [rowDeep]
theorem rep_one {G : Hp} {s : Stm} {v : V} {t : Addr} (h : G t = some (.tup [v])) (r : Rep G s.d v) : Rep G (rowDT [s]) (.ref t) := rep_tup h ⟨_, _, rfl, r, rfl⟩
section
variable {P : Program} {w : World} {K : PySem.W.Frag} {mg : Str → Option Value} {base : Heap}
theorem ok_llay {k d : Nat} (T : Txt K mg) (c_law_length : Cal P w K mg base k "_law_length" P_law_length (spLen 6)) (c_law_parts : Cal P w K mg base k "_law_parts" P_law_parts spLParts) (c_law_exits : Cal P w K mg base k "_law_exits" P_law_exits spExits)
    (c_law_lay : Cal P w K mg base k "_law_lay" P_law_lay (spLLay d)) : Cal P w K mg base (k + 1) "_law_lay" P_law_lay (spLLay (d + 1)) := by
  refine Cal.of T.fn_law_lay sc_law_lay (fun vs H Q E h => ?_) (fun ff cdv A outer s H vs Q E hr h => ?_)
  · obtain ⟨_, _, _, _, _, _, _, _, _, _, rfl, _⟩ := h; rfl
  · obtain ⟨G, p, r, fo, f, b, N, kvs, qv, v, rfl, e, rp, okp, rv, okr, hd, hd5, hz, hf, hb, hN, m0, hk, k⟩ := h
    obtain ⟨a, xs, rfl, ga, rx⟩ := rv.tup
    rw [rowD_map] at rx
    have lx := rx.len
    rw [List.length_map] at lx
    have lz := len_le_size r
    refine ⟨_, (pss_cons (ps_set (i := 5) sc_law_lay.nd rfl (Or.inl rfl) (pv 2))
    (pss_one (ps_for PassesOwn.never rfl (k_enumT K (by rfl) T.f_enumerate (pa_cons (pv 1) pa_nil)) (k_gtup K (n := 2) rfl (pgs_cons (pg_name (i := 6) sc_law_lay.nd rfl (Or.inl rfl)) (pgs_cons (pg_name (i := 7) sc_law_lay.nd rfl (Or.inl rfl)) pgs_nil)))
      (pss_cons (ps_set (i := 8) sc_law_lay.nd rfl (Or.inl rfl) (pe_ix (k_ixL K) (pe_lst (pa_cons (pe_op op_add (pv 5) (pc c_law_length (hr.mono (by first | decide | omega)) (pa_cons (pe_tup (pa_cons (pv 7) pa_nil)) pa_nil))) (pa_cons (pv 3) pa_nil))) (pe_callTy call_int1 (by rfl) T.f_int (by decide +kernel) (pa_cons (pe_cmpR op_eq (pe_op op_add (pv 6) pe_int) (pe_callB (k_lenS K) (by rfl) T.f_len (by decide +kernel) (pa_cons (pv 1) pa_nil)) (by first | exact nomark _ | rfl)) pa_nil)) (fun _ _ => rfl)))
      (pss_cons (ps_set (i := 9) sc_law_lay.nd rfl (Or.inl rfl) (pe_ix (k_ixL K) (pe_lst (pa_cons (pv 8) (pa_cons (pv 5) pa_nil))) (pe_callTy call_int1 (by rfl) T.f_int (by decide +kernel) (pa_cons (pe_cmpR (k_inS K) (pe_ix (k_ixT K) (pv 7) pe_int (fun _ _ => rfl)) (pe_tup (pa_cons pe_str (pa_cons pe_str pa_nil))) (by first | exact nomark _ | rfl)) pa_nil)) (fun _ _ => rfl)))
      (pss_cons (ps_set (i := 10) sc_law_lay.nd rfl (Or.inl rfl) (pe_lst pa_nil))
      (pss_cons (ps_set (i := 11) sc_law_lay.nd rfl (Or.inl rfl) (pe_op op_add (pv 5) pe_int))
      (pss_cons (ps_for PassesOwn.never rfl (k_tup K (pc c_law_parts (hr.mono (by first | decide | omega)) (pa_cons (pv 7) pa_nil))) (pg_name (i := 12) sc_law_lay.nd rfl (Or.inl rfl))
        (pss_cons (ps_expr (k_bm K PySem.F.plainAttrs_list PySem.F.slot_list_append PySem.F.type_list_append mt_append (pv 10) (pa_cons (pe_ix (k_ixL K) (pe_lst (pa_cons (pv 11) (pa_cons (pv 9) pa_nil))) (pe_callTy call_int1 (by rfl) T.f_int (by decide +kernel) (pa_cons (pe_cmpR (k_eqD K (hu64 hr)) (pv 12) (pe_tup pa_nil) (by first | exact nomark _ | rfl)) pa_nil)) (fun _ _ => rfl)) pa_nil)))
        (pss_cons (ps_expr (pc c_law_lay (hr.mono (by first | decide | omega)) (pa_cons (pv 0) (pa_cons (pv 12) (pa_cons (pv 11) (pa_cons (pv 9) (pa_cons (pv 4) pa_nil)))))))
        (pss_one (ps_set (i := 11) sc_law_lay.nd rfl (Or.inl rfl) (pe_op op_add (pv 11) (pc c_law_length (hr.mono (by first | decide | omega)) (pa_cons (pv 12) pa_nil))))))))
      (pss_cons (ps_dput (hu_of hr) (pv 4) (pv 5) (pe_tup (pa_cons (pe_ix (k_ixL K) (pe_lst (pa_cons pe_non (pa_cons (pe_ix (k_ixT K) (pv 7) (pe_un un_neg pe_int) (fun _ _ => rfl)) pa_nil))) (pe_callTy call_int1 (by rfl) T.f_int (by decide +kernel) (pa_cons (pe_cmpR op_eq (pe_ix (k_ixT K) (pv 7) pe_int (fun _ _ => rfl)) pe_str (by first | exact nomark _ | rfl)) pa_nil)) (fun _ _ => rfl)) (pa_cons (pc c_law_exits (hr.mono (by first | decide | omega)) (pa_cons (pv 0) (pa_cons (pv 7) (pa_cons (pv 10) (pa_cons (pv 8) pa_nil))))) pa_nil))) rfl)
      (pss_one (ps_set (i := 5) sc_law_lay.nd rfl (Or.inl rfl) (pe_op op_add (pv 5) (pc c_law_length (hr.mono (by first | decide | omega)) (pa_cons (pe_tup (pa_cons (pv 7) pa_nil)) pa_nil)))))))))))))), ?_⟩
    refine seqSet ⟨_, rfl, ?_⟩
    refine ⟨_, rfl, a, xs, rfl, sqT ga e, ?_⟩
    refine for_it (walk_enumT (xs := xs)) (fun i σ H1 => ∃ (G1 : Hp) (kvs1 : List (Key × V)), Step (fun a => a = fo) G H G1 H1 ∧ Mi G1 H1 fo (.dK kvs1) ∧ kvs1.length ≤ kvs.length + rowSize (r.take i) ∧
        (∀ n : Nat, n < f ∨ f + rowSize (r.take i) ≤ n → valV kvs1 (.inl (n : Int)) = valV kvs (.inl (n : Int))) ∧ (∀ j s, (rowFlat (r.take i))[j]? = some s → EntOk G1 p N kvs1 (f + j) s.mark) ∧
        ∃ y6 y7 y8 y9 y10 y11 y12, σ = [some qv, some (.ref a), some (.int f), some (.int b), some (.ref fo), some (.int (f + rowSize (r.take i) : Nat)), y6, y7, y8, y9, y10, y11, y12])
      ⟨G, kvs, Step.refl e, m0, Nat.le_add_right _ _, fun _ _ => rfl, fun j s h => (by simp [rowFlat] at h), _, _, _, _, _, _, _, rfl⟩ (fun i σ H1 _ ⟨G1, _, s1, _⟩ => sqT (s1.eg _ _ ga) s1.gh) ?_ ?_
    · rintro i x σ H1 H1' hi ⟨G1, kvs1, S1, M1, lk1, un1, en1, y6, y7, y8, y9, y10, y11, y12, rfl⟩ ⟨tp, x', rfl, ntp, rfl, ex1⟩
      obtain ⟨s, hsi, rs⟩ := rx.map ex1
      have ztake : rowSize (r.take (i + 1)) = rowSize (r.take i) + s.size := by rw [take_snoc hsi, rowSize_app, rowSize_one]
      have zall : rowSize r = rowSize (r.take (i + 1)) + rowSize (r.drop (i + 1)) := by rw [← rowSize_app, List.take_append_drop]
      have dd := mem_deep (mem_of hsi)
      have oks := okr s (mem_flat (mem_of hsi) (self_flat s))
      have spos := size_pos s
      have sp := size_parts s
      have lp2 : s.parts.length ≤ 2 := by cases s <;> simp [Stm.parts]
      generalize hA : f + rowSize (r.take i) = A at *
      refine g2 (.of upd_same) ?_
      generalize e2 : upd H1 tp _ = H2
      obtain ⟨S2, s2, _⟩ := S1.newME ntp e2
      have M2 := M1.go s2
      have rs2 := rs.up S2.eg
      obtain ⟨sa, sxs, last, rfl, gsa, hs0, hsl, hsm⟩ := one_view rs2
      refine seqSet ⟨_, rfl, _, rfl, zs, fun t1 n1 => ?_⟩
      generalize e3 : upd H2 t1 _ = H3
      obtain ⟨G3, S3, s3, g3⟩ := S2.newDE n1 e3
      refine ⟨G3, [s], .ref t1, rfl, S3.gh, rep_one g3 (rs2.up s3.eg), by rw [rowDeep_one]; omega, by rw [rowSize_one]; omega, fun H4 f4 => ⟨_, _, rfl, rfl, _, rfl, zs, fun l5 n5 => ?_⟩⟩
      have s4 := f4.step S3.gh
      have S4 := S3.trans s4
      generalize e5 : upd H4 l5 _ = H5
      obtain ⟨G5, S5, s5, g5⟩ := S4.newDE n5 e5
      obtain ⟨g, hg, gN⟩ := natOf (decide (V.int ((i : Nat) + 1) = V.int xs.length)) (A + s.size) b N (by omega) hb
      refine ⟨_, rfl, _, _, rfl, rfl, _, rfl, a, xs, rfl, .inr (sqT (S5.eg _ _ ga) S5.gh), rfl, .inr ⟨_, rfl, l5, _, _, .int g, rfl, rfl, sqL g5 S5.gh, ?_, ?_⟩⟩
      · rw [pickI, ← hg, rowSize_one]
        congr 1
      refine seqSet ⟨_, rfl, _, rfl, zs, fun l6 n6 => ?_⟩
      generalize e6 : upd H5 l6 _ = H6
      obtain ⟨G6, S6, s6, g6⟩ := S5.newDE n6 e6
      have up36 := s5.eg.trans s6.eg
      have gsa6 : G6 sa = some (.tup sxs) := up36 _ _ (s3.eg _ _ gsa)
      refine ⟨_, rfl, sa, sxs, 0, _, rfl, rfl, sqT gsa6 S6.gh, at_nat (i := 0) hs0, zs, fun t7 n7 => ?_⟩
      generalize e7 : upd H6 t7 _ = H7
      obtain ⟨G7, S7, s7, g7⟩ := S6.newDE n7 e7
      obtain ⟨bk, hbk, bkN⟩ := natOf (inV (V.str s.kw) [.str "while", .str "loop"]) g A N gN (by omega)
      refine ⟨t7, _, rfl, .inr (sqT g7 S7.gh), rfl, rfl, .inr ⟨_, rfl, l6, _, _, .int bk, rfl, rfl, sqL (s7.eg _ _ g6) S7.gh, ?_, ?_⟩⟩
      · rw [← hbk]
        exact pickI _ _ _
      refine seqSet ⟨zs, fun bg nbg => ?_⟩
      generalize e8 : upd H7 bg _ = H8
      obtain ⟨S8, s8, B8⟩ := S7.newME nbg e8
      have nbgH : H bg = none := S7.dm _ nbg
      have M8 : Mi G7 H8 fo (.dK kvs1) := ((((M2.go s3).go s4).go s5).go s6).go s7 |>.go s8
      have nbf : bg ≠ fo := (Mi.ne' ((((M2.go s3).go s4).go s5).go s6 |>.go s7) nbg).symm
      refine seqSet ⟨_, rfl, _, _, rfl, rfl, ?_⟩
      have up27 := s3.eg.trans (up36.trans s7.eg)
      have rs7 := rs2.up up27
      have gsa7 := up27 _ _ gsa
      refine ⟨_, rfl, G7, s, .ref sa, rfl, S8.gh, rs7, fun G9 H9 pt s9 rpt => ?_⟩
      have S9 := S8.trans s9
      obtain ⟨pa, pxs, rfl, gpa, rpx⟩ := rpt.tup
      have lpx := rpx.len
      rw [List.length_map] at lpx
      have M9 := M8.go s9
      have B9 := B8.go s9
      refine ⟨pa, rfl, ⟨_, sqT gpa S9.gh⟩, ?_⟩
      refine for_tup (xs := pxs) (fun j σ H10 => ∃ (G10 : Hp) (kvs2 : List (Key × V)) (is : List Nat), Step (fun a => a = fo) G H G10 H10 ∧ Ex G9 G10 ∧ Mi G10 H10 fo (.dK kvs2) ∧ Mi G10 H10 bg (.lst (is.map fun n : Nat => V.int n)) ∧ is.length = j ∧ (∀ n ∈ is, n ≤ N) ∧
          kvs2.length ≤ kvs1.length + ((s.parts.take j).map rowSize).sum ∧ (∀ n : Nat, n < A + 1 ∨ A + 1 + ((s.parts.take j).map rowSize).sum ≤ n → valV kvs2 (.inl (n : Int)) = valV kvs1 (.inl (n : Int))) ∧
          (∀ q t, (((s.parts.take j).map rowFlat).flatten)[q]? = some t → EntOk G10 p N kvs2 (A + 1 + q) t.mark) ∧
          ∃ y12, σ = [some qv, some (.ref a), some (.int f), some (.int b), some (.ref fo), some (.int A), some (.int i), some (.ref sa), some (.int g), some (.int bk), some (.ref bg), some (.int (A + 1 + ((s.parts.take j).map rowSize).sum : Nat)), y12])
        ⟨G9, kvs1, [], S9, Ex.rfl' _, M9, B9, rfl, by simp, Nat.le_add_right _ _, fun _ _ => rfl, fun q t h => (by simp at h), _, rfl⟩ (fun j σ H10 _ ⟨G10, _, _, S10, e910, _⟩ => sqT (e910 _ _ gpa) S10.gh) ?_ ?_
      · rintro j x σ H10 exj ⟨G10, kvs2, is, S10, e910, M10, B10, lis, his, lk2, un2, en2, y12, rfl⟩
        obtain ⟨u, hu, ru⟩ := rpx.map exj
        have ru10 := ru.up e910
        have du := part_deep (mem_of hu)
        have zu := part_size (mem_of hu)
        have hj := lt_of_some hu
        have split := split_at hu
        have szs : ((s.parts.take j).map rowSize).sum + rowSize u ≤ s.partsSize := by
          unfold Stm.partsSize
          conv => rhs; rw [split]
          rw [List.map_append, List.sum_append, List.map_cons, List.sum_cons]
          omega
        have sum1 : ((s.parts.take (j + 1)).map rowSize).sum = ((s.parts.take j).map rowSize).sum + rowSize u := by
          rw [take_snoc hu, List.map_append, List.sum_append]; simp
        have oku : ∀ t ∈ rowFlat u, StmOk p t := fun t ht => okr t (mem_flat (mem_of hsi) (part_flat (mem_of hu) ht))
        generalize hI : A + 1 + ((s.parts.take j).map rowSize).sum = I at *
        refine ⟨_, rfl, .inl ⟨rfl, _, .of B10.h⟩, _, rfl, _, rfl, zs, fun l11 n11 => ?_⟩
        generalize e11 : upd H10 l11 _ = H11
        obtain ⟨G11, S11, s11, g11⟩ := S10.newDE n11 e11
        refine ⟨_, rfl, zs, fun t12 n12 => ?_⟩
        generalize e12 : upd H11 t12 _ = H12
        obtain ⟨G12, S12, s12, g12⟩ := S11.newDE n12 e12
        have B12 := (B10.go s11).go s12
        have M12 := (M10.go s11).go s12
        refine ⟨toPy (rowDT u), .tuple [], (ru10.up (s11.eg.trans s12.eg)).dp S12.gh, .tup (sqT g12 S12.gh) .nil, shaped_row (fun t ht => nm_of okp (oku t ht)) (by omega), by decide, .inr ⟨_, rfl, l11, _, _, _, rfl, rfl, sqL (s12.eg _ _ g11) S12.gh, pickI _ _ _, ?_⟩⟩
        obtain ⟨bi, hbi, biN⟩ := natOf (PyData.eqv (toPy (rowDT u)) (.tuple [])) I bk N (by omega) bkN
        rw [hbi]
        refine ⟨bg, _, _, rfl, rfl, B12.h, zl' (by rw [List.length_map]; omega), ?_⟩
        generalize e13 : upd H12 bg _ = H13
        obtain ⟨S13, B13, n13⟩ := S12.mutE (.inr nbgH) B12 e13
        have M13 : Mi G12 H13 fo (.dK kvs2) := ⟨(n13 fo nbf.symm).trans M12.h, M12.g⟩
        have up12 := s11.eg.trans s12.eg
        refine ⟨_, rfl, _, rfl, _, rfl, _, rfl, _, rfl, G12, p, u, fo, I, bk, N, kvs2, qv, x, rfl, S13.gh, rp.up S13.eg, okp, ru10.up up12, oku, by omega, by omega, by omega, by omega, bkN, hN, M13, by omega, fun G14 H14 kvs3 s14 M14 lk3 un3 en3 => ?_⟩
        have S14 := S13.trans s14
        have B14 := B13.go s14 nbf
        refine ⟨_, rfl, _, rfl, G14, u, x, rfl, S14.gh, ru10.up (up12.trans s14.eg), by omega, by omega, fun H15 f15 => ⟨_, _, rfl, rfl, ?_⟩⟩
        have s15 := f15.step S14.gh
        refine ⟨G14, kvs3, is ++ [bi], S14.trans s15, e910.trans (up12.trans s14.eg), M14.go s15, ?_, by simp [lis], ?_, by omega, ?_, ?_, some x, ?_⟩
        · rw [List.map_append]; exact B14.go s15
        · intro n hn
          rcases List.mem_append.mp hn with hn | hn
          · exact his n hn
          · rw [List.mem_singleton.mp hn]; exact biN
        · intro n hn
          rw [un3 n (by omega), un2 n (by omega)]
        · intro q t hq
          rw [take_snoc hu, List.map_append, List.flatten_append] at hq
          have lf := flat_len_sum (s.parts.take j)
          by_cases hlt : q < (((s.parts.take j).map rowFlat).flatten).length
          · rw [List.getElem?_append_left hlt] at hq
            refine (en2 q t hq).up (up12.trans s14.eg) (un3 _ (by omega))
          · rw [List.getElem?_append_right (by omega)] at hq
            have hq2 : (rowFlat u)[q - (((s.parts.take j).map rowFlat).flatten).length]? = some t := by simpa only [List.map_cons, List.map_nil, List.flatten_cons, List.flatten_nil, List.append_nil] using hq
            have := en3 _ t hq2
            rw [show I + (q - (((s.parts.take j).map rowFlat).flatten).length) = A + 1 + q by omega] at this
            exact this
        · rw [sum1]
          have : ((I : Nat) : Int) + (rowSize u : Nat) = ((A + 1 + (((s.parts.take j).map rowSize).sum + rowSize u) : Nat) : Int) := by omega
          rw [← this]
          rfl
      · rintro σ H10 ⟨G10, kvs2, is, S10, e910, M10, B10, lis, his, lk2, un2, en2, y12, rfl⟩
        rw [lpx, List.take_length] at lk2 un2 en2
        rw [lpx] at lis
        have psz : (s.parts.map rowSize).sum = s.partsSize := rfl
        obtain ⟨G11, S11, e1011, gbg, n11⟩ := S10.frzE nbgH B10
        have M11 : Mi G11 H10 fo (.dK kvs2) := ⟨M10.h, by rw [n11 _ nbf.symm]; exact M10.g⟩
        have up711 := s9.eg.trans (e910.trans e1011)
        have gsa11 := up711 _ _ gsa7
        have rs11 := rs7.up up711
        refine ⟨_, rfl, _, rfl, sa, sxs, -1, _, rfl, rfl, sqT gsa11 S11.gh, hsl, zs, fun l12 n12 => ?_⟩
        generalize e12 : upd H10 l12 _ = H12
        obtain ⟨G12, S12, s12, g12⟩ := S11.newDE n12 e12
        have M12 := M11.go s12
        refine ⟨_, rfl, sa, sxs, 0, _, rfl, rfl, sqT (s12.eg _ _ gsa11) S12.gh, at_nat (i := 0) hs0, by cases s <;> rfl, .inr ⟨_, rfl, l12, _, _, optV s.mark, rfl, rfl, sqL g12 S12.gh, ?_, ?_⟩⟩
        · rw [pickI, kw_mark]
          cases s with
          | mk m => rw [hsm m rfl]; rfl
          | _ => rfl
        refine ⟨_, rfl, _, rfl, _, rfl, _, rfl, G12, p, s, bg, N, is, g, qv, .ref sa, rfl, S12.gh, rp.up S12.eg, okp, rs11.up s12.eg, oks, s12.eg _ _ gbg, lis, his, gN, fun es G13 H13 ev okes les s13 rev => ?_⟩
        have S13 := S12.trans s13
        have M13 := M12.go s13
        refine ⟨zs, fun t14 n14 => ?_⟩
        generalize e14 : upd H13 t14 _ = H14
        obtain ⟨G14, S14, s14, g14⟩ := S13.newDE n14 e14
        have M14 := M13.go s14
        refine ⟨_, rfl, _, rfl, fo, _, rfl, DPut.k (k := .inl (A : Int)) M14.h (zl' (by omega)), ?_⟩
        generalize e15 : upd H14 fo _ = H15
        obtain ⟨S15, M15, _⟩ := S14.mutE (.inl rfl) M14 e15
        have ev14 := rev.up s14.eg
        have hent : Rep G14 (rmD (s.mark, es)) (.ref t14) := rep_tup g14 ⟨_, _, rfl, rep_optV _, _, _, rfl, ev14, rfl⟩
        have up1014 := e1011.trans (s12.eg.trans (s13.eg.trans s14.eg))
        refine ⟨_, rfl, _, rfl, zs, fun t16 n16 => ?_⟩
        generalize e16 : upd H15 t16 _ = H16
        obtain ⟨G16, S16, s16, g16⟩ := S15.newDE n16 e16
        have M16 := M15.go s16
        have up1116 := s12.eg.trans (s13.eg.trans (s14.eg.trans s16.eg))
        refine ⟨G16, [s], .ref t16, rfl, S16.gh, rep_one g16 (rs11.up up1116), by rw [rowDeep_one]; omega, by rw [rowSize_one]; omega, fun H17 f17 => ⟨_, _, rfl, rfl, ?_⟩⟩
        have s17 := f17.step S16.gh
        have pl := putK_len kvs2 (.inl (A : Int)) (.ref t14)
        have en12 : ∀ j' t, (rowFlat (r.take i))[j']? = some t → EntOk G16 p N (putK kvs2 (.inl (A : Int)) (.ref t14)) (f + j') t.mark := fun j' t ht => by
          have hj' := lt_of_some ht
          rw [rowFlat_len] at hj'
          refine (en1 j' t ht).up (s2.eg.trans (up27.trans (s8.eg.trans (s9.eg.trans (e910.trans (up1014.trans s16.eg)))))) ?_
          rw [valV_put, if_neg (by intro h; injection h with h; omega)]
          exact un2 _ (by omega)
        refine ⟨G16, _, S16.trans s17, M16.go s17, by omega, fun n hn => ?_, fun q t hq => ?_, some (.int i), some (.ref sa), some (.int g), some (.int bk), some (.ref bg), some (.int (A + 1 + ((s.parts.take pxs.length).map rowSize).sum : Nat)), y12, ?_⟩
        · rw [ztake] at hn
          rw [valV_put, if_neg (by intro h; injection h with h; omega), un2 n (by omega), un1 n (by omega)]
        · rw [take_snoc hsi, rowFlat_app] at hq
          have lf := rowFlat_len (r.take i)
          by_cases hlt : q < (rowFlat (r.take i)).length
          · rw [List.getElem?_append_left hlt] at hq
            exact en12 q t hq
          · rw [List.getElem?_append_right (by omega)] at hq
            have hfl : rowFlat [s] = s :: (s.parts.map rowFlat).flatten := by simp [rowFlat]; exact flat_parts s
            rw [hfl] at hq
            by_cases h0 : q - (rowFlat (r.take i)).length = 0
            · rw [h0] at hq
              cases hq
              refine ⟨.ref t14, es, ?_, hent.up s16.eg, okes, les⟩
              rw [valV_put, if_pos (by congr 1; omega)]
            · obtain ⟨q', hq'⟩ : ∃ q', q - (rowFlat (r.take i)).length = q' + 1 := ⟨_, (Nat.succ_pred_eq_of_ne_zero h0).symm⟩
              rw [hq'] at hq
              have := en2 q' t hq
              rw [show A + 1 + q' = f + q by omega] at this
              refine this.up (up1014.trans s16.eg) ?_
              rw [valV_put, if_neg (by intro h; injection h with h; omega)]
        · rw [ztake, rowSize_one]
          have : ((A : Nat) : Int) + (s.size : Nat) = ((f + (rowSize (r.take i) + s.size) : Nat) : Int) := by omega
          rw [← this]
          rfl
    · rintro σ H1 ⟨G1, kvs1, S1, M1, lk1, un1, en1, y6, y7, y8, y9, y10, y11, y12, rfl⟩
      rw [lx, List.take_length] at lk1 un1 en1
      exact k _ _ _ S1 M1 lk1 un1 en1
end
end K4

set_option maxHeartbeats 4000000
/-! The law's world, and the program's own game. -/
namespace K4
open PySem L2
structure RmsOk (p : Plan) (r : Row) (rms : List Rm) : Prop where
  len : rms.length = rowSize r + 1
  mark : ∀ (n : Nat) rm, rms[n]? = some rm → rm.1 = markAt r n
  step : ∀ rm ∈ rms, ∀ x ∈ rm.2, StepOk p (rowSize r) x
  few : ∀ rm ∈ rms, rm.2.length ≤ 5
def rmsD (rms : List Rm) : D := .lst (rms.map rmD)
structure WoO (G : Hp) (g : Addr) (p : Plan) (r0 r1 : Row) (m0 m1 : List Rm) : Prop where
  ex : ∃ kvs qv rv mv, G g = some (.dK kvs) ∧ valV kvs (.inr "plan") = some qv ∧ valV kvs (.inr "rows") = some rv ∧ valV kvs (.inr "rooms") = some mv ∧ Rep G (planD p) qv ∧ Rep G (.lst [rowDT r0, rowDT r1]) rv ∧ Rep G (.lst [rmsD m0, rmsD m1]) mv
theorem WoO.up {G G' : Hp} {g : Addr} {p : Plan} {r0 r1 : Row} {m0 m1 : List Rm} (h : WoO G g p r0 r1 m0 m1) (e : Ex G G') : WoO G' g p r0 r1 m0 m1 := by
  obtain ⟨kvs, qv, rv, mv, h0, h1, h2, h3, h4, h5, h6⟩ := h.ex
  exact ⟨kvs, qv, rv, mv, e _ _ h0, h1, h2, h3, h4.up e, h5.up e, h6.up e⟩
/-- a drawn game -/
structure WoOk (p : Plan) (r0 r1 : Row) (m0 m1 : List Rm) : Prop where
  pl : PlanOk p
  w0 : RowOk p r0
  w1 : RowOk p r1
  n0 : RmsOk p r0 m0
  n1 : RmsOk p r1 m1
def spRooms : Sp := fun vs H Q _ => ∃ (G : Hp) (p : Plan) (r : Row) (qv v : V), vs = [qv, v] ∧ Ex G H ∧ Rep G (planD p) qv ∧ PlanOk p ∧ Rep G (rowDT r) v ∧ RowOk p r ∧ ∀ rms G' H' v', RmsOk p r rms → Step NoW G H G' H' → Rep G' (rmsD rms) v' → Q v' H'
def spWorld : Sp := fun vs H Q _ => ∃ (G : Hp) (p : Plan) (r0 r1 : Row) (qv v : V), vs = [qv, v] ∧ Ex G H ∧ Rep G (planD p) qv ∧ PlanOk p ∧ Rep G (.lst [rowDT r0, rowDT r1]) v ∧ RowOk p r0 ∧ RowOk p r1 ∧ ∀ m0 m1 G' H' g, WoOk p r0 r1 m0 m1 → Step NoW G H G' H' → WoO G' g p r0 r1 m0 m1 → Q (.ref g) H'
def spDrawn : Sp := fun vs H Q _ => ∃ (G : Hp) (wa sz c : Nat), vs = [.ref wa, .int 2, .ref sz] ∧ Ex G H ∧ WO G H wa c ∧ c ≤ 1000 ∧ G sz = some (.lst [.int 5, .int 5]) ∧
  ∀ p r0 r1 m0 m1 G' H' g, WoOk p r0 r1 m0 m1 → Step (Wa wa) G H G' H' → WO G' H' wa (c + 40000) → WoO G' g p r0 r1 m0 m1 → Q (.ref g) H'
def spOwn (K : PySem.W.Frag) : Sp := fun vs H Q _ => ∃ (G : Hp) (g : Addr) (p : Plan) (r0 r1 : Row) (m0 m1 : List Rm), vs = [.ref g] ∧ Ex G H ∧ WoO G g p r0 r1 m0 m1 ∧ WoOk p r0 r1 m0 m1 ∧ ∀ G' H' ga, Step NoW G H G' H' → GaO K G' ga p r0 r1 → Q (.ref ga) H'
section
variable {P : Program} {w : World} {K : PySem.W.Frag} {mg : Str → Option Value} {base : Heap}
theorem llays (T : Txt K mg) (c_law_length : Cal P w K mg base 7 "_law_length" P_law_length (spLen 6)) (c_law_parts : Cal P w K mg base 1 "_law_parts" P_law_parts spLParts) (c_law_exits : Cal P w K mg base 1 "_law_exits" P_law_exits spExits) : ∀ d, Cal P w K mg base (7 + d) "_law_lay" P_law_lay (spLLay d)
  | 0 => by
    refine Cal.up (j := 1) ?_ (by omega)
    refine Cal.of T.fn_law_lay sc_law_lay (fun vs H Q E h => ?_) (fun ff cdv A outer s H vs Q E hr h => ?_)
    · obtain ⟨_, _, _, _, _, _, _, _, _, _, _, _, _, _, _, _, h, _⟩ := h; exact absurd h (Nat.not_lt_zero _)
    · obtain ⟨_, _, _, _, _, _, _, _, _, _, _, _, _, _, _, _, h, _⟩ := h; exact absurd h (Nat.not_lt_zero _)
  | d + 1 => ok_llay (k := 7 + d) T (c_law_length.up (by omega)) (c_law_parts.up (by omega)) (c_law_exits.up (by omega)) (llays T c_law_length c_law_parts c_law_exits d)
theorem ok_rooms {k : Nat} (T : Txt K mg) (c_law_length : Cal P w K mg base k "_law_length" P_law_length (spLen 6)) (c_law_lay : Cal P w K mg base k "_law_lay" P_law_lay (spLLay 6)) : Cal P w K mg base (k + 1) "_law_rooms" P_law_rooms spRooms := by
  refine Cal.of T.fn_law_rooms sc_law_rooms (fun vs H Q E h => ?_) (fun f cdv A outer s H vs Q E hr h => ?_)
  · obtain ⟨_, _, _, _, _, rfl, _⟩ := h; rfl
  · obtain ⟨G, p, r, qv, v, rfl, e, rp, okp, rv, okr, k⟩ := h
    have z24 := okr.size
    have d5 := okr.deep
    refine ⟨_, (pss_cons (ps_set (i := 2) sc_law_rooms.nd rfl (Or.inl rfl) (pc c_law_length (hr.mono (by first | decide | omega)) (pa_cons (pv 1) pa_nil)))
    (pss_cons (ps_set (i := 3) sc_law_rooms.nd rfl (Or.inr rfl) (pe_disp (pps_cons (pv 2) (pe_tup (pa_cons pe_non (pa_cons (pe_lst pa_nil) pa_nil))) pps_nil) (by rfl) (by rfl) (fun z => by cases z) (by decide)))
    (pss_cons (ps_expr (pc c_law_lay (hr.mono (by first | decide | omega)) (pa_cons (pv 0) (pa_cons (pv 1) (pa_cons pe_int (pa_cons (pv 2) (pa_cons (pv 3) pa_nil)))))))
    (pss_one (ps_ret (pe_lc (own := [("_law_room", 4)]) (by rfl) sc_law_rooms.nd (pi_range1 (by rfl) T.f_range (pa_cons (pe_op op_add (pv 2) pe_int) pa_nil)) (blkOk_by (own := [("_law_room", 4)]) (N := N_law_rooms) (by kernel_rfl)) (fun _ _ _ _ _ => (pg_name (i := 4) sc_law_rooms.nd rfl (Or.inl rfl))) (fun _ _ _ _ _ => pts_nil) (fun _ _ _ _ _ => (pe_dget (hu_of hr) (pv 3) (pv 4) (fun _ _ => rfl))))))))), ?_⟩
    refine seqSet ⟨_, rfl, G, r, v, rfl, e, rv, by omega, by omega, fun H1 f1 => ?_⟩
    have S1 := f1.step e
    refine seqSet fun fo nfo => ?_
    generalize e2 : upd H1 fo _ = H2
    obtain ⟨S2, s2, D2⟩ := S1.newME nfo e2
    refine ⟨_, rfl, zs, fun l3 n3 => ?_⟩
    generalize e3 : upd H2 l3 _ = H3
    obtain ⟨G3, S3, s3, g3⟩ := S2.newDE n3 e3
    refine ⟨zs, fun t4 n4 => ?_⟩
    generalize e4 : upd H3 t4 _ = H4
    obtain ⟨G4, S4, s4, g4⟩ := S3.newDE n4 e4
    have D4 := (D2.go s3).go s4
    refine ⟨D4.h, [(.inl (rowSize r : Nat), .ref t4)], rfl, (by simp), ?_⟩
    generalize e5 : upd H4 fo _ = H5
    obtain ⟨S5, D5, _⟩ := S4.mutE (.inr (S1.dm _ nfo)) D4 e5
    have nfoH : H fo = none := S1.dm _ nfo
    refine ⟨_, rfl, _, rfl, _, rfl, _, rfl, G4, p, r, fo, 0, rowSize r, rowSize r, _, qv, v, rfl, S5.gh, rp.up S5.eg, okp, rv.up S5.eg, okr.ok, by omega, by omega, by omega, by omega, by omega, by omega, D5, ?_, fun G6 H6 kvs s6 D6 lk un en => ?_⟩
    · exact Nat.le_trans (Nat.add_le_add_right (putK_len [] _ _) _) (by simp; omega)
    have S6 := S5.trans s6 (fun a h => Or.inr (h ▸ nfoH))
    have last : valV kvs (.inl ((rowSize r : Nat) : Int)) = some (.ref t4) := by
      rw [un (rowSize r) (by omega)]
      show valV (putK [] _ _) _ = _
      rw [valV_put, if_pos rfl]
    have all : ∀ n, n ≤ rowSize r → EntOk G6 p (rowSize r) kvs n (markAt r n) := fun n hn => by
      by_cases h : n < rowSize r
      · obtain ⟨s, hs⟩ := some_of (show n < (rowFlat r).length by rw [rowFlat_len]; exact h)
        have := en n s hs
        rw [Nat.zero_add] at this
        have hm : markAt r n = s.mark := by unfold markAt; rw [hs]; rfl
        rw [hm]; exact this
      · have : n = rowSize r := by omega
        subst this
        have hm : markAt r (rowSize r) = none := by unfold markAt; rw [List.getElem?_eq_none (by rw [rowFlat_len]; omega)]; rfl
        rw [hm]
        exact ⟨_, [], last, rep_tup (s6.eg _ _ g4) ⟨_, _, rfl, rfl, _, _, rfl, ⟨l3, _, rfl, (s4.eg.trans s6.eg) _ _ g3, rfl⟩, rfl⟩, by simp, by simp⟩
    refine ⟨_, rfl, _, _, rfl, rfl, _, rfl, by omega, by omega, fun L nL => ?_⟩
    rw [show ((rowSize r : Nat) + (1 : Int)).toNat = rowSize r + 1 by omega]
    refine lcC walk_range (by omega) S6.gh nL (fun _ _ => trivial) (fun i G' acc => ∃ rms : List Rm, RepL G' (rms.map rmD) acc ∧ rms.length = i ∧ (∀ (n : Nat) rm, rms[n]? = some rm → rm.1 = markAt r n) ∧ (∀ rm ∈ rms, ∀ x ∈ rm.2, StepOk p (rowSize r) x) ∧ ∀ rm ∈ rms, rm.2.length ≤ 5) ⟨[], rfl, rfl, by simp, by simp, by simp⟩ ?_ ?_
    · rintro i x G7 H7 H7' acc K1 K0 hi s7 ⟨rms, ra, lr, hm, hst, hf⟩ ⟨rfl, rfl⟩ k1 k0
      obtain ⟨v', es, hv, hrep, hok, hle⟩ := all i (by omega)
      have D7 := D6.go s7
      refine ⟨rfl, _, rfl, _, rfl, fo, v', rfl, ?_, k1 _ _ _ (Step.refl s7.gh) ⟨rms ++ [(markAt r i, es)], ?_, by simp [lr], ?_, ?_, ?_⟩⟩
      · have : (0 : Int) + (i : Nat) = (i : Nat) := by omega
        show DGet H7' fo (.int (0 + (i : Nat))) (some v')
        rw [this, ← hv]
        exact DGet.k (k := .inl (i : Int)) D7.h
      · rw [List.map_append]
        exact ra.snoc (hrep.up s7.eg)
      · intro n rm hn
        by_cases h : n < rms.length
        · rw [List.getElem?_append_left h] at hn
          exact hm n rm hn
        · rw [List.getElem?_append_right (by omega)] at hn
          have : n - rms.length = 0 := by
            have := lt_of_some hn
            simp at this; omega
          rw [this] at hn
          cases hn
          have : n = i := by omega
          rw [this]
      · intro rm hrm
        rcases List.mem_append.mp hrm with h | h
        · exact hst rm h
        · rw [List.mem_singleton.mp h]; exact hok
      · intro rm hrm
        rcases List.mem_append.mp hrm with h | h
        · exact hf rm h
        · rw [List.mem_singleton.mp h]; exact hle
    · rintro G7 H7 ys s7 hL gL _ ⟨rms, ra, lr, hm, hst, hf⟩
      obtain ⟨G8, S8, e8, g8, _⟩ := s7.frzE nL ⟨hL, gL⟩
      exact k rms _ _ _ ⟨lr, hm, hst, hf⟩ (S6.trans S8) (rep_lst g8 (ra.up e8))
theorem ok_world {k : Nat} (T : Txt K mg) (c_law_rooms : Cal P w K mg base k "_law_rooms" P_law_rooms spRooms) : Cal P w K mg base (k + 1) "_law_world" P_law_world spWorld := by
  refine Cal.of T.fn_law_world sc_law_world (fun vs H Q E h => ?_) (fun f cdv A outer s H vs Q E hr h => ?_)
  · obtain ⟨_, _, _, _, _, _, rfl, _⟩ := h; rfl
  · obtain ⟨G, p, r0, r1, qv, v, rfl, e, rp, okp, rv, ok0, ok1, k⟩ := h
    obtain ⟨a, xs, rfl, ga, rx⟩ := rv.lst
    refine ⟨_, (pss_one (ps_ret (pe_disp (pps_cons pe_str (pv 0) (pps_cons pe_str (pv 1) (pps_cons pe_str (pe_lc (own := [("_law_row_here", 2)]) (by rfl) sc_law_world.nd (k_list K (pv 1)) (blkOk_by (own := [("_law_row_here", 2)]) (N := N_law_world) (by kernel_rfl)) (fun _ _ _ _ _ => (pg_name (i := 2) sc_law_world.nd rfl (Or.inl rfl))) (fun _ _ _ _ _ => pts_nil) (fun _ _ _ _ _ => (pc c_law_rooms (hr.mono (by first | decide | omega)) (pa_cons (pv 0) (pa_cons (pv 2) pa_nil))))) pps_nil))) (by rfl) (by rfl) (fun z => by cases z) (by decide)))), ?_⟩
    refine fun g ng => ?_
    generalize e1 : upd H g _ = H1
    obtain ⟨S1, s1, D1⟩ := (Step.refl (W := NoW) e).newME ng e1
    refine ⟨_, rfl, _, rfl, _, rfl, a, rfl, ⟨_, sqL ga S1.gh⟩, fun L nL => ?_⟩
    have lx := rx.len
    refine lcC (walk_list (xs := xs)) (by rw [lx]; simp) S1.gh nL (fun H2 e2 => sqL ga (S1.gh.trans e2)) (fun i G' acc => ∃ ms : List (List Rm), RepL G' (ms.map rmsD) acc ∧ ms.length = i ∧ ∀ (n : Nat) m r, ms[n]? = some m → [r0, r1][n]? = some r → RmsOk p r m) ⟨[], rfl, rfl, by simp⟩ ?_ ?_
    · rintro i x G2 H2 H2' acc K1 K0 hi s2 ⟨ms, ra, lm, hm⟩ ⟨rfl, ex⟩ k1 k0
      obtain ⟨d, hd, rd⟩ := rx.get ex
      have hr : ∃ r, [r0, r1][i]? = some r ∧ d = rowDT r ∧ RowOk p r := by
        match i, hd with
        | 0, hd => cases hd; exact ⟨r0, rfl, rfl, ok0⟩
        | 1, hd => cases hd; exact ⟨r1, rfl, rfl, ok1⟩
        | n + 2, hd => simp at hd
      obtain ⟨r, hri, rfl, okr⟩ := hr
      refine ⟨rfl, _, rfl, _, rfl, G2, p, r, qv, x, rfl, s2.gh, (rp.up S1.eg).up s2.eg, okp, rd.up s2.eg, okr, fun rms G3 H3 v3 okm s3 r3 => k1 _ _ _ s3 ⟨ms ++ [rms], ?_, by simp [lm], ?_⟩⟩
      · rw [List.map_append]
        exact (ra.up s3.eg).snoc r3
      · intro n m r' hn hr'
        by_cases h : n < ms.length
        · rw [List.getElem?_append_left h] at hn
          exact hm n m r' hn hr'
        · rw [List.getElem?_append_right (by omega)] at hn
          have : n - ms.length = 0 := by
            have := lt_of_some hn
            simp at this; omega
          rw [this] at hn
          cases hn
          have : n = i := by omega
          subst this
          rw [hri] at hr'
          cases hr'
          exact okm
    · rintro G2 H2 ys s2 hL gL _ ⟨ms, ra, lm, hm⟩
      have l2 : ms.length = 2 := by rw [lm, lx]; rfl
      match ms, l2 with
      | [m0, m1], _ =>
        obtain ⟨G3, S3, e3, g3, n3⟩ := s2.frzE nL ⟨hL, gL⟩
        have D2 := D1.go s2
        have nLg : g ≠ L := D1.ne' nL
        have D3 : Mi G3 H2 g _ := ⟨D2.h, by rw [n3 _ nLg]; exact D2.g⟩
        have S3' := S1.trans S3
        refine ⟨D3.h, [(.inr "plan", qv), (.inr "rows", .ref a), (.inr "rooms", .ref L)], rfl, (by simp), ?_⟩
        generalize e4 : upd H2 g _ = H4
        obtain ⟨S4, D4, _⟩ := S3'.mutE (.inr ng) D3 e4
        obtain ⟨G5, S5, e5, g5, _⟩ := S4.frzE ng D4
        have up : Ex G G5 := S5.eg
        exact k m0 m1 _ _ g ⟨okp, ok0, ok1, hm 0 m0 r0 rfl rfl, hm 1 m1 r1 rfl rfl⟩ S5 ⟨_, qv, .ref a, .ref L, g5, rfl, rfl, rfl, rp.up up, rv.up up, rep_lst (e5 _ _ g3) ((ra.up e3).up e5)⟩
end
end K4

set_option maxHeartbeats 400000
/-! A game drawn; the program's own. -/
namespace K4
open PySem L2
theorem kR5 : kR 5 = 15825 := by decide
theorem m_ok : nameOkB "m" = true := by decide +kernel
section
variable {P : Program} {w : World} {K : PySem.W.Frag} {mg : Str → Option Value} {base : Heap}
theorem ok_drawn {k : Nat} (T : Txt K mg) (c_law_plan : Cal P w K mg base k "_law_plan" P_law_plan spPlan) (c_law_word : Cal P w K mg base k "_law_word" P_law_word (spWord K)) (c_law_row : Cal P w K mg base k "_law_row" P_law_row (spRow 5)) (c_law_draw : Cal P w K mg base k "_law_draw" P_law_draw spDraw)
    (c_law_world : Cal P w K mg base k "_law_world" P_law_world spWorld) : Cal P w K mg base (k + 1) "_law_drawn" P_law_drawn spDrawn := by
  refine Cal.of T.fn_law_drawn sc_law_drawn (fun vs H Q E h => ?_) (fun f cdv A outer s H vs Q E hr h => ?_)
  · obtain ⟨_, _, _, _, rfl, _⟩ := h; rfl
  · obtain ⟨G, wa, sz, c, rfl, e, wo, hc, hsz, k⟩ := h
    refine ⟨_, (pss_cons (ps_set (i := 3) sc_law_drawn.nd rfl (Or.inl rfl) (pc c_law_plan (hr.mono (by first | decide | omega)) (pa_cons (pv 0) (pa_cons (pv 1) pa_nil))))
    (pss_cons (ps_set (i := 4) sc_law_drawn.nd rfl (Or.inl rfl) (pe_lst (pa_cons (pc c_law_word (hr.mono (by first | decide | omega)) (pa_cons (pv 0) (pa_cons (pe_lst pa_nil) pa_nil))) (pa_cons pe_str pa_nil))))
    (pss_cons (ps_set (i := 5) sc_law_drawn.nd rfl (Or.inl rfl) (pe_lst pa_nil))
    (pss_cons (ps_for PassesOwn.never rfl (k_list K (pv 2)) (pg_name (i := 6) sc_law_drawn.nd rfl (Or.inl rfl))
      (pss_one (ps_expr (k_bm K PySem.F.plainAttrs_list PySem.F.slot_list_append PySem.F.type_list_append mt_append (pv 5) (pa_cons (pc c_law_row (hr.mono (by first | decide | omega)) (pa_cons (pv 0) (pa_cons (pv 3) (pa_cons (pv 4) (pa_cons (pe_callB (call_max2 rfl) (by rfl) T.f_max (by decide +kernel) (pa_cons (pc c_law_draw (hr.mono (by first | decide | omega)) (pa_cons (pv 0) (pa_cons (pe_op op_add (pv 6) pe_int) pa_nil))) (pa_cons (pc c_law_draw (hr.mono (by first | decide | omega)) (pa_cons (pv 0) (pa_cons (pe_op op_add (pv 6) pe_int) pa_nil))) pa_nil))) pa_nil))))) pa_nil)))))
    (pss_one (ps_ret (pc c_law_world (hr.mono (by first | decide | omega)) (pa_cons (pv 3) (pa_cons (pv 5) pa_nil))))))))), ?_⟩
    refine seqSet ⟨_, rfl, _, rfl, G, wa, c, rfl, e, wo, by omega, fun p G1 H1 qv okp s1 w1 rp => ?_⟩
    refine seqSet ⟨_, rfl, zs, fun l2 n2 => ?_⟩
    generalize e2 : upd H1 l2 _ = H2
    obtain ⟨S2, s2, D2⟩ := s1.newME n2 e2
    have w2 := w1.go s2
    refine ⟨G1, wa, l2, c + 300, [], rfl, S2.gh, w2, by omega, D2.h, w1.ne n2, by decide, fun z G3 H3 nz _ s3 w3 => ?_⟩
    have S3 := S2.trans s3
    refine ⟨zs, fun lm nm => ?_⟩
    generalize e4 : upd H3 lm _ = H4
    obtain ⟨G4, S4, s4, g4⟩ := S3.newDE nm e4
    have w4 := w3.go s4
    refine seqSet ⟨zs, fun ro nr => ?_⟩
    generalize e5 : upd H4 ro _ = H5
    obtain ⟨S5, s5, R5⟩ := S4.newME nr e5
    have w5 := w4.go s5
    have nrw := w4.ne nr
    have nrH : H ro = none := S4.dm _ nr
    have g4' : G4 lm = some (.lst ([z, "m"].map V.str)) := g4
    have src : Src G4 p [z, "m"] qv (.ref lm) := ⟨rp.up (s3.eg.trans s4.eg), rep_lst g4' (RepL.of_strs [z, "m"]), okp, by simp, by simp, fun m hm => by
      rcases List.mem_cons.mp hm with rfl | hm
      · exact nz
      · rw [List.mem_singleton.mp hm]; exact nameOk_of m_ok⟩
    refine ⟨_, rfl, sz, rfl, ⟨_, sqL (S5.eg _ _ hsz) S5.gh⟩, ?_⟩
    refine for_list (xs := [V.int 5, V.int 5]) (fun i σ H6 => ∃ (G6 : Hp) (rs : List Row) (ys : List V), Step (Wa wa) G H G6 H6 ∧ Ex G4 G6 ∧ WO G6 H6 wa (c + 320 + i * 15827) ∧ Mi G6 H6 ro (.lst ys) ∧ RepL G6 (rs.map rowDT) ys ∧ rs.length = i ∧ (∀ r ∈ rs, rowSize r ≤ 5 ∧ ∀ t ∈ rowFlat r, StmOk p t) ∧
        ∃ y, σ = [some (.ref wa), some (.int 2), some (.ref sz), some qv, some (.ref lm), some (.ref ro), y])
      ⟨G4, [], [], S5, Ex.rfl' _, w5, R5, rfl, rfl, by simp, _, rfl⟩ (fun i σ H6 _ ⟨G6, _, _, S6, _⟩ => sqL (S6.eg _ _ hsz) S6.gh) ?_ ?_
    · rintro i x σ H6 ex ⟨G6, rs, ys, S6, e46, w6, R6, ry, lrs, okrs, y, rfl⟩
      have hi := lt_of_some ex
      have hi2 : i < 2 := hi
      have hx : x = .int 5 := (by have := mem_of ex; simpa using this)
      subst hx
      have ly := ry.len
      rw [List.length_map] at ly
      refine ⟨_, rfl, .inl ⟨rfl, _, .of R6.h⟩, _, rfl, _, rfl, _, rfl, _, rfl, _, rfl, _, _, rfl, rfl, G6, wa, c + 320 + i * 15827, 6, rfl, S6.gh, w6, by omega, by decide, by decide, fun d1 H7 h1 s7 w7 => ?_⟩
      refine ⟨_, rfl, _, rfl, _, _, rfl, rfl, G6, wa, c + 320 + i * 15827 + 1, 6, rfl, s7.gh, w7, by omega, by decide, by decide, fun d2 H8 h2 s8 w8 => ?_⟩
      have S8 := (S6.trans s7).trans s8
      have R8 := (R6.go s7 nrw).go s8 nrw
      have km : kR (max d1 d2) ≤ 15825 := Nat.le_trans (kR_mono _ (by omega) 5 (by omega) (by omega)) (Nat.le_of_eq kR5)
      refine ⟨_, _, rfl, G6, wa, c + 320 + i * 15827 + 1 + 1, max d1 d2, p, [z, "m"], qv, .ref lm, ?_, S8.gh, w8, by omega, src.up e46, by omega, by omega, fun r G9 H9 v9 zr okr s9 w9 r9 => ?_⟩
      · have : (if (d2 : Int) > (d1 : Int) then (d2 : Int) else (d1 : Int)) = ((max d1 d2 : Nat) : Int) := by
          split <;> omega
        rw [this]; rfl
      have S9 := S8.trans s9
      have R9 := R8.go s9 nrw
      refine ⟨ro, _, _, rfl, rfl, R9.h, zl' (by omega), ?_⟩
      generalize e10 : upd H9 ro _ = H10
      obtain ⟨S10, R10, n10⟩ := S9.mutE (.inr nrH) R9 e10
      refine ⟨G9, rs ++ [r], ys ++ [v9], S10, e46.trans s9.eg, ?_, R10, ?_, by simp [lrs], ?_, _, rfl⟩
      · obtain ⟨a, b, nn, M, q⟩ := w9.ex
        exact (WO.mk ⟨a, b, nn, ⟨(n10 wa nrw.symm).trans M.h, M.g⟩, q⟩ : WO G9 H10 wa _).up (by omega)
      · rw [List.map_append]
        exact (ry.up s9.eg).snoc r9
      · intro r' hr'
        rcases List.mem_append.mp hr' with h | h
        · exact okrs r' h
        · rw [List.mem_singleton.mp h]; exact ⟨by omega, okr⟩
    · rintro σ H6 ⟨G6, rs, ys, S6, e46, w6, R6, ry, lrs, okrs, y, rfl⟩
      have l2 : rs.length = 2 := lrs
      match rs, l2 with
      | [r0, r1], _ =>
        obtain ⟨G7, S7, e67, g7, n7⟩ := S6.frzE nrH R6
        have w7 : WO G7 H6 wa (c + 320 + 2 * 15827) := by
          obtain ⟨a, b, nn, M, q⟩ := w6.ex
          exact ⟨a, b, nn, ⟨M.h, by rw [n7 _ nrw.symm]; exact M.g⟩, q⟩
        have o0 := okrs r0 (by simp)
        have o1 := okrs r1 (by simp)
        have dl0 := rowDeep_le r0
        have dl1 := rowDeep_le r1
        refine ⟨_, rfl, _, rfl, G7, p, r0, r1, qv, .ref ro, rfl, S7.gh, src.pr.up (e46.trans e67), okp, rep_lst g7 (ry.up e67), ⟨o0.2, by omega, by omega⟩, ⟨o1.2, by omega, by omega⟩, fun m0 m1 G8 H8 g ok s8 wo8 => ?_⟩
        exact k p r0 r1 m0 m1 _ _ g ok (S7.trans s8) ((w7.go s8).up (by omega)) wo8
theorem ok_own {k : Nat} (T : Txt K mg) (c_Board : CalC P w K mg base k (cA K "Board") P_Board_init [] (spBoardInit K)) (c_law_made : Cal P w K mg base (k + 1) "_law_made" P_law_made (spMade K 6)) (c_Game : CalC P w K mg base k (cA K "Game") P_Game_init [] (spGameInit K)) :
    Cal P w K mg base (k + 2) "_law_own" P_law_own (spOwn K) := by
  refine Cal.of T.fn_law_own sc_law_own (fun vs H Q E h => ?_) (fun f cdv A outer s H vs Q E hr h => ?_)
  · obtain ⟨_, _, _, _, _, _, _, rfl, _⟩ := h; rfl
  · obtain ⟨G, g, p, r0, r1, m0, m1, rfl, e, wo, ok, k⟩ := h
    obtain ⟨kvs, qv, rv, mv, g0, v1, v2, v3, rp, rr, rm⟩ := wo.ex
    obtain ⟨pa, xs, rfl, gp, rx⟩ := rp.lst
    obtain ⟨ra, ys, rfl, gr, ry⟩ := rr.lst
    obtain ⟨y0, y1, rfl, ry0, ry1⟩ := ry.l2
    have lx := rx.len
    rw [List.length_map] at lx
    have phi := ok.pl.hi
    have d0 := ok.w0.deep
    have d1 := ok.w1.deep
    refine ⟨_, (pss_cons (ps_set (i := 1) sc_law_own.nd rfl (Or.inl rfl) (pcc c_Board (hr.mono (by first | decide | omega)) T.g_Board .nil (pa_cons (pe_lc (own := [("_law_cell", 2), ("_law_values", 3)]) (by rfl) sc_law_own.nd (k_list K (pe_dget (hu_of hr) (pv 0) pe_str (fun _ _ => rfl))) (blkOk_by (own := [("_law_cell", 2), ("_law_values", 3)]) (N := N_law_own) (by kernel_rfl)) (fun _ _ _ _ _ => (k_gtup K (n := 2) rfl (pgs_cons (pg_name (i := 2) sc_law_own.nd rfl (Or.inl rfl)) (pgs_cons (pg_name (i := 3) sc_law_own.nd rfl (Or.inl rfl)) pgs_nil)))) (fun _ _ _ _ _ => pts_nil) (fun _ _ _ _ _ => (pe_tup (pa_cons (pv 2) (pa_cons (pe_callTy (k_listOf K) (by rfl) T.f_list (by decide +kernel) (pa_cons (pv 3) pa_nil)) pa_nil))))) pa_nil)))
    (pss_one (ps_ret (pcc c_Game (hr.mono (by first | decide | omega)) T.g_Game .nil (pa_cons (pv 1) (pa_cons (pc c_law_made (hr.mono (by first | decide | omega)) (pa_cons (pe_ix (k_ixL K) (pe_dget (hu_of hr) (pv 0) pe_str (fun _ _ => rfl)) pe_int (fun _ _ => rfl)) pa_nil)) (pa_cons (pc c_law_made (hr.mono (by first | decide | omega)) (pa_cons (pe_ix (k_ixL K) (pe_dget (hu_of hr) (pv 0) pe_str (fun _ _ => rfl)) pe_int (fun _ _ => rfl)) pa_nil)) pa_nil))))))), ?_⟩
    refine seqSet ⟨_, rfl, g, _, rfl, v1 ▸ DGet.k (k := .inr "plan") (e _ _ g0), pa, rfl, ⟨_, sqL gp e⟩, fun L nL => ?_⟩
    refine lcD p (fun c => some (cellD c)) (walkL lx.symm) (by omega) e nL (fun H2 e2 => sqL gp (e.trans e2)) ?_ ?_
    · rintro i c x G2 H2 H2' K1 K0 hc s2 ⟨rfl, ex⟩ k1 k0
      obtain ⟨c', hc', rc⟩ := rx.map ex
      rw [hc] at hc'; cases hc'
      obtain ⟨b, l, rfl, gb, gl⟩ := rep_cell (rc.up s2.eg)
      refine g2 (sqT gb s2.gh) ⟨rfl, _, rfl, _, rfl, l, _, rfl, .inl (sqL gl s2.gh), fun l3 n3 => ?_⟩
      generalize e3 : upd H2' l3 _ = H3
      obtain ⟨G3, S3, s3, g3⟩ := (Step.refl (W := NoW) s2.gh).newDE n3 e3
      refine ⟨zs, fun t4 n4 => ?_⟩
      generalize e4 : upd H3 t4 _ = H4
      obtain ⟨G4, S4, s4, g4⟩ := S3.newDE n4 e4
      exact k1 _ _ _ _ rfl S4 (rep_tup g4 ⟨_, _, rfl, rfl, _, _, rfl, ⟨l3, _, rfl, s4.eg _ _ g3, RepL.of_strs _⟩, rfl⟩)
    · rintro G2 H2 zs2 s2 hL gL rz
      rw [filterMap_some] at rz
      obtain ⟨G3, S3, e3, g3, _⟩ := s2.frzE nL ⟨hL, gL⟩
      refine fun x dx nx nd ne => ?_
      generalize e4 : upd (upd H2 dx _) x _ = H4
      obtain ⟨s4, A4⟩ := madeE S3.gh nx nd ne e4
      refine ⟨G3, x, dx, L, p, zs2, rfl, s4.gh, A4.h, A4.g, g3, rz.up e3, ok.pl, fun G5 H5 np rp' rows s5 A5 f5 gr5 ro5 => ⟨rfl, ?_⟩⟩
      obtain ⟨G6, s6, e6, g6⟩ := initE s4 nx s5 A5
      have bd : BdO K G6 x p := ⟨dx, np, rp', rows, g6, f5.up e6, e6 _ _ gr5, fun c hc => by obtain ⟨tp, q1, q2⟩ := ro5 c hc; exact ⟨tp, q1, e6 _ _ q2⟩⟩
      have S6 := S3.trans s6
      refine ⟨_, rfl, _, rfl, g, _, rfl, v2 ▸ DGet.k (k := .inr "rows") (S6.gh _ _ (S6.eg _ _ g0)), ra, _, 0, _, rfl, rfl, sqL (S6.eg _ _ gr) S6.gh, at_nat (i := 0) rfl, G6, p, r0, y0, rfl, S6.gh, ry0.up S6.eg, ok.pl, ok.w0.ok, by omega, d0, ok.w0.size, fun G7 H7 x7 s7 o7 => ?_⟩
      have S7 := S6.trans s7
      refine ⟨_, rfl, g, _, rfl, v2 ▸ DGet.k (k := .inr "rows") (S7.gh _ _ (S7.eg _ _ g0)), ra, _, 1, _, rfl, rfl, sqL (S7.eg _ _ gr) S7.gh, at_nat (i := 1) rfl, G7, p, r1, y1, rfl, S7.gh, ry1.up S7.eg, ok.pl, ok.w1.ok, by omega, d1, ok.w1.size, fun G8 H8 x8 s8 o8 => ?_⟩
      have S8 := S7.trans s8
      refine fun y dy ny ndy ney => ?_
      generalize e9 : upd (upd H8 dy _) y _ = H9
      obtain ⟨s9, A9⟩ := madeE S8.gh ny ndy ney e9
      refine ⟨G8, y, dy, x, p, r0, r1, x7, x8, rfl, s9.gh, A9, bd.up (s7.eg.trans s8.eg), ok.pl, o7.up s8.eg, o8, ok.w0, ok.w1, fun G10 H10 hp t ma mb s10 A10 g10 ma0 mb0 => ⟨rfl, ?_⟩⟩
      obtain ⟨G11, s11, e11, g11⟩ := initE s9 ny s10 A10
      exact k G11 H10 y (S8.trans s11) ⟨dy, x, hp, ma, mb, t, g11, bd.up ((s7.eg.trans s8.eg).trans s11.eg), e11 _ _ g10, ma0.up e11, mb0.up e11⟩
end
end K4

set_option maxHeartbeats 400000
/-! What lies behind an act. -/
namespace K4
open PySem PySem.Spec PyProof.Rows L2
/-- t + u: the tuple p and the heap behind -/
def CatRes (H : Hp) (a b : Addr) (xs ys : List V) (p : Addr) (H1 : Hp) : Prop := (xs = [] ∧ p = b ∧ H1 = H) ∨ (ys = [] ∧ p = a ∧ H1 = H) ∨ (H p = none ∧ H1 = upd H p (.tup (xs ++ ys)))
def rCatJ (K : PySem.W.Frag) : R2 := fun x y H Q => ∃ a b xs ys, x = .ref a ∧ y = .ref b ∧ SqT K H a xs ∧ SqT K H b ys ∧ xs.length + ys.length ≤ sizeLine ∧ ∀ p H1, CatRes H a b xs ys p H1 → Q (.ref p) H1
def SlRes (H : Hp) (a : Addr) (xs : List V) (lo hi : Option Int) (p : Addr) (H1 : Hp) : Prop := (cutV xs lo hi = xs ∧ p = a ∧ H1 = H) ∨ (H p = none ∧ H1 = upd H p (.tup (cutV xs lo hi)))
def rSlJ (K : PySem.W.Frag) : V → Option Int → Option Int → Hp → VK → Prop := fun x lo hi H Q => ∃ a xs, x = .ref a ∧ SqT K H a xs ∧ ∀ p H1, SlRes H a xs lo hi p H1 → Q (.ref p) H1
section
variable {X : Cx} (K : PySem.W.Frag)
theorem k_catJ (h : X.K = K := by rfl) : OpR X (binaryOp .Add) (rCatJ K) := by
  subst h
  intro pn s σ H x y v u Q J rx ry h
  obtain ⟨a, b, xs, ys, h1, h2, h3, h4, h5, q⟩ := h
  exact op_catA pn s σ H x y v u Q J rx ry ⟨a, b, xs, ys, h1, h2, h3, h4, h5, fun z => q _ _ (.inl ⟨z, rfl, rfl⟩), fun _ z => q _ _ (.inr (.inl ⟨z, rfl, rfl⟩)), fun _ _ p np => q _ _ (.inr (.inr ⟨np, rfl⟩))⟩
theorem k_slJ (h : X.K = K := by rfl) : SlR X (rSlJ K) := by
  subst h
  intro pn s σ H x v vl vu lo hi sl Q J rx hs pl pu h
  obtain ⟨a, xs, h1, h2, q⟩ := h
  refine sl_tupA pn s σ H x v vl vu lo hi sl Q J rx hs pl pu ⟨a, xs, h1, h2, fun z => q _ _ (.inl ⟨?_, rfl, rfl⟩), fun _ p np => q _ _ (.inr ⟨np, rfl⟩)⟩
  unfold cutV
  rw [z.1, z.2]
  simp
end
theorem CatRes.step {G H : Hp} {a b : Addr} {xs ys : List V} {p : Addr} {H1 : Hp} (h : CatRes H a b xs ys p H1) (e : Ex G H) (ga : G a = some (.tup xs)) (gb : G b = some (.tup ys)) : ∃ G1, Step NoW G H G1 H1 ∧ G1 p = some (.tup (xs ++ ys)) := by
  rcases h with ⟨rfl, rfl, rfl⟩ | ⟨rfl, rfl, rfl⟩ | ⟨np, h⟩
  · exact ⟨G, Step.refl e, gb⟩
  · exact ⟨G, Step.refl e, by rw [List.append_nil]; exact ga⟩
  · obtain ⟨G1, S1, _, g1⟩ := (Step.refl (W := NoW) e).newDE np h.symm
    exact ⟨G1, S1, g1⟩
theorem SlRes.step {G H : Hp} {a : Addr} {xs zs : List V} {lo hi : Option Int} {p : Addr} {H1 : Hp} (h : SlRes H a xs lo hi p H1) (e : Ex G H) (ga : G a = some (.tup xs)) (hz : cutV xs lo hi = zs) : ∃ G1, Step NoW G H G1 H1 ∧ G1 p = some (.tup zs) := by
  subst hz
  rcases h with ⟨h, rfl, rfl⟩ | ⟨np, h⟩
  · exact ⟨G, Step.refl e, by rw [h]; exact ga⟩
  · obtain ⟨G1, S1, _, g1⟩ := (Step.refl (W := NoW) e).newDE np h.symm
    exact ⟨G1, S1, g1⟩
theorem cut_take {xs : List V} {k : Nat} : cutV xs none (some (k : Int)) = xs.take k := by
  unfold cutV
  rw [HT.sIx_nat, HT.sIx_none]
  by_cases hl : k ≤ xs.length
  · rw [Nat.min_eq_left hl]; simp
  · rw [Nat.min_eq_right (by omega), List.drop_zero, List.take_of_length_le (by omega), List.take_of_length_le (by omega)]
structure StOk (p : Plan) (st : List Str) : Prop where
  len : st.length = p.length
  vals : ∀ (j : Nat) c v, p[j]? = some c → st[j]? = some v → v ∈ c.2
def stD (st : List Str) : D := .tup (st.map D.str)
def optSt : Option (List Str) → D
  | none => .non
  | some st => stD st
def spBehind : Sp := fun vs H Q _ => ∃ (G : Hp) (g t : Addr) (p : Plan) (r0 r1 : Row) (m0 m1 : List Rm) (st : List Str) (a : Act) (av : V), vs = [.ref g, .ref t, av] ∧ Ex G H ∧ WoO G g p r0 r1 m0 m1 ∧ PlanOk p ∧ G t = some (.tup (st.map V.str)) ∧ StOk p st ∧ Rep G (actD a) av ∧ ActOk p a ∧
  ∀ (o : Option (List Str)) G' H' v', (∀ st', o = some st' → StOk p st') → Step NoW G H G' H' → Rep G' (optSt o) v' → Q v' H'
theorem eqV_strs {l : List Str} {j : Nat} {z : Str} (nd : l.Nodup) (hz : l[j]? = some z) : ∀ m, m < j → ∀ y, (l.map V.str)[m]? = some y → eqV y (.str z) = false := by
  intro m hm y hy
  obtain ⟨u, hu, rfl⟩ := map_some hy
  show (u == z) = false
  refine beq_eq_false_iff_ne.mpr fun e => ?_
  subst e
  have := (List.getElem?_inj (lt_of_some hu) nd).mp (hu.trans hz.symm)
  omega
theorem st_set {p : Plan} {st : List Str} (h : StOk p st) {j : Nat} {c : Str × List Str} {v : Str} (hj : p[j]? = some c) (hv : v ∈ c.2) : StOk p (st.set j v) := by
  refine ⟨by rw [List.length_set]; exact h.len, fun i d u hi hu => ?_⟩
  by_cases e : j = i
  · subst e
    rw [hj] at hi; cases hi
    rw [List.getElem?_set_self (by rw [h.len]; exact lt_of_some hj)] at hu
    cases hu; exact hv
  · rw [List.getElem?_set_ne e] at hu
    exact h.vals i d u hi hu
section
variable {P : Program} {w : World} {K : PySem.W.Frag} {mg : Str → Option Value} {base : Heap}
theorem ok_behind (T : Txt K mg) : Cal P w K mg base 1 "_law_behind" P_law_behind spBehind := by
  refine Cal.of T.fn_law_behind sc_law_behind (fun vs H Q E h => ?_) (fun f cdv A outer s H vs Q E hr h => ?_)
  · obtain ⟨_, _, _, _, _, _, _, _, _, _, _, rfl, _⟩ := h; rfl
  · obtain ⟨G, g, t, p, r0, r1, m0, m1, st, a, av, rfl, e, wo, okp, ht, okst, ra, oka, k⟩ := h
    obtain ⟨kvs, qv, rv, mv, g0, v1, v2, v3, rp, rr, rm⟩ := wo.ex
    obtain ⟨pa, xs, rfl, gp, rx⟩ := rp.lst
    have lx := rx.len
    rw [List.length_map] at lx
    have phi := okp.hi
    have lst := okst.len
    refine ⟨_, (pss_cons (ps_if (pt_cmpR op_eq (pe_ix (k_ixT K) (pv 2) pe_int (fun _ _ => rfl)) pe_str (by first | exact nomark _ | rfl))
      (pss_one (ps_ret (pv 1)))
      pss_nil)
    (pss_cons (ps_set (i := 3) sc_law_behind.nd rfl (Or.inl rfl) (k_bm K PySem.F.plainAttrs_list PySem.F.slot_list_index PySem.F.type_list_index (k_index K) (pe_lc (own := [("_law_cell", 4), ("_law_values", 5)]) (by rfl) sc_law_behind.nd (k_list K (pe_dget (hu_of hr) (pv 0) pe_str (fun _ _ => rfl))) (blkOk_by (own := [("_law_cell", 4), ("_law_values", 5)]) (N := N_law_behind) (by kernel_rfl)) (fun _ _ _ _ _ => (k_gtup K (n := 2) rfl (pgs_cons (pg_name (i := 4) sc_law_behind.nd rfl (Or.inl rfl)) (pgs_cons (pg_name (i := 5) sc_law_behind.nd rfl (Or.inl rfl)) pgs_nil)))) (fun _ _ _ _ _ => pts_nil) (fun _ _ _ _ _ => (pv 4))) (pa_cons (pe_ix (k_ixT K) (pv 2) pe_int (fun _ _ => rfl)) pa_nil)))
    (pss_cons (ps_if (pt_cmpR op_eq (pe_ix (k_ixT K) (pv 2) pe_int (fun _ _ => rfl)) pe_str (by first | exact nomark _ | rfl))
      (pss_one (ps_ret (pe_op (k_catJ K) (pe_op (k_catJ K) (pe_slice (k_slJ K) (pv 1) po_none (po_some (pv 3))) (pe_tup (pa_cons (pe_ix (k_ixT K) (pv 2) pe_int (fun _ _ => rfl)) pa_nil))) (pe_slice (k_slJ K) (pv 1) (po_some (pe_op op_add (pv 3) pe_int)) po_none))))
      pss_nil)
    (pss_one (ps_ret (pe_ix (k_ixL K) (pe_lst (pa_cons pe_non (pa_cons (pv 1) pa_nil))) (pe_callTy call_int1 (by rfl) T.f_int (by decide +kernel) (pa_cons (pe_cmpR op_eq (pe_ix (k_ixT K) (pv 1) (pv 3) (fun _ _ => rfl)) (pe_ix (k_ixT K) (pv 2) pe_int (fun _ _ => rfl)) (by first | exact nomark _ | rfl)) pa_nil)) (fun _ _ => rfl))))))), ?_⟩
    cases a with
    | go =>
      obtain ⟨ta, ys, rfl, ga, ry⟩ := ra
      obtain ⟨y0, rfl, h0⟩ := ry.l1
      cases h0
      refine ⟨_, rfl, ta, _, 0, _, rfl, rfl, sqT ga e, at_nat (i := 0) rfl, rfl, _, rfl, ifT (by decide) ⟨_, rfl, ?_⟩⟩
      exact k (some st) _ _ _ (fun st' h => by cases h; exact okst) (Step.refl e) (rep_tup ht (RepL.of_strs st))
    | put c v =>
      obtain ⟨ta, ys, rfl, ga, ry⟩ := ra
      obtain ⟨y0, y1, y2, rfl, h0, h1, h2⟩ := ry.l3
      cases h0; cases h1; cases h2
      obtain ⟨vl, hvl, hv⟩ := oka
      obtain ⟨j, hj⟩ := List.getElem?_of_mem hvl
      have ej : (p.map Prod.fst)[j]? = some c := by rw [List.getElem?_map, hj]; rfl
      have hjl := lt_of_some hj
      refine ⟨_, rfl, ta, _, 0, _, rfl, rfl, sqT ga e, at_nat (i := 0) rfl, rfl, _, rfl, ifF (by decide) ?_⟩
      refine ⟨_, rfl, g, _, rfl, v1 ▸ DGet.k (k := .inr "plan") (e _ _ g0), pa, rfl, ⟨_, sqL gp e⟩, fun L nL => ?_⟩
      refine lcD p (fun c => some (.str c.1)) (walkL lx.symm) (by omega) e nL (fun H2 e2 => sqL gp (e.trans e2)) ?_ ?_
      · rintro i c2 x G2 H2 H2' K1 K0 hc s2 ⟨rfl, ex⟩ k1 k0
        obtain ⟨c', hc', rc⟩ := rx.map ex
        rw [hc] at hc'; cases hc'
        obtain ⟨b, l, rfl, gb, gl⟩ := rep_cell (rc.up s2.eg)
        exact g2 (sqT gb s2.gh) ⟨rfl, _, rfl, k1 _ _ _ _ rfl (Step.refl s2.gh) rfl⟩
      rintro G2 H2 zz S2 hL gL rz
      cases rz.strs'
      refine ⟨.inl ⟨rfl, _, .of hL⟩, _, rfl, ta, _, 1, _, rfl, rfl, sqT (S2.eg _ _ ga) S2.gh, at_nat (i := 1) rfl, L, _, .str c, j, .str c, rfl, rfl, .of hL, rfl, flat_str _, by rw [List.getElem?_map, ej]; rfl, by show (c == c) = true; simp, fun m y hm hy => eqV_strs okp.nd ej m hm y hy, ?_⟩
      refine ⟨_, rfl, ta, _, 0, _, rfl, rfl, sqT (S2.eg _ _ ga) S2.gh, at_nat (i := 0) rfl, rfl, _, rfl, ifT (by decide) ?_⟩
      refine ⟨_, rfl, _, rfl, _, rfl, t, _, rfl, sqT (S2.eg _ _ ht) S2.gh, fun p1 H3 h3 => ?_⟩
      obtain ⟨G3, s3, g3⟩ := h3.step S2.gh (S2.eg _ _ ht) (cut_take (k := j))
      refine ⟨_, rfl, ta, _, 2, _, rfl, rfl, sqT ((S2.eg.trans s3.eg) _ _ ga) s3.gh, at_nat (i := 2) rfl, zs, fun t4 n4 => ?_⟩
      generalize e4 : upd H3 t4 _ = H4
      obtain ⟨G4, S4, s4, g4⟩ := s3.newDE n4 e4
      refine ⟨p1, t4, _, _, rfl, rfl, sqT (s4.eg _ _ g3) S4.gh, sqT g4 S4.gh, zl (by simp; omega), fun p5 H5 h5 => ?_⟩
      obtain ⟨G5, s5, g5⟩ := h5.step S4.gh (s4.eg _ _ g3) g4
      have up25 := s3.eg.trans (s4.eg.trans s5.eg)
      refine ⟨_, rfl, _, rfl, _, _, rfl, rfl, _, rfl, t, _, rfl, sqT (up25 _ _ (S2.eg _ _ ht)) s5.gh, fun p6 H6 h6 => ?_⟩
      obtain ⟨G6, s6, g6⟩ := h6.step s5.gh (up25 _ _ (S2.eg _ _ ht)) (slCut (k := j + 1))
      refine ⟨p5, p6, _, _, rfl, rfl, sqT (s6.eg _ _ g5) s6.gh, sqT g6 s6.gh, zl (by simp; omega), fun p7 H7 h7 => ?_⟩
      obtain ⟨G7, s7, g7⟩ := h7.step s6.gh (s6.eg _ _ g5) g6
      have es : ((st.map V.str).take j ++ [V.str v]) ++ (st.map V.str).drop (j + 1) = (st.set j v).map V.str := by
        rw [List.set_eq_take_append_cons_drop, if_pos (by omega), List.map_append, List.map_cons, List.map_take, List.map_drop, List.append_assoc]
        rfl
      rw [es] at g7
      exact k (some (st.set j v)) _ _ _ (fun st' h => by cases h; exact st_set okst hj hv) (S2.trans (((S4.trans s5).trans s6).trans s7)) (rep_tup g7 (RepL.of_strs _))
    | look c v =>
      obtain ⟨ta, ys, rfl, ga, ry⟩ := ra
      obtain ⟨y0, y1, y2, rfl, h0, h1, h2⟩ := ry.l3
      cases h0; cases h1; cases h2
      obtain ⟨vl, hvl, hv⟩ := oka
      obtain ⟨j, hj⟩ := List.getElem?_of_mem hvl
      have ej : (p.map Prod.fst)[j]? = some c := by rw [List.getElem?_map, hj]; rfl
      have hjl := lt_of_some hj
      refine ⟨_, rfl, ta, _, 0, _, rfl, rfl, sqT ga e, at_nat (i := 0) rfl, rfl, _, rfl, ifF (by decide) ?_⟩
      refine ⟨_, rfl, g, _, rfl, v1 ▸ DGet.k (k := .inr "plan") (e _ _ g0), pa, rfl, ⟨_, sqL gp e⟩, fun L nL => ?_⟩
      refine lcD p (fun c => some (.str c.1)) (walkL lx.symm) (by omega) e nL (fun H2 e2 => sqL gp (e.trans e2)) ?_ ?_
      · rintro i c2 x G2 H2 H2' K1 K0 hc s2 ⟨rfl, ex⟩ k1 k0
        obtain ⟨c', hc', rc⟩ := rx.map ex
        rw [hc] at hc'; cases hc'
        obtain ⟨b, l, rfl, gb, gl⟩ := rep_cell (rc.up s2.eg)
        exact g2 (sqT gb s2.gh) ⟨rfl, _, rfl, k1 _ _ _ _ rfl (Step.refl s2.gh) rfl⟩
      rintro G2 H2 zz S2 hL gL rz
      cases rz.strs'
      refine ⟨.inl ⟨rfl, _, .of hL⟩, _, rfl, ta, _, 1, _, rfl, rfl, sqT (S2.eg _ _ ga) S2.gh, at_nat (i := 1) rfl, L, _, .str c, j, .str c, rfl, rfl, .of hL, rfl, flat_str _, by rw [List.getElem?_map, ej]; rfl, by show (c == c) = true; simp, fun m y hm hy => eqV_strs okp.nd ej m hm y hy, ?_⟩
      refine ⟨_, rfl, ta, _, 0, _, rfl, rfl, sqT (S2.eg _ _ ga) S2.gh, at_nat (i := 0) rfl, rfl, _, rfl, ifF (by decide) ?_⟩
      obtain ⟨sv, hsv⟩ := some_of (show j < st.length by omega)
      refine ⟨_, rfl, zs, fun l3 n3 => ?_⟩
      generalize e3 : upd H2 l3 _ = H3
      obtain ⟨G3, S3, s3, g3⟩ := S2.newDE n3 e3
      refine ⟨_, rfl, _, rfl, t, _, j, .str sv, rfl, rfl, sqT (S3.eg _ _ ht) S3.gh, at_nat (by rw [List.getElem?_map, hsv]; rfl), _, rfl, ta, _, 2, _, rfl, rfl, sqT (S3.eg _ _ ga) S3.gh, at_nat (i := 2) rfl, rfl, .inr ⟨_, rfl, l3, _, _, _, rfl, rfl, sqL g3 S3.gh, pickI _ _ _, ?_⟩⟩
      by_cases hq : decide (V.str sv = V.str v) = true
      · rw [if_pos hq]
        exact k (some st) _ _ _ (fun st' h => by cases h; exact okst) S3 (rep_tup (S3.eg _ _ ht) (RepL.of_strs st))
      · rw [if_neg hq]
        exact k none _ _ _ (fun st' h => by cases h) S3 rfl
end
end K4

set_option maxHeartbeats 400000
/-! The steps that can be done; the moves. -/
namespace K4
open PySem L2
structure Opn where
  num : Nat
  goal : Nat
  st : List Str
def openD (o : Opn) : D := .tup [.int o.num, .int o.goal, stD o.st]
structure OpnOk (p : Plan) (N : Nat) (o : Opn) : Prop where
  goal : o.goal ≤ N
  st : StOk p o.st
structure Nxt where
  hand : Nat
  num : Nat
  spot : Spot
def nxtD (n : Nxt) : D := .tup [.tup [.int n.hand, .int n.num], n.spot.d]
/-- which side: its row and its rooms -/
def sel {α : Type} (i : Nat) (a b : α) : α := if i = 0 then a else b
def spOpen : Sp := fun vs H Q _ => ∃ (G : Hp) (g t : Addr) (p : Plan) (r0 r1 : Row) (m0 m1 : List Rm) (st : List Str) (i n : Nat), vs = [.ref g, .int i, .int n, .ref t] ∧ Ex G H ∧ WoO G g p r0 r1 m0 m1 ∧ WoOk p r0 r1 m0 m1 ∧ G t = some (.tup (st.map V.str)) ∧ StOk p st ∧ i < 2 ∧ n ≤ rowSize (sel i r0 r1) ∧
  ∀ (os : List Opn) G' H' v', (∀ o ∈ os, OpnOk p (rowSize (sel i r0 r1)) o) → os.length ≤ 5 → Step NoW G H G' H' → Rep G' (.lst (os.map openD)) v' → Q v' H'
def spNexts : Sp := fun vs H Q _ => ∃ (G : Hp) (g : Addr) (p : Plan) (r0 r1 : Row) (m0 m1 : List Rm) (s : Spot) (v : V), vs = [.ref g, v] ∧ Ex G H ∧ WoO G g p r0 r1 m0 m1 ∧ WoOk p r0 r1 m0 m1 ∧ SpotOk p r0 r1 s ∧ Rep G s.d v ∧
  ∀ (ns : List Nxt) G' H' v', (∀ n ∈ ns, SpotOk p r0 r1 n.spot ∧ n.spot.rooms.length = s.rooms.length) → ns.length ≤ 200 → Step NoW G H G' H' → Rep G' (.lst (ns.map nxtD)) v' → Q v' H'
/-- the room n of a side in the world -/
theorem room_at {G : Hp} {p : Plan} {r0 r1 : Row} {m0 m1 : List Rm} {mv : V} (rm : Rep G (.lst [rmsD m0, rmsD m1]) mv) (ok0 : RmsOk p r0 m0) (ok1 : RmsOk p r1 m1) {i n : Nat} (hi : i < 2) (hn : n ≤ rowSize (sel i r0 r1)) :
    ∃ (a : Addr) (xs : List V) (b : Addr) (ys : List V) (t l : Addr) (es : List (Act × Nat)) (zs : List V), mv = .ref a ∧ G a = some (.lst xs) ∧ xs[i]? = some (.ref b) ∧ G b = some (.lst ys) ∧ ys[n]? = some (.ref t) ∧ G t = some (.tup [optV (markAt (sel i r0 r1) n), .ref l]) ∧ G l = some (.lst zs) ∧ RepL G (es.map stepD) zs ∧ (∀ x ∈ es, StepOk p (rowSize (sel i r0 r1)) x) ∧ es.length ≤ 5 := by
  obtain ⟨a, xs, rfl, ga, rx⟩ := rm.lst
  have key : ∀ (r : Row) (m : List Rm), RmsOk p r m → [rmsD m0, rmsD m1][i]? = some (rmsD m) → n ≤ rowSize r → ∃ (b : Addr) (ys : List V) (t l : Addr) (es : List (Act × Nat)) (zs : List V), xs[i]? = some (.ref b) ∧ G b = some (.lst ys) ∧ ys[n]? = some (.ref t) ∧ G t = some (.tup [optV (markAt r n), .ref l]) ∧ G l = some (.lst zs) ∧ RepL G (es.map stepD) zs ∧ (∀ x ∈ es, StepOk p (rowSize r) x) ∧ es.length ≤ 5 := by
    intro r m ok hm hn
    obtain ⟨x, hx, rb⟩ := rx.at hm
    obtain ⟨b, ys, rfl, gb, ry⟩ := rb.lst
    obtain ⟨rm1, hr⟩ := some_of (show n < m.length by rw [ok.len]; omega)
    obtain ⟨y, hy, rt⟩ := ry.at (i := n) (d := rmD rm1) (by rw [List.getElem?_map, hr]; rfl)
    obtain ⟨t, us, rfl, gt, ru⟩ := rt.tup
    obtain ⟨u0, u1, rfl, h0, h1⟩ := ru.l2
    obtain ⟨l, zs, rfl, gl, rz⟩ := h1.lst
    have hmk := ok.mark n rm1 hr
    rw [rep_optD h0, hmk] at gt
    exact ⟨b, ys, t, l, rm1.2, zs, hx, gb, hy, gt, gl, rz, ok.step rm1 (mem_of hr), ok.few rm1 (mem_of hr)⟩
  match i, hi with
  | 0, _ =>
    obtain ⟨b, ys, t, l, es, zs, h⟩ := key r0 m0 ok0 rfl hn
    exact ⟨a, xs, b, ys, t, l, es, zs, rfl, ga, h⟩
  | 1, _ =>
    obtain ⟨b, ys, t, l, es, zs, h⟩ := key r1 m1 ok1 rfl hn
    exact ⟨a, xs, b, ys, t, l, es, zs, rfl, ga, h⟩
section
variable {P : Program} {w : World} {K : PySem.W.Frag} {mg : Str → Option Value} {base : Heap}
theorem g22 {a b : Addr} {x y z : V} {i j k : Nat} {σ : L2.St} {H : Hp} {Q : L2.St → Hp → Prop} (h : SqT K H a [x, .ref b]) (h2 : SqT K H b [y, z]) (q : Q (((σ.set i (some x)).set j (some y)).set k (some z)) H) :
    gTup K 2 (gCons (gName i) (gCons (gTup K 2 (gCons (gName j) (gCons (gName k) gNil))) gNil)) (.ref a) σ H Q := ⟨a, _, rfl, h, rfl, _, _, rfl, _, _, rfl, ⟨b, _, rfl, h2, rfl, _, _, rfl, _, _, rfl, rfl, rfl, q⟩⟩
theorem ok_open {k : Nat} (T : Txt K mg) (c_law_behind : Cal P w K mg base k "_law_behind" P_law_behind spBehind) : Cal P w K mg base (k + 1) "_law_open" P_law_open spOpen := by
  refine Cal.of T.fn_law_open sc_law_open (fun vs H Q E h => ?_) (fun f cdv A outer s H vs Q E hr h => ?_)
  · obtain ⟨_, _, _, _, _, _, _, _, _, _, _, rfl, _⟩ := h; rfl
  · obtain ⟨G, g, t, p, r0, r1, m0, m1, st, i, n, rfl, e, wo, wok, ht, okst, hi, hn, k⟩ := h
    obtain ⟨kvs, qv, rv, mv, g0, v1, v2, v3, rp, rr, rm⟩ := wo.ex
    obtain ⟨a, xs, b, ys, tt, l, es, zs', rfl, ga, hx, gb, hy, gt, gl, rz, okes, les⟩ := room_at rm wok.n0 wok.n1 hi hn
    have lz := rz.len
    rw [List.length_map] at lz
    refine ⟨_, (pss_cons (ps_set (i := 4) sc_law_open.nd rfl (Or.inl rfl) (pe_lst pa_nil))
    (pss_cons (ps_for PassesOwn.never rfl (k_enum K (by rfl) T.f_enumerate (pa_cons (pe_ix (k_ixT K) (pe_ix (k_ixL K) (pe_ix (k_ixL K) (pe_dget (hu_of hr) (pv 0) pe_str (fun _ _ => rfl)) (pv 1) (fun _ _ => rfl)) (pv 2) (fun _ _ => rfl)) pe_int (fun _ _ => rfl)) pa_nil)) (k_gtup K (n := 2) rfl (pgs_cons (pg_name (i := 5) sc_law_open.nd rfl (Or.inl rfl)) (pgs_cons (k_gtup K (n := 2) rfl (pgs_cons (pg_name (i := 6) sc_law_open.nd rfl (Or.inl rfl)) (pgs_cons (pg_name (i := 7) sc_law_open.nd rfl (Or.inl rfl)) pgs_nil))) pgs_nil)))
      (pss_cons (ps_set (i := 8) sc_law_open.nd rfl (Or.inl rfl) (pc c_law_behind (hr.mono (by first | decide | omega)) (pa_cons (pv 0) (pa_cons (pv 3) (pa_cons (pv 6) pa_nil)))))
      (pss_one (ps_if (pt_cmpR op_notN (pv 8) pe_non (by first | exact nomark _ | rfl))
        (pss_one (ps_expr (k_bm K PySem.F.plainAttrs_list PySem.F.slot_list_append PySem.F.type_list_append mt_append (pv 4) (pa_cons (pe_tup (pa_cons (pv 5) (pa_cons (pv 7) (pa_cons (pv 8) pa_nil)))) pa_nil))))
        pss_nil))))
    (pss_one (ps_ret (pv 4))))), ?_⟩
    refine seqSet ⟨zs, fun fo nf => ?_⟩
    generalize e1 : upd H fo _ = H1
    obtain ⟨S1, s1, F1⟩ := (Step.refl (W := NoW) e).newME nf e1
    refine ⟨_, rfl, g, _, rfl, v3 ▸ DGet.k (k := .inr "rooms") (S1.gh _ _ g0), _, rfl, a, xs, i, _, rfl, rfl, sqL ga S1.gh, at_nat hx, _, rfl, b, ys, n, _, rfl, rfl, sqL gb S1.gh, at_nat hy, tt, _, 1, _, rfl, rfl, sqT gt S1.gh, at_nat (i := 1) rfl, l, zs', rfl, sqL gl S1.gh, ?_⟩
    refine for_it (walk_enum (xs := zs')) (fun j σ H2 => ∃ (G2 : Hp) (os : List Opn) (us : List V), Step NoW G H G2 H2 ∧ Mi G2 H2 fo (.lst us) ∧ RepL G2 (os.map openD) us ∧ os.length ≤ j ∧ (∀ o ∈ os, OpnOk p (rowSize (sel i r0 r1)) o) ∧ ∃ y5 y6 y7 y8, σ = [some (.ref g), some (.int i), some (.int n), some (.ref t), some (.ref fo), y5, y6, y7, y8])
      ⟨G, [], [], S1, F1, rfl, Nat.le_refl _, by simp, _, _, _, _, rfl⟩ (fun j σ H2 _ ⟨G2, _, _, S2, _⟩ => sqL (S2.eg _ _ gl) S2.gh) ?_ ?_
    · rintro j x σ H2 H2' hj ⟨G2, os, us, S2, F2, ru, los, okos, y5, y6, y7, y8, rfl⟩ ⟨tp, x1, x2, rfl, ntp, rfl, hx1, hx2⟩
      cases hx1
      obtain ⟨sx, hsx, rsx⟩ := rz.map hx2
      have okx := okes sx (mem_of hsx)
      obtain ⟨tb, ws, rfl, gtb, rw'⟩ := (rsx.up S2.eg).tup
      obtain ⟨w0, w1, rfl, ra, hw1⟩ := rw'.l2
      cases hw1
      have lus := ru.len
      rw [List.length_map] at lus
      have nft : fo ≠ tp := F2.ne' ntp
      generalize e3 : upd H2 tp _ = H3
      obtain ⟨G3, S3, s3, g3⟩ := S2.newDE ntp e3
      have F3 := F2.go s3
      refine g22 (.of (S3.gh _ _ g3)) (sqT (s3.eg _ _ gtb) S3.gh) ?_
      refine seqSet ⟨_, rfl, _, rfl, _, rfl, G3, g, t, p, r0, r1, m0, m1, st, sx.1, w0, rfl, S3.gh, wo.up S3.eg, wok.pl, S3.eg _ _ ht, okst, ra.up s3.eg, okx.act, fun o G4 H4 v4 oko s4 r4 => ?_⟩
      have S4 := S3.trans s4
      have F4 := F3.go s4
      refine ⟨_, rfl, rfl, _, rfl, if2 (fun hv => ?_) (fun _ => ⟨G4, os, us, S4, F4, ru.up (s3.eg.trans s4.eg), by omega, okos, _, _, _, _, rfl⟩)⟩
      cases o with
      | none =>
        cases (show v4 = V.non from r4)
        simp at hv
      | some st4 =>
        refine ⟨_, rfl, .inl ⟨rfl, _, .of F4.h⟩, _, rfl, _, rfl, _, rfl, zs, fun t5 n5 => ?_⟩
        generalize e5 : upd H4 t5 _ = H5
        obtain ⟨G5, S5, s5, g5⟩ := S4.newDE n5 e5
        have F5 := F4.go s5
        refine ⟨fo, _, _, rfl, rfl, F5.h, zl' (by omega), ?_⟩
        generalize e6 : upd H5 fo _ = H6
        obtain ⟨S6, F6, _⟩ := S5.mutE (.inr nf) F5 e6
        refine ⟨G5, os ++ [⟨j, sx.2, st4⟩], _, S6, F6, ?_, by simp; omega, ?_, _, _, _, _, rfl⟩
        · rw [List.map_append]
          exact (ru.up (s3.eg.trans (s4.eg.trans s5.eg))).snoc (rep_tup g5 ⟨_, _, rfl, rfl, _, _, rfl, rfl, _, _, rfl, r4.up s5.eg, rfl⟩)
        · intro o ho
          rcases List.mem_append.mp ho with h | h
          · exact okos o h
          · rw [List.mem_singleton.mp h]; exact ⟨okx.goal, oko st4 rfl⟩
    · rintro σ H2 ⟨G2, os, us, S2, F2, ru, los, okos, y5, y6, y7, y8, rfl⟩
      obtain ⟨G3, S3, e3, g3, _⟩ := S2.frzE nf F2
      exact ⟨_, rfl, k os _ _ _ okos (by omega) S3 (rep_lst g3 (ru.up e3))⟩
end
end K4

set_option maxHeartbeats 400000
/-! The moves that can be done. -/
namespace K4
open PySem L2
theorem SpotOk.so {p : Plan} {r0 r1 : Row} {s : Spot} (h : SpotOk p r0 r1 s) : StOk p s.st := ⟨h.len, h.vals⟩
theorem set_cut (l : List Nat) {j : Nat} (h : j < l.length) (g : Nat) : (((l.map fun n : Nat => V.int n).take j ++ [V.int g]) ++ (l.map fun n : Nat => V.int n).drop (j + 1)) = (l.set j g).map fun n : Nat => V.int n := by
  rw [List.set_eq_take_append_cons_drop, if_pos h, List.map_append, List.map_cons, List.map_take, List.map_drop, List.append_assoc]
  rfl
theorem nxt_rep {G : Hp} {a b q : Addr} {x y : V} {hd nm : Nat} {s : Spot} (hq : G q = some (.tup [.ref a, .ref b])) (ha : G a = some (.tup [.int hd, .int nm])) (hb : G b = some (.tup [.int s.room, x, y])) (hx : Rep G (stD s.st) x) (hy : Rep G (.tup (natsD s.rooms)) y) : Rep G (nxtD ⟨hd, nm, s⟩) (.ref q) :=
  rep_tup hq ⟨_, _, rfl, rep_tup ha ⟨_, _, rfl, rfl, _, _, rfl, rfl, rfl⟩, _, _, rfl, rep_tup hb ⟨_, _, rfl, rfl, _, _, rfl, hx, _, _, rfl, hy, rfl⟩, rfl⟩
section
variable {P : Program} {w : World} {K : PySem.W.Frag} {mg : Str → Option Value} {base : Heap}
theorem ok_nexts {k : Nat} (T : Txt K mg) (c_law_open : Cal P w K mg base k "_law_open" P_law_open spOpen) : Cal P w K mg base (k + 1) "_law_nexts" P_law_nexts spNexts := by
  refine Cal.of T.fn_law_nexts sc_law_nexts (fun vs H Q E h => ?_) (fun f cdv A outer s H vs Q E hr h => ?_)
  · obtain ⟨_, _, _, _, _, _, _, _, _, rfl, _⟩ := h; rfl
  · obtain ⟨G, g, p, r0, r1, m0, m1, s, v, rfl, e, wo, wok, oks, rs, k⟩ := h
    obtain ⟨a, xs, rfl, ga, rx⟩ := rs.tup
    obtain ⟨x1, x2, x3, rfl, hx1, hx2, hx3⟩ := rx.l3
    cases hx1
    obtain ⟨t2, ys2, rfl, gt2, r2⟩ := hx2.tup
    cases r2.strs
    obtain ⟨t3, ys3, rfl, gt3, r3⟩ := hx3.tup
    cases nats_vs r3
    have few := oks.few
    refine ⟨_, (pss_cons (ps_asg (pv 1) (k_gtup K (n := 3) rfl (pgs_cons (pg_name (i := 2) sc_law_nexts.nd rfl (Or.inl rfl)) (pgs_cons (pg_name (i := 3) sc_law_nexts.nd rfl (Or.inl rfl)) (pgs_cons (pg_name (i := 4) sc_law_nexts.nd rfl (Or.inr rfl)) pgs_nil)))))
    (pss_cons (ps_setLc (i := 5) (own := [("_law_number", 8), ("_law_goal", 9), ("_law_later", 10)]) (by rfl) sc_law_nexts.nd rfl rfl (sw_true rfl rfl rfl (by decide +kernel)) (k_list K (pc c_law_open (hr.mono (by first | decide | omega)) (pa_cons (pv 0) (pa_cons pe_int (pa_cons (pv 2) (pa_cons (pv 3) pa_nil)))))) (blkOk_by (own := [("_law_number", 8), ("_law_goal", 9), ("_law_later", 10)]) (N := N_law_nexts) (by kernel_rfl)) (fun _ _ _ _ _ => (k_gtup K (n := 3) rfl (pgs_cons (pg_name (i := 8) sc_law_nexts.nd rfl (Or.inl rfl)) (pgs_cons (pg_name (i := 9) sc_law_nexts.nd rfl (Or.inl rfl)) (pgs_cons (pg_name (i := 10) sc_law_nexts.nd rfl (Or.inl rfl)) pgs_nil))))) (fun _ _ _ _ _ => pts_nil) (fun _ _ _ _ _ => (pe_tup (pa_cons (pe_tup (pa_cons pe_int (pa_cons (pv 8) pa_nil))) (pa_cons (pe_tup (pa_cons (pv 9) (pa_cons (pv 10) (pa_cons (pv 4) pa_nil)))) pa_nil)))))
    (pss_cons (ps_for PassesOwn.never rfl (k_enumT K (by rfl) T.f_enumerate (pa_cons (pv 4) pa_nil)) (k_gtup K (n := 2) rfl (pgs_cons (pg_name (i := 6) sc_law_nexts.nd rfl (Or.inl rfl)) (pgs_cons (pg_name (i := 7) sc_law_nexts.nd rfl (Or.inl rfl)) pgs_nil)))
      (pss_one (ps_for PassesOwn.never rfl (k_list K (pc c_law_open (hr.mono (by first | decide | omega)) (pa_cons (pv 0) (pa_cons pe_int (pa_cons (pv 7) (pa_cons (pv 3) pa_nil)))))) (k_gtup K (n := 3) rfl (pgs_cons (pg_name (i := 8) sc_law_nexts.nd rfl (Or.inl rfl)) (pgs_cons (pg_name (i := 9) sc_law_nexts.nd rfl (Or.inl rfl)) (pgs_cons (pg_name (i := 10) sc_law_nexts.nd rfl (Or.inl rfl)) pgs_nil))))
        (pss_one (ps_expr (k_bm K PySem.F.plainAttrs_list PySem.F.slot_list_append PySem.F.type_list_append mt_append (pv 5) (pa_cons (pe_tup (pa_cons (pe_tup (pa_cons (pe_op op_add (pv 6) pe_int) (pa_cons (pv 8) pa_nil))) (pa_cons (pe_tup (pa_cons (pv 2) (pa_cons (pv 10) (pa_cons (pe_op (k_catJ K) (pe_op (k_catJ K) (pe_slice (k_slJ K) (pv 4) po_none (po_some (pv 6))) (pe_tup (pa_cons (pv 9) pa_nil))) (pe_slice (k_slJ K) (pv 4) (po_some (pe_op op_add (pv 6) pe_int)) po_none)) pa_nil)))) pa_nil))) pa_nil)))))))
    (pss_one (ps_ret (pv 5)))))), ?_⟩
    refine seqAsg ⟨_, rfl, g3 (sqT ga e) ?_⟩
    refine seqSet ⟨_, rfl, _, rfl, _, rfl, G, g, t2, p, r0, r1, m0, m1, s.st, 0, s.room, rfl, e, wo, wok, gt2, oks.so, by decide, oks.room, fun os G1 H1 v1 okos los s1 ro => ?_⟩
    obtain ⟨la, us, rfl, gla, rus⟩ := ro.lst
    have lus := rus.len
    rw [List.length_map] at lus
    refine ⟨la, rfl, ⟨_, sqL gla s1.gh⟩, fun L nL => ?_⟩
    have gt2' := s1.eg _ _ gt2
    have gt3' := s1.eg _ _ gt3
    refine lcD os (fun o => some (nxtD ⟨0, o.num, ⟨o.goal, o.st, s.rooms⟩⟩)) (walkL lus.symm) (by omega) s1.gh nL (fun H2 e2 => sqL gla (s1.gh.trans e2)) ?_ ?_
    · rintro i o x G2 H2 H2' K1 K0 ho s2 ⟨rfl, ex⟩ k1 k0
      obtain ⟨o', ho', rx'⟩ := rus.map ex
      rw [ho] at ho'; cases ho'
      obtain ⟨b, ws, rfl, gb, rw'⟩ := (rx'.up s2.eg).tup
      obtain ⟨w0, w1, w2, rfl, h0, h1, h2⟩ := rw'.l3
      cases h0; cases h1
      refine g3 (sqT gb s2.gh) ⟨rfl, _, rfl, zs, fun u1 n1 => ?_⟩
      generalize e3 : upd H2' u1 _ = H3
      obtain ⟨G3, S3, s3, g3'⟩ := (Step.refl (W := NoW) s2.gh).newDE n1 e3
      refine ⟨_, rfl, _, rfl, _, rfl, zs, fun u2 n2 => ?_⟩
      generalize e4 : upd H3 u2 _ = H4
      obtain ⟨G4, S4, s4, g4'⟩ := S3.newDE n2 e4
      refine ⟨zs, fun u3 n3 => ?_⟩
      generalize e5 : upd H4 u3 _ = H5
      obtain ⟨G5, S5, s5, g5'⟩ := S4.newDE n3 e5
      exact k1 _ _ _ _ rfl S5 (nxt_rep (s := ⟨o.goal, o.st, s.rooms⟩) g5' ((s4.eg.trans s5.eg) _ _ g3') (s5.eg _ _ g4') (h2.up S5.eg) (rep_tup (S5.eg _ _ (s2.eg _ _ gt3')) (nats_rep _)))
    · rintro G2 H2 zz s2 hL gL rz
      rw [filterMap_some] at rz
      have S2 := s1.trans s2
      have nLH : H L = none := s1.dm _ nL
      refine ⟨_, rfl, t3, _, rfl, sqT (S2.eg _ _ gt3) S2.gh, ?_⟩
      refine for_it (walk_enumT (xs := s.rooms.map fun n : Nat => V.int n)) (fun i σ H3 => ∃ (G3 : Hp) (ns : List Nxt) (us : List V), Step NoW G H G3 H3 ∧ Mi G3 H3 L (.lst us) ∧ RepL G3 (ns.map nxtD) us ∧ ns.length ≤ 5 + 5 * i ∧ (∀ n ∈ ns, SpotOk p r0 r1 n.spot ∧ n.spot.rooms.length = s.rooms.length) ∧
          ∃ y6 y7 y8 y9 y10, σ = [some (.ref g), some (.ref a), some (.int s.room), some (.ref t2), some (.ref t3), some (.ref L), y6, y7, y8, y9, y10])
        ⟨G2, os.map (fun o => ⟨0, o.num, ⟨o.goal, o.st, s.rooms⟩⟩), zz, S2, ⟨hL, gL⟩, by rw [List.map_map]; exact rz, by rw [List.length_map]; omega, fun n hn => ?_, _, _, _, _, _, rfl⟩ (fun i σ H3 _ ⟨G3, _, _, S3, _⟩ => sqT (S3.eg _ _ gt3) S3.gh) ?_ ?_
      · obtain ⟨o, ho, rfl⟩ := List.mem_map.mp hn
        have oo := okos o ho
        exact ⟨⟨oo.goal, oo.st.len, oo.st.vals, oks.rooms, oks.few⟩, rfl⟩
      · rintro i x σ H3 H3' hi ⟨G3, ns, us3, S3, L3, r3', lns, okns, y6, y7, y8, y9, y10, rfl⟩ ⟨tp, x', rfl, ntp, rfl, ex1⟩
        rw [List.length_map] at hi
        obtain ⟨here, hh, rfl⟩ := map_some ex1
        refine g2 (.of upd_same) ?_
        generalize e4 : upd H3 tp _ = H4
        obtain ⟨S4, s4, _⟩ := S3.newME ntp e4
        have L4 := L3.go s4
        refine ⟨_, rfl, _, rfl, _, rfl, G3, g, t2, p, r0, r1, m0, m1, s.st, 1, here, rfl, S4.gh, wo.up S4.eg, wok, S4.eg _ _ gt2, oks.so, by decide, oks.rooms here (mem_of hh), fun os2 G5 H5 v5 okos2 los2 s5 ro2 => ?_⟩
        obtain ⟨lb, vs5, rfl, glb, rvs5⟩ := ro2.lst
        have lvs := rvs5.len
        rw [List.length_map] at lvs
        have S5 := S4.trans s5
        refine ⟨lb, rfl, ⟨_, sqL glb S5.gh⟩, ?_⟩
        refine for_list (xs := vs5) (fun j σ H6 => ∃ (G6 : Hp) (ns : List Nxt) (us : List V), Step NoW G H G6 H6 ∧ Ex G5 G6 ∧ Mi G6 H6 L (.lst us) ∧ RepL G6 (ns.map nxtD) us ∧ ns.length ≤ 5 + 5 * i + j ∧ (∀ n ∈ ns, SpotOk p r0 r1 n.spot ∧ n.spot.rooms.length = s.rooms.length) ∧
            ∃ y8 y9 y10, σ = [some (.ref g), some (.ref a), some (.int s.room), some (.ref t2), some (.ref t3), some (.ref L), some (.int i), some (.int here), y8, y9, y10])
          ⟨G5, ns, us3, S5, Ex.rfl' _, L4.go s5, r3'.up s5.eg, by omega, okns, _, _, _, rfl⟩ (fun j σ H6 _ ⟨G6, _, _, S6, e56, _⟩ => sqL (e56 _ _ glb) S6.gh) ?_ ?_
        · rintro j x σ H6 exj ⟨G6, ns6, us6, S6, e56, L6, r6, lns6, okns6, y8, y9, y10, rfl⟩
          obtain ⟨o, ho, rxo⟩ := rvs5.map exj
          have hj := lt_of_some ho
          have oo := okos2 o (mem_of ho)
          obtain ⟨b, ws, rfl, gb, rw'⟩ := (rxo.up e56).tup
          obtain ⟨w0, w1, w2, rfl, h0, h1, h2⟩ := rw'.l3
          cases h0; cases h1
          have lus6 := r6.len
          rw [List.length_map] at lus6
          refine g3 (sqT gb S6.gh) ⟨_, rfl, .inl ⟨rfl, _, .of L6.h⟩, _, rfl, _, _, rfl, rfl, _, rfl, zs, fun u1 n1 => ?_⟩
          generalize e7 : upd H6 u1 _ = H7
          obtain ⟨G7, S7, s7, g7⟩ := S6.newDE n1 e7
          refine ⟨_, rfl, _, rfl, _, rfl, _, rfl, _, rfl, t3, _, rfl, sqT (S7.eg _ _ gt3) S7.gh, fun p8 H8 h8 => ?_⟩
          obtain ⟨G8, s8, g8⟩ := h8.step S7.gh (S7.eg _ _ gt3) (cut_take (k := i))
          refine ⟨_, rfl, zs, fun u9 n9 => ?_⟩
          generalize e9 : upd H8 u9 _ = H9
          obtain ⟨G9, S9, s9, g9⟩ := (S7.trans s8).newDE n9 e9
          refine ⟨p8, u9, _, _, rfl, rfl, sqT (s9.eg _ _ g8) S9.gh, sqT g9 S9.gh, zl (by simp; omega), fun p10 H10 h10 => ?_⟩
          obtain ⟨G10, s10, g10⟩ := h10.step S9.gh (s9.eg _ _ g8) g9
          have S10 := S9.trans s10
          refine ⟨_, rfl, _, rfl, _, _, rfl, rfl, _, rfl, t3, _, rfl, sqT (S10.eg _ _ gt3) S10.gh, fun p11 H11 h11 => ?_⟩
          obtain ⟨G11, s11, g11⟩ := h11.step S10.gh (S10.eg _ _ gt3) (slCut (k := i + 1))
          have S11 := S10.trans s11
          refine ⟨p10, p11, _, _, rfl, rfl, sqT (s11.eg _ _ g10) S11.gh, sqT g11 S11.gh, zl (by simp; omega), fun p12 H12 h12 => ?_⟩
          obtain ⟨G12, s12, g12⟩ := h12.step S11.gh (s11.eg _ _ g10) g11
          have S12 := S11.trans s12
          rw [set_cut s.rooms hi] at g12
          refine ⟨zs, fun u13 n13 => ?_⟩
          generalize e13 : upd H12 u13 _ = H13
          obtain ⟨G13, S13, s13, g13⟩ := S12.newDE n13 e13
          refine ⟨zs, fun u14 n14 => ?_⟩
          generalize e14 : upd H13 u14 _ = H14
          obtain ⟨G14, S14, s14, g14⟩ := S13.newDE n14 e14
          have s714 := s8.trans (s9.trans (s10.trans (s11.trans (s12.trans (s13.trans s14)))))
          have L14 := (L6.go s7).go s714
          refine ⟨L, _, _, rfl, rfl, L14.h, zl' (by omega), ?_⟩
          generalize e15 : upd H14 L _ = H15
          obtain ⟨S15, L15, _⟩ := S14.mutE (.inr nLH) L14 e15
          refine ⟨G14, ns6 ++ [⟨i + 1, o.num, ⟨s.room, o.st, s.rooms.set i o.goal⟩⟩], _, S15, e56.trans (s7.eg.trans s714.eg), L15, ?_, by simp; omega, ?_, _, _, _, rfl⟩
          · rw [List.map_append]
            exact (r6.up (s7.eg.trans s714.eg)).snoc (nxt_rep (s := ⟨s.room, o.st, s.rooms.set i o.goal⟩) g14 (s714.eg _ _ g7) (s14.eg _ _ g13) (h2.up (s7.eg.trans s714.eg)) (rep_tup ((s13.eg.trans s14.eg) _ _ g12) (nats_rep _)))
          · intro n hn
            rcases List.mem_append.mp hn with h | h
            · exact okns6 n h
            · rw [List.mem_singleton.mp h]
              refine ⟨⟨oks.room, oo.st.len, oo.st.vals, fun m hm => ?_, by simp only [List.length_set]; exact oks.few⟩, by simp only [List.length_set]⟩
              rcases List.mem_or_eq_of_mem_set hm with h | rfl
              · exact oks.rooms m h
              · exact oo.goal
        · rintro σ H6 ⟨G6, ns6, us6, S6, e56, L6, r6, lns6, okns6, y8, y9, y10, rfl⟩
          exact ⟨G6, ns6, us6, S6, L6, r6, by omega, okns6, _, _, _, _, _, rfl⟩
      · rintro σ H3 ⟨G3, ns, us3, S3, L3, r3', lns, okns, y6, y7, y8, y9, y10, rfl⟩
        rw [List.length_map] at lns
        obtain ⟨G4, S4, e4, g4, _⟩ := S3.frzE nLH L3
        exact ⟨_, rfl, k ns _ _ _ okns (by omega) S4 (rep_lst g4 (r3'.up e4))⟩
end
end K4

set_option maxHeartbeats 400000
/-! The law's marks, questions. -/
namespace K4
open PySem L2
def askD (lead : Option Str) (fs : List Str) (hs : List (Str × Str)) : D := .tup [optD lead, .lst (fs.map D.str), .lst (hs.map pairD)]
def spLMarks : Sp := fun vs H Q _ => ∃ (G : Hp) (g : Addr) (p : Plan) (r0 r1 : Row) (m0 m1 : List Rm) (i : Nat), vs = [.ref g, .int i] ∧ Ex G H ∧ WoO G g p r0 r1 m0 m1 ∧ WoOk p r0 r1 m0 m1 ∧ i < 2 ∧
  ∀ (ms : List Str) G' H' l, (∀ z ∈ ms, Stm.mk z ∈ rowFlat (sel i r0 r1)) → ms.length ≤ 25 → Step NoW G H G' H' → G' l = some (.lst (ms.map V.str)) → Q (.ref l) H'
def spPutAs (K : PySem.W.Frag) : Sp := fun vs H Q _ => ∃ (G : Hp) (lead : Option Str) (fs : List Str) (hs : List (Str × Str)) (v : V), vs = [v] ∧ Ex G H ∧ Rep G (askD lead fs hs) v ∧ (∀ z, lead = some z → NameOk z) ∧ (∀ z ∈ fs, NameOk z) ∧ (∀ p ∈ hs, NameOk p.1 ∧ NameOk p.2) ∧ fs.length ≤ 6 ∧ hs.length ≤ 10 ∧ (hs.map Prod.fst).Nodup ∧
  ∀ G' H' q, Step NoW G H G' H' → QuO K G' q lead fs hs → Q (.ref q) H'
def fullLead (r0 : Row) (s : Spot) : Option Str := markAt r0 s.room
def fullFs (r1 : Row) (s : Spot) : List Str := (s.rooms.filterMap (markAt r1)).take 6
def fullHs (p : Plan) (s : Spot) : List (Str × Str) := (p.map Prod.fst).zip s.st
def spFull : Sp := fun vs H Q _ => ∃ (G : Hp) (g : Addr) (p : Plan) (r0 r1 : Row) (m0 m1 : List Rm) (s : Spot) (v : V), vs = [.ref g, v] ∧ Ex G H ∧ WoO G g p r0 r1 m0 m1 ∧ WoOk p r0 r1 m0 m1 ∧ SpotOk p r0 r1 s ∧ Rep G s.d v ∧
  ∀ G' H' v', Step NoW G H G' H' → Rep G' (askD (fullLead r0 s) (fullFs r1 s) (fullHs p s)) v' → Q v' H'
theorem mark_mem {r : Row} {n : Nat} {z : Str} (h : markAt r n = some z) : Stm.mk z ∈ rowFlat r := by
  unfold markAt at h
  cases e : (rowFlat r)[n]? with
  | none => rw [e] at h; cases h
  | some s =>
    rw [e] at h
    cases s with
    | mk m => cases h; exact mem_of e
    | _ => cases h
theorem filter_str {α : Type} (f : α → Option Str) (l : List α) : l.filterMap (fun a => (f a).map D.str) = (l.filterMap f).map D.str := by rw [List.map_filterMap]
theorem cut_takeL {xs : List V} {k : Nat} : cutV xs none (some (k : Int)) = xs.take k := cut_take
section
variable {P : Program} {w : World} {K : PySem.W.Frag} {mg : Str → Option Value} {base : Heap}
theorem g21 {a b : Addr} {x y z : V} {i j k : Nat} {σ : L2.St} {H : Hp} {Q : L2.St → Hp → Prop} (h : SqT K H a [.ref b, z]) (h2 : SqT K H b [x, y]) (q : Q (((σ.set i (some x)).set j (some y)).set k (some z)) H) :
    gTup K 2 (gCons (gTup K 2 (gCons (gName i) (gCons (gName j) gNil))) (gCons (gName k) gNil)) (.ref a) σ H Q := ⟨a, _, rfl, h, rfl, _, _, rfl, ⟨b, _, rfl, h2, rfl, _, _, rfl, _, _, rfl, rfl, _, _, rfl, rfl, q⟩⟩
theorem walkZ {a b : Addr} {xs ys : List V} {n : Nat} (h : n = xs.length) (hl : xs.length ≤ ys.length) : Walk (Itzm K a b) n (fun H => SqL K H a xs ∧ SqT K H b ys)
    (fun i H v H' => ∃ T x y, v = .ref T ∧ H T = none ∧ H' = upd H T (.tup [x, y]) ∧ xs[i]? = some x ∧ ys[i]? = some y) := h ▸ walk_zipM hl
theorem ok_lmarks (T : Txt K mg) : Cal P w K mg base 1 "_law_marks" P_law_marks spLMarks := by
  refine Cal.of T.fn_law_marks sc_law_marks (fun vs H Q E h => ?_) (fun f cdv A outer s H vs Q E hr h => ?_)
  · obtain ⟨_, _, _, _, _, _, _, _, rfl, _⟩ := h; rfl
  · obtain ⟨G, g, p, r0, r1, m0, m1, i, rfl, e, wo, wok, hi, k⟩ := h
    obtain ⟨kvs, qv, rv, mv, g0, v1, v2, v3, rp, rr, rm⟩ := wo.ex
    obtain ⟨a, xs, rfl, ga, rx⟩ := rm.lst
    have hsel : ∃ m r, [rmsD m0, rmsD m1][i]? = some (rmsD m) ∧ RmsOk p r m ∧ r = sel i r0 r1 ∧ rowSize r ≤ 24 := by
      match i, hi with
      | 0, _ => exact ⟨m0, r0, rfl, wok.n0, rfl, wok.w0.size⟩
      | 1, _ => exact ⟨m1, r1, rfl, wok.n1, rfl, wok.w1.size⟩
    obtain ⟨m, r, hm, okm, er, z24⟩ := hsel
    obtain ⟨x, hx, rb⟩ := rx.at hm
    obtain ⟨b, ys, rfl, gb, ry⟩ := rb.lst
    have ly := ry.len
    rw [List.length_map] at ly
    have lm := okm.len
    refine ⟨_, (pss_one (ps_ret (pe_callB (k_sortSet w rfl) (by rfl) T.f_sorted (by decide +kernel) (pa_cons (pe_callTy (k_setOf K w rfl) (by rfl) T.f_set (by decide +kernel) (pa_cons (pe_lc (own := [("_law_mark", 2), ("_law_some", 3)]) (by rfl) sc_law_marks.nd (k_list K (pe_ix (k_ixL K) (pe_dget (hu_of hr) (pv 0) pe_str (fun _ _ => rfl)) (pv 1) (fun _ _ => rfl))) (blkOk_by (own := [("_law_mark", 2), ("_law_some", 3)]) (N := N_law_marks) (by kernel_rfl)) (fun _ _ _ _ _ => (k_gtup K (n := 2) rfl (pgs_cons (pg_name (i := 2) sc_law_marks.nd rfl (Or.inl rfl)) (pgs_cons (pg_name (i := 3) sc_law_marks.nd rfl (Or.inl rfl)) pgs_nil)))) (fun _ _ _ _ _ => (pts_one (pt_cmpR op_notN (pv 2) pe_non (by first | exact nomark _ | rfl)))) (fun _ _ _ _ _ => (pv 2))) pa_nil)) pa_nil)))), ?_⟩
    refine ⟨_, rfl, g, _, rfl, v3 ▸ DGet.k (k := .inr "rooms") (e _ _ g0), _, rfl, a, xs, i, _, rfl, rfl, sqL ga e, at_nat hx, b, rfl, ⟨_, sqL gb e⟩, fun L nL => ?_⟩
    refine lcD m (fun rm : Rm => rm.1.map D.str) (walkL ly.symm) (by omega) e nL (fun H2 e2 => sqL gb (e.trans e2)) ?_ ?_
    · rintro j rm1 x G2 H2 H2' K1 K0 hj s2 ⟨rfl, ex⟩ k1 k0
      obtain ⟨rm', hr', rt⟩ := ry.map ex
      rw [hj] at hr'; cases hr'
      obtain ⟨t, us, rfl, gt, ru⟩ := (rt.up s2.eg).tup
      obtain ⟨u0, u1, rfl, h0, h1⟩ := ru.l2
      cases rep_optD h0
      refine g2 (sqT gt s2.gh) ⟨rfl, _, rfl, rfl, _, rfl, if2 (fun h => ?_) (fun h => ?_)⟩
      · cases hq : rm1.1 with
        | none => rw [hq] at h; simp [optV] at h
        | some z => exact ⟨_, rfl, k1 _ (.str z) _ _ (by rw [hq]; rfl) (Step.refl s2.gh) rfl⟩
      · cases hq : rm1.1 with
        | none => exact k0 _ _ (by rw [hq]; rfl) (Step.refl s2.gh)
        | some z => rw [hq] at h; simp [optV] at h
    · rintro G2 H2 zz s2 hL gL rz
      rw [filter_str (fun rm : Rm => rm.1)] at rz
      cases rz.strs
      have lss : (m.filterMap fun rm : Rm => rm.1).length ≤ 25 := Nat.le_trans (List.length_filterMap_le _ _) (by omega)
      refine ⟨L, _, rfl, .of hL, by omega, fun q nq => ?_⟩
      generalize e3 : upd H2 q _ = H3
      obtain ⟨S3, s3, D3⟩ := s2.newME nq e3
      refine ⟨q, _, _, rfl, D3.h, by omega, fun ys3 l4 hsub hlen n4 => ?_⟩
      generalize e4 : upd H3 l4 _ = H4
      obtain ⟨G4, S4, s4, g4⟩ := S3.newDE n4 e4
      refine k ys3 _ _ l4 (fun z hz => ?_) (by omega) S4 g4
      obtain ⟨rm1, hr1, hr2⟩ := List.mem_filterMap.mp (hsub z hz)
      obtain ⟨n, hn⟩ := List.getElem?_of_mem hr1
      have := okm.mark n rm1 hn
      rw [hr2] at this
      rw [← er]
      exact mark_mem this.symm
theorem ok_put_as {k : Nat} (T : Txt K mg) (c_Question : CalC P w K mg base k (cA K "Question") P_Question_init [] (spQuestionInit K)) : Cal P w K mg base (k + 2) "_law_put_as" P_law_put_as (spPutAs K) := by
  refine Cal.of T.fn_law_put_as sc_law_put_as (fun vs H Q E h => ?_) (fun f cdv A outer s H vs Q E hr h => ?_)
  · obtain ⟨_, _, _, _, _, rfl, _⟩ := h; rfl
  · obtain ⟨G, lead, fs, hs, v, rfl, e, rv, n1, n2, n3, lf, lh, nd, k⟩ := h
    obtain ⟨a, xs, rfl, ga, rx⟩ := rv.tup
    obtain ⟨x0, x1, x2, rfl, h0, h1, h2⟩ := rx.l3
    cases rep_optD h0
    obtain ⟨l1, y1, rfl, gl1, ry1⟩ := h1.lst
    cases ry1.strs
    obtain ⟨l2, y2, rfl, gl2, ry2⟩ := h2.lst
    refine ⟨_, (pss_one (ps_ret (pcc c_Question (hr.mono (by first | decide | omega)) T.g_Question .nil (pa_cons (pe_ix (k_ixT K) (pv 0) pe_int (fun _ _ => rfl)) (pa_cons (pe_callTy (k_listOf K) (by rfl) T.f_list (by decide +kernel) (pa_cons (pe_ix (k_ixT K) (pv 0) pe_int (fun _ _ => rfl)) pa_nil)) (pa_cons (pe_callTy (k_listOf K) (by rfl) T.f_list (by decide +kernel) (pa_cons (pe_ix (k_ixT K) (pv 0) pe_int (fun _ _ => rfl)) pa_nil)) pa_nil)))))), ?_⟩
    refine ⟨_, rfl, a, _, 0, _, rfl, rfl, sqT ga e, at_nat (i := 0) rfl, _, rfl, a, _, 1, _, rfl, rfl, sqT ga e, at_nat (i := 1) rfl, l1, _, rfl, .inl (sqL gl1 e), fun l3 nl3 => ?_⟩
    generalize e3 : upd H l3 _ = H3
    obtain ⟨G3, S3, s3, g3'⟩ := (Step.refl (W := NoW) e).newDE nl3 e3
    refine ⟨_, rfl, a, _, 2, _, rfl, rfl, sqT (S3.eg _ _ ga) S3.gh, at_nat (i := 2) rfl, l2, _, rfl, .inl (sqL (S3.eg _ _ gl2) S3.gh), fun l4 nl4 => ?_⟩
    generalize e4 : upd H3 l4 _ = H4
    obtain ⟨G4, S4, s4, g4'⟩ := S3.newDE nl4 e4
    refine fun x dx nx nd' ne => ?_
    generalize e5 : upd (upd H4 dx _) x _ = H5
    obtain ⟨s5, A5⟩ := madeE S4.gh nx nd' ne e5
    refine ⟨G4, x, dx, l3, l4, lead, fs, hs, y2, rfl, s5.gh, A5.h, A5.g, s4.eg _ _ g3', g4', ry2.up S4.eg, n1, n2, n3, lf, lh, nd, fun G6 H6 fp hp s6 h6 f6 fh6 => ⟨rfl, ?_⟩⟩
    have A6 : Mi G6 H6 x _ := ⟨h6, s6.nw _ _ A5.h A5.g⟩
    obtain ⟨G7, s7, e7, g7⟩ := initE s5 nx s6 A6
    exact k G7 H6 x (S4.trans s7) ⟨dx, fp, hp, y2, g7, f6.up e7, fh6.up e7, (ry2.up S4.eg).up s7.eg⟩
theorem ok_full (T : Txt K mg) : Cal P w K mg base 1 "_law_full" P_law_full spFull := by
  refine Cal.of T.fn_law_full sc_law_full (fun vs H Q E h => ?_) (fun f cdv A outer s H vs Q E hr h => ?_)
  · obtain ⟨_, _, _, _, _, _, _, _, _, rfl, _⟩ := h; rfl
  · obtain ⟨G, g, p, r0, r1, m0, m1, s, v, rfl, e, wo, wok, oks, rs, k⟩ := h
    obtain ⟨kvs, qv, rv, mv, g0, v1, v2, v3, rp, rr, rm⟩ := wo.ex
    obtain ⟨pa, pxs, rfl, gp, rpx⟩ := rp.lst
    have lpx := rpx.len
    rw [List.length_map] at lpx
    obtain ⟨a, xs, rfl, ga, rx⟩ := rs.tup
    obtain ⟨x1, x2, x3, rfl, hx1, hx2, hx3⟩ := rx.l3
    cases hx1
    obtain ⟨t2, ys2, rfl, gt2, r2⟩ := hx2.tup
    cases r2.strs
    obtain ⟨t3, ys3, rfl, gt3, r3⟩ := hx3.tup
    cases nats_vs r3
    have few := oks.few
    have phi := wok.pl.hi
    refine ⟨_, (pss_cons (ps_asg (pv 1) (k_gtup K (n := 3) rfl (pgs_cons (pg_name (i := 2) sc_law_full.nd rfl (Or.inl rfl)) (pgs_cons (pg_name (i := 3) sc_law_full.nd rfl (Or.inl rfl)) (pgs_cons (pg_name (i := 4) sc_law_full.nd rfl (Or.inl rfl)) pgs_nil)))))
    (pss_cons (ps_setLc (i := 5) (own := [("_law_one", 6)]) (by rfl) sc_law_full.nd rfl rfl (sw_true rfl rfl rfl (by decide +kernel)) (k_tup K (pv 4)) (blkOk_by (own := [("_law_one", 6)]) (N := N_law_full) (by kernel_rfl)) (fun _ _ _ _ _ => (pg_name (i := 6) sc_law_full.nd rfl (Or.inl rfl))) (fun _ _ _ _ _ => (pts_one (pt_cmpR op_notN (pe_ix (k_ixT K) (pe_ix (k_ixL K) (pe_ix (k_ixL K) (pe_dget (hu_of hr) (pv 0) pe_str (fun _ _ => rfl)) pe_int (fun _ _ => rfl)) (pv 6) (fun _ _ => rfl)) pe_int (fun _ _ => rfl)) pe_non (by first | exact nomark _ | rfl)))) (fun _ _ _ _ _ => (pe_ix (k_ixT K) (pe_ix (k_ixL K) (pe_ix (k_ixL K) (pe_dget (hu_of hr) (pv 0) pe_str (fun _ _ => rfl)) pe_int (fun _ _ => rfl)) (pv 6) (fun _ _ => rfl)) pe_int (fun _ _ => rfl))))
    (pss_one (ps_ret (pe_tup (pa_cons (pe_ix (k_ixT K) (pe_ix (k_ixL K) (pe_ix (k_ixL K) (pe_dget (hu_of hr) (pv 0) pe_str (fun _ _ => rfl)) pe_int (fun _ _ => rfl)) (pv 2) (fun _ _ => rfl)) pe_int (fun _ _ => rfl)) (pa_cons (pe_slice (k_slL K) (pv 5) po_none (po_some pe_int)) (pa_cons (pe_lc (own := [("_law_value", 8), ("_law_cell", 7), ("_law_values", 9)]) (by rfl) sc_law_full.nd (k_zipM K (by rfl) T.f_zip (pa_cons (pe_dget (hu_of hr) (pv 0) pe_str (fun _ _ => rfl)) (pa_cons (pv 3) pa_nil))) (blkOk_by (own := [("_law_value", 8), ("_law_cell", 7), ("_law_values", 9)]) (N := N_law_full) (by kernel_rfl)) (fun _ _ _ _ _ => (k_gtup K (n := 2) rfl (pgs_cons (k_gtup K (n := 2) rfl (pgs_cons (pg_name (i := 7) sc_law_full.nd rfl (Or.inl rfl)) (pgs_cons (pg_name (i := 9) sc_law_full.nd rfl (Or.inl rfl)) pgs_nil))) (pgs_cons (pg_name (i := 8) sc_law_full.nd rfl (Or.inl rfl)) pgs_nil)))) (fun _ _ _ _ _ => pts_nil) (fun _ _ _ _ _ => (pe_tup (pa_cons (pv 7) (pa_cons (pv 8) pa_nil))))) pa_nil)))))))), ?_⟩
    refine seqAsg ⟨_, rfl, g3 (sqT ga e) ?_⟩
    refine seqSet ⟨_, rfl, t3, rfl, ⟨_, sqT gt3 e⟩, fun L nL => ?_⟩
    refine lcD s.rooms (fun n => (markAt r1 n).map D.str) (walkT (by simp)) (by omega) e nL (fun H2 e2 => sqT gt3 (e.trans e2)) ?_ ?_
    · rintro i n x G2 H2 H2' K1 K0 hn s2 ⟨rfl, ex⟩ k1 k0
      rw [List.getElem?_map, hn] at ex
      cases ex
      obtain ⟨ma, mxs, b, ys, t, l, es, zz, rfl, gma, hmx, gb, hy, gt, _⟩ := room_at rm wok.n0 wok.n1 (i := 1) (n := n) (by decide) (oks.rooms n (mem_of hn))
      have e2 := s2.eg.trans s2.gh
      have e02 : Ex G H2' := e2
      refine ⟨rfl, _, rfl, g, _, rfl, v3 ▸ DGet.k (k := .inr "rooms") (e02 _ _ g0), ma, mxs, 1, _, rfl, rfl, sqL gma e02, at_nat (i := 1) hmx, _, rfl, b, ys, n, _, rfl, rfl, sqL gb e02, at_nat hy, t, _, 0, _, rfl, rfl, sqT gt e02, at_nat (i := 0) rfl, rfl, _, rfl, if2 (fun h => ?_) (fun h => ?_)⟩
      · cases hq : markAt r1 n with
        | none =>
          have : markAt (sel 1 r0 r1) n = none := hq
          rw [this] at h; simp [optV] at h
        | some z =>
          have hs1 : markAt (sel 1 r0 r1) n = some z := hq
          rw [hs1] at gt
          exact ⟨_, rfl, g, _, rfl, v3 ▸ DGet.k (k := .inr "rooms") (e02 _ _ g0), ma, mxs, 1, _, rfl, rfl, sqL gma e02, at_nat (i := 1) hmx, _, rfl, b, ys, n, _, rfl, rfl, sqL gb e02, at_nat hy, t, _, 0, _, rfl, rfl, sqT gt e02, at_nat (i := 0) rfl, k1 _ (.str z) _ _ (by rw [hq]; rfl) (Step.refl s2.gh) rfl⟩
      · cases hq : markAt r1 n with
        | none => exact k0 _ _ (by rw [hq]; rfl) (Step.refl s2.gh)
        | some z =>
          have : markAt (sel 1 r0 r1) n = some z := hq
          rw [this] at h; simp [optV] at h
    · rintro G2 H2 zz s2 hL gL rz
      rw [filter_str (markAt r1)] at rz
      cases rz.strs
      obtain ⟨ma, mxs, b, ys, t, l, es, zz2, rfl, gma, hmx, gb, hy, gt, _⟩ := room_at rm wok.n0 wok.n1 (i := 0) (n := s.room) (by decide) oks.room
      have e2 : Ex G H2 := s2.eg.trans s2.gh
      refine ⟨_, rfl, g, _, rfl, v3 ▸ DGet.k (k := .inr "rooms") (e2 _ _ g0), ma, mxs, 0, _, rfl, rfl, sqL gma e2, at_nat (i := 0) hmx, _, rfl, b, ys, s.room, _, rfl, rfl, sqL gb e2, at_nat hy, t, _, 0, _, rfl, rfl, sqT gt e2, at_nat (i := 0) rfl, _, rfl, _, rfl, L, _, rfl, .of hL, fun l3 n3 => ?_⟩
      generalize e3 : upd H2 l3 _ = H3
      obtain ⟨G3, S3, s3, g3'⟩ := s2.newDE n3 e3
      refine ⟨_, rfl, g, _, rfl, v1 ▸ DGet.k (k := .inr "plan") (S3.gh _ _ (S3.eg _ _ g0)), _, rfl, pa, t2, _, _, rfl, sqL (S3.eg _ _ gp) S3.gh, sqT (S3.eg _ _ gt2) S3.gh, fun M nM => ?_⟩
      have lz : (List.zip (p.map Prod.fst) s.st).length = pxs.length := by rw [List.length_zip, List.length_map, oks.len, lpx]; omega
      refine lcD ((p.map Prod.fst).zip s.st) (fun c => some (pairD c)) (walkZ (xs := pxs) (ys := s.st.map V.str) lz (by rw [List.length_map, oks.len, lpx]; omega)) (by rw [lz]; omega) S3.gh nM (fun H4 e4 => ⟨sqL (S3.eg _ _ gp) (S3.gh.trans e4), sqT (S3.eg _ _ gt2) (S3.gh.trans e4)⟩) ?_ ?_
      · rintro i c x G4 H4 H4' K1 K0 hc s4 ⟨tp, y1, y2, rfl, ntp, rfl, ex1, ex2⟩ k1 k0
        obtain ⟨pc, hpc, rc⟩ := rpx.map ex1
        obtain ⟨sv, hsv, rfl⟩ := map_some ex2
        have hz : ((p.map Prod.fst).zip s.st)[i]? = some (pc.1, sv) := by
          rw [List.getElem?_zip_eq_some]
          exact ⟨by rw [List.getElem?_map, hpc]; rfl, hsv⟩
        rw [hc] at hz; cases hz
        obtain ⟨b4, l4, rfl, gb4, gl4⟩ := rep_cell ((rc.up S3.eg).up s4.eg)
        have ne4 : b4 ≠ tp := ne_of_none (s4.gh _ _ gb4) ntp
        refine g21 (.of upd_same) (.of (by rw [upd_ne ne4]; exact s4.gh _ _ gb4)) ?_
        generalize e5 : upd H4 tp _ = H5
        obtain ⟨S5, s5, _⟩ := (Step.refl (W := NoW) s4.gh).newME ntp e5
        refine ⟨rfl, ?_⟩
        refine ⟨V.str pc.1, ?g7, ?_⟩
        case g7 =>
          rw [List.getElem?_set_ne (by decide), List.getElem?_set_ne (by decide), List.getElem?_set_self]
          simp only [List.length_set, wipe_length]
          exact (by decide : 7 < 10)
        refine ⟨V.str sv, ?g8, ?_⟩
        case g8 =>
          rw [List.getElem?_set_self]
          simp only [List.length_set, wipe_length]
          exact (by decide : 8 < 10)
        refine ⟨zs, fun t6 n6 => ?_⟩
        generalize e6 : upd H5 t6 _ = H6
        obtain ⟨G6, S6, s6, g6⟩ := S5.newDE n6 e6
        exact k1 _ _ _ _ rfl S6 (rep_tup g6 ⟨_, _, rfl, rfl, _, _, rfl, rfl, rfl⟩)
      · rintro G4 H4 ws s4 hM gM rw'
        rw [filterMap_some] at rw'
        obtain ⟨G5, S5, e5, g5, _⟩ := s4.frzE nM ⟨hM, gM⟩
        refine ⟨zs, fun t6 n6 => ?_⟩
        generalize e6 : upd H4 t6 _ = H6
        obtain ⟨G6, S6, s6, g6⟩ := (S3.trans S5).newDE n6 e6
        have ecut : cutV ((s.rooms.filterMap (markAt r1)).map V.str) none (some 6) = (fullFs r1 s).map V.str := by
          rw [show (6 : Int) = ((6 : Nat) : Int) from rfl, cut_take, ← List.map_take]; rfl
        rw [ecut] at g3'
        exact k _ _ _ S6 (rep_tup g6 ⟨_, _, rfl, rep_optV (markAt r0 s.room), _, _, rfl, rep_lst ((S5.eg.trans s6.eg) _ _ g3') (RepL.of_strs _), _, _, rfl, rep_lst (s6.eg _ _ g5) ((rw'.up e5).up s6.eg), rfl⟩)
end
end K4

set_option maxHeartbeats 400000
/-! Less asked; the followers mixed; more of them. -/
namespace K4
open PySem L2
theorem sq_nat {n d : Nat} (h : d < n) : seqIndex? (d : Int) n = some d := (ixN_seq (ixN_nat' h)).1
theorem erase_map {α β : Type} (f : α → β) : ∀ (l : List α) (i : Nat), (l.map f).eraseIdx i = (l.eraseIdx i).map f
  | [], _ => rfl
  | _ :: _, 0 => rfl
  | a :: l, i + 1 => by
    show f a :: (l.map f).eraseIdx i = f a :: (l.eraseIdx i).map f
    rw [erase_map f l i]
theorem erase_perm {α : Type} {x : α} : ∀ (l : List α) (i : Nat), l[i]? = some x → (x :: l.eraseIdx i).Perm l
  | [], _, h => by simp at h
  | a :: l, 0, h => by
    cases h
    exact List.Perm.refl _
  | a :: l, i + 1, h => by
    have h' : l[i]? = some x := by simpa using h
    exact (List.Perm.swap a x _).trans ((erase_perm l i h').cons a)
theorem nodup_rot {hs : List (Str × Str)} {k m : Nat} (nd : (hs.map Prod.fst).Nodup) : (((hs.drop k ++ hs.take k).take m).map Prod.fst).Nodup := by
  have p : (hs.drop k ++ hs.take k).Perm hs := by
    have := List.perm_append_comm (l₁ := hs.drop k) (l₂ := hs.take k)
    rw [List.take_append_drop] at this
    exact this
  have h1 : ((hs.drop k ++ hs.take k).map Prod.fst).Nodup := ((p.map Prod.fst).nodup_iff).mpr nd
  exact h1.sublist ((List.take_sublist _ _).map _)
theorem mem_rot {hs : List (Str × Str)} {k m : Nat} {x : Str × Str} (h : x ∈ (hs.drop k ++ hs.take k).take m) : x ∈ hs := by
  have := List.mem_of_mem_take h
  rcases List.mem_append.mp this with h | h
  · exact List.mem_of_mem_drop h
  · exact List.mem_of_mem_take h
def spLess (K : PySem.W.Frag) : Sp := fun vs H Q _ => ∃ (G : Hp) (wa c : Nat) (lead : Option Str) (fs : List Str) (hs : List (Str × Str)) (v : V), vs = [.ref wa, v] ∧ Ex G H ∧ WO G H wa c ∧ c < 900000 ∧ Rep G (askD lead fs hs) v ∧ fs.length ≤ 6 ∧ hs.length ≤ 10 ∧ (hs.map Prod.fst).Nodup ∧
  ∀ (lead' : Option Str) (fs' : List Str) (hs' : List (Str × Str)) G' H' v', (lead' = lead ∨ lead' = none) → (∀ z, fs'.count z ≤ fs.count z) → fs'.length ≤ fs.length → (∀ h ∈ hs', h ∈ hs) → hs'.length ≤ hs.length → (hs'.map Prod.fst).Nodup →
    Step (Wa wa) G H G' H' → WO G' H' wa (c + 20) → Rep G' (askD lead' fs' hs') v' → Q v' H'
def spMixed : Sp := fun vs H Q _ => ∃ (G : Hp) (wa t c : Nat) (ns : List Nat), vs = [.ref wa, .ref t] ∧ Ex G H ∧ WO G H wa c ∧ c < 900000 ∧ G t = some (.tup (ns.map fun n : Nat => V.int n)) ∧ ns.length ≤ 30 ∧
  ∀ (ns' : List Nat) G' H' t', ns'.Perm ns → Step (Wa wa) G H G' H' → WO G' H' wa (c + 30) → G' t' = some (.tup (ns'.map fun n : Nat => V.int n)) → Q (.ref t') H'
def spMore : Sp := fun vs H Q _ => ∃ (G : Hp) (wa c N : Nat) (s : Spot) (gv v : V), vs = [.ref wa, gv, v] ∧ Ex G H ∧ WO G H wa c ∧ c < 800000 ∧ Rep G s.d v ∧ s.rooms.length ≤ 10 ∧ (∀ n ∈ s.rooms, n ≤ N) ∧
  ∀ (ss : List Spot) G' H' v', (∀ s' ∈ ss, s'.room = s.room ∧ s'.st = s.st ∧ (∀ n ∈ s'.rooms, n ≤ N) ∧ s'.rooms.length ≤ 12 ∧ ∃ extra, s'.rooms.Perm (s.rooms ++ extra)) → ss.length ≤ 10 → Step (Wa wa) G H G' H' → WO G' H' wa (c + 100) → Rep G' (.lst (ss.map Spot.d)) v' → Q v' H'
section
variable {P : Program} {w : World} {K : PySem.W.Frag} {mg : Str → Option Value} {base : Heap}
theorem ok_less {k : Nat} (T : Txt K mg) (c_law_draw : Cal P w K mg base k "_law_draw" P_law_draw spDraw) : Cal P w K mg base (k + 1) "_law_less" P_law_less (spLess K) := by
  refine Cal.of T.fn_law_less sc_law_less (fun vs H Q E h => ?_) (fun f cdv A outer s H vs Q E hr h => ?_)
  · obtain ⟨_, _, _, _, _, _, _, rfl, _⟩ := h; rfl
  · obtain ⟨G, wa, c, lead, fs, hs, v, rfl, e, wo, hc, rv, lf, lh, nd, k⟩ := h
    obtain ⟨a, xs, rfl, ga, rx⟩ := rv.tup
    obtain ⟨x0, x1, x2, rfl, h0, h1, h2⟩ := rx.l3
    cases rep_optD h0
    obtain ⟨l1, y1, rfl, gl1, ry1⟩ := h1.lst
    cases ry1.strs
    obtain ⟨l2, hv, rfl, gl2, rh⟩ := h2.lst
    have lhv := rh.len
    rw [List.length_map] at lhv
    refine ⟨_, (pss_cons (ps_asg (pv 1) (k_gtup K (n := 3) rfl (pgs_cons (pg_name (i := 2) sc_law_less.nd rfl (Or.inl rfl)) (pgs_cons (pg_name (i := 3) sc_law_less.nd rfl (Or.inl rfl)) (pgs_cons (pg_name (i := 4) sc_law_less.nd rfl (Or.inl rfl)) pgs_nil)))))
    (pss_cons (ps_set (i := 3) sc_law_less.nd rfl (Or.inl rfl) (pe_callTy (k_listOf K) (by rfl) T.f_list (by decide +kernel) (pa_cons (pv 3) pa_nil)))
    (pss_cons (ps_for PassesOwn.never rfl (pi_range1 (by rfl) T.f_range (pa_cons (pc c_law_draw (hr.mono (by first | decide | omega)) (pa_cons (pv 0) (pa_cons (pe_op op_add (pe_callB (k_lenS K) (by rfl) T.f_len (by decide +kernel) (pa_cons (pv 3) pa_nil)) pe_int) pa_nil))) pa_nil)) (pg_name (i := 5) sc_law_less.nd rfl (Or.inl rfl))
      (pss_one (ps_expr (k_bm K PySem.F.plainAttrs_list PySem.F.slot_list_pop PySem.F.type_list_pop mt_popAt (pv 3) (pa_cons (pc c_law_draw (hr.mono (by first | decide | omega)) (pa_cons (pv 0) (pa_cons (pe_callB (k_lenS K) (by rfl) T.f_len (by decide +kernel) (pa_cons (pv 3) pa_nil)) pa_nil))) pa_nil)))))
    (pss_cons (ps_set (i := 6) sc_law_less.nd rfl (Or.inl rfl) (pc c_law_draw (hr.mono (by first | decide | omega)) (pa_cons (pv 0) (pa_cons (pe_op op_add (pe_callB (k_lenS K) (by rfl) T.f_len (by decide +kernel) (pa_cons (pv 4) pa_nil)) pe_int) pa_nil))))
    (pss_one (ps_ret (pe_tup (pa_cons (pe_ix (k_ixL K) (pe_lst (pa_cons (pv 2) (pa_cons pe_non pa_nil))) (pc c_law_draw (hr.mono (by first | decide | omega)) (pa_cons (pv 0) (pa_cons pe_int pa_nil))) (fun _ _ => rfl)) (pa_cons (k_revL K (pv 3)) (pa_cons (pe_slice (k_slL K) (pe_op op_cat (pe_slice (k_slL K) (pv 4) (po_some (pv 6)) po_none) (pe_slice (k_slL K) (pv 4) po_none (po_some (pv 6)))) po_none (po_some (pe_op op_add pe_int (pc c_law_draw (hr.mono (by first | decide | omega)) (pa_cons (pv 0) (pa_cons pe_int pa_nil)))))) pa_nil)))))))))), ?_⟩
    refine seqAsg ⟨_, rfl, g3 (sqT ga e) ?_⟩
    refine seqSet ⟨_, rfl, l1, _, rfl, .inl (sqL gl1 e), fun fr nf => ?_⟩
    generalize e1 : upd H fr _ = H1
    obtain ⟨S1, s1, F1⟩ := (Step.refl (W := Wa wa) e).newME nf e1
    have w1 := wo.go s1
    have nfw := wo.ne nf
    refine ⟨_, rfl, _, rfl, fr, _, rfl, .inl (.of F1.h), _, _, rfl, rfl, G, wa, c, (fs.map V.str).length + 1, rfl, S1.gh, w1, by omega, by omega, by rw [List.length_map]; omega, fun n H2 hn s2 w2 => ⟨_, rfl, by rw [List.length_map] at hn; omega, by rw [List.length_map] at hn; omega, ?_⟩⟩
    rw [List.length_map] at hn
    have S2 := S1.trans s2
    have F2 := F1.go s2 nfw
    rw [Int.toNat_natCast]
    refine for_range (fun i σ H3 => ∃ fl : List Str, Step (Wa wa) G H G H3 ∧ WO G H3 wa (c + 1 + i) ∧ Mi G H3 fr (.lst (fl.map V.str)) ∧ fl.Sublist fs ∧ fl.length + i = fs.length ∧ ∃ y5, σ = [some (.ref wa), some (.ref a), some (optV lead), some (.ref fr), some (.ref l2), y5, none])
      ⟨fs, S2, w2, F2, List.Sublist.refl _, rfl, _, rfl⟩ ?_ ?_
    · rintro i σ H3 hi ⟨fl, S3, w3, F3, sub, lfl, y5, rfl⟩
      refine ⟨_, rfl, .inl ⟨rfl, _, .of F3.h⟩, _, rfl, _, rfl, fr, _, rfl, .inl (.of F3.h), G, wa, c + 1 + i, (fl.map V.str).length, rfl, S3.gh, w3, by omega, by rw [List.length_map]; omega, by rw [List.length_map]; omega, fun d H4 hd s4 w4 => ?_⟩
      rw [List.length_map] at hd
      have F4 := F3.go s4 nfw
      obtain ⟨z, hz⟩ := some_of hd
      refine ⟨fr, _, d, d, .str z, rfl, rfl, F4.h, by omega, by omega, sq_nat (by rw [List.length_map]; exact hd), by rw [List.getElem?_map, hz]; rfl, ?_⟩
      generalize e5 : upd H4 fr _ = H5
      obtain ⟨S5, F5, n5⟩ := (S3.trans s4).mutE (.inr nf) F4 e5
      refine ⟨fl.eraseIdx d, S5, ?_, ?_, (List.eraseIdx_sublist _ _).trans sub, by rw [List.length_eraseIdx_of_lt hd]; omega, _, rfl⟩
      · obtain ⟨a, b, nn, M, q⟩ := w4.ex
        exact (WO.mk ⟨a, b, nn, ⟨(n5 wa nfw.symm).trans M.h, M.g⟩, q⟩ : WO G H5 wa _).up (by omega)
      · rw [erase_map] at F5
        exact F5
    · rintro σ H3 ⟨fl, S3, w3, F3, sub, lfl, y5, rfl⟩
      refine ⟨_, rfl, _, rfl, l2, _, rfl, .inl (sqL gl2 S3.gh), _, _, rfl, rfl, G, wa, c + 1 + n, hv.length + 1, rfl, S3.gh, w3, by omega, by omega, by omega, fun at_ H4 hat s4 w4 => ?_⟩
      have S4 := S3.trans s4
      have F4 := F3.go s4 nfw
      refine ⟨_, rfl, zs, fun l5 n5 => ?_⟩
      generalize e5 : upd H4 l5 _ = H5
      obtain ⟨G5, S5, s5, g5⟩ := S4.newDE n5 e5
      have w5 := w4.go s5
      refine ⟨_, rfl, G5, wa, c + 1 + n + 1, 2, rfl, S5.gh, w5, by omega, by decide, by decide, fun d H6 hd s6 w6 => ?_⟩
      have S6 := S5.trans s6
      have F6 := (F4.go s5).go s6 nfw
      have hl' : ∃ lead', [optV lead, V.non][d]? = some (optV lead') ∧ (lead' = lead ∨ lead' = none) := by
        match d, hd with
        | 0, _ => exact ⟨lead, rfl, .inl rfl⟩
        | 1, _ => exact ⟨none, rfl, .inr rfl⟩
      obtain ⟨lead', hld, hlead⟩ := hl'
      refine ⟨l5, _, d, _, rfl, rfl, sqL g5 S6.gh, at_nat hld, _, rfl, fr, _, rfl, .of F6.h, fun l7 n7 => ?_⟩
      generalize e7 : upd H6 l7 _ = H7
      obtain ⟨G7, S7, s7, g7⟩ := S6.newDE n7 e7
      have gl27 := S7.eg _ _ gl2
      refine ⟨_, rfl, _, rfl, _, rfl, l2, _, rfl, sqL gl27 S7.gh, fun l8 n8 => ?_⟩
      generalize e8 : upd H7 l8 _ = H8
      obtain ⟨G8, S8, s8, g8⟩ := S7.newDE n8 e8
      rw [slCut] at g8
      refine ⟨_, rfl, _, rfl, _, rfl, l2, _, rfl, sqL (s8.eg _ _ gl27) S8.gh, fun l9 n9 => ?_⟩
      generalize e9 : upd H8 l9 _ = H9
      obtain ⟨G9, S9, s9, g9⟩ := S8.newDE n9 e9
      rw [cut_take] at g9
      refine ⟨l8, l9, _, _, rfl, rfl, S9.gh _ _ (s9.eg _ _ g8), S9.gh _ _ g9, zl (by rw [List.length_drop, List.length_take]; omega), fun l10 n10 => ?_⟩
      generalize e10 : upd H9 l10 _ = H10
      obtain ⟨G10, S10, s10, g10⟩ := S9.newDE n10 e10
      have w10 := (((w6.go s7).go s8).go s9).go s10
      refine ⟨_, rfl, G10, wa, c + 1 + n + 1 + 1, 3, rfl, S10.gh, w10, by omega, by decide, by decide, fun d2 H11 hd2 s11 w11 => ⟨_, _, rfl, rfl, _, rfl, l10, _, rfl, sqL g10 s11.gh, fun l12 n12 => ?_⟩⟩
      have S11 := S10.trans s11
      generalize e12 : upd H11 l12 _ = H12
      obtain ⟨G12, S12, s12, g12⟩ := S11.newDE n12 e12
      have g12' : G12 l12 = some (.lst ((hv.drop at_ ++ hv.take at_).take (1 + d2))) := by
        rw [g12]
        exact congrArg (fun z => some (HO.lst z)) (by rw [show (1 + (d2 : Int)) = ((1 + d2 : Nat) : Int) by omega, cut_take])
      have w12 := w11.go s12
      refine ⟨zs, fun t13 n13 => ?_⟩
      generalize e13 : upd H12 t13 _ = H13
      obtain ⟨G13, S13, s13, g13⟩ := S12.newDE n13 e13
      have up713 : Ex G7 G13 := (s8.eg.trans (s9.eg.trans s10.eg)).trans (s11.eg.trans (s12.eg.trans s13.eg))
      refine k lead' fl.reverse ((hs.drop at_ ++ hs.take at_).take (1 + d2)) _ _ _ hlead (fun z => ?_) (by rw [List.length_reverse]; omega) (fun h hh => mem_rot hh) ?_ (nodup_rot nd) S13 ((w12.go s13).up (by omega)) ?_
      · rw [List.count_reverse]; exact sub.count_le z
      · rw [List.length_take, List.length_append, List.length_drop, List.length_take]; omega
      · refine rep_tup g13 ⟨_, _, rfl, rep_optV _, _, _, rfl, rep_lst (up713 _ _ g7) (by rw [← List.map_reverse]; exact RepL.of_strs _), _, _, rfl, rep_lst (s13.eg _ _ g12') ?_, rfl⟩
        rw [List.map_take, List.map_append, List.map_drop, List.map_take]
        have rr := rh.up S13.eg
        exact ((rr.drop at_).app (rr.take at_)).take (1 + d2)
theorem ok_mixed {k : Nat} (T : Txt K mg) (c_law_draw : Cal P w K mg base k "_law_draw" P_law_draw spDraw) : Cal P w K mg base (k + 1) "_law_mixed" P_law_mixed spMixed := by
  refine Cal.of T.fn_law_mixed sc_law_mixed (fun vs H Q E h => ?_) (fun f cdv A outer s H vs Q E hr h => ?_)
  · obtain ⟨_, _, _, _, _, rfl, _⟩ := h; rfl
  · obtain ⟨G, wa, t, c, ns, rfl, e, wo, hc, ht, ln, k⟩ := h
    refine ⟨_, (pss_cons (ps_set (i := 2) sc_law_mixed.nd rfl (Or.inl rfl) (pe_callTy (k_listOf K) (by rfl) T.f_list (by decide +kernel) (pa_cons (pv 1) pa_nil)))
    (pss_cons (ps_set (i := 3) sc_law_mixed.nd rfl (Or.inl rfl) (pe_lst pa_nil))
    (pss_cons (ps_for PassesOwn.never rfl (pi_range1 (by rfl) T.f_range (pa_cons (pe_callB (k_lenS K) (by rfl) T.f_len (by decide +kernel) (pa_cons (pv 1) pa_nil)) pa_nil)) (pg_name (i := 4) sc_law_mixed.nd rfl (Or.inl rfl))
      (pss_one (ps_expr (k_bm K PySem.F.plainAttrs_list PySem.F.slot_list_append PySem.F.type_list_append mt_append (pv 3) (pa_cons (k_bm K PySem.F.plainAttrs_list PySem.F.slot_list_pop PySem.F.type_list_pop mt_popAt (pv 2) (pa_cons (pc c_law_draw (hr.mono (by first | decide | omega)) (pa_cons (pv 0) (pa_cons (pe_callB (k_lenS K) (by rfl) T.f_len (by decide +kernel) (pa_cons (pv 2) pa_nil)) pa_nil))) pa_nil)) pa_nil)))))
    (pss_one (ps_ret (pe_callTy (k_tupOf K) (by rfl) T.f_tuple (by decide +kernel) (pa_cons (pv 3) pa_nil))))))), ?_⟩
    refine seqSet ⟨_, rfl, t, _, rfl, .inr (sqT ht e), fun fr nf => ?_⟩
    generalize e1 : upd H fr _ = H1
    obtain ⟨S1, s1, F1⟩ := (Step.refl (W := Wa wa) e).newME nf e1
    refine seqSet ⟨zs, fun fd nfd => ?_⟩
    generalize e2 : upd H1 fd _ = H2
    obtain ⟨S2, s2, D2⟩ := S1.newME nfd e2
    have F2 := F1.go s2
    have nff : fr ≠ fd := F1.ne' nfd
    have nfdH : H fd = none := S1.dm _ nfd
    have nfw := wo.ne nf
    have nfdw := wo.ne nfdH
    have w2 := (wo.go s1).go s2
    refine ⟨_, rfl, t, _, rfl, .inr (sqT ht S2.gh), _, rfl, by rw [List.length_map]; omega, by rw [List.length_map]; omega, ?_⟩
    rw [List.length_map, Int.toNat_natCast]
    refine for_range (fun i σ H3 => ∃ fl dl : List Nat, Step (Wa wa) G H G H3 ∧ WO G H3 wa (c + i) ∧ Mi G H3 fr (.lst (fl.map fun n : Nat => V.int n)) ∧ Mi G H3 fd (.lst (dl.map fun n : Nat => V.int n)) ∧ (dl ++ fl).Perm ns ∧ dl.length = i ∧ ∃ y, σ = [some (.ref wa), some (.ref t), some (.ref fr), some (.ref fd), y])
      ⟨ns, [], S2, w2, F2, D2, List.Perm.refl _, rfl, _, rfl⟩ ?_ ?_
    · rintro i σ H3 hi ⟨fl, dl, S3, w3, F3, D3, pm, ldl, y, rfl⟩
      have lp := pm.length_eq
      rw [List.length_append] at lp
      refine ⟨_, rfl, .inl ⟨rfl, _, .of D3.h⟩, _, rfl, .inl ⟨rfl, _, .of F3.h⟩, _, rfl, _, rfl, fr, _, rfl, .inl (.of F3.h), G, wa, c + i, (fl.map fun n : Nat => V.int n).length, rfl, S3.gh, w3, by omega, by rw [List.length_map]; omega, by rw [List.length_map]; omega, fun d H4 hd s4 w4 => ?_⟩
      rw [List.length_map] at hd
      have F4 := F3.go s4 nfw
      have D4 := D3.go s4 nfdw
      have hz : fl[d]? = some fl[d] := List.getElem?_eq_getElem hd
      refine ⟨fr, _, d, d, .int fl[d], rfl, rfl, F4.h, by omega, by omega, sq_nat (by rw [List.length_map]; exact hd), by rw [List.getElem?_map, hz]; rfl, ?_⟩
      generalize e5 : upd H4 fr _ = H5
      obtain ⟨S5, F5, n5⟩ := (S3.trans s4).mutE (.inr nf) F4 e5
      have D5 : Mi G H5 fd _ := ⟨(n5 fd nff.symm).trans D4.h, D4.g⟩
      refine ⟨fd, _, _, rfl, rfl, D5.h, zl' (by rw [List.length_map]; omega), ?_⟩
      generalize e6 : upd H5 fd _ = H6
      obtain ⟨S6, D6, n6⟩ := S5.mutE (.inr nfdH) D5 e6
      refine ⟨fl.eraseIdx d, dl ++ [fl[d]], S6, ?_, ⟨?_, F5.g⟩, ?_, ?_, by simp [ldl], _, rfl⟩
      · obtain ⟨a, b, nn, M, q⟩ := w4.ex
        exact (WO.mk ⟨a, b, nn, ⟨(n6 wa nfdw.symm).trans ((n5 wa nfw.symm).trans M.h), M.g⟩, q⟩ : WO G H6 wa _).up (by omega)
      · rw [← erase_map]
        exact (n6 fr nff).trans F5.h
      · rw [List.map_append]; exact D6
      · rw [List.append_assoc]
        exact ((erase_perm fl d hz).append_left dl).trans pm
    · rintro σ H3 ⟨fl, dl, S3, w3, F3, D3, pm, ldl, y, rfl⟩
      have lp := pm.length_eq
      rw [List.length_append] at lp
      have : fl = [] := List.eq_nil_of_length_eq_zero (by omega)
      subst this
      rw [List.append_nil] at pm
      refine ⟨_, rfl, fd, _, rfl, .inl ⟨.of D3.h, fun t4 n4 => ?_⟩⟩
      generalize e4 : upd H3 t4 _ = H4
      obtain ⟨G4, S4, s4, g4⟩ := S3.newDE n4 e4
      exact k dl _ _ t4 pm S4 ((w3.go s4).up (by omega)) g4
end
end K4

set_option maxHeartbeats 400000
/-! More followers. -/
namespace K4
open PySem L2
theorem spot_rep {G : Hp} {a t2 t3 : Addr} {s : Spot} (ha : G a = some (.tup [.int s.room, .ref t2, .ref t3])) (h2 : G t2 = some (.tup (s.st.map V.str))) (h3 : G t3 = some (.tup (s.rooms.map fun n : Nat => V.int n))) : Rep G s.d (.ref a) :=
  rep_tup ha ⟨_, _, rfl, rfl, _, _, rfl, rep_tup h2 (RepL.of_strs _), _, _, rfl, rep_tup h3 (nats_rep _), rfl⟩
section
variable {P : Program} {w : World} {K : PySem.W.Frag} {mg : Str → Option Value} {base : Heap}
theorem ok_more {k : Nat} (T : Txt K mg) (c_law_mixed : Cal P w K mg base k "_law_mixed" P_law_mixed spMixed) (c_law_of : Cal P w K mg base k "_law_of" P_law_of (spOf K)) : Cal P w K mg base (k + 1) "_law_more" P_law_more spMore := by
  refine Cal.of T.fn_law_more sc_law_more (fun vs H Q E h => ?_) (fun f cdv A outer s0 H vs Q E hr h => ?_)
  · obtain ⟨_, _, _, _, _, _, _, rfl, _⟩ := h; rfl
  · obtain ⟨G, wa, c, N, s, gv, v, rfl, e, wo, hc, rs, ln, hN, k⟩ := h
    obtain ⟨a, xs, rfl, ga, rx⟩ := rs.tup
    obtain ⟨x1, x2, x3, rfl, hx1, hx2, hx3⟩ := rx.l3
    cases hx1
    obtain ⟨t2, ys2, rfl, gt2, r2⟩ := hx2.tup
    cases r2.strs
    obtain ⟨t3, ys3, rfl, gt3, r3⟩ := hx3.tup
    cases nats_vs r3
    refine ⟨_, (pss_cons (ps_asg (pv 2) (k_gtup K (n := 3) rfl (pgs_cons (pg_name (i := 3) sc_law_more.nd rfl (Or.inl rfl)) (pgs_cons (pg_name (i := 4) sc_law_more.nd rfl (Or.inl rfl)) (pgs_cons (pg_name (i := 5) sc_law_more.nd rfl (Or.inl rfl)) pgs_nil)))))
    (pss_cons (ps_set (i := 6) sc_law_more.nd rfl (Or.inl rfl) (pe_lst (pa_cons (pe_tup (pa_cons (pv 3) (pa_cons (pv 4) (pa_cons (pc c_law_mixed (hr.mono (by first | decide | omega)) (pa_cons (pv 0) (pa_cons (pv 5) pa_nil))) pa_nil)))) pa_nil)))
    (pss_cons (ps_for PassesOwn.never rfl (pi_range1 (by rfl) T.f_range (pa_cons pe_int pa_nil)) (pg_name (i := 7) sc_law_more.nd rfl (Or.inl rfl))
      (pss_cons (ps_set (i := 5) sc_law_more.nd rfl (Or.inl rfl) (pc c_law_mixed (hr.mono (by first | decide | omega)) (pa_cons (pv 0) (pa_cons (pe_op (k_catJ K) (pv 5) (pe_tup (pa_cons (pc c_law_of (hr.mono (by first | decide | omega)) (pa_cons (pv 0) (pa_cons (pe_op (k_catJ K) (pv 5) (pe_tup (pa_cons pe_int pa_nil))) pa_nil))) pa_nil))) pa_nil))))
      (pss_one (ps_expr (k_bm K PySem.F.plainAttrs_list PySem.F.slot_list_append PySem.F.type_list_append mt_append (pv 6) (pa_cons (pe_tup (pa_cons (pv 3) (pa_cons (pv 4) (pa_cons (pv 5) pa_nil)))) pa_nil))))))
    (pss_one (ps_ret (pv 6)))))), ?_⟩
    refine seqAsg ⟨_, rfl, g3 (sqT ga e) ?_⟩
    refine seqSet ⟨_, rfl, _, rfl, _, rfl, _, rfl, G, wa, t3, c, s.rooms, rfl, e, wo, by omega, gt3, by omega, fun ns1 G1 H1 t4 pm1 s1 w1 g1 => ?_⟩
    refine ⟨zs, fun t5 n5 => ?_⟩
    generalize e5 : upd H1 t5 _ = H5
    obtain ⟨G5, S5, s5, g5⟩ := s1.newDE n5 e5
    refine ⟨zs, fun fo nfo => ?_⟩
    generalize e6 : upd H5 fo _ = H6
    obtain ⟨S6, s6, F6⟩ := S5.newME nfo e6
    have w6 := (w1.go s5).go s6
    have nfw := (w1.go s5).ne nfo
    have nfoH : H fo = none := S5.dm _ nfo
    have l1 := pm1.length_eq
    refine ⟨2, rfl, by decide, by decide, ?_⟩
    refine for_range (fun i σ H7 => ∃ (G7 : Hp) (t : Addr) (ns : List Nat) (ss : List Spot) (us : List V), Step (Wa wa) G H G7 H7 ∧ WO G7 H7 wa (c + 30 + 31 * i) ∧ Mi G7 H7 fo (.lst us) ∧ RepL G7 (ss.map Spot.d) us ∧ ss.length = 1 + i ∧
        G7 t = some (.tup (ns.map fun n : Nat => V.int n)) ∧ ns.length = s.rooms.length + i ∧ (∀ n ∈ ns, n ≤ N) ∧ (∃ ex, ns.Perm (s.rooms ++ ex)) ∧ (∀ s' ∈ ss, s'.room = s.room ∧ s'.st = s.st ∧ (∀ n ∈ s'.rooms, n ≤ N) ∧ s'.rooms.length ≤ 12 ∧ ∃ extra, s'.rooms.Perm (s.rooms ++ extra)) ∧
        ∃ y7, σ = [some (.ref wa), some gv, some (.ref a), some (.int s.room), some (.ref t2), some (.ref t), some (.ref fo), y7])
      ⟨G5, t3, s.rooms, [⟨s.room, s.st, ns1⟩], _, S6, w6, F6, ⟨_, _, rfl, spot_rep (s := ⟨s.room, s.st, ns1⟩) g5 ((s1.eg.trans s5.eg) _ _ gt2) (s5.eg _ _ g1), rfl⟩, rfl, (s1.eg.trans s5.eg) _ _ gt3, rfl, hN, ⟨[], by rw [List.append_nil]⟩, fun s' hs' => ?_, _, rfl⟩ ?_ ?_
    · rw [List.mem_singleton.mp hs']
      exact ⟨rfl, rfl, fun n hn => hN n (pm1.mem_iff.mp hn), by simp only; omega, [], by rw [List.append_nil]; exact pm1⟩
    · rintro i σ H7 hi ⟨G7, t, ns, ss, us, S7, w7, F7, ru, lss, gt, lns, hns, ⟨exr, hex⟩, okss, y7, rfl⟩
      have lus := ru.len
      rw [List.length_map] at lus
      have hi : i < 2 := hi
      refine ⟨_, rfl, _, rfl, _, rfl, _, rfl, zs, fun u1 n1 => ?_⟩
      generalize e8 : upd H7 u1 _ = H8
      obtain ⟨G8, S8, s8, g8⟩ := S7.newDE n1 e8
      refine ⟨t, u1, _, _, rfl, rfl, sqT (s8.eg _ _ gt) S8.gh, sqT g8 S8.gh, zl (by simp; omega), fun p9 H9 h9 => ?_⟩
      obtain ⟨G9, s9, g9⟩ := h9.step S8.gh (s8.eg _ _ gt) g8
      have w9 := (w7.go s8).go s9
      have hz : ∃ zs9 : List Nat, (ns.map (fun n : Nat => V.int n)) ++ [V.int 0] = zs9.map (fun n : Nat => V.int n) ∧ (∀ n ∈ zs9, n ≤ N) ∧ zs9.length = ns.length + 1 := ⟨ns ++ [0], by rw [List.map_append]; rfl, fun n hn => by
        rcases List.mem_append.mp hn with h | h
        · exact hns n h
        · rw [List.mem_singleton.mp h]; exact Nat.zero_le _, by simp⟩
      obtain ⟨zs9, ez, hzN, lz9⟩ := hz
      rw [ez] at g9
      refine ⟨G9, wa, c + 30 + 31 * i, zs9.length, .ref p9, rfl, s9.gh, w9, by omega, .inr ⟨_, sqT g9 s9.gh, by rw [List.length_map]⟩, by omega, by omega, fun d H10 hd s10 w10 => ?_⟩
      have hd9 : zs9[d]? = some zs9[d] := List.getElem?_eq_getElem hd
      have S10 := (S8.trans s9).trans s10
      refine .inr (.inl ⟨p9, _, d, .int zs9[d], rfl, rfl, sqT g9 s10.gh, at_nat (by rw [List.getElem?_map, hd9]; rfl), zs, fun u4 n4 => ?_⟩)
      generalize e11 : upd H10 u4 _ = H11
      obtain ⟨G11, S11, s11, g11⟩ := S10.newDE n4 e11
      have w11 := w10.go s11
      have gt11 := (s8.eg.trans (s9.eg.trans s11.eg)) _ _ gt
      refine ⟨t, u4, _, _, rfl, rfl, sqT gt11 S11.gh, sqT g11 S11.gh, zl (by simp; omega), fun p12 H12 h12 => ?_⟩
      obtain ⟨G12, s12, g12⟩ := h12.step S11.gh gt11 g11
      have g12' : G12 p12 = some (.tup ((ns ++ [zs9[d]]).map fun n : Nat => V.int n)) := by rw [g12, List.map_append]; rfl
      have S12 := S11.trans s12
      refine ⟨G12, wa, p12, c + 30 + 31 * i + 1, ns ++ [zs9[d]], rfl, s12.gh, w11.go s12, by omega, g12', by simp; omega, fun ns13 G13 H13 t13 pm13 s13 w13 g13 => ?_⟩
      have S13 := S12.trans s13
      have up := s8.eg.trans (s9.eg.trans (s11.eg.trans (s12.eg.trans s13.eg)))
      have F13 := (((((F7.go s8).go s9).go s10 nfw).go s11).go s12).go s13 nfw
      refine ⟨_, rfl, .inl ⟨rfl, _, .of F13.h⟩, _, rfl, _, rfl, _, rfl, zs, fun t14 n14 => ?_⟩
      generalize e14 : upd H13 t14 _ = H14
      obtain ⟨G14, S14, s14, g14⟩ := S13.newDE n14 e14
      have F14 := F13.go s14
      refine ⟨fo, _, _, rfl, rfl, F14.h, zl' (by omega), ?_⟩
      generalize e15 : upd H14 fo _ = H15
      obtain ⟨S15, F15, n15⟩ := S14.mutE (.inr nfoH) F14 e15
      have l13 := pm13.length_eq
      have h13 : ∀ n ∈ ns13, n ≤ N := fun n hn => by
        rcases List.mem_append.mp (pm13.mem_iff.mp hn) with h | h
        · exact hns n h
        · rw [List.mem_singleton.mp h]; exact hzN _ (List.getElem_mem hd)
      have pe13 : ∃ ex, ns13.Perm (s.rooms ++ ex) := ⟨exr ++ [zs9[d]], by rw [← List.append_assoc]; exact pm13.trans (hex.append_right _)⟩
      refine ⟨G14, t13, ns13, ss ++ [⟨s.room, s.st, ns13⟩], _, S15, ?_, F15, ?_, by rw [List.length_append, lss]; rfl, s14.eg _ _ g13, by rw [l13]; simp; omega, h13, pe13, fun s' hs' => ?_, _, rfl⟩
      · obtain ⟨a, b, nn, M, q⟩ := (w13.go s14).ex
        exact (WO.mk ⟨a, b, nn, ⟨(n15 wa nfw.symm).trans M.h, M.g⟩, q⟩ : WO G14 H15 wa _).up (by omega)
      · rw [List.map_append]
        exact (ru.up (up.trans s14.eg)).snoc (spot_rep (s := ⟨s.room, s.st, ns13⟩) g14 (S14.eg _ _ gt2) (s14.eg _ _ g13))
      · rcases List.mem_append.mp hs' with h | h
        · exact okss s' h
        · rw [List.mem_singleton.mp h]
          exact ⟨rfl, rfl, h13, by simp only; rw [l13]; simp; omega, pe13⟩
    · rintro σ H7 ⟨G7, t, ns, ss, us, S7, w7, F7, ru, lss, gt, lns, hns, hex, okss, y7, rfl⟩
      obtain ⟨G8, S8, e78, g8, n8⟩ := S7.frzE nfoH F7
      have w8 : WO G8 H7 wa (c + 30 + 31 * (2 : Int).toNat) := by
        obtain ⟨a, b, nn, M, q⟩ := w7.ex
        exact ⟨a, b, nn, ⟨M.h, by rw [n8 _ nfw.symm]; exact M.g⟩, q⟩
      have two : (2 : Int).toNat = 2 := rfl
      rw [two] at lss w8
      exact ⟨_, rfl, k ss _ _ _ okss (by omega) S8 (w8.up (by omega)) (rep_lst g8 (ru.up e78))⟩
end
end K4

set_option maxHeartbeats 400000
/-! Questions that a moment does not meet. -/
namespace K4
open PySem L2
abbrev Ask := Option Str × List Str × List (Str × Str)
def ask3 (q : Ask) : D := askD q.1 q.2.1 q.2.2
structure WrongQ (p : Plan) (r0 r1 : Row) (s : Spot) (q : Ask) : Prop where
  ok : QOk p r0 r1 q.1 q.2.1 q.2.2
  nd : (q.2.2.map Prod.fst).Nodup
  no : ¬ Met p r0 r1 q.1 q.2.1 q.2.2 s
def spWrong : Sp := fun vs H Q _ => ∃ (G : Hp) (g : Addr) (p : Plan) (r0 r1 : Row) (m0 m1 : List Rm) (s : Spot) (wv v : V), vs = [wv, .ref g, v] ∧ Ex G H ∧ WoO G g p r0 r1 m0 m1 ∧ WoOk p r0 r1 m0 m1 ∧ SpotOk p r0 r1 s ∧ Rep G s.d v ∧
  ∀ (qs : List Ask) G' H' v', (∀ q ∈ qs, WrongQ p r0 r1 s q) → qs.length ≤ 500 → Step NoW G H G' H' → Rep G' (.lst (qs.map ask3)) v' → Q v' H'
theorem eqv_pair (a b c d : Str) : PyData.eqv (.tuple [.str a, .str b]) (.tuple [.str c, .str d]) = true ↔ a = c ∧ b = d := by
  simp [PyData.eqv, PyData.eqvAll]
theorem toPys_any {c v : Str} : ∀ {hs : List (Str × Str)}, ((toPys (hs.map pairD)).any fun z => PyData.eqv z (.tuple [.str c, .str v])) = true ↔ (c, v) ∈ hs
  | [] => by simp [toPys]
  | x :: hs => by
    rw [List.map_cons]
    show ((toPy (pairD x) :: toPys (hs.map pairD)).any _) = true ↔ _
    rw [List.any_cons, Bool.or_eq_true, toPys_any, List.mem_cons]
    refine or_congr ?_ Iff.rfl
    show PyData.eqv (.tuple [.str x.1, .str x.2]) _ = true ↔ _
    rw [eqv_pair]
    constructor
    · rintro ⟨h1, h2⟩; rw [← h1, ← h2]
    · intro h; rw [← h]; exact ⟨rfl, rfl⟩
theorem shaped_pairs : ∀ {hs : List (Str × Str)}, (∀ h ∈ hs, NameOk h.1 ∧ NameOk h.2) → PyData.canLayAll0 (toPys (hs.map pairD)) = true ∧ PyData.depthAll (toPys (hs.map pairD)) ≤ 1
  | [], _ => by simp [toPys, PyData.canLayAll0, PyData.depthAll]
  | x :: hs, h => by
    have ih := shaped_pairs (hs := hs) fun y hy => h y (List.mem_cons_of_mem _ hy)
    obtain ⟨h1, h2⟩ := h x List.mem_cons_self
    simp [toPys, pairD, toPy, PyData.canLayAll0, PyData.canLay0, PyData.depthAll, PyData.depth, strOk_name h1, strOk_name h2, ih.1, ih.2]
theorem full_names {p : Plan} {s : Spot} (ok : PlanOk p) (so : StOk p s.st) : ∀ h ∈ fullHs p s, NameOk h.1 ∧ NameOk h.2 := by
  intro h hh
  obtain ⟨j, hj⟩ := List.getElem?_of_mem hh
  unfold fullHs at hj
  rw [List.getElem?_zip_eq_some] at hj
  obtain ⟨c, hc, e⟩ := map_some hj.1
  have hv := so.vals j c h.2 hc hj.2
  rw [e]
  exact ⟨ok.nm c (mem_of hc), (ok.vl c (mem_of hc)).2.2.2 _ hv⟩
theorem not_held {p : Plan} {s : Spot} {c v : Str} (h : (c, v) ∉ fullHs p s) : ¬ Held p [(c, v)] s.st := by
  intro hd
  obtain ⟨j, d, hj, hd1, hs⟩ := hd (c, v) (List.mem_singleton.mpr rfl)
  refine h (List.mem_of_getElem? (i := j) ?_)
  unfold fullHs
  rw [List.getElem?_zip_eq_some]
  exact ⟨by rw [List.getElem?_map, hj]; exact congrArg some hd1, hs⟩
section
variable {P : Program} {w : World} {K : PySem.W.Frag} {mg : Str → Option Value} {base : Heap}
theorem ok_wrong {k : Nat} (T : Txt K mg) (c_law_full : Cal P w K mg base k "_law_full" P_law_full spFull) (c_law_marks : Cal P w K mg base k "_law_marks" P_law_marks spLMarks) : Cal P w K mg base (k + 1) "_law_wrong" P_law_wrong spWrong := by
  refine Cal.of T.fn_law_wrong sc_law_wrong (fun vs H Q E h => ?_) (fun f cdv A outer s0 H vs Q E hr h => ?_)
  · obtain ⟨_, _, _, _, _, _, _, _, _, _, rfl, _⟩ := h; rfl
  · obtain ⟨G, g, p, r0, r1, m0, m1, s, wv, v, rfl, e, wo, wok, oks, rs, k⟩ := h
    obtain ⟨kvs, qv, rv, mv, g0, v1, v2, v3, rp, rr, rm⟩ := wo.ex
    obtain ⟨pa, pxs, rfl, gp, rpx⟩ := rp.lst
    have lpx := rpx.len
    rw [List.length_map] at lpx
    have phi := wok.pl.hi
    obtain ⟨a, xs, rfl, ga, rx⟩ := rs.tup
    obtain ⟨x1, x2, x3, rfl, hx1, hx2, hx3⟩ := rx.l3
    cases hx1
    obtain ⟨t2, ys2, rfl, gt2, r2⟩ := hx2.tup
    cases r2.strs
    obtain ⟨t3, ys3, rfl, gt3, r3⟩ := hx3.tup
    cases nats_vs r3
    have few := oks.few
    refine ⟨_, (pss_cons (ps_asg (pc c_law_full (hr.mono (by first | decide | omega)) (pa_cons (pv 1) (pa_cons (pv 2) pa_nil))) (k_gtup K (n := 3) rfl (pgs_cons (pg_name (i := 3) sc_law_wrong.nd rfl (Or.inr rfl)) (pgs_cons (pg_name (i := 4) sc_law_wrong.nd rfl (Or.inl rfl)) (pgs_cons (pg_name (i := 5) sc_law_wrong.nd rfl (Or.inr rfl)) pgs_nil)))))
    (pss_cons (ps_setLc (i := 6) (own := [("_law_one", 11)]) (by rfl) sc_law_wrong.nd rfl rfl (sw_true rfl rfl rfl (by decide +kernel)) (k_tup K (pe_ix (k_ixT K) (pv 2) pe_int (fun _ _ => rfl))) (blkOk_by (own := [("_law_one", 11)]) (N := N_law_wrong) (by kernel_rfl)) (fun _ _ _ _ _ => (pg_name (i := 11) sc_law_wrong.nd rfl (Or.inl rfl))) (fun _ _ _ _ _ => pts_nil) (fun _ _ _ _ _ => (pe_ix (k_ixT K) (pe_ix (k_ixL K) (pe_ix (k_ixL K) (pe_dget (hu_of hr) (pv 1) pe_str (fun _ _ => rfl)) pe_int (fun _ _ => rfl)) (pv 11) (fun _ _ => rfl)) pe_int (fun _ _ => rfl))))
    (pss_cons (ps_set (i := 7) sc_law_wrong.nd rfl (Or.inl rfl) (pe_lst pa_nil))
    (pss_cons (ps_for PassesOwn.never rfl (k_list K (pc c_law_marks (hr.mono (by first | decide | omega)) (pa_cons (pv 1) (pa_cons pe_int pa_nil)))) (pg_name (i := 8) sc_law_wrong.nd rfl (Or.inl rfl))
      (pss_one (ps_if (pt_cmpR op_lt (k_bm K PySem.F.plainAttrs_list PySem.F.slot_list_count PySem.F.type_list_count (k_cntL K) (pv 6) (pa_cons (pv 8) pa_nil)) pe_int (by first | exact nomark _ | rfl))
        (pss_one (ps_expr (k_bm K PySem.F.plainAttrs_list PySem.F.slot_list_append PySem.F.type_list_append mt_append (pv 7) (pa_cons (pe_tup (pa_cons pe_non (pa_cons (pe_op op_rep (pe_lst (pa_cons (pv 8) pa_nil)) (pe_op op_add (k_bm K PySem.F.plainAttrs_list PySem.F.slot_list_count PySem.F.type_list_count (k_cntL K) (pv 6) (pa_cons (pv 8) pa_nil)) pe_int)) (pa_cons (pe_lst pa_nil) pa_nil)))) pa_nil))))
        pss_nil)))
    (pss_cons (ps_for PassesOwn.never rfl (k_list K (pe_dget (hu_of hr) (pv 1) pe_str (fun _ _ => rfl))) (k_gtup K (n := 2) rfl (pgs_cons (pg_name (i := 9) sc_law_wrong.nd rfl (Or.inr rfl)) (pgs_cons (pg_name (i := 10) sc_law_wrong.nd rfl (Or.inl rfl)) pgs_nil)))
      (pss_one (ps_expr (k_bm K PySem.F.plainAttrs_list PySem.F.slot_list_extend PySem.F.type_list_extend mt_extend (pv 7) (pa_cons (pe_lc (own := [("_law_value", 12)]) (by rfl) sc_law_wrong.nd (k_list K (pv 10)) (blkOk_by (own := [("_law_value", 12)]) (N := N_law_wrong) (by kernel_rfl)) (fun _ _ _ _ _ => (pg_name (i := 12) sc_law_wrong.nd rfl (Or.inl rfl))) (fun _ _ _ _ _ => (pts_one (pt_cmpR (k_ninD K (hu65 hr)) (pe_tup (pa_cons (pv 9) (pa_cons (pv 12) pa_nil))) (pv 5) (by first | exact nomark _ | rfl)))) (fun _ _ _ _ _ => (pe_tup (pa_cons pe_non (pa_cons (pe_lst pa_nil) (pa_cons (pe_lst (pa_cons (pe_tup (pa_cons (pv 9) (pa_cons (pv 12) pa_nil))) pa_nil)) pa_nil)))))) pa_nil)))))
    (pss_cons (ps_expr (k_bm K PySem.F.plainAttrs_list PySem.F.slot_list_extend PySem.F.type_list_extend mt_extend (pv 7) (pa_cons (pe_lc (own := [("_law_name", 8)]) (by rfl) sc_law_wrong.nd (k_list K (pc c_law_marks (hr.mono (by first | decide | omega)) (pa_cons (pv 1) (pa_cons pe_int pa_nil)))) (blkOk_by (own := [("_law_name", 8)]) (N := N_law_wrong) (by kernel_rfl)) (fun _ _ _ _ _ => (pg_name (i := 8) sc_law_wrong.nd rfl (Or.inl rfl))) (fun _ _ _ _ _ => (pts_one (pt_cmpR op_ne (pv 8) (pv 3) (by first | exact nomark _ | rfl)))) (fun _ _ _ _ _ => (pe_tup (pa_cons (pv 8) (pa_cons (pe_lst pa_nil) (pa_cons (pe_lst pa_nil) pa_nil)))))) pa_nil)))
    (pss_one (ps_ret (pv 7))))))))), ?_⟩
    refine seqAsg ⟨_, rfl, _, rfl, G, g, p, r0, r1, m0, m1, s, .ref a, rfl, e, wo, wok, oks, rs, fun G1 H1 fv s1 rf => ?_⟩
    obtain ⟨fa, fxs, rfl, gfa, rfx⟩ := rf.tup
    obtain ⟨f0, f1, f2, rfl, hf0, hf1, hf2⟩ := rfx.l3
    cases rep_optD hf0
    obtain ⟨ph, pvs, rfl, gph, rph⟩ := hf2.lst
    refine g3 (sqT gfa s1.gh) ?_
    refine seqSet ⟨_, rfl, a, _, 2, _, rfl, rfl, sqT (s1.eg _ _ ga) s1.gh, at_nat (i := 2) rfl, t3, rfl, ⟨_, sqT (s1.eg _ _ gt3) s1.gh⟩, fun L nL => ?_⟩
    refine lcD s.rooms (fun n => some (optD (markAt r1 n))) (walkT (by simp)) (by omega) s1.gh nL (fun H2 e2 => sqT (s1.eg _ _ gt3) (s1.gh.trans e2)) ?_ ?_
    · rintro i n x G2 H2 H2' K1 K0 hn s2 ⟨rfl, ex⟩ k1 k0
      rw [List.getElem?_map, hn] at ex
      cases ex
      obtain ⟨ma, mxs, b, ys, t, l, es, zz, rfl, gma, hmx, gb, hy, gt, _⟩ := room_at rm wok.n0 wok.n1 (i := 1) (n := n) (by decide) (oks.rooms n (mem_of hn))
      have e02 : Ex G H2' := (s1.eg.trans s2.eg).trans s2.gh
      refine ⟨rfl, _, rfl, g, _, rfl, v3 ▸ DGet.k (k := .inr "rooms") (e02 _ _ g0), ma, mxs, 1, _, rfl, rfl, sqL gma e02, at_nat (i := 1) hmx, ?_⟩
      refine ⟨.int n, ?g11, b, ys, n, _, rfl, rfl, sqL gb e02, at_nat hy, t, _, 0, _, rfl, rfl, sqT gt e02, at_nat (i := 0) rfl, k1 _ _ _ _ rfl (Step.refl s2.gh) (rep_optV _)⟩
      case g11 =>
        rw [List.getElem?_set_self]
        simp only [List.length_set, wipe_length]
        exact (by decide : 11 < 13)
    rintro G2 H2 thv s2 hL gL rz
    rw [filterMap_some] at rz
    have S2 := s1.trans s2
    obtain ⟨G3, S3, e23, g3', _⟩ := S2.frzE (s1.dm _ nL) ⟨hL, gL⟩
    have eth : thv = (s.rooms.map (markAt r1)).map optV := by
      have : ∀ (l : List Nat) (vs : List V), RepL G2 (l.map fun n => optD (markAt r1 n)) vs → vs = (l.map (markAt r1)).map optV := by
        intro l
        induction l with
        | nil => intro vs h; exact h
        | cons n l ih =>
          intro vs h
          obtain ⟨x, r, rfl, hx, hr⟩ := h.c1
          rw [rep_optD hx, ih _ hr]; rfl
      exact this _ _ rz
    subst eth
    refine seqSet ⟨zs, fun fo nfo => ?_⟩
    generalize e4 : upd H2 fo _ = H4
    obtain ⟨S4, s4, F4⟩ := S3.newME nfo e4
    have nfoH : H fo = none := S2.dm _ nfo
    refine ⟨_, rfl, G3, g, p, r0, r1, m0, m1, 1, rfl, S4.gh, wo.up S4.eg, wok, by decide, fun ms G5 H5 lm hms lms s5 glm => ?_⟩
    have S5 := S4.trans s5
    refine ⟨lm, rfl, ⟨_, sqL glm S5.gh⟩, ?_⟩
    refine for_list (xs := ms.map V.str) (fun i σ H6 => ∃ (G6 : Hp) (qs : List Ask) (us : List V), Step NoW G H G6 H6 ∧ Ex G5 G6 ∧ Mi G6 H6 fo (.lst us) ∧ RepL G6 (qs.map ask3) us ∧ qs.length ≤ i ∧ (∀ q ∈ qs, WrongQ p r0 r1 s q) ∧
        ∃ y4 y8, σ = [some wv, some (.ref g), some (.ref a), some (optV (fullLead r0 s)), y4, some (.ref ph), some (.ref L), some (.ref fo), y8, none, none, none, none])
      ⟨G5, [], [], S5, Ex.rfl' _, F4.go s5, rfl, Nat.le_refl _, by simp, _, _, rfl⟩ (fun i σ H6 _ ⟨G6, _, _, S6, e56, _⟩ => sqL (e56 _ _ glm) S6.gh) ?_ ?_
    · rintro i x σ H6 ex ⟨G6, qs, us, S6, e56, F6, ru, lqs, okqs, y4, y8, rfl⟩
      obtain ⟨z, hz, rfl⟩ := map_some ex
      have hi := lt_of_some hz
      have lus := ru.len
      rw [List.length_map] at lus
      have gL6 : G6 L = some (.lst ((s.rooms.map (markAt r1)).map optV)) := (s5.eg.trans e56) _ _ g3'
      refine ⟨_, rfl, .inl ⟨rfl, _, sqL gL6 S6.gh⟩, _, rfl, L, _, .str z, rfl, rfl, sqL gL6 S6.gh, rfl, flat_opt _, _, _, rfl, rfl, _, rfl, if2 (fun hc => ?_) (fun _ => ⟨G6, qs, us, S6, e56, F6, ru, by omega, okqs, _, _, rfl⟩)⟩
      have hc := of_decide_eq_true hc
      rw [cnt_opt] at hc
      refine ⟨_, rfl, .inl ⟨rfl, _, .of F6.h⟩, _, rfl, zs, fun l7 n7 => ?_⟩
      generalize e7 : upd H6 l7 _ = H7
      obtain ⟨G7, S7, s7, g7⟩ := S6.newDE n7 e7
      have gL7 := s7.eg _ _ gL6
      refine ⟨_, rfl, .inl ⟨rfl, _, sqL gL7 S7.gh⟩, _, rfl, L, _, .str z, rfl, rfl, sqL gL7 S7.gh, rfl, flat_opt _, _, _, rfl, rfl, l7, _, _, rfl, rfl, S7.gh _ _ g7, by omega, ?_, ?_, fun l8 n8 => ?_⟩
      · rw [cnt_opt]; omega
      · rw [cnt_opt]
        exact zl (by
          have : (((s.rooms.map (markAt r1)).count (some z) : Nat) + (1 : Int)).toNat ≤ 7 := by omega
          show 1 * _ ≤ 1000000
          omega)
      generalize e8 : upd H7 l8 _ = H8
      obtain ⟨G8, S8, s8, g8⟩ := S7.newDE n8 e8
      refine ⟨zs, fun l9 n9 => ?_⟩
      generalize e9 : upd H8 l9 _ = H9
      obtain ⟨G9, S9, s9, g9⟩ := S8.newDE n9 e9
      refine ⟨zs, fun t10 n10 => ?_⟩
      generalize e10 : upd H9 t10 _ = H10
      obtain ⟨G10, S10, s10, g10⟩ := S9.newDE n10 e10
      have F10 := (((F6.go s7).go s8).go s9).go s10
      refine ⟨fo, _, _, rfl, rfl, F10.h, zl' (by omega), ?_⟩
      generalize e11 : upd H10 fo _ = H11
      obtain ⟨S11, F11, _⟩ := S10.mutE (.inr nfoH) F10 e11
      have up := s7.eg.trans (s8.eg.trans (s9.eg.trans s10.eg))
      let n1 := (s.rooms.map (markAt r1)).count (some z) + 1
      have erep : (List.replicate (((cntV (V.str z) ((s.rooms.map (markAt r1)).map optV) : Nat) : Int) + 1).toNat [V.str z]).flatten = (List.replicate n1 z).map V.str := by
        rw [cnt_opt, show (((s.rooms.map (markAt r1)).count (some z) : Nat) + (1 : Int)).toNat = n1 by show _ = _ + 1; omega]
        generalize n1 = q
        induction q with
        | zero => rfl
        | succ q ih => rw [List.replicate_succ, List.flatten_cons, ih]; rfl
      have g8' : G8 l8 = some (.lst ((List.replicate n1 z).map V.str)) := g8.trans (congrArg (fun z => some (HO.lst z)) erep)
      refine ⟨G10, qs ++ [(none, List.replicate n1 z, [])], _, S11, e56.trans up, F11, ?_, by simp; omega, fun q hq => ?_, _, _, rfl⟩
      · rw [List.map_append]
        exact (ru.up up).snoc (rep_tup g10 ⟨_, _, rfl, rfl, _, _, rfl, rep_lst ((s9.eg.trans s10.eg) _ _ g8') (RepL.of_strs _), _, _, rfl, rep_lst (s10.eg _ _ g9) .nil, rfl⟩)
      · rcases List.mem_append.mp hq with h | h
        · exact okqs q h
        · rw [List.mem_singleton.mp h]
          refine ⟨⟨fun z' h => (by cases h), fun z' h => ?_, fun h hh => (by cases hh), by rw [List.length_replicate]; show _ + 1 ≤ 6; omega, by simp⟩, by simp, fun hm => ?_⟩
          · rw [List.eq_of_mem_replicate h]; exact hms z (mem_of hz)
          · have := hm.2.2 z (List.mem_replicate.mpr ⟨by show _ + 1 ≠ 0; omega, rfl⟩)
            simp only at this
            rw [List.count_replicate_self] at this
            have : (s.rooms.map (markAt r1)).count (some z) + 1 ≤ (s.rooms.map (markAt r1)).count (some z) := this
            omega
    · rintro σ H6 ⟨G6, qs0, us0, S6, e56, F6, ru0, lqs0, okqs0, y4, y8, rfl⟩
      rw [List.length_map] at lqs0
      refine ⟨_, rfl, g, _, rfl, v1 ▸ DGet.k (k := .inr "plan") (S6.gh _ _ (S6.eg _ _ g0)), pa, rfl, ⟨_, sqL (S6.eg _ _ gp) S6.gh⟩, ?_⟩
      refine for_list (xs := pxs) (fun i σ H7 => ∃ (G7 : Hp) (qs : List Ask) (us : List V), Step NoW G H G7 H7 ∧ Ex G6 G7 ∧ Mi G7 H7 fo (.lst us) ∧ RepL G7 (qs.map ask3) us ∧ qs.length ≤ 25 + 4 * i ∧ (∀ q ∈ qs, WrongQ p r0 r1 s q) ∧
          ∃ y4 y8 y9 y10, σ = [some wv, some (.ref g), some (.ref a), some (optV (fullLead r0 s)), y4, some (.ref ph), some (.ref L), some (.ref fo), y8, y9, y10, none, none])
        ⟨G6, qs0, us0, S6, Ex.rfl' _, F6, ru0, by omega, okqs0, _, _, _, _, rfl⟩ (fun i σ H7 _ ⟨G7, _, _, S7, _⟩ => sqL (S7.eg _ _ gp) S7.gh) ?_ ?_
      · rintro i x σ H7 ex ⟨G7, qs, us, S7, e67, F7, ru, lqs, okqs, y4, y8, y9, y10, rfl⟩
        obtain ⟨c, hc, rc⟩ := rpx.map ex
        have hi := lt_of_some hc
        obtain ⟨b, l, rfl, gb, gl⟩ := rep_cell (rc.up S7.eg)
        have okc := wok.pl.vl c (mem_of hc)
        have lus := ru.len
        rw [List.length_map] at lus
        refine g2 (sqT gb S7.gh) ⟨_, rfl, .inl ⟨rfl, _, .of F7.h⟩, _, rfl, l, rfl, ⟨_, sqL gl S7.gh⟩, fun M nM => ?_⟩
        have gph7 : G7 ph = some (.lst pvs) := (e23.trans (s4.eg.trans (s5.eg.trans (e56.trans e67)))) _ _ (s2.eg _ _ gph)
        have rph7 : RepL G7 ((fullHs p s).map pairD) pvs := (rph.up s2.eg).up (e23.trans (s4.eg.trans (s5.eg.trans (e56.trans e67))))
        refine lcD c.2 (fun z => if (c.1, z) ∈ fullHs p s then none else some (ask3 (none, [], [(c.1, z)]))) (walkL (by simp)) (by omega) S7.gh nM (fun H8 e8 => sqL gl (S7.gh.trans e8)) ?_ ?_
        · rintro j z x G8 H8 H8' K1 K0 hz s8 ⟨rfl, ex⟩ k1 k0
          rw [List.getElem?_map, hz] at ex
          cases ex
          have hzv := mem_of hz
          have nz := okc.2.2.2 z hzv
          have nc := wok.pl.nm c (mem_of hc)
          refine ⟨rfl, _, rfl, _, rfl, zs, fun t9 n9 => ?_⟩
          generalize e9 : upd H8' t9 _ = H9
          obtain ⟨G9, S9, s9, g9⟩ := (Step.refl (W := NoW) s8.gh).newDE n9 e9
          have shp := shaped_pairs (full_names wok.pl oks.so)
          refine ⟨_, rfl, .tuple [.str c.1, .str z], toPys ((fullHs p s).map pairD), .tup (sqT g9 S9.gh) (.cons (.str _) (.cons (.str _) .nil)), .lst (sqL (s9.eg _ _ (s8.eg _ _ gph7)) S9.gh) (RepL.dp S9.gh _ ((rph7.up s8.eg).up s9.eg)), ?_, ?_, _, rfl, if2 (fun h => ?_) (fun h => ?_)⟩
          · unfold SeqAt.shaped
            simp [PyData.canLay0, PyData.canLayAll0, PyData.depth, PyData.depthAll, strOk_name nc, strOk_name nz]
          · unfold SeqAt.shaped
            have e1 : (PyData.list (toPys ((fullHs p s).map pairD))).canLay0 = true := by simp only [PyData.canLay0, shp.1]
            have e2 : (PyData.list (toPys ((fullHs p s).map pairD))).depth ≤ 64 := by simp only [PyData.depth]; have := shp.2; omega
            rw [e1, Bool.true_and]
            exact decide_eq_true e2
          · have hno : (c.1, z) ∉ fullHs p s := fun hin => by
              have := toPys_any.mpr hin
              rw [this] at h; cases h
            refine ⟨zs, fun l10 n10 => ?_⟩
            generalize e10 : upd H9 l10 _ = H10
            obtain ⟨G10, S10, s10, g10⟩ := S9.newDE n10 e10
            refine ⟨_, rfl, _, rfl, zs, fun t11 n11 => ?_⟩
            generalize e11 : upd H10 t11 _ = H11
            obtain ⟨G11, S11, s11, g11⟩ := S10.newDE n11 e11
            refine ⟨zs, fun l12 n12 => ?_⟩
            generalize e12 : upd H11 l12 _ = H12
            obtain ⟨G12, S12, s12, g12⟩ := S11.newDE n12 e12
            refine ⟨zs, fun t13 n13 => ?_⟩
            generalize e13 : upd H12 t13 _ = H13
            obtain ⟨G13, S13, s13, g13⟩ := S12.newDE n13 e13
            exact k1 _ _ _ _ (if_neg hno) S13 (rep_tup g13 ⟨_, _, rfl, rfl, _, _, rfl, rep_lst ((s11.eg.trans (s12.eg.trans s13.eg)) _ _ g10) .nil, _, _, rfl, rep_lst (s13.eg _ _ g12) ⟨_, _, rfl, rep_tup ((s12.eg.trans s13.eg) _ _ g11) ⟨_, _, rfl, rfl, _, _, rfl, rfl, rfl⟩, rfl⟩, rfl⟩)
          · have hin : (c.1, z) ∈ fullHs p s := toPys_any.mp (by simpa using h)
            exact k0 _ _ (if_pos hin) S9
        · rintro G8 H8 ws s8 hM gM rw'
          obtain ⟨G9, S9, e89, g9, n9⟩ := s8.frzE nM ⟨hM, gM⟩
          have nMf : fo ≠ M := F7.ne' nM
          have F8 := F7.go s8
          have F9 : Mi G9 H8 fo _ := ⟨F8.h, by rw [n9 _ nMf]; exact F8.g⟩
          have lw := rw'.len
          have lw4 : ws.length ≤ 4 := by rw [lw]; exact Nat.le_trans (List.length_filterMap_le _ _) okc.2.1
          refine ⟨fo, M, _, _, rfl, rfl, F9.h, hM, zl (by omega), ?_⟩
          generalize e10 : upd H8 fo _ = H10
          have S79 := S7.trans S9
          obtain ⟨S10, F10, _⟩ := S79.mutE (.inr nfoH) F9 e10
          let add : List Ask := c.2.filterMap fun z => if (c.1, z) ∈ fullHs p s then none else some (none, [], [(c.1, z)])
          have eadd : c.2.filterMap (fun z => if (c.1, z) ∈ fullHs p s then none else some (ask3 (none, [], [(c.1, z)]))) = add.map ask3 := by
            show _ = (c.2.filterMap _).map ask3
            rw [List.map_filterMap]
            congr 1
            funext z
            by_cases hz : (c.1, z) ∈ fullHs p s <;> simp [hz]
          rw [eadd] at rw'
          have ladd : add.length ≤ 4 := Nat.le_trans (List.length_filterMap_le _ _) okc.2.1
          refine ⟨G9, qs ++ add, _, S10, e67.trans S9.eg, F10, ?_, by rw [List.length_append]; omega, fun q hq => ?_, _, _, _, _, rfl⟩
          · rw [List.map_append]
            exact (ru.up S9.eg).app (rw'.up e89)
          · rcases List.mem_append.mp hq with h | h
            · exact okqs q h
            · obtain ⟨z, hz1, hz2⟩ := List.mem_filterMap.mp h
              by_cases hin : (c.1, z) ∈ fullHs p s
              · rw [if_pos hin] at hz2; cases hz2
              · rw [if_neg hin] at hz2
                cases hz2
                exact ⟨⟨fun z' h => (by cases h), fun z' h => (by cases h), fun h hh => (by rw [List.mem_singleton.mp hh]; exact ⟨c.2, mem_of hc, hz1⟩), by simp, by simp⟩, by simp, fun hm => not_held hin hm.2.1⟩
      · rintro σ H7 ⟨G7, qs, us, S7, e67, F7, ru, lqs, okqs, y4, y8, y9, y10, rfl⟩
        refine ⟨_, rfl, .inl ⟨rfl, _, .of F7.h⟩, _, rfl, G7, g, p, r0, r1, m0, m1, 0, rfl, S7.gh, wo.up S7.eg, wok, by decide, fun ms2 G8 H8 lm2 hms2 lms2 s8 glm2 => ?_⟩
        have S8 := S7.trans s8
        have F8 := F7.go s8
        refine ⟨lm2, rfl, ⟨_, sqL glm2 S8.gh⟩, fun M nM => ?_⟩
        refine lcD ms2 (fun z => if V.str z = optV (fullLead r0 s) then none else some (ask3 (some z, [], []))) (walkL (by simp)) (by omega) S8.gh nM (fun H9 e9 => sqL glm2 (S8.gh.trans e9)) ?_ ?_
        · rintro j z x G9 H9 H9' K1 K0 hz s9 ⟨rfl, ex⟩ k1 k0
          rw [List.getElem?_map, hz] at ex
          cases ex
          have hsc : scal (V.str z) (optV (fullLead r0 s)) = true := by cases fullLead r0 s <;> rfl
          refine ⟨rfl, _, rfl, _, rfl, hsc, _, rfl, if2 (fun h => ?_) (fun h => ?_)⟩
          · refine ⟨_, rfl, zs, fun l10 n10 => ?_⟩
            generalize e10 : upd H9' l10 _ = H10
            obtain ⟨G10, S10, s10, g10⟩ := (Step.refl (W := NoW) s9.gh).newDE n10 e10
            refine ⟨zs, fun l11 n11 => ?_⟩
            generalize e11 : upd H10 l11 _ = H11
            obtain ⟨G11, S11, s11, g11⟩ := S10.newDE n11 e11
            refine ⟨zs, fun t12 n12 => ?_⟩
            generalize e12 : upd H11 t12 _ = H12
            obtain ⟨G12, S12, s12, g12⟩ := S11.newDE n12 e12
            exact k1 _ _ _ _ (if_neg (by simpa using h)) S12 (rep_tup g12 ⟨_, _, rfl, rfl, _, _, rfl, rep_lst ((s11.eg.trans s12.eg) _ _ g10) .nil, _, _, rfl, rep_lst (s12.eg _ _ g11) .nil, rfl⟩)
          · exact k0 _ _ (if_pos (by simpa using h)) (Step.refl s9.gh)
        · rintro G9 H9 ws s9 hM gM rw'
          obtain ⟨G10, S10, e910, g10, n10⟩ := s9.frzE nM ⟨hM, gM⟩
          have nMf : fo ≠ M := F8.ne' nM
          have F9 := F8.go s9
          have F10 : Mi G10 H9 fo _ := ⟨F9.h, by rw [n10 _ nMf]; exact F9.g⟩
          have lw := rw'.len
          have lw4 : ws.length ≤ 25 := by rw [lw]; exact Nat.le_trans (List.length_filterMap_le _ _) lms2
          have lus := ru.len
          rw [List.length_map] at lus
          rw [lpx] at lqs
          refine ⟨fo, M, _, _, rfl, rfl, F10.h, hM, zl (by omega), ?_⟩
          generalize e11 : upd H9 fo _ = H11
          obtain ⟨S11, F11, _⟩ := (S8.trans S10).mutE (.inr nfoH) F10 e11
          obtain ⟨G12, S12, e12, g12, _⟩ := S11.frzE nfoH F11
          let add : List Ask := ms2.filterMap fun z => if V.str z = optV (fullLead r0 s) then none else some (some z, [], [])
          have eadd : ms2.filterMap (fun z => if V.str z = optV (fullLead r0 s) then none else some (ask3 (some z, [], []))) = add.map ask3 := by
            show _ = (ms2.filterMap _).map ask3
            rw [List.map_filterMap]
            congr 1
            funext z
            by_cases hz : V.str z = optV (fullLead r0 s) <;> simp [hz]
          rw [eadd] at rw'
          have ladd : add.length ≤ 25 := Nat.le_trans (List.length_filterMap_le _ _) lms2
          refine ⟨_, rfl, k (qs ++ add) _ _ _ (fun q hq => ?_) (by rw [List.length_append]; omega) S12 (rep_lst g12 ?_)⟩
          · rcases List.mem_append.mp hq with h | h
            · exact okqs q h
            · obtain ⟨z, hz1, hz2⟩ := List.mem_filterMap.mp h
              by_cases hin : V.str z = optV (fullLead r0 s)
              · rw [if_pos hin] at hz2; cases hz2
              · rw [if_neg hin] at hz2
                cases hz2
                refine ⟨⟨fun z' h => (by cases h; exact hms2 z hz1), fun z' h => (by cases h), fun h hh => (by cases hh), by simp, by simp⟩, by simp, fun hm => ?_⟩
                rcases hm.1 with h | h
                · cases h
                · exact hin (by unfold fullLead; rw [h]; rfl)
          · rw [List.map_append]
            exact (ru.up (s8.eg.trans (S10.eg.trans e12))).app (rw'.up (e910.trans e12))
end
end K4

set_option maxHeartbeats 400000
/-! The plain law: what is met stays met. -/
namespace K4
open PySem L2
theorem count_fm {α : Type} (f : α → Option Str) (z : Str) : ∀ l : List α, (l.filterMap f).count z = (l.map f).count (some z)
  | [] => rfl
  | a :: l => by
    have ih := count_fm f z l
    rw [List.map_cons, List.count_cons, List.filterMap_cons]
    cases h : f a with
    | none => simp [ih]
    | some y =>
      simp only [List.count_cons, ih]
      congr 1
structure GoodQ (p : Plan) (r0 r1 : Row) (s : Spot) (q : Ask) : Prop where
  lead : q.1 = fullLead r0 s ∨ q.1 = none
  fs : ∀ z, q.2.1.count z ≤ (fullFs r1 s).count z
  lf : q.2.1.length ≤ 6
  hs : ∀ h ∈ q.2.2, h ∈ fullHs p s
  lh : q.2.2.length ≤ 10
  nd : (q.2.2.map Prod.fst).Nodup
theorem full_in {p : Plan} {s : Spot} (so : StOk p s.st) {h : Str × Str} (hh : h ∈ fullHs p s) : ∃ (j : Nat) (c : Str × List Str), p[j]? = some c ∧ c.1 = h.1 ∧ s.st[j]? = some h.2 ∧ h.2 ∈ c.2 := by
  obtain ⟨j, hj⟩ := List.getElem?_of_mem hh
  unfold fullHs at hj
  rw [List.getElem?_zip_eq_some] at hj
  obtain ⟨c, hc, e⟩ := map_some hj.1
  exact ⟨j, c, hc, e.symm, hj.2, so.vals j c h.2 hc hj.2⟩
theorem GoodQ.qok {p : Plan} {r0 r1 : Row} {s : Spot} {q : Ask} (g : GoodQ p r0 r1 s q) (so : StOk p s.st) : QOk p r0 r1 q.1 q.2.1 q.2.2 := by
  refine ⟨fun z h => ?_, fun z h => ?_, fun h hh => ?_, g.lf, g.lh⟩
  · rcases g.lead with e | e
    · rw [e] at h; exact mark_mem h
    · rw [e] at h; cases h
  · have h1 : 0 < q.2.1.count z := List.count_pos_iff.mpr h
    have h2 : 0 < (fullFs r1 s).count z := Nat.lt_of_lt_of_le h1 (g.fs z)
    have h3 := List.mem_of_mem_take (List.count_pos_iff.mp h2)
    obtain ⟨n, _, hn⟩ := List.mem_filterMap.mp h3
    exact mark_mem hn
  · obtain ⟨j, c, hc, e, _, hv⟩ := full_in so (g.hs h hh)
    exact ⟨c.2, by rw [← e]; exact mem_of hc, hv⟩
theorem GoodQ.met {p : Plan} {r0 r1 : Row} {s s' : Spot} {q : Ask} (g : GoodQ p r0 r1 s q) (so : StOk p s.st) (e1 : s'.room = s.room) (e2 : s'.st = s.st) {extra : List Nat} (pm : s'.rooms.Perm (s.rooms ++ extra)) : Met p r0 r1 q.1 q.2.1 q.2.2 s' := by
  refine ⟨?_, fun h hh => ?_, fun z hz => ?_⟩
  · rcases g.lead with e | e
    · right; rw [e, e1]; rfl
    · exact .inl e
  · obtain ⟨j, c, hc, e, hs, _⟩ := full_in so (g.hs h hh)
    exact ⟨j, c, hc, e, by rw [e2]; exact hs⟩
  · refine Nat.le_trans (g.fs z) ?_
    have h1 : (fullFs r1 s).count z ≤ (s.rooms.filterMap (markAt r1)).count z := (List.take_sublist _ _).count_le z
    rw [count_fm] at h1
    have h2 := (pm.map (markAt r1)).count_eq (some z)
    rw [h2, List.map_append, List.count_append]
    omega
theorem zip_sub {α β : Type} : ∀ (l : List α) (m : List β), ((l.zip m).map Prod.fst).Sublist l
  | [], _ => by simp
  | _ :: _, [] => by simp
  | a :: l, b :: m => by
    show (a :: (l.zip m).map Prod.fst).Sublist (a :: l)
    exact (zip_sub l m).cons_cons a
theorem full_good {p : Plan} {r0 r1 : Row} {s : Spot} (ok : PlanOk p) : GoodQ p r0 r1 s (fullLead r0 s, fullFs r1 s, fullHs p s) := by
  have hi := ok.hi
  have lz : (fullHs p s).length ≤ p.length := by unfold fullHs; rw [List.length_zip, List.length_map]; omega
  refine ⟨.inl rfl, fun z => Nat.le_refl _, by unfold fullFs; simp only; rw [List.length_take]; omega, fun h hh => hh, by simp only; omega, ?_⟩
  have hs : ((fullHs p s).map Prod.fst).Sublist (p.map Prod.fst) := by
    unfold fullHs
    exact zip_sub _ _
  exact ok.nd.sublist hs
theorem none_good {p : Plan} {r0 r1 : Row} {s : Spot} : GoodQ p r0 r1 s (none, [], []) := ⟨.inr rfl, fun z => by simp, by simp, fun h hh => (by cases hh), by simp, by simp⟩
theorem names_lead {p : Plan} {r : Row} (ok : RowOk p r) {z : Str} (h : Stm.mk z ∈ rowFlat r) : NameOk z := (ok.ok _ h).mark z rfl
theorem q_names {p : Plan} {r0 r1 : Row} {lead : Option Str} {fs : List Str} {hs : List (Str × Str)} (q : QOk p r0 r1 lead fs hs) (pl : PlanOk p) (w0 : RowOk p r0) (w1 : RowOk p r1) :
    (∀ z, lead = some z → NameOk z) ∧ (∀ z ∈ fs, NameOk z) ∧ ∀ h ∈ hs, NameOk h.1 ∧ NameOk h.2 := by
  refine ⟨fun z h => names_lead w0 (q.ld z h), fun z h => names_lead w1 (q.fo z h), fun h hh => ?_⟩
  obtain ⟨vl, h1, h2⟩ := q.ho h hh
  exact ⟨pl.nm _ h1, (pl.vl _ h1).2.2.2 _ h2⟩
theorem begin_ok {p : Plan} {r0 r1 : Row} (ok : PlanOk p) {n : Nat} (h : n ≤ 6) : SpotOk p r0 r1 ⟨0, p.map fstOf, List.replicate n 0⟩ := by
  refine ⟨Nat.zero_le _, by simp, fun j c v hj hv => ?_, fun m hm => ?_, by simp; omega⟩
  · rw [List.getElem?_map, hj] at hv
    cases hv
    have := (ok.vl c (mem_of hj)).1
    unfold fstOf
    cases z : c.2 with
    | nil => rw [z] at this; simp at this
    | cons x r => simp
  · rw [List.eq_of_mem_replicate hm]; exact Nat.zero_le _
theorem lay_strs : ∀ {l : List Str}, (∀ z ∈ l, NameOk z) → PyData.canLayAll0 (toPys (l.map D.str)) = true ∧ PyData.depthAll (toPys (l.map D.str)) ≤ 0
  | [], _ => by simp [toPys, PyData.canLayAll0, PyData.depthAll]
  | x :: l, h => by
    have ih := lay_strs (l := l) fun y hy => h y (List.mem_cons_of_mem _ hy)
    have ih2 : PyData.depthAll (toPys (l.map D.str)) = 0 := by omega
    simp [toPys, toPy, PyData.canLayAll0, PyData.canLay0, PyData.depthAll, PyData.depth, strOk_name (h x List.mem_cons_self), ih.1, ih2]
theorem lay_nats : ∀ (l : List Nat), PyData.canLayAll0 (toPys (natsD l)) = true ∧ PyData.depthAll (toPys (natsD l)) = 0
  | [] => by simp [natsD, toPys, PyData.canLayAll0, PyData.depthAll]
  | x :: l => by
    have ih := lay_nats l
    unfold natsD at ih ⊢
    simp [toPys, toPy, PyData.canLayAll0, PyData.canLay0, PyData.depthAll, PyData.depth, ih.1, ih.2]
theorem st_names {p : Plan} {st : List Str} (ok : PlanOk p) (so : StOk p st) : ∀ z ∈ st, NameOk z := by
  intro z hz
  obtain ⟨j, hj⟩ := List.getElem?_of_mem hz
  obtain ⟨c, hc⟩ := some_of (show j < p.length by rw [← so.len]; exact lt_of_some hj)
  exact (ok.vl c (mem_of hc)).2.2.2 z (so.vals j c z hc hj)
theorem lay_nxts {p : Plan} {r0 r1 : Row} (ok : PlanOk p) : ∀ {ns : List Nxt}, (∀ n ∈ ns, SpotOk p r0 r1 n.spot) → PyData.canLayAll0 (toPys (ns.map nxtD)) = true ∧ PyData.depthAll (toPys (ns.map nxtD)) ≤ 3
  | [], _ => by simp [toPys, PyData.canLayAll0, PyData.depthAll]
  | x :: ns, h => by
    have ih := lay_nxts ok (ns := ns) fun y hy => h y (List.mem_cons_of_mem _ hy)
    have so := (h x List.mem_cons_self).so
    have h1 := lay_strs (st_names ok so)
    have h1' : PyData.depthAll (toPys (x.spot.st.map D.str)) = 0 := by omega
    have h2 := lay_nats x.spot.rooms
    rw [List.map_cons]
    simp [toPys, nxtD, Spot.d, toPy, PyData.canLayAll0, PyData.canLay0, PyData.depthAll, PyData.depth, h1.1, h1', h2.1, h2.2, ih.1, ih.2]
theorem shaped_nxts {p : Plan} {r0 r1 : Row} (ok : PlanOk p) {ns : List Nxt} (h : ∀ n ∈ ns, SpotOk p r0 r1 n.spot) : SeqAt.shaped (toPy (.lst (ns.map nxtD))) = true := by
  obtain ⟨h1, h2⟩ := lay_nxts ok h
  have e1 : (toPy (.lst (ns.map nxtD))).canLay0 = true := by simp only [toPy, PyData.canLay0, h1]
  have e2 : (toPy (.lst (ns.map nxtD))).depth ≤ 64 := by simp only [toPy, PyData.depth]; omega
  unfold SeqAt.shaped
  rw [e1, Bool.true_and]
  exact decide_eq_true e2
end K4

set_option maxHeartbeats 400000
/-! The law walked. -/
namespace K4
open PySem L2
def spLaw (K : PySem.W.Frag) : Sp := fun vs H Q _ => ∃ (a : Addr) (xs : List Int), vs = [.ref a] ∧ SqL K H a (xs.map V.int) ∧ xs.length ≤ 63 ∧ ∀ H', Q (.bl true) H'
section
variable {P : Program} {w : World} {K : PySem.W.Frag} {mg : Str → Option Value} {base : Heap}
theorem cut_ints (xs : List Int) (lo hi : Option Int) : ∃ ys : List Int, cutV (xs.map V.int) lo hi = ys.map V.int ∧ ys.length ≤ xs.length := by
  unfold cutV
  exact ⟨_, by rw [← List.map_drop, ← List.map_take], by rw [List.length_take, List.length_drop]; omega⟩
theorem ask_rep {G : Hp} {t l1 l2 : Addr} (h : G t = some (.tup [.non, .ref l1, .ref l2])) (h1 : G l1 = some (.lst [])) (h2 : G l2 = some (.lst [])) : Rep G (ask3 (none, [], [])) (.ref t) :=
  rep_tup h ⟨_, _, rfl, rfl, _, _, rfl, rep_lst h1 .nil, _, _, rfl, rep_lst h2 .nil, rfl⟩
theorem len_law : ∀ vs H Q E, spLaw K vs H Q E → vs.length = P_law.length := fun vs H Q E h => by
  obtain ⟨_, _, rfl, _⟩ := h; rfl
theorem body_law {k : Nat} (T : Txt K mg) (c_law_cell_at : Cal P w K mg base k "_law_cell_at" P_law_cell_at (spCellAt K)) (c_law_well : Cal P w K mg base k "_law_well" P_law_well spWell) (c_law_drawn : Cal P w K mg base k "_law_drawn" P_law_drawn spDrawn) (c_law_own : Cal P w K mg base k "_law_own" P_law_own (spOwn K))
    (c_Game_begin : CalM P w K mg base k (cA K "Game") "begin" P_Game_begin (spBegin K)) (c_law_draw : Cal P w K mg base k "_law_draw" P_law_draw spDraw) (c_law_nexts : Cal P w K mg base k "_law_nexts" P_law_nexts spNexts) (c_law_of : Cal P w K mg base k "_law_of" P_law_of (spOf K))
    (c_law_full : Cal P w K mg base k "_law_full" P_law_full spFull) (c_law_more : Cal P w K mg base k "_law_more" P_law_more spMore) (c_law_less : Cal P w K mg base k "_law_less" P_law_less (spLess K)) (c_met : Cal P w K mg base k "met" P_met (spMet K))
    (c_law_put_as : Cal P w K mg base k "_law_put_as" P_law_put_as (spPutAs K)) (c_law_wrong : Cal P w K mg base k "_law_wrong" P_law_wrong spWrong) : Body P w K mg base k N_law P_law "law" s_law (spLaw K) := by
  intro f cdv A outer s0 H vs Q E hr h
  · obtain ⟨sa, xs, rfl, hsa, lxs, kk⟩ := h
    let G : Hp := fun _ => none
    have e : Ex G H := fun _ _ h => by cases h
    refine ⟨_, (pss_cons (ps_for PassesOwn.never rfl (k_list K (pe_op op_cat (pe_lst (pa_cons (pc c_law_cell_at (hr.mono (by first | decide | omega)) (pa_cons (pv 0) (pa_cons pe_int pa_nil))) pa_nil)) (pe_slice (k_slL K) (pv 0) (po_some pe_int) (po_some pe_int)))) (pg_name (i := 1) sc_law.nd rfl (Or.inl rfl))
      (pss_cons (ps_set (i := 2) sc_law.nd rfl (Or.inl rfl) (pc c_law_well (hr.mono (by first | decide | omega)) (pa_cons (pv 1) pa_nil)))
      (pss_cons (ps_set (i := 3) sc_law.nd rfl (Or.inl rfl) (pc c_law_drawn (hr.mono (by first | decide | omega)) (pa_cons (pv 2) (pa_cons pe_int (pa_cons (pe_lst (pa_cons pe_int (pa_cons pe_int pa_nil))) pa_nil)))))
      (pss_cons (ps_set (i := 4) sc_law.nd rfl (Or.inl rfl) (pc c_law_own (hr.mono (by first | decide | omega)) (pa_cons (pv 3) pa_nil)))
      (pss_cons (ps_set (i := 5) sc_law.nd rfl (Or.inl rfl) (cm c_Game_begin (hr.mono (by first | decide | omega)) (pv 4) (pa_cons (pe_op op_add pe_int (pc c_law_draw (hr.mono (by first | decide | omega)) (pa_cons (pv 2) (pa_cons pe_int pa_nil)))) pa_nil)))
      (pss_cons (ps_for PassesOwn.never rfl (pi_range1 (by rfl) T.f_range (pa_cons (pc c_law_draw (hr.mono (by first | decide | omega)) (pa_cons (pv 2) (pa_cons pe_int pa_nil))) pa_nil)) (pg_name (i := 6) sc_law.nd rfl (Or.inl rfl))
        (pss_cons (ps_set (i := 7) sc_law.nd rfl (Or.inl rfl) (pc c_law_nexts (hr.mono (by first | decide | omega)) (pa_cons (pv 3) (pa_cons (pv 5) pa_nil))))
        (pss_one (ps_if (pt_cmpR (k_neD K (hu64 hr)) (pv 7) (pe_lst pa_nil) (by first | exact nomark _ | rfl))
          (pss_one (ps_set (i := 5) sc_law.nd rfl (Or.inl rfl) (pe_ix (k_ixT K) (pc c_law_of (hr.mono (by first | decide | omega)) (pa_cons (pv 2) (pa_cons (pv 7) pa_nil))) pe_int (fun _ _ => rfl))))
          pss_nil))))
      (pss_cons (ps_set (i := 8) sc_law.nd rfl (Or.inl rfl) (pc c_law_full (hr.mono (by first | decide | omega)) (pa_cons (pv 3) (pa_cons (pv 5) pa_nil))))
      (pss_cons (ps_for PassesOwn.never rfl (k_list K (pe_op op_cat (pe_lst (pa_cons (pv 5) pa_nil)) (pc c_law_more (hr.mono (by first | decide | omega)) (pa_cons (pv 2) (pa_cons (pv 3) (pa_cons (pv 5) pa_nil)))))) (pg_name (i := 9) sc_law.nd rfl (Or.inl rfl))
        (pss_one (ps_for PassesOwn.never rfl (k_list K (pe_lst (pa_cons (pv 8) (pa_cons (pc c_law_less (hr.mono (by first | decide | omega)) (pa_cons (pv 2) (pa_cons (pv 8) pa_nil))) (pa_cons (pc c_law_less (hr.mono (by first | decide | omega)) (pa_cons (pv 2) (pa_cons (pv 8) pa_nil))) (pa_cons (pe_tup (pa_cons pe_non (pa_cons (pe_lst pa_nil) (pa_cons (pe_lst pa_nil) pa_nil)))) pa_nil)))))) (pg_name (i := 10) sc_law.nd rfl (Or.inl rfl))
          (pss_one (ps_if (pt_cmpR op_notBl (pc c_met (hr.mono (by first | decide | omega)) (pa_cons (pv 4) (pa_cons (pc c_law_put_as (hr.mono (by first | decide | omega)) (pa_cons (pv 10) pa_nil)) (pa_cons (pv 9) pa_nil)))) pe_bl (by first | exact nomark _ | rfl))
            (pss_one (ps_ret pe_bl))
            pss_nil)))))
      (pss_one (ps_for PassesOwn.never rfl (k_list K (pc c_law_wrong (hr.mono (by first | decide | omega)) (pa_cons (pv 2) (pa_cons (pv 3) (pa_cons (pv 5) pa_nil))))) (pg_name (i := 10) sc_law.nd rfl (Or.inl rfl))
        (pss_one (ps_if (pt_cmpR op_notBl (pc c_met (hr.mono (by first | decide | omega)) (pa_cons (pv 4) (pa_cons (pc c_law_put_as (hr.mono (by first | decide | omega)) (pa_cons (pv 10) pa_nil)) (pa_cons (pv 5) pa_nil)))) pe_bl (by first | exact nomark _ | rfl))
          (pss_one (ps_ret pe_bl))
          pss_nil))))))))))))
    (pss_one (ps_ret pe_bl))), ?_⟩
    refine ⟨_, rfl, sa, xs, rfl, hsa, fun i0 => ⟨zs, fun l1 n1 => ?_⟩⟩
    generalize e1 : upd H l1 _ = H1
    obtain ⟨G1, S1, s1, g1⟩ := (Step.refl (W := NoW) e).newDE n1 e1
    obtain ⟨ys, ecut, lys⟩ := cut_ints xs (some 1) (some 3)
    refine ⟨_, rfl, _, rfl, _, rfl, sa, _, rfl, S1.toFr.same.sqL hsa, fun l2 n2 => ?_⟩
    rw [ecut]
    generalize e2 : upd H1 l2 _ = H2
    obtain ⟨G2, S2, s2, g2'⟩ := S1.newDE n2 e2
    refine ⟨l1, l2, _, _, rfl, rfl, S2.gh _ _ (s2.eg _ _ g1), S2.gh _ _ g2', zl (by rw [List.length_map]; simp; omega), fun l3 n3 => ?_⟩
    generalize e3 : upd H2 l3 _ = H3
    obtain ⟨G3, S3, s3, g3'⟩ := S2.newDE n3 e3
    have g3' : G3 l3 = some (.lst ((i0 :: ys).map V.int)) := g3'
    refine ⟨l3, rfl, ⟨_, sqL g3' S3.gh⟩, ?_⟩
    refine for_list (xs := (i0 :: ys).map V.int) (fun i σ H4 => ∃ (G4 : Hp), Step NoW G H G4 H4 ∧ Ex G3 G4 ∧ ∃ y1 y2 y3 y4 y5 y6 y7 y8 y9 y10, σ = [some (.ref sa), y1, y2, y3, y4, y5, y6, y7, y8, y9, y10])
      ⟨G3, S3, Ex.rfl' _, _, _, _, _, _, _, _, _, _, _, rfl⟩ (fun i σ H4 _ ⟨G4, S4, e34, _⟩ => sqL (e34 _ _ g3') S4.gh) ?_ ?_
    · rintro i x σ H4 ex ⟨G4, S4, e34, y1, y2, y3, y4, y5, y6, y7, y8, y9, y10, rfl⟩
      obtain ⟨cell, _, rfl⟩ := map_some ex
      refine seqSet ⟨_, rfl, G4, cell, rfl, S4.gh, fun H5 wa s5 nwa w5 => ?_⟩
      have S5 := S4.trans s5
      have nwaH : H wa = none := S4.dm _ nwa
      refine seqSet ⟨_, rfl, zs, fun l6 n6 => ?_⟩
      generalize e6 : upd H5 l6 _ = H6
      obtain ⟨G6, S6, s6, g6⟩ := S5.newDE n6 e6
      have w6 := w5.go s6
      refine ⟨G6, wa, l6, 0, rfl, S6.gh, w6, by decide, g6, fun p r0 r1 m0 m1 G7 H7 g wok s7 w7 wo7 => ?_⟩
      have hwW : ∀ a, Wa wa a → NoW a ∨ H a = none := fun a h => Or.inr (h ▸ nwaH)
      have S7 := S6.trans s7 hwW
      refine seqSet ⟨_, rfl, G7, g, p, r0, r1, m0, m1, rfl, S7.gh, wo7, wok, fun G8 H8 ga s8 go8 => ?_⟩
      have S8 := S7.trans s8
      have w8 := w7.go s8
      have wo8 := wo7.up s8.eg
      obtain ⟨dxg, bg, hpg, mm0, mm1, tg, hg8, _⟩ := go8.ex
      refine seqSet ⟨_, rfl, ga, dxg, _, rfl, S8.gh _ _ hg8, rfl, _, rfl, G8, wa, 0 + 40000, 5, rfl, S8.gh, w8, by decide, by decide, by decide, fun d H9 hd s9 w9 => ⟨_, _, rfl, rfl, ?_⟩⟩
      have S9 := S8.trans s9 hwW
      refine ⟨G8, ga, p, r0, r1, 1 + d, ?_, S9.gh, go8, wok.pl, by omega, by omega, fun G10 H10 sv s10 r10 => ?_⟩
      · rw [show ((1 + d : Nat) : Int) = 1 + (d : Int) by omega]; rfl
      have S10 := S9.trans s10
      have w10 := w9.go s10
      have okb := begin_ok (r0 := r0) (r1 := r1) wok.pl (show 1 + d ≤ 6 by omega)
      refine ⟨_, rfl, G10, wa, 0 + 40000 + 1, 13, rfl, S10.gh, w10, by decide, by decide, by decide, fun n H11 hn s11 w11 => ⟨_, rfl, by omega, by omega, ?_⟩⟩
      have S11 := S10.trans s11 hwW
      rw [Int.toNat_natCast]
      refine for_range (fun j σ H12 => ∃ (G12 : Hp) (s : Spot) (v : V), Step NoW G H G12 H12 ∧ Ex G10 G12 ∧ WO G12 H12 wa (40100 + j) ∧ SpotOk p r0 r1 s ∧ s.rooms.length ≤ 6 ∧ Rep G12 s.d v ∧
          ∃ y6 y7 y8 y9 y10, σ = [some (.ref sa), some (.int cell), some (.ref wa), some (.ref g), some (.ref ga), some v, y6, y7, y8, y9, y10])
        ⟨G10, _, sv, S11, Ex.rfl' _, w11.up (by omega), okb, by simp; omega, r10, _, _, _, _, _, rfl⟩ ?_ ?_
      · rintro j σ H12 hj ⟨G12, s, v, S12, e12, w12, oks, l6s, rs, y6, y7, y8, y9, y10, rfl⟩
        have wo12 := wo8.up (s10.eg.trans e12)
        refine seqSet ⟨_, rfl, _, rfl, G12, g, p, r0, r1, m0, m1, s, v, rfl, S12.gh, wo12, wok, oks, rs, fun ns G13 H13 nv okns lns s13 rns => ?_⟩
        have S13 := S12.trans s13
        have w13 := w12.go s13
        refine ⟨_, rfl, zs, fun l14 n14 => ?_⟩
        generalize e14 : upd H13 l14 _ = H14
        obtain ⟨G14, S14, s14, g14⟩ := S13.newDE n14 e14
        have w14 := w13.go s14
        refine ⟨toPy (.lst (ns.map nxtD)), .list [], (rns.up s14.eg).dp S14.gh, .lst (sqL g14 S14.gh) .nil, shaped_nxts wok.pl (fun m hm => (okns m hm).1), by decide, _, rfl, if2 (fun hne => ?_) (fun _ => ?_)⟩
        · obtain ⟨la, us, rfl, gla, rus⟩ := (rns.up s14.eg).lst
          have lus := rus.len
          rw [List.length_map] at lus
          have pos : 0 < ns.length := by
            cases ns with
            | nil => exact absurd hne (by decide)
            | cons _ _ => simp
          refine ⟨_, rfl, _, rfl, G14, wa, 40100 + j, ns.length, .ref la, rfl, S14.gh, w14, by omega, .inl ⟨_, sqL gla S14.gh, lus.symm⟩, pos, by omega, fun d2 H15 hd2 s15 w15 => ?_⟩
          have S15 := S14.trans s15 hwW
          obtain ⟨u, hu⟩ := some_of (show d2 < us.length by omega)
          obtain ⟨nx, hnx, ru⟩ := rus.map hu
          obtain ⟨t, ts, rfl, gt, rt⟩ := ru.tup
          obtain ⟨q0, q1, rfl, _, hq1⟩ := rt.l2
          obtain ⟨okx, lx⟩ := okns nx (mem_of hnx)
          exact .inl ⟨la, us, d2, _, rfl, rfl, sqL gla S15.gh, at_nat hu, t, _, 1, _, rfl, rfl, sqT gt S15.gh, at_nat (i := 1) rfl, G14, nx.spot, q1, S15, e12.trans (s13.eg.trans s14.eg), w15.up (by omega), okx, by omega, hq1, _, _, _, _, _, rfl⟩
        · exact ⟨G14, s, v, S14, e12.trans (s13.eg.trans s14.eg), w14.up (by omega), oks, l6s, rs.up (s13.eg.trans s14.eg), _, _, _, _, _, rfl⟩
      · rintro σ H12 ⟨G12, s, v, S12, e12, w12, oks, l6s, rs, y6, y7, y8, y9, y10, rfl⟩
        have wo12 := wo8.up (s10.eg.trans e12)
        have go12 := go8.up (s10.eg.trans e12)
        refine ⟨_, rfl, _, rfl, G12, g, p, r0, r1, m0, m1, s, v, rfl, S12.gh, wo12, wok, oks, rs, fun G13 H13 qv s13 rq => ?_⟩
        have S13 := S12.trans s13
        have w13 := w12.go s13
        have rs13 := rs.up s13.eg
        have go13 := go12.up s13.eg
        have full := full_good (r0 := r0) (r1 := r1) (s := s) wok.pl
        have lf6 : (fullFs r1 s).length ≤ 6 := full.lf
        have lh10 : (fullHs p s).length ≤ 10 := full.lh
        have ndf : ((fullHs p s).map Prod.fst).Nodup := full.nd
        refine ⟨_, rfl, zs, fun l14 n14 => ?_⟩
        generalize e14 : upd H13 l14 _ = H14
        obtain ⟨G14, S14, s14, g14⟩ := S13.newDE n14 e14
        have w14 := w13.go s14
        refine ⟨_, rfl, _, rfl, _, rfl, G14, wa, 40100 + n, rowSize r1, s, .ref g, v, rfl, S14.gh, w14, by omega, rs13.up s14.eg, by omega, oks.rooms, fun ss G15 H15 mv okss lss s15 w15 rm15 => ?_⟩
        have S15 := S14.trans s15 hwW
        obtain ⟨lm, us, rfl, glm, rus⟩ := rm15.lst
        have lus := rus.len
        rw [List.length_map] at lus
        refine ⟨l14, lm, _, _, rfl, rfl, S15.gh _ _ (s15.eg _ _ g14), S15.gh _ _ glm, zl (by simp; omega), fun l16 n16 => ?_⟩
        generalize e16 : upd H15 l16 _ = H16
        obtain ⟨G16, S16, s16, g16⟩ := S15.newDE n16 e16
        have w16 := w15.go s16
        have rall : RepL G16 ((s :: ss).map Spot.d) (v :: us) := ⟨_, _, rfl, (rs13.up (s14.eg.trans (s15.eg.trans s16.eg))), rus.up s16.eg⟩
        have okall : ∀ s' ∈ s :: ss, s'.room = s.room ∧ s'.st = s.st ∧ (∀ n ∈ s'.rooms, n ≤ rowSize r1) ∧ s'.rooms.length ≤ 12 ∧ ∃ extra, s'.rooms.Perm (s.rooms ++ extra) := fun s' hs' => by
          rcases List.mem_cons.mp hs' with rfl | h
          · exact ⟨rfl, rfl, oks.rooms, by omega, [], by rw [List.append_nil]⟩
          · exact okss s' h
        have g16 : G16 l16 = some (.lst (v :: us)) := g16
        have up1316 := s14.eg.trans (s15.eg.trans s16.eg)
        refine ⟨l16, rfl, ⟨_, sqL g16 S16.gh⟩, ?_⟩
        refine for_list (xs := v :: us) (fun j σ H17 => ∃ (G17 : Hp), Step NoW G H G17 H17 ∧ Ex G16 G17 ∧ WO G17 H17 wa (60000 + 100 * j) ∧
            ∃ y6 y7 y9 y10, σ = [some (.ref sa), some (.int cell), some (.ref wa), some (.ref g), some (.ref ga), some v, y6, y7, some qv, y9, y10])
          ⟨G16, S16, Ex.rfl' _, w16.up (by omega), _, _, _, _, rfl⟩ (fun j σ H17 _ ⟨G17, S17, e17, _⟩ => sqL (e17 _ _ g16) S17.gh) ?_ ?_
        · rintro j x σ H17 ex17 ⟨G17, S17, e17, w17, y6, y7, y9, y10, rfl⟩
          obtain ⟨s', hs', rs'⟩ := rall.map ex17
          have hj := lt_of_some ex17
          rw [List.length_cons] at hj
          obtain ⟨ea, eb, ec, ed, extra, pm⟩ := okall s' (mem_of hs')
          have oks' : SpotOk p r0 r1 s' := ⟨by rw [ea]; exact oks.room, by rw [eb]; exact oks.len, fun j c u hj hu => oks.vals j c u hj (by rw [← eb]; exact hu), ec, by omega⟩
          have rq17 := rq.up (up1316.trans e17)
          refine ⟨_, rfl, _, rfl, _, rfl, G17, wa, 60000 + 100 * j, _, _, _, qv, rfl, S17.gh, w17, by omega, rq17, lf6, lh10, ndf, fun ld1 fs1 hs1 G18 H18 q1 a1 a2 a3 a4 a5 a6 s18 w18 r18 => ?_⟩
          have S18 := S17.trans s18 hwW
          refine ⟨_, rfl, _, rfl, G18, wa, 60000 + 100 * j + 20, _, _, _, qv, rfl, S18.gh, w18, by omega, rq17.up s18.eg, lf6, lh10, ndf, fun ld2 fs2 hs2 G19 H19 q2 b1 b2 b3 b4 b5 b6 s19 w19 r19 => ?_⟩
          have S19 := S18.trans s19 hwW
          refine ⟨zs, fun l20 n20 => ?_⟩
          generalize e20 : upd H19 l20 _ = H20
          obtain ⟨G20, S20, s20, g20⟩ := S19.newDE n20 e20
          refine ⟨zs, fun l21 n21 => ?_⟩
          generalize e21 : upd H20 l21 _ = H21
          obtain ⟨G21, S21, s21, g21⟩ := S20.newDE n21 e21
          refine ⟨zs, fun t22 n22 => ?_⟩
          generalize e22 : upd H21 t22 _ = H22
          obtain ⟨G22, S22, s22, g22⟩ := S21.newDE n22 e22
          refine ⟨zs, fun l23 n23 => ?_⟩
          generalize e23 : upd H22 l23 _ = H23
          obtain ⟨G23, S23, s23, g23⟩ := S22.newDE n23 e23
          have w23 := (((w19.go s20).go s21).go s22).go s23
          have up19 := s20.eg.trans (s21.eg.trans (s22.eg.trans s23.eg))
          let qs : List Ask := [(fullLead r0 s, fullFs r1 s, fullHs p s), (ld1, fs1, hs1), (ld2, fs2, hs2), (none, [], [])]
          have rqs : RepL G23 (qs.map ask3) [qv, q1, q2, .ref t22] := ⟨_, _, rfl, rq17.up (s18.eg.trans (s19.eg.trans up19)), _, _, rfl, r18.up (s19.eg.trans up19), _, _, rfl, r19.up up19, _, _, rfl, ask_rep (s23.eg _ _ g22) ((s21.eg.trans (s22.eg.trans s23.eg)) _ _ g20) ((s22.eg.trans s23.eg) _ _ g21), rfl⟩
          have gqs : ∀ q ∈ qs, GoodQ p r0 r1 s q := fun q hq => by
            rcases List.mem_cons.mp hq with rfl | hq
            · exact full
            rcases List.mem_cons.mp hq with rfl | hq
            · exact ⟨a1, a2, by simp only; omega, a4, by simp only; omega, a6⟩
            rcases List.mem_cons.mp hq with rfl | hq
            · exact ⟨b1, b2, by simp only; omega, b4, by simp only; omega, b6⟩
            · rw [List.mem_singleton.mp hq]; exact none_good
          refine ⟨l23, rfl, ⟨_, sqL g23 S23.gh⟩, ?_⟩
          refine for_list (xs := [qv, q1, q2, .ref t22]) (fun m σ H24 => ∃ (G24 : Hp), Step NoW G H G24 H24 ∧ Ex G23 G24 ∧ WO G24 H24 wa (60000 + 100 * j + 40) ∧
              ∃ y6 y7 y10, σ = [some (.ref sa), some (.int cell), some (.ref wa), some (.ref g), some (.ref ga), some v, y6, y7, some qv, some x, y10])
            ⟨G23, S23, Ex.rfl' _, w23, _, _, _, rfl⟩ (fun m σ H24 _ ⟨G24, S24, e24, _⟩ => sqL (e24 _ _ g23) S24.gh) ?_ ?_
          · rintro m y σ H24 ey ⟨G24, S24, e24, w24, y6, y7, y10, rfl⟩
            obtain ⟨q, hq, rq'⟩ := rqs.map ey
            have gq := gqs q (mem_of hq)
            have qok := gq.qok (r0 := r0) (r1 := r1) oks.so
            obtain ⟨nm1, nm2, nm3⟩ := q_names qok wok.pl wok.w0 wok.w1
            refine ⟨_, rfl, _, rfl, G24, q.1, q.2.1, q.2.2, y, rfl, S24.gh, rq'.up e24, nm1, nm2, nm3, gq.lf, gq.lh, gq.nd, fun G25 H25 qa s25 qo => ?_⟩
            have S25 := S24.trans s25
            have up25 : Ex G13 G25 := up1316.trans (e17.trans (s18.eg.trans (s19.eg.trans (up19.trans (e24.trans s25.eg)))))
            refine ⟨_, rfl, G25, ga, qa, p, r0, r1, q.1, q.2.1, q.2.2, s', x, rfl, S25.gh, go13.up up25, qo, wok.pl, qok, oks', rs'.up (e17.trans (s18.eg.trans (s19.eg.trans (up19.trans (e24.trans s25.eg))))), wok.w0.size, wok.w1.size, fun bb H26 hbb f26 => ?_⟩
            have hb : bb = true := hbb.mpr (gq.met oks.so ea eb pm)
            subst hb
            have s26 := f26.step S25.gh
            exact ⟨true, true, rfl, rfl, _, rfl, ifF (by decide) ⟨G25, S25.trans s26, e24.trans s25.eg, (w24.go s25).go s26, _, _, _, rfl⟩⟩
          · rintro σ H24 ⟨G24, S24, e24, w24, y6, y7, y10, rfl⟩
            exact ⟨G24, S24, e17.trans (s18.eg.trans (s19.eg.trans (up19.trans e24))), w24.up (by omega), _, _, _, _, rfl⟩
        · rintro σ H17 ⟨G17, S17, e17, w17, y6, y7, y9, y10, rfl⟩
          have up1317 := up1316.trans e17
          refine ⟨_, rfl, _, rfl, _, rfl, G17, g, p, r0, r1, m0, m1, s, .ref wa, v, rfl, S17.gh, wo12.up (s13.eg.trans up1317), wok, oks, rs13.up up1317, fun qs G18 H18 wv okqs lqs s18 rqs => ?_⟩
          have S18 := S17.trans s18
          obtain ⟨lw, ws, rfl, glw, rws⟩ := rqs.lst
          refine ⟨lw, rfl, ⟨_, sqL glw S18.gh⟩, ?_⟩
          refine for_list (xs := ws) (fun m σ H24 => ∃ (G24 : Hp), Step NoW G H G24 H24 ∧ Ex G18 G24 ∧ ∃ y6 y7 y8 y9 y10, σ = [some (.ref sa), some (.int cell), some (.ref wa), some (.ref g), some (.ref ga), some v, y6, y7, y8, y9, y10])
            ⟨G18, S18, Ex.rfl' _, _, _, _, _, _, rfl⟩ (fun m σ H24 _ ⟨G24, S24, e24, _⟩ => sqL (e24 _ _ glw) S24.gh) ?_ ?_
          · rintro m y σ H24 ey ⟨G24, S24, e24, y6, y7, y8, y9, y10, rfl⟩
            obtain ⟨q, hq, rq'⟩ := rws.map ey
            have wq := okqs q (mem_of hq)
            obtain ⟨nm1, nm2, nm3⟩ := q_names wq.ok wok.pl wok.w0 wok.w1
            refine ⟨_, rfl, _, rfl, G24, q.1, q.2.1, q.2.2, y, rfl, S24.gh, rq'.up e24, nm1, nm2, nm3, wq.ok.lf, wq.ok.lh, wq.nd, fun G25 H25 qa s25 qo => ?_⟩
            have S25 := S24.trans s25
            have up25 : Ex G13 G25 := up1317.trans (s18.eg.trans (e24.trans s25.eg))
            refine ⟨_, rfl, G25, ga, qa, p, r0, r1, q.1, q.2.1, q.2.2, s, v, rfl, S25.gh, go13.up up25, qo, wok.pl, wq.ok, oks, rs13.up up25, wok.w0.size, wok.w1.size, fun bb H26 hbb f26 => ?_⟩
            have hb : bb = false := by
              cases bb with
              | false => rfl
              | true => exact absurd (hbb.mp rfl) wq.no
            subst hb
            exact ⟨false, false, rfl, rfl, _, rfl, ifF (by decide) ⟨G25, S25.trans (f26.step S25.gh), e24.trans s25.eg, _, _, _, _, _, rfl⟩⟩
          · rintro σ H24 ⟨G24, S24, e24, y6, y7, y8, y9, y10, rfl⟩
            exact ⟨G24, S24, e34.trans (s5.eg.trans (s6.eg.trans (s7.eg.trans (s8.eg.trans (s9.eg.trans (s10.eg.trans (e12.trans (s13.eg.trans (up1317.trans (s18.eg.trans e24)))))))))), _, _, _, _, _, _, _, _, _, _, rfl⟩
    · rintro σ H4 ⟨G4, S4, e34, y1, y2, y3, y4, y5, y6, y7, y8, y9, y10, rfl⟩
      exact kk _
end
end K4

set_option maxHeartbeats 400000
/-! All contracts together. -/
namespace K4
open PySem L2
section
variable {P : Program} {w : World} {K : PySem.W.Frag} {mg : Str → Option Value} {base : Heap}
theorem CalC.up {C : Addr} {ps : List Str} {ds : List Value} {j k : Nat} {sp : Sp} (c : CalC P w K mg base j C ps ds sp) (h : j ≤ k) : CalC P w K mg base k C ps ds sp := by
  obtain ⟨f, fd, h1, h2, h3⟩ := c.ex
  exact ⟨f, fd, h1, h2, h3.mono h⟩
theorem mades (T : Txt K mg) (b : ∀ k, 14 ≤ k → ∀ d, Cal P w K mg base k "_law_made" P_law_made (spMade K d) → Cal P w K mg base (k + 2) "_law_built" P_law_built (spBuilt K d)) (c_Program : CalC P w K mg base 14 (cA K "Program") P_Program_init [] (spProgramInit K)) :
    ∀ d, Cal P w K mg base (14 + 4 * d) "_law_made" P_law_made (spMade K d)
  | 0 => by
    refine Cal.up (j := 1) ?_ (by omega)
    refine Cal.of T.fn_law_made sc_law_made (fun vs H Q E h => ?_) (fun f cdv A outer s H vs Q E hr h => ?_)
    · obtain ⟨_, _, _, _, _, _, _, _, _, h, _⟩ := h; exact absurd h (Nat.not_lt_zero _)
    · obtain ⟨_, _, _, _, _, _, _, _, _, h, _⟩ := h; exact absurd h (Nat.not_lt_zero _)
  | d + 1 => ok_made (k := 14 + 4 * d + 2) T (b (14 + 4 * d) (by omega) d (mades T b c_Program d)) (c_Program.up (by omega))
theorem top_body (T : Txt K mg) : Body P w K mg base 39 N_law P_law "law" s_law (spLaw K) := by
  have i1 := ok_is_name (P := P) (w := w) (base := base) T
  have an := ok_asked_names T i1
  have ao := ok_asked_once (P := P) (w := w) (base := base) T
  have qi := ok_Question_init (k := 2) T an (ao.up (by omega))
  have ac := ok_asked_cells (k := 2) T an (ao.up (by omega))
  have bi := ok_Board_init T ac
  have vo := ok_values_of (P := P) (w := w) (base := base) T
  have ft := ok_first (P := P) (w := w) (base := base) T
  have ba := ok_BAsked T vo
  have bo := ok_others T vo
  have va := ok_value_at (P := P) (w := w) (base := base) T
  have as := ok_asked_size (P := P) (w := w) (base := base) T
  have pi := ok_Program_init (k := 13) T (as.up (by omega)) (sizesP T 6) ((deepsP T 6).up (by omega))
  have cw := ok_Write T an
  have ct := ok_Wait T an
  have oc := ok_OnCell T an
  have mi := ok_Mark T an
  have ifi := ok_If T oc
  have whi := ok_While T oc
  have chi := ok_Choose (P := P) (w := w) (base := base) (k := 0) T
  have loi := ok_Loop (P := P) (w := w) (base := base) (k := 0) T
  have lk := ok_looks T bo
  have so := ok_steps_of T lk
  have bg := ok_begin_of (P := P) (w := w) (base := base) T
  have mci := ok_Machine_init (k := 25) T ((numbers T 6).up (by omega)) (ba.up (by omega)) (lays T bg so 6)
  have ma := ok_MAsked (P := P) (w := w) (base := base) T
  have mo := ok_mark_of T ma
  have ms := ok_marks (P := P) (w := w) (base := base) T
  have am := ok_asked_many (P := P) (w := w) (base := base) T
  have gi := ok_Game_init T mci
  have gm := ok_GMachine (P := P) (w := w) (base := base) T
  have gb := ok_GBoard (P := P) (w := w) (base := base) T
  have be := ok_begin T am ft
  have aof := ok_asked_of (k := 2) T (ms.up (by omega)) (gm.up (by omega)) (gb.up (by omega)) ba
  have il := ok_is_led (k := 2) T mo (gm.up (by omega))
  have ih := ok_is_held (k := 1) T va gb
  have mat := ok_marks_at (k := 2) T mo (gm.up (by omega))
  have mt := ok_met (k := 3) T aof il (ih.up (by omega)) mat
  have lc := ok_cell_at (P := P) (w := w) (base := base) T
  have lw := ok_well (P := P) (w := w) (base := base) T
  have ld := ok_draw (P := P) (w := w) (base := base) T
  have lo := ok_lawOf T ld
  have lwd := ok_word (k := 2) T (ld.up (by omega)) lo
  have lp := ok_plan (k := 3) T (ld.up (by omega)) lwd
  have lpa := ok_lparts (P := P) (w := w) (base := base) T
  have ll := lens T lpa 6
  have lr := rows_ok T ll ld lo 5
  have lm := mades T (fun k hk d c => ok_built (k := k) T (by omega) (lpa.up (by omega)) c (cw.up (by omega)) (ct.up (by omega)) (mi.up (by omega)) (ifi.up (by omega)) (whi.up (by omega)) (chi.up (by omega)) (loi.up (by omega))) pi 6
  have le := ok_exits (P := P) (w := w) (base := base) T
  have lly := llays T ll lpa le 6
  have lrm := ok_rooms (k := 13) T (ll.up (by omega)) lly
  have lwo := ok_world T lrm
  have ldr := ok_drawn (k := 18) T (lp.up (by omega)) (lwd.up (by omega)) lr (ld.up (by omega)) (lwo.up (by omega))
  have low := ok_own (k := 37) T (bi.up (by omega)) lm (gi.up (by omega))
  have lb := ok_behind (P := P) (w := w) (base := base) T
  have lop := ok_open T lb
  have lnx := ok_nexts T lop
  have lmk := ok_lmarks (P := P) (w := w) (base := base) T
  have lpu := ok_put_as T qi
  have lf := ok_full (P := P) (w := w) (base := base) T
  have lle := ok_less T ld
  have lmx := ok_mixed T ld
  have lmo := ok_more (k := 2) T lmx lo
  have lwr := ok_wrong T lf lmk
  exact body_law T (lc.up (by omega)) (lw.up (by omega)) (ldr.up (by omega)) low (be.up (by omega)) (ld.up (by omega)) (lnx.up (by omega)) (lo.up (by omega)) (lf.up (by omega)) (lmo.up (by omega)) (lle.up (by omega)) (mt.up (by omega)) (lpu.up (by omega)) (lwr.up (by omega))
end
end K4

set_option maxHeartbeats 4000000
open PySem PySem.W PySem.Calls PyProof.Rows
theorem PySem.Challenge.cw_manyboard_k40_whole_more_hands_still_mee_holds : PySem.Challenge.rw_manyboard_k40_whole_more_hands_still_mee.Holds := by
  w_on; o_law
  refine HandSHeadRun.head_any (r := K4.hR) (q := K4.hq) (H := K4.hk) (ob := K4.ob) (M := 20000) (loose := K4.hLoose) (d := HandSHeadRun.topDef K4.hR.prog 89) (kwd := []) K4.ob_eq
    (by kernel_rfl) (fun s => by kernel_rfl) K4.run (by kernel_rfl) (by kernel_rfl) (by kernel_rfl) (by rfl) (by first | assumption | decide +kernel) (by decide +kernel) ⟨rfl, rfl, rfl, rfl, rfl, by decide +kernel⟩ ?hw ?hc
  case hw => w_witness2
  case hc =>
    refine L2.walk_ofE (l := PySem.Challenge.rw_manyboard_k40_whole_more_hands_still_mee) (n := 63) (k := 40) (x := "_law_script") (CX := L2.CX0) rfl (by decide) (by kernel_rfl) ⟨rfl, by decide, by decide⟩ ?F (fun _ _ _ _ z => z)
    intro w mg fa h Y G hmg0
    obtain ⟨K, KX, c⟩ := Y
    have T : K4.Txt K mg := K4.txt_of KX G c
    have hmg : mg ("law" : PySem.Str) = some (.ref fa) := by
      have e : (HandSHeadRun.topDef K4.hR.prog 89).name = ("law" : PySem.Str) := by kernel_rfl
      rw [← e]
      exact hmg0
    obtain ⟨f, fd, h1, h2, h3⟩ := T.fn_law.ex
    have e := hmg.symm.trans h1
    cases e
    have b := L2.FunD.bindsA (ps := ["_law_script"]) h2 fun _ _ _ _ _ _ us hl => match us, hl with | [_], _ => rfl
    exact ⟨K, fd, K4.spLaw K, KX, fun s v => b s [v] rfl, fun H a ns hl _ hS => ⟨a, ns, rfl, hS, hl, fun _ => rfl⟩, fun base _ _ => K4.ok_of h2 K4.sc_law K4.len_law (K4.top_body T fa)⟩

