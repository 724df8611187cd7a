import PyProof.Rows.All
import Wide.All
import OpenK.AllK
import Wide.FinOn
import HandS.ForMost
import HandS.ForExc
import HandS.CallSlots
import HandS.HeadHook1
import HandS.HeadHook2
import HandS.HotCalls
import HandS.Defaults
import HandS.IsInst
import HandS.StrMore
import HandS.Style
import HandS.RaiseMore
import HandS.Iter
import KE.GoesMore
import HandS.TryOnly
import HandS.Text
import HandS.More
import HandS.StrSplit
import KE.DatumIndex
import HandS.Ends
import HandS.EndBits
import HandS.Head0
import HandS.Head1
import HandS.Head2
import HandS.HeadHook3
import HandS.HeadHook4
import KE.KItemsList
import HandS.ListItems
import KE.GoesEnum
import KE.KIntText
import KE.IntTextLaws
import PyProof.StrLawsTight
import PyProof.StrLawsOccR
import PyProof.StrLawsLast
import PyProof.StrLawsChain
import HandS.ExcCtx
import HandS.ExcIs
import HandS.ExcBuiltin
import HandS.Hot
import PyProof.ZipIter
import PyProof.StrOps2
import PyProof.ReprLen
import PySem.Challenge.RW_cleanrows_k16_no_disks
set_option Elab.async false
set_option linter.all false
set_option maxRecDepth 100000
set_option maxHeartbeats 4000000

/-! Fw: a small machine of deep data and labelled cells, and what it means that a Python text follows it. -/
namespace Fw
open PySem L2

/-! ### data, cells -/
inductive D where
  | non | bl (b : Bool) | int (i : Int) | str (x : Str)
  | lst (ds : List D) | tup (ds : List D)
  | obj (l : Nat)
  | err (c : Str) (a : Nat)

inductive Cl where
  | dead
  | lst (ds : List D)
  | dic (kvs : List (Key × D))
  | ins (c : Str) (fs : List (Str × D))

abbrev Gr := List Cl

/-- what a value stands for, over the frozen heap F, the labels' places mm, n labels known; fr: what stands aside, and stays -/
structure Wd where
  F : Hp
  mm : Nat → Addr
  n : Nat
  fr : Hp

mutual
def Rep (K : PySem.W.Frag) (w : Wd) : V → D → Prop
  | v, .non => v = .non
  | v, .bl b => v = .bl b
  | v, .int i => v = .int i
  | v, .str x => v = .str x
  | v, .lst ds => ∃ a xs, v = .ref a ∧ Rd w.F a (.lst xs) ∧ RepL K w xs ds
  | v, .tup ds => ∃ a xs, v = .ref a ∧ SqT K w.F a xs ∧ RepL K w xs ds
  | v, .obj l => l < w.n ∧ v = .ref (w.mm l)
  | v, .err _ a => v = .ref a
def RepL (K : PySem.W.Frag) (w : Wd) : List V → List D → Prop
  | xs, [] => xs = []
  | xs, d :: ds => ∃ x r, xs = x :: r ∧ Rep K w x d ∧ RepL K w r ds
end

/-- the heap may only have grown -/
def Exn (F F' : Hp) : Prop := ∀ a o, F a = some o → F' a = some o
theorem Exn.refl (F : Hp) : Exn F F := fun _ _ h => h
theorem Exn.trans {F G H : Hp} (p : Exn F G) (q : Exn G H) : Exn F H := fun a o h => q a o (p a o h)
theorem Exn.rd {F F' : Hp} {a : Addr} {u : HO} (e : Exn F F') (h : Rd F a u) : Rd F' a u := by
  rcases h with h | ⟨o, h⟩
  · exact .inl (e a _ h)
  · exact .inr ⟨o, e a _ h⟩
theorem Exn.sqL {K : PySem.W.Frag} {F F' : Hp} {a : Addr} {xs : List V} (e : Exn F F') (h : SqL K F a xs) : SqL K F' a xs :=
  Same.seq e h
theorem Exn.sqT {K : PySem.W.Frag} {F F' : Hp} {a : Addr} {xs : List V} (e : Exn F F') (h : SqT K F a xs) : SqT K F' a xs := by
  rcases h with (h | ⟨o, h⟩) | h
  · exact .inl (.inl (e a _ h))
  · exact .inl (.inr ⟨o, e a _ h⟩)
  · exact .inr h
theorem Exn.free {F F' : Hp} {a : Addr} (e : Exn F F') (h : F' a = none) : F a = none := by
  cases q : F a with
  | none => rfl
  | some o => rw [e a o q] at h; cases h
theorem Exn.add {F : Hp} {p : Addr} {o : HO} (h : F p = none) : Exn F (upd F p o) := fun a u q => by
  rw [upd_ne (ne_of_none q h)]; exact q
theorem Exn.add2 {F H : Hp} {p : Addr} {o : HO} (e : Exn F H) : Exn (upd F p o) (upd H p o) := fun a u q => by
  by_cases z : a = p
  · subst z; rw [upd_same] at q ⊢; exact q
  · rw [upd_ne z] at q ⊢; exact e a u q

/-- a later world -/
structure Wd.Lo (w w' : Wd) : Prop where
  ex : Exn w.F w'.F
  same : ∀ l, l < w.n → w'.mm l = w.mm l
  le : w.n ≤ w'.n
structure Wd.Le (w w' : Wd) : Prop where
  ex : Exn w.F w'.F
  same : ∀ l, l < w.n → w'.mm l = w.mm l
  le : w.n ≤ w'.n
  fr : Exn w.fr w'.fr
theorem Wd.Le.lo {w w' : Wd} (h : w.Le w') : w.Lo w' := ⟨h.ex, h.same, h.le⟩
theorem Wd.Le.refl (w : Wd) : w.Le w := ⟨Exn.refl _, fun _ _ => rfl, Nat.le_refl _, Exn.refl _⟩
theorem Wd.Le.trans {a b c : Wd} (p : a.Le b) (q : b.Le c) : a.Le c :=
  ⟨p.ex.trans q.ex, fun l h => (q.same l (Nat.lt_of_lt_of_le h p.le)).trans (p.same l h), Nat.le_trans p.le q.le, p.fr.trans q.fr⟩

mutual
theorem Rep.mono0 {K : PySem.W.Frag} {w w' : Wd} (e : w.Lo w') : ∀ (v : V) (d : D), Rep K w v d → Rep K w' v d
  | v, .non, h => by simp only [Rep] at h ⊢; exact h
  | v, .bl b, h => by simp only [Rep] at h ⊢; exact h
  | v, .int i, h => by simp only [Rep] at h ⊢; exact h
  | v, .str x, h => by simp only [Rep] at h ⊢; exact h
  | v, .lst ds, h => by
    simp only [Rep] at h ⊢
    obtain ⟨a, xs, h1, h2, h3⟩ := h
    exact ⟨a, xs, h1, e.ex.rd h2, RepL.mono0 e xs ds h3⟩
  | v, .tup ds, h => by
    simp only [Rep] at h ⊢
    obtain ⟨a, xs, h1, h2, h3⟩ := h
    exact ⟨a, xs, h1, e.ex.sqT h2, RepL.mono0 e xs ds h3⟩
  | v, .obj l, h => by
    simp only [Rep] at h ⊢
    exact ⟨Nat.lt_of_lt_of_le h.1 e.le, by rw [e.same l h.1]; exact h.2⟩
  | v, .err c a, h => by simp only [Rep] at h ⊢; exact h
theorem RepL.mono0 {K : PySem.W.Frag} {w w' : Wd} (e : w.Lo w') : ∀ (xs : List V) (ds : List D), RepL K w xs ds → RepL K w' xs ds
  | xs, [], h => by simp only [RepL] at h ⊢; exact h
  | xs, d :: ds, h => by
    simp only [RepL] at h ⊢
    obtain ⟨x, r, h1, h2, h3⟩ := h
    exact ⟨x, r, h1, Rep.mono0 e x d h2, RepL.mono0 e r ds h3⟩
end
theorem Rep.mono {K : PySem.W.Frag} {w w' : Wd} (e : w.Le w') (v : V) (d : D) (h : Rep K w v d) : Rep K w' v d := Rep.mono0 e.lo v d h
theorem RepL.mono {K : PySem.W.Frag} {w w' : Wd} (e : w.Le w') (v : List V) (d : List D) (h : RepL K w v d) : RepL K w' v d := RepL.mono0 e.lo v d h

theorem RepL.length {K : PySem.W.Frag} {w : Wd} : ∀ {ds : List D} {xs : List V}, RepL K w xs ds → xs.length = ds.length
  | [], xs, h => by simp only [RepL] at h; subst h; rfl
  | d :: ds, xs, h => by
    simp only [RepL] at h
    obtain ⟨x, r, rfl, _, h3⟩ := h
    simp [RepL.length h3]
theorem RepL.get {K : PySem.W.Frag} {w : Wd} : ∀ {ds : List D} {xs : List V} {i : Nat} {d : D}, RepL K w xs ds → ds[i]? = some d → ∃ v, xs[i]? = some v ∧ Rep K w v d
  | [], _, i, d, _, e => by simp at e
  | c :: ds, xs, 0, d, h, e => by
    simp only [RepL] at h
    obtain ⟨x, r, rfl, h2, _⟩ := h
    simp at e; subst e
    exact ⟨x, rfl, h2⟩
  | c :: ds, xs, i + 1, d, h, e => by
    simp only [RepL] at h
    obtain ⟨x, r, rfl, _, h3⟩ := h
    simp at e
    obtain ⟨v, hv, hr⟩ := RepL.get h3 e
    exact ⟨v, by simpa using hv, hr⟩
theorem RepL.app {K : PySem.W.Frag} {w : Wd} {es : List D} {ys : List V} (h2 : RepL K w ys es) : ∀ {ds : List D} {xs : List V}, RepL K w xs ds → RepL K w (xs ++ ys) (ds ++ es)
  | [], xs, h => by simp only [RepL] at h; subst h; exact h2
  | d :: ds, xs, h => by
    simp only [RepL] at h
    obtain ⟨x, r, rfl, a, b⟩ := h
    simp only [List.cons_append, RepL]
    exact ⟨x, r ++ ys, rfl, a, RepL.app h2 b⟩
theorem RepL.set {K : PySem.W.Frag} {w : Wd} {v : V} {e : D} (hv : Rep K w v e) : ∀ {ds : List D} {xs : List V} {i : Nat}, RepL K w xs ds → RepL K w (xs.set i v) (ds.set i e)
  | [], xs, i, h => by simp only [RepL] at h; subst h; simp [RepL]
  | d :: ds, xs, 0, h => by
    simp only [RepL] at h
    obtain ⟨x, r, rfl, a, b⟩ := h
    simp only [List.set_cons_zero, RepL]
    exact ⟨v, r, rfl, hv, b⟩
  | d :: ds, xs, i + 1, h => by
    simp only [RepL] at h
    obtain ⟨x, r, rfl, a, b⟩ := h
    simp only [List.set_cons_succ, RepL]
    exact ⟨x, r.set i v, rfl, a, RepL.set hv b⟩
theorem RepL.one {K : PySem.W.Frag} {w : Wd} {v : V} {d : D} (h : Rep K w v d) : RepL K w [v] [d] := by
  simp only [RepL]; exact ⟨v, [], rfl, h, rfl⟩
theorem RepL.take {K : PySem.W.Frag} {w : Wd} (k : Nat) : ∀ {ds : List D} {xs : List V}, RepL K w xs ds → RepL K w (xs.take k) (ds.take k) := by
  induction k with
  | zero => intro ds xs _; simp [RepL]
  | succ k ih =>
    intro ds xs h
    cases ds with
    | nil => simp only [RepL] at h; subst h; simp [RepL]
    | cons d ds =>
      simp only [RepL] at h
      obtain ⟨x, r, rfl, a, b⟩ := h
      simp only [List.take_succ_cons, RepL]
      exact ⟨x, r.take k, rfl, a, ih b⟩
theorem RepL.drop {K : PySem.W.Frag} {w : Wd} (k : Nat) : ∀ {ds : List D} {xs : List V}, RepL K w xs ds → RepL K w (xs.drop k) (ds.drop k) := by
  induction k with
  | zero => intro ds xs h; simpa using h
  | succ k ih =>
    intro ds xs h
    cases ds with
    | nil => simp only [RepL] at h; subst h; simp [RepL]
    | cons d ds =>
      simp only [RepL] at h
      obtain ⟨x, r, rfl, a, b⟩ := h
      simp only [List.drop_succ_cons]
      exact ih b
/-- fields, by name -/
def RepF (K : PySem.W.Frag) (w : Wd) (fs : List (Str × V)) (ds : List (Str × D)) : Prop :=
  fs.map (·.1) = ds.map (·.1) ∧ RepL K w (fs.map (·.2)) (ds.map (·.2))
def RepK (K : PySem.W.Frag) (w : Wd) (fs : List (Key × V)) (ds : List (Key × D)) : Prop :=
  fs.map (·.1) = ds.map (·.1) ∧ RepL K w (fs.map (·.2)) (ds.map (·.2))

/-! ### the heap with its cells -/
def CellAt (K : PySem.W.Frag) (w : Wd) (H : Hp) (a : Addr) : Cl → Prop
  | .dead => True
  | .lst ds => w.F a = none ∧ ∃ xs, H a = some (.lst xs) ∧ RepL K w xs ds
  | .dic kvs => w.F a = none ∧ ∃ xs, H a = some (.dK xs) ∧ RepK K w xs kvs
  | .ins c fs => w.F a = none ∧ ∃ dx xs, H a = some (.ins (He.ga K c) dx xs) ∧ RepF K w xs fs

def Cl.live : Cl → Bool
  | .dead => false
  | _ => true
structure SG (K : PySem.W.Frag) (w : Wd) (g : Gr) (H : Hp) : Prop where
  ex : Exn w.F H
  n : w.n = g.length
  cell : ∀ l c, g[l]? = some c → CellAt K w H (w.mm l) c
  inj : ∀ l l' c c', g[l]? = some c → g[l']? = some c' → c.live = true → c'.live = true → w.mm l = w.mm l' → l = l'
  fx : Exn w.fr H
  ff : ∀ a o, w.fr a = some o → w.F a = none
  fc : ∀ a o l c, w.fr a = some o → g[l]? = some c → c.live = true → w.mm l ≠ a

theorem CellAt.mono {K : PySem.W.Frag} {w w' : Wd} {H H' : Hp} {a : Addr} {c : Cl} (e : w.Lo w') (hF : c.live = true → w.F a = none → w'.F a = none) (hH : c.live = true → H' a = H a) (h : CellAt K w H a c) : CellAt K w' H' a c := by
  cases c with
  | dead => trivial
  | lst ds =>
    obtain ⟨f, xs, h1, h2⟩ := h
    exact ⟨hF rfl f, xs, (hH rfl).trans h1, RepL.mono0 e _ _ h2⟩
  | dic ds =>
    obtain ⟨f, xs, h1, h2, h3⟩ := h
    exact ⟨hF rfl f, xs, (hH rfl).trans h1, h2, RepL.mono0 e _ _ h3⟩
  | ins c fs =>
    obtain ⟨f, dx, xs, h1, h2, h3⟩ := h
    exact ⟨hF rfl f, dx, xs, (hH rfl).trans h1, h2, RepL.mono0 e _ _ h3⟩
theorem CellAt.some {K : PySem.W.Frag} {w : Wd} {H : Hp} {a : Addr} {c : Cl} (h : CellAt K w H a c) (l : c.live = true) : w.F a = none ∧ ∃ o, H a = some o := by
  cases c with
  | dead => cases l
  | lst ds => obtain ⟨f, xs, h1, _⟩ := h; exact ⟨f, _, h1⟩
  | dic ds => obtain ⟨f, xs, h1, _⟩ := h; exact ⟨f, _, h1⟩
  | ins c fs => obtain ⟨f, dx, xs, h1, _⟩ := h; exact ⟨f, _, h1⟩

section
variable {K : PySem.W.Frag} {w : Wd} {g : Gr} {H : Hp} {p : Addr}
/-- a new frozen object -/
theorem SG.allocF (S : SG K w g H) (hp : H p = none) (o : HO) : SG K { w with F := upd w.F p o } g (upd H p o) ∧ w.Le { w with F := upd w.F p o } := by
  have hf : w.F p = none := S.ex.free hp
  have hr : w.fr p = none := S.fx.free hp
  have le : w.Le { w with F := upd w.F p o } := ⟨Exn.add hf, fun _ _ => rfl, Nat.le_refl _, Exn.refl _⟩
  refine ⟨⟨Exn.add2 S.ex, S.n, fun l c h => ?_, S.inj, S.fx.trans (Exn.add hp), fun a u h => ?_, S.fc⟩, le⟩
  · have q := S.cell l c h
    have ne : c.live = true → w.mm l ≠ p := fun lv z => by
      obtain ⟨_, o', h'⟩ := q.some lv
      rw [z, hp] at h'; cases h'
    exact q.mono le.lo (fun lv f => by show upd w.F p o (w.mm l) = none; rw [upd_ne (ne lv)]; exact f) (fun lv => upd_ne (ne lv))
  · show upd w.F p o a = none
    rw [upd_ne (ne_of_none h hr)]; exact S.ff a u h
/-- other things come -/
theorem SG.grow (S : SG K w g H) {H' : Hp} (e : Exn H H') : SG K w g H' :=
  ⟨S.ex.trans e, S.n, fun l c h => by
    have q := S.cell l c h
    refine q.mono (Wd.Le.refl _).lo (fun _ f => f) (fun lv => ?_)
    obtain ⟨_, o, h'⟩ := q.some lv
    rw [h', e _ _ h'], S.inj, S.fx.trans e, S.ff, S.fc⟩
/-- the world with one more label, at p -/
def Wd.more (w : Wd) (p : Addr) : Wd := ⟨w.F, fun l => if l = w.n then p else w.mm l, w.n + 1, w.fr⟩
theorem Wd.le_more (w : Wd) (p : Addr) : w.Le (w.more p) :=
  ⟨Exn.refl _, fun l h => if_neg (Nat.ne_of_lt h), Nat.le_succ _, Exn.refl _⟩
theorem Wd.more_at (w : Wd) (p : Addr) : (w.more p).mm w.n = p := if_pos rfl
/-- a new cell -/
theorem SG.allocC (S : SG K w g H) (hp : H p = none) {o : HO} {c : Cl} (hc : CellAt K (w.more p) (upd H p o) p c) : SG K (w.more p) (g ++ [c]) (upd H p o) := by
  have nep : ∀ l c', g[l]? = some c' → c'.live = true → w.mm l ≠ p := fun l c' h lv z => by
    obtain ⟨_, o', h'⟩ := (S.cell l c' h).some lv
    rw [z, hp] at h'; cases h'
  have lt : ∀ l c', g[l]? = some c' → l < w.n := fun l c' h => by
    rw [S.n]; exact (List.getElem?_eq_some_iff.mp h).1
  have old : ∀ l c', (g ++ [c])[l]? = some c' → (g[l]? = some c' ∧ (w.more p).mm l = w.mm l) ∨ (c' = c ∧ (w.more p).mm l = p ∧ l = w.n) := fun l c' h => by
    by_cases z : l < g.length
    · rw [List.getElem?_append_left z] at h
      exact .inl ⟨h, if_neg (Nat.ne_of_lt (lt l c' h))⟩
    · have e : l = g.length := by
        have := (List.getElem?_eq_some_iff.mp h).1
        simp at this; omega
      subst e
      rw [List.getElem?_append_right (Nat.le_refl _)] at h
      simp at h
      exact .inr ⟨h.symm, if_pos S.n.symm, S.n.symm⟩
  have hr : w.fr p = none := S.fx.free hp
  refine ⟨S.ex.trans (Exn.add hp), by simp [Wd.more, S.n], fun l c' h => ?_, fun l l' c1 c2 h1 h2 v1 v2 e => ?_, S.fx.trans (Exn.add hp), S.ff, fun a o' l c' h1 h2 v => ?_⟩
  · rcases old l c' h with ⟨h1, e⟩ | ⟨rfl, e, _⟩
    · rw [e]
      exact (S.cell l c' h1).mono (w.le_more p).lo (fun _ f => f) (fun lv => upd_ne (nep l c' h1 lv))
    · rw [e]; exact hc
  · rcases old l c1 h1 with ⟨q1, e1⟩ | ⟨rfl, e1, z1⟩ <;> rcases old l' c2 h2 with ⟨q2, e2⟩ | ⟨rfl, e2, z2⟩
    · rw [e1, e2] at e; exact S.inj l l' c1 c2 q1 q2 v1 v2 e
    · rw [e1, e2] at e; exact absurd e (nep l c1 q1 v1)
    · rw [e1, e2] at e; exact absurd e.symm (nep l' c2 q2 v2)
    · exact z1.trans z2.symm
  · rcases old l c' h2 with ⟨q1, e1⟩ | ⟨_, e1, _⟩
    · rw [e1]; exact S.fc a o' l c' h1 q1 v
    · rw [e1]; exact (ne_of_none h1 hr).symm
/-- a cell is written -/
theorem SG.setC (S : SG K w g H) {l : Nat} {c0 c : Cl} (h0 : g[l]? = some c0) (lv : c0.live = true) {o : HO} (hc : CellAt K w (upd H (w.mm l) o) (w.mm l) c) (hl : c.live = true) : SG K w (g.set l c) (upd H (w.mm l) o) := by
  have hlt : l < g.length := (List.getElem?_eq_some_iff.mp h0).1
  obtain ⟨f0, o0, e0⟩ := (S.cell l c0 h0).some lv
  have old : ∀ k c', (g.set l c)[k]? = some c' → (k ≠ l ∧ g[k]? = some c') ∨ (k = l ∧ c' = c) := fun k c' h => by
    by_cases z : l = k
    · subst z
      rw [List.getElem?_set_self hlt] at h
      exact .inr ⟨rfl, (Option.some.inj h).symm⟩
    · rw [List.getElem?_set_ne z] at h
      exact .inl ⟨fun e => z e.symm, h⟩
  have ne : ∀ k c', k ≠ l → g[k]? = some c' → c'.live = true → w.mm k ≠ w.mm l := fun k c' z h v e => z (S.inj k l c' c0 h h0 v lv e)
  refine ⟨fun a u q => ?_, by simp [S.n], fun k c' h => ?_, fun k k' c1 c2 h1 h2 v1 v2 e => ?_, fun a u q => ?_, S.ff, fun a u k c' q h v => ?_⟩
  · have : a ≠ w.mm l := fun z => by rw [z, f0] at q; cases q
    rw [upd_ne this]; exact S.ex a u q
  · rcases old k c' h with ⟨z, q⟩ | ⟨rfl, rfl⟩
    · exact (S.cell k c' q).mono (Wd.Le.refl _).lo (fun _ f => f) (fun v => upd_ne (ne k c' z q v))
    · exact hc
  · rcases old k c1 h1 with ⟨z1, q1⟩ | ⟨rfl, rfl⟩ <;> rcases old k' c2 h2 with ⟨z2, q2⟩ | ⟨rfl, rfl⟩
    · exact S.inj k k' c1 c2 q1 q2 v1 v2 e
    · exact absurd e (ne k c1 z1 q1 v1)
    · exact absurd e.symm (ne k' c2 z2 q2 v2)
    · rfl
  · rw [upd_ne (S.fc a u l c0 q h0 lv).symm]; exact S.fx a u q
  · rcases old k c' h with ⟨_, h1⟩ | ⟨rfl, _⟩
    · exact S.fc a u k c' q h1 v
    · exact S.fc a u k c0 q h0 lv
/-- a list's cell is frozen -/
theorem SG.freeze (S : SG K w g H) {l : Nat} {ds : List D} (h0 : g[l]? = some (.lst ds)) : ∃ w', w.Le w' ∧ SG K w' (g.set l .dead) H ∧ Rep K w' (.ref (w.mm l)) (.lst ds) := by
  obtain ⟨f0, xs, e0, r0⟩ := S.cell l _ h0
  have hlt : l < g.length := (List.getElem?_eq_some_iff.mp h0).1
  have le : w.Le { w with F := upd w.F (w.mm l) (.lst xs) } := ⟨Exn.add f0, fun _ _ => rfl, Nat.le_refl _, Exn.refl _⟩
  have back : ∀ (j : Nat) (c : Cl), (g.set l .dead)[j]? = some c → c.live = true → g[j]? = some c := fun j c h v => by
    by_cases z : l = j
    · subst z
      rw [List.getElem?_set_self hlt] at h
      rw [← Option.some.inj h] at v; cases v
    · rw [List.getElem?_set_ne z] at h; exact h
  refine ⟨{ w with F := upd w.F (w.mm l) (.lst xs) }, le, ⟨fun a u q => ?_, by simp [S.n], fun k c' h => ?_, fun k k' c1 c2 h1 h2 v1 v2 e => S.inj k k' c1 c2 (back k c1 h1 v1) (back k' c2 h2 v2) v1 v2 e, S.fx, fun a u q => ?_, fun a u k c' q h v => S.fc a u k c' q (back k c' h v) v⟩, ?_⟩
  · by_cases z : a = w.mm l
    · subst z
      have q' : upd w.F (w.mm l) (HO.lst xs) (w.mm l) = some u := q
      rw [upd_same] at q'; rw [← q']; exact e0
    · have q' : upd w.F (w.mm l) (HO.lst xs) a = some u := q
      rw [upd_ne z] at q'; exact S.ex a u q'
  · by_cases z : l = k
    · subst z
      rw [List.getElem?_set_self hlt] at h
      rw [← Option.some.inj h]; trivial
    · rw [List.getElem?_set_ne z] at h
      refine (S.cell k c' h).mono le.lo (fun v f => ?_) (fun _ => rfl)
      have : w.mm k ≠ w.mm l := fun e => z (S.inj k l c' _ h h0 v rfl e).symm
      show upd w.F (w.mm l) (.lst xs) (w.mm k) = none
      rw [upd_ne this]; exact f
  · show upd w.F (w.mm l) (.lst xs) a = none
    rw [upd_ne (S.fc a u l _ q h0 rfl).symm]; exact S.ff a u q
  · simp only [Rep]
    exact ⟨_, xs, rfl, .inl upd_same, RepL.mono le _ _ r0⟩
/-- the last cells are forgotten -/
theorem SG.cut (S : SG K w g H) (k : Nat) (hk : k ≤ g.length) (hlow : ∀ c, c ∈ g.take k → ∀ a, CellAt K w H a c → CellAt K { w with n := k } H a c) : SG K { w with n := k } (g.take k) H := by
  have old : ∀ j c, (g.take k)[j]? = some c → g[j]? = some c ∧ c ∈ g.take k := fun j c h => by
    have hj := (List.getElem?_eq_some_iff.mp h).1
    rw [List.length_take] at hj
    refine ⟨?_, List.mem_of_getElem? h⟩
    rw [List.getElem?_take_of_lt (by omega)] at h; exact h
  refine ⟨S.ex, by simp; omega, fun j c h => ?_, fun j j' c1 c2 h1 h2 v1 v2 e => S.inj j j' c1 c2 (old j c1 h1).1 (old j' c2 h2).1 v1 v2 e, S.fx, S.ff, fun a u j c q h v => S.fc a u j c q (old j c h).1 v⟩
  obtain ⟨q, m⟩ := old j c h
  exact hlow c m _ (S.cell j c q)
/-- something new stands aside -/
theorem SG.aside (S : SG K w g H) (hp : H p = none) (o : HO) : SG K { w with fr := upd w.fr p o } g (upd H p o) ∧ w.Le { w with fr := upd w.fr p o } := by
  have hr : w.fr p = none := S.fx.free hp
  have hf : w.F p = none := S.ex.free hp
  refine ⟨⟨S.ex.trans (Exn.add hp), S.n, fun l c h => ?_, S.inj, Exn.add2 S.fx, fun a u q => ?_, fun a u l c q h v z => ?_⟩, ⟨Exn.refl _, fun _ _ => rfl, Nat.le_refl _, Exn.add hr⟩⟩
  · have q := S.cell l c h
    refine q.mono (w' := { w with fr := upd w.fr p o }) (show Wd.Lo w { w with fr := upd w.fr p o } from ⟨Exn.refl _, fun _ _ => rfl, Nat.le_refl _⟩) (fun _ f => f) (fun lv => ?_)
    obtain ⟨_, o', h'⟩ := q.some lv
    exact upd_ne (ne_of_none h' hp)
  · by_cases z : a = p
    · rw [z]; exact hf
    · have q' : upd w.fr p o a = some u := q
      rw [upd_ne z] at q'; exact S.ff a u q'
  · have q' : upd w.fr p o a = some u := q
    have z' : w.mm l = a := z
    by_cases y : a = p
    · obtain ⟨_, o', h'⟩ := (S.cell l c h).some v
      rw [z', y, hp] at h'; cases h'
    · rw [upd_ne y] at q'; exact S.fc a u l c q' h v z'
/-- what stands aside is written -/
theorem SG.asideSet (S : SG K w g H) {o0 : HO} (hp : w.fr p = some o0) (o : HO) : SG K { w with fr := upd w.fr p o } g (upd H p o) := by
  refine ⟨fun a u q => ?_, S.n, fun l c h => ?_, S.inj, Exn.add2 S.fx, fun a u q => ?_, fun a u l c q h v z => ?_⟩
  · have : a ≠ p := fun z => by
      have q' : w.F a = some u := q
      rw [z, S.ff p _ hp] at q'; cases q'
    rw [upd_ne this]; exact S.ex a u q
  · exact (S.cell l c h).mono (show Wd.Lo w { w with fr := upd w.fr p o } from ⟨Exn.refl _, fun _ _ => rfl, Nat.le_refl _⟩) (fun _ f => f) (fun lv => upd_ne (S.fc p o0 l c hp h lv))
  · have q' : upd w.fr p o a = some u := q
    by_cases y : a = p
    · rw [y]; exact S.ff p o0 hp
    · rw [upd_ne y] at q'; exact S.ff a u q'
  · have q' : upd w.fr p o a = some u := q
    have z' : w.mm l = a := z
    by_cases y : a = p
    · exact S.fc p o0 l c hp h v (z'.trans y)
    · rw [upd_ne y] at q'; exact S.fc a u l c q' h v z'
end
end Fw

set_option maxRecDepth 100000
set_option maxHeartbeats 4000000
/-! Fw, second part: what an expression, a statement gives in the machine; a text that follows it. -/
namespace Fw
open PySem L2

inductive R where | ok (d : D) (g : Gr) | err (c : Str) (g : Gr) | no
inductive RL where | ok (ds : List D) (g : Gr) | err (c : Str) (g : Gr) | no
abbrev En := List (Option D)
inductive S where
  | nx (ρ : En) (g : Gr) | ret (d : D) (g : Gr) | bk (ρ : En) (g : Gr) | ct (ρ : En) (g : Gr) | err (c : Str) (ρ : En) (g : Gr) | no
abbrev Exp := En → Gr → R
abbrev Exps := En → Gr → RL
abbrev Stm := En → Gr → S
abbrev Fn := List D → Gr → R

def R.bind : R → (D → Gr → R) → R
  | .ok d g, f => f d g
  | .err c g, _ => .err c g
  | .no, _ => .no
def RL.bind : RL → (List D → Gr → R) → R
  | .ok d g, f => f d g
  | .err c g, _ => .err c g
  | .no, _ => .no

def Out (K : PySem.W.Frag) (w : Wd) (r : R) (Q : VK) (E : XK) : Prop :=
  match r with
  | .ok d g' => ∀ v H' w', w.Le w' → SG K w' g' H' → Rep K w' v d → Q v H'
  | .err c g' => ∀ H' w', w.Le w' → SG K w' g' H' → E (.ref (He.ga K c)) none H'
  | .no => False
def OutL (K : PySem.W.Frag) (w : Wd) (r : RL) (Q : List V → Hp → Prop) (E : XK) : Prop :=
  match r with
  | .ok ds g' => ∀ vs H' w', w.Le w' → SG K w' g' H' → RepL K w' vs ds → Q vs H'
  | .err c g' => ∀ H' w', w.Le w' → SG K w' g' H' → E (.ref (He.ga K c)) none H'
  | .no => False
theorem Out.weak {K : PySem.W.Frag} {w w' : Wd} {r : R} {Q : VK} {E : XK} (o : Out K w r Q E) (e : w.Le w') : Out K w' r Q E := by
  cases r with
  | ok d g => exact fun v H' w2 l => o v H' w2 (e.trans l)
  | err c g => exact fun H' w2 l => o H' w2 (e.trans l)
  | no => exact o
theorem OutL.weak {K : PySem.W.Frag} {w w' : Wd} {r : RL} {Q : List V → Hp → Prop} {E : XK} (o : OutL K w r Q E) (e : w.Le w') : OutL K w' r Q E := by
  cases r with
  | ok d g => exact fun v H' w2 l => o v H' w2 (e.trans l)
  | err c g => exact fun H' w2 l => o H' w2 (e.trans l)
  | no => exact o
/-- a value that is there already -/
theorem Out.here {K : PySem.W.Frag} {w : Wd} {d : D} {g : Gr} {Q : VK} {E : XK} (o : Out K w (.ok d g) Q E) {H : Hp} {v : V} (s : SG K w g H) (r : Rep K w v d) : Q v H := o v H w (Wd.Le.refl w) s r
/-- a new frozen list, tuple -/
theorem Out.newL {K : PySem.W.Frag} {w : Wd} {ds : List D} {g : Gr} {Q : VK} {E : XK} (o : Out K w (.ok (.lst ds) g) Q E) {H : Hp} {xs : List V} (s : SG K w g H) (r : RepL K w xs ds) : ∀ p, H p = none → Q (.ref p) (upd H p (.lst xs)) := fun p hp => by
  obtain ⟨s', le⟩ := s.allocF hp (.lst xs)
  refine o _ _ _ le s' ?_
  simp only [Rep]
  exact ⟨p, xs, rfl, .inl upd_same, RepL.mono le _ _ r⟩
theorem Out.newT {K : PySem.W.Frag} {w : Wd} {ds : List D} {g : Gr} {Q : VK} {E : XK} (o : Out K w (.ok (.tup ds) g) Q E) {H : Hp} {xs : List V} (s : SG K w g H) (r : RepL K w xs ds) : ∀ p, H p = none → Q (.ref p) (upd H p (.tup xs)) := fun p hp => by
  obtain ⟨s', le⟩ := s.allocF hp (.tup xs)
  refine o _ _ _ le s' ?_
  simp only [Rep]
  exact ⟨p, xs, rfl, .inl (.inl upd_same), RepL.mono le _ _ r⟩
/-- a new cell -/
theorem Out.newC {K : PySem.W.Frag} {w : Wd} {ds : List D} {g : Gr} {Q : VK} {E : XK} (o : Out K w (.ok (.obj g.length) (g ++ [.lst ds])) Q E) {H : Hp} {xs : List V} (s : SG K w g H) (r : RepL K w xs ds) : ∀ p, H p = none → Q (.ref p) (upd H p (.lst xs)) := fun p hp => by
  have hc : CellAt K (w.more p) (upd H p (.lst xs)) p (.lst ds) := ⟨s.ex.free hp, xs, upd_same, RepL.mono (w.le_more p) _ _ r⟩
  refine o _ _ _ (w.le_more p) (s.allocC hp hc) ?_
  simp only [Rep]
  rw [← s.n]
  exact ⟨Nat.lt_succ_self _, by rw [Wd.more_at]⟩

def SL (K : PySem.W.Frag) (w : Wd) (ρ : En) (σ : St) : Prop :=
  σ.length = ρ.length ∧ ∀ (i : Nat) (d : D), ρ[i]? = some (some d) → ∃ v, σ[i]? = some (some v) ∧ Rep K w v d
theorem SL.mono {K : PySem.W.Frag} {w w' : Wd} {ρ : En} {σ : St} (e : w.Le w') (s : SL K w ρ σ) : SL K w' ρ σ :=
  ⟨s.1, fun i d h => let ⟨v, h1, h2⟩ := s.2 i d h; ⟨v, h1, h2.mono e⟩⟩
theorem SL.set {K : PySem.W.Frag} {w : Wd} {ρ : En} {σ : St} (s : SL K w ρ σ) {i : Nat} {v : V} {d : D} (r : Rep K w v d) : SL K w (ρ.set i (some d)) (σ.set i (some v)) := by
  refine ⟨by simp [s.1], fun j e h => ?_⟩
  by_cases z : i = j
  · subst z
    have hi : i < ρ.length := by
      have := (List.getElem?_eq_some_iff.mp h).1
      simpa using this
    rw [List.getElem?_set_self hi] at h
    have e1 : d = e := by simpa using h
    subst e1
    exact ⟨v, by rw [List.getElem?_set_self (by rw [s.1]; exact hi)], r⟩
  · rw [List.getElem?_set_ne z] at h
    obtain ⟨u, h1, h2⟩ := s.2 j e h
    exact ⟨u, by rw [List.getElem?_set_ne z]; exact h1, h2⟩
theorem SL.del {K : PySem.W.Frag} {w : Wd} {ρ : En} {σ : St} (s : SL K w ρ σ) {i : Nat} (x : Option V) : SL K w (ρ.set i none) (σ.set i x) := by
  refine ⟨by simp [s.1], fun j e h => ?_⟩
  by_cases z : i = j
  · subst z
    by_cases hi : i < ρ.length
    · rw [List.getElem?_set_self hi] at h; cases h
    · rw [List.getElem?_eq_none (by simpa using hi)] at h; cases h
  · rw [List.getElem?_set_ne z] at h
    obtain ⟨u, h1, h2⟩ := s.2 j e h
    exact ⟨u, by rw [List.getElem?_set_ne z]; exact h1, h2⟩

/-! ### readings -/
def tM (K : PySem.W.Frag) (W : WX) (m : Exp) : TE := fun σ H Q => ∃ w ρ g, SG K w g H ∧ SL K w ρ σ ∧ Out K w (m ρ g) Q fun c d H' => W c d σ H'
/-- a test: the value is a bool -/
def tMT (K : PySem.W.Frag) (W : WX) (m : Exp) : TT := fun σ H Q => ∃ w ρ g, SG K w g H ∧ SL K w ρ σ ∧ Out K w (m ρ g) (fun v H' => ∃ b, v = .bl b ∧ Q b H') fun c d H' => W c d σ H'
def tMA (K : PySem.W.Frag) (W : WX) (m : Exps) : TA := fun σ H Q => ∃ w ρ g, SG K w g H ∧ SL K w ρ σ ∧ OutL K w (m ρ g) Q fun c d H' => W c d σ H'
def OutS (K : PySem.W.Frag) (w : Wd) (r : S) (Dn : Ends) (W : WX) : Prop :=
  match r with
  | .nx ρ g => ∀ σ H w', w.Le w' → SG K w' g H → SL K w' ρ σ → Dn.nx σ H
  | .bk ρ g => ∀ σ H w', w.Le w' → SG K w' g H → SL K w' ρ σ → Dn.bk σ H
  | .ct ρ g => ∀ σ H w', w.Le w' → SG K w' g H → SL K w' ρ σ → Dn.ct σ H
  | .ret d g => ∀ v H w', w.Le w' → SG K w' g H → Rep K w' v d → Dn.rt v H
  | .err c ρ g => ∀ σ H w', w.Le w' → SG K w' g H → SL K w' ρ σ → W (.ref (He.ga K c)) none σ H
  | .no => False
theorem OutS.weak {K : PySem.W.Frag} {w w' : Wd} {r : S} {Dn : Ends} {W : WX} (o : OutS K w r Dn W) (e : w.Le w') : OutS K w' r Dn W := by
  cases r with
  | nx ρ g => exact fun a b c l => o a b c (e.trans l)
  | bk ρ g => exact fun a b c l => o a b c (e.trans l)
  | ct ρ g => exact fun a b c l => o a b c (e.trans l)
  | ret d g => exact fun a b c l => o a b c (e.trans l)
  | err c' ρ g => exact fun a b c l => o a b c (e.trans l)
  | no => exact o
def tMS (K : PySem.W.Frag) (W : WX) (m : Stm) : TS := fun Dn σ H => ∃ w ρ g, SG K w g H ∧ SL K w ρ σ ∧ OutS K w (m ρ g) Dn W

/-! ### an expression, a test, arguments, a block follow the machine -/
def RE (X : Cx) (W : WX) (e : Expr) (m : Exp) : Prop := PE X e (tM X.K W m)
def RT (X : Cx) (W : WX) (e : Expr) (m : Exp) : Prop := PT X e (tMT X.K W m)
def RW (X : Cx) (W : WX) (e : Expr) (m : Exp) : Prop := PW X e (tMT X.K W m)
def RA (X : Cx) (W : WX) (es : List Expr) (m : Exps) : Prop := PA X es (tMA X.K W m)
def RS (X : Cx) (W : WX) (st : Stmt) (m : Stm) : Prop := PS X st (tMS X.K W m)
def RB (X : Cx) (W : WX) (sts : List Stmt) (m : Stm) : Prop := PSs X sts (tMS X.K W m)

theorem pe_weak {X : Cx} {e : Expr} {t t' : TE} (h : PE X e t) (k : ∀ σ H Q, t' σ H Q → t σ H Q) : PE X e t' := ⟨fun pins s σ H Q I z => h.run pins s σ H Q I (k _ _ _ z)⟩
theorem pt_weak {X : Cx} {e : Expr} {t t' : TT} (h : PT X e t) (k : ∀ σ H Q, t' σ H Q → t σ H Q) : PT X e t' := ⟨fun pins s σ H Q I z => h.run pins s σ H Q I (k _ _ _ z)⟩
theorem pw_weak {X : Cx} {e : Expr} {t t' : TT} (h : PW X e t) (k : ∀ σ H Q, t' σ H Q → t σ H Q) : PW X e t' := ⟨fun wh pins s σ H Q I z => h.run wh pins s σ H Q I (k _ _ _ z)⟩
theorem pa_weak {X : Cx} {e : List Expr} {t t' : TA} (h : PA X e t) (k : ∀ σ H Q, t' σ H Q → t σ H Q) : PA X e t' := ⟨fun pos pins s σ H Q I z => h.run pos pins s σ H Q I (k _ _ _ z)⟩
theorem ps_weak {X : Cx} {e : Stmt} {t t' : TS} (h : PS X e t) (k : ∀ Dn σ H, t' Dn σ H → t Dn σ H) : PS X e t' := ⟨fun pins s σ H Dn I z => h.run pins s σ H Dn I (k _ _ _ z)⟩
theorem pss_weak {X : Cx} {e : List Stmt} {t t' : TS} (h : PSs X e t) (k : ∀ Dn σ H, t' Dn σ H → t Dn σ H) : PSs X e t' := ⟨fun pins s σ H Dn I z => h.run pins s σ H Dn I (k _ _ _ z)⟩

section
variable {K : PySem.W.Frag} {W : WX} {σ : St} {H : Hp} {w : Wd} {ρ : En} {g : Gr} {m : Exp}
/-- to read m, then to go on -/
theorem bindM {f : D → Gr → R} {Q : VK} {Q1 : VK} (S0 : SG K w g H) (L : SL K w ρ σ) (o : Out K w ((m ρ g).bind f) Q fun c d H' => W c d σ H')
    (k : ∀ d g' v H' w', w.Le w' → SG K w' g' H' → SL K w' ρ σ → Rep K w' v d → Out K w' (f d g') Q (fun c d H' => W c d σ H') → Q1 v H') : tM K W m σ H Q1 := by
  refine ⟨w, ρ, g, S0, L, ?_⟩
  cases e : m ρ g with
  | no => rw [e] at o; exact o
  | err c g' => rw [e] at o; exact o
  | ok d g' =>
    rw [e] at o
    exact fun v H' w' le S' r => k d g' v H' w' le S' (L.mono le) r (o.weak le)
theorem bindA {f : List D → Gr → R} {Q : VK} {Q1 : List V → Hp → Prop} {ms : Exps} (S0 : SG K w g H) (L : SL K w ρ σ) (o : Out K w ((ms ρ g).bind f) Q fun c d H' => W c d σ H')
    (k : ∀ ds g' vs H' w', w.Le w' → SG K w' g' H' → SL K w' ρ σ → RepL K w' vs ds → Out K w' (f ds g') Q (fun c d H' => W c d σ H') → Q1 vs H') : tMA K W ms σ H Q1 := by
  refine ⟨w, ρ, g, S0, L, ?_⟩
  cases e : ms ρ g with
  | no => rw [e] at o; exact o
  | err c g' => rw [e] at o; exact o
  | ok d g' =>
    rw [e] at o
    exact fun v H' w' le S' r => k d g' v H' w' le S' (L.mono le) r (o.weak le)
end

/-! ### small expressions -/
def eVar (i : Nat) : Exp := fun ρ g => match ρ[i]? with
  | some (some d) => .ok d g
  | _ => .no
def eC (d : D) : Exp := fun _ g => .ok d g
def eNo : Exp := fun _ _ => .no
def eBin (op : D → D → Gr → R) (a b : Exp) : Exp := fun ρ g => (a ρ g).bind fun x g1 => (b ρ g1).bind fun y g2 => op x y g2
def eUn (op : D → Gr → R) (a : Exp) : Exp := fun ρ g => (a ρ g).bind op
/-- a flat datum's value -/
def D.v : D → Option V
  | .non => some .non
  | .bl b => some (.bl b)
  | .int i => some (.int i)
  | .str x => some (.str x)
  | _ => none
theorem rep_v {K : PySem.W.Frag} {w : Wd} {d : D} {u : V} (h : d.v = some u) : Rep K w u d := by
  cases d <;> simp only [D.v] at h <;> first | (cases h; done) | (simp only [Rep]; exact (Option.some.inj h).symm)
section
variable {X : Cx} {W : WX} {a b e : Expr} {ma mb m : Exp} {pos : Pos}
theorem re_var (i : Nat) {x : Str} (hN : X.N[i]? = some x := by rfl) (hv : Vis X.env.scope x := by first | exact Or.inl rfl | exact Or.inr (Or.inl rfl) | exact Or.inr (Or.inr rfl))
    (hd : (x == ("__debug__" : Str)) = false := by decide) (hcd : (x == ("__classdict__" : Str)) = false := by decide) : RE X W (.Name x pos) (eVar i) := by
  refine pe_weak (pe_var (i := i) hN hv hd hcd) ?_
  rintro σ H Q ⟨w, ρ, g, S0, L, o⟩
  unfold eVar at o
  split at o
  · rename_i d e
    obtain ⟨v, h1, h2⟩ := L.2 i d e
    exact ⟨v, h1, o.here S0 h2⟩
  · exact o.elim
theorem re_c {t : TE} {d : D} {v : V} (h : PE X e t) (ht : t = tC v) (hv : d.v = some v) : RE X W e (eC d) := by
  subst ht
  refine pe_weak h ?_
  rintro σ H Q ⟨w, ρ, g, S0, L, o⟩
  exact Out.here o S0 (rep_v hv)
theorem re_int {i : Int} {j pos} : RE X W (.Constant (.int i) j pos) (eC (.int i)) := re_c pe_int rfl rfl
theorem re_bl {b : Bool} {j pos} : RE X W (.Constant (.bool b) j pos) (eC (.bl b)) := re_c pe_bl rfl rfl
theorem re_non {j pos} : RE X W (.Constant .none j pos) (eC .non) := re_c pe_non rfl rfl
theorem re_str {x : String} {j pos} : RE X W (.Constant (.str x) j pos) (eC (.str x)) := re_c pe_str rfl rfl
/-- a constant of the module -/
theorem re_gint {x : Str} {i : Int} {t : Tok} (hg : Gl X x) (hm : X.mg x = some (.int i t)) (hd : (x == ("__debug__" : Str)) = false := by decide) : RE X W (.Name x pos) (eC (.int i)) :=
  re_c (pe_glob (v := .int i) hg hm ⟨t, rfl⟩ hd) rfl rfl
theorem re_gstr {x z : Str} {t : Tok} (hg : Gl X x) (hm : X.mg x = some (.str z t)) (hd : (x == ("__debug__" : Str)) = false := by decide) : RE X W (.Name x pos) (eC (.str z)) :=
  re_c (pe_glob (v := .str z) hg hm ⟨t, rfl⟩ hd) rfl rfl
/-- what is never reached -/
theorem re_no : RE X W e eNo := by
  refine ⟨fun pins s σ H Q I h => ?_⟩
  obtain ⟨_, _, _, _, _, o⟩ := h
  exact o.elim
def sNo : Stm := fun _ _ => .no
theorem rs_no {st : Stmt} : RS X W st sNo := by
  refine ⟨fun pins s σ H Q I h => ?_⟩
  obtain ⟨_, _, _, _, _, o⟩ := h
  exact o.elim
theorem rb_no {sts : List Stmt} : RB X W sts sNo := by
  refine ⟨fun pins s σ H Q I h => ?_⟩
  obtain ⟨_, _, _, _, _, o⟩ := h
  exact o.elim
/-- a binary operation, by its rule and the machine's -/
def OpS (X : Cx) (r : R2) (op : D → D → Gr → R) : Prop :=
  ∀ (w : Wd) (g : Gr) (H : Hp) (x y : V) (d e : D) (Q : VK) (E : XK), SG X.K w g H → Rep X.K w x d → Rep X.K w y e → Out X.K w (op d e g) Q E → r x y H Q
theorem read_bin {r : R2} {op : D → D → Gr → R} (hs : OpS X r op) {σ : St} {H : Hp} {Q : VK} (h : tM X.K W (eBin op ma mb) σ H Q) : tOp r (tM X.K W ma) (tM X.K W mb) σ H Q := by
  obtain ⟨w, ρ, g, S0, L, o⟩ := h
  refine bindM S0 L o fun d1 g1 x H1 w1 le1 S1 L1 r1 o1 => ?_
  refine bindM S1 L1 o1 fun d2 g2 y H2 w2 le2 S2 L2' r2 o2 => ?_
  exact hs w2 g2 H2 x y d1 d2 Q _ S2 (r1.mono le2) r2 o2
theorem re_bin {op : Operator} {r : R2} {mo : D → D → Gr → R} (ho : OpR X (binaryOp op) r) (hs : OpS X r mo) (ha : RE X W a ma) (hb : RE X W b mb) : RE X W (.BinOp a op b pos) (eBin mo ma mb) :=
  pe_weak (pe_op ho ha hb) fun _ _ _ h => read_bin hs h
theorem re_un {op : UnaryOp} {r : V → Hp → VK → Prop} {mo : D → Gr → R} (ho : UnR X (unaryOp op) r) (hs : ∀ (w : Wd) (g : Gr) (H : Hp) (x : V) (d : D) (Q : VK) (E : XK), SG X.K w g H → Rep X.K w x d → Out X.K w (mo d g) Q E → r x H Q)
    (ha : RE X W a ma) : RE X W (.UnaryOp op a pos) (eUn mo ma) := by
  refine pe_weak (pe_un ho ha) ?_
  rintro σ H Q ⟨w, ρ, g, S0, L, o⟩
  exact bindM S0 L o fun d1 g1 x H1 w1 le1 S1 L1 r1 o1 => hs w1 g1 H1 x d1 Q _ S1 r1 o1
/-- a comparison as a value, as a test -/
theorem re_cmp {op : CmpOp} {r : R2} {mo : D → D → Gr → R} (ho : OpR X (compareOp op) r) (hs : OpS X r mo) (ha : RE X W a ma) (hb : RE X W b mb) (hm : behindInMarks op b = false) : RE X W (.Compare a [op] [b] pos) (eBin mo ma mb) :=
  pe_weak (pe_cmpR ho ha hb hm) fun _ _ _ h => read_bin hs h
theorem test_of {t : TE} {m : Exp} (h : ∀ σ H Q, tM X.K W m σ H Q → t σ H Q) : ∀ σ H Q, tMT X.K W m σ H Q → tTest t σ H Q := fun σ H Q z => h σ H _ z
theorem rt_cmp {op : CmpOp} {r : R2} {mo : D → D → Gr → R} (ho : OpR X (compareOp op) r) (hs : OpS X r mo) (ha : RE X W a ma) (hb : RE X W b mb) (hm : behindInMarks op b = false) : RT X W (.Compare a [op] [b] pos) (eBin mo ma mb) :=
  pt_weak (pt_cmpR ho ha hb hm) (test_of fun _ _ _ h => read_bin hs h)
/-- a chain of two -/
def eChain (p q : D → D → Gr → R) (a b c : Exp) : Exp := fun ρ g => (a ρ g).bind fun x g1 => (b ρ g1).bind fun y g2 => (p x y g2).bind fun z g3 => match z with
  | .bl true => (c ρ g3).bind fun u g4 => q y u g4
  | .bl false => .ok (.bl false) g3
  | _ => .no
theorem Out.bindR {K : PySem.W.Frag} {w : Wd} {r : R} {f : D → Gr → R} {Q Q1 : VK} {E E1 : XK} (o : Out K w (r.bind f) Q E) (hE : ∀ c d H, E c d H → E1 c d H)
    (k : ∀ d g' v H' w', w.Le w' → SG K w' g' H' → Rep K w' v d → Out K w' (f d g') Q E → Q1 v H') : Out K w r Q1 E1 := by
  cases r with
  | no => exact o
  | err c g => exact fun H' w' le s => hE _ _ _ (o H' w' le s)
  | ok d g => exact fun v H' w' le s r => k d g v H' w' le s r (Out.weak o le)
theorem rep_bl {K : PySem.W.Frag} {w : Wd} {v : V} {d : D} (b : Bool) (hd : d = .bl b) (h : Rep K w v d) : v = .bl b := by
  subst hd; simpa only [Rep] using h
theorem read_chain {c : Expr} {mc : Exp} {r r' : R2} {p q : D → D → Gr → R} (hs : OpS X r p) (hs' : OpS X r' q) {σ : St} {H : Hp} {Q : VK} (h : tM X.K W (eChain p q ma mb mc) σ H Q) : tChain r r' (tM X.K W ma) (tM X.K W mb) (tM X.K W mc) σ H Q := by
  obtain ⟨w, ρ, g, S0, L, o⟩ := h
  refine bindM S0 L o fun d1 g1 x H1 w1 le1 S1 L1 r1 o1 => ?_
  refine bindM S1 L1 o1 fun d2 g2 y H2 w2 le2 S2 L2' r2 o2 => ?_
  refine hs w2 g2 H2 x y d1 d2 _ (fun c d H' => W c d σ H') S2 (r1.mono le2) r2 (Out.bindR o2 (fun _ _ _ z => z) fun d3 g3 z H3 w3 le3 S3 r3 o3 => ?_)
  split at o3
  · refine ⟨true, rep_bl true rfl r3, ?_⟩
    rw [if_pos rfl]
    refine bindM S3 (L2'.mono le3) o3 fun d4 g4 u H4 w4 le4 S4 L4 r4 o4 => ?_
    exact hs' w4 g4 H4 y u d2 d4 Q _ S4 (r2.mono (le3.trans le4)) r4 o4
  · refine ⟨false, rep_bl false rfl r3, ?_⟩
    rw [if_neg Bool.false_ne_true]
    have e := rep_bl false rfl r3
    subst e
    exact Out.here o3 S3 r3
  · exact o3.elim
end
end Fw

set_option maxRecDepth 100000
set_option maxHeartbeats 4000000
/-! Fw, third part: tests, arguments, targets, statements, loops. -/
namespace Fw
open PySem L2

theorem rep_bl' {K : PySem.W.Frag} {w : Wd} {b : Bool} : Rep K w (.bl b) (.bl b) := by simp only [Rep]
/-! ### tests -/
def D.br (d : D) (a b : R) : R := match d with
  | .bl true => a
  | .bl false => b
  | _ => .no
def eAnd (a b : Exp) : Exp := fun ρ g => (a ρ g).bind fun x g1 => x.br (b ρ g1) (.ok (.bl false) g1)
def eOr (a b : Exp) : Exp := fun ρ g => (a ρ g).bind fun x g1 => x.br (.ok (.bl true) g1) (b ρ g1)
def eNot (a : Exp) : Exp := fun ρ g => (a ρ g).bind fun x g1 => x.br (.ok (.bl false) g1) (.ok (.bl true) g1)
def eIf (c a b : Exp) : Exp := fun ρ g => (c ρ g).bind fun x g1 => x.br (a ρ g1) (b ρ g1)
theorem not_bl {d : D} {a b : R} (h : ∀ k, d ≠ .bl k) : d.br a b = .no := by
  cases d with
  | bl k => exact absurd rfl (h k)
  | _ => rfl

section
variable {K : PySem.W.Frag} {W : WX} {σ : St} {H : Hp} {w : Wd} {ρ : En} {g : Gr} {m : Exp}
theorem bindT {f : D → Gr → R} {Q : VK} {Q1 : Bool → Hp → Prop} (S0 : SG K w g H) (L : SL K w ρ σ) (o : Out K w ((m ρ g).bind f) Q fun c d H' => W c d σ H')
    (hf : ∀ d g', (∀ b, d ≠ .bl b) → f d g' = .no)
    (k : ∀ b g' H' w', w.Le w' → SG K w' g' H' → SL K w' ρ σ → Out K w' (f (.bl b) g') Q (fun c d H' => W c d σ H') → Q1 b H') : tMT K W m σ H Q1 := by
  refine ⟨w, ρ, g, S0, L, ?_⟩
  cases e : m ρ g with
  | no => rw [e] at o; exact o
  | err c g' => rw [e] at o; exact o
  | ok d g' =>
    rw [e] at o
    intro v H' w' le S' r
    have o2 : Out K w (f d g') Q fun c d H' => W c d σ H' := o
    by_cases hd : ∃ b, d = .bl b
    · obtain ⟨b, rfl⟩ := hd
      exact ⟨b, rep_bl b rfl r, k b g' H' w' le S' (L.mono le) (o2.weak le)⟩
    · rw [hf d g' fun b z => hd ⟨b, z⟩] at o2
      exact o2.elim
end
section
variable {X : Cx} {W : WX} {a b c e : Expr} {es : List Expr} {ma mb mc m : Exp} {pos : Pos}
theorem rw_and1 (ha : RT X W a ma) : RW X W (.BoolOp .And [a] pos) ma := pw_and1 ha
theorem rw_or1 (ha : RT X W a ma) : RW X W (.BoolOp .Or [a] pos) ma := pw_or1 ha
theorem rw_and (ha : RT X W a ma) (hb : RW X W (.BoolOp .And (b :: es) pos) mb) : RW X W (.BoolOp .And (a :: b :: es) pos) (eAnd ma mb) := by
  refine pw_weak (pw_and ha hb) ?_
  rintro σ H Q ⟨w, ρ, g, S0, L, o⟩
  refine bindT S0 L o (fun d g' h => not_bl h) fun b g' H' w' le S' L' o' => ?_
  cases b with
  | true => rw [if_pos rfl]; exact ⟨w', ρ, g', S', L', o'⟩
  | false =>
    rw [if_neg Bool.false_ne_true]
    obtain ⟨b', e, q⟩ := Out.here (d := .bl false) o' S' rep_bl'
    cases e; exact q
theorem rw_or (ha : RT X W a ma) (hb : RW X W (.BoolOp .Or (b :: es) pos) mb) : RW X W (.BoolOp .Or (a :: b :: es) pos) (eOr ma mb) := by
  refine pw_weak (pw_or ha hb) ?_
  rintro σ H Q ⟨w, ρ, g, S0, L, o⟩
  refine bindT S0 L o (fun d g' h => not_bl h) fun b g' H' w' le S' L' o' => ?_
  cases b with
  | true =>
    rw [if_pos rfl]
    obtain ⟨b', e, q⟩ := Out.here (d := .bl true) o' S' rep_bl'
    cases e; exact q
  | false => rw [if_neg Bool.false_ne_true]; exact ⟨w', ρ, g', S', L', o'⟩
theorem rt_bool {op} (h : RW X W (.BoolOp op es pos) m) : RT X W (.BoolOp op es pos) m := PW.pt h
theorem rt_not (ha : RT X W a ma) : RT X W (.UnaryOp .Not a pos) (eNot ma) := by
  refine pt_weak (pt_not ha) ?_
  rintro σ H Q ⟨w, ρ, g, S0, L, o⟩
  refine bindT S0 L o (fun d g' h => not_bl h) fun b g' H' w' le S' L' o' => ?_
  cases b with
  | true =>
    obtain ⟨b', e, q⟩ := Out.here (d := .bl false) o' S' rep_bl'
    cases e; exact q
  | false =>
    obtain ⟨b', e, q⟩ := Out.here (d := .bl true) o' S' rep_bl'
    cases e; exact q
/-- an expression that gives a bool, as a test -/
theorem rt_val (h : RE X W e m) (he : ∀ whole, isTrue e X.env whole = (do let v ← whole; standAt e.pos; holding [v] (truthy v)) := by intro _; rfl) : RT X W e m :=
  pt_weak (pt_val h he) fun _ _ _ z => z
/-- .. as values -/
theorem re_one {op} (h : RE X W a m) : RE X W (.BoolOp op [a] pos) m := pe_one h
theorem re_and (ha : RE X W a ma) (hb : RE X W (.BoolOp .And (b :: es) pos) mb) : RE X W (.BoolOp .And (a :: b :: es) pos) (eAnd ma mb) := by
  refine pe_weak (pe_and ha hb) ?_
  rintro σ H Q ⟨w, ρ, g, S0, L, o⟩
  refine bindM S0 L o fun d g' v H' w' le S' L' r o' => ?_
  by_cases hd : ∃ b, d = .bl b
  · obtain ⟨b, rfl⟩ := hd
    have e := rep_bl b rfl r
    subst e
    refine ⟨b, rfl, ?_⟩
    cases b with
    | true => rw [if_pos rfl]; exact ⟨w', ρ, g', S', L', o'⟩
    | false => rw [if_neg Bool.false_ne_true]; exact Out.here o' S' r
  · rw [not_bl fun b z => hd ⟨b, z⟩] at o'
    exact o'.elim
theorem re_or (ha : RE X W a ma) (hb : RE X W (.BoolOp .Or (b :: es) pos) mb) : RE X W (.BoolOp .Or (a :: b :: es) pos) (eOr ma mb) := by
  refine pe_weak (pe_or ha hb) ?_
  rintro σ H Q ⟨w, ρ, g, S0, L, o⟩
  refine bindM S0 L o fun d g' v H' w' le S' L' r o' => ?_
  by_cases hd : ∃ b, d = .bl b
  · obtain ⟨b, rfl⟩ := hd
    have e := rep_bl b rfl r
    subst e
    refine ⟨b, rfl, ?_⟩
    cases b with
    | true => rw [if_pos rfl]; exact Out.here o' S' r
    | false => rw [if_neg Bool.false_ne_true]; exact ⟨w', ρ, g', S', L', o'⟩
  · rw [not_bl fun b z => hd ⟨b, z⟩] at o'
    exact o'.elim
theorem re_not (ha : RE X W a ma) : RE X W (.UnaryOp .Not a pos) (eNot ma) := by
  refine pe_weak (pe_not ha) ?_
  rintro σ H Q ⟨w, ρ, g, S0, L, o⟩
  refine bindM S0 L o fun d g' v H' w' le S' L' r o' => ?_
  cases d with
  | bl b =>
    have e := rep_bl b rfl r
    subst e
    cases b with
    | true => exact ⟨true, rfl, Out.here (d := .bl false) o' S' rep_bl'⟩
    | false => exact ⟨false, rfl, Out.here (d := .bl true) o' S' rep_bl'⟩
  | _ => exact o'.elim
theorem re_ifx (hc : RT X W c mc) (ha : RE X W a ma) (hb : RE X W b mb) : RE X W (.IfExp c a b pos) (eIf mc ma mb) := by
  refine pe_weak (pe_ifExp hc ha hb) ?_
  rintro σ H Q ⟨w, ρ, g, S0, L, o⟩
  refine bindT S0 L o (fun d g' h => not_bl h) fun b g' H' w' le S' L' o' => ?_
  cases b with
  | true => rw [if_pos rfl]; exact ⟨w', ρ, g', S', L', o'⟩
  | false => rw [if_neg Bool.false_ne_true]; exact ⟨w', ρ, g', S', L', o'⟩

/-! ### arguments, displays -/
def aNil : Exps := fun _ g => .ok [] g
def aCons (a : Exp) (as : Exps) : Exps := fun ρ g => match a ρ g with
  | .ok d g1 => (match as ρ g1 with
    | .ok ds g2 => .ok (d :: ds) g2
    | .err c g2 => .err c g2
    | .no => .no)
  | .err c g1 => .err c g1
  | .no => .no
variable {ms : Exps}
theorem ra_nil : RA X W [] aNil := by
  refine pa_weak pa_nil ?_
  rintro σ H Q ⟨w, ρ, g, S0, L, o⟩
  exact o [] H w (Wd.Le.refl w) S0 (by simp only [RepL])
theorem ra_cons (ha : RE X W e m) (hs : RA X W es ms) (hst : starEach (e :: es) X.env = (false, eval e X.env) :: starEach es X.env := by rfl) : RA X W (e :: es) (aCons m ms) := by
  refine pa_weak (pa_cons ha hs hst) ?_
  rintro σ H Q ⟨w, ρ, g, S0, L, o⟩
  unfold aCons at o
  refine ⟨w, ρ, g, S0, L, ?_⟩
  cases e1 : m ρ g with
  | no => rw [e1] at o; exact o
  | err c g' => rw [e1] at o; exact o
  | ok d g1 =>
    rw [e1] at o
    intro v H1 w1 le1 S1 r1
    refine ⟨w1, ρ, g1, S1, L.mono le1, ?_⟩
    cases e2 : ms ρ g1 with
    | no => simp only [e2] at o; exact o
    | err c g' =>
      simp only [e2] at o
      exact fun H2 w2 le2 s2 => o H2 w2 (le1.trans le2) s2
    | ok ds g2 =>
      simp only [e2] at o
      intro vs H2 w2 le2 S2 r2
      exact o (v :: vs) H2 w2 (le1.trans le2) S2 (by simp only [RepL]; exact ⟨v, vs, rfl, r1.mono le2, r2⟩)
def eArgs (f : Fn) (as : Exps) : Exp := fun ρ g => (as ρ g).bind f
def fTup : Fn := fun ds g => if ds.length ≤ sizeLine then .ok (.tup ds) g else .no
def fLst : Fn := fun ds g => if ds.length ≤ sizeLine then .ok (.lst ds) g else .no
def fCel : Fn := fun ds g => if ds.length ≤ sizeLine then .ok (.obj g.length) (g ++ [.lst ds]) else .no
theorem re_tup {x1} (h : RA X W es ms) : RE X W (.Tuple es x1 pos) (eArgs fTup ms) := by
  refine pe_weak (pe_tup h) ?_
  rintro σ H Q ⟨w, ρ, g, S0, L, o⟩
  refine bindA S0 L o fun ds g' vs H' w' le S' L' r o' => ?_
  unfold fTup at o'
  split at o'
  · exact ⟨by rw [r.length]; assumption, Out.newT o' S' r⟩
  · exact o'.elim
theorem re_lst (h : RA X W es ms) : RE X W (.List es pos) (eArgs fLst ms) := by
  refine pe_weak (pe_lst h) ?_
  rintro σ H Q ⟨w, ρ, g, S0, L, o⟩
  refine bindA S0 L o fun ds g' vs H' w' le S' L' r o' => ?_
  unfold fLst at o'
  split at o'
  · exact ⟨by rw [r.length]; assumption, Out.newL o' S' r⟩
  · exact o'.elim
theorem re_cel (h : RA X W es ms) : RE X W (.List es pos) (eArgs fCel ms) := by
  refine pe_weak (pe_lst h) ?_
  rintro σ H Q ⟨w, ρ, g, S0, L, o⟩
  refine bindA S0 L o fun ds g' vs H' w' le S' L' r o' => ?_
  unfold fCel at o'
  split at o'
  · exact ⟨by rw [r.length]; assumption, Out.newC o' S' r⟩
  · exact o'.elim
/-- a list's cell is frozen as it is handed on -/
def eFrz (a : Exp) : Exp := fun ρ g => (a ρ g).bind fun d g1 => match d with
  | .obj l => (match g1[l]? with
    | some (.lst ds) => .ok (.lst ds) (g1.set l .dead)
    | _ => .no)
  | d => .ok d g1
theorem re_frz (h : RE X W e m) : RE X W e (eFrz m) := by
  refine pe_weak h ?_
  rintro σ H Q ⟨w, ρ, g, S0, L, o⟩
  refine bindM S0 L o fun d g1 v H' w' le S' L' r o' => ?_
  split at o'
  · rename_i l
    split at o'
    · rename_i ds hl
      obtain ⟨w2, le2, S2, r2⟩ := S'.freeze hl
      simp only [Rep] at r
      obtain ⟨_, rfl⟩ := r
      exact o' _ _ _ le2 S2 r2
    · exact o'.elim
  · exact Out.here o' S' r
end

/-! ### targets -/
abbrev Tg := D → En → Gr → Option (En × Gr)
abbrev Tgs := List D → En → Gr → Option (En × Gr)
/-- slots vs alone may differ -/
def Agr (vs : List Nat) (σ σ' : St) : Prop := σ'.length = σ.length ∧ ∀ i, i ∉ vs → σ'[i]? = σ[i]?
theorem Agr.refl (vs : List Nat) (σ : St) : Agr vs σ σ := ⟨rfl, fun _ _ => rfl⟩
theorem Agr.trans {vs : List Nat} {a b c : St} (p : Agr vs a b) (q : Agr vs b c) : Agr vs a c := ⟨q.1.trans p.1, fun i h => (q.2 i h).trans (p.2 i h)⟩
theorem Agr.set {vs : List Nat} {i : Nat} (h : i ∈ vs) (σ : St) (v : Option V) : Agr vs σ (σ.set i v) :=
  ⟨by simp, fun j hj => by rw [List.getElem?_set_ne]; intro e; exact hj (e ▸ h)⟩
def OutG (K : PySem.W.Frag) (w : Wd) (σ0 : St) (vs : List Nat) (r : Option (En × Gr)) (Q : St → Hp → Prop) : Prop :=
  match r with
  | some (ρ, g) => ∀ σ H w', w.Le w' → SG K w' g H → SL K w' ρ σ → Agr vs σ0 σ → Q σ H
  | none => False
theorem OutG.weak {K : PySem.W.Frag} {w w' : Wd} {σ0 σ1 : St} {vs : List Nat} {r : Option (En × Gr)} {Q : St → Hp → Prop} (o : OutG K w σ0 vs r Q) (e : w.Le w') (a : Agr vs σ0 σ1) : OutG K w' σ1 vs r Q := by
  cases r with
  | some p => exact fun x b c l s t q => o x b c (e.trans l) s t (a.trans q)
  | none => exact o
def tMG (K : PySem.W.Frag) (vs : List Nat) (mt : Tg) : TG := fun v σ H Q => ∃ w ρ g d, SG K w g H ∧ SL K w ρ σ ∧ Rep K w v d ∧ OutG K w σ vs (mt d ρ g) Q
def tMGs (K : PySem.W.Frag) (vs : List Nat) (mt : Tgs) : TGs := fun us σ H Q => ∃ w ρ g ds, SG K w g H ∧ SL K w ρ σ ∧ RepL K w us ds ∧ OutG K w σ vs (mt ds ρ g) Q
def RG (X : Cx) (vs : List Nat) (tg : Expr) (mt : Tg) : Prop := PG X tg (tMG X.K vs mt)
def RGs (X : Cx) (vs : List Nat) (tg : List Expr) (mt : Tgs) : Prop := PGs X tg (tMGs X.K vs mt)
theorem pg_weak {X : Cx} {e : Expr} {t t' : TG} (h : PG X e t) (k : ∀ v σ H Q, t' v σ H Q → t v σ H Q) : PG X e t' := ⟨fun pins s σ H v u Q I r z => h.run pins s σ H v u Q I r (k _ _ _ _ z)⟩
theorem pgs_weak {X : Cx} {e : List Expr} {t t' : TGs} (h : PGs X e t) (k : ∀ v σ H Q, t' v σ H Q → t v σ H Q) : PGs X e t' := ⟨fun pins s σ H v u Q I r z => h.run pins s σ H v u Q I r (k _ _ _ _ z)⟩
def gVar (i : Nat) : Tg := fun d ρ g => some (ρ.set i (some d), g)
def gsNil : Tgs := fun ds ρ g => match ds with
  | [] => some (ρ, g)
  | _ => none
def gsCons (a : Tg) (as : Tgs) : Tgs := fun ds ρ g => match ds with
  | d :: r => (match a d ρ g with
    | some (ρ1, g1) => as r ρ1 g1
    | none => none)
  | [] => none
def gUnp (n : Nat) (as : Tgs) : Tg := fun d ρ g => match d with
  | .tup ds => if ds.length = n then as ds ρ g else none
  | _ => none
section
variable {X : Cx} {tg : Expr} {tgs : List Expr} {mt : Tg} {mts : Tgs} {pos : Pos} {vs : List Nat}
theorem rg_var (i : Nat) {x : Str} (hN : X.N.Nodup) (hv : i ∈ vs := by decide) (hi : X.N[i]? = some x := by rfl) (hx : Loc X.env.scope x := by first | exact Or.inl rfl | exact Or.inr rfl)
    (hf : X.fn x = true ∨ X.env.scope.names.lookup x = some .local := by first | exact .inl rfl | exact .inr rfl | assumption) : RG X vs (.Name x pos) (gVar i) := by
  refine pg_weak (pg_name (i := i) hN hi hx hf) ?_
  rintro v σ H Q ⟨w, ρ, g, d, S0, L, r, o⟩
  exact o _ _ w (Wd.Le.refl w) S0 (L.set r) (Agr.set hv _ _)
theorem rgs_nil : RGs X vs [] gsNil := by
  refine pgs_weak pgs_nil ?_
  rintro v σ H Q ⟨w, ρ, g, ds, S0, L, r, o⟩
  cases ds with
  | nil =>
    simp only [RepL] at r
    exact ⟨r, o _ _ w (Wd.Le.refl w) S0 L (Agr.refl _ _)⟩
  | cons d ds => exact o.elim
theorem rgs_cons (h1 : RG X vs tg mt) (h2 : RGs X vs tgs mts) (hs : (assignEach (tg :: tgs) X.env).map (·.2) = assign tg X.env :: (assignEach tgs X.env).map (·.2) := by rfl) : RGs X vs (tg :: tgs) (gsCons mt mts) := by
  refine pgs_weak (pgs_cons h1 h2 hs) ?_
  rintro v σ H Q ⟨w, ρ, g, ds, S0, L, r, o⟩
  cases ds with
  | nil => exact o.elim
  | cons d ds =>
    simp only [RepL] at r
    obtain ⟨x, xs, rfl, r1, r2⟩ := r
    refine ⟨x, xs, rfl, w, ρ, g, d, S0, L, r1, ?_⟩
    unfold gsCons at o
    cases e : mt d ρ g with
    | none => simp only [e] at o; exact o
    | some p =>
      simp only [e] at o
      exact fun σ1 H1 w1 le1 S1 L1 a1 => ⟨w1, _, _, ds, S1, L1, r2.mono le1, OutG.weak o le1 a1⟩
theorem rg_unp {k : Nat} (n : Nat) (hc : X.calm = true) (h : RGs X vs tgs mts) (hn : (assignEach tgs X.env).length = n := by rfl) (hst : (assignEach tgs X.env).findIdx? (·.1) = none := by rfl) : RG X vs (.Tuple tgs k pos) (gUnp n mts) := by
  refine pg_weak (pg_tup (n := n) hc h hn hst) ?_
  rintro v σ H Q ⟨w, ρ, g, d, S0, L, r, o⟩
  unfold gUnp at o
  split at o
  · rename_i ds
    split at o
    · rename_i hl
      simp only [Rep] at r
      obtain ⟨a, xs, rfl, h1, h2⟩ := r
      exact ⟨a, xs, rfl, S0.ex.sqT h1, by rw [h2.length]; exact hl, w, ρ, g, ds, S0, L, h2, o⟩
    · exact o.elim
  · exact o.elim
end
end Fw

set_option maxRecDepth 100000
set_option maxHeartbeats 4000000
/-! Fw, fourth part: statements, loops, comprehensions. -/
namespace Fw
open PySem L2

def S.bind : S → (En → Gr → S) → S
  | .nx ρ g, f => f ρ g
  | s, _ => s
def sNil : Stm := fun ρ g => .nx ρ g
def sSeq (a b : Stm) : Stm := fun ρ g => (a ρ g).bind b
/-- of an expression's end a statement's -/
def R.toS (r : R) (ρ : En) (f : D → Gr → S) : S := match r with
  | .ok d g => f d g
  | .err c g => .err c ρ g
  | .no => .no
def sRet (a : Exp) : Stm := fun ρ g => (a ρ g).toS ρ fun d g1 => .ret d g1
def sRetN : Stm := fun _ g => .ret .non g
def sDo (a : Exp) : Stm := fun ρ g => (a ρ g).toS ρ fun _ g1 => .nx ρ g1
def sAsg (t : Tg) (a : Exp) : Stm := fun ρ g => (a ρ g).toS ρ fun d g1 => match t d ρ g1 with
  | some (ρ2, g2) => .nx ρ2 g2
  | none => .no
def D.brS (d : D) (a b : S) : S := match d with
  | .bl true => a
  | .bl false => b
  | _ => .no
def sIf (c : Exp) (a b : Stm) : Stm := fun ρ g => (c ρ g).toS ρ fun x g1 => x.brS (a ρ g1) (b ρ g1)
def sBrk : Stm := fun ρ g => .bk ρ g
def sCnt : Stm := fun ρ g => .ct ρ g

section
variable {K : PySem.W.Frag} {W : WX} {σ : St} {H : Hp} {w : Wd} {ρ : En} {g : Gr} {m : Exp} {Dn : Ends}
theorem bindSM {f : D → Gr → S} {Q1 : VK} (S0 : SG K w g H) (L : SL K w ρ σ) (o : OutS K w ((m ρ g).toS ρ f) Dn W)
    (k : ∀ d g' v H' w', w.Le w' → SG K w' g' H' → SL K w' ρ σ → Rep K w' v d → OutS K w' (f d g') Dn W → Q1 v H') : tM K W m σ H Q1 := by
  refine ⟨w, ρ, g, S0, L, ?_⟩
  cases e : m ρ g with
  | no => rw [e] at o; exact o
  | err c g' => rw [e] at o; exact fun H' w' le S' => o σ H' w' le S' (L.mono le)
  | ok d g' =>
    rw [e] at o
    exact fun v H' w' le S' r => k d g' v H' w' le S' (L.mono le) r (OutS.weak (r := f d g') o le)
theorem bindST {f : D → Gr → S} {Q1 : Bool → Hp → Prop} (S0 : SG K w g H) (L : SL K w ρ σ) (o : OutS K w ((m ρ g).toS ρ f) Dn W) (hf : ∀ d g', (∀ b, d ≠ .bl b) → f d g' = .no)
    (k : ∀ b g' H' w', w.Le w' → SG K w' g' H' → SL K w' ρ σ → OutS K w' (f (.bl b) g') Dn W → Q1 b H') : tMT K W m σ H Q1 := by
  refine ⟨w, ρ, g, S0, L, ?_⟩
  cases e : m ρ g with
  | no => rw [e] at o; exact o
  | err c g' => rw [e] at o; exact fun H' w' le S' => o σ H' w' le S' (L.mono le)
  | ok d g' =>
    rw [e] at o
    intro v H' w' le S' r
    have o2 : OutS K w (f d g') Dn W := o
    by_cases hd : ∃ b, d = .bl b
    · obtain ⟨b, rfl⟩ := hd
      exact ⟨b, rep_bl b rfl r, k b g' H' w' le S' (L.mono le) (o2.weak le)⟩
    · rw [hf d g' fun b z => hd ⟨b, z⟩] at o2
      exact o2.elim
end
section
variable {X : Cx} {W : WX} {e c : Expr} {tg : Expr} {st : Stmt} {rest a b : List Stmt} {m mc : Exp} {mt : Tg} {ms ms' ma mb : Stm} {pos : Pos} {vs : List Nat}
theorem rb_nil : RB X W [] sNil := by
  refine pss_weak pss_nil ?_
  rintro Dn σ H ⟨w, ρ, g, S0, L, o⟩
  exact o σ H w (Wd.Le.refl w) S0 L
theorem rb_one (h : RS X W st ms) : RB X W [st] ms := pss_one h
theorem rb_cons (h1 : RS X W st ms) (h2 : RB X W rest ms') : RB X W (st :: rest) (sSeq ms ms') := by
  refine pss_weak (pss_cons h1 h2) ?_
  rintro Dn σ H ⟨w, ρ, g, S0, L, o⟩
  refine ⟨w, ρ, g, S0, L, ?_⟩
  unfold sSeq at o
  cases e : ms ρ g with
  | nx ρ1 g1 =>
    rw [e] at o
    exact fun σ1 H1 w1 le1 S1 L1 => ⟨w1, ρ1, g1, S1, L1, OutS.weak (r := ms' ρ1 g1) o le1⟩
  | ret d g1 => rw [e] at o; exact o
  | bk ρ1 g1 => rw [e] at o; exact o
  | ct ρ1 g1 => rw [e] at o; exact o
  | err c' ρ1 g1 => rw [e] at o; exact o
  | no => rw [e] at o; exact o
theorem rs_pass : RS X W (.Pass pos) sNil := by
  refine ps_weak ps_pass ?_
  rintro Dn σ H ⟨w, ρ, g, S0, L, o⟩
  exact o σ H w (Wd.Le.refl w) S0 L
theorem rs_brk : RS X W (.Break pos) sBrk := by
  refine ps_weak ps_break ?_
  rintro Dn σ H ⟨w, ρ, g, S0, L, o⟩
  exact o σ H w (Wd.Le.refl w) S0 L
theorem rs_cnt : RS X W (.Continue pos) sCnt := by
  refine ps_weak ps_continue ?_
  rintro Dn σ H ⟨w, ρ, g, S0, L, o⟩
  exact o σ H w (Wd.Le.refl w) S0 L
theorem rs_ret (h : RE X W e m) : RS X W (.Return (some e) pos) (sRet m) := by
  refine ps_weak (ps_ret h) ?_
  rintro Dn σ H ⟨w, ρ, g, S0, L, o⟩
  exact bindSM S0 L o fun d g' v H' w' le S' L' r o' => o' v H' w' (Wd.Le.refl w') S' r
theorem rs_retN : RS X W (.Return none pos) sRetN := by
  refine ps_weak ps_retN ?_
  rintro Dn σ H ⟨w, ρ, g, S0, L, o⟩
  exact o .non H w (Wd.Le.refl w) S0 (by simp only [Rep])
theorem rs_do (h : RE X W e m) (hs : swapsWith e none pos.line X.env = pure false := by rfl) : RS X W (.Expr e pos) (sDo m) := by
  refine ps_weak (ps_expr h hs) ?_
  rintro Dn σ H ⟨w, ρ, g, S0, L, o⟩
  exact bindSM S0 L o fun d g' v H' w' le S' L' r o' => o' σ H' w' (Wd.Le.refl w') S' L'
theorem read_asg {Dn : Ends} {σ : St} {H : Hp} (h : tMS X.K W (sAsg mt m) Dn σ H) : tAsg (tM X.K W m) (tMG X.K vs mt) Dn σ H := by
  obtain ⟨w, ρ, g, S0, L, o⟩ := h
  refine bindSM S0 L o fun d g' v H' w' le S' L' r o' => ⟨w', ρ, g', d, S', L', r, ?_⟩
  cases e : mt d ρ g' with
  | none => rw [e] at o'; exact o'.elim
  | some p => rw [e] at o'; exact fun σ1 H1 w1 l1 s1 L1 _ => o' σ1 H1 w1 l1 s1 L1
theorem rs_asg (h : RE X W e m) (ht : RG X vs tg mt) (hs : swapsWithSole [tg] e pos.line X.env = pure false := by rfl) (hw : swappedStores [tg] e X.env = pure none := by rfl)
    (h1 : (assignEach [tg] X.env).map (·.2) = [assign tg X.env] := by rfl) : RS X W (.Assign [tg] e pos) (sAsg mt m) :=
  ps_weak (ps_asg h ht hs hw h1) fun _ _ _ z => read_asg z
/-- name = e -/
theorem rs_set (i : Nat) {x : Str} {pos' : Pos} (h : RE X W e m) (hN : X.N.Nodup) (hi : X.N[i]? = some x := by rfl) (hx : Loc X.env.scope x := by first | exact Or.inl rfl | exact Or.inr rfl) (hs : swapsWith e (some (.Name x pos')) pos.line X.env = pure false := by rfl)
    (hf : X.fn x = true ∨ X.env.scope.names.lookup x = some .local := by first | exact .inl rfl | exact .inr rfl | assumption) : RS X W (.Assign [.Name x pos'] e pos) (sAsg (gVar i) m) := by
  refine ps_weak (ps_set (i := i) hN hi hx h hs hf) ?_
  rintro Dn σ H ⟨w, ρ, g, S0, L, o⟩
  exact bindSM S0 L o fun d g' v H' w' le S' L' r o' => o' _ _ w' (Wd.Le.refl w') S' (L'.set r)
theorem rs_if (hc : RT X W c mc) (ha : RB X W a ma) (hb : RB X W b mb) : RS X W (.If c a b pos) (sIf mc ma mb) := by
  refine ps_weak (ps_if hc ha hb) ?_
  rintro Dn σ H ⟨w, ρ, g, S0, L, o⟩
  refine bindST S0 L o (fun d g' h => ?_) fun b g' H' w' le S' L' o' => ?_
  · cases d with
    | bl k => exact absurd rfl (h k)
    | _ => rfl
  · cases b with
    | true => rw [if_pos rfl]; exact ⟨w', ρ, g', S', L', o'⟩
    | false => rw [if_neg Bool.false_ne_true]; exact ⟨w', ρ, g', S', L', o'⟩
end

/-! ### what is walked -/
/-- an iterator gives just these, as long as the heap's cells keep a word -/
structure Fol (K : PySem.W.Frag) (J : It) (ds : List D) (kp : Gr → Prop) (w0 : Wd) : Prop where
  stop : ∀ (i : Nat) (H : Hp) (w : Wd) (g : Gr), w0.Le w → SG K w g H → kp g → ds.length ≤ i → J.stop i H
  go : ∀ (i : Nat) (H : Hp) (w : Wd) (g : Gr), w0.Le w → SG K w g H → kp g → i < ds.length → J.go i H
  yld : ∀ (i : Nat) (H : Hp) (x : V) (H' : Hp) (w : Wd) (g : Gr) (d : D), w0.Le w → SG K w g H → kp g → ds[i]? = some d → J.yld i H x H' → ∃ w', w.Le w' ∧ SG K w' g H' ∧ Rep K w' x d
inductive RI where | ok (ds : List D) (kp : Gr → Prop) (g : Gr) | err (c : Str) (g : Gr) | no
abbrev Src := En → Gr → RI
def OutI (K : PySem.W.Frag) (w : Wd) (r : RI) (R : It → Hp → Prop) (E : XK) : Prop :=
  match r with
  | .ok ds kp g => ∀ J H w', w.Le w' → SG K w' g H → Fol K J ds kp w' → R J H
  | .err c g => ∀ H w', w.Le w' → SG K w' g H → E (.ref (He.ga K c)) none H
  | .no => False
def tMI (K : PySem.W.Frag) (W : WX) (m : Src) : TI := fun σ H R => ∃ w ρ g, SG K w g H ∧ SL K w ρ σ ∧ OutI K w (m ρ g) R fun c d H' => W c d σ H'
def RSrc (X : Cx) (W : WX) (tg iter : Expr) (m : Src) : Prop := PI X tg iter (tMI X.K W m)
theorem pi_weak {X : Cx} {tg iter : Expr} {t t' : TI} (h : PI X tg iter t) (k : ∀ σ H R, t' σ H R → t σ H R) : PI X tg iter t' := ⟨fun pins s σ H R I z => h.run pins s σ H R I (k _ _ _ z)⟩

open Classical in
noncomputable def sLoop (kp : Gr → Prop) (t : Tg) (b : Stm) : List D → Stm
  | [], ρ, g => if kp g then .nx ρ g else .no
  | d :: ds, ρ, g => if kp g then (match t d ρ g with
    | some (ρ1, g1) => (match b ρ1 g1 with
      | .nx ρ2 g2 => sLoop kp t b ds ρ2 g2
      | .ct ρ2 g2 => sLoop kp t b ds ρ2 g2
      | .bk ρ2 g2 => .nx ρ2 g2
      | .ret d g2 => .ret d g2
      | .err c ρ2 g2 => .err c ρ2 g2
      | .no => .no)
    | none => .no) else .no
noncomputable def sFor (s : Src) (t : Tg) (b : Stm) : Stm := fun ρ g => match s ρ g with
  | .ok ds kp g1 => sLoop kp t b ds ρ g1
  | .err c g1 => .err c ρ g1
  | .no => .no

section
variable {X : Cx} {W : WX} {tg iter : Expr} {body : List Stmt} {ms : Src} {mt : Tg} {mb : Stm} {pos : Pos} {vs : List Nat}
theorem rs_for (hp : PassesOwn (model X.prog X.w) X.A X.env X.xe) (hc : X.calm = true) (hi : RSrc X W tg iter ms) (hg : RG X vs tg mt) (hb : RB X W body mb) (hs : ∀ x, foldedSetIterable iter X.env x = pure x := by intro _; rfl) :
    RS X W (.For tg iter body [] pos) (sFor ms mt mb) := by
  refine ps_weak (ps_for hp hc hi hg hb hs) ?_
  rintro Dn σ H ⟨w, ρ, g, S0, L, o⟩
  refine ⟨w, ρ, g, S0, L, ?_⟩
  unfold sFor at o
  cases e : ms ρ g with
  | no => simp only [e] at o; exact o
  | err c g1 => simp only [e] at o; exact fun H' w' le S' => o σ H' w' le S' (L.mono le)
  | ok ds kp g1 =>
    simp only [e] at o
    intro J H1 w1 le1 S1 F
    refine ⟨fun i m σ' H' => m = ds.length - i ∧ i ≤ ds.length ∧ ∃ w' ρ' g', w1.Le w' ∧ SG X.K w' g' H' ∧ SL X.K w' ρ' σ' ∧ OutS X.K w' (sLoop kp mt mb (ds.drop i) ρ' g') Dn W,
      ⟨ds.length, rfl, Nat.zero_le _, w1, ρ, g1, Wd.Le.refl _, S1, L.mono le1, OutS.weak o le1⟩, ?_⟩
    rintro i m σ' H' ⟨rfl, hi, w2, ρ2, g2, le2, S2, L2', o2⟩
    by_cases hlt : i < ds.length
    · rw [List.drop_eq_getElem_cons hlt] at o2
      unfold sLoop at o2
      split at o2
      · rename_i hk
        refine .inr ⟨F.go i H' w2 g2 le2 S2 hk hlt, fun σ3 H3 => ∃ w' ρ' g', w1.Le w' ∧ SG X.K w' g' H3 ∧ SL X.K w' ρ' σ3 ∧ OutS X.K w' (sLoop kp mt mb (ds.drop (i + 1)) ρ' g') Dn W, fun σ3 H3 z => ⟨ds.length - (i + 1), by omega, rfl, hlt, z⟩, fun x H3 y => ?_⟩
        obtain ⟨w3, le3, S3, r3⟩ := F.yld i H' x H3 w2 g2 ds[i] le2 S2 hk (by simp [hlt]) y
        refine ⟨w3, ρ2, g2, ds[i], S3, L2'.mono le3, r3, ?_⟩
        cases e4 : mt ds[i] ρ2 g2 with
        | none => simp only [e4] at o2; exact o2
        | some p =>
          obtain ⟨ρ4, g4⟩ := p
          simp only [e4] at o2
          intro σ4 H4 w4 le4 S4 L4 _
          refine ⟨w4, ρ4, g4, S4, L4, ?_⟩
          have up : w2.Le w4 := le3.trans le4
          cases e5 : mb ρ4 g4 with
          | no => simp only [e5] at o2; exact o2
          | nx ρ5 g5 =>
            simp only [e5] at o2
            exact fun σ5 H5 w5 le5 S5 L5 => ⟨w5, ρ5, g5, le2.trans (up.trans le5), S5, L5, OutS.weak o2 (up.trans le5)⟩
          | ct ρ5 g5 =>
            simp only [e5] at o2
            exact fun σ5 H5 w5 le5 S5 L5 => ⟨w5, ρ5, g5, le2.trans (up.trans le5), S5, L5, OutS.weak o2 (up.trans le5)⟩
          | bk ρ5 g5 =>
            simp only [e5] at o2
            exact fun σ5 H5 w5 le5 S5 L5 => o2 σ5 H5 w5 (up.trans le5) S5 L5
          | ret d5 g5 =>
            simp only [e5] at o2
            exact fun v5 H5 w5 le5 S5 r5 => o2 v5 H5 w5 (up.trans le5) S5 r5
          | err c5 ρ5 g5 =>
            simp only [e5] at o2
            exact fun σ5 H5 w5 le5 S5 L5 => o2 σ5 H5 w5 (up.trans le5) S5 L5
      · exact o2.elim
    · have e1 : i = ds.length := by omega
      subst e1
      rw [List.drop_length] at o2
      unfold sLoop at o2
      split at o2
      · rename_i hk
        exact .inl ⟨F.stop _ H' w2 g2 le2 S2 hk (Nat.le_refl _), o2 σ' H' w2 (Wd.Le.refl _) S2 L2'⟩
      · exact o2.elim
end

/-! ### list comprehensions -/
def wipeR (ρ : En) : List Nat → En
  | [] => ρ
  | v :: vs => (wipeR ρ vs).set v none
theorem wipe_sl {K : PySem.W.Frag} {w : Wd} {ρ : En} {σ : St} (s : SL K w ρ σ) : ∀ vs : List Nat, SL K w (wipeR ρ vs) (wipe σ vs)
  | [] => s
  | v :: vs => (wipe_sl s vs).del none
theorem wipe_at {σ : St} {i : Nat} : ∀ {vs : List Nat}, i ∈ vs → i < σ.length → (wipe σ vs)[i]? = some none
  | v :: vs, h, hl => by
    unfold wipe
    by_cases z : v = i
    · subst z
      rw [List.getElem?_set_self (by rw [wipe_length]; exact hl)]
    · rw [List.getElem?_set_ne z]
      exact wipe_at ((List.mem_cons.mp h).resolve_left fun e => z e.symm) hl
theorem wipe_agr {vs : List Nat} {σ σ2 : St} (a : Agr vs (wipe σ vs) σ2) : wipe σ2 vs = wipe σ vs := by
  have hl : σ2.length = σ.length := a.1.trans (wipe_length _ _)
  refine List.ext_getElem? fun i => ?_
  by_cases hv : i ∈ vs
  · by_cases hi : i < σ.length
    · rw [wipe_at hv hi, wipe_at hv (by omega)]
    · rw [List.getElem?_eq_none (by rw [wipe_length]; omega), List.getElem?_eq_none (by rw [wipe_length]; omega)]
  · rw [wipe_out hv, a.2 i hv]
def eYes : Exp := fun _ g => .ok (.bl true) g
open Classical in
/-- the new list's items, from the walked ones -/
noncomputable def lcLoop (kp : Gr → Prop) (t : Tg) (c e : Exp) (ρ : En) (fin : List D → Gr → R) : List D → List D → Gr → R
  | [], acc, g => if kp g then fin acc g else .no
  | d :: ds, acc, g => if kp g ∧ acc.length < sizeLine then (match t d ρ g with
      | some (ρ1, g1) => (match c ρ1 g1 with
        | .ok x g2 => x.br (match e ρ1 g2 with
          | .ok y g3 => lcLoop kp t c e ρ fin ds (acc ++ [y]) g3
          | _ => .no) (lcLoop kp t c e ρ fin ds acc g2)
        | _ => .no)
      | none => .no) else .no
/-- a comprehension's list -/
noncomputable def eLc (fin : List D → Gr → R) (s : Src) (vs : List Nat) (t : Tg) (c e : Exp) : Exp := fun ρ g => match s ρ g with
  | .ok ds kp g1 => lcLoop kp t c e (wipeR ρ vs) fin ds [] g1
  | .err c g1 => .err c g1
  | .no => .no
def finF (ds : List D) (g : Gr) : R := .ok (.lst ds) g
def finC (ds : List D) (g : Gr) : R := .ok (.obj g.length) (g ++ [.lst ds])
/-- what is made of the list that stood aside at p -/
def FinOk (K : PySem.W.Frag) (fin : List D → Gr → R) : Prop := ∀ (w1 w : Wd) (g : Gr) (H H1 : Hp) (p : Addr) (acc : List D) (xs : List V) (Q : VK) (E : XK), w1.Le w → Exn w1.fr H1 → H1 p = none → SG K w g H → w.fr p = some (.lst xs) → RepL K w xs acc →
  Out K w1 (fin acc g) Q E → Q (.ref p) H
section
variable {K : PySem.W.Frag} {w w1 : Wd} {g : Gr} {H : Hp} {p : Addr}
theorem SG.asideF (S : SG K w g H) {fr : Hp} (e : Exn fr w.fr) (hn : fr p = none) {xs : List V} (hp : w.fr p = some (.lst xs)) : SG K ⟨upd w.F p (.lst xs), w.mm, w.n, fr⟩ g H := by
  have hH : H p = some (.lst xs) := S.fx p _ hp
  refine ⟨fun a u q => ?_, S.n, fun l c h => ?_, S.inj, e.trans S.fx, fun a u q => ?_, fun a u l c q h v => S.fc a u l c (e a u q) h v⟩
  · have q' : upd w.F p (.lst xs) a = some u := q
    by_cases z : a = p
    · subst z; rw [upd_same] at q'; rw [← q']; exact hH
    · rw [upd_ne z] at q'; exact S.ex a u q'
  · refine (S.cell l c h).mono (show Wd.Lo w ⟨upd w.F p (.lst xs), w.mm, w.n, fr⟩ from ⟨Exn.add (S.ff p _ hp), fun _ _ => rfl, Nat.le_refl _⟩) (fun lv f => ?_) (fun _ => rfl)
    show upd w.F p (.lst xs) (w.mm l) = none
    rw [upd_ne (S.fc p _ l c hp h lv)]; exact f
  · show upd w.F p (.lst xs) a = none
    have : a ≠ p := fun z => by
      have q' : fr a = some u := q
      rw [z, hn] at q'; cases q'
    rw [upd_ne this]; exact S.ff a u (e a u q)
theorem SG.asideC (S : SG K w g H) {fr : Hp} (e : Exn fr w.fr) (hn : fr p = none) {xs : List V} {ds : List D} (hp : w.fr p = some (.lst xs)) (r : RepL K w xs ds) : SG K (Wd.more ⟨w.F, w.mm, w.n, fr⟩ p) (g ++ [.lst ds]) H := by
  have hH : H p = some (.lst xs) := S.fx p _ hp
  have old : ∀ l c', (g ++ [Cl.lst ds])[l]? = some c' → (g[l]? = some c' ∧ (Wd.more ⟨w.F, w.mm, w.n, fr⟩ p).mm l = w.mm l) ∨ (c' = .lst ds ∧ (Wd.more ⟨w.F, w.mm, w.n, fr⟩ p).mm l = p ∧ l = w.n) := fun l c' h => by
    by_cases z : l < g.length
    · rw [List.getElem?_append_left z] at h
      exact .inl ⟨h, if_neg (by rw [show (⟨w.F, w.mm, w.n, fr⟩ : Wd).n = g.length from S.n]; omega)⟩
    · have e : l = g.length := by
        have := (List.getElem?_eq_some_iff.mp h).1
        simp at this; omega
      subst e
      rw [List.getElem?_append_right (Nat.le_refl _)] at h
      simp at h
      exact .inr ⟨h.symm, if_pos S.n.symm, S.n.symm⟩
  have lo : Wd.Lo w (Wd.more ⟨w.F, w.mm, w.n, fr⟩ p) := ⟨Exn.refl _, fun l h => if_neg (Nat.ne_of_lt h), Nat.le_succ _⟩
  refine ⟨S.ex, by simp [Wd.more, S.n], fun l c h => ?_, fun l l' c1 c2 h1 h2 v1 v2 e => ?_, e.trans S.fx, fun a u q => S.ff a u (e a u q), fun a u l c q h v => ?_⟩
  · rcases old l c h with ⟨h1, e1⟩ | ⟨rfl, e1, _⟩
    · rw [e1]; exact (S.cell l c h1).mono lo (fun _ f => f) (fun _ => rfl)
    · rw [e1]; exact ⟨S.ff p _ hp, xs, hH, RepL.mono0 lo _ _ r⟩
  · rcases old l c1 h1 with ⟨q1, e1⟩ | ⟨rfl, e1, z1⟩ <;> rcases old l' c2 h2 with ⟨q2, e2⟩ | ⟨rfl, e2, z2⟩
    · rw [e1, e2] at e; exact S.inj l l' c1 c2 q1 q2 v1 v2 e
    · rw [e1, e2] at e; exact absurd e (S.fc p _ l c1 hp q1 v1)
    · rw [e1, e2] at e; exact absurd e.symm (S.fc p _ l' c2 hp q2 v2)
    · exact z1.trans z2.symm
  · rcases old l c h with ⟨q1, e1⟩ | ⟨rfl, e1, _⟩
    · rw [e1]; exact S.fc a u l c (e a u q) q1 v
    · rw [e1]; exact fun z => by
        have q' : fr a = some u := q
        rw [← z, hn] at q'; cases q'
end
theorem finOkF {K : PySem.W.Frag} : FinOk K finF := by
  intro w1 w g H H1 p acc xs Q E le hf hn S hp r o
  have hn1 : w1.fr p = none := hf.free hn
  refine o _ H ⟨upd w.F p (.lst xs), w.mm, w.n, w1.fr⟩ ⟨le.ex.trans (Exn.add (S.ff p _ hp)), le.same, le.le, Exn.refl _⟩ (S.asideF le.fr hn1 hp) ?_
  simp only [Rep]
  exact ⟨p, xs, rfl, .inl upd_same, RepL.mono0 (show Wd.Lo w ⟨upd w.F p (.lst xs), w.mm, w.n, w1.fr⟩ from ⟨Exn.add (S.ff p _ hp), fun _ _ => rfl, Nat.le_refl _⟩) _ _ r⟩
theorem finOkC {K : PySem.W.Frag} : FinOk K finC := by
  intro w1 w g H H1 p acc xs Q E le hf hn S hp r o
  have hn1 : w1.fr p = none := hf.free hn
  refine o _ H (Wd.more ⟨w.F, w.mm, w.n, w1.fr⟩ p) ⟨le.ex, fun l h => ?_, Nat.le_succ_of_le le.le, Exn.refl _⟩ (S.asideC le.fr hn1 hp r) ?_
  · exact (if_neg (Nat.ne_of_lt (Nat.lt_of_lt_of_le h le.le))).trans (le.same l h)
  · simp only [Rep]
    rw [← S.n]
    exact ⟨Nat.lt_succ_self _, by rw [show (Wd.more ⟨w.F, w.mm, w.n, w1.fr⟩ p).mm w.n = p from if_pos rfl]⟩
def NoW : WX := fun _ _ _ _ => False
/-- a clause's tests -/
def RTs (X : Cx) (W : WX) (ifs : List Expr) (m : Exp) : Prop := PTs X ifs (tMT X.K W m)
theorem pts_weak {X : Cx} {e : List Expr} {t t' : TT} (h : PTs X e t) (k : ∀ σ H Q, t' σ H Q → t σ H Q) : PTs X e t' := ⟨fun pins s σ H Q I z => h.run pins s σ H Q I (k _ _ _ z)⟩
theorem rts_nil {X : Cx} {W : WX} : RTs X W [] eYes := by
  refine pts_weak pts_nil ?_
  rintro σ H Q ⟨w, ρ, g, S0, L, o⟩
  obtain ⟨b, e, q⟩ := Out.here (d := .bl true) o S0 rep_bl'
  cases e; exact q
theorem rts_one {X : Cx} {W : WX} {c : Expr} {m : Exp} (h : RT X W c m) : RTs X W [c] m := pts_one h
section
variable {X : Cx} {W : WX} {elt tg iter : Expr} {ifs : List Expr} {scope : Scope} {own : List (Str × Nat)} {pos : Pos} {ms : Src} {mt : Tg} {mc me : Exp} {fin : List D → Gr → R}
theorem read_lc (hfin : FinOk X.K fin) {σ : St} {H : Hp} {Q : VK} (h : tM X.K W (eLc fin ms (own.map (·.2)) mt mc me) σ H Q) :
    tLc (tMI X.K W ms) (tMG X.K (own.map (·.2)) mt) (tMT X.K NoW mc) (tM X.K NoW me) (own.map (·.2)) σ H Q := by
  obtain ⟨w, ρ, g, S0, L, o⟩ := h
  refine ⟨w, ρ, g, S0, L, ?_⟩
  unfold eLc at o
  generalize hvs : own.map (·.2) = vs at o ⊢
  cases e : ms ρ g with
  | no => simp only [e] at o; exact o
  | err c g1 => simp only [e] at o; exact o
  | ok ds kp g1 =>
    simp only [e] at o
    intro J H1 w1 le1 S1 F Dd hD
    have hrD : w1.fr Dd = none := S1.fx.free hD
    obtain ⟨S2, le2⟩ := S1.aside hD (.lst [])
    refine ⟨fun i m H' => m = ds.length - i ∧ i ≤ ds.length ∧ ∃ wi gi xs acc, w1.Le wi ∧ SG X.K wi gi H' ∧ wi.fr Dd = some (.lst xs) ∧ RepL X.K wi xs acc ∧ Out X.K w1 (lcLoop kp mt mc me (wipeR ρ vs) fin (ds.drop i) acc gi) Q (fun c d H' => W c d σ H'),
      ⟨ds.length, rfl, Nat.zero_le _, { w1 with fr := upd w1.fr Dd (.lst []) }, g1, [], [], le2, S2, upd_same, by simp only [RepL], o.weak le1⟩, ?_⟩
    rintro i m H' ⟨rfl, hi, wi, gi, xs, acc, lei, Si, hx, rx, oi⟩
    by_cases hlt : i < ds.length
    · rw [List.drop_eq_getElem_cons hlt] at oi
      unfold lcLoop at oi
      split at oi
      · rename_i hk
        obtain ⟨hk, hz⟩ := hk
        refine .inr ⟨F.go i H' wi gi lei Si hk hlt, fun H3 => ∃ wi gi xs acc, w1.Le wi ∧ SG X.K wi gi H3 ∧ wi.fr Dd = some (.lst xs) ∧ RepL X.K wi xs acc ∧ Out X.K w1 (lcLoop kp mt mc me (wipeR ρ vs) fin (ds.drop (i + 1)) acc gi) Q (fun c d H' => W c d σ H'), fun H3 z => ⟨ds.length - (i + 1), by omega, rfl, hlt, z⟩, fun x H3 y => ?_⟩
        obtain ⟨w3, le3, S3, r3⟩ := F.yld i H' x H3 wi gi ds[i] lei Si hk (by simp [hlt]) y
        refine ⟨w3, wipeR ρ vs, gi, ds[i], S3, (wipe_sl L vs).mono ((le1.trans lei).trans le3), r3, ?_⟩
        cases e4 : mt ds[i] (wipeR ρ vs) gi with
        | none => simp only [e4] at oi; exact oi
        | some p =>
          obtain ⟨ρ4, g4⟩ := p
          simp only [e4] at oi
          intro σ4 H4 w4 le4 S4 L4 a4
          refine ⟨wipe_agr a4, w4, ρ4, g4, S4, L4, ?_⟩
          cases e5 : mc ρ4 g4 with
          | no => simp only [e5] at oi; exact oi
          | err c g5 => simp only [e5] at oi; exact oi.elim
          | ok b g5 =>
            simp only [e5] at oi
            intro v5 H5 w5 le5 S5 r5
            have up5 : wi.Le w5 := (le3.trans le4).trans le5
            cases b with
            | bl b =>
              refine ⟨b, rep_bl b rfl r5, ?_⟩
              cases b with
              | false =>
                rw [if_neg Bool.false_ne_true]
                exact ⟨w5, g5, xs, acc, lei.trans up5, S5, up5.fr _ _ hx, RepL.mono up5 _ _ rx, oi⟩
              | true =>
                rw [if_pos rfl]
                refine ⟨w5, ρ4, g5, S5, L4.mono le5, ?_⟩
                simp only [D.br] at oi
                cases e6 : me ρ4 g5 with
                | no => simp only [e6] at oi; exact oi
                | err c g6 => simp only [e6] at oi; exact oi.elim
                | ok y6 g6 =>
                  simp only [e6] at oi
                  intro v6 H6 w6 le6 S6 r6
                  have up6 : wi.Le w6 := up5.trans le6
                  have hx6 := up6.fr _ _ hx
                  have rx6 := RepL.mono up6 _ _ rx
                  refine ⟨xs, S6.fx _ _ hx6, by rw [rx.length]; exact hz, { w6 with fr := upd w6.fr Dd (.lst (xs ++ [v6])) }, g6, xs ++ [v6], acc ++ [y6], ⟨lei.ex.trans up6.ex, (lei.trans up6).same, (lei.trans up6).le, fun a u q => ?_⟩, S6.asideSet hx6 _, upd_same, ?_, oi⟩
                  · show upd w6.fr Dd _ a = some u
                    rw [upd_ne (ne_of_none q hrD)]
                    exact (lei.trans up6).fr a u q
                  · have lo : Wd.Lo w6 { w6 with fr := upd w6.fr Dd (.lst (xs ++ [v6])) } := ⟨Exn.refl _, fun _ _ => rfl, Nat.le_refl _⟩
                    exact RepL.mono0 lo _ _ (RepL.app (RepL.one r6) rx6)
            | _ => exact oi.elim
      · exact oi.elim
    · have e1 : i = ds.length := by omega
      subst e1
      rw [List.drop_length] at oi
      unfold lcLoop at oi
      split at oi
      · rename_i hk
        exact .inl ⟨F.stop _ H' wi gi lei Si hk (Nat.le_refl _), hfin w1 wi gi H' H1 Dd acc xs Q _ lei S1.fx hD Si hx rx oi⟩
      · exact oi.elim
theorem re_lc (hfin : FinOk X.K fin) (hc : X.calm = true) (hN : X.N.Nodup) (hi : RSrc X W tg iter ms) (ok : BlkOk X.N X.env.scope scope own)
    (hg : ∀ (s : Shared) (H : Hp) (C : Addr) (cl : List (Str × Addr)) (fp : List Addr), RG (X.blk s H scope (compEnvC scope cl C X.env) fp) (own.map (·.2)) tg mt)
    (ht : ∀ (s : Shared) (H : Hp) (C : Addr) (cl : List (Str × Addr)) (fp : List Addr), RTs (X.blk s H scope (compEnvC scope cl C X.env) fp) NoW ifs mc)
    (he : ∀ (s : Shared) (H : Hp) (C : Addr) (cl : List (Str × Addr)) (fp : List Addr), RE (X.blk s H scope (compEnvC scope cl C X.env) fp) NoW elt me) (hs : ∀ x, foldedSetIterable iter X.env x = pure x := by intro _; rfl) :
    RE X W (.ListComp elt [⟨tg, iter, ifs, 0⟩] scope pos) (eLc fin ms (own.map (·.2)) mt mc me) :=
  pe_weak (pe_lc (g := tMG X.K (own.map fun p : Str × Nat => p.2) mt) (tt := tMT X.K NoW mc) (te := tM X.K NoW me) hc hN hi ok hg ht he hs) fun _ _ _ h => read_lc hfin h
/-- name = [..], on one line -/
theorem rs_setLc (i : Nat) {y : Str} {py spos : Pos} (hfin : FinOk X.K fin) (hc : X.calm = true) (hN : X.N.Nodup) (hy : X.N[i]? = some y) (hyl : X.env.scope.names.lookup y = some .local)
    (hsw : swapsWith (.ListComp elt [⟨tg, iter, ifs, 0⟩] scope pos) (some (.Name y py)) spos.line X.env = pure true) (hi : RSrc X W tg iter ms) (ok : BlkOk X.N X.env.scope scope own)
    (hg : ∀ (s : Shared) (H : Hp) (C : Addr) (cl : List (Str × Addr)) (fp : List Addr), RG (X.blk s H scope (compEnvC scope cl C X.env) fp) (own.map (·.2)) tg mt)
    (ht : ∀ (s : Shared) (H : Hp) (C : Addr) (cl : List (Str × Addr)) (fp : List Addr), RTs (X.blk s H scope (compEnvC scope cl C X.env) fp) NoW ifs mc)
    (he : ∀ (s : Shared) (H : Hp) (C : Addr) (cl : List (Str × Addr)) (fp : List Addr), RE (X.blk s H scope (compEnvC scope cl C X.env) fp) NoW elt me) (hs : ∀ x, foldedSetIterable iter X.env x = pure x := by intro _; rfl) :
    RS X W (.Assign [.Name y py] (.ListComp elt [⟨tg, iter, ifs, 0⟩] scope pos) spos) (sAsg (gVar i) (eLc fin ms (own.map (·.2)) mt mc me)) := by
  refine ps_weak (ps_setLc (i := i) (g := tMG X.K (own.map fun p : Str × Nat => p.2) mt) (tt := tMT X.K NoW mc) (te := tM X.K NoW me) hc hN hy hyl hsw hi ok hg ht he hs) ?_
  rintro Dn σ H ⟨w, ρ, g, S0, L, o⟩
  refine read_lc hfin ?_
  exact bindSM S0 L o fun d g' v H' w' le S' L' r o' => o' _ _ w' (Wd.Le.refl w') S' (L'.set r)
end
end Fw

set_option maxRecDepth 100000
set_option maxHeartbeats 4000000
/-! Fw, fifth part: defs, their calls. -/
namespace Fw
open PySem PySem.Spec PyProof.Rows L2

/-- room for k calls, no repr under way -/
structure RM (k : Nat) (A : Around) : Prop where
  dp : A.depth + 3 * k + 5 < recursionLimit
  un : A.units + 16 * k + 200 < cLine
  gd : A.guards = some []
theorem RM.mono {j k : Nat} {A : Around} (r : RM k A) (h : j ≤ k) : RM j A := by
  obtain ⟨a, b, c⟩ := r
  exact ⟨by omega, by omega, c⟩
theorem RM.deeper {k : Nat} {A : Around} (r : RM (k + 1) A) (env : Env) : RM k (A.deeper env) := by
  obtain ⟨a, b, c⟩ := r
  refine ⟨?_, ?_, c⟩
  · show A.depth + 1 + 3 * k + 5 < _; omega
  · show A.units + 3 + 16 * k + 200 < _; omega
theorem RM.in1 {k : Nat} {A : Around} (r : RM (k + 1) A) : RM k A.in1 := by
  obtain ⟨a, b, c⟩ := r
  refine ⟨?_, ?_, c⟩
  · show A.depth + 3 * k + 5 < _; omega
  · show A.units + 1 + 16 * k + 200 < _; omega
theorem make_guards {A : Around} {C : Addr} {us : List Value} {kw : List (Str × Value)} : (A.under (.builtin "type.__call__" ⟨.ref C :: us, kw⟩)).guards = A.guards := by
  have h : (Code.builtin "type.__call__" ⟨.ref C :: us, kw⟩).guards = [] := by
    first
    | rfl
    | simp [Code.guards, Code.isGuard, guardIds]
  unfold Around.under pushGuards
  rw [h]
theorem RM.make {k : Nat} {A : Around} (r : RM (k + 1) A) (C : Addr) (us : List Value) (kw : List (Str × Value)) : RM k (A.under (.builtin "type.__call__" ⟨.ref C :: us, kw⟩)) := by
  obtain ⟨a, b, c⟩ := r
  refine ⟨?_, ?_, make_guards.trans c⟩
  · rw [make_depth]; omega
  · rw [make_units]; omega
theorem RM.depth {k : Nat} {A : Around} (r : RM k A) : A.depth < recursionLimit := by have := r.dp; omega
theorem RM.units {k : Nat} {A : Around} (r : RM k A) : A.units + 64 < cLine := by have := r.un; omega
theorem RM.units1 {k : Nat} {A : Around} (r : RM k A) : A.units + 1 < cLine := by have := r.un; omega

/-- the exception that is handled: where it stands, its class; no other one stands behind it -/
structure HotP (K : PySem.W.Frag) (A : Around) (ac : Nat × Str) (p : Addr × Obj) : Prop where
  hd : A.handled = some (.ref p.1)
  eq : p.1 = ac.1
  zn : L2N.Zn (.ref (He.ga K ac.2)) none p.2
  fl : ∃ vs, p.2.data = .fields vs
theorem HotP.hot1 {K : PySem.W.Frag} {A : Around} {ac : Nat × Str} {p : Addr × Obj} (h : HotP K A ac p) : L2H.Hot1 A p := by
  obtain ⟨vs, e⟩ := h.fl
  exact ⟨h.hd, vs, e, h.zn.2.2 vs e⟩
/-- nothing is being handled; or just this exception is -/
def Mode (K : PySem.W.Frag) (hot : Option (Nat × Str)) (A : Around) (outer : List Env) (H : Hp) (s : Shared) : Prop := match hot with
  | none => A.handled = none
  | some ac => ∃ p, HotP K A ac p ∧ L2H.PinOk outer H s p
def MdX (K : PySem.W.Frag) (hot : Option (Nat × Str)) (X : Cx) : Prop := match hot with
  | none => X.calm = true
  | some ac => X.calm = false ∧ ∃ p, HotP K X.A ac p ∧ p ∈ X.pn
/-- what a def promises -/
structure FnM (P : Program) (w : World) (K : PySem.W.Frag) (mg : Str → Option Value) (base : Heap) (hot : Option (Nat × Str)) (k : Nat) (f : Addr) (fd : FuncData) (ps : List Str) (sp : Sp) : Prop where
  len : ∀ vs H Q E, sp vs H Q E → vs.length = ps.length
  run : ∀ (A : Around) (outer : List Env) (s : Shared) (H : Hp) (args : Args) (us : List Value) (vs : List V) (Q : VK) (E : XK),
    RM k A → Mode K hot A outer H s → Env0 P w K mg base A outer s H → BindsTo s fd args (ps.zip us) → Vals vs us → sp vs H Q E →
    codeAny (model P w) A (.call (.ref f) args) (CR (L2N.CX P w) outer P w H s Q E) s
section
variable {P : Program} {w : World} {K : PySem.W.Frag} {mg : Str → Option Value} {base : Heap} {hot : Option (Nat × Str)} {k j : Nat} {f : Addr} {fd : FuncData} {ps : List Str} {sp sp' : Sp}
theorem FnM.mono (F : FnM P w K mg base hot j f fd ps sp) (h : j ≤ k) : FnM P w K mg base hot k f fd ps sp :=
  ⟨F.len, fun A outer s H args us vs Q E r => F.run A outer s H args us vs Q E (r.mono h)⟩
theorem FnM.imp (F : FnM P w K mg base hot k f fd ps sp) (h : ∀ vs H Q E, sp' vs H Q E → sp vs H Q E) : FnM P w K mg base hot k f fd ps sp' :=
  ⟨fun vs H Q E q => F.len vs H Q E (h _ _ _ _ q), fun A outer s H args us vs Q E a b c d e q => F.run A outer s H args us vs Q E a b c d e (h _ _ _ _ q)⟩
end

/-- a scope as the text uses it: names by slot, slots read, slots stored, global names -/
structure Sc where
  N : List Str
  sc : Scope
  vi : List Nat
  ow : List Nat
  gl : List Str
  top : Bool
def visB (sc : Scope) (x : Str) : Bool := (match sc.names.lookup x with
  | some .local => true
  | some .cell => true
  | some .free => true
  | _ => false) && (!(x == ("__debug__" : Str)) && !(x == ("__classdict__" : Str)))
def locB (sc : Scope) (x : Str) : Bool := match sc.names.lookup x with
  | some .local => true
  | some .cell => true
  | _ => false
def nonB (n : Option NameKind) : Bool := match n with
  | some .local => true
  | _ => false
def gloB (n : Option NameKind) : Bool := match n with
  | some .globalImplicit => true
  | _ => false
def Sc.okV (Z : Sc) : Bool := Z.vi.all fun i => match Z.N[i]? with
  | some x => visB Z.sc x
  | none => false
def Sc.okG (Z : Sc) : Bool := Z.gl.all fun x => gloB (Z.sc.names.lookup x) && !(x == ("__debug__" : Str))
def Sc.okS (Z : Sc) (fn : Str → Bool) : Bool := Z.ow.all fun i => match Z.N[i]? with
  | some x => locB Z.sc x && (fn x || nonB (Z.sc.names.lookup x))
  | none => false
theorem visB_ok {sc : Scope} {x : Str} (h : visB sc x = true) : Vis sc x ∧ (x == ("__debug__" : Str)) = false ∧ (x == ("__classdict__" : Str)) = false := by
  unfold visB at h
  simp only [Bool.and_eq_true, Bool.not_eq_true'] at h
  obtain ⟨h1, h2, h3⟩ := h
  refine ⟨?_, h2, h3⟩
  split at h1
  · exact .inl (by assumption)
  · exact .inr (.inl (by assumption))
  · exact .inr (.inr (by assumption))
  · cases h1
theorem locB_ok {sc : Scope} {x : Str} (h : locB sc x = true) : Loc sc x := by
  unfold locB at h
  split at h
  · exact .inl (by assumption)
  · exact .inr (by assumption)
  · cases h
theorem nonB_ok {n : Option NameKind} (h : nonB n = true) : n = some .local := by
  unfold nonB at h
  split at h
  · rfl
  · cases h
theorem gloB_ok {n : Option NameKind} (h : gloB n = true) : n = some .globalImplicit := by
  unfold gloB at h
  split at h
  · rfl
  · cases h
/-- a context's facts -/
structure Cc (P : Program) (w : World) (K : PySem.W.Frag) (mg : Str → Option Value) (base : Heap) (Z : Sc) (hot : Option (Nat × Str)) (k : Nat) (X : Cx) (W : WX) : Prop where
  pP : X.prog = P
  pw : X.w = w
  pK : X.K = K
  pm : X.mg = mg
  pb : X.base = base
  nn : X.N = Z.N
  ss : X.env.scope = Z.sc
  nd : Z.N.Nodup
  room : RM k X.A
  tk : L2N.Takes X W
  pass : PassesOwn (model X.prog X.w) X.A X.env X.xe
  md : MdX K hot X
  okv : Z.okV = true
  okg : Z.okG = true
  oks : Z.okS X.fn = true
  stk : Z.top = true → X.stack = X.env :: X.outer ∧ X.env.frame = some X.env.locals
section
variable {P : Program} {w : World} {K : PySem.W.Frag} {mg : Str → Option Value} {base : Heap} {Z : Sc} {hot : Option (Nat × Str)} {k : Nat} {X : Cx} {W : WX}
theorem Cc.vis (C : Cc P w K mg base Z hot k X W) {i : Nat} {x : Str} (hv : i ∈ Z.vi) (hN : Z.N[i]? = some x) : Vis X.env.scope x ∧ (x == ("__debug__" : Str)) = false ∧ (x == ("__classdict__" : Str)) = false := by
  have h := List.all_eq_true.mp C.okv i hv
  simp only [hN] at h
  rw [C.ss]
  exact visB_ok h
theorem Cc.sto (C : Cc P w K mg base Z hot k X W) {i : Nat} {x : Str} (hv : i ∈ Z.ow) (hN : Z.N[i]? = some x) : Loc X.env.scope x ∧ (X.fn x = true ∨ X.env.scope.names.lookup x = some .local) := by
  have h := List.all_eq_true.mp C.oks i hv
  simp only [hN, Bool.and_eq_true, Bool.or_eq_true] at h
  rw [C.ss]
  exact ⟨locB_ok h.1, h.2.imp id nonB_ok⟩
theorem Cc.glo (C : Cc P w K mg base Z hot k X W) {i : Nat} {x : Str} (hN : Z.gl[i]? = some x) : Gl X x ∧ (x == ("__debug__" : Str)) = false := by
  have h := List.all_eq_true.mp C.okg x (List.mem_of_getElem? hN)
  simp only [Bool.and_eq_true, Bool.not_eq_true'] at h
  refine ⟨?_, h.2⟩
  show X.env.scope.names.lookup x = _
  rw [C.ss]
  exact gloB_ok h.1
end
theorem Cc.calm {P : Program} {w : World} {K : PySem.W.Frag} {mg : Str → Option Value} {base : Heap} {Z : Sc} {k : Nat} {X : Cx} {W : WX} (C : Cc P w K mg base Z none k X W) : X.calm = true := C.md

/-- a def's body in the machine -/
def fnOf (n k : Nat) (m : Stm) : Fn := fun ds g => if ds.length = n then (match m (ds.map some ++ List.replicate (k - n) none) g with
  | .nx _ g' => .ok .non g'
  | .ret d g' => .ok d g'
  | .err c _ g' => .err c g'
  | _ => .no) else .no
def spM (K : PySem.W.Frag) (n : Nat) (f : Fn) : Sp := fun vs H Q E => vs.length = n ∧ ∃ w g ds, SG K w g H ∧ RepL K w vs ds ∧ Out K w (f ds g) Q E
theorem start_sl {K : PySem.W.Frag} {w : Wd} {ds : List D} {vs : List V} (r : RepL K w vs ds) (N : List Str) : SL K w (ds.map some ++ List.replicate (N.length - ds.length) none) (L2.start N vs) := by
  have hl := r.length
  refine ⟨by simp [L2.start, hl], fun i d h => ?_⟩
  by_cases hi : i < ds.length
  · rw [List.getElem?_append_left (by simpa using hi), List.getElem?_map] at h
    cases e : ds[i]? with
    | none => rw [e] at h; cases h
    | some d' =>
      rw [e] at h
      have e2 : d' = d := by simpa using h
      subst e2
      obtain ⟨v, h1, h2⟩ := r.get e
      refine ⟨v, ?_, h2⟩
      unfold L2.start
      rw [List.getElem?_append_left (by simpa [hl] using hi), List.getElem?_map, h1]
      rfl
  · rw [List.getElem?_append_right (by simpa using Nat.le_of_not_lt hi), List.getElem?_replicate] at h
    split at h <;> cases h
theorem fnm_of {P : Program} {w : World} {K : PySem.W.Frag} {mg : Str → Option Value} {base : Heap} {hot : Option (Nat × Str)} {k : Nat} {f : Addr} {fd : FuncData} {N ps : List Str} {x qual : Str} {params : Arguments} {body : List Stmt} {scope : Scope} {m : Stm}
    {vi ow : List Nat} {gl : List Str} (F : FunD K x qual params body scope [] [] f fd) (S : FnScope N ps scope) (okz : (Sc.okV ⟨N, scope, vi, ow, gl, true⟩ && (Sc.okG ⟨N, scope, vi, ow, gl, true⟩ && Sc.okS ⟨N, scope, vi, ow, gl, true⟩ fun _ => true)) = true)
    (hb : ∀ X W, Cc P w K mg base ⟨N, scope, vi, ow, gl, true⟩ hot k X W → RB X W body m) : FnM P w K mg base hot (k + 1) f fd ps (spM K ps.length (fnOf ps.length N.length m)) := by
  obtain ⟨oc, od, dV, kV, doc, pm, an, cdv, ct, osl, rfl, lk, hcd, _, _⟩ := F.ex
  simp only [Bool.and_eq_true] at okz
  obtain ⟨oz1, oz2, oz3⟩ := okz
  have key : ∀ (vs : List V) (H : Hp) (Q : VK) (E : XK) (X : Cx), X.K = K → RB X (fun cls d _ H => E cls d H) body m → spM K ps.length (fnOf ps.length N.length m) vs H Q E →
      ∃ t, PSs X body t ∧ t { nx := fun _ H' => Q .non H', rt := Q } (L2.start N vs) H := by
    intro vs H Q E X eK hB hsp
    subst eK
    obtain ⟨hl, w', g, ds, S0, r, o⟩ := hsp
    refine ⟨_, hB, w', ds.map some ++ List.replicate (N.length - ds.length) none, g, S0, start_sl r N, ?_⟩
    have hd : ds.length = ps.length := by rw [← r.length]; exact hl
    unfold fnOf at o
    rw [if_pos hd] at o
    rw [hd]
    cases e : m (ds.map some ++ List.replicate (N.length - ps.length) none) g with
    | nx ρ g' =>
      rw [e] at o
      exact fun σ' H' w2 le S' _ => o .non H' w2 le S' (by simp only [Rep])
    | ret d g' => rw [e] at o; exact o
    | err c ρ g' =>
      rw [e] at o
      exact fun σ' H' w2 le S' _ => o H' w2 le S'
    | bk ρ g' => rw [e] at o; exact o.elim
    | ct ρ g' => rw [e] at o; exact o.elim
    | no => rw [e] at o; exact o.elim
  refine ⟨fun vs H Q E h => h.1, fun A outer s H args us vs Q E hr md e0 hbd r hsp => ?_⟩
  have hl : vs.length = ps.length := hsp.1
  have KX : K.In s.heap := e0.mod.kin.keeps fun b o e => (e0.bs b o e).1
  have lim : s.heap.NoLimit := e0.mod.nolimit.keeps fun b o e => (e0.bs b o e).1
  have hkind : ∀ y ∈ ps.zip us, scope.names.lookup y.1 = some .local ∨ (scope.names.lookup y.1 = some .cell ∧ ((cellsFrom (s.heap.objs.size + 1) scope.names []).lookup y.1).isSome = true) := by
    rintro ⟨n, v⟩ hy
    rcases S.par n (List.of_mem_zip hy).1 with q | q
    · exact .inl q
    · exact .inr ⟨q, PySem.W.cellsFrom_some _ _ _ (.inl q)⟩
  refine codeAny_call_function hr.depth (KX _ _ lk) rfl S.co S.gen rfl (PySem.W.codeRec_of KX hcd) (hbd _ _ _ _ ?_)
  refine wpAny_newFunctionEnv_cells S.kind hkind fun env he s1 x => ?_
  subst he
  refine ⟨lim.keeps x.toInCall.keep, codeAny_func ?_⟩
  cases hot with
  | none =>
    have I := inv_start (CX := L2N.CX P w) (w := w) (P := P) (mg := mg) (base := base) (E := E) S md e0 hl r x
    obtain ⟨t, ht, hq⟩ := key vs H Q E (cxOf (L2N.CX P w) P w K mg base N qual scope f cdv A outer s H E) rfl (hb _ _
      { pP := rfl, pw := rfl, pK := rfl, pm := rfl, pb := rfl, nn := rfl, ss := rfl, nd := S.nd, room := hr.deeper _, tk := L2N.takes_of (E₁ := fun e' s'' => L2N.CX P w outer H s E e' s'') rfl rfl rfl rfl, pass := PassesOwn.leaving, md := rfl, okv := oz1, okg := oz2, oks := oz3, stk := fun _ => ⟨rfl, rfl⟩ }) hsp
    refine wpAny_mono (ht.run [] s1 (L2.start N vs) H _ I hq) (fun fl s' hs => ?_) fun e s' hs => hs
    cases fl with
    | ret u =>
      obtain ⟨v, σ', H', J, rv, q⟩ := hs
      exact ⟨v, H', J.os, J.bare, J.base, J.hok, rv, q⟩
    | next =>
      obtain ⟨σ', H', J, q⟩ := hs
      exact ⟨V.non, H', J.os, J.bare, J.base, J.hok, rfl, q⟩
    | brk => obtain ⟨_, _, _, q⟩ := hs; exact q.elim
    | cont => obtain ⟨_, _, _, q⟩ := hs; exact q.elim
  | some ac =>
    obtain ⟨p, hp, pin⟩ := md
    have I := L2H.inv_startH (CX := L2N.CX P w) (w := w) (P := P) (mg := mg) (base := base) (E := E) S pin e0 hl r x
    obtain ⟨t, ht, hq⟩ := key vs H Q E (L2H.cxH (L2N.CX P w) P w K mg base N qual scope f cdv A outer s H E p) rfl (hb _ _
      { pP := rfl, pw := rfl, pK := rfl, pm := rfl, pb := rfl, nn := rfl, ss := rfl, nd := S.nd, room := hr.deeper _, tk := L2N.takes_of (E₁ := fun e' s'' => L2N.CX P w outer H s E e' s'') rfl rfl rfl rfl, pass := PassesOwn.leaving,
        md := ⟨rfl, p, ⟨hp.hd, hp.eq, hp.zn, hp.fl⟩, List.mem_singleton.mpr rfl⟩, okv := oz1, okg := oz2, oks := oz3, stk := fun _ => ⟨rfl, rfl⟩ }) hsp
    refine wpAny_mono (ht.run [] s1 (L2.start N vs) H _ I hq) (fun fl s' hs => ?_) fun e s' hs => hs
    cases fl with
    | ret u =>
      obtain ⟨v, σ', H', J, rv, q⟩ := hs
      exact ⟨v, H', J.os, J.bare, J.base, J.hok, rv, q⟩
    | next =>
      obtain ⟨σ', H', J, q⟩ := hs
      exact ⟨V.non, H', J.os, J.bare, J.base, J.hok, rfl, q⟩
    | brk => obtain ⟨_, _, _, q⟩ := hs; exact q.elim
    | cont => obtain ⟨_, _, _, q⟩ := hs; exact q.elim
end Fw

set_option maxRecDepth 100000
set_option maxHeartbeats 4000000
/-! Fw, sixth part: calls, methods, instances, fields; the rules over a context's facts. -/
namespace Fw
open PySem PySem.Spec PyProof.Rows L2

theorem repl_nil {K : PySem.W.Frag} {w : Wd} : RepL K w [] [] := by simp only [RepL]
theorem fnOf_no {n k : Nat} {m : Stm} : ∀ ds g, ds.length ≠ n → fnOf n k m ds g = .no := fun ds g h => if_neg h
/-- nothing but the answer is left: new cells are forgotten -/
def D.low (n : Nat) : D → Bool
  | .obj l => decide (l < n)
  | .lst ds => lowAll n ds
  | .tup ds => lowAll n ds
  | _ => true
where lowAll (n : Nat) : List D → Bool
  | [] => true
  | d :: ds => D.low n d && lowAll n ds
open Classical in
noncomputable def pureF (f : Fn) : Fn := fun ds g => match f ds g with
  | .ok d g' => if d.low g.length = true ∧ g'.take g.length = g then .ok d g else .no
  | .err c g' => if g'.take g.length = g then .err c g else .no
  | .no => .no
theorem pureF_no {n : Nat} {f : Fn} (h : ∀ ds g, ds.length ≠ n → f ds g = .no) : ∀ ds g, ds.length ≠ n → pureF f ds g = .no := fun ds g z => by
  unfold pureF
  rw [h ds g z]
mutual
theorem Rep.cut {K : PySem.W.Frag} {w : Wd} {n : Nat} : ∀ (v : V) (d : D), Rep K w v d → d.low n = true → Rep K { w with n := n } v d
  | v, .non, h, _ => by simp only [Rep] at h ⊢; exact h
  | v, .bl b, h, _ => by simp only [Rep] at h ⊢; exact h
  | v, .int i, h, _ => by simp only [Rep] at h ⊢; exact h
  | v, .str x, h, _ => by simp only [Rep] at h ⊢; exact h
  | v, .lst ds, h, l => by
    simp only [Rep] at h ⊢
    obtain ⟨a, xs, h1, h2, h3⟩ := h
    exact ⟨a, xs, h1, h2, RepL.cut xs ds h3 (by simpa only [D.low] using l)⟩
  | v, .tup ds, h, l => by
    simp only [Rep] at h ⊢
    obtain ⟨a, xs, h1, h2, h3⟩ := h
    exact ⟨a, xs, h1, h2, RepL.cut xs ds h3 (by simpa only [D.low] using l)⟩
  | v, .obj l, h, z => by
    simp only [Rep] at h ⊢
    exact ⟨by simpa only [D.low, decide_eq_true_eq] using z, h.2⟩
  | v, .err c a, h, _ => by simp only [Rep] at h ⊢; exact h
theorem RepL.cut {K : PySem.W.Frag} {w : Wd} {n : Nat} : ∀ (xs : List V) (ds : List D), RepL K w xs ds → D.low.lowAll n ds = true → RepL K { w with n := n } xs ds
  | xs, [], h, _ => by simp only [RepL] at h ⊢; exact h
  | xs, d :: ds, h, l => by
    simp only [RepL] at h ⊢
    obtain ⟨x, r, h1, h2, h3⟩ := h
    simp only [D.low.lowAll, Bool.and_eq_true] at l
    exact ⟨x, r, h1, Rep.cut x d h2 l.1, RepL.cut r ds h3 l.2⟩
end
mutual
theorem Rep.isLow {K : PySem.W.Frag} {w : Wd} : ∀ (v : V) (d : D), Rep K w v d → d.low w.n = true
  | v, .non, h => by simp only [D.low]
  | v, .bl b, h => by simp only [D.low]
  | v, .int i, h => by simp only [D.low]
  | v, .str x, h => by simp only [D.low]
  | v, .lst ds, h => by
    simp only [Rep] at h
    obtain ⟨a, xs, h1, h2, h3⟩ := h
    simp only [D.low]
    exact RepL.isLow xs ds h3
  | v, .tup ds, h => by
    simp only [Rep] at h
    obtain ⟨a, xs, h1, h2, h3⟩ := h
    simp only [D.low]
    exact RepL.isLow xs ds h3
  | v, .obj l, h => by
    simp only [Rep] at h
    simp only [D.low, decide_eq_true_eq]
    exact h.1
  | v, .err c a, h => by simp only [D.low]
theorem RepL.isLow {K : PySem.W.Frag} {w : Wd} : ∀ (xs : List V) (ds : List D), RepL K w xs ds → D.low.lowAll w.n ds = true
  | xs, [], h => by simp only [D.low.lowAll]
  | xs, d :: ds, h => by
    simp only [RepL] at h
    obtain ⟨x, r, h1, h2, h3⟩ := h
    simp only [D.low.lowAll, Bool.and_eq_true]
    exact ⟨Rep.isLow x d h2, RepL.isLow r ds h3⟩
end
/-- cells that stood before stand, in the cut world -/
theorem SG.back {K : PySem.W.Frag} {w w0 : Wd} {g g0 : Gr} {H H0 : Hp} (S : SG K w g H) (S0 : SG K w0 g0 H0) (le : w0.Le w) (e : g.take g0.length = g0) (ok0 : ∀ l c, g0[l]? = some c → CellAt K w0 H0 (w0.mm l) c) :
    SG K ⟨w.F, w.mm, w0.n, w.fr⟩ g0 H := by
  have hk : g0.length ≤ g.length := by
    have := congrArg List.length e
    rw [List.length_take] at this; omega
  have inn : ∀ l c, g0[l]? = some c → g[l]? = some c := fun l c h => by
    have hl : l < g0.length := (List.getElem?_eq_some_iff.mp h).1
    rw [← e, List.getElem?_take_of_lt hl] at h
    exact h
  have lo : Wd.Lo w0 ⟨w.F, w.mm, w0.n, w.fr⟩ := ⟨le.ex, le.same, Nat.le_refl _⟩
  refine ⟨S.ex, S0.n, fun l c h => ?_, fun l l' c c' h h' => S.inj l l' c c' (inn l c h) (inn l' c' h'), S.fx, S.ff, fun a o l c q h => S.fc a o l c q (inn l c h)⟩
  have q := S.cell l c (inn l c h)
  have q0 := ok0 l c h
  have vinj : ∀ {xs ys : List V} {ds : List D}, RepL K w xs ds → RepL K w0 ys ds → RepL K ⟨w.F, w.mm, w0.n, w.fr⟩ xs ds := fun {xs ys ds} r r0 =>
    RepL.cut xs ds r (RepL.isLow ys ds r0)
  cases c with
  | dead => trivial
  | lst ds =>
    obtain ⟨f, xs, h1, h2⟩ := q
    obtain ⟨_, ys, _, h4⟩ := q0
    exact ⟨f, xs, h1, vinj h2 h4⟩
  | dic ds =>
    obtain ⟨f, xs, h1, h2, h3⟩ := q
    obtain ⟨_, ys, _, _, h4⟩ := q0
    exact ⟨f, xs, h1, h2, vinj h3 h4⟩
  | ins c fs =>
    obtain ⟨f, dx, xs, h1, h2, h3⟩ := q
    obtain ⟨_, _, ys, _, _, h4⟩ := q0
    exact ⟨f, dx, xs, h1, h2, vinj h3 h4⟩
theorem fnm_pure {P : Program} {w : World} {K : PySem.W.Frag} {mg : Str → Option Value} {base : Heap} {hot : Option (Nat × Str)} {k n : Nat} {f : Addr} {fd : FuncData} {ps : List Str} {m : Fn} (F : FnM P w K mg base hot k f fd ps (spM K n m)) :
    FnM P w K mg base hot k f fd ps (spM K n (pureF m)) := by
  refine F.imp fun vs H Q E h => ?_
  obtain ⟨hl, w, g, ds, S0, r, o⟩ := h
  refine ⟨hl, w, g, ds, S0, r, ?_⟩
  unfold pureF at o
  cases e : m ds g with
  | no => rw [e] at o; exact o
  | ok d g' =>
    simp only [e] at o
    split at o
    · rename_i hc
      intro v H' w' le S' r'
      refine o v H' ⟨w'.F, w'.mm, w.n, w'.fr⟩ ⟨le.ex, le.same, Nat.le_refl _, le.fr⟩ (S'.back S0 le hc.2 S0.cell) (Rep.cut v d r' ?_)
      rw [S0.n]; exact hc.1
    · exact o.elim
  | err c g' =>
    simp only [e] at o
    split at o
    · rename_i hc
      intro H' w' le S'
      exact o H' ⟨w'.F, w'.mm, w.n, w'.fr⟩ ⟨le.ex, le.same, Nat.le_refl _, le.fr⟩ (S'.back S0 le hc S0.cell)
    · exact o.elim

/-! ### names by slots -/
section
variable {P : Program} {w : World} {K : PySem.W.Frag} {mg : Str → Option Value} {base : Heap} {Z : Sc} {hot : Option (Nat × Str)} {k : Nat} {X : Cx} {W : WX} {pos : Pos} {x : Str}
theorem xVar (C : Cc P w K mg base Z hot k X W) (i : Nat) (hN : Z.N[i]? = some x := by rfl) (hv : i ∈ Z.vi := by decide) : RE X W (.Name x pos) (eVar i) := by
  obtain ⟨h1, h2, h3⟩ := C.vis hv hN
  exact re_var i (by rw [C.nn]; exact hN) h1 h2 h3
theorem xgInt (C : Cc P w K mg base Z hot k X W) (j : Nat) {i : Int} (hm : ∃ t, mg x = some (.int i t)) (hN : Z.gl[j]? = some x := by rfl) : RE X W (.Name x pos) (eC (.int i)) := by
  obtain ⟨h1, h2⟩ := C.glo hN
  obtain ⟨t, hm⟩ := hm
  exact re_gint h1 (by rw [C.pm]; exact hm) h2
theorem xgStr (C : Cc P w K mg base Z hot k X W) (j : Nat) {z : Str} (hm : ∃ t, mg x = some (.str z t)) (hN : Z.gl[j]? = some x := by rfl) : RE X W (.Name x pos) (eC (.str z)) := by
  obtain ⟨h1, h2⟩ := C.glo hN
  obtain ⟨t, hm⟩ := hm
  exact re_gstr h1 (by rw [C.pm]; exact hm) h2
theorem tVarS (C : Cc P w K mg base Z hot k X W) (i : Nat) {vs : List Nat} (hv : i ∈ vs := by decide) (hN : Z.N[i]? = some x := by rfl) (ho : i ∈ Z.ow := by decide) : RG X vs (.Name x pos) (gVar i) := by
  obtain ⟨h1, h2⟩ := C.sto ho hN
  exact rg_var i (by rw [C.nn]; exact C.nd) hv (by rw [C.nn]; exact hN) h1 h2
theorem tUnp (C : Cc P w K mg base Z none k X W) {kk : Nat} {vs : List Nat} (n : Nat) {tgs : List Expr} {mts : Tgs} (h : RGs X vs tgs mts) (hn : (assignEach tgs X.env).length = n := by rfl) (hst : (assignEach tgs X.env).findIdx? (·.1) = none := by rfl) : RG X vs (.Tuple tgs kk pos) (gUnp n mts) :=
  rg_unp n C.calm h hn hst
theorem sSet (C : Cc P w K mg base Z hot k X W) (i : Nat) {e : Expr} {m : Exp} {pos' : Pos} (h : RE X W e m) (hN : Z.N[i]? = some x := by rfl) (ho : i ∈ Z.ow := by decide) (hs : swapsWith e (some (.Name x pos')) pos.line X.env = pure false := by rfl) :
    RS X W (.Assign [.Name x pos'] e pos) (sAsg (gVar i) m) := by
  obtain ⟨h1, h2⟩ := C.sto ho hN
  exact rs_set i h (by rw [C.nn]; exact C.nd) (by rw [C.nn]; exact hN) h1 hs h2
theorem sForC (C : Cc P w K mg base Z none k X W) {tg iter : Expr} {body : List Stmt} {ms : Src} {mt : Tg} {mb : Stm} (vs : List Nat) (hi : RSrc X W tg iter ms) (hg : RG X vs tg mt) (hb : RB X W body mb) (hs : ∀ x, foldedSetIterable iter X.env x = pure x := by intro _; rfl) :
    RS X W (.For tg iter body [] pos) (sFor ms mt mb) := rs_for C.pass C.calm hi hg hb hs

/-! ### calls -/
theorem passAtN {X : Cx} {W : WX} (tk : L2N.Takes X W) (σ : L2.St) : PassesAt (L2N.CX X.prog X.w) X σ (WE W σ) := fun _ _ _ e s' I c => tk e s' (L2N.XE.of_call I (fun _ _ _ h => h) c)
variable {j n : Nat} {f : Addr} {fd : FuncData} {ps : List Str} {m : Fn}
theorem run_fnm (C : Cc P w K mg base Z hot k X W) (F : FnM P w K mg base hot j f fd ps (spM K n m)) (hj : j ≤ k) (hb : Binds K fd ps []) {pins : List (Addr × Obj)} {σ : L2.St} {H : Hp} {s : Shared} {Q : VK} {us : List Value} {vs : List V}
    (I : Inv X pins σ H s) (r : Vals vs us) (h : spM K n m vs H Q fun c d H => W c d σ H) : wpAny (model X.prog X.w) X.A (call (.ref f) us) (EP X pins σ Q) X.xe s := by
  obtain ⟨rfl, rfl, rfl, rfl, rfl, _, _, _, room, tk, _, md, _, _, _, _⟩ := C
  have hl : us.length = ps.length := by rw [← r.length]; exact F.len _ _ _ _ h
  have b := hb s us I.kIn (by rw [List.append_nil]; exact hl)
  rw [List.append_nil] at b
  have mode : Mode X.K hot X.A X.stack H s := by
    cases hot with
    | none => exact I.ok.hd md
    | some ac =>
      obtain ⟨_, p, hot1, hp⟩ := md
      have P1 := I.pin p (List.mem_append_left _ hp)
      exact ⟨p, hot1, ⟨P1.1, P1.2.1, fun hm => (List.mem_cons.mp (I.stkSub p.1 hm)).elim P1.2.2.1 P1.2.2.2.1, P1.2.2.2.2⟩⟩
  refine wpAny_call (codeAny_mono (F.run X.A X.stack s H ⟨us, []⟩ us vs Q (WE W σ) (room.mono hj) mode I.env0 b r h) fun r s' hq => ?_)
  cases r with
  | error e => exact passAtN tk σ pins H s e s' I hq
  | ok fl =>
    cases fl with
    | ret u => exact I.after hq
    | next => exact hq.elim
    | brk => exact hq.elim
    | cont => exact hq.elim
/-- the facts of a def that is called by its name -/
structure Ca (P : Program) (w : World) (K : PySem.W.Frag) (mg : Str → Option Value) (base : Heap) (hot : Option (Nat × Str)) (j n : Nat) (x : Str) (m : Fn) : Prop where
  ex : ∃ f fd ps, FnM P w K mg base hot j f fd ps (spM K n m) ∧ mg x = some (.ref f) ∧ PySem.W.keepIn K (.ref f) = true ∧ Binds K fd ps []
  no : ∀ ds g, ds.length ≠ n → m ds g = .no
theorem sp_of {K : PySem.W.Frag} {w : Wd} {g : Gr} {H : Hp} {vs : List V} {ds : List D} {Q : VK} {E : XK} {n : Nat} {m : Fn} (no : ∀ ds g, ds.length ≠ n → m ds g = .no) (S0 : SG K w g H) (r : RepL K w vs ds) (o : Out K w (m ds g) Q E) : spM K n m vs H Q E := by
  refine ⟨?_, w, g, ds, S0, r, o⟩
  by_cases h : ds.length = n
  · rw [r.length]; exact h
  · rw [no ds g h] at o; exact o.elim
theorem xCall (C : Cc P w K mg base Z hot k X W) (i : Nat) (F : Ca P w K mg base hot j n x m) {e : Expr} {es : List Expr} {ms : Exps} {p : Pos} (ha : RA X W (e :: es) ms) (hN : Z.gl[i]? = some x := by rfl) (hj : j ≤ k := by decide)
    (he : starEach (e :: es) X.env = (false, eval e X.env) :: starEach es X.env := by rfl) (hpl : (backTo pos (starEach es X.env)).any (·.1) = false := by rfl) : RE X W (.Call (.Name x p) (e :: es) [] pos) (eArgs m ms) := by
  obtain ⟨f, fd, ps, F1, hm, hk, hb⟩ := F.ex
  obtain ⟨h1, h2⟩ := C.glo hN
  refine ⟨fun pins s σ H Q I h => ?_⟩
  obtain ⟨w1, ρ, g, S0, L, o⟩ := h
  refine wpAny_Call_Name_kw (ld_glob I h1 (by rw [C.pm]; exact hm) ?_ h2)
  refine PySem.W.callWith_K (h₀ := X.base) I.ok.mod.kin (by rw [C.pK]; exact hk) ?_ he hpl
  refine thn (ha.run pos pins s σ H (fun vs H1 => spM K n m vs H1 Q fun c d H => W c d σ H) I (bindA S0 L o fun ds g' vs H' w' le S' L' r o' => ?_)) fun us s1 hq => ?_
  · rw [C.pK] at S' r o'
    exact sp_of F.no S' r o'
  · obtain ⟨vs, H1, I1, r, q⟩ := hq
    exact ⟨I1.kIn, run_fnm C F1 hj hb I1 r q⟩
theorem xCall0 (C : Cc P w K mg base Z hot k X W) (i : Nat) (F : Ca P w K mg base hot j n x m) {p : Pos} (hN : Z.gl[i]? = some x := by rfl) (hj : j ≤ k := by decide) : RE X W (.Call (.Name x p) [] [] pos) (eArgs m aNil) := by
  obtain ⟨f, fd, ps, F1, hm, hk, hb⟩ := F.ex
  obtain ⟨h1, h2⟩ := C.glo hN
  refine ⟨fun pins s σ H Q I h => ?_⟩
  obtain ⟨w1, ρ, g, S0, L, o⟩ := h
  refine wpAny_Call_Name_kw (ld_glob I h1 (by rw [C.pm]; exact hm) ?_ h2)
  have o2 : Out X.K w1 (m [] g) Q fun c d H => W c d σ H := o
  rw [C.pK] at S0 o2
  exact PySem.W.callWith_K0 I.kIn (by rw [C.pK]; exact hk) (run_fnm (us := []) C F1 hj hb I .nil (sp_of F.no S0 repl_nil o2))
end
end Fw

set_option maxRecDepth 100000
set_option maxHeartbeats 4000000
/-! Fw, seventh part: methods, instances, fields; builtins by their rules; views of lists. -/
namespace Fw
open PySem PySem.Spec PyProof.Rows L2

/-! ### views -/
def viewL (g : Gr) : D → Option (List D)
  | .lst ds => some ds
  | .obj l => (match g[l]? with
    | some (.lst ds) => some ds
    | _ => none)
  | _ => none
def viewT : D → Option (List D)
  | .tup ds => some ds
  | _ => none
section
variable {K : PySem.W.Frag} {w : Wd} {g : Gr} {H : Hp} {v : V} {d : D} {ds : List D}
theorem viewL_ok (S0 : SG K w g H) (r : Rep K w v d) (e : viewL g d = some ds) : ∃ a xs, v = .ref a ∧ Rd H a (.lst xs) ∧ RepL K w xs ds := by
  cases d with
  | lst es =>
    simp only [viewL, Option.some.injEq] at e
    subst e
    simp only [Rep] at r
    obtain ⟨a, xs, h1, h2, h3⟩ := r
    exact ⟨a, xs, h1, S0.ex.rd h2, h3⟩
  | obj l =>
    simp only [viewL] at e
    split at e
    · rename_i es hl
      cases e
      simp only [Rep] at r
      obtain ⟨f, xs, h1, h2⟩ := S0.cell l _ hl
      exact ⟨_, xs, r.2, .inl h1, h2⟩
    · cases e
  | _ => simp only [viewL] at e; cases e
theorem viewT_ok (S0 : SG K w g H) (r : Rep K w v d) (e : viewT d = some ds) : ∃ a xs, v = .ref a ∧ SqT K H a xs ∧ RepL K w xs ds := by
  cases d with
  | tup es =>
    simp only [viewT, Option.some.injEq] at e
    subst e
    simp only [Rep] at r
    obtain ⟨a, xs, h1, h2, h3⟩ := r
    exact ⟨a, xs, h1, S0.ex.sqT h2, h3⟩
  | _ => simp only [viewT] at e; cases e
end

/-! ### builtins -/
def CaS (K : PySem.W.Frag) (r : List V → Hp → VK → Prop) (m : Fn) : Prop :=
  ∀ (w : Wd) (g : Gr) (H : Hp) (vs : List V) (ds : List D) (Q : VK) (E : XK), SG K w g H → RepL K w vs ds → Out K w (m ds g) Q E → r vs H Q
section
variable {P : Program} {w : World} {K : PySem.W.Frag} {mg : Str → Option Value} {base : Heap} {Z : Sc} {hot : Option (Nat × Str)} {k : Nat} {X : Cx} {W : WX} {pos : Pos} {x : Str} {id T : String} {r : List V → Hp → VK → Prop} {m : Fn} {e : Expr} {es : List Expr} {ms : Exps} {p : Pos}
theorem xBlt (C : Cc P w K mg base Z hot k X W) (i : Nat) (hc : CallR X (.builtin id) r) (hs : CaS X.K r m) (fr : mg x = none) (hv : bootBuiltins x = some (.builtin id)) (ha : RA X W (e :: es) ms) (hN : Z.gl[i]? = some x := by rfl) (hn : x ≠ "__name__" := by decide)
    (he : starEach (e :: es) X.env = (false, eval e X.env) :: starEach es X.env := by rfl) (hpl : (backTo pos (starEach es X.env)).any (·.1) = false := by rfl) : RE X W (.Call (.Name x p) (e :: es) [] pos) (eArgs m ms) := by
  obtain ⟨h1, h2⟩ := C.glo hN
  refine pe_weak (pe_callB hc h1 (by rw [C.pm]; exact fr) hv ha hn h2 he hpl) ?_
  rintro σ H Q ⟨w1, ρ, g, S0, L, o⟩
  exact bindA S0 L o fun ds g' vs H' w' le S' L' r o' => hs w' g' H' vs ds Q _ S' r o'
theorem xTyp (C : Cc P w K mg base Z hot k X W) (i : Nat) (hc : CallR X (.type T) r) (hs : CaS X.K r m) (fr : mg x = none) (hv : bootBuiltins x = some (.type T)) (ha : RA X W (e :: es) ms) (hN : Z.gl[i]? = some x := by rfl) (hn : x ≠ "__name__" := by decide)
    (he : starEach (e :: es) X.env = (false, eval e X.env) :: starEach es X.env := by rfl) (hpl : (backTo pos (starEach es X.env)).any (·.1) = false := by rfl) : RE X W (.Call (.Name x p) (e :: es) [] pos) (eArgs m ms) := by
  obtain ⟨h1, h2⟩ := C.glo hN
  refine pe_weak (pe_callTy hc h1 (by rw [C.pm]; exact fr) hv ha hn h2 he hpl) ?_
  rintro σ H Q ⟨w1, ρ, g, S0, L, o⟩
  exact bindA S0 L o fun ds g' vs H' w' le S' L' r o' => hs w' g' H' vs ds Q _ S' r o'
end
/-- a method of a builtin type -/
def MtS (K : PySem.W.Frag) (T : String) (r : V → List V → Hp → VK → Prop) (ty : D → Gr → Bool) (m : D → List D → Gr → R) : Prop :=
  (∀ (w : Wd) (g : Gr) (H : Hp) (x : V) (d : D), SG K w g H → Rep K w x d → ty d g = true → tyV K T x H) ∧
  (∀ (w : Wd) (g : Gr) (H : Hp) (x : V) (d : D) (vs : List V) (ds : List D) (Q : VK) (E : XK), SG K w g H → Rep K w x d → RepL K w vs ds → Out K w (m d ds g) Q E → r x vs H Q)
def eBm (ty : D → Gr → Bool) (m : D → List D → Gr → R) (mo : Exp) (ms : Exps) : Exp := fun ρ g => (mo ρ g).bind fun d g1 => if ty d g1 = true then (ms ρ g1).bind fun ds g2 => m d ds g2 else .no
section
variable {X : Cx} {W : WX} {o e : Expr} {es : List Expr} {mo : Exp} {ms : Exps} {name : Str} {apos cpos : Pos} {T id : String} {r : V → List V → Hp → VK → Prop} {ty : D → Gr → Bool} {m : D → List D → Gr → R}
theorem xBm (pa : PlainAttrs T) (slot : Slot T name id) (hty : typeOf (.builtin id) = pure (.type "method_descriptor")) (hm : MtR X id r) (hs : MtS X.K T r ty m) (ho : RE X W o mo) (ha : RA X W (e :: es) ms)
    (hbase : attributeBase o name X.env (eval o X.env) = eval o X.env := by rfl)
    (hfew : ((backTo cpos (starEach (e :: es) X.env)).all (fun x => !x.1) && (backToKw cpos (keywordEach [] X.env)).all (fun x => x.1.isSome)
      && decide ((e :: es).length + ([] : List Keyword).length + (if ([] : List Keyword).isEmpty then 0 else 1) < 30)) = true := by rfl)
    (hline : (apos.endLine == cpos.line) = true := by rfl) (hst : starEach (e :: es) X.env = (false, eval e X.env) :: starEach es X.env := by rfl) (hplain : (backTo cpos (starEach es X.env)).any (·.1) = false := by rfl) :
    RE X W (.Call (.Attribute o name apos) (e :: es) [] cpos) (eBm ty m mo ms) := by
  refine pe_weak (pe_bm pa slot hty hm ho ha hbase hfew hline hst hplain) ?_
  rintro σ H Q ⟨w1, ρ, g, S0, L, o⟩
  refine bindM S0 L o fun d g1 x H1 w2 le S1 L1 rx o1 => ?_
  split at o1
  · rename_i ht
    refine ⟨hs.1 w2 g1 H1 x d S1 rx ht, bindA S1 L1 o1 fun ds g2 vs H2 w3 le2 S2 L2' rv o2 => ?_⟩
    exact hs.2 w3 g2 H2 x d vs ds Q _ S2 (rx.mono le2) rv o2
  · exact o1.elim
theorem xBm0 (pa : PlainAttrs T) (slot : Slot T name id) (hty : typeOf (.builtin id) = pure (.type "method_descriptor")) (hm : MtR X id r) (hs : MtS X.K T r ty m) (ho : RE X W o mo)
    (hbase : attributeBase o name X.env (eval o X.env) = eval o X.env := by rfl) (hline : (apos.endLine == cpos.line) = true := by rfl) :
    RE X W (.Call (.Attribute o name apos) [] [] cpos) (eBm ty m mo aNil) := by
  refine pe_weak (pe_bm0 pa slot hty hm ho hbase hline) ?_
  rintro σ H Q ⟨w1, ρ, g, S0, L, o⟩
  refine bindM S0 L o fun d g1 x H1 w2 le S1 L1 rx o1 => ?_
  split at o1
  · rename_i ht
    exact ⟨hs.1 w2 g1 H1 x d S1 rx ht, hs.2 w2 g1 H1 x d [] [] Q _ S1 rx repl_nil o1⟩
  · exact o1.elim
end

/-! ### own classes -/
theorem repF_lookup {K : PySem.W.Frag} {w : Wd} {f : Str} {d : D} : ∀ {xs : List (Str × V)} {fs : List (Str × D)}, RepF K w xs fs → fs.lookup f = some d → ∃ v, xs.lookup f = some v ∧ Rep K w v d
  | _, [], _, h => by cases h
  | [], q :: fs, ⟨h1, _⟩, _ => by cases h1
  | (a, v) :: xs, (b, e) :: fs, ⟨h1, h2⟩, h => by
    simp only [List.map_cons, List.cons.injEq] at h1
    simp only [List.map_cons, RepL] at h2
    obtain ⟨x, r, e1, h3, h4⟩ := h2
    obtain ⟨rfl, e2⟩ := List.cons.inj e1
    subst e2
    obtain ⟨rfl, h1⟩ := h1
    simp only [List.lookup] at h ⊢
    cases q : f == a with
    | true =>
      simp only [q, Option.some.injEq] at h ⊢
      subst h
      exact ⟨v, rfl, h3⟩
    | false =>
      simp only [q] at h ⊢
      exact repF_lookup ⟨h1, h4⟩ h
theorem repF_none {K : PySem.W.Frag} {w : Wd} {f : Str} : ∀ {xs : List (Str × V)} {fs : List (Str × D)}, RepF K w xs fs → fs.lookup f = none → xs.lookup f = none
  | [], [], _, _ => rfl
  | _ :: _, [], ⟨h1, _⟩, _ => by cases h1
  | [], q :: fs, ⟨h1, _⟩, _ => by cases h1
  | (a, v) :: xs, (b, e) :: fs, ⟨h1, h2⟩, h => by
    simp only [List.map_cons, List.cons.injEq] at h1
    simp only [List.map_cons, RepL] at h2
    obtain ⟨x, r, e1, h3, h4⟩ := h2
    obtain ⟨rfl, e2⟩ := List.cons.inj e1
    subst e2
    obtain ⟨rfl, h1⟩ := h1
    simp only [List.lookup] at h ⊢
    cases q : f == a with
    | true => simp only [q] at h; cases h
    | false =>
      simp only [q] at h ⊢
      exact repF_none ⟨h1, h4⟩ h
def putD (f : Str) (v : D) : List (Str × D) → List (Str × D)
  | [] => [(f, v)]
  | (g, x) :: r => if g = f then (g, v) :: r else (g, x) :: putD f v r
theorem repF_put {K : PySem.W.Frag} {w : Wd} {f : Str} {v : V} {d : D} (hv : Rep K w v d) : ∀ {xs : List (Str × V)} {fs : List (Str × D)}, RepF K w xs fs → RepF K w (putF f v xs) (putD f d fs)
  | [], [], _ => by
    refine ⟨rfl, ?_⟩
    simp only [putF, putD, List.map_cons, List.map_nil]
    exact RepL.one hv
  | _ :: _, [], ⟨h1, _⟩ => by cases h1
  | [], q :: fs, ⟨h1, _⟩ => by cases h1
  | (a, u) :: xs, (b, e) :: fs, ⟨h1, h2⟩ => by
    simp only [List.map_cons, List.cons.injEq] at h1
    simp only [List.map_cons, RepL] at h2
    obtain ⟨x, r, e1, h3, h4⟩ := h2
    obtain ⟨rfl, e2⟩ := List.cons.inj e1
    subst e2
    obtain ⟨rfl, h1⟩ := h1
    by_cases z : a = f
    · simp only [putF, putD, if_pos z, RepF, List.map_cons, RepL]
      exact ⟨by rw [h1], v, _, rfl, hv, h4⟩
    · obtain ⟨i1, i2⟩ := repF_put hv ⟨h1, h4⟩
      simp only [putF, putD, if_neg z, RepF, List.map_cons, RepL]
      exact ⟨by rw [i1], u, _, rfl, h3, i2⟩
theorem RepF.mono {K : PySem.W.Frag} {w w' : Wd} {xs : List (Str × V)} {fs : List (Str × D)} (e : w.Le w') (h : RepF K w xs fs) : RepF K w' xs fs := ⟨h.1, RepL.mono e _ _ h.2⟩
theorem RepF.len {K : PySem.W.Frag} {w : Wd} {xs : List (Str × V)} {fs : List (Str × D)} (h : RepF K w xs fs) : xs.length = fs.length := by
  have := congrArg List.length h.1
  simpa using this
/-- an instance of one of these classes -/
def viewI (cs : List Str) (g : Gr) : D → Option (Nat × Str × List (Str × D))
  | .obj l => (match g[l]? with
    | some (.ins c fs) => if c ∈ cs then some (l, c, fs) else none
    | _ => none)
  | _ => none
theorem viewI_ok {K : PySem.W.Frag} {w : Wd} {g : Gr} {H : Hp} {v : V} {d : D} {cs : List Str} {l : Nat} {c : Str} {fs : List (Str × D)} (S0 : SG K w g H) (r : Rep K w v d) (e : viewI cs g d = some (l, c, fs)) :
    d = .obj l ∧ v = .ref (w.mm l) ∧ g[l]? = some (.ins c fs) ∧ c ∈ cs ∧ ∃ dx xs, H (w.mm l) = some (.ins (He.ga K c) dx xs) ∧ RepF K w xs fs := by
  cases d with
  | obj j =>
    simp only [viewI] at e
    split at e
    · rename_i c' fs' hl
      split at e
      · rename_i hc
        cases e
        simp only [Rep] at r
        obtain ⟨f, dx, xs, h1, h2⟩ := S0.cell _ _ hl
        exact ⟨rfl, r.2, hl, hc, dx, xs, h1, h2⟩
      · cases e
    · cases e
  | _ => simp only [viewI] at e; cases e
def eFld (cs : List Str) (f : Str) (mo : Exp) : Exp := fun ρ g => (mo ρ g).bind fun d g1 => match viewI cs g1 d with
  | some (_, _, fs) => (match fs.lookup f with
    | some e => .ok e g1
    | none => .no)
  | none => .no
def sFldM (cs : List Str) (f : Str) (mo mv : Exp) : Stm := fun ρ g => (mv ρ g).toS ρ fun e g1 => (mo ρ g1).toS ρ fun d g2 => match viewI cs g2 d with
  | some (l, c, fs) => if fs.length < 1000 then .nx ρ (g2.set l (.ins c (putD f e fs))) else .no
  | none => .no
/-- the facts of a class's field -/
structure Fk (K : PySem.W.Frag) (cs : List Str) (f : Str) : Prop where
  cl : ∀ c ∈ cs, Cls K (He.ga K c)
  no : ∀ c ∈ cs, NoAttr K (He.ga K c) f
section
variable {X : Cx} {W : WX} {o e value : Expr} {es : List Expr} {mo mv : Exp} {ms : Exps} {f : Str} {pos pos' apos : Pos} {cs : List Str}
theorem xFld (F : Fk X.K cs f) (h : RE X W o mo) (hb : attributeBase o f X.env (eval o X.env) = eval o X.env := by rfl) : RE X W (.Attribute o f pos) (eFld cs f mo) := by
  refine pe_weak (pe_fld h hb) ?_
  rintro σ H Q ⟨w1, ρ, g, S0, L, o⟩
  refine bindM S0 L o fun d g1 x H1 w2 le S1 L1 rx o1 => ?_
  split at o1
  · rename_i l c fs hv
    obtain ⟨_, rfl, hl, hc, dx, xs, h1, h2⟩ := viewI_ok S1 rx hv
    split at o1
    · rename_i e he
      obtain ⟨v, h3, h4⟩ := repF_lookup h2 he
      exact ⟨_, _, dx, xs, v, rfl, h1, F.cl c hc, F.no c hc, h3, Out.here o1 S1 h4⟩
    · exact o1.elim
  · exact o1.elim
theorem setIns {K : PySem.W.Frag} {w : Wd} {g : Gr} {H : Hp} {l : Nat} {c f : Str} {fs : List (Str × D)} {dx : Addr} {xs : List (Str × V)} {v : V} {d : D} (S0 : SG K w g H) (hl : g[l]? = some (.ins c fs)) (h1 : H (w.mm l) = some (.ins (He.ga K c) dx xs)) (h2 : RepF K w xs fs) (hv : Rep K w v d) :
    SG K w (g.set l (.ins c (putD f d fs))) (upd H (w.mm l) (.ins (He.ga K c) dx (putF f v xs))) :=
  S0.setC hl rfl (by obtain ⟨f0, _⟩ := S0.cell l _ hl; exact ⟨f0, dx, _, upd_same, repF_put hv h2⟩) rfl
theorem xSetFld (F : Fk X.K cs f) (h : RE X W o mo) (hv : RE X W value mv) (hs : swapsWith value (some (.Attribute o f pos')) pos.line X.env = pure false := by rfl) : RS X W (.Assign [.Attribute o f pos'] value pos) (sFldM cs f mo mv) := by
  refine ps_weak (ps_fld h hv hs) ?_
  rintro Dn σ H ⟨w1, ρ, g, S0, L, o⟩
  refine bindSM S0 L o fun e g1 y H1 w2 le1 S1 L1 ry o1 => ?_
  refine bindSM S1 L1 o1 fun d g2 x H2 w3 le2 S2 L2' rx o2 => ?_
  split at o2
  · rename_i l c fs hv
    obtain ⟨_, rfl, hl, hc, dx, xs, h1, h2⟩ := viewI_ok S2 rx hv
    split at o2
    · rename_i hz
      exact ⟨_, _, dx, xs, rfl, h1, F.cl c hc, F.no c hc, by rw [h2.len]; exact hz, o2 σ _ w3 (Wd.Le.refl _) (setIns S2 hl h1 h2 (ry.mono le2)) L2'⟩
    · exact o2.elim
  · exact o2.elim
/-- o.f op= e -/
def sFldA (cs : List Str) (f : Str) (op : D → D → Option D) (mo mv : Exp) : Stm := fun ρ g => (mo ρ g).toS ρ fun d g1 => match viewI cs g1 d with
  | some (l, c0, fs) => (match fs.lookup f with
    | some a => (mv ρ g1).toS ρ fun e g2 => (match op a e with
      | some z => (match viewI cs g2 (.obj l) with
        | some (_, c, fs) => if c = c0 ∧ fs.length < 1000 then .nx ρ (g2.set l (.ins c (putD f z fs))) else .no
        | none => .no)
      | none => .no)
    | none => .no)
  | none => .no
def dAdd : D → D → Option D
  | .int i, .int j => some (.int (i + j))
  | _, _ => none
def dSub : D → D → Option D
  | .int i, .int j => some (.int (i - j))
  | _, _ => none
theorem xAugFld {op : Operator} {rd : V → V → Hp → VK → Prop} {mop : D → D → Option D} (F : Fk X.K cs f) (h : RE X W o mo) (hv : RE X W value mv) (hop : InOp X op rd)
    (hs : ∀ (w : Wd) (x y : V) (a b z : D) (H : Hp) (Q : VK), Rep X.K w x a → Rep X.K w y b → mop a b = some z → (∀ u, Rep X.K w u z → Q u H) → rd x y H Q) : RS X W (.AugAssign (.Attribute o f pos') op value pos) (sFldA cs f mop mo mv) := by
  refine ps_weak (ps_fldaug h hv hop) ?_
  rintro Dn σ H ⟨w1, ρ, g, S0, L, o⟩
  refine bindSM S0 L o fun d g1 x H1 w2 le1 S1 L1 rx o1 => ?_
  split at o1
  · rename_i l c fs hv
    obtain ⟨_, rfl, hl, hc, dx, xs, h1, h2⟩ := viewI_ok S1 rx hv
    split at o1
    · rename_i a ha
      obtain ⟨va, h3, h4⟩ := repF_lookup h2 ha
      refine ⟨_, _, dx, xs, va, rfl, h1, F.cl c hc, F.no c hc, h3, ?_⟩
      refine bindSM S1 L1 o1 fun e g2 y H2 w3 le2 S2 L2' ry o2 => ?_
      split at o2
      · rename_i z hz
        refine hs w3 va y a e z H2 _ (h4.mono le2) ry hz fun u ru => ?_
        split at o2
        · rename_i l' c' fs' hv2
          have hlt : l < w2.n := by rw [S1.n]; exact (List.getElem?_eq_some_iff.mp hl).1
          have ro : Rep X.K w3 (.ref (w2.mm l)) (.obj l) := by
            simp only [Rep]
            exact ⟨Nat.lt_of_lt_of_le hlt le2.le, by rw [le2.same l hlt]⟩
          obtain ⟨el, e2, hl2, hc2, dx2, xs2, h5, h6⟩ := viewI_ok S2 ro hv2
          cases el
          have e3 : w2.mm l = w3.mm l := (le2.same l hlt).symm
          split at o2
          · rename_i hz2
            obtain ⟨rfl, hz2⟩ := hz2
            exact ⟨dx2, xs2, by rw [e3]; exact h5, by rw [h6.len]; exact hz2, by rw [e3]; exact o2 σ _ w3 (Wd.Le.refl _) (setIns S2 hl2 h5 h6 ru) L2'⟩
          · exact o2.elim
        · exact o2.elim
      · exact o2.elim
    · exact o1.elim
  · exact o1.elim
end
end Fw

set_option maxRecDepth 100000
set_option maxHeartbeats 4000000
/-! Fw, eighth part: methods of own classes, instances made, exceptions. -/
namespace Fw
open PySem PySem.Spec PyProof.Rows L2

def eMeth (cs : List Str) (mn : Str) (m : Fn) (mo : Exp) (ms : Exps) : Exp := fun ρ g => (mo ρ g).bind fun d g1 => match viewI cs g1 d with
  | some (_, _, fs) => if fs.lookup mn = none then (ms ρ g1).bind fun ds g2 => m (d :: ds) g2 else .no
  | none => .no
/-- a method of some classes -/
structure Ma (P : Program) (w : World) (K : PySem.W.Frag) (mg : Str → Option Value) (base : Heap) (hot : Option (Nat × Str)) (j n : Nat) (cs : List Str) (mn : Str) (m : Fn) : Prop where
  ex : ∀ c ∈ cs, Cls K (He.ga K c) ∧ ∃ f fd ps, Meth K (He.ga K c) mn f ∧ FnM P w K mg base hot j f fd ps (spM K n m) ∧ Binds K fd ps []
  no : ∀ ds g, ds.length ≠ n → m ds g = .no
section
variable {P : Program} {w : World} {K : PySem.W.Frag} {mg : Str → Option Value} {base : Heap} {Z : Sc} {hot : Option (Nat × Str)} {k : Nat} {X : Cx} {W : WX} {pos apos : Pos} {x mn : Str} {j n : Nat} {m : Fn} {o e : Expr} {es : List Expr} {mo : Exp} {ms : Exps} {cs : List Str} {p : Pos}
theorem xMeth (C : Cc P w K mg base Z hot k X W) (F : Ma P w K mg base hot j n cs mn m) (ho : RE X W o mo) (ha : RA X W (e :: es) ms) {pl : Sem Bool} (hj : j ≤ k := by decide)
    (hst : starEach (e :: es) X.env = (false, eval e X.env) :: starEach es X.env := by rfl) (hpl : (backTo pos (starEach es X.env)).any (·.1) = false := by rfl)
    (ht : eval (.Call (.Attribute o mn apos) (e :: es) [] pos) X.env = (do let ov ← eval o X.env; standAt apos.atName; let (f, first) ← holding [ov] (getMethod ov mn pl); callWith pos f first (backTo pos (starEach (e :: es) X.env)) (backToKw pos (keywordEach [] X.env))) := by rfl) :
    RE X W (.Call (.Attribute o mn apos) (e :: es) [] pos) (eMeth cs mn m mo ms) := by
  refine ⟨fun pins s σ H Q I h => ?_⟩
  obtain ⟨w1, ρ, g, S0, L, o⟩ := h
  refine PySem.W.methodCall_KW (pl := pl) (thn (ho.run pins s σ H (fun x H1 => ∃ c a dx fs, c ∈ cs ∧ x = .ref a ∧ H1 a = some (.ins (He.ga K c) dx fs) ∧ fs.lookup mn = none ∧ tMA X.K W ms σ H1 fun vs H2 => spM K n m (.ref a :: vs) H2 Q fun c d H => W c d σ H) I
    (bindM S0 L o fun d g1 x H1 w2 le S1 L1 rx o1 => ?_)) fun u s1 hq => ?_) ht
  · split at o1
    · rename_i l c fs hv
      obtain ⟨rfl, rfl, hl, hc, dx, xs, h1, h2⟩ := viewI_ok S1 rx hv
      split at o1
      · rename_i hn
        rw [C.pK] at h1
        refine ⟨c, _, dx, xs, hc, rfl, h1, repF_none h2 hn, bindA S1 L1 o1 fun ds g2 vs H2 w3 le2 S2 L2' rv o2 => ?_⟩
        rw [C.pK] at S2 rv o2 rx
        refine sp_of F.no S2 ?_ o2
        simp only [RepL]
        exact ⟨_, vs, rfl, rx.mono le2, rv⟩
      · exact o1.elim
    · exact o1.elim
  · obtain ⟨x, H1, I1, rx, c, a, dx, fs, hc, rfl, ea, hl, q⟩ := hq
    obtain ⟨cl, f, fd, ps, me, F1, hb⟩ := F.ex c hc
    obtain rfl : u = Value.ref a := rx
    rw [← C.pK] at cl me ea
    refine getmeth_ok I1 ea cl me hl ?_
    refine PySem.W.callWith_K (first := [.ref a]) (h₀ := X.base) I.ok.mod.kin me.kp (thn (ha.run pos pins s1 σ H1 _ I1 q) fun us s2 hq2 => ?_) hst hpl
    obtain ⟨vs, H2, I2, r, q2⟩ := hq2
    exact ⟨I2.kIn, run_fnm (us := .ref a :: us) (vs := .ref a :: vs) C F1 hj hb I2 (.cons rfl r) q2⟩
theorem xMeth0 (C : Cc P w K mg base Z hot k X W) (F : Ma P w K mg base hot j n cs mn m) (ho : RE X W o mo) {pl : Sem Bool} (hj : j ≤ k := by decide)
    (ht : eval (.Call (.Attribute o mn apos) [] [] pos) X.env = (do let ov ← eval o X.env; standAt apos.atName; let (f, first) ← holding [ov] (getMethod ov mn pl); callWith pos f first (backTo pos (starEach [] X.env)) (backToKw pos (keywordEach [] X.env))) := by rfl) :
    RE X W (.Call (.Attribute o mn apos) [] [] pos) (eMeth cs mn m mo aNil) := by
  refine ⟨fun pins s σ H Q I h => ?_⟩
  obtain ⟨w1, ρ, g, S0, L, o⟩ := h
  refine PySem.W.methodCall_KW (pl := pl) (thn (ho.run pins s σ H (fun x H1 => ∃ c a dx fs, c ∈ cs ∧ x = .ref a ∧ H1 a = some (.ins (He.ga K c) dx fs) ∧ fs.lookup mn = none ∧ spM K n m [.ref a] H1 Q fun c d H => W c d σ H) I
    (bindM S0 L o fun d g1 x H1 w2 le S1 L1 rx o1 => ?_)) fun u s1 hq => ?_) ht
  · split at o1
    · rename_i l c fs hv
      obtain ⟨rfl, rfl, hl, hc, dx, xs, h1, h2⟩ := viewI_ok S1 rx hv
      split at o1
      · rename_i hn
        have o2 : Out X.K w2 (m [.obj l] g1) Q fun c d H' => W c d σ H' := o1
        rw [C.pK] at h1 S1 rx o2
        exact ⟨c, _, dx, xs, hc, rfl, h1, repF_none h2 hn, sp_of F.no S1 (RepL.one rx) o2⟩
      · exact o1.elim
    · exact o1.elim
  · obtain ⟨x, H1, I1, rx, c, a, dx, fs, hc, rfl, ea, hl, q⟩ := hq
    obtain ⟨cl, f, fd, ps, me, F1, hb⟩ := F.ex c hc
    obtain rfl : u = Value.ref a := rx
    rw [← C.pK] at cl me ea
    refine getmeth_ok I1 ea cl me hl ?_
    exact PySem.W.callWith_K0 (first := [.ref a]) I1.kIn me.kp (run_fnm (us := [.ref a]) (vs := [.ref a]) C F1 hj hb I1 (.cons rfl .nil) q)

/-! ### a new instance -/
def eMake (c : Str) (m : Fn) (ms : Exps) : Exp := fun ρ g => (ms ρ g).bind fun ds g1 => match m (.obj g1.length :: ds) (g1 ++ [.ins c []]) with
  | .ok .non g2 => .ok (.obj g1.length) g2
  | .err c g2 => .err c g2
  | _ => .no
/-- a class that is made by its __init__ -/
structure Ka (P : Program) (w : World) (K : PySem.W.Frag) (mg : Str → Option Value) (base : Heap) (hot : Option (Nat × Str)) (j n : Nat) (c : Str) (m : Fn) : Prop where
  ex : ∃ f fd ps, Mk K (He.ga K c) f ∧ mg c = some (.ref (He.ga K c)) ∧ FnM P w K mg base hot j f fd ps (spM K n m) ∧ Binds K fd ps []
  no : ∀ ds g, ds.length ≠ n → m ds g = .no
def mkSp (c : Str) (K : PySem.W.Frag) (n : Nat) (m : Fn) (vs : List V) (H : Hp) (Q : VK) (E : XK) : Prop :=
  ∀ x dx, H x = none → H dx = none → dx ≠ x → spM K n m (.ref x :: vs) (upd (upd H dx (.own x)) x (.ins (He.ga K c) dx [])) (fun v H2 => v = .non ∧ Q (.ref x) H2) E
theorem mkSp_of {K : PySem.W.Frag} {c : Str} {w : Wd} {g : Gr} {H : Hp} {vs : List V} {ds : List D} {Q : VK} {E : XK} {n : Nat} {m : Fn} (no : ∀ ds g, ds.length ≠ n → m ds g = .no) (S0 : SG K w g H) (r : RepL K w vs ds)
    (o : Out K w (match m (.obj g.length :: ds) (g ++ [.ins c []]) with | .ok .non g2 => .ok (.obj g.length) g2 | .err c g2 => .err c g2 | _ => .no) Q E) : mkSp c K n m vs H Q E := by
  intro x dx hx hdx ne
  have S1 : SG K w g (upd H dx (.own x)) := S0.grow (Exn.add hdx)
  have hx1 : upd H dx (.own x) x = none := by rw [upd_ne (Ne.symm ne)]; exact hx
  have S2 : SG K (w.more x) (g ++ [.ins c []]) (upd (upd H dx (.own x)) x (.ins (He.ga K c) dx [])) := S1.allocC hx1 ⟨S1.ex.free hx1, dx, [], upd_same, rfl, by simp only [List.map_nil, RepL]⟩
  have le := w.le_more x
  have r1 : Rep K (w.more x) (.ref x) (.obj g.length) := by
    simp only [Rep]
    rw [← S0.n]
    exact ⟨Nat.lt_succ_self _, by rw [Wd.more_at]⟩
  have r2 : RepL K (w.more x) (.ref x :: vs) (.obj g.length :: ds) := by
    simp only [RepL]
    exact ⟨_, vs, rfl, r1, RepL.mono le _ _ r⟩
  refine sp_of no S2 r2 ?_
  cases e : m (.obj g.length :: ds) (g ++ [.ins c []]) with
  | no => rw [e] at o; exact o
  | err c g2 => simp only [e] at o; exact fun H' w' l s => o H' w' (le.trans l) s
  | ok d g2 =>
    simp only [e] at o
    cases d with
    | non =>
      intro v H' w' l s rv
      simp only [Rep] at rv
      exact ⟨rv, o _ H' w' (le.trans l) s (r1.mono l)⟩
    | _ => exact o.elim
theorem run_mkm (C : Cc P w K mg base Z hot k X W) (F : Ka P w K mg base hot j n x m) (hj : j + 1 ≤ k) {pins : List (Addr × Obj)} {σ : L2.St} {H : Hp} {s : Shared} {Q : VK} {us : List Value} {vs : List V}
    (I : Inv X pins σ H s) (r : Vals vs us) (h : mkSp x K n m vs H Q fun c d H => W c d σ H) : wpAny (model X.prog X.w) X.A (call (.ref (He.ga K x)) us) (EP X pins σ Q) X.xe s := by
  obtain ⟨f, fd, ps, M, _, F1, hb⟩ := F.ex
  obtain ⟨rfl, rfl, rfl, rfl, rfl, _, _, _, room, tk, _, md, _, _, _, _⟩ := C
  have hq := h (s.heap.objs.size + 1) s.heap.objs.size (I.hok.fresh (Nat.le_succ _)) (I.hok.fresh (Nat.le_refl _)) (Nat.ne_of_lt (Nat.lt_succ_self _))
  have I2 := Inv.made (C := He.ga X.K x) I
  have r2 : Vals (V.ref (s.heap.objs.size + 1) :: vs) (Value.ref (s.heap.objs.size + 1) :: us) := .cons rfl r
  have hl : (Value.ref (s.heap.objs.size + 1) :: us).length = ps.length := by
    have e := r2.length
    rw [F1.len _ _ _ _ hq] at e
    exact e.symm
  have b := hb _ (Value.ref (s.heap.objs.size + 1) :: us) I2.kIn (by rw [List.append_nil]; exact hl)
  rw [List.append_nil] at b
  have mode : ∀ {s2 : Shared}, Inv X pins σ (upd (upd H s.heap.objs.size (.own (s.heap.objs.size + 1))) (s.heap.objs.size + 1) (.ins (He.ga X.K x) s.heap.objs.size [])) s2 → Mode X.K hot (X.A.under (.builtin "type.__call__" ⟨.ref (He.ga X.K x) :: us, []⟩)) X.stack (upd (upd H s.heap.objs.size (.own (s.heap.objs.size + 1))) (s.heap.objs.size + 1) (.ins (He.ga X.K x) s.heap.objs.size [])) s2 := fun {s2} I2 => by
    cases hot with
    | none => exact I.ok.hd md
    | some ac =>
      obtain ⟨_, p, hot1, hp⟩ := md
      have P1 := I2.pin p (List.mem_append_left _ hp)
      exact ⟨p, ⟨hot1.hd, hot1.eq, hot1.zn, hot1.fl⟩, ⟨P1.1, P1.2.1, fun hm => (List.mem_cons.mp (I2.stkSub p.1 hm)).elim P1.2.2.1 P1.2.2.2.1, P1.2.2.2.2⟩⟩
  refine wpAny_call (make_map (f := f) I.kIn M.makes M.init (beq_iff_eq.mp M.fn) (codeAny_mono (F1.run _ X.stack _ _ ⟨Value.ref (s.heap.objs.size + 1) :: us, []⟩ (Value.ref (s.heap.objs.size + 1) :: us) _ _ (WE W σ) ((room.mono hj).make (He.ga X.K x) us [])
    (mode I2) (I2.env0.make (He.ga X.K x) us []) b r2 hq) fun r s' hq' => ?_))
  cases r with
  | error e => exact passAtN tk σ pins _ _ e s' I2 hq'
  | ok fl =>
    cases fl with
    | ret u =>
      obtain ⟨v, H', I3, rv, ev, q3⟩ := I2.after hq'
      subst ev
      exact ⟨rv, ⟨V.ref (s.heap.objs.size + 1), H', I3, rfl, q3⟩⟩
    | next => exact hq'.elim
    | brk => exact hq'.elim
    | cont => exact hq'.elim
theorem xMake (C : Cc P w K mg base Z hot k X W) (i : Nat) (F : Ka P w K mg base hot j n x m) (ha : RA X W (e :: es) ms) (hN : Z.gl[i]? = some x := by rfl) (hj : j + 1 ≤ k := by decide)
    (he : starEach (e :: es) X.env = (false, eval e X.env) :: starEach es X.env := by rfl) (hpl : (backTo pos (starEach es X.env)).any (·.1) = false := by rfl) : RE X W (.Call (.Name x p) (e :: es) [] pos) (eMake x m ms) := by
  obtain ⟨f, fd, ps, M, hm, F1, hb⟩ := id F.ex
  obtain ⟨h1, h2⟩ := C.glo hN
  refine ⟨fun pins s σ H Q I h => ?_⟩
  obtain ⟨w1, ρ, g, S0, L, o⟩ := h
  refine wpAny_Call_Name_kw (ld_glob I h1 (by rw [C.pm]; exact hm) ?_ h2)
  refine PySem.W.callWith_K (h₀ := X.base) I.ok.mod.kin (by rw [C.pK]; exact M.kp) ?_ he hpl
  refine thn (ha.run pos pins s σ H (fun vs H1 => mkSp x K n m vs H1 Q fun c d H => W c d σ H) I (bindA S0 L o fun ds g' vs H' w' le S' L' r o' => ?_)) fun us s1 hq => ?_
  · rw [C.pK] at S' r o'
    exact mkSp_of F.no S' r o'
  · obtain ⟨vs, H1, I1, r, q⟩ := hq
    exact ⟨I1.kIn, run_mkm C F hj I1 r q⟩
theorem xMake0 (C : Cc P w K mg base Z hot k X W) (i : Nat) (F : Ka P w K mg base hot j n x m) (hN : Z.gl[i]? = some x := by rfl) (hj : j + 1 ≤ k := by decide) : RE X W (.Call (.Name x p) [] [] pos) (eMake x m aNil) := by
  obtain ⟨f, fd, ps, M, hm, F1, hb⟩ := id F.ex
  obtain ⟨h1, h2⟩ := C.glo hN
  refine ⟨fun pins s σ H Q I h => ?_⟩
  obtain ⟨w1, ρ, g, S0, L, o⟩ := h
  refine wpAny_Call_Name_kw (ld_glob I h1 (by rw [C.pm]; exact hm) ?_ h2)
  rw [C.pK] at S0 o
  exact PySem.W.callWith_K0 I.kIn (by rw [C.pK]; exact M.kp) (run_mkm (us := []) C F hj I .nil (mkSp_of F.no S0 repl_nil o))
end
end Fw

set_option maxRecDepth 100000
set_option maxHeartbeats 4000000
/-! Fw, ninth part: equality of data. -/
namespace Fw
open PySem PySem.Spec PyProof.Rows L2 SeqAt

/-- no dict within -/
def ndP : PyData → Bool
  | .list xs => ndAll xs
  | .tuple xs => ndAll xs
  | .dict _ => false
  | _ => true
where ndAll : List PyData → Bool
  | [] => true
  | x :: xs => ndP x && ndAll xs
mutual
theorem nd_one {h : Heap} : ∀ (d d' : PyData) (v : Value) (as as' : List Addr), ndP d = true → Reads h v d as → Reads h v d' as' → d = d'
  | .none, _, _, _, _, _, r, r' => by cases r; cases r'; rfl
  | .bool _, _, _, _, _, _, r, r' => by cases r; cases r'; rfl
  | .int _, _, _, _, _, _, r, r' => by cases r; cases r'; rfl
  | .str _, _, _, _, _, _, r, r' => by cases r; cases r'; rfl
  | .list xs, d', _, _, _, hl, r, r' => by
    cases r with
    | list h1 h2 h3 h4 =>
      cases r' with
      | list k1 k2 k3 k4 =>
        rw [h1] at k1; cases k1
        rw [h3] at k3; cases k3
        rw [nd_all xs _ _ _ _ (by simpa only [ndP] using hl) h4 k4]
      | tuple k1 k2 k3 k4 => rw [h1] at k1; cases k1; rw [h2] at k2; exact absurd k2 (by simp)
      | dict k1 k2 k3 k4 k5 => rw [h1] at k1; cases k1; rw [h2] at k2; exact absurd k2 (by simp)
  | .tuple xs, d', _, _, _, hl, r, r' => by
    cases r with
    | tuple h1 h2 h3 h4 =>
      cases r' with
      | tuple k1 k2 k3 k4 =>
        rw [h1] at k1; cases k1
        rw [h3] at k3; cases k3
        rw [nd_all xs _ _ _ _ (by simpa only [ndP] using hl) h4 k4]
      | list k1 k2 k3 k4 => rw [h1] at k1; cases k1; rw [h2] at k2; exact absurd k2 (by simp)
      | dict k1 k2 k3 k4 k5 => rw [h1] at k1; cases k1; rw [h2] at k2; exact absurd k2 (by simp)
  | .dict _, _, _, _, _, hl, _, _ => by simp only [ndP] at hl; cases hl
theorem nd_all {h : Heap} : ∀ (xs ys : List PyData) (vs : List Value) (as as' : List Addr), ndP.ndAll xs = true → ReadsAll h vs xs as → ReadsAll h vs ys as' → xs = ys
  | [], _, _, _, _, _, r, r' => by cases r; cases r'; rfl
  | x :: xs, _, _, _, _, hl, r, r' => by
    simp only [ndP.ndAll, Bool.and_eq_true] at hl
    cases r with
    | cons h1 h2 =>
      cases r' with
      | cons k1 k2 => rw [nd_one x _ _ _ _ hl.1 h1 k1, nd_all xs _ _ _ _ hl.2 h2 k2]
end
mutual
theorem eqv_self : ∀ d : PyData, ndP d = true → PyData.eqv d d = true
  | .none, _ => rfl
  | .bool b, _ => by simp [PyData.eqv]
  | .int i, _ => by simp [PyData.eqv]
  | .str x, _ => by simp [PyData.eqv]
  | .list xs, h => by rw [PyData.eqv]; exact eqv_selfAll xs (by simpa only [ndP] using h)
  | .tuple xs, h => by rw [PyData.eqv]; exact eqv_selfAll xs (by simpa only [ndP] using h)
  | .dict _, h => by simp only [ndP] at h; cases h
theorem eqv_selfAll : ∀ xs : List PyData, ndP.ndAll xs = true → PyData.eqvAll xs xs = true
  | [], _ => rfl
  | x :: xs, h => by
    simp only [ndP.ndAll, Bool.and_eq_true] at h
    rw [PyData.eqvAll, eqv_self x h.1, eqv_selfAll xs h.2]; rfl
end
theorem minl {u a b : Nat} (h : u + min a b < cLine) : u < cLine := by omega
mutual
theorem eqAtN : ∀ (da db : PyData) (A : Around) (s : Shared) (a b : Value) (as bs : List Addr), Reads s.heap a da as → Reads s.heap b db bs → ndP da = true → ndP db = true → A.units + min da.depth db.depth < cLine → EqAt A s a b (PyData.eqv da db)
  | .none, _, A, s, _, _, _, _, ra, rb, _, hb, hu => by
    cases ra
    cases rb with
    | none => exact EqAt.same _
    | bool q1 => exact EqAt.none_bool q1
    | int q1 q2 => exact EqAt.none_int q1 q2
    | str q1 q2 => exact EqAt.none_str q1 q2
    | list k1 k2 k3 k4 => exact EqAt.none_list ⟨_, k1, k2, _, k3⟩ (minl hu)
    | tuple k1 k2 k3 k4 => exact EqAt.none_tuple ⟨_, k1, k2, _, k3⟩ (minl hu)
    | dict => simp only [ndP] at hb; cases hb
  | .bool x, _, A, s, _, _, _, _, ra, rb, _, hb, hu => by
    cases ra
    cases rb with
    | none => exact EqAt.bool_none x
    | bool q1 => exact EqAt.bool_bool x q1
    | int q1 q2 => exact EqAt.bool_int x q1 q2
    | str q1 q2 => exact EqAt.bool_str x q1 q2
    | list k1 k2 k3 k4 => exact EqAt.bool_list x ⟨_, k1, k2, _, k3⟩ (minl hu)
    | tuple k1 k2 k3 k4 => exact EqAt.bool_tuple x ⟨_, k1, k2, _, k3⟩ (minl hu)
    | dict => simp only [ndP] at hb; cases hb
  | .int x, _, A, s, _, _, _, _, ra, rb, _, hb, hu => by
    cases ra with
    | int _ t =>
      cases rb with
      | none => exact EqAt.int_none x t
      | bool q1 => exact EqAt.int_bool x t q1
      | int q1 q2 => exact EqAt.int_int x t q1 q2
      | str q1 q2 => exact EqAt.int_str x t q1 q2
      | list k1 k2 k3 k4 => exact EqAt.int_list x t ⟨_, k1, k2, _, k3⟩ (minl hu)
      | tuple k1 k2 k3 k4 => exact EqAt.int_tuple x t ⟨_, k1, k2, _, k3⟩ (minl hu)
      | dict => simp only [ndP] at hb; cases hb
  | .str x, _, A, s, _, _, _, _, ra, rb, _, hb, hu => by
    cases ra with
    | str _ t =>
      cases rb with
      | none => exact EqAt.str_none x t
      | bool q1 => exact EqAt.str_bool x t q1
      | int q1 q2 => exact EqAt.str_int x t q1 q2
      | str q1 q2 => exact EqAt.str_str x t q1 q2
      | list k1 k2 k3 k4 => exact EqAt.str_list x t ⟨_, k1, k2, _, k3⟩ (minl hu)
      | tuple k1 k2 k3 k4 => exact EqAt.str_tuple x t ⟨_, k1, k2, _, k3⟩ (minl hu)
      | dict => simp only [ndP] at hb; cases hb
  | .list xs, db, A, s, _, _, _, _, ra, rb, ha, hb, hu => by
    cases ra with
    | @list l o vs n _ as₁ h1 h2 h3 h4 =>
      have hl : s.heap.IsList l vs := ⟨_, h1, h2, _, h3⟩
      cases rb with
      | none => exact EqAt.list_none hl (minl hu)
      | bool y => exact EqAt.list_bool y hl (minl hu)
      | int y u => exact EqAt.list_int y u hl (minl hu)
      | str y u => exact EqAt.list_str y u hl (minl hu)
      | tuple k1 k2 k3 k4 => exact EqAt.list_tuple hl ⟨_, k1, k2, _, k3⟩ (minl hu)
      | dict => simp only [ndP] at hb; cases hb
      | @list l' o' vs' n' ys bs₁ k1 k2 k3 k4 =>
        have hl' : s.heap.IsList l' vs' := ⟨_, k1, k2, _, k3⟩
        have n1 : vs.size = xs.length := by simpa using SeqAt.ReadsAll.length _ _ _ h4
        have n2 : vs'.size = ys.length := by simpa using SeqAt.ReadsAll.length _ _ _ k4
        show EqAt A s (.ref l) (.ref l') (PyData.eqvAll xs ys)
        by_cases hll : l = l'
        · subst hll
          have e : PyData.list xs = PyData.list ys := nd_one (.list xs) (.list ys) _ _ _ ha (.list h1 h2 h3 h4) (.list k1 k2 k3 k4)
          injection e with e
          subst e
          rw [eqv_selfAll xs (by simpa only [ndP] using ha)]
          exact EqAt.same _
        · by_cases hsz : vs.size = vs'.size
          · rw [← eqvAll_same_length (by omega : xs.length = ys.length), ← n1]
            refine EqAt.of_refs hll (RcAt.lists hl hl' hsz (minl hu) fun j j1 j2 => ?_)
            have := eqAtNAll xs ys A.in1 s vs.toList vs'.toList _ _ h4 k4 (by simpa only [ndP] using ha) (by simpa only [ndP] using hb) (room_in hu) j (by simpa using j1) (by simpa using j2)
            simpa using this
          · rw [eqvAll_other_length (by omega : xs.length ≠ ys.length)]
            exact EqAt.of_refs hll (RcAt.lists_lengths hl hl' (by simpa using hsz) (minl hu))
  | .tuple xs, db, A, s, _, _, _, _, ra, rb, ha, hb, hu => by
    cases ra with
    | @tuple l o vs n _ as₁ h1 h2 h3 h4 =>
      have hl : s.heap.IsTuple l vs := ⟨_, h1, h2, _, h3⟩
      cases rb with
      | none => exact EqAt.tuple_none hl (minl hu)
      | bool y => exact EqAt.tuple_bool y hl (minl hu)
      | int y u => exact EqAt.tuple_int y u hl (minl hu)
      | str y u => exact EqAt.tuple_str y u hl (minl hu)
      | list k1 k2 k3 k4 => exact EqAt.tuple_list hl ⟨_, k1, k2, _, k3⟩ (minl hu)
      | dict => simp only [ndP] at hb; cases hb
      | @tuple l' o' vs' n' ys bs₁ k1 k2 k3 k4 =>
        have hl' : s.heap.IsTuple l' vs' := ⟨_, k1, k2, _, k3⟩
        have n1 : vs.size = xs.length := by simpa using SeqAt.ReadsAll.length _ _ _ h4
        have n2 : vs'.size = ys.length := by simpa using SeqAt.ReadsAll.length _ _ _ k4
        show EqAt A s (.ref l) (.ref l') (PyData.eqvAll xs ys)
        by_cases hll : l = l'
        · subst hll
          have e : PyData.tuple xs = PyData.tuple ys := nd_one (.tuple xs) (.tuple ys) _ _ _ ha (.tuple h1 h2 h3 h4) (.tuple k1 k2 k3 k4)
          injection e with e
          subst e
          rw [eqv_selfAll xs (by simpa only [ndP] using ha)]
          exact EqAt.same _
        · rw [← eqvAll_eq xs ys, ← n1, ← n2]
          refine EqAt.of_refs hll (RcAt.tuples hl hl' (minl hu) fun j j1 j2 => ?_)
          have := eqAtNAll xs ys A.in1 s vs.toList vs'.toList _ _ h4 k4 (by simpa only [ndP] using ha) (by simpa only [ndP] using hb) (room_in hu) j (by simpa using j1) (by simpa using j2)
          simpa using this
  | .dict _, _, _, _, _, _, _, _, _, _, ha, _, _ => by simp only [ndP] at ha; cases ha
theorem eqAtNAll : ∀ (xs ys : List PyData) (A : Around) (s : Shared) (vs ws : List Value) (as bs : List Addr), ReadsAll s.heap vs xs as → ReadsAll s.heap ws ys bs → ndP.ndAll xs = true → ndP.ndAll ys = true →
    A.units + min (PyData.depthAll xs) (PyData.depthAll ys) < cLine → ∀ j (h1 : j < vs.length) (h2 : j < ws.length), EqAt A s vs[j] ws[j] (pairEq xs ys j)
  | [], _, _, _, _, _, _, _, ra, _, _, _, _, j, h1, _ => by cases ra; exact absurd h1 (Nat.not_lt_zero _)
  | _ :: _, [], _, _, _, _, _, _, _, rb, _, _, _, j, _, h2 => by cases rb; exact absurd h2 (Nat.not_lt_zero _)
  | x :: xs, y :: ys, A, s, _, _, _, _, ra, rb, ha, hb, hu, j, h1, h2 => by
    simp only [ndP.ndAll, Bool.and_eq_true] at ha hb
    cases ra with
    | cons r rs =>
      cases rb with
      | cons r' rs' =>
        cases j with
        | zero => exact eqAtN x y A s _ _ _ _ r r' ha.1 hb.1 (room_head hu)
        | succ j => exact eqAtNAll xs ys A s _ _ _ _ rs rs' ha.2 hb.2 (room_tail hu) j (Nat.lt_of_succ_lt_succ h1) (Nat.lt_of_succ_lt_succ h2)
end
theorem rcAtN {da db : PyData} {A : Around} {s : Shared} {a b : Value} {as bs : List Addr} (ra : Reads s.heap a da as) (rb : Reads s.heap b db bs) (ha : ndP da = true) (hb : ndP db = true) (hu : A.units + min da.depth db.depth < cLine) :
    RcAt A s a b (PyData.eqv da db) := by
  have hh := minl hu
  cases ra with
  | list h1 h2 h3 h4 =>
    have hl := (⟨_, h1, h2, _, h3⟩ : s.heap.IsList _ _)
    cases rb with
    | none => exact RcAt.list_none hl hh
    | bool y => exact RcAt.list_bool y hl hh
    | int y u => exact RcAt.list_int y u hl hh
    | str y u => exact RcAt.list_str y u hl hh
    | tuple k1 k2 k3 k4 => exact RcAt.list_tuple hl ⟨_, k1, k2, _, k3⟩ hh
    | dict => simp only [ndP] at hb; cases hb
    | list k1 k2 k3 k4 =>
      rename_i xs _ _ _ _ _ ys _
      have hl' := (⟨_, k1, k2, _, k3⟩ : s.heap.IsList _ _)
      have n1 := SeqAt.ReadsAll.length _ _ _ h4
      have n2 := SeqAt.ReadsAll.length _ _ _ k4
      rw [Array.length_toList] at n1 n2
      show RcAt A s _ _ (PyData.eqvAll _ _)
      by_cases hsz : xs.length = ys.length
      · rw [← eqvAll_same_length hsz, ← n1]
        refine RcAt.lists hl hl' (by omega) hh fun j j1 j2 => ?_
        have := eqAtNAll _ _ A.in1 s _ _ _ _ h4 k4 (by simpa only [ndP] using ha) (by simpa only [ndP] using hb) (room_in hu) j (by simpa using j1) (by simpa using j2)
        simpa using this
      · rw [eqvAll_other_length hsz]
        exact RcAt.lists_lengths hl hl' (by simp; omega) hh
  | tuple h1 h2 h3 h4 =>
    have hl := (⟨_, h1, h2, _, h3⟩ : s.heap.IsTuple _ _)
    cases rb with
    | none => exact RcAt.tuple_none hl hh
    | bool y => exact RcAt.tuple_bool y hl hh
    | int y u => exact RcAt.tuple_int y u hl hh
    | str y u => exact RcAt.tuple_str y u hl hh
    | list k1 k2 k3 k4 => exact RcAt.tuple_list hl ⟨_, k1, k2, _, k3⟩ hh
    | dict => simp only [ndP] at hb; cases hb
    | tuple k1 k2 k3 k4 =>
      have hl' := (⟨_, k1, k2, _, k3⟩ : s.heap.IsTuple _ _)
      have n1 := SeqAt.ReadsAll.length _ _ _ h4
      have n2 := SeqAt.ReadsAll.length _ _ _ k4
      rw [Array.length_toList] at n1 n2
      show RcAt A s _ _ (PyData.eqvAll _ _)
      rw [← eqvAll_eq, ← n1, ← n2]
      refine RcAt.tuples hl hl' hh fun j j1 j2 => ?_
      have := eqAtNAll _ _ A.in1 s _ _ _ _ h4 k4 (by simpa only [ndP] using ha) (by simpa only [ndP] using hb) (room_in hu) j (by simpa using j1) (by simpa using j2)
      simpa using this
  | none =>
    cases rb with
    | none => exact RcAt.none_none
    | bool q1 => exact RcAt.none_bool q1
    | int q1 q2 => exact RcAt.none_int q1 q2
    | str q1 q2 => exact RcAt.none_str q1 q2
    | list k1 k2 k3 k4 => exact RcAt.none_list ⟨_, k1, k2, _, k3⟩ hh
    | tuple k1 k2 k3 k4 => exact RcAt.none_tuple ⟨_, k1, k2, _, k3⟩ hh
    | dict => simp only [ndP] at hb; cases hb
  | bool x =>
    cases rb with
    | none => exact RcAt.bool_none x
    | bool q1 => exact RcAt.bool_bool x q1
    | int q1 q2 => exact RcAt.bool_int x q1 q2
    | str q1 q2 => exact RcAt.bool_str x q1 q2
    | list k1 k2 k3 k4 => exact RcAt.bool_list x ⟨_, k1, k2, _, k3⟩ hh
    | tuple k1 k2 k3 k4 => exact RcAt.bool_tuple x ⟨_, k1, k2, _, k3⟩ hh
    | dict => simp only [ndP] at hb; cases hb
  | int x t =>
    cases rb with
    | none => exact RcAt.int_none x t
    | bool q1 => exact RcAt.int_bool x t q1
    | int q1 q2 => exact RcAt.int_int x t q1 q2
    | str q1 q2 => exact RcAt.int_str x t q1 q2
    | list k1 k2 k3 k4 => exact RcAt.int_list x t ⟨_, k1, k2, _, k3⟩ hh
    | tuple k1 k2 k3 k4 => exact RcAt.int_tuple x t ⟨_, k1, k2, _, k3⟩ hh
    | dict => simp only [ndP] at hb; cases hb
  | str x t =>
    cases rb with
    | none => exact RcAt.str_none x t
    | bool q1 => exact RcAt.str_bool x t q1
    | int q1 q2 => exact RcAt.str_int x t q1 q2
    | str q1 q2 => exact RcAt.str_str x t q1 q2
    | list k1 k2 k3 k4 => exact RcAt.str_list x t ⟨_, k1, k2, _, k3⟩ hh
    | tuple k1 k2 k3 k4 => exact RcAt.str_tuple x t ⟨_, k1, k2, _, k3⟩ hh
    | dict => simp only [ndP] at hb; cases hb
  | dict => simp only [ndP] at ha; cases ha
theorem rcNeAtN {da db : PyData} {A : Around} {s : Shared} {a b : Value} {as bs : List Addr} (ra : Reads s.heap a da as) (rb : Reads s.heap b db bs) (ha : ndP da = true) (hb : ndP db = true) (hu : A.units + min da.depth db.depth < cLine) :
    RcNeAt A s a b (!PyData.eqv da db) := by
  have hh := minl hu
  cases ra with
  | list h1 h2 h3 h4 =>
    have hl := (⟨_, h1, h2, _, h3⟩ : s.heap.IsList _ _)
    cases rb with
    | none => exact RcNeAt.list_none hl hh
    | bool y => exact RcNeAt.list_bool y hl hh
    | int y u => exact RcNeAt.list_int y u hl hh
    | str y u => exact RcNeAt.list_str y u hl hh
    | tuple k1 k2 k3 k4 => exact RcNeAt.list_tuple hl ⟨_, k1, k2, _, k3⟩ hh
    | dict => simp only [ndP] at hb; cases hb
    | list k1 k2 k3 k4 =>
      rename_i xs _ _ _ _ _ ys _
      have hl' := (⟨_, k1, k2, _, k3⟩ : s.heap.IsList _ _)
      have n1 := SeqAt.ReadsAll.length _ _ _ h4
      have n2 := SeqAt.ReadsAll.length _ _ _ k4
      rw [Array.length_toList] at n1 n2
      show RcNeAt A s _ _ (!PyData.eqvAll _ _)
      by_cases hsz : xs.length = ys.length
      · rw [← eqvAll_same_length hsz, ← n1]
        refine RcNeAt.lists hl hl' (by omega) hh fun j j1 j2 => ?_
        have := eqAtNAll _ _ A.in1 s _ _ _ _ h4 k4 (by simpa only [ndP] using ha) (by simpa only [ndP] using hb) (room_in hu) j (by simpa using j1) (by simpa using j2)
        simpa using this
      · rw [eqvAll_other_length hsz]
        exact RcNeAt.lists_lengths hl hl' (by simp; omega) hh
  | tuple h1 h2 h3 h4 =>
    have hl := (⟨_, h1, h2, _, h3⟩ : s.heap.IsTuple _ _)
    cases rb with
    | none => exact RcNeAt.tuple_none hl hh
    | bool y => exact RcNeAt.tuple_bool y hl hh
    | int y u => exact RcNeAt.tuple_int y u hl hh
    | str y u => exact RcNeAt.tuple_str y u hl hh
    | list k1 k2 k3 k4 => exact RcNeAt.tuple_list hl ⟨_, k1, k2, _, k3⟩ hh
    | dict => simp only [ndP] at hb; cases hb
    | tuple k1 k2 k3 k4 =>
      have hl' := (⟨_, k1, k2, _, k3⟩ : s.heap.IsTuple _ _)
      have n1 := SeqAt.ReadsAll.length _ _ _ h4
      have n2 := SeqAt.ReadsAll.length _ _ _ k4
      rw [Array.length_toList] at n1 n2
      show RcNeAt A s _ _ (!PyData.eqvAll _ _)
      rw [← eqvAll_eq, ← n1, ← n2]
      refine RcNeAt.tuples hl hl' hh fun j j1 j2 => ?_
      have := eqAtNAll _ _ A.in1 s _ _ _ _ h4 k4 (by simpa only [ndP] using ha) (by simpa only [ndP] using hb) (room_in hu) j (by simpa using j1) (by simpa using j2)
      simpa using this
  | none =>
    cases rb with
    | none => exact RcNeAt.none_none
    | bool q1 => exact RcNeAt.none_bool q1
    | int q1 q2 => exact RcNeAt.none_int q1 q2
    | str q1 q2 => exact RcNeAt.none_str q1 q2
    | list k1 k2 k3 k4 => exact RcNeAt.none_list ⟨_, k1, k2, _, k3⟩ hh
    | tuple k1 k2 k3 k4 => exact RcNeAt.none_tuple ⟨_, k1, k2, _, k3⟩ hh
    | dict => simp only [ndP] at hb; cases hb
  | bool x =>
    cases rb with
    | none => exact RcNeAt.bool_none x
    | bool q1 => exact RcNeAt.bool_bool x q1
    | int q1 q2 => exact RcNeAt.bool_int x q1 q2
    | str q1 q2 => exact RcNeAt.bool_str x q1 q2
    | list k1 k2 k3 k4 => exact RcNeAt.bool_list x ⟨_, k1, k2, _, k3⟩ hh
    | tuple k1 k2 k3 k4 => exact RcNeAt.bool_tuple x ⟨_, k1, k2, _, k3⟩ hh
    | dict => simp only [ndP] at hb; cases hb
  | int x t =>
    cases rb with
    | none => exact RcNeAt.int_none x t
    | bool q1 => exact RcNeAt.int_bool x t q1
    | int q1 q2 => exact RcNeAt.int_int x t q1 q2
    | str q1 q2 => exact RcNeAt.int_str x t q1 q2
    | list k1 k2 k3 k4 => exact RcNeAt.int_list x t ⟨_, k1, k2, _, k3⟩ hh
    | tuple k1 k2 k3 k4 => exact RcNeAt.int_tuple x t ⟨_, k1, k2, _, k3⟩ hh
    | dict => simp only [ndP] at hb; cases hb
  | str x t =>
    cases rb with
    | none => exact RcNeAt.str_none x t
    | bool q1 => exact RcNeAt.str_bool x t q1
    | int q1 q2 => exact RcNeAt.str_int x t q1 q2
    | str q1 q2 => exact RcNeAt.str_str x t q1 q2
    | list k1 k2 k3 k4 => exact RcNeAt.str_list x t ⟨_, k1, k2, _, k3⟩ hh
    | tuple k1 k2 k3 k4 => exact RcNeAt.str_tuple x t ⟨_, k1, k2, _, k3⟩ hh
    | dict => simp only [ndP] at hb; cases hb
  | dict => simp only [ndP] at ha; cases ha
end Fw

set_option maxRecDepth 100000
set_option maxHeartbeats 4000000
/-! Fw, tenth part: the operations. -/
namespace Fw
open PySem PySem.Spec PyProof.Rows L2

/-! ### equality -/
def mapO {α β : Type} (f : α → Option β) : List α → Option (List β)
  | [] => some []
  | x :: xs => match f x, mapO f xs with
    | some y, some ys => some (y :: ys)
    | _, _ => none
def toP (g : Gr) : Nat → D → Option PyData
  | _, .non => some .none
  | _, .bl b => some (.bool b)
  | _, .int i => some (.int i)
  | _, .str x => some (.str x)
  | k + 1, .lst ds => (mapO (toP g k) ds).map .list
  | k + 1, .tup ds => (mapO (toP g k) ds).map .tuple
  | k + 1, .obj l => (match g[l]? with
    | some (.lst ds) => (mapO (toP g k) ds).map .list
    | _ => none)
  | _, _ => none
theorem depthAll_le {k : Nat} : ∀ {ps : List PyData}, (∀ p ∈ ps, PyData.depth p ≤ k) → PyData.depthAll ps ≤ k
  | [], _ => by simp [PyData.depthAll]
  | p :: ps, h => by
    have h1 := h p List.mem_cons_self
    have h2 := depthAll_le (k := k) (ps := ps) fun q hq => h q (List.mem_cons_of_mem _ hq)
    simp only [PyData.depthAll]; omega
theorem ndAll_of : ∀ {ps : List PyData}, (∀ p ∈ ps, ndP p = true) → ndP.ndAll ps = true
  | [], _ => by simp only [ndP.ndAll]
  | p :: ps, h => by
    simp only [ndP.ndAll, Bool.and_eq_true]
    exact ⟨h p List.mem_cons_self, ndAll_of fun q hq => h q (List.mem_cons_of_mem _ hq)⟩
theorem toP_all {K : PySem.W.Frag} {w : Wd} {H : Hp} {k : Nat} {f : D → Option PyData} (h1 : ∀ v d p, Rep K w v d → f d = some p → Dp K H v p ∧ ndP p = true ∧ p.depth ≤ k) :
    ∀ {ds : List D} {xs : List V} {ps : List PyData}, RepL K w xs ds → mapO f ds = some ps → DpAll K H xs ps ∧ (∀ p ∈ ps, ndP p = true) ∧ ∀ p ∈ ps, p.depth ≤ k
  | [], xs, ps, r, e => by
    simp only [RepL] at r
    simp only [mapO, Option.some.injEq] at e
    subst r e
    exact ⟨.nil, by simp, by simp⟩
  | d :: ds, xs, ps, r, e => by
    simp only [RepL] at r
    obtain ⟨x, t, rfl, r1, r2⟩ := r
    simp only [mapO] at e
    split at e
    · rename_i y ys e1 e2
      cases e
      obtain ⟨a1, a2, a3⟩ := h1 x d y r1 e1
      obtain ⟨b1, b2, b3⟩ := toP_all h1 r2 e2
      exact ⟨.cons a1 b1, by simpa using ⟨a2, b2⟩, by simpa using ⟨a3, b3⟩⟩
    · cases e
theorem toP_ok {K : PySem.W.Frag} {w : Wd} {g : Gr} {H : Hp} (S0 : SG K w g H) : ∀ (k : Nat) (v : V) (d : D) (p : PyData), Rep K w v d → toP g k d = some p → Dp K H v p ∧ ndP p = true ∧ p.depth ≤ k := by
  have flat : ∀ (k : Nat) (v : V) (d : D) (p : PyData), Rep K w v d → (d = .non ∧ p = .none) ∨ (∃ b, d = .bl b ∧ p = .bool b) ∨ (∃ i, d = .int i ∧ p = .int i) ∨ (∃ x, d = .str x ∧ p = .str x) → Dp K H v p ∧ ndP p = true ∧ p.depth ≤ k := by
    intro k v d p r h
    rcases h with ⟨rfl, rfl⟩ | ⟨b, rfl, rfl⟩ | ⟨i, rfl, rfl⟩ | ⟨x, rfl, rfl⟩
    · simp only [Rep] at r; subst r; exact ⟨.non, rfl, by simp [PyData.depth]⟩
    · simp only [Rep] at r; subst r; exact ⟨.bl b, rfl, by simp [PyData.depth]⟩
    · simp only [Rep] at r; subst r; exact ⟨.int i, rfl, by simp [PyData.depth]⟩
    · simp only [Rep] at r; subst r; exact ⟨.str x, rfl, by simp [PyData.depth]⟩
  intro k
  induction k with
  | zero =>
    intro v d p r e
    cases d with
    | non => simp only [toP, Option.some.injEq] at e; exact flat 0 v _ p r (.inl ⟨rfl, e.symm⟩)
    | bl b => simp only [toP, Option.some.injEq] at e; exact flat 0 v _ p r (.inr (.inl ⟨b, rfl, e.symm⟩))
    | int i => simp only [toP, Option.some.injEq] at e; exact flat 0 v _ p r (.inr (.inr (.inl ⟨i, rfl, e.symm⟩)))
    | str x => simp only [toP, Option.some.injEq] at e; exact flat 0 v _ p r (.inr (.inr (.inr ⟨x, rfl, e.symm⟩)))
    | lst ds => simp only [toP] at e; cases e
    | tup ds => simp only [toP] at e; cases e
    | obj l => simp only [toP] at e; cases e
    | err c => simp only [toP] at e; cases e
  | succ k ih =>
    intro v d p r e
    cases d with
    | non => simp only [toP, Option.some.injEq] at e; exact flat _ v _ p r (.inl ⟨rfl, e.symm⟩)
    | bl b => simp only [toP, Option.some.injEq] at e; exact flat _ v _ p r (.inr (.inl ⟨b, rfl, e.symm⟩))
    | int i => simp only [toP, Option.some.injEq] at e; exact flat _ v _ p r (.inr (.inr (.inl ⟨i, rfl, e.symm⟩)))
    | str x => simp only [toP, Option.some.injEq] at e; exact flat _ v _ p r (.inr (.inr (.inr ⟨x, rfl, e.symm⟩)))
    | lst ds =>
      simp only [toP, Option.map_eq_some_iff] at e
      obtain ⟨ps, e1, rfl⟩ := e
      simp only [Rep] at r
      obtain ⟨a, xs, rfl, h1, h2⟩ := r
      obtain ⟨b1, b2, b3⟩ := toP_all ih h2 e1
      exact ⟨.lst (.inl (S0.ex.rd h1)) b1, by simp only [ndP]; exact ndAll_of b2, by simp only [PyData.depth]; have := depthAll_le b3; omega⟩
    | tup ds =>
      simp only [toP, Option.map_eq_some_iff] at e
      obtain ⟨ps, e1, rfl⟩ := e
      simp only [Rep] at r
      obtain ⟨a, xs, rfl, h1, h2⟩ := r
      obtain ⟨b1, b2, b3⟩ := toP_all ih h2 e1
      exact ⟨.tup (S0.ex.sqT h1) b1, by simp only [ndP]; exact ndAll_of b2, by simp only [PyData.depth]; have := depthAll_le b3; omega⟩
    | obj l =>
      simp only [toP] at e
      split at e
      · rename_i ds hl
        simp only [Option.map_eq_some_iff] at e
        obtain ⟨ps, e1, rfl⟩ := e
        simp only [Rep] at r
        obtain ⟨_, rfl⟩ := r
        obtain ⟨_, xs, h1, h2⟩ := S0.cell l _ hl
        obtain ⟨b1, b2, b3⟩ := toP_all ih h2 e1
        exact ⟨.lst (.inl (.inl h1)) b1, by simp only [ndP]; exact ndAll_of b2, by simp only [PyData.depth]; have := depthAll_le b3; omega⟩
      · cases e
    | err c => simp only [toP] at e; cases e
def opEq (d e : D) (g : Gr) : R := match toP g 8 d, toP g 8 e with
  | some a, some b => .ok (.bl (PyData.eqv a b)) g
  | _, _ => .no
def opNe (d e : D) (g : Gr) : R := match toP g 8 d, toP g 8 e with
  | some a, some b => .ok (.bl (!PyData.eqv a b)) g
  | _, _ => .no
def rEqN (K : PySem.W.Frag) : R2 := fun x y H Q => ∃ d e, Dp K H x d ∧ Dp K H y e ∧ ndP d = true ∧ ndP e = true ∧ d.depth ≤ 64 ∧ Q (.bl (PyData.eqv d e)) H
def rNeN (K : PySem.W.Frag) : R2 := fun x y H Q => ∃ d e, Dp K H x d ∧ Dp K H y e ∧ ndP d = true ∧ ndP e = true ∧ d.depth ≤ 64 ∧ Q (.bl (!PyData.eqv d e)) H
section
variable {X : Cx} {K : PySem.W.Frag}
theorem op_eqN (hu : X.A.units + 64 < cLine) : OpR X (compareOp .Eq) (rEqN X.K) := by
  intro pins s σ H x y v u Q I rx ry h
  obtain ⟨d, e, hd, he, nd, ne, dd, q⟩ := h
  obtain ⟨as, r1⟩ := Dp.reads I d x v hd rx
  obtain ⟨bs, r2⟩ := Dp.reads I e y u he ry
  exact rcAtN r1 r2 nd ne (by have : min d.depth e.depth ≤ d.depth := Nat.min_le_left _ _; omega) _ _ _ _ ⟨.bl _, H, I, rfl, q⟩
theorem op_neN (hu : X.A.units + 64 < cLine) : OpR X (compareOp .NotEq) (rNeN X.K) := by
  intro pins s σ H x y v u Q I rx ry h
  obtain ⟨d, e, hd, he, nd, ne, dd, q⟩ := h
  obtain ⟨as, r1⟩ := Dp.reads I d x v hd rx
  obtain ⟨bs, r2⟩ := Dp.reads I e y u he ry
  exact rcNeAtN r1 r2 nd ne (by have : min d.depth e.depth ≤ d.depth := Nat.min_le_left _ _; omega) _ _ _ _ ⟨.bl _, H, I, rfl, q⟩
theorem s_eq : OpS X (rEqN X.K) opEq := by
  intro w g H x y d e Q E S0 rx ry o
  unfold opEq at o
  split at o
  · rename_i a b h1 h2
    obtain ⟨a1, a2, a3⟩ := toP_ok S0 _ _ _ _ rx h1
    obtain ⟨b1, b2, b3⟩ := toP_ok S0 _ _ _ _ ry h2
    exact ⟨a, b, a1, b1, a2, b2, by omega, Out.here o S0 rep_bl'⟩
  · exact o.elim
theorem s_ne : OpS X (rNeN X.K) opNe := by
  intro w g H x y d e Q E S0 rx ry o
  unfold opNe at o
  split at o
  · rename_i a b h1 h2
    obtain ⟨a1, a2, a3⟩ := toP_ok S0 _ _ _ _ rx h1
    obtain ⟨b1, b2, b3⟩ := toP_ok S0 _ _ _ _ ry h2
    exact ⟨a, b, a1, b1, a2, b2, by omega, Out.here o S0 rep_bl'⟩
  · exact o.elim

/-! ### numbers -/
theorem rep_int' {w : Wd} {i : Int} : Rep K w (.int i) (.int i) := by simp only [Rep]
theorem rep_str' {w : Wd} {x : Str} : Rep K w (.str x) (.str x) := by simp only [Rep]
theorem rep_non' {w : Wd} : Rep K w .non .non := by simp only [Rep]
theorem rep_int {w : Wd} {v : V} {i : Int} (h : Rep K w v (.int i)) : v = .int i := by simpa only [Rep] using h
theorem rep_str {w : Wd} {v : V} {x : Str} (h : Rep K w v (.str x)) : v = .str x := by simpa only [Rep] using h
theorem rep_blv {w : Wd} {v : V} {b : Bool} (h : Rep K w v (.bl b)) : v = .bl b := by simpa only [Rep] using h
theorem rep_non {w : Wd} {v : V} (h : Rep K w v .non) : v = .non := by simpa only [Rep] using h
/-- two ints -/
def opI (f : Int → Int → D) (d e : D) (g : Gr) : R := match d, e with
  | .int i, .int j => .ok (f i j) g
  | _, _ => .no
def opIc (c : Int → Int → Prop) [∀ i j, Decidable (c i j)] (f : Int → Int → D) (d e : D) (g : Gr) : R := match d, e with
  | .int i, .int j => if c i j then .ok (f i j) g else .no
  | _, _ => .no
theorem s_I {f : Int → Int → D} {h : Int → Int → V} (hf : ∀ i j, (f i j).v = some (h i j)) : OpS X (rI0 h) (opI f) := by
  intro w g H x y d e Q E S0 rx ry o
  unfold opI at o
  split at o
  · rename_i i j
    exact ⟨i, j, rep_int rx, rep_int ry, Out.here o S0 (rep_v (hf i j))⟩
  · exact o.elim
theorem s_Ic {c : Int → Int → Prop} [∀ i j, Decidable (c i j)] {C : Int → Int → Prop} {f : Int → Int → D} {h : Int → Int → V} (hc : ∀ i j, c i j → C i j) (hf : ∀ i j, (f i j).v = some (h i j)) : OpS X (rI C h) (opIc c f) := by
  intro w g H x y d e Q E S0 rx ry o
  unfold opIc at o
  split at o
  · rename_i i j
    split at o
    · rename_i hh
      exact ⟨i, j, rep_int rx, rep_int ry, hc i j hh, Out.here o S0 (rep_v (hf i j))⟩
    · exact o.elim
  · exact o.elim
def opSub : D → D → Gr → R := opI fun i j => .int (i - j)
def opMod : D → D → Gr → R := opIc (fun _ j => j ≠ 0) fun i j => .int (i.fmod j)
def opDiv : D → D → Gr → R := opIc (fun _ j => j ≠ 0 ∧ j.natAbs < 1073741824) fun i j => .int (i.fdiv j)
def opPow : D → D → Gr → R := opIc (fun i j => 0 ≤ j ∧ j ≤ 1000000 ∧ i.natAbs < 18446744073709551616) fun i j => .int (i ^ j.toNat)
def opLt : D → D → Gr → R := opI fun i j => .bl (decide (i < j))
def opLe : D → D → Gr → R := opI fun i j => .bl (decide (i ≤ j))
def opGt : D → D → Gr → R := opI fun i j => .bl (decide (j < i))
def opGe : D → D → Gr → R := opI fun i j => .bl (decide (j ≤ i))
theorem s_sub : OpS X (rI0 fun i j => .int (i - j)) opSub := s_I fun _ _ => rfl
theorem s_mod : OpS X (rI (fun _ j => j ≠ 0) fun i j => .int (i.fmod j)) opMod := s_Ic (fun _ _ h => h) fun _ _ => rfl
theorem s_div : OpS X (rI CDivN fun i j => .int (i.fdiv j)) opDiv := s_Ic (fun _ _ h => h) fun _ _ => rfl
theorem s_pow : OpS X (rI CPow fun i j => .int (i ^ j.toNat)) opPow := s_Ic (fun _ _ h => ⟨h.1, h.2.1, by omega⟩) fun _ _ => rfl
theorem s_lt : OpS X (rI0 fun i j => .bl (decide (i < j))) opLt := s_I fun _ _ => rfl
theorem s_le : OpS X (rI0 fun i j => .bl (decide (i ≤ j))) opLe := s_I fun _ _ => rfl
theorem s_gt : OpS X (rI0 fun i j => .bl (decide (j < i))) opGt := s_I fun _ _ => rfl
theorem s_ge : OpS X (rI0 fun i j => .bl (decide (j ≤ i))) opGe := s_I fun _ _ => rfl
theorem OpS.or {r r' : R2} {m : D → D → Gr → R} (h : ∀ (w : Wd) (g : Gr) (H : Hp) (x y : V) (d e : D) (Q : VK) (E : XK), SG X.K w g H → Rep X.K w x d → Rep X.K w y e → Out X.K w (m d e g) Q E → r x y H Q ∨ r' x y H Q) : OpS X (fun x y H Q => r x y H Q ∨ r' x y H Q) m := h

/-! ### + of numbers, texts, lists, tuples -/
/-- lists that are read (frozen ones too) -/
theorem Rd.lstM {pins : List (Addr × Obj)} {σ : L2.St} {H : Hp} {s : Shared} {p : Addr} {xs : List V} (h : Rd H p (.lst xs)) (I : Inv X pins σ H s) :
    xs.length ≤ sizeLine ∧ ∃ (its : List Value) (n : Nat), Vals xs its ∧ xs.length = its.length ∧ s.heap.get? p = some { cls := .type "list", data := .seq its.toArray n } := by
  obtain ⟨z, its, n, r, e⟩ := h.ok I.hok
  exact ⟨z, its, n, r, r.length, e⟩
def rCatR : R2 := fun x y H Q => ∃ l b xs zs, x = .ref l ∧ y = .ref b ∧ Rd H l (.lst xs) ∧ Rd H b (.lst zs) ∧ xs.length + zs.length ≤ sizeLine ∧ ∀ p, H p = none → Q (.ref p) (upd H p (.lst (xs ++ zs)))
theorem op_catR : OpR X (binaryOp .Add) rCatR := by
  intro pins s σ H x y v u Q I rx ry h
  obtain ⟨l, b, xs, zs, rfl, rfl, hH, hB, hz, q⟩ := h
  cases rx
  cases ry
  obtain ⟨z, its, n, r, hl, e⟩ := Rd.lstM hH I
  obtain ⟨z2, its2, n2, r2, hl2, e2⟩ := Rd.lstM hB I
  refine PySem.P.add_list e e2 ?_ (by rw [List.size_toArray, List.size_toArray]; omega)
  rw [show its.toArray ++ its2.toArray = (its ++ its2).toArray by simp]
  exact ⟨.ref _, _, I.lnew (t' := s.toks) (r.append r2) (by rw [List.length_append]; omega), rfl, q _ I.fresh⟩
def opAdd (d e : D) (g : Gr) : R := match d, e with
  | .int i, .int j => .ok (.int (i + j)) g
  | .str x, .str y => if x.length + y.length ≤ sizeLine then .ok (.str (x ++ y)) g else .no
  | .tup a, .tup b => if a ≠ [] ∧ a.length + b.length ≤ sizeLine then .ok (.tup (a ++ b)) g else .no
  | d, e => (match viewL g d, viewL g e with
    | some a, some b => if a.length + b.length ≤ sizeLine then .ok (.lst (a ++ b)) g else .no
    | _, _ => .no)
def rAddAll (K : PySem.W.Frag) : R2 := fun x y H Q => (rI0 (fun i j => .int (i + j)) x y H Q ∨ (∃ i j, x = .str i ∧ y = .str j ∧ i.length + j.length ≤ sizeLine ∧ Q (.str (i ++ j)) H)) ∨ (rCatT K x y H Q ∨ rCatR x y H Q)
theorem op_addAll : OpR X (binaryOp .Add) (rAddAll X.K) := (op_add.or op_add_str).or (op_catT.or op_catR)
theorem s_add : OpS X (rAddAll X.K) opAdd := by
  intro w g H x y d e Q E S0 rx ry o
  unfold opAdd at o
  split at o
  · exact .inl (.inl ⟨_, _, rep_int rx, rep_int ry, Out.here o S0 rep_int'⟩)
  · split at o
    · rename_i hz
      exact .inl (.inr ⟨_, _, rep_str rx, rep_str ry, hz, Out.here o S0 rep_str'⟩)
    · exact o.elim
  · rename_i a b
    split at o
    · rename_i hz
      simp only [Rep] at rx ry
      obtain ⟨p, xs, rfl, h1, h2⟩ := rx
      obtain ⟨q, ys, rfl, h3, h4⟩ := ry
      have n1 := h2.length
      have n2 := h4.length
      have l1 : 0 < a.length := List.length_pos_iff.mpr hz.1
      refine .inr (.inl ⟨p, q, xs, ys, rfl, rfl, S0.ex.sqT h1, S0.ex.sqT h3, List.length_pos_iff.mp (by omega), by omega, fun e => ?_, fun _ => Out.newT o S0 (RepL.app h4 h2)⟩)
      have eb : b = [] := by
        cases b with
        | nil => rfl
        | cons _ _ => rw [e] at n2; cases n2
      subst eb
      rw [List.append_nil] at o
      exact Out.here o S0 (by simp only [Rep]; exact ⟨p, xs, rfl, h1, h2⟩)
    · exact o.elim
  · split at o
    · rename_i a b h1 h2
      split at o
      · obtain ⟨p, xs, rfl, h3, h4⟩ := viewL_ok S0 rx h1
        obtain ⟨q, ys, rfl, h5, h6⟩ := viewL_ok S0 ry h2
        exact .inr (.inr ⟨p, q, xs, ys, rfl, rfl, h3, h5, by rw [h4.length, h6.length]; assumption, Out.newL o S0 (RepL.app h6 h4)⟩)
      · exact o.elim
    · exact o.elim
end
end Fw

set_option maxRecDepth 100000
set_option maxHeartbeats 4000000
/-! Fw, eleventh part: more operations, builtins, what is walked. -/
namespace Fw
open PySem PySem.Spec PyProof.Rows L2
section
variable {X : Cx} {K : PySem.W.Frag}
/-! ### * -/
def opMul (d e : D) (g : Gr) : R := match d, e with
  | .int i, .int j => if (-18446744073709551616 < i ∧ i < 18446744073709551616) ∨ (-18446744073709551616 < j ∧ j < 18446744073709551616) then .ok (.int (i * j)) g else .no
  | d, .int k => (match viewL g d with
    | some a => if -9223372036854775808 ≤ k ∧ k < 9223372036854775808 ∧ a.length * k.toNat ≤ sizeLine then .ok (.lst (List.replicate k.toNat a).flatten) g else .no
    | none => .no)
  | _, _ => .no
def rRepR : R2 := fun x y H Q => ∃ l k xs, x = .ref l ∧ y = .int k ∧ Rd H l (.lst xs) ∧ -(2 ^ 63) ≤ k ∧ k < 2 ^ 63 ∧ xs.length * k.toNat ≤ sizeLine ∧ ∀ p, H p = none → Q (.ref p) (upd H p (.lst (List.replicate k.toNat xs).flatten))
/-! ### is -/
def opIs (d e : D) (g : Gr) : R := match d, e with
  | .non, .non => .ok (.bl true) g
  | .bl a, .bl b => .ok (.bl (decide (a = b))) g
  | .int _, .non => .ok (.bl false) g
  | .str _, .non => .ok (.bl false) g
  | .bl _, .non => .ok (.bl false) g
  | .lst _, .non => .ok (.bl false) g
  | .tup _, .non => .ok (.bl false) g
  | .obj _, .non => .ok (.bl false) g
  | _, _ => .no
def isNon : D → Bool
  | .non => true
  | _ => false
def opIsN (d e : D) (g : Gr) : R := if isNon e = true then .ok (.bl (isNon d)) g else .no
def opNotN (d e : D) (g : Gr) : R := if isNon e = true then .ok (.bl (!isNon d)) g else .no
theorem rep_isNon {w : Wd} {v : V} {d : D} (r : Rep K w v d) : decide (v = .non) = isNon d := by
  cases d <;> simp only [Rep] at r <;> simp only [isNon]
  · simp [r]
  · simp [r]
  · simp [r]
  · simp [r]
  · obtain ⟨a, xs, rfl, _⟩ := r; simp
  · obtain ⟨a, xs, rfl, _⟩ := r; simp
  · obtain ⟨_, rfl⟩ := r; simp
  · simp [r]
theorem isNon_eq {e : D} (h : isNon e = true) : e = .non := by
  cases e with
  | non => rfl
  | _ => cases h
theorem s_isN : OpS X (fun x y H Q => y = .non ∧ Q (.bl (decide (x = .non))) H) opIsN := by
  intro w g H x y d e Q E S0 rx ry o
  unfold opIsN at o
  split at o
  · rename_i h
    rw [isNon_eq h] at ry
    refine ⟨rep_non ry, ?_⟩
    rw [rep_isNon rx]
    exact Out.here o S0 rep_bl'
  · exact o.elim
theorem s_notN : OpS X (fun x y H Q => y = .non ∧ Q (.bl (!decide (x = .non))) H) opNotN := by
  intro w g H x y d e Q E S0 rx ry o
  unfold opNotN at o
  split at o
  · rename_i h
    rw [isNon_eq h] at ry
    refine ⟨rep_non ry, ?_⟩
    rw [rep_isNon rx]
    exact Out.here o S0 rep_bl'
  · exact o.elim
/-! ### in -/
def D.fl : D → Bool
  | .non => true
  | .bl _ => true
  | .int _ => true
  | .str _ => true
  | _ => false
/-- == of flat data -/
def feq : D → D → Bool
  | .non, .non => true
  | .bl a, .bl b => a == b
  | .bl a, .int b => (if a then 1 else 0) == b
  | .int a, .bl b => a == (if b then 1 else 0)
  | .int a, .int b => a == b
  | .str a, .str b => a == b
  | _, _ => false
def inD (x : D) (xs : List D) : Bool := xs.any fun y => feq y x
theorem fl_v {w : Wd} {v : V} {d : D} (r : Rep K w v d) (h : d.fl = true) : flatV v = true := by
  cases d <;> simp only [Rep] at r <;> first | (subst r; rfl) | (cases h)
theorem fl_all {w : Wd} : ∀ {ds : List D} {vs : List V}, RepL K w vs ds → ds.all D.fl = true → vs.all flatV = true
  | [], vs, r, _ => by simp only [RepL] at r; subst r; rfl
  | d :: ds, vs, r, h => by
    simp only [RepL] at r
    obtain ⟨x, t, rfl, r1, r2⟩ := r
    simp only [List.all_cons, Bool.and_eq_true] at h ⊢
    exact ⟨fl_v r1 h.1, fl_all r2 h.2⟩
theorem feq_v {w : Wd} {u v : V} {d e : D} (r : Rep K w u d) (q : Rep K w v e) (h : d.fl = true) (h' : e.fl = true) : eqV u v = feq d e := by
  cases d <;> simp only [Rep] at r <;> first | (cases h; done) | (cases e <;> simp only [Rep] at q <;> first | (cases h'; done) | (subst r q; rfl))
theorem inD_v {w : Wd} {v : V} {d : D} (q : Rep K w v d) (h' : d.fl = true) : ∀ {ds : List D} {vs : List V}, RepL K w vs ds → ds.all D.fl = true → inV v vs = inD d ds
  | [], vs, r, _ => by simp only [RepL] at r; subst r; rfl
  | e :: ds, vs, r, h => by
    simp only [RepL] at r
    obtain ⟨x, t, rfl, r1, r2⟩ := r
    simp only [List.all_cons, Bool.and_eq_true] at h
    have ih := inD_v q h' r2 h.2
    unfold inV inD at ih ⊢
    rw [List.any_cons, List.any_cons, ih, feq_v r1 q h.1 h']
def viewA (g : Gr) (d : D) : Option (List D) := match viewT d with
  | some a => some a
  | none => viewL g d
theorem viewA_ok {w : Wd} {g : Gr} {H : Hp} {v : V} {d : D} {ds : List D} (S0 : SG K w g H) (r : Rep K w v d) (e : viewA g d = some ds) : ∃ a xs, v = .ref a ∧ (SqL K H a xs ∨ SqT K H a xs) ∧ RepL K w xs ds := by
  unfold viewA at e
  split at e
  · rename_i a h
    cases e
    obtain ⟨p, xs, h1, h2, h3⟩ := viewT_ok S0 r h
    exact ⟨p, xs, h1, .inr h2, h3⟩
  · obtain ⟨p, xs, h1, h2, h3⟩ := viewL_ok S0 r e
    exact ⟨p, xs, h1, .inl (.inl h2), h3⟩
/-- in: a list or tuple of flat things; a sign in a text -/
def opInB (neg : Bool) (d e : D) (g : Gr) : R := match d, e with
  | .str x, .str y => (match x.cps.toList with
    | [c] => .ok (.bl (if neg then !decide (c ∈ y.cps.toList) else decide (c ∈ y.cps.toList))) g
    | _ => .no)
  | d, e => (match viewA g e with
    | some ds => if d.fl = true ∧ ds.all D.fl = true then .ok (.bl (if neg then !inD d ds else inD d ds)) g else .no
    | none => .no)
def opIn := opInB false
def opNotIn := opInB true
theorem s_inB (neg : Bool) : OpS X (fun x y H Q => rIn X.K neg x y H Q ∨ (∃ (c : Nat) (z : Str), x = .str ⟨#[c]⟩ ∧ y = .str z ∧ Q (.bl (if neg then !decide (c ∈ z.cps.toList) else decide (c ∈ z.cps.toList))) H)) (opInB neg) := by
  intro w g H x y d e Q E S0 rx ry o
  unfold opInB at o
  split at o
  · rename_i a b
    split at o
    · rename_i c h
      have ea : a = ⟨#[c]⟩ := by
        cases a with
        | mk cps =>
          have : cps = [c].toArray := by rw [← h]
          rw [this]
      subst ea
      exact .inr ⟨c, b, rep_str rx, rep_str ry, Out.here o S0 rep_bl'⟩
    · exact o.elim
  · split at o
    · rename_i ds h
      split at o
      · rename_i hf
        obtain ⟨p, xs, rfl, h1, h2⟩ := viewA_ok S0 ry h
        refine .inl ⟨p, xs, rfl, h1, fl_v rx hf.1, fl_all h2 hf.2, ?_⟩
        rw [inD_v rx hf.1 h2 hf.2]
        exact Out.here o S0 rep_bl'
      · exact o.elim
    · exact o.elim
theorem op_inA : OpR X (compareOp .In) (fun x y H Q => rIn X.K false x y H Q ∨ (∃ (c : Nat) (z : Str), x = .str ⟨#[c]⟩ ∧ y = .str z ∧ Q (.bl (if false then !decide (c ∈ z.cps.toList) else decide (c ∈ z.cps.toList))) H)) := op_in_seq.or op_in_sign
theorem op_notInA : OpR X (compareOp .NotIn) (fun x y H Q => rIn X.K true x y H Q ∨ (∃ (c : Nat) (z : Str), x = .str ⟨#[c]⟩ ∧ y = .str z ∧ Q (.bl (if true then !decide (c ∈ z.cps.toList) else decide (c ∈ z.cps.toList))) H)) := op_notIn_seq.or op_notIn_sign

/-! ### subscripts -/
def opIx (d e : D) (g : Gr) : R := match e with
  | .int i => (match d with
    | .str z => if z.length ≤ sizeLine then (match atI z.cps.toList i with
      | some c => .ok (.str ⟨#[c]⟩) g
      | none => .no) else .no
    | d => (match viewA g d with
      | some ds => (match atI ds i with
        | some x => .ok x g
        | none => .no)
      | none => .no))
  | _ => .no
theorem repl_at {w : Wd} {ds : List D} {xs : List V} {i : Int} {d : D} (r : RepL K w xs ds) (h : atI ds i = some d) : ∃ v, atI xs i = some v ∧ Rep K w v d := by
  unfold atI at h ⊢
  rw [r.length]
  cases e : ixN ds.length i with
  | none => rw [e] at h; cases h
  | some j =>
    rw [e] at h
    exact r.get h
theorem s_ix : OpS X (rIx X.K) opIx := by
  intro w g H x y d e Q E S0 rx ry o
  unfold opIx at o
  split at o
  · rename_i i
    have ey := rep_int ry
    subst ey
    split at o
    · rename_i z
      split at o
      · rename_i hz
        split at o
        · rename_i c hc
          exact .inr (.inr ⟨z, i, c, rep_str rx, rfl, hz, hc, Out.here o S0 rep_str'⟩)
        · exact o.elim
      · exact o.elim
    · split at o
      · rename_i ds h
        split at o
        · rename_i a ha
          obtain ⟨p, xs, rfl, h1, h2⟩ := viewA_ok S0 rx h
          obtain ⟨v, h3, h4⟩ := repl_at h2 ha
          rcases h1 with h1 | h1
          · exact .inl ⟨p, xs, i, v, rfl, rfl, h1, h3, Out.here o S0 h4⟩
          · exact .inr (.inl ⟨p, xs, i, v, rfl, rfl, h1, h3, Out.here o S0 h4⟩)
        · exact o.elim
      · exact o.elim
  · exact o.elim
theorem xIx {W : WX} {a b : Expr} {ma mb : Exp} {pos : Pos} (ha : RE X W a ma) (hb : RE X W b mb) (hs : PlainIx b := by exact fun _ _ => rfl) : RE X W (.Subscript a b pos) (eBin opIx ma mb) :=
  pe_weak (pe_ix ix_seq ha hb hs) fun _ _ _ h => read_bin s_ix h
/-! ### slices -/
def cutD (xs : List D) (lo hi : Option Int) : List D := (xs.drop (HT.sIx xs.length 0 lo)).take (HT.sIx xs.length xs.length hi - HT.sIx xs.length 0 lo)
def cutOp (lo hi : Option Int) (d : D) (g : Gr) : R := match d with
  | .str z => if z.length ≤ sizeLine then .ok (.str (cutS z lo hi)) g else .no
  | d => (match viewL g d with
    | some ds => .ok (.lst (cutD ds lo hi)) g
    | none => .no)
def asI (d : D) (f : Int → R) : R := match d with
  | .int i => f i
  | _ => .no
def eSlLU (mo ml mh : Exp) : Exp := fun ρ g => (mo ρ g).bind fun d g1 => (ml ρ g1).bind fun l g2 => asI l fun i => (mh ρ g2).bind fun h g3 => asI h fun j => cutOp (some i) (some j) d g3
def eSlL (mo ml : Exp) : Exp := fun ρ g => (mo ρ g).bind fun d g1 => (ml ρ g1).bind fun l g2 => asI l fun i => cutOp (some i) none d g2
def eSlU (mo mh : Exp) : Exp := fun ρ g => (mo ρ g).bind fun d g1 => (mh ρ g1).bind fun h g2 => asI h fun j => cutOp none (some j) d g2
theorem repl_cut {w : Wd} {ds : List D} {xs : List V} (lo hi : Option Int) (r : RepL K w xs ds) : RepL K w (cutV xs lo hi) (cutD ds lo hi) := by
  unfold cutV cutD
  rw [r.length]
  exact RepL.take _ (RepL.drop _ r)
def rCut (K : PySem.W.Frag) : V → Option Int → Option Int → Hp → VK → Prop := fun x lo hi H Q => rSlS x lo hi H Q ∨ rSlL K x lo hi H Q
theorem sl_cut : SlR X (rCut X.K) := sl_str.or sl_list
theorem s_cut {w : Wd} {g : Gr} {H : Hp} {x : V} {d : D} {lo hi : Option Int} {Q : VK} {E : XK} (S0 : SG K w g H) (rx : Rep K w x d) (o : Out K w (cutOp lo hi d g) Q E) : rCut K x lo hi H Q := by
  unfold cutOp at o
  split at o
  · split at o
    · exact .inl ⟨_, rep_str rx, by assumption, Out.here o S0 rep_str'⟩
    · exact o.elim
  · split at o
    · rename_i ds h
      obtain ⟨p, xs, rfl, h1, h2⟩ := viewL_ok S0 rx h
      exact .inr ⟨p, xs, rfl, .inl h1, Out.newL o S0 (repl_cut lo hi h2)⟩
    · exact o.elim
theorem bindI {W : WX} {σ : L2.St} {H : Hp} {w : Wd} {ρ : En} {g : Gr} {m : Exp} {f : Int → Gr → R} {Q : VK} {Q1 : Option Int → Hp → Prop} (S0 : SG K w g H) (L : SL K w ρ σ) (o : Out K w ((m ρ g).bind fun d g1 => asI d fun i => f i g1) Q fun c d H' => W c d σ H')
    (k : ∀ i g' H' w', w.Le w' → SG K w' g' H' → SL K w' ρ σ → Out K w' (f i g') Q (fun c d H' => W c d σ H') → Q1 (some i) H') : tPart (tM K W m) σ H Q1 := by
  refine bindM S0 L o fun d g' v H' w' le S' L' r o' => ?_
  cases d with
  | int i => exact ⟨i, rep_int r, k i g' H' w' le S' L' o'⟩
  | _ => exact o'.elim
section
variable {W : WX} {e a b : Expr} {mo ml mh : Exp} {p2 pos : Pos}
theorem xSlLU (ho : RE X W e mo) (ha : RE X W a ml) (hb : RE X W b mh) : RE X W (.Subscript e (.Slice (some a) (some b) none p2) pos) (eSlLU mo ml mh) := by
  refine pe_weak (pe_slice sl_cut ho (po_some ha) (po_some hb)) ?_
  rintro σ H Q ⟨w, ρ, g, S0, L, o⟩
  refine bindM S0 L o fun d g1 x H1 w1 le1 S1 L1 rx o1 => ?_
  refine bindI S1 L1 o1 fun i g2 H2 w2 le2 S2 L2' o2 => ?_
  refine bindI S2 L2' o2 fun j g3 H3 w3 le3 S3 L3 o3 => ?_
  exact s_cut S3 (rx.mono (le2.trans le3)) o3
theorem xSlL (ho : RE X W e mo) (ha : RE X W a ml) : RE X W (.Subscript e (.Slice (some a) none none p2) pos) (eSlL mo ml) := by
  refine pe_weak (pe_slice sl_cut ho (po_some ha) po_none) ?_
  rintro σ H Q ⟨w, ρ, g, S0, L, o⟩
  refine bindM S0 L o fun d g1 x H1 w1 le1 S1 L1 rx o1 => ?_
  refine bindI S1 L1 o1 fun i g2 H2 w2 le2 S2 L2' o2 => ?_
  exact s_cut S2 (rx.mono le2) o2
theorem xSlU (ho : RE X W e mo) (hb : RE X W b mh) : RE X W (.Subscript e (.Slice none (some b) none p2) pos) (eSlU mo mh) := by
  refine pe_weak (pe_slice sl_cut ho po_none (po_some hb)) ?_
  rintro σ H Q ⟨w, ρ, g, S0, L, o⟩
  refine bindM S0 L o fun d g1 x H1 w1 le1 S1 L1 rx o1 => ?_
  show tPart (tM X.K W mh) σ H1 fun u H3 => rCut X.K x none u H3 Q
  refine bindI S1 L1 o1 fun j g2 H2 w2 le2 S2 L2' o2 => ?_
  exact s_cut S2 (rx.mono le2) o2
end

/-! ### unary -/
def uNeg (d : D) (g : Gr) : R := match d with
  | .int i => .ok (.int (-i)) g
  | _ => .no
theorem xNeg {W : WX} {a : Expr} {ma : Exp} {pos : Pos} (ha : RE X W a ma) : RE X W (.UnaryOp .USub a pos) (eUn uNeg ma) := by
  refine re_un (un_neg) (fun w g H x d Q E S0 rx o => ?_) ha
  unfold uNeg at o
  split at o
  · exact ⟨_, rep_int rx, Out.here o S0 rep_int'⟩
  · exact o.elim

/-! ### builtins by values -/
def fLen : Fn := fun ds g => match ds with
  | [.str z] => if z.length ≤ sizeLine then .ok (.int z.length) g else .no
  | [d] => (match viewA g d with
    | some es => .ok (.int es.length) g
    | none => .no)
  | _ => .no
theorem repl1 {w : Wd} {vs : List V} {d : D} (r : RepL K w vs [d]) : ∃ v, vs = [v] ∧ Rep K w v d := by
  simp only [RepL] at r
  obtain ⟨x, t, rfl, h, rfl⟩ := r
  exact ⟨x, rfl, h⟩
theorem repl2 {w : Wd} {vs : List V} {d e : D} (r : RepL K w vs [d, e]) : ∃ v u, vs = [v, u] ∧ Rep K w v d ∧ Rep K w u e := by
  simp only [RepL] at r
  obtain ⟨x, t, rfl, h, y, u, rfl, h2, rfl⟩ := r
  exact ⟨x, y, rfl, h, h2⟩
theorem c_len : CaS K (fun xs H Q => ∃ x n, xs = [x] ∧ LenV K x H n ∧ Q (.int n) H) fLen := by
  intro w g H vs ds Q E S0 r o
  unfold fLen at o
  split at o
  · rename_i z
    split at o
    · obtain ⟨v, rfl, h⟩ := repl1 r
      have e := rep_str h
      subst e
      exact ⟨_, z.length, rfl, ⟨by assumption, rfl⟩, Out.here o S0 rep_int'⟩
    · exact o.elim
  · rename_i d _
    split at o
    · rename_i es h
      obtain ⟨v, rfl, h1⟩ := repl1 r
      obtain ⟨p, xs, rfl, h2, h3⟩ := viewA_ok S0 h1 h
      refine ⟨_, es.length, rfl, ?_, Out.here o S0 rep_int'⟩
      rcases h2 with h2 | h2
      · exact .inl ⟨xs, h2, h3.length.symm⟩
      · exact .inr ⟨xs, h2, h3.length.symm⟩
    · exact o.elim
  · exact o.elim
def fOrd : Fn := fun ds g => match ds with
  | [.str z] => (match z.cps.toList with
    | [c] => .ok (.int c) g
    | _ => .no)
  | _ => .no
theorem c_ord : CaS K (fun xs H Q => ∃ x, xs = [.str x] ∧ x.length = 1 ∧ Q (.int (x.cps.getD 0 0 : Nat)) H) fOrd := by
  intro w g H vs ds Q E S0 r o
  unfold fOrd at o
  split at o
  · rename_i z
    split at o
    · rename_i c hc
      obtain ⟨v, rfl, h⟩ := repl1 r
      have e := rep_str h
      subst e
      have ez : z = ⟨#[c]⟩ := by
        cases z with
        | mk cps =>
          have : cps = [c].toArray := by rw [← hc]
          rw [this]
      subst ez
      exact ⟨_, rfl, rfl, Out.here o S0 rep_int'⟩
    · exact o.elim
  · exact o.elim
def fStr : Fn := fun ds g => match ds with
  | [.int i] => if i.natAbs.log2 < 1920 then .ok (.str (toString i : String)) g else .no
  | [.str z] => .ok (.str z) g
  | _ => .no
def rStrA : List V → Hp → VK → Prop := fun xs H Q => (∃ i, xs = [.int i] ∧ i.natAbs.log2 < 1920 ∧ Q (.str (toString i : String)) H) ∨ ∃ a, xs = [.str a] ∧ Q (.str a) H
theorem call_strA : CallR X (.type "str") rStrA := by
  intro pins s σ H xs us Q I r h
  rcases h with h | h
  · exact call_str_int pins s σ H xs us Q I r h
  · exact SkE.call_str_str pins s σ H xs us Q I r h
theorem c_str : CaS K rStrA fStr := by
  intro w g H vs ds Q E S0 r o
  unfold fStr at o
  split at o
  · split at o
    · obtain ⟨v, rfl, h⟩ := repl1 r
      exact .inl ⟨_, by rw [rep_int h], by assumption, Out.here o S0 rep_str'⟩
    · exact o.elim
  · obtain ⟨v, rfl, h⟩ := repl1 r
    exact .inr ⟨_, by rw [rep_str h], Out.here o S0 rep_str'⟩
  · exact o.elim
def fInt : Fn := fun ds g => match ds with
  | [.int i] => .ok (.int i) g
  | [.bl b] => .ok (.int (if b then 1 else 0)) g
  | [.str z] => (match PySem.intText? z with
    | some n => if z.length ≤ 640 then .ok (.int n) g else .no
    | none => .no)
  | _ => .no
theorem call_intA : CallR X (.type "int") (fun xs H Q => ((∃ i, xs = [.int i] ∧ Q (.int i) H) ∨ ∃ k, xs = [.bl k] ∧ Q (.int (if k then 1 else 0)) H) ∨ (∃ a n, xs = [.str a] ∧ PySem.intText? a = some n ∧ a.length ≤ 640 ∧ Q (.int n) H)) := by
  intro pins s σ H xs us Q I r h
  rcases h with h | h
  · exact call_int1 pins s σ H xs us Q I r h
  · exact call_int_str pins s σ H xs us Q I r h
theorem c_int : CaS K (fun xs H Q => ((∃ i, xs = [.int i] ∧ Q (.int i) H) ∨ ∃ k, xs = [.bl k] ∧ Q (.int (if k then 1 else 0)) H) ∨ (∃ a n, xs = [.str a] ∧ PySem.intText? a = some n ∧ a.length ≤ 640 ∧ Q (.int n) H)) fInt := by
  intro w g H vs ds Q E S0 r o
  unfold fInt at o
  split at o
  · obtain ⟨v, rfl, h⟩ := repl1 r
    exact .inl (.inl ⟨_, by rw [rep_int h], Out.here o S0 rep_int'⟩)
  · obtain ⟨v, rfl, h⟩ := repl1 r
    exact .inl (.inr ⟨_, by rw [rep_blv h], Out.here o S0 rep_int'⟩)
  · split at o
    · rename_i n hn
      split at o
      · obtain ⟨v, rfl, h⟩ := repl1 r
        exact .inr ⟨_, n, by rw [rep_str h], hn, by assumption, Out.here o S0 rep_int'⟩
      · exact o.elim
    · exact o.elim
  · exact o.elim
def fMax2 : Fn := fun ds g => match ds with
  | [.int i, .int j] => .ok (.int (if j > i then j else i)) g
  | _ => .no
def fMin2 : Fn := fun ds g => match ds with
  | [.int i, .int j] => .ok (.int (if j < i then j else i)) g
  | _ => .no
theorem c_max2 : CaS K (fun xs H Q => ∃ i j, xs = [.int i, .int j] ∧ Q (.int (if j > i then j else i)) H) fMax2 := by
  intro w g H vs ds Q E S0 r o
  unfold fMax2 at o
  split at o
  · obtain ⟨v, u, rfl, h1, h2⟩ := repl2 r
    exact ⟨_, _, by rw [rep_int h1, rep_int h2], Out.here o S0 rep_int'⟩
  · exact o.elim
theorem c_min2 : CaS K (fun xs H Q => ∃ i j, xs = [.int i, .int j] ∧ Q (.int (if j < i then j else i)) H) fMin2 := by
  intro w g H vs ds Q E S0 r o
  unfold fMin2 at o
  split at o
  · obtain ⟨v, u, rfl, h1, h2⟩ := repl2 r
    exact ⟨_, _, by rw [rep_int h1, rep_int h2], Out.here o S0 rep_int'⟩
  · exact o.elim
/-- all their truths -/
def bools : List D → Option (List Bool)
  | [] => some []
  | .bl b :: ds => (bools ds).map (b :: ·)
  | _ => none
theorem bools_ok {w : Wd} : ∀ {ds : List D} {xs : List V} {bs : List Bool}, RepL K w xs ds → bools ds = some bs → xs = bs.map V.bl
  | [], xs, bs, r, e => by
    simp only [bools, Option.some.injEq] at e
    simp only [RepL] at r
    subst r e; rfl
  | d :: ds, xs, bs, r, e => by
    simp only [RepL] at r
    obtain ⟨x, t, rfl, r1, r2⟩ := r
    cases d with
    | bl b =>
      simp only [bools, Option.map_eq_some_iff] at e
      obtain ⟨cs, e1, rfl⟩ := e
      rw [rep_blv r1, bools_ok r2 e1]; rfl
    | _ => simp only [bools] at e; cases e
def fAll : Fn := fun ds g => match ds with
  | [d] => (match viewL g d with
    | some es => (match bools es with
      | some bs => .ok (.bl (bs.all id)) g
      | none => .no)
    | none => .no)
  | _ => .no
theorem c_all : CaS K (rAll K) fAll := by
  intro w g H vs ds Q E S0 r o
  unfold fAll at o
  split at o
  · split at o
    · rename_i es h
      split at o
      · rename_i bs hb
        obtain ⟨v, rfl, h1⟩ := repl1 r
        obtain ⟨p, xs, rfl, h2, h3⟩ := viewL_ok S0 h1 h
        have e := bools_ok h3 hb
        subst e
        exact ⟨p, bs, rfl, .inl h2, Out.here o S0 rep_bl'⟩
      · exact o.elim
    · exact o.elim
  · exact o.elim
end
end Fw

set_option maxRecDepth 100000
set_option maxHeartbeats 4000000
/-! Fw, twelfth part: what is walked. -/
namespace Fw
open PySem PySem.Spec PyProof.Rows L2

def kpT : Gr → Prop := fun _ => True
/-- a list that is frozen, or a cell that stays -/
def kpL (d : D) (ds : List D) : Gr → Prop := fun g => viewL g d = some ds
section
variable {K : PySem.W.Frag} {w : Wd}
theorem atR {ds : List D} {xs : List V} {i : Nat} {d : D} (r : RepL K w xs ds) (h : ds[i]? = some d) : ∃ v, xs[i]? = some v ∧ Rep K w v d := r.get h
theorem ltR {ds : List D} {xs : List V} {i : Nat} (r : RepL K w xs ds) (h : i < ds.length) : ∃ v, xs[i]? = some v := by
  have : i < xs.length := by rw [r.length]; exact h
  exact ⟨xs[i], by simp [this]⟩
/-- the list at a label or frozen, as a place -/
theorem viewL_at {w' : Wd} {v : V} {d : D} {ds es : List D} {g g' : Gr} {H H' : Hp} (S0 : SG K w g H) (r : Rep K w v d) (e : viewL g d = some ds) (le : w.Le w') (S1 : SG K w' g' H') (e' : viewL g' d = some es) :
    ∃ a xs, v = .ref a ∧ Rd H' a (.lst xs) ∧ RepL K w' xs es := viewL_ok S1 (r.mono le) e'
theorem sq_inj {H : Hp} {a : Addr} {xs ys : List V} (h : Rd H a (.lst xs)) (h' : Rd H a (.lst ys)) : xs = ys := by
  rcases h with h | ⟨o, h⟩ <;> rcases h' with h' | ⟨o', h'⟩
  · rw [h] at h'; cases h'; rfl
  · rw [h] at h'; cases h'
  · rw [h] at h'; cases h'
  · rw [h] at h'; cases h'; rfl
theorem fol_list {v : V} {d : D} {ds : List D} {g : Gr} {H : Hp} {a : Addr} (S0 : SG K w g H) (r : Rep K w v d) (e : viewL g d = some ds) (ha : v = .ref a) : Fol K (Itl K a) ds (kpL d ds) w where
  stop := fun i H' w' g' le S' k hi => by
    obtain ⟨p, xs, e1, h1, h2⟩ := viewL_ok S' (r.mono le) k
    rw [ha] at e1; cases e1
    exact ⟨xs, .inl h1, by rw [h2.length]; exact hi⟩
  go := fun i H' w' g' le S' k hi => by
    obtain ⟨p, xs, e1, h1, h2⟩ := viewL_ok S' (r.mono le) k
    rw [ha] at e1; cases e1
    obtain ⟨x, hx⟩ := ltR h2 hi
    exact ⟨xs, x, .inl h1, hx⟩
  yld := fun i H' x H2 w' g' e1 le S' k hi y => by
    obtain ⟨p, xs, e2, h1, h2⟩ := viewL_ok S' (r.mono le) k
    rw [ha] at e2; cases e2
    obtain ⟨rfl, y⟩ := y
    obtain ⟨u, hu, ru⟩ := h2.get hi
    have := y xs (.inl h1)
    rw [hu] at this; cases this
    exact ⟨w', Wd.Le.refl _, S', ru⟩
theorem fol_tup {v : V} {d : D} {ds : List D} {g : Gr} {H : Hp} {a : Addr} (S0 : SG K w g H) (r : Rep K w v d) (e : viewT d = some ds) (ha : v = .ref a) : Fol K (Itt K a) ds kpT w where
  stop := fun i H' w' g' le S' k hi => by
    obtain ⟨p, xs, e1, h1, h2⟩ := viewT_ok S' (r.mono le) e
    rw [ha] at e1; cases e1
    exact ⟨xs, h1, by rw [h2.length]; exact hi⟩
  go := fun i H' w' g' le S' k hi => by
    obtain ⟨p, xs, e1, h1, h2⟩ := viewT_ok S' (r.mono le) e
    rw [ha] at e1; cases e1
    obtain ⟨x, hx⟩ := ltR h2 hi
    exact ⟨xs, x, h1, hx⟩
  yld := fun i H' x H2 w' g' e1 le S' k hi y => by
    obtain ⟨p, xs, e2, h1, h2⟩ := viewT_ok S' (r.mono le) e
    rw [ha] at e2; cases e2
    obtain ⟨rfl, y⟩ := y
    obtain ⟨u, hu, ru⟩ := h2.get hi
    have := y xs h1
    rw [hu] at this; cases this
    exact ⟨w', Wd.Le.refl _, S', ru⟩
/-- lo, lo + 1, .. -/
def rangeD (lo : Int) (n : Nat) : List D := (List.range n).map fun i => .int (lo + (i : Nat))
theorem rangeD_len (lo : Int) (n : Nat) : (rangeD lo n).length = n := by simp [rangeD]
theorem fol_rng (lo : Int) (n : Nat) : Fol K (Itr lo n) (rangeD lo n) kpT w where
  stop := fun i H' w' g' le S' k hi => by
    rw [rangeD_len] at hi
    exact hi
  go := fun i H' w' g' le S' k hi => by
    rw [rangeD_len] at hi
    exact hi
  yld := fun i H' x H2 w' g' e1 le S' k hi y => by
    obtain ⟨rfl, rfl⟩ := y
    unfold rangeD at hi
    rw [List.getElem?_map] at hi
    cases q : (List.range n)[i]? with
    | none => rw [q] at hi; cases hi
    | some j =>
      rw [q] at hi
      have hj : j = i := by
        have := List.getElem?_eq_some_iff.mp q
        simpa using this.2.symm
      subst hj
      have e2 : e1 = .int (lo + (j : Nat)) := by simpa using hi.symm
      subst e2
      exact ⟨w', Wd.Le.refl _, S', rep_int'⟩
end

/-! ### sources -/
def srcOf (m : Exp) (f : D → Gr → Option (List D × (Gr → Prop))) : Src := fun ρ g => match m ρ g with
  | .ok d g1 => (match f d g1 with
    | some (ds, kp) => .ok ds kp g1
    | none => .no)
  | .err c g1 => .err c g1
  | .no => .no
def srcA (ms : Exps) (f : List D → Gr → Option (List D × (Gr → Prop))) : Src := fun ρ g => match ms ρ g with
  | .ok d g1 => (match f d g1 with
    | some (ds, kp) => .ok ds kp g1
    | none => .no)
  | .err c g1 => .err c g1
  | .no => .no
section
variable {K : PySem.W.Frag} {W : WX} {σ : L2.St} {H : Hp} {w : Wd} {ρ : En} {g : Gr} {m : Exp} {ms : Exps}
theorem bindSrc {f : D → Gr → Option (List D × (Gr → Prop))} {R : It → Hp → Prop} {Q1 : VK} (S0 : SG K w g H) (L : SL K w ρ σ) (o : OutI K w (srcOf m f ρ g) R fun c d H' => W c d σ H')
    (k : ∀ d g' v H' w' ds kp, w.Le w' → SG K w' g' H' → Rep K w' v d → f d g' = some (ds, kp) → (∀ J, Fol K J ds kp w' → R J H') → Q1 v H') : tM K W m σ H Q1 := by
  refine ⟨w, ρ, g, S0, L, ?_⟩
  unfold srcOf at o
  cases e : m ρ g with
  | no => simp only [e] at o; exact o
  | err c g' => simp only [e] at o; exact o
  | ok d g' =>
    simp only [e] at o
    intro v H' w' le S' r
    cases e2 : f d g' with
    | none => simp only [e2] at o; exact o.elim
    | some p =>
      obtain ⟨ds, kp⟩ := p
      simp only [e2] at o
      exact k d g' v H' w' ds kp le S' r e2 fun J F => o J H' w' le S' F
theorem bindSrcA {f : List D → Gr → Option (List D × (Gr → Prop))} {R : It → Hp → Prop} {Q1 : List V → Hp → Prop} (S0 : SG K w g H) (L : SL K w ρ σ) (o : OutI K w (srcA ms f ρ g) R fun c d H' => W c d σ H')
    (k : ∀ es g' vs H' w' ds kp, w.Le w' → SG K w' g' H' → RepL K w' vs es → f es g' = some (ds, kp) → (∀ J, Fol K J ds kp w' → R J H') → Q1 vs H') : tMA K W ms σ H Q1 := by
  refine ⟨w, ρ, g, S0, L, ?_⟩
  unfold srcA at o
  cases e : ms ρ g with
  | no => simp only [e] at o; exact o
  | err c g' => simp only [e] at o; exact o
  | ok d g' =>
    simp only [e] at o
    intro v H' w' le S' r
    cases e2 : f d g' with
    | none => simp only [e2] at o; exact o.elim
    | some p =>
      obtain ⟨ds, kp⟩ := p
      simp only [e2] at o
      exact k d g' v H' w' ds kp le S' r e2 fun J F => o J H' w' le S' F
end
def iL (d : D) (g : Gr) : Option (List D × (Gr → Prop)) := match d with
  | .lst ds => some (ds, kpT)
  | d => (viewL g d).map fun ds => (ds, kpL d ds)
def iT (d : D) (_ : Gr) : Option (List D × (Gr → Prop)) := (viewT d).map fun ds => (ds, kpT)
def iS (d : D) (_ : Gr) : Option (List D × (Gr → Prop)) := match d with
  | .str z => some (z.cps.toList.map fun c => .str ⟨#[c]⟩, kpT)
  | _ => none
def rngOk (i : Int) : Bool := decide (-4611686018427387904 ≤ i) && decide (i < 4611686018427387904)
def iR1 (ds : List D) (_ : Gr) : Option (List D × (Gr → Prop)) := match ds with
  | [.int j] => if rngOk j then some (rangeD 0 j.toNat, kpT) else none
  | _ => none
def iR2 (ds : List D) (_ : Gr) : Option (List D × (Gr → Prop)) := match ds with
  | [.int i, .int j] => if rngOk i && rngOk j then some (rangeD i (j - i).toNat, kpT) else none
  | _ => none
theorem rngOk_ok {i : Int} (h : rngOk i = true) : -(2 ^ 62) ≤ i ∧ i < 2 ^ 62 := by
  unfold rngOk at h
  simp only [Bool.and_eq_true, decide_eq_true_eq] at h
  omega
theorem Fol.kpT_of {K : PySem.W.Frag} {J : It} {ds : List D} {kp : Gr → Prop} {w : Wd} (F : Fol K J ds kp w) (h : ∀ g, kp g) : Fol K J ds kpT w :=
  ⟨fun i H w' g le S _ => F.stop i H w' g le S (h g), fun i H w' g le S _ => F.go i H w' g le S (h g), fun i H x H' w' g d le S _ => F.yld i H x H' w' g d le S (h g)⟩
section
variable {P : Program} {w : World} {K : PySem.W.Frag} {mg : Str → Option Value} {base : Heap} {Z : Sc} {hot : Option (Nat × Str)} {k : Nat} {X : Cx} {W : WX} {pos p : Pos} {x : Str} {tg e : Expr} {es : List Expr} {m : Exp} {ms : Exps}
theorem xSrcL (h : RE X W e m) : RSrc X W tg e (srcOf m iL) := by
  refine pi_weak (pi_list h) ?_
  rintro σ H R ⟨w1, ρ, g, S0, L, o⟩
  refine bindSrc S0 L o fun d g' v H' w' ds kp le S' r e q => ?_
  unfold iL at e
  split at e
  · rename_i es
    cases e
    have e2 : viewL g' (.lst ds) = some ds := rfl
    obtain ⟨a, xs, rfl, h1, _⟩ := viewL_ok S' r e2
    exact ⟨a, rfl, ⟨xs, .inl h1⟩, q _ ((fol_list S' r e2 rfl).kpT_of fun _ => rfl)⟩
  · simp only [Option.map_eq_some_iff] at e
    obtain ⟨es, e2, e3⟩ := e
    cases e3
    obtain ⟨a, xs, rfl, h1, _⟩ := viewL_ok S' r e2
    exact ⟨a, rfl, ⟨xs, .inl h1⟩, q _ (fol_list S' r e2 rfl)⟩
theorem xSrcT (h : RE X W e m) : RSrc X W tg e (srcOf m iT) := by
  refine pi_weak (pi_tup h) ?_
  rintro σ H R ⟨w1, ρ, g, S0, L, o⟩
  refine bindSrc S0 L o fun d g' v H' w' ds kp le S' r e q => ?_
  simp only [iT, Option.map_eq_some_iff] at e
  obtain ⟨es, e2, e3⟩ := e
  cases e3
  obtain ⟨a, xs, rfl, h1, _⟩ := viewT_ok S' r e2
  exact ⟨a, rfl, ⟨xs, h1⟩, q _ (fol_tup S' r e2 rfl)⟩
theorem xSrcR1 (C : Cc P w K mg base Z hot k X W) (i : Nat) (fr : mg "range" = none) (ha : RA X W [e] ms) (hN : Z.gl[i]? = some "range" := by rfl) (hs : starEach [e] X.env = [(false, eval e X.env)] := by rfl) : RSrc X W tg (.Call (.Name "range" p) [e] [] pos) (srcA ms iR1) := by
  obtain ⟨h1, h2⟩ := C.glo hN
  refine pi_weak (pi_range1 h1 (by rw [C.pm]; exact fr) ha hs) ?_
  rintro σ H R ⟨w1, ρ, g, S0, L, o⟩
  refine bindSrcA S0 L o fun es g' vs H' w' ds kp le S' r e q => ?_
  unfold iR1 at e
  split at e
  · rename_i j
    split at e
    · rename_i hj
      cases e
      obtain ⟨v, rfl, hv⟩ := repl1 r
      exact ⟨j, by rw [rep_int hv], (rngOk_ok hj).1, (rngOk_ok hj).2, q _ (fol_rng 0 _)⟩
    · cases e
  · cases e
theorem xSrcR2 {e2 : Expr} (C : Cc P w K mg base Z hot k X W) (i : Nat) (fr : mg "range" = none) (ha : RA X W [e, e2] ms) (hN : Z.gl[i]? = some "range" := by rfl) (hs : starEach [e, e2] X.env = [(false, eval e X.env), (false, eval e2 X.env)] := by rfl) (hs2 : starEach [e2] X.env = [(false, eval e2 X.env)] := by rfl) : RSrc X W tg (.Call (.Name "range" p) [e, e2] [] pos) (srcA ms iR2) := by
  obtain ⟨h1, h2⟩ := C.glo hN
  refine pi_weak (pi_range2 h1 (by rw [C.pm]; exact fr) ha hs hs2) ?_
  rintro σ H R ⟨w1, ρ, g, S0, L, o⟩
  refine bindSrcA S0 L o fun es g' vs H' w' ds kp le S' r e q => ?_
  unfold iR2 at e
  split at e
  · rename_i i j
    split at e
    · rename_i hj
      simp only [Bool.and_eq_true] at hj
      cases e
      obtain ⟨v, u, rfl, hv, hu⟩ := repl2 r
      exact ⟨i, j, by rw [rep_int hv, rep_int hu], ⟨(rngOk_ok hj.1).1, (rngOk_ok hj.1).2, (rngOk_ok hj.2).1, (rngOk_ok hj.2).2⟩, q _ (fol_rng i _)⟩
    · cases e
  · cases e
end
end Fw

set_option maxRecDepth 100000
set_option maxHeartbeats 4000000
/-! Fw, thirteenth part: texts, steps, enumerate, zip as sources. -/
namespace Fw
open PySem PySem.Spec PyProof.Rows L2

/-! ### enumerate over a text -/
def ItES (z : Str) : It :=
  ⟨fun i _ => i < z.cps.size, fun i H v H' => ∃ T c, v = .ref T ∧ H T = none ∧ H' = upd H T (.tup [.int (i : Nat), .str ⟨#[c]⟩]) ∧ z.cps[i]? = some c, fun i _ => z.cps.size ≤ i⟩
theorem turn_ES {P : Program} {w : World} {K : PySem.W.Frag} {tgs : List Expr} {k0 : Nat} {tp : Pos} (z : Str) (t : Tok) (en ch : Addr) :
    Turn P w K (.Tuple tgs k0 tp) (ItES z) [en, ch] en (fun j hp => (∃ last, IsEnum hp en ch ((j : Nat) : Int) last) ∧ hp.IsStrIter ch (strIterType z) z t j ∧ en ≠ ch) where
  mem := by simp
  obj := fun j hp tn b hb => by
    obtain ⟨⟨last, q1⟩, ⟨o, q2, _, q3⟩, _⟩ := tn
    rcases (show b = en ∨ b = ch by simpa using hb) with rfl | rfl
    · exact ⟨_, q1, fun v z => nomatch z⟩
    · exact ⟨o, q2, fun v z => by rw [q3] at z; cases z⟩
  keep := fun j hp hp' tn kk => by
    obtain ⟨⟨last, q1⟩, ⟨o, q2, r⟩, nq⟩ := tn
    exact ⟨⟨last, kk en (by simp) _ q1⟩, ⟨o, kk ch (by simp) o q2, r⟩, nq⟩
  item := by
    intro X e1 e2 e3 calm j pins s σ H E Iv fp tn more
    subst e1 e2 e3
    obtain ⟨⟨last, q1⟩, q2, nq⟩ := tn
    have lt1 : en < s.heap.objs.size := Heap.lt_size q1
    have lt2 : ch < s.heap.objs.size := by obtain ⟨_, q, _⟩ := id q2; exact Heap.lt_size q
    refine wpAny_pyNext_enum_itemD (Draws.text (A := X.A.in1) (Iv.ok.hd calm) ch z t) q1 q2 more nq (by simpa using nq) fun x hp tk px out q2' hT hsz kk => ?_
    obtain ⟨c, u, hc, rfl⟩ := px
    refine ⟨_, rfl, wpAny_letOwnedTupleGo_enum (s := { s with heap := hp, toks := tk + 1 }) out fun hp2 q1' sb => ?_⟩
    have hT2 : hp2.get? s.heap.objs.size = some { cls := .type "tuple", data := .seq #[.int j tk, .str ⟨#[c]⟩ u] } := (sb.2 _ (Nat.ne_of_gt lt1)).trans hT
    have nw : ObjOk X.prog X.w (upd H s.heap.objs.size (.tup [.int (j : Nat), .str ⟨#[c]⟩])) hp2 s.heap.objs.size (.tup [.int (j : Nat), .str ⟨#[c]⟩]) :=
      ⟨by show 2 ≤ sizeLine; decide, [.int j tk, .str ⟨#[c]⟩ u], .cons ⟨_, rfl⟩ (.cons ⟨_, rfl⟩ .nil), ⟨_, hT2, rfl, _, rfl⟩⟩
    have Iv1 : Inv X pins σ (upd H s.heap.objs.size (.tup [.int (j : Nat), .str ⟨#[c]⟩])) { s with heap := hp2, toks := tk + 1 } :=
      Iv.turnedNew (ch := [en, ch]) (fun b ob hb q => (sb.2 b (fun z => hb (by simp [z]))).trans (kk b ob (fun z => hb (by simp [z])) (fun z => hb (by simp [z])) q)) fp (Nat.le_refl _) nw
    refine ⟨.ref s.heap.objs.size, _, Iv1, rfl, ⟨_, c, rfl, Iv.hok.fresh (Nat.le_refl _), rfl, hc⟩, ⟨⟨.str ⟨#[c]⟩ u, ?_⟩, ?_, nq⟩, fun b hb => ?_⟩
    · rw [show ((j + 1 : Nat) : Int) = (j : Int) + 1 by omega]; exact q1'
    · obtain ⟨o, z1, z2⟩ := q2'
      exact ⟨o, (sb.2 ch (Ne.symm nq)).trans z1, z2⟩
    · have lb : b < s.heap.objs.size := by
        rcases (show b = en ∨ b = ch by simpa using hb) with rfl | rfl
        · exact lt1
        · exact lt2
      rw [upd_ne (Nat.ne_of_lt lb)]
      exact (fp b hb).1
  done := by
    intro X e1 e2 e3 calm j pins s σ H E Iv fp tn more
    subst e1 e2 e3
    obtain ⟨⟨last, q1⟩, q2, nq⟩ := tn
    obtain ⟨g0, g1, g2, g3, g4, g5⟩ := fp ch (by simp)
    have D := Draws.text (prog := X.prog) (w := X.w) (A := X.A.in1) (Iv.ok.hd calm) ch z t
    have ej : j = z.cps.size ∨ z.cps.size < j := by have : z.cps.size ≤ j := more; omega
    have hz : z.cps[j]? = none := Array.getElem?_eq_none more
    have fin : ∀ h', Heap.ExtBut ch s.heap h' → ((none : Option Value) = none ∧ Inv X pins σ H { s with heap := h' }) := fun h' eb => ⟨rfl, Iv.turned (t' := s.toks) (fun b o hb q => eb b o hb q) g0 g1 g3 g4 g5⟩
    have hT : s.TypeIs (.ref en) "enumerate" := ⟨_, q1, rfl⟩
    have D2 : Draws X.prog X.w X.A.in1 ch [ch] 0 (fun _ _ => True) (fun _ h => h.IsStrIter ch (strIterType z) z t j) :=
      { live := fun _ _ st => let ⟨o, ho, _⟩ := st; ⟨o, ho⟩
        frame := fun _ _ _ st kk => let ⟨o, ho, r⟩ := st; ⟨o, kk ch (by simp) o ho, r⟩
        item := fun i s Q E hi _ _ => absurd hi (Nat.not_lt_zero _)
        done := fun s Q E st hE => by
          cases ha : z.cps.all (· < 128)
          · simp only [strIterType, ha, Bool.false_eq_true, if_false] at st
            exact wpAny_nextOf_wide_end (Iv.ok.hd calm) st hz hE
          · simp only [strIterType, ha, if_true] at st
            exact wpAny_nextOf_ascii_end (Iv.ok.hd calm) st hz hE }
    exact wpAny_pyNext_enum_endD D2 q1 q2 fin
  self := fun A j s Q E tn q => by obtain ⟨⟨_, q1⟩, _⟩ := tn; exact wpAny_pyIter_enum q1 q
def iES (ta : TA) : TI := fun σ H R => ta σ H fun vs H1 => ∃ z, vs = [.str z] ∧ R (ItES z) H1
theorem pi_ES {X : Cx} {e : Expr} {ta : TA} {p pos tp : Pos} {tgs : List Expr} {k0 : Nat} (hg : Gl X "enumerate") (hm : X.mg "enumerate" = none) (ha : PA X [e] ta) (hs : starEach [e] X.env = [(false, eval e X.env)]) :
    PI X (.Tuple tgs k0 tp) (.Call (.Name "enumerate" p) [e] [] pos) (iES ta) := by
  refine ⟨fun pins s σ H R Iv hh => Call_ (ld_blt Iv hg hm boot_enumerate (PyProof.Rows.callWith_type1 (thn (ha.run pos pins s σ H _ Iv hh) fun us s1 ⟨vs, H1, Iv1, r1, q1⟩ => ?_) hs rfl))⟩
  obtain ⟨z, ex, q⟩ := q1
  subst ex
  cases r1 with
  | cons r rr =>
    cases rr
    obtain ⟨t, rfl⟩ := r
    refine call_enumerate_str fun h' he hit hsz hk => wpAny_pyIter_enum he ?_
    have Iv2 : Inv X pins σ H1 { s1 with heap := h' } := Iv1.kept (t' := s1.toks) hk
    refine ⟨s1.heap.objs.size + 1, [s1.heap.objs.size + 1, s1.heap.objs.size], _, _, H1, rfl, Iv2, turn_ES z t (s1.heap.objs.size + 1) s1.heap.objs.size, ⟨⟨.none, he⟩, hit, Nat.succ_ne_self _⟩, fun b hb => ?_, q⟩
    have le : s1.heap.objs.size ≤ b := by
      rcases (show b = s1.heap.objs.size + 1 ∨ b = s1.heap.objs.size by simpa using hb) with z | z
      · rw [z]; exact Nat.le_add_right _ _
      · rw [z]; exact Nat.le_refl _
    exact Iv1.fpOk le (Iv1.hok.fresh le)

/-! ### what they give -/
def chD (z : Str) : List D := z.cps.toList.map fun c => .str ⟨#[c]⟩
def enD : Nat → List D → List D
  | _, [] => []
  | k, d :: ds => .tup [.int (k : Nat), d] :: enD (k + 1) ds
def zpD : List D → List D → List D
  | a :: as, b :: bs => .tup [a, b] :: zpD as bs
  | _, _ => []
theorem chD_len (z : Str) : (chD z).length = z.cps.size := by simp [chD]
theorem chD_get {z : Str} {i : Nat} {d : D} (h : (chD z)[i]? = some d) : ∃ c, z.cps[i]? = some c ∧ d = .str ⟨#[c]⟩ := by
  unfold chD at h
  rw [List.getElem?_map] at h
  cases q : z.cps.toList[i]? with
  | none => rw [q] at h; cases h
  | some c =>
    rw [q] at h
    exact ⟨c, by rw [← q]; simp, by simpa using h.symm⟩
theorem enD_len : ∀ (k : Nat) (ds : List D), (enD k ds).length = ds.length
  | _, [] => rfl
  | k, d :: ds => by simp [enD, enD_len (k + 1) ds]
theorem enD_get : ∀ {k : Nat} {ds : List D} {i : Nat} {e : D}, (enD k ds)[i]? = some e → ∃ d, ds[i]? = some d ∧ e = .tup [.int ((k + i : Nat) : Int), d]
  | k, [], i, e, h => by simp [enD] at h
  | k, d :: ds, 0, e, h => by
    simp only [enD, List.getElem?_cons_zero, Option.some.injEq] at h
    exact ⟨d, rfl, h.symm⟩
  | k, d :: ds, i + 1, e, h => by
    simp only [enD, List.getElem?_cons_succ] at h
    obtain ⟨d', h1, h2⟩ := enD_get h
    exact ⟨d', by simpa using h1, by rw [h2, show k + 1 + i = k + (i + 1) by omega]⟩
theorem zpD_len : ∀ (as bs : List D), (zpD as bs).length = min as.length bs.length
  | [], bs => by simp [zpD]
  | a :: as, [] => by simp [zpD]
  | a :: as, b :: bs => by simp only [zpD, List.length_cons, zpD_len as bs]; omega
theorem zpD_get : ∀ {as bs : List D} {i : Nat} {e : D}, (zpD as bs)[i]? = some e → ∃ a b, as[i]? = some a ∧ bs[i]? = some b ∧ e = .tup [a, b]
  | [], bs, i, e, h => by simp [zpD] at h
  | a :: as, [], i, e, h => by simp [zpD] at h
  | a :: as, b :: bs, 0, e, h => by
    simp only [zpD, List.getElem?_cons_zero, Option.some.injEq] at h
    exact ⟨a, b, rfl, rfl, h.symm⟩
  | a :: as, b :: bs, i + 1, e, h => by
    simp only [zpD, List.getElem?_cons_succ] at h
    obtain ⟨a', b', h1, h2, h3⟩ := zpD_get h
    exact ⟨a', b', by simpa using h1, by simpa using h2, h3⟩
section
variable {K : PySem.W.Frag} {w : Wd}
theorem rep_tup2 {w' : Wd} {T : Addr} {x y : V} {a b : D} (h : w'.F T = some (.tup [x, y])) (rx : Rep K w' x a) (ry : Rep K w' y b) : Rep K w' (.ref T) (.tup [a, b]) := by
  simp only [Rep]
  exact ⟨T, [x, y], rfl, .inl (.inl h), by simp only [RepL]; exact ⟨x, [y], rfl, rx, y, [], rfl, ry, rfl⟩⟩
theorem fol_str (z : Str) : Fol K (Its z) (chD z) kpT w where
  stop := fun i H' w' g' le S' k hi => by rw [chD_len] at hi; exact hi
  go := fun i H' w' g' le S' k hi => by rw [chD_len] at hi; exact hi
  yld := fun i H' x H2 w' g' e1 le S' k hi y => by
    obtain ⟨c, h1, rfl⟩ := chD_get hi
    obtain ⟨rfl, c', h2, rfl⟩ := y
    rw [h1] at h2; cases h2
    exact ⟨w', Wd.Le.refl _, S', rep_str'⟩
theorem fol_ES (z : Str) : Fol K (ItES z) (enD 0 (chD z)) kpT w where
  stop := fun i H' w' g' le S' k hi => by rw [enD_len, chD_len] at hi; exact hi
  go := fun i H' w' g' le S' k hi => by rw [enD_len, chD_len] at hi; exact hi
  yld := fun i H' x H2 w' g' e1 le S' k hi y => by
    obtain ⟨d, hd, rfl⟩ := enD_get hi
    obtain ⟨c, h1, rfl⟩ := chD_get hd
    obtain ⟨T, c', rfl, hT, rfl, h2⟩ := y
    rw [h1] at h2; cases h2
    obtain ⟨S2, le2⟩ := S'.allocF hT (.tup [.int (i : Nat), .str ⟨#[c]⟩])
    refine ⟨_, le2, S2, rep_tup2 upd_same ?_ rep_str'⟩
    rw [Nat.zero_add]; exact rep_int'
theorem fol_enum {v : V} {d : D} {ds : List D} {g : Gr} {H : Hp} {a : Addr} (S0 : SG K w g H) (r : Rep K w v d) (e : viewL g d = some ds) (ha : v = .ref a) : Fol K (Ite K a) (enD 0 ds) (kpL d ds) w where
  stop := fun i H' w' g' le S' k hi => by
    rw [enD_len] at hi
    obtain ⟨p, xs, e1, h1, h2⟩ := viewL_ok S' (r.mono le) k
    rw [ha] at e1; cases e1
    exact ⟨xs, .inl h1, by rw [h2.length]; exact hi⟩
  go := fun i H' w' g' le S' k hi => by
    rw [enD_len] at hi
    obtain ⟨p, xs, e1, h1, h2⟩ := viewL_ok S' (r.mono le) k
    rw [ha] at e1; cases e1
    obtain ⟨x, hx⟩ := ltR h2 hi
    exact ⟨xs, x, .inl h1, hx⟩
  yld := fun i H' x H2 w' g' e1 le S' k hi y => by
    obtain ⟨d2, hd, rfl⟩ := enD_get hi
    obtain ⟨p, xs, e2, h1, h2⟩ := viewL_ok S' (r.mono le) k
    rw [ha] at e2; cases e2
    obtain ⟨T, y2, rfl, hT, rfl, hy⟩ := y
    obtain ⟨u, hu, ru⟩ := h2.get hd
    have := hy xs (.inl h1)
    rw [hu] at this; cases this
    obtain ⟨S2, le2⟩ := S'.allocF hT (.tup [.int (i : Nat), y2])
    refine ⟨_, le2, S2, rep_tup2 upd_same ?_ (ru.mono le2)⟩
    rw [Nat.zero_add]; exact rep_int'
theorem fol_zip {v u : V} {d e : D} {ds es : List D} {g : Gr} {H : Hp} {a b : Addr} (S0 : SG K w g H) (r : Rep K w v d) (r2 : Rep K w u e) (ha : v = .ref a) (hb : u = .ref b) : Fol K (Itz K a b) (zpD ds es) (fun g => viewL g d = some ds ∧ viewL g e = some es) w where
  stop := fun i H' w' g' le S' k hi => by
    rw [zpD_len] at hi
    obtain ⟨p, xs, e1, h1, h2⟩ := viewL_ok S' (r.mono le) k.1
    obtain ⟨q, ys, e2, h3, h4⟩ := viewL_ok S' (r2.mono le) k.2
    rw [ha] at e1; cases e1
    rw [hb] at e2; cases e2
    exact ⟨xs, ys, .inl h1, .inl h3, by rw [h2.length, h4.length]; omega⟩
  go := fun i H' w' g' le S' k hi => by
    rw [zpD_len] at hi
    obtain ⟨p, xs, e1, h1, h2⟩ := viewL_ok S' (r.mono le) k.1
    obtain ⟨q, ys, e2, h3, h4⟩ := viewL_ok S' (r2.mono le) k.2
    rw [ha] at e1; cases e1
    rw [hb] at e2; cases e2
    obtain ⟨x, hx⟩ := ltR h2 (show i < ds.length by omega)
    obtain ⟨y, hy⟩ := ltR h4 (show i < es.length by omega)
    exact ⟨xs, ys, x, y, .inl h1, .inl h3, hx, hy⟩
  yld := fun i H' x H2 w' g' e1 le S' k hi y => by
    obtain ⟨da, db, hda, hdb, rfl⟩ := zpD_get hi
    obtain ⟨p, xs, e2, h1, h2⟩ := viewL_ok S' (r.mono le) k.1
    obtain ⟨q, ys, e3, h3, h4⟩ := viewL_ok S' (r2.mono le) k.2
    rw [ha] at e2; cases e2
    rw [hb] at e3; cases e3
    obtain ⟨T, x2, y2, rfl, hT, rfl, hx, hy⟩ := y
    obtain ⟨u1, hu, ru⟩ := h2.get hda
    obtain ⟨u2, hu2, ru2⟩ := h4.get hdb
    have z1 := hx xs (.inl h1)
    rw [hu] at z1; cases z1
    have z2 := hy ys (.inl h3)
    rw [hu2] at z2; cases z2
    obtain ⟨S2, le2⟩ := S'.allocF hT (.tup [x2, y2])
    exact ⟨_, le2, S2, rep_tup2 upd_same (ru.mono le2) (ru2.mono le2)⟩
/-- lo, lo + c, .. -/
def stepD (lo c : Int) (n : Nat) : List D := (List.range n).map fun i => .int (lo + (i : Nat) * c)
theorem stepD_len (lo c : Int) (n : Nat) : (stepD lo c n).length = n := by simp [stepD]
theorem fol_step (lo c : Int) (n : Nat) : Fol K (Itc lo c n) (stepD lo c n) kpT w where
  stop := fun i H' w' g' le S' k hi => by rw [stepD_len] at hi; exact hi
  go := fun i H' w' g' le S' k hi => by rw [stepD_len] at hi; exact hi
  yld := fun i H' x H2 w' g' e1 le S' k hi y => by
    obtain ⟨rfl, rfl⟩ := y
    unfold stepD at hi
    rw [List.getElem?_map] at hi
    cases q : (List.range n)[i]? with
    | none => rw [q] at hi; cases hi
    | some j =>
      rw [q] at hi
      have hj : j = i := by
        have := List.getElem?_eq_some_iff.mp q
        simpa using this.2.symm
      subst hj
      have e2 : e1 = .int (lo + (j : Nat) * c) := by simpa using hi.symm
      subst e2
      exact ⟨w', Wd.Le.refl _, S', rep_int'⟩
end

/-! ### the sources -/
def iStr (d : D) (_ : Gr) : Option (List D × (Gr → Prop)) := match d with
  | .str z => some (chD z, kpT)
  | _ => none
def iES1 (ds : List D) (_ : Gr) : Option (List D × (Gr → Prop)) := match ds with
  | [.str z] => some (enD 0 (chD z), kpT)
  | _ => none
def iEn (ds : List D) (g : Gr) : Option (List D × (Gr → Prop)) := match ds with
  | [.lst es] => some (enD 0 es, kpT)
  | [d] => (viewL g d).map fun es => (enD 0 es, kpL d es)
  | _ => none
def iZp (ds : List D) (g : Gr) : Option (List D × (Gr → Prop)) := match ds with
  | [.lst as, .lst bs] => some (zpD as bs, kpT)
  | [d, e] => (match viewL g d, viewL g e with
    | some as, some bs => some (zpD as bs, fun g => viewL g d = some as ∧ viewL g e = some bs)
    | _, _ => none)
  | _ => none
def iR3 (ds : List D) (_ : Gr) : Option (List D × (Gr → Prop)) := match ds with
  | [.int i, .int j, .int c] => if c ≠ 0 ∧ c.natAbs < 1073741824 ∧ Builtin.Range.small i j c = true ∧ 0 ≤ Builtin.Range.rangeSize i j c then some (stepD i c (Builtin.Range.rangeSize i j c).toNat, kpT) else none
  | _ => none
theorem repl3 {K : PySem.W.Frag} {w : Wd} {vs : List V} {d e f : D} (r : RepL K w vs [d, e, f]) : ∃ v u t, vs = [v, u, t] ∧ Rep K w v d ∧ Rep K w u e ∧ Rep K w t f := by
  simp only [RepL] at r
  obtain ⟨x, _, rfl, h, y, _, rfl, h2, z, _, rfl, h3, rfl⟩ := r
  exact ⟨x, y, z, rfl, h, h2, h3⟩
section
variable {P : Program} {w : World} {K : PySem.W.Frag} {mg : Str → Option Value} {base : Heap} {Z : Sc} {hot : Option (Nat × Str)} {k : Nat} {X : Cx} {W : WX} {pos p : Pos} {x : Str} {tg e : Expr} {es : List Expr} {m : Exp} {ms : Exps} {tgs : List Expr} {k0 : Nat} {tp : Pos}
theorem xSrcS (h : RE X W e m) : RSrc X W tg e (srcOf m iStr) := by
  refine pi_weak (pi_str h) ?_
  rintro σ H R ⟨w1, ρ, g, S0, L, o⟩
  refine bindSrc S0 L o fun d g' v H' w' ds kp le S' r e q => ?_
  unfold iStr at e
  split at e
  · cases e
    exact ⟨_, rep_str r, q _ (fol_str _)⟩
  · cases e
theorem xSrcES (C : Cc P w K mg base Z hot k X W) (i : Nat) (fr : mg "enumerate" = none) (ha : RA X W [e] ms) (hN : Z.gl[i]? = some "enumerate" := by rfl) (hs : starEach [e] X.env = [(false, eval e X.env)] := by rfl) : RSrc X W (.Tuple tgs k0 tp) (.Call (.Name "enumerate" p) [e] [] pos) (srcA ms iES1) := by
  obtain ⟨h1, h2⟩ := C.glo hN
  refine pi_weak (pi_ES h1 (by rw [C.pm]; exact fr) ha hs) ?_
  rintro σ H R ⟨w1, ρ, g, S0, L, o⟩
  refine bindSrcA S0 L o fun es g' vs H' w' ds kp le S' r e q => ?_
  unfold iES1 at e
  split at e
  · cases e
    obtain ⟨v, rfl, hv⟩ := repl1 r
    exact ⟨_, by rw [rep_str hv], q _ (fol_ES _)⟩
  · cases e
theorem xSrcEn (C : Cc P w K mg base Z hot k X W) (i : Nat) (fr : mg "enumerate" = none) (ha : RA X W [e] ms) (hN : Z.gl[i]? = some "enumerate" := by rfl) (hs : starEach [e] X.env = [(false, eval e X.env)] := by rfl) : RSrc X W (.Tuple tgs k0 tp) (.Call (.Name "enumerate" p) [e] [] pos) (srcA ms iEn) := by
  obtain ⟨h1, h2⟩ := C.glo hN
  refine pi_weak (pi_enum h1 (by rw [C.pm]; exact fr) ha hs) ?_
  rintro σ H R ⟨w1, ρ, g, S0, L, o⟩
  refine bindSrcA S0 L o fun es g' vs H' w' ds kp le S' r e q => ?_
  unfold iEn at e
  split at e
  · rename_i es
    cases e
    obtain ⟨v, rfl, hv⟩ := repl1 r
    have e2 : viewL g' (.lst es) = some es := rfl
    obtain ⟨a, xs, rfl, h1, _⟩ := viewL_ok S' hv e2
    exact ⟨a, xs, rfl, .inl h1, q _ ((fol_enum S' hv e2 rfl).kpT_of fun _ => rfl)⟩
  · simp only [Option.map_eq_some_iff] at e
    obtain ⟨es, e2, e3⟩ := e
    cases e3
    obtain ⟨v, rfl, hv⟩ := repl1 r
    obtain ⟨a, xs, rfl, h1, _⟩ := viewL_ok S' hv e2
    exact ⟨a, xs, rfl, .inl h1, q _ (fol_enum S' hv e2 rfl)⟩
  · cases e
theorem xSrcZp {e2 : Expr} (C : Cc P w K mg base Z hot k X W) (i : Nat) (fr : mg "zip" = none) (ha : RA X W [e, e2] ms) (hN : Z.gl[i]? = some "zip" := by rfl) (hs : starEach [e, e2] X.env = (false, eval e X.env) :: starEach [e2] X.env := by rfl) (hpl : (backTo pos (starEach [e2] X.env)).any (·.1) = false := by rfl) : RSrc X W (.Tuple tgs k0 tp) (.Call (.Name "zip" p) [e, e2] [] pos) (srcA ms iZp) := by
  obtain ⟨h1, h2⟩ := C.glo hN
  refine pi_weak (pi_zip h1 (by rw [C.pm]; exact fr) ha hs hpl) ?_
  rintro σ H R ⟨w1, ρ, g, S0, L, o⟩
  refine bindSrcA S0 L o fun es g' vs H' w' ds kp le S' r e q => ?_
  unfold iZp at e
  split at e
  · rename_i as bs
    cases e
    obtain ⟨v, u, rfl, hv, hu⟩ := repl2 r
    have e1 : viewL g' (.lst as) = some as := rfl
    have e2 : viewL g' (.lst bs) = some bs := rfl
    obtain ⟨a, xs, rfl, h1, _⟩ := viewL_ok S' hv e1
    obtain ⟨b, ys, rfl, h2, _⟩ := viewL_ok S' hu e2
    exact ⟨a, b, xs, ys, rfl, .inl h1, .inl h2, q _ ((fol_zip S' hv hu rfl rfl).kpT_of fun _ => ⟨rfl, rfl⟩)⟩
  · split at e
    · rename_i as bs e1 e2
      cases e
      obtain ⟨v, u, rfl, hv, hu⟩ := repl2 r
      obtain ⟨a, xs, rfl, h1, _⟩ := viewL_ok S' hv e1
      obtain ⟨b, ys, rfl, h2, _⟩ := viewL_ok S' hu e2
      exact ⟨a, b, xs, ys, rfl, .inl h1, .inl h2, q _ (fol_zip S' hv hu rfl rfl)⟩
    · cases e
  · cases e
theorem xSrcR3 {e2 e3 : Expr} (C : Cc P w K mg base Z hot k X W) (i : Nat) (fr : mg "range" = none) (ha : RA X W [e, e2, e3] ms) (hN : Z.gl[i]? = some "range" := by rfl) (hs : starEach [e, e2, e3] X.env = (false, eval e X.env) :: starEach [e2, e3] X.env := by rfl) (hpl : (backTo pos (starEach [e2, e3] X.env)).any (·.1) = false := by rfl) : RSrc X W tg (.Call (.Name "range" p) [e, e2, e3] [] pos) (srcA ms iR3) := by
  obtain ⟨h1, h2⟩ := C.glo hN
  refine pi_weak (pi_range3 h1 (by rw [C.pm]; exact fr) ha hs hpl) ?_
  rintro σ H R ⟨w1, ρ, g, S0, L, o⟩
  refine bindSrcA S0 L o fun es g' vs H' w' ds kp le S' r e q => ?_
  unfold iR3 at e
  split at e
  · rename_i i j c
    split at e
    · rename_i hc
      cases e
      obtain ⟨v, u, t, rfl, hv, hu, ht⟩ := repl3 r
      exact ⟨i, j, c, _, by rw [rep_int hv, rep_int hu, rep_int ht], ⟨hc.1, hc.2.1, hc.2.2.1, (Int.toNat_of_nonneg hc.2.2.2).symm⟩, q _ (fol_step i c _)⟩
    · cases e
  · cases e
end
end Fw

set_option maxRecDepth 100000
set_option maxHeartbeats 4000000
/-! Fw, fourteenth part: * , is, texts' methods, list(), tuple(), isinstance, tables. -/
namespace Fw
open PySem PySem.Spec PyProof.Rows L2
section
variable {X : Cx} {K : PySem.W.Frag}
/-! ### * -/
theorem op_repR : OpR X (binaryOp .Mult) rRepR := by
  intro pins s σ H x y v u Q I rx ry h
  obtain ⟨l, k, xs, rfl, rfl, hR, h1, h2, hz, q⟩ := h
  cases rx
  obtain ⟨t, rfl⟩ := ry
  obtain ⟨z, its, n, r, hl, e⟩ := Rd.lstM hR I
  have room : its.toArray.size * k.toNat ≤ sizeLine := by rw [List.size_toArray, ← hl]; exact hz
  have c1 : ¬ its.toArray.size * k.toNat > (2 ^ 63 - 1) / 8 := by
    have : (sizeLine : Nat) ≤ (2 ^ 63 - 1) / 8 := by decide
    omega
  have c2 : ¬ (!Builtin.List.listFitsIndex k) = true := by rw [fitsIndex_both h1 h2]; exact Bool.false_ne_true
  have c3 : ¬ Builtin.List.listTooLong (its.toArray.size * k.toNat) = true := by rw [notLongL room]; exact Bool.false_ne_true
  have made : List.foldl (fun x1 x2 => x1 ++ x2) #[] (List.replicate (if its.toArray.isEmpty = true then 0 else k.toNat) its.toArray) = (List.replicate k.toNat its).flatten.toArray := by
    have f0 : ∀ m : Nat, List.foldl (fun x1 x2 => x1 ++ x2) #[] (List.replicate m its.toArray) = (List.replicate m its).flatten.toArray := fun m => by
      simpa using foldl_rep its m []
    rw [f0]
    cases its with
    | nil => simp
    | cons a r' => rw [if_neg (by simp)]
  refine wpAny_binaryOp_repeat_ref (T := "list") (U := "int") (by decide) ⟨_, e, rfl⟩ (fun s' => typeIs_int s' k t) noFill_list_mul F.fills_int_mul F.slot_int_rmul repeat_list F.slot_int_index.lookup
    (call_meets F.slot_int_rmul (typeIs_int s k t) F.entry_int_rmul (F.args_int_rmul_2 _ _) (int___rmul___int_list k t l its.toArray n)
      ⟨e, rfl, ⟨_, e, rfl⟩, call_meets F.slot_list_mul ⟨_, e, rfl⟩ F.entry_list_mul (F.args_list_mul_2 _ _) (AutoListH.list___mul___list_int_3 l its.toArray n k t c2 c1 c3) ⟨e, ?_⟩⟩)
  rw [made]
  exact ⟨.ref _, _, I.lnew (t' := s.toks) (r.rep k.toNat) (by rw [PyProof.Rows.lm_len_rep_flat, Nat.mul_comm]; exact hz), rfl, q _ I.fresh⟩
theorem op_mulA : OpR X (binaryOp .Mult) (fun x y H Q => rI CMul (fun i j => .int (i * j)) x y H Q ∨ rRepR x y H Q) := op_mul.or op_repR
theorem repl_rep {w : Wd} {ds : List D} {xs : List V} (r : RepL K w xs ds) : ∀ k : Nat, RepL K w (List.replicate k xs).flatten (List.replicate k ds).flatten
  | 0 => by simp [RepL]
  | k + 1 => by
    rw [List.replicate_succ, List.replicate_succ, List.flatten_cons, List.flatten_cons]
    exact RepL.app (repl_rep r k) r
theorem s_mul : OpS X (fun x y H Q => rI CMul (fun i j => .int (i * j)) x y H Q ∨ rRepR x y H Q) opMul := by
  intro w g H x y d e Q E S0 rx ry o
  unfold opMul at o
  split at o
  · split at o
    · rename_i hh
      exact .inl ⟨_, _, rep_int rx, rep_int ry, by unfold CMul; omega, Out.here o S0 rep_int'⟩
    · exact o.elim
  · split at o
    · rename_i ds h1
      split at o
      · rename_i hz
        obtain ⟨p, xs, rfl, h3, h4⟩ := viewL_ok S0 rx h1
        exact .inr ⟨p, _, xs, rfl, rep_int ry, h3, by omega, by omega, by rw [h4.length]; exact hz.2.2, Out.newL o S0 (repl_rep h4 _)⟩
      · exact o.elim
    · exact o.elim
  · exact o.elim

/-! ### is True, is False -/
def opIsB (b : Bool) (d _e : D) (g : Gr) : R := match d with
  | .bl a => .ok (.bl (decide (a = b))) g
  | .non => .ok (.bl false) g
  | .int _ => .ok (.bl false) g
  | .str _ => .ok (.bl false) g
  | _ => .no
def rIsBl (b : Bool) : R2 := fun x y H Q => y = .bl b ∧ ((∃ a, x = .bl a ∧ Q (.bl (decide (a = b))) H) ∨ ((x = .non ∨ (∃ i, x = .int i) ∨ ∃ z, x = .str z) ∧ Q (.bl false) H))
theorem op_isB (b : Bool) : OpR X (compareOp .Is) (rIsBl b) := by
  intro pins s σ H x y v u Q I rx ry h
  obtain ⟨rfl, h⟩ := h
  cases (show u = Value.bool b from ry)
  rcases h with ⟨a, rfl, q⟩ | ⟨h, q⟩
  · exact op_isBl pins s σ H _ _ _ _ Q I rx ry ⟨a, b, rfl, rfl, q⟩
  · rcases h with rfl | ⟨i, rfl⟩ | ⟨z, rfl⟩
    · cases (show v = Value.none from rx)
      exact wpAny_is_other rfl (fun z => by cases z) ⟨.bl false, H, I, rfl, q⟩
    · obtain ⟨t, rfl⟩ := rx
      exact wpAny_is_other rfl (fun z => by cases z) ⟨.bl false, H, I, rfl, q⟩
    · obtain ⟨t, rfl⟩ := rx
      exact wpAny_is_other rfl (fun z => by cases z) ⟨.bl false, H, I, rfl, q⟩
theorem xIsB {W : WX} (b : Bool) {a : Expr} {ma : Exp} {j : Nat} {p pos : Pos} (ha : RE X W a ma) (hm : behindInMarks .Is (.Constant (.bool b) j p) = false := by rfl) : RE X W (.Compare a [.Is] [.Constant (.bool b) j p] pos) (eUn (fun d g => opIsB b d .non g) ma) := by
  refine pe_weak (pe_cmpR (op_isB b) ha pe_bl hm) ?_
  rintro σ H Q ⟨w, ρ, g, S0, L, o⟩
  refine bindM S0 L o fun d g1 x H1 w1 le S1 L1 rx o1 => ?_
  refine ⟨rfl, ?_⟩
  unfold opIsB at o1
  split at o1
  · exact .inl ⟨_, rep_blv rx, Out.here o1 S1 rep_bl'⟩
  · exact .inr ⟨.inl (rep_non rx), Out.here o1 S1 rep_bl'⟩
  · exact .inr ⟨.inr (.inl ⟨_, rep_int rx⟩), Out.here o1 S1 rep_bl'⟩
  · exact .inr ⟨.inr (.inr ⟨_, rep_str rx⟩), Out.here o1 S1 rep_bl'⟩
  · exact o1.elim

theorem xtIsB {W : WX} (b : Bool) {a : Expr} {ma : Exp} {j : Nat} {p pos : Pos} (ha : RE X W a ma) (hm : behindInMarks .Is (.Constant (.bool b) j p) = false := by rfl) : RT X W (.Compare a [.Is] [.Constant (.bool b) j p] pos) (eUn (fun d g => opIsB b d .non g) ma) := by
  refine pt_weak (pt_cmpR (op_isB b) ha pe_bl hm) (test_of ?_)
  rintro σ H Q ⟨w, ρ, g, S0, L, o⟩
  refine bindM S0 L o fun d g1 x H1 w1 le S1 L1 rx o1 => ?_
  refine ⟨rfl, ?_⟩
  unfold opIsB at o1
  split at o1
  · exact .inl ⟨_, rep_blv rx, Out.here o1 S1 rep_bl'⟩
  · exact .inr ⟨.inl (rep_non rx), Out.here o1 S1 rep_bl'⟩
  · exact .inr ⟨.inr (.inl ⟨_, rep_int rx⟩), Out.here o1 S1 rep_bl'⟩
  · exact .inr ⟨.inr (.inr ⟨_, rep_str rx⟩), Out.here o1 S1 rep_bl'⟩
  · exact o1.elim

/-! ### a list unpacked -/
def gUnpL (n : Nat) (as : Tgs) : Tg := fun d ρ g => match viewL g d with
  | some ds => if ds.length = n then as ds ρ g else none
  | none => none
theorem rg_unpL {tgs : List Expr} {mts : Tgs} {pos : Pos} {vs : List Nat} {k : Nat} (n : Nat) (hc : X.calm = true) (h : RGs X vs tgs mts) (hn : (assignEach tgs X.env).length = n := by rfl) (hst : (assignEach tgs X.env).findIdx? (·.1) = none := by rfl) : RG X vs (.Tuple tgs k pos) (gUnpL n mts) := by
  refine pg_weak (pg_lst (n := n) hc h hn hst) ?_
  rintro v σ H Q ⟨w, ρ, g, d, S0, L, r, o⟩
  unfold gUnpL at o
  split at o
  · rename_i ds e
    split at o
    · rename_i hl
      obtain ⟨a, xs, rfl, h1, h2⟩ := viewL_ok S0 r e
      exact ⟨a, xs, rfl, .inl h1, by rw [h2.length]; exact hl, w, ρ, g, ds, S0, L, h2, o⟩
    · exact o.elim
  · exact o.elim

/-! ### methods of texts -/
def tyS (d : D) (_ : Gr) : Bool := match d with
  | .str _ => true
  | _ => false
theorem tyS_ok {w : Wd} {g : Gr} {H : Hp} {x : V} {d : D} (r : Rep K w x d) (h : tyS d g = true) : tyV K "str" x H := by
  unfold tyS at h
  split at h
  · rw [rep_str r]; rfl
  · cases h
def strsD : List D → Option (List Str)
  | [] => some []
  | .str z :: ds => (strsD ds).map (z :: ·)
  | _ => none
theorem strsD_ok {w : Wd} : ∀ {ds : List D} {xs : List V} {zs : List Str}, RepL K w xs ds → strsD ds = some zs → xs = zs.map V.str
  | [], xs, zs, r, e => by
    simp only [strsD, Option.some.injEq] at e
    simp only [RepL] at r
    subst r e; rfl
  | d :: ds, xs, zs, r, e => by
    simp only [RepL] at r
    obtain ⟨x, t, rfl, r1, r2⟩ := r
    cases d with
    | str z =>
      simp only [strsD, Option.map_eq_some_iff] at e
      obtain ⟨cs, e1, rfl⟩ := e
      rw [rep_str r1, strsD_ok r2 e1]; rfl
    | _ => simp only [strsD] at e; cases e
theorem repl_strsD {w : Wd} : ∀ zs : List Str, RepL K w (zs.map V.str) (zs.map D.str)
  | [] => by simp only [List.map_nil, RepL]
  | z :: zs => by simp only [List.map_cons, RepL]; exact ⟨_, _, rfl, rep_str', repl_strsD zs⟩
def mJoin (d : D) (ds : List D) (g : Gr) : R := match d, ds with
  | .str a, [e] => (match viewA g e with
    | some es => (match strsD es with
      | some ys => if (ys.map (·.length)).sum + ys.length * a.length ≤ 16777216 then .ok (.str (Txt.join a ys)) g else .no
      | none => .no)
    | none => .no)
  | _, _ => .no
theorem ms_join : MtS K "str" (fun x xs H Q => ∃ a p, ∃ ys : List Str, x = .str a ∧ xs = [.ref p] ∧ (SqL K H p (ys.map V.str) ∨ SqT K H p (ys.map V.str)) ∧
      (ys.map (·.length)).sum + ys.length * a.length ≤ 16777216 ∧ Q (.str (Txt.join a ys)) H) tyS mJoin := by
  refine ⟨fun w g H x d S0 r h => tyS_ok r h, fun w g H x d vs ds Q E S0 rx rv o => ?_⟩
  unfold mJoin at o
  split at o
  · split at o
    · rename_i es h1
      split at o
      · rename_i ys h2
        split at o
        · rename_i hz
          obtain ⟨v, rfl, h3⟩ := repl1 rv
          obtain ⟨p, xs, rfl, h4, h5⟩ := viewA_ok S0 h3 h1
          have e := strsD_ok h5 h2
          subst e
          exact ⟨_, p, ys, rep_str rx, rfl, h4, hz, Out.here o S0 rep_str'⟩
        · exact o.elim
      · exact o.elim
    · exact o.elim
  · exact o.elim
def mSplit (d : D) (ds : List D) (g : Gr) : R := match d, ds with
  | .str a, [.str b] => if (b.length == 0) = false ∧ a.length + 2 ≤ sizeLine then .ok (.lst ((Txt.split a b).map .str)) g else .no
  | _, _ => .no
theorem ms_split : MtS K "str" (fun x xs H Q => ∃ a b, x = .str a ∧ xs = [.str b] ∧ (b.length == 0) = false ∧ a.length + 2 ≤ sizeLine ∧ rNewStrs (Txt.split a b) H Q) tyS mSplit := by
  refine ⟨fun w g H x d S0 r h => tyS_ok r h, fun w g H x d vs ds Q E S0 rx rv o => ?_⟩
  unfold mSplit at o
  split at o
  · split at o
    · rename_i hz
      obtain ⟨v, rfl, h3⟩ := repl1 rv
      exact ⟨_, _, rep_str rx, by rw [rep_str h3], hz.1, hz.2, Out.newL o S0 (repl_strsD _)⟩
    · exact o.elim
  · exact o.elim
def mStr2 (f : Str → Str → D) (d : D) (ds : List D) (g : Gr) : R := match d, ds with
  | .str a, [.str b] => .ok (f a b) g
  | _, _ => .no
theorem ms_str2 {f : Str → Str → D} {h : Str → Str → V} (hf : ∀ a b, (f a b).v = some (h a b)) : MtS K "str" (fun x xs H Q => ∃ a b, x = .str a ∧ xs = [.str b] ∧ Q (h a b) H) tyS (mStr2 f) := by
  refine ⟨fun w g H x d S0 r h => tyS_ok r h, fun w g H x d vs ds Q E S0 rx rv o => ?_⟩
  unfold mStr2 at o
  split at o
  · obtain ⟨v, rfl, h3⟩ := repl1 rv
    exact ⟨_, _, rep_str rx, by rw [rep_str h3], Out.here o S0 (rep_v (hf _ _))⟩
  · exact o.elim
def mEnds := mStr2 fun a b => .bl (Txt.endswith a b)
def mStarts := mStr2 fun a b => .bl (Txt.startswith a b)
def mFind := mStr2 fun a b => .int (Txt.find a b)
def mRfind := mStr2 fun a b => .int (Txt.rfind a b)
theorem ms_ends : MtS K "str" (fun x xs H Q => ∃ a b, x = .str a ∧ xs = [.str b] ∧ Q (.bl (Txt.endswith a b)) H) tyS mEnds := ms_str2 fun _ _ => rfl
theorem ms_starts : MtS K "str" (fun x xs H Q => ∃ a b, x = .str a ∧ xs = [.str b] ∧ Q (.bl (Txt.startswith a b)) H) tyS mStarts := ms_str2 fun _ _ => rfl
theorem ms_find : MtS K "str" (fun x xs H Q => ∃ a b, x = .str a ∧ xs = [.str b] ∧ Q (.int (Txt.find a b)) H) tyS mFind := ms_str2 fun _ _ => rfl

/-! ### list(x), tuple(x) -/
def fLstO : Fn := fun ds g => match ds with
  | [d] => (match viewA g d with
    | some es => .ok (.lst es) g
    | none => .no)
  | _ => .no
def fCelO : Fn := fun ds g => match ds with
  | [d] => (match viewA g d with
    | some es => .ok (.obj g.length) (g ++ [.lst es])
    | none => .no)
  | _ => .no
def fTupO : Fn := fun ds g => match ds with
  | [.tup es] => .ok (.tup es) g
  | [d] => (match viewL g d with
    | some es => .ok (.tup es) g
    | none => .no)
  | _ => .no
theorem c_lstO : CaS K (fun xs H Q => ∃ p ys, xs = [.ref p] ∧ (SqL K H p ys ∨ SqT K H p ys) ∧ ∀ l, H l = none → Q (.ref l) (upd H l (.lst ys))) fLstO := by
  intro w g H vs ds Q E S0 r o
  unfold fLstO at o
  split at o
  · split at o
    · rename_i es h
      obtain ⟨v, rfl, h1⟩ := repl1 r
      obtain ⟨p, xs, rfl, h2, h3⟩ := viewA_ok S0 h1 h
      exact ⟨p, xs, rfl, h2, Out.newL o S0 h3⟩
    · exact o.elim
  · exact o.elim
theorem c_celO : CaS K (fun xs H Q => ∃ p ys, xs = [.ref p] ∧ (SqL K H p ys ∨ SqT K H p ys) ∧ ∀ l, H l = none → Q (.ref l) (upd H l (.lst ys))) fCelO := by
  intro w g H vs ds Q E S0 r o
  unfold fCelO at o
  split at o
  · split at o
    · rename_i es h
      obtain ⟨v, rfl, h1⟩ := repl1 r
      obtain ⟨p, xs, rfl, h2, h3⟩ := viewA_ok S0 h1 h
      exact ⟨p, xs, rfl, h2, Out.newC o S0 h3⟩
    · exact o.elim
  · exact o.elim
theorem c_tupO : CaS K (fun xs H Q => ∃ p ys, xs = [.ref p] ∧ ((SqL K H p ys ∧ ∀ l, H l = none → Q (.ref l) (upd H l (.tup ys))) ∨ (SqT K H p ys ∧ Q (.ref p) H))) fTupO := by
  intro w g H vs ds Q E S0 r o
  unfold fTupO at o
  split at o
  · rename_i es
    obtain ⟨v, rfl, h1⟩ := repl1 r
    obtain ⟨p, xs, rfl, h2, h3⟩ := viewT_ok S0 h1 (show viewT (.tup es) = some es from rfl)
    exact ⟨p, xs, rfl, .inr ⟨h2, Out.here o S0 h1⟩⟩
  · split at o
    · rename_i es h
      obtain ⟨v, rfl, h1⟩ := repl1 r
      obtain ⟨p, xs, rfl, h2, h3⟩ := viewL_ok S0 h1 h
      exact ⟨p, xs, rfl, .inl ⟨.inl h2, Out.newT o S0 h3⟩⟩
    · exact o.elim
  · exact o.elim

/-! ### isinstance(x, a built-in class) -/
def tyD (g : Gr) : D → Option String
  | .non => some "NoneType"
  | .bl _ => some "bool"
  | .int _ => some "int"
  | .str _ => some "str"
  | .lst _ => some "list"
  | .tup _ => some "tuple"
  | .obj l => (match g[l]? with
    | some (.lst _) => some "list"
    | some (.dic _) => some "dict"
    | _ => none)
  | .err _ _ => none
theorem tyD_ok {w : Wd} {g : Gr} {H : Hp} {v : V} {d : D} {t : String} (S0 : SG K w g H) (r : Rep K w v d) (h : tyD g d = some t) : TyX K H v (.type t) := by
  cases d with
  | non => cases h; rw [rep_non r]; exact .base .non
  | bl b => cases h; rw [rep_blv r]; exact .base (.bl b)
  | int i => cases h; rw [rep_int r]; exact .base (.int i)
  | str z => cases h; rw [rep_str r]; exact .base (.str z)
  | lst ds =>
    cases h
    obtain ⟨a, xs, rfl, h1, _⟩ := viewL_ok S0 r (show viewL g (.lst ds) = some ds from rfl)
    rcases h1 with h1 | ⟨o, h1⟩
    · exact .base (.lst h1)
    · exact .base (.frz h1)
  | tup ds =>
    cases h
    obtain ⟨a, xs, rfl, h1, _⟩ := viewT_ok S0 r (show viewT (.tup ds) = some ds from rfl)
    rcases h1 with (h1 | ⟨o, h1⟩) | h1
    · exact .base (.tup h1)
    · exact .fTuple h1
    · obtain ⟨ob, its, n, h2, h3, _⟩ := h1
      exact .kTuple h2 h3
  | obj l =>
    simp only [tyD] at h
    simp only [Rep] at r
    obtain ⟨_, rfl⟩ := r
    split at h
    · rename_i ds hl
      cases h
      obtain ⟨_, xs, h1, _⟩ := S0.cell l _ hl
      exact .base (.lst h1)
    · rename_i ds hl
      cases h
      obtain ⟨_, xs, h1, _⟩ := S0.cell l _ hl
      exact .base (.dK h1)
    · cases h
  | err c a => cases h
/-- the answers -/
def subT (t T : String) : Option Bool := if t = T then some true else if t = "bool" ∧ T = "int" then some true else
  if t ∈ ["NoneType", "bool", "int", "str", "list", "tuple", "dict"] ∧ T ∈ ["bool", "int", "str", "list", "tuple", "dict"] then some false else none
theorem subT_ok {t T : String} {b : Bool} (h : subT t T = some b) : PySem.W.kitOne K (.type t) (.type T) = some b := by
  unfold subT at h
  split at h
  · rename_i e
    cases h; subst e
    unfold PySem.W.kitOne
    rw [if_pos (by simp)]
  · split at h
    · rename_i e
      cases h
      obtain ⟨rfl, rfl⟩ := e
      rfl
    · split at h
      · rename_i n1 n2 e
        cases h
        obtain ⟨e1, e2⟩ := e
        simp only [List.mem_cons, List.not_mem_nil, or_false] at e1 e2
        rcases e1 with rfl | rfl | rfl | rfl | rfl | rfl | rfl <;> rcases e2 with rfl | rfl | rfl | rfl | rfl | rfl <;> first | rfl | exact absurd rfl n1 | exact absurd ⟨rfl, rfl⟩ n2
      · cases h
def opIsT (T : String) (d : D) (g : Gr) : R := match tyD g d with
  | some t => (match subT t T with
    | some b => .ok (.bl b) g
    | none => .no)
  | none => .no
end
section
variable {P : Program} {w : World} {K : PySem.W.Frag} {mg : Str → Option Value} {base : Heap} {Z : Sc} {hot : Option (Nat × Str)} {k : Nat} {X : Cx} {W : WX} {pos p p2 : Pos} {e f : Expr} {m mf : Exp}
theorem xIsT (C : Cc P w K mg base Z hot k X W) (i j : Nat) (T : String) {y : Str} (fr : mg "isinstance" = none) (fr2 : mg y = none) (hv : bootBuiltins y = some (.type T)) (ha : RE X W e m) (hN : Z.gl[i]? = some "isinstance" := by rfl) (hN2 : Z.gl[j]? = some y := by rfl)
    (hn : y ≠ "__name__" := by decide) (hs1 : starEach [e, .Name y p2] X.env = (false, eval e X.env) :: starEach [.Name y p2] X.env := by rfl) (hs2 : starEach [.Name y p2] X.env = (false, eval (.Name y p2) X.env) :: starEach [] X.env := by rfl) (hpl : (backTo pos (starEach [.Name y p2] X.env)).any (·.1) = false := by rfl) :
    RE X W (.Call (.Name "isinstance" p) [e, .Name y p2] [] pos) (eUn (opIsT T) m) := by
  obtain ⟨h1, h2⟩ := C.glo hN
  obtain ⟨h3, h4⟩ := C.glo hN2
  refine pe_weak (pe_callB call_isi h1 (by rw [C.pm]; exact fr) boot_isinstance (pa_cons ha (pa_cons (pe_bltn h3 (by rw [C.pm]; exact fr2) hv (show RelV (.ty T) _ from rfl) hn h4) pa_nil hs2) hs1) (by decide) h2 hs1 hpl) ?_
  rintro σ H Q ⟨w1, ρ, g, S0, L, o⟩
  refine bindM S0 L o fun d g1 x H1 w2 le S1 L1 rx o1 => ?_
  unfold opIsT at o1
  split at o1
  · rename_i t ht
    split at o1
    · rename_i b hb
      exact ⟨x, .ty T, .type t, .type T, b, rfl, .ty T, tyD_ok S1 rx ht, subT_ok hb, Out.here o1 S1 rep_bl'⟩
    · exact o1.elim
  · exact o1.elim

/-! ### a table of the module -/
/-- x: a written dict of texts by texts -/
structure Tb (K : PySem.W.Frag) (w : World) (mg : Str → Option Value) (x : Str) (tab : List (Str × Str)) : Prop where
  ex : ∃ (d : Addr) (es : Array DictEntry) (n : Nat), KDict K w d es n ∧ mg x = some (.ref d) ∧ ∀ z, ∃ r, PySem.W.nsIn K d z = some r ∧ (match tab.lookup z with
    | some y => ∃ t, r = some (.str y t)
    | none => r = none)
def eTab (tab : List (Str × Str)) (m mf : Exp) : Exp := fun ρ g => (m ρ g).bind fun d g1 => (mf ρ g1).bind fun e g2 => match d with
  | .str z => (match tab.lookup z with
    | some y => .ok (.str y) g2
    | none => .ok e g2)
  | _ => .no
theorem xTab {x : Str} {tab : List (Str × Str)} {apos : Pos} (C : Cc P w K mg base Z hot k X W) (i : Nat) (F : Tb K w mg x tab) (he : RE X W e m) (hf : RE X W f mf) (hN : Z.gl[i]? = some x := by rfl)
    (hb : attributeBase (.Name x p) "get" X.env (eval (.Name x p) X.env) = eval (.Name x p) X.env := by rfl)
    (few : ((backTo pos (starEach [e, f] X.env)).all (fun x => !x.1) && (backToKw pos (keywordEach [] X.env)).all (fun x => x.1.isSome) && decide (([e, f] : List Expr).length + ([] : List Keyword).length + (if ([] : List Keyword).isEmpty then 0 else 1) < 30)) = true := by rfl)
    (hl : (apos.endLine == pos.line) = true := by rfl) (ht : backTo pos (starEach [e, f] X.env) = [(false, eval e X.env), (false, eval f X.env)] := by rfl) :
    RE X W (.Call (.Attribute (.Name x p) "get" apos) [e, f] [] pos) (eTab tab m mf) := by
  obtain ⟨h1, h2⟩ := C.glo hN
  obtain ⟨d, es, n, D, hm, hx⟩ := F.ex
  refine ⟨fun pins s σ H Q I h => ?_⟩
  obtain ⟨w1, ρ, g, S0, L, o⟩ := h
  refine wpAny_Call_method hb few hl PySem.F.plainAttrs_dict PySem.F.slot_dict_get PySem.F.type_dict_get (ld_glob I h1 (by rw [C.pm]; exact hm) ?_ h2)
  have kin : ∀ {pins σ H s}, Inv X pins σ H s → s.heap.MapOf (strKind X.prog X.w) d (fun k => PySem.findBy Value.isStrOf es k) := fun I => PySem.W.mapOf_K I.kIn (by rw [C.pK]; exact D.at_) (by rw [C.pw]; exact D.lit)
  refine ⟨(kin I).typeIs, fun b q => ?_, ?_⟩
  · cases q
    exact (kin I).noDict d rfl
  · rw [ht]
    refine Calls.callWith_builtin rfl (Calls.evalArgs_plain (Calls.spliced_cons (thn (he.run pins s σ H _ I (bindM S0 L o fun d1 g1 x1 H1 w2 le S1 L1 r1 o1 => (?_ : tM X.K W mf σ H1 fun y H2 => ∃ z e' g2 w2 d2, x1 = .str z ∧ SG X.K w2 g2 H2 ∧ Rep X.K w2 y d2 ∧ Out X.K w2 (match tab.lookup z with
      | some y => R.ok (.str y) g2
      | none => .ok d2 g2) Q e'))) fun u s1 ⟨x1, H1, I1, ru, q1⟩ => Calls.spliced_cons (thn (hf.run pins s1 σ H1 _ I1 q1) fun u2 s2 ⟨y, H2, I2, ry, q2⟩ => Calls.spliced_nil ?_))))
    · refine bindM S1 L1 o1 fun d2 g2 y H2 w3 le2 S2 L2' r2 o2 => ?_
      split at o2
      · exact ⟨_, _, g2, w3, d2, rep_str r1, S2, r2, o2⟩
      · exact o2.elim
    · obtain ⟨z, E', g2, w2, d2, rfl, S2, r2, o2⟩ := q2
      obtain ⟨t, rfl⟩ := ru
      obtain ⟨r, hr, hq⟩ := hx z
      refine call_meetsIn PySem.F.slot_dict_get (kin I2).typeIs PySem.F.entry_dict_get (PySem.F.args_dict_get_3 _ _ _) (meets_dict_get_default (strKind X.prog X.w) d (strKind_is X.prog X.w z t) D.low u2) ⟨_, kin I2, ?_⟩
      rw [PySem.W.find_K D.at_ hr]
      cases e : tab.lookup z with
      | some y' =>
        rw [e] at hq o2
        obtain ⟨t', rfl⟩ := hq
        exact ⟨.str y', H2, I2.tok _, ⟨t', rfl⟩, Out.here o2 S2 rep_str'⟩
      | none =>
        rw [e] at hq o2
        subst hq
        exact ⟨y, H2, I2.tok _, ry, Out.here o2 S2 r2⟩
end
end Fw

set_option maxRecDepth 100000
set_option maxHeartbeats 4000000
/-! Fw, fifteenth part: rsplit with a limit, rfind, repr. -/
namespace Fw
open PySem PySem.Spec PyProof.Rows L2
open PySem.Builtin.Str (occurrencesFromRight partsBetween strKind)
section
variable {X : Cx} {K : PySem.W.Frag}
theorem mt_rspl : MtR X "str.rsplit" (fun x xs H Q => ∃ (a b : Str) (k : Int), x = .str a ∧ xs = [.str b, .int k] ∧ (b.length == 0) = false ∧ -(2 ^ 63) ≤ k ∧ k < 2 ^ 63 ∧ a.length + 2 ≤ sizeLine ∧ rNewStrs (Txt.rsplitMax a b k) H Q) := by
  rintro pins s σ H x xs v us Q Iv rx rs ⟨a, b, k, rfl, rfl, hb, k1, k2, hz, hq⟩
  obtain ⟨t, rfl⟩ := rx
  obtain ⟨u1, u2, rfl, ⟨u, rfl⟩, ⟨w, rfl⟩⟩ := vals2 rs
  have hk : (decide (k < -(2 ^ 63 : Int)) || decide (k ≥ 2 ^ 63)) = false := by
    rw [decide_eq_false (show ¬ k < -(2 ^ 63 : Int) by omega), decide_eq_false (show ¬ k ≥ 2 ^ 63 by omega), Bool.or_false]
  have few : (partsBetween a (occurrencesFromRight a b (limitOf a k)) b.length).length ≤ sizeLine := by
    have := StrLaws.occR_length_le_len a b (limitOf a k)
    rw [length_partsBetween]; omega
  have all : (Txt.rsplitMax a b k).length ≤ sizeLine := by
    unfold Txt.rsplitMax
    split
    · show 1 ≤ sizeLine; omega
    · split
      · show 1 ≤ sizeLine; omega
      · exact few
  cases c1 : (decide (a.length < b.length) || decide (strKind a < strKind b))
  · cases c2 : (occurrencesFromRight a b (limitOf a k)).isEmpty
    · refine call_meets F.slot_str_rsplit (typeIs_str _ _ _) F.entry_str_rsplit (F.args_str_rsplit_3 _ _ _) (meets_str_rsplit_sep_max a b k t u w hk c1 hb c2 (by omega) few) ?_
      show EP X pins σ Q (.ref s.heap.objs.size) { s with toks := _, heap := s.heap.push { cls := .type "list", data := .seq (strsFrom s.toks (partsBetween a (occurrencesFromRight a b (limitOf a k)) b.length)).toArray } }
      rw [strsFrom_eq]
      exact laid_strs (ys := Txt.rsplitMax a b k) Iv ((numbered_texts _ _).trans ((if_neg (ne_true_of_eq_false c1)).trans (if_neg (ne_true_of_eq_false c2))).symm) all hq
    · exact call_meets F.slot_str_rsplit (typeIs_str _ _ _) F.entry_str_rsplit (F.args_str_rsplit_3 _ _ _) (meets_str_rsplit_max_not_found a b k t u w hk c1 hb c2)
        (laid_strs (l := [(a, t)]) (ys := Txt.rsplitMax a b k) (k := s.toks) Iv ((if_neg (ne_true_of_eq_false c1)).trans (if_pos c2)).symm all hq)
  · exact call_meets F.slot_str_rsplit (typeIs_str _ _ _) F.entry_str_rsplit (F.args_str_rsplit_3 _ _ _) (meets_str_rsplit_max_cannot_occur a b k t u w hk c1)
      (laid_strs (l := [(a, t)]) (ys := Txt.rsplitMax a b k) (k := s.toks) Iv (if_pos c1).symm all hq)
def mRspl (d : D) (ds : List D) (g : Gr) : R := match d, ds with
  | .str a, [.str b, .int k] => if (b.length == 0) = false ∧ -9223372036854775808 ≤ k ∧ k < 9223372036854775808 ∧ a.length + 2 ≤ sizeLine then .ok (.lst ((Txt.rsplitMax a b k).map .str)) g else .no
  | _, _ => .no
theorem ms_rspl : MtS K "str" (fun x xs H Q => ∃ (a b : Str) (k : Int), x = .str a ∧ xs = [.str b, .int k] ∧ (b.length == 0) = false ∧ -(2 ^ 63) ≤ k ∧ k < 2 ^ 63 ∧ a.length + 2 ≤ sizeLine ∧ rNewStrs (Txt.rsplitMax a b k) H Q) tyS mRspl := by
  refine ⟨fun w g H x d S0 r h => tyS_ok r h, fun w g H x d vs ds Q E S0 rx rv o => ?_⟩
  unfold mRspl at o
  split at o
  · split at o
    · rename_i hz
      obtain ⟨v, u, rfl, h3, h4⟩ := repl2 rv
      exact ⟨_, _, _, rep_str rx, by rw [rep_str h3, rep_int h4], hz.1, by omega, by omega, hz.2.2.2, Out.newL o S0 (repl_strsD _)⟩
    · exact o.elim
  · exact o.elim
theorem mt_rfind' : MtR X "str.rfind" (fun x xs H Q => ∃ a b, x = .str a ∧ xs = [.str b] ∧ Q (.int (Txt.rfind a b)) H) := by
  rintro pins s σ H x xs v us Q Iv rx rs ⟨a, b, rfl, rfl, hq⟩
  obtain ⟨t, rfl⟩ := rx
  cases rs with
  | cons r1 rs =>
    cases rs
    obtain ⟨u, rfl⟩ := r1
    exact SC.rfind ⟨.int _, H, Iv.tok _, ⟨_, rfl⟩, hq⟩
theorem ms_rfind : MtS K "str" (fun x xs H Q => ∃ a b, x = .str a ∧ xs = [.str b] ∧ Q (.int (Txt.rfind a b)) H) tyS mRfind := ms_str2 fun _ _ => rfl

/-! ### repr -/
theorem toP_shd {d : PyData} (h : ndP d = true) : d.hasDict = false := by
  have both : (∀ d : PyData, ndP d = true → d.hasDict = false) := by
    intro d
    exact PyData.rec (motive_1 := fun d => ndP d = true → d.hasDict = false) (motive_2 := fun ds => ndP.ndAll ds = true → PyData.hasDictAll ds = false) (motive_3 := fun _ => True) (motive_4 := fun _ => True)
      (fun _ => rfl) (fun _ _ => rfl) (fun _ _ => rfl) (fun _ _ => rfl) (fun xs ih h => ih h) (fun xs ih h => ih h) (fun _ _ h => by cases h) (fun _ => rfl) (fun x xs i1 i2 h => by
        simp only [ndP.ndAll, Bool.and_eq_true] at h
        simp only [PyData.hasDictAll, i1 h.1, i2 h.2, Bool.or_false]) trivial (fun _ _ _ _ => trivial) (fun _ _ _ _ => trivial) d
  exact both d h
def rRpr (K : PySem.W.Frag) : List V → Hp → VK → Prop := fun xs H Q => ∃ x d, xs = [x] ∧ Dp K H x d ∧ ndP d = true ∧ d.depth ≤ 64 ∧ d.showable = true ∧ d.shown.length ≤ sizeLine ∧ Q (.str d.shown) H
theorem call_rpr (hu : X.A.units + 70 < cLine) (hg : X.A.guards = some []) : CallR X (.builtin "repr") (rRpr X.K) := by
  rintro pins s σ H xs us Q Iv r ⟨x, d, rfl, dp, nd, dd, sh, hz, q⟩
  cases r with
  | cons r1 rr =>
    cases rr
    obtain ⟨as, rd⟩ := Dp.reads Iv d x _ dp r1
    have fin : ∀ (k : Nat) (u : Tok), EP X pins σ Q (.str d.shown u) { s with toks := k } := fun k u => ⟨.str d.shown, H, Iv.tok _, ⟨u, rfl⟩, q⟩
    cases id rd with
    | none => exact P.repr_of_none (fin _ _)
    | bool b => exact P.repr_of_bool (by cases b <;> exact fin _ _)
    | int i t => exact P.repr_of_int (by simpa [PyData.showable] using sh) (fin _ _)
    | str z t => exact P.repr_of_str (fin _ _) hz
    | list h1 h2 h3 h4 =>
      exact repr_of_reads' rd sh (fun z => by rw [toP_shd nd] at z; cases z) hg (by omega) (fun _ _ e => e) (fun h' u tk kk => ⟨.str _, H, Iv.kept kk, ⟨u, rfl⟩, q⟩) hz
    | tuple h1 h2 h3 h4 =>
      exact repr_of_reads' rd sh (fun z => by rw [toP_shd nd] at z; cases z) hg (by omega) (fun _ _ e => e) (fun h' u tk kk => ⟨.str _, H, Iv.kept kk, ⟨u, rfl⟩, q⟩) hz
    | dict => cases nd
def fRepr : Fn := fun ds g => match ds with
  | [d] => (match toP g 8 d with
    | some p => if p.showable = true ∧ p.shown.length ≤ sizeLine then .ok (.str p.shown) g else .no
    | none => .no)
  | _ => .no
theorem c_repr : CaS K (rRpr K) fRepr := by
  intro w g H vs ds Q E S0 r o
  unfold fRepr at o
  split at o
  · split at o
    · rename_i p hp
      split at o
      · rename_i hz
        obtain ⟨v, rfl, h1⟩ := repl1 r
        obtain ⟨a1, a2, a3⟩ := toP_ok S0 _ _ _ _ h1 hp
        exact ⟨v, p, rfl, a1, a2, by omega, hz.1, hz.2, Out.here o S0 rep_str'⟩
      · exact o.elim
    · exact o.elim
  · exact o.elim
end
end Fw

set_option maxRecDepth 100000
set_option maxHeartbeats 4000000
/-! Fw: a law's end; what the head tells besides. -/
namespace Fw
open PySem PySem.Spec PyProof.Rows L2

/-! ### more facts of the written part -/
def noLst (K : PySem.W.Frag) : Bool := K.all fun p => match p.2.cls with
  | .type n => !(decide (n = "list"))
  | _ => true
theorem lookup_in {a : Addr} {o : Obj} : ∀ {l : List (Addr × Obj)}, l.lookup a = some o → ∃ b, (b, o) ∈ l
  | [], h => nomatch h
  | (b, u) :: l, h => by
    simp only [List.lookup] at h
    split at h
    · cases h; exact ⟨b, List.mem_cons_self⟩
    · obtain ⟨c, hc⟩ := lookup_in h
      exact ⟨c, List.mem_cons_of_mem _ hc⟩
theorem noLst_ok {K : PySem.W.Frag} (h : noLst K = true) {a : Addr} {o : Obj} (e : K.lookup a = some o) : o.cls ≠ .type "list" := by
  obtain ⟨b, hb⟩ := lookup_in e
  have := List.all_eq_true.mp h _ hb
  intro z
  simp only [z] at this
  simp at this
/-- a table's entries, as texts -/
def rowT (e : DictEntry) : Option (Str × Str) := match e.key, e.val with
  | .str x _, .str y _ => some (x, y)
  | _, _ => none
def txtB (K : PySem.W.Frag) (x : Str) (tab : List (Str × Str)) : Bool := match K.lookup (He.ga K x) with
  | some ⟨_, _, .dict es _, _⟩ => decide (es.toList.map rowT = tab.map some)
  | _ => false
theorem find_tab (z : Str) : ∀ {es : List DictEntry} {tab : List (Str × Str)}, es.map rowT = tab.map some → (match tab.lookup z with
    | some y => ∃ t e, es.find? (·.key.isStr z) = some e ∧ e.val = .str y t
    | none => es.find? (·.key.isStr z) = none ∧ es.any (·.refKey) = false)
  | [], [], _ => ⟨rfl, rfl⟩
  | [], q :: tab, h => by cases h
  | e :: es, [], h => by cases h
  | e :: es, (x, y) :: tab, h => by
    rw [List.map_cons, List.map_cons] at h
    injection h with h1 h2
    have ih := find_tab z h2
    unfold rowT at h1
    split at h1
    · rename_i a t b u hk hv
      cases h1
      have ek : e.key.isStr z = (z == x) := by
        rw [hk]
        show (x == z) = (z == x)
        exact Bool.beq_comm
      have er : e.refKey = false := by
        unfold DictEntry.refKey
        rw [hk]
      cases hz : z == x with
      | true =>
        simp only [List.lookup, hz, List.find?_cons, ek]
        exact ⟨u, e, rfl, hv⟩
      | false =>
        simp only [List.lookup, hz, List.find?_cons, ek, List.any_cons, er, Bool.false_or]
        exact ih
    · cases h1
theorem tb_of {K : PySem.W.Frag} {w : World} {mg : Str → Option Value} {x : Str} {tab : List (Str × Str)} (hm : mg x = some (.ref (He.ga K x))) (D : ∃ es n, KDict K w (He.ga K x) es n) (h : txtB K x tab = true) : Tb K w mg x tab := by
  obtain ⟨es, n, D⟩ := D
  refine ⟨_, es, n, D, hm, fun z => ?_⟩
  unfold txtB at h
  rw [D.at_] at h
  have h' : es.toList.map rowT = tab.map some := of_decide_eq_true h
  have q := find_tab z h'
  unfold PySem.W.nsIn
  rw [D.at_]
  cases e : tab.lookup z with
  | some y =>
    rw [e] at q
    obtain ⟨t, en, h1, h2⟩ := q
    exact ⟨some en.val, by simp only [h1], t, by rw [h2]⟩
  | none =>
    rw [e] at q
    obtain ⟨h1, h2⟩ := q
    refine ⟨none, ?_, rfl⟩
    simp only [h1]
    rw [if_neg (by rw [h2]; exact Bool.false_ne_true)]

/-! ### the end -/
theorem repl_ints {K : PySem.W.Frag} {w : Wd} : ∀ ns : List Int, RepL K w (ns.map V.int) (ns.map D.int)
  | [] => by simp only [List.map_nil, RepL]
  | n :: ns => by simp only [List.map_cons, RepL]; exact ⟨_, _, rfl, rep_int', repl_ints ns⟩
theorem law_callM {P : Program} {w : World} {K : PySem.W.Frag} {mg mb : Str → Option Value} {k : Nat} {fa a : Addr} {fd : FuncData} {x : Str} {m : Fn} {s₁ : Shared} {vs : List Value} {ns : List Int}
    (KX : K.In s₁.heap) (hns : s₁.heap.Ns mainGlobals mg) (hb : s₁.heap.Ns builtinsNs mb) (hbb : ∀ x : Str, x ≠ "__name__" → mb x = bootBuiltins x) (hlim : s₁.heap.NoLimit) (hg : s₁.gens = #[])
    (ha : s₁.heap.get? a = some { cls := .type "list", data := .seq vs.toArray }) (hi : IntsAre vs ns) (hl : ns.length ≤ sizeLine) (hr : RM k callerA) (nl : noLst K = true)
    (F : ∀ base : Heap, K.In base → base.Ns mainGlobals mg → FnM P w K mg base none k fa fd [x] (spM K 1 m)) (hbind : ∀ (s : Shared) (u : Value), BindsTo s fd ⟨[u], []⟩ [(x, u)])
    (hm : ∃ g', m [.lst (ns.map .int)] [] = .ok (.bl true) g') :
    codeAny (model P w) callerA (.call (.ref fa) ⟨[.ref a], []⟩) (fun r s' => r = .ok (.ret (.bool true)) ∧ OldK s₁.heap s'.heap ∧ s'.os = s₁.os ∧ AllBare s'.gens) s₁ := by
  have rv := vals_ints hi
  have notK : K.lookup a = none := by
    cases e : K.lookup a with
    | none => rfl
    | some o =>
      have q := KX a o e
      rw [ha] at q
      cases q
      exact absurd rfl (noLst_ok nl e)
  let so : Obj := { cls := .type "list", data := .seq vs.toArray }
  let H : Hp := fun b => if b = a then some (.frz so (.lst (ns.map V.int))) else none
  have Ha : H a = some (.frz so (.lst (ns.map V.int))) := if_pos rfl
  have Hn : ∀ {b}, b ≠ a → H b = none := fun n => if_neg n
  have Hs : ∀ {b u}, H b = some u → b = a ∧ u = .frz so (.lst (ns.map V.int)) := fun {b u} e => by
    by_cases z : b = a
    · subst z; rw [Ha] at e; exact ⟨rfl, (Option.some.inj e).symm⟩
    · rw [Hn z] at e; cases e
  have hok : HOk P w H s₁.heap := fun b u e => by
    obtain ⟨rfl, rfl⟩ := Hs e
    exact ⟨ha, by rw [List.length_map]; exact hl, vs, _, rv, ha⟩
  have under : ∀ {b : Addr} {o : Obj}, s₁.heap.get? b = some o → b ≠ a → (hidT s₁.heap H).get? b = some o := fun e n => hidT_get e (Hn n)
  have dictNe : ∀ {b : Addr} {o : Obj} {es : Array DictEntry} {ep : Nat}, s₁.heap.get? b = some o → o.data = .dict es ep → b ≠ a := fun {b o es ep} e d z => by
    subst z
    rw [ha] at e; cases e
    have d' : Data.seq vs.toArray _ = Data.dict es ep := d
    cases d'
  have nsU : ∀ {b : Addr} {mm : Str → Option Value}, s₁.heap.Ns b mm → (hidT s₁.heap H).Ns b mm := fun {b mm} ⟨o, es, ep, e, d, r⟩ => ⟨o, es, ep, under e (dictNe e d), d, r⟩
  have hKb : K.In (hidT s₁.heap H) := fun b o e => under (KX b o e) fun z => by subst z; rw [notK] at e; cases e
  have hM : Mod K mg (hidT s₁.heap H) := ⟨hKb, nsU hns, ⟨mb, nsU hb, hbb⟩, let ⟨mc, h1, h2⟩ := hlim; ⟨mc, nsU h1, h2⟩⟩
  have e0 : Env0 P w K mg (hidT s₁.heap H) callerA [] s₁ H := ⟨rfl, hM, fun b o e => of_hidT e, Nat.le_of_eq (hidT_size _ _), trivial, fun b hb => absurd (show b ∈ ([] : List Addr) from hb) (by simp), hok, .of_eq hg⟩
  have sp : spM K 1 m [.ref a] H (fun v _ => v = .bl true) fun _ _ _ => False := by
    obtain ⟨g', e⟩ := hm
    refine ⟨rfl, ⟨H, fun _ => 0, 0, fun _ => none⟩, [], [.lst (ns.map .int)], ⟨Exn.refl _, rfl, fun l c h => by simp at h, fun l l' c c' h => by simp at h, fun b o h => (by cases h), fun b o h => (by cases h), fun b o l c h => (by cases h)⟩, ?_, ?_⟩
    · refine RepL.one ?_
      simp only [Rep]
      exact ⟨a, ns.map V.int, rfl, .inr ⟨so, Ha⟩, repl_ints ns⟩
    · rw [e]
      exact fun v H' w' le S r => rep_blv r
  refine codeAny_mono ((F _ hKb (nsU hns)).run callerA [] s₁ H ⟨[.ref a], []⟩ [.ref a] [.ref a] _ _ hr rfl e0 (hbind s₁ (.ref a)) (.cons rfl .nil) sp) fun r s' h => ?_
  cases r with
  | error e =>
    obtain ⟨_, _, _, _, _, _, _, _, _, _, _, _, z⟩ := h
    exact z.elim
  | ok fl =>
    cases fl with
    | next => exact False.elim h
    | brk => exact False.elim h
    | cont => exact False.elim h
    | ret u =>
      obtain ⟨v, H', os, bare, un, hok', r', q⟩ := h
      have q' : v = .bl true := q
      subst q'
      obtain rfl : u = Value.bool true := r'
      refine ⟨rfl, OldK.of_keep fun b o e => ?_, os, bare⟩
      by_cases z : b = a
      · subst z
        have z2 := un.frzs b so _ Ha
        obtain ⟨e2, _⟩ := hok' b _ z2
        rw [ha] at e; cases e
        exact e2
      · exact un.keep b o e (Hn z) (by intro y; exact absurd (show b ∈ ([] : List Addr) from y) (by simp)) (by simp)
/-- a law, from its machine -/
theorem walk_ofM {l : PySem.W.OpenLaw} {n k : Nat} {q : Program} {loose : List Str} {XP : (Str → Option Value) → Heap → Prop} {YP : World → Heap → Prop} {d : DefRec} {x : Str} {m : Fn}
    (hn : l.most = some n) (hn2 : n ≤ sizeLine) (hdf : d.params.defaults = []) (hr : RM k callerA)
    (F : ∀ (w : World) (mg : Str → Option Value) (fa : Addr) (h : Heap), YP w h → h.Ns mainGlobals mg → mg d.name = some (.ref fa) →
      ∃ (K : PySem.W.Frag) (fd : FuncData), K.In h ∧ noLst K = true ∧ (∀ (s : Shared) (u : Value), BindsTo s fd ⟨[u], []⟩ [(x, u)]) ∧
        ∀ base : Heap, K.In base → base.Ns mainGlobals mg → FnM l.prog w K mg base none k fa fd [x] (spM K 1 m))
    (hm : ∀ ns : List Int, ns.length ≤ n → (∀ z ∈ ns, Builtin.Int.intBits z ≤ 1048576) → ∃ g', m [.lst (ns.map .int)] [] = .ok (.bl true) g') :
    PySem.W.WalkO q loose XP YP l.row.toRowW d [] (fun f vs => PySem.call f vs) := by
  refine Att.attach_callB hn hdf fun w s₀ s₁ mg mb fa o pm cd doc a vs ns G Y ho hd hcd hmg hobj hints hlen hbits hg => ?_
  obtain ⟨K, fd, KX, nl, hb, hF⟩ := F w mg fa _ Y G.T.g hmg
  exact law_callM KX G.T.g G.T.b G.T.builtins G.T.nolimit hg hobj hints (Nat.le_trans hlen hn2) hr nl hF hb (hm ns hlen hbits)
end Fw

set_option maxRecDepth 100000
set_option maxHeartbeats 4000000
/-! Fw: comprehensions over a context's facts; what is never reached. -/
namespace Fw
open PySem PySem.Spec PyProof.Rows L2

/-! ### never reached -/
def iNo : Src := fun _ _ => .no
section
variable {X : Cx} {W : WX} {st : Stmt} {b : List Stmt} {tg e : Expr}
theorem rsrc_no : RSrc X W tg e iNo := ⟨fun pins s σ H R I h => by obtain ⟨w, ρ, g, S0, L, o⟩ := h; exact o.elim⟩
end

/-! ### the comprehension's scope -/
def relab (sc scope : Scope) : Scope := { scope with names := scope.names.map fun (n, k) => if (k == .free && sc.kind == .function && sc.names.lookup n == some .cell) then (n, .cell) else (n, k) }
theorem relab_eq {env : Env} {sc scope : Scope} (h : env.scope = sc) : relabel scope env = relab sc scope := by subst h; rfl
def isCell (scope : Scope) (x : Str) : Bool := scope.names.lookup x == some .cell
section
variable {P : Program} {w : World} {K : PySem.W.Frag} {mg : Str → Option Value} {base : Heap} {N : List Str} {sc scope : Scope} {vi ow vi' ow' : List Nat} {gl gl' : List Str} {top : Bool} {k : Nat} {X : Cx} {W : WX}
theorem Cc.blk (C : Cc P w K mg base ⟨N, sc, vi, ow, gl, top⟩ none k X W) (s : Shared) (H : Hp) (D : Addr) (cl : List (Str × Addr)) (fp : List Addr)
    (ok : (Sc.okV ⟨N, relab sc scope, vi', ow', gl', false⟩ && (Sc.okG ⟨N, relab sc scope, vi', ow', gl', false⟩ && Sc.okS ⟨N, relab sc scope, vi', ow', gl', false⟩ (isCell scope))) = true) :
    Cc P w K mg base ⟨N, relab sc scope, vi', ow', gl', false⟩ none k (X.blk s H scope (compEnvC scope cl D X.env) fp) NoW := by
  simp only [Bool.and_eq_true] at ok
  obtain ⟨o1, o2, o3⟩ := ok
  exact { pP := C.pP, pw := C.pw, pK := C.pK, pm := C.pm, pb := C.pb, nn := C.nn, ss := relab_eq C.ss, nd := C.nd, room := C.room,
          tk := fun u s' h => by obtain ⟨_, _, _, _, _, _, _, _, _, _, _, _, _, _, _, _, z⟩ := h; exact z.elim
          pass := PassesOwn.never, md := C.calm, okv := o1, okg := o2, oks := o3, stk := fun z => by cases z }
variable {elt tg iter : Expr} {ifs : List Expr} {own : List (Str × Nat)} {pos : Pos} {ms : Src} {mt : Tg} {mc me : Exp} {fin : List D → Gr → R}
theorem xLc (C : Cc P w K mg base ⟨N, sc, vi, ow, gl, top⟩ none k X W) (hfin : FinOk X.K fin) (own : List (Str × Nat)) (vi' ow' : List Nat) (gl' : List Str)
    (ok : (blkC N sc scope own && (Sc.okV ⟨N, relab sc scope, vi', ow', gl', false⟩ && (Sc.okG ⟨N, relab sc scope, vi', ow', gl', false⟩ && Sc.okS ⟨N, relab sc scope, vi', ow', gl', false⟩ (isCell scope)))) = true)
    (hi : RSrc X W tg iter ms)
    (hb : ∀ X' : Cx, Cc P w K mg base ⟨N, relab sc scope, vi', ow', gl', false⟩ none k X' NoW → X'.K = X.K → RG X' (own.map (·.2)) tg mt ∧ RTs X' NoW ifs mc ∧ RE X' NoW elt me)
    (hs : ∀ x, foldedSetIterable iter X.env x = pure x := by intro _; rfl) : RE X W (.ListComp elt [⟨tg, iter, ifs, 0⟩] scope pos) (eLc fin ms (own.map (·.2)) mt mc me) := by
  obtain ⟨o0, o1⟩ := Bool.and_eq_true_iff.mp ok
  exact re_lc hfin C.calm (by rw [C.nn]; exact C.nd) hi (by rw [C.nn, C.ss]; exact blkOk_by o0) (fun s H D cl fp => (hb _ (C.blk s H D cl fp o1) rfl).1) (fun s H D cl fp => (hb _ (C.blk s H D cl fp o1) rfl).2.1) (fun s H D cl fp => (hb _ (C.blk s H D cl fp o1) rfl).2.2) hs
theorem xSetLc (C : Cc P w K mg base ⟨N, sc, vi, ow, gl, top⟩ none k X W) (i : Nat) {y : Str} {py spos : Pos} (hfin : FinOk X.K fin) (own : List (Str × Nat)) (vi' ow' : List Nat) (gl' : List Str)
    (ok : (blkC N sc scope own && (Sc.okV ⟨N, relab sc scope, vi', ow', gl', false⟩ && (Sc.okG ⟨N, relab sc scope, vi', ow', gl', false⟩ && Sc.okS ⟨N, relab sc scope, vi', ow', gl', false⟩ (isCell scope)))) = true)
    (hi : RSrc X W tg iter ms)
    (hb : ∀ X' : Cx, Cc P w K mg base ⟨N, relab sc scope, vi', ow', gl', false⟩ none k X' NoW → X'.K = X.K → RG X' (own.map (·.2)) tg mt ∧ RTs X' NoW ifs mc ∧ RE X' NoW elt me)
    (hy : N[i]? = some y := by rfl) (hyl : sc.names.lookup y = some .local := by rfl)
    (hsw : swapsWith (.ListComp elt [⟨tg, iter, ifs, 0⟩] scope pos) (some (.Name y py)) spos.line X.env = pure true := by rfl) (hs : ∀ x, foldedSetIterable iter X.env x = pure x := by intro _; rfl) :
    RS X W (.Assign [.Name y py] (.ListComp elt [⟨tg, iter, ifs, 0⟩] scope pos) spos) (sAsg (gVar i) (eLc fin ms (own.map (·.2)) mt mc me)) := by
  obtain ⟨o0, o1⟩ := Bool.and_eq_true_iff.mp ok
  exact rs_setLc i hfin C.calm (by rw [C.nn]; exact C.nd) (by rw [C.nn]; exact hy) (by rw [C.ss]; exact hyl) hsw hi (by rw [C.nn, C.ss]; exact blkOk_by o0) (fun s H D cl fp => (hb _ (C.blk s H D cl fp o1) rfl).1) (fun s H D cl fp => (hb _ (C.blk s H D cl fp o1) rfl).2.1) (fun s H D cl fp => (hb _ (C.blk s H D cl fp o1) rfl).2.2) hs
end

section
variable {P : Program} {w : World} {K : PySem.W.Frag} {mg : Str → Option Value} {base : Heap} {Z : Sc} {hot : Option (Nat × Str)} {k : Nat} {X : Cx} {W : WX}
theorem Cc.units64 (C : Cc P w K mg base Z hot k X W) : X.A.units + 64 < cLine := C.room.units
theorem Cc.units70 (C : Cc P w K mg base Z hot k X W) : X.A.units + 70 < cLine := by have := C.room.un; omega
end
section
variable {X : Cx} {W : WX} {a b c e : Expr} {ma mb mc : Exp} {pos : Pos}
theorem rt_no : RT X W e eNo := ⟨fun pins s σ H Q I h => by obtain ⟨w, ρ, g, S0, L, o⟩ := h; exact o.elim⟩
theorem re_chain {op op' : CmpOp} {r r' : R2} {p q : D → D → Gr → R} (ho : OpR X (compareOp op) r) (hs : OpS X r p) (ho' : OpR X (compareOp op') r') (hs' : OpS X r' q) (ha : RE X W a ma) (hb : RE X W b mb) (hc : RE X W c mc)
    (hm : lastMarks [op, op'] [b, c] = false := by with_unfolding_all rfl) : RE X W (.Compare a [op, op'] [b, c] pos) (eChain p q ma mb mc) :=
  pe_weak (pe_chain ho ho' ha hb hc hm) fun _ _ _ h => read_chain (c := c) hs hs' h
theorem rt_chain {op op' : CmpOp} {r r' : R2} {p q : D → D → Gr → R} (ho : OpR X (compareOp op) r) (hs : OpS X r p) (ho' : OpR X (compareOp op') r') (hs' : OpS X r' q) (ha : RE X W a ma) (hb : RE X W b mb) (hc : RE X W c mc)
    (hm : lastMarks [op, op'] [b, c] = false := by with_unfolding_all rfl) : RT X W (.Compare a [op, op'] [b, c] pos) (eChain p q ma mb mc) :=
  pt_weak (pt_chain ho ho' ha hb hc hm) (test_of fun _ _ _ h => read_chain (c := c) hs hs' h)
end
/-! ### lists' methods -/
def tyL (d : D) (g : Gr) : Bool := (viewL g d).isSome
/-- a list's cell -/
def viewC (g : Gr) : D → Option (Nat × List D)
  | .obj l => (match g[l]? with
    | some (.lst ds) => some (l, ds)
    | _ => none)
  | _ => none
theorem viewC_ok {K : PySem.W.Frag} {w : Wd} {g : Gr} {H : Hp} {v : V} {d : D} {l : Nat} {ds : List D} (S0 : SG K w g H) (r : Rep K w v d) (e : viewC g d = some (l, ds)) :
    d = .obj l ∧ v = .ref (w.mm l) ∧ g[l]? = some (.lst ds) ∧ ∃ xs, H (w.mm l) = some (.lst xs) ∧ RepL K w xs ds := by
  cases d with
  | obj j =>
    simp only [viewC] at e
    split at e
    · rename_i es hl
      cases e
      simp only [Rep] at r
      obtain ⟨_, xs, h1, h2⟩ := S0.cell _ _ hl
      exact ⟨rfl, r.2, hl, xs, h1, h2⟩
    · cases e
  | _ => simp only [viewC] at e; cases e
theorem SG.setL {K : PySem.W.Frag} {w : Wd} {g : Gr} {H : Hp} {l : Nat} {ds es : List D} {ys : List V} (S0 : SG K w g H) (hl : g[l]? = some (.lst ds)) (r : RepL K w ys es) : SG K w (g.set l (.lst es)) (upd H (w.mm l) (.lst ys)) :=
  S0.setC hl rfl (by obtain ⟨f0, _⟩ := S0.cell l _ hl; exact ⟨f0, ys, upd_same, r⟩) rfl
section
variable {K : PySem.W.Frag}
theorem tyL_ok {w : Wd} {g : Gr} {H : Hp} {x : V} {d : D} (S0 : SG K w g H) (r : Rep K w x d) (h : tyL d g = true) : tyV K "list" x H := by
  unfold tyL at h
  obtain ⟨ds, e⟩ := Option.isSome_iff_exists.mp h
  obtain ⟨a, xs, rfl, h1, _⟩ := viewL_ok S0 r e
  exact .inl ⟨rfl, xs, .inl h1⟩
def mAppend (d : D) (ds : List D) (g : Gr) : R := match ds with
  | [e] => (match viewC g d with
    | some (l, xs) => if xs.length < sizeLine then .ok .non (g.set l (.lst (xs ++ [e]))) else .no
    | none => .no)
  | _ => .no
theorem ms_append : MtS K "list" rAppend tyL mAppend := by
  refine ⟨fun w g H x d S0 r h => tyL_ok S0 r h, fun w g H x d vs ds Q E S0 rx rv o => ?_⟩
  unfold mAppend at o
  split at o
  · split at o
    · rename_i l xs h
      split at o
      · rename_i hz
        obtain ⟨v, rfl, h3⟩ := repl1 rv
        obtain ⟨_, rfl, hl, ys, h1, h2⟩ := viewC_ok S0 rx h
        exact ⟨_, ys, v, rfl, rfl, h1, by rw [h2.length]; exact hz, Out.here o (S0.setL hl (RepL.app (RepL.one h3) h2)) rep_non'⟩
      · exact o.elim
    · exact o.elim
  · exact o.elim
end
theorem mt_app {X : Cx} : MtR X "list.append" rAppend := mt_append
end Fw

set_option maxRecDepth 100000
set_option maxHeartbeats 4000000
/-! Fw: list(zip(a, b)), a, b texts or lists. -/
namespace Fw
open PySem PySem.Spec PyProof.Rows L2
abbrev Zi (h : Heap) (z TI TO T : Addr) (f : Bool) : Prop := h.get? z = some { cls := .type "zip", dict := none, data := .fields #[rawInt T, .bool f, .bool false, .ref TI, .ref TO], slots := #[] }
section
variable {prog : Program} {w : World} {A : Around} {E : Value → Shared → Prop} {s : Shared} {z TI TO i1 i2 T : Addr} {fp1 fp2 : List Addr} {n1 n2 i : Nat} {P1 P2 : Nat → Value → Prop} {St1 St2 : Nat → Heap → Prop} {f : Bool} {oT : Obj}
theorem zipN_free {Q : Bool → Shared → Prop} (hz : Zi s.heap z TI TO T f) (hT : s.heap.get? T = some oT) (h : ∀ h', Zi h' z TI TO T true → Heap.SameBut z s.heap h' → Q false { s with heap := h' }) :
    wpAny (model prog w) A (Builtin.SmallTypes.ownedTupleIsFree (.ref z)) Q E s := by
  unfold Builtin.SmallTypes.ownedTupleIsFree
  refine wpAny_bind (wpAny_field hz rfl (x := rawInt T) rfl ?_)
  show wpAny _ _ (loadIfAlive ((T : Int).toNat) >>= _) _ _ _
  rw [Int.toNat_natCast]
  refine wpAny_bind (PySem.W.kdx_alive hT ?_)
  simp only [Option.isNone_some, Bool.false_eq_true, if_false]
  refine wpAny_bind (wpAny_field hz rfl (x := .bool f) rfl ?_)
  cases f with
  | true =>
    rw [if_neg (show ¬ ((Value.bool true != Value.bool true) = true) from Bool.false_ne_true)]
    exact wpAny_pure (h _ hz (Heap.SameBut.refl _ _))
  | false =>
    rw [if_pos (show (Value.bool false != Value.bool true) = true from rfl)]
    refine wpAny_bind (wpAny_setField_rec hz (by simp) fun h3 e3 s3 => wpAny_pure (h h3 e3 s3))
theorem zipN_item {Q : Value → Shared → Prop} (D1 : Draws prog w A i1 fp1 n1 P1 St1) (D2 : Draws prog w A i2 fp2 n2 P2 St2) (S : ZipSep2 z TI TO i1 i2 fp1 fp2)
    (hz : Zi s.heap z TI TO T f) (hT : s.heap.get? T = some oT) (hTI : IsTupOf2 s.heap TI (.ref i1) (.ref i2)) (st1 : St1 i s.heap) (st2 : St2 i s.heap) (l1 : i < n1) (l2 : i < n2)
    (hQ : ∀ x1 x2 h' tk, P1 i x1 → P2 i x2 → Zi h' z TI TO T true → St1 (i + 1) h' → St2 (i + 1) h' → IsTupOf2 h' s.heap.objs.size x1 x2 → h'.objs.size = s.heap.objs.size + 1 →
      (∀ c o, c ≠ z → c ≠ i1 → c ≠ i2 → s.heap.get? c = some o → h'.get? c = some o) → Q (.ref s.heap.objs.size) { s with heap := h', toks := tk }) :
    wpAny (model prog w) A (Builtin.«zip.__next__» ⟨[.ref z], []⟩) (fun fin s' => ∃ v, fin = .done (.ret v) ∧ Q v s') E s := by
  obtain ⟨hp, g, d, tk0, os⟩ := s
  show wpAny _ _ (field (.ref z) 2 >>= _) _ _ _
  refine wpAny_bind (wpAny_field hz rfl (x := .bool false) rfl ?_)
  show wpAny _ _ (field (.ref z) 3 >>= _) _ _ _
  refine wpAny_bind (wpAny_field hz rfl (x := .ref TI) rfl ?_)
  refine wpAny_bind (wpAny_seqItems hTI rfl ?_)
  show wpAny _ _ (Builtin.SmallTypes.ownedTupleIsFree (.ref z) >>= _) _ _ _
  refine wpAny_bind (zipN_free hz hT fun g0 hz0 hs0 => ?_)
  replace hs0 : Heap.SameBut z hp g0 := hs0
  simp only [Bool.false_eq_true, if_false]
  simp only [List.forIn_toArray, List.forIn_cons, List.forIn_nil]
  refine wpAny_bind (wpAny_bind (wpAny_bind (wpAny_holding ?_)))
  show wpAny _ _ (Builtin.SmallTypes.nextOf (.ref i1) >>= _) _ _ ⟨g0, g, d, tk0, os⟩
  refine wpAny_bind (D1.item i _ _ _ l1 (D1.over st1 hs0 S.zf1) fun x1 p1 tk1 hx1 sn1 hp1 => wpAny_pure ?_)
  replace hp1 : Heap.SameBut i1 g0 p1 := hp1
  refine wpAny_pure ?_
  refine wpAny_bind (wpAny_bind (wpAny_holding ?_))
  show wpAny _ _ (Builtin.SmallTypes.nextOf (.ref i2) >>= _) _ _ ⟨p1, g, d, tk1, os⟩
  refine wpAny_bind (D2.item i _ _ _ l2 (D2.over (D2.over st2 hs0 S.zf2) hp1 S.sep1_2) fun x2 p2 tk2 hx2 sn2 hp2 => wpAny_pure ?_)
  replace hp2 : Heap.SameBut i2 p1 p2 := hp2
  refine wpAny_pure (wpAny_pure ?_)
  show wpAny _ _ (newTuple [x1, x2] >>= _) _ _ ⟨p2, g, d, tk2, os⟩
  refine wpAny_bind (wpAny_newTuple ?_)
  have hsz : p2.objs.size = hp.objs.size := by rw [hp2.1, hp1.1, hs0.1]
  have hzz : Zi p2 z TI TO T true := hp2.extBut _ _ S.zi2 (hp1.extBut _ _ S.zi1 hz0)
  have kk : ∀ c o, c ≠ z → c ≠ i1 → c ≠ i2 → hp.get? c = some o → p2.get? c = some o := fun c o cz c1 c2 e => hp2.extBut _ _ c2 (hp1.extBut _ _ c1 (hs0.extBut _ _ cz e))
  refine wpAny_pure ⟨_, rfl, ?_⟩
  show Q (.ref p2.objs.size) ⟨p2.push { cls := .type "tuple", data := .seq #[x1, x2] }, g, d, tk2, os⟩
  have hT2 : (p2.push { cls := .type "tuple", data := .seq #[x1, x2] }).get? p2.objs.size = some { cls := .type "tuple", data := .seq #[x1, x2] } := Heap.get?_push_size _ rfl
  rw [hsz] at hT2 ⊢
  exact hQ x1 x2 _ tk2 hx1 hx2 (Heap.get?_push_of_some _ hzz) (D1.frame _ _ _ (D1.over sn1 hp2 S.sep2_1) fun b hb o e => Heap.get?_push_of_some _ e) (D2.frame _ _ _ sn2 fun b hb o e => Heap.get?_push_of_some _ e) hT2 (by rw [Heap.size_push, hsz])
    fun c o cz c1 c2 e => Heap.get?_push_of_some _ (kk c o cz c1 c2 e)
theorem zipN_end {Q : Fin → Shared → Prop} (D1 : Draws prog w A i1 fp1 n1 P1 St1) (D2 : Draws prog w A i2 fp2 n2 P2 St2) (S : ZipSep2 z TI TO i1 i2 fp1 fp2)
    (hz : Zi s.heap z TI TO T f) (hT : s.heap.get? T = some oT) (hTI : IsTupOf2 s.heap TI (.ref i1) (.ref i2)) (st1 : St1 i s.heap) (st2 : St2 i s.heap) (l1 : i ≤ n1) (l2 : i ≤ n2) (hend : i = n1 ∨ i = n2)
    (hE : ∀ h' tk e, (∀ c o, c ≠ z → c ≠ i1 → c ≠ i2 → s.heap.get? c = some o → h'.get? c = some o) → (∃ o, h'.get? e = some o ∧ o.cls = .type "StopIteration") → E (.ref e) { s with heap := h', toks := tk }) :
    wpAny (model prog w) A (Builtin.«zip.__next__» ⟨[.ref z], []⟩) Q E s := by
  obtain ⟨hp, g, d, tk0, os⟩ := s
  show wpAny _ _ (field (.ref z) 2 >>= _) _ _ _
  refine wpAny_bind (wpAny_field hz rfl (x := .bool false) rfl ?_)
  show wpAny _ _ (field (.ref z) 3 >>= _) _ _ _
  refine wpAny_bind (wpAny_field hz rfl (x := .ref TI) rfl ?_)
  refine wpAny_bind (wpAny_seqItems hTI rfl ?_)
  show wpAny _ _ (Builtin.SmallTypes.ownedTupleIsFree (.ref z) >>= _) _ _ _
  refine wpAny_bind (zipN_free hz hT fun g0 hz0 hs0 => ?_)
  replace hs0 : Heap.SameBut z hp g0 := hs0
  simp only [Bool.false_eq_true, if_false]
  simp only [List.forIn_toArray, List.forIn_cons, List.forIn_nil]
  refine wpAny_bind (wpAny_bind (wpAny_bind (wpAny_holding ?_)))
  show wpAny _ _ (Builtin.SmallTypes.nextOf (.ref i1) >>= _) _ _ ⟨g0, g, d, tk0, os⟩
  by_cases l3 : i < n1
  · refine wpAny_bind (D1.item i _ _ _ l3 (D1.over st1 hs0 S.zf1) fun x1 p1 tk1 hx1 sn1 hp1 => wpAny_pure ?_)
    replace hp1 : Heap.SameBut i1 g0 p1 := hp1
    refine wpAny_pure ?_
    refine wpAny_bind (wpAny_bind (wpAny_holding ?_))
    show wpAny _ _ (Builtin.SmallTypes.nextOf (.ref i2) >>= _) _ _ ⟨p1, g, d, tk1, os⟩
    have e2 : i = n2 := by omega
    exact wpAny_bind (D2.done ⟨p1, g, d, tk1, os⟩ _ _ (by rw [← e2]; exact D2.over (D2.over st2 hs0 S.zf2) hp1 S.sep1_2) fun q e hq he => hE q tk1 e (fun c o cz c1 c2 x => hq _ _ c2 (hp1.extBut _ _ c1 (hs0.extBut _ _ cz x))) he)
  · have e1 : i = n1 := by omega
    exact wpAny_bind (D1.done ⟨g0, g, d, tk0, os⟩ _ _ (by rw [← e1]; exact D1.over st1 hs0 S.zf1) fun q e hq he => hE q tk0 e (fun c o cz c1 c2 x => hq _ _ c1 (hs0.extBut _ _ cz x)) he)
end
/-- the zip's record behind i items: none handed out, or the last one, beyond lo, alive -/
def ZiAt (lo : Addr) (h : Heap) (z TI TO : Addr) (i : Nat) : Prop := (i = 0 ∧ IsZip h z TI TO .none ∧ ∃ a b, IsTupOf2 h TO a b) ∨ ∃ T f o, Zi h z TI TO T f ∧ h.get? T = some o ∧ lo < T
theorem ZiAt.typeIs {s : Shared} {z TI TO lo : Addr} {i : Nat} (h : ZiAt lo s.heap z TI TO i) : s.TypeIs (.ref z) "zip" := by
  rcases h with ⟨_, h, _⟩ | ⟨T, f, o, h, _⟩
  · exact ⟨_, h, rfl⟩
  · exact ⟨_, h, rfl⟩
theorem ZiAt.lt {h : Heap} {z TI TO lo : Addr} {i : Nat} (q : ZiAt lo h z TI TO i) : z < h.objs.size := by
  rcases q with ⟨_, h, _⟩ | ⟨T, f, o, h, _⟩
  · exact Heap.lt_size h
  · exact Heap.lt_size h
theorem ZiAt.up {h h' : Heap} {z TI TO lo : Addr} {i : Nat} (q : ZiAt lo h z TI TO i) (k : ∀ b o, (b = z ∨ b = TO ∨ lo < b) → h.get? b = some o → h'.get? b = some o) : ZiAt lo h' z TI TO i := by
  rcases q with ⟨e, h1, a, b, h2⟩ | ⟨T, f, o, h1, h2, lt⟩
  · exact .inl ⟨e, k _ _ (.inl rfl) h1, a, b, k _ _ (.inr (.inl rfl)) h2⟩
  · exact .inr ⟨T, f, o, k _ _ (.inl rfl) h1, k _ _ (.inr (.inr lt)) h2, lt⟩
/-- the parts of a zip below lo -/
structure Low (lo z TO i1 i2 : Addr) : Prop where
  z : z ≤ lo
  TO : TO ≤ lo
  i1 : i1 ≤ lo
  i2 : i2 ≤ lo
theorem Low.ne {lo z TO i1 i2 T : Addr} (L : Low lo z TO i1 i2) (h : lo < T) : T ≠ z ∧ T ≠ TO ∧ T ≠ i1 ∧ T ≠ i2 :=
  ⟨Nat.ne_of_gt (Nat.lt_of_le_of_lt L.z h), Nat.ne_of_gt (Nat.lt_of_le_of_lt L.TO h), Nat.ne_of_gt (Nat.lt_of_le_of_lt L.i1 h), Nat.ne_of_gt (Nat.lt_of_le_of_lt L.i2 h)⟩
section
variable {prog : Program} {w : World} {A : Around} {E : Value → Shared → Prop} {s : Shared} {lo z TI TO i1 i2 : Addr} {fp1 fp2 : List Addr} {n1 n2 i : Nat} {P1 P2 : Nat → Value → Prop} {St1 St2 : Nat → Heap → Prop}
theorem zip_next {Q : Option Value → Shared → Prop} (D1 : Draws prog w A.in1 i1 fp1 n1 P1 St1) (D2 : Draws prog w A.in1 i2 fp2 n2 P2 St2) (S : ZipSep2 z TI TO i1 i2 fp1 fp2) (L : Low lo z TO i1 i2)
    (hz : ZiAt lo s.heap z TI TO i) (hTI : IsTupOf2 s.heap TI (.ref i1) (.ref i2)) (st1 : St1 i s.heap) (st2 : St2 i s.heap) (l1 : i < n1) (l2 : i < n2) (hlo : lo < s.heap.objs.size)
    (hQ : ∀ x1 x2 h' tk, P1 i x1 → P2 i x2 → ZiAt lo h' z TI TO (i + 1) → St1 (i + 1) h' → St2 (i + 1) h' → IsTupOf2 h' s.heap.objs.size x1 x2 → h'.objs.size = s.heap.objs.size + 1 →
      (∀ c o, c ≠ z → c ≠ TO → c ≠ i1 → c ≠ i2 → s.heap.get? c = some o → h'.get? c = some o) → Q (some (.ref s.heap.objs.size)) { s with heap := h', toks := tk }) :
    wpAny (model prog w) A (pyNext (.ref z)) Q E s := by
  have ty := hz.typeIs
  unfold pyNext
  refine wpAny_bind (wpAny_attempt (wpAny_callSpecial?_slot (name := Str.ofString "__next__") ty F.slot_zip_next (wpAny_call_entry F.slot_zip_next ty F.entry_zip_next ?_ (F.args_zip_next_1 _))))
  rcases hz with ⟨e0, h, a, b, hTO⟩ | ⟨T, f, o, h, hT, lt⟩
  · exact zipD2_next_item S D1 D2 h hTI hTO st1 st2 l1 l2 fun x1 x2 h' tk p1 p2 q1 q2 q3 q4 q5 q6 q7 => wpAny_pure (hQ x1 x2 h' tk p1 p2 (.inr ⟨_, false, _, q1, q5, hlo⟩) q3 q4 q5 q6 q7)
  · obtain ⟨t1, t2, t3, t4⟩ := L.ne lt
    exact zipN_item D1 D2 S h hT hTI st1 st2 l1 l2 fun x1 x2 h' tk p1 p2 q1 q3 q4 q5 q6 q7 => wpAny_pure (hQ x1 x2 h' tk p1 p2 (.inr ⟨T, true, o, q1, q7 T o t1 t3 t4 hT, lt⟩) q3 q4 q5 q6 fun c o cz _ c1 c2 e => q7 c o cz c1 c2 e)
theorem zip_fin {Q : Option Value → Shared → Prop} (D1 : Draws prog w A.in1 i1 fp1 n1 P1 St1) (D2 : Draws prog w A.in1 i2 fp2 n2 P2 St2) (S : ZipSep2 z TI TO i1 i2 fp1 fp2)
    (hz : ZiAt lo s.heap z TI TO i) (hTI : IsTupOf2 s.heap TI (.ref i1) (.ref i2)) (st1 : St1 i s.heap) (st2 : St2 i s.heap) (l1 : i ≤ n1) (l2 : i ≤ n2) (hend : i = n1 ∨ i = n2)
    (hQ : ∀ h' tk, (∀ c o, c ≠ z → c ≠ TO → c ≠ i1 → c ≠ i2 → s.heap.get? c = some o → h'.get? c = some o) → Q none { s with heap := h', toks := tk }) :
    wpAny (model prog w) A (pyNext (.ref z)) Q E s := by
  have ty := hz.typeIs
  unfold pyNext
  refine wpAny_bind (wpAny_attempt (wpAny_callSpecial?_slot (name := Str.ofString "__next__") ty F.slot_zip_next (wpAny_call_entry F.slot_zip_next ty F.entry_zip_next ?_ (F.args_zip_next_1 _))))
  rcases hz with ⟨e0, h, a, b, hTO⟩ | ⟨T, f, o, h, hT, lt⟩
  · exact zipD2_next_end S D1 D2 h hTI hTO st1 st2 l1 l2 hend fun h' tk e k he => by
      obtain ⟨o, ho, hc⟩ := he
      refine wpAny_bind (wpAny_isInstance (T := "StopIteration") (b := true) ⟨o, ho, hc⟩ isSubtype_stop ?_)
      exact wpAny_pure (hQ _ _ k)
  · exact zipN_end D1 D2 S h hT hTI st1 st2 l1 l2 hend fun h' tk e k he => by
      obtain ⟨o, ho, hc⟩ := he
      refine wpAny_bind (wpAny_isInstance (T := "StopIteration") (b := true) ⟨o, ho, hc⟩ isSubtype_stop ?_)
      exact wpAny_pure (hQ _ _ fun c o cz _ c1 c2 x => k c o cz c1 c2 x)
end
/-- the pairs laid beyond lo, one behind another -/
structure Prs (P1 P2 : Nat → Value → Prop) (lo : Addr) (h : Heap) (as : List Addr) : Prop where
  rise : as.Pairwise (· < ·)
  above : ∀ a ∈ as, lo < a
  prs : ∀ (j : Nat) (a : Addr), as[j]? = some a → ∃ x y, P1 j x ∧ P2 j y ∧ IsTupOf2 h a x y
theorem Prs.there {P1 P2 : Nat → Value → Prop} {lo : Addr} {h : Heap} {as : List Addr} (g : Prs P1 P2 lo h as) {a : Addr} (ha : a ∈ as) : a < h.objs.size := by
  obtain ⟨j, hj⟩ := List.mem_iff_getElem?.mp ha
  obtain ⟨_, _, _, _, e⟩ := g.prs j a hj
  exact Heap.lt_size e
theorem Prs.up {P1 P2 : Nat → Value → Prop} {lo : Addr} {h h' : Heap} {as : List Addr} (g : Prs P1 P2 lo h as) (k : ∀ b o, lo < b → h.get? b = some o → h'.get? b = some o) : Prs P1 P2 lo h' as :=
  ⟨g.rise, g.above, fun j a e => by
    obtain ⟨x, y, p, q, t⟩ := g.prs j a e
    exact ⟨x, y, p, q, k _ _ (g.above a (List.mem_of_getElem? e)) t⟩⟩
theorem Prs.snoc {P1 P2 : Nat → Value → Prop} {lo : Addr} {h : Heap} {as : List Addr} {T : Addr} {x y : Value} (g : Prs P1 P2 lo h as) (ht : IsTupOf2 h T x y) (p : P1 as.length x) (q : P2 as.length y) (lt : lo < T) (hi : ∀ a ∈ as, a < T) : Prs P1 P2 lo h (as ++ [T]) := by
  refine ⟨List.pairwise_append.mpr ⟨g.rise, List.pairwise_singleton _ _, fun a ha b hb => by rw [List.mem_singleton.mp hb]; exact hi a ha⟩, fun a ha => ?_, fun j a e => ?_⟩
  · rcases List.mem_append.mp ha with ha | ha
    · exact g.above a ha
    · rw [List.mem_singleton.mp ha]; exact lt
  · rcases Nat.lt_or_ge j as.length with l | l
    · rw [List.getElem?_append_left l] at e
      exact g.prs j a e
    · rw [List.getElem?_append_right l] at e
      cases r : j - as.length with
      | zero =>
        rw [r] at e
        simp at e
        have : j = as.length := by omega
        subst this e
        exact ⟨x, y, p, q, ht⟩
      | succ m => rw [r] at e; simp at e
section
variable {prog : Program} {w : World} {A : Around} {R : Result → Shared → Prop} {s : Shared} {lo z TI TO i1 i2 : Addr} {fp1 fp2 : List Addr} {n1 n2 : Nat} {P1 P2 : Nat → Value → Prop} {St1 St2 : Nat → Heap → Prop}
theorem zl_loop (D1 : Draws prog w A.in1.in1 i1 fp1 n1 P1 St1) (D2 : Draws prog w A.in1.in1 i2 fp2 n2 P2 St2) (S : ZipSep2 z TI TO i1 i2 fp1 fp2) (L : Low lo z TO i1 i2) (hTlo : TI < lo) (hn : min n1 n2 ≤ sizeLine) (res : Value)
    (f1 : lo ∉ fp1) (f2 : lo ∉ fp2) (zl : lo ≠ z ∧ lo ≠ TO ∧ lo ≠ i1 ∧ lo ≠ i2) {h0 : Heap}
    (hR : ∀ h' tk acc c as, (∀ b o, b ≠ lo → b ≠ z → b ≠ TO → b ≠ i1 → b ≠ i2 → h0.get? b = some o → h'.get? b = some o) → h'.get? lo = some { cls := .type "list", dict := none, data := .seq acc c, slots := #[] } → as.length = min n1 n2 → Prs P1 P2 lo h' as →
      acc.toList = as.map Value.ref → R (.ok (.ret res)) { s with heap := h', toks := tk }) :
    ∀ (k i : Nat) (h : Heap) (tk c : Nat) (acc : Array Value) (as : List Addr), min n1 n2 - i = k → i ≤ min n1 n2 → ZiAt lo h z TI TO i → IsTupOf2 h TI (.ref i1) (.ref i2) → St1 i h → St2 i h → (∀ b o, b ≠ lo → b ≠ z → b ≠ TO → b ≠ i1 → b ≠ i2 → h0.get? b = some o → h.get? b = some o) →
      h.get? lo = some { cls := .type "list", dict := none, data := .seq acc c, slots := #[] } → acc.toList = as.map Value.ref → as.length = i → Prs P1 P2 lo h as →
      codeAny (model prog w) A (.builtin "list.extend.loop" ⟨[.ref lo, .ref z, res], []⟩) R { s with heap := h, toks := tk } := by
  intro k
  induction k with
  | zero =>
    intro i h tk c acc as hk hi hz hTI t1 t2 keep hS hacc hal hG
    refine codeAny_builtin PySem.F.entry_extend_loop ?_
    rw [Around.under_plainId PySem.F.plain_extend_loop _]
    show wpAny _ A.in1 (pyNext (.ref z) >>= _) _ _ _
    refine wpAny_bind (zip_fin (s := { s with heap := h, toks := tk }) D1 D2 S hz hTI t1 t2 (by omega) (by omega) (by omega) fun h' tk' kk => ?_)
    refine wpAny_pure (hR h' tk' acc c as (fun b o a0 a1 a2 a3 a4 e => kk b o a1 a2 a3 a4 (keep b o a0 a1 a2 a3 a4 e)) (kk lo _ zl.1 zl.2.1 zl.2.2.1 zl.2.2.2 hS) (by omega) (hG.up fun b o lt e => ?_) hacc)
    obtain ⟨y1, y2, y3, y4⟩ := L.ne lt
    exact kk b o y1 y2 y3 y4 e
  | succ k ih =>
    intro i h tk c acc as hk hi hz hTI t1 t2 keep hS hacc hal hG
    have sz : acc.size = i := by rw [← Array.length_toList, hacc, List.length_map, hal]
    have lt : lo < h.objs.size := Heap.lt_size hS
    refine codeAny_builtin PySem.F.entry_extend_loop ?_
    rw [Around.under_plainId PySem.F.plain_extend_loop _]
    show wpAny _ A.in1 (pyNext (.ref z) >>= _) _ _ _
    refine wpAny_bind (zip_next (s := { s with heap := h, toks := tk }) D1 D2 S L hz hTI t1 t2 (by omega) (by omega) lt fun x1 x2 h' tk' p1 p2 hz' t1' t2' ht hsz kk => ?_)
    dsimp only at ht hsz kk ⊢
    have hS' := kk lo _ zl.1 zl.2.1 zl.2.2.1 zl.2.2.2 hS
    have up : ∀ b o, b ≠ lo → h'.get? b = some o → (h'.update lo (Obj.mapSeq (·.push (Value.ref h.objs.size)))).get? b = some o := fun b o hb e => (Heap.get?_update_other _ _ (Ne.symm hb)).trans e
    have upL : ∀ b o, lo < b → h'.get? b = some o → (h'.update lo (Obj.mapSeq (·.push (Value.ref h.objs.size)))).get? b = some o := fun b o hb e => up b o (Nat.ne_of_gt hb) e
    show wpAny _ A.in1 (updateSeq lo (·.push (Value.ref h.objs.size)) >>= _) _ _ _
    refine wpAny_bind ?_
    refine wpAny_updateSeq hS' rfl (wpAny_pure ⟨plainId_quiet PySem.F.plain_extend_loop _, ih (i + 1) _ tk' _ (acc.push (Value.ref h.objs.size)) (as ++ [h.objs.size]) (by omega) (by omega) (hz'.up fun b o e q => ?_) ?_
      (D1.frame _ _ _ t1' fun b hb o e => up b o (fun q => f1 (q ▸ hb)) e) (D2.frame _ _ _ t2' fun b hb o e => up b o (fun q => f2 (q ▸ hb)) e) (fun b o a0 a1 a2 a3 a4 e => up b o a0 (kk b o a1 a2 a3 a4 (keep b o a0 a1 a2 a3 a4 e)))
      (Heap.get?_update_self _ hS' rfl) (by rw [Array.toList_push, hacc, List.map_append]; rfl) (by rw [List.length_append, hal]; rfl) ?_⟩) (by rw [sz]; omega) (by show (acc.push (Value.ref h.objs.size)).size ≤ sizeLine + 1; rw [Array.size_push, sz]; omega)
    · rcases e with rfl | rfl | e
      · exact up _ _ (Ne.symm zl.1) q
      · exact up _ _ (Ne.symm zl.2.1) q
      · exact upL _ _ e q
    · exact up _ _ (Nat.ne_of_lt hTlo) (kk _ _ S.TIz (fun q => S.TITO q) S.TIi1 S.TIi2 hTI)
    · refine Prs.snoc (x := x1) (y := x2) ((hG.up fun b o lt' e => ?_).up upL) (upL _ _ lt ht) (by rw [hal]; exact p1) (by rw [hal]; exact p2) lt fun a ha => hG.there ha
      obtain ⟨y1, y2, y3, y4⟩ := L.ne lt'
      exact kk b o y1 y2 y3 y4 e
end
theorem zip_len0 : typeLookup (.type "zip") "__len__" = pure none := by rw [typeLookup_type, builtinLookup_eq_fast]; kernel_rfl
theorem zip_hint0 : typeLookup (.type "zip") "__length_hint__" = pure none := by rw [typeLookup_type, builtinLookup_eq_fast]; kernel_rfl
section
variable {prog : Program} {w : World} {A : Around} {s : Shared} {z TI TO i1 i2 : Addr} {fp1 fp2 : List Addr} {n1 n2 : Nat} {P1 P2 : Nat → Value → Prop} {St1 St2 : Nat → Heap → Prop}
theorem zl_ext {R : Result → Shared → Prop} {lo : Addr} {c₀ : Nat} (D1 : Draws prog w A.in1.in1 i1 fp1 n1 P1 St1) (D2 : Draws prog w A.in1.in1 i2 fp2 n2 P2 St2) (S : ZipSep2 z TI TO i1 i2 fp1 fp2) (L : Low lo z TO i1 i2) (hTlo : TI < lo) (hn : min n1 n2 ≤ sizeLine) (res : Value)
    (f1 : lo ∉ fp1) (f2 : lo ∉ fp2) (zl : lo ≠ z ∧ lo ≠ TO ∧ lo ≠ i1 ∧ lo ≠ i2) (hz : IsZip s.heap z TI TO .none) (hTO : ∃ a b, IsTupOf2 s.heap TO a b) (hTI : IsTupOf2 s.heap TI (.ref i1) (.ref i2)) (st1 : St1 0 s.heap) (st2 : St2 0 s.heap)
    (hS : s.heap.get? lo = some { cls := .type "list", data := .seq #[] c₀ })
    (hR : ∀ h' tk acc c as, (∀ b o, b ≠ lo → b ≠ z → b ≠ TO → b ≠ i1 → b ≠ i2 → s.heap.get? b = some o → h'.get? b = some o) → h'.get? lo = some { cls := .type "list", dict := none, data := .seq acc c, slots := #[] } → as.length = min n1 n2 → Prs P1 P2 lo h' as →
      acc.toList = as.map Value.ref → R (.ok (.ret res)) { s with heap := h', toks := tk }) :
    wpAny (model prog w) A.in1 (Builtin.List.listExtendWith (.ref lo) (.ref z) res)
      (fun fin s' => match fin with | .done f => R (.ok f) s' | .again c' => c'.quiet = true ∧ codeAny (model prog w) A c' R s') (fun e s' => R (.error e) s') s := by
  have hT : s.TypeIs (.ref z) "zip" := ⟨_, hz, rfl⟩
  unfold Builtin.List.listExtendWith
  refine wpAny_bind (wpAny_typeOf hT ?_)
  have b1 : Builtin.List.listSameRef (.ref lo) (.ref z) = false := by simp [Builtin.List.listSameRef, zl.1]
  have b2 : (Value.type "zip" == Value.type "list") = false := by decide
  have b3 : (Value.type "zip" == Value.type "tuple") = false := by decide
  simp only [b1, b2, b3, Bool.or_false, Bool.false_eq_true, if_false]
  refine wpAny_bind (wpAny_pyIter_zip hz ?_)
  refine wpAny_bind (wpAny_holding ?_)
  unfold Builtin.List.listLengthHint
  refine wpAny_bind (wpAny_specialOf hT zip_len0 ?_)
  show wpAny _ A.in1 (specialOf (Value.ref z) (Str.ofString "__length_hint__") >>= _) _ _ _
  refine wpAny_bind (wpAny_specialOf hT zip_hint0 ?_)
  refine wpAny_pure ?_
  show wpAny _ A.in1 (rule "list.extend.makes-room" >>= fun _ => Builtin.List.listTouch (.ref lo) >>= fun _ => again (.builtin "list.extend.loop" ⟨[.ref lo, .ref z, res], []⟩)) _ _ _
  refine wpAny_bind (wpAny_rule ?_)
  refine wpAny_bind ?_
  show wpAny _ A.in1 (updateSeq lo (·.push .none) >>= fun _ => updateSeq lo (·.pop)) _ _ _
  refine wpAny_bind (wpAny_updateSeq hS rfl ?_)
  have hS2 := Heap.get?_update_self (Obj.mapSeq (·.push Value.none)) hS rfl
  refine wpAny_updateSeq (hz := by seq_fits) hS2 rfl ?_
  have hS3 := Heap.get?_update_self (Obj.mapSeq (·.pop)) hS2 rfl
  have oth : ∀ b o, b ≠ lo → s.heap.get? b = some o → ((s.heap.update lo (Obj.mapSeq (·.push Value.none))).update lo (Obj.mapSeq (·.pop))).get? b = some o :=
    fun b o hb e => (Heap.get?_update_other _ _ (Ne.symm hb)).trans ((Heap.get?_update_other _ _ (Ne.symm hb)).trans e)
  obtain ⟨ta, tb, hTO⟩ := hTO
  refine wpAny_pure ⟨plainId_quiet PySem.F.plain_extend_loop _, zl_loop (s := s) (h0 := s.heap) D1 D2 S L hTlo hn res f1 f2 zl hR (min n1 n2) 0 _ s.toks _ #[] [] (Nat.sub_zero _) (Nat.zero_le _) (.inl ⟨rfl, oth _ _ (Ne.symm zl.1) hz, ta, tb, oth _ _ (Ne.symm zl.2.1) hTO⟩) (oth _ _ (Nat.ne_of_lt hTlo) hTI)
    (D1.frame _ _ _ st1 fun b hb o e => oth b o (fun q => f1 (q ▸ hb)) e) (D2.frame _ _ _ st2 fun b hb o e => oth b o (fun q => f2 (q ▸ hb)) e) (fun b o a0 _ _ _ _ e => oth b o a0 e) hS3 rfl rfl ⟨List.Pairwise.nil, (fun _ ha => nomatch ha), fun j a hj => by simp at hj⟩⟩
theorem zl_init {R : Result → Shared → Prop} {lo : Addr} (D1 : Draws prog w A.in1.in1 i1 fp1 n1 P1 St1) (D2 : Draws prog w A.in1.in1 i2 fp2 n2 P2 St2) (S : ZipSep2 z TI TO i1 i2 fp1 fp2) (L : Low lo z TO i1 i2) (hTlo : TI < lo) (hn : min n1 n2 ≤ sizeLine)
    (f1 : lo ∉ fp1) (f2 : lo ∉ fp2) (zl : lo ≠ z ∧ lo ≠ TO ∧ lo ≠ i1 ∧ lo ≠ i2) (hz : IsZip s.heap z TI TO .none) (hTO : ∃ a b, IsTupOf2 s.heap TO a b) (hTI : IsTupOf2 s.heap TI (.ref i1) (.ref i2)) (st1 : St1 0 s.heap) (st2 : St2 0 s.heap)
    (hS : s.heap.get? lo = some { cls := .type "list", data := .seq #[] })
    (hR : ∀ h' tk acc c as, (∀ b o, b ≠ lo → b ≠ z → b ≠ TO → b ≠ i1 → b ≠ i2 → s.heap.get? b = some o → h'.get? b = some o) → h'.get? lo = some { cls := .type "list", dict := none, data := .seq acc c, slots := #[] } → as.length = min n1 n2 → Prs P1 P2 lo h' as →
      acc.toList = as.map Value.ref → R (.ok (.ret .none)) { s with heap := h', toks := tk }) :
    wpAny (model prog w) A.in1 (Builtin.«list.__init__» ⟨[.ref lo, .ref z], []⟩)
      (fun fin s' => match fin with | .done f => R (.ok f) s' | .again c' => c'.quiet = true ∧ codeAny (model prog w) A c' R s') (fun e s' => R (.error e) s') s := by
  show wpAny _ A.in1 (do let old ← Builtin.List.listItems (.ref lo); Builtin.List.listUpdate (.ref lo) (fun _ => #[]); letGo old.toList.reverse; Builtin.List.listExtendWith (.ref lo) (.ref z) .none) _ _ s
  refine wpAny_bind ?_
  unfold Builtin.List.listItems
  refine wpAny_bind (wpAny_seqItems hS rfl (wpAny_pure ?_))
  show wpAny _ A.in1 (updateSeq lo (fun _ => #[]) >>= fun _ => letGo (#[] : Array Value).toList.reverse >>= fun _ => Builtin.List.listExtendWith (.ref lo) (.ref z) .none) _ _ s
  refine wpAny_bind (wpAny_updateSeq hS rfl ?_)
  have hS2 := Heap.get?_update_self (Obj.mapSeq (fun _ => (#[] : Array Value))) hS rfl
  have oth : ∀ b o, b ≠ lo → s.heap.get? b = some o → (s.heap.update lo (Obj.mapSeq (fun _ => (#[] : Array Value)))).get? b = some o := fun b o hb e => (Heap.get?_update_other _ _ (Ne.symm hb)).trans e
  obtain ⟨ta, tb, hTO⟩ := hTO
  refine wpAny_bind (wpAny_letGo ?_)
  exact zl_ext D1 D2 S L hTlo hn .none f1 f2 zl (oth _ _ (Ne.symm zl.1) hz) ⟨ta, tb, oth _ _ (Ne.symm zl.2.1) hTO⟩ (oth _ _ (Nat.ne_of_lt hTlo) hTI) (D1.frame _ _ _ st1 fun b hb o e => oth b o (fun q => f1 (q ▸ hb)) e) (D2.frame _ _ _ st2 fun b hb o e => oth b o (fun q => f2 (q ▸ hb)) e) hS2
    fun h' tk acc c as k => hR h' tk acc c as fun b o a0 a1 a2 a3 a4 e => k b o a0 a1 a2 a3 a4 (oth b o a0 e)
theorem zl_call {Q : Value → Shared → Prop} {E : Value → Shared → Prop} (D1 : Draws prog w A.in1.in1.in1 i1 fp1 n1 P1 St1) (D2 : Draws prog w A.in1.in1.in1 i2 fp2 n2 P2 St2) (S : ZipSep2 z TI TO i1 i2 fp1 fp2) (hn : min n1 n2 ≤ sizeLine)
    (l1 : ∀ b ∈ fp1, b < s.heap.objs.size) (l2 : ∀ b ∈ fp2, b < s.heap.objs.size) (hz : IsZip s.heap z TI TO .none) (hTO : ∃ a b, IsTupOf2 s.heap TO a b) (hTI : IsTupOf2 s.heap TI (.ref i1) (.ref i2)) (st1 : St1 0 s.heap) (st2 : St2 0 s.heap)
    (hQ : ∀ h' tk acc c as, (∀ b o, b ≠ z → b ≠ TO → b ≠ i1 → b ≠ i2 → s.heap.get? b = some o → h'.get? b = some o) → h'.get? s.heap.objs.size = some { cls := .type "list", dict := none, data := .seq acc c, slots := #[] } → as.length = min n1 n2 → Prs P1 P2 s.heap.objs.size h' as →
      acc.toList = as.map Value.ref → Q (.ref s.heap.objs.size) { s with heap := h', toks := tk }) :
    wpAny (model prog w) A (call (.type "list") [.ref z]) Q E s := by
  have ltz : z < s.heap.objs.size := Heap.lt_size hz
  obtain ⟨ta, tb, hTO'⟩ := id hTO
  have ltO : TO < s.heap.objs.size := Heap.lt_size hTO'
  have ltI : TI < s.heap.objs.size := Heap.lt_size hTI
  have lt1 : i1 < s.heap.objs.size := l1 _ S.mem1
  have lt2 : i2 < s.heap.objs.size := l2 _ S.mem2
  have push : ∀ b o, s.heap.get? b = some o → (s.heap.push { cls := .type "list", data := .seq #[] }).get? b = some o := fun b o e => Heap.get?_push_of_some _ e
  refine callType_codes (Q₁ := fun obj s₁ => obj = .ref s.heap.objs.size ∧ s₁ = { s with heap := s.heap.push { cls := .type "list", data := .seq #[] } }) PySem.F.called_list (PySem.F.typeCall_list_1 _) PySem.F.entry_list_init (code_list_new _ ⟨rfl, rfl⟩) fun obj s₁ h₁ => ?_
  obtain ⟨rfl, rfl⟩ := h₁
  have hS : (s.heap.push { cls := .type "list", data := .seq #[] }).get? s.heap.objs.size = some { cls := .type "list", data := .seq #[] } := Heap.get?_push_size _ rfl
  refine ⟨⟨_, hS, rfl⟩, PySem.F.args_list_init_2 _ _, zl_init (A := A.in1) D1 D2 S ⟨Nat.le_of_lt ltz, Nat.le_of_lt ltO, Nat.le_of_lt lt1, Nat.le_of_lt lt2⟩ ltI hn (fun q => Nat.lt_irrefl _ (l1 _ q)) (fun q => Nat.lt_irrefl _ (l2 _ q)) ⟨Nat.ne_of_gt ltz, Nat.ne_of_gt ltO, Nat.ne_of_gt lt1, Nat.ne_of_gt lt2⟩
    (push _ _ hz) ⟨ta, tb, push _ _ hTO'⟩ (push _ _ hTI) (D1.frame _ _ _ st1 fun b hb o e => push b o e) (D2.frame _ _ _ st2 fun b hb o e => push b o e) hS fun h' tk acc c as kk e1 e2 e3 e4 => ⟨rfl, ?_⟩⟩
  exact hQ h' tk acc c as (fun b o a1 a2 a3 a4 e => kk b o (Nat.ne_of_lt (Heap.lt_size e)) a1 a2 a3 a4 (push b o e)) e1 e2 e3 e4
end
end Fw

set_option maxRecDepth 100000
set_option maxHeartbeats 4000000
/-! Fw: the rule of list(zip(a, b)). -/
namespace Fw
open PySem PySem.Spec PyProof.Rows L2
/-! ### what is drawn -/
def chV (z : Str) : List V := z.cps.toList.map fun c => V.str ⟨#[c]⟩
def SrcV (K : PySem.W.Frag) (H : Hp) (x : V) (xs : List V) : Prop := (∃ z, x = .str z ∧ xs = chV z) ∨ ∃ a, x = .ref a ∧ SqL K H a xs
section
variable {X : Cx} {pins : List (Addr × Obj)} {σ : L2.St} {H : Hp} {s : Shared} {x : V} {v : Value} {xs : List V}
theorem drawn_of (I : Inv X pins σ H s) (rx : RelV x v) (h : SrcV X.K H x xs) :
    ∃ (o : Obj) (Hh : Heap → Prop) (fp : List Addr) (P : Nat → Value → Prop) (St : Addr → Nat → Heap → Prop), Begins v o Hh ∧ Hh s.heap ∧ (∀ i u, P i u → ∃ y, xs[i]? = some y ∧ RelV y u) ∧ (∀ b ∈ fp, b < s.heap.objs.size) ∧
      (∀ (A : Around) (it : Addr), A.handled = none → s.heap.objs.size ≤ it → Draws X.prog X.w A it (it :: fp) xs.length P (St it)) ∧
      ∀ (it : Addr) (h' : Heap), h'.get? it = some o → Hh h' → St it 0 h' := by
  rcases h with ⟨z, rfl, rfl⟩ | ⟨a, rfl, hq⟩
  · obtain ⟨t, rfl⟩ := rx
    refine ⟨_, _, [], fun i v => ∃ c u, z.cps[i]? = some c ∧ v = .str ⟨#[c]⟩ u, fun it i h => h.IsStrIter it (strIterType z) z t i, begins_text z t, trivial, fun i u p => ?_, fun b hb => by simp at hb, fun A it hh hl => ?_, fun it h' e _ => ⟨_, e, rfl, rfl⟩⟩
    · obtain ⟨c, u', hc, rfl⟩ := p
      refine ⟨.str ⟨#[c]⟩, ?_, ⟨u', rfl⟩⟩
      unfold chV
      rw [List.getElem?_map, Array.getElem?_toList, hc]; rfl
    · have e : (chV z).length = z.cps.size := by simp [chV]
      rw [e]
      exact Draws.text hh it z t
  · cases rx
    obtain ⟨its, rv, pl, hz⟩ := I.list hq
    have lt : a < s.heap.objs.size := pl.lt
    refine ⟨_, _, [a], fun i v => its.toArray[i]? = some v, fun it i h => h.IsListIter it a i ∧ h.IsList a its.toArray, begins_list a its.toArray, pl.isList, fun i u p => ?_, fun b hb => by rw [List.mem_singleton.mp hb]; exact lt, fun A it hh hl => ?_, fun it h' e q => ⟨⟨_, e, rfl, rfl⟩, q⟩⟩
    · have hi : i < its.length := by
        have := (Array.getElem?_eq_some_iff.mp p).1
        simpa using this
      have hi' : i < xs.length := by rw [rv.length]; exact hi
      obtain ⟨u', h1, h2⟩ := rv.get (show xs[i]? = some xs[i] by simp [hi'])
      have e : its[i]? = some u := by simpa using p
      rw [e] at h1
      cases h1
      exact ⟨xs[i], by simp [hi'], h2⟩
    · have e : xs.length = its.toArray.size := by simp [rv.length]
      rw [e]
      exact Draws.list hh it a (Nat.ne_of_lt (Nat.lt_of_lt_of_le lt hl)) its.toArray
end
/-! ### the pairs, laid -/
def putZ : Hp → List Addr → List V → List V → Hp
  | H, a :: as, x :: xs, y :: ys => putZ (upd H a (.tup [x, y])) as xs ys
  | H, _, _, _ => H
theorem putZ_off {b : Addr} : ∀ (as : List Addr) (xs ys : List V) (H : Hp), b ∉ as → putZ H as xs ys b = H b
  | [], _, _, _, _ => by simp [putZ]
  | _ :: _, [], _, _, _ => by simp [putZ]
  | _ :: _, _ :: _, [], _, _ => by simp [putZ]
  | a :: as, x :: xs, y :: ys, H, h => by
    simp only [putZ]
    rw [putZ_off as xs ys _ fun q => h (List.mem_cons_of_mem _ q), upd_ne fun q => h (by rw [q]; exact List.mem_cons_self)]
theorem putZ_at : ∀ (as : List Addr) (xs ys : List V) (H : Hp), as.Nodup → ∀ (j : Nat) (a : Addr) (x y : V), as[j]? = some a → xs[j]? = some x → ys[j]? = some y → putZ H as xs ys a = some (.tup [x, y])
  | [], _, _, _, _, j, a, x, y, h, _, _ => by simp at h
  | _ :: _, [], _, _, _, j, a, x, y, _, h, _ => by simp at h
  | _ :: _, _ :: _, [], _, _, j, a, x, y, _, _, h => by simp at h
  | b :: as, u :: xs, v :: ys, H, nd, 0, a, x, y, h1, h2, h3 => by
    simp at h1 h2 h3
    subst h1 h2 h3
    simp only [putZ]
    rw [putZ_off as xs ys _ (List.nodup_cons.mp nd).1, upd_same]
  | b :: as, u :: xs, v :: ys, H, nd, j + 1, a, x, y, h1, h2, h3 => by
    simp only [putZ]
    exact putZ_at as xs ys _ (List.nodup_cons.mp nd).2 j a x y (by simpa using h1) (by simpa using h2) (by simpa using h3)
theorem zp_laid {X : Cx} {pins : List (Addr × Obj)} {σ : L2.St} {H : Hp} {s : Shared} {h' : Heap} {tk : Nat} {xs ys : List V} {P1 P2 : Nat → Value → Prop} {lo : Addr} {acc : Array Value} {c : Nat} {as : List Addr} (I : Inv X pins σ H s) (hlo : s.heap.objs.size ≤ lo)
    (hz : as.length ≤ sizeLine) (q1 : ∀ i u, P1 i u → ∃ y, xs[i]? = some y ∧ RelV y u) (q2 : ∀ i u, P2 i u → ∃ y, ys[i]? = some y ∧ RelV y u)
    (hk : ∀ b o, s.heap.get? b = some o → h'.get? b = some o) (hS : h'.get? lo = some { cls := .type "list", dict := none, data := .seq acc c, slots := #[] }) (hG : Prs P1 P2 lo h' as) (hacc : acc.toList = as.map Value.ref) :
    Inv X pins σ (upd (putZ H as xs ys) lo (.lst (as.map V.ref))) { s with heap := h', toks := tk } := by
  have nS : lo ∉ as := fun q => Nat.lt_irrefl _ (hG.above _ q)
  have nd : as.Nodup := List.Pairwise.imp (fun {a b} (h : a < b) => Nat.ne_of_lt h) hG.rise
  have fr : ∀ t ∈ as, H t = none := fun t ht => I.hok.fresh (Nat.le_trans hlo (Nat.le_of_lt (hG.above t ht)))
  have frS : H lo = none := I.hok.fresh hlo
  have off : ∀ b, b ∉ as → b ≠ lo → upd (putZ H as xs ys) lo (.lst (as.map V.ref)) b = H b := fun b h1 h2 => by rw [upd_ne h2, putZ_off as xs ys _ h1]
  have low : ∀ b o, s.heap.get? b = some o → b ∉ as ∧ b ≠ lo := fun b o e =>
    have l := Nat.lt_of_lt_of_le (Heap.lt_size e) hlo
    ⟨fun q => absurd (hG.above b q) (Nat.not_lt.mpr (Nat.le_of_lt l)), Nat.ne_of_lt l⟩
  have kp : ∀ b u, H b = some u → upd (putZ H as xs ys) lo (.lst (as.map V.ref)) b = some u := fun b u e => by
    rw [off b (fun q => by rw [fr b q] at e; cases e) (fun q => by rw [q, frS] at e; cases e)]
    exact e
  refine I.call' (ch := []) rfl ⟨fun b o q _ _ _ => hk b o q, fun b o q _ _ _ => ⟨o.slots, hk b o q⟩, fun b o q n _ => ?_, fun b o q _ => ⟨o, hk b o q⟩, fun b xs q => kp b _ q, fun b o u q => kp b _ q, fun b ps q => ⟨#[], by rw [kp b _ q]; simp⟩⟩ (fun b u q => ?_) I.bare fun b q => by simp at q
  · obtain ⟨y1, y2⟩ := low b o q
    rw [off b y1 y2]
    exact n
  · by_cases hb2 : b = lo
    · rw [hb2] at q ⊢
      rw [upd_same] at q
      cases q
      refine ⟨by rw [List.length_map]; exact hz, acc.toList, c, by rw [hacc]; exact LiI.vals_refs as, ?_⟩
      rw [Array.toArray_toList]
      exact hS
    · by_cases hb : b ∈ as
      · obtain ⟨j, hj⟩ := List.mem_iff_getElem?.mp hb
        obtain ⟨u1, u2, g1, g2, g3⟩ := hG.prs j b hj
        obtain ⟨y1, e1, r1⟩ := q1 j u1 g1
        obtain ⟨y2, e2, r2⟩ := q2 j u2 g2
        rw [upd_ne hb2, putZ_at as xs ys H nd j b y1 y2 hj e1 e2] at q
        cases q
        exact ⟨by show 2 ≤ sizeLine; decide, [u1, u2], .cons r1 (.cons r2 .nil), ⟨_, g3, rfl, _, rfl⟩⟩
      · rw [off b hb hb2] at q
        exact (I.hok b u q).stay (fun d v _ y => hk d v y) (fun d y => kp d _ y) fun d xs y => kp d _ y
section
variable {K : PySem.W.Frag}
theorem sg_putZ {g : Gr} : ∀ (as : List Addr) {xs ys : List V} {da db : List D} {w : Wd} {H : Hp}, SG K w g H → as.Nodup → (∀ a ∈ as, H a = none) → as.length = min xs.length ys.length → RepL K w xs da → RepL K w ys db →
    ∃ w', w.Le w' ∧ SG K w' g (putZ H as xs ys) ∧ RepL K w' (as.map V.ref) (zpD da db)
  | [], xs, ys, da, db, w, H, S0, nd, fr, hl, r1, r2 => by
    have l1 := r1.length
    have l2 := r2.length
    have e : zpD da db = [] := by
      apply List.eq_nil_of_length_eq_zero
      rw [zpD_len]; simp at hl; omega
    rw [e]
    exact ⟨w, Wd.Le.refl _, by simpa [putZ] using S0, by simp only [List.map_nil, RepL]⟩
  | a :: as, [], ys, da, db, w, H, S0, nd, fr, hl, r1, r2 => by simp at hl
  | a :: as, x :: xs, [], da, db, w, H, S0, nd, fr, hl, r1, r2 => by simp at hl
  | a :: as, x :: xs, y :: ys, [], db, w, H, S0, nd, fr, hl, r1, r2 => by simp only [RepL] at r1; cases r1
  | a :: as, x :: xs, y :: ys, d :: da, [], w, H, S0, nd, fr, hl, r1, r2 => by simp only [RepL] at r2; cases r2
  | a :: as, x :: xs, y :: ys, d :: da, e :: db, w, H, S0, nd, fr, hl, r1, r2 => by
    simp only [RepL] at r1 r2
    obtain ⟨x', xs', e1, rx, rxs⟩ := r1
    obtain ⟨y', ys', e2, ry, rys⟩ := r2
    cases e1; cases e2
    obtain ⟨S1, le1⟩ := S0.allocF (fr a List.mem_cons_self) (.tup [x, y])
    have nd' := List.nodup_cons.mp nd
    obtain ⟨w', le2, S2, r⟩ := sg_putZ as (H := upd H a (.tup [x, y])) (xs := xs) (ys := ys) S1 nd'.2 (fun b hb => by rw [upd_ne (fun q : b = a => nd'.1 (by rw [← q]; exact hb))]; exact fr b (List.mem_cons_of_mem _ hb)) (by simp only [List.length_cons] at hl; omega) (RepL.mono le1 _ _ rxs) (RepL.mono le1 _ _ rys)
    refine ⟨w', le1.trans le2, by simpa only [putZ] using S2, ?_⟩
    simp only [List.map_cons, zpD, RepL]
    exact ⟨_, _, rfl, (rep_tup2 (show (Wd.F { w with F := upd w.F a (.tup [x, y]) }) a = some (.tup [x, y]) from upd_same) (rx.mono le1) (ry.mono le1)).mono le2, r⟩
end
/-- what list(zip(..)) takes -/
def srcD (g : Gr) : D → Option (List D)
  | .str z => some (chD z)
  | d => viewL g d
theorem srcD_ok {K : PySem.W.Frag} {w : Wd} {g : Gr} {H : Hp} {v : V} {d : D} {ds : List D} (S0 : SG K w g H) (r : Rep K w v d) (e : srcD g d = some ds) : ∃ xs, SrcV K H v xs ∧ RepL K w xs ds := by
  unfold srcD at e
  split at e
  · rename_i z
    cases e
    refine ⟨chV z, .inl ⟨z, rep_str r, rfl⟩, ?_⟩
    unfold chV chD
    induction z.cps.toList with
    | nil => simp only [List.map_nil, RepL]
    | cons c l ih => simp only [List.map_cons, RepL]; exact ⟨_, _, rfl, rep_str', ih⟩
  · obtain ⟨a, xs, rfl, h1, h2⟩ := viewL_ok S0 r e
    exact ⟨xs, .inr ⟨a, rfl, .inl h1⟩, h2⟩
def fLZ : Fn := fun ds g => match ds with
  | [d, e] => (match srcD g d, srcD g e with
    | some as, some bs => if min as.length bs.length ≤ sizeLine then .ok (.lst (zpD as bs)) g else .no
    | _, _ => .no)
  | _ => .no
section
variable {P : Program} {w : World} {K : PySem.W.Frag} {mg : Str → Option Value} {base : Heap} {Z : Sc} {k : Nat} {X : Cx} {W : WX} {pos p p2 pos2 : Pos} {e e2 : Expr} {ms : Exps}
theorem xLZ (C : Cc P w K mg base Z none k X W) (i j : Nat) (fr : mg "list" = none) (fr2 : mg "zip" = none) (ha : RA X W [e, e2] ms) (hN : Z.gl[i]? = some "list" := by rfl) (hN2 : Z.gl[j]? = some "zip" := by rfl)
    (hs0 : starEach [.Call (.Name "zip" p2) [e, e2] [] pos2] X.env = (false, eval (.Call (.Name "zip" p2) [e, e2] [] pos2) X.env) :: starEach [] X.env := by rfl)
    (hs : starEach [e, e2] X.env = (false, eval e X.env) :: starEach [e2] X.env := by rfl) (hpl : (backTo pos2 (starEach [e2] X.env)).any (·.1) = false := by rfl) :
    RE X W (.Call (.Name "list" p) [.Call (.Name "zip" p2) [e, e2] [] pos2] [] pos) (eArgs fLZ ms) := by
  obtain ⟨h1, h2⟩ := C.glo hN
  obtain ⟨h3, h4⟩ := C.glo hN2
  refine ⟨fun pins s σ H Q I hh => ?_⟩
  obtain ⟨w1, ρ, g, S0, L, o⟩ := hh
  refine wpAny_Call_Name_kw (ld_blt I h1 (by rw [C.pm]; exact fr) boot_list ?_ (by decide) h2)
  refine PyProof.Rows.callWith_type1 ?_ hs0 rfl
  rw [hs0]
  show wpAny _ _ (spliced ((false, eval (.Call (.Name "zip" p2) [e, e2] [] pos2) X.env) :: backTo pos (starEach [] X.env))) _ _ s
  refine Calls.spliced_cons ?_
  refine Call_ (ld_blt I h3 (by rw [C.pm]; exact fr2) PyProof.Rows.boot_zip (PyProof.Rows.callWith_type1 (thn (ha.run pos2 pins s σ H (fun vs H1 => ∃ w2 ds g2, SG X.K w2 g2 H1 ∧ RepL X.K w2 vs ds ∧ Out X.K w2 (fLZ ds g2) Q fun c d H' => W c d σ H') I (bindA S0 L o fun ds g' vs H' w' le S' L' r o' => ⟨w', ds, g', S', r, o'⟩)) fun us s1 ⟨vs, H1, I1, rv, w2, ds, g2, S2, r2, o2⟩ => ?_) hs hpl))
  unfold fLZ at o2
  split at o2
  · rename_i d1 d2
    split at o2
    · rename_i as bs hA hB
      split at o2
      · rename_i hz
        obtain ⟨x, y, rfl, rx, ry⟩ := repl2 r2
        obtain ⟨u1, u2, rfl, ru1, ru2⟩ := vals2 rv
        obtain ⟨xs, sx, rxs⟩ := srcD_ok S2 rx hA
        obtain ⟨ys, sy, rys⟩ := srcD_ok S2 ry hB
        have cm := I1.ok.hd C.calm
        obtain ⟨o1, Hh1, fp1, P1, St1, B1, hb1, q1, l1, D1, s1'⟩ := drawn_of I1 ru1 sx
        obtain ⟨ob, Hh2, fp2, P2, St2, B2, hb2, q2, l2, D2, s2'⟩ := drawn_of I1 ru2 sy
        refine zip_begins2 B1 B2 hb1 hb2 fun h' e1 e3 e4 e5 e6 e7 e8 => Calls.spliced_nil ?_
        have up : ∀ b, b < s1.heap.objs.size → b < h'.objs.size := fun b hb => by
          have e7' : h'.objs.size = s1.heap.objs.size + 5 := e7
          rw [e7']; exact Nat.lt_of_lt_of_le hb (Nat.le_add_right _ _)
        have e7' : h'.objs.size = s1.heap.objs.size + 5 := e7
        refine zl_call (s := { s1 with heap := h' }) (D1 X.A.in1.in1.in1 s1.heap.objs.size cm (Nat.le_refl _)) (D2 X.A.in1.in1.in1 (s1.heap.objs.size + 1) cm (Nat.le_succ _)) (zip_sep2 l1 l2) (by rw [rxs.length, rys.length]; exact hz)
          (fun b hb => ?_) (fun b hb => ?_) e1 ⟨_, _, e4⟩ e3 (s1' _ _ e5 (B1.keeps _ _ hb1 e8)) (s2' _ _ e6 (B2.keeps _ _ hb2 e8)) fun h2' tk acc c as kk g1 gl g3 g4 => ?_
        · rcases List.mem_cons.mp hb with rfl | hb
          · show s1.heap.objs.size < h'.objs.size
            rw [e7']; exact Nat.lt_add_of_pos_right (by decide)
          · exact up b (l1 b hb)
        · rcases List.mem_cons.mp hb with rfl | hb
          · show s1.heap.objs.size + 1 < h'.objs.size
            rw [e7']; exact Nat.add_lt_add_left (by decide) _
          · exact up b (l2 b hb)
        · have lo5 : s1.heap.objs.size ≤ h'.objs.size := by rw [e7']; exact Nat.le_add_right _ _
          have keep : ∀ b u, s1.heap.get? b = some u → h2'.get? b = some u := fun b u q => by
            have lt := Heap.lt_size q
            exact kk b u (Nat.ne_of_lt (Nat.lt_of_lt_of_le lt (Nat.le_add_right _ _))) (Nat.ne_of_lt (Nat.lt_of_lt_of_le lt (Nat.le_add_right _ _))) (Nat.ne_of_lt lt) (Nat.ne_of_lt (Nat.lt_of_lt_of_le lt (Nat.le_add_right _ _))) (e8 b u q)
          have lz : as.length ≤ sizeLine := by rw [gl, rxs.length, rys.length]; exact hz
          have J := zp_laid (tk := tk) (xs := xs) (ys := ys) I1 lo5 lz q1 q2 keep g1 g3 g4
          have nd : as.Nodup := List.Pairwise.imp (fun {a b} (h : a < b) => Nat.ne_of_lt h) g3.rise
          have fr' : ∀ t ∈ as, H1 t = none := fun t ht => I1.hok.fresh (Nat.le_trans lo5 (Nat.le_of_lt (g3.above t ht)))
          obtain ⟨w3, le3, S3, r3⟩ := sg_putZ as S2 nd fr' gl rxs rys
          have hn : putZ H1 as xs ys h'.objs.size = none := by
            rw [putZ_off as xs ys _ fun q => Nat.lt_irrefl _ (g3.above _ q)]
            exact I1.hok.fresh lo5
          exact ⟨.ref h'.objs.size, _, J, rfl, Out.newL (o2.weak le3) S3 r3 _ hn⟩
      · exact o2.elim
    · exact o2.elim
  · exact o2.elim
end
end Fw

set_option maxRecDepth 100000
set_option maxHeartbeats 4000000
/-! Fw: sources of any kind. -/
namespace Fw
open PySem PySem.Spec PyProof.Rows L2
def iAny (K : PySem.W.Frag) (te : TE) : TI := fun σ H R => te σ H fun x H1 => (∃ z, x = .str z ∧ R (Its z) H1) ∨ (∃ a, x = .ref a ∧ (∃ xs, SqL K H1 a xs) ∧ R (Itl K a) H1) ∨ ∃ a, x = .ref a ∧ (∃ xs, SqT K H1 a xs) ∧ R (Itt K a) H1
theorem pi_any {X : Cx} {tg e : Expr} {te : TE} (he : PE X e te) : PI X tg e (iAny X.K te) := by
  refine ⟨fun pins s σ H R Iv hh => thn (he.run pins s σ H _ Iv hh) fun v s1 ⟨y, H1, I1, r1, q1⟩ => ?_⟩
  rcases q1 with ⟨z, rfl, q⟩ | ⟨a, rfl, ⟨xs, hq⟩, q⟩ | ⟨a, rfl, ⟨xs, hq⟩, q⟩
  · obtain ⟨t, rfl⟩ := r1
    cases ha : z.cps.all (· < 128)
    · exact wpAny_pyIter_wide ha (pi_one (tk := s1.toks) I1 _ (turn_str _ z t "str_iterator" (.inr rfl)) ⟨_, Heap.get?_push_size _ rfl, rfl, rfl⟩ q)
    · exact wpAny_pyIter_ascii ha (pi_one (tk := s1.toks) I1 _ (turn_str _ z t "str_ascii_iterator" (.inl rfl)) ⟨_, Heap.get?_push_size _ rfl, rfl, rfl⟩ q)
  · cases r1
    obtain ⟨its, rv, p, hz⟩ := I1.list hq
    exact wpAny_pyIter_list p.isList (pi_one (tk := s1.toks) I1 _ (turn_list a _) ⟨_, Heap.get?_push_size _ rfl, rfl, rfl⟩ q)
  · cases r1
    obtain ⟨its, rv, p, hz⟩ := I1.tuple hq
    exact wpAny_pyIter_tuple (show s1.heap.IsTuple a its.toArray from p) (pi_one (tk := s1.toks) I1 _ (turn_tuple a _) ⟨_, Heap.get?_push_size _ rfl, rfl, rfl⟩ q)
def iEAny (K : PySem.W.Frag) (ta : TA) : TI := fun σ H R => ta σ H fun vs H1 => (∃ z, vs = [.str z] ∧ R (ItES z) H1) ∨ ∃ a xs, vs = [.ref a] ∧ SqL K H1 a xs ∧ R (Ite K a) H1
theorem pi_eany {X : Cx} {e : Expr} {ta : TA} {p pos tp : Pos} {tgs : List Expr} {k0 : Nat} (hg : Gl X "enumerate") (hm : X.mg "enumerate" = none) (ha : PA X [e] ta) (hs : starEach [e] X.env = [(false, eval e X.env)]) :
    PI X (.Tuple tgs k0 tp) (.Call (.Name "enumerate" p) [e] [] pos) (iEAny X.K ta) := by
  refine ⟨fun pins s σ H R Iv hh => Call_ (ld_blt Iv hg hm boot_enumerate (PyProof.Rows.callWith_type1 (thn (ha.run pos pins s σ H _ Iv hh) fun us s1 ⟨vs, H1, Iv1, r1, q1⟩ => ?_) hs rfl))⟩
  have fresh2 : ∀ b ∈ [s1.heap.objs.size + 1, s1.heap.objs.size], FpOk X pins H1 b := fun b hb => by
    have le : s1.heap.objs.size ≤ b := by
      rcases (show b = s1.heap.objs.size + 1 ∨ b = s1.heap.objs.size by simpa using hb) with z | z
      · rw [z]; exact Nat.le_add_right _ _
      · rw [z]; exact Nat.le_refl _
    exact Iv1.fpOk le (Iv1.hok.fresh le)
  rcases q1 with ⟨z, ex, q⟩ | ⟨a, xs, ex, hq, q⟩
  · subst ex
    cases r1 with
    | cons r rr =>
      cases rr
      obtain ⟨t, rfl⟩ := r
      exact call_enumerate_str fun h' he hit hsz hk => wpAny_pyIter_enum he
        ⟨s1.heap.objs.size + 1, [s1.heap.objs.size + 1, s1.heap.objs.size], _, _, H1, rfl, Iv1.kept (t' := s1.toks) hk, turn_ES z t (s1.heap.objs.size + 1) s1.heap.objs.size, ⟨⟨.none, he⟩, hit, Nat.succ_ne_self _⟩, fresh2, q⟩
  · subst ex
    cases r1 with
    | cons r rr =>
      cases rr
      cases r
      obtain ⟨its, rv, p', hz⟩ := Iv1.list hq
      exact call_enumerate_list p'.isList fun h' he hit hsz hk => wpAny_pyIter_enum he
        ⟨s1.heap.objs.size + 1, [s1.heap.objs.size + 1, s1.heap.objs.size], _, _, H1, rfl, Iv1.kept (t' := s1.toks) hk, turn_enum a (s1.heap.objs.size + 1) s1.heap.objs.size, ⟨⟨.none, he⟩, hit, Nat.succ_ne_self _⟩, fresh2, q⟩
def iA (d : D) (g : Gr) : Option (List D × (Gr → Prop)) := match d with
  | .str z => some (chD z, kpT)
  | .tup ds => some (ds, kpT)
  | .lst ds => some (ds, kpT)
  | d => (viewL g d).map fun ds => (ds, kpL d ds)
def iEA (ds : List D) (g : Gr) : Option (List D × (Gr → Prop)) := match ds with
  | [.str z] => some (enD 0 (chD z), kpT)
  | [.lst es] => some (enD 0 es, kpT)
  | [d] => (viewL g d).map fun es => (enD 0 es, kpL d es)
  | _ => none
section
variable {P : Program} {w : World} {K : PySem.W.Frag} {mg : Str → Option Value} {base : Heap} {Z : Sc} {hot : Option (Nat × Str)} {k : Nat} {X : Cx} {W : WX} {pos p : Pos} {tg e : Expr} {m : Exp} {ms : Exps} {tgs : List Expr} {k0 : Nat} {tp : Pos}
theorem xSrcA (h : RE X W e m) : RSrc X W tg e (srcOf m iA) := by
  refine pi_weak (pi_any h) ?_
  rintro σ H R ⟨w1, ρ, g, S0, L, o⟩
  refine bindSrc S0 L o fun d g' v H' w' ds kp le S' r e q => ?_
  unfold iA at e
  split at e
  · cases e
    exact .inl ⟨_, rep_str r, q _ (fol_str _)⟩
  · rename_i es
    cases e
    have e2 : viewT (.tup ds) = some ds := rfl
    obtain ⟨a, xs, rfl, h1, _⟩ := viewT_ok S' r e2
    exact .inr (.inr ⟨a, rfl, ⟨xs, h1⟩, q _ (fol_tup S' r e2 rfl)⟩)
  · rename_i es
    cases e
    have e2 : viewL g' (.lst ds) = some ds := rfl
    obtain ⟨a, xs, rfl, h1, _⟩ := viewL_ok S' r e2
    exact .inr (.inl ⟨a, rfl, ⟨xs, .inl h1⟩, q _ ((fol_list S' r e2 rfl).kpT_of fun _ => rfl)⟩)
  · simp only [Option.map_eq_some_iff] at e
    obtain ⟨es, e2, e3⟩ := e
    cases e3
    obtain ⟨a, xs, rfl, h1, _⟩ := viewL_ok S' r e2
    exact .inr (.inl ⟨a, rfl, ⟨xs, .inl h1⟩, q _ (fol_list S' r e2 rfl)⟩)
theorem xSrcEA (C : Cc P w K mg base Z hot k X W) (i : Nat) (fr : mg "enumerate" = none) (ha : RA X W [e] ms) (hN : Z.gl[i]? = some "enumerate" := by rfl) (hs : starEach [e] X.env = [(false, eval e X.env)] := by rfl) : RSrc X W (.Tuple tgs k0 tp) (.Call (.Name "enumerate" p) [e] [] pos) (srcA ms iEA) := by
  obtain ⟨h1, h2⟩ := C.glo hN
  refine pi_weak (pi_eany h1 (by rw [C.pm]; exact fr) ha hs) ?_
  rintro σ H R ⟨w1, ρ, g, S0, L, o⟩
  refine bindSrcA S0 L o fun es g' vs H' w' ds kp le S' r e q => ?_
  unfold iEA at e
  split at e
  · cases e
    obtain ⟨v, rfl, hv⟩ := repl1 r
    exact .inl ⟨_, by rw [rep_str hv], q _ (fol_ES _)⟩
  · rename_i es
    cases e
    obtain ⟨v, rfl, hv⟩ := repl1 r
    have e2 : viewL g' (.lst es) = some es := rfl
    obtain ⟨a, xs, rfl, h1, _⟩ := viewL_ok S' hv e2
    exact .inr ⟨a, xs, rfl, .inl h1, q _ ((fol_enum S' hv e2 rfl).kpT_of fun _ => rfl)⟩
  · simp only [Option.map_eq_some_iff] at e
    obtain ⟨es, e2, e3⟩ := e
    cases e3
    obtain ⟨v, rfl, hv⟩ := repl1 r
    obtain ⟨a, xs, rfl, h1, _⟩ := viewL_ok S' hv e2
    exact .inr ⟨a, xs, rfl, .inl h1, q _ (fol_enum S' hv e2 rfl)⟩
  · cases e
end
end Fw

set_option maxRecDepth 100000
set_option maxHeartbeats 4000000
/-! Fw: how the machine reckons. -/
namespace Fw
open PySem PySem.Spec PyProof.Rows L2
section
variable {ρ : En} {g g1 : Gr} {d d1 d2 : D} {a b c : Exp} {as : Exps} {f : Fn} {op op2 : D → D → Gr → R}
@[simp] theorem r_ok {f : D → Gr → R} : (R.ok d g).bind f = f d g := rfl
@[simp] theorem rl_ok {ds : List D} {f : List D → Gr → R} : (RL.ok ds g).bind f = f ds g := rfl
@[simp] theorem rs_ok {f : D → Gr → S} : (R.ok d g).toS ρ f = f d g := rfl
@[simp] theorem s_nx {f : En → Gr → S} : (S.nx ρ g).bind f = f ρ g := rfl
@[simp] theorem s_rt {f : En → Gr → S} : (S.ret d g).bind f = .ret d g := rfl
@[simp] theorem s_er {f : En → Gr → S} {x : Str} : (S.err x ρ g).bind f = .err x ρ g := rfl
@[simp] theorem s_bk {f : En → Gr → S} : (S.bk ρ g).bind f = .bk ρ g := rfl
@[simp] theorem s_ct {f : En → Gr → S} : (S.ct ρ g).bind f = .ct ρ g := rfl
@[simp] theorem br_t {x y : R} : (D.bl true).br x y = x := rfl
@[simp] theorem br_f {x y : R} : (D.bl false).br x y = y := rfl
@[simp] theorem bs_t {x y : S} : (D.bl true).brS x y = x := rfl
@[simp] theorem bs_f {x y : S} : (D.bl false).brS x y = y := rfl
@[simp] theorem ev_var {i : Nat} : eVar i ρ g = (match ρ[i]? with
  | some (some d) => .ok d g
  | _ => .no) := rfl
@[simp] theorem ev_c : eC d ρ g = .ok d g := rfl
@[simp] theorem ev_bin : eBin op a b ρ g = (a ρ g).bind fun x g1 => (b ρ g1).bind fun y g2 => op x y g2 := rfl
@[simp] theorem ev_un {op : D → Gr → R} : eUn op a ρ g = (a ρ g).bind op := rfl
@[simp] theorem ev_and : eAnd a b ρ g = (a ρ g).bind fun x g1 => x.br (b ρ g1) (.ok (.bl false) g1) := rfl
@[simp] theorem ev_or : eOr a b ρ g = (a ρ g).bind fun x g1 => x.br (.ok (.bl true) g1) (b ρ g1) := rfl
@[simp] theorem ev_not : eNot a ρ g = (a ρ g).bind fun x g1 => x.br (.ok (.bl false) g1) (.ok (.bl true) g1) := rfl
@[simp] theorem ev_if : eIf c a b ρ g = (c ρ g).bind fun x g1 => x.br (a ρ g1) (b ρ g1) := rfl
@[simp] theorem ev_args : eArgs f as ρ g = (as ρ g).bind f := rfl
@[simp] theorem ev_nil : aNil ρ g = .ok [] g := rfl
@[simp] theorem ev_cons : aCons a as ρ g = (match a ρ g with
  | .ok d g1 => (match as ρ g1 with
    | .ok ds g2 => .ok (d :: ds) g2
    | .err c g2 => .err c g2
    | .no => .no)
  | .err c g1 => .err c g1
  | .no => .no) := rfl
@[simp] theorem ev_bm {ty : D → Gr → Bool} {m : D → List D → Gr → R} : eBm ty m a as ρ g = (a ρ g).bind fun d g1 => if ty d g1 = true then (as ρ g1).bind fun ds g2 => m d ds g2 else .no := rfl
@[simp] theorem ev_frz : eFrz a ρ g = (a ρ g).bind fun d g1 => match d with
  | .obj l => (match g1[l]? with
    | some (.lst ds) => .ok (.lst ds) (g1.set l .dead)
    | _ => .no)
  | d => .ok d g1 := rfl
@[simp] theorem ev_chain : eChain op op2 a b c ρ g = (a ρ g).bind fun x g1 => (b ρ g1).bind fun y g2 => (op x y g2).bind fun z g3 => match z with
  | .bl true => (c ρ g3).bind fun u g4 => op2 y u g4
  | .bl false => .ok (.bl false) g3
  | _ => .no := rfl
variable {p q : Stm} {t : Tg}
@[simp] theorem st_nil : sNil ρ g = .nx ρ g := rfl
@[simp] theorem st_seq : sSeq p q ρ g = (p ρ g).bind q := rfl
@[simp] theorem st_ret : sRet a ρ g = (a ρ g).toS ρ fun d g1 => .ret d g1 := rfl
@[simp] theorem st_retN : sRetN ρ g = .ret .non g := rfl
@[simp] theorem st_do : sDo a ρ g = (a ρ g).toS ρ fun _ g1 => .nx ρ g1 := rfl
@[simp] theorem st_asg : sAsg t a ρ g = (a ρ g).toS ρ fun d g1 => match t d ρ g1 with
  | some (ρ2, g2) => .nx ρ2 g2
  | none => .no := rfl
@[simp] theorem st_if : sIf a p q ρ g = (a ρ g).toS ρ fun x g1 => x.brS (p ρ g1) (q ρ g1) := rfl
@[simp] theorem tg_var {i : Nat} : gVar i d ρ g = some (ρ.set i (some d), g) := rfl
@[simp] theorem tg_nil : gsNil [] ρ g = some (ρ, g) := rfl
@[simp] theorem tg_cons {ts : Tgs} {ds : List D} : gsCons t ts (d :: ds) ρ g = (match t d ρ g with
  | some (ρ1, g1) => ts ds ρ1 g1
  | none => none) := rfl
theorem low_flat {d : D} {n : Nat} (h : d.fl = true) : d.low n = true := by
  cases d <;> first | (cases h; done) | rfl | simp only [D.low]
/-- a call of a pure def, by its body's end -/
theorem pure_ret {n k : Nat} {m : Stm} {ds : List D} {d : D} {g g2 : Gr} (hl : ds.length = n) (h : m (ds.map some ++ List.replicate (k - n) none) g = .ret d (g ++ g2)) (lo : d.low g.length = true) : pureF (fnOf n k m) ds g = .ok d g := by
  unfold pureF fnOf
  rw [if_pos hl, h]
  simp [lo]
theorem pure_ret0 {n k : Nat} {m : Stm} {ds : List D} {d : D} {g : Gr} (hl : ds.length = n) (h : m (ds.map some ++ List.replicate (k - n) none) g = .ret d g) (lo : d.low g.length = true) : pureF (fnOf n k m) ds g = .ok d g := by
  refine pure_ret (g2 := []) hl ?_ lo
  rw [h, List.append_nil]
end
section
variable {g : Gr} {i j : Int} {x y : Str}
@[simp] theorem o_lt : opLt (.int i) (.int j) g = .ok (.bl (decide (i < j))) g := rfl
@[simp] theorem o_le : opLe (.int i) (.int j) g = .ok (.bl (decide (i ≤ j))) g := rfl
@[simp] theorem o_gt : opGt (.int i) (.int j) g = .ok (.bl (decide (j < i))) g := rfl
@[simp] theorem o_ge : opGe (.int i) (.int j) g = .ok (.bl (decide (j ≤ i))) g := rfl
@[simp] theorem o_addI : opAdd (.int i) (.int j) g = .ok (.int (i + j)) g := rfl
@[simp] theorem o_sub : opSub (.int i) (.int j) g = .ok (.int (i - j)) g := rfl
@[simp] theorem o_neg : uNeg (.int i) g = .ok (.int (-i)) g := rfl
theorem o_mul (h : (-18446744073709551616 < i ∧ i < 18446744073709551616) ∨ (-18446744073709551616 < j ∧ j < 18446744073709551616)) : opMul (.int i) (.int j) g = .ok (.int (i * j)) g := if_pos h
theorem o_mod (h : 0 < j) : opMod (.int i) (.int j) g = .ok (.int (i % j)) g := by
  have e : opMod (.int i) (.int j) g = .ok (.int (i.fmod j)) g := if_pos (show j ≠ 0 by omega)
  rw [e, Int.fmod_eq_emod_of_nonneg i (by omega)]
theorem o_div (h : 0 < j) (h2 : j < 1073741824) : opDiv (.int i) (.int j) g = .ok (.int (i / j)) g := by
  have e : opDiv (.int i) (.int j) g = .ok (.int (i.fdiv j)) g := if_pos (show j ≠ 0 ∧ j.natAbs < 1073741824 by omega)
  rw [e, Int.fdiv_eq_ediv_of_nonneg i (by omega)]
theorem o_pow (h : 0 ≤ j ∧ j ≤ 1000000 ∧ i.natAbs < 18446744073709551616) : opPow (.int i) (.int j) g = .ok (.int (i ^ j.toNat)) g := if_pos h
theorem o_addS (h : x.length + y.length ≤ sizeLine) : opAdd (.str x) (.str y) g = .ok (.str (x ++ y)) g := if_pos h
@[simp] theorem o_eqS : opEq (.str x) (.str y) g = .ok (.bl (x == y)) g := rfl
@[simp] theorem o_neS : opNe (.str x) (.str y) g = .ok (.bl (!(x == y))) g := rfl
@[simp] theorem o_eqI : opEq (.int i) (.int j) g = .ok (.bl (i == j)) g := rfl
@[simp] theorem o_neI : opNe (.int i) (.int j) g = .ok (.bl (!(i == j))) g := rfl
@[simp] theorem f_intI : fInt [.int i] g = .ok (.int i) g := rfl
@[simp] theorem f_intB {b : Bool} : fInt [.bl b] g = .ok (.int (if b then 1 else 0)) g := rfl
theorem f_str (h : i.natAbs.log2 < 1920) : fStr [.int i] g = .ok (.str (toString i : String)) g := if_pos h
@[simp] theorem f_lenL {ds : List D} : fLen [.lst ds] g = .ok (.int ds.length) g := rfl
@[simp] theorem f_lenT {ds : List D} : fLen [.tup ds] g = .ok (.int ds.length) g := rfl
theorem f_lenS (h : x.length ≤ sizeLine) : fLen [.str x] g = .ok (.int x.length) g := if_pos h
@[simp] theorem f_max : fMax2 [.int i, .int j] g = .ok (.int (if j > i then j else i)) g := rfl
@[simp] theorem f_min : fMin2 [.int i, .int j] g = .ok (.int (if j < i then j else i)) g := rfl
theorem f_lst {ds : List D} (h : ds.length ≤ sizeLine) : fLst ds g = .ok (.lst ds) g := if_pos h
theorem f_tup {ds : List D} (h : ds.length ≤ sizeLine) : fTup ds g = .ok (.tup ds) g := if_pos h
theorem f_cel {ds : List D} (h : ds.length ≤ sizeLine) : fCel ds g = .ok (.obj g.length) (g ++ [.lst ds]) := if_pos h
theorem atI_nat {α : Type} {xs : List α} {k : Nat} {d : α} (h : xs[k]? = some d) : L2.atI xs (k : Int) = some d := by
  have hk := (List.getElem?_eq_some_iff.mp h).1
  unfold L2.atI L2.ixN
  rw [if_pos (Int.natCast_nonneg k), if_pos (by omega)]
  simpa using h
theorem o_ixL {ds : List D} {k : Nat} {d : D} (h : ds[k]? = some d) : opIx (.lst ds) (.int k) g = .ok d g := by
  unfold opIx
  simp only [viewA, viewT, viewL, atI_nat h]
theorem o_ixT {ds : List D} {k : Nat} {d : D} (h : ds[k]? = some d) : opIx (.tup ds) (.int k) g = .ok d g := by
  unfold opIx
  simp only [viewA, viewT, atI_nat h]
theorem o_ixS {k c : Nat} (hz : x.length ≤ sizeLine) (h : x.cps[k]? = some c) : opIx (.str x) (.int k) g = .ok (.str ⟨#[c]⟩) g := by
  have e : x.cps.toList[k]? = some c := by rw [Array.getElem?_toList]; exact h
  unfold opIx
  simp only [if_pos hz, atI_nat e]
theorem sizeLine_big : 8388608 ≤ sizeLine := by decide
/-- a loop over a list, by an invariant -/
theorem loop_inv {kp : Gr → Prop} {t : Tg} {b : Stm} (Pv : Nat → En → Gr → Prop) (ds : List D) (hk : ∀ n ρ g, Pv n ρ g → kp g)
    (step : ∀ n ρ g d, ds[n]? = some d → Pv n ρ g → ∃ ρ1 g1 ρ2 g2, t d ρ g = some (ρ1, g1) ∧ (b ρ1 g1 = .nx ρ2 g2 ∨ b ρ1 g1 = .ct ρ2 g2) ∧ Pv (n + 1) ρ2 g2) :
    ∀ (m n : Nat) (ρ : En) (g : Gr), n + m = ds.length → Pv n ρ g → ∃ ρ' g', sLoop kp t b (ds.drop n) ρ g = .nx ρ' g' ∧ Pv ds.length ρ' g'
  | 0, n, ρ, g, e, h => by
    have : n = ds.length := by omega
    subst this
    rw [List.drop_length]
    exact ⟨ρ, g, by unfold sLoop; rw [if_pos (hk _ _ _ h)], h⟩
  | m + 1, n, ρ, g, e, h => by
    have hn : n < ds.length := by omega
    obtain ⟨ρ1, g1, ρ2, g2, e1, e2, e3⟩ := step n ρ g ds[n] (by simp [hn]) h
    obtain ⟨ρ', g', q1, q2⟩ := loop_inv Pv ds hk step m (n + 1) ρ2 g2 (by omega) e3
    refine ⟨ρ', g', ?_, q2⟩
    rw [List.drop_eq_getElem_cons hn]
    unfold sLoop
    rw [if_pos (hk _ _ _ h), e1]
    rcases e2 with e2 | e2
    · simp only [e2]; exact q1
    · simp only [e2]; exact q1
/-- a comprehension without a test, each element by itself -/
theorem lc_map {kp : Gr → Prop} {t : Tg} {e : Exp} {ρ : En} {g : Gr} {fin : List D → Gr → R} (hk : kp g) (F : D → D) : ∀ (ds acc : List D), (∀ d ∈ ds, ∃ ρ1, t d ρ g = some (ρ1, g) ∧ e ρ1 g = .ok (F d) g) → acc.length + ds.length < sizeLine →
    lcLoop kp t eYes e ρ fin ds acc g = fin (acc ++ ds.map F) g
  | [], acc, _, _ => by unfold lcLoop; rw [if_pos hk, List.map_nil, List.append_nil]
  | d :: ds, acc, h, hz => by
    obtain ⟨ρ1, e1, e2⟩ := h d List.mem_cons_self
    simp only [List.length_cons] at hz
    unfold lcLoop
    rw [if_pos ⟨hk, by omega⟩, e1]
    simp only [eYes, br_t, e2]
    rw [lc_map hk F ds (acc ++ [F d]) (fun x hx => h x (List.mem_cons_of_mem _ hx)) (by rw [List.length_append, List.length_singleton]; omega)]
    rw [List.append_assoc]; rfl
end
section
variable {g : Gr}
@[simp] theorem snoc_at (c : Cl) : (g ++ [c])[g.length]? = some c := by simp
@[simp] theorem snoc_set (c e : Cl) : (g ++ [c]).set g.length e = g ++ [e] := by
  rw [List.set_append_right _ _ (Nat.le_refl _)]; simp
@[simp] theorem tyL_snoc (ds : List D) : tyL (.obj g.length) (g ++ [.lst ds]) = true := by simp [tyL, viewL]
theorem app_snoc {ds : List D} {e : D} (h : ds.length < sizeLine) : mAppend (.obj g.length) [e] (g ++ [.lst ds]) = .ok .non (g ++ [.lst (ds ++ [e])]) := by
  simp [mAppend, viewC, h]
theorem rangeD_get {lo : Int} {n i : Nat} {d : D} (h : (rangeD lo n)[i]? = some d) : d = .int (lo + (i : Int)) ∧ i < n := by
  have hi : i < n := by have := (List.getElem?_eq_some_iff.mp h).1; rwa [rangeD_len] at this
  unfold rangeD at h
  rw [List.getElem?_map, List.getElem?_range hi] at h
  exact ⟨by simpa using h.symm, hi⟩
theorem iR1_nat {n : Nat} (h : n ≤ 1000000) : iR1 [.int n] g = some (rangeD 0 n, kpT) := by
  have e : rngOk (n : Int) = true := by
    unfold rngOk
    have h1 : (-4611686018427387904 : Int) ≤ (n : Int) := Int.le_trans (by decide) (Int.natCast_nonneg n)
    have h2 : (n : Int) < 4611686018427387904 := Int.lt_of_le_of_lt (Int.ofNat_le.mpr h) (by decide)
    rw [decide_eq_true h1, decide_eq_true h2]
    rfl
  unfold iR1
  simp only [e, if_true, Int.toNat_natCast]
theorem srcA_ok {es : Exps} {ρ : En} {g g1 : Gr} {ds xs : List D} {kp : Gr → Prop} {f : List D → Gr → Option (List D × (Gr → Prop))} (h : es ρ g = .ok ds g1) (h2 : f ds g1 = some (xs, kp)) : srcA es f ρ g = .ok xs kp g1 := by
  unfold srcA
  rw [h]
  simp only [h2]
theorem srcOf_ok {m : Exp} {ρ : En} {g g1 : Gr} {d : D} {xs : List D} {kp : Gr → Prop} {f : D → Gr → Option (List D × (Gr → Prop))} (h : m ρ g = .ok d g1) (h2 : f d g1 = some (xs, kp)) : srcOf m f ρ g = .ok xs kp g1 := by
  unfold srcOf
  rw [h]
  simp only [h2]
/-- for .. in range(n), by an invariant -/
theorem for_range {es : Exps} {t : Tg} {b : Stm} {ρ : En} {n : Nat} (hn : n ≤ 1000000) (he : es ρ g = .ok [.int n] g) (Pv : Nat → En → Gr → Prop) (h0 : Pv 0 ρ g)
    (step : ∀ i ρ g, i < n → Pv i ρ g → ∃ ρ1 g1 ρ2 g2, t (.int (i : Int)) ρ g = some (ρ1, g1) ∧ (b ρ1 g1 = .nx ρ2 g2 ∨ b ρ1 g1 = .ct ρ2 g2) ∧ Pv (i + 1) ρ2 g2) : ∃ ρ' g', sFor (srcA es iR1) t b ρ g = .nx ρ' g' ∧ Pv n ρ' g' := by
  have key := loop_inv (kp := kpT) (t := t) (b := b) Pv (rangeD 0 n) (fun _ _ _ _ => trivial) (fun i ρ g d hd h => by
    obtain ⟨e, hi⟩ := rangeD_get hd
    subst e
    rw [Int.zero_add]
    exact step i ρ g hi h) n 0 ρ g (by rw [rangeD_len, Nat.zero_add]) h0
  obtain ⟨ρ', g', e1, e2⟩ := key
  rw [rangeD_len] at e2
  rw [List.drop_zero] at e1
  have e0 : srcA es iR1 ρ g = .ok (rangeD 0 n) kpT g := srcA_ok he (iR1_nat hn)
  refine ⟨ρ', g', ?_, e2⟩
  unfold sFor
  rw [e0]
  exact e1
end
end Fw

set_option maxRecDepth 100000
set_option maxHeartbeats 4000000
/-! Fw: texts as lists of signs. -/
namespace Fw
open PySem PySem.Spec PyProof.Rows
/-- a text by its signs -/
def tx (l : List Nat) : Str := ⟨l.toArray⟩
theorem tx_cps (l : List Nat) : (tx l).cps.toList = l := by simp [tx]
theorem tx_len (l : List Nat) : (tx l).length = l.length := by simp [tx, Str.length]
theorem tx_of (z : Str) : tx z.cps.toList = z := by cases z; simp [tx]
theorem tx_inj {a b : List Nat} (h : tx a = tx b) : a = b := by
  have := congrArg (fun z : Str => z.cps.toList) h
  simpa [tx] using this
theorem tx_app (a b : List Nat) : tx a ++ tx b = tx (a ++ b) := by
  show (⟨(tx a).cps ++ (tx b).cps⟩ : Str) = _
  simp [tx]
theorem glue_fold (l : List Str) : ∀ acc : Array Nat, (l.foldl (fun acc p => acc ++ (tx []).cps ++ p.cps) acc).toList = acc.toList ++ (l.map fun z => z.cps.toList).flatten := by
  induction l with
  | nil => intro acc; simp
  | cons z l ih => intro acc; rw [List.foldl_cons, ih]; simp [tx]
theorem join_e (ys : List Str) : Txt.join (tx []) ys = tx (ys.map fun z => z.cps.toList).flatten := by
  cases ys with
  | nil => simp [Txt.join, Builtin.Str.glued, tx, Str.empty]
  | cons z l =>
    have h := glue_fold l z.cps
    show (⟨(l.foldl (fun acc p => acc ++ (tx []).cps ++ p.cps) z.cps)⟩ : Str) = _
    have e : (l.foldl (fun acc p => acc ++ (tx []).cps ++ p.cps) z.cps) = (((z :: l).map fun z => z.cps.toList).flatten).toArray := by
      apply Array.toList_inj.mp
      rw [h]; simp
    rw [e]; rfl
/-- the first k of a list -/
theorem cut_to {ds : List D} {k : Nat} (h : k ≤ ds.length) (g : Gr) : cutOp none (some (k : Int)) (.lst ds) g = .ok (.lst (ds.take k)) g := by
  show R.ok (.lst (cutD ds none (some (k : Int)))) g = _
  unfold cutD
  rw [HT.sIx_nat, HT.sIx_none]
  rw [List.drop_zero, Nat.sub_zero, Nat.min_eq_left h]
end Fw

set_option maxRecDepth 100000
set_option maxHeartbeats 4000000
/-! Fw: numbers' texts. -/
namespace Fw
open PySem PySem.Spec PyProof.Rows PySem.NumText
/-- a number's figures -/
def nm (m : Nat) : List Nat := (Nat.toDigits 10 m).map Char.toNat
theorem nm_str (m : Nat) : ((toString ((m : Nat) : Int) : String) : Str) = tx (nm m) := by
  rw [← tx_of ((toString ((m : Nat) : Int) : String) : Str)]
  congr 1
  exact PySem.W.KIN.signs_num m
theorem nm_dig (m : Nat) : AllDigits (nm m) := by
  intro c hc
  obtain ⟨ch, hch, e⟩ := List.mem_map.mp hc
  rw [← e]
  exact digit_range (Nat.isDigit_of_mem_toDigits (by decide) (by decide) hch)
theorem nm_val (m : Nat) : digitsVal (nm m) = m := PySem.W.KIN.val_back m
theorem nm_low {m : Nat} (h : m < 10) : nm m = [48 + m] := by
  have : ∀ d : Nat, d < 10 → nm d = [48 + d] := by decide
  exact this m h
theorem nm_step {m : Nat} (h : 10 ≤ m) : nm m = nm (m / 10) ++ [48 + m % 10] := by
  have hm : m % 10 < 10 := Nat.mod_lt m (by decide)
  have t : Nat.toDigits 10 (m / 10) ++ Nat.toDigits 10 (m % 10) = Nat.toDigits 10 (10 * (m / 10) + m % 10) := Nat.toDigits_append_toDigits (by decide) (by omega) hm
  rw [Nat.div_add_mod] at t
  have e := nm_low hm
  unfold nm at e ⊢
  rw [← t, List.map_append, e]
theorem nm_len : ∀ (k m : Nat), m < 10 ^ (k + 1) → (nm m).length ≤ k + 1
  | 0, m, h => by rw [nm_low (by simpa using h)]; simp
  | k + 1, m, h => by
    by_cases h2 : m < 10
    · rw [nm_low h2]; simp
    · rw [nm_step (by omega), List.length_append, List.length_singleton]
      have := nm_len k (m / 10) (by rw [Nat.pow_succ] at h; omega)
      omega
theorem nm_ne (m : Nat) : nm m ≠ [] := by
  by_cases h : m < 10
  · rw [nm_low h]; simp
  · rw [nm_step (by omega)]; simp
/-- no nought ahead -/
theorem nm_head : ∀ (m : Nat), m ≠ 0 → (nm m)[0]? ≠ some 48 := by
  intro m
  induction m using Nat.strongRecOn with
  | _ m ih =>
    intro h0 e
    by_cases h : m < 10
    · rw [nm_low h] at e
      simp at e; omega
    · rw [nm_step (by omega)] at e
      have l : 0 < (nm (m / 10)).length := List.length_pos_iff.mpr (nm_ne _)
      rw [List.getElem?_append_left l] at e
      exact ih (m / 10) (by omega) (by omega) e
theorem nm_int {m : Nat} (h : (nm m).length ≤ 4300) : PySem.intText? (tx (nm m)) = some (m : Int) := by
  rw [intText_digits (x := tx (nm m)) (by rw [tx_cps]; exact nm_dig m) (by rw [tx_cps]; exact nm_ne m) (by rw [tx_len]; exact h), tx_cps, nm_val]
theorem log_small {m : Nat} (h : m < 1000000000000000000) : ((m : Int)).natAbs.log2 < 1920 := by
  show Nat.log2 m < 1920
  by_cases h0 : m = 0
  · subst h0; decide
  · rw [Nat.log2_lt h0]
    refine Nat.lt_of_lt_of_le h ?_
    exact Nat.le_trans (show 1000000000000000000 ≤ 2 ^ 60 by decide) (Nat.pow_le_pow_right (by decide) (by decide))
theorem f_strN {m : Nat} (h : m < 1000000000000000000) (g : Gr) : fStr [.int (m : Int)] g = .ok (.str (tx (nm m))) g := by
  rw [f_str (log_small h), nm_str]
end Fw

set_option maxRecDepth 100000
set_option maxHeartbeats 4000000
/-! Fv: the machine's steps by frames, for simp (printed by genfv.py). -/
namespace Fw
open PySem PySem.Spec PyProof.Rows
def fBinR (op : D → D → Gr → R) (x : D) : R → R
  | .ok y g => op x y g
  | .err c g => .err c g
  | .no => .no
def fBinL (op : D → D → Gr → R) (b : Exp) (ρ : En) : R → R
  | .ok x g => fBinR op x (b ρ g)
  | .err c g => .err c g
  | .no => .no
def fUn (op : D → Gr → R) : R → R
  | .ok x g => op x g
  | .err c g => .err c g
  | .no => .no
def fAnd (b : Exp) (ρ : En) : R → R
  | .ok x g => x.br (b ρ g) (.ok (.bl false) g)
  | .err c g => .err c g
  | .no => .no
def fOr (b : Exp) (ρ : En) : R → R
  | .ok x g => x.br (.ok (.bl true) g) (b ρ g)
  | .err c g => .err c g
  | .no => .no
def fNot : R → R
  | .ok (.bl b) g => .ok (.bl (!b)) g
  | .ok _ _ => .no
  | .err c g => .err c g
  | .no => .no
def fIfE (a b : Exp) (ρ : En) : R → R
  | .ok x g => x.br (a ρ g) (b ρ g)
  | .err c g => .err c g
  | .no => .no
def fArg (f : Fn) : RL → R
  | .ok ds g => f ds g
  | .err c g => .err c g
  | .no => .no
def fConsR (d : D) : RL → RL
  | .ok ds g => .ok (d :: ds) g
  | .err c g => .err c g
  | .no => .no
def fConsL (as : Exps) (ρ : En) : R → RL
  | .ok d g => fConsR d (as ρ g)
  | .err c g => .err c g
  | .no => .no
def fBmA (m : D → List D → Gr → R) (d : D) : RL → R
  | .ok ds g => m d ds g
  | .err c g => .err c g
  | .no => .no
def fBm (ty : D → Gr → Bool) (m : D → List D → Gr → R) (as : Exps) (ρ : En) : R → R
  | .ok d g => if ty d g = true then fBmA m d (as ρ g) else .no
  | .err c g => .err c g
  | .no => .no
def frzD (g : Gr) : D → R
  | .obj l => (match g[l]? with
    | some (.lst ds) => .ok (.lst ds) (g.set l .dead)
    | _ => .no)
  | d => .ok d g
def fFrz : R → R
  | .ok d g => frzD g d
  | .err c g => .err c g
  | .no => .no
def fCh2 (q : D → D → Gr → R) (y : D) (c : Exp) (ρ : En) : R → R
  | .ok (.bl true) g => fBinR q y (c ρ g)
  | .ok (.bl false) g => .ok (.bl false) g
  | .ok _ _ => .no
  | .err c g => .err c g
  | .no => .no
def fCh1 (p q : D → D → Gr → R) (x : D) (c : Exp) (ρ : En) : R → R
  | .ok y g => fCh2 q y c ρ (p x y g)
  | .err c g => .err c g
  | .no => .no
def fCh0 (p q : D → D → Gr → R) (b c : Exp) (ρ : En) : R → R
  | .ok x g => fCh1 p q x c ρ (b ρ g)
  | .err c g => .err c g
  | .no => .no
def fSl3 (d : D) (i : Int) : R → R
  | .ok (.int j) g => cutOp (some i) (some j) d g
  | .ok _ _ => .no
  | .err c g => .err c g
  | .no => .no
def fSl2 (mh : Exp) (ρ : En) (d : D) : R → R
  | .ok (.int i) g => fSl3 d i (mh ρ g)
  | .ok _ _ => .no
  | .err c g => .err c g
  | .no => .no
def fSl1 (ml mh : Exp) (ρ : En) : R → R
  | .ok d g => fSl2 mh ρ d (ml ρ g)
  | .err c g => .err c g
  | .no => .no
def fSlL2 (d : D) : R → R
  | .ok (.int i) g => cutOp (some i) none d g
  | .ok _ _ => .no
  | .err c g => .err c g
  | .no => .no
def fSlL1 (ml : Exp) (ρ : En) : R → R
  | .ok d g => fSlL2 d (ml ρ g)
  | .err c g => .err c g
  | .no => .no
def fSlU2 (d : D) : R → R
  | .ok (.int i) g => cutOp none (some i) d g
  | .ok _ _ => .no
  | .err c g => .err c g
  | .no => .no
def fSlU1 (mh : Exp) (ρ : En) : R → R
  | .ok d g => fSlU2 d (mh ρ g)
  | .err c g => .err c g
  | .no => .no
/-! statements -/
def fSeq (q : Stm) : S → S
  | .nx ρ g => q ρ g
  | s => s
def fRet (ρ : En) : R → S
  | .ok d g => .ret d g
  | .err c g => .err c ρ g
  | .no => .no
def fDo (ρ : En) : R → S
  | .ok _ g => .nx ρ g
  | .err c g => .err c ρ g
  | .no => .no
def fTg : Option (En × Gr) → S
  | some (ρ, g) => .nx ρ g
  | none => .no
def fAsg (t : Tg) (ρ : En) : R → S
  | .ok d g => fTg (t d ρ g)
  | .err c g => .err c ρ g
  | .no => .no
def fIf (p q : Stm) (ρ : En) : R → S
  | .ok x g => x.brS (p ρ g) (q ρ g)
  | .err c g => .err c ρ g
  | .no => .no
def fGs (ts : Tgs) (ds : List D) : Option (En × Gr) → Option (En × Gr)
  | some (ρ, g) => ts ds ρ g
  | none => none
noncomputable def fFor (t : Tg) (b : Stm) (ρ : En) : RI → S
  | .ok ds kp g => sLoop kp t b ds ρ g
  | .err c g => .err c ρ g
  | .no => .no
def fSrc2 : Gr → Option (List D × (Gr → Prop)) → RI
  | g, some (xs, kp) => .ok xs kp g
  | _, none => .no
def fSrc (f : D → Gr → Option (List D × (Gr → Prop))) : R → RI
  | .ok d g => fSrc2 g (f d g)
  | .err c g => .err c g
  | .no => .no
def fSrcA (f : List D → Gr → Option (List D × (Gr → Prop))) : RL → RI
  | .ok ds g => fSrc2 g (f ds g)
  | .err c g => .err c g
  | .no => .no
noncomputable def fLc (fin : List D → Gr → R) (vs : List Nat) (t : Tg) (c e : Exp) (ρ : En) : RI → R
  | .ok ds kp g => lcLoop kp t c e (wipeR ρ vs) fin ds [] g
  | .err c g => .err c g
  | .no => .no
/-- a def's end -/
def fEnd : S → R
  | .nx _ g' => .ok .non g'
  | .ret d g' => .ok d g'
  | .err c _ g' => .err c g'
  | _ => .no
section
variable {ρ ρ' : En} {g g1 : Gr} {d d1 d2 x y : D} {a b c : Exp} {as : Exps} {f : Fn} {op op2 : D → D → Gr → R} {cc : Str} {ds : List D} {p q : Stm} {t : Tg} {ts : Tgs} {u1 : D → Gr → R} {src : Src}
theorem v_c : eC d ρ g = .ok d g := rfl
theorem v_bin : eBin op a b ρ g = fBinL op b ρ (a ρ g) := by
  show R.bind (a ρ g) _ = _
  cases a ρ g with
  | ok d g =>
    show R.bind (b ρ g) _ = fBinR op d (b ρ g)
    cases b ρ g <;> rfl
  | _ => rfl
theorem v_un : eUn u1 a ρ g = fUn u1 (a ρ g) := by unfold eUn fUn; cases a ρ g <;> rfl
theorem v_and : eAnd a b ρ g = fAnd b ρ (a ρ g) := by unfold eAnd fAnd; cases a ρ g <;> rfl
theorem v_or : eOr a b ρ g = fOr b ρ (a ρ g) := by unfold eOr fOr; cases a ρ g <;> rfl
theorem v_not : eNot a ρ g = fNot (a ρ g) := by
  unfold eNot fNot; cases a ρ g with
  | ok d g => cases d with
    | bl b => cases b <;> rfl
    | _ => rfl
  | _ => rfl
theorem v_ife : eIf c a b ρ g = fIfE a b ρ (c ρ g) := by unfold eIf fIfE; cases c ρ g <;> rfl
theorem v_args : eArgs f as ρ g = fArg f (as ρ g) := by unfold eArgs fArg; cases as ρ g <;> rfl
theorem v_nil : aNil ρ g = .ok [] g := rfl
theorem cons_eq {r : R} {h : Gr → RL} : (match r with
  | .ok d g1 => (match h g1 with
    | .ok ds g2 => RL.ok (d :: ds) g2
    | .err c g2 => .err c g2
    | .no => .no)
  | .err c g1 => .err c g1
  | .no => .no) = (match r with
  | .ok d g1 => fConsR d (h g1)
  | .err c g1 => .err c g1
  | .no => .no) := by
  cases r with
  | ok d g => dsimp only; cases h g <;> rfl
  | _ => rfl
theorem v_cons : aCons a as ρ g = fConsL as ρ (a ρ g) := (cons_eq (r := a ρ g) (h := as ρ)).trans (by cases a ρ g <;> rfl)
theorem v_bm {ty : D → Gr → Bool} {m : D → List D → Gr → R} : eBm ty m a as ρ g = fBm ty m as ρ (a ρ g) := by
  show R.bind (a ρ g) _ = _
  cases a ρ g with
  | ok d g =>
    show (if ty d g = true then RL.bind (as ρ g) _ else _) = (if ty d g = true then fBmA m d (as ρ g) else _)
    cases as ρ g <;> rfl
  | _ => rfl
theorem v_frz : eFrz a ρ g = fFrz (a ρ g) := by unfold eFrz fFrz frzD; cases a ρ g <;> rfl
theorem v_chain : eChain op op2 a b c ρ g = fCh0 op op2 b c ρ (a ρ g) := by
  show R.bind (a ρ g) _ = _
  cases a ρ g with
  | ok x g =>
    show R.bind (b ρ g) _ = fCh1 op op2 x c ρ (b ρ g)
    cases b ρ g with
    | ok y g =>
      show R.bind (op x y g) _ = fCh2 op2 y c ρ (op x y g)
      cases op x y g with
      | ok z g =>
        cases z with
        | bl k =>
          cases k with
          | true =>
            show R.bind (c ρ g) _ = fBinR op2 y (c ρ g)
            cases c ρ g <;> rfl
          | false => rfl
        | _ => rfl
      | _ => rfl
    | _ => rfl
  | _ => rfl
theorem v_slLU : eSlLU a b c ρ g = fSl1 b c ρ (a ρ g) := by
  show R.bind (a ρ g) _ = _
  cases a ρ g with
  | ok x g =>
    show R.bind (b ρ g) _ = fSl2 c ρ x (b ρ g)
    cases b ρ g with
    | ok y g =>
      cases y with
      | int i =>
        show R.bind (c ρ g) _ = fSl3 x i (c ρ g)
        cases c ρ g with
        | ok z g => cases z <;> rfl
        | _ => rfl
      | _ => rfl
    | _ => rfl
  | _ => rfl
theorem v_slL : eSlL a b ρ g = fSlL1 b ρ (a ρ g) := by
  show R.bind (a ρ g) _ = _
  cases a ρ g with
  | ok x g =>
    show R.bind (b ρ g) _ = fSlL2 x (b ρ g)
    cases b ρ g with
    | ok y g => cases y <;> rfl
    | _ => rfl
  | _ => rfl
theorem v_slU : eSlU a b ρ g = fSlU1 b ρ (a ρ g) := by
  show R.bind (a ρ g) _ = _
  cases a ρ g with
  | ok x g =>
    show R.bind (b ρ g) _ = fSlU2 x (b ρ g)
    cases b ρ g with
    | ok y g => cases y <;> rfl
    | _ => rfl
  | _ => rfl
theorem v_lc {fin : List D → Gr → R} {vs : List Nat} : eLc fin src vs t c a ρ g = fLc fin vs t c a ρ (src ρ g) := by unfold eLc fLc; cases src ρ g <;> rfl
theorem v_seq : sSeq p q ρ g = fSeq q (p ρ g) := by unfold sSeq fSeq; cases p ρ g <;> rfl
theorem v_snil : sNil ρ g = .nx ρ g := rfl
theorem v_ret : sRet a ρ g = fRet ρ (a ρ g) := by unfold sRet fRet; cases a ρ g <;> rfl
theorem v_retN : sRetN ρ g = .ret .non g := rfl
theorem v_brk : sBrk ρ g = .bk ρ g := rfl
theorem v_cnt : sCnt ρ g = .ct ρ g := rfl
theorem v_do : sDo a ρ g = fDo ρ (a ρ g) := by unfold sDo fDo; cases a ρ g <;> rfl
theorem v_asg : sAsg t a ρ g = fAsg t ρ (a ρ g) := by
  show R.toS (a ρ g) ρ _ = _
  cases a ρ g with
  | ok d g =>
    show (match t d ρ g with | some (ρ2, g2) => S.nx ρ2 g2 | none => S.no) = fTg (t d ρ g)
    cases t d ρ g <;> rfl
  | _ => rfl
theorem v_if : sIf c p q ρ g = fIf p q ρ (c ρ g) := by unfold sIf fIf; cases c ρ g <;> rfl
theorem v_for : sFor src t p ρ g = fFor t p ρ (src ρ g) := by unfold sFor fFor; cases src ρ g <;> rfl
theorem srcOf_eq {r : R} {f : D → Gr → Option (List D × (Gr → Prop))} : (match r with
  | .ok d g1 => (match f d g1 with
    | some (ds, kp) => RI.ok ds kp g1
    | none => .no)
  | .err c g1 => .err c g1
  | .no => .no) = fSrc f r := by
  cases r with
  | ok d g =>
    show (match f d g with | some (ds, kp) => RI.ok ds kp g | none => .no) = fSrc2 g (f d g)
    cases f d g <;> rfl
  | _ => rfl
theorem v_srcOf {f : D → Gr → Option (List D × (Gr → Prop))} : srcOf a f ρ g = fSrc f (a ρ g) := (by unfold srcOf; rfl : srcOf a f ρ g = _).trans srcOf_eq
theorem srcA_eq {r : RL} {f : List D → Gr → Option (List D × (Gr → Prop))} : (match r with
  | .ok d g1 => (match f d g1 with
    | some (ds, kp) => RI.ok ds kp g1
    | none => .no)
  | .err c g1 => .err c g1
  | .no => .no) = fSrcA f r := by
  cases r with
  | ok d g =>
    show (match f d g with | some (ds, kp) => RI.ok ds kp g | none => .no) = fSrc2 g (f d g)
    cases f d g <;> rfl
  | _ => rfl
theorem v_srcA {f : List D → Gr → Option (List D × (Gr → Prop))} : srcA as f ρ g = fSrcA f (as ρ g) := (by unfold srcA; rfl : srcA as f ρ g = _).trans srcA_eq
theorem v_fn {n k : Nat} {m : Stm} (h : ds.length = n) : fnOf n k m ds g = fEnd (m (ds.map some ++ List.replicate (k - n) none) g) := by
  unfold fnOf fEnd; rw [if_pos h] <;> rfl
theorem w_binL : fBinL op b ρ (.ok x g) = fBinR op x (b ρ g) := rfl
theorem w_binR : fBinR op x (.ok y g) = op x y g := rfl
theorem w_un : fUn u1 (.ok x g) = u1 x g := rfl
theorem w_andT : fAnd b ρ (.ok (.bl true) g) = b ρ g := rfl
theorem w_andF : fAnd b ρ (.ok (.bl false) g) = .ok (.bl false) g := rfl
theorem w_orT : fOr b ρ (.ok (.bl true) g) = .ok (.bl true) g := rfl
theorem w_orF : fOr b ρ (.ok (.bl false) g) = b ρ g := rfl
theorem w_not {k : Bool} : fNot (.ok (.bl k) g) = .ok (.bl (!k)) g := rfl
theorem w_ifT : fIfE a b ρ (.ok (.bl true) g) = a ρ g := rfl
theorem w_ifF : fIfE a b ρ (.ok (.bl false) g) = b ρ g := rfl
theorem w_arg : fArg f (.ok ds g) = f ds g := rfl
theorem w_consL : fConsL as ρ (.ok d g) = fConsR d (as ρ g) := rfl
theorem w_consR : fConsR d (.ok ds g) = .ok (d :: ds) g := rfl
theorem w_bmA {m : D → List D → Gr → R} : fBmA m d (.ok ds g) = m d ds g := rfl
theorem w_bmS {m : D → List D → Gr → R} {z : Str} : fBm tyS m as ρ (.ok (.str z) g) = fBmA m (.str z) (as ρ g) := rfl
theorem w_bm {ty : D → Gr → Bool} {m : D → List D → Gr → R} (h : ty d g = true) : fBm ty m as ρ (.ok d g) = fBmA m d (as ρ g) := if_pos h
theorem w_frz : fFrz (.ok d g) = frzD g d := rfl
theorem w_ch0 : fCh0 op op2 b c ρ (.ok x g) = fCh1 op op2 x c ρ (b ρ g) := rfl
theorem w_ch1 : fCh1 op op2 x c ρ (.ok y g) = fCh2 op2 y c ρ (op x y g) := rfl
theorem w_ch2T : fCh2 op2 y c ρ (.ok (.bl true) g) = fBinR op2 y (c ρ g) := rfl
theorem w_ch2F : fCh2 op2 y c ρ (.ok (.bl false) g) = .ok (.bl false) g := rfl
theorem w_sl1 : fSl1 b c ρ (.ok d g) = fSl2 c ρ d (b ρ g) := rfl
theorem w_sl2 {i : Int} : fSl2 c ρ d (.ok (.int i) g) = fSl3 d i (c ρ g) := rfl
theorem w_sl3 {i j : Int} : fSl3 d i (.ok (.int j) g) = cutOp (some i) (some j) d g := rfl
theorem w_slL1 : fSlL1 b ρ (.ok d g) = fSlL2 d (b ρ g) := rfl
theorem w_slL2 {i : Int} : fSlL2 d (.ok (.int i) g) = cutOp (some i) none d g := rfl
theorem w_slU1 : fSlU1 b ρ (.ok d g) = fSlU2 d (b ρ g) := rfl
theorem w_slU2 {i : Int} : fSlU2 d (.ok (.int i) g) = cutOp none (some i) d g := rfl
theorem w_seq : fSeq q (.nx ρ g) = q ρ g := rfl
theorem w_seqR : fSeq q (.ret d g) = .ret d g := rfl
theorem w_seqB : fSeq q (.bk ρ g) = .bk ρ g := rfl
theorem w_seqC : fSeq q (.ct ρ g) = .ct ρ g := rfl
theorem w_seqE : fSeq q (.err cc ρ g) = .err cc ρ g := rfl
theorem w_ret : fRet ρ (.ok d g) = .ret d g := rfl
theorem w_do : fDo ρ (.ok d g) = .nx ρ g := rfl
theorem w_asg : fAsg t ρ (.ok d g) = fTg (t d ρ g) := rfl
theorem w_tg : fTg (some (ρ, g)) = .nx ρ g := rfl
theorem w_sifT : fIf p q ρ (.ok (.bl true) g) = p ρ g := rfl
theorem w_sifF : fIf p q ρ (.ok (.bl false) g) = q ρ g := rfl
theorem w_gs : fGs ts ds (some (ρ, g)) = ts ds ρ g := rfl
theorem w_gsnil : gsNil [] ρ g = some (ρ, g) := rfl
theorem w_gscons : gsCons t ts (d :: ds) ρ g = fGs ts ds (t d ρ g) := by
  show (match t d ρ g with | some (ρ1, g1) => ts ds ρ1 g1 | none => none) = _
  cases t d ρ g <;> rfl
theorem w_for {kp : Gr → Prop} : fFor t p ρ (.ok ds kp g) = sLoop kp t p ds ρ g := rfl
theorem w_src {f : D → Gr → Option (List D × (Gr → Prop))} : fSrc f (.ok d g) = fSrc2 g (f d g) := rfl
theorem w_srcA {f : List D → Gr → Option (List D × (Gr → Prop))} : fSrcA f (.ok ds g) = fSrc2 g (f ds g) := rfl
theorem w_src2 {kp : Gr → Prop} : fSrc2 g (some (ds, kp)) = .ok ds kp g := rfl
theorem w_lc {fin : List D → Gr → R} {vs : List Nat} {kp : Gr → Prop} : fLc fin vs t c a ρ (.ok ds kp g) = lcLoop kp t c a (wipeR ρ vs) fin ds [] g := rfl
theorem w_endN : fEnd (.nx ρ g) = .ok .non g := rfl
theorem w_endR : fEnd (.ret d g) = .ok d g := rfl
theorem w_endE : fEnd (.err cc ρ g) = .err cc g := rfl
theorem e_binL : fBinL op b ρ (.err cc g) = .err cc g := rfl
theorem e_binR : fBinR op x (.err cc g) = .err cc g := rfl
theorem e_un : fUn u1 (.err cc g) = .err cc g := rfl
theorem e_and : fAnd b ρ (.err cc g) = .err cc g := rfl
theorem e_or : fOr b ρ (.err cc g) = .err cc g := rfl
theorem e_not : fNot (.err cc g) = .err cc g := rfl
theorem e_ife : fIfE a b ρ (.err cc g) = .err cc g := rfl
theorem e_arg : fArg f (.err cc g) = .err cc g := rfl
theorem e_consL : fConsL as ρ (.err cc g) = .err cc g := rfl
theorem e_consR : fConsR d (.err cc g) = .err cc g := rfl
theorem e_bmA {m : D → List D → Gr → R} : fBmA m d (.err cc g) = .err cc g := rfl
theorem e_bm {ty : D → Gr → Bool} {m : D → List D → Gr → R} : fBm ty m as ρ (.err cc g) = .err cc g := rfl
theorem e_ret : fRet ρ (.err cc g) = .err cc ρ g := rfl
theorem e_do : fDo ρ (.err cc g) = .err cc ρ g := rfl
theorem e_asg : fAsg t ρ (.err cc g) = .err cc ρ g := rfl
theorem e_if : fIf p q ρ (.err cc g) = .err cc ρ g := rfl
theorem e_for : fFor t p ρ (.err cc g) = .err cc ρ g := rfl
theorem e_src {f : D → Gr → Option (List D × (Gr → Prop))} : fSrc f (.err cc g) = .err cc g := rfl
theorem e_srcA {f : List D → Gr → Option (List D × (Gr → Prop))} : fSrcA f (.err cc g) = .err cc g := rfl
theorem v_x0 {r : En} : eVar 0 (some d :: r) g = .ok d g := rfl
theorem v_s0 {z : Option D} {r : En} : gVar 0 d (z :: r) g = some (some d :: r, g) := rfl
theorem v_x1 {x0 : Option D} {r : En} : eVar 1 (x0 :: some d :: r) g = .ok d g := rfl
theorem v_s1 {x0 : Option D} {z : Option D} {r : En} : gVar 1 d (x0 :: z :: r) g = some (x0 :: some d :: r, g) := rfl
theorem v_x2 {x0 x1 : Option D} {r : En} : eVar 2 (x0 :: x1 :: some d :: r) g = .ok d g := rfl
theorem v_s2 {x0 x1 : Option D} {z : Option D} {r : En} : gVar 2 d (x0 :: x1 :: z :: r) g = some (x0 :: x1 :: some d :: r, g) := rfl
theorem v_x3 {x0 x1 x2 : Option D} {r : En} : eVar 3 (x0 :: x1 :: x2 :: some d :: r) g = .ok d g := rfl
theorem v_s3 {x0 x1 x2 : Option D} {z : Option D} {r : En} : gVar 3 d (x0 :: x1 :: x2 :: z :: r) g = some (x0 :: x1 :: x2 :: some d :: r, g) := rfl
theorem v_x4 {x0 x1 x2 x3 : Option D} {r : En} : eVar 4 (x0 :: x1 :: x2 :: x3 :: some d :: r) g = .ok d g := rfl
theorem v_s4 {x0 x1 x2 x3 : Option D} {z : Option D} {r : En} : gVar 4 d (x0 :: x1 :: x2 :: x3 :: z :: r) g = some (x0 :: x1 :: x2 :: x3 :: some d :: r, g) := rfl
theorem v_x5 {x0 x1 x2 x3 x4 : Option D} {r : En} : eVar 5 (x0 :: x1 :: x2 :: x3 :: x4 :: some d :: r) g = .ok d g := rfl
theorem v_s5 {x0 x1 x2 x3 x4 : Option D} {z : Option D} {r : En} : gVar 5 d (x0 :: x1 :: x2 :: x3 :: x4 :: z :: r) g = some (x0 :: x1 :: x2 :: x3 :: x4 :: some d :: r, g) := rfl
theorem v_x6 {x0 x1 x2 x3 x4 x5 : Option D} {r : En} : eVar 6 (x0 :: x1 :: x2 :: x3 :: x4 :: x5 :: some d :: r) g = .ok d g := rfl
theorem v_s6 {x0 x1 x2 x3 x4 x5 : Option D} {z : Option D} {r : En} : gVar 6 d (x0 :: x1 :: x2 :: x3 :: x4 :: x5 :: z :: r) g = some (x0 :: x1 :: x2 :: x3 :: x4 :: x5 :: some d :: r, g) := rfl
theorem v_x7 {x0 x1 x2 x3 x4 x5 x6 : Option D} {r : En} : eVar 7 (x0 :: x1 :: x2 :: x3 :: x4 :: x5 :: x6 :: some d :: r) g = .ok d g := rfl
theorem v_s7 {x0 x1 x2 x3 x4 x5 x6 : Option D} {z : Option D} {r : En} : gVar 7 d (x0 :: x1 :: x2 :: x3 :: x4 :: x5 :: x6 :: z :: r) g = some (x0 :: x1 :: x2 :: x3 :: x4 :: x5 :: x6 :: some d :: r, g) := rfl
theorem v_x8 {x0 x1 x2 x3 x4 x5 x6 x7 : Option D} {r : En} : eVar 8 (x0 :: x1 :: x2 :: x3 :: x4 :: x5 :: x6 :: x7 :: some d :: r) g = .ok d g := rfl
theorem v_s8 {x0 x1 x2 x3 x4 x5 x6 x7 : Option D} {z : Option D} {r : En} : gVar 8 d (x0 :: x1 :: x2 :: x3 :: x4 :: x5 :: x6 :: x7 :: z :: r) g = some (x0 :: x1 :: x2 :: x3 :: x4 :: x5 :: x6 :: x7 :: some d :: r, g) := rfl
theorem v_x9 {x0 x1 x2 x3 x4 x5 x6 x7 x8 : Option D} {r : En} : eVar 9 (x0 :: x1 :: x2 :: x3 :: x4 :: x5 :: x6 :: x7 :: x8 :: some d :: r) g = .ok d g := rfl
theorem v_s9 {x0 x1 x2 x3 x4 x5 x6 x7 x8 : Option D} {z : Option D} {r : En} : gVar 9 d (x0 :: x1 :: x2 :: x3 :: x4 :: x5 :: x6 :: x7 :: x8 :: z :: r) g = some (x0 :: x1 :: x2 :: x3 :: x4 :: x5 :: x6 :: x7 :: x8 :: some d :: r, g) := rfl
theorem v_x10 {x0 x1 x2 x3 x4 x5 x6 x7 x8 x9 : Option D} {r : En} : eVar 10 (x0 :: x1 :: x2 :: x3 :: x4 :: x5 :: x6 :: x7 :: x8 :: x9 :: some d :: r) g = .ok d g := rfl
theorem v_s10 {x0 x1 x2 x3 x4 x5 x6 x7 x8 x9 : Option D} {z : Option D} {r : En} : gVar 10 d (x0 :: x1 :: x2 :: x3 :: x4 :: x5 :: x6 :: x7 :: x8 :: x9 :: z :: r) g = some (x0 :: x1 :: x2 :: x3 :: x4 :: x5 :: x6 :: x7 :: x8 :: x9 :: some d :: r, g) := rfl
theorem v_x11 {x0 x1 x2 x3 x4 x5 x6 x7 x8 x9 x10 : Option D} {r : En} : eVar 11 (x0 :: x1 :: x2 :: x3 :: x4 :: x5 :: x6 :: x7 :: x8 :: x9 :: x10 :: some d :: r) g = .ok d g := rfl
theorem v_s11 {x0 x1 x2 x3 x4 x5 x6 x7 x8 x9 x10 : Option D} {z : Option D} {r : En} : gVar 11 d (x0 :: x1 :: x2 :: x3 :: x4 :: x5 :: x6 :: x7 :: x8 :: x9 :: x10 :: z :: r) g = some (x0 :: x1 :: x2 :: x3 :: x4 :: x5 :: x6 :: x7 :: x8 :: x9 :: x10 :: some d :: r, g) := rfl
theorem v_x12 {x0 x1 x2 x3 x4 x5 x6 x7 x8 x9 x10 x11 : Option D} {r : En} : eVar 12 (x0 :: x1 :: x2 :: x3 :: x4 :: x5 :: x6 :: x7 :: x8 :: x9 :: x10 :: x11 :: some d :: r) g = .ok d g := rfl
theorem v_s12 {x0 x1 x2 x3 x4 x5 x6 x7 x8 x9 x10 x11 : Option D} {z : Option D} {r : En} : gVar 12 d (x0 :: x1 :: x2 :: x3 :: x4 :: x5 :: x6 :: x7 :: x8 :: x9 :: x10 :: x11 :: z :: r) g = some (x0 :: x1 :: x2 :: x3 :: x4 :: x5 :: x6 :: x7 :: x8 :: x9 :: x10 :: x11 :: some d :: r, g) := rfl
theorem v_x13 {x0 x1 x2 x3 x4 x5 x6 x7 x8 x9 x10 x11 x12 : Option D} {r : En} : eVar 13 (x0 :: x1 :: x2 :: x3 :: x4 :: x5 :: x6 :: x7 :: x8 :: x9 :: x10 :: x11 :: x12 :: some d :: r) g = .ok d g := rfl
theorem v_s13 {x0 x1 x2 x3 x4 x5 x6 x7 x8 x9 x10 x11 x12 : Option D} {z : Option D} {r : En} : gVar 13 d (x0 :: x1 :: x2 :: x3 :: x4 :: x5 :: x6 :: x7 :: x8 :: x9 :: x10 :: x11 :: x12 :: z :: r) g = some (x0 :: x1 :: x2 :: x3 :: x4 :: x5 :: x6 :: x7 :: x8 :: x9 :: x10 :: x11 :: x12 :: some d :: r, g) := rfl
theorem v_x14 {x0 x1 x2 x3 x4 x5 x6 x7 x8 x9 x10 x11 x12 x13 : Option D} {r : En} : eVar 14 (x0 :: x1 :: x2 :: x3 :: x4 :: x5 :: x6 :: x7 :: x8 :: x9 :: x10 :: x11 :: x12 :: x13 :: some d :: r) g = .ok d g := rfl
theorem v_s14 {x0 x1 x2 x3 x4 x5 x6 x7 x8 x9 x10 x11 x12 x13 : Option D} {z : Option D} {r : En} : gVar 14 d (x0 :: x1 :: x2 :: x3 :: x4 :: x5 :: x6 :: x7 :: x8 :: x9 :: x10 :: x11 :: x12 :: x13 :: z :: r) g = some (x0 :: x1 :: x2 :: x3 :: x4 :: x5 :: x6 :: x7 :: x8 :: x9 :: x10 :: x11 :: x12 :: x13 :: some d :: r, g) := rfl
theorem v_x15 {x0 x1 x2 x3 x4 x5 x6 x7 x8 x9 x10 x11 x12 x13 x14 : Option D} {r : En} : eVar 15 (x0 :: x1 :: x2 :: x3 :: x4 :: x5 :: x6 :: x7 :: x8 :: x9 :: x10 :: x11 :: x12 :: x13 :: x14 :: some d :: r) g = .ok d g := rfl
theorem v_s15 {x0 x1 x2 x3 x4 x5 x6 x7 x8 x9 x10 x11 x12 x13 x14 : Option D} {z : Option D} {r : En} : gVar 15 d (x0 :: x1 :: x2 :: x3 :: x4 :: x5 :: x6 :: x7 :: x8 :: x9 :: x10 :: x11 :: x12 :: x13 :: x14 :: z :: r) g = some (x0 :: x1 :: x2 :: x3 :: x4 :: x5 :: x6 :: x7 :: x8 :: x9 :: x10 :: x11 :: x12 :: x13 :: x14 :: some d :: r, g) := rfl
theorem v_x16 {x0 x1 x2 x3 x4 x5 x6 x7 x8 x9 x10 x11 x12 x13 x14 x15 : Option D} {r : En} : eVar 16 (x0 :: x1 :: x2 :: x3 :: x4 :: x5 :: x6 :: x7 :: x8 :: x9 :: x10 :: x11 :: x12 :: x13 :: x14 :: x15 :: some d :: r) g = .ok d g := rfl
theorem v_s16 {x0 x1 x2 x3 x4 x5 x6 x7 x8 x9 x10 x11 x12 x13 x14 x15 : Option D} {z : Option D} {r : En} : gVar 16 d (x0 :: x1 :: x2 :: x3 :: x4 :: x5 :: x6 :: x7 :: x8 :: x9 :: x10 :: x11 :: x12 :: x13 :: x14 :: x15 :: z :: r) g = some (x0 :: x1 :: x2 :: x3 :: x4 :: x5 :: x6 :: x7 :: x8 :: x9 :: x10 :: x11 :: x12 :: x13 :: x14 :: x15 :: some d :: r, g) := rfl
theorem v_x17 {x0 x1 x2 x3 x4 x5 x6 x7 x8 x9 x10 x11 x12 x13 x14 x15 x16 : Option D} {r : En} : eVar 17 (x0 :: x1 :: x2 :: x3 :: x4 :: x5 :: x6 :: x7 :: x8 :: x9 :: x10 :: x11 :: x12 :: x13 :: x14 :: x15 :: x16 :: some d :: r) g = .ok d g := rfl
theorem v_s17 {x0 x1 x2 x3 x4 x5 x6 x7 x8 x9 x10 x11 x12 x13 x14 x15 x16 : Option D} {z : Option D} {r : En} : gVar 17 d (x0 :: x1 :: x2 :: x3 :: x4 :: x5 :: x6 :: x7 :: x8 :: x9 :: x10 :: x11 :: x12 :: x13 :: x14 :: x15 :: x16 :: z :: r) g = some (x0 :: x1 :: x2 :: x3 :: x4 :: x5 :: x6 :: x7 :: x8 :: x9 :: x10 :: x11 :: x12 :: x13 :: x14 :: x15 :: x16 :: some d :: r, g) := rfl
theorem v_x18 {x0 x1 x2 x3 x4 x5 x6 x7 x8 x9 x10 x11 x12 x13 x14 x15 x16 x17 : Option D} {r : En} : eVar 18 (x0 :: x1 :: x2 :: x3 :: x4 :: x5 :: x6 :: x7 :: x8 :: x9 :: x10 :: x11 :: x12 :: x13 :: x14 :: x15 :: x16 :: x17 :: some d :: r) g = .ok d g := rfl
theorem v_s18 {x0 x1 x2 x3 x4 x5 x6 x7 x8 x9 x10 x11 x12 x13 x14 x15 x16 x17 : Option D} {z : Option D} {r : En} : gVar 18 d (x0 :: x1 :: x2 :: x3 :: x4 :: x5 :: x6 :: x7 :: x8 :: x9 :: x10 :: x11 :: x12 :: x13 :: x14 :: x15 :: x16 :: x17 :: z :: r) g = some (x0 :: x1 :: x2 :: x3 :: x4 :: x5 :: x6 :: x7 :: x8 :: x9 :: x10 :: x11 :: x12 :: x13 :: x14 :: x15 :: x16 :: x17 :: some d :: r, g) := rfl
theorem v_x19 {x0 x1 x2 x3 x4 x5 x6 x7 x8 x9 x10 x11 x12 x13 x14 x15 x16 x17 x18 : Option D} {r : En} : eVar 19 (x0 :: x1 :: x2 :: x3 :: x4 :: x5 :: x6 :: x7 :: x8 :: x9 :: x10 :: x11 :: x12 :: x13 :: x14 :: x15 :: x16 :: x17 :: x18 :: some d :: r) g = .ok d g := rfl
theorem v_s19 {x0 x1 x2 x3 x4 x5 x6 x7 x8 x9 x10 x11 x12 x13 x14 x15 x16 x17 x18 : Option D} {z : Option D} {r : En} : gVar 19 d (x0 :: x1 :: x2 :: x3 :: x4 :: x5 :: x6 :: x7 :: x8 :: x9 :: x10 :: x11 :: x12 :: x13 :: x14 :: x15 :: x16 :: x17 :: x18 :: z :: r) g = some (x0 :: x1 :: x2 :: x3 :: x4 :: x5 :: x6 :: x7 :: x8 :: x9 :: x10 :: x11 :: x12 :: x13 :: x14 :: x15 :: x16 :: x17 :: x18 :: some d :: r, g) := rfl
theorem v_x20 {x0 x1 x2 x3 x4 x5 x6 x7 x8 x9 x10 x11 x12 x13 x14 x15 x16 x17 x18 x19 : Option D} {r : En} : eVar 20 (x0 :: x1 :: x2 :: x3 :: x4 :: x5 :: x6 :: x7 :: x8 :: x9 :: x10 :: x11 :: x12 :: x13 :: x14 :: x15 :: x16 :: x17 :: x18 :: x19 :: some d :: r) g = .ok d g := rfl
theorem v_s20 {x0 x1 x2 x3 x4 x5 x6 x7 x8 x9 x10 x11 x12 x13 x14 x15 x16 x17 x18 x19 : Option D} {z : Option D} {r : En} : gVar 20 d (x0 :: x1 :: x2 :: x3 :: x4 :: x5 :: x6 :: x7 :: x8 :: x9 :: x10 :: x11 :: x12 :: x13 :: x14 :: x15 :: x16 :: x17 :: x18 :: x19 :: z :: r) g = some (x0 :: x1 :: x2 :: x3 :: x4 :: x5 :: x6 :: x7 :: x8 :: x9 :: x10 :: x11 :: x12 :: x13 :: x14 :: x15 :: x16 :: x17 :: x18 :: x19 :: some d :: r, g) := rfl
theorem v_x21 {x0 x1 x2 x3 x4 x5 x6 x7 x8 x9 x10 x11 x12 x13 x14 x15 x16 x17 x18 x19 x20 : Option D} {r : En} : eVar 21 (x0 :: x1 :: x2 :: x3 :: x4 :: x5 :: x6 :: x7 :: x8 :: x9 :: x10 :: x11 :: x12 :: x13 :: x14 :: x15 :: x16 :: x17 :: x18 :: x19 :: x20 :: some d :: r) g = .ok d g := rfl
theorem v_s21 {x0 x1 x2 x3 x4 x5 x6 x7 x8 x9 x10 x11 x12 x13 x14 x15 x16 x17 x18 x19 x20 : Option D} {z : Option D} {r : En} : gVar 21 d (x0 :: x1 :: x2 :: x3 :: x4 :: x5 :: x6 :: x7 :: x8 :: x9 :: x10 :: x11 :: x12 :: x13 :: x14 :: x15 :: x16 :: x17 :: x18 :: x19 :: x20 :: z :: r) g = some (x0 :: x1 :: x2 :: x3 :: x4 :: x5 :: x6 :: x7 :: x8 :: x9 :: x10 :: x11 :: x12 :: x13 :: x14 :: x15 :: x16 :: x17 :: x18 :: x19 :: x20 :: some d :: r, g) := rfl
theorem v_x22 {x0 x1 x2 x3 x4 x5 x6 x7 x8 x9 x10 x11 x12 x13 x14 x15 x16 x17 x18 x19 x20 x21 : Option D} {r : En} : eVar 22 (x0 :: x1 :: x2 :: x3 :: x4 :: x5 :: x6 :: x7 :: x8 :: x9 :: x10 :: x11 :: x12 :: x13 :: x14 :: x15 :: x16 :: x17 :: x18 :: x19 :: x20 :: x21 :: some d :: r) g = .ok d g := rfl
theorem v_s22 {x0 x1 x2 x3 x4 x5 x6 x7 x8 x9 x10 x11 x12 x13 x14 x15 x16 x17 x18 x19 x20 x21 : Option D} {z : Option D} {r : En} : gVar 22 d (x0 :: x1 :: x2 :: x3 :: x4 :: x5 :: x6 :: x7 :: x8 :: x9 :: x10 :: x11 :: x12 :: x13 :: x14 :: x15 :: x16 :: x17 :: x18 :: x19 :: x20 :: x21 :: z :: r) g = some (x0 :: x1 :: x2 :: x3 :: x4 :: x5 :: x6 :: x7 :: x8 :: x9 :: x10 :: x11 :: x12 :: x13 :: x14 :: x15 :: x16 :: x17 :: x18 :: x19 :: x20 :: x21 :: some d :: r, g) := rfl
theorem v_x23 {x0 x1 x2 x3 x4 x5 x6 x7 x8 x9 x10 x11 x12 x13 x14 x15 x16 x17 x18 x19 x20 x21 x22 : Option D} {r : En} : eVar 23 (x0 :: x1 :: x2 :: x3 :: x4 :: x5 :: x6 :: x7 :: x8 :: x9 :: x10 :: x11 :: x12 :: x13 :: x14 :: x15 :: x16 :: x17 :: x18 :: x19 :: x20 :: x21 :: x22 :: some d :: r) g = .ok d g := rfl
theorem v_s23 {x0 x1 x2 x3 x4 x5 x6 x7 x8 x9 x10 x11 x12 x13 x14 x15 x16 x17 x18 x19 x20 x21 x22 : Option D} {z : Option D} {r : En} : gVar 23 d (x0 :: x1 :: x2 :: x3 :: x4 :: x5 :: x6 :: x7 :: x8 :: x9 :: x10 :: x11 :: x12 :: x13 :: x14 :: x15 :: x16 :: x17 :: x18 :: x19 :: x20 :: x21 :: x22 :: z :: r) g = some (x0 :: x1 :: x2 :: x3 :: x4 :: x5 :: x6 :: x7 :: x8 :: x9 :: x10 :: x11 :: x12 :: x13 :: x14 :: x15 :: x16 :: x17 :: x18 :: x19 :: x20 :: x21 :: x22 :: some d :: r, g) := rfl
theorem v_x24 {x0 x1 x2 x3 x4 x5 x6 x7 x8 x9 x10 x11 x12 x13 x14 x15 x16 x17 x18 x19 x20 x21 x22 x23 : Option D} {r : En} : eVar 24 (x0 :: x1 :: x2 :: x3 :: x4 :: x5 :: x6 :: x7 :: x8 :: x9 :: x10 :: x11 :: x12 :: x13 :: x14 :: x15 :: x16 :: x17 :: x18 :: x19 :: x20 :: x21 :: x22 :: x23 :: some d :: r) g = .ok d g := rfl
theorem v_s24 {x0 x1 x2 x3 x4 x5 x6 x7 x8 x9 x10 x11 x12 x13 x14 x15 x16 x17 x18 x19 x20 x21 x22 x23 : Option D} {z : Option D} {r : En} : gVar 24 d (x0 :: x1 :: x2 :: x3 :: x4 :: x5 :: x6 :: x7 :: x8 :: x9 :: x10 :: x11 :: x12 :: x13 :: x14 :: x15 :: x16 :: x17 :: x18 :: x19 :: x20 :: x21 :: x22 :: x23 :: z :: r) g = some (x0 :: x1 :: x2 :: x3 :: x4 :: x5 :: x6 :: x7 :: x8 :: x9 :: x10 :: x11 :: x12 :: x13 :: x14 :: x15 :: x16 :: x17 :: x18 :: x19 :: x20 :: x21 :: x22 :: x23 :: some d :: r, g) := rfl
theorem v_x25 {x0 x1 x2 x3 x4 x5 x6 x7 x8 x9 x10 x11 x12 x13 x14 x15 x16 x17 x18 x19 x20 x21 x22 x23 x24 : Option D} {r : En} : eVar 25 (x0 :: x1 :: x2 :: x3 :: x4 :: x5 :: x6 :: x7 :: x8 :: x9 :: x10 :: x11 :: x12 :: x13 :: x14 :: x15 :: x16 :: x17 :: x18 :: x19 :: x20 :: x21 :: x22 :: x23 :: x24 :: some d :: r) g = .ok d g := rfl
theorem v_s25 {x0 x1 x2 x3 x4 x5 x6 x7 x8 x9 x10 x11 x12 x13 x14 x15 x16 x17 x18 x19 x20 x21 x22 x23 x24 : Option D} {z : Option D} {r : En} : gVar 25 d (x0 :: x1 :: x2 :: x3 :: x4 :: x5 :: x6 :: x7 :: x8 :: x9 :: x10 :: x11 :: x12 :: x13 :: x14 :: x15 :: x16 :: x17 :: x18 :: x19 :: x20 :: x21 :: x22 :: x23 :: x24 :: z :: r) g = some (x0 :: x1 :: x2 :: x3 :: x4 :: x5 :: x6 :: x7 :: x8 :: x9 :: x10 :: x11 :: x12 :: x13 :: x14 :: x15 :: x16 :: x17 :: x18 :: x19 :: x20 :: x21 :: x22 :: x23 :: x24 :: some d :: r, g) := rfl
theorem v_unp1 {y0 : D} : gUnp 1 ts (.tup [y0]) ρ g = ts [y0] ρ g := rfl
theorem v_unpL1 {y0 : D} : gUnpL 1 ts (.lst [y0]) ρ g = ts [y0] ρ g := rfl
theorem v_unp2 {y0 y1 : D} : gUnp 2 ts (.tup [y0, y1]) ρ g = ts [y0, y1] ρ g := rfl
theorem v_unpL2 {y0 y1 : D} : gUnpL 2 ts (.lst [y0, y1]) ρ g = ts [y0, y1] ρ g := rfl
theorem v_unp3 {y0 y1 y2 : D} : gUnp 3 ts (.tup [y0, y1, y2]) ρ g = ts [y0, y1, y2] ρ g := rfl
theorem v_unpL3 {y0 y1 y2 : D} : gUnpL 3 ts (.lst [y0, y1, y2]) ρ g = ts [y0, y1, y2] ρ g := rfl
theorem v_unp4 {y0 y1 y2 y3 : D} : gUnp 4 ts (.tup [y0, y1, y2, y3]) ρ g = ts [y0, y1, y2, y3] ρ g := rfl
theorem v_unpL4 {y0 y1 y2 y3 : D} : gUnpL 4 ts (.lst [y0, y1, y2, y3]) ρ g = ts [y0, y1, y2, y3] ρ g := rfl
theorem v_unp5 {y0 y1 y2 y3 y4 : D} : gUnp 5 ts (.tup [y0, y1, y2, y3, y4]) ρ g = ts [y0, y1, y2, y3, y4] ρ g := rfl
theorem v_unpL5 {y0 y1 y2 y3 y4 : D} : gUnpL 5 ts (.lst [y0, y1, y2, y3, y4]) ρ g = ts [y0, y1, y2, y3, y4] ρ g := rfl
theorem v_unp6 {y0 y1 y2 y3 y4 y5 : D} : gUnp 6 ts (.tup [y0, y1, y2, y3, y4, y5]) ρ g = ts [y0, y1, y2, y3, y4, y5] ρ g := rfl
theorem v_unpL6 {y0 y1 y2 y3 y4 y5 : D} : gUnpL 6 ts (.lst [y0, y1, y2, y3, y4, y5]) ρ g = ts [y0, y1, y2, y3, y4, y5] ρ g := rfl
theorem v_unp7 {y0 y1 y2 y3 y4 y5 y6 : D} : gUnp 7 ts (.tup [y0, y1, y2, y3, y4, y5, y6]) ρ g = ts [y0, y1, y2, y3, y4, y5, y6] ρ g := rfl
theorem v_unpL7 {y0 y1 y2 y3 y4 y5 y6 : D} : gUnpL 7 ts (.lst [y0, y1, y2, y3, y4, y5, y6]) ρ g = ts [y0, y1, y2, y3, y4, y5, y6] ρ g := rfl
theorem v_unp8 {y0 y1 y2 y3 y4 y5 y6 y7 : D} : gUnp 8 ts (.tup [y0, y1, y2, y3, y4, y5, y6, y7]) ρ g = ts [y0, y1, y2, y3, y4, y5, y6, y7] ρ g := rfl
theorem v_unpL8 {y0 y1 y2 y3 y4 y5 y6 y7 : D} : gUnpL 8 ts (.lst [y0, y1, y2, y3, y4, y5, y6, y7]) ρ g = ts [y0, y1, y2, y3, y4, y5, y6, y7] ρ g := rfl
end
end Fw

set_option maxRecDepth 100000
set_option maxHeartbeats 4000000
/-! Fv: loops by an invariant, lists of ints, texts by their signs. -/
namespace Fw
open PySem PySem.Spec PyProof.Rows
/-- a turn that goes on -/
def S.go (P : En → Gr → Prop) : S → Prop
  | .nx ρ g => P ρ g
  | .ct ρ g => P ρ g
  | _ => False
def fTurn (b : Stm) : Option (En × Gr) → S
  | some (ρ, g) => b ρ g
  | none => .no
section
variable {P : En → Gr → Prop} {ρ : En} {g : Gr} {b : Stm}
theorem w_goN : S.go P (.nx ρ g) = P ρ g := rfl
theorem w_goC : S.go P (.ct ρ g) = P ρ g := rfl
theorem w_turn : fTurn b (some (ρ, g)) = b ρ g := rfl
end
theorem loop_wp {kp : Gr → Prop} {t : Tg} {b : Stm} (I : Nat → En → Gr → Prop) {ds : List D} {ρ : En} {g : Gr} (h0 : I 0 ρ g) (hk : ∀ n ρ g, I n ρ g → kp g)
    (step : ∀ n ρ g d, ds[n]? = some d → I n ρ g → S.go (I (n + 1)) (fTurn b (t d ρ g))) : ∃ ρ' g', sLoop kp t b ds ρ g = .nx ρ' g' ∧ I ds.length ρ' g' := by
  have key := loop_inv (kp := kp) (t := t) (b := b) I ds hk (fun n ρ g d hd hI => by
    have z := step n ρ g d hd hI
    cases e : t d ρ g with
    | none => rw [e] at z; exact z.elim
    | some p =>
      obtain ⟨ρ1, g1⟩ := p
      rw [e, w_turn] at z
      cases e2 : b ρ1 g1 with
      | nx ρ2 g2 => rw [e2] at z; exact ⟨ρ1, g1, ρ2, g2, rfl, .inl e2, z⟩
      | ct ρ2 g2 => rw [e2] at z; exact ⟨ρ1, g1, ρ2, g2, rfl, .inr e2, z⟩
      | _ => rw [e2] at z; exact z.elim) ds.length 0 ρ g (Nat.zero_add _) h0
  rw [List.drop_zero] at key
  exact key
/-- a loop that returns in no turn, over ints from 0 on -/
theorem loop_rng {t : Tg} {b : Stm} (I : Nat → En → Gr → Prop) {n : Nat} {ρ : En} {g : Gr} (h0 : I 0 ρ g)
    (step : ∀ i ρ g, i < n → I i ρ g → S.go (I (i + 1)) (fTurn b (t (.int (i : Int)) ρ g))) : ∃ ρ' g', sLoop kpT t b (rangeD 0 n) ρ g = .nx ρ' g' ∧ I n ρ' g' := by
  have key := loop_wp (kp := kpT) (t := t) (b := b) I (ds := rangeD 0 n) h0 (fun _ _ _ _ => trivial) (fun i ρ g d hd h => by
    obtain ⟨e, hi⟩ := rangeD_get hd
    subst e
    rw [Int.zero_add]
    exact step i ρ g hi h)
  rw [rangeD_len] at key
  exact key
theorem loop_then {K : S → Prop} {kp : Gr → Prop} {t : Tg} {b : Stm} {ds : List D} {ρ : En} {g : Gr} (I : Nat → En → Gr → Prop) (h0 : I 0 ρ g) (hk : ∀ n ρ g, I n ρ g → kp g)
    (step : ∀ n ρ g d, ds[n]? = some d → I n ρ g → S.go (I (n + 1)) (fTurn b (t d ρ g))) (fin : ∀ ρ' g', I ds.length ρ' g' → K (.nx ρ' g')) : K (sLoop kp t b ds ρ g) := by
  obtain ⟨ρ', g', e, h⟩ := loop_wp I h0 hk step
  rw [e]; exact fin ρ' g' h
theorem rng_then {K : S → Prop} {t : Tg} {b : Stm} {n : Nat} {ρ : En} {g : Gr} (I : Nat → En → Gr → Prop) (h0 : I 0 ρ g)
    (step : ∀ i ρ g, i < n → I i ρ g → S.go (I (i + 1)) (fTurn b (t (.int (i : Int)) ρ g))) (fin : ∀ ρ' g', I n ρ' g' → K (.nx ρ' g')) : K (sLoop kpT t b (rangeD 0 n) ρ g) := by
  obtain ⟨ρ', g', e, h⟩ := loop_rng I h0 step
  rw [e]; exact fin ρ' g' h
/-- a list of ints -/
abbrev li (ns : List Int) : D := .lst (ns.map .int)
def at_ (ns : List Int) (k : Int) : Int := ns.getD k.toNat 0
theorem low_ints {n : Nat} : ∀ ns : List Int, D.low.lowAll n (ns.map .int) = true
  | [] => by simp [D.low.lowAll]
  | a :: ns => by simp [D.low.lowAll, D.low, low_ints ns]
theorem low_li {n : Nat} (ns : List Int) : (li ns).low n = true := by simp only [D.low]; exact low_ints ns
section
variable {g : Gr} {ns : List Int} {i k : Int} {a b : List Nat}
theorem v_lenli : fLen [.lst (ns.map .int)] g = .ok (.int (ns.length : Int)) g := by rw [f_lenL, List.length_map]
theorem v_ixli (h : 0 ≤ k ∧ k < (ns.length : Int)) : opIx (.lst (ns.map .int)) (.int k) g = .ok (.int (at_ ns k)) g := by
  have e : k = (k.toNat : Int) := (Int.toNat_of_nonneg h.1).symm
  have hl : k.toNat < ns.length := by omega
  have q := o_ixL (g := g) (ds := ns.map D.int) (k := k.toNat) (d := .int (at_ ns k)) (by rw [List.getElem?_map, at_, List.getElem?_eq_getElem hl]; simp [hl])
  rw [← e] at q
  exact q
theorem at_mem (h : 0 ≤ k ∧ k < (ns.length : Int)) : at_ ns k ∈ ns := by
  have hl : k.toNat < ns.length := by omega
  unfold at_
  rw [List.getD_eq_getElem?_getD, List.getElem?_eq_getElem hl]
  simp
theorem v_lenT (h : a.length ≤ 8388608) : fLen [.str (tx a)] g = .ok (.int (a.length : Int)) g := by
  rw [f_lenS (by rw [tx_len]; exact Nat.le_trans h sizeLine_big), tx_len]
theorem v_addT (h : a.length + b.length ≤ 8388608) : opAdd (.str (tx a)) (.str (tx b)) g = .ok (.str (tx (a ++ b))) g := by
  rw [o_addS (by rw [tx_len, tx_len]; exact Nat.le_trans h sizeLine_big), tx_app]
theorem tx_beq : (tx a == tx b) = decide (a = b) := by
  by_cases h : a = b
  · subst h; simp
  · have : tx a ≠ tx b := fun e => h (tx_inj e)
    simp [h, this]
theorem v_eqT : opEq (.str (tx a)) (.str (tx b)) g = .ok (.bl (decide (a = b))) g := by rw [o_eqS, tx_beq]
theorem v_neT : opNe (.str (tx a)) (.str (tx b)) g = .ok (.bl (!decide (a = b))) g := by rw [o_neS, tx_beq]
theorem v_eqI : opEq (.int i) (.int k) g = .ok (.bl (decide (i = k))) g := by rw [o_eqI]; congr 2
theorem v_neI : opNe (.int i) (.int k) g = .ok (.bl (!decide (i = k))) g := by rw [o_neI]; congr 2
theorem v_strN (h : 0 ≤ i ∧ i < 1000000000000000000) : fStr [.int i] g = .ok (.str (tx (nm i.toNat))) g := by
  have e : i = (i.toNat : Int) := (Int.toNat_of_nonneg h.1).symm
  have q := f_strN (m := i.toNat) (by omega) g
  rw [← e] at q
  exact q
theorem v_strS {z : Str} : fStr [.str z] g = .ok (.str z) g := rfl
theorem v_ord (c : Nat) : fOrd [.str (tx [c])] g = .ok (.int c) g := rfl
theorem v_appC {ds : List D} {e : D} (h : ds.length < 8388608) : mAppend (.obj g.length) [e] (g ++ [.lst ds]) = .ok .non (g ++ [.lst (ds ++ [e])]) := app_snoc (Nat.lt_of_lt_of_le h sizeLine_big)
@[irreducible] def E18 : Int := 1000000000000000000
theorem E18_eq : E18 = 1000000000000000000 := by unfold E18; rfl
theorem v_pow18 : opPow (.int 10) (.int 18) g = .ok (.int E18) g := by
  rw [o_pow (by decide), E18_eq]
  rfl
/-- item of a text -/
theorem v_ixT (hz : a.length ≤ 8388608) (h : 0 ≤ k ∧ k < (a.length : Int)) : opIx (.str (tx a)) (.int k) g = .ok (.str (tx [a.getD k.toNat 0])) g := by
  have e : k = (k.toNat : Int) := (Int.toNat_of_nonneg h.1).symm
  have hl : k.toNat < a.length := by omega
  have q := o_ixS (x := tx a) (g := g) (k := k.toNat) (c := a.getD k.toNat 0) (by rw [tx_len]; exact Nat.le_trans hz sizeLine_big) (by simp [tx, hl])
  rw [← e] at q
  exact q
theorem v_lst {ds : List D} (h : ds.length ≤ 8388608) : fLst ds g = .ok (.lst ds) g := f_lst (Nat.le_trans h sizeLine_big)
theorem v_tup {ds : List D} (h : ds.length ≤ 8388608) : fTup ds g = .ok (.tup ds) g := f_tup (Nat.le_trans h sizeLine_big)
theorem v_cel {ds : List D} (h : ds.length ≤ 8388608) : fCel ds g = .ok (.obj g.length) (g ++ [.lst ds]) := f_cel (Nat.le_trans h sizeLine_big)
theorem v_appT {xs ys : List D} (h : xs ≠ [] ∧ xs.length + ys.length ≤ 8388608) : opAdd (.tup xs) (.tup ys) g = .ok (.tup (xs ++ ys)) g := if_pos ⟨h.1, Nat.le_trans h.2 sizeLine_big⟩
theorem v_appL {xs ys : List D} (h : xs.length + ys.length ≤ 8388608) : opAdd (.lst xs) (.lst ys) g = .ok (.lst (xs ++ ys)) g := if_pos (Nat.le_trans h sizeLine_big)
theorem v_rng1 (h : -1000000 ≤ i ∧ i ≤ 1000000) : iR1 [.int i] g = some (rangeD 0 i.toNat, kpT) := by
  have e : rngOk i = true := by
    unfold rngOk
    have h1 : (-4611686018427387904 : Int) ≤ i := Int.le_trans (by decide) h.1
    have h2 : i < 4611686018427387904 := Int.lt_of_le_of_lt h.2 (by decide)
    rw [decide_eq_true h1, decide_eq_true h2]
    rfl
  unfold iR1
  simp only [e, if_true]
theorem v_enT : iEA [.str (tx a)] g = some (enD 0 (chD (tx a)), kpT) := rfl
theorem v_iT : iA (.str (tx a)) g = some (chD (tx a), kpT) := rfl
theorem v_iL {ds : List D} : iA (.lst ds) g = some (ds, kpT) := rfl
theorem v_iTp {ds : List D} : iA (.tup ds) g = some (ds, kpT) := rfl
theorem chD_tx : chD (tx a) = a.map fun c => .str (tx [c]) := by simp [chD, tx]
theorem v_cutLTo {ds : List D} (h : 0 ≤ k) : cutOp none (some k) (.lst ds) g = .ok (.lst (ds.take k.toNat)) g := by
  have e : k = (k.toNat : Int) := (Int.toNat_of_nonneg h).symm
  show R.ok (.lst (cutD ds none (some k))) g = _
  rw [e]
  unfold cutD
  rw [HT.sIx_nat, HT.sIx_none, List.drop_zero, Nat.sub_zero, Int.toNat_natCast]
  rcases Nat.le_total k.toNat ds.length with h | h
  · rw [Nat.min_eq_left h]
  · rw [Nat.min_eq_right h, List.take_of_length_le (Nat.le_refl _), List.take_of_length_le h]
theorem v_cutLFrom {ds : List D} (h : 0 ≤ k) : cutOp (some k) none (.lst ds) g = .ok (.lst (ds.drop k.toNat)) g := by
  have e : k = (k.toNat : Int) := (Int.toNat_of_nonneg h).symm
  show R.ok (.lst (cutD ds (some k) none)) g = _
  rw [e]
  unfold cutD
  rw [HT.sIx_nat, HT.sIx_none, Int.toNat_natCast]
  rcases Nat.le_total k.toNat ds.length with h | h
  · rw [Nat.min_eq_left h, List.take_of_length_le (by simp)]
  · rw [Nat.min_eq_right h, List.drop_of_length_le h, List.drop_of_length_le (Nat.le_refl _), List.take_nil]
theorem v_wipe0 {ρ : En} : wipeR ρ [] = ρ := rfl
theorem v_wipe1 {ρ : En} {v : Nat} {vs : List Nat} : wipeR ρ (v :: vs) = (wipeR ρ vs).set v none := rfl
end
/-- a comprehension's element -/
def fTe (e : Exp) : Option (En × Gr) → R
  | some (ρ, g) => e ρ g
  | none => .no
theorem w_te {e : Exp} {ρ : En} {g : Gr} : fTe e (some (ρ, g)) = e ρ g := rfl
theorem lc_of {α : Type} (F : α → D) {kp : Gr → Prop} {t : Tg} {e : Exp} {ρ : En} {g : Gr} {f : α → D} {xs : List α} (hk : kp g) (h : ∀ x ∈ xs, fTe e (t (f x) ρ g) = .ok (F x) g) (hz : xs.length < 8388608) :
    lcLoop kp t eYes e ρ finF (xs.map f) [] g = .ok (.lst (xs.map F)) g := by
  have key : ∀ (ys : List α) (acc : List D), (∀ x ∈ ys, fTe e (t (f x) ρ g) = .ok (F x) g) → acc.length + ys.length < sizeLine → lcLoop kp t eYes e ρ finF (ys.map f) acc g = .ok (.lst (acc ++ ys.map F)) g := by
    intro ys
    induction ys with
    | nil => intro acc _ _; simp only [List.map_nil, lcLoop, if_pos hk, List.append_nil]; rfl
    | cons y ys ih =>
      intro acc hy hz
      have h1 := hy y List.mem_cons_self
      rw [List.map_cons]
      cases et : t (f y) ρ g with
      | none => rw [et] at h1; cases h1
      | some p =>
        obtain ⟨ρ1, g1⟩ := p
        rw [et, w_te] at h1
        simp only [List.length_cons] at hz
        unfold lcLoop
        rw [if_pos ⟨hk, by omega⟩, et]
        simp only [eYes, br_t, h1]
        rw [ih (acc ++ [F y]) (fun x hx => hy x (List.mem_cons_of_mem _ hx)) (by rw [List.length_append, List.length_singleton]; omega), List.append_assoc]
        rfl
  rw [key xs [] h (by have := sizeLine_big; simp; omega), List.nil_append]
end Fw

set_option maxRecDepth 100000
set_option maxHeartbeats 4000000
/-! Fv: texts cut at a sign. -/
namespace Fw
open PySem PySem.Spec PyProof.Rows PySem.Builtin PySem.Builtin.Str
def joinL (c : Nat) : List (List Nat) → List Nat
  | [] => []
  | [p] => p
  | p :: q :: r => p ++ c :: joinL c (q :: r)
def splitL (c : Nat) : List Nat → List (List Nat)
  | [] => [[]]
  | a :: l => if a = c then [] :: splitL c l else (match splitL c l with
    | p :: r => (a :: p) :: r
    | [] => [[a]])
theorem splitL_one {c : Nat} : ∀ {p : List Nat}, c ∉ p → splitL c p = [p]
  | [], _ => rfl
  | a :: p, h => by
    have h1 : a ≠ c := fun e => h (e ▸ List.mem_cons_self)
    have h2 := splitL_one (c := c) (p := p) fun m => h (List.mem_cons_of_mem _ m)
    simp only [splitL, if_neg h1, h2]
theorem splitL_cut {c : Nat} {l : List Nat} : ∀ {p : List Nat}, c ∉ p → splitL c (p ++ c :: l) = p :: splitL c l
  | [], _ => by simp [splitL]
  | a :: p, h => by
    have h1 : a ≠ c := fun e => h (e ▸ List.mem_cons_self)
    have h2 := splitL_cut (c := c) (l := l) (p := p) fun m => h (List.mem_cons_of_mem _ m)
    simp only [List.cons_append, splitL, if_neg h1, h2]
theorem splitL_join {c : Nat} : ∀ {ps : List (List Nat)}, ps ≠ [] → (∀ p ∈ ps, c ∉ p) → splitL c (joinL c ps) = ps
  | [], h, _ => absurd rfl h
  | [p], _, h => splitL_one (h p List.mem_cons_self)
  | p :: q :: r, _, h => by
    rw [joinL, splitL_cut (h p List.mem_cons_self), splitL_join (List.cons_ne_nil _ _) fun x hx => h x (List.mem_cons_of_mem _ hx)]
theorem join_list (c : Nat) : ∀ ss : List Str, (Str.join (tx [c]) ss).cps.toList = joinL c (ss.map fun z => z.cps.toList)
  | [] => rfl
  | [p] => rfl
  | p :: q :: r => by
    show (p ++ tx [c] ++ Str.join (tx [c]) (q :: r)).cps.toList = _
    rw [Str.cps_append, Str.cps_append, Array.toList_append, Array.toList_append, join_list c (q :: r)]
    simp [joinL, tx]
theorem split_ne (x y : Str) : Txt.split x y ≠ [] := by
  unfold Txt.split
  split
  · exact List.cons_ne_nil _ _
  · split
    · exact List.cons_ne_nil _ _
    · rw [StrLaws.partsBetween_eq]
      obtain ⟨p, r, e⟩ := StrLaws.partsFrom_ne x y.length 0 (occurrences x y 0 x.length (x.length + 1))
      rw [e]; exact List.cons_ne_nil _ _
theorem split_tx (l : List Nat) (c : Nat) : Txt.split (tx l) (tx [c]) = (splitL c l).map tx := by
  have h1 := congrArg (fun z : Str => z.cps.toList) (StrLaws.join_split (tx l) (tx [c]))
  simp only [join_list, tx_cps] at h1
  have h2 : ∀ p ∈ (Txt.split (tx l) (tx [c])).map (fun z => z.cps.toList), c ∉ p := by
    intro p hp
    obtain ⟨z, hz, rfl⟩ := List.mem_map.mp hp
    exact StrLaws.split_free (tx l) c z hz
  have h3 := splitL_join (c := c) (ps := (Txt.split (tx l) (tx [c])).map (fun z => z.cps.toList)) (by simpa using split_ne _ _) h2
  rw [h1] at h3
  rw [h3, List.map_map]
  have : (tx ∘ fun z : Str => z.cps.toList) = fun z => z := by funext z; exact tx_of z
  rw [this, List.map_id']
theorem at_tx {l : List Nat} {c i : Nat} : (i + (tx [c]).length ≤ (tx l).length ∧ subAt (tx l) (tx [c]) i = true) ↔ l[i]? = some c := by
  have h := StrLaws.subAt_one (tx l) c i
  rw [tx_cps] at h
  exact h
theorem occR_stay (s sub : Str) : ∀ (l : List Nat) (st : Array Nat × Nat), 1 ≤ st.1.size → (forIn l st (StrLaws.occRBody s sub 1)).run = st
  | [], st, _ => rfl
  | a :: l, st, h => by
    rw [List.forIn_cons]
    have e : StrLaws.occRBody s sub 1 a st = pure (ForInStep.yield (st.fst, st.snd)) := by
      unfold StrLaws.occRBody
      rw [if_neg (by omega)]
    rw [e]
    exact occR_stay s sub l st h
theorem occR_find (l : List Nat) (c : Nat) : ∀ (ks : List Nat) (k : Nat) (post : List Nat), (∀ j ∈ ks, l[l.length - j]? ≠ some c) → 1 ≤ k → k ≤ l.length → l[l.length - k]? = some c →
    (forIn (ks ++ k :: post) ((#[] : Array Nat), l.length) (StrLaws.occRBody (tx l) (tx [c]) 1)).run.1 = #[l.length - k]
  | [], k, post, _, hk1, hk2, hk => by
    rw [List.nil_append, List.forIn_cons]
    have z := at_tx.mpr hk
    have e : StrLaws.occRBody (tx l) (tx [c]) 1 k (#[], l.length) = pure (ForInStep.yield ((#[] : Array Nat).push (l.length - k), l.length - k)) := by
      unfold StrLaws.occRBody
      rw [tx_len l, if_pos ⟨⟨by simp, by rw [tx_len]; simp only [List.length_cons, List.length_nil]; omega⟩, z.2⟩]
    rw [e]
    exact congrArg Prod.fst (occR_stay _ _ post _ (by simp))
  | j :: ks, k, post, hj, hk1, hk2, hk => by
    rw [List.cons_append, List.forIn_cons]
    have e : StrLaws.occRBody (tx l) (tx [c]) 1 j (#[], l.length) = pure (ForInStep.yield ((#[] : Array Nat), l.length)) := by
      unfold StrLaws.occRBody
      rw [if_neg]
      rintro ⟨⟨_, h1⟩, h2⟩
      rw [tx_len l] at h1 h2
      refine hj j List.mem_cons_self (at_tx.mp ⟨?_, h2⟩)
      rw [tx_len l]; exact h1
    rw [e]
    exact occR_find l c ks k post (fun x hx => hj x (List.mem_cons_of_mem _ hx)) hk1 hk2 hk
theorem rsplit_tx {a b : List Nat} {c : Nat} (hb : c ∉ b) (hc : c < 256) : Txt.rsplitMax (tx (a ++ c :: b)) (tx [c]) 1 = [tx a, tx b] := by
  have hlen : (tx (a ++ c :: b)).length = a.length + b.length + 1 := by rw [tx_len]; simp; omega
  have hget : ∀ j, j ≤ b.length → (a ++ c :: b)[(a ++ c :: b).length - j]? ≠ some c := by
    intro j hj e
    by_cases h0 : j = 0
    · subst h0
      rw [List.getElem?_eq_none (by omega)] at e; cases e
    · rw [List.getElem?_append_right (by simp; omega)] at e
      have e2 : (a ++ c :: b).length - j - a.length = (b.length - j) + 1 := by simp; omega
      rw [e2, List.getElem?_cons_succ] at e
      exact hb (List.mem_of_getElem? e)
  have hat : (a ++ c :: b)[(a ++ c :: b).length - (b.length + 1)]? = some c := by
    have e2 : (a ++ c :: b).length - (b.length + 1) = a.length := by simp only [List.length_append, List.length_cons]; omega
    rw [e2]; simp
  have key : occurrencesFromRight (tx (a ++ c :: b)) (tx [c]) 1 = [a.length] := by
    rw [StrLaws.occR_eq, hlen]
    have sp : List.range' 0 (a.length + b.length + 1 + 1) = List.range' 0 (b.length + 1) ++ (b.length + 1) :: List.range' (b.length + 2) a.length := by
      have e : a.length + b.length + 1 + 1 = (b.length + 1) + (1 + a.length) := by omega
      rw [e, ← List.range'_append_1]
      congr 1
      rw [Nat.add_comm 1, List.range'_succ]
      have e5 : 0 + (b.length + 1) = b.length + 1 := Nat.zero_add _
      rw [e5]
    have h := occR_find (a ++ c :: b) c (List.range' 0 (b.length + 1)) (b.length + 1) (List.range' (b.length + 2) a.length) (fun j hj => hget j (by rw [List.mem_range'_1] at hj; omega)) (by omega) (by simp only [List.length_append, List.length_cons]; omega) hat
    have e3 : (a ++ c :: b).length = a.length + b.length + 1 := by simp; omega
    rw [e3] at h
    rw [sp, h]
    have e4 : a.length + b.length + 1 - (b.length + 1) = a.length := by omega
    rw [e4]; rfl
  have lim : limitOf (tx (a ++ c :: b)) 1 = 1 := rfl
  have k1 : Str.strKind (tx [c]) = 1 := by
    unfold PySem.Builtin.Str.strKind
    rw [if_pos]
    simp [tx]; exact hc
  have k2 : 1 ≤ Str.strKind (tx (a ++ c :: b)) := by
    unfold PySem.Builtin.Str.strKind
    split
    · exact Nat.le_refl _
    · split <;> decide
  unfold Txt.rsplitMax
  rw [lim, key, if_neg, if_neg (by simp)]
  · rw [StrLaws.partsBetween_eq]
    show [strSub (tx (a ++ c :: b)) 0 a.length, strSub (tx (a ++ c :: b)) (a.length + (tx [c]).length) (tx (a ++ c :: b)).length] = _
    have f1 : strSub (tx (a ++ c :: b)) 0 a.length = tx a := by
      rw [← tx_of (strSub (tx (a ++ c :: b)) 0 a.length), StrLaws.strSub_toList, tx_cps]; simp
    have f2 : strSub (tx (a ++ c :: b)) (a.length + (tx [c]).length) (tx (a ++ c :: b)).length = tx b := by
      rw [← tx_of (strSub (tx (a ++ c :: b)) _ _), StrLaws.strSub_toList, tx_cps, tx_len, tx_len]
      have e : (a ++ c :: b).drop (a.length + [c].length) = b := by
        rw [← List.drop_drop]; simp
      show tx (((a ++ c :: b).drop (a.length + [c].length)).take _) = _
      rw [e, List.take_of_length_le (by simp only [List.length_append, List.length_cons, List.length_nil]; omega)]
    rw [f1, f2]
  · rw [k1, tx_len, tx_len]
    simp
    omega
theorem rfind_tx {a b : List Nat} {c : Nat} (hb : c ∉ b) : Txt.rfind (tx (a ++ c :: b)) (tx [c]) = (a.length : Int) := by
  have hat : (a ++ c :: b)[a.length]? = some c := by simp
  have hno : ∀ k, a.length < k → (a ++ c :: b)[k]? ≠ some c := fun k hk e => by
    rw [List.getElem?_append_right (by omega)] at e
    obtain ⟨m, rfl⟩ : ∃ m, k = a.length + m + 1 := ⟨k - a.length - 1, by omega⟩
    have e2 : a.length + m + 1 - a.length = m + 1 := by omega
    rw [e2, List.getElem?_cons_succ] at e
    exact hb (List.mem_of_getElem? e)
  unfold Txt.rfind
  rcases StrLaws.last_spec (tx (a ++ c :: b)) (tx [c]) with ⟨h1, h2⟩ | ⟨i, h1, h2, h3⟩
  · exact absurd (at_tx.mpr hat) (h2 a.length)
  · rw [h1]
    have e1 := at_tx.mp h2
    have : i = a.length := by
      rcases Nat.lt_trichotomy i a.length with h | h | h
      · exact absurd (at_tx.mpr hat) (h3 a.length h)
      · exact h
      · exact absurd e1 (hno i h)
    rw [this]
theorem ends_tx (l : List Nat) (c d : Nat) : Txt.endswith (tx (l ++ [d])) (tx [c]) = decide (d = c) := by
  unfold Txt.endswith
  rw [tx_len, tx_len, StrLaws.subAt_eq, tx_cps, tx_cps, tx_len]
  have e : (l ++ [d]).length - [c].length = l.length := by simp
  rw [e]
  simp
  by_cases h : d = c <;> simp [h]
theorem cutS_to (l : List Nat) (k : Nat) : L2.cutS (tx l) none (some (k : Int)) = tx (l.take k) := by
  unfold L2.cutS
  rw [tx_cps, tx_len, HT.sIx_nat, HT.sIx_none, List.drop_zero, Nat.sub_zero]
  show tx _ = _
  congr 1
  rcases Nat.le_total k l.length with h | h
  · rw [Nat.min_eq_left h]
  · rw [Nat.min_eq_right h, List.take_of_length_le (Nat.le_refl _), List.take_of_length_le h]
theorem cutS_from (l : List Nat) (k : Nat) : L2.cutS (tx l) (some (k : Int)) none = tx (l.drop k) := by
  unfold L2.cutS
  rw [tx_cps, tx_len, HT.sIx_nat, HT.sIx_none]
  show tx _ = _
  congr 1
  rcases Nat.le_total k l.length with h | h
  · rw [Nat.min_eq_left h, List.take_of_length_le (by simp)]
  · rw [Nat.min_eq_right h, List.drop_of_length_le h, List.drop_of_length_le (Nat.le_refl _), List.take_nil]
theorem cutS_last (l : List Nat) (d : Nat) : L2.cutS (tx (l ++ [d])) none (some (-1)) = tx l := by
  unfold L2.cutS
  rw [tx_cps, tx_len, HT.sIx_none, List.drop_zero, Nat.sub_zero]
  show tx _ = _
  congr 1
  have e : HT.sIx (l ++ [d]).length (l ++ [d]).length (some (-1)) = l.length := by
    show (if (-1 : Int) < 0 then ((-1 : Int) + ((l ++ [d]).length : Int)).toNat else min (-1 : Int).toNat (l ++ [d]).length) = _
    rw [if_pos (by decide)]; simp; omega
  rw [e]; simp
section
variable {g : Gr} {l a b : List Nat} {c d : Nat} {k : Int}
theorem v_cutTo (hz : l.length ≤ 8388608) (h : 0 ≤ k) : cutOp none (some k) (.str (tx l)) g = .ok (.str (tx (l.take k.toNat))) g := by
  have e : k = (k.toNat : Int) := (Int.toNat_of_nonneg h).symm
  have q := cutS_to l k.toNat
  rw [← e] at q
  unfold cutOp
  dsimp only
  rw [if_pos (by rw [tx_len]; exact Nat.le_trans hz sizeLine_big), q]
theorem v_cutFrom (hz : l.length ≤ 8388608) (h : 0 ≤ k) : cutOp (some k) none (.str (tx l)) g = .ok (.str (tx (l.drop k.toNat))) g := by
  have e : k = (k.toNat : Int) := (Int.toNat_of_nonneg h).symm
  have q := cutS_from l k.toNat
  rw [← e] at q
  unfold cutOp
  dsimp only
  rw [if_pos (by rw [tx_len]; exact Nat.le_trans hz sizeLine_big), q]
theorem v_cutLast (hz : l.length < 8388608) : cutOp none (some (-1)) (.str (tx (l ++ [d]))) g = .ok (.str (tx l)) g := by
  unfold cutOp
  dsimp only
  rw [if_pos (by rw [tx_len]; simp; exact Nat.le_trans hz sizeLine_big), cutS_last]
theorem v_splT (hz : l.length ≤ 8000000) : mSplit (.str (tx l)) [.str (tx [c])] g = .ok (.lst ((splitL c l).map fun p => .str (tx p))) g := by
  have s2 := sizeLine_big
  unfold mSplit
  dsimp only
  rw [if_pos ⟨by rw [tx_len]; rfl, by rw [tx_len]; omega⟩, split_tx, List.map_map]
  rfl
theorem v_rsplT (hb : c ∉ b) (hc : c < 256) (hz : a.length + b.length ≤ 8000000) : mRspl (.str (tx (a ++ c :: b))) [.str (tx [c]), .int 1] g = .ok (.lst [.str (tx a), .str (tx b)]) g := by
  have s2 := sizeLine_big
  unfold mRspl
  dsimp only
  rw [if_pos ⟨by rw [tx_len]; rfl, by decide, by decide, by rw [tx_len]; simp; omega⟩, rsplit_tx hb hc]
  rfl
theorem v_rfindT (hb : c ∉ b) : mRfind (.str (tx (a ++ c :: b))) [.str (tx [c])] g = .ok (.int a.length) g := by
  show R.ok (.int (Txt.rfind _ _)) g = _
  rw [rfind_tx hb]
theorem v_endsT : mEnds (.str (tx (l ++ [d]))) [.str (tx [c])] g = .ok (.bl (decide (d = c))) g := by
  show R.ok (.bl (Txt.endswith _ _)) g = _
  rw [ends_tx]
theorem v_inT : opIn (.str (tx [c])) (.str (tx l)) g = .ok (.bl (decide (c ∈ l))) g := by
  have e : (tx [c]).cps.toList = [c] := tx_cps _
  have e2 : (tx l).cps.toList = l := tx_cps _
  show opInB false _ _ g = _
  unfold opInB
  simp only [e, e2]
  simp
theorem v_notInT : opNotIn (.str (tx [c])) (.str (tx l)) g = .ok (.bl (!decide (c ∈ l))) g := by
  have e : (tx [c]).cps.toList = [c] := tx_cps _
  have e2 : (tx l).cps.toList = l := tx_cps _
  show opInB true _ _ g = _
  unfold opInB
  simp only [e, e2]
  simp
theorem strs_tx : ∀ ls : List (List Nat), strsD (ls.map fun p => .str (tx p)) = some (ls.map tx)
  | [] => rfl
  | p :: ls => by simp only [List.map_cons, strsD, strs_tx ls]; rfl
theorem v_joinT {ls : List (List Nat)} (h : (ls.map List.length).sum ≤ 8388608) : mJoin (.str (tx [])) [.lst (ls.map fun p => .str (tx p))] g = .ok (.str (tx ls.flatten)) g := by
  have e1 : ((ls.map tx).map (·.length)).sum = (ls.map List.length).sum := by
    rw [List.map_map]
    exact congrArg List.sum (List.map_congr_left fun p _ => tx_len p)
  unfold mJoin
  simp only [viewA, viewT, viewL, strs_tx]
  rw [if_pos (by rw [e1, tx_len, List.length_nil, Nat.mul_zero]; omega)]
  rw [join_e, List.map_map]
  have : ((fun z : Str => z.cps.toList) ∘ tx) = fun p => p := by funext p; exact tx_cps p
  rw [this, List.map_id']
end
end Fw

set_option maxRecDepth 100000
set_option maxHeartbeats 4000000
/-! Fx: texts of the program by their signs. -/
namespace Fw
open PySem PySem.Spec PyProof.Rows L2
section
variable {P : Program} {w : World} {K : PySem.W.Frag} {mg : Str → Option Value} {base : Heap} {Z : Sc} {hot : Option (Nat × Str)} {k : Nat} {X : Cx} {W : WX} {pos : Pos} {x : Str}
theorem re_strT {z : String} {j pos} (l : List Nat) (h : (z : Str) = tx l := by decide +kernel) : RE X W (.Constant (.str z) j pos) (eC (.str (tx l))) := by
  rw [← h]; exact re_str
theorem xgStrT (C : Cc P w K mg base Z hot k X W) (j : Nat) (l : List Nat) {z : Str} (hm : ∃ t, mg x = some (.str z t)) (h : z = tx l := by decide +kernel) (hN : Z.gl[j]? = some x := by rfl) : RE X W (.Name x pos) (eC (.str (tx l))) := by
  rw [← h]; exact xgStr C j hm hN
end
section
variable {ρ : En} {g : Gr} {a b : Exp} {tab : List (Str × Str)} {d e : D} {z y : Str}
def fTabR (tab : List (Str × Str)) (d : D) : R → R
  | .ok e g => (match d with
    | .str z => (match tab.lookup z with
      | some y => .ok (.str y) g
      | none => .ok e g)
    | _ => .no)
  | .err c g => .err c g
  | .no => .no
def fTabL (tab : List (Str × Str)) (b : Exp) (ρ : En) : R → R
  | .ok d g => fTabR tab d (b ρ g)
  | .err c g => .err c g
  | .no => .no
theorem v_tab : eTab tab a b ρ g = fTabL tab b ρ (a ρ g) := by
  show R.bind (a ρ g) _ = _
  cases a ρ g with
  | ok d g =>
    show R.bind (b ρ g) _ = fTabR tab d (b ρ g)
    cases b ρ g with
    | ok e g => cases d <;> rfl
    | _ => rfl
  | _ => rfl
theorem w_tabL : fTabL tab b ρ (.ok d g) = fTabR tab d (b ρ g) := rfl
theorem w_tabR (h : tab.lookup z = some y) : fTabR tab (.str z) (.ok e g) = .ok (.str y) g := by
  show (match tab.lookup z with | some y => R.ok (.str y) g | none => .ok e g) = _
  rw [h]
end
end Fw

set_option maxRecDepth 100000
set_option maxHeartbeats 4000000
/-! Fv: more of the reckoning. -/
namespace Fw
open PySem PySem.Spec PyProof.Rows
theorem flat_one {α : Type} (f : α → Nat) (l : List α) : (l.map fun i => [f i]).flatten = l.map f := by
  induction l with
  | nil => rfl
  | cons a l ih => simp only [List.map_cons, List.flatten_cons, ih]; rfl
theorem sum_one {α : Type} (f : α → Nat) (l : List α) : ((l.map fun i => [f i]).map List.length).sum = l.length := by
  induction l with
  | nil => rfl
  | cons a l ih => simp only [List.map_cons, List.sum_cons, ih, List.length_cons, List.length_nil]; omega
section
variable {g : Gr} {a b : List Nat} {c : Nat}
theorem v_enumTx {l : List Nat} {n : Nat} {d : D} (h : (enD 0 (chD (tx l)))[n]? = some d) : ∃ hn : n < l.length, d = .tup [.int (n : Int), .str (tx [l[n]])] := by
  obtain ⟨e, h1, rfl⟩ := enD_get h
  obtain ⟨c, h2, rfl⟩ := chD_get h1
  have hl : l[n]? = some c := by
    have := h2
    simpa [tx] using this
  have hn := (List.getElem?_eq_some_iff.mp hl).1
  refine ⟨hn, ?_⟩
  have := (List.getElem?_eq_some_iff.mp hl).2
  rw [this, Nat.zero_add]
  rfl
theorem enTx_len (l : List Nat) : (enD 0 (chD (tx l))).length = l.length := by rw [enD_len, chD_len]; simp [tx]
theorem v_lstT {ds : List D} : fLstO [.tup ds] g = .ok (.lst ds) g := rfl
theorem v_lstL {ds : List D} : fLstO [.lst ds] g = .ok (.lst ds) g := rfl
theorem v_tupT {ds : List D} : fTupO [.tup ds] g = .ok (.tup ds) g := rfl
theorem v_tupL {ds : List D} : fTupO [.lst ds] g = .ok (.tup ds) g := rfl
theorem v_isBt {x : Bool} : opIsB true (.bl x) .non g = .ok (.bl (decide (x = true))) g := rfl
theorem v_isBf {x : Bool} : opIsB false (.bl x) .non g = .ok (.bl (decide (x = false))) g := rfl
theorem v_isBi {t : Bool} {i : Int} : opIsB t (.int i) .non g = .ok (.bl false) g := rfl
theorem v_isBs {t : Bool} {z : Str} : opIsB t (.str z) .non g = .ok (.bl false) g := rfl
theorem v_ixL0 {x : D} {ds : List D} : opIx (.lst (x :: ds)) (.int 0) g = .ok x g := o_ixL (k := 0) rfl
theorem v_ixL1 {x y : D} {ds : List D} : opIx (.lst (x :: y :: ds)) (.int 1) g = .ok y g := o_ixL (k := 1) rfl
theorem v_isTs {z : Str} : opIsT "str" (.str z) g = .ok (.bl true) g := rfl
theorem v_isTsI {i : Int} : opIsT "str" (.int i) g = .ok (.bl false) g := rfl
theorem v_isTsB {i : Bool} : opIsT "str" (.bl i) g = .ok (.bl false) g := rfl
end
theorem bools_of : ∀ bs : List Bool, bools (bs.map D.bl) = some bs
  | [] => rfl
  | b :: bs => by simp only [List.map_cons, bools, bools_of bs]; rfl
theorem v_allB {bs : List Bool} {g : Gr} : fAll [.lst (bs.map D.bl)] g = .ok (.bl (bs.all fun b => b)) g := by
  show (match bools (bs.map D.bl) with | some bs => R.ok (.bl (bs.all id)) g | none => .no) = _
  rw [bools_of]; rfl
theorem v_all0 {g : Gr} : fAll [.lst []] g = .ok (.bl true) g := rfl
theorem v_all1 {b0 : Bool} {g : Gr} : fAll [.lst [.bl b0]] g = .ok (.bl (b0 && true)) g := rfl
theorem v_all2 {b0 b1 : Bool} {g : Gr} : fAll [.lst [.bl b0, .bl b1]] g = .ok (.bl (b0 && (b1 && true))) g := rfl
theorem v_all3 {b0 b1 b2 : Bool} {g : Gr} : fAll [.lst [.bl b0, .bl b1, .bl b2]] g = .ok (.bl (b0 && (b1 && (b2 && true)))) g := rfl
theorem v_all4 {b0 b1 b2 b3 : Bool} {g : Gr} : fAll [.lst [.bl b0, .bl b1, .bl b2, .bl b3]] g = .ok (.bl (b0 && (b1 && (b2 && (b3 && true))))) g := rfl
theorem v_all5 {b0 b1 b2 b3 b4 : Bool} {g : Gr} : fAll [.lst [.bl b0, .bl b1, .bl b2, .bl b3, .bl b4]] g = .ok (.bl (b0 && (b1 && (b2 && (b3 && (b4 && true)))))) g := rfl
theorem v_all6 {b0 b1 b2 b3 b4 b5 : Bool} {g : Gr} : fAll [.lst [.bl b0, .bl b1, .bl b2, .bl b3, .bl b4, .bl b5]] g = .ok (.bl (b0 && (b1 && (b2 && (b3 && (b4 && (b5 && true))))))) g := rfl
theorem v_all7 {b0 b1 b2 b3 b4 b5 b6 : Bool} {g : Gr} : fAll [.lst [.bl b0, .bl b1, .bl b2, .bl b3, .bl b4, .bl b5, .bl b6]] g = .ok (.bl (b0 && (b1 && (b2 && (b3 && (b4 && (b5 && (b6 && true)))))))) g := rfl
theorem v_all8 {b0 b1 b2 b3 b4 b5 b6 b7 : Bool} {g : Gr} : fAll [.lst [.bl b0, .bl b1, .bl b2, .bl b3, .bl b4, .bl b5, .bl b6, .bl b7]] g = .ok (.bl (b0 && (b1 && (b2 && (b3 && (b4 && (b5 && (b6 && (b7 && true))))))))) g := rfl
theorem v_appT2 {x : D} {xs ys : List D} {g : Gr} (h : xs.length + 1 + ys.length ≤ 8388608) : opAdd (.tup (x :: xs)) (.tup ys) g = .ok (.tup (x :: xs ++ ys)) g := v_appT ⟨List.cons_ne_nil _ _, by rw [List.length_cons]; exact h⟩
theorem v_lz {cs : List Nat} {ds : List D} {g : Gr} (h : cs.length ≤ 8388608) : fLZ [.str (tx cs), .lst ds] g = .ok (.lst (zpD (cs.map fun c => .str (tx [c])) ds)) g := by
  show (if min (chD (tx cs)).length ds.length ≤ sizeLine then R.ok (.lst (zpD (chD (tx cs)) ds)) g else .no) = _
  rw [chD_tx, if_pos]
  rw [List.length_map]
  have := sizeLine_big
  omega
theorem v_castN {n : Nat} : ((no_index (OfNat.ofNat n : Nat) : Nat) : Int) = (OfNat.ofNat n : Int) := rfl
theorem v_zpN {ds : List D} : zpD [] ds = [] := by cases ds <;> rfl
theorem v_zpN2 {ds : List D} : zpD ds [] = [] := by cases ds <;> rfl
theorem v_zpC {a b : D} {as bs : List D} : zpD (a :: as) (b :: bs) = .tup [a, b] :: zpD as bs := rfl
theorem v_intT {m : Nat} {g : Gr} (h : m < 1000000000000000000) : fInt [.str (tx (nm m))] g = .ok (.int m) g := by
  have hl : (nm m).length ≤ 18 := nm_len 17 m h
  show (match PySem.intText? (tx (nm m)) with | some n => if (tx (nm m)).length ≤ 640 then R.ok (.int n) g else .no | none => .no) = _
  rw [nm_int (by omega)]
  exact if_pos (by rw [tx_len]; omega)
theorem v_in2 {l a b : List Nat} {g : Gr} : opIn (.str (tx l)) (.tup [.str (tx a), .str (tx b)]) g = .ok (.bl (decide (l = a ∨ l = b))) g := by
  show R.ok (.bl (if false then _ else inD (.str (tx l)) [.str (tx a), .str (tx b)])) g = _
  have e : inD (.str (tx l)) [.str (tx a), .str (tx b)] = decide (l = a ∨ l = b) := by
    have c1 : (tx a == tx l) = decide (l = a) := by rw [tx_beq]; exact decide_eq_decide.mpr eq_comm
    have c2 : (tx b == tx l) = decide (l = b) := by rw [tx_beq]; exact decide_eq_decide.mpr eq_comm
    simp [inD, feq, c1, c2]
  rw [e]; rfl
/-! comprehensions, loops over written lists -/
noncomputable def fLcE (kp : Gr → Prop) (t : Tg) (c e : Exp) (ρ : En) (fin : List D → Gr → R) (ds acc : List D) : R → R
  | .ok y g => lcLoop kp t c e ρ fin ds (acc ++ [y]) g
  | _ => .no
noncomputable def fLcC (kp : Gr → Prop) (t : Tg) (c e : Exp) (ρ : En) (fin : List D → Gr → R) (ds acc : List D) (ρ1 : En) : R → R
  | .ok x g => x.br (fLcE kp t c e ρ fin ds acc (e ρ1 g)) (lcLoop kp t c e ρ fin ds acc g)
  | _ => .no
noncomputable def fLcT (kp : Gr → Prop) (t : Tg) (c e : Exp) (ρ : En) (fin : List D → Gr → R) (ds acc : List D) : Option (En × Gr) → R
  | some (ρ1, g) => fLcC kp t c e ρ fin ds acc ρ1 (c ρ1 g)
  | none => .no
section
variable {kp : Gr → Prop} {t : Tg} {c e : Exp} {ρ ρ1 : En} {fin : List D → Gr → R} {ds acc : List D} {g : Gr} {d y : D} {b : Stm}
theorem v_lcNil : lcLoop kpT t c e ρ fin [] acc g = fin acc g := by unfold lcLoop; exact if_pos trivial
theorem v_lcCons (h : acc.length < 8388608) : lcLoop kpT t c e ρ fin (d :: ds) acc g = fLcT kpT t c e ρ fin ds acc (t d ρ g) := by
  rw [lcLoop]
  rw [if_pos ⟨trivial, Nat.lt_of_lt_of_le h sizeLine_big⟩]
  cases t d ρ g with
  | none => rfl
  | some p =>
    obtain ⟨ρ1, g1⟩ := p
    show (match c ρ1 g1 with | .ok x g2 => _ | _ => _) = fLcC kpT t c e ρ fin ds acc ρ1 (c ρ1 g1)
    cases c ρ1 g1 with
    | ok x g2 =>
      show x.br (match e ρ1 g2 with | .ok y g3 => _ | _ => _) _ = x.br (fLcE kpT t c e ρ fin ds acc (e ρ1 g2)) _
      cases e ρ1 g2 <;> rfl
    | _ => rfl
theorem w_lcT : fLcT kp t c e ρ fin ds acc (some (ρ1, g)) = fLcC kp t c e ρ fin ds acc ρ1 (c ρ1 g) := rfl
theorem w_lcCt : fLcC kp t c e ρ fin ds acc ρ1 (.ok (.bl true) g) = fLcE kp t c e ρ fin ds acc (e ρ1 g) := rfl
theorem w_lcCf : fLcC kp t c e ρ fin ds acc ρ1 (.ok (.bl false) g) = lcLoop kp t c e ρ fin ds acc g := rfl
theorem w_lcE : fLcE kp t c e ρ fin ds acc (.ok y g) = lcLoop kp t c e ρ fin ds (acc ++ [y]) g := rfl
theorem v_yes : eYes ρ g = .ok (.bl true) g := rfl
theorem v_finF : finF ds g = .ok (.lst ds) g := rfl
/-- what a turn leaves to the others -/
noncomputable def fRest (kp : Gr → Prop) (t : Tg) (b : Stm) (ds : List D) : S → S
  | .nx ρ g => sLoop kp t b ds ρ g
  | .ct ρ g => sLoop kp t b ds ρ g
  | .bk ρ g => .nx ρ g
  | .ret d g => .ret d g
  | .err c ρ g => .err c ρ g
  | .no => .no
theorem v_loopNil : sLoop kpT t b [] ρ g = .nx ρ g := by unfold sLoop; exact if_pos trivial
theorem v_loopCons : sLoop kpT t b (d :: ds) ρ g = fRest kpT t b ds (fTurn b (t d ρ g)) := by
  rw [sLoop]
  rw [if_pos (show kpT g from trivial)]
  cases t d ρ g with
  | none => rfl
  | some p =>
    obtain ⟨ρ1, g1⟩ := p
    show (match b ρ1 g1 with | .nx ρ2 g2 => _ | .ct ρ2 g2 => _ | .bk ρ2 g2 => _ | .ret d g2 => _ | .err c ρ2 g2 => _ | .no => _) = fRest kpT t b ds (b ρ1 g1)
    cases b ρ1 g1 <;> rfl
theorem w_restN : fRest kp t b ds (.nx ρ g) = sLoop kp t b ds ρ g := rfl
theorem w_restC : fRest kp t b ds (.ct ρ g) = sLoop kp t b ds ρ g := rfl
theorem w_restB : fRest kp t b ds (.bk ρ g) = .nx ρ g := rfl
theorem w_restR : fRest kp t b ds (.ret d g) = .ret d g := rfl
end
end Fw

set_option maxRecDepth 100000
set_option maxHeartbeats 4000000
/-! Fx: exceptions of own classes: raised, caught, asked for their classes. -/
namespace Fw
open PySem PySem.Spec PyProof.Rows L2
/-! ### what the head tells of them -/
def isSub (x y : Str) : Bool := x == y || y == ("CleanError" : Str) || y == ("ValueError" : Str)
/-- a class by its name: an own one, or the builtin ValueError -/
def clsV (K : PySem.W.Frag) (y : Str) : Value := if y == ("ValueError" : Str) then .type "ValueError" else .ref (He.ga K y)
/-- an exception's class, as isinstance asks for it -/
def excCB (K : PySem.W.Frag) (x : Str) : Bool :=
  He.eqO (PySem.W.findIn K (.ref (He.ga K x)) "__getattribute__") (some (some (.builtin "BaseException.__getattribute__"))) &&
  (He.eqO (PySem.W.findIn K (.ref (He.ga K x)) "__getattr__") (some none) &&
  (decide (PySem.W.subIn K (.ref (He.ga K x)) (.type "BaseException") = some true) &&
  (PySem.W.hasDictIn K (He.ga K x) &&
  (He.eqO (PySem.W.findIn K (.ref (He.ga K x)) "__class__") (some (some (.builtin "object.__class__"))) &&
  (He.eqO (PySem.W.specialIn K (.builtin "object.__class__") "__get__") (some (some (.builtin "getset_descriptor.__get__"))) &&
  (decide (PySem.W.takesIn K (.builtin "object.__class__") = some true) && decide (PySem.W.mroIn K (He.ga K x) (.type "object") = some true)))))))
theorem excCB_ok {K : PySem.W.Frag} {x : Str} (h : excCB K x = true) : ExcC K (He.ga K x) := by
  obtain ⟨h1, h⟩ := He.ba h
  obtain ⟨h2, h⟩ := He.ba h
  obtain ⟨h3, h⟩ := He.ba h
  obtain ⟨h4, h⟩ := He.ba h
  obtain ⟨h5, h⟩ := He.ba h
  obtain ⟨h6, h⟩ := He.ba h
  obtain ⟨h7, h8⟩ := He.ba h
  exact ⟨He.eqO_ok h1, He.eqO_ok h2, of_decide_eq_true h3, h4, He.eqO_ok h5, He.eqO_ok h6, of_decide_eq_true h7, of_decide_eq_true h8⟩
/-- raised ones L, those of the clauses Cs, those that isinstance asks for Is -/
def excB (L Cs Is : List Str) (K : PySem.W.Frag) : Bool := L.all fun x => (He.Fa.exc x).ok K && (excCB K x && ((Cs.all fun y => decide (PySem.W.exmOne K (.ref (He.ga K x)) (clsV K y) = some (isSub x y))) &&
  Is.all fun y => decide (PySem.W.kitOne K (.ref (He.ga K x)) (clsV K y) = some (isSub x y))))
section
variable {L Cs Is : List Str} {K : PySem.W.Frag} {x y : Str}
theorem excB_exc (h : excB L Cs Is K = true) (hx : x ∈ L) : (He.Fa.exc x).ok K = true := (He.ba (List.all_eq_true.mp h x hx)).1
theorem excB_cls (h : excB L Cs Is K = true) (hx : x ∈ L) : ExcC K (He.ga K x) := excCB_ok (He.ba (He.ba (List.all_eq_true.mp h x hx)).2).1
theorem excB_exm (h : excB L Cs Is K = true) (hx : x ∈ L) (hy : y ∈ Cs) : PySem.W.exmOne K (.ref (He.ga K x)) (clsV K y) = some (isSub x y) :=
  of_decide_eq_true (List.all_eq_true.mp (He.ba (He.ba (He.ba (List.all_eq_true.mp h x hx)).2).2).1 y hy)
theorem excB_kit (h : excB L Cs Is K = true) (hx : x ∈ L) (hy : y ∈ Is) : PySem.W.kitOne K (.ref (He.ga K x)) (clsV K y) = some (isSub x y) :=
  of_decide_eq_true (List.all_eq_true.mp (He.ba (He.ba (He.ba (List.all_eq_true.mp h x hx)).2).2).2 y hy)
end
/-! ### raise -/
def sRaise (c : Str) : Stm := fun ρ g => .err c ρ g
section
variable {P : Program} {w : World} {K : PySem.W.Frag} {mg : Str → Option Value} {base : Heap} {Z : Sc} {hot : Option (Nat × Str)} {k : Nat} {X : Cx} {W : WX} {x : Str} {L Cs Is : List Str}
theorem rs_raise (C : Cc P w K mg base Z none k X W) (i : Nat) (B : excB L Cs Is K = true) (gx : mg x = some (.ref (He.ga K x))) {m : Str} {j : Nat} {p2 p pos pos' : Pos} (hx : x ∈ L := by decide +kernel) (hN : Z.gl[i]? = some x := by rfl) :
    RS X W (.Raise (some (.Call (.Name x p) [.Constant (.str m) j p2] [] pos)) none pos') (sRaise x) := by
  obtain ⟨h1, h2⟩ := C.glo hN
  obtain ⟨e1, e2, e3, e4⟩ := He.exc_ok (excB_exc B hx)
  refine ps_weak (L2N.ps_raise C.calm C.tk (L2N.pmk_own PySem.F.excBase_ValueError (C := He.ga K x) (by rw [C.pK]; exact e1) (by rw [C.pm]; exact gx) (by rw [C.pK]; exact e2) (raises_own (by rw [C.pK]; exact e3) (by rw [C.pK]; exact e4)) h1 h2)) ?_
  rintro Dn σ H ⟨w1, ρ, g, S0, L', o⟩
  have o2 := o σ H w1 (Wd.Le.refl _) S0 L'
  rw [C.pK] at o2
  exact o2
/-! ### isinstance of the exception that is handled -/
def opIsE (L Is : List Str) (ac : Nat × Str) (y : Str) (d : D) (g : Gr) : R := match d with
  | .err c a => if (a = ac.1 ∧ c = ac.2) ∧ c ∈ L ∧ y ∈ Is then .ok (.bl (isSub c y)) g else .no
  | _ => .no
theorem call_isP {ac : Nat × Str} {p : Addr × Obj} (hp : HotP X.K X.A ac p) (hm : p ∈ X.pn) (C : ExcC X.K (He.ga X.K ac.2)) : CallR X (.builtin "isinstance") (rIsE X.K (He.ga X.K ac.2) ac.1) := by
  intro pins s σ H xs us Q I r h
  obtain ⟨c, cv, b, rfl, hcv, e, q⟩ := h
  cases r with
  | cons rx rr =>
    cases rr with
    | cons rt rr =>
      cases rr
      cases rx
      have ec := hcv _ rt
      subst ec
      obtain ⟨hget, _⟩ := I.pin p (List.mem_append.mpr (.inl hm))
      obtain ⟨vs, hv⟩ := hp.fl
      have eqa := hp.eq
      have hz := hp.zn
      obtain ⟨pa, po⟩ := p
      have J : PySem.W.InstAt s.heap ac.1 po (He.ga X.K ac.2) none := by
        obtain ⟨oc, od, oda, osl⟩ := po
        obtain ⟨z1, z2, _⟩ := hz
        dsimp only at z1 z2 hv eqa hget
        subst z1 z2 hv eqa
        exact ⟨hget, rfl, rfl, trivial⟩
      exact PySem.W.kia_one (PySem.W.handS_kitx_exc C.hg C.hk C.hs C.hd C.ha C.hn C.ht C.hm) I.kIn J e (fun z => nomatch z) fun tk => ⟨.bl b, H, I.kept (t' := tk) fun _ _ z => z, rfl, q⟩
theorem isE_of {ac : Nat × Str} {e : Expr} {m : Exp} {y : Str} {c : V} {p p2 pos : Pos} (C : Cc P w K mg base Z (some ac) k X W) (i : Nat) (B : excB L Cs Is K = true) (fr : mg "isinstance" = none)
    (hy : PE X (.Name y p2) (tC c)) (hcv : ∀ u, RelV c u → u = clsV K y) (ha : RE X W e m) (hN : Z.gl[i]? = some "isinstance")
    (hs1 : starEach [e, .Name y p2] X.env = (false, eval e X.env) :: starEach [.Name y p2] X.env) (hs2 : starEach [.Name y p2] X.env = (false, eval (.Name y p2) X.env) :: starEach [] X.env) (hpl : (backTo pos (starEach [.Name y p2] X.env)).any (·.1) = false) :
    RE X W (.Call (.Name "isinstance" p) [e, .Name y p2] [] pos) (eUn (opIsE L Is ac y) m) := by
  obtain ⟨h1, h2⟩ := C.glo hN
  obtain ⟨q, hq, hm⟩ : ∃ q, HotP X.K X.A ac q ∧ q ∈ X.pn := by
    obtain ⟨_, q, e2, e3⟩ := C.md
    rw [C.pK]; exact ⟨q, e2, e3⟩
  have rule : CallR X (.builtin "isinstance") (fun xs H Q => ac.2 ∈ L ∧ rIsE X.K (He.ga X.K ac.2) ac.1 xs H Q) := by
    intro pins s σ H xs us Q I r h
    exact call_isP hq hm (by rw [C.pK]; exact excB_cls B h.1) pins s σ H xs us Q I r h.2
  refine pe_weak (pe_callB rule h1 (by rw [C.pm]; exact fr) boot_isinstance (pa_cons ha (pa_cons hy pa_nil hs2) hs1) (by decide) h2 hs1 hpl) ?_
  rintro σ H Q ⟨w1, ρ, g, S0, L', o⟩
  refine bindM S0 L' o fun d g1 x H1 w2 le S1 L1 rx o1 => ?_
  unfold opIsE at o1
  split at o1
  · rename_i c' a'
    split at o1
    · rename_i hh
      obtain ⟨⟨rfl, rfl⟩, hL, hI⟩ := hh
      simp only [Rep] at rx
      exact ⟨hL, c, clsV K y, isSub ac.2 y, by rw [rx], hcv, by rw [C.pK]; exact excB_kit B hL hI, Out.here o1 S1 rep_bl'⟩
    · exact o1.elim
  · exact o1.elim
theorem xIsEo {ac : Nat × Str} {e : Expr} {m : Exp} {y : Str} {p p2 pos : Pos} (C : Cc P w K mg base Z (some ac) k X W) (i j : Nat) (B : excB L Cs Is K = true) (fr : mg "isinstance" = none)
    (gy : mg y = some (.ref (He.ga K y))) (ha : RE X W e m) (hn : (y == ("ValueError" : Str)) = false := by decide +kernel) (hN : Z.gl[i]? = some "isinstance" := by rfl) (hN2 : Z.gl[j]? = some y := by rfl)
    (hs1 : starEach [e, .Name y p2] X.env = (false, eval e X.env) :: starEach [.Name y p2] X.env := by rfl) (hs2 : starEach [.Name y p2] X.env = (false, eval (.Name y p2) X.env) :: starEach [] X.env := by rfl) (hpl : (backTo pos (starEach [.Name y p2] X.env)).any (·.1) = false := by rfl) :
    RE X W (.Call (.Name "isinstance" p) [e, .Name y p2] [] pos) (eUn (opIsE L Is ac y) m) := by
  obtain ⟨h3, h4⟩ := C.glo hN2
  refine isE_of (c := .ref (He.ga K y)) C i B fr (pe_glob h3 (by rw [C.pm]; exact gy) rfl h4) (fun u r => ?_) ha hN hs1 hs2 hpl
  unfold clsV
  rw [if_neg (by rw [hn]; exact Bool.false_ne_true)]
  exact r
theorem xIsEv {ac : Nat × Str} {e : Expr} {m : Exp} {p p2 pos : Pos} (C : Cc P w K mg base Z (some ac) k X W) (i j : Nat) (B : excB L Cs Is K = true) (fr : mg "isinstance" = none)
    (gy : mg "ValueError" = none) (ha : RE X W e m) (hN : Z.gl[i]? = some "isinstance" := by rfl) (hN2 : Z.gl[j]? = some "ValueError" := by rfl)
    (hs1 : starEach [e, .Name "ValueError" p2] X.env = (false, eval e X.env) :: starEach [.Name "ValueError" p2] X.env := by rfl) (hs2 : starEach [.Name "ValueError" p2] X.env = (false, eval (.Name "ValueError" p2) X.env) :: starEach [] X.env := by rfl) (hpl : (backTo pos (starEach [.Name "ValueError" p2] X.env)).any (·.1) = false := by rfl) :
    RE X W (.Call (.Name "isinstance" p) [e, .Name "ValueError" p2] [] pos) (eUn (opIsE L Is ac "ValueError") m) := by
  obtain ⟨h3, h4⟩ := C.glo hN2
  refine isE_of (c := .ty "ValueError") C i B fr (pe_bltn h3 (by rw [C.pm]; exact gy) boot_ValueError (show RelV (.ty "ValueError") _ from rfl) (by decide) h4) (fun u r => ?_) ha hN hs1 hs2 hpl
  exact r
end
/-! ### try -/
/-- a slot let go -/
def unL {α : Type} (i : Option Nat) (l : List (Option α)) : List (Option α) := match i with
  | some i => l.set i none
  | none => l
/-- a suite's end: the name is gone -/
def S.un (i : Option Nat) : S → S
  | .nx ρ g => .nx (unL i ρ) g
  | .ct ρ g => .ct (unL i ρ) g
  | .bk ρ g => .bk (unL i ρ) g
  | .ret d g => .ret d g
  | .err _ _ _ => .no
  | .no => .no
open Classical in
/-- what a suite comes to, wherever the exception stands -/
noncomputable def sAll (f : Nat → S) : S := if ∀ a, f a = f 0 then f 0 else .no
/-- one clause, by its class and name -/
noncomputable def sTryAs (L Cs : List Str) (y : Str) (i : Nat) (b : Stm) (s : Nat × Str → Stm) : Stm := fun ρ g => match b ρ g with
  | .err e ρ1 g1 => if e ∈ L ∧ y ∈ Cs then (if isSub e y = true then sAll fun a => (s (a, e) (ρ1.set i (some (.err e a))) g1).un (some i) else .err e ρ1 g1) else .no
  | r => r
/-- clauses without names -/
noncomputable def sHds (L Cs : List Str) (e : Str) (ρ : En) (g : Gr) : List (Str × (Nat × Str → Stm)) → S
  | [] => .err e ρ g
  | (y, s) :: r => if y ∈ Cs then (if isSub e y = true then sAll fun a => (s (a, e) ρ g).un none else sHds L Cs e ρ g r) else .no
noncomputable def sTryMany (L Cs : List Str) (b : Stm) (hs : List (Str × (Nat × Str → Stm))) : Stm := fun ρ g => match b ρ g with
  | .err e ρ1 g1 => if e ∈ L then sHds L Cs e ρ1 g1 hs else .no
  | r => r
theorem rm_mark {k : Nat} {A : Around} {v : Option Value} (h : RM k A) : RM k (A.mark v) := ⟨h.dp, h.un, h.gd⟩
theorem takes_noN {X : Cx} : L2N.Takes X NoW := fun _ _ ⟨_, _, _, _, _, _, _, _, _, _, _, _, _, _, _, _, w⟩ => w.elim
section
variable {P : Program} {w : World} {K : PySem.W.Frag} {mg : Str → Option Value} {base : Heap} {Z : Sc} {hot : Option (Nat × Str)} {k : Nat} {X : Cx} {W : WX} {L Cs Is : List Str}
theorem Cc.tr (C : Cc P w K mg base Z none k X W) {W' : WX} {pn : List (Addr × Obj)} {xe : Value → Shared → Prop} (tk : L2N.Takes (X.tr pn xe) W') (hp : PassesOwn (model X.prog X.w) X.A X.env xe) : Cc P w K mg base Z none k (X.tr pn xe) W' :=
  ⟨C.pP, C.pw, C.pK, C.pm, C.pb, C.nn, C.ss, C.nd, C.room, tk, hp, C.md, C.okv, C.okg, C.oks, C.stk⟩
theorem Cc.suite (C : Cc P w K mg base Z none k X W) {a : Nat} {e : Str} {oe : Obj} {pn : List (Addr × Obj)} (hz : L2N.Zn (.ref (He.ga K e)) none oe) (hf : ∃ vs, oe.data = .fields vs) : Cc P w K mg base Z (some (a, e)) k (X.suite a ((a, oe) :: pn)) NoW :=
  ⟨C.pP, C.pw, C.pK, C.pm, C.pb, C.nn, C.ss, C.nd, rm_mark C.room, takes_noN, PassesOwn.never, ⟨rfl, (a, oe), ⟨rfl, rfl, hz, hf⟩, List.mem_cons_self⟩, C.okv, C.okg, C.oks, C.stk⟩
/-- a suite's ends -/
theorem OutS.un {K : PySem.W.Frag} {w : Wd} {r : S} {i : Option Nat} {Dn : Ends} {W : WX} (o : OutS K w (r.un i) Dn W) :
    OutS K w r { nx := fun σ H => Dn.nx (unL i σ) H, rt := Dn.rt, bk := fun σ H => Dn.bk (unL i σ) H, ct := fun σ H => Dn.ct (unL i σ) H } NoW := by
  have sl : ∀ {w : Wd} {ρ : En} {σ : L2.St}, SL K w ρ σ → SL K w (unL i ρ) (unL i σ) := fun {w ρ σ} h => by
    cases i with
    | none => exact h
    | some i => exact h.del none
  cases r with
  | nx ρ g => exact fun σ H w' le S l => o _ H w' le S (sl l)
  | ct ρ g => exact fun σ H w' le S l => o _ H w' le S (sl l)
  | bk ρ g => exact fun σ H w' le S l => o _ H w' le S (sl l)
  | ret d g => exact o
  | err c ρ g => exact o.elim
  | no => exact o.elim
theorem sAll_at {f : Nat → S} {K : PySem.W.Frag} {w : Wd} {Dn : Ends} {W : WX} (o : OutS K w (sAll f) Dn W) (a : Nat) : OutS K w (f a) Dn W := by
  unfold sAll at o
  split at o
  · rename_i h
    rw [h a]; exact o
  · exact o.elim
theorem rs_tryAs (C : Cc P w K mg base Z none k X W) (i j : Nat) {y n : Str} {body suite : List Stmt} {b0 : Stmt} {np pos pos' : Pos} {mb : Stm} {ms : Nat × Str → Stm} (B : excB L Cs Is K = true) (gy : mg y = some (.ref (He.ga K y)))
    (hb : ∀ X' W', Cc P w K mg base Z none k X' W' → RB X' W' body mb) (hs : ∀ X' ac, Cc P w K mg base Z (some ac) k X' NoW → RB X' NoW (b0 :: suite) (ms ac))
    (hn : (y == ("ValueError" : Str)) = false := by decide +kernel) (ht : Z.top = true := by rfl) (hi : Z.N[i]? = some n := by rfl) (hl : Z.sc.names.lookup n = some .local := by rfl) (hN : Z.gl[j]? = some y := by rfl) :
    RS X W (.Try body [.ExceptHandler (some (.Name y np)) (some n) (b0 :: suite) pos'] [] [] pos) (sTryAs L Cs y i mb ms) := by
  obtain ⟨h1, h2⟩ := C.stk ht
  obtain ⟨h3, h4⟩ := C.glo hN
  refine ps_weak (L2N.ps_try_as (i := i) (c := .ref (He.ga K y)) (tb := fun W' => tMS X.K W' mb) (ts := fun a cls d D σ H => ∃ e, cls = .ref (He.ga K e) ∧ d = none ∧ tMS X.K NoW (ms (a, e)) D σ H) h1 h2 (by rw [C.nn]; exact C.nd) (by rw [C.nn]; exact hi)
    (show X.env.scope.names.lookup n = some .local by rw [C.ss]; exact hl) ⟨h3, h4, .inl (by rw [C.pm]; exact gy)⟩ C.tk (fun W' pn xe tk hp => hb (X.tr pn xe) W' (C.tr tk hp)) (fun a oe cls d pn hz hf => ⟨fun pins s σ H D I q => ?_⟩)) ?_
  · obtain ⟨e, rfl, rfl, q⟩ := q
    exact (hs (X.suite a ((a, oe) :: pn)) (a, e) (C.suite hz hf)).run pins s σ H D I q
  · rintro Dn σ H ⟨w1, ρ, g, S0, L', o⟩
    refine ⟨w1, ρ, g, S0, L', ?_⟩
    unfold sTryAs at o
    cases e : mb ρ g with
    | err c ρ1 g1 =>
      simp only [e] at o
      split at o
      · rename_i hh
        intro σ1 H1 w2 le S1 L1
        have ex := excB_exm B hh.1 hh.2
        unfold clsV at ex
        rw [if_neg (by rw [hn]; exact Bool.false_ne_true)] at ex
        refine ⟨isSub c y, by rw [C.pK]; exact ex, fun ht a ha => ?_, fun hf => ?_⟩
        · rw [if_pos ht] at o
          refine ⟨c, by rw [C.pK], rfl, w2, ρ1.set i (some (.err c a)), g1, S1, L1.set (by simp only [Rep]), ?_⟩
          exact ((sAll_at o a).un).weak le
        · rw [if_neg (by rw [hf]; exact Bool.false_ne_true)] at o
          exact o σ1 H1 w2 le S1 L1
      · exact o.elim
    | nx ρ1 g1 => rw [e] at o; exact o
    | bk ρ1 g1 => rw [e] at o; exact o
    | ct ρ1 g1 => rw [e] at o; exact o
    | ret d g1 => rw [e] at o; exact o
    | no => rw [e] at o; exact o
/-- clauses without names follow their machines -/
inductive Hds (P : Program) (w : World) (K : PySem.W.Frag) (mg : Str → Option Value) (base : Heap) (Z : Sc) (k : Nat) : List ExceptHandler → List (Str × (Nat × Str → Stm)) → Prop
  | nil : Hds P w K mg base Z k [] []
  | cons {y : Str} {ms : Nat × Str → Stm} {b0 : Stmt} {suite : List Stmt} {np pos' : Pos} {hds : List ExceptHandler} {l : List (Str × (Nat × Str → Stm))} (j : Nat) (gy : mg y = some (.ref (He.ga K y)))
      (hs : ∀ X' ac, Cc P w K mg base Z (some ac) k X' NoW → RB X' NoW (b0 :: suite) (ms ac)) (r : Hds P w K mg base Z k hds l)
      (hn : (y == ("ValueError" : Str)) = false := by decide +kernel) (hN : Z.gl[j]? = some y := by rfl) :
      Hds P w K mg base Z k (.ExceptHandler (some (.Name y np)) none (b0 :: suite) pos' :: hds) ((y, ms) :: l)
def tsOf (K : PySem.W.Frag) (ms : Nat × Str → Stm) : Addr → Value → Option Addr → TS := fun a cls d D σ H => ∃ e, cls = .ref (He.ga K e) ∧ d = none ∧ tMS K NoW (ms (a, e)) D σ H
theorem Hds.ok (C : Cc P w K mg base Z none k X W) {hds : List ExceptHandler} {l : List (Str × (Nat × Str → Stm))} (h : Hds P w K mg base Z k hds l) : L2N.HdsOk X hds (l.map fun p => (.ref (He.ga K p.1), tsOf X.K p.2)) := by
  induction h with
  | nil => exact .nil
  | cons j gy hs r hn hN ih =>
    obtain ⟨h3, h4⟩ := C.glo hN
    refine .cons ⟨h3, h4, .inl (by rw [C.pm]; exact gy)⟩ (fun a oe cls d pn hz hf => ⟨fun pins s σ H D I q => ?_⟩) ih
    obtain ⟨e, rfl, rfl, q⟩ := q
    exact (hs (X.suite a ((a, oe) :: pn)) (a, e) (C.suite (by rw [← C.pK]; exact hz) hf)).run pins s σ H D I q
theorem wMany_of (C : Cc P w K mg base Z none k X W) (B : excB L Cs Is K = true) {e : Str} (he : e ∈ L) {hds : List ExceptHandler} {l : List (Str × (Nat × Str → Stm))} (h : Hds P w K mg base Z k hds l) {Dn : Ends} {ρ : En} {g : Gr} {w0 : Wd} (o : OutS X.K w0 (sHds L Cs e ρ g l) Dn W) :
    ∀ σ H w', w0.Le w' → SG X.K w' g H → SL X.K w' ρ σ → wMany X.K W Dn (l.map fun p => (.ref (He.ga K p.1), tsOf X.K p.2)) (.ref (He.ga X.K e)) none σ H := by
  induction h with
  | nil => exact o
  | @cons y ms b0 suite np pos' hds l j gy hs r hn hN ih =>
    intro σ H w' le S l'
    unfold sHds at o
    split at o
    · rename_i hy
      have ex := excB_exm B he hy
      unfold clsV at ex
      rw [if_neg (by rw [hn]; exact Bool.false_ne_true)] at ex
      refine ⟨isSub e y, by rw [C.pK]; exact ex, fun ht a ha => ?_, fun hf => ?_⟩
      · rw [if_pos ht] at o
        exact ⟨e, rfl, rfl, w', ρ, g, S, l', ((sAll_at o a).un (i := none)).weak le⟩
      · rw [if_neg (by rw [hf]; exact Bool.false_ne_true)] at o
        exact ih o σ H w' le S l'
    · exact o.elim
theorem rs_tryMany (C : Cc P w K mg base Z none k X W) {body : List Stmt} {h0 : ExceptHandler} {hds : List ExceptHandler} {pos : Pos} {mb : Stm} {l : List (Str × (Nat × Str → Stm))} (B : excB L Cs Is K = true)
    (hb : ∀ X' W', Cc P w K mg base Z none k X' W' → RB X' W' body mb) (hh : Hds P w K mg base Z k (h0 :: hds) l) (ht : Z.top = true := by rfl) :
    RS X W (.Try body (h0 :: hds) [] [] pos) (sTryMany L Cs mb l) := by
  obtain ⟨h1, h2⟩ := C.stk ht
  refine ps_weak (L2N.ps_try_many (tb := fun W' => tMS X.K W' mb) h1 h2 C.tk (fun W' pn xe tk hp => hb (X.tr pn xe) W' (C.tr tk hp)) (hh.ok C)) ?_
  rintro Dn σ H ⟨w1, ρ, g, S0, L', o⟩
  refine ⟨w1, ρ, g, S0, L', ?_⟩
  unfold sTryMany at o
  cases e : mb ρ g with
  | err c ρ1 g1 =>
    simp only [e] at o
    split at o
    · rename_i hL
      exact wMany_of C B hL hh o
    · exact o.elim
  | nx ρ1 g1 => rw [e] at o; exact o
  | bk ρ1 g1 => rw [e] at o; exact o
  | ct ρ1 g1 => rw [e] at o; exact o
  | ret d g1 => rw [e] at o; exact o
  | no => rw [e] at o; exact o
end
end Fw
namespace Fw
open PySem PySem.Spec PyProof.Rows L2
/-! ### classes, by the head's facts -/
theorem fk_one {K : PySem.W.Frag} {c f : Str} (h1 : (He.Fa.cls c).ok K = true) (h2 : (He.Fa.noat c f).ok K = true) : Fk K [c] f :=
  ⟨fun c' h => by rw [List.mem_singleton] at h; subst h; exact He.cls_ok h1, fun c' h => by rw [List.mem_singleton] at h; subst h; exact He.noat_ok h2⟩
section
variable {P : Program} {w : World} {K : PySem.W.Frag} {mg : Str → Option Value} {base : Heap} {Z : Sc} {hot : Option (Nat × Str)} {k j n : Nat} {X : Cx} {W : WX} {c mn f : Str} {m : Fn} {cs : List Str} {o value : Expr} {mo mv : Exp} {pos pos' : Pos}
theorem ma_one {fd : FuncData} {ps : List Str} (h1 : (He.Fa.cls c).ok K = true) (h2 : (He.Fa.meth c mn).ok K = true) (F : FnM P w K mg base hot j (He.fAd K (c, some mn)) fd ps (spM K n m)) (hb : Binds K fd ps []) (no : ∀ ds g, ds.length ≠ n → m ds g = .no) : Ma P w K mg base hot j n [c] mn m :=
  ⟨fun c' h => by rw [List.mem_singleton] at h; subst h; exact ⟨He.cls_ok h1, _, fd, ps, He.meth_ok h2, F, hb⟩, no⟩
theorem ka_one {fd : FuncData} {ps : List Str} (h1 : (He.Fa.mkr c).ok K = true) (hm : mg c = some (.ref (He.ga K c))) (F : FnM P w K mg base hot j (He.fAd K (c, some "__init__")) fd ps (spM K n m)) (hb : Binds K fd ps []) (no : ∀ ds g, ds.length ≠ n → m ds g = .no) : Ka P w K mg base hot j n c m :=
  ⟨⟨_, fd, ps, He.mkr_ok h1, hm, F, hb⟩, no⟩
theorem xFldC (C : Cc P w K mg base Z hot k X W) (F : Fk K cs f) (h : RE X W o mo) (hb : attributeBase o f X.env (eval o X.env) = eval o X.env := by rfl) : RE X W (.Attribute o f pos) (eFld cs f mo) := xFld (by rw [C.pK]; exact F) h hb
theorem xSetFldC (C : Cc P w K mg base Z hot k X W) (F : Fk K cs f) (h : RE X W o mo) (hv : RE X W value mv) (hs : swapsWith value (some (.Attribute o f pos')) pos.line X.env = pure false := by rfl) : RS X W (.Assign [.Attribute o f pos'] value pos) (sFldM cs f mo mv) := xSetFld (by rw [C.pK]; exact F) h hv hs
theorem xAugAdd (C : Cc P w K mg base Z hot k X W) (F : Fk K cs f) (h : RE X W o mo) (hv : RE X W value mv) : RS X W (.AugAssign (.Attribute o f pos') .Add value pos) (sFldA cs f dAdd mo mv) :=
  xAugFld (by rw [C.pK]; exact F) h hv in_add fun w x y a b z H Q rx ry e q => by
    cases a <;> cases b <;> simp only [dAdd] at e <;> first | (cases e; done) | (cases e; exact ⟨_, _, rep_int rx, rep_int ry, q _ rep_int'⟩)
theorem xAugSub (C : Cc P w K mg base Z hot k X W) (F : Fk K cs f) (h : RE X W o mo) (hv : RE X W value mv) : RS X W (.AugAssign (.Attribute o f pos') .Sub value pos) (sFldA cs f dSub mo mv) :=
  xAugFld (by rw [C.pK]; exact F) h hv in_sub fun w x y a b z H Q rx ry e q => by
    cases a <;> cases b <;> simp only [dSub] at e <;> first | (cases e; done) | (cases e; exact ⟨_, _, rep_int rx, rep_int ry, q _ rep_int'⟩)
end
end Fw

set_option maxRecDepth 100000
set_option maxHeartbeats 4000000
/-! Fv: exceptions reckoned. -/
namespace Fw
open PySem PySem.Spec PyProof.Rows
noncomputable def fTryAs (L Cs : List Str) (y : Str) (i : Nat) (s : Nat × Str → Stm) : S → S
  | .err e ρ1 g1 => if e ∈ L ∧ y ∈ Cs then (if isSub e y = true then sAll fun a => (s (a, e) (ρ1.set i (some (.err e a))) g1).un (some i) else .err e ρ1 g1) else .no
  | r => r
noncomputable def fTryMany (L Cs : List Str) (hs : List (Str × (Nat × Str → Stm))) : S → S
  | .err e ρ1 g1 => if e ∈ L then sHds L Cs e ρ1 g1 hs else .no
  | r => r
section
variable {L Cs Is : List Str} {x y e : Str} {i a : Nat} {b : Stm} {s : Nat × Str → Stm} {ρ : En} {g : Gr} {d : D} {r : S} {hs : List (Str × (Nat × Str → Stm))}
theorem v_raise : sRaise x ρ g = .err x ρ g := rfl
theorem v_tryAs : sTryAs L Cs y i b s ρ g = fTryAs L Cs y i s (b ρ g) := by
  unfold sTryAs fTryAs; cases b ρ g <;> rfl
theorem v_tryMany : sTryMany L Cs b hs ρ g = fTryMany L Cs hs (b ρ g) := by
  unfold sTryMany fTryMany; cases b ρ g <;> rfl
theorem w_tryN : fTryAs L Cs y i s (.nx ρ g) = .nx ρ g := rfl
theorem w_tryR : fTryAs L Cs y i s (.ret d g) = .ret d g := rfl
theorem w_tryC : fTryAs L Cs y i s (.ct ρ g) = .ct ρ g := rfl
theorem w_tryE (h1 : e ∈ L) (h2 : y ∈ Cs) (h3 : isSub e y = true) : fTryAs L Cs y i s (.err e ρ g) = sAll fun a => (s (a, e) (ρ.set i (some (.err e a))) g).un (some i) := by
  show (if e ∈ L ∧ y ∈ Cs then _ else _) = _
  rw [if_pos ⟨h1, h2⟩, if_pos h3]
theorem w_trmN : fTryMany L Cs hs (.nx ρ g) = .nx ρ g := rfl
theorem w_trmR : fTryMany L Cs hs (.ret d g) = .ret d g := rfl
theorem w_trmC : fTryMany L Cs hs (.ct ρ g) = .ct ρ g := rfl
theorem w_trmE (h1 : e ∈ L) : fTryMany L Cs hs (.err e ρ g) = sHds L Cs e ρ g hs := if_pos h1
theorem w_hdY (h2 : y ∈ Cs) (h3 : isSub e y = true) : sHds L Cs e ρ g ((y, s) :: hs) = sAll fun a => (s (a, e) ρ g).un none := by
  show (if y ∈ Cs then _ else _) = _
  rw [if_pos h2, if_pos h3]
theorem w_hdN (h2 : y ∈ Cs) (h3 : isSub e y = false) : sHds L Cs e ρ g ((y, s) :: hs) = sHds L Cs e ρ g hs := by
  show (if y ∈ Cs then _ else _) = _
  rw [if_pos h2, if_neg (by rw [h3]; exact Bool.false_ne_true)]
theorem w_all : (sAll fun _ => r) = r := by unfold sAll; exact if_pos fun _ => rfl
theorem w_unN : S.un (some i) (.nx ρ g) = .nx (ρ.set i none) g := rfl
theorem w_unC : S.un (some i) (.ct ρ g) = .ct (ρ.set i none) g := rfl
theorem w_unR {j : Option Nat} : S.un j (.ret d g) = .ret d g := rfl
theorem w_unN0 : S.un none (.nx ρ g) = .nx ρ g := rfl
theorem w_unC0 : S.un none (.ct ρ g) = .ct ρ g := rfl
theorem w_isE (h1 : e ∈ L) (h2 : y ∈ Is) : opIsE L Is (a, e) y (.err e a) g = .ok (.bl (isSub e y)) g := if_pos ⟨⟨rfl, rfl⟩, h1, h2⟩
theorem w_tabN {tab : List (Str × Str)} {z : Str} {d : D} (h : tab.lookup z = none) : fTabR tab (.str z) (.ok d g) = .ok d g := by
  show (match tab.lookup z with | some y => R.ok (.str y) g | none => .ok d g) = _
  rw [h]
/-- a pure def that raises -/
theorem pure_err {n k : Nat} {m : Stm} {ds : List D} (hl : ds.length = n) {g2 : Gr} (h : m (ds.map some ++ List.replicate (k - n) none) g = .err x ρ (g ++ g2)) : pureF (fnOf n k m) ds g = .err x g := by
  unfold pureF fnOf
  rw [if_pos hl, h]
  simp
theorem pure_err0 {n k : Nat} {m : Stm} {ds : List D} (hl : ds.length = n) (h : ∃ ρ, m (ds.map some ++ List.replicate (k - n) none) g = .err x ρ g) : pureF (fnOf n k m) ds g = .err x g := by
  obtain ⟨ρ, h⟩ := h
  exact pure_err (g2 := []) hl (by rw [h, List.append_nil])
end
end Fw

set_option maxRecDepth 100000
set_option maxHeartbeats 4000000
/-! Fz: iterators that end, tuples taken apart, while an exception is handled. -/
namespace Fw
open PySem PySem.Spec PyProof.Rows L2
section
variable {prog : Program} {w : World} {A : Around} {E : Value → Shared → Prop} {s : Shared} {y1 : Addr}
theorem hotKeep {h h' : Heap} (z : HotX.HotAt A y1 h) (k : ∀ o, h.get? y1 = some o → h'.get? y1 = some o) : HotX.HotAt A y1 h' := by
  obtain ⟨e, o, fs, e1, e2, e3⟩ := z
  exact ⟨e, o, fs, k o e1, e2, e3⟩
theorem stopH {α : Type} {Q : α → Shared → Prop} {k : Value → Sem α} (hk : ∀ v, k v = raiseNew v) (z : HotX.HotAt A y1 s.heap)
    (hE : ∀ t e, (∀ b o, s.heap.get? b = some o → t.get? b = some o) → (∃ o, t.get? e = some o ∧ o.cls = .type "StopIteration") → E (.ref e) { s with heap := t }) :
    wpAny (model prog w) A (newExc (.type "StopIteration") [] >>= k) Q E s := by
  obtain ⟨zh, o1, fs, z1, z2, z3⟩ := z
  refine wpAny_bind ?_; simp only [newExc, newTuple]
  refine wpAny_bind (wpAny_newObj_type ?_ (by size_fits)); refine wpAny_bind (m := firstArgMember _ _) (wpAny_of_eq (a := Value.none) (by first | rfl | (simp only [firstArgMember]; rfl)) ?_)
  refine wpAny_newObj_type ?_ (by size_fits); rw [hk]
  refine HotX.raiseNew_hot ⟨zh, o1, fs, Heap.get?_push_of_some _ (Heap.get?_push_of_some _ z1), z2, z3⟩ (Nat.ne_of_lt (Heap.lt_size (Heap.get?_push_of_some _ z1))) (Heap.get?_push_size _ rfl) rfl (by first | (simp; done) | (simp; omega)) ?_
  refine hE _ _ (fun b o e => ?_) ⟨_, Heap.get?_update_self _ (Heap.get?_push_size _ rfl) rfl, rfl⟩
  rw [Heap.get?_update_other _ _ (Nat.ne_of_gt (Heap.lt_size (Heap.get?_push_of_some _ e)))]; exact Heap.get?_push_of_some _ (Heap.get?_push_of_some _ e)
theorem listEndH {j l : Addr} {n : Nat} {xs : Array Value} {Q : Value → Shared → Prop} (z : HotX.HotAt A y1 s.heap) (hj : y1 ≠ j) (hi : s.heap.IsListIter j l n) (hl : s.heap.IsList l xs) (hx : xs[n]? = none)
    (hE : ∀ t e, Heap.ExtBut j s.heap t → (∃ o, t.get? e = some o ∧ o.cls = .type "StopIteration") → E (.ref e) { s with heap := t }) :
    wpAny (model prog w) A (Builtin.SmallTypes.nextOf (.ref j)) Q E s := by
  obtain ⟨oj, ej, cj, dj⟩ := id hi
  obtain ⟨ol, el, _, nl, dl⟩ := hl
  unfold Builtin.SmallTypes.nextOf
  refine wpAny_bind (wpAny_callSpecial?_slot (name := Str.ofString "__next__") hi.typeIs slot_listiter_next (wpAny_call_entry slot_listiter_next hi.typeIs entry_listiter_next ?_ (args_listiter_next _)))
  show wpAny _ _ (field (.ref j) 0 >>= _) _ _ s
  refine wpAny_bind (wpAny_field ej dj (x := .ref l) rfl ?_); show wpAny _ _ (if (Value.ref l == Value.none) = true then _ else _) _ _ s
  rw [if_neg (show ¬ ((Value.ref l == Value.none) = true) from Bool.false_ne_true)]; show wpAny _ _ (field (.ref j) 1 >>= _) _ _ s
  refine wpAny_bind (wpAny_field ej dj (x := .int n 0) rfl ?_); show wpAny _ _ (seqItems? (.ref l) >>= _) _ _ s
  refine wpAny_bind (wpAny_seqItems el dl ?_); simp only [Int.toNat_natCast, hx]
  refine wpAny_bind (wpAny_rule (wpAny_bind (wpAny_setField ej dj (by simp) ?_)))
  refine stopH (y1 := y1) (fun _ => rfl) (hotKeep z fun o e => (Heap.SameBut.update ..).extBut _ _ hj e) fun t e k c => hE t e (fun b o hb q => k b o ((Heap.SameBut.update ..).extBut b o hb q)) c
theorem tupEndH {j l : Addr} {n : Nat} {xs : Array Value} {Q : Option Value → Shared → Prop} (z : HotX.HotAt A y1 s.heap) (hj : y1 ≠ j) (hi : IsTupIter s.heap j l n) (hl : IsTup s.heap l xs) (hx : xs[n]? = none)
    (hQ : ∀ t, Heap.ExtBut j s.heap t → Q none { s with heap := t }) : wpAny (model prog w) A (pyNext (.ref j)) Q E s := by
  obtain ⟨oj, ej, cj, dj⟩ := id hi
  obtain ⟨ol, el, _, nl, dl⟩ := hl
  unfold pyNext
  refine wpAny_bind (wpAny_attempt (wpAny_callSpecial?_slot (name := Str.ofString "__next__") hi.typeIs slot_tupleiter_next (wpAny_call_entry slot_tupleiter_next hi.typeIs entry_tupleiter_next ?_ (args_tupleiter_next _))))
  show wpAny _ _ (field (.ref j) 0 >>= _) _ _ s
  refine wpAny_bind (wpAny_field ej dj (x := .ref l) rfl ?_); show wpAny _ _ (if (Value.ref l == Value.none) = true then _ else _) _ _ s
  rw [if_neg (show ¬ ((Value.ref l == Value.none) = true) from Bool.false_ne_true)]; show wpAny _ _ (field (.ref j) 1 >>= _) _ _ s
  refine wpAny_bind (wpAny_field ej dj (x := .int n 0) rfl ?_); show wpAny _ _ (seqItems? (.ref l) >>= _) _ _ s
  refine wpAny_bind (wpAny_seqItems el dl ?_); simp only [Int.toNat_natCast, hx]
  refine wpAny_bind (wpAny_rule (wpAny_bind (wpAny_setField ej dj (by simp) ?_)))
  refine stopH (y1 := y1) (fun _ => rfl) (hotKeep z fun o e => (Heap.SameBut.update ..).extBut _ _ hj e) fun t e k c => ?_
  obtain ⟨o, eo, co⟩ := c
  refine wpAny_bind (wpAny_isInstance (T := "StopIteration") (b := true) ⟨o, eo, co⟩ isSubtype_stop ?_); exact wpAny_pure (hQ t fun b o hb q => k b o ((Heap.SameBut.update ..).extBut b o hb q))
theorem asgTupH {env : Env} {elts : List Expr} {k} {pos : Pos} {t : Addr} {xs : Array Value} {Q : Unit → Shared → Prop} (z : HotX.HotAt A y1 s.heap) (ht : IsTup s.heap t xs)
    (hn : (assignEach elts env).length = xs.size) (hst : (assignEach elts env).findIdx? (·.1) = none)
    (h : ∀ t', Heap.ExtBut s.heap.objs.size s.heap t' → wpAny (model prog w) A (assignInOrder ((assignEach elts env).map (·.2)) xs.toList) Q E { s with heap := t' }) :
    wpAny (model prog w) A (assign (.Tuple elts k pos) env (.ref t)) Q E s := by
  have nt : t ≠ s.heap.objs.size := by obtain ⟨o, e, _⟩ := ht; exact Nat.ne_of_lt (Heap.lt_size e)
  have ny : y1 ≠ s.heap.objs.size := by obtain ⟨_, o, _, e, _⟩ := z; exact Nat.ne_of_lt (Heap.lt_size e)
  rw [assign_Tuple]
  refine wpAny_bind (wpAny_standAt ?_)
  unfold unpack; rw [hn, hst]
  refine wpAny_bind (wpAny_holding ?_)
  unfold unpackItems
  refine wpAny_bind ?_
  unfold notIterableAtAll
  refine wpAny_bind (wpAny_specialOf ht.typeIs slot_tuple_iter.lookup ?_); refine wpAny_pure ?_
  simp only [Bool.false_eq_true, if_false]; refine wpAny_bind (wpAny_holding (iter_tuple ht ?_))
  refine wpAny_bind (wpAny_holding (draw_tuple nt xs.size 0 _ _ ⟨_, Heap.get?_push_size _ rfl, rfl, rfl⟩ (ht.push _) (by omega) fun t1 i1 s1 => ?_))
  have all : List.take xs.size (List.drop 0 xs.toList) = xs.toList := by rw [List.drop_zero]; exact List.take_of_length_le (by simp)
  rw [all, if_neg (by simp)]
  have ht1 : IsTup t1 t xs := (ht.push _).extBut s1.extBut nt
  have z1 : HotX.HotAt A y1 t1 := hotKeep z fun o e => s1.extBut _ _ ny (Heap.get?_push_of_some _ e)
  refine wpAny_bind (wpAny_holding (tupEndH z1 ny i1 ht1 (by simp) fun t2 x2 => ?_))
  simp only [Option.isSome_none, Bool.false_eq_true, if_false]; exact wpAny_pure (h t2 fun b o hb e => x2 b o hb (s1.extBut b o hb (Heap.get?_push_of_some _ e)))
theorem zipStopH {z TI TO j1 j2 l1 l2 : Addr} {k1 k2 : Nat} {xs ys : Array Value} {a b : Value} {Q : Fin → Shared → Prop} (hz : HotX.HotAt A y1 s.heap) (hy1 : y1 ≠ z) (hy2 : y1 ≠ TO) (hy3 : y1 ≠ j1) (hy4 : y1 ≠ j2) (D : ZipApart z TI TO j1 j2 l1 l2)
    (iz : IsZip s.heap z TI TO .none) (iI : IsPair s.heap TI (.ref j1) (.ref j2)) (iO : IsPair s.heap TO a b)
    (i1 : s.heap.IsListIter j1 l1 k1) (i2 : s.heap.IsListIter j2 l2 k2) (L1 : s.heap.IsList l1 xs) (L2 : s.heap.IsList l2 ys) (stop : xs[k1]? = none ∨ ys[k2]? = none)
    (hE : ∀ t e, (∀ c o, c ≠ z → c ≠ TO → c ≠ j1 → c ≠ j2 → s.heap.get? c = some o → t.get? c = some o) → (∃ o, t.get? e = some o ∧ o.cls = .type "StopIteration") → E (.ref e) { s with heap := t }) :
    wpAny (model prog w) A (Builtin.«zip.__next__» ⟨[.ref z], []⟩) Q E s := by
  show wpAny _ _ (field (.ref z) 2 >>= fun _ => _) _ _ _
  refine wpAny_bind (wpAny_field iz rfl (x := .bool false) rfl ?_); show wpAny _ _ (field (.ref z) 3 >>= fun _ => _) _ _ _
  refine wpAny_bind (wpAny_field iz rfl (x := .ref TI) rfl ?_); refine wpAny_bind (wpAny_seqItems iI rfl ?_)
  show wpAny _ _ (Builtin.SmallTypes.ownedTupleIsFree (.ref z) >>= fun _ => _) _ _ _
  refine wpAny_bind ?_; unfold Builtin.SmallTypes.ownedTupleIsFree
  refine wpAny_bind (wpAny_field iz rfl (x := .none) rfl (wpAny_pure ?_)); simp only [if_true]
  refine wpAny_bind (wpAny_rule ?_); refine wpAny_bind (wpAny_field iz rfl (x := .ref TO) rfl ?_)
  refine wpAny_bind (wpAny_setField_rec iz (by simp) fun t1 iz1 b1 => ?_)
  replace iz1 : IsZip t1 z TI TO .ellipsis := iz1
  refine wpAny_bind ?_; simp only [List.zipIdx_cons, List.zipIdx_nil, List.forIn_cons, List.forIn_nil]
  refine wpAny_bind (wpAny_bind (wpAny_onRaise ?_)); show wpAny _ _ (Builtin.SmallTypes.nextOf (.ref j1) >>= fun _ => _) _ _ _
  have hz1 : HotX.HotAt A y1 t1 := hotKeep hz fun o e => b1.extBut _ _ hy1 e
  cases hx : xs[k1]? with
  | none =>
    refine wpAny_bind (listEndH hz1 hy3 (i1.extBut b1.extBut D.i1z) (L1.extBut b1.extBut D.l1z) hx fun t2 e b2 c => ?_)
    obtain ⟨oe, eo, co⟩ := c
    have iz2 : IsZip t2 z TI TO .ellipsis := b2 _ _ D.i1z.symm iz1
    have ne : e ≠ z := fun q => by subst q; rw [iz2] at eo; cases eo; simp at co
    exact wpAny_setField_rec iz2 (by simp) fun t3 _ b3 => hE t3 e (fun c o c1 _ c3 _ q => b3.extBut _ _ c1 (b2 _ _ c3 (b1.extBut _ _ c1 q))) ⟨oe, b3.extBut _ _ ne eo, co⟩
  | some x =>
    have hy : ys[k2]? = none := stop.elim (fun q => by rw [hx] at q; cases q) id
    refine wpAny_bind (wpAny_nextOf_list_item (i1.extBut b1.extBut D.i1z) (L1.extBut b1.extBut D.l1z) hx fun t2 i1' b2 => wpAny_pure ?_)
    have iO2 : IsPair t2 TO a b := b2.extBut _ _ D.TOi1 (b1.extBut _ _ D.TOz iO)
    refine wpAny_bind (wpAny_seqItems iO2 rfl ?_); refine wpAny_bind (wpAny_updateSeq_pair iO2 fun t3 iO3 b3 => ?_)
    refine wpAny_bind (wpAny_letGo (wpAny_pure ?_)); refine wpAny_bind (wpAny_bind (wpAny_onRaise ?_))
    show wpAny _ _ (Builtin.SmallTypes.nextOf (.ref j2) >>= fun _ => _) _ _ _
    have hz3 : HotX.HotAt A y1 t3 := hotKeep hz1 fun o e => b3.extBut _ _ hy2 (b2.extBut _ _ hy3 e)
    refine wpAny_bind (listEndH hz3 hy4 (((i2.extBut b1.extBut D.i2z).extBut b2.extBut D.i12.symm).extBut b3.extBut D.TOi2.symm) (((L2.extBut b1.extBut D.l2z).extBut b2.extBut D.l2i1).extBut b3.extBut D.l2TO) hy fun t4 e b4 c => ?_)
    obtain ⟨oe, eo, co⟩ := c
    have iz4 : IsZip t4 z TI TO .ellipsis := b4 _ _ D.i2z.symm (b3.extBut _ _ D.TOz.symm (b2.extBut _ _ D.i1z.symm iz1))
    have ne : e ≠ z := fun q => by subst q; rw [iz4] at eo; cases eo; simp at co
    exact wpAny_setField_rec iz4 (by simp) fun t5 _ b5 => hE t5 e (fun c o c1 c2 c3 c4 q => b5.extBut _ _ c1 (b4 _ _ c4 (b3.extBut _ _ c2 (b2.extBut _ _ c3 (b1.extBut _ _ c1 q))))) ⟨oe, b5.extBut _ _ ne eo, co⟩
theorem zipEndH {z TI TO j1 j2 l1 l2 : Addr} {k1 k2 : Nat} {xs ys : Array Value} {a b : Value} {Q : Option Value → Shared → Prop} (hz : HotX.HotAt A y1 s.heap) (hy1 : y1 ≠ z) (hy2 : y1 ≠ TO) (hy3 : y1 ≠ j1) (hy4 : y1 ≠ j2) (D : ZipApart z TI TO j1 j2 l1 l2)
    (iz : IsZip s.heap z TI TO .none) (iI : IsPair s.heap TI (.ref j1) (.ref j2)) (iO : IsPair s.heap TO a b)
    (i1 : s.heap.IsListIter j1 l1 k1) (i2 : s.heap.IsListIter j2 l2 k2) (L1 : s.heap.IsList l1 xs) (L2 : s.heap.IsList l2 ys) (stop : xs[k1]? = none ∨ ys[k2]? = none)
    (hQ : ∀ t, (∀ c o, c ≠ z → c ≠ TO → c ≠ j1 → c ≠ j2 → s.heap.get? c = some o → t.get? c = some o) → Q none { s with heap := t }) : wpAny (model prog w) A (pyNext (.ref z)) Q E s := by
  have ty : s.TypeIs (.ref z) "zip" := ⟨_, iz, rfl⟩
  unfold pyNext
  refine wpAny_bind (wpAny_attempt (wpAny_callSpecial?_slot (name := Str.ofString "__next__") ty F.slot_zip_next (wpAny_call_entry F.slot_zip_next ty F.entry_zip_next ?_ (F.args_zip_next_1 _))))
  refine zipStopH hz hy1 hy2 hy3 hy4 D iz iI iO i1 i2 L1 L2 stop fun t e k c => ?_
  obtain ⟨o, eo, co⟩ := c
  refine wpAny_bind (wpAny_isInstance (T := "StopIteration") (b := true) ⟨o, eo, co⟩ isSubtype_stop ?_); exact wpAny_pure (hQ t k)
end
end Fw

set_option maxRecDepth 100000
set_option maxHeartbeats 4000000
/-! Fz, second part: a list put together over zip, while an exception is handled. -/
namespace Fw
open PySem PySem.Spec PyProof.Rows L2
/-- the exception that this context handles -/
def XHot (X : Cx) : Prop := ∃ ac p, HotP X.K X.A ac p ∧ p ∈ X.pn
section
variable {X : Cx} {pins : List (Addr × Obj)} {σ : L2.St} {H : Hp} {s : Shared}
theorem XHot.at (z : XHot X) : ∃ p, p ∈ X.pn ∧ ∀ {pins σ H s}, Inv X pins σ H s → HotX.HotAt X.A p.1 s.heap := by
  obtain ⟨ac, p, hp, hm⟩ := z
  obtain ⟨fs, e⟩ := hp.fl
  exact ⟨p, hm, fun {pins σ H s} I => ⟨hp.hd, p.2, fs, (I.pin p (List.mem_append_left _ hm)).1, e, hp.zn.2.2 fs e⟩⟩
theorem pg_tupH {es : List Expr} {k : Nat} {pos : Pos} {t : TGs} {n : Nat} (z : XHot X) (h : PGs X es t) (hn : (assignEach es X.env).length = n := by rfl) (hst : (assignEach es X.env).findIdx? (·.1) = none := by rfl) : PG X (.Tuple es k pos) (gTup X.K n t) := by
  obtain ⟨p, _, hp⟩ := z.at
  refine ⟨fun pins s σ H v u Q I r hw => ?_⟩
  obtain ⟨a, xs, rfl, hq, hl, hw⟩ := hw
  cases r
  obtain ⟨us, ru, ht, _⟩ := I.tuple hq
  exact asgTupH (hp I) ht (by simp [hn, ← hl, ru.length]) hst fun t' ht' => h.run pins _ σ H xs _ Q (I.kept (t' := s.toks) fun b o e => ht' b o (Nat.ne_of_lt (Heap.lt_size e)) e) (by simpa using ru) hw
/-- an iterator's turns while an exception is handled -/
structure TurnH (P : Program) (w : World) (K : PySem.W.Frag) (tg : Expr) (J : It) (fp : List Addr) (it : Addr) (tn : Nat → Heap → Prop) : Prop where
  mem : it ∈ fp
  obj : ∀ i h, tn i h → ∀ b ∈ fp, ∃ o, h.get? b = some o ∧ ∀ v, o.data ≠ .cell v
  keep : ∀ i h h', tn i h → (∀ b ∈ fp, ∀ o, h.get? b = some o → h'.get? b = some o) → tn i h'
  item : ∀ (X : Cx), X.prog = P → X.w = w → X.K = K → ∀ (i : Nat) (pins : List (Addr × Obj)) (s : Shared) (σ : L2.St) (H : Hp) (E : Value → Shared → Prop), Inv X pins σ H s → (∀ b ∈ fp, FpOk X pins H b) → tn i s.heap → J.go i H →
    wpAny (model P w) X.A (pyNext (.ref it)) (fun r s1 => ∃ u, r = some u ∧ wpAny (model P w) X.A (letOwnedTupleGo tg (.ref it) u) (fun _ s2 => ∃ x H', Inv X pins σ H' s2 ∧ RelV x u ∧ J.yld i H x H' ∧ tn (i + 1) s2.heap ∧ ∀ b ∈ fp, H' b = none) E s1) E s
  done : ∀ (X : Cx), X.prog = P → X.w = w → X.K = K → XHot X → ∀ (i : Nat) (pins : List (Addr × Obj)) (s : Shared) (σ : L2.St) (H : Hp) (E : Value → Shared → Prop), Inv X pins σ H s → (∀ b ∈ fp, FpOk X pins H b) → tn i s.heap → J.stop i H →
    wpAny (model P w) X.A (pyNext (.ref it)) (fun r s1 => r = none ∧ Inv X pins σ H s1) E s
  self : ∀ (A : Around) (i : Nat) (s : Shared) (Q E : Value → Shared → Prop), tn i s.heap → Q (.ref it) s → wpAny (model P w) A (pyIter (.ref it)) Q E s
theorem turn_zipH {P : Program} {w : World} {K : PySem.W.Frag} {elts : List Expr} {kk : Nat} {tpos : Pos} {a b z TI TO i1 i2 : Addr} (D : ZipApart z TI TO i1 i2 a b) :
    TurnH P w K (.Tuple elts kk tpos) (Itz K a b) [z, TI, TO, i1, i2] z (fun i h => IsZip h z TI TO .none ∧ IsPair h TI (.ref i1) (.ref i2) ∧ (∃ x y, IsPair h TO x y) ∧ h.IsListIter i1 a i ∧ h.IsListIter i2 b i) where
  mem := (turn_zip (P := P) (w := w) (K := K) (elts := elts) (kk := kk) (tpos := tpos) D).mem
  obj := (turn_zip (P := P) (w := w) (K := K) (elts := elts) (kk := kk) (tpos := tpos) D).obj
  keep := (turn_zip (P := P) (w := w) (K := K) (elts := elts) (kk := kk) (tpos := tpos) D).keep
  self := (turn_zip (P := P) (w := w) (K := K) (elts := elts) (kk := kk) (tpos := tpos) D).self
  item := by
    intro X hP hw hK i pins s σ H E I hf st hg
    subst hP hw hK
    obtain ⟨iz, iI, ⟨x0, y0, iO⟩, h1, h2⟩ := st
    obtain ⟨xs, ys, x, y, qx, qy, hx, hy⟩ := hg
    obtain ⟨us, ru, p, _⟩ := I.list qx
    obtain ⟨us2, ru2, p2, _⟩ := I.list qy
    obtain ⟨u, hu, r1⟩ := ru.get hx
    obtain ⟨u2, hu2, r2⟩ := ru2.get hy
    have zlt : z < s.heap.objs.size := Heap.lt_size iz
    refine wpAny_pyNext_zip_item D iz iI iO h1 h2 p.isList p2.isList (x := u) (y := u2) (by simpa using hu) (by simpa using hu2) fun t iz' iO' h1' h2' hT _ hk => ?_
    refine ⟨_, rfl, wpAny_letOwnedTupleGo_zip (s := { s with heap := t }) iz' fun t2 iz2 sb => ?_⟩
    have hT2 : t2.get? s.heap.objs.size = some { cls := .type "tuple", data := .seq #[u, u2] } := (sb.2 _ (Nat.ne_of_gt zlt)).trans hT
    have new : ObjOk X.prog X.w (upd H s.heap.objs.size (.tup [x, y])) t2 s.heap.objs.size (.tup [x, y]) := ⟨by show 2 ≤ sizeLine; decide, [u, u2], .cons r1 (.cons r2 .nil), ⟨_, hT2, rfl, _, rfl⟩⟩
    have J1 : Inv X pins σ (upd H s.heap.objs.size (.tup [x, y])) { s with heap := t2 } :=
      I.turnedNew (t' := s.toks) (ch := [z, TI, TO, i1, i2]) (fun c o hb q => by
        simp only [List.mem_cons, List.not_mem_nil, or_false, not_or] at hb
        exact (sb.2 c hb.1).trans (hk c o hb.1 hb.2.2.1 hb.2.2.2.1 hb.2.2.2.2 q)) hf (Nat.le_refl _) new
    refine ⟨.ref s.heap.objs.size, _, J1, rfl, ⟨_, x, y, rfl, I.hok.fresh (Nat.le_refl _), rfl, fun l hl => by rw [I.list_inj hl qx]; exact hx, fun l hl => by rw [I.list_inj hl qy]; exact hy⟩,
      ⟨iz2, (sb.2 _ D.TIz).trans (hk _ _ D.TIz D.TITO D.TIi1 D.TIi2 iI), ⟨u, u2, (sb.2 _ D.TOz).trans iO'⟩, h1'.at fun o q => (sb.2 _ D.i1z).trans q, h2'.at fun o q => (sb.2 _ D.i2z).trans q⟩, fun c hc => ?_⟩
    have lt : c < s.heap.objs.size := by
      obtain ⟨o, e, _⟩ := (turn_zip (P := X.prog) (w := X.w) (K := X.K) (elts := elts) (kk := kk) (tpos := tpos) D).obj i s.heap ⟨iz, iI, ⟨x0, y0, iO⟩, h1, h2⟩ c hc
      exact Heap.lt_size e
    rw [upd_ne (Nat.ne_of_lt lt)]
    exact (hf c hc).1
  done := by
    intro X hP hw hK hot i pins s σ H E I hf st hg
    subst hP hw hK
    obtain ⟨p, hm, hp⟩ := hot.at
    obtain ⟨iz, iI, ⟨x0, y0, iO⟩, h1, h2⟩ := st
    obtain ⟨xs, ys, qx, qy, stop⟩ := hg
    obtain ⟨us, ru, q1, _⟩ := I.list qx
    obtain ⟨us2, ru2, q2, _⟩ := I.list qy
    have l1 := ru.length
    have l2 := ru2.length
    have ne : ∀ b ∈ [z, TI, TO, i1, i2], p.1 ≠ b := fun b hb => (hf b hb).2.2.2.2.2 p (List.mem_append_left _ hm)
    refine zipEndH (hp I) (ne z (by simp)) (ne TO (by simp)) (ne i1 (by simp)) (ne i2 (by simp)) D iz iI iO h1 h2 q1.isList q2.isList (stop.imp (fun q => by simp; omega) fun q => by simp; omega) fun t hk => ⟨rfl, ?_⟩
    exact I.turnedL (t' := s.toks) (ch := [z, TI, TO, i1, i2]) (fun c o hb q => by
        simp only [List.mem_cons, List.not_mem_nil, or_false, not_or] at hb
        exact hk c o hb.1 hb.2.2.1 hb.2.2.2.1 hb.2.2.2.2 q) hf
structure PIH (X : Cx) (tg iter : Expr) (wi : TI) : Prop where
  run : ∀ (pins : List (Addr × Obj)) (s : Shared) (σ : L2.St) (H : Hp) (R : It → Hp → Prop), Inv X pins σ H s → wi σ H R →
    wpAny (model X.prog X.w) X.A (eval iter X.env) (fun v s1 => wpAny (model X.prog X.w) X.A (pyIter v) (fun iv s2 => ∃ (it : Addr) (fp : List Addr) (tn : Nat → Heap → Prop) (J : It) (H' : Hp), iv = .ref it ∧ Inv X pins σ H' s2 ∧ TurnH X.prog X.w X.K tg J fp it tn ∧ tn 0 s2.heap ∧ (∀ b ∈ fp, FpOk X pins H' b) ∧ R J H') X.xe s1) X.xe s
theorem pih_weak {tg iter : Expr} {t t' : TI} (h : PIH X tg iter t) (k : ∀ σ H R, t' σ H R → t σ H R) : PIH X tg iter t' := ⟨fun pins s σ H R I z => h.run pins s σ H R I (k _ _ _ z)⟩
theorem pih_zip {e e2 : Expr} {ta : TA} {p pos tpos : Pos} {elts : List Expr} {kk : Nat} (hg : Gl X "zip") (hm : X.mg "zip" = none) (ha : PA X [e, e2] ta)
    (hs : starEach [e, e2] X.env = (false, eval e X.env) :: starEach [e2] X.env := by rfl) (hpl : (backTo pos (starEach [e2] X.env)).any (·.1) = false := by rfl) :
    PIH X (.Tuple elts kk tpos) (.Call (.Name "zip" p) [e, e2] [] pos) (iZip X.K ta) := by
  refine ⟨fun pins s σ H R I h => Call_ (ld_blt I hg hm PyProof.Rows.boot_zip (PyProof.Rows.callWith_type1 (thn (ha.run pos pins s σ H _ I h) fun us s1 ⟨vs, H1, I1, r1, q1⟩ => ?_) hs hpl))⟩
  obtain ⟨a, b, xs, ys, rfl, qx, qy, q⟩ := q1
  cases r1 with | cons r rr => ?_
  cases rr with | cons r' rr => ?_
  cases rr; cases r; cases r'
  obtain ⟨us1, ru, p1, _⟩ := I1.list qx
  obtain ⟨us2, ru2, p2, _⟩ := I1.list qy
  refine call_zip_2 p1.isList p2.isList fun t iz iI iO h1 h2 _ hk => wpAny_pyIter_zip iz ?_
  refine ⟨s1.heap.objs.size + 4, [s1.heap.objs.size + 4, s1.heap.objs.size + 2, s1.heap.objs.size + 3, s1.heap.objs.size, s1.heap.objs.size + 1], _, _, H1, rfl, I1.kept (t' := s1.toks) hk, turn_zipH (PySem.W.ktu_apart s1.heap.objs.size a b p1.lt p2.lt), ⟨iz, iI, ⟨_, _, iO⟩, h1, h2⟩, fun c hc => ?_, q⟩
  have le : s1.heap.objs.size ≤ c := by simp only [List.mem_cons, List.not_mem_nil, or_false] at hc; rcases hc with e | e | e | e | e <;> rw [e] <;> first | exact Nat.le_add_right _ _ | exact Nat.le_refl _
  exact I1.fpOk le (I1.hok.fresh le)
end
end Fw

set_option maxRecDepth 100000
set_option maxHeartbeats 4000000
/-! Fz, third part: the comprehension's block while an exception is handled. -/
namespace Fw
open PySem PySem.Spec PyProof.Rows L2
/-- the block's context; what is pinned stays pinned -/
abbrev blkH (X : Cx) (s : Shared) (H : Hp) (scope : Scope) (cenv : Env) (fp : List Addr) : Cx := { X.blk s H scope cenv fp with pn := X.pn }
section
variable {X : Cx} {pins : List (Addr × Obj)} {σ : L2.St} {H : Hp} {s : Shared}
theorem startH {scope : Scope} {own : List (Str × Nat)} {fp : List Addr} (I : Inv X pins σ H s) (ok : BlkOk X.N X.env.scope scope own) (hN : X.N.Nodup) (hfp : ∀ b ∈ fp, FpOk X pins H b ∧ b < s.heap.objs.size) :
    Inv (blkH X s H scope (compEnvC scope (cellsFrom (s.heap.objs.size + 1) scope.names (cloFrom X.env.cells scope.names [])) s.heap.objs.size X.env) fp) [] (wipe σ (own.map (·.2))) H { s with heap := pushCells (s.heap.push { cls := .type "dict", data := .dict #[] }) scope.names } := by
  have B := block_start I ok hN hfp
  refine ⟨⟨B.ok.mod, B.ok.kind, B.ok.glob, B.ok.blt, B.ok.above, B.ok.inj, B.ok.has, B.ok.cab, B.ok.hd, B.ok.frames, B.ok.stk, B.ok.exf, B.ok.bs, B.ok.bsz, B.ok.noex, B.ok.exfs, B.ok.funs, B.ok.frf⟩, B.os, B.bare, B.base, B.loc, B.cell, B.free, B.freeC, fun p hp => ?_, B.hok, B.len⟩
  have hp : p ∈ X.pn := by simpa using hp
  obtain ⟨e, n, l, f, c⟩ := I.pin p (List.mem_append_left _ hp)
  refine ⟨pushCells_keeps _ _ _ _ (Heap.get?_push_of_some _ e), n, Nat.ne_of_lt (Heap.lt_size e), fun q => ?_, c⟩
  rcases List.mem_cons.mp (I.stkSub p.1 q) with q | q
  · exact l q
  · exact f q
theorem lcH {s : Shared} {Q : VK} {elt tg iter : Expr} {ifs : List Expr} {scope : Scope} {own : List (Str × Nat)} {pos pos' : Pos} {wi : TI} {g : TG} {tt : TT} {te : TE} {use : Option (Value → Sem Unit)} {Qf : Value → Shared → Prop}
    (hot : XHot X) (hN : X.N.Nodup) (I : Inv X pins σ H s) (hi : PIH X tg iter wi) (ok : BlkOk X.N X.env.scope scope own)
    (hg : ∀ (s : Shared) (H : Hp) (C : Addr) (cl : List (Str × Addr)) (fp : List Addr), PG (blkH X s H scope (compEnvC scope cl C X.env) fp) tg g) (ht : ∀ (s : Shared) (H : Hp) (C : Addr) (cl : List (Str × Addr)) (fp : List Addr), PTs (blkH X s H scope (compEnvC scope cl C X.env) fp) ifs tt)
    (he : ∀ (s : Shared) (H : Hp) (C : Addr) (cl : List (Str × Addr)) (fp : List Addr), PE (blkH X s H scope (compEnvC scope cl C X.env) fp) elt te) (hs : ∀ x, foldedSetIterable iter X.env x = pure x)
    (h : tLc wi g tt te (own.map (·.2)) σ H Q)
    (fin : ∀ D C t m J, Inv X pins σ J t → Q (.ref D) J → t.heap.Ns C m → FpOk X pins J C → compPost (model X.prog X.w) X.A X.xe use Qf (.ref D) C (.ok .next) t) :
    wpAny (model X.prog X.w) X.A (comprehension (.ListComp elt [⟨tg, iter, ifs, 0⟩] scope pos) scope X.env pos' (newList []) false (eval iter X.env) use) Qf X.xe s := by
  have free : ∀ y ∈ scope.names, y.2 = .free → ∃ c, X.env.cells.lookup y.1 = some c := fun y hy e => (ok.free y hy e).elim (fun k => I.ok.has _ (.inl k)) fun k => I.ok.has _ (.inr k)
  refine wpAny_comprehension_free (use := use) rfl hs (closure_ok free) ok.kind (fun y hy e => by rw [ok.uniq y hy, e]) (thn (hi.run pins s σ H _ I h) fun xv s1 hx => thn hx fun itv s2 h2 => ?_)
  obtain ⟨it, fp, tn, J, H2, rfl, I2, T, st2, f2, q⟩ := h2
  refine wpAny_newObj_type (newEnv_comp ?_) (by show 0 ≤ sizeLine; decide)
  generalize eD : s2.heap.objs.size = D
  have fresh : H2 D = none := I2.hok.fresh (Nat.le_of_eq eD)
  obtain ⟨W, ⟨m0, w0⟩, turn⟩ := q D fresh
  generalize e3 : ({ s2 with heap := s2.heap.push { cls := .type "list", data := .seq ([] : List Value).toArray } } : Shared) = s3
  have K3 : Inv X pins σ (upd H2 D (.lst [])) s3 := by
    rw [← e3]
    refine I2.laid (t' := s2.toks) (fun b o e => Heap.get?_push_of_some _ e) (Nat.le_of_eq eD) ⟨Nat.zero_le _, [], 0, .nil, ?_⟩
    rw [← eD]; exact Heap.get?_push_size _ rfl
  have e3' : s3.heap = s2.heap.push { cls := .type "list", data := .seq ([] : List Value).toArray } := by rw [← e3]
  have f3 : ∀ b ∈ fp, FpOk X pins (upd H2 D (.lst [])) b ∧ b < s3.heap.objs.size := fun b hb => by
    obtain ⟨o, e, _⟩ := T.obj _ _ st2 b hb
    have lt := Heap.lt_size e
    exact ⟨⟨by rw [upd_ne (by rw [← eD]; exact Nat.ne_of_lt lt)]; exact (f2 b hb).1, (f2 b hb).2⟩, by rw [e3', Heap.size_push]; exact Nat.lt_succ_of_lt lt⟩
  have st3 : tn 0 s3.heap := T.keep _ _ _ st2 fun b _ o e => by rw [e3']; exact Heap.get?_push_of_some _ e
  have K4 := startH K3 ok hN f3
  have pg := hg s3 (upd H2 D (.lst [])) s3.heap.objs.size (cellsFrom (s3.heap.objs.size + 1) scope.names (cloFrom X.env.cells scope.names [])) fp
  have pt := ht s3 (upd H2 D (.lst [])) s3.heap.objs.size (cellsFrom (s3.heap.objs.size + 1) scope.names (cloFrom X.env.cells scope.names [])) fp
  have pe := he s3 (upd H2 D (.lst [])) s3.heap.objs.size (cellsFrom (s3.heap.objs.size + 1) scope.names (cloFrom X.env.cells scope.names [])) fp
  show codeAny _ _ (.compStart (.ListComp elt [⟨tg, iter, ifs, 0⟩] scope pos) 0 (.ref it) (.ref D) (compEnvC scope (cellsFrom (s3.heap.objs.size + 1) scope.names (cloFrom X.env.cells scope.names [])) s3.heap.objs.size X.env)) (compPost (model X.prog X.w) X.A X.xe use Qf (.ref D) s3.heap.objs.size) { s3 with heap := (pushCells (s3.heap.push { cls := .type "dict", data := .dict #[] }) scope.names) }
  have nf : ∀ b ∈ fp, (upd H2 D (.lst [])) b = none := fun b hb => (f3 b hb).1.1
  generalize ece : compEnvC scope (cellsFrom (s3.heap.objs.size + 1) scope.names (cloFrom X.env.cells scope.names [])) s3.heap.objs.size X.env = ce at K4 pg pt pe ⊢
  have cL : ce.locals = s3.heap.objs.size := by rw [← ece]; rfl
  generalize upd H2 D (.lst []) = H3 at K3 K4 pg pt pe w0 nf f3
  generalize e4 : ({ s3 with heap := (pushCells (s3.heap.push { cls := .type "dict", data := .dict #[] }) scope.names) } : Shared) = s4 at K4 ⊢
  have hotB : XHot (blkH X s3 H3 scope ce fp) := hot
  have st4 : tn 0 s4.heap := T.keep _ _ _ st3 fun b _ o e => by rw [← e4]; exact pushCells_keeps _ _ _ _ (Heap.get?_push_of_some _ e)
  have stat : ∀ {ρ : L2.St} {J' : Hp} {t : Shared}, Inv (blkH X s3 H3 scope ce fp) [] ρ J' t → (∀ b ∈ fp, J' b = none) → ∀ b ∈ fp, FpOk (blkH X s3 H3 scope ce fp) [] J' b := fun {ρ J' t} I' hn b hb =>
    ⟨hn b hb, (I'.ok.exf b hb).1, I'.ok.exfs b hb, .inl hb, fun x c e => (I'.ok.exf b hb).2 x c e, fun p hp => (f3 b hb).1.2.2.2.2.2 p (List.mem_append_left _ (by simpa using hp))⟩
  have loop : codeAny (model X.prog X.w) X.A (.compLoop (.ListComp elt [⟨tg, iter, ifs, 0⟩] scope pos) 0 (.ref it) (.ref D) ce) (compPost (model X.prog X.w) X.A X.xe use Qf (Value.ref D) s3.heap.objs.size) s4 := by
    refine compLoop_any (fun n t => ∃ i J', Inv (blkH X s3 H3 scope ce fp) [] (wipe σ (own.map (·.2))) J' t ∧ tn i t.heap ∧ (∀ b ∈ fp, J' b = none) ∧ W i n J') ?_ m0 ⟨0, H3, K4, st4, nf, w0⟩
    rintro n s5 ⟨i, H5, K5, st5, n5, w5⟩
    rcases turn i n H5 w5 with ⟨halt, qq⟩ | ⟨go, Nx, hNx, step⟩
    · refine thnF (T.done (blkH X s3 H3 scope ce fp) rfl rfl rfl hotB i [] s5 _ H5 (fun _ _ => False) K5 (stat K5 n5) st5 halt) fun r s6 ⟨hr, K6⟩ => ?_
      subst hr
      have K7 : Inv X pins σ H5 s6 := K3.call' (ch := fp) K6.os K6.base K6.hok K6.bare fun b hb => ⟨(f3 b hb).1.2.2.2.1, (f3 b hb).1.2.1, (f3 b hb).1.2.2.2.2.1, (f3 b hb).1.2.2.2.2.2⟩
      have nC : H5 s3.heap.objs.size = none := by have z : H5 ce.locals = none := K6.free; rwa [cL] at z
      obtain ⟨m, hn, _⟩ := K6.loc
      have hn : s6.heap.Ns ce.locals m := hn; rw [cL] at hn
      exact fin D s3.heap.objs.size s6 m H5 K7 qq hn (K3.fpOk (Nat.le_refl _) nC)
    · refine thnF (T.item (blkH X s3 H3 scope ce fp) rfl rfl rfl i [] s5 _ H5 (fun _ _ => False) K5 (stat K5 n5) st5 go) fun r s6 ⟨u, hr, h6⟩ => ?_
      subst hr
      refine thnF h6 fun _ s7 ⟨x, H7, K7, r7, y7, st7, n7⟩ => thnF (pg.run _ s7 _ H7 x u _ (K7.pinned (stat K7 n7) (T.obj _ _ st7)) r7 (step x H7 y7)) fun _ s8 ⟨σ8, H8, K8, hw8, q8⟩ => thnF (pt.run _ s8 σ8 H8 _ K8 q8) fun b s9 ⟨H9, K9, q9⟩ => ?_
      have over : ∀ {t : Shared} {J' : Hp}, Inv (blkH X s3 H3 scope ce fp) ([] ++ pinsAt fp s7.heap) σ8 J' t → Nx J' → ∃ m, m < n ∧ ∃ i J', Inv (blkH X s3 H3 scope ce fp) [] (wipe σ (own.map (·.2))) J' t ∧ tn i t.heap ∧ (∀ b ∈ fp, J' b = none) ∧ W i m J' := fun {t J'} I' nx => by
        obtain ⟨m', hm, w'⟩ := hNx J' nx
        have pin' : ∀ b ∈ fp, ∀ o, s7.heap.get? b = some o → t.heap.get? b = some o ∧ J' b = none := fun b hb o e => ⟨(I'.pin (b, o) (List.mem_append_right _ (List.mem_append_right _ (mem_pinsAt hb e)))).1, (I'.pin (b, o) (List.mem_append_right _ (List.mem_append_right _ (mem_pinsAt hb e)))).2.1⟩
        refine ⟨m', hm, i + 1, J', (I'.unpinned (pins := [])).weak (by rw [← hw8, wipe_length]) (fun j v e => by rw [← hw8] at e; exact (wipe_some e).1), T.keep _ _ _ st7 fun b hb o e => (pin' b hb o e).1, fun b hb => ?_, w'⟩
        obtain ⟨o, e, _⟩ := T.obj _ _ st7 b hb
        exact (pin' b hb o e).2
      cases b with
      | false => simp only [Bool.false_eq_true, if_false] at q9 ⊢; exact over K9 q9
      | true =>
        simp only [if_true] at q9 ⊢
        exact thnF (pe.run _ s9 σ8 H9 _ K9 q9) fun z s10 ⟨yv, H10, K10, r10, acc, hD10, hz10, nx⟩ => app_ok (X := blkH X s3 H3 scope ce fp) K10 hD10 hz10 r10 fun s11 K11 => over K11 nx
  exact codeAny_compStart_list loop (T.self X.A 0 _ _ _ st4 loop)
theorem pe_lcH {elt tg iter : Expr} {ifs : List Expr} {scope : Scope} {own : List (Str × Nat)} {pos : Pos} {wi : TI} {g : TG} {tt : TT} {te : TE} (hot : XHot X) (hN : X.N.Nodup) (hi : PIH X tg iter wi) (ok : BlkOk X.N X.env.scope scope own)
    (hg : ∀ (s : Shared) (H : Hp) (C : Addr) (cl : List (Str × Addr)) (fp : List Addr), PG (blkH X s H scope (compEnvC scope cl C X.env) fp) tg g) (ht : ∀ (s : Shared) (H : Hp) (C : Addr) (cl : List (Str × Addr)) (fp : List Addr), PTs (blkH X s H scope (compEnvC scope cl C X.env) fp) ifs tt)
    (he : ∀ (s : Shared) (H : Hp) (C : Addr) (cl : List (Str × Addr)) (fp : List Addr), PE (blkH X s H scope (compEnvC scope cl C X.env) fp) elt te) (hs : ∀ x, foldedSetIterable iter X.env x = pure x := by intro _; rfl) :
    PE X (.ListComp elt [⟨tg, iter, ifs, 0⟩] scope pos) (tLc wi g tt te (own.map (·.2))) := by
  refine ⟨fun pins s σ H Q I h => ?_⟩
  rw [eval_ListComp]
  refine lcH hot hN I hi ok hg ht he hs h fun D C t m J K q hn f => ⟨m, hn, fun t' sb => ?_⟩
  obtain ⟨f0, f1, f2, f3, f4, f5⟩ := f
  exact ⟨.ref D, J, K.turned (t' := t.toks) (fun b o hb e => (sb.2 b hb).trans e) f0 f1 f3 f4 f5, rfl, q⟩
end
section
variable {X : Cx} {W : WX} {elt tg iter : Expr} {ifs : List Expr} {scope : Scope} {own : List (Str × Nat)} {pos : Pos} {ms : Src} {mt : Tg} {mc me : Exp} {fin : List D → Gr → R}
def RSrcH (X : Cx) (W : WX) (tg iter : Expr) (m : Src) : Prop := PIH X tg iter (tMI X.K W m)
theorem re_lcH (hfin : FinOk X.K fin) (hot : XHot X) (hN : X.N.Nodup) (hi : RSrcH X W tg iter ms) (ok : BlkOk X.N X.env.scope scope own)
    (hg : ∀ (s : Shared) (H : Hp) (C : Addr) (cl : List (Str × Addr)) (fp : List Addr), RG (blkH X s H scope (compEnvC scope cl C X.env) fp) (own.map (·.2)) tg mt)
    (ht : ∀ (s : Shared) (H : Hp) (C : Addr) (cl : List (Str × Addr)) (fp : List Addr), RTs (blkH X s H scope (compEnvC scope cl C X.env) fp) NoW ifs mc)
    (he : ∀ (s : Shared) (H : Hp) (C : Addr) (cl : List (Str × Addr)) (fp : List Addr), RE (blkH X s H scope (compEnvC scope cl C X.env) fp) NoW elt me) (hs : ∀ x, foldedSetIterable iter X.env x = pure x := by intro _; rfl) :
    RE X W (.ListComp elt [⟨tg, iter, ifs, 0⟩] scope pos) (eLc fin ms (own.map (·.2)) mt mc me) :=
  pe_weak (pe_lcH (g := tMG X.K (own.map fun p : Str × Nat => p.2) mt) (tt := tMT X.K NoW mc) (te := tM X.K NoW me) hot hN hi ok hg ht he hs) fun _ _ _ h => read_lc hfin h
theorem rg_unpH {k : Nat} {vs : List Nat} {tgs : List Expr} {mts : Tgs} (n : Nat) (hot : XHot X) (h : RGs X vs tgs mts) (hn : (assignEach tgs X.env).length = n := by rfl) (hst : (assignEach tgs X.env).findIdx? (·.1) = none := by rfl) : RG X vs (.Tuple tgs k pos) (gUnp n mts) := by
  refine pg_weak (pg_tupH (n := n) hot h hn hst) ?_
  rintro v σ H Q ⟨w, ρ, g, d, S0, L, r, o⟩
  unfold gUnp at o
  split at o
  · rename_i ds
    split at o
    · rename_i hl
      simp only [Rep] at r
      obtain ⟨a, xs, rfl, h1, h2⟩ := r
      exact ⟨a, xs, rfl, S0.ex.sqT h1, by rw [h2.length]; exact hl, w, ρ, g, ds, S0, L, h2, o⟩
    · exact o.elim
  · exact o.elim
end
section
variable {P : Program} {w : World} {K : PySem.W.Frag} {mg : Str → Option Value} {base : Heap} {Z : Sc} {ac : Nat × Str} {N : List Str} {sc scope : Scope} {vi ow vi' ow' : List Nat} {gl gl' : List Str} {top : Bool} {k : Nat} {X : Cx} {W : WX} {pos : Pos}
theorem Cc.xhot (C : Cc P w K mg base Z (some ac) k X W) : XHot X := by
  obtain ⟨_, p, hp, hm⟩ := C.md
  exact ⟨ac, p, by rw [C.pK]; exact hp, hm⟩
theorem Cc.blkH (C : Cc P w K mg base ⟨N, sc, vi, ow, gl, top⟩ (some ac) k X W) (s : Shared) (H : Hp) (D : Addr) (cl : List (Str × Addr)) (fp : List Addr)
    (ok : (Sc.okV ⟨N, relab sc scope, vi', ow', gl', false⟩ && (Sc.okG ⟨N, relab sc scope, vi', ow', gl', false⟩ && Sc.okS ⟨N, relab sc scope, vi', ow', gl', false⟩ (isCell scope))) = true) :
    Cc P w K mg base ⟨N, relab sc scope, vi', ow', gl', false⟩ (some ac) k (Fw.blkH X s H scope (compEnvC scope cl D X.env) fp) NoW := by
  simp only [Bool.and_eq_true] at ok
  obtain ⟨o1, o2, o3⟩ := ok
  exact { pP := C.pP, pw := C.pw, pK := C.pK, pm := C.pm, pb := C.pb, nn := C.nn, ss := relab_eq C.ss, nd := C.nd, room := C.room,
          tk := fun u s' h => by obtain ⟨_, _, _, _, _, _, _, _, _, _, _, _, _, _, _, _, z⟩ := h; exact z.elim
          pass := PassesOwn.never, md := C.md, okv := o1, okg := o2, oks := o3, stk := fun z => by cases z }
variable {elt tg iter : Expr} {ifs : List Expr} {own : List (Str × Nat)} {ms : Src} {mt : Tg} {mc me : Exp} {fin : List D → Gr → R}
theorem xLcH (C : Cc P w K mg base ⟨N, sc, vi, ow, gl, top⟩ (some ac) k X W) (hfin : FinOk X.K fin) (own : List (Str × Nat)) (vi' ow' : List Nat) (gl' : List Str)
    (ok : (blkC N sc scope own && (Sc.okV ⟨N, relab sc scope, vi', ow', gl', false⟩ && (Sc.okG ⟨N, relab sc scope, vi', ow', gl', false⟩ && Sc.okS ⟨N, relab sc scope, vi', ow', gl', false⟩ (isCell scope)))) = true)
    (hi : RSrcH X W tg iter ms)
    (hb : ∀ X' : Cx, Cc P w K mg base ⟨N, relab sc scope, vi', ow', gl', false⟩ (some ac) k X' NoW → X'.K = X.K → RG X' (own.map (·.2)) tg mt ∧ RTs X' NoW ifs mc ∧ RE X' NoW elt me)
    (hs : ∀ x, foldedSetIterable iter X.env x = pure x := by intro _; rfl) : RE X W (.ListComp elt [⟨tg, iter, ifs, 0⟩] scope pos) (eLc fin ms (own.map (·.2)) mt mc me) := by
  obtain ⟨o0, o1⟩ := Bool.and_eq_true_iff.mp ok
  exact re_lcH hfin C.xhot (by rw [C.nn]; exact C.nd) hi (by rw [C.nn, C.ss]; exact blkOk_by o0) (fun s H D cl fp => (hb _ (C.blkH s H D cl fp o1) rfl).1) (fun s H D cl fp => (hb _ (C.blkH s H D cl fp o1) rfl).2.1) (fun s H D cl fp => (hb _ (C.blkH s H D cl fp o1) rfl).2.2) hs
theorem tUnpH (C : Cc P w K mg base Z (some ac) k X W) {kk : Nat} {vs : List Nat} (n : Nat) {tgs : List Expr} {mts : Tgs} (h : RGs X vs tgs mts) (hn : (assignEach tgs X.env).length = n := by rfl) (hst : (assignEach tgs X.env).findIdx? (·.1) = none := by rfl) : RG X vs (.Tuple tgs kk pos) (gUnp n mts) :=
  rg_unpH n C.xhot h hn hst
end
end Fw

set_option maxRecDepth 100000
set_option maxHeartbeats 4000000
namespace Fw
open PySem PySem.Spec PyProof.Rows L2
section
variable {P : Program} {w : World} {K : PySem.W.Frag} {mg : Str → Option Value} {base : Heap} {Z : Sc} {ac : Nat × Str} {k : Nat} {X : Cx} {W : WX}
theorem xSrcZpH {e e2 : Expr} {p pos tp : Pos} {tgs : List Expr} {k0 : Nat} {ms : Exps} (C : Cc P w K mg base Z (some ac) k X W) (i : Nat) (fr : mg "zip" = none) (ha : RA X W [e, e2] ms) (hN : Z.gl[i]? = some "zip" := by rfl) (hs : starEach [e, e2] X.env = (false, eval e X.env) :: starEach [e2] X.env := by rfl) (hpl : (backTo pos (starEach [e2] X.env)).any (·.1) = false := by rfl) : RSrcH X W (.Tuple tgs k0 tp) (.Call (.Name "zip" p) [e, e2] [] pos) (srcA ms iZp) := by
  obtain ⟨h1, h2⟩ := C.glo hN
  refine pih_weak (pih_zip h1 (by rw [C.pm]; exact fr) ha hs hpl) ?_
  rintro σ H R ⟨w1, ρ, g, S0, L, o⟩
  refine bindSrcA S0 L o fun es g' vs H' w' ds kp le S' r e q => ?_
  unfold iZp at e
  split at e
  · rename_i as bs
    cases e
    obtain ⟨v, u, rfl, hv, hu⟩ := repl2 r
    have e1 : viewL g' (.lst as) = some as := rfl
    have e2 : viewL g' (.lst bs) = some bs := rfl
    obtain ⟨a, xs, rfl, h1, _⟩ := viewL_ok S' hv e1
    obtain ⟨b, ys, rfl, h2, _⟩ := viewL_ok S' hu e2
    exact ⟨a, b, xs, ys, rfl, .inl h1, .inl h2, q _ ((fol_zip S' hv hu rfl rfl).kpT_of fun _ => ⟨rfl, rfl⟩)⟩
  · split at e
    · rename_i as bs e1 e2
      cases e
      obtain ⟨v, u, rfl, hv, hu⟩ := repl2 r
      obtain ⟨a, xs, rfl, h1, _⟩ := viewL_ok S' hv e1
      obtain ⟨b, ys, rfl, h2, _⟩ := viewL_ok S' hu e2
      exact ⟨a, b, xs, ys, rfl, .inl h1, .inl h2, q _ (fol_zip S' hv hu rfl rfl)⟩
    · cases e
  · cases e
end
end Fw

set_option maxRecDepth 100000
set_option maxHeartbeats 4000000
/-! Fz: the empty dict shown; lists that hold it shown. -/
namespace Fw
open PySem PySem.Spec PyProof.Rows L2
/-- {} -/
def eDic : Exp := fun _ g => .ok (.obj g.length) (g ++ [.dic []])
theorem re_dic {X : Cx} {W : WX} {pos : Pos} : RE X W (.Dict [] [] pos) eDic := by
  refine pe_weak pe_dnewK ?_
  rintro σ H Q ⟨w, ρ, g, S0, L, o⟩ p hp
  unfold eDic at o
  have hc : CellAt X.K (w.more p) (upd H p (.dK [])) p (.dic []) := ⟨S0.ex.free hp, [], upd_same, rfl, rfl⟩
  refine o _ _ _ (w.le_more p) (S0.allocC hp hc) ?_
  simp only [Rep]
  rw [← S0.n]
  exact ⟨Nat.lt_succ_self _, by rw [Wd.more_at]⟩
/-- what is shown: a datum without dicts, or the empty dict -/
def OneE (K : PySem.W.Frag) (H : Hp) (x : V) (d : PyData) : Prop := d.depth ≤ 7 ∧ ((Dp K H x d ∧ ndP d = true) ∨ ∃ a, x = .ref a ∧ H a = some (.dK []) ∧ d = .dict [])
inductive EachE (K : PySem.W.Frag) (H : Hp) : List V → List PyData → Prop
  | nil : EachE K H [] []
  | cons {v : V} {vs : List V} {d : PyData} {ds : List PyData} : OneE K H v d → EachE K H vs ds → EachE K H (v :: vs) (d :: ds)
/-- the same in a heap -/
inductive EachR (h : Heap) : List Value → List PyData → Prop
  | nil : EachR h [] []
  | cons {v : Value} {vs : List Value} {d : PyData} {ds : List PyData} (as : List Addr) : Reads h v d as → (d.hasDict = true → sysModules ∉ as) → d.depth ≤ 7 → EachR h vs ds → EachR h (v :: vs) (d :: ds)
theorem EachR.reads {h : Heap} : ∀ {vs : List Value} {ds : List PyData}, EachR h vs ds → ∃ as, ReadsAll h vs ds as
  | _, _, .nil => ⟨_, .nil⟩
  | _, _, .cons as r _ _ t => let ⟨_, q⟩ := t.reads; ⟨_, .cons r q⟩
theorem EachR.depth {h : Heap} : ∀ {vs : List Value} {ds : List PyData}, EachR h vs ds → PyData.depthAll ds ≤ 7
  | _, _, .nil => by simp [PyData.depthAll]
  | _, _, .cons as r _ z t => by have := t.depth; simp only [PyData.depthAll]; omega
theorem EachR.shows {prog : Program} {w : World} {h : Heap} : ∀ {vs : List Value} {ds : List PyData}, EachR h vs ds → PyData.showableAll ds = true → (∀ t ∈ PyData.shownAll ds, t.length ≤ sizeLine) → ∃ bs, ReadAtMost h (PyData.depthAll ds) bs ∧ ReprAllK prog w bs h (PyData.depthAll ds) vs (PyData.shownAll ds)
  | _, _, .nil, _, _ => ⟨[], (fun _ z => nomatch z), by simp only [PyData.shownAll]; exact .nil⟩
  | _, _, .cons (d := d) (ds := ds) as r hm _ t, hs, hz => by
    have hs' : d.showable = true ∧ PyData.showableAll ds = true := by simpa [PyData.showableAll] using hs
    obtain ⟨b1, p1, k1⟩ := ReprK.of_reads (prog := prog) (w := w) r hs'.1 hm (hz _ (by simp [PyData.shownAll]))
    obtain ⟨b2, p2, k2⟩ := t.shows (prog := prog) (w := w) hs'.2 fun z hm => hz z (by simp [PyData.shownAll, hm])
    refine ⟨b1 ++ b2, ?_, ?_⟩
    · simp only [PyData.depthAll]
      exact (p1.mono (Nat.le_max_left _ _)).append (p2.mono (Nat.le_max_right _ _))
    · simp only [PyData.depthAll, PyData.shownAll]
      exact .cons ((k1.more fun b q => List.mem_append_left _ q).level_le (Nat.le_max_left _ _)) (k2.more_le (fun b q => List.mem_append_right _ q) (Nat.le_max_right _ _))
section
variable {prog : Program} {w : World} {A : Around} {E : Value → Shared → Prop} {s : Shared}
theorem reprL {a : Addr} {vs : List Value} {ds : List PyData} {Q : Value → Shared → Prop} (pl : PlainL s.heap a vs.toArray) (e : EachR s.heap vs ds) (hs : PyData.showableAll ds = true) (hg : A.guards = some []) (hu : A.units + 20 < cLine) (hz : (listText (PyData.shownAll ds)).length ≤ sizeLine)
    (hQ : ∀ t u tk, (∀ b o, s.heap.get? b = some o → t.get? b = some o) → Q (.str (listText (PyData.shownAll ds)) u) { s with heap := t, toks := tk }) : wpAny (model prog w) A (call (.builtin "repr") [.ref a]) Q E s := by
  obtain ⟨o, n, h1, h2, _, h3⟩ := pl
  obtain ⟨as, rd⟩ := e.reads
  have dp := e.depth
  obtain ⟨bs, hb, hk⟩ := e.shows (prog := prog) (w := w) hs fun t ht => Nat.le_trans (listText_mem_le ht) hz
  have na : a ∉ bs := not_mem_of_deeper (.list h1 h2 h3 (by simpa using rd)) (by simp only [PyData.depth]; omega) hb
  refine call_repr_slot (T := "list") (by omega) ⟨o, h1, h2⟩ F.slot_list_repr.toG ?_
  cases vs with
  | nil =>
    cases e
    simp only [PyData.shownAll, listText_nil] at hQ ⊢
    exact call_list_repr_empty ⟨o, h1, h2⟩ h1 h3 ⟨_, _, rfl, hQ s.heap _ _ fun _ _ e => e⟩
  | cons x l => exact call_list_reprK h1 h2 h3 na (by simpa using hk.length_eq) (fun i y e => hk.item i y (by simpa using e)) hg (fun b _ => Clear.nil b) (by show A.units + 1 + (PyData.depthAll ds + 1) < cLine; omega) (fun _ _ e => e) (fun t u tk kk => ⟨_, _, rfl, hQ t u tk kk⟩) hz
end
section
variable {X : Cx} {pins : List (Addr × Obj)} {σ : L2.St} {H : Hp} {s : Shared}
theorem one_reads (I : Inv X pins σ H s) {x : V} {u : Value} {d : PyData} (h : OneE X.K H x d) (r : RelV x u) : ∃ as, Reads s.heap u d as ∧ (d.hasDict = true → sysModules ∉ as) := by
  rcases h.2 with ⟨h, nd⟩ | ⟨a, rfl, e, rfl⟩
  · obtain ⟨as, rd⟩ := Dp.reads I d x _ h r
    exact ⟨as, rd, fun z => by rw [toP_shd nd] at z; cases z⟩
  · obtain rfl : u = Value.ref a := r
    obtain ⟨_, ns, vs, kv, o, es, ep, e1, ⟨c1, _⟩, e2, _, pr, _⟩ := dk_of I.hok e
    cases kv
    have en : es.toList = [] := by cases h : es.toList with | nil => rfl | cons a b => rw [h] at pr; cases pr
    refine ⟨[a], .dict (as := []) (bs := []) e1 c1 e2 (by rw [en]; exact .nil) (by rw [en]; exact .nil), fun _ z => ?_⟩
    rw [List.mem_singleton] at z
    subst z
    exact absurd ns (by simp)
theorem each_reads (I : Inv X pins σ H s) : ∀ {xs : List V} {us : List Value} {ds : List PyData}, EachE X.K H xs ds → Vals xs us → EachR s.heap us ds
  | _, _, _, .nil, r => by cases r; exact .nil
  | _, _, _, .cons h t, r => by
    cases r with
    | cons r1 rr =>
      obtain ⟨as, rd, hm⟩ := one_reads I h r1
      exact .cons as rd hm h.1 (each_reads I t rr)
def rRprE (K : PySem.W.Frag) : List V → Hp → VK → Prop := fun xs H Q => ∃ x d, xs = [x] ∧ (OneE K H x d ∨ ∃ a ys ds, x = .ref a ∧ SqL K H a ys ∧ EachE K H ys ds ∧ d = .list ds) ∧ d.showable = true ∧ d.shown.length ≤ sizeLine ∧ Q (.str d.shown) H
theorem call_rprE (hu : X.A.units + 70 < cLine) (hg : X.A.guards = some []) : CallR X (.builtin "repr") (rRprE X.K) := by
  rintro pins s σ H xs us Q I r ⟨x, d, rfl, h, sh, hz, q⟩
  cases r with
  | cons r1 rr =>
    cases rr
    rcases h with h | ⟨a, ys, ds, rfl, hl, he, rfl⟩
    · rcases h.2 with ⟨dp, nd⟩ | ⟨a, rfl, e, rfl⟩
      · exact call_rpr hu hg pins s σ H _ _ Q I (.cons r1 .nil) ⟨x, d, rfl, dp, nd, by have := h.1; omega, sh, hz, q⟩
      · obtain ⟨as, rd, hm⟩ := one_reads I h r1
        obtain rfl := show _ = Value.ref a from r1
        exact repr_of_reads' rd sh hm hg (by simp only [PyData.depth, PyData.depthKv]; omega) (fun _ _ e => e) (fun h' u tk kk => ⟨.str _, H, I.kept kk, ⟨u, rfl⟩, q⟩) hz
    · obtain rfl := show _ = Value.ref a from r1
      obtain ⟨its, rv, pl, _⟩ := I.list hl
      have sh' : PyData.showableAll ds = true := by simpa [PyData.showable] using sh
      simp only [PyData.shown] at hz q
      exact reprL pl (each_reads I he rv) sh' hg (by omega) hz fun t u tk kk => ⟨.str _, H, I.kept kk, ⟨u, rfl⟩, q⟩
end
def toE (g : Gr) : D → Option PyData
  | .obj l => (match g[l]? with
    | some (.dic []) => some (.dict [])
    | _ => toP g 7 (.obj l))
  | d => toP g 7 d
def topE (g : Gr) : D → Option PyData
  | .lst ds => (mapO (toE g) ds).map .list
  | d => toE g d
def fReprE : Fn := fun ds g => match ds with
  | [d] => (match topE g d with
    | some p => if p.showable = true ∧ p.shown.length ≤ sizeLine then .ok (.str p.shown) g else .no
    | none => .no)
  | _ => .no
theorem toE_ok {K : PySem.W.Frag} {w : Wd} {g : Gr} {H : Hp} (S0 : SG K w g H) {v : V} {d : D} {p : PyData} (r : Rep K w v d) (e : toE g d = some p) : OneE K H v p := by
  have old : toP g 7 d = some p → OneE K H v p := fun e => by
    obtain ⟨a, b, c⟩ := toP_ok S0 _ _ _ _ r e
    exact ⟨c, .inl ⟨a, b⟩⟩
  unfold toE at e
  split at e
  · split at e
    · rename_i l hl
      cases e
      simp only [Rep] at r
      obtain ⟨_, rfl⟩ := r
      obtain ⟨_, xs, h1, h2, h3⟩ := S0.cell _ _ hl
      have : xs = [] := by simpa using h2
      subst this
      exact ⟨by simp [PyData.depth, PyData.depthKv], .inr ⟨_, rfl, h1, rfl⟩⟩
    · exact old e
  · exact old e
theorem toE_all {K : PySem.W.Frag} {w : Wd} {g : Gr} {H : Hp} (S0 : SG K w g H) : ∀ {ds : List D} {xs : List V} {ps : List PyData}, RepL K w xs ds → mapO (toE g) ds = some ps → EachE K H xs ps
  | [], xs, ps, r, e => by
    simp only [RepL] at r
    simp only [mapO, Option.some.injEq] at e
    subst r e
    exact .nil
  | d :: ds, xs, ps, r, e => by
    simp only [RepL] at r
    obtain ⟨x, t, rfl, r1, r2⟩ := r
    simp only [mapO] at e
    split at e
    · rename_i y ys e1 e2
      cases e
      exact .cons (toE_ok S0 r1 e1) (toE_all S0 r2 e2)
    · cases e
theorem c_reprE {K : PySem.W.Frag} : CaS K (rRprE K) fReprE := by
  intro w g H vs ds Q E S0 r o
  unfold fReprE at o
  split at o
  · rename_i d
    split at o
    · rename_i p hp
      split at o
      · rename_i hz
        obtain ⟨v, rfl, h1⟩ := repl1 r
        refine ⟨v, p, rfl, ?_, hz.1, hz.2, Out.here o S0 rep_str'⟩
        unfold topE at hp
        split at hp
        · simp only [Option.map_eq_some_iff] at hp
          obtain ⟨ps, e1, rfl⟩ := hp
          simp only [Rep] at h1
          obtain ⟨a, xs, rfl, h2, h3⟩ := h1
          exact .inr ⟨a, xs, ps, rfl, .inl (S0.ex.rd h2), toE_all S0 h3 e1, rfl⟩
        · exact .inl (toE_ok S0 h1 hp)
      · exact o.elim
    · exact o.elim
  · exact o.elim
end Fw

set_option maxRecDepth 100000
set_option maxHeartbeats 4000000
/-! Fz: two lists put together to one that is changed later; the words for it. -/
namespace Fw
open PySem PySem.Spec PyProof.Rows L2
def opAddC (d e : D) (g : Gr) : R := match viewL g d, viewL g e with
  | some a, some b => if a.length + b.length ≤ sizeLine then .ok (.obj g.length) (g ++ [.lst (a ++ b)]) else .no
  | _, _ => .no
theorem s_addC {X : Cx} : OpS X (rAddAll X.K) opAddC := by
  intro w g H x y d e Q E S0 rx ry o
  unfold opAddC at o
  split at o
  · rename_i a b h1 h2
    split at o
    · obtain ⟨p, xs, rfl, h3, h4⟩ := viewL_ok S0 rx h1
      obtain ⟨q, ys, rfl, h5, h6⟩ := viewL_ok S0 ry h2
      exact .inr (.inr ⟨p, q, xs, ys, rfl, rfl, h3, h5, by rw [h4.length, h6.length]; assumption, Out.newC o S0 (RepL.app h6 h4)⟩)
    · exact o.elim
  · exact o.elim
section
variable {g : Gr} {l : Nat} {ds es : List D}
theorem v_addC (h : ds.length + es.length ≤ 8388608) : opAddC (.lst ds) (.lst es) g = .ok (.obj g.length) (g ++ [.lst (ds ++ es)]) := by
  show (if ds.length + es.length ≤ sizeLine then _ else _) = _
  rw [if_pos (by have := sizeLine_big; omega)]
theorem v_addCO (hl : g[l]? = some (.lst ds)) (h : ds.length + es.length ≤ 8388608) : opAddC (.obj l) (.lst es) g = .ok (.obj g.length) (g ++ [.lst (ds ++ es)]) := by
  have e : viewL g (.obj l) = some ds := by show (match g[l]? with | some (.lst ds) => some ds | _ => none) = _; rw [hl]
  unfold opAddC
  rw [e]
  show (if ds.length + es.length ≤ sizeLine then _ else _) = _
  rw [if_pos (by have := sizeLine_big; omega)]
end
end Fw

set_option maxRecDepth 100000
set_option maxHeartbeats 4000000
/-! Fz: frames for what the words name. -/
namespace Fw
open PySem PySem.Spec PyProof.Rows L2
section
variable {g : Gr} {l : Nat} {ds es : List D} {ρ : En} {x : D}
theorem v_dic : eDic ρ g = .ok (.obj g.length) (g ++ [.dic []]) := rfl
theorem v_zipL : iZp [.lst ds, .lst es] g = some (zpD ds es, kpT) := rfl
end
section
variable {P : Program} {w : World} {K : PySem.W.Frag} {mg : Str → Option Value} {base : Heap} {N : List Str} {sc scope : Scope} {vi ow vi' ow' : List Nat} {gl gl' : List Str} {top : Bool} {k : Nat} {X : Cx} {W : WX}
variable {elt tg iter : Expr} {ifs : List Expr} {own : List (Str × Nat)} {pos : Pos} {ms : Src} {mt : Tg} {mc me : Exp} {fin : List D → Gr → R}
theorem xSetLc2 (C : Cc P w K mg base ⟨N, sc, vi, ow, gl, top⟩ none k X W) (i : Nat) {y : Str} {py spos : Pos} (hfin : FinOk X.K fin) (own : List (Str × Nat)) (vi' ow' : List Nat) (gl' : List Str)
    (ok : (blkC N sc scope own && (Sc.okV ⟨N, relab sc scope, vi', ow', gl', false⟩ && (Sc.okG ⟨N, relab sc scope, vi', ow', gl', false⟩ && Sc.okS ⟨N, relab sc scope, vi', ow', gl', false⟩ (isCell scope)))) = true)
    (hi : RSrc X W tg iter ms)
    (hb : ∀ X' : Cx, Cc P w K mg base ⟨N, relab sc scope, vi', ow', gl', false⟩ none k X' NoW → X'.K = X.K → RG X' (own.map (·.2)) tg mt ∧ RTs X' NoW ifs mc ∧ RE X' NoW elt me)
    (hy : N[i]? = some y := by rfl) (hyl : sc.names.lookup y = some .local := by rfl) (hk : sc.kind = .function := by rfl) (hl : (py.line == pos.line) = true := by rfl)
    (ha : (scope.names.any fun (n, k) => n == y && (k == .local || k == .cell)) = false := by decide +kernel) (hs : ∀ x, foldedSetIterable iter X.env x = pure x := by intro _; rfl) :
    RS X W (.Assign [.Name y py] (.ListComp elt [⟨tg, iter, ifs, 0⟩] scope pos) spos) (sAsg (gVar i) (eLc fin ms (own.map (·.2)) mt mc me)) :=
  xSetLc C i hfin own vi' ow' gl' ok hi hb hy hyl (sw_true (by rw [C.ss]; exact hk) (by rw [C.ss]; exact hyl) hl ha) hs
end
end Fw

set_option maxRecDepth 100000
set_option maxHeartbeats 4000000
/-! Fz: a text told several times. -/
namespace Fw
open PySem PySem.Spec PyProof.Rows L2
def repS (z : Str) (k : Nat) : Str := ⟨(List.replicate k z.cps).foldl (· ++ ·) #[]⟩
def rMulS : R2 := fun x y H Q => ∃ z k, x = .str z ∧ y = .int k ∧ 2 ≤ k ∧ k ≤ 1000 ∧ 1 ≤ z.length ∧ z.length ≤ 1000 ∧ (repS z k.toNat).length ≤ sizeLine ∧ Q (.str (repS z k.toNat)) H
theorem op_mulS {X : Cx} : OpR X (binaryOp .Mult) rMulS := by
  intro pins s σ H x y v u Q I rx ry h
  obtain ⟨z, k, rfl, rfl, h1, h2, h3, h4, h5, q⟩ := h
  obtain ⟨t, rfl⟩ := rx
  obtain ⟨t', rfl⟩ := ry
  have c1 : ¬ k < 1 := by omega
  have c2 : ¬ ((k == 1 || z.length == 0) = true) := by
    rw [Bool.or_eq_true, beq_iff_eq, beq_iff_eq]; omega
  have big : 1000000 ≤ sizeLine := Nat.le_trans (by decide) sizeLine_big
  have pr : z.length * k.toNat ≤ 1000 * 1000 := Nat.mul_le_mul h4 (by omega)
  refine P.mul_str (by rw [decide_eq_false (by omega), decide_eq_false (by omega)]; rfl) (fun _ _ => ?_) (fun _ _ => ?_) ?_
  · have ek : k = ((k.toNat : Nat) : Int) := by omega
    have e : (z.length : Int) * k = ((z.length * k.toNat : Nat) : Int) := by rw [Int.natCast_mul, ← ek]
    have : (z.length : Int) ≤ (2 ^ 63 - 1) / k := Int.le_ediv_of_mul_le (by omega) (by rw [e]; omega)
    omega
  · exact decide_eq_false (by omega)
  · rw [if_neg c1, if_neg c2]
    exact ⟨h5, ⟨.str (repS z k.toNat), H, I.tok _, ⟨_, rfl⟩, q⟩⟩
def opMulS (d e : D) (g : Gr) : R := match d, e with
  | .str z, .int k => if 2 ≤ k ∧ k ≤ 1000 ∧ 1 ≤ z.length ∧ z.length ≤ 1000 ∧ (repS z k.toNat).length ≤ sizeLine then .ok (.str (repS z k.toNat)) g else .no
  | _, _ => .no
theorem s_mulS {X : Cx} : OpS X rMulS opMulS := by
  intro w g H x y d e Q E S0 rx ry o
  unfold opMulS at o
  split at o
  · split at o
    · rename_i h
      exact ⟨_, _, rep_str rx, rep_int ry, h.1, h.2.1, h.2.2.1, h.2.2.2.1, h.2.2.2.2, Out.here o S0 rep_str'⟩
    · exact o.elim
  · exact o.elim
theorem v_addCS {g : Gr} {ds es : List D} (h : ds.length + es.length ≤ 8388608) : opAddC (.obj g.length) (.lst es) (g ++ [Cl.lst ds]) = .ok (.obj (g ++ [Cl.lst ds]).length) ((g ++ [Cl.lst ds]) ++ [Cl.lst (ds ++ es)]) := v_addCO (l := g.length) (by simp) h
end Fw

set_option maxRecDepth 100000
set_option maxHeartbeats 4000000
/-! Fz: str of a truth. -/
namespace Fw
open PySem PySem.Spec PyProof.Rows L2
def fStrB : Fn := fun ds g => match ds with
  | [.bl b] => .ok (.str (tx (if b then [84, 114, 117, 101] else [70, 97, 108, 115, 101]))) g
  | ds => fStr ds g
def rStrB : List V → Hp → VK → Prop := fun xs H Q => rStrA xs H Q ∨ ∃ b, xs = [.bl b] ∧ Q (.str (tx (if b then [84, 114, 117, 101] else [70, 97, 108, 115, 101]))) H
theorem call_strB {X : Cx} : CallR X (.type "str") rStrB := by
  intro pins s σ H xs us Q I r h
  rcases h with h | ⟨b, rfl, q⟩
  · exact call_strA pins s σ H xs us Q I r h
  · cases r with
    | cons r1 rr =>
      cases rr
      obtain rfl := show _ = Value.bool b from r1
      refine P.str_of_bool ⟨.str _, H, I.tok _, ⟨_, rfl⟩, ?_⟩
      cases b <;> exact q
theorem c_strB {K : PySem.W.Frag} : CaS K rStrB fStrB := by
  intro w g H vs ds Q E S0 r o
  unfold fStrB at o
  split at o
  · rename_i b
    obtain ⟨v, rfl, h1⟩ := repl1 r
    simp only [Rep] at h1
    subst h1
    exact .inr ⟨b, rfl, Out.here o S0 rep_str'⟩
  · exact .inl (c_str w g H vs _ Q E S0 r o)
theorem glue_c (c : Nat) : ∀ (l : List Str) (acc : Array Nat), (l.foldl (fun acc p => acc ++ (tx [c]).cps ++ p.cps) acc).toList = acc.toList ++ (l.map fun z => c :: z.cps.toList).flatten
  | [], acc => by simp
  | z :: l, acc => by rw [List.foldl_cons, glue_c c l]; simp [tx]
theorem joinL_flat (c : Nat) : ∀ (l : List (List Nat)) (p : List Nat), joinL c (p :: l) = p ++ (l.map fun q => c :: q).flatten
  | [], p => by simp [joinL]
  | q :: l, p => by rw [joinL, joinL_flat c l q]; simp
theorem join_c (c : Nat) (ls : List (List Nat)) : Txt.join (tx [c]) (ls.map tx) = tx (joinL c ls) := by
  cases ls with
  | nil => simp [Txt.join, Builtin.Str.glued, tx, Str.empty, joinL]
  | cons p l =>
    have h := glue_c c (l.map tx) (tx p).cps
    show (⟨((l.map tx).foldl (fun acc p => acc ++ (tx [c]).cps ++ p.cps) (tx p).cps)⟩ : Str) = _
    have e : ((l.map tx).foldl (fun acc p => acc ++ (tx [c]).cps ++ p.cps) (tx p).cps) = (joinL c (p :: l)).toArray := by
      apply Array.toList_inj.mp
      rw [h, joinL_flat, List.map_map]
      have : ((fun z : Str => c :: z.cps.toList) ∘ tx) = fun q => c :: q := by funext q; show c :: (tx q).cps.toList = _; rw [tx_cps]
      rw [this, tx_cps]
    rw [e]; rfl
section
variable {g : Gr} {b : Bool} {i : Int} {z : Str}
theorem v_strBB : fStrB [.bl b] g = .ok (.str (tx (if b then [84, 114, 117, 101] else [70, 97, 108, 115, 101]))) g := rfl
theorem v_strBN (h : 0 ≤ i ∧ i < 1000000000000000000) : fStrB [.int i] g = .ok (.str (tx (nm i.toNat))) g := v_strN h
theorem v_strBS : fStrB [.str z] g = .ok (.str z) g := rfl
theorem v_joinC {c : Nat} {ls : List (List Nat)} (h : (ls.map List.length).sum + ls.length ≤ 8388608) : mJoin (.str (tx [c])) [.lst (ls.map fun p => .str (tx p))] g = .ok (.str (tx (joinL c ls))) g := by
  have e1 : ((ls.map tx).map (·.length)).sum = (ls.map List.length).sum := by
    rw [List.map_map]
    exact congrArg List.sum (List.map_congr_left fun p _ => tx_len p)
  have e2 : (tx [c]).length = 1 := tx_len [c]
  unfold mJoin
  simp only [viewA, viewT, viewL, strs_tx]
  rw [if_pos (by rw [e1, e2, List.length_map, Nat.mul_one]; omega)]
  rw [join_c]
end
end Fw

set_option maxRecDepth 100000
set_option maxHeartbeats 4000000
/-! Fz: objects reckoned by frames. -/
namespace Fw
open PySem PySem.Spec PyProof.Rows
noncomputable def fldD (cs : List Str) (f : Str) (d : D) (g1 : Gr) : R := match viewI cs g1 d with
  | some (_, _, fs) => (match fs.lookup f with
    | some e => .ok e g1
    | none => .no)
  | none => .no
noncomputable def fFld (cs : List Str) (f : Str) : R → R
  | .ok d g => fldD cs f d g
  | .err c g => .err c g
  | .no => .no
noncomputable def setD (cs : List Str) (f : Str) (e d : D) (ρ : En) (g2 : Gr) : S := match viewI cs g2 d with
  | some (l, c, fs) => if fs.length < 1000 then .nx ρ (g2.set l (.ins c (putD f e fs))) else .no
  | none => .no
noncomputable def fSet2 (cs : List Str) (f : Str) (e : D) (ρ : En) : R → S
  | .ok d g => setD cs f e d ρ g
  | .err c g => .err c ρ g
  | .no => .no
noncomputable def fSet1 (cs : List Str) (f : Str) (mo : Exp) (ρ : En) : R → S
  | .ok e g => fSet2 cs f e ρ (mo ρ g)
  | .err c g => .err c ρ g
  | .no => .no
noncomputable def fArgD (m : Fn) (d : D) : RL → R
  | .ok ds g => m (d :: ds) g
  | .err c g => .err c g
  | .no => .no
noncomputable def methD (cs : List Str) (mn : Str) (m : Fn) (ms : Exps) (ρ : En) (d : D) (g1 : Gr) : R := match viewI cs g1 d with
  | some (_, _, fs) => if fs.lookup mn = none then fArgD m d (ms ρ g1) else .no
  | none => .no
noncomputable def fMeth (cs : List Str) (mn : Str) (m : Fn) (ms : Exps) (ρ : En) : R → R
  | .ok d g => methD cs mn m ms ρ d g
  | .err c g => .err c g
  | .no => .no
noncomputable def madeR (l : Nat) : R → R
  | .ok .non g2 => .ok (.obj l) g2
  | .err c g2 => .err c g2
  | _ => .no
noncomputable def fMake (c : Str) (m : Fn) : RL → R
  | .ok ds g1 => madeR g1.length (m (.obj g1.length :: ds) (g1 ++ [.ins c []]))
  | .err c g => .err c g
  | .no => .no
section
variable {cs : List Str} {f mn c x : Str} {a b : Exp} {as : Exps} {m : Fn} {ρ : En} {g rest : Gr} {d e : D} {ds : List D} {fs : List (Str × D)} {l k n : Nat} {s : Stm}
theorem v_fld : eFld cs f a ρ g = fFld cs f (a ρ g) := by unfold eFld fFld fldD; cases a ρ g <;> rfl
theorem w_fld : fFld cs f (.ok d g) = fldD cs f d g := rfl
theorem v_sfld : sFldM cs f a b ρ g = fSet1 cs f a ρ (b ρ g) := by
  unfold sFldM fSet1
  cases b ρ g with
  | ok e g1 =>
    show (a ρ g1).toS ρ _ = fSet2 cs f e ρ (a ρ g1)
    unfold fSet2 setD
    cases a ρ g1 <;> rfl
  | err c g1 => rfl
  | no => rfl
theorem w_sfld1 : fSet1 cs f a ρ (.ok e g) = fSet2 cs f e ρ (a ρ g) := rfl
theorem w_sfld2 : fSet2 cs f e ρ (.ok d g) = setD cs f e d ρ g := rfl
theorem v_meth : eMeth cs mn m a as ρ g = fMeth cs mn m as ρ (a ρ g) := by
  unfold eMeth fMeth methD
  cases a ρ g with
  | ok d g1 =>
    have e : (as ρ g1).bind (fun ds g2 => m (d :: ds) g2) = fArgD m d (as ρ g1) := by unfold fArgD; cases as ρ g1 <;> rfl
    show (match viewI cs g1 d with | some (_, _, fs) => (if fs.lookup mn = none then (as ρ g1).bind (fun ds g2 => m (d :: ds) g2) else .no) | none => .no) = (match viewI cs g1 d with | some (_, _, fs) => (if fs.lookup mn = none then fArgD m d (as ρ g1) else .no) | none => .no)
    rw [e]
  | err c g1 => rfl
  | no => rfl
theorem w_meth : fMeth cs mn m as ρ (.ok d g) = methD cs mn m as ρ d g := rfl
theorem w_argD : fArgD m d (.ok ds g) = m (d :: ds) g := rfl
theorem v_make : eMake c m as ρ g = fMake c m (as ρ g) := by
  unfold eMake fMake madeR; cases as ρ g <;> rfl
theorem w_make : fMake c m (.ok ds g) = madeR g.length (m (.obj g.length :: ds) (g ++ [.ins c []])) := rfl
theorem w_madeN : madeR l (.ok .non g) = .ok (.obj l) g := rfl
theorem w_madeE : madeR l (.err x g) = .err x g := rfl
theorem e_doE : fDo ρ (.err x g) = .err x ρ g := rfl
theorem viewI_at (hc : c ∈ cs) : viewI cs (g ++ (.ins c fs :: rest)) (.obj g.length) = some (g.length, c, fs) := by
  have e : (g ++ (.ins c fs :: rest))[g.length]? = some (Cl.ins c fs) := by simp
  unfold viewI
  simp [e, hc]
theorem w_setAt (hc : c ∈ cs) (hl : fs.length < 1000) : setD cs f e (.obj g.length) ρ (g ++ (.ins c fs :: rest)) = .nx ρ (g ++ (.ins c (putD f e fs) :: rest)) := by
  unfold setD
  rw [viewI_at hc]
  show (if fs.length < 1000 then _ else _) = _
  rw [if_pos hl, List.set_append_right _ _ (Nat.le_refl _)]
  simp
theorem fld_at (hc : c ∈ cs) (hf : fs.lookup f = some e) : fldD cs f (.obj g.length) (g ++ (.ins c fs :: rest)) = .ok e (g ++ (.ins c fs :: rest)) := by
  unfold fldD
  rw [viewI_at hc]
  show (match fs.lookup f with | some e => R.ok e _ | none => .no) = _
  rw [hf]
theorem meth_at (hc : c ∈ cs) (hf : fs.lookup mn = none) : methD cs mn m as ρ (.obj g.length) (g ++ (.ins c fs :: rest)) = fArgD m (.obj g.length) (as ρ (g ++ (.ins c fs :: rest))) := by
  unfold methD
  rw [viewI_at hc]
  exact if_pos hf
/-- a def that may change cells -/
theorem fn_ret (hl : ds.length = n) {g' : Gr} (h : s (ds.map some ++ List.replicate (k - n) none) g = .ret d g') : fnOf n k s ds g = .ok d g' := by
  unfold fnOf; rw [if_pos hl, h]
theorem fn_nx (hl : ds.length = n) {g' : Gr} (h : ∃ ρ', s (ds.map some ++ List.replicate (k - n) none) g = .nx ρ' g') : fnOf n k s ds g = .ok .non g' := by
  obtain ⟨ρ', h⟩ := h
  unfold fnOf; rw [if_pos hl, h]
theorem fn_err (hl : ds.length = n) {g' : Gr} (h : ∃ ρ', s (ds.map some ++ List.replicate (k - n) none) g = .err x ρ' g') : fnOf n k s ds g = .err x g' := by
  obtain ⟨ρ', h⟩ := h
  unfold fnOf; rw [if_pos hl, h]
theorem len_at (h : g[l]? = some (.lst ds)) : fLen [.obj l] g = .ok (.int (ds.length : Int)) g := by
  have e : viewL g (.obj l) = some ds := by show (match g[l]? with | some (.lst ds) => some ds | _ => none) = _; rw [h]
  simp [fLen, viewA, viewT, e]
theorem ix_at (h : g[l]? = some (.lst ds)) (hk : ds[k]? = some d) : opIx (.obj l) (.int (k : Int)) g = .ok d g := by
  unfold opIx
  simp only [viewA, viewT, viewL, h, atI_nat hk]
end
end Fw

set_option maxRecDepth 100000
set_option maxHeartbeats 0
/-! law_k16_no_disks: its defs over the Fw layer (printed by gen.py). -/
namespace Ww
open PySem PySem.Spec PyProof.Rows L2 Fw
def top (i : Nat) : Stmt := PySem.Challenge.pw_cleanrows_k16_no_disks.main.body.getD i (.Pass ⟨0, 0, 0, 0⟩)
def clsB : Stmt → List Stmt
  | .ClassDef _ _ _ b _ _ _ _ _ _ _ => b
  | _ => []
def inCls (s : Stmt) (j : Nat) : Stmt := (clsB s).getD j (.Pass ⟨0, 0, 0, 0⟩)
def exL : List Str := ["NoDisk", "Stopped", "Full"]
def exC : List Str := ["CleanError"]
def exI : List Str := ["NoRow", "NoDisk", "Full", "Stopped", "NoFile", "NoPlace", "HeldAlready", "NotHeld", "NoFiles", "NoMark", "NoRoom", "Gone", "NotClosed", "NotBlank", "NoDeed", "NoHouse", "ValueError"]
/-! ### _law_at -/
abbrev s__law_at : Stmt := top 27
theorem sc__law_at : FnScope ["_law_script", "_law_k"] ["_law_script", "_law_k"] (defScope s__law_at) := ⟨rfl, rfl, rfl, by decide +kernel, rfl, by decide +kernel, by decide +kernel⟩
def d__law_at : He.DefD := ⟨("_law_at", none), "_law_at", "_law_at", defArgs s__law_at, defBody s__law_at, defScope s__law_at, [], []⟩
noncomputable def b__law_at : Stm := (sSeq (sIf (eBin opLt (eVar 1) (eArgs fLen (aCons (eVar 0) aNil))) (sRet (eBin opIx (eVar 0) (eVar 1))) sNil) (sRet (eC (.int 0))))
noncomputable def m__law_at : Fn := pureF (fnOf 2 2 (b__law_at))
/-! ### _law_mixed -/
abbrev s__law_mixed : Stmt := top 28
theorem sc__law_mixed : FnScope ["_law_number", "_law_k"] ["_law_number", "_law_k"] (defScope s__law_mixed) := ⟨rfl, rfl, rfl, by decide +kernel, rfl, by decide +kernel, by decide +kernel⟩
def d__law_mixed : He.DefD := ⟨("_law_mixed", none), "_law_mixed", "_law_mixed", defArgs s__law_mixed, defBody s__law_mixed, defScope s__law_mixed, [], []⟩
noncomputable def b__law_mixed : Stm := (sSeq (sAsg (gVar 0) (eBin opMod (eBin opAdd (eBin opMod (eVar 0) (eC (.int 2147483629))) (eBin opMul (eC (.int 48271)) (eBin opAdd (eVar 1) (eC (.int 1))))) (eC (.int 2147483629)))) (sRet (eBin opAdd (eC (.int 1)) (eBin opMod (eBin opAdd (eBin opAdd (eBin opMul (eVar 0) (eVar 0)) (eBin opMul (eC (.int 39373)) (eVar 0))) (eBin opMul (eC (.int 7)) (eVar 1))) (eC (.int 2147483629))))))
noncomputable def m__law_mixed : Fn := pureF (fnOf 2 2 (b__law_mixed))
/-! ### _law_row -/
abbrev s__law_row : Stmt := top 29
theorem sc__law_row : FnScope ["_law_script", "_law_k", "_law_many", "_law_base", "_law_left", "_law_found", "_law_turn"] ["_law_script", "_law_k", "_law_many", "_law_base"] (defScope s__law_row) := ⟨rfl, rfl, rfl, by decide +kernel, rfl, by decide +kernel, by decide +kernel⟩
def d__law_row : He.DefD := ⟨("_law_row", none), "_law_row", "_law_row", defArgs s__law_row, defBody s__law_row, defScope s__law_row, [], []⟩
noncomputable def b__law_row : Stm := (sSeq (sAsg (gVar 4) (eBin opSub (eArgs m__law_at (aCons (eVar 0) (aCons (eVar 1) aNil))) (eBin opPow (eC (.int 10)) (eC (.int 18))))) (sSeq (sAsg (gVar 5) (eArgs fCel aNil)) (sSeq (sFor (srcA (aCons (eVar 2) aNil) iR1) (gVar 6) (sSeq (sIf (eBin opLt (eVar 4) (eC (.int 1))) (sAsg (gVar 4) (eArgs m__law_mixed (aCons (eBin opAdd (eArgs m__law_at (aCons (eVar 0) (aCons (eVar 1) aNil))) (eBin opMul (eC (.int 97)) (eArgs m__law_at (aCons (eVar 0) (aCons (eBin opAdd (eVar 1) (eBin opMod (eVar 6) (eC (.int 40)))) aNil))))) (aCons (eBin opAdd (eBin opMul (eC (.int 31)) (eVar 1)) (eVar 6)) aNil)))) sNil) (sSeq (sDo (eBm tyL mAppend (eVar 5) (aCons (eBin opMod (eVar 4) (eVar 3)) aNil))) (sAsg (gVar 4) (eBin opDiv (eVar 4) (eVar 3)))))) (sRet (eFrz (eVar 5))))))
noncomputable def m__law_row : Fn := pureF (fnOf 4 7 (b__law_row))
/-! ### _law_size -/
abbrev s__law_size : Stmt := top 30
theorem sc__law_size : FnScope ["_law_digit", "_law_fewest", "_law_most", "_law_far", "_law_some", "_law_thing"] ["_law_digit", "_law_fewest", "_law_most"] (defScope s__law_size) := ⟨rfl, rfl, rfl, by decide +kernel, rfl, by decide +kernel, by decide +kernel⟩
def d__law_size : He.DefD := ⟨("_law_size", none), "_law_size", "_law_size", defArgs s__law_size, defBody s__law_size, defScope s__law_size, [], []⟩
noncomputable def b__law_size : Stm := (sSeq (sAsg (gVar 3) (eBin opDiv (eVar 0) (eC (.int 24)))) (sSeq (sAsg (gVar 4) (eArgs fLst (aCons (eC (.int 0)) (aCons (eC (.int 1)) (aCons (eBin opSub (eVar 1) (eC (.int 1))) (aCons (eBin opAdd (eVar 2) (eC (.int 1))) (aCons (eUn uNeg (eVar 1)) (aCons (eBin opAdd (eBin opAdd (eVar 2) (eC (.int 1))) (eBin opMul (eVar 3) (eBin opPow (eC (.int 10)) (eC (.int 12))))) (aCons (eBin opSub (eUn uNeg (eC (.int 1))) (eVar 3)) (aCons (eC (.bl true)) (aCons (eC (.bl false)) (aCons (eC .non) aNil)))))))))))) (sSeq (sAsg (gVar 4) (eBin opAdd (eVar 4) (eArgs fLst (aCons (eC (.str (tx [51]))) (aCons (eArgs fStr (aCons (eVar 1) aNil)) (aCons (eArgs fLst (aCons (eVar 1) aNil)) (aCons (eArgs fTup aNil) (aCons (eDic) (aCons (eArgs fLst aNil) (aCons (eArgs fTup (aCons (eVar 1) (aCons (eVar 2) aNil))) aNil)))))))))) (sSeq (sIf (eBin opLt (eBin opMod (eVar 0) (eC (.int 24))) (eArgs fLen (aCons (eVar 4) aNil))) (sSeq (sAsg (gVar 5) (eBin opIx (eVar 4) (eBin opMod (eVar 0) (eC (.int 24))))) (sRet (eArgs fTup (aCons (eVar 5) (aCons ((eAnd (eUn (opIsT "int") (eVar 5)) (eAnd (eNot (eUn (opIsT "bool") (eVar 5))) (eChain opLe opLe (eVar 1) (eVar 5) (eVar 2))))) aNil))))) sNil) (sRet (eArgs fTup (aCons (eBin opAdd (eVar 1) (eBin opMod (eVar 3) (eBin opAdd (eBin opSub (eVar 2) (eVar 1)) (eC (.int 1))))) (aCons (eC (.bl true)) aNil))))))))
noncomputable def m__law_size : Fn := fnOf 3 6 (b__law_size)
/-! ### is_size -/
abbrev s_is_size : Stmt := top 24
theorem sc_is_size : FnScope ["thing", "fewest", "most"] ["thing", "fewest", "most"] (defScope s_is_size) := ⟨rfl, rfl, rfl, by decide +kernel, rfl, by decide +kernel, by decide +kernel⟩
def d_is_size : He.DefD := ⟨("is_size", none), "is_size", "is_size", defArgs s_is_size, defBody s_is_size, defScope s_is_size, [], []⟩
noncomputable def b_is_size : Stm := (sRet ((eAnd (eUn (opIsT "int") (eVar 0)) (eAnd (eNot (eUn (opIsT "bool") (eVar 0))) (eChain opLe opLe (eVar 1) (eVar 0) (eVar 2))))))
noncomputable def m_is_size : Fn := pureF (fnOf 3 3 (b_is_size))
/-! ### Disk.__init__ -/
abbrev s_Disk___init__ : Stmt := inCls (top 25) 0
theorem sc_Disk___init__ : FnScope ["self", "stretches", "places", "k"] ["self", "stretches", "places"] (defScope s_Disk___init__) := ⟨rfl, rfl, rfl, by decide +kernel, rfl, by decide +kernel, by decide +kernel⟩
def d_Disk___init__ : He.DefD := ⟨("Disk", some "__init__"), "__init__", "Disk.__init__", defArgs s_Disk___init__, defBody s_Disk___init__, defScope s_Disk___init__, [], []⟩
noncomputable def b_Disk___init__ : Stm := (sSeq (sIf (eNot (eArgs m_is_size (aCons (eVar 1) (aCons (eC (.int 3)) (aCons (eC (.int 16)) aNil))))) (sRaise "NoDisk") sNil) (sSeq (sIf (eNot (eArgs m_is_size (aCons (eVar 2) (aCons (eC (.int 2)) (aCons (eC (.int 32)) aNil))))) (sRaise "NoDisk") sNil) (sSeq (sFldM ["Disk"] "wide" (eVar 0) (eVar 2)) (sSeq (sFldM ["Disk"] "taken" (eVar 0) (eLc finC (srcA (aCons (eVar 1) aNil) iR1) [3] (gVar 3) eYes (eArgs fCel aNil))) (sSeq (sFldM ["Disk"] "marks" (eVar 0) (eArgs fCel (aCons (eC .non) (aCons (eC .non) aNil)))) (sSeq (sFldM ["Disk"] "counted" (eVar 0) (eC (.int 0))) (sSeq (sFldM ["Disk"] "left" (eVar 0) (eC .non)) (sFldM ["Disk"] "has_stopped" (eVar 0) (eC (.bl false))))))))))
noncomputable def m_Disk___init__ : Fn := fnOf 3 4 (b_Disk___init__)
/-! ### _law_kinds -/
abbrev s__law_kinds : Stmt := top 31
theorem sc__law_kinds : FnScope ["_law_e", "_law_found", "_law_words", "_law_word", "_law_told"] ["_law_e"] (defScope s__law_kinds) := ⟨rfl, rfl, rfl, by decide +kernel, rfl, by decide +kernel, by decide +kernel⟩
def d__law_kinds : He.DefD := ⟨("_law_kinds", none), "_law_kinds", "_law_kinds", defArgs s__law_kinds, defBody s__law_kinds, defScope s__law_kinds, [], []⟩
noncomputable def b__law_kindsH (ac : Nat × Str) : Stm := (sSeq (sAsg (gVar 1) (eArgs fCel (aCons (eUn (opIsE exL exI ac "NoRow") (eVar 0)) (aCons (eUn (opIsE exL exI ac "NoDisk") (eVar 0)) (aCons (eUn (opIsE exL exI ac "Full") (eVar 0)) (aCons (eUn (opIsE exL exI ac "Stopped") (eVar 0)) aNil)))))) (sSeq (sAsg (gVar 1) (eBin opAddC (eVar 1) (eArgs fLst (aCons (eUn (opIsE exL exI ac "NoFile") (eVar 0)) (aCons (eUn (opIsE exL exI ac "NoPlace") (eVar 0)) (aCons (eUn (opIsE exL exI ac "HeldAlready") (eVar 0)) (aCons (eUn (opIsE exL exI ac "NotHeld") (eVar 0)) aNil))))))) (sSeq (sAsg (gVar 1) (eBin opAddC (eVar 1) (eArgs fLst (aCons (eUn (opIsE exL exI ac "NoFiles") (eVar 0)) (aCons (eUn (opIsE exL exI ac "NoMark") (eVar 0)) (aCons (eUn (opIsE exL exI ac "NoRoom") (eVar 0)) (aCons (eUn (opIsE exL exI ac "Gone") (eVar 0)) aNil))))))) (sSeq (sAsg (gVar 1) (eBin opAddC (eVar 1) (eArgs fLst (aCons (eUn (opIsE exL exI ac "NotClosed") (eVar 0)) (aCons (eUn (opIsE exL exI ac "NotBlank") (eVar 0)) (aCons (eUn (opIsE exL exI ac "NoDeed") (eVar 0)) (aCons (eUn (opIsE exL exI ac "NoHouse") (eVar 0)) aNil))))))) (sSeq (sDo (eBm tyL mAppend (eVar 1) (aCons (eNot (eUn (opIsE exL exI ac "ValueError") (eVar 0))) aNil))) (sSeq (sAsg (gVar 2) (eArgs fLst (aCons (eC (.str (tx [114, 111, 119]))) (aCons (eC (.str (tx [100, 105, 115, 107]))) (aCons (eC (.str (tx [102, 117, 108, 108]))) (aCons (eC (.str (tx [115, 116, 111, 112, 112, 101, 100]))) (aCons (eC (.str (tx [102, 105, 108, 101]))) (aCons (eC (.str (tx [112, 108, 97, 99, 101]))) (aCons (eC (.str (tx [104, 101, 108, 100]))) (aCons (eC (.str (tx [110, 111, 116, 32, 104, 101, 108, 100]))) (aCons (eC (.str (tx [102, 105, 108, 101, 115]))) (aCons (eC (.str (tx [109, 97, 114, 107]))) (aCons (eC (.str (tx [114, 111, 111, 109]))) (aCons (eC (.str (tx [103, 111, 110, 101]))) aNil)))))))))))))) (sSeq (sAsg (gVar 2) (eBin opAdd (eVar 2) (eArgs fLst (aCons (eC (.str (tx [99, 108, 111, 115, 101, 100]))) (aCons (eC (.str (tx [98, 108, 97, 110, 107]))) (aCons (eC (.str (tx [100, 101, 101, 100]))) (aCons (eC (.str (tx [104, 111, 117, 115, 101]))) (aCons (eC (.str (tx [111, 116, 104, 101, 114]))) aNil)))))))) (sRet (eLc finF (srcA (aCons (eVar 2) (aCons (eFrz (eVar 1)) aNil)) iZp) [3, 4] (gUnp 2 (gsCons (gVar 3) (gsCons (gVar 4) gsNil))) (eVar 4) (eVar 3))))))))))
noncomputable def m__law_kindsH (ac : Nat × Str) : Fn := pureF (fnOf 1 5 (b__law_kindsH ac))
/-! ### _law_begun -/
abbrev s__law_begun : Stmt := top 32
theorem sc__law_begun : FnScope ["_law_stretches", "_law_places", "_law_told", "_law_e"] ["_law_stretches", "_law_places"] (defScope s__law_begun) := ⟨rfl, rfl, rfl, by decide +kernel, rfl, by decide +kernel, by decide +kernel⟩
def d__law_begun : He.DefD := ⟨("_law_begun", none), "_law_begun", "_law_begun", defArgs s__law_begun, defBody s__law_begun, defScope s__law_begun, [], []⟩
noncomputable def b__law_begun : Stm := (sSeq (sAsg (gVar 2) (eArgs fLst aNil)) (sSeq (sTryAs exL exC "CleanError" 3 (sDo (eMake "Disk" m_Disk___init__ (aCons (eVar 0) (aCons (eVar 1) aNil)))) (fun ac0_0 => (sAsg (gVar 2) (eArgs (m__law_kindsH ac0_0) (aCons (eVar 3) aNil))))) (sRet (eVar 2))))
noncomputable def m__law_begun : Fn := pureF (fnOf 2 4 (b__law_begun))
/-! ### Disk.signs -/
abbrev s_Disk_signs : Stmt := inCls (top 25) 6
theorem sc_Disk_signs : FnScope ["self"] ["self"] (defScope s_Disk_signs) := ⟨rfl, rfl, rfl, by decide +kernel, rfl, by decide +kernel, by decide +kernel⟩
def d_Disk_signs : He.DefD := ⟨("Disk", some "signs"), "signs", "Disk.signs", defArgs s_Disk_signs, defBody s_Disk_signs, defScope s_Disk_signs, [], []⟩
noncomputable def b_Disk_signs : Stm := (sRet (eFld ["Disk"] "counted" (eVar 0)))
noncomputable def m_Disk_signs : Fn := fnOf 1 1 (b_Disk_signs)
/-! ### Disk.places -/
abbrev s_Disk_places : Stmt := inCls (top 25) 2
theorem sc_Disk_places : FnScope ["self"] ["self"] (defScope s_Disk_places) := ⟨rfl, rfl, rfl, by decide +kernel, rfl, by decide +kernel, by decide +kernel⟩
def d_Disk_places : He.DefD := ⟨("Disk", some "places"), "places", "Disk.places", defArgs s_Disk_places, defBody s_Disk_places, defScope s_Disk_places, [], []⟩
noncomputable def b_Disk_places : Stm := (sRet (eFld ["Disk"] "wide" (eVar 0)))
noncomputable def m_Disk_places : Fn := fnOf 1 1 (b_Disk_places)
/-! ### Disk.stretches -/
abbrev s_Disk_stretches : Stmt := inCls (top 25) 1
theorem sc_Disk_stretches : FnScope ["self"] ["self"] (defScope s_Disk_stretches) := ⟨rfl, rfl, rfl, by decide +kernel, rfl, by decide +kernel, by decide +kernel⟩
def d_Disk_stretches : He.DefD := ⟨("Disk", some "stretches"), "stretches", "Disk.stretches", defArgs s_Disk_stretches, defBody s_Disk_stretches, defScope s_Disk_stretches, [], []⟩
noncomputable def b_Disk_stretches : Stm := (sRet (eArgs fLen (aCons (eFld ["Disk"] "taken" (eVar 0)) aNil)))
noncomputable def m_Disk_stretches : Fn := fnOf 1 1 (b_Disk_stretches)
/-! ### Disk.side -/
abbrev s_Disk_side : Stmt := inCls (top 25) 5
theorem sc_Disk_side : FnScope ["self", "k"] ["self", "k"] (defScope s_Disk_side) := ⟨rfl, rfl, rfl, by decide +kernel, rfl, by decide +kernel, by decide +kernel⟩
def d_Disk_side : He.DefD := ⟨("Disk", some "side"), "side", "Disk.side", defArgs s_Disk_side, defBody s_Disk_side, defScope s_Disk_side, [], []⟩
noncomputable def b_Disk_side : Stm := (sRet (eBin opIx (eFld ["Disk"] "marks" (eVar 0)) (eVar 1)))
noncomputable def m_Disk_side : Fn := fnOf 2 2 (b_Disk_side)
/-! ### Disk.told -/
abbrev s_Disk_told : Stmt := inCls (top 25) 4
theorem sc_Disk_told : FnScope ["self", "stretch", "place"] ["self", "stretch", "place"] (defScope s_Disk_told) := ⟨rfl, rfl, rfl, by decide +kernel, rfl, by decide +kernel, by decide +kernel⟩
def d_Disk_told : He.DefD := ⟨("Disk", some "told"), "told", "Disk.told", defArgs s_Disk_told, defBody s_Disk_told, defScope s_Disk_told, [], []⟩
noncomputable def b_Disk_told : Stm := (sSeq (sIf (eBin opLt (eVar 2) (eArgs fLen (aCons (eBin opIx (eFld ["Disk"] "taken" (eVar 0)) (eVar 1)) aNil))) (sRet (eBin opIx (eBin opIx (eFld ["Disk"] "taken" (eVar 0)) (eVar 1)) (eVar 2))) sNil) (sRet (eC .non)))
noncomputable def m_Disk_told : Fn := fnOf 3 3 (b_Disk_told)
/-! ### _law_blank -/
abbrev s__law_blank : Stmt := top 33
theorem sc__law_blank : FnScope ["_law_disk", "_law_stretches", "_law_places", "_law_told", "_law_stretch"] ["_law_disk", "_law_stretches", "_law_places"] (defScope s__law_blank) := ⟨rfl, rfl, rfl, by decide +kernel, rfl, by decide +kernel, by decide +kernel⟩
def d__law_blank : He.DefD := ⟨("_law_blank", none), "_law_blank", "_law_blank", defArgs s__law_blank, defBody s__law_blank, defScope s__law_blank, [], []⟩
noncomputable def b__law_blank : Stm := (sSeq (sIf (eBin opNe (eArgs fLst (aCons (eMeth ["Disk"] "stretches" m_Disk_stretches (eVar 0) aNil) (aCons (eMeth ["Disk"] "places" m_Disk_places (eVar 0) aNil) (aCons (eMeth ["Disk"] "signs" m_Disk_signs (eVar 0) aNil) aNil)))) (eArgs fLst (aCons (eVar 1) (aCons (eVar 2) (aCons (eC (.int 0)) aNil))))) (sRet (eC (.bl false))) sNil) (sSeq (sAsg (gVar 3) (eArgs fLst (aCons (eMeth ["Disk"] "side" m_Disk_side (eVar 0) (aCons (eC (.int 0)) aNil)) (aCons (eMeth ["Disk"] "side" m_Disk_side (eVar 0) (aCons (eC (.int 1)) aNil)) aNil)))) (sSeq (sFor (srcA (aCons (eVar 1) aNil) iR1) (gVar 4) (sAsg (gVar 3) (eBin opAdd (eVar 3) (eArgs fLst (aCons (eMeth ["Disk"] "told" m_Disk_told (eVar 0) (aCons (eVar 4) (aCons (eC (.int 0)) aNil))) (aCons (eMeth ["Disk"] "told" m_Disk_told (eVar 0) (aCons (eVar 4) (aCons (eBin opSub (eVar 2) (eC (.int 1))) aNil))) aNil)))))) (sRet (eBin opEq (eVar 3) (eBin opMul (eArgs fLst (aCons (eC .non) aNil)) (eBin opAdd (eBin opMul (eC (.int 2)) (eVar 1)) (eC (.int 2)))))))))
noncomputable def m__law_blank : Fn := pureF (fnOf 3 5 (b__law_blank))
/-! ### law -/
abbrev s_law : Stmt := top 34
theorem sc_law : FnScope ["_law_script", "_law_k", "_law_first", "_law_second", "_law_stretches", "_law_is_right", "_law_places", "_law_is_so", "_law_due", "_law_before"] ["_law_script"] (defScope s_law) := ⟨rfl, rfl, rfl, by decide +kernel, rfl, by decide +kernel, by decide +kernel⟩
def d_law : He.DefD := ⟨("law", none), "law", "law", defArgs s_law, defBody s_law, defScope s_law, [], []⟩
noncomputable def b_law : Stm := (sSeq (sFor (srcA (aCons (eArgs fMax2 (aCons (eC (.int 8)) (aCons (eArgs fMin2 (aCons (eArgs fLen (aCons (eVar 0) aNil)) (aCons (eC (.int 20)) aNil))) aNil))) aNil) iR1) (gVar 1) (sSeq (sAsg (gUnpL 2 (gsCons (gVar 2) (gsCons (gVar 3) gsNil))) (eArgs m__law_row (aCons (eVar 0) (aCons (eVar 1) (aCons (eC (.int 2)) (aCons (eBin opPow (eC (.int 10)) (eC (.int 6))) aNil)))))) (sSeq (sAsg (gUnp 2 (gsCons (gVar 4) (gsCons (gVar 5) gsNil))) (eArgs m__law_size (aCons (eVar 2) (aCons (eC (.int 3)) (aCons (eC (.int 16)) aNil))))) (sSeq (sAsg (gUnp 2 (gsCons (gVar 6) (gsCons (gVar 7) gsNil))) (eArgs m__law_size (aCons (eVar 3) (aCons (eC (.int 2)) (aCons (eC (.int 32)) aNil))))) (sSeq (sAsg (gVar 8) (eBin opIx (eArgs fLst (aCons (eArgs fLst (aCons (eC (.str (tx [100, 105, 115, 107]))) aNil)) (aCons (eArgs fLst aNil) aNil))) (eArgs fInt (aCons ((eAnd (eVar 5) (eVar 7))) aNil)))) (sSeq (sAsg (gVar 9) (eArgs fReprE (aCons (eArgs fLst (aCons (eVar 4) (aCons (eVar 6) aNil))) aNil))) (sSeq (sIf (eOr (eBin opNe (eArgs m__law_begun (aCons (eVar 4) (aCons (eVar 6) aNil))) (eVar 8)) (eBin opNe (eArgs fReprE (aCons (eArgs fLst (aCons (eVar 4) (aCons (eVar 6) aNil))) aNil)) (eVar 9))) (sRet (eC (.bl false))) sNil) (sIf (eAnd (eBin opEq (eVar 8) (eArgs fLst aNil)) (eNot (eArgs m__law_blank (aCons (eMake "Disk" m_Disk___init__ (aCons (eVar 4) (aCons (eVar 6) aNil))) (aCons (eVar 4) (aCons (eVar 6) aNil)))))) (sRet (eC (.bl false))) sNil)))))))) (sRet ((eAnd (eArgs m__law_blank (aCons (eMake "Disk" m_Disk___init__ (aCons (eC (.int 3)) (aCons (eC (.int 2)) aNil))) (aCons (eC (.int 3)) (aCons (eC (.int 2)) aNil)))) (eArgs m__law_blank (aCons (eMake "Disk" m_Disk___init__ (aCons (eC (.int 16)) (aCons (eC (.int 32)) aNil))) (aCons (eC (.int 16)) (aCons (eC (.int 32)) aNil))))))))
noncomputable def m_law : Fn := pureF (fnOf 1 10 (b_law))
/-! ### the head tells -/
def fa : List He.Fa := [.free "len", .free "min", .free "max", .free "range", .glo "_law_at", .glo "_law_mixed", .glo "_law_row", .free "str", .free "isinstance", .free "int", .free "bool", .glo "_law_size", .free "repr", .glo "is_size", .int "MOST_STRETCHES" (16), .int "FEWEST_STRETCHES" (3), .glo "NoDisk", .int "MOST_PLACES" (32), .int "FEWEST_PLACES" (2), .cls "Disk", .noat "Disk" "wide", .noat "Disk" "taken", .noat "Disk" "marks", .noat "Disk" "counted", .noat "Disk" "left", .noat "Disk" "has_stopped", .mkr "Disk", .glo "Disk", .glo "Stopped", .glo "Full", .glo "NoRow", .glo "NotHeld", .glo "HeldAlready", .glo "NoPlace", .glo "NoFile", .glo "Gone", .glo "NoRoom", .glo "NoMark", .glo "NoFiles", .glo "NoHouse", .glo "NoDeed", .glo "NotBlank", .glo "NotClosed", .free "ValueError", .free "zip", .glo "_law_kinds", .glo "CleanError", .glo "_law_begun", .meth "Disk" "signs", .meth "Disk" "places", .meth "Disk" "stretches", .meth "Disk" "side", .meth "Disk" "told", .glo "_law_blank", .glo "law"]
def fn : List He.DefD := [d__law_at, d__law_mixed, d__law_row, d__law_size, d_is_size, d_Disk___init__, d__law_kinds, d__law_begun, d_Disk_signs, d_Disk_places, d_Disk_stretches, d_Disk_side, d_Disk_told, d__law_blank, d_law]
def ts : List He.Tab := []
def ex (K : PySem.W.Frag) : Bool := (fun K => noLst K && excB exL exC exI K) K
abbrev Says (w : World) (h : Heap) (K : PySem.W.Frag) : Prop := He.SaysX fa fn ts [] ex w h K
section
variable {P : Program} {w : World} {K : PySem.W.Frag} {mg : Str → Option Value} {base h : Heap}
theorem eb (c : Says w h K) : excB exL exC exI K = true := by have e := c.more; simp only [ex, Bool.and_eq_true] at e; exact e.2
theorem rb__law_at (c : Says w h K) (KX : K.In h) (G : h.Ns mainGlobals mg) {X : Cx} {W : WX} (C : Cc P w K mg base ⟨["_law_script", "_law_k"], defScope s__law_at, [0, 1], [0, 1], ["len"], true⟩ none 0 X W) : RB X W (defBody s__law_at) (b__law_at) :=
  (rb_cons (rs_if (rt_cmp op_lt s_lt (xVar C 1) (xBlt C 0 call_len c_len (He.free_ok KX G (c.t.d.fact 0 rfl)) (by decide +kernel) (ra_cons (xVar C 0) ra_nil)) (by first | exact nobehind _ (by decide) (by decide) | rfl)) (rb_one (rs_ret (xIx (xVar C 0) (xVar C 1)))) rb_nil) (rb_one (rs_ret (re_int))))
theorem ca__law_at (c : Says w h K) (KX : K.In h) (G : h.Ns mainGlobals mg) : Ca P w K mg base none 1 2 "_law_at" (m__law_at) := by
  obtain ⟨fd, F⟩ := c.t.d.def_ 0 (d := d__law_at) rfl
  exact ⟨⟨_, fd, ["_law_script", "_law_k"], fnm_pure (fnm_of F sc__law_at (vi := [0, 1]) (ow := [0, 1]) (gl := ["len"]) (by kernel_rfl) fun X W C => rb__law_at c KX G C), (He.glo_ok KX G (c.t.d.fact 4 rfl)), F.kp, F.bindsN fun _ _ _ _ _ _ us hl => match us, hl with | [_, _], _ => rfl⟩, pureF_no fnOf_no⟩

theorem rb__law_mixed (c : Says w h K) (KX : K.In h) (G : h.Ns mainGlobals mg) {X : Cx} {W : WX} (C : Cc P w K mg base ⟨["_law_number", "_law_k"], defScope s__law_mixed, [0, 1], [0, 1], [], true⟩ none 0 X W) : RB X W (defBody s__law_mixed) (b__law_mixed) :=
  (rb_cons (sSet C 0 (re_bin op_modN s_mod (re_bin op_addAll s_add (re_bin op_modN s_mod (xVar C 0) (re_int)) (re_bin op_mulA s_mul (re_int) (re_bin op_addAll s_add (xVar C 1) (re_int)))) (re_int))) (rb_one (rs_ret (re_bin op_addAll s_add (re_int) (re_bin op_modN s_mod (re_bin op_addAll s_add (re_bin op_addAll s_add (re_bin op_mulA s_mul (xVar C 0) (xVar C 0)) (re_bin op_mulA s_mul (re_int) (xVar C 0))) (re_bin op_mulA s_mul (re_int) (xVar C 1))) (re_int))))))
theorem ca__law_mixed (c : Says w h K) (KX : K.In h) (G : h.Ns mainGlobals mg) : Ca P w K mg base none 1 2 "_law_mixed" (m__law_mixed) := by
  obtain ⟨fd, F⟩ := c.t.d.def_ 1 (d := d__law_mixed) rfl
  exact ⟨⟨_, fd, ["_law_number", "_law_k"], fnm_pure (fnm_of F sc__law_mixed (vi := [0, 1]) (ow := [0, 1]) (gl := []) (by kernel_rfl) fun X W C => rb__law_mixed c KX G C), (He.glo_ok KX G (c.t.d.fact 5 rfl)), F.kp, F.bindsN fun _ _ _ _ _ _ us hl => match us, hl with | [_, _], _ => rfl⟩, pureF_no fnOf_no⟩

theorem rb__law_row (c : Says w h K) (KX : K.In h) (G : h.Ns mainGlobals mg) {X : Cx} {W : WX} (C : Cc P w K mg base ⟨["_law_script", "_law_k", "_law_many", "_law_base", "_law_left", "_law_found", "_law_turn"], defScope s__law_row, [0, 1, 2, 3, 4, 5, 6], [0, 1, 2, 3, 4, 5, 6], ["_law_at", "range", "_law_mixed"], true⟩ none 1 X W) : RB X W (defBody s__law_row) (b__law_row) :=
  (rb_cons (sSet C 4 (re_bin op_sub s_sub (xCall C 0 (ca__law_at c KX G) (ra_cons (xVar C 0) (ra_cons (xVar C 1) ra_nil))) (re_bin op_pow s_pow (re_int) (re_int)))) (rb_cons (sSet C 5 (re_cel ra_nil)) (rb_cons (sForC C [6] (xSrcR1 C 1 (He.free_ok KX G (c.t.d.fact 3 rfl)) (ra_cons (xVar C 2) ra_nil)) (tVarS C 6) (rb_cons (rs_if (rt_cmp op_lt s_lt (xVar C 4) (re_int) (by first | exact nobehind _ (by decide) (by decide) | rfl)) (rb_one (sSet C 4 (xCall C 2 (ca__law_mixed c KX G) (ra_cons (re_bin op_addAll s_add (xCall C 0 (ca__law_at c KX G) (ra_cons (xVar C 0) (ra_cons (xVar C 1) ra_nil))) (re_bin op_mulA s_mul (re_int) (xCall C 0 (ca__law_at c KX G) (ra_cons (xVar C 0) (ra_cons (re_bin op_addAll s_add (xVar C 1) (re_bin op_modN s_mod (xVar C 6) (re_int))) ra_nil))))) (ra_cons (re_bin op_addAll s_add (re_bin op_mulA s_mul (re_int) (xVar C 1)) (xVar C 6)) ra_nil))))) rb_nil) (rb_cons (rs_do (xBm F.plainAttrs_list F.slot_list_append F.type_list_append mt_app ms_append (xVar C 5) (ra_cons (re_bin op_modN s_mod (xVar C 4) (xVar C 3)) ra_nil))) (rb_one (sSet C 4 (re_bin op_fdivN s_div (xVar C 4) (xVar C 3))))))) (rb_one (rs_ret (re_frz (xVar C 5)))))))
theorem ca__law_row (c : Says w h K) (KX : K.In h) (G : h.Ns mainGlobals mg) : Ca P w K mg base none 2 4 "_law_row" (m__law_row) := by
  obtain ⟨fd, F⟩ := c.t.d.def_ 2 (d := d__law_row) rfl
  exact ⟨⟨_, fd, ["_law_script", "_law_k", "_law_many", "_law_base"], fnm_pure (fnm_of F sc__law_row (vi := [0, 1, 2, 3, 4, 5, 6]) (ow := [0, 1, 2, 3, 4, 5, 6]) (gl := ["_law_at", "range", "_law_mixed"]) (by kernel_rfl) fun X W C => rb__law_row c KX G C), (He.glo_ok KX G (c.t.d.fact 6 rfl)), F.kp, F.bindsN fun _ _ _ _ _ _ us hl => match us, hl with | [_, _, _, _], _ => rfl⟩, pureF_no fnOf_no⟩

theorem rb__law_size (c : Says w h K) (KX : K.In h) (G : h.Ns mainGlobals mg) {X : Cx} {W : WX} (C : Cc P w K mg base ⟨["_law_digit", "_law_fewest", "_law_most", "_law_far", "_law_some", "_law_thing"], defScope s__law_size, [0, 1, 2, 3, 4, 5], [0, 1, 2, 3, 4, 5], ["str", "len", "isinstance", "int", "bool"], true⟩ none 0 X W) : RB X W (defBody s__law_size) (b__law_size) :=
  (rb_cons (sSet C 3 (re_bin op_fdivN s_div (xVar C 0) (re_int))) (rb_cons (sSet C 4 (re_lst (ra_cons (re_int) (ra_cons (re_int) (ra_cons (re_bin op_sub s_sub (xVar C 1) (re_int)) (ra_cons (re_bin op_addAll s_add (xVar C 2) (re_int)) (ra_cons (xNeg (xVar C 1)) (ra_cons (re_bin op_addAll s_add (re_bin op_addAll s_add (xVar C 2) (re_int)) (re_bin op_mulA s_mul (xVar C 3) (re_bin op_pow s_pow (re_int) (re_int)))) (ra_cons (re_bin op_sub s_sub (xNeg (re_int)) (xVar C 3)) (ra_cons (re_bl) (ra_cons (re_bl) (ra_cons (re_non) ra_nil)))))))))))) (rb_cons (sSet C 4 (re_bin op_addAll s_add (xVar C 4) (re_lst (ra_cons (re_strT [51]) (ra_cons (xTyp C 0 call_strA c_str (He.free_ok KX G (c.t.d.fact 7 rfl)) (by decide +kernel) (ra_cons (xVar C 1) ra_nil)) (ra_cons (re_lst (ra_cons (xVar C 1) ra_nil)) (ra_cons (re_tup ra_nil) (ra_cons (re_dic) (ra_cons (re_lst ra_nil) (ra_cons (re_tup (ra_cons (xVar C 1) (ra_cons (xVar C 2) ra_nil))) ra_nil)))))))))) (rb_cons (rs_if (rt_cmp op_lt s_lt (re_bin op_modN s_mod (xVar C 0) (re_int)) (xBlt C 1 call_len c_len (He.free_ok KX G (c.t.d.fact 0 rfl)) (by decide +kernel) (ra_cons (xVar C 4) ra_nil)) (by first | exact nobehind _ (by decide) (by decide) | rfl)) (rb_cons (sSet C 5 (xIx (xVar C 4) (re_bin op_modN s_mod (xVar C 0) (re_int)))) (rb_one (rs_ret (re_tup (ra_cons (xVar C 5) (ra_cons ((re_and (xIsT C 2 3 "int" (He.free_ok KX G (c.t.d.fact 8 rfl)) (He.free_ok KX G (c.t.d.fact 9 rfl)) (by decide +kernel) (xVar C 5)) (re_and (re_not (xIsT C 2 4 "bool" (He.free_ok KX G (c.t.d.fact 8 rfl)) (He.free_ok KX G (c.t.d.fact 10 rfl)) (by decide +kernel) (xVar C 5))) (re_one (re_chain op_le s_le op_le s_le (xVar C 1) (xVar C 5) (xVar C 2)))))) ra_nil)))))) rb_nil) (rb_one (rs_ret (re_tup (ra_cons (re_bin op_addAll s_add (xVar C 1) (re_bin op_modN s_mod (xVar C 3) (re_bin op_addAll s_add (re_bin op_sub s_sub (xVar C 2) (xVar C 1)) (re_int)))) (ra_cons (re_bl) ra_nil)))))))))
theorem ca__law_size (c : Says w h K) (KX : K.In h) (G : h.Ns mainGlobals mg) : Ca P w K mg base none 1 3 "_law_size" (m__law_size) := by
  obtain ⟨fd, F⟩ := c.t.d.def_ 3 (d := d__law_size) rfl
  exact ⟨⟨_, fd, ["_law_digit", "_law_fewest", "_law_most"], fnm_of F sc__law_size (vi := [0, 1, 2, 3, 4, 5]) (ow := [0, 1, 2, 3, 4, 5]) (gl := ["str", "len", "isinstance", "int", "bool"]) (by kernel_rfl) fun X W C => rb__law_size c KX G C, (He.glo_ok KX G (c.t.d.fact 11 rfl)), F.kp, F.bindsN fun _ _ _ _ _ _ us hl => match us, hl with | [_, _, _], _ => rfl⟩, fnOf_no⟩

theorem rb_is_size (c : Says w h K) (KX : K.In h) (G : h.Ns mainGlobals mg) {X : Cx} {W : WX} (C : Cc P w K mg base ⟨["thing", "fewest", "most"], defScope s_is_size, [0, 1, 2], [0, 1, 2], ["isinstance", "int", "bool"], true⟩ none 0 X W) : RB X W (defBody s_is_size) (b_is_size) :=
  (rb_one (rs_ret ((re_and (xIsT C 0 1 "int" (He.free_ok KX G (c.t.d.fact 8 rfl)) (He.free_ok KX G (c.t.d.fact 9 rfl)) (by decide +kernel) (xVar C 0)) (re_and (re_not (xIsT C 0 2 "bool" (He.free_ok KX G (c.t.d.fact 8 rfl)) (He.free_ok KX G (c.t.d.fact 10 rfl)) (by decide +kernel) (xVar C 0))) (re_one (re_chain op_le s_le op_le s_le (xVar C 1) (xVar C 0) (xVar C 2))))))))
theorem ca_is_size (c : Says w h K) (KX : K.In h) (G : h.Ns mainGlobals mg) : Ca P w K mg base none 1 3 "is_size" (m_is_size) := by
  obtain ⟨fd, F⟩ := c.t.d.def_ 4 (d := d_is_size) rfl
  exact ⟨⟨_, fd, ["thing", "fewest", "most"], fnm_pure (fnm_of F sc_is_size (vi := [0, 1, 2]) (ow := [0, 1, 2]) (gl := ["isinstance", "int", "bool"]) (by kernel_rfl) fun X W C => rb_is_size c KX G C), (He.glo_ok KX G (c.t.d.fact 13 rfl)), F.kp, F.bindsN fun _ _ _ _ _ _ us hl => match us, hl with | [_, _, _], _ => rfl⟩, pureF_no fnOf_no⟩

theorem rb_Disk___init__ (c : Says w h K) (KX : K.In h) (G : h.Ns mainGlobals mg) {X : Cx} {W : WX} (C : Cc P w K mg base ⟨["self", "stretches", "places", "k"], defScope s_Disk___init__, [0, 1, 2], [0, 1, 2], ["is_size", "MOST_STRETCHES", "FEWEST_STRETCHES", "NoDisk", "MOST_PLACES", "FEWEST_PLACES", "range"], true⟩ none 1 X W) : RB X W (defBody s_Disk___init__) (b_Disk___init__) :=
  (rb_cons (rs_if (rt_not (rt_val (xCall C 0 (ca_is_size c KX G) (ra_cons (xVar C 1) (ra_cons (xgInt C 2 (He.int_ok KX G (c.t.d.fact 15 rfl))) (ra_cons (xgInt C 1 (He.int_ok KX G (c.t.d.fact 14 rfl))) ra_nil)))))) (rb_one (rs_raise C 3 (eb c) (He.glo_ok KX G (c.t.d.fact 16 rfl)))) rb_nil) (rb_cons (rs_if (rt_not (rt_val (xCall C 0 (ca_is_size c KX G) (ra_cons (xVar C 2) (ra_cons (xgInt C 5 (He.int_ok KX G (c.t.d.fact 18 rfl))) (ra_cons (xgInt C 4 (He.int_ok KX G (c.t.d.fact 17 rfl))) ra_nil)))))) (rb_one (rs_raise C 3 (eb c) (He.glo_ok KX G (c.t.d.fact 16 rfl)))) rb_nil) (rb_cons (xSetFldC C (fk_one (c.t.d.fact 19 rfl) (c.t.d.fact 20 rfl)) (xVar C 0) (xVar C 2)) (rb_cons (xSetFldC C (fk_one (c.t.d.fact 19 rfl) (c.t.d.fact 21 rfl)) (xVar C 0) (xLc C finOkC [("k", 3)] [3] [3] [] (by kernel_rfl) (xSrcR1 C 6 (He.free_ok KX G (c.t.d.fact 3 rfl)) (ra_cons (xVar C 1) ra_nil)) (fun XC2 C2 eKC2 => ⟨(tVarS C2 3), rts_nil, (re_cel ra_nil)⟩))) (rb_cons (xSetFldC C (fk_one (c.t.d.fact 19 rfl) (c.t.d.fact 22 rfl)) (xVar C 0) (re_cel (ra_cons (re_non) (ra_cons (re_non) ra_nil)))) (rb_cons (xSetFldC C (fk_one (c.t.d.fact 19 rfl) (c.t.d.fact 23 rfl)) (xVar C 0) (re_int)) (rb_cons (xSetFldC C (fk_one (c.t.d.fact 19 rfl) (c.t.d.fact 24 rfl)) (xVar C 0) (re_non)) (rb_one (xSetFldC C (fk_one (c.t.d.fact 19 rfl) (c.t.d.fact 25 rfl)) (xVar C 0) (re_bl))))))))))
theorem ca_Disk___init__ (c : Says w h K) (KX : K.In h) (G : h.Ns mainGlobals mg) : Ka P w K mg base none 2 3 "Disk" (m_Disk___init__) := by
  obtain ⟨fd, F⟩ := c.t.d.def_ 5 (d := d_Disk___init__) rfl
  exact ka_one (c.t.d.fact 26 rfl) (He.glo_ok KX G (c.t.d.fact 27 rfl)) (fnm_of F sc_Disk___init__ (vi := [0, 1, 2]) (ow := [0, 1, 2]) (gl := ["is_size", "MOST_STRETCHES", "FEWEST_STRETCHES", "NoDisk", "MOST_PLACES", "FEWEST_PLACES", "range"]) (by kernel_rfl) fun X W C => rb_Disk___init__ c KX G C) (F.bindsN fun _ _ _ _ _ _ us hl => match us, hl with | [_, _, _], _ => rfl) (fnOf_no)

theorem rb__law_kindsH (ac : Nat × Str) (c : Says w h K) (KX : K.In h) (G : h.Ns mainGlobals mg) {X : Cx} {W : WX} (C : Cc P w K mg base ⟨["_law_e", "_law_found", "_law_words", "_law_word", "_law_told"], defScope s__law_kinds, [0, 1, 2], [0, 1, 2], ["isinstance", "Stopped", "Full", "NoDisk", "NoRow", "NotHeld", "HeldAlready", "NoPlace", "NoFile", "Gone", "NoRoom", "NoMark", "NoFiles", "NoHouse", "NoDeed", "NotBlank", "NotClosed", "ValueError", "zip"], true⟩ (some ac) 0 X W) : RB X W (defBody s__law_kinds) (b__law_kindsH ac) :=
  (rb_cons (sSet C 1 (re_cel (ra_cons (xIsEo C 0 4 (eb c) (He.free_ok KX G (c.t.d.fact 8 rfl)) (He.glo_ok KX G (c.t.d.fact 30 rfl)) (xVar C 0)) (ra_cons (xIsEo C 0 3 (eb c) (He.free_ok KX G (c.t.d.fact 8 rfl)) (He.glo_ok KX G (c.t.d.fact 16 rfl)) (xVar C 0)) (ra_cons (xIsEo C 0 2 (eb c) (He.free_ok KX G (c.t.d.fact 8 rfl)) (He.glo_ok KX G (c.t.d.fact 29 rfl)) (xVar C 0)) (ra_cons (xIsEo C 0 1 (eb c) (He.free_ok KX G (c.t.d.fact 8 rfl)) (He.glo_ok KX G (c.t.d.fact 28 rfl)) (xVar C 0)) ra_nil)))))) (rb_cons (sSet C 1 (re_bin op_addAll s_addC (xVar C 1) (re_lst (ra_cons (xIsEo C 0 8 (eb c) (He.free_ok KX G (c.t.d.fact 8 rfl)) (He.glo_ok KX G (c.t.d.fact 34 rfl)) (xVar C 0)) (ra_cons (xIsEo C 0 7 (eb c) (He.free_ok KX G (c.t.d.fact 8 rfl)) (He.glo_ok KX G (c.t.d.fact 33 rfl)) (xVar C 0)) (ra_cons (xIsEo C 0 6 (eb c) (He.free_ok KX G (c.t.d.fact 8 rfl)) (He.glo_ok KX G (c.t.d.fact 32 rfl)) (xVar C 0)) (ra_cons (xIsEo C 0 5 (eb c) (He.free_ok KX G (c.t.d.fact 8 rfl)) (He.glo_ok KX G (c.t.d.fact 31 rfl)) (xVar C 0)) ra_nil))))))) (rb_cons (sSet C 1 (re_bin op_addAll s_addC (xVar C 1) (re_lst (ra_cons (xIsEo C 0 12 (eb c) (He.free_ok KX G (c.t.d.fact 8 rfl)) (He.glo_ok KX G (c.t.d.fact 38 rfl)) (xVar C 0)) (ra_cons (xIsEo C 0 11 (eb c) (He.free_ok KX G (c.t.d.fact 8 rfl)) (He.glo_ok KX G (c.t.d.fact 37 rfl)) (xVar C 0)) (ra_cons (xIsEo C 0 10 (eb c) (He.free_ok KX G (c.t.d.fact 8 rfl)) (He.glo_ok KX G (c.t.d.fact 36 rfl)) (xVar C 0)) (ra_cons (xIsEo C 0 9 (eb c) (He.free_ok KX G (c.t.d.fact 8 rfl)) (He.glo_ok KX G (c.t.d.fact 35 rfl)) (xVar C 0)) ra_nil))))))) (rb_cons (sSet C 1 (re_bin op_addAll s_addC (xVar C 1) (re_lst (ra_cons (xIsEo C 0 16 (eb c) (He.free_ok KX G (c.t.d.fact 8 rfl)) (He.glo_ok KX G (c.t.d.fact 42 rfl)) (xVar C 0)) (ra_cons (xIsEo C 0 15 (eb c) (He.free_ok KX G (c.t.d.fact 8 rfl)) (He.glo_ok KX G (c.t.d.fact 41 rfl)) (xVar C 0)) (ra_cons (xIsEo C 0 14 (eb c) (He.free_ok KX G (c.t.d.fact 8 rfl)) (He.glo_ok KX G (c.t.d.fact 40 rfl)) (xVar C 0)) (ra_cons (xIsEo C 0 13 (eb c) (He.free_ok KX G (c.t.d.fact 8 rfl)) (He.glo_ok KX G (c.t.d.fact 39 rfl)) (xVar C 0)) ra_nil))))))) (rb_cons (rs_do (xBm F.plainAttrs_list F.slot_list_append F.type_list_append mt_app ms_append (xVar C 1) (ra_cons (re_not (xIsEv C 0 17 (eb c) (He.free_ok KX G (c.t.d.fact 8 rfl)) (He.free_ok KX G (c.t.d.fact 43 rfl)) (xVar C 0))) ra_nil))) (rb_cons (sSet C 2 (re_lst (ra_cons (re_strT [114, 111, 119]) (ra_cons (re_strT [100, 105, 115, 107]) (ra_cons (re_strT [102, 117, 108, 108]) (ra_cons (re_strT [115, 116, 111, 112, 112, 101, 100]) (ra_cons (re_strT [102, 105, 108, 101]) (ra_cons (re_strT [112, 108, 97, 99, 101]) (ra_cons (re_strT [104, 101, 108, 100]) (ra_cons (re_strT [110, 111, 116, 32, 104, 101, 108, 100]) (ra_cons (re_strT [102, 105, 108, 101, 115]) (ra_cons (re_strT [109, 97, 114, 107]) (ra_cons (re_strT [114, 111, 111, 109]) (ra_cons (re_strT [103, 111, 110, 101]) ra_nil)))))))))))))) (rb_cons (sSet C 2 (re_bin op_addAll s_add (xVar C 2) (re_lst (ra_cons (re_strT [99, 108, 111, 115, 101, 100]) (ra_cons (re_strT [98, 108, 97, 110, 107]) (ra_cons (re_strT [100, 101, 101, 100]) (ra_cons (re_strT [104, 111, 117, 115, 101]) (ra_cons (re_strT [111, 116, 104, 101, 114]) ra_nil)))))))) (rb_one (rs_ret (xLcH C finOkF [("_law_word", 3), ("_law_told", 4)] [3, 4] [3, 4] [] (by kernel_rfl) (xSrcZpH C 18 (He.free_ok KX G (c.t.d.fact 44 rfl)) (ra_cons (xVar C 2) (ra_cons (re_frz (xVar C 1)) ra_nil))) (fun XC3 C3 eKC3 => ⟨(tUnpH C3 2 (rgs_cons (tVarS C3 3) (rgs_cons (tVarS C3 4) rgs_nil))), (rts_one (rt_val (xVar C3 4))), (xVar C3 3)⟩)))))))))))
theorem ca__law_kindsH (ac : Nat × Str) (c : Says w h K) (KX : K.In h) (G : h.Ns mainGlobals mg) : Ca P w K mg base (some ac) 1 1 "_law_kinds" (m__law_kindsH ac) := by
  obtain ⟨fd, F⟩ := c.t.d.def_ 6 (d := d__law_kinds) rfl
  exact ⟨⟨_, fd, ["_law_e"], fnm_pure (fnm_of F sc__law_kinds (vi := [0, 1, 2]) (ow := [0, 1, 2]) (gl := ["isinstance", "Stopped", "Full", "NoDisk", "NoRow", "NotHeld", "HeldAlready", "NoPlace", "NoFile", "Gone", "NoRoom", "NoMark", "NoFiles", "NoHouse", "NoDeed", "NotBlank", "NotClosed", "ValueError", "zip"]) (by kernel_rfl) fun X W C => rb__law_kindsH ac c KX G C), (He.glo_ok KX G (c.t.d.fact 45 rfl)), F.kp, F.bindsN fun _ _ _ _ _ _ us hl => match us, hl with | [_], _ => rfl⟩, pureF_no fnOf_no⟩

theorem rb__law_begun (c : Says w h K) (KX : K.In h) (G : h.Ns mainGlobals mg) {X : Cx} {W : WX} (C : Cc P w K mg base ⟨["_law_stretches", "_law_places", "_law_told", "_law_e"], defScope s__law_begun, [0, 1, 2, 3], [0, 1, 2, 3], ["Disk", "_law_kinds", "CleanError"], true⟩ none 3 X W) : RB X W (defBody s__law_begun) (b__law_begun) :=
  (rb_cons (sSet C 2 (re_lst ra_nil)) (rb_cons (rs_tryAs C 3 2 (eb c) (He.glo_ok KX G (c.t.d.fact 46 rfl)) (fun X0 W0 CT0 => (rb_one (rs_do (xMake CT0 0 (ca_Disk___init__ c KX G) (ra_cons (xVar CT0 0) (ra_cons (xVar CT0 1) ra_nil)))))) (fun X0 ac0_0 CS0_0 => (rb_one (sSet CS0_0 2 (xCall CS0_0 1 (ca__law_kindsH ac0_0 c KX G) (ra_cons (xVar CS0_0 3) ra_nil)))))) (rb_one (rs_ret (xVar C 2)))))
theorem ca__law_begun (c : Says w h K) (KX : K.In h) (G : h.Ns mainGlobals mg) : Ca P w K mg base none 4 2 "_law_begun" (m__law_begun) := by
  obtain ⟨fd, F⟩ := c.t.d.def_ 7 (d := d__law_begun) rfl
  exact ⟨⟨_, fd, ["_law_stretches", "_law_places"], fnm_pure (fnm_of F sc__law_begun (vi := [0, 1, 2, 3]) (ow := [0, 1, 2, 3]) (gl := ["Disk", "_law_kinds", "CleanError"]) (by kernel_rfl) fun X W C => rb__law_begun c KX G C), (He.glo_ok KX G (c.t.d.fact 47 rfl)), F.kp, F.bindsN fun _ _ _ _ _ _ us hl => match us, hl with | [_, _], _ => rfl⟩, pureF_no fnOf_no⟩

theorem rb_Disk_signs (c : Says w h K) (KX : K.In h) (G : h.Ns mainGlobals mg) {X : Cx} {W : WX} (C : Cc P w K mg base ⟨["self"], defScope s_Disk_signs, [0], [0], [], true⟩ none 0 X W) : RB X W (defBody s_Disk_signs) (b_Disk_signs) :=
  (rb_one (rs_ret (xFldC C (fk_one (c.t.d.fact 19 rfl) (c.t.d.fact 23 rfl)) (xVar C 0))))
theorem ca_Disk_signs (c : Says w h K) (KX : K.In h) (G : h.Ns mainGlobals mg) : Ma P w K mg base none 1 1 ["Disk"] "signs" (m_Disk_signs) := by
  obtain ⟨fd, F⟩ := c.t.d.def_ 8 (d := d_Disk_signs) rfl
  exact ma_one (c.t.d.fact 19 rfl) (c.t.d.fact 48 rfl) (fnm_of F sc_Disk_signs (vi := [0]) (ow := [0]) (gl := []) (by kernel_rfl) fun X W C => rb_Disk_signs c KX G C) (F.bindsN fun _ _ _ _ _ _ us hl => match us, hl with | [_], _ => rfl) (fnOf_no)

theorem rb_Disk_places (c : Says w h K) (KX : K.In h) (G : h.Ns mainGlobals mg) {X : Cx} {W : WX} (C : Cc P w K mg base ⟨["self"], defScope s_Disk_places, [0], [0], [], true⟩ none 0 X W) : RB X W (defBody s_Disk_places) (b_Disk_places) :=
  (rb_one (rs_ret (xFldC C (fk_one (c.t.d.fact 19 rfl) (c.t.d.fact 20 rfl)) (xVar C 0))))
theorem ca_Disk_places (c : Says w h K) (KX : K.In h) (G : h.Ns mainGlobals mg) : Ma P w K mg base none 1 1 ["Disk"] "places" (m_Disk_places) := by
  obtain ⟨fd, F⟩ := c.t.d.def_ 9 (d := d_Disk_places) rfl
  exact ma_one (c.t.d.fact 19 rfl) (c.t.d.fact 49 rfl) (fnm_of F sc_Disk_places (vi := [0]) (ow := [0]) (gl := []) (by kernel_rfl) fun X W C => rb_Disk_places c KX G C) (F.bindsN fun _ _ _ _ _ _ us hl => match us, hl with | [_], _ => rfl) (fnOf_no)

theorem rb_Disk_stretches (c : Says w h K) (KX : K.In h) (G : h.Ns mainGlobals mg) {X : Cx} {W : WX} (C : Cc P w K mg base ⟨["self"], defScope s_Disk_stretches, [0], [0], ["len"], true⟩ none 0 X W) : RB X W (defBody s_Disk_stretches) (b_Disk_stretches) :=
  (rb_one (rs_ret (xBlt C 0 call_len c_len (He.free_ok KX G (c.t.d.fact 0 rfl)) (by decide +kernel) (ra_cons (xFldC C (fk_one (c.t.d.fact 19 rfl) (c.t.d.fact 21 rfl)) (xVar C 0)) ra_nil))))
theorem ca_Disk_stretches (c : Says w h K) (KX : K.In h) (G : h.Ns mainGlobals mg) : Ma P w K mg base none 1 1 ["Disk"] "stretches" (m_Disk_stretches) := by
  obtain ⟨fd, F⟩ := c.t.d.def_ 10 (d := d_Disk_stretches) rfl
  exact ma_one (c.t.d.fact 19 rfl) (c.t.d.fact 50 rfl) (fnm_of F sc_Disk_stretches (vi := [0]) (ow := [0]) (gl := ["len"]) (by kernel_rfl) fun X W C => rb_Disk_stretches c KX G C) (F.bindsN fun _ _ _ _ _ _ us hl => match us, hl with | [_], _ => rfl) (fnOf_no)

theorem rb_Disk_side (c : Says w h K) (KX : K.In h) (G : h.Ns mainGlobals mg) {X : Cx} {W : WX} (C : Cc P w K mg base ⟨["self", "k"], defScope s_Disk_side, [0, 1], [0, 1], [], true⟩ none 0 X W) : RB X W (defBody s_Disk_side) (b_Disk_side) :=
  (rb_one (rs_ret (xIx (xFldC C (fk_one (c.t.d.fact 19 rfl) (c.t.d.fact 22 rfl)) (xVar C 0)) (xVar C 1))))
theorem ca_Disk_side (c : Says w h K) (KX : K.In h) (G : h.Ns mainGlobals mg) : Ma P w K mg base none 1 2 ["Disk"] "side" (m_Disk_side) := by
  obtain ⟨fd, F⟩ := c.t.d.def_ 11 (d := d_Disk_side) rfl
  exact ma_one (c.t.d.fact 19 rfl) (c.t.d.fact 51 rfl) (fnm_of F sc_Disk_side (vi := [0, 1]) (ow := [0, 1]) (gl := []) (by kernel_rfl) fun X W C => rb_Disk_side c KX G C) (F.bindsN fun _ _ _ _ _ _ us hl => match us, hl with | [_, _], _ => rfl) (fnOf_no)

theorem rb_Disk_told (c : Says w h K) (KX : K.In h) (G : h.Ns mainGlobals mg) {X : Cx} {W : WX} (C : Cc P w K mg base ⟨["self", "stretch", "place"], defScope s_Disk_told, [0, 1, 2], [0, 1, 2], ["len"], true⟩ none 0 X W) : RB X W (defBody s_Disk_told) (b_Disk_told) :=
  (rb_cons (rs_if (rt_cmp op_lt s_lt (xVar C 2) (xBlt C 0 call_len c_len (He.free_ok KX G (c.t.d.fact 0 rfl)) (by decide +kernel) (ra_cons (xIx (xFldC C (fk_one (c.t.d.fact 19 rfl) (c.t.d.fact 21 rfl)) (xVar C 0)) (xVar C 1)) ra_nil)) (by first | exact nobehind _ (by decide) (by decide) | rfl)) (rb_one (rs_ret (xIx (xIx (xFldC C (fk_one (c.t.d.fact 19 rfl) (c.t.d.fact 21 rfl)) (xVar C 0)) (xVar C 1)) (xVar C 2)))) rb_nil) (rb_one (rs_ret (re_non))))
theorem ca_Disk_told (c : Says w h K) (KX : K.In h) (G : h.Ns mainGlobals mg) : Ma P w K mg base none 1 3 ["Disk"] "told" (m_Disk_told) := by
  obtain ⟨fd, F⟩ := c.t.d.def_ 12 (d := d_Disk_told) rfl
  exact ma_one (c.t.d.fact 19 rfl) (c.t.d.fact 52 rfl) (fnm_of F sc_Disk_told (vi := [0, 1, 2]) (ow := [0, 1, 2]) (gl := ["len"]) (by kernel_rfl) fun X W C => rb_Disk_told c KX G C) (F.bindsN fun _ _ _ _ _ _ us hl => match us, hl with | [_, _, _], _ => rfl) (fnOf_no)

theorem rb__law_blank (c : Says w h K) (KX : K.In h) (G : h.Ns mainGlobals mg) {X : Cx} {W : WX} (C : Cc P w K mg base ⟨["_law_disk", "_law_stretches", "_law_places", "_law_told", "_law_stretch"], defScope s__law_blank, [0, 1, 2, 3, 4], [0, 1, 2, 3, 4], ["range"], true⟩ none 1 X W) : RB X W (defBody s__law_blank) (b__law_blank) :=
  (rb_cons (rs_if (rt_cmp (op_neN C.units64) s_ne (re_lst (ra_cons (xMeth0 C (ca_Disk_stretches c KX G) (xVar C 0)) (ra_cons (xMeth0 C (ca_Disk_places c KX G) (xVar C 0)) (ra_cons (xMeth0 C (ca_Disk_signs c KX G) (xVar C 0)) ra_nil)))) (re_lst (ra_cons (xVar C 1) (ra_cons (xVar C 2) (ra_cons (re_int) ra_nil)))) (by first | exact nobehind _ (by decide) (by decide) | rfl)) (rb_one (rs_ret (re_bl))) rb_nil) (rb_cons (sSet C 3 (re_lst (ra_cons (xMeth C (ca_Disk_side c KX G) (xVar C 0) (ra_cons (re_int) ra_nil)) (ra_cons (xMeth C (ca_Disk_side c KX G) (xVar C 0) (ra_cons (re_int) ra_nil)) ra_nil)))) (rb_cons (sForC C [4] (xSrcR1 C 0 (He.free_ok KX G (c.t.d.fact 3 rfl)) (ra_cons (xVar C 1) ra_nil)) (tVarS C 4) (rb_one (sSet C 3 (re_bin op_addAll s_add (xVar C 3) (re_lst (ra_cons (xMeth C (ca_Disk_told c KX G) (xVar C 0) (ra_cons (xVar C 4) (ra_cons (re_int) ra_nil))) (ra_cons (xMeth C (ca_Disk_told c KX G) (xVar C 0) (ra_cons (xVar C 4) (ra_cons (re_bin op_sub s_sub (xVar C 2) (re_int)) ra_nil))) ra_nil))))))) (rb_one (rs_ret (re_cmp (op_eqN C.units64) s_eq (xVar C 3) (re_bin op_mulA s_mul (re_lst (ra_cons (re_non) ra_nil)) (re_bin op_addAll s_add (re_bin op_mulA s_mul (re_int) (xVar C 1)) (re_int))) (by first | exact nobehind _ (by decide) (by decide) | rfl)))))))
theorem ca__law_blank (c : Says w h K) (KX : K.In h) (G : h.Ns mainGlobals mg) : Ca P w K mg base none 2 3 "_law_blank" (m__law_blank) := by
  obtain ⟨fd, F⟩ := c.t.d.def_ 13 (d := d__law_blank) rfl
  exact ⟨⟨_, fd, ["_law_disk", "_law_stretches", "_law_places"], fnm_pure (fnm_of F sc__law_blank (vi := [0, 1, 2, 3, 4]) (ow := [0, 1, 2, 3, 4]) (gl := ["range"]) (by kernel_rfl) fun X W C => rb__law_blank c KX G C), (He.glo_ok KX G (c.t.d.fact 53 rfl)), F.kp, F.bindsN fun _ _ _ _ _ _ us hl => match us, hl with | [_, _, _], _ => rfl⟩, pureF_no fnOf_no⟩

theorem rb_law (c : Says w h K) (KX : K.In h) (G : h.Ns mainGlobals mg) {X : Cx} {W : WX} (C : Cc P w K mg base ⟨["_law_script", "_law_k", "_law_first", "_law_second", "_law_stretches", "_law_is_right", "_law_places", "_law_is_so", "_law_due", "_law_before"], defScope s_law, [0, 1, 2, 3, 4, 5, 6, 7, 8, 9], [0, 1, 2, 3, 4, 5, 6, 7, 8, 9], ["range", "len", "min", "max", "_law_row", "_law_size", "int", "repr", "_law_begun", "_law_blank", "Disk"], true⟩ none 4 X W) : RB X W (defBody s_law) (b_law) :=
  (rb_cons (sForC C [1] (xSrcR1 C 0 (He.free_ok KX G (c.t.d.fact 3 rfl)) (ra_cons (xBlt C 3 (call_max2 C.calm) c_max2 (He.free_ok KX G (c.t.d.fact 2 rfl)) (by decide +kernel) (ra_cons (re_int) (ra_cons (xBlt C 2 (call_min2 C.calm) c_min2 (He.free_ok KX G (c.t.d.fact 1 rfl)) (by decide +kernel) (ra_cons (xBlt C 1 call_len c_len (He.free_ok KX G (c.t.d.fact 0 rfl)) (by decide +kernel) (ra_cons (xVar C 0) ra_nil)) (ra_cons (re_int) ra_nil))) ra_nil))) ra_nil)) (tVarS C 1) (rb_cons (rs_asg (vs := [2, 3]) (xCall C 4 (ca__law_row c KX G) (ra_cons (xVar C 0) (ra_cons (xVar C 1) (ra_cons (re_int) (ra_cons (re_bin op_pow s_pow (re_int) (re_int)) ra_nil))))) (rg_unpL 2 C.calm (rgs_cons (tVarS C 2) (rgs_cons (tVarS C 3) rgs_nil)))) (rb_cons (rs_asg (vs := [4, 5]) (xCall C 5 (ca__law_size c KX G) (ra_cons (xVar C 2) (ra_cons (re_int) (ra_cons (re_int) ra_nil)))) (tUnp C 2 (rgs_cons (tVarS C 4) (rgs_cons (tVarS C 5) rgs_nil)))) (rb_cons (rs_asg (vs := [6, 7]) (xCall C 5 (ca__law_size c KX G) (ra_cons (xVar C 3) (ra_cons (re_int) (ra_cons (re_int) ra_nil)))) (tUnp C 2 (rgs_cons (tVarS C 6) (rgs_cons (tVarS C 7) rgs_nil)))) (rb_cons (sSet C 8 (xIx (re_lst (ra_cons (re_lst (ra_cons (re_strT [100, 105, 115, 107]) ra_nil)) (ra_cons (re_lst ra_nil) ra_nil))) (xTyp C 6 call_intA c_int (He.free_ok KX G (c.t.d.fact 9 rfl)) (by decide +kernel) (ra_cons ((re_and (xVar C 5) (re_one (xVar C 7)))) ra_nil)))) (rb_cons (sSet C 9 (xBlt C 7 (call_rprE C.units70 C.room.gd) c_reprE (He.free_ok KX G (c.t.d.fact 12 rfl)) (by decide +kernel) (ra_cons (re_lst (ra_cons (xVar C 4) (ra_cons (xVar C 6) ra_nil))) ra_nil))) (rb_cons (rs_if (rt_bool (rw_or (rt_cmp (op_neN C.units64) s_ne (xCall C 8 (ca__law_begun c KX G) (ra_cons (xVar C 4) (ra_cons (xVar C 6) ra_nil))) (xVar C 8) (by first | exact nobehind _ (by decide) (by decide) | rfl)) (rw_or1 (rt_cmp (op_neN C.units64) s_ne (xBlt C 7 (call_rprE C.units70 C.room.gd) c_reprE (He.free_ok KX G (c.t.d.fact 12 rfl)) (by decide +kernel) (ra_cons (re_lst (ra_cons (xVar C 4) (ra_cons (xVar C 6) ra_nil))) ra_nil)) (xVar C 9) (by first | exact nobehind _ (by decide) (by decide) | rfl))))) (rb_one (rs_ret (re_bl))) rb_nil) (rb_one (rs_if (rt_bool (rw_and (rt_cmp (op_eqN C.units64) s_eq (xVar C 8) (re_lst ra_nil) (by first | exact nobehind _ (by decide) (by decide) | rfl)) (rw_and1 (rt_not (rt_val (xCall C 9 (ca__law_blank c KX G) (ra_cons (xMake C 10 (ca_Disk___init__ c KX G) (ra_cons (xVar C 4) (ra_cons (xVar C 6) ra_nil))) (ra_cons (xVar C 4) (ra_cons (xVar C 6) ra_nil))))))))) (rb_one (rs_ret (re_bl))) rb_nil))))))))) (rb_one (rs_ret ((re_and (xCall C 9 (ca__law_blank c KX G) (ra_cons (xMake C 10 (ca_Disk___init__ c KX G) (ra_cons (re_int) (ra_cons (re_int) ra_nil))) (ra_cons (re_int) (ra_cons (re_int) ra_nil)))) (re_one (xCall C 9 (ca__law_blank c KX G) (ra_cons (xMake C 10 (ca_Disk___init__ c KX G) (ra_cons (re_int) (ra_cons (re_int) ra_nil))) (ra_cons (re_int) (ra_cons (re_int) ra_nil))))))))))
theorem ca_law (c : Says w h K) (KX : K.In h) (G : h.Ns mainGlobals mg) : Ca P w K mg base none 5 1 "law" (m_law) := by
  obtain ⟨fd, F⟩ := c.t.d.def_ 14 (d := d_law) rfl
  exact ⟨⟨_, fd, ["_law_script"], fnm_pure (fnm_of F sc_law (vi := [0, 1, 2, 3, 4, 5, 6, 7, 8, 9]) (ow := [0, 1, 2, 3, 4, 5, 6, 7, 8, 9]) (gl := ["range", "len", "min", "max", "_law_row", "_law_size", "int", "repr", "_law_begun", "_law_blank", "Disk"]) (by kernel_rfl) fun X W C => rb_law c KX G C), (He.glo_ok KX G (c.t.d.fact 54 rfl)), F.kp, F.bindsN fun _ _ _ _ _ _ us hl => match us, hl with | [_], _ => rfl⟩, pureF_no fnOf_no⟩

end
end Ww

set_option maxRecDepth 100000
set_option maxHeartbeats 4000000
namespace Ww
open PySem PySem.Spec PyProof.Rows Fw
theorem law_at (ns : List Int) (k : Int) (hk : 0 ≤ k) (g : Gr) : m__law_at [li ns, .int k] g = .ok (.int (at_ ns k)) g := by
  refine pure_ret0 rfl ?_ rfl
  by_cases h : k < (ns.length : Int)
  · simp -implicitDefEqProofs (disch := (first | exact Fw.tyL_snoc _ | omega | assumption | ((try simp only [List.length_append, List.length_cons, List.length_nil, List.length_map, List.length_take, List.length_drop, List.length_range, List.length_replicate, Fw.tyL_snoc]); first | done | omega))) only [Fw.v_c, Fw.v_bin, Fw.v_un, Fw.v_and, Fw.v_or, Fw.v_not, Fw.v_ife, Fw.v_args, Fw.v_nil, Fw.v_cons, Fw.v_bm, Fw.v_frz, Fw.v_chain, Fw.v_slLU, Fw.v_slL, Fw.v_slU, Fw.v_lc, Fw.v_seq, Fw.v_snil, Fw.v_ret, Fw.v_retN, Fw.v_brk, Fw.v_cnt, Fw.v_do, Fw.v_asg, Fw.v_if, Fw.v_for, Fw.v_srcOf, Fw.v_srcA, Fw.v_fn, Fw.w_binL, Fw.w_binR, Fw.w_un, Fw.w_andT, Fw.w_andF, Fw.w_orT, Fw.w_orF, Fw.w_not, Fw.w_ifT, Fw.w_ifF, Fw.w_arg, Fw.w_consL, Fw.w_consR, Fw.w_bmA, Fw.w_bmS, Fw.w_bm, Fw.w_frz, Fw.w_ch0, Fw.w_ch1, Fw.w_ch2T, Fw.w_ch2F, Fw.w_sl1, Fw.w_sl2, Fw.w_sl3, Fw.w_slL1, Fw.w_slL2, Fw.w_slU1, Fw.w_slU2, Fw.w_seq, Fw.w_seqR, Fw.w_seqB, Fw.w_seqC, Fw.w_seqE, Fw.w_ret, Fw.w_do, Fw.w_asg, Fw.w_tg, Fw.w_sifT, Fw.w_sifF, Fw.w_gs, Fw.w_gsnil, Fw.w_gscons, Fw.w_for, Fw.w_src, Fw.w_srcA, Fw.w_src2, Fw.w_lc, Fw.w_endN, Fw.w_endR, Fw.w_endE, Fw.e_binL, Fw.e_binR, Fw.e_un, Fw.e_and, Fw.e_or, Fw.e_not, Fw.e_ife, Fw.e_arg, Fw.e_consL, Fw.e_consR, Fw.e_bmA, Fw.e_bm, Fw.e_ret, Fw.e_do, Fw.e_asg, Fw.e_if, Fw.e_for, Fw.e_src, Fw.e_srcA, Fw.v_x0, Fw.v_s0, Fw.v_x1, Fw.v_s1, Fw.v_x2, Fw.v_s2, Fw.v_x3, Fw.v_s3, Fw.v_x4, Fw.v_s4, Fw.v_x5, Fw.v_s5, Fw.v_x6, Fw.v_s6, Fw.v_x7, Fw.v_s7, Fw.v_x8, Fw.v_s8, Fw.v_x9, Fw.v_s9, Fw.v_x10, Fw.v_s10, Fw.v_x11, Fw.v_s11, Fw.v_x12, Fw.v_s12, Fw.v_x13, Fw.v_s13, Fw.v_x14, Fw.v_s14, Fw.v_x15, Fw.v_s15, Fw.v_x16, Fw.v_s16, Fw.v_x17, Fw.v_s17, Fw.v_x18, Fw.v_s18, Fw.v_x19, Fw.v_s19, Fw.v_x20, Fw.v_s20, Fw.v_x21, Fw.v_s21, Fw.v_x22, Fw.v_s22, Fw.v_x23, Fw.v_s23, Fw.v_x24, Fw.v_s24, Fw.v_x25, Fw.v_s25, Fw.v_unp1, Fw.v_unpL1, Fw.v_unp2, Fw.v_unpL2, Fw.v_unp3, Fw.v_unpL3, Fw.v_unp4, Fw.v_unpL4, Fw.v_unp5, Fw.v_unpL5, Fw.v_unp6, Fw.v_unpL6, Fw.v_unp7, Fw.v_unpL7, Fw.v_unp8, Fw.v_unpL8, Fw.v_addC, Fw.v_dic, Fw.v_zipL, Fw.v_addCS, Fw.v_strBB, Fw.v_strBN, Fw.v_strBS, Fw.v_joinC, Fw.v_fld, Fw.w_fld, Fw.v_sfld, Fw.w_sfld1, Fw.w_sfld2, Fw.v_meth, Fw.w_meth, Fw.w_argD, Fw.v_make, Fw.w_make, Fw.w_madeN, Fw.w_madeE, Fw.e_doE, Fw.w_setAt, Fw.v_raise, Fw.v_tryAs, Fw.v_tryMany, Fw.w_tryN, Fw.w_tryR, Fw.w_tryC, Fw.w_tryE, Fw.w_trmN, Fw.w_trmR, Fw.w_trmC, Fw.w_trmE, Fw.w_hdY, Fw.w_hdN, Fw.w_all, Fw.w_unN, Fw.w_unC, Fw.w_unR, Fw.w_unN0, Fw.w_unC0, Fw.w_isE, Fw.w_tabN, Fw.w_goN, Fw.w_goC, Fw.w_turn, Fw.v_lenli, Fw.v_ixli, Fw.v_lenT, Fw.v_addT, Fw.v_eqT, Fw.v_neT, Fw.v_eqI, Fw.v_neI, Fw.v_strN, Fw.v_strS, Fw.v_ord, Fw.v_appC, Fw.v_pow18, Fw.v_ixT, Fw.v_lst, Fw.v_tup, Fw.v_cel, Fw.v_appT, Fw.v_appL, Fw.v_rng1, Fw.v_enT, Fw.v_iT, Fw.v_iL, Fw.v_iTp, Fw.v_cutLTo, Fw.v_cutLFrom, Fw.v_wipe0, Fw.v_wipe1, Fw.w_te, Fw.v_cutTo, Fw.v_cutFrom, Fw.v_cutLast, Fw.v_splT, Fw.v_rsplT, Fw.v_rfindT, Fw.v_endsT, Fw.v_inT, Fw.v_notInT, Fw.v_joinT, Fw.v_tab, Fw.w_tabL, Fw.w_tabR, Fw.v_lstT, Fw.v_lstL, Fw.v_tupT, Fw.v_tupL, Fw.v_isBt, Fw.v_isBf, Fw.v_isBi, Fw.v_isBs, Fw.v_ixL0, Fw.v_ixL1, Fw.v_isTs, Fw.v_isTsI, Fw.v_isTsB, Fw.v_allB, Fw.v_all0, Fw.v_all1, Fw.v_all2, Fw.v_all3, Fw.v_all4, Fw.v_all5, Fw.v_all6, Fw.v_all7, Fw.v_all8, Fw.v_appT2, Fw.v_lz, Fw.v_castN, Fw.v_zpN, Fw.v_zpN2, Fw.v_zpC, Fw.v_intT, Fw.v_in2, Fw.v_lcNil, Fw.v_lcCons, Fw.w_lcT, Fw.w_lcCt, Fw.w_lcCf, Fw.w_lcE, Fw.v_yes, Fw.v_finF, Fw.v_loopNil, Fw.v_loopCons, Fw.w_restN, Fw.w_restC, Fw.w_restB, Fw.w_restR, Fw.o_lt, Fw.o_le, Fw.o_gt, Fw.o_ge, Fw.o_addI, Fw.o_sub, Fw.o_neg, Fw.o_mul, Fw.o_mod, Fw.o_div, Fw.f_intI, Fw.f_intB, Fw.f_max, Fw.f_min, Fw.f_lenL, Fw.f_lenT, decide_true, decide_false, Bool.not_true, Bool.not_false, List.map_cons, List.map_nil, List.set_cons_zero, List.set_cons_succ, List.drop_succ_cons, List.drop_zero, List.take_succ_cons, List.take_zero, List.replicate_succ, List.replicate_zero, List.cons_append, List.nil_append, List.append_nil, ne_eq, not_false_eq_true, not_true_eq_false, and_self, eq_self, and_true, and_false, false_and, true_and, reduceIte, if_true, if_false, reduceCtorEq, List.length_cons, List.length_nil, List.length_map, Fw.snoc_at, Fw.snoc_set, Fw.tyL_snoc, decide_eq_true_eq, Bool.and_true, Bool.true_and, Bool.and_false, Bool.false_and, Nat.reduceSub, Nat.reduceAdd, Int.reduceAdd, Int.reduceSub, Int.reduceMul, Int.reduceNeg, Int.reduceLT, Int.reduceLE, Int.reduceEq, Int.reduceMod, Int.reduceDiv, Int.reduceToNat, Nat.reduceEqDiff, b__law_at, h]
  · simp -implicitDefEqProofs (disch := (first | exact Fw.tyL_snoc _ | omega | assumption | ((try simp only [List.length_append, List.length_cons, List.length_nil, List.length_map, List.length_take, List.length_drop, List.length_range, List.length_replicate, Fw.tyL_snoc]); first | done | omega))) only [Fw.v_c, Fw.v_bin, Fw.v_un, Fw.v_and, Fw.v_or, Fw.v_not, Fw.v_ife, Fw.v_args, Fw.v_nil, Fw.v_cons, Fw.v_bm, Fw.v_frz, Fw.v_chain, Fw.v_slLU, Fw.v_slL, Fw.v_slU, Fw.v_lc, Fw.v_seq, Fw.v_snil, Fw.v_ret, Fw.v_retN, Fw.v_brk, Fw.v_cnt, Fw.v_do, Fw.v_asg, Fw.v_if, Fw.v_for, Fw.v_srcOf, Fw.v_srcA, Fw.v_fn, Fw.w_binL, Fw.w_binR, Fw.w_un, Fw.w_andT, Fw.w_andF, Fw.w_orT, Fw.w_orF, Fw.w_not, Fw.w_ifT, Fw.w_ifF, Fw.w_arg, Fw.w_consL, Fw.w_consR, Fw.w_bmA, Fw.w_bmS, Fw.w_bm, Fw.w_frz, Fw.w_ch0, Fw.w_ch1, Fw.w_ch2T, Fw.w_ch2F, Fw.w_sl1, Fw.w_sl2, Fw.w_sl3, Fw.w_slL1, Fw.w_slL2, Fw.w_slU1, Fw.w_slU2, Fw.w_seq, Fw.w_seqR, Fw.w_seqB, Fw.w_seqC, Fw.w_seqE, Fw.w_ret, Fw.w_do, Fw.w_asg, Fw.w_tg, Fw.w_sifT, Fw.w_sifF, Fw.w_gs, Fw.w_gsnil, Fw.w_gscons, Fw.w_for, Fw.w_src, Fw.w_srcA, Fw.w_src2, Fw.w_lc, Fw.w_endN, Fw.w_endR, Fw.w_endE, Fw.e_binL, Fw.e_binR, Fw.e_un, Fw.e_and, Fw.e_or, Fw.e_not, Fw.e_ife, Fw.e_arg, Fw.e_consL, Fw.e_consR, Fw.e_bmA, Fw.e_bm, Fw.e_ret, Fw.e_do, Fw.e_asg, Fw.e_if, Fw.e_for, Fw.e_src, Fw.e_srcA, Fw.v_x0, Fw.v_s0, Fw.v_x1, Fw.v_s1, Fw.v_x2, Fw.v_s2, Fw.v_x3, Fw.v_s3, Fw.v_x4, Fw.v_s4, Fw.v_x5, Fw.v_s5, Fw.v_x6, Fw.v_s6, Fw.v_x7, Fw.v_s7, Fw.v_x8, Fw.v_s8, Fw.v_x9, Fw.v_s9, Fw.v_x10, Fw.v_s10, Fw.v_x11, Fw.v_s11, Fw.v_x12, Fw.v_s12, Fw.v_x13, Fw.v_s13, Fw.v_x14, Fw.v_s14, Fw.v_x15, Fw.v_s15, Fw.v_x16, Fw.v_s16, Fw.v_x17, Fw.v_s17, Fw.v_x18, Fw.v_s18, Fw.v_x19, Fw.v_s19, Fw.v_x20, Fw.v_s20, Fw.v_x21, Fw.v_s21, Fw.v_x22, Fw.v_s22, Fw.v_x23, Fw.v_s23, Fw.v_x24, Fw.v_s24, Fw.v_x25, Fw.v_s25, Fw.v_unp1, Fw.v_unpL1, Fw.v_unp2, Fw.v_unpL2, Fw.v_unp3, Fw.v_unpL3, Fw.v_unp4, Fw.v_unpL4, Fw.v_unp5, Fw.v_unpL5, Fw.v_unp6, Fw.v_unpL6, Fw.v_unp7, Fw.v_unpL7, Fw.v_unp8, Fw.v_unpL8, Fw.v_addC, Fw.v_dic, Fw.v_zipL, Fw.v_addCS, Fw.v_strBB, Fw.v_strBN, Fw.v_strBS, Fw.v_joinC, Fw.v_fld, Fw.w_fld, Fw.v_sfld, Fw.w_sfld1, Fw.w_sfld2, Fw.v_meth, Fw.w_meth, Fw.w_argD, Fw.v_make, Fw.w_make, Fw.w_madeN, Fw.w_madeE, Fw.e_doE, Fw.w_setAt, Fw.v_raise, Fw.v_tryAs, Fw.v_tryMany, Fw.w_tryN, Fw.w_tryR, Fw.w_tryC, Fw.w_tryE, Fw.w_trmN, Fw.w_trmR, Fw.w_trmC, Fw.w_trmE, Fw.w_hdY, Fw.w_hdN, Fw.w_all, Fw.w_unN, Fw.w_unC, Fw.w_unR, Fw.w_unN0, Fw.w_unC0, Fw.w_isE, Fw.w_tabN, Fw.w_goN, Fw.w_goC, Fw.w_turn, Fw.v_lenli, Fw.v_ixli, Fw.v_lenT, Fw.v_addT, Fw.v_eqT, Fw.v_neT, Fw.v_eqI, Fw.v_neI, Fw.v_strN, Fw.v_strS, Fw.v_ord, Fw.v_appC, Fw.v_pow18, Fw.v_ixT, Fw.v_lst, Fw.v_tup, Fw.v_cel, Fw.v_appT, Fw.v_appL, Fw.v_rng1, Fw.v_enT, Fw.v_iT, Fw.v_iL, Fw.v_iTp, Fw.v_cutLTo, Fw.v_cutLFrom, Fw.v_wipe0, Fw.v_wipe1, Fw.w_te, Fw.v_cutTo, Fw.v_cutFrom, Fw.v_cutLast, Fw.v_splT, Fw.v_rsplT, Fw.v_rfindT, Fw.v_endsT, Fw.v_inT, Fw.v_notInT, Fw.v_joinT, Fw.v_tab, Fw.w_tabL, Fw.w_tabR, Fw.v_lstT, Fw.v_lstL, Fw.v_tupT, Fw.v_tupL, Fw.v_isBt, Fw.v_isBf, Fw.v_isBi, Fw.v_isBs, Fw.v_ixL0, Fw.v_ixL1, Fw.v_isTs, Fw.v_isTsI, Fw.v_isTsB, Fw.v_allB, Fw.v_all0, Fw.v_all1, Fw.v_all2, Fw.v_all3, Fw.v_all4, Fw.v_all5, Fw.v_all6, Fw.v_all7, Fw.v_all8, Fw.v_appT2, Fw.v_lz, Fw.v_castN, Fw.v_zpN, Fw.v_zpN2, Fw.v_zpC, Fw.v_intT, Fw.v_in2, Fw.v_lcNil, Fw.v_lcCons, Fw.w_lcT, Fw.w_lcCt, Fw.w_lcCf, Fw.w_lcE, Fw.v_yes, Fw.v_finF, Fw.v_loopNil, Fw.v_loopCons, Fw.w_restN, Fw.w_restC, Fw.w_restB, Fw.w_restR, Fw.o_lt, Fw.o_le, Fw.o_gt, Fw.o_ge, Fw.o_addI, Fw.o_sub, Fw.o_neg, Fw.o_mul, Fw.o_mod, Fw.o_div, Fw.f_intI, Fw.f_intB, Fw.f_max, Fw.f_min, Fw.f_lenL, Fw.f_lenT, decide_true, decide_false, Bool.not_true, Bool.not_false, List.map_cons, List.map_nil, List.set_cons_zero, List.set_cons_succ, List.drop_succ_cons, List.drop_zero, List.take_succ_cons, List.take_zero, List.replicate_succ, List.replicate_zero, List.cons_append, List.nil_append, List.append_nil, ne_eq, not_false_eq_true, not_true_eq_false, and_self, eq_self, and_true, and_false, false_and, true_and, reduceIte, if_true, if_false, reduceCtorEq, List.length_cons, List.length_nil, List.length_map, Fw.snoc_at, Fw.snoc_set, Fw.tyL_snoc, decide_eq_true_eq, Bool.and_true, Bool.true_and, Bool.and_false, Bool.false_and, Nat.reduceSub, Nat.reduceAdd, Int.reduceAdd, Int.reduceSub, Int.reduceMul, Int.reduceNeg, Int.reduceLT, Int.reduceLE, Int.reduceEq, Int.reduceMod, Int.reduceDiv, Int.reduceToNat, Nat.reduceEqDiff, b__law_at, h]
    unfold at_
    rw [List.getD_eq_getElem?_getD, List.getElem?_eq_none (by omega)]
    rfl
def lmix (n k : Int) : Int := 1 + (((n % 2147483629 + 48271 * (k + 1)) % 2147483629) * ((n % 2147483629 + 48271 * (k + 1)) % 2147483629) + 39373 * ((n % 2147483629 + 48271 * (k + 1)) % 2147483629) + 7 * k) % 2147483629
theorem law_mixed (n k : Int) (g : Gr) : m__law_mixed [.int n, .int k] g = .ok (.int (lmix n k)) g := by
  refine pure_ret0 rfl ?_ rfl
  simp -implicitDefEqProofs (disch := (first | exact Fw.tyL_snoc _ | omega | assumption | ((try simp only [List.length_append, List.length_cons, List.length_nil, List.length_map, List.length_take, List.length_drop, List.length_range, List.length_replicate, Fw.tyL_snoc]); first | done | omega))) only [Fw.v_c, Fw.v_bin, Fw.v_un, Fw.v_and, Fw.v_or, Fw.v_not, Fw.v_ife, Fw.v_args, Fw.v_nil, Fw.v_cons, Fw.v_bm, Fw.v_frz, Fw.v_chain, Fw.v_slLU, Fw.v_slL, Fw.v_slU, Fw.v_lc, Fw.v_seq, Fw.v_snil, Fw.v_ret, Fw.v_retN, Fw.v_brk, Fw.v_cnt, Fw.v_do, Fw.v_asg, Fw.v_if, Fw.v_for, Fw.v_srcOf, Fw.v_srcA, Fw.v_fn, Fw.w_binL, Fw.w_binR, Fw.w_un, Fw.w_andT, Fw.w_andF, Fw.w_orT, Fw.w_orF, Fw.w_not, Fw.w_ifT, Fw.w_ifF, Fw.w_arg, Fw.w_consL, Fw.w_consR, Fw.w_bmA, Fw.w_bmS, Fw.w_bm, Fw.w_frz, Fw.w_ch0, Fw.w_ch1, Fw.w_ch2T, Fw.w_ch2F, Fw.w_sl1, Fw.w_sl2, Fw.w_sl3, Fw.w_slL1, Fw.w_slL2, Fw.w_slU1, Fw.w_slU2, Fw.w_seq, Fw.w_seqR, Fw.w_seqB, Fw.w_seqC, Fw.w_seqE, Fw.w_ret, Fw.w_do, Fw.w_asg, Fw.w_tg, Fw.w_sifT, Fw.w_sifF, Fw.w_gs, Fw.w_gsnil, Fw.w_gscons, Fw.w_for, Fw.w_src, Fw.w_srcA, Fw.w_src2, Fw.w_lc, Fw.w_endN, Fw.w_endR, Fw.w_endE, Fw.e_binL, Fw.e_binR, Fw.e_un, Fw.e_and, Fw.e_or, Fw.e_not, Fw.e_ife, Fw.e_arg, Fw.e_consL, Fw.e_consR, Fw.e_bmA, Fw.e_bm, Fw.e_ret, Fw.e_do, Fw.e_asg, Fw.e_if, Fw.e_for, Fw.e_src, Fw.e_srcA, Fw.v_x0, Fw.v_s0, Fw.v_x1, Fw.v_s1, Fw.v_x2, Fw.v_s2, Fw.v_x3, Fw.v_s3, Fw.v_x4, Fw.v_s4, Fw.v_x5, Fw.v_s5, Fw.v_x6, Fw.v_s6, Fw.v_x7, Fw.v_s7, Fw.v_x8, Fw.v_s8, Fw.v_x9, Fw.v_s9, Fw.v_x10, Fw.v_s10, Fw.v_x11, Fw.v_s11, Fw.v_x12, Fw.v_s12, Fw.v_x13, Fw.v_s13, Fw.v_x14, Fw.v_s14, Fw.v_x15, Fw.v_s15, Fw.v_x16, Fw.v_s16, Fw.v_x17, Fw.v_s17, Fw.v_x18, Fw.v_s18, Fw.v_x19, Fw.v_s19, Fw.v_x20, Fw.v_s20, Fw.v_x21, Fw.v_s21, Fw.v_x22, Fw.v_s22, Fw.v_x23, Fw.v_s23, Fw.v_x24, Fw.v_s24, Fw.v_x25, Fw.v_s25, Fw.v_unp1, Fw.v_unpL1, Fw.v_unp2, Fw.v_unpL2, Fw.v_unp3, Fw.v_unpL3, Fw.v_unp4, Fw.v_unpL4, Fw.v_unp5, Fw.v_unpL5, Fw.v_unp6, Fw.v_unpL6, Fw.v_unp7, Fw.v_unpL7, Fw.v_unp8, Fw.v_unpL8, Fw.v_addC, Fw.v_dic, Fw.v_zipL, Fw.v_addCS, Fw.v_strBB, Fw.v_strBN, Fw.v_strBS, Fw.v_joinC, Fw.v_fld, Fw.w_fld, Fw.v_sfld, Fw.w_sfld1, Fw.w_sfld2, Fw.v_meth, Fw.w_meth, Fw.w_argD, Fw.v_make, Fw.w_make, Fw.w_madeN, Fw.w_madeE, Fw.e_doE, Fw.w_setAt, Fw.v_raise, Fw.v_tryAs, Fw.v_tryMany, Fw.w_tryN, Fw.w_tryR, Fw.w_tryC, Fw.w_tryE, Fw.w_trmN, Fw.w_trmR, Fw.w_trmC, Fw.w_trmE, Fw.w_hdY, Fw.w_hdN, Fw.w_all, Fw.w_unN, Fw.w_unC, Fw.w_unR, Fw.w_unN0, Fw.w_unC0, Fw.w_isE, Fw.w_tabN, Fw.w_goN, Fw.w_goC, Fw.w_turn, Fw.v_lenli, Fw.v_ixli, Fw.v_lenT, Fw.v_addT, Fw.v_eqT, Fw.v_neT, Fw.v_eqI, Fw.v_neI, Fw.v_strN, Fw.v_strS, Fw.v_ord, Fw.v_appC, Fw.v_pow18, Fw.v_ixT, Fw.v_lst, Fw.v_tup, Fw.v_cel, Fw.v_appT, Fw.v_appL, Fw.v_rng1, Fw.v_enT, Fw.v_iT, Fw.v_iL, Fw.v_iTp, Fw.v_cutLTo, Fw.v_cutLFrom, Fw.v_wipe0, Fw.v_wipe1, Fw.w_te, Fw.v_cutTo, Fw.v_cutFrom, Fw.v_cutLast, Fw.v_splT, Fw.v_rsplT, Fw.v_rfindT, Fw.v_endsT, Fw.v_inT, Fw.v_notInT, Fw.v_joinT, Fw.v_tab, Fw.w_tabL, Fw.w_tabR, Fw.v_lstT, Fw.v_lstL, Fw.v_tupT, Fw.v_tupL, Fw.v_isBt, Fw.v_isBf, Fw.v_isBi, Fw.v_isBs, Fw.v_ixL0, Fw.v_ixL1, Fw.v_isTs, Fw.v_isTsI, Fw.v_isTsB, Fw.v_allB, Fw.v_all0, Fw.v_all1, Fw.v_all2, Fw.v_all3, Fw.v_all4, Fw.v_all5, Fw.v_all6, Fw.v_all7, Fw.v_all8, Fw.v_appT2, Fw.v_lz, Fw.v_castN, Fw.v_zpN, Fw.v_zpN2, Fw.v_zpC, Fw.v_intT, Fw.v_in2, Fw.v_lcNil, Fw.v_lcCons, Fw.w_lcT, Fw.w_lcCt, Fw.w_lcCf, Fw.w_lcE, Fw.v_yes, Fw.v_finF, Fw.v_loopNil, Fw.v_loopCons, Fw.w_restN, Fw.w_restC, Fw.w_restB, Fw.w_restR, Fw.o_lt, Fw.o_le, Fw.o_gt, Fw.o_ge, Fw.o_addI, Fw.o_sub, Fw.o_neg, Fw.o_mul, Fw.o_mod, Fw.o_div, Fw.f_intI, Fw.f_intB, Fw.f_max, Fw.f_min, Fw.f_lenL, Fw.f_lenT, decide_true, decide_false, Bool.not_true, Bool.not_false, List.map_cons, List.map_nil, List.set_cons_zero, List.set_cons_succ, List.drop_succ_cons, List.drop_zero, List.take_succ_cons, List.take_zero, List.replicate_succ, List.replicate_zero, List.cons_append, List.nil_append, List.append_nil, ne_eq, not_false_eq_true, not_true_eq_false, and_self, eq_self, and_true, and_false, false_and, true_and, reduceIte, if_true, if_false, reduceCtorEq, List.length_cons, List.length_nil, List.length_map, Fw.snoc_at, Fw.snoc_set, Fw.tyL_snoc, decide_eq_true_eq, Bool.and_true, Bool.true_and, Bool.and_false, Bool.false_and, Nat.reduceSub, Nat.reduceAdd, Int.reduceAdd, Int.reduceSub, Int.reduceMul, Int.reduceNeg, Int.reduceLT, Int.reduceLE, Int.reduceEq, Int.reduceMod, Int.reduceDiv, Int.reduceToNat, Nat.reduceEqDiff, b__law_mixed, lmix]
def lleft (ns : List Int) (k i left : Int) : Int := if left < 1 then lmix (at_ ns k + 97 * at_ ns (k + i % 40)) (31 * k + i) else left
def lrowGo (ns : List Int) (k base : Int) : Nat → Int → Int × List Int
  | 0, left => (left, [])
  | n + 1, left => let p := lrowGo ns k base n left; (lleft ns k n p.1 / base, p.2 ++ [lleft ns k n p.1 % base])
def lrow (ns : List Int) (k : Int) (many : Nat) (base : Int) : List Int := (lrowGo ns k base many (at_ ns k - E18)).2
theorem lrow_len (ns : List Int) (k base : Int) (many : Nat) (left : Int) : (lrowGo ns k base many left).2.length = many := by
  induction many with
  | zero => rfl
  | succ n ih => simp [lrowGo, ih]
theorem lrow_bd (ns : List Int) (k base : Int) (many : Nat) (left : Int) (hb : 0 < base) : ∀ d ∈ (lrowGo ns k base many left).2, 0 ≤ d ∧ d < base := by
  induction many with
  | zero => simp [lrowGo]
  | succ n ih =>
    intro d hd
    simp only [lrowGo, List.mem_append, List.mem_singleton] at hd
    rcases hd with hd | rfl
    · exact ih d hd
    · exact ⟨Int.emod_nonneg _ (by omega), Int.emod_lt_of_pos _ hb⟩
theorem law_row (ns : List Int) (k : Int) (many : Nat) (base : Int) (hk : 0 ≤ k) (hm : many ≤ 1000) (hb : 1 ≤ base) (hb2 : base < 1073741824) (g : Gr) :
    m__law_row [li ns, .int k, .int many, .int base] g = .ok (li (lrow ns k many base)) g := by
  refine pure_ret (g2 := [.dead]) rfl ?_ (low_li _)
  simp -implicitDefEqProofs (disch := (first | exact Fw.tyL_snoc _ | omega | assumption | ((try simp only [List.length_append, List.length_cons, List.length_nil, List.length_map, List.length_take, List.length_drop, List.length_range, List.length_replicate, Fw.tyL_snoc]); first | done | omega))) only [Fw.v_c, Fw.v_bin, Fw.v_un, Fw.v_and, Fw.v_or, Fw.v_not, Fw.v_ife, Fw.v_args, Fw.v_nil, Fw.v_cons, Fw.v_bm, Fw.v_frz, Fw.v_chain, Fw.v_slLU, Fw.v_slL, Fw.v_slU, Fw.v_lc, Fw.v_seq, Fw.v_snil, Fw.v_ret, Fw.v_retN, Fw.v_brk, Fw.v_cnt, Fw.v_do, Fw.v_asg, Fw.v_if, Fw.v_for, Fw.v_srcOf, Fw.v_srcA, Fw.v_fn, Fw.w_binL, Fw.w_binR, Fw.w_un, Fw.w_andT, Fw.w_andF, Fw.w_orT, Fw.w_orF, Fw.w_not, Fw.w_ifT, Fw.w_ifF, Fw.w_arg, Fw.w_consL, Fw.w_consR, Fw.w_bmA, Fw.w_bmS, Fw.w_bm, Fw.w_frz, Fw.w_ch0, Fw.w_ch1, Fw.w_ch2T, Fw.w_ch2F, Fw.w_sl1, Fw.w_sl2, Fw.w_sl3, Fw.w_slL1, Fw.w_slL2, Fw.w_slU1, Fw.w_slU2, Fw.w_seq, Fw.w_seqR, Fw.w_seqB, Fw.w_seqC, Fw.w_seqE, Fw.w_ret, Fw.w_do, Fw.w_asg, Fw.w_tg, Fw.w_sifT, Fw.w_sifF, Fw.w_gs, Fw.w_gsnil, Fw.w_gscons, Fw.w_for, Fw.w_src, Fw.w_srcA, Fw.w_src2, Fw.w_lc, Fw.w_endN, Fw.w_endR, Fw.w_endE, Fw.e_binL, Fw.e_binR, Fw.e_un, Fw.e_and, Fw.e_or, Fw.e_not, Fw.e_ife, Fw.e_arg, Fw.e_consL, Fw.e_consR, Fw.e_bmA, Fw.e_bm, Fw.e_ret, Fw.e_do, Fw.e_asg, Fw.e_if, Fw.e_for, Fw.e_src, Fw.e_srcA, Fw.v_x0, Fw.v_s0, Fw.v_x1, Fw.v_s1, Fw.v_x2, Fw.v_s2, Fw.v_x3, Fw.v_s3, Fw.v_x4, Fw.v_s4, Fw.v_x5, Fw.v_s5, Fw.v_x6, Fw.v_s6, Fw.v_x7, Fw.v_s7, Fw.v_x8, Fw.v_s8, Fw.v_x9, Fw.v_s9, Fw.v_x10, Fw.v_s10, Fw.v_x11, Fw.v_s11, Fw.v_x12, Fw.v_s12, Fw.v_x13, Fw.v_s13, Fw.v_x14, Fw.v_s14, Fw.v_x15, Fw.v_s15, Fw.v_x16, Fw.v_s16, Fw.v_x17, Fw.v_s17, Fw.v_x18, Fw.v_s18, Fw.v_x19, Fw.v_s19, Fw.v_x20, Fw.v_s20, Fw.v_x21, Fw.v_s21, Fw.v_x22, Fw.v_s22, Fw.v_x23, Fw.v_s23, Fw.v_x24, Fw.v_s24, Fw.v_x25, Fw.v_s25, Fw.v_unp1, Fw.v_unpL1, Fw.v_unp2, Fw.v_unpL2, Fw.v_unp3, Fw.v_unpL3, Fw.v_unp4, Fw.v_unpL4, Fw.v_unp5, Fw.v_unpL5, Fw.v_unp6, Fw.v_unpL6, Fw.v_unp7, Fw.v_unpL7, Fw.v_unp8, Fw.v_unpL8, Fw.v_addC, Fw.v_dic, Fw.v_zipL, Fw.v_addCS, Fw.v_strBB, Fw.v_strBN, Fw.v_strBS, Fw.v_joinC, Fw.v_fld, Fw.w_fld, Fw.v_sfld, Fw.w_sfld1, Fw.w_sfld2, Fw.v_meth, Fw.w_meth, Fw.w_argD, Fw.v_make, Fw.w_make, Fw.w_madeN, Fw.w_madeE, Fw.e_doE, Fw.w_setAt, Fw.v_raise, Fw.v_tryAs, Fw.v_tryMany, Fw.w_tryN, Fw.w_tryR, Fw.w_tryC, Fw.w_tryE, Fw.w_trmN, Fw.w_trmR, Fw.w_trmC, Fw.w_trmE, Fw.w_hdY, Fw.w_hdN, Fw.w_all, Fw.w_unN, Fw.w_unC, Fw.w_unR, Fw.w_unN0, Fw.w_unC0, Fw.w_isE, Fw.w_tabN, Fw.w_goN, Fw.w_goC, Fw.w_turn, Fw.v_lenli, Fw.v_ixli, Fw.v_lenT, Fw.v_addT, Fw.v_eqT, Fw.v_neT, Fw.v_eqI, Fw.v_neI, Fw.v_strN, Fw.v_strS, Fw.v_ord, Fw.v_appC, Fw.v_pow18, Fw.v_ixT, Fw.v_lst, Fw.v_tup, Fw.v_cel, Fw.v_appT, Fw.v_appL, Fw.v_rng1, Fw.v_enT, Fw.v_iT, Fw.v_iL, Fw.v_iTp, Fw.v_cutLTo, Fw.v_cutLFrom, Fw.v_wipe0, Fw.v_wipe1, Fw.w_te, Fw.v_cutTo, Fw.v_cutFrom, Fw.v_cutLast, Fw.v_splT, Fw.v_rsplT, Fw.v_rfindT, Fw.v_endsT, Fw.v_inT, Fw.v_notInT, Fw.v_joinT, Fw.v_tab, Fw.w_tabL, Fw.w_tabR, Fw.v_lstT, Fw.v_lstL, Fw.v_tupT, Fw.v_tupL, Fw.v_isBt, Fw.v_isBf, Fw.v_isBi, Fw.v_isBs, Fw.v_ixL0, Fw.v_ixL1, Fw.v_isTs, Fw.v_isTsI, Fw.v_isTsB, Fw.v_allB, Fw.v_all0, Fw.v_all1, Fw.v_all2, Fw.v_all3, Fw.v_all4, Fw.v_all5, Fw.v_all6, Fw.v_all7, Fw.v_all8, Fw.v_appT2, Fw.v_lz, Fw.v_castN, Fw.v_zpN, Fw.v_zpN2, Fw.v_zpC, Fw.v_intT, Fw.v_in2, Fw.v_lcNil, Fw.v_lcCons, Fw.w_lcT, Fw.w_lcCt, Fw.w_lcCf, Fw.w_lcE, Fw.v_yes, Fw.v_finF, Fw.v_loopNil, Fw.v_loopCons, Fw.w_restN, Fw.w_restC, Fw.w_restB, Fw.w_restR, Fw.o_lt, Fw.o_le, Fw.o_gt, Fw.o_ge, Fw.o_addI, Fw.o_sub, Fw.o_neg, Fw.o_mul, Fw.o_mod, Fw.o_div, Fw.f_intI, Fw.f_intB, Fw.f_max, Fw.f_min, Fw.f_lenL, Fw.f_lenT, decide_true, decide_false, Bool.not_true, Bool.not_false, List.map_cons, List.map_nil, List.set_cons_zero, List.set_cons_succ, List.drop_succ_cons, List.drop_zero, List.take_succ_cons, List.take_zero, List.replicate_succ, List.replicate_zero, List.cons_append, List.nil_append, List.append_nil, ne_eq, not_false_eq_true, not_true_eq_false, and_self, eq_self, and_true, and_false, false_and, true_and, reduceIte, if_true, if_false, reduceCtorEq, List.length_cons, List.length_nil, List.length_map, Fw.snoc_at, Fw.snoc_set, Fw.tyL_snoc, decide_eq_true_eq, Bool.and_true, Bool.true_and, Bool.and_false, Bool.false_and, Nat.reduceSub, Nat.reduceAdd, Int.reduceAdd, Int.reduceSub, Int.reduceMul, Int.reduceNeg, Int.reduceLT, Int.reduceLE, Int.reduceEq, Int.reduceMod, Int.reduceDiv, Int.reduceToNat, Nat.reduceEqDiff, b__law_row, law_at]
  have hm' : ((many : Int)).toNat = many := Int.toNat_natCast many
  rw [hm']
  refine rng_then (K := fun s => fSeq _ s = _) (fun i ρ g' => ∃ t : Option D, ρ = [some (li ns), some (.int k), some (.int many), some (.int base), some (.int (lrowGo ns k base i (at_ ns k - E18)).1), some (.obj g.length), t] ∧ g' = g ++ [.lst ((lrowGo ns k base i (at_ ns k - E18)).2.map .int)]) ⟨none, rfl, rfl⟩ ?_ ?_
  · rintro i ρ g' hi ⟨t, rfl, rfl⟩
    have hl := lrow_len ns k base i (at_ ns k - E18)
    generalize hp : lrowGo ns k base i (at_ ns k - E18) = p at *
    by_cases hc : p.1 < 1
    · simp -implicitDefEqProofs (disch := (first | exact Fw.tyL_snoc _ | omega | assumption | ((try simp only [List.length_append, List.length_cons, List.length_nil, List.length_map, List.length_take, List.length_drop, List.length_range, List.length_replicate, Fw.tyL_snoc]); first | done | omega))) only [Fw.v_c, Fw.v_bin, Fw.v_un, Fw.v_and, Fw.v_or, Fw.v_not, Fw.v_ife, Fw.v_args, Fw.v_nil, Fw.v_cons, Fw.v_bm, Fw.v_frz, Fw.v_chain, Fw.v_slLU, Fw.v_slL, Fw.v_slU, Fw.v_lc, Fw.v_seq, Fw.v_snil, Fw.v_ret, Fw.v_retN, Fw.v_brk, Fw.v_cnt, Fw.v_do, Fw.v_asg, Fw.v_if, Fw.v_for, Fw.v_srcOf, Fw.v_srcA, Fw.v_fn, Fw.w_binL, Fw.w_binR, Fw.w_un, Fw.w_andT, Fw.w_andF, Fw.w_orT, Fw.w_orF, Fw.w_not, Fw.w_ifT, Fw.w_ifF, Fw.w_arg, Fw.w_consL, Fw.w_consR, Fw.w_bmA, Fw.w_bmS, Fw.w_bm, Fw.w_frz, Fw.w_ch0, Fw.w_ch1, Fw.w_ch2T, Fw.w_ch2F, Fw.w_sl1, Fw.w_sl2, Fw.w_sl3, Fw.w_slL1, Fw.w_slL2, Fw.w_slU1, Fw.w_slU2, Fw.w_seq, Fw.w_seqR, Fw.w_seqB, Fw.w_seqC, Fw.w_seqE, Fw.w_ret, Fw.w_do, Fw.w_asg, Fw.w_tg, Fw.w_sifT, Fw.w_sifF, Fw.w_gs, Fw.w_gsnil, Fw.w_gscons, Fw.w_for, Fw.w_src, Fw.w_srcA, Fw.w_src2, Fw.w_lc, Fw.w_endN, Fw.w_endR, Fw.w_endE, Fw.e_binL, Fw.e_binR, Fw.e_un, Fw.e_and, Fw.e_or, Fw.e_not, Fw.e_ife, Fw.e_arg, Fw.e_consL, Fw.e_consR, Fw.e_bmA, Fw.e_bm, Fw.e_ret, Fw.e_do, Fw.e_asg, Fw.e_if, Fw.e_for, Fw.e_src, Fw.e_srcA, Fw.v_x0, Fw.v_s0, Fw.v_x1, Fw.v_s1, Fw.v_x2, Fw.v_s2, Fw.v_x3, Fw.v_s3, Fw.v_x4, Fw.v_s4, Fw.v_x5, Fw.v_s5, Fw.v_x6, Fw.v_s6, Fw.v_x7, Fw.v_s7, Fw.v_x8, Fw.v_s8, Fw.v_x9, Fw.v_s9, Fw.v_x10, Fw.v_s10, Fw.v_x11, Fw.v_s11, Fw.v_x12, Fw.v_s12, Fw.v_x13, Fw.v_s13, Fw.v_x14, Fw.v_s14, Fw.v_x15, Fw.v_s15, Fw.v_x16, Fw.v_s16, Fw.v_x17, Fw.v_s17, Fw.v_x18, Fw.v_s18, Fw.v_x19, Fw.v_s19, Fw.v_x20, Fw.v_s20, Fw.v_x21, Fw.v_s21, Fw.v_x22, Fw.v_s22, Fw.v_x23, Fw.v_s23, Fw.v_x24, Fw.v_s24, Fw.v_x25, Fw.v_s25, Fw.v_unp1, Fw.v_unpL1, Fw.v_unp2, Fw.v_unpL2, Fw.v_unp3, Fw.v_unpL3, Fw.v_unp4, Fw.v_unpL4, Fw.v_unp5, Fw.v_unpL5, Fw.v_unp6, Fw.v_unpL6, Fw.v_unp7, Fw.v_unpL7, Fw.v_unp8, Fw.v_unpL8, Fw.v_addC, Fw.v_dic, Fw.v_zipL, Fw.v_addCS, Fw.v_strBB, Fw.v_strBN, Fw.v_strBS, Fw.v_joinC, Fw.v_fld, Fw.w_fld, Fw.v_sfld, Fw.w_sfld1, Fw.w_sfld2, Fw.v_meth, Fw.w_meth, Fw.w_argD, Fw.v_make, Fw.w_make, Fw.w_madeN, Fw.w_madeE, Fw.e_doE, Fw.w_setAt, Fw.v_raise, Fw.v_tryAs, Fw.v_tryMany, Fw.w_tryN, Fw.w_tryR, Fw.w_tryC, Fw.w_tryE, Fw.w_trmN, Fw.w_trmR, Fw.w_trmC, Fw.w_trmE, Fw.w_hdY, Fw.w_hdN, Fw.w_all, Fw.w_unN, Fw.w_unC, Fw.w_unR, Fw.w_unN0, Fw.w_unC0, Fw.w_isE, Fw.w_tabN, Fw.w_goN, Fw.w_goC, Fw.w_turn, Fw.v_lenli, Fw.v_ixli, Fw.v_lenT, Fw.v_addT, Fw.v_eqT, Fw.v_neT, Fw.v_eqI, Fw.v_neI, Fw.v_strN, Fw.v_strS, Fw.v_ord, Fw.v_appC, Fw.v_pow18, Fw.v_ixT, Fw.v_lst, Fw.v_tup, Fw.v_cel, Fw.v_appT, Fw.v_appL, Fw.v_rng1, Fw.v_enT, Fw.v_iT, Fw.v_iL, Fw.v_iTp, Fw.v_cutLTo, Fw.v_cutLFrom, Fw.v_wipe0, Fw.v_wipe1, Fw.w_te, Fw.v_cutTo, Fw.v_cutFrom, Fw.v_cutLast, Fw.v_splT, Fw.v_rsplT, Fw.v_rfindT, Fw.v_endsT, Fw.v_inT, Fw.v_notInT, Fw.v_joinT, Fw.v_tab, Fw.w_tabL, Fw.w_tabR, Fw.v_lstT, Fw.v_lstL, Fw.v_tupT, Fw.v_tupL, Fw.v_isBt, Fw.v_isBf, Fw.v_isBi, Fw.v_isBs, Fw.v_ixL0, Fw.v_ixL1, Fw.v_isTs, Fw.v_isTsI, Fw.v_isTsB, Fw.v_allB, Fw.v_all0, Fw.v_all1, Fw.v_all2, Fw.v_all3, Fw.v_all4, Fw.v_all5, Fw.v_all6, Fw.v_all7, Fw.v_all8, Fw.v_appT2, Fw.v_lz, Fw.v_castN, Fw.v_zpN, Fw.v_zpN2, Fw.v_zpC, Fw.v_intT, Fw.v_in2, Fw.v_lcNil, Fw.v_lcCons, Fw.w_lcT, Fw.w_lcCt, Fw.w_lcCf, Fw.w_lcE, Fw.v_yes, Fw.v_finF, Fw.v_loopNil, Fw.v_loopCons, Fw.w_restN, Fw.w_restC, Fw.w_restB, Fw.w_restR, Fw.o_lt, Fw.o_le, Fw.o_gt, Fw.o_ge, Fw.o_addI, Fw.o_sub, Fw.o_neg, Fw.o_mul, Fw.o_mod, Fw.o_div, Fw.f_intI, Fw.f_intB, Fw.f_max, Fw.f_min, Fw.f_lenL, Fw.f_lenT, decide_true, decide_false, Bool.not_true, Bool.not_false, List.map_cons, List.map_nil, List.set_cons_zero, List.set_cons_succ, List.drop_succ_cons, List.drop_zero, List.take_succ_cons, List.take_zero, List.replicate_succ, List.replicate_zero, List.cons_append, List.nil_append, List.append_nil, ne_eq, not_false_eq_true, not_true_eq_false, and_self, eq_self, and_true, and_false, false_and, true_and, reduceIte, if_true, if_false, reduceCtorEq, List.length_cons, List.length_nil, List.length_map, Fw.snoc_at, Fw.snoc_set, Fw.tyL_snoc, decide_eq_true_eq, Bool.and_true, Bool.true_and, Bool.and_false, Bool.false_and, Nat.reduceSub, Nat.reduceAdd, Int.reduceAdd, Int.reduceSub, Int.reduceMul, Int.reduceNeg, Int.reduceLT, Int.reduceLE, Int.reduceEq, Int.reduceMod, Int.reduceDiv, Int.reduceToNat, Nat.reduceEqDiff, law_at, law_mixed, hc]
      refine ⟨some (.int (i : Int)), ?_, ?_⟩ <;> simp [lrowGo, hp, lleft, hc]
    · simp -implicitDefEqProofs (disch := (first | exact Fw.tyL_snoc _ | omega | assumption | ((try simp only [List.length_append, List.length_cons, List.length_nil, List.length_map, List.length_take, List.length_drop, List.length_range, List.length_replicate, Fw.tyL_snoc]); first | done | omega))) only [Fw.v_c, Fw.v_bin, Fw.v_un, Fw.v_and, Fw.v_or, Fw.v_not, Fw.v_ife, Fw.v_args, Fw.v_nil, Fw.v_cons, Fw.v_bm, Fw.v_frz, Fw.v_chain, Fw.v_slLU, Fw.v_slL, Fw.v_slU, Fw.v_lc, Fw.v_seq, Fw.v_snil, Fw.v_ret, Fw.v_retN, Fw.v_brk, Fw.v_cnt, Fw.v_do, Fw.v_asg, Fw.v_if, Fw.v_for, Fw.v_srcOf, Fw.v_srcA, Fw.v_fn, Fw.w_binL, Fw.w_binR, Fw.w_un, Fw.w_andT, Fw.w_andF, Fw.w_orT, Fw.w_orF, Fw.w_not, Fw.w_ifT, Fw.w_ifF, Fw.w_arg, Fw.w_consL, Fw.w_consR, Fw.w_bmA, Fw.w_bmS, Fw.w_bm, Fw.w_frz, Fw.w_ch0, Fw.w_ch1, Fw.w_ch2T, Fw.w_ch2F, Fw.w_sl1, Fw.w_sl2, Fw.w_sl3, Fw.w_slL1, Fw.w_slL2, Fw.w_slU1, Fw.w_slU2, Fw.w_seq, Fw.w_seqR, Fw.w_seqB, Fw.w_seqC, Fw.w_seqE, Fw.w_ret, Fw.w_do, Fw.w_asg, Fw.w_tg, Fw.w_sifT, Fw.w_sifF, Fw.w_gs, Fw.w_gsnil, Fw.w_gscons, Fw.w_for, Fw.w_src, Fw.w_srcA, Fw.w_src2, Fw.w_lc, Fw.w_endN, Fw.w_endR, Fw.w_endE, Fw.e_binL, Fw.e_binR, Fw.e_un, Fw.e_and, Fw.e_or, Fw.e_not, Fw.e_ife, Fw.e_arg, Fw.e_consL, Fw.e_consR, Fw.e_bmA, Fw.e_bm, Fw.e_ret, Fw.e_do, Fw.e_asg, Fw.e_if, Fw.e_for, Fw.e_src, Fw.e_srcA, Fw.v_x0, Fw.v_s0, Fw.v_x1, Fw.v_s1, Fw.v_x2, Fw.v_s2, Fw.v_x3, Fw.v_s3, Fw.v_x4, Fw.v_s4, Fw.v_x5, Fw.v_s5, Fw.v_x6, Fw.v_s6, Fw.v_x7, Fw.v_s7, Fw.v_x8, Fw.v_s8, Fw.v_x9, Fw.v_s9, Fw.v_x10, Fw.v_s10, Fw.v_x11, Fw.v_s11, Fw.v_x12, Fw.v_s12, Fw.v_x13, Fw.v_s13, Fw.v_x14, Fw.v_s14, Fw.v_x15, Fw.v_s15, Fw.v_x16, Fw.v_s16, Fw.v_x17, Fw.v_s17, Fw.v_x18, Fw.v_s18, Fw.v_x19, Fw.v_s19, Fw.v_x20, Fw.v_s20, Fw.v_x21, Fw.v_s21, Fw.v_x22, Fw.v_s22, Fw.v_x23, Fw.v_s23, Fw.v_x24, Fw.v_s24, Fw.v_x25, Fw.v_s25, Fw.v_unp1, Fw.v_unpL1, Fw.v_unp2, Fw.v_unpL2, Fw.v_unp3, Fw.v_unpL3, Fw.v_unp4, Fw.v_unpL4, Fw.v_unp5, Fw.v_unpL5, Fw.v_unp6, Fw.v_unpL6, Fw.v_unp7, Fw.v_unpL7, Fw.v_unp8, Fw.v_unpL8, Fw.v_addC, Fw.v_dic, Fw.v_zipL, Fw.v_addCS, Fw.v_strBB, Fw.v_strBN, Fw.v_strBS, Fw.v_joinC, Fw.v_fld, Fw.w_fld, Fw.v_sfld, Fw.w_sfld1, Fw.w_sfld2, Fw.v_meth, Fw.w_meth, Fw.w_argD, Fw.v_make, Fw.w_make, Fw.w_madeN, Fw.w_madeE, Fw.e_doE, Fw.w_setAt, Fw.v_raise, Fw.v_tryAs, Fw.v_tryMany, Fw.w_tryN, Fw.w_tryR, Fw.w_tryC, Fw.w_tryE, Fw.w_trmN, Fw.w_trmR, Fw.w_trmC, Fw.w_trmE, Fw.w_hdY, Fw.w_hdN, Fw.w_all, Fw.w_unN, Fw.w_unC, Fw.w_unR, Fw.w_unN0, Fw.w_unC0, Fw.w_isE, Fw.w_tabN, Fw.w_goN, Fw.w_goC, Fw.w_turn, Fw.v_lenli, Fw.v_ixli, Fw.v_lenT, Fw.v_addT, Fw.v_eqT, Fw.v_neT, Fw.v_eqI, Fw.v_neI, Fw.v_strN, Fw.v_strS, Fw.v_ord, Fw.v_appC, Fw.v_pow18, Fw.v_ixT, Fw.v_lst, Fw.v_tup, Fw.v_cel, Fw.v_appT, Fw.v_appL, Fw.v_rng1, Fw.v_enT, Fw.v_iT, Fw.v_iL, Fw.v_iTp, Fw.v_cutLTo, Fw.v_cutLFrom, Fw.v_wipe0, Fw.v_wipe1, Fw.w_te, Fw.v_cutTo, Fw.v_cutFrom, Fw.v_cutLast, Fw.v_splT, Fw.v_rsplT, Fw.v_rfindT, Fw.v_endsT, Fw.v_inT, Fw.v_notInT, Fw.v_joinT, Fw.v_tab, Fw.w_tabL, Fw.w_tabR, Fw.v_lstT, Fw.v_lstL, Fw.v_tupT, Fw.v_tupL, Fw.v_isBt, Fw.v_isBf, Fw.v_isBi, Fw.v_isBs, Fw.v_ixL0, Fw.v_ixL1, Fw.v_isTs, Fw.v_isTsI, Fw.v_isTsB, Fw.v_allB, Fw.v_all0, Fw.v_all1, Fw.v_all2, Fw.v_all3, Fw.v_all4, Fw.v_all5, Fw.v_all6, Fw.v_all7, Fw.v_all8, Fw.v_appT2, Fw.v_lz, Fw.v_castN, Fw.v_zpN, Fw.v_zpN2, Fw.v_zpC, Fw.v_intT, Fw.v_in2, Fw.v_lcNil, Fw.v_lcCons, Fw.w_lcT, Fw.w_lcCt, Fw.w_lcCf, Fw.w_lcE, Fw.v_yes, Fw.v_finF, Fw.v_loopNil, Fw.v_loopCons, Fw.w_restN, Fw.w_restC, Fw.w_restB, Fw.w_restR, Fw.o_lt, Fw.o_le, Fw.o_gt, Fw.o_ge, Fw.o_addI, Fw.o_sub, Fw.o_neg, Fw.o_mul, Fw.o_mod, Fw.o_div, Fw.f_intI, Fw.f_intB, Fw.f_max, Fw.f_min, Fw.f_lenL, Fw.f_lenT, decide_true, decide_false, Bool.not_true, Bool.not_false, List.map_cons, List.map_nil, List.set_cons_zero, List.set_cons_succ, List.drop_succ_cons, List.drop_zero, List.take_succ_cons, List.take_zero, List.replicate_succ, List.replicate_zero, List.cons_append, List.nil_append, List.append_nil, ne_eq, not_false_eq_true, not_true_eq_false, and_self, eq_self, and_true, and_false, false_and, true_and, reduceIte, if_true, if_false, reduceCtorEq, List.length_cons, List.length_nil, List.length_map, Fw.snoc_at, Fw.snoc_set, Fw.tyL_snoc, decide_eq_true_eq, Bool.and_true, Bool.true_and, Bool.and_false, Bool.false_and, Nat.reduceSub, Nat.reduceAdd, Int.reduceAdd, Int.reduceSub, Int.reduceMul, Int.reduceNeg, Int.reduceLT, Int.reduceLE, Int.reduceEq, Int.reduceMod, Int.reduceDiv, Int.reduceToNat, Nat.reduceEqDiff, law_at, law_mixed, hc]
      refine ⟨some (.int (i : Int)), ?_, ?_⟩ <;> simp [lrowGo, hp, lleft, hc]
  · rintro ρ' g' ⟨t, rfl, rfl⟩
    simp -implicitDefEqProofs (disch := (first | exact Fw.tyL_snoc _ | omega | assumption | ((try simp only [List.length_append, List.length_cons, List.length_nil, List.length_map, List.length_take, List.length_drop, List.length_range, List.length_replicate, Fw.tyL_snoc]); first | done | omega))) only [Fw.v_c, Fw.v_bin, Fw.v_un, Fw.v_and, Fw.v_or, Fw.v_not, Fw.v_ife, Fw.v_args, Fw.v_nil, Fw.v_cons, Fw.v_bm, Fw.v_frz, Fw.v_chain, Fw.v_slLU, Fw.v_slL, Fw.v_slU, Fw.v_lc, Fw.v_seq, Fw.v_snil, Fw.v_ret, Fw.v_retN, Fw.v_brk, Fw.v_cnt, Fw.v_do, Fw.v_asg, Fw.v_if, Fw.v_for, Fw.v_srcOf, Fw.v_srcA, Fw.v_fn, Fw.w_binL, Fw.w_binR, Fw.w_un, Fw.w_andT, Fw.w_andF, Fw.w_orT, Fw.w_orF, Fw.w_not, Fw.w_ifT, Fw.w_ifF, Fw.w_arg, Fw.w_consL, Fw.w_consR, Fw.w_bmA, Fw.w_bmS, Fw.w_bm, Fw.w_frz, Fw.w_ch0, Fw.w_ch1, Fw.w_ch2T, Fw.w_ch2F, Fw.w_sl1, Fw.w_sl2, Fw.w_sl3, Fw.w_slL1, Fw.w_slL2, Fw.w_slU1, Fw.w_slU2, Fw.w_seq, Fw.w_seqR, Fw.w_seqB, Fw.w_seqC, Fw.w_seqE, Fw.w_ret, Fw.w_do, Fw.w_asg, Fw.w_tg, Fw.w_sifT, Fw.w_sifF, Fw.w_gs, Fw.w_gsnil, Fw.w_gscons, Fw.w_for, Fw.w_src, Fw.w_srcA, Fw.w_src2, Fw.w_lc, Fw.w_endN, Fw.w_endR, Fw.w_endE, Fw.e_binL, Fw.e_binR, Fw.e_un, Fw.e_and, Fw.e_or, Fw.e_not, Fw.e_ife, Fw.e_arg, Fw.e_consL, Fw.e_consR, Fw.e_bmA, Fw.e_bm, Fw.e_ret, Fw.e_do, Fw.e_asg, Fw.e_if, Fw.e_for, Fw.e_src, Fw.e_srcA, Fw.v_x0, Fw.v_s0, Fw.v_x1, Fw.v_s1, Fw.v_x2, Fw.v_s2, Fw.v_x3, Fw.v_s3, Fw.v_x4, Fw.v_s4, Fw.v_x5, Fw.v_s5, Fw.v_x6, Fw.v_s6, Fw.v_x7, Fw.v_s7, Fw.v_x8, Fw.v_s8, Fw.v_x9, Fw.v_s9, Fw.v_x10, Fw.v_s10, Fw.v_x11, Fw.v_s11, Fw.v_x12, Fw.v_s12, Fw.v_x13, Fw.v_s13, Fw.v_x14, Fw.v_s14, Fw.v_x15, Fw.v_s15, Fw.v_x16, Fw.v_s16, Fw.v_x17, Fw.v_s17, Fw.v_x18, Fw.v_s18, Fw.v_x19, Fw.v_s19, Fw.v_x20, Fw.v_s20, Fw.v_x21, Fw.v_s21, Fw.v_x22, Fw.v_s22, Fw.v_x23, Fw.v_s23, Fw.v_x24, Fw.v_s24, Fw.v_x25, Fw.v_s25, Fw.v_unp1, Fw.v_unpL1, Fw.v_unp2, Fw.v_unpL2, Fw.v_unp3, Fw.v_unpL3, Fw.v_unp4, Fw.v_unpL4, Fw.v_unp5, Fw.v_unpL5, Fw.v_unp6, Fw.v_unpL6, Fw.v_unp7, Fw.v_unpL7, Fw.v_unp8, Fw.v_unpL8, Fw.v_addC, Fw.v_dic, Fw.v_zipL, Fw.v_addCS, Fw.v_strBB, Fw.v_strBN, Fw.v_strBS, Fw.v_joinC, Fw.v_fld, Fw.w_fld, Fw.v_sfld, Fw.w_sfld1, Fw.w_sfld2, Fw.v_meth, Fw.w_meth, Fw.w_argD, Fw.v_make, Fw.w_make, Fw.w_madeN, Fw.w_madeE, Fw.e_doE, Fw.w_setAt, Fw.v_raise, Fw.v_tryAs, Fw.v_tryMany, Fw.w_tryN, Fw.w_tryR, Fw.w_tryC, Fw.w_tryE, Fw.w_trmN, Fw.w_trmR, Fw.w_trmC, Fw.w_trmE, Fw.w_hdY, Fw.w_hdN, Fw.w_all, Fw.w_unN, Fw.w_unC, Fw.w_unR, Fw.w_unN0, Fw.w_unC0, Fw.w_isE, Fw.w_tabN, Fw.w_goN, Fw.w_goC, Fw.w_turn, Fw.v_lenli, Fw.v_ixli, Fw.v_lenT, Fw.v_addT, Fw.v_eqT, Fw.v_neT, Fw.v_eqI, Fw.v_neI, Fw.v_strN, Fw.v_strS, Fw.v_ord, Fw.v_appC, Fw.v_pow18, Fw.v_ixT, Fw.v_lst, Fw.v_tup, Fw.v_cel, Fw.v_appT, Fw.v_appL, Fw.v_rng1, Fw.v_enT, Fw.v_iT, Fw.v_iL, Fw.v_iTp, Fw.v_cutLTo, Fw.v_cutLFrom, Fw.v_wipe0, Fw.v_wipe1, Fw.w_te, Fw.v_cutTo, Fw.v_cutFrom, Fw.v_cutLast, Fw.v_splT, Fw.v_rsplT, Fw.v_rfindT, Fw.v_endsT, Fw.v_inT, Fw.v_notInT, Fw.v_joinT, Fw.v_tab, Fw.w_tabL, Fw.w_tabR, Fw.v_lstT, Fw.v_lstL, Fw.v_tupT, Fw.v_tupL, Fw.v_isBt, Fw.v_isBf, Fw.v_isBi, Fw.v_isBs, Fw.v_ixL0, Fw.v_ixL1, Fw.v_isTs, Fw.v_isTsI, Fw.v_isTsB, Fw.v_allB, Fw.v_all0, Fw.v_all1, Fw.v_all2, Fw.v_all3, Fw.v_all4, Fw.v_all5, Fw.v_all6, Fw.v_all7, Fw.v_all8, Fw.v_appT2, Fw.v_lz, Fw.v_castN, Fw.v_zpN, Fw.v_zpN2, Fw.v_zpC, Fw.v_intT, Fw.v_in2, Fw.v_lcNil, Fw.v_lcCons, Fw.w_lcT, Fw.w_lcCt, Fw.w_lcCf, Fw.w_lcE, Fw.v_yes, Fw.v_finF, Fw.v_loopNil, Fw.v_loopCons, Fw.w_restN, Fw.w_restC, Fw.w_restB, Fw.w_restR, Fw.o_lt, Fw.o_le, Fw.o_gt, Fw.o_ge, Fw.o_addI, Fw.o_sub, Fw.o_neg, Fw.o_mul, Fw.o_mod, Fw.o_div, Fw.f_intI, Fw.f_intB, Fw.f_max, Fw.f_min, Fw.f_lenL, Fw.f_lenT, decide_true, decide_false, Bool.not_true, Bool.not_false, List.map_cons, List.map_nil, List.set_cons_zero, List.set_cons_succ, List.drop_succ_cons, List.drop_zero, List.take_succ_cons, List.take_zero, List.replicate_succ, List.replicate_zero, List.cons_append, List.nil_append, List.append_nil, ne_eq, not_false_eq_true, not_true_eq_false, and_self, eq_self, and_true, and_false, false_and, true_and, reduceIte, if_true, if_false, reduceCtorEq, List.length_cons, List.length_nil, List.length_map, Fw.snoc_at, Fw.snoc_set, Fw.tyL_snoc, decide_eq_true_eq, Bool.and_true, Bool.true_and, Bool.and_false, Bool.false_and, Nat.reduceSub, Nat.reduceAdd, Int.reduceAdd, Int.reduceSub, Int.reduceMul, Int.reduceNeg, Int.reduceLT, Int.reduceLE, Int.reduceEq, Int.reduceMod, Int.reduceDiv, Int.reduceToNat, Nat.reduceEqDiff, frzD, lrow]

end Ww

set_option maxRecDepth 100000
set_option maxHeartbeats 4000000
namespace Ww
open PySem PySem.Spec PyProof.Rows Fw
theorem pure_retX {n k : Nat} {m : Stm} {ds : List D} {d : D} {g : Gr} (hl : ds.length = n) (h : ∃ g3, m (ds.map some ++ List.replicate (k - n) none) g = .ret d g3 ∧ ∃ g2, g3 = g ++ g2) (lo : d.low g.length = true) : pureF (fnOf n k m) ds g = .ok d g := by
  obtain ⟨g3, h, g2, rfl⟩ := h
  exact pure_ret (g2 := g2) hl h lo
theorem kinds_NoDisk (a : Nat) (g : Gr) : m__law_kindsH (a, "NoDisk") [.err "NoDisk" a] g = .ok (.lst [.str (tx [100, 105, 115, 107])]) g := by
  have e1 : ("NoDisk" : Str) ∈ exL := by decide +kernel
  have q0 : ∀ g : Gr, opIsE exL exI (a, "NoDisk") "NoRow" (.err "NoDisk" a) g = .ok (.bl false) g := fun g => (w_isE e1 (by decide +kernel)).trans (by rw [show isSub "NoDisk" "NoRow" = false by decide +kernel])
  have q1 : ∀ g : Gr, opIsE exL exI (a, "NoDisk") "NoDisk" (.err "NoDisk" a) g = .ok (.bl true) g := fun g => (w_isE e1 (by decide +kernel)).trans (by rw [show isSub "NoDisk" "NoDisk" = true by decide +kernel])
  have q2 : ∀ g : Gr, opIsE exL exI (a, "NoDisk") "Full" (.err "NoDisk" a) g = .ok (.bl false) g := fun g => (w_isE e1 (by decide +kernel)).trans (by rw [show isSub "NoDisk" "Full" = false by decide +kernel])
  have q3 : ∀ g : Gr, opIsE exL exI (a, "NoDisk") "Stopped" (.err "NoDisk" a) g = .ok (.bl false) g := fun g => (w_isE e1 (by decide +kernel)).trans (by rw [show isSub "NoDisk" "Stopped" = false by decide +kernel])
  have q4 : ∀ g : Gr, opIsE exL exI (a, "NoDisk") "NoFile" (.err "NoDisk" a) g = .ok (.bl false) g := fun g => (w_isE e1 (by decide +kernel)).trans (by rw [show isSub "NoDisk" "NoFile" = false by decide +kernel])
  have q5 : ∀ g : Gr, opIsE exL exI (a, "NoDisk") "NoPlace" (.err "NoDisk" a) g = .ok (.bl false) g := fun g => (w_isE e1 (by decide +kernel)).trans (by rw [show isSub "NoDisk" "NoPlace" = false by decide +kernel])
  have q6 : ∀ g : Gr, opIsE exL exI (a, "NoDisk") "HeldAlready" (.err "NoDisk" a) g = .ok (.bl false) g := fun g => (w_isE e1 (by decide +kernel)).trans (by rw [show isSub "NoDisk" "HeldAlready" = false by decide +kernel])
  have q7 : ∀ g : Gr, opIsE exL exI (a, "NoDisk") "NotHeld" (.err "NoDisk" a) g = .ok (.bl false) g := fun g => (w_isE e1 (by decide +kernel)).trans (by rw [show isSub "NoDisk" "NotHeld" = false by decide +kernel])
  have q8 : ∀ g : Gr, opIsE exL exI (a, "NoDisk") "NoFiles" (.err "NoDisk" a) g = .ok (.bl false) g := fun g => (w_isE e1 (by decide +kernel)).trans (by rw [show isSub "NoDisk" "NoFiles" = false by decide +kernel])
  have q9 : ∀ g : Gr, opIsE exL exI (a, "NoDisk") "NoMark" (.err "NoDisk" a) g = .ok (.bl false) g := fun g => (w_isE e1 (by decide +kernel)).trans (by rw [show isSub "NoDisk" "NoMark" = false by decide +kernel])
  have q10 : ∀ g : Gr, opIsE exL exI (a, "NoDisk") "NoRoom" (.err "NoDisk" a) g = .ok (.bl false) g := fun g => (w_isE e1 (by decide +kernel)).trans (by rw [show isSub "NoDisk" "NoRoom" = false by decide +kernel])
  have q11 : ∀ g : Gr, opIsE exL exI (a, "NoDisk") "Gone" (.err "NoDisk" a) g = .ok (.bl false) g := fun g => (w_isE e1 (by decide +kernel)).trans (by rw [show isSub "NoDisk" "Gone" = false by decide +kernel])
  have q12 : ∀ g : Gr, opIsE exL exI (a, "NoDisk") "NotClosed" (.err "NoDisk" a) g = .ok (.bl false) g := fun g => (w_isE e1 (by decide +kernel)).trans (by rw [show isSub "NoDisk" "NotClosed" = false by decide +kernel])
  have q13 : ∀ g : Gr, opIsE exL exI (a, "NoDisk") "NotBlank" (.err "NoDisk" a) g = .ok (.bl false) g := fun g => (w_isE e1 (by decide +kernel)).trans (by rw [show isSub "NoDisk" "NotBlank" = false by decide +kernel])
  have q14 : ∀ g : Gr, opIsE exL exI (a, "NoDisk") "NoDeed" (.err "NoDisk" a) g = .ok (.bl false) g := fun g => (w_isE e1 (by decide +kernel)).trans (by rw [show isSub "NoDisk" "NoDeed" = false by decide +kernel])
  have q15 : ∀ g : Gr, opIsE exL exI (a, "NoDisk") "NoHouse" (.err "NoDisk" a) g = .ok (.bl false) g := fun g => (w_isE e1 (by decide +kernel)).trans (by rw [show isSub "NoDisk" "NoHouse" = false by decide +kernel])
  have q16 : ∀ g : Gr, opIsE exL exI (a, "NoDisk") "ValueError" (.err "NoDisk" a) g = .ok (.bl true) g := fun g => (w_isE e1 (by decide +kernel)).trans (by rw [show isSub "NoDisk" "ValueError" = true by decide +kernel])
  refine pure_retX rfl ⟨?_, ?_, ?_⟩ rfl
  rotate_left
  · simp -implicitDefEqProofs (disch := (first | exact Fw.tyL_snoc _ | omega | assumption | ((try simp only [List.length_append, List.length_cons, List.length_nil, List.length_map, List.length_take, List.length_drop, List.length_range, List.length_replicate, Fw.tyL_snoc]); first | done | omega))) only [Fw.v_c, Fw.v_bin, Fw.v_un, Fw.v_and, Fw.v_or, Fw.v_not, Fw.v_ife, Fw.v_args, Fw.v_nil, Fw.v_cons, Fw.v_bm, Fw.v_frz, Fw.v_chain, Fw.v_slLU, Fw.v_slL, Fw.v_slU, Fw.v_lc, Fw.v_seq, Fw.v_snil, Fw.v_ret, Fw.v_retN, Fw.v_brk, Fw.v_cnt, Fw.v_do, Fw.v_asg, Fw.v_if, Fw.v_for, Fw.v_srcOf, Fw.v_srcA, Fw.v_fn, Fw.w_binL, Fw.w_binR, Fw.w_un, Fw.w_andT, Fw.w_andF, Fw.w_orT, Fw.w_orF, Fw.w_not, Fw.w_ifT, Fw.w_ifF, Fw.w_arg, Fw.w_consL, Fw.w_consR, Fw.w_bmA, Fw.w_bmS, Fw.w_bm, Fw.w_frz, Fw.w_ch0, Fw.w_ch1, Fw.w_ch2T, Fw.w_ch2F, Fw.w_sl1, Fw.w_sl2, Fw.w_sl3, Fw.w_slL1, Fw.w_slL2, Fw.w_slU1, Fw.w_slU2, Fw.w_seq, Fw.w_seqR, Fw.w_seqB, Fw.w_seqC, Fw.w_seqE, Fw.w_ret, Fw.w_do, Fw.w_asg, Fw.w_tg, Fw.w_sifT, Fw.w_sifF, Fw.w_gs, Fw.w_gsnil, Fw.w_gscons, Fw.w_for, Fw.w_src, Fw.w_srcA, Fw.w_src2, Fw.w_lc, Fw.w_endN, Fw.w_endR, Fw.w_endE, Fw.e_binL, Fw.e_binR, Fw.e_un, Fw.e_and, Fw.e_or, Fw.e_not, Fw.e_ife, Fw.e_arg, Fw.e_consL, Fw.e_consR, Fw.e_bmA, Fw.e_bm, Fw.e_ret, Fw.e_do, Fw.e_asg, Fw.e_if, Fw.e_for, Fw.e_src, Fw.e_srcA, Fw.v_x0, Fw.v_s0, Fw.v_x1, Fw.v_s1, Fw.v_x2, Fw.v_s2, Fw.v_x3, Fw.v_s3, Fw.v_x4, Fw.v_s4, Fw.v_x5, Fw.v_s5, Fw.v_x6, Fw.v_s6, Fw.v_x7, Fw.v_s7, Fw.v_x8, Fw.v_s8, Fw.v_x9, Fw.v_s9, Fw.v_x10, Fw.v_s10, Fw.v_x11, Fw.v_s11, Fw.v_x12, Fw.v_s12, Fw.v_x13, Fw.v_s13, Fw.v_x14, Fw.v_s14, Fw.v_x15, Fw.v_s15, Fw.v_x16, Fw.v_s16, Fw.v_x17, Fw.v_s17, Fw.v_x18, Fw.v_s18, Fw.v_x19, Fw.v_s19, Fw.v_x20, Fw.v_s20, Fw.v_x21, Fw.v_s21, Fw.v_x22, Fw.v_s22, Fw.v_x23, Fw.v_s23, Fw.v_x24, Fw.v_s24, Fw.v_x25, Fw.v_s25, Fw.v_unp1, Fw.v_unpL1, Fw.v_unp2, Fw.v_unpL2, Fw.v_unp3, Fw.v_unpL3, Fw.v_unp4, Fw.v_unpL4, Fw.v_unp5, Fw.v_unpL5, Fw.v_unp6, Fw.v_unpL6, Fw.v_unp7, Fw.v_unpL7, Fw.v_unp8, Fw.v_unpL8, Fw.v_addC, Fw.v_dic, Fw.v_zipL, Fw.v_addCS, Fw.v_strBB, Fw.v_strBN, Fw.v_strBS, Fw.v_joinC, Fw.v_fld, Fw.w_fld, Fw.v_sfld, Fw.w_sfld1, Fw.w_sfld2, Fw.v_meth, Fw.w_meth, Fw.w_argD, Fw.v_make, Fw.w_make, Fw.w_madeN, Fw.w_madeE, Fw.e_doE, Fw.w_setAt, Fw.v_raise, Fw.v_tryAs, Fw.v_tryMany, Fw.w_tryN, Fw.w_tryR, Fw.w_tryC, Fw.w_tryE, Fw.w_trmN, Fw.w_trmR, Fw.w_trmC, Fw.w_trmE, Fw.w_hdY, Fw.w_hdN, Fw.w_all, Fw.w_unN, Fw.w_unC, Fw.w_unR, Fw.w_unN0, Fw.w_unC0, Fw.w_isE, Fw.w_tabN, Fw.w_goN, Fw.w_goC, Fw.w_turn, Fw.v_lenli, Fw.v_ixli, Fw.v_lenT, Fw.v_addT, Fw.v_eqT, Fw.v_neT, Fw.v_eqI, Fw.v_neI, Fw.v_strN, Fw.v_strS, Fw.v_ord, Fw.v_appC, Fw.v_pow18, Fw.v_ixT, Fw.v_lst, Fw.v_tup, Fw.v_cel, Fw.v_appT, Fw.v_appL, Fw.v_rng1, Fw.v_enT, Fw.v_iT, Fw.v_iL, Fw.v_iTp, Fw.v_cutLTo, Fw.v_cutLFrom, Fw.v_wipe0, Fw.v_wipe1, Fw.w_te, Fw.v_cutTo, Fw.v_cutFrom, Fw.v_cutLast, Fw.v_splT, Fw.v_rsplT, Fw.v_rfindT, Fw.v_endsT, Fw.v_inT, Fw.v_notInT, Fw.v_joinT, Fw.v_tab, Fw.w_tabL, Fw.w_tabR, Fw.v_lstT, Fw.v_lstL, Fw.v_tupT, Fw.v_tupL, Fw.v_isBt, Fw.v_isBf, Fw.v_isBi, Fw.v_isBs, Fw.v_ixL0, Fw.v_ixL1, Fw.v_isTs, Fw.v_isTsI, Fw.v_isTsB, Fw.v_allB, Fw.v_all0, Fw.v_all1, Fw.v_all2, Fw.v_all3, Fw.v_all4, Fw.v_all5, Fw.v_all6, Fw.v_all7, Fw.v_all8, Fw.v_appT2, Fw.v_lz, Fw.v_castN, Fw.v_zpN, Fw.v_zpN2, Fw.v_zpC, Fw.v_intT, Fw.v_in2, Fw.v_lcNil, Fw.v_lcCons, Fw.w_lcT, Fw.w_lcCt, Fw.w_lcCf, Fw.w_lcE, Fw.v_yes, Fw.v_finF, Fw.v_loopNil, Fw.v_loopCons, Fw.w_restN, Fw.w_restC, Fw.w_restB, Fw.w_restR, Fw.o_lt, Fw.o_le, Fw.o_gt, Fw.o_ge, Fw.o_addI, Fw.o_sub, Fw.o_neg, Fw.o_mul, Fw.o_mod, Fw.o_div, Fw.f_intI, Fw.f_intB, Fw.f_max, Fw.f_min, Fw.f_lenL, Fw.f_lenT, decide_true, decide_false, Bool.not_true, Bool.not_false, List.map_cons, List.map_nil, List.set_cons_zero, List.set_cons_succ, List.drop_succ_cons, List.drop_zero, List.take_succ_cons, List.take_zero, List.replicate_succ, List.replicate_zero, List.cons_append, List.nil_append, List.append_nil, ne_eq, not_false_eq_true, not_true_eq_false, and_self, eq_self, and_true, and_false, false_and, true_and, reduceIte, if_true, if_false, reduceCtorEq, List.length_cons, List.length_nil, List.length_map, Fw.snoc_at, Fw.snoc_set, Fw.tyL_snoc, decide_eq_true_eq, Bool.and_true, Bool.true_and, Bool.and_false, Bool.false_and, Nat.reduceSub, Nat.reduceAdd, Int.reduceAdd, Int.reduceSub, Int.reduceMul, Int.reduceNeg, Int.reduceLT, Int.reduceLE, Int.reduceEq, Int.reduceMod, Int.reduceDiv, Int.reduceToNat, Nat.reduceEqDiff, b__law_kindsH, frzD, q0, q1, q2, q3, q4, q5, q6, q7, q8, q9, q10, q11, q12, q13, q14, q15, q16]
    rfl
  · exact ⟨_, by simp only [List.append_assoc]; rfl⟩

end Ww

set_option maxRecDepth 100000
set_option maxHeartbeats 4000000
namespace Ww
open PySem PySem.Spec PyProof.Rows Fw
theorem v_isI {i : Int} {g : Gr} : opIsT "int" (.int i) g = .ok (.bl true) g := rfl
theorem v_isIb {i : Int} {g : Gr} : opIsT "bool" (.int i) g = .ok (.bl false) g := rfl
theorem v_isB {b : Bool} {g : Gr} : opIsT "int" (.bl b) g = .ok (.bl true) g := rfl
theorem v_isBb {b : Bool} {g : Gr} : opIsT "bool" (.bl b) g = .ok (.bl true) g := rfl
theorem size_int (i lo hi : Int) (g : Gr) : m_is_size [.int i, .int lo, .int hi] g = .ok (.bl (decide (lo ≤ i ∧ i ≤ hi))) g := by
  refine pure_ret0 rfl ?_ rfl
  by_cases h1 : lo ≤ i
  · by_cases h2 : i ≤ hi
    · simp -implicitDefEqProofs (disch := (first | exact Fw.tyL_snoc _ | omega | assumption | ((try simp only [List.length_append, List.length_cons, List.length_nil, List.length_map, List.length_take, List.length_drop, List.length_range, List.length_replicate, Fw.tyL_snoc]); first | done | omega))) only [Fw.v_c, Fw.v_bin, Fw.v_un, Fw.v_and, Fw.v_or, Fw.v_not, Fw.v_ife, Fw.v_args, Fw.v_nil, Fw.v_cons, Fw.v_bm, Fw.v_frz, Fw.v_chain, Fw.v_slLU, Fw.v_slL, Fw.v_slU, Fw.v_lc, Fw.v_seq, Fw.v_snil, Fw.v_ret, Fw.v_retN, Fw.v_brk, Fw.v_cnt, Fw.v_do, Fw.v_asg, Fw.v_if, Fw.v_for, Fw.v_srcOf, Fw.v_srcA, Fw.v_fn, Fw.w_binL, Fw.w_binR, Fw.w_un, Fw.w_andT, Fw.w_andF, Fw.w_orT, Fw.w_orF, Fw.w_not, Fw.w_ifT, Fw.w_ifF, Fw.w_arg, Fw.w_consL, Fw.w_consR, Fw.w_bmA, Fw.w_bmS, Fw.w_bm, Fw.w_frz, Fw.w_ch0, Fw.w_ch1, Fw.w_ch2T, Fw.w_ch2F, Fw.w_sl1, Fw.w_sl2, Fw.w_sl3, Fw.w_slL1, Fw.w_slL2, Fw.w_slU1, Fw.w_slU2, Fw.w_seq, Fw.w_seqR, Fw.w_seqB, Fw.w_seqC, Fw.w_seqE, Fw.w_ret, Fw.w_do, Fw.w_asg, Fw.w_tg, Fw.w_sifT, Fw.w_sifF, Fw.w_gs, Fw.w_gsnil, Fw.w_gscons, Fw.w_for, Fw.w_src, Fw.w_srcA, Fw.w_src2, Fw.w_lc, Fw.w_endN, Fw.w_endR, Fw.w_endE, Fw.e_binL, Fw.e_binR, Fw.e_un, Fw.e_and, Fw.e_or, Fw.e_not, Fw.e_ife, Fw.e_arg, Fw.e_consL, Fw.e_consR, Fw.e_bmA, Fw.e_bm, Fw.e_ret, Fw.e_do, Fw.e_asg, Fw.e_if, Fw.e_for, Fw.e_src, Fw.e_srcA, Fw.v_x0, Fw.v_s0, Fw.v_x1, Fw.v_s1, Fw.v_x2, Fw.v_s2, Fw.v_x3, Fw.v_s3, Fw.v_x4, Fw.v_s4, Fw.v_x5, Fw.v_s5, Fw.v_x6, Fw.v_s6, Fw.v_x7, Fw.v_s7, Fw.v_x8, Fw.v_s8, Fw.v_x9, Fw.v_s9, Fw.v_x10, Fw.v_s10, Fw.v_x11, Fw.v_s11, Fw.v_x12, Fw.v_s12, Fw.v_x13, Fw.v_s13, Fw.v_x14, Fw.v_s14, Fw.v_x15, Fw.v_s15, Fw.v_x16, Fw.v_s16, Fw.v_x17, Fw.v_s17, Fw.v_x18, Fw.v_s18, Fw.v_x19, Fw.v_s19, Fw.v_x20, Fw.v_s20, Fw.v_x21, Fw.v_s21, Fw.v_x22, Fw.v_s22, Fw.v_x23, Fw.v_s23, Fw.v_x24, Fw.v_s24, Fw.v_x25, Fw.v_s25, Fw.v_unp1, Fw.v_unpL1, Fw.v_unp2, Fw.v_unpL2, Fw.v_unp3, Fw.v_unpL3, Fw.v_unp4, Fw.v_unpL4, Fw.v_unp5, Fw.v_unpL5, Fw.v_unp6, Fw.v_unpL6, Fw.v_unp7, Fw.v_unpL7, Fw.v_unp8, Fw.v_unpL8, Fw.v_addC, Fw.v_dic, Fw.v_zipL, Fw.v_addCS, Fw.v_strBB, Fw.v_strBN, Fw.v_strBS, Fw.v_joinC, Fw.v_fld, Fw.w_fld, Fw.v_sfld, Fw.w_sfld1, Fw.w_sfld2, Fw.v_meth, Fw.w_meth, Fw.w_argD, Fw.v_make, Fw.w_make, Fw.w_madeN, Fw.w_madeE, Fw.e_doE, Fw.w_setAt, Fw.v_raise, Fw.v_tryAs, Fw.v_tryMany, Fw.w_tryN, Fw.w_tryR, Fw.w_tryC, Fw.w_tryE, Fw.w_trmN, Fw.w_trmR, Fw.w_trmC, Fw.w_trmE, Fw.w_hdY, Fw.w_hdN, Fw.w_all, Fw.w_unN, Fw.w_unC, Fw.w_unR, Fw.w_unN0, Fw.w_unC0, Fw.w_isE, Fw.w_tabN, Fw.w_goN, Fw.w_goC, Fw.w_turn, Fw.v_lenli, Fw.v_ixli, Fw.v_lenT, Fw.v_addT, Fw.v_eqT, Fw.v_neT, Fw.v_eqI, Fw.v_neI, Fw.v_strN, Fw.v_strS, Fw.v_ord, Fw.v_appC, Fw.v_pow18, Fw.v_ixT, Fw.v_lst, Fw.v_tup, Fw.v_cel, Fw.v_appT, Fw.v_appL, Fw.v_rng1, Fw.v_enT, Fw.v_iT, Fw.v_iL, Fw.v_iTp, Fw.v_cutLTo, Fw.v_cutLFrom, Fw.v_wipe0, Fw.v_wipe1, Fw.w_te, Fw.v_cutTo, Fw.v_cutFrom, Fw.v_cutLast, Fw.v_splT, Fw.v_rsplT, Fw.v_rfindT, Fw.v_endsT, Fw.v_inT, Fw.v_notInT, Fw.v_joinT, Fw.v_tab, Fw.w_tabL, Fw.w_tabR, Fw.v_lstT, Fw.v_lstL, Fw.v_tupT, Fw.v_tupL, Fw.v_isBt, Fw.v_isBf, Fw.v_isBi, Fw.v_isBs, Fw.v_ixL0, Fw.v_ixL1, Fw.v_isTs, Fw.v_isTsI, Fw.v_isTsB, Fw.v_allB, Fw.v_all0, Fw.v_all1, Fw.v_all2, Fw.v_all3, Fw.v_all4, Fw.v_all5, Fw.v_all6, Fw.v_all7, Fw.v_all8, Fw.v_appT2, Fw.v_lz, Fw.v_castN, Fw.v_zpN, Fw.v_zpN2, Fw.v_zpC, Fw.v_intT, Fw.v_in2, Fw.v_lcNil, Fw.v_lcCons, Fw.w_lcT, Fw.w_lcCt, Fw.w_lcCf, Fw.w_lcE, Fw.v_yes, Fw.v_finF, Fw.v_loopNil, Fw.v_loopCons, Fw.w_restN, Fw.w_restC, Fw.w_restB, Fw.w_restR, Fw.o_lt, Fw.o_le, Fw.o_gt, Fw.o_ge, Fw.o_addI, Fw.o_sub, Fw.o_neg, Fw.o_mul, Fw.o_mod, Fw.o_div, Fw.f_intI, Fw.f_intB, Fw.f_max, Fw.f_min, Fw.f_lenL, Fw.f_lenT, decide_true, decide_false, Bool.not_true, Bool.not_false, List.map_cons, List.map_nil, List.set_cons_zero, List.set_cons_succ, List.drop_succ_cons, List.drop_zero, List.take_succ_cons, List.take_zero, List.replicate_succ, List.replicate_zero, List.cons_append, List.nil_append, List.append_nil, ne_eq, not_false_eq_true, not_true_eq_false, and_self, eq_self, and_true, and_false, false_and, true_and, reduceIte, if_true, if_false, reduceCtorEq, List.length_cons, List.length_nil, List.length_map, Fw.snoc_at, Fw.snoc_set, Fw.tyL_snoc, decide_eq_true_eq, Bool.and_true, Bool.true_and, Bool.and_false, Bool.false_and, Nat.reduceSub, Nat.reduceAdd, Int.reduceAdd, Int.reduceSub, Int.reduceMul, Int.reduceNeg, Int.reduceLT, Int.reduceLE, Int.reduceEq, Int.reduceMod, Int.reduceDiv, Int.reduceToNat, Nat.reduceEqDiff, b_is_size, v_isI, v_isIb, h1, h2]
    · simp -implicitDefEqProofs (disch := (first | exact Fw.tyL_snoc _ | omega | assumption | ((try simp only [List.length_append, List.length_cons, List.length_nil, List.length_map, List.length_take, List.length_drop, List.length_range, List.length_replicate, Fw.tyL_snoc]); first | done | omega))) only [Fw.v_c, Fw.v_bin, Fw.v_un, Fw.v_and, Fw.v_or, Fw.v_not, Fw.v_ife, Fw.v_args, Fw.v_nil, Fw.v_cons, Fw.v_bm, Fw.v_frz, Fw.v_chain, Fw.v_slLU, Fw.v_slL, Fw.v_slU, Fw.v_lc, Fw.v_seq, Fw.v_snil, Fw.v_ret, Fw.v_retN, Fw.v_brk, Fw.v_cnt, Fw.v_do, Fw.v_asg, Fw.v_if, Fw.v_for, Fw.v_srcOf, Fw.v_srcA, Fw.v_fn, Fw.w_binL, Fw.w_binR, Fw.w_un, Fw.w_andT, Fw.w_andF, Fw.w_orT, Fw.w_orF, Fw.w_not, Fw.w_ifT, Fw.w_ifF, Fw.w_arg, Fw.w_consL, Fw.w_consR, Fw.w_bmA, Fw.w_bmS, Fw.w_bm, Fw.w_frz, Fw.w_ch0, Fw.w_ch1, Fw.w_ch2T, Fw.w_ch2F, Fw.w_sl1, Fw.w_sl2, Fw.w_sl3, Fw.w_slL1, Fw.w_slL2, Fw.w_slU1, Fw.w_slU2, Fw.w_seq, Fw.w_seqR, Fw.w_seqB, Fw.w_seqC, Fw.w_seqE, Fw.w_ret, Fw.w_do, Fw.w_asg, Fw.w_tg, Fw.w_sifT, Fw.w_sifF, Fw.w_gs, Fw.w_gsnil, Fw.w_gscons, Fw.w_for, Fw.w_src, Fw.w_srcA, Fw.w_src2, Fw.w_lc, Fw.w_endN, Fw.w_endR, Fw.w_endE, Fw.e_binL, Fw.e_binR, Fw.e_un, Fw.e_and, Fw.e_or, Fw.e_not, Fw.e_ife, Fw.e_arg, Fw.e_consL, Fw.e_consR, Fw.e_bmA, Fw.e_bm, Fw.e_ret, Fw.e_do, Fw.e_asg, Fw.e_if, Fw.e_for, Fw.e_src, Fw.e_srcA, Fw.v_x0, Fw.v_s0, Fw.v_x1, Fw.v_s1, Fw.v_x2, Fw.v_s2, Fw.v_x3, Fw.v_s3, Fw.v_x4, Fw.v_s4, Fw.v_x5, Fw.v_s5, Fw.v_x6, Fw.v_s6, Fw.v_x7, Fw.v_s7, Fw.v_x8, Fw.v_s8, Fw.v_x9, Fw.v_s9, Fw.v_x10, Fw.v_s10, Fw.v_x11, Fw.v_s11, Fw.v_x12, Fw.v_s12, Fw.v_x13, Fw.v_s13, Fw.v_x14, Fw.v_s14, Fw.v_x15, Fw.v_s15, Fw.v_x16, Fw.v_s16, Fw.v_x17, Fw.v_s17, Fw.v_x18, Fw.v_s18, Fw.v_x19, Fw.v_s19, Fw.v_x20, Fw.v_s20, Fw.v_x21, Fw.v_s21, Fw.v_x22, Fw.v_s22, Fw.v_x23, Fw.v_s23, Fw.v_x24, Fw.v_s24, Fw.v_x25, Fw.v_s25, Fw.v_unp1, Fw.v_unpL1, Fw.v_unp2, Fw.v_unpL2, Fw.v_unp3, Fw.v_unpL3, Fw.v_unp4, Fw.v_unpL4, Fw.v_unp5, Fw.v_unpL5, Fw.v_unp6, Fw.v_unpL6, Fw.v_unp7, Fw.v_unpL7, Fw.v_unp8, Fw.v_unpL8, Fw.v_addC, Fw.v_dic, Fw.v_zipL, Fw.v_addCS, Fw.v_strBB, Fw.v_strBN, Fw.v_strBS, Fw.v_joinC, Fw.v_fld, Fw.w_fld, Fw.v_sfld, Fw.w_sfld1, Fw.w_sfld2, Fw.v_meth, Fw.w_meth, Fw.w_argD, Fw.v_make, Fw.w_make, Fw.w_madeN, Fw.w_madeE, Fw.e_doE, Fw.w_setAt, Fw.v_raise, Fw.v_tryAs, Fw.v_tryMany, Fw.w_tryN, Fw.w_tryR, Fw.w_tryC, Fw.w_tryE, Fw.w_trmN, Fw.w_trmR, Fw.w_trmC, Fw.w_trmE, Fw.w_hdY, Fw.w_hdN, Fw.w_all, Fw.w_unN, Fw.w_unC, Fw.w_unR, Fw.w_unN0, Fw.w_unC0, Fw.w_isE, Fw.w_tabN, Fw.w_goN, Fw.w_goC, Fw.w_turn, Fw.v_lenli, Fw.v_ixli, Fw.v_lenT, Fw.v_addT, Fw.v_eqT, Fw.v_neT, Fw.v_eqI, Fw.v_neI, Fw.v_strN, Fw.v_strS, Fw.v_ord, Fw.v_appC, Fw.v_pow18, Fw.v_ixT, Fw.v_lst, Fw.v_tup, Fw.v_cel, Fw.v_appT, Fw.v_appL, Fw.v_rng1, Fw.v_enT, Fw.v_iT, Fw.v_iL, Fw.v_iTp, Fw.v_cutLTo, Fw.v_cutLFrom, Fw.v_wipe0, Fw.v_wipe1, Fw.w_te, Fw.v_cutTo, Fw.v_cutFrom, Fw.v_cutLast, Fw.v_splT, Fw.v_rsplT, Fw.v_rfindT, Fw.v_endsT, Fw.v_inT, Fw.v_notInT, Fw.v_joinT, Fw.v_tab, Fw.w_tabL, Fw.w_tabR, Fw.v_lstT, Fw.v_lstL, Fw.v_tupT, Fw.v_tupL, Fw.v_isBt, Fw.v_isBf, Fw.v_isBi, Fw.v_isBs, Fw.v_ixL0, Fw.v_ixL1, Fw.v_isTs, Fw.v_isTsI, Fw.v_isTsB, Fw.v_allB, Fw.v_all0, Fw.v_all1, Fw.v_all2, Fw.v_all3, Fw.v_all4, Fw.v_all5, Fw.v_all6, Fw.v_all7, Fw.v_all8, Fw.v_appT2, Fw.v_lz, Fw.v_castN, Fw.v_zpN, Fw.v_zpN2, Fw.v_zpC, Fw.v_intT, Fw.v_in2, Fw.v_lcNil, Fw.v_lcCons, Fw.w_lcT, Fw.w_lcCt, Fw.w_lcCf, Fw.w_lcE, Fw.v_yes, Fw.v_finF, Fw.v_loopNil, Fw.v_loopCons, Fw.w_restN, Fw.w_restC, Fw.w_restB, Fw.w_restR, Fw.o_lt, Fw.o_le, Fw.o_gt, Fw.o_ge, Fw.o_addI, Fw.o_sub, Fw.o_neg, Fw.o_mul, Fw.o_mod, Fw.o_div, Fw.f_intI, Fw.f_intB, Fw.f_max, Fw.f_min, Fw.f_lenL, Fw.f_lenT, decide_true, decide_false, Bool.not_true, Bool.not_false, List.map_cons, List.map_nil, List.set_cons_zero, List.set_cons_succ, List.drop_succ_cons, List.drop_zero, List.take_succ_cons, List.take_zero, List.replicate_succ, List.replicate_zero, List.cons_append, List.nil_append, List.append_nil, ne_eq, not_false_eq_true, not_true_eq_false, and_self, eq_self, and_true, and_false, false_and, true_and, reduceIte, if_true, if_false, reduceCtorEq, List.length_cons, List.length_nil, List.length_map, Fw.snoc_at, Fw.snoc_set, Fw.tyL_snoc, decide_eq_true_eq, Bool.and_true, Bool.true_and, Bool.and_false, Bool.false_and, Nat.reduceSub, Nat.reduceAdd, Int.reduceAdd, Int.reduceSub, Int.reduceMul, Int.reduceNeg, Int.reduceLT, Int.reduceLE, Int.reduceEq, Int.reduceMod, Int.reduceDiv, Int.reduceToNat, Nat.reduceEqDiff, b_is_size, v_isI, v_isIb, h1, h2]
  · simp -implicitDefEqProofs (disch := (first | exact Fw.tyL_snoc _ | omega | assumption | ((try simp only [List.length_append, List.length_cons, List.length_nil, List.length_map, List.length_take, List.length_drop, List.length_range, List.length_replicate, Fw.tyL_snoc]); first | done | omega))) only [Fw.v_c, Fw.v_bin, Fw.v_un, Fw.v_and, Fw.v_or, Fw.v_not, Fw.v_ife, Fw.v_args, Fw.v_nil, Fw.v_cons, Fw.v_bm, Fw.v_frz, Fw.v_chain, Fw.v_slLU, Fw.v_slL, Fw.v_slU, Fw.v_lc, Fw.v_seq, Fw.v_snil, Fw.v_ret, Fw.v_retN, Fw.v_brk, Fw.v_cnt, Fw.v_do, Fw.v_asg, Fw.v_if, Fw.v_for, Fw.v_srcOf, Fw.v_srcA, Fw.v_fn, Fw.w_binL, Fw.w_binR, Fw.w_un, Fw.w_andT, Fw.w_andF, Fw.w_orT, Fw.w_orF, Fw.w_not, Fw.w_ifT, Fw.w_ifF, Fw.w_arg, Fw.w_consL, Fw.w_consR, Fw.w_bmA, Fw.w_bmS, Fw.w_bm, Fw.w_frz, Fw.w_ch0, Fw.w_ch1, Fw.w_ch2T, Fw.w_ch2F, Fw.w_sl1, Fw.w_sl2, Fw.w_sl3, Fw.w_slL1, Fw.w_slL2, Fw.w_slU1, Fw.w_slU2, Fw.w_seq, Fw.w_seqR, Fw.w_seqB, Fw.w_seqC, Fw.w_seqE, Fw.w_ret, Fw.w_do, Fw.w_asg, Fw.w_tg, Fw.w_sifT, Fw.w_sifF, Fw.w_gs, Fw.w_gsnil, Fw.w_gscons, Fw.w_for, Fw.w_src, Fw.w_srcA, Fw.w_src2, Fw.w_lc, Fw.w_endN, Fw.w_endR, Fw.w_endE, Fw.e_binL, Fw.e_binR, Fw.e_un, Fw.e_and, Fw.e_or, Fw.e_not, Fw.e_ife, Fw.e_arg, Fw.e_consL, Fw.e_consR, Fw.e_bmA, Fw.e_bm, Fw.e_ret, Fw.e_do, Fw.e_asg, Fw.e_if, Fw.e_for, Fw.e_src, Fw.e_srcA, Fw.v_x0, Fw.v_s0, Fw.v_x1, Fw.v_s1, Fw.v_x2, Fw.v_s2, Fw.v_x3, Fw.v_s3, Fw.v_x4, Fw.v_s4, Fw.v_x5, Fw.v_s5, Fw.v_x6, Fw.v_s6, Fw.v_x7, Fw.v_s7, Fw.v_x8, Fw.v_s8, Fw.v_x9, Fw.v_s9, Fw.v_x10, Fw.v_s10, Fw.v_x11, Fw.v_s11, Fw.v_x12, Fw.v_s12, Fw.v_x13, Fw.v_s13, Fw.v_x14, Fw.v_s14, Fw.v_x15, Fw.v_s15, Fw.v_x16, Fw.v_s16, Fw.v_x17, Fw.v_s17, Fw.v_x18, Fw.v_s18, Fw.v_x19, Fw.v_s19, Fw.v_x20, Fw.v_s20, Fw.v_x21, Fw.v_s21, Fw.v_x22, Fw.v_s22, Fw.v_x23, Fw.v_s23, Fw.v_x24, Fw.v_s24, Fw.v_x25, Fw.v_s25, Fw.v_unp1, Fw.v_unpL1, Fw.v_unp2, Fw.v_unpL2, Fw.v_unp3, Fw.v_unpL3, Fw.v_unp4, Fw.v_unpL4, Fw.v_unp5, Fw.v_unpL5, Fw.v_unp6, Fw.v_unpL6, Fw.v_unp7, Fw.v_unpL7, Fw.v_unp8, Fw.v_unpL8, Fw.v_addC, Fw.v_dic, Fw.v_zipL, Fw.v_addCS, Fw.v_strBB, Fw.v_strBN, Fw.v_strBS, Fw.v_joinC, Fw.v_fld, Fw.w_fld, Fw.v_sfld, Fw.w_sfld1, Fw.w_sfld2, Fw.v_meth, Fw.w_meth, Fw.w_argD, Fw.v_make, Fw.w_make, Fw.w_madeN, Fw.w_madeE, Fw.e_doE, Fw.w_setAt, Fw.v_raise, Fw.v_tryAs, Fw.v_tryMany, Fw.w_tryN, Fw.w_tryR, Fw.w_tryC, Fw.w_tryE, Fw.w_trmN, Fw.w_trmR, Fw.w_trmC, Fw.w_trmE, Fw.w_hdY, Fw.w_hdN, Fw.w_all, Fw.w_unN, Fw.w_unC, Fw.w_unR, Fw.w_unN0, Fw.w_unC0, Fw.w_isE, Fw.w_tabN, Fw.w_goN, Fw.w_goC, Fw.w_turn, Fw.v_lenli, Fw.v_ixli, Fw.v_lenT, Fw.v_addT, Fw.v_eqT, Fw.v_neT, Fw.v_eqI, Fw.v_neI, Fw.v_strN, Fw.v_strS, Fw.v_ord, Fw.v_appC, Fw.v_pow18, Fw.v_ixT, Fw.v_lst, Fw.v_tup, Fw.v_cel, Fw.v_appT, Fw.v_appL, Fw.v_rng1, Fw.v_enT, Fw.v_iT, Fw.v_iL, Fw.v_iTp, Fw.v_cutLTo, Fw.v_cutLFrom, Fw.v_wipe0, Fw.v_wipe1, Fw.w_te, Fw.v_cutTo, Fw.v_cutFrom, Fw.v_cutLast, Fw.v_splT, Fw.v_rsplT, Fw.v_rfindT, Fw.v_endsT, Fw.v_inT, Fw.v_notInT, Fw.v_joinT, Fw.v_tab, Fw.w_tabL, Fw.w_tabR, Fw.v_lstT, Fw.v_lstL, Fw.v_tupT, Fw.v_tupL, Fw.v_isBt, Fw.v_isBf, Fw.v_isBi, Fw.v_isBs, Fw.v_ixL0, Fw.v_ixL1, Fw.v_isTs, Fw.v_isTsI, Fw.v_isTsB, Fw.v_allB, Fw.v_all0, Fw.v_all1, Fw.v_all2, Fw.v_all3, Fw.v_all4, Fw.v_all5, Fw.v_all6, Fw.v_all7, Fw.v_all8, Fw.v_appT2, Fw.v_lz, Fw.v_castN, Fw.v_zpN, Fw.v_zpN2, Fw.v_zpC, Fw.v_intT, Fw.v_in2, Fw.v_lcNil, Fw.v_lcCons, Fw.w_lcT, Fw.w_lcCt, Fw.w_lcCf, Fw.w_lcE, Fw.v_yes, Fw.v_finF, Fw.v_loopNil, Fw.v_loopCons, Fw.w_restN, Fw.w_restC, Fw.w_restB, Fw.w_restR, Fw.o_lt, Fw.o_le, Fw.o_gt, Fw.o_ge, Fw.o_addI, Fw.o_sub, Fw.o_neg, Fw.o_mul, Fw.o_mod, Fw.o_div, Fw.f_intI, Fw.f_intB, Fw.f_max, Fw.f_min, Fw.f_lenL, Fw.f_lenT, decide_true, decide_false, Bool.not_true, Bool.not_false, List.map_cons, List.map_nil, List.set_cons_zero, List.set_cons_succ, List.drop_succ_cons, List.drop_zero, List.take_succ_cons, List.take_zero, List.replicate_succ, List.replicate_zero, List.cons_append, List.nil_append, List.append_nil, ne_eq, not_false_eq_true, not_true_eq_false, and_self, eq_self, and_true, and_false, false_and, true_and, reduceIte, if_true, if_false, reduceCtorEq, List.length_cons, List.length_nil, List.length_map, Fw.snoc_at, Fw.snoc_set, Fw.tyL_snoc, decide_eq_true_eq, Bool.and_true, Bool.true_and, Bool.and_false, Bool.false_and, Nat.reduceSub, Nat.reduceAdd, Int.reduceAdd, Int.reduceSub, Int.reduceMul, Int.reduceNeg, Int.reduceLT, Int.reduceLE, Int.reduceEq, Int.reduceMod, Int.reduceDiv, Int.reduceToNat, Nat.reduceEqDiff, b_is_size, v_isI, v_isIb, h1]
theorem size_bool (b : Bool) (lo hi : Int) (g : Gr) : m_is_size [.bl b, .int lo, .int hi] g = .ok (.bl false) g := by
  refine pure_ret0 rfl ?_ rfl
  simp -implicitDefEqProofs (disch := (first | exact Fw.tyL_snoc _ | omega | assumption | ((try simp only [List.length_append, List.length_cons, List.length_nil, List.length_map, List.length_take, List.length_drop, List.length_range, List.length_replicate, Fw.tyL_snoc]); first | done | omega))) only [Fw.v_c, Fw.v_bin, Fw.v_un, Fw.v_and, Fw.v_or, Fw.v_not, Fw.v_ife, Fw.v_args, Fw.v_nil, Fw.v_cons, Fw.v_bm, Fw.v_frz, Fw.v_chain, Fw.v_slLU, Fw.v_slL, Fw.v_slU, Fw.v_lc, Fw.v_seq, Fw.v_snil, Fw.v_ret, Fw.v_retN, Fw.v_brk, Fw.v_cnt, Fw.v_do, Fw.v_asg, Fw.v_if, Fw.v_for, Fw.v_srcOf, Fw.v_srcA, Fw.v_fn, Fw.w_binL, Fw.w_binR, Fw.w_un, Fw.w_andT, Fw.w_andF, Fw.w_orT, Fw.w_orF, Fw.w_not, Fw.w_ifT, Fw.w_ifF, Fw.w_arg, Fw.w_consL, Fw.w_consR, Fw.w_bmA, Fw.w_bmS, Fw.w_bm, Fw.w_frz, Fw.w_ch0, Fw.w_ch1, Fw.w_ch2T, Fw.w_ch2F, Fw.w_sl1, Fw.w_sl2, Fw.w_sl3, Fw.w_slL1, Fw.w_slL2, Fw.w_slU1, Fw.w_slU2, Fw.w_seq, Fw.w_seqR, Fw.w_seqB, Fw.w_seqC, Fw.w_seqE, Fw.w_ret, Fw.w_do, Fw.w_asg, Fw.w_tg, Fw.w_sifT, Fw.w_sifF, Fw.w_gs, Fw.w_gsnil, Fw.w_gscons, Fw.w_for, Fw.w_src, Fw.w_srcA, Fw.w_src2, Fw.w_lc, Fw.w_endN, Fw.w_endR, Fw.w_endE, Fw.e_binL, Fw.e_binR, Fw.e_un, Fw.e_and, Fw.e_or, Fw.e_not, Fw.e_ife, Fw.e_arg, Fw.e_consL, Fw.e_consR, Fw.e_bmA, Fw.e_bm, Fw.e_ret, Fw.e_do, Fw.e_asg, Fw.e_if, Fw.e_for, Fw.e_src, Fw.e_srcA, Fw.v_x0, Fw.v_s0, Fw.v_x1, Fw.v_s1, Fw.v_x2, Fw.v_s2, Fw.v_x3, Fw.v_s3, Fw.v_x4, Fw.v_s4, Fw.v_x5, Fw.v_s5, Fw.v_x6, Fw.v_s6, Fw.v_x7, Fw.v_s7, Fw.v_x8, Fw.v_s8, Fw.v_x9, Fw.v_s9, Fw.v_x10, Fw.v_s10, Fw.v_x11, Fw.v_s11, Fw.v_x12, Fw.v_s12, Fw.v_x13, Fw.v_s13, Fw.v_x14, Fw.v_s14, Fw.v_x15, Fw.v_s15, Fw.v_x16, Fw.v_s16, Fw.v_x17, Fw.v_s17, Fw.v_x18, Fw.v_s18, Fw.v_x19, Fw.v_s19, Fw.v_x20, Fw.v_s20, Fw.v_x21, Fw.v_s21, Fw.v_x22, Fw.v_s22, Fw.v_x23, Fw.v_s23, Fw.v_x24, Fw.v_s24, Fw.v_x25, Fw.v_s25, Fw.v_unp1, Fw.v_unpL1, Fw.v_unp2, Fw.v_unpL2, Fw.v_unp3, Fw.v_unpL3, Fw.v_unp4, Fw.v_unpL4, Fw.v_unp5, Fw.v_unpL5, Fw.v_unp6, Fw.v_unpL6, Fw.v_unp7, Fw.v_unpL7, Fw.v_unp8, Fw.v_unpL8, Fw.v_addC, Fw.v_dic, Fw.v_zipL, Fw.v_addCS, Fw.v_strBB, Fw.v_strBN, Fw.v_strBS, Fw.v_joinC, Fw.v_fld, Fw.w_fld, Fw.v_sfld, Fw.w_sfld1, Fw.w_sfld2, Fw.v_meth, Fw.w_meth, Fw.w_argD, Fw.v_make, Fw.w_make, Fw.w_madeN, Fw.w_madeE, Fw.e_doE, Fw.w_setAt, Fw.v_raise, Fw.v_tryAs, Fw.v_tryMany, Fw.w_tryN, Fw.w_tryR, Fw.w_tryC, Fw.w_tryE, Fw.w_trmN, Fw.w_trmR, Fw.w_trmC, Fw.w_trmE, Fw.w_hdY, Fw.w_hdN, Fw.w_all, Fw.w_unN, Fw.w_unC, Fw.w_unR, Fw.w_unN0, Fw.w_unC0, Fw.w_isE, Fw.w_tabN, Fw.w_goN, Fw.w_goC, Fw.w_turn, Fw.v_lenli, Fw.v_ixli, Fw.v_lenT, Fw.v_addT, Fw.v_eqT, Fw.v_neT, Fw.v_eqI, Fw.v_neI, Fw.v_strN, Fw.v_strS, Fw.v_ord, Fw.v_appC, Fw.v_pow18, Fw.v_ixT, Fw.v_lst, Fw.v_tup, Fw.v_cel, Fw.v_appT, Fw.v_appL, Fw.v_rng1, Fw.v_enT, Fw.v_iT, Fw.v_iL, Fw.v_iTp, Fw.v_cutLTo, Fw.v_cutLFrom, Fw.v_wipe0, Fw.v_wipe1, Fw.w_te, Fw.v_cutTo, Fw.v_cutFrom, Fw.v_cutLast, Fw.v_splT, Fw.v_rsplT, Fw.v_rfindT, Fw.v_endsT, Fw.v_inT, Fw.v_notInT, Fw.v_joinT, Fw.v_tab, Fw.w_tabL, Fw.w_tabR, Fw.v_lstT, Fw.v_lstL, Fw.v_tupT, Fw.v_tupL, Fw.v_isBt, Fw.v_isBf, Fw.v_isBi, Fw.v_isBs, Fw.v_ixL0, Fw.v_ixL1, Fw.v_isTs, Fw.v_isTsI, Fw.v_isTsB, Fw.v_allB, Fw.v_all0, Fw.v_all1, Fw.v_all2, Fw.v_all3, Fw.v_all4, Fw.v_all5, Fw.v_all6, Fw.v_all7, Fw.v_all8, Fw.v_appT2, Fw.v_lz, Fw.v_castN, Fw.v_zpN, Fw.v_zpN2, Fw.v_zpC, Fw.v_intT, Fw.v_in2, Fw.v_lcNil, Fw.v_lcCons, Fw.w_lcT, Fw.w_lcCt, Fw.w_lcCf, Fw.w_lcE, Fw.v_yes, Fw.v_finF, Fw.v_loopNil, Fw.v_loopCons, Fw.w_restN, Fw.w_restC, Fw.w_restB, Fw.w_restR, Fw.o_lt, Fw.o_le, Fw.o_gt, Fw.o_ge, Fw.o_addI, Fw.o_sub, Fw.o_neg, Fw.o_mul, Fw.o_mod, Fw.o_div, Fw.f_intI, Fw.f_intB, Fw.f_max, Fw.f_min, Fw.f_lenL, Fw.f_lenT, decide_true, decide_false, Bool.not_true, Bool.not_false, List.map_cons, List.map_nil, List.set_cons_zero, List.set_cons_succ, List.drop_succ_cons, List.drop_zero, List.take_succ_cons, List.take_zero, List.replicate_succ, List.replicate_zero, List.cons_append, List.nil_append, List.append_nil, ne_eq, not_false_eq_true, not_true_eq_false, and_self, eq_self, and_true, and_false, false_and, true_and, reduceIte, if_true, if_false, reduceCtorEq, List.length_cons, List.length_nil, List.length_map, Fw.snoc_at, Fw.snoc_set, Fw.tyL_snoc, decide_eq_true_eq, Bool.and_true, Bool.true_and, Bool.and_false, Bool.false_and, Nat.reduceSub, Nat.reduceAdd, Int.reduceAdd, Int.reduceSub, Int.reduceMul, Int.reduceNeg, Int.reduceLT, Int.reduceLE, Int.reduceEq, Int.reduceMod, Int.reduceDiv, Int.reduceToNat, Nat.reduceEqDiff, b_is_size, v_isB, v_isBb]
theorem size_other (d : D) (lo hi : Int) (g : Gr) (h : opIsT "int" d g = .ok (.bl false) g) : m_is_size [d, .int lo, .int hi] g = .ok (.bl false) g := by
  refine pure_ret0 rfl ?_ rfl
  simp -implicitDefEqProofs (disch := (first | exact Fw.tyL_snoc _ | omega | assumption | ((try simp only [List.length_append, List.length_cons, List.length_nil, List.length_map, List.length_take, List.length_drop, List.length_range, List.length_replicate, Fw.tyL_snoc]); first | done | omega))) only [Fw.v_c, Fw.v_bin, Fw.v_un, Fw.v_and, Fw.v_or, Fw.v_not, Fw.v_ife, Fw.v_args, Fw.v_nil, Fw.v_cons, Fw.v_bm, Fw.v_frz, Fw.v_chain, Fw.v_slLU, Fw.v_slL, Fw.v_slU, Fw.v_lc, Fw.v_seq, Fw.v_snil, Fw.v_ret, Fw.v_retN, Fw.v_brk, Fw.v_cnt, Fw.v_do, Fw.v_asg, Fw.v_if, Fw.v_for, Fw.v_srcOf, Fw.v_srcA, Fw.v_fn, Fw.w_binL, Fw.w_binR, Fw.w_un, Fw.w_andT, Fw.w_andF, Fw.w_orT, Fw.w_orF, Fw.w_not, Fw.w_ifT, Fw.w_ifF, Fw.w_arg, Fw.w_consL, Fw.w_consR, Fw.w_bmA, Fw.w_bmS, Fw.w_bm, Fw.w_frz, Fw.w_ch0, Fw.w_ch1, Fw.w_ch2T, Fw.w_ch2F, Fw.w_sl1, Fw.w_sl2, Fw.w_sl3, Fw.w_slL1, Fw.w_slL2, Fw.w_slU1, Fw.w_slU2, Fw.w_seq, Fw.w_seqR, Fw.w_seqB, Fw.w_seqC, Fw.w_seqE, Fw.w_ret, Fw.w_do, Fw.w_asg, Fw.w_tg, Fw.w_sifT, Fw.w_sifF, Fw.w_gs, Fw.w_gsnil, Fw.w_gscons, Fw.w_for, Fw.w_src, Fw.w_srcA, Fw.w_src2, Fw.w_lc, Fw.w_endN, Fw.w_endR, Fw.w_endE, Fw.e_binL, Fw.e_binR, Fw.e_un, Fw.e_and, Fw.e_or, Fw.e_not, Fw.e_ife, Fw.e_arg, Fw.e_consL, Fw.e_consR, Fw.e_bmA, Fw.e_bm, Fw.e_ret, Fw.e_do, Fw.e_asg, Fw.e_if, Fw.e_for, Fw.e_src, Fw.e_srcA, Fw.v_x0, Fw.v_s0, Fw.v_x1, Fw.v_s1, Fw.v_x2, Fw.v_s2, Fw.v_x3, Fw.v_s3, Fw.v_x4, Fw.v_s4, Fw.v_x5, Fw.v_s5, Fw.v_x6, Fw.v_s6, Fw.v_x7, Fw.v_s7, Fw.v_x8, Fw.v_s8, Fw.v_x9, Fw.v_s9, Fw.v_x10, Fw.v_s10, Fw.v_x11, Fw.v_s11, Fw.v_x12, Fw.v_s12, Fw.v_x13, Fw.v_s13, Fw.v_x14, Fw.v_s14, Fw.v_x15, Fw.v_s15, Fw.v_x16, Fw.v_s16, Fw.v_x17, Fw.v_s17, Fw.v_x18, Fw.v_s18, Fw.v_x19, Fw.v_s19, Fw.v_x20, Fw.v_s20, Fw.v_x21, Fw.v_s21, Fw.v_x22, Fw.v_s22, Fw.v_x23, Fw.v_s23, Fw.v_x24, Fw.v_s24, Fw.v_x25, Fw.v_s25, Fw.v_unp1, Fw.v_unpL1, Fw.v_unp2, Fw.v_unpL2, Fw.v_unp3, Fw.v_unpL3, Fw.v_unp4, Fw.v_unpL4, Fw.v_unp5, Fw.v_unpL5, Fw.v_unp6, Fw.v_unpL6, Fw.v_unp7, Fw.v_unpL7, Fw.v_unp8, Fw.v_unpL8, Fw.v_addC, Fw.v_dic, Fw.v_zipL, Fw.v_addCS, Fw.v_strBB, Fw.v_strBN, Fw.v_strBS, Fw.v_joinC, Fw.v_fld, Fw.w_fld, Fw.v_sfld, Fw.w_sfld1, Fw.w_sfld2, Fw.v_meth, Fw.w_meth, Fw.w_argD, Fw.v_make, Fw.w_make, Fw.w_madeN, Fw.w_madeE, Fw.e_doE, Fw.w_setAt, Fw.v_raise, Fw.v_tryAs, Fw.v_tryMany, Fw.w_tryN, Fw.w_tryR, Fw.w_tryC, Fw.w_tryE, Fw.w_trmN, Fw.w_trmR, Fw.w_trmC, Fw.w_trmE, Fw.w_hdY, Fw.w_hdN, Fw.w_all, Fw.w_unN, Fw.w_unC, Fw.w_unR, Fw.w_unN0, Fw.w_unC0, Fw.w_isE, Fw.w_tabN, Fw.w_goN, Fw.w_goC, Fw.w_turn, Fw.v_lenli, Fw.v_ixli, Fw.v_lenT, Fw.v_addT, Fw.v_eqT, Fw.v_neT, Fw.v_eqI, Fw.v_neI, Fw.v_strN, Fw.v_strS, Fw.v_ord, Fw.v_appC, Fw.v_pow18, Fw.v_ixT, Fw.v_lst, Fw.v_tup, Fw.v_cel, Fw.v_appT, Fw.v_appL, Fw.v_rng1, Fw.v_enT, Fw.v_iT, Fw.v_iL, Fw.v_iTp, Fw.v_cutLTo, Fw.v_cutLFrom, Fw.v_wipe0, Fw.v_wipe1, Fw.w_te, Fw.v_cutTo, Fw.v_cutFrom, Fw.v_cutLast, Fw.v_splT, Fw.v_rsplT, Fw.v_rfindT, Fw.v_endsT, Fw.v_inT, Fw.v_notInT, Fw.v_joinT, Fw.v_tab, Fw.w_tabL, Fw.w_tabR, Fw.v_lstT, Fw.v_lstL, Fw.v_tupT, Fw.v_tupL, Fw.v_isBt, Fw.v_isBf, Fw.v_isBi, Fw.v_isBs, Fw.v_ixL0, Fw.v_ixL1, Fw.v_isTs, Fw.v_isTsI, Fw.v_isTsB, Fw.v_allB, Fw.v_all0, Fw.v_all1, Fw.v_all2, Fw.v_all3, Fw.v_all4, Fw.v_all5, Fw.v_all6, Fw.v_all7, Fw.v_all8, Fw.v_appT2, Fw.v_lz, Fw.v_castN, Fw.v_zpN, Fw.v_zpN2, Fw.v_zpC, Fw.v_intT, Fw.v_in2, Fw.v_lcNil, Fw.v_lcCons, Fw.w_lcT, Fw.w_lcCt, Fw.w_lcCf, Fw.w_lcE, Fw.v_yes, Fw.v_finF, Fw.v_loopNil, Fw.v_loopCons, Fw.w_restN, Fw.w_restC, Fw.w_restB, Fw.w_restR, Fw.o_lt, Fw.o_le, Fw.o_gt, Fw.o_ge, Fw.o_addI, Fw.o_sub, Fw.o_neg, Fw.o_mul, Fw.o_mod, Fw.o_div, Fw.f_intI, Fw.f_intB, Fw.f_max, Fw.f_min, Fw.f_lenL, Fw.f_lenT, decide_true, decide_false, Bool.not_true, Bool.not_false, List.map_cons, List.map_nil, List.set_cons_zero, List.set_cons_succ, List.drop_succ_cons, List.drop_zero, List.take_succ_cons, List.take_zero, List.replicate_succ, List.replicate_zero, List.cons_append, List.nil_append, List.append_nil, ne_eq, not_false_eq_true, not_true_eq_false, and_self, eq_self, and_true, and_false, false_and, true_and, reduceIte, if_true, if_false, reduceCtorEq, List.length_cons, List.length_nil, List.length_map, Fw.snoc_at, Fw.snoc_set, Fw.tyL_snoc, decide_eq_true_eq, Bool.and_true, Bool.true_and, Bool.and_false, Bool.false_and, Nat.reduceSub, Nat.reduceAdd, Int.reduceAdd, Int.reduceSub, Int.reduceMul, Int.reduceNeg, Int.reduceLT, Int.reduceLE, Int.reduceEq, Int.reduceMod, Int.reduceDiv, Int.reduceToNat, Nat.reduceEqDiff, b_is_size, h]
/-- the list of so many new lists -/
theorem lc_cells (i : Nat) (ρ : En) : ∀ (ds acc : List D) (G : Gr), acc.length + ds.length < 1000 → lcLoop kpT (gVar i) eYes (eArgs fCel aNil) ρ finC ds acc G = .ok (.obj (G ++ List.replicate ds.length (Cl.lst [])).length) ((G ++ List.replicate ds.length (Cl.lst [])) ++ [Cl.lst (acc ++ (List.range ds.length).map fun k => .obj (G.length + k))])
  | [], acc, G, _ => by
    rw [v_lcNil]
    simp [finC]
  | d :: ds, acc, G, h => by
    simp only [List.length_cons] at h
    have ih := lc_cells i ρ ds (acc ++ [.obj G.length]) (G ++ [Cl.lst []]) (by simp; omega)
    rw [v_lcCons (by omega)]
    have e : eArgs fCel aNil (ρ.set i (some d)) G = R.ok (.obj G.length) (G ++ [Cl.lst []]) := by
      exact (if_pos (Nat.zero_le _) : (if ([] : List D).length ≤ sizeLine then R.ok (.obj G.length) (G ++ [Cl.lst []]) else R.no) = _)
    show fLcE kpT (gVar i) eYes (eArgs fCel aNil) ρ finC ds acc (eArgs fCel aNil (ρ.set i (some d)) G) = _
    rw [e]
    have l1 : G ++ [Cl.lst []] ++ List.replicate ds.length (Cl.lst []) = G ++ List.replicate (ds.length + 1) (Cl.lst []) := by rw [List.replicate_succ]; simp
    have l2 : acc ++ [D.obj G.length] ++ (List.range ds.length).map (fun k => D.obj ((G ++ [Cl.lst []]).length + k)) = acc ++ (List.range (ds.length + 1)).map fun k => D.obj (G.length + k) := by
      rw [List.range_succ_eq_map]
      simp only [List.map_cons, List.map_map, List.length_append, List.length_cons, List.length_nil, List.append_assoc, List.cons_append, List.nil_append, Nat.add_zero]
      congr 2
      apply List.map_congr_left
      intro k _
      show D.obj _ = D.obj _
      congr 1
      omega
    rw [l1, l2] at ih
    exact ih
end Ww

set_option maxRecDepth 100000
set_option maxHeartbeats 4000000
namespace Ww
open PySem PySem.Spec PyProof.Rows Fw
/-- a fresh disk's attributes, its cells: behind g -/
def dkF (l s p : Nat) : List (Str × D) := [("wide", .int p), ("taken", .obj (l + (s + 1))), ("marks", .obj (l + (s + 1 + 1))), ("counted", .int 0), ("left", .non), ("has_stopped", .bl false)]
def dkT (l s : Nat) : List D := (List.range s).map fun k => .obj (l + 1 + k)
def dkR (l s : Nat) : Gr := List.replicate s (.lst []) ++ [.lst (dkT l s), .lst [.non, .non]]
def dk (l s p : Nat) : Gr := .ins "Disk" (dkF l s p) :: dkR l s
theorem init_ok (s p : Nat) (hs : 3 ≤ s ∧ s ≤ 16) (hp : 2 ≤ p ∧ p ≤ 32) (g : Gr) : m_Disk___init__ [.obj g.length, .int s, .int p] (g ++ [Cl.ins "Disk" []]) = .ok .non (g ++ dk g.length s p) := by
  have c : ("Disk" : Str) ∈ (["Disk"] : List Str) := by decide +kernel
  have z1 : ∀ g, m_is_size [.int (s : Int), .int 3, .int 16] g = .ok (.bl true) g := fun g => (size_int _ _ _ g).trans (by rw [decide_eq_true (by omega)])
  have z2 : ∀ g, m_is_size [.int (p : Int), .int 2, .int 32] g = .ok (.bl true) g := fun g => (size_int _ _ _ g).trans (by rw [decide_eq_true (by omega)])
  have w1 : ∀ (f : Str) (e : D) (ρ : En) (fs : List (Str × D)) (rest : Gr), fs.length < 1000 → setD ["Disk"] f e (.obj g.length) ρ (g ++ (Cl.ins "Disk" fs :: rest)) = .nx ρ (g ++ (Cl.ins "Disk" (putD f e fs) :: rest)) := fun f e ρ fs rest h => w_setAt c h
  have p1 : ∀ e : D, putD "wide" e [] = ([("wide", e)] : List (Str × D)) := fun _ => rfl
  have p2 : ∀ a e : D, putD "taken" e [("wide", a)] = ([("wide", a), ("taken", e)] : List (Str × D)) := fun _ _ => rfl
  have p3 : ∀ a b e : D, putD "marks" e [("wide", a), ("taken", b)] = ([("wide", a), ("taken", b), ("marks", e)] : List (Str × D)) := fun _ _ _ => rfl
  have p4 : ∀ a b c e : D, putD "counted" e [("wide", a), ("taken", b), ("marks", c)] = ([("wide", a), ("taken", b), ("marks", c), ("counted", e)] : List (Str × D)) := fun _ _ _ _ => rfl
  have p5 : ∀ a b c d e : D, putD "left" e [("wide", a), ("taken", b), ("marks", c), ("counted", d)] = ([("wide", a), ("taken", b), ("marks", c), ("counted", d), ("left", e)] : List (Str × D)) := fun _ _ _ _ _ => rfl
  have p6 : ∀ a b c d x e : D, putD "has_stopped" e [("wide", a), ("taken", b), ("marks", c), ("counted", d), ("left", x)] = ([("wide", a), ("taken", b), ("marks", c), ("counted", d), ("left", x), ("has_stopped", e)] : List (Str × D)) := fun _ _ _ _ _ _ => rfl
  have lc := fun ρ G => lc_cells 3 ρ (rangeD 0 s) [] G (by simp [rangeD_len]; omega)
  have rl : (rangeD 0 s).length = s := rangeD_len ..
  rw [rl] at lc
  refine fn_nx rfl ⟨?_, ?_⟩
  rotate_left
  simp -implicitDefEqProofs (disch := (first | exact Fw.tyL_snoc _ | omega | assumption | ((try simp only [List.length_append, List.length_cons, List.length_nil, List.length_map, List.length_take, List.length_drop, List.length_range, List.length_replicate, Fw.tyL_snoc]); first | done | omega))) only [Fw.v_c, Fw.v_bin, Fw.v_un, Fw.v_and, Fw.v_or, Fw.v_not, Fw.v_ife, Fw.v_args, Fw.v_nil, Fw.v_cons, Fw.v_bm, Fw.v_frz, Fw.v_chain, Fw.v_slLU, Fw.v_slL, Fw.v_slU, Fw.v_lc, Fw.v_seq, Fw.v_snil, Fw.v_ret, Fw.v_retN, Fw.v_brk, Fw.v_cnt, Fw.v_do, Fw.v_asg, Fw.v_if, Fw.v_for, Fw.v_srcOf, Fw.v_srcA, Fw.v_fn, Fw.w_binL, Fw.w_binR, Fw.w_un, Fw.w_andT, Fw.w_andF, Fw.w_orT, Fw.w_orF, Fw.w_not, Fw.w_ifT, Fw.w_ifF, Fw.w_arg, Fw.w_consL, Fw.w_consR, Fw.w_bmA, Fw.w_bmS, Fw.w_bm, Fw.w_frz, Fw.w_ch0, Fw.w_ch1, Fw.w_ch2T, Fw.w_ch2F, Fw.w_sl1, Fw.w_sl2, Fw.w_sl3, Fw.w_slL1, Fw.w_slL2, Fw.w_slU1, Fw.w_slU2, Fw.w_seq, Fw.w_seqR, Fw.w_seqB, Fw.w_seqC, Fw.w_seqE, Fw.w_ret, Fw.w_do, Fw.w_asg, Fw.w_tg, Fw.w_sifT, Fw.w_sifF, Fw.w_gs, Fw.w_gsnil, Fw.w_gscons, Fw.w_for, Fw.w_src, Fw.w_srcA, Fw.w_src2, Fw.w_lc, Fw.w_endN, Fw.w_endR, Fw.w_endE, Fw.e_binL, Fw.e_binR, Fw.e_un, Fw.e_and, Fw.e_or, Fw.e_not, Fw.e_ife, Fw.e_arg, Fw.e_consL, Fw.e_consR, Fw.e_bmA, Fw.e_bm, Fw.e_ret, Fw.e_do, Fw.e_asg, Fw.e_if, Fw.e_for, Fw.e_src, Fw.e_srcA, Fw.v_x0, Fw.v_s0, Fw.v_x1, Fw.v_s1, Fw.v_x2, Fw.v_s2, Fw.v_x3, Fw.v_s3, Fw.v_x4, Fw.v_s4, Fw.v_x5, Fw.v_s5, Fw.v_x6, Fw.v_s6, Fw.v_x7, Fw.v_s7, Fw.v_x8, Fw.v_s8, Fw.v_x9, Fw.v_s9, Fw.v_x10, Fw.v_s10, Fw.v_x11, Fw.v_s11, Fw.v_x12, Fw.v_s12, Fw.v_x13, Fw.v_s13, Fw.v_x14, Fw.v_s14, Fw.v_x15, Fw.v_s15, Fw.v_x16, Fw.v_s16, Fw.v_x17, Fw.v_s17, Fw.v_x18, Fw.v_s18, Fw.v_x19, Fw.v_s19, Fw.v_x20, Fw.v_s20, Fw.v_x21, Fw.v_s21, Fw.v_x22, Fw.v_s22, Fw.v_x23, Fw.v_s23, Fw.v_x24, Fw.v_s24, Fw.v_x25, Fw.v_s25, Fw.v_unp1, Fw.v_unpL1, Fw.v_unp2, Fw.v_unpL2, Fw.v_unp3, Fw.v_unpL3, Fw.v_unp4, Fw.v_unpL4, Fw.v_unp5, Fw.v_unpL5, Fw.v_unp6, Fw.v_unpL6, Fw.v_unp7, Fw.v_unpL7, Fw.v_unp8, Fw.v_unpL8, Fw.v_addC, Fw.v_dic, Fw.v_zipL, Fw.v_addCS, Fw.v_strBB, Fw.v_strBN, Fw.v_strBS, Fw.v_joinC, Fw.v_fld, Fw.w_fld, Fw.v_sfld, Fw.w_sfld1, Fw.w_sfld2, Fw.v_meth, Fw.w_meth, Fw.w_argD, Fw.v_make, Fw.w_make, Fw.w_madeN, Fw.w_madeE, Fw.e_doE, Fw.w_setAt, Fw.v_raise, Fw.v_tryAs, Fw.v_tryMany, Fw.w_tryN, Fw.w_tryR, Fw.w_tryC, Fw.w_tryE, Fw.w_trmN, Fw.w_trmR, Fw.w_trmC, Fw.w_trmE, Fw.w_hdY, Fw.w_hdN, Fw.w_all, Fw.w_unN, Fw.w_unC, Fw.w_unR, Fw.w_unN0, Fw.w_unC0, Fw.w_isE, Fw.w_tabN, Fw.w_goN, Fw.w_goC, Fw.w_turn, Fw.v_lenli, Fw.v_ixli, Fw.v_lenT, Fw.v_addT, Fw.v_eqT, Fw.v_neT, Fw.v_eqI, Fw.v_neI, Fw.v_strN, Fw.v_strS, Fw.v_ord, Fw.v_appC, Fw.v_pow18, Fw.v_ixT, Fw.v_lst, Fw.v_tup, Fw.v_cel, Fw.v_appT, Fw.v_appL, Fw.v_rng1, Fw.v_enT, Fw.v_iT, Fw.v_iL, Fw.v_iTp, Fw.v_cutLTo, Fw.v_cutLFrom, Fw.v_wipe0, Fw.v_wipe1, Fw.w_te, Fw.v_cutTo, Fw.v_cutFrom, Fw.v_cutLast, Fw.v_splT, Fw.v_rsplT, Fw.v_rfindT, Fw.v_endsT, Fw.v_inT, Fw.v_notInT, Fw.v_joinT, Fw.v_tab, Fw.w_tabL, Fw.w_tabR, Fw.v_lstT, Fw.v_lstL, Fw.v_tupT, Fw.v_tupL, Fw.v_isBt, Fw.v_isBf, Fw.v_isBi, Fw.v_isBs, Fw.v_ixL0, Fw.v_ixL1, Fw.v_isTs, Fw.v_isTsI, Fw.v_isTsB, Fw.v_allB, Fw.v_all0, Fw.v_all1, Fw.v_all2, Fw.v_all3, Fw.v_all4, Fw.v_all5, Fw.v_all6, Fw.v_all7, Fw.v_all8, Fw.v_appT2, Fw.v_lz, Fw.v_castN, Fw.v_zpN, Fw.v_zpN2, Fw.v_zpC, Fw.v_intT, Fw.v_in2, Fw.v_lcNil, Fw.v_lcCons, Fw.w_lcT, Fw.w_lcCt, Fw.w_lcCf, Fw.w_lcE, Fw.v_yes, Fw.v_finF, Fw.v_loopNil, Fw.v_loopCons, Fw.w_restN, Fw.w_restC, Fw.w_restB, Fw.w_restR, Fw.o_lt, Fw.o_le, Fw.o_gt, Fw.o_ge, Fw.o_addI, Fw.o_sub, Fw.o_neg, Fw.o_mul, Fw.o_mod, Fw.o_div, Fw.f_intI, Fw.f_intB, Fw.f_max, Fw.f_min, Fw.f_lenL, Fw.f_lenT, decide_true, decide_false, Bool.not_true, Bool.not_false, List.map_cons, List.map_nil, List.set_cons_zero, List.set_cons_succ, List.drop_succ_cons, List.drop_zero, List.take_succ_cons, List.take_zero, List.replicate_succ, List.replicate_zero, List.cons_append, List.nil_append, List.append_nil, ne_eq, not_false_eq_true, not_true_eq_false, and_self, eq_self, and_true, and_false, false_and, true_and, reduceIte, if_true, if_false, reduceCtorEq, List.length_cons, List.length_nil, List.length_map, Fw.snoc_at, Fw.snoc_set, Fw.tyL_snoc, decide_eq_true_eq, Bool.and_true, Bool.true_and, Bool.and_false, Bool.false_and, Nat.reduceSub, Nat.reduceAdd, Int.reduceAdd, Int.reduceSub, Int.reduceMul, Int.reduceNeg, Int.reduceLT, Int.reduceLE, Int.reduceEq, Int.reduceMod, Int.reduceDiv, Int.reduceToNat, Nat.reduceEqDiff, b_Disk___init__, z1, z2, w1, p1, p2, p3, p4, p5, p6, lc, Int.toNat_natCast, List.append_assoc, List.length_append, List.length_replicate]
  rfl
end Ww

set_option maxRecDepth 100000
set_option maxHeartbeats 4000000
namespace Ww
open PySem PySem.Spec PyProof.Rows Fw
/-- what a state tells of a fresh disk at l -/
structure Fresh (G : Gr) (l s p : Nat) : Prop where
  f1 : fldD ["Disk"] "taken" (.obj l) G = .ok (.obj (l + (s + 1))) G
  f2 : fldD ["Disk"] "wide" (.obj l) G = .ok (.int p) G
  f3 : fldD ["Disk"] "counted" (.obj l) G = .ok (.int 0) G
  f4 : fldD ["Disk"] "marks" (.obj l) G = .ok (.obj (l + (s + 1 + 1))) G
  c1 : G[l + (s + 1)]? = some (.lst (dkT l s))
  c2 : G[l + (s + 1 + 1)]? = some (.lst [.non, .non])
  c3 : ∀ k, k < s → G[l + 1 + k]? = some (.lst [])
  m : ∀ (mn : Str) (f : Fn) (as : Exps) (ρ : En), (dkF l s p).lookup mn = none → methD ["Disk"] mn f as ρ (.obj l) G = fArgD f (.obj l) (as ρ G)
theorem fresh (g : Gr) (s p : Nat) : Fresh (g ++ dk g.length s p) g.length s p := by
  have c : ("Disk" : Str) ∈ (["Disk"] : List Str) := by decide +kernel
  refine ⟨fld_at c rfl, fld_at c rfl, fld_at c rfl, fld_at c rfl, ?_, ?_, fun k hk => ?_, fun mn f as ρ h => meth_at c h⟩
  · rw [List.getElem?_append_right (by omega), show g.length + (s + 1) - g.length = s + 1 by omega]
    show (dkR g.length s)[s]? = _
    unfold dkR
    rw [List.getElem?_append_right (by simp)]
    simp
  · rw [List.getElem?_append_right (by omega), show g.length + (s + 1 + 1) - g.length = s + 1 + 1 by omega]
    show (dkR g.length s)[s + 1]? = _
    unfold dkR
    rw [List.getElem?_append_right (by simp)]
    simp
  · rw [List.getElem?_append_right (by omega), show g.length + 1 + k - g.length = k + 1 by omega]
    show (dkR g.length s)[k]? = _
    unfold dkR
    rw [List.getElem?_append_left (by simpa using hk)]
    simp [hk]
theorem eq_selfD {d : D} {q : PyData} {g : Gr} (h : toP g 8 d = some q) (n : ndP q = true) : opEq d d g = .ok (.bl true) g ∧ opNe d d g = .ok (.bl false) g := by
  unfold opEq opNe
  rw [h]
  show (R.ok (.bl (PyData.eqv _ _)) g = _) ∧ (R.ok (.bl (!PyData.eqv _ _)) g = _)
  rw [eqv_self _ n]
  exact ⟨rfl, rfl⟩
theorem nons (g : Gr) (k : Nat) : ∀ n, mapO (toP g k) (List.replicate n .non) = some (List.replicate n .none) ∧ ndP.ndAll (List.replicate n .none) = true
  | 0 => ⟨rfl, rfl⟩
  | n + 1 => by
    obtain ⟨h1, h2⟩ := nons g k n
    have e : toP g k .non = some .none := by cases k <;> rfl
    refine ⟨by rw [List.replicate_succ, List.replicate_succ]; simp only [mapO, e, h1], by rw [List.replicate_succ, ndP.ndAll, h2]; rfl⟩
theorem eq_nons (g : Gr) (n : Nat) : opEq (.lst (List.replicate n .non)) (.lst (List.replicate n .non)) g = .ok (.bl true) g := by
  refine (eq_selfD (q := .list (List.replicate n .none)) ?_ ?_).1
  · show (mapO (toP g 7) _).map PyData.list = _
    rw [(nons g 7 n).1]; rfl
  · simpa only [ndP] using (nons g 7 n).2
theorem ne_ints (a b c : Int) (g : Gr) : opNe (.lst [.int a, .int b, .int c]) (.lst [.int a, .int b, .int c]) g = .ok (.bl false) g := (eq_selfD (q := .list [.int a, .int b, .int c]) rfl rfl).2
theorem mul_non (k : Int) (hk : 0 ≤ k ∧ k < 1000) (g : Gr) : opMul (.lst [.non]) (.int k) g = .ok (.lst (List.replicate k.toNat .non)) g := by
  have e : (List.replicate k.toNat [D.non]).flatten = List.replicate k.toNat .non := by
    generalize k.toNat = n
    induction n with
    | zero => rfl
    | succ n ih => rw [List.replicate_succ, List.flatten_cons, ih]; rfl
  show (if -9223372036854775808 ≤ k ∧ k < 9223372036854775808 ∧ [D.non].length * k.toNat ≤ sizeLine then R.ok (.lst (List.replicate k.toNat [D.non]).flatten) g else .no) = _
  have big := sizeLine_big
  rw [if_pos ⟨by omega, by omega, by simp only [List.length_cons, List.length_nil]; omega⟩, e]
section
variable {G : Gr} {l s p : Nat}
theorem m_str (F : Fresh G l s p) : m_Disk_stretches [.obj l] G = .ok (.int s) G := by
  have h := len_at F.c1
  have e : (dkT l s).length = s := by simp [dkT]
  rw [e] at h
  have f1 := F.f1
  refine fn_ret rfl ?_
  simp -implicitDefEqProofs (disch := (first | exact Fw.tyL_snoc _ | omega | assumption | ((try simp only [List.length_append, List.length_cons, List.length_nil, List.length_map, List.length_take, List.length_drop, List.length_range, List.length_replicate, Fw.tyL_snoc]); first | done | omega))) only [Fw.v_c, Fw.v_bin, Fw.v_un, Fw.v_and, Fw.v_or, Fw.v_not, Fw.v_ife, Fw.v_args, Fw.v_nil, Fw.v_cons, Fw.v_bm, Fw.v_frz, Fw.v_chain, Fw.v_slLU, Fw.v_slL, Fw.v_slU, Fw.v_lc, Fw.v_seq, Fw.v_snil, Fw.v_ret, Fw.v_retN, Fw.v_brk, Fw.v_cnt, Fw.v_do, Fw.v_asg, Fw.v_if, Fw.v_for, Fw.v_srcOf, Fw.v_srcA, Fw.v_fn, Fw.w_binL, Fw.w_binR, Fw.w_un, Fw.w_andT, Fw.w_andF, Fw.w_orT, Fw.w_orF, Fw.w_not, Fw.w_ifT, Fw.w_ifF, Fw.w_arg, Fw.w_consL, Fw.w_consR, Fw.w_bmA, Fw.w_bmS, Fw.w_bm, Fw.w_frz, Fw.w_ch0, Fw.w_ch1, Fw.w_ch2T, Fw.w_ch2F, Fw.w_sl1, Fw.w_sl2, Fw.w_sl3, Fw.w_slL1, Fw.w_slL2, Fw.w_slU1, Fw.w_slU2, Fw.w_seq, Fw.w_seqR, Fw.w_seqB, Fw.w_seqC, Fw.w_seqE, Fw.w_ret, Fw.w_do, Fw.w_asg, Fw.w_tg, Fw.w_sifT, Fw.w_sifF, Fw.w_gs, Fw.w_gsnil, Fw.w_gscons, Fw.w_for, Fw.w_src, Fw.w_srcA, Fw.w_src2, Fw.w_lc, Fw.w_endN, Fw.w_endR, Fw.w_endE, Fw.e_binL, Fw.e_binR, Fw.e_un, Fw.e_and, Fw.e_or, Fw.e_not, Fw.e_ife, Fw.e_arg, Fw.e_consL, Fw.e_consR, Fw.e_bmA, Fw.e_bm, Fw.e_ret, Fw.e_do, Fw.e_asg, Fw.e_if, Fw.e_for, Fw.e_src, Fw.e_srcA, Fw.v_x0, Fw.v_s0, Fw.v_x1, Fw.v_s1, Fw.v_x2, Fw.v_s2, Fw.v_x3, Fw.v_s3, Fw.v_x4, Fw.v_s4, Fw.v_x5, Fw.v_s5, Fw.v_x6, Fw.v_s6, Fw.v_x7, Fw.v_s7, Fw.v_x8, Fw.v_s8, Fw.v_x9, Fw.v_s9, Fw.v_x10, Fw.v_s10, Fw.v_x11, Fw.v_s11, Fw.v_x12, Fw.v_s12, Fw.v_x13, Fw.v_s13, Fw.v_x14, Fw.v_s14, Fw.v_x15, Fw.v_s15, Fw.v_x16, Fw.v_s16, Fw.v_x17, Fw.v_s17, Fw.v_x18, Fw.v_s18, Fw.v_x19, Fw.v_s19, Fw.v_x20, Fw.v_s20, Fw.v_x21, Fw.v_s21, Fw.v_x22, Fw.v_s22, Fw.v_x23, Fw.v_s23, Fw.v_x24, Fw.v_s24, Fw.v_x25, Fw.v_s25, Fw.v_unp1, Fw.v_unpL1, Fw.v_unp2, Fw.v_unpL2, Fw.v_unp3, Fw.v_unpL3, Fw.v_unp4, Fw.v_unpL4, Fw.v_unp5, Fw.v_unpL5, Fw.v_unp6, Fw.v_unpL6, Fw.v_unp7, Fw.v_unpL7, Fw.v_unp8, Fw.v_unpL8, Fw.v_addC, Fw.v_dic, Fw.v_zipL, Fw.v_addCS, Fw.v_strBB, Fw.v_strBN, Fw.v_strBS, Fw.v_joinC, Fw.v_fld, Fw.w_fld, Fw.v_sfld, Fw.w_sfld1, Fw.w_sfld2, Fw.v_meth, Fw.w_meth, Fw.w_argD, Fw.v_make, Fw.w_make, Fw.w_madeN, Fw.w_madeE, Fw.e_doE, Fw.w_setAt, Fw.v_raise, Fw.v_tryAs, Fw.v_tryMany, Fw.w_tryN, Fw.w_tryR, Fw.w_tryC, Fw.w_tryE, Fw.w_trmN, Fw.w_trmR, Fw.w_trmC, Fw.w_trmE, Fw.w_hdY, Fw.w_hdN, Fw.w_all, Fw.w_unN, Fw.w_unC, Fw.w_unR, Fw.w_unN0, Fw.w_unC0, Fw.w_isE, Fw.w_tabN, Fw.w_goN, Fw.w_goC, Fw.w_turn, Fw.v_lenli, Fw.v_ixli, Fw.v_lenT, Fw.v_addT, Fw.v_eqT, Fw.v_neT, Fw.v_eqI, Fw.v_neI, Fw.v_strN, Fw.v_strS, Fw.v_ord, Fw.v_appC, Fw.v_pow18, Fw.v_ixT, Fw.v_lst, Fw.v_tup, Fw.v_cel, Fw.v_appT, Fw.v_appL, Fw.v_rng1, Fw.v_enT, Fw.v_iT, Fw.v_iL, Fw.v_iTp, Fw.v_cutLTo, Fw.v_cutLFrom, Fw.v_wipe0, Fw.v_wipe1, Fw.w_te, Fw.v_cutTo, Fw.v_cutFrom, Fw.v_cutLast, Fw.v_splT, Fw.v_rsplT, Fw.v_rfindT, Fw.v_endsT, Fw.v_inT, Fw.v_notInT, Fw.v_joinT, Fw.v_tab, Fw.w_tabL, Fw.w_tabR, Fw.v_lstT, Fw.v_lstL, Fw.v_tupT, Fw.v_tupL, Fw.v_isBt, Fw.v_isBf, Fw.v_isBi, Fw.v_isBs, Fw.v_ixL0, Fw.v_ixL1, Fw.v_isTs, Fw.v_isTsI, Fw.v_isTsB, Fw.v_allB, Fw.v_all0, Fw.v_all1, Fw.v_all2, Fw.v_all3, Fw.v_all4, Fw.v_all5, Fw.v_all6, Fw.v_all7, Fw.v_all8, Fw.v_appT2, Fw.v_lz, Fw.v_castN, Fw.v_zpN, Fw.v_zpN2, Fw.v_zpC, Fw.v_intT, Fw.v_in2, Fw.v_lcNil, Fw.v_lcCons, Fw.w_lcT, Fw.w_lcCt, Fw.w_lcCf, Fw.w_lcE, Fw.v_yes, Fw.v_finF, Fw.v_loopNil, Fw.v_loopCons, Fw.w_restN, Fw.w_restC, Fw.w_restB, Fw.w_restR, Fw.o_lt, Fw.o_le, Fw.o_gt, Fw.o_ge, Fw.o_addI, Fw.o_sub, Fw.o_neg, Fw.o_mul, Fw.o_mod, Fw.o_div, Fw.f_intI, Fw.f_intB, Fw.f_max, Fw.f_min, Fw.f_lenL, Fw.f_lenT, decide_true, decide_false, Bool.not_true, Bool.not_false, List.map_cons, List.map_nil, List.set_cons_zero, List.set_cons_succ, List.drop_succ_cons, List.drop_zero, List.take_succ_cons, List.take_zero, List.replicate_succ, List.replicate_zero, List.cons_append, List.nil_append, List.append_nil, ne_eq, not_false_eq_true, not_true_eq_false, and_self, eq_self, and_true, and_false, false_and, true_and, reduceIte, if_true, if_false, reduceCtorEq, List.length_cons, List.length_nil, List.length_map, Fw.snoc_at, Fw.snoc_set, Fw.tyL_snoc, decide_eq_true_eq, Bool.and_true, Bool.true_and, Bool.and_false, Bool.false_and, Nat.reduceSub, Nat.reduceAdd, Int.reduceAdd, Int.reduceSub, Int.reduceMul, Int.reduceNeg, Int.reduceLT, Int.reduceLE, Int.reduceEq, Int.reduceMod, Int.reduceDiv, Int.reduceToNat, Nat.reduceEqDiff, b_Disk_stretches, f1, h]
theorem m_plc (F : Fresh G l s p) : m_Disk_places [.obj l] G = .ok (.int p) G := by
  have f1 := F.f2
  refine fn_ret rfl ?_
  simp -implicitDefEqProofs (disch := (first | exact Fw.tyL_snoc _ | omega | assumption | ((try simp only [List.length_append, List.length_cons, List.length_nil, List.length_map, List.length_take, List.length_drop, List.length_range, List.length_replicate, Fw.tyL_snoc]); first | done | omega))) only [Fw.v_c, Fw.v_bin, Fw.v_un, Fw.v_and, Fw.v_or, Fw.v_not, Fw.v_ife, Fw.v_args, Fw.v_nil, Fw.v_cons, Fw.v_bm, Fw.v_frz, Fw.v_chain, Fw.v_slLU, Fw.v_slL, Fw.v_slU, Fw.v_lc, Fw.v_seq, Fw.v_snil, Fw.v_ret, Fw.v_retN, Fw.v_brk, Fw.v_cnt, Fw.v_do, Fw.v_asg, Fw.v_if, Fw.v_for, Fw.v_srcOf, Fw.v_srcA, Fw.v_fn, Fw.w_binL, Fw.w_binR, Fw.w_un, Fw.w_andT, Fw.w_andF, Fw.w_orT, Fw.w_orF, Fw.w_not, Fw.w_ifT, Fw.w_ifF, Fw.w_arg, Fw.w_consL, Fw.w_consR, Fw.w_bmA, Fw.w_bmS, Fw.w_bm, Fw.w_frz, Fw.w_ch0, Fw.w_ch1, Fw.w_ch2T, Fw.w_ch2F, Fw.w_sl1, Fw.w_sl2, Fw.w_sl3, Fw.w_slL1, Fw.w_slL2, Fw.w_slU1, Fw.w_slU2, Fw.w_seq, Fw.w_seqR, Fw.w_seqB, Fw.w_seqC, Fw.w_seqE, Fw.w_ret, Fw.w_do, Fw.w_asg, Fw.w_tg, Fw.w_sifT, Fw.w_sifF, Fw.w_gs, Fw.w_gsnil, Fw.w_gscons, Fw.w_for, Fw.w_src, Fw.w_srcA, Fw.w_src2, Fw.w_lc, Fw.w_endN, Fw.w_endR, Fw.w_endE, Fw.e_binL, Fw.e_binR, Fw.e_un, Fw.e_and, Fw.e_or, Fw.e_not, Fw.e_ife, Fw.e_arg, Fw.e_consL, Fw.e_consR, Fw.e_bmA, Fw.e_bm, Fw.e_ret, Fw.e_do, Fw.e_asg, Fw.e_if, Fw.e_for, Fw.e_src, Fw.e_srcA, Fw.v_x0, Fw.v_s0, Fw.v_x1, Fw.v_s1, Fw.v_x2, Fw.v_s2, Fw.v_x3, Fw.v_s3, Fw.v_x4, Fw.v_s4, Fw.v_x5, Fw.v_s5, Fw.v_x6, Fw.v_s6, Fw.v_x7, Fw.v_s7, Fw.v_x8, Fw.v_s8, Fw.v_x9, Fw.v_s9, Fw.v_x10, Fw.v_s10, Fw.v_x11, Fw.v_s11, Fw.v_x12, Fw.v_s12, Fw.v_x13, Fw.v_s13, Fw.v_x14, Fw.v_s14, Fw.v_x15, Fw.v_s15, Fw.v_x16, Fw.v_s16, Fw.v_x17, Fw.v_s17, Fw.v_x18, Fw.v_s18, Fw.v_x19, Fw.v_s19, Fw.v_x20, Fw.v_s20, Fw.v_x21, Fw.v_s21, Fw.v_x22, Fw.v_s22, Fw.v_x23, Fw.v_s23, Fw.v_x24, Fw.v_s24, Fw.v_x25, Fw.v_s25, Fw.v_unp1, Fw.v_unpL1, Fw.v_unp2, Fw.v_unpL2, Fw.v_unp3, Fw.v_unpL3, Fw.v_unp4, Fw.v_unpL4, Fw.v_unp5, Fw.v_unpL5, Fw.v_unp6, Fw.v_unpL6, Fw.v_unp7, Fw.v_unpL7, Fw.v_unp8, Fw.v_unpL8, Fw.v_addC, Fw.v_dic, Fw.v_zipL, Fw.v_addCS, Fw.v_strBB, Fw.v_strBN, Fw.v_strBS, Fw.v_joinC, Fw.v_fld, Fw.w_fld, Fw.v_sfld, Fw.w_sfld1, Fw.w_sfld2, Fw.v_meth, Fw.w_meth, Fw.w_argD, Fw.v_make, Fw.w_make, Fw.w_madeN, Fw.w_madeE, Fw.e_doE, Fw.w_setAt, Fw.v_raise, Fw.v_tryAs, Fw.v_tryMany, Fw.w_tryN, Fw.w_tryR, Fw.w_tryC, Fw.w_tryE, Fw.w_trmN, Fw.w_trmR, Fw.w_trmC, Fw.w_trmE, Fw.w_hdY, Fw.w_hdN, Fw.w_all, Fw.w_unN, Fw.w_unC, Fw.w_unR, Fw.w_unN0, Fw.w_unC0, Fw.w_isE, Fw.w_tabN, Fw.w_goN, Fw.w_goC, Fw.w_turn, Fw.v_lenli, Fw.v_ixli, Fw.v_lenT, Fw.v_addT, Fw.v_eqT, Fw.v_neT, Fw.v_eqI, Fw.v_neI, Fw.v_strN, Fw.v_strS, Fw.v_ord, Fw.v_appC, Fw.v_pow18, Fw.v_ixT, Fw.v_lst, Fw.v_tup, Fw.v_cel, Fw.v_appT, Fw.v_appL, Fw.v_rng1, Fw.v_enT, Fw.v_iT, Fw.v_iL, Fw.v_iTp, Fw.v_cutLTo, Fw.v_cutLFrom, Fw.v_wipe0, Fw.v_wipe1, Fw.w_te, Fw.v_cutTo, Fw.v_cutFrom, Fw.v_cutLast, Fw.v_splT, Fw.v_rsplT, Fw.v_rfindT, Fw.v_endsT, Fw.v_inT, Fw.v_notInT, Fw.v_joinT, Fw.v_tab, Fw.w_tabL, Fw.w_tabR, Fw.v_lstT, Fw.v_lstL, Fw.v_tupT, Fw.v_tupL, Fw.v_isBt, Fw.v_isBf, Fw.v_isBi, Fw.v_isBs, Fw.v_ixL0, Fw.v_ixL1, Fw.v_isTs, Fw.v_isTsI, Fw.v_isTsB, Fw.v_allB, Fw.v_all0, Fw.v_all1, Fw.v_all2, Fw.v_all3, Fw.v_all4, Fw.v_all5, Fw.v_all6, Fw.v_all7, Fw.v_all8, Fw.v_appT2, Fw.v_lz, Fw.v_castN, Fw.v_zpN, Fw.v_zpN2, Fw.v_zpC, Fw.v_intT, Fw.v_in2, Fw.v_lcNil, Fw.v_lcCons, Fw.w_lcT, Fw.w_lcCt, Fw.w_lcCf, Fw.w_lcE, Fw.v_yes, Fw.v_finF, Fw.v_loopNil, Fw.v_loopCons, Fw.w_restN, Fw.w_restC, Fw.w_restB, Fw.w_restR, Fw.o_lt, Fw.o_le, Fw.o_gt, Fw.o_ge, Fw.o_addI, Fw.o_sub, Fw.o_neg, Fw.o_mul, Fw.o_mod, Fw.o_div, Fw.f_intI, Fw.f_intB, Fw.f_max, Fw.f_min, Fw.f_lenL, Fw.f_lenT, decide_true, decide_false, Bool.not_true, Bool.not_false, List.map_cons, List.map_nil, List.set_cons_zero, List.set_cons_succ, List.drop_succ_cons, List.drop_zero, List.take_succ_cons, List.take_zero, List.replicate_succ, List.replicate_zero, List.cons_append, List.nil_append, List.append_nil, ne_eq, not_false_eq_true, not_true_eq_false, and_self, eq_self, and_true, and_false, false_and, true_and, reduceIte, if_true, if_false, reduceCtorEq, List.length_cons, List.length_nil, List.length_map, Fw.snoc_at, Fw.snoc_set, Fw.tyL_snoc, decide_eq_true_eq, Bool.and_true, Bool.true_and, Bool.and_false, Bool.false_and, Nat.reduceSub, Nat.reduceAdd, Int.reduceAdd, Int.reduceSub, Int.reduceMul, Int.reduceNeg, Int.reduceLT, Int.reduceLE, Int.reduceEq, Int.reduceMod, Int.reduceDiv, Int.reduceToNat, Nat.reduceEqDiff, b_Disk_places, f1]
theorem m_sgn (F : Fresh G l s p) : m_Disk_signs [.obj l] G = .ok (.int 0) G := by
  have f1 := F.f3
  refine fn_ret rfl ?_
  simp -implicitDefEqProofs (disch := (first | exact Fw.tyL_snoc _ | omega | assumption | ((try simp only [List.length_append, List.length_cons, List.length_nil, List.length_map, List.length_take, List.length_drop, List.length_range, List.length_replicate, Fw.tyL_snoc]); first | done | omega))) only [Fw.v_c, Fw.v_bin, Fw.v_un, Fw.v_and, Fw.v_or, Fw.v_not, Fw.v_ife, Fw.v_args, Fw.v_nil, Fw.v_cons, Fw.v_bm, Fw.v_frz, Fw.v_chain, Fw.v_slLU, Fw.v_slL, Fw.v_slU, Fw.v_lc, Fw.v_seq, Fw.v_snil, Fw.v_ret, Fw.v_retN, Fw.v_brk, Fw.v_cnt, Fw.v_do, Fw.v_asg, Fw.v_if, Fw.v_for, Fw.v_srcOf, Fw.v_srcA, Fw.v_fn, Fw.w_binL, Fw.w_binR, Fw.w_un, Fw.w_andT, Fw.w_andF, Fw.w_orT, Fw.w_orF, Fw.w_not, Fw.w_ifT, Fw.w_ifF, Fw.w_arg, Fw.w_consL, Fw.w_consR, Fw.w_bmA, Fw.w_bmS, Fw.w_bm, Fw.w_frz, Fw.w_ch0, Fw.w_ch1, Fw.w_ch2T, Fw.w_ch2F, Fw.w_sl1, Fw.w_sl2, Fw.w_sl3, Fw.w_slL1, Fw.w_slL2, Fw.w_slU1, Fw.w_slU2, Fw.w_seq, Fw.w_seqR, Fw.w_seqB, Fw.w_seqC, Fw.w_seqE, Fw.w_ret, Fw.w_do, Fw.w_asg, Fw.w_tg, Fw.w_sifT, Fw.w_sifF, Fw.w_gs, Fw.w_gsnil, Fw.w_gscons, Fw.w_for, Fw.w_src, Fw.w_srcA, Fw.w_src2, Fw.w_lc, Fw.w_endN, Fw.w_endR, Fw.w_endE, Fw.e_binL, Fw.e_binR, Fw.e_un, Fw.e_and, Fw.e_or, Fw.e_not, Fw.e_ife, Fw.e_arg, Fw.e_consL, Fw.e_consR, Fw.e_bmA, Fw.e_bm, Fw.e_ret, Fw.e_do, Fw.e_asg, Fw.e_if, Fw.e_for, Fw.e_src, Fw.e_srcA, Fw.v_x0, Fw.v_s0, Fw.v_x1, Fw.v_s1, Fw.v_x2, Fw.v_s2, Fw.v_x3, Fw.v_s3, Fw.v_x4, Fw.v_s4, Fw.v_x5, Fw.v_s5, Fw.v_x6, Fw.v_s6, Fw.v_x7, Fw.v_s7, Fw.v_x8, Fw.v_s8, Fw.v_x9, Fw.v_s9, Fw.v_x10, Fw.v_s10, Fw.v_x11, Fw.v_s11, Fw.v_x12, Fw.v_s12, Fw.v_x13, Fw.v_s13, Fw.v_x14, Fw.v_s14, Fw.v_x15, Fw.v_s15, Fw.v_x16, Fw.v_s16, Fw.v_x17, Fw.v_s17, Fw.v_x18, Fw.v_s18, Fw.v_x19, Fw.v_s19, Fw.v_x20, Fw.v_s20, Fw.v_x21, Fw.v_s21, Fw.v_x22, Fw.v_s22, Fw.v_x23, Fw.v_s23, Fw.v_x24, Fw.v_s24, Fw.v_x25, Fw.v_s25, Fw.v_unp1, Fw.v_unpL1, Fw.v_unp2, Fw.v_unpL2, Fw.v_unp3, Fw.v_unpL3, Fw.v_unp4, Fw.v_unpL4, Fw.v_unp5, Fw.v_unpL5, Fw.v_unp6, Fw.v_unpL6, Fw.v_unp7, Fw.v_unpL7, Fw.v_unp8, Fw.v_unpL8, Fw.v_addC, Fw.v_dic, Fw.v_zipL, Fw.v_addCS, Fw.v_strBB, Fw.v_strBN, Fw.v_strBS, Fw.v_joinC, Fw.v_fld, Fw.w_fld, Fw.v_sfld, Fw.w_sfld1, Fw.w_sfld2, Fw.v_meth, Fw.w_meth, Fw.w_argD, Fw.v_make, Fw.w_make, Fw.w_madeN, Fw.w_madeE, Fw.e_doE, Fw.w_setAt, Fw.v_raise, Fw.v_tryAs, Fw.v_tryMany, Fw.w_tryN, Fw.w_tryR, Fw.w_tryC, Fw.w_tryE, Fw.w_trmN, Fw.w_trmR, Fw.w_trmC, Fw.w_trmE, Fw.w_hdY, Fw.w_hdN, Fw.w_all, Fw.w_unN, Fw.w_unC, Fw.w_unR, Fw.w_unN0, Fw.w_unC0, Fw.w_isE, Fw.w_tabN, Fw.w_goN, Fw.w_goC, Fw.w_turn, Fw.v_lenli, Fw.v_ixli, Fw.v_lenT, Fw.v_addT, Fw.v_eqT, Fw.v_neT, Fw.v_eqI, Fw.v_neI, Fw.v_strN, Fw.v_strS, Fw.v_ord, Fw.v_appC, Fw.v_pow18, Fw.v_ixT, Fw.v_lst, Fw.v_tup, Fw.v_cel, Fw.v_appT, Fw.v_appL, Fw.v_rng1, Fw.v_enT, Fw.v_iT, Fw.v_iL, Fw.v_iTp, Fw.v_cutLTo, Fw.v_cutLFrom, Fw.v_wipe0, Fw.v_wipe1, Fw.w_te, Fw.v_cutTo, Fw.v_cutFrom, Fw.v_cutLast, Fw.v_splT, Fw.v_rsplT, Fw.v_rfindT, Fw.v_endsT, Fw.v_inT, Fw.v_notInT, Fw.v_joinT, Fw.v_tab, Fw.w_tabL, Fw.w_tabR, Fw.v_lstT, Fw.v_lstL, Fw.v_tupT, Fw.v_tupL, Fw.v_isBt, Fw.v_isBf, Fw.v_isBi, Fw.v_isBs, Fw.v_ixL0, Fw.v_ixL1, Fw.v_isTs, Fw.v_isTsI, Fw.v_isTsB, Fw.v_allB, Fw.v_all0, Fw.v_all1, Fw.v_all2, Fw.v_all3, Fw.v_all4, Fw.v_all5, Fw.v_all6, Fw.v_all7, Fw.v_all8, Fw.v_appT2, Fw.v_lz, Fw.v_castN, Fw.v_zpN, Fw.v_zpN2, Fw.v_zpC, Fw.v_intT, Fw.v_in2, Fw.v_lcNil, Fw.v_lcCons, Fw.w_lcT, Fw.w_lcCt, Fw.w_lcCf, Fw.w_lcE, Fw.v_yes, Fw.v_finF, Fw.v_loopNil, Fw.v_loopCons, Fw.w_restN, Fw.w_restC, Fw.w_restB, Fw.w_restR, Fw.o_lt, Fw.o_le, Fw.o_gt, Fw.o_ge, Fw.o_addI, Fw.o_sub, Fw.o_neg, Fw.o_mul, Fw.o_mod, Fw.o_div, Fw.f_intI, Fw.f_intB, Fw.f_max, Fw.f_min, Fw.f_lenL, Fw.f_lenT, decide_true, decide_false, Bool.not_true, Bool.not_false, List.map_cons, List.map_nil, List.set_cons_zero, List.set_cons_succ, List.drop_succ_cons, List.drop_zero, List.take_succ_cons, List.take_zero, List.replicate_succ, List.replicate_zero, List.cons_append, List.nil_append, List.append_nil, ne_eq, not_false_eq_true, not_true_eq_false, and_self, eq_self, and_true, and_false, false_and, true_and, reduceIte, if_true, if_false, reduceCtorEq, List.length_cons, List.length_nil, List.length_map, Fw.snoc_at, Fw.snoc_set, Fw.tyL_snoc, decide_eq_true_eq, Bool.and_true, Bool.true_and, Bool.and_false, Bool.false_and, Nat.reduceSub, Nat.reduceAdd, Int.reduceAdd, Int.reduceSub, Int.reduceMul, Int.reduceNeg, Int.reduceLT, Int.reduceLE, Int.reduceEq, Int.reduceMod, Int.reduceDiv, Int.reduceToNat, Nat.reduceEqDiff, b_Disk_signs, f1]
theorem m_side (F : Fresh G l s p) (k : Nat) (hk : k < 2) : m_Disk_side [.obj l, .int (k : Int)] G = .ok .non G := by
  have f1 := F.f4
  have h := ix_at (k := k) (d := .non) F.c2 (by match k, hk with | 0, _ => rfl | 1, _ => rfl)
  refine fn_ret rfl ?_
  simp -implicitDefEqProofs (disch := (first | exact Fw.tyL_snoc _ | omega | assumption | ((try simp only [List.length_append, List.length_cons, List.length_nil, List.length_map, List.length_take, List.length_drop, List.length_range, List.length_replicate, Fw.tyL_snoc]); first | done | omega))) only [Fw.v_c, Fw.v_bin, Fw.v_un, Fw.v_and, Fw.v_or, Fw.v_not, Fw.v_ife, Fw.v_args, Fw.v_nil, Fw.v_cons, Fw.v_bm, Fw.v_frz, Fw.v_chain, Fw.v_slLU, Fw.v_slL, Fw.v_slU, Fw.v_lc, Fw.v_seq, Fw.v_snil, Fw.v_ret, Fw.v_retN, Fw.v_brk, Fw.v_cnt, Fw.v_do, Fw.v_asg, Fw.v_if, Fw.v_for, Fw.v_srcOf, Fw.v_srcA, Fw.v_fn, Fw.w_binL, Fw.w_binR, Fw.w_un, Fw.w_andT, Fw.w_andF, Fw.w_orT, Fw.w_orF, Fw.w_not, Fw.w_ifT, Fw.w_ifF, Fw.w_arg, Fw.w_consL, Fw.w_consR, Fw.w_bmA, Fw.w_bmS, Fw.w_bm, Fw.w_frz, Fw.w_ch0, Fw.w_ch1, Fw.w_ch2T, Fw.w_ch2F, Fw.w_sl1, Fw.w_sl2, Fw.w_sl3, Fw.w_slL1, Fw.w_slL2, Fw.w_slU1, Fw.w_slU2, Fw.w_seq, Fw.w_seqR, Fw.w_seqB, Fw.w_seqC, Fw.w_seqE, Fw.w_ret, Fw.w_do, Fw.w_asg, Fw.w_tg, Fw.w_sifT, Fw.w_sifF, Fw.w_gs, Fw.w_gsnil, Fw.w_gscons, Fw.w_for, Fw.w_src, Fw.w_srcA, Fw.w_src2, Fw.w_lc, Fw.w_endN, Fw.w_endR, Fw.w_endE, Fw.e_binL, Fw.e_binR, Fw.e_un, Fw.e_and, Fw.e_or, Fw.e_not, Fw.e_ife, Fw.e_arg, Fw.e_consL, Fw.e_consR, Fw.e_bmA, Fw.e_bm, Fw.e_ret, Fw.e_do, Fw.e_asg, Fw.e_if, Fw.e_for, Fw.e_src, Fw.e_srcA, Fw.v_x0, Fw.v_s0, Fw.v_x1, Fw.v_s1, Fw.v_x2, Fw.v_s2, Fw.v_x3, Fw.v_s3, Fw.v_x4, Fw.v_s4, Fw.v_x5, Fw.v_s5, Fw.v_x6, Fw.v_s6, Fw.v_x7, Fw.v_s7, Fw.v_x8, Fw.v_s8, Fw.v_x9, Fw.v_s9, Fw.v_x10, Fw.v_s10, Fw.v_x11, Fw.v_s11, Fw.v_x12, Fw.v_s12, Fw.v_x13, Fw.v_s13, Fw.v_x14, Fw.v_s14, Fw.v_x15, Fw.v_s15, Fw.v_x16, Fw.v_s16, Fw.v_x17, Fw.v_s17, Fw.v_x18, Fw.v_s18, Fw.v_x19, Fw.v_s19, Fw.v_x20, Fw.v_s20, Fw.v_x21, Fw.v_s21, Fw.v_x22, Fw.v_s22, Fw.v_x23, Fw.v_s23, Fw.v_x24, Fw.v_s24, Fw.v_x25, Fw.v_s25, Fw.v_unp1, Fw.v_unpL1, Fw.v_unp2, Fw.v_unpL2, Fw.v_unp3, Fw.v_unpL3, Fw.v_unp4, Fw.v_unpL4, Fw.v_unp5, Fw.v_unpL5, Fw.v_unp6, Fw.v_unpL6, Fw.v_unp7, Fw.v_unpL7, Fw.v_unp8, Fw.v_unpL8, Fw.v_addC, Fw.v_dic, Fw.v_zipL, Fw.v_addCS, Fw.v_strBB, Fw.v_strBN, Fw.v_strBS, Fw.v_joinC, Fw.v_fld, Fw.w_fld, Fw.v_sfld, Fw.w_sfld1, Fw.w_sfld2, Fw.v_meth, Fw.w_meth, Fw.w_argD, Fw.v_make, Fw.w_make, Fw.w_madeN, Fw.w_madeE, Fw.e_doE, Fw.w_setAt, Fw.v_raise, Fw.v_tryAs, Fw.v_tryMany, Fw.w_tryN, Fw.w_tryR, Fw.w_tryC, Fw.w_tryE, Fw.w_trmN, Fw.w_trmR, Fw.w_trmC, Fw.w_trmE, Fw.w_hdY, Fw.w_hdN, Fw.w_all, Fw.w_unN, Fw.w_unC, Fw.w_unR, Fw.w_unN0, Fw.w_unC0, Fw.w_isE, Fw.w_tabN, Fw.w_goN, Fw.w_goC, Fw.w_turn, Fw.v_lenli, Fw.v_ixli, Fw.v_lenT, Fw.v_addT, Fw.v_eqT, Fw.v_neT, Fw.v_eqI, Fw.v_neI, Fw.v_strN, Fw.v_strS, Fw.v_ord, Fw.v_appC, Fw.v_pow18, Fw.v_ixT, Fw.v_lst, Fw.v_tup, Fw.v_cel, Fw.v_appT, Fw.v_appL, Fw.v_rng1, Fw.v_enT, Fw.v_iT, Fw.v_iL, Fw.v_iTp, Fw.v_cutLTo, Fw.v_cutLFrom, Fw.v_wipe0, Fw.v_wipe1, Fw.w_te, Fw.v_cutTo, Fw.v_cutFrom, Fw.v_cutLast, Fw.v_splT, Fw.v_rsplT, Fw.v_rfindT, Fw.v_endsT, Fw.v_inT, Fw.v_notInT, Fw.v_joinT, Fw.v_tab, Fw.w_tabL, Fw.w_tabR, Fw.v_lstT, Fw.v_lstL, Fw.v_tupT, Fw.v_tupL, Fw.v_isBt, Fw.v_isBf, Fw.v_isBi, Fw.v_isBs, Fw.v_ixL0, Fw.v_ixL1, Fw.v_isTs, Fw.v_isTsI, Fw.v_isTsB, Fw.v_allB, Fw.v_all0, Fw.v_all1, Fw.v_all2, Fw.v_all3, Fw.v_all4, Fw.v_all5, Fw.v_all6, Fw.v_all7, Fw.v_all8, Fw.v_appT2, Fw.v_lz, Fw.v_castN, Fw.v_zpN, Fw.v_zpN2, Fw.v_zpC, Fw.v_intT, Fw.v_in2, Fw.v_lcNil, Fw.v_lcCons, Fw.w_lcT, Fw.w_lcCt, Fw.w_lcCf, Fw.w_lcE, Fw.v_yes, Fw.v_finF, Fw.v_loopNil, Fw.v_loopCons, Fw.w_restN, Fw.w_restC, Fw.w_restB, Fw.w_restR, Fw.o_lt, Fw.o_le, Fw.o_gt, Fw.o_ge, Fw.o_addI, Fw.o_sub, Fw.o_neg, Fw.o_mul, Fw.o_mod, Fw.o_div, Fw.f_intI, Fw.f_intB, Fw.f_max, Fw.f_min, Fw.f_lenL, Fw.f_lenT, decide_true, decide_false, Bool.not_true, Bool.not_false, List.map_cons, List.map_nil, List.set_cons_zero, List.set_cons_succ, List.drop_succ_cons, List.drop_zero, List.take_succ_cons, List.take_zero, List.replicate_succ, List.replicate_zero, List.cons_append, List.nil_append, List.append_nil, ne_eq, not_false_eq_true, not_true_eq_false, and_self, eq_self, and_true, and_false, false_and, true_and, reduceIte, if_true, if_false, reduceCtorEq, List.length_cons, List.length_nil, List.length_map, Fw.snoc_at, Fw.snoc_set, Fw.tyL_snoc, decide_eq_true_eq, Bool.and_true, Bool.true_and, Bool.and_false, Bool.false_and, Nat.reduceSub, Nat.reduceAdd, Int.reduceAdd, Int.reduceSub, Int.reduceMul, Int.reduceNeg, Int.reduceLT, Int.reduceLE, Int.reduceEq, Int.reduceMod, Int.reduceDiv, Int.reduceToNat, Nat.reduceEqDiff, b_Disk_side, f1, h]
theorem m_told (F : Fresh G l s p) (k : Nat) (hk : k < s) (j : Int) (hj : 0 ≤ j) : m_Disk_told [.obj l, .int (k : Int), .int j] G = .ok .non G := by
  have f1 := F.f1
  have h := ix_at (k := k) (d := .obj (l + 1 + k)) F.c1 (by simp [dkT, hk])
  have h2 := len_at (F.c3 k hk)
  have nj : ¬ j < 0 := by omega
  refine fn_ret rfl ?_
  simp -implicitDefEqProofs (disch := (first | exact Fw.tyL_snoc _ | omega | assumption | ((try simp only [List.length_append, List.length_cons, List.length_nil, List.length_map, List.length_take, List.length_drop, List.length_range, List.length_replicate, Fw.tyL_snoc]); first | done | omega))) only [Fw.v_c, Fw.v_bin, Fw.v_un, Fw.v_and, Fw.v_or, Fw.v_not, Fw.v_ife, Fw.v_args, Fw.v_nil, Fw.v_cons, Fw.v_bm, Fw.v_frz, Fw.v_chain, Fw.v_slLU, Fw.v_slL, Fw.v_slU, Fw.v_lc, Fw.v_seq, Fw.v_snil, Fw.v_ret, Fw.v_retN, Fw.v_brk, Fw.v_cnt, Fw.v_do, Fw.v_asg, Fw.v_if, Fw.v_for, Fw.v_srcOf, Fw.v_srcA, Fw.v_fn, Fw.w_binL, Fw.w_binR, Fw.w_un, Fw.w_andT, Fw.w_andF, Fw.w_orT, Fw.w_orF, Fw.w_not, Fw.w_ifT, Fw.w_ifF, Fw.w_arg, Fw.w_consL, Fw.w_consR, Fw.w_bmA, Fw.w_bmS, Fw.w_bm, Fw.w_frz, Fw.w_ch0, Fw.w_ch1, Fw.w_ch2T, Fw.w_ch2F, Fw.w_sl1, Fw.w_sl2, Fw.w_sl3, Fw.w_slL1, Fw.w_slL2, Fw.w_slU1, Fw.w_slU2, Fw.w_seq, Fw.w_seqR, Fw.w_seqB, Fw.w_seqC, Fw.w_seqE, Fw.w_ret, Fw.w_do, Fw.w_asg, Fw.w_tg, Fw.w_sifT, Fw.w_sifF, Fw.w_gs, Fw.w_gsnil, Fw.w_gscons, Fw.w_for, Fw.w_src, Fw.w_srcA, Fw.w_src2, Fw.w_lc, Fw.w_endN, Fw.w_endR, Fw.w_endE, Fw.e_binL, Fw.e_binR, Fw.e_un, Fw.e_and, Fw.e_or, Fw.e_not, Fw.e_ife, Fw.e_arg, Fw.e_consL, Fw.e_consR, Fw.e_bmA, Fw.e_bm, Fw.e_ret, Fw.e_do, Fw.e_asg, Fw.e_if, Fw.e_for, Fw.e_src, Fw.e_srcA, Fw.v_x0, Fw.v_s0, Fw.v_x1, Fw.v_s1, Fw.v_x2, Fw.v_s2, Fw.v_x3, Fw.v_s3, Fw.v_x4, Fw.v_s4, Fw.v_x5, Fw.v_s5, Fw.v_x6, Fw.v_s6, Fw.v_x7, Fw.v_s7, Fw.v_x8, Fw.v_s8, Fw.v_x9, Fw.v_s9, Fw.v_x10, Fw.v_s10, Fw.v_x11, Fw.v_s11, Fw.v_x12, Fw.v_s12, Fw.v_x13, Fw.v_s13, Fw.v_x14, Fw.v_s14, Fw.v_x15, Fw.v_s15, Fw.v_x16, Fw.v_s16, Fw.v_x17, Fw.v_s17, Fw.v_x18, Fw.v_s18, Fw.v_x19, Fw.v_s19, Fw.v_x20, Fw.v_s20, Fw.v_x21, Fw.v_s21, Fw.v_x22, Fw.v_s22, Fw.v_x23, Fw.v_s23, Fw.v_x24, Fw.v_s24, Fw.v_x25, Fw.v_s25, Fw.v_unp1, Fw.v_unpL1, Fw.v_unp2, Fw.v_unpL2, Fw.v_unp3, Fw.v_unpL3, Fw.v_unp4, Fw.v_unpL4, Fw.v_unp5, Fw.v_unpL5, Fw.v_unp6, Fw.v_unpL6, Fw.v_unp7, Fw.v_unpL7, Fw.v_unp8, Fw.v_unpL8, Fw.v_addC, Fw.v_dic, Fw.v_zipL, Fw.v_addCS, Fw.v_strBB, Fw.v_strBN, Fw.v_strBS, Fw.v_joinC, Fw.v_fld, Fw.w_fld, Fw.v_sfld, Fw.w_sfld1, Fw.w_sfld2, Fw.v_meth, Fw.w_meth, Fw.w_argD, Fw.v_make, Fw.w_make, Fw.w_madeN, Fw.w_madeE, Fw.e_doE, Fw.w_setAt, Fw.v_raise, Fw.v_tryAs, Fw.v_tryMany, Fw.w_tryN, Fw.w_tryR, Fw.w_tryC, Fw.w_tryE, Fw.w_trmN, Fw.w_trmR, Fw.w_trmC, Fw.w_trmE, Fw.w_hdY, Fw.w_hdN, Fw.w_all, Fw.w_unN, Fw.w_unC, Fw.w_unR, Fw.w_unN0, Fw.w_unC0, Fw.w_isE, Fw.w_tabN, Fw.w_goN, Fw.w_goC, Fw.w_turn, Fw.v_lenli, Fw.v_ixli, Fw.v_lenT, Fw.v_addT, Fw.v_eqT, Fw.v_neT, Fw.v_eqI, Fw.v_neI, Fw.v_strN, Fw.v_strS, Fw.v_ord, Fw.v_appC, Fw.v_pow18, Fw.v_ixT, Fw.v_lst, Fw.v_tup, Fw.v_cel, Fw.v_appT, Fw.v_appL, Fw.v_rng1, Fw.v_enT, Fw.v_iT, Fw.v_iL, Fw.v_iTp, Fw.v_cutLTo, Fw.v_cutLFrom, Fw.v_wipe0, Fw.v_wipe1, Fw.w_te, Fw.v_cutTo, Fw.v_cutFrom, Fw.v_cutLast, Fw.v_splT, Fw.v_rsplT, Fw.v_rfindT, Fw.v_endsT, Fw.v_inT, Fw.v_notInT, Fw.v_joinT, Fw.v_tab, Fw.w_tabL, Fw.w_tabR, Fw.v_lstT, Fw.v_lstL, Fw.v_tupT, Fw.v_tupL, Fw.v_isBt, Fw.v_isBf, Fw.v_isBi, Fw.v_isBs, Fw.v_ixL0, Fw.v_ixL1, Fw.v_isTs, Fw.v_isTsI, Fw.v_isTsB, Fw.v_allB, Fw.v_all0, Fw.v_all1, Fw.v_all2, Fw.v_all3, Fw.v_all4, Fw.v_all5, Fw.v_all6, Fw.v_all7, Fw.v_all8, Fw.v_appT2, Fw.v_lz, Fw.v_castN, Fw.v_zpN, Fw.v_zpN2, Fw.v_zpC, Fw.v_intT, Fw.v_in2, Fw.v_lcNil, Fw.v_lcCons, Fw.w_lcT, Fw.w_lcCt, Fw.w_lcCf, Fw.w_lcE, Fw.v_yes, Fw.v_finF, Fw.v_loopNil, Fw.v_loopCons, Fw.w_restN, Fw.w_restC, Fw.w_restB, Fw.w_restR, Fw.o_lt, Fw.o_le, Fw.o_gt, Fw.o_ge, Fw.o_addI, Fw.o_sub, Fw.o_neg, Fw.o_mul, Fw.o_mod, Fw.o_div, Fw.f_intI, Fw.f_intB, Fw.f_max, Fw.f_min, Fw.f_lenL, Fw.f_lenT, decide_true, decide_false, Bool.not_true, Bool.not_false, List.map_cons, List.map_nil, List.set_cons_zero, List.set_cons_succ, List.drop_succ_cons, List.drop_zero, List.take_succ_cons, List.take_zero, List.replicate_succ, List.replicate_zero, List.cons_append, List.nil_append, List.append_nil, ne_eq, not_false_eq_true, not_true_eq_false, and_self, eq_self, and_true, and_false, false_and, true_and, reduceIte, if_true, if_false, reduceCtorEq, List.length_cons, List.length_nil, List.length_map, Fw.snoc_at, Fw.snoc_set, Fw.tyL_snoc, decide_eq_true_eq, Bool.and_true, Bool.true_and, Bool.and_false, Bool.false_and, Nat.reduceSub, Nat.reduceAdd, Int.reduceAdd, Int.reduceSub, Int.reduceMul, Int.reduceNeg, Int.reduceLT, Int.reduceLE, Int.reduceEq, Int.reduceMod, Int.reduceDiv, Int.reduceToNat, Nat.reduceEqDiff, b_Disk_told, f1, h, h2, nj]
theorem law_blank (F : Fresh G l s p) (hs : 3 ≤ s ∧ s ≤ 16) (hp : 2 ≤ p ∧ p ≤ 32) : m__law_blank [.obj l, .int s, .int p] G = .ok (.bl true) G := by
  have a1 := m_str F
  have a2 := m_plc F
  have a3 := m_sgn F
  have a4 := m_side F 0 (by decide)
  have a5 := m_side F 1 (by decide)
  have n1 := fun (f : Fn) (as : Exps) (ρ : En) => F.m "stretches" f as ρ rfl
  have n2 := fun (f : Fn) (as : Exps) (ρ : En) => F.m "places" f as ρ rfl
  have n3 := fun (f : Fn) (as : Exps) (ρ : En) => F.m "signs" f as ρ rfl
  have n4 := fun (f : Fn) (as : Exps) (ρ : En) => F.m "side" f as ρ rfl
  have n5 := fun (f : Fn) (as : Exps) (ρ : En) => F.m "told" f as ρ rfl
  have ms := ne_ints s p 0 G
  refine pure_ret0 rfl ?_ rfl
  have a4' : m_Disk_side [.obj l, .int 0] G = .ok .non G := a4
  have a5' : m_Disk_side [.obj l, .int 1] G = .ok .non G := a5
  have r0 : [D.non, D.non] = List.replicate 2 D.non := rfl
  simp -implicitDefEqProofs (disch := (first | exact Fw.tyL_snoc _ | omega | assumption | ((try simp only [List.length_append, List.length_cons, List.length_nil, List.length_map, List.length_take, List.length_drop, List.length_range, List.length_replicate, Fw.tyL_snoc]); first | done | omega))) only [Fw.v_c, Fw.v_bin, Fw.v_un, Fw.v_and, Fw.v_or, Fw.v_not, Fw.v_ife, Fw.v_args, Fw.v_nil, Fw.v_cons, Fw.v_bm, Fw.v_frz, Fw.v_chain, Fw.v_slLU, Fw.v_slL, Fw.v_slU, Fw.v_lc, Fw.v_seq, Fw.v_snil, Fw.v_ret, Fw.v_retN, Fw.v_brk, Fw.v_cnt, Fw.v_do, Fw.v_asg, Fw.v_if, Fw.v_for, Fw.v_srcOf, Fw.v_srcA, Fw.v_fn, Fw.w_binL, Fw.w_binR, Fw.w_un, Fw.w_andT, Fw.w_andF, Fw.w_orT, Fw.w_orF, Fw.w_not, Fw.w_ifT, Fw.w_ifF, Fw.w_arg, Fw.w_consL, Fw.w_consR, Fw.w_bmA, Fw.w_bmS, Fw.w_bm, Fw.w_frz, Fw.w_ch0, Fw.w_ch1, Fw.w_ch2T, Fw.w_ch2F, Fw.w_sl1, Fw.w_sl2, Fw.w_sl3, Fw.w_slL1, Fw.w_slL2, Fw.w_slU1, Fw.w_slU2, Fw.w_seq, Fw.w_seqR, Fw.w_seqB, Fw.w_seqC, Fw.w_seqE, Fw.w_ret, Fw.w_do, Fw.w_asg, Fw.w_tg, Fw.w_sifT, Fw.w_sifF, Fw.w_gs, Fw.w_gsnil, Fw.w_gscons, Fw.w_for, Fw.w_src, Fw.w_srcA, Fw.w_src2, Fw.w_lc, Fw.w_endN, Fw.w_endR, Fw.w_endE, Fw.e_binL, Fw.e_binR, Fw.e_un, Fw.e_and, Fw.e_or, Fw.e_not, Fw.e_ife, Fw.e_arg, Fw.e_consL, Fw.e_consR, Fw.e_bmA, Fw.e_bm, Fw.e_ret, Fw.e_do, Fw.e_asg, Fw.e_if, Fw.e_for, Fw.e_src, Fw.e_srcA, Fw.v_x0, Fw.v_s0, Fw.v_x1, Fw.v_s1, Fw.v_x2, Fw.v_s2, Fw.v_x3, Fw.v_s3, Fw.v_x4, Fw.v_s4, Fw.v_x5, Fw.v_s5, Fw.v_x6, Fw.v_s6, Fw.v_x7, Fw.v_s7, Fw.v_x8, Fw.v_s8, Fw.v_x9, Fw.v_s9, Fw.v_x10, Fw.v_s10, Fw.v_x11, Fw.v_s11, Fw.v_x12, Fw.v_s12, Fw.v_x13, Fw.v_s13, Fw.v_x14, Fw.v_s14, Fw.v_x15, Fw.v_s15, Fw.v_x16, Fw.v_s16, Fw.v_x17, Fw.v_s17, Fw.v_x18, Fw.v_s18, Fw.v_x19, Fw.v_s19, Fw.v_x20, Fw.v_s20, Fw.v_x21, Fw.v_s21, Fw.v_x22, Fw.v_s22, Fw.v_x23, Fw.v_s23, Fw.v_x24, Fw.v_s24, Fw.v_x25, Fw.v_s25, Fw.v_unp1, Fw.v_unpL1, Fw.v_unp2, Fw.v_unpL2, Fw.v_unp3, Fw.v_unpL3, Fw.v_unp4, Fw.v_unpL4, Fw.v_unp5, Fw.v_unpL5, Fw.v_unp6, Fw.v_unpL6, Fw.v_unp7, Fw.v_unpL7, Fw.v_unp8, Fw.v_unpL8, Fw.v_addC, Fw.v_dic, Fw.v_zipL, Fw.v_addCS, Fw.v_strBB, Fw.v_strBN, Fw.v_strBS, Fw.v_joinC, Fw.v_fld, Fw.w_fld, Fw.v_sfld, Fw.w_sfld1, Fw.w_sfld2, Fw.v_meth, Fw.w_meth, Fw.w_argD, Fw.v_make, Fw.w_make, Fw.w_madeN, Fw.w_madeE, Fw.e_doE, Fw.w_setAt, Fw.v_raise, Fw.v_tryAs, Fw.v_tryMany, Fw.w_tryN, Fw.w_tryR, Fw.w_tryC, Fw.w_tryE, Fw.w_trmN, Fw.w_trmR, Fw.w_trmC, Fw.w_trmE, Fw.w_hdY, Fw.w_hdN, Fw.w_all, Fw.w_unN, Fw.w_unC, Fw.w_unR, Fw.w_unN0, Fw.w_unC0, Fw.w_isE, Fw.w_tabN, Fw.w_goN, Fw.w_goC, Fw.w_turn, Fw.v_lenli, Fw.v_ixli, Fw.v_lenT, Fw.v_addT, Fw.v_eqT, Fw.v_neT, Fw.v_eqI, Fw.v_neI, Fw.v_strN, Fw.v_strS, Fw.v_ord, Fw.v_appC, Fw.v_pow18, Fw.v_ixT, Fw.v_lst, Fw.v_tup, Fw.v_cel, Fw.v_appT, Fw.v_appL, Fw.v_rng1, Fw.v_enT, Fw.v_iT, Fw.v_iL, Fw.v_iTp, Fw.v_cutLTo, Fw.v_cutLFrom, Fw.v_wipe0, Fw.v_wipe1, Fw.w_te, Fw.v_cutTo, Fw.v_cutFrom, Fw.v_cutLast, Fw.v_splT, Fw.v_rsplT, Fw.v_rfindT, Fw.v_endsT, Fw.v_inT, Fw.v_notInT, Fw.v_joinT, Fw.v_tab, Fw.w_tabL, Fw.w_tabR, Fw.v_lstT, Fw.v_lstL, Fw.v_tupT, Fw.v_tupL, Fw.v_isBt, Fw.v_isBf, Fw.v_isBi, Fw.v_isBs, Fw.v_ixL0, Fw.v_ixL1, Fw.v_isTs, Fw.v_isTsI, Fw.v_isTsB, Fw.v_allB, Fw.v_all0, Fw.v_all1, Fw.v_all2, Fw.v_all3, Fw.v_all4, Fw.v_all5, Fw.v_all6, Fw.v_all7, Fw.v_all8, Fw.v_appT2, Fw.v_lz, Fw.v_castN, Fw.v_zpN, Fw.v_zpN2, Fw.v_zpC, Fw.v_intT, Fw.v_in2, Fw.v_lcNil, Fw.v_lcCons, Fw.w_lcT, Fw.w_lcCt, Fw.w_lcCf, Fw.w_lcE, Fw.v_yes, Fw.v_finF, Fw.v_loopNil, Fw.v_loopCons, Fw.w_restN, Fw.w_restC, Fw.w_restB, Fw.w_restR, Fw.o_lt, Fw.o_le, Fw.o_gt, Fw.o_ge, Fw.o_addI, Fw.o_sub, Fw.o_neg, Fw.o_mul, Fw.o_mod, Fw.o_div, Fw.f_intI, Fw.f_intB, Fw.f_max, Fw.f_min, Fw.f_lenL, Fw.f_lenT, decide_true, decide_false, Bool.not_true, Bool.not_false, List.map_cons, List.map_nil, List.set_cons_zero, List.set_cons_succ, List.drop_succ_cons, List.drop_zero, List.take_succ_cons, List.take_zero, List.replicate_succ, List.replicate_zero, List.cons_append, List.nil_append, List.append_nil, ne_eq, not_false_eq_true, not_true_eq_false, and_self, eq_self, and_true, and_false, false_and, true_and, reduceIte, if_true, if_false, reduceCtorEq, List.length_cons, List.length_nil, List.length_map, Fw.snoc_at, Fw.snoc_set, Fw.tyL_snoc, decide_eq_true_eq, Bool.and_true, Bool.true_and, Bool.and_false, Bool.false_and, Nat.reduceSub, Nat.reduceAdd, Int.reduceAdd, Int.reduceSub, Int.reduceMul, Int.reduceNeg, Int.reduceLT, Int.reduceLE, Int.reduceEq, Int.reduceMod, Int.reduceDiv, Int.reduceToNat, Nat.reduceEqDiff, b__law_blank, a1, a2, a3, a4', a5', n1, n2, n3, n4, ms]
  have hm' : ((s : Int)).toNat = s := Int.toNat_natCast s
  rw [hm']
  refine rng_then (K := fun z => fSeq _ z = _) (fun i ρ g' => ∃ t : Option D, ρ = [some (.obj l), some (.int s), some (.int p), some (.lst (List.replicate (2 + 2 * i) .non)), t] ∧ g' = G) ⟨none, rfl, rfl⟩ ?_ ?_
  · rintro i ρ g' hi ⟨t, rfl, rfl⟩
    have b1 := m_told F i hi 0 (by decide)
    have b2 := m_told F i hi ((p : Int) - 1) (by omega)
    have rr : List.replicate (2 + 2 * i) D.non ++ [.non, .non] = List.replicate (2 + 2 * (i + 1)) .non := by
      show List.replicate (2 + 2 * i) D.non ++ List.replicate 2 D.non = _; rw [List.replicate_append_replicate]; rfl
    generalize hL : List.replicate (2 + 2 * i) D.non = L at *
    have ll : L.length ≤ 100 := by rw [← hL, List.length_replicate]; omega
    simp -implicitDefEqProofs (disch := (first | exact Fw.tyL_snoc _ | omega | assumption | ((try simp only [List.length_append, List.length_cons, List.length_nil, List.length_map, List.length_take, List.length_drop, List.length_range, List.length_replicate, Fw.tyL_snoc]); first | done | omega))) only [Fw.v_c, Fw.v_bin, Fw.v_un, Fw.v_and, Fw.v_or, Fw.v_not, Fw.v_ife, Fw.v_args, Fw.v_nil, Fw.v_cons, Fw.v_bm, Fw.v_frz, Fw.v_chain, Fw.v_slLU, Fw.v_slL, Fw.v_slU, Fw.v_lc, Fw.v_seq, Fw.v_snil, Fw.v_ret, Fw.v_retN, Fw.v_brk, Fw.v_cnt, Fw.v_do, Fw.v_asg, Fw.v_if, Fw.v_for, Fw.v_srcOf, Fw.v_srcA, Fw.v_fn, Fw.w_binL, Fw.w_binR, Fw.w_un, Fw.w_andT, Fw.w_andF, Fw.w_orT, Fw.w_orF, Fw.w_not, Fw.w_ifT, Fw.w_ifF, Fw.w_arg, Fw.w_consL, Fw.w_consR, Fw.w_bmA, Fw.w_bmS, Fw.w_bm, Fw.w_frz, Fw.w_ch0, Fw.w_ch1, Fw.w_ch2T, Fw.w_ch2F, Fw.w_sl1, Fw.w_sl2, Fw.w_sl3, Fw.w_slL1, Fw.w_slL2, Fw.w_slU1, Fw.w_slU2, Fw.w_seq, Fw.w_seqR, Fw.w_seqB, Fw.w_seqC, Fw.w_seqE, Fw.w_ret, Fw.w_do, Fw.w_asg, Fw.w_tg, Fw.w_sifT, Fw.w_sifF, Fw.w_gs, Fw.w_gsnil, Fw.w_gscons, Fw.w_for, Fw.w_src, Fw.w_srcA, Fw.w_src2, Fw.w_lc, Fw.w_endN, Fw.w_endR, Fw.w_endE, Fw.e_binL, Fw.e_binR, Fw.e_un, Fw.e_and, Fw.e_or, Fw.e_not, Fw.e_ife, Fw.e_arg, Fw.e_consL, Fw.e_consR, Fw.e_bmA, Fw.e_bm, Fw.e_ret, Fw.e_do, Fw.e_asg, Fw.e_if, Fw.e_for, Fw.e_src, Fw.e_srcA, Fw.v_x0, Fw.v_s0, Fw.v_x1, Fw.v_s1, Fw.v_x2, Fw.v_s2, Fw.v_x3, Fw.v_s3, Fw.v_x4, Fw.v_s4, Fw.v_x5, Fw.v_s5, Fw.v_x6, Fw.v_s6, Fw.v_x7, Fw.v_s7, Fw.v_x8, Fw.v_s8, Fw.v_x9, Fw.v_s9, Fw.v_x10, Fw.v_s10, Fw.v_x11, Fw.v_s11, Fw.v_x12, Fw.v_s12, Fw.v_x13, Fw.v_s13, Fw.v_x14, Fw.v_s14, Fw.v_x15, Fw.v_s15, Fw.v_x16, Fw.v_s16, Fw.v_x17, Fw.v_s17, Fw.v_x18, Fw.v_s18, Fw.v_x19, Fw.v_s19, Fw.v_x20, Fw.v_s20, Fw.v_x21, Fw.v_s21, Fw.v_x22, Fw.v_s22, Fw.v_x23, Fw.v_s23, Fw.v_x24, Fw.v_s24, Fw.v_x25, Fw.v_s25, Fw.v_unp1, Fw.v_unpL1, Fw.v_unp2, Fw.v_unpL2, Fw.v_unp3, Fw.v_unpL3, Fw.v_unp4, Fw.v_unpL4, Fw.v_unp5, Fw.v_unpL5, Fw.v_unp6, Fw.v_unpL6, Fw.v_unp7, Fw.v_unpL7, Fw.v_unp8, Fw.v_unpL8, Fw.v_addC, Fw.v_dic, Fw.v_zipL, Fw.v_addCS, Fw.v_strBB, Fw.v_strBN, Fw.v_strBS, Fw.v_joinC, Fw.v_fld, Fw.w_fld, Fw.v_sfld, Fw.w_sfld1, Fw.w_sfld2, Fw.v_meth, Fw.w_meth, Fw.w_argD, Fw.v_make, Fw.w_make, Fw.w_madeN, Fw.w_madeE, Fw.e_doE, Fw.w_setAt, Fw.v_raise, Fw.v_tryAs, Fw.v_tryMany, Fw.w_tryN, Fw.w_tryR, Fw.w_tryC, Fw.w_tryE, Fw.w_trmN, Fw.w_trmR, Fw.w_trmC, Fw.w_trmE, Fw.w_hdY, Fw.w_hdN, Fw.w_all, Fw.w_unN, Fw.w_unC, Fw.w_unR, Fw.w_unN0, Fw.w_unC0, Fw.w_isE, Fw.w_tabN, Fw.w_goN, Fw.w_goC, Fw.w_turn, Fw.v_lenli, Fw.v_ixli, Fw.v_lenT, Fw.v_addT, Fw.v_eqT, Fw.v_neT, Fw.v_eqI, Fw.v_neI, Fw.v_strN, Fw.v_strS, Fw.v_ord, Fw.v_appC, Fw.v_pow18, Fw.v_ixT, Fw.v_lst, Fw.v_tup, Fw.v_cel, Fw.v_appT, Fw.v_appL, Fw.v_rng1, Fw.v_enT, Fw.v_iT, Fw.v_iL, Fw.v_iTp, Fw.v_cutLTo, Fw.v_cutLFrom, Fw.v_wipe0, Fw.v_wipe1, Fw.w_te, Fw.v_cutTo, Fw.v_cutFrom, Fw.v_cutLast, Fw.v_splT, Fw.v_rsplT, Fw.v_rfindT, Fw.v_endsT, Fw.v_inT, Fw.v_notInT, Fw.v_joinT, Fw.v_tab, Fw.w_tabL, Fw.w_tabR, Fw.v_lstT, Fw.v_lstL, Fw.v_tupT, Fw.v_tupL, Fw.v_isBt, Fw.v_isBf, Fw.v_isBi, Fw.v_isBs, Fw.v_ixL0, Fw.v_ixL1, Fw.v_isTs, Fw.v_isTsI, Fw.v_isTsB, Fw.v_allB, Fw.v_all0, Fw.v_all1, Fw.v_all2, Fw.v_all3, Fw.v_all4, Fw.v_all5, Fw.v_all6, Fw.v_all7, Fw.v_all8, Fw.v_appT2, Fw.v_lz, Fw.v_castN, Fw.v_zpN, Fw.v_zpN2, Fw.v_zpC, Fw.v_intT, Fw.v_in2, Fw.v_lcNil, Fw.v_lcCons, Fw.w_lcT, Fw.w_lcCt, Fw.w_lcCf, Fw.w_lcE, Fw.v_yes, Fw.v_finF, Fw.v_loopNil, Fw.v_loopCons, Fw.w_restN, Fw.w_restC, Fw.w_restB, Fw.w_restR, Fw.o_lt, Fw.o_le, Fw.o_gt, Fw.o_ge, Fw.o_addI, Fw.o_sub, Fw.o_neg, Fw.o_mul, Fw.o_mod, Fw.o_div, Fw.f_intI, Fw.f_intB, Fw.f_max, Fw.f_min, Fw.f_lenL, Fw.f_lenT, decide_true, decide_false, Bool.not_true, Bool.not_false, List.map_cons, List.map_nil, List.set_cons_zero, List.set_cons_succ, List.drop_succ_cons, List.drop_zero, List.take_succ_cons, List.take_zero, List.replicate_succ, List.replicate_zero, List.cons_append, List.nil_append, List.append_nil, ne_eq, not_false_eq_true, not_true_eq_false, and_self, eq_self, and_true, and_false, false_and, true_and, reduceIte, if_true, if_false, reduceCtorEq, List.length_cons, List.length_nil, List.length_map, Fw.snoc_at, Fw.snoc_set, Fw.tyL_snoc, decide_eq_true_eq, Bool.and_true, Bool.true_and, Bool.and_false, Bool.false_and, Nat.reduceSub, Nat.reduceAdd, Int.reduceAdd, Int.reduceSub, Int.reduceMul, Int.reduceNeg, Int.reduceLT, Int.reduceLE, Int.reduceEq, Int.reduceMod, Int.reduceDiv, Int.reduceToNat, Nat.reduceEqDiff, n5, b1, b2, rr]
    exact ⟨_, rfl⟩
  · rintro ρ' g' ⟨t, rfl, rfl⟩
    have e1 := mul_non (2 * (s : Int) + 2) (by omega) g'
    have e2 : (2 * (s : Int) + 2).toNat = 2 + 2 * s := by omega
    rw [e2] at e1
    have e3 := eq_nons g' (2 + 2 * s)
    generalize List.replicate (2 + 2 * s) D.non = L at *
    simp -implicitDefEqProofs (disch := (first | exact Fw.tyL_snoc _ | omega | assumption | ((try simp only [List.length_append, List.length_cons, List.length_nil, List.length_map, List.length_take, List.length_drop, List.length_range, List.length_replicate, Fw.tyL_snoc]); first | done | omega))) only [Fw.v_c, Fw.v_bin, Fw.v_un, Fw.v_and, Fw.v_or, Fw.v_not, Fw.v_ife, Fw.v_args, Fw.v_nil, Fw.v_cons, Fw.v_bm, Fw.v_frz, Fw.v_chain, Fw.v_slLU, Fw.v_slL, Fw.v_slU, Fw.v_lc, Fw.v_seq, Fw.v_snil, Fw.v_ret, Fw.v_retN, Fw.v_brk, Fw.v_cnt, Fw.v_do, Fw.v_asg, Fw.v_if, Fw.v_for, Fw.v_srcOf, Fw.v_srcA, Fw.v_fn, Fw.w_binL, Fw.w_binR, Fw.w_un, Fw.w_andT, Fw.w_andF, Fw.w_orT, Fw.w_orF, Fw.w_not, Fw.w_ifT, Fw.w_ifF, Fw.w_arg, Fw.w_consL, Fw.w_consR, Fw.w_bmA, Fw.w_bmS, Fw.w_bm, Fw.w_frz, Fw.w_ch0, Fw.w_ch1, Fw.w_ch2T, Fw.w_ch2F, Fw.w_sl1, Fw.w_sl2, Fw.w_sl3, Fw.w_slL1, Fw.w_slL2, Fw.w_slU1, Fw.w_slU2, Fw.w_seq, Fw.w_seqR, Fw.w_seqB, Fw.w_seqC, Fw.w_seqE, Fw.w_ret, Fw.w_do, Fw.w_asg, Fw.w_tg, Fw.w_sifT, Fw.w_sifF, Fw.w_gs, Fw.w_gsnil, Fw.w_gscons, Fw.w_for, Fw.w_src, Fw.w_srcA, Fw.w_src2, Fw.w_lc, Fw.w_endN, Fw.w_endR, Fw.w_endE, Fw.e_binL, Fw.e_binR, Fw.e_un, Fw.e_and, Fw.e_or, Fw.e_not, Fw.e_ife, Fw.e_arg, Fw.e_consL, Fw.e_consR, Fw.e_bmA, Fw.e_bm, Fw.e_ret, Fw.e_do, Fw.e_asg, Fw.e_if, Fw.e_for, Fw.e_src, Fw.e_srcA, Fw.v_x0, Fw.v_s0, Fw.v_x1, Fw.v_s1, Fw.v_x2, Fw.v_s2, Fw.v_x3, Fw.v_s3, Fw.v_x4, Fw.v_s4, Fw.v_x5, Fw.v_s5, Fw.v_x6, Fw.v_s6, Fw.v_x7, Fw.v_s7, Fw.v_x8, Fw.v_s8, Fw.v_x9, Fw.v_s9, Fw.v_x10, Fw.v_s10, Fw.v_x11, Fw.v_s11, Fw.v_x12, Fw.v_s12, Fw.v_x13, Fw.v_s13, Fw.v_x14, Fw.v_s14, Fw.v_x15, Fw.v_s15, Fw.v_x16, Fw.v_s16, Fw.v_x17, Fw.v_s17, Fw.v_x18, Fw.v_s18, Fw.v_x19, Fw.v_s19, Fw.v_x20, Fw.v_s20, Fw.v_x21, Fw.v_s21, Fw.v_x22, Fw.v_s22, Fw.v_x23, Fw.v_s23, Fw.v_x24, Fw.v_s24, Fw.v_x25, Fw.v_s25, Fw.v_unp1, Fw.v_unpL1, Fw.v_unp2, Fw.v_unpL2, Fw.v_unp3, Fw.v_unpL3, Fw.v_unp4, Fw.v_unpL4, Fw.v_unp5, Fw.v_unpL5, Fw.v_unp6, Fw.v_unpL6, Fw.v_unp7, Fw.v_unpL7, Fw.v_unp8, Fw.v_unpL8, Fw.v_addC, Fw.v_dic, Fw.v_zipL, Fw.v_addCS, Fw.v_strBB, Fw.v_strBN, Fw.v_strBS, Fw.v_joinC, Fw.v_fld, Fw.w_fld, Fw.v_sfld, Fw.w_sfld1, Fw.w_sfld2, Fw.v_meth, Fw.w_meth, Fw.w_argD, Fw.v_make, Fw.w_make, Fw.w_madeN, Fw.w_madeE, Fw.e_doE, Fw.w_setAt, Fw.v_raise, Fw.v_tryAs, Fw.v_tryMany, Fw.w_tryN, Fw.w_tryR, Fw.w_tryC, Fw.w_tryE, Fw.w_trmN, Fw.w_trmR, Fw.w_trmC, Fw.w_trmE, Fw.w_hdY, Fw.w_hdN, Fw.w_all, Fw.w_unN, Fw.w_unC, Fw.w_unR, Fw.w_unN0, Fw.w_unC0, Fw.w_isE, Fw.w_tabN, Fw.w_goN, Fw.w_goC, Fw.w_turn, Fw.v_lenli, Fw.v_ixli, Fw.v_lenT, Fw.v_addT, Fw.v_eqT, Fw.v_neT, Fw.v_eqI, Fw.v_neI, Fw.v_strN, Fw.v_strS, Fw.v_ord, Fw.v_appC, Fw.v_pow18, Fw.v_ixT, Fw.v_lst, Fw.v_tup, Fw.v_cel, Fw.v_appT, Fw.v_appL, Fw.v_rng1, Fw.v_enT, Fw.v_iT, Fw.v_iL, Fw.v_iTp, Fw.v_cutLTo, Fw.v_cutLFrom, Fw.v_wipe0, Fw.v_wipe1, Fw.w_te, Fw.v_cutTo, Fw.v_cutFrom, Fw.v_cutLast, Fw.v_splT, Fw.v_rsplT, Fw.v_rfindT, Fw.v_endsT, Fw.v_inT, Fw.v_notInT, Fw.v_joinT, Fw.v_tab, Fw.w_tabL, Fw.w_tabR, Fw.v_lstT, Fw.v_lstL, Fw.v_tupT, Fw.v_tupL, Fw.v_isBt, Fw.v_isBf, Fw.v_isBi, Fw.v_isBs, Fw.v_ixL0, Fw.v_ixL1, Fw.v_isTs, Fw.v_isTsI, Fw.v_isTsB, Fw.v_allB, Fw.v_all0, Fw.v_all1, Fw.v_all2, Fw.v_all3, Fw.v_all4, Fw.v_all5, Fw.v_all6, Fw.v_all7, Fw.v_all8, Fw.v_appT2, Fw.v_lz, Fw.v_castN, Fw.v_zpN, Fw.v_zpN2, Fw.v_zpC, Fw.v_intT, Fw.v_in2, Fw.v_lcNil, Fw.v_lcCons, Fw.w_lcT, Fw.w_lcCt, Fw.w_lcCf, Fw.w_lcE, Fw.v_yes, Fw.v_finF, Fw.v_loopNil, Fw.v_loopCons, Fw.w_restN, Fw.w_restC, Fw.w_restB, Fw.w_restR, Fw.o_lt, Fw.o_le, Fw.o_gt, Fw.o_ge, Fw.o_addI, Fw.o_sub, Fw.o_neg, Fw.o_mul, Fw.o_mod, Fw.o_div, Fw.f_intI, Fw.f_intB, Fw.f_max, Fw.f_min, Fw.f_lenL, Fw.f_lenT, decide_true, decide_false, Bool.not_true, Bool.not_false, List.map_cons, List.map_nil, List.set_cons_zero, List.set_cons_succ, List.drop_succ_cons, List.drop_zero, List.take_succ_cons, List.take_zero, List.replicate_succ, List.replicate_zero, List.cons_append, List.nil_append, List.append_nil, ne_eq, not_false_eq_true, not_true_eq_false, and_self, eq_self, and_true, and_false, false_and, true_and, reduceIte, if_true, if_false, reduceCtorEq, List.length_cons, List.length_nil, List.length_map, Fw.snoc_at, Fw.snoc_set, Fw.tyL_snoc, decide_eq_true_eq, Bool.and_true, Bool.true_and, Bool.and_false, Bool.false_and, Nat.reduceSub, Nat.reduceAdd, Int.reduceAdd, Int.reduceSub, Int.reduceMul, Int.reduceNeg, Int.reduceLT, Int.reduceLE, Int.reduceEq, Int.reduceMod, Int.reduceDiv, Int.reduceToNat, Nat.reduceEqDiff, e1, e3]
end
end Ww

set_option maxRecDepth 100000
set_option maxHeartbeats 4000000
namespace Ww
open PySem PySem.Spec PyProof.Rows Fw
theorem v_pow12 {g : Gr} : opPow (.int 10) (.int 12) g = .ok (.int 1000000000000) g := by
  rw [o_pow (by decide)]
  rfl
/-- a size, right or not -/
structure Sz (lo hi : Nat) (v : D) (b : Bool) (G : Gr) : Prop where
  sz : ∀ x, m_is_size [v, .int lo, .int hi] (G ++ x) = .ok (.bl b) (G ++ x)
  num : b = true → ∃ n : Nat, v = .int n ∧ lo ≤ n ∧ n ≤ hi
  shw : ∃ q : PyData, (∀ x, toE (G ++ x) v = some q) ∧ q.showable = true ∧ q.leavesShort 20 = true ∧ q.weight ≤ 1000
theorem sz_int {lo hi : Nat} {i : Int} {b : Bool} {G : Gr} (hb : b = decide ((lo : Int) ≤ i ∧ i ≤ hi)) (h : -1000000000000 < i ∧ i < 1000000000000000000) : Sz lo hi (.int i) b G := by
  subst hb
  refine ⟨fun x => size_int _ _ _ _, fun e => ⟨i.toNat, ?_⟩, .int i, fun x => rfl, ?_, ?_, ?_⟩
  · have := of_decide_eq_true e
    exact ⟨by rw [Int.toNat_of_nonneg (by omega)], by omega, by omega⟩
  · show decide (i.natAbs.log2 < 1920) = true
    have := log_small (m := i.natAbs) (by omega)
    rw [Int.natAbs_natCast] at this
    exact decide_eq_true this
  · show decide ((((toString (i : Int) : String) : Str)).length ≤ 20) = true
    refine decide_eq_true ?_
    by_cases h0 : 0 ≤ i
    · obtain ⟨n, rfl⟩ : ∃ n : Nat, i = n := ⟨i.toNat, by omega⟩
      rw [nm_str, tx_len]
      exact Nat.le_trans (nm_len 17 n (by omega)) (by decide)
    · have := PyData.shown_int_le (i := i) (by omega)
      exact Nat.le_trans this (by decide)
  · show (if ((i : Int) == 0) = true then 0 else (i : Int).natAbs.log2 + 1) ≤ 1000
    have : i.natAbs.log2 < 100 := by
      by_cases h0 : i.natAbs = 0
      · rw [h0]; decide
      · exact (Nat.log2_lt h0).mpr (Nat.lt_of_lt_of_le (show _ < 2 ^ 61 by omega) (Nat.pow_le_pow_right (by decide) (by decide)))
    split <;> omega
theorem sz_bool {lo hi : Nat} {c : Bool} {G : Gr} : Sz lo hi (.bl c) false G :=
  ⟨fun x => size_bool _ _ _ _, (fun e => by cases e), PyData.bool c, fun x => rfl, rfl, rfl, Nat.zero_le _⟩
theorem sz_other {lo hi : Nat} {v : D} {G : Gr} (q : PyData) (h : ∀ x, opIsT "int" v (G ++ x) = .ok (.bl false) (G ++ x)) (h1 : ∀ x, toE (G ++ x) v = some q) (h2 : q.showable = true ∧ q.leavesShort 20 = true ∧ q.weight ≤ 1000) : Sz lo hi v false G :=
  ⟨fun x => size_other _ _ _ _ (h x), (fun e => by cases e), q, h1, h2⟩
theorem two_ok {lo hi : Nat} (hl : 2 ≤ lo ∧ lo ≤ 3) (hh : 16 ≤ hi ∧ hi ≤ 32) : (PyData.tuple [.int lo, .int hi]).showable = true ∧ (PyData.tuple [.int lo, .int hi]).leavesShort 20 = true ∧ (PyData.tuple [.int lo, .int hi]).weight ≤ 1000 := by
  have key : ∀ a < 4, ∀ b < 33, (PyData.tuple [.int (a : Nat), .int (b : Nat)]).showable = true ∧ (PyData.tuple [.int (a : Nat), .int (b : Nat)]).leavesShort 20 = true ∧ (PyData.tuple [.int (a : Nat), .int (b : Nat)]).weight ≤ 1000 := by decide +kernel
  exact key lo (by omega) hi (by omega)
theorem ixk2 (a0 a1 a2 : D) (ds : List D) (g : Gr) : opIx (.lst (a0 :: a1 :: a2 :: ds)) (.int 2) g = .ok a2 g := o_ixL (k := 2) rfl
theorem ixk3 (a0 a1 a2 a3 : D) (ds : List D) (g : Gr) : opIx (.lst (a0 :: a1 :: a2 :: a3 :: ds)) (.int 3) g = .ok a3 g := o_ixL (k := 3) rfl
theorem ixk4 (a0 a1 a2 a3 a4 : D) (ds : List D) (g : Gr) : opIx (.lst (a0 :: a1 :: a2 :: a3 :: a4 :: ds)) (.int 4) g = .ok a4 g := o_ixL (k := 4) rfl
theorem ixk5 (a0 a1 a2 a3 a4 a5 : D) (ds : List D) (g : Gr) : opIx (.lst (a0 :: a1 :: a2 :: a3 :: a4 :: a5 :: ds)) (.int 5) g = .ok a5 g := o_ixL (k := 5) rfl
theorem ixk6 (a0 a1 a2 a3 a4 a5 a6 : D) (ds : List D) (g : Gr) : opIx (.lst (a0 :: a1 :: a2 :: a3 :: a4 :: a5 :: a6 :: ds)) (.int 6) g = .ok a6 g := o_ixL (k := 6) rfl
theorem ixk7 (a0 a1 a2 a3 a4 a5 a6 a7 : D) (ds : List D) (g : Gr) : opIx (.lst (a0 :: a1 :: a2 :: a3 :: a4 :: a5 :: a6 :: a7 :: ds)) (.int 7) g = .ok a7 g := o_ixL (k := 7) rfl
theorem ixk8 (a0 a1 a2 a3 a4 a5 a6 a7 a8 : D) (ds : List D) (g : Gr) : opIx (.lst (a0 :: a1 :: a2 :: a3 :: a4 :: a5 :: a6 :: a7 :: a8 :: ds)) (.int 8) g = .ok a8 g := o_ixL (k := 8) rfl
theorem ixk9 (a0 a1 a2 a3 a4 a5 a6 a7 a8 a9 : D) (ds : List D) (g : Gr) : opIx (.lst (a0 :: a1 :: a2 :: a3 :: a4 :: a5 :: a6 :: a7 :: a8 :: a9 :: ds)) (.int 9) g = .ok a9 g := o_ixL (k := 9) rfl
theorem ixk10 (a0 a1 a2 a3 a4 a5 a6 a7 a8 a9 a10 : D) (ds : List D) (g : Gr) : opIx (.lst (a0 :: a1 :: a2 :: a3 :: a4 :: a5 :: a6 :: a7 :: a8 :: a9 :: a10 :: ds)) (.int 10) g = .ok a10 g := o_ixL (k := 10) rfl
theorem ixk11 (a0 a1 a2 a3 a4 a5 a6 a7 a8 a9 a10 a11 : D) (ds : List D) (g : Gr) : opIx (.lst (a0 :: a1 :: a2 :: a3 :: a4 :: a5 :: a6 :: a7 :: a8 :: a9 :: a10 :: a11 :: ds)) (.int 11) g = .ok a11 g := o_ixL (k := 11) rfl
theorem ixk12 (a0 a1 a2 a3 a4 a5 a6 a7 a8 a9 a10 a11 a12 : D) (ds : List D) (g : Gr) : opIx (.lst (a0 :: a1 :: a2 :: a3 :: a4 :: a5 :: a6 :: a7 :: a8 :: a9 :: a10 :: a11 :: a12 :: ds)) (.int 12) g = .ok a12 g := o_ixL (k := 12) rfl
theorem ixk13 (a0 a1 a2 a3 a4 a5 a6 a7 a8 a9 a10 a11 a12 a13 : D) (ds : List D) (g : Gr) : opIx (.lst (a0 :: a1 :: a2 :: a3 :: a4 :: a5 :: a6 :: a7 :: a8 :: a9 :: a10 :: a11 :: a12 :: a13 :: ds)) (.int 13) g = .ok a13 g := o_ixL (k := 13) rfl
theorem ixk14 (a0 a1 a2 a3 a4 a5 a6 a7 a8 a9 a10 a11 a12 a13 a14 : D) (ds : List D) (g : Gr) : opIx (.lst (a0 :: a1 :: a2 :: a3 :: a4 :: a5 :: a6 :: a7 :: a8 :: a9 :: a10 :: a11 :: a12 :: a13 :: a14 :: ds)) (.int 14) g = .ok a14 g := o_ixL (k := 14) rfl
theorem ixk15 (a0 a1 a2 a3 a4 a5 a6 a7 a8 a9 a10 a11 a12 a13 a14 a15 : D) (ds : List D) (g : Gr) : opIx (.lst (a0 :: a1 :: a2 :: a3 :: a4 :: a5 :: a6 :: a7 :: a8 :: a9 :: a10 :: a11 :: a12 :: a13 :: a14 :: a15 :: ds)) (.int 15) g = .ok a15 g := o_ixL (k := 15) rfl
theorem ixk16 (a0 a1 a2 a3 a4 a5 a6 a7 a8 a9 a10 a11 a12 a13 a14 a15 a16 : D) (ds : List D) (g : Gr) : opIx (.lst (a0 :: a1 :: a2 :: a3 :: a4 :: a5 :: a6 :: a7 :: a8 :: a9 :: a10 :: a11 :: a12 :: a13 :: a14 :: a15 :: a16 :: ds)) (.int 16) g = .ok a16 g := o_ixL (k := 16) rfl
theorem law_size_ok (d : Int) (lo hi : Nat) (hd : 0 ≤ d ∧ d < 1000000) (hl : 2 ≤ lo ∧ lo ≤ 3) (hh : 16 ≤ hi ∧ hi ≤ 32) (g : Gr) : ∃ v b, m__law_size [.int d, .int lo, .int hi] g = .ok (.tup [v, .bl b]) (g ++ [Cl.dic []]) ∧ Sz lo hi v b (g ++ [Cl.dic []]) := by
  have fin : ∀ v b, b__law_size [some (.int d), some (.int lo), some (.int hi), none, none, none] g = .ret (.tup [v, .bl b]) (g ++ [Cl.dic []]) → m__law_size [.int d, .int lo, .int hi] g = .ok (.tup [v, .bl b]) (g ++ [Cl.dic []]) := fun v b h => fn_ret rfl h
  have en : (g ++ [Cl.dic []])[g.length]? = some (.dic []) := snoc_at _
  have ex : ∀ x, ((g ++ [Cl.dic []]) ++ x)[g.length]? = some (.dic []) := fun x => by rw [List.getElem?_append_left (by simp)]; exact en
  have sd : subT "dict" "int" = some false := by decide +kernel
  have ti : ∀ x, opIsT "int" (.obj g.length) ((g ++ [Cl.dic []]) ++ x) = .ok (.bl false) ((g ++ [Cl.dic []]) ++ x) := fun x => by simp [opIsT, tyD, ex x, sd]
  have ti0 : opIsT "int" (.obj g.length) (g ++ [Cl.dic []]) = .ok (.bl false) (g ++ [Cl.dic []]) := by have := ti []; rwa [List.append_nil] at this
  have f1 : ∀ g : Gr, opIsT "int" .non g = .ok (.bl false) g := fun _ => rfl
  have f2 : ∀ (z : Str) (g : Gr), opIsT "int" (.str z) g = .ok (.bl false) g := fun _ _ => rfl
  have f3 : ∀ (z : List D) (g : Gr), opIsT "int" (.lst z) g = .ok (.bl false) g := fun _ _ => rfl
  have f4 : ∀ (z : List D) (g : Gr), opIsT "int" (.tup z) g = .ok (.bl false) g := fun _ _ => rfl
  have lo2 : (lo : Int) = 2 ∨ (lo : Int) = 3 := by omega
  have cs : d % 24 = 0 ∨ d % 24 = 1 ∨ d % 24 = 2 ∨ d % 24 = 3 ∨ d % 24 = 4 ∨ d % 24 = 5 ∨ d % 24 = 6 ∨ d % 24 = 7 ∨ d % 24 = 8 ∨ d % 24 = 9 ∨ d % 24 = 10 ∨ d % 24 = 11 ∨ d % 24 = 12 ∨ d % 24 = 13 ∨ d % 24 = 14 ∨ d % 24 = 15 ∨ d % 24 = 16 ∨ 17 ≤ d % 24 := by omega
  rcases cs with h | h | h | h | h | h | h | h | h | h | h | h | h | h | h | h | h | h
  · refine ⟨.int (0), false, fin _ _ ?_, sz_int (by rw [decide_eq_false (by omega)]) (by omega)⟩
    have n1 : ¬ ((lo : Int) ≤ 0 ∧ 0 ≤ (hi : Int)) := by omega
    by_cases n2 : (lo : Int) ≤ 0
    · have n3 : ¬ (0 ≤ (hi : Int)) := by omega
      simp -implicitDefEqProofs (disch := (first | exact Fw.tyL_snoc _ | omega | assumption | ((try simp only [List.length_append, List.length_cons, List.length_nil, List.length_map, List.length_take, List.length_drop, List.length_range, List.length_replicate, Fw.tyL_snoc]); first | done | omega))) only [Fw.v_c, Fw.v_bin, Fw.v_un, Fw.v_and, Fw.v_or, Fw.v_not, Fw.v_ife, Fw.v_args, Fw.v_nil, Fw.v_cons, Fw.v_bm, Fw.v_frz, Fw.v_chain, Fw.v_slLU, Fw.v_slL, Fw.v_slU, Fw.v_lc, Fw.v_seq, Fw.v_snil, Fw.v_ret, Fw.v_retN, Fw.v_brk, Fw.v_cnt, Fw.v_do, Fw.v_asg, Fw.v_if, Fw.v_for, Fw.v_srcOf, Fw.v_srcA, Fw.v_fn, Fw.w_binL, Fw.w_binR, Fw.w_un, Fw.w_andT, Fw.w_andF, Fw.w_orT, Fw.w_orF, Fw.w_not, Fw.w_ifT, Fw.w_ifF, Fw.w_arg, Fw.w_consL, Fw.w_consR, Fw.w_bmA, Fw.w_bmS, Fw.w_bm, Fw.w_frz, Fw.w_ch0, Fw.w_ch1, Fw.w_ch2T, Fw.w_ch2F, Fw.w_sl1, Fw.w_sl2, Fw.w_sl3, Fw.w_slL1, Fw.w_slL2, Fw.w_slU1, Fw.w_slU2, Fw.w_seq, Fw.w_seqR, Fw.w_seqB, Fw.w_seqC, Fw.w_seqE, Fw.w_ret, Fw.w_do, Fw.w_asg, Fw.w_tg, Fw.w_sifT, Fw.w_sifF, Fw.w_gs, Fw.w_gsnil, Fw.w_gscons, Fw.w_for, Fw.w_src, Fw.w_srcA, Fw.w_src2, Fw.w_lc, Fw.w_endN, Fw.w_endR, Fw.w_endE, Fw.e_binL, Fw.e_binR, Fw.e_un, Fw.e_and, Fw.e_or, Fw.e_not, Fw.e_ife, Fw.e_arg, Fw.e_consL, Fw.e_consR, Fw.e_bmA, Fw.e_bm, Fw.e_ret, Fw.e_do, Fw.e_asg, Fw.e_if, Fw.e_for, Fw.e_src, Fw.e_srcA, Fw.v_x0, Fw.v_s0, Fw.v_x1, Fw.v_s1, Fw.v_x2, Fw.v_s2, Fw.v_x3, Fw.v_s3, Fw.v_x4, Fw.v_s4, Fw.v_x5, Fw.v_s5, Fw.v_x6, Fw.v_s6, Fw.v_x7, Fw.v_s7, Fw.v_x8, Fw.v_s8, Fw.v_x9, Fw.v_s9, Fw.v_x10, Fw.v_s10, Fw.v_x11, Fw.v_s11, Fw.v_x12, Fw.v_s12, Fw.v_x13, Fw.v_s13, Fw.v_x14, Fw.v_s14, Fw.v_x15, Fw.v_s15, Fw.v_x16, Fw.v_s16, Fw.v_x17, Fw.v_s17, Fw.v_x18, Fw.v_s18, Fw.v_x19, Fw.v_s19, Fw.v_x20, Fw.v_s20, Fw.v_x21, Fw.v_s21, Fw.v_x22, Fw.v_s22, Fw.v_x23, Fw.v_s23, Fw.v_x24, Fw.v_s24, Fw.v_x25, Fw.v_s25, Fw.v_unp1, Fw.v_unpL1, Fw.v_unp2, Fw.v_unpL2, Fw.v_unp3, Fw.v_unpL3, Fw.v_unp4, Fw.v_unpL4, Fw.v_unp5, Fw.v_unpL5, Fw.v_unp6, Fw.v_unpL6, Fw.v_unp7, Fw.v_unpL7, Fw.v_unp8, Fw.v_unpL8, Fw.v_addC, Fw.v_dic, Fw.v_zipL, Fw.v_addCS, Fw.v_strBB, Fw.v_strBN, Fw.v_strBS, Fw.v_joinC, Fw.v_fld, Fw.w_fld, Fw.v_sfld, Fw.w_sfld1, Fw.w_sfld2, Fw.v_meth, Fw.w_meth, Fw.w_argD, Fw.v_make, Fw.w_make, Fw.w_madeN, Fw.w_madeE, Fw.e_doE, Fw.w_setAt, Fw.v_raise, Fw.v_tryAs, Fw.v_tryMany, Fw.w_tryN, Fw.w_tryR, Fw.w_tryC, Fw.w_tryE, Fw.w_trmN, Fw.w_trmR, Fw.w_trmC, Fw.w_trmE, Fw.w_hdY, Fw.w_hdN, Fw.w_all, Fw.w_unN, Fw.w_unC, Fw.w_unR, Fw.w_unN0, Fw.w_unC0, Fw.w_isE, Fw.w_tabN, Fw.w_goN, Fw.w_goC, Fw.w_turn, Fw.v_lenli, Fw.v_ixli, Fw.v_lenT, Fw.v_addT, Fw.v_eqT, Fw.v_neT, Fw.v_eqI, Fw.v_neI, Fw.v_strN, Fw.v_strS, Fw.v_ord, Fw.v_appC, Fw.v_pow18, Fw.v_ixT, Fw.v_lst, Fw.v_tup, Fw.v_cel, Fw.v_appT, Fw.v_appL, Fw.v_rng1, Fw.v_enT, Fw.v_iT, Fw.v_iL, Fw.v_iTp, Fw.v_cutLTo, Fw.v_cutLFrom, Fw.v_wipe0, Fw.v_wipe1, Fw.w_te, Fw.v_cutTo, Fw.v_cutFrom, Fw.v_cutLast, Fw.v_splT, Fw.v_rsplT, Fw.v_rfindT, Fw.v_endsT, Fw.v_inT, Fw.v_notInT, Fw.v_joinT, Fw.v_tab, Fw.w_tabL, Fw.w_tabR, Fw.v_lstT, Fw.v_lstL, Fw.v_tupT, Fw.v_tupL, Fw.v_isBt, Fw.v_isBf, Fw.v_isBi, Fw.v_isBs, Fw.v_ixL0, Fw.v_ixL1, Fw.v_isTs, Fw.v_isTsI, Fw.v_isTsB, Fw.v_allB, Fw.v_all0, Fw.v_all1, Fw.v_all2, Fw.v_all3, Fw.v_all4, Fw.v_all5, Fw.v_all6, Fw.v_all7, Fw.v_all8, Fw.v_appT2, Fw.v_lz, Fw.v_castN, Fw.v_zpN, Fw.v_zpN2, Fw.v_zpC, Fw.v_intT, Fw.v_in2, Fw.v_lcNil, Fw.v_lcCons, Fw.w_lcT, Fw.w_lcCt, Fw.w_lcCf, Fw.w_lcE, Fw.v_yes, Fw.v_finF, Fw.v_loopNil, Fw.v_loopCons, Fw.w_restN, Fw.w_restC, Fw.w_restB, Fw.w_restR, Fw.o_lt, Fw.o_le, Fw.o_gt, Fw.o_ge, Fw.o_addI, Fw.o_sub, Fw.o_neg, Fw.o_mul, Fw.o_mod, Fw.o_div, Fw.f_intI, Fw.f_intB, Fw.f_max, Fw.f_min, Fw.f_lenL, Fw.f_lenT, decide_true, decide_false, Bool.not_true, Bool.not_false, List.map_cons, List.map_nil, List.set_cons_zero, List.set_cons_succ, List.drop_succ_cons, List.drop_zero, List.take_succ_cons, List.take_zero, List.replicate_succ, List.replicate_zero, List.cons_append, List.nil_append, List.append_nil, ne_eq, not_false_eq_true, not_true_eq_false, and_self, eq_self, and_true, and_false, false_and, true_and, reduceIte, if_true, if_false, reduceCtorEq, List.length_cons, List.length_nil, List.length_map, Fw.snoc_at, Fw.snoc_set, Fw.tyL_snoc, decide_eq_true_eq, Bool.and_true, Bool.true_and, Bool.and_false, Bool.false_and, Nat.reduceSub, Nat.reduceAdd, Int.reduceAdd, Int.reduceSub, Int.reduceMul, Int.reduceNeg, Int.reduceLT, Int.reduceLE, Int.reduceEq, Int.reduceMod, Int.reduceDiv, Int.reduceToNat, Nat.reduceEqDiff, b__law_size, v_pow12, h, v_isI, v_isIb, v_isB, v_isBb, f1, f2, f3, f4, ti0, Int.toNat_natCast, ixk2, ixk3, ixk4, ixk5, ixk6, ixk7, ixk8, ixk9, ixk10, ixk11, ixk12, ixk13, ixk14, ixk15, ixk16, n2, n3]
    · simp -implicitDefEqProofs (disch := (first | exact Fw.tyL_snoc _ | omega | assumption | ((try simp only [List.length_append, List.length_cons, List.length_nil, List.length_map, List.length_take, List.length_drop, List.length_range, List.length_replicate, Fw.tyL_snoc]); first | done | omega))) only [Fw.v_c, Fw.v_bin, Fw.v_un, Fw.v_and, Fw.v_or, Fw.v_not, Fw.v_ife, Fw.v_args, Fw.v_nil, Fw.v_cons, Fw.v_bm, Fw.v_frz, Fw.v_chain, Fw.v_slLU, Fw.v_slL, Fw.v_slU, Fw.v_lc, Fw.v_seq, Fw.v_snil, Fw.v_ret, Fw.v_retN, Fw.v_brk, Fw.v_cnt, Fw.v_do, Fw.v_asg, Fw.v_if, Fw.v_for, Fw.v_srcOf, Fw.v_srcA, Fw.v_fn, Fw.w_binL, Fw.w_binR, Fw.w_un, Fw.w_andT, Fw.w_andF, Fw.w_orT, Fw.w_orF, Fw.w_not, Fw.w_ifT, Fw.w_ifF, Fw.w_arg, Fw.w_consL, Fw.w_consR, Fw.w_bmA, Fw.w_bmS, Fw.w_bm, Fw.w_frz, Fw.w_ch0, Fw.w_ch1, Fw.w_ch2T, Fw.w_ch2F, Fw.w_sl1, Fw.w_sl2, Fw.w_sl3, Fw.w_slL1, Fw.w_slL2, Fw.w_slU1, Fw.w_slU2, Fw.w_seq, Fw.w_seqR, Fw.w_seqB, Fw.w_seqC, Fw.w_seqE, Fw.w_ret, Fw.w_do, Fw.w_asg, Fw.w_tg, Fw.w_sifT, Fw.w_sifF, Fw.w_gs, Fw.w_gsnil, Fw.w_gscons, Fw.w_for, Fw.w_src, Fw.w_srcA, Fw.w_src2, Fw.w_lc, Fw.w_endN, Fw.w_endR, Fw.w_endE, Fw.e_binL, Fw.e_binR, Fw.e_un, Fw.e_and, Fw.e_or, Fw.e_not, Fw.e_ife, Fw.e_arg, Fw.e_consL, Fw.e_consR, Fw.e_bmA, Fw.e_bm, Fw.e_ret, Fw.e_do, Fw.e_asg, Fw.e_if, Fw.e_for, Fw.e_src, Fw.e_srcA, Fw.v_x0, Fw.v_s0, Fw.v_x1, Fw.v_s1, Fw.v_x2, Fw.v_s2, Fw.v_x3, Fw.v_s3, Fw.v_x4, Fw.v_s4, Fw.v_x5, Fw.v_s5, Fw.v_x6, Fw.v_s6, Fw.v_x7, Fw.v_s7, Fw.v_x8, Fw.v_s8, Fw.v_x9, Fw.v_s9, Fw.v_x10, Fw.v_s10, Fw.v_x11, Fw.v_s11, Fw.v_x12, Fw.v_s12, Fw.v_x13, Fw.v_s13, Fw.v_x14, Fw.v_s14, Fw.v_x15, Fw.v_s15, Fw.v_x16, Fw.v_s16, Fw.v_x17, Fw.v_s17, Fw.v_x18, Fw.v_s18, Fw.v_x19, Fw.v_s19, Fw.v_x20, Fw.v_s20, Fw.v_x21, Fw.v_s21, Fw.v_x22, Fw.v_s22, Fw.v_x23, Fw.v_s23, Fw.v_x24, Fw.v_s24, Fw.v_x25, Fw.v_s25, Fw.v_unp1, Fw.v_unpL1, Fw.v_unp2, Fw.v_unpL2, Fw.v_unp3, Fw.v_unpL3, Fw.v_unp4, Fw.v_unpL4, Fw.v_unp5, Fw.v_unpL5, Fw.v_unp6, Fw.v_unpL6, Fw.v_unp7, Fw.v_unpL7, Fw.v_unp8, Fw.v_unpL8, Fw.v_addC, Fw.v_dic, Fw.v_zipL, Fw.v_addCS, Fw.v_strBB, Fw.v_strBN, Fw.v_strBS, Fw.v_joinC, Fw.v_fld, Fw.w_fld, Fw.v_sfld, Fw.w_sfld1, Fw.w_sfld2, Fw.v_meth, Fw.w_meth, Fw.w_argD, Fw.v_make, Fw.w_make, Fw.w_madeN, Fw.w_madeE, Fw.e_doE, Fw.w_setAt, Fw.v_raise, Fw.v_tryAs, Fw.v_tryMany, Fw.w_tryN, Fw.w_tryR, Fw.w_tryC, Fw.w_tryE, Fw.w_trmN, Fw.w_trmR, Fw.w_trmC, Fw.w_trmE, Fw.w_hdY, Fw.w_hdN, Fw.w_all, Fw.w_unN, Fw.w_unC, Fw.w_unR, Fw.w_unN0, Fw.w_unC0, Fw.w_isE, Fw.w_tabN, Fw.w_goN, Fw.w_goC, Fw.w_turn, Fw.v_lenli, Fw.v_ixli, Fw.v_lenT, Fw.v_addT, Fw.v_eqT, Fw.v_neT, Fw.v_eqI, Fw.v_neI, Fw.v_strN, Fw.v_strS, Fw.v_ord, Fw.v_appC, Fw.v_pow18, Fw.v_ixT, Fw.v_lst, Fw.v_tup, Fw.v_cel, Fw.v_appT, Fw.v_appL, Fw.v_rng1, Fw.v_enT, Fw.v_iT, Fw.v_iL, Fw.v_iTp, Fw.v_cutLTo, Fw.v_cutLFrom, Fw.v_wipe0, Fw.v_wipe1, Fw.w_te, Fw.v_cutTo, Fw.v_cutFrom, Fw.v_cutLast, Fw.v_splT, Fw.v_rsplT, Fw.v_rfindT, Fw.v_endsT, Fw.v_inT, Fw.v_notInT, Fw.v_joinT, Fw.v_tab, Fw.w_tabL, Fw.w_tabR, Fw.v_lstT, Fw.v_lstL, Fw.v_tupT, Fw.v_tupL, Fw.v_isBt, Fw.v_isBf, Fw.v_isBi, Fw.v_isBs, Fw.v_ixL0, Fw.v_ixL1, Fw.v_isTs, Fw.v_isTsI, Fw.v_isTsB, Fw.v_allB, Fw.v_all0, Fw.v_all1, Fw.v_all2, Fw.v_all3, Fw.v_all4, Fw.v_all5, Fw.v_all6, Fw.v_all7, Fw.v_all8, Fw.v_appT2, Fw.v_lz, Fw.v_castN, Fw.v_zpN, Fw.v_zpN2, Fw.v_zpC, Fw.v_intT, Fw.v_in2, Fw.v_lcNil, Fw.v_lcCons, Fw.w_lcT, Fw.w_lcCt, Fw.w_lcCf, Fw.w_lcE, Fw.v_yes, Fw.v_finF, Fw.v_loopNil, Fw.v_loopCons, Fw.w_restN, Fw.w_restC, Fw.w_restB, Fw.w_restR, Fw.o_lt, Fw.o_le, Fw.o_gt, Fw.o_ge, Fw.o_addI, Fw.o_sub, Fw.o_neg, Fw.o_mul, Fw.o_mod, Fw.o_div, Fw.f_intI, Fw.f_intB, Fw.f_max, Fw.f_min, Fw.f_lenL, Fw.f_lenT, decide_true, decide_false, Bool.not_true, Bool.not_false, List.map_cons, List.map_nil, List.set_cons_zero, List.set_cons_succ, List.drop_succ_cons, List.drop_zero, List.take_succ_cons, List.take_zero, List.replicate_succ, List.replicate_zero, List.cons_append, List.nil_append, List.append_nil, ne_eq, not_false_eq_true, not_true_eq_false, and_self, eq_self, and_true, and_false, false_and, true_and, reduceIte, if_true, if_false, reduceCtorEq, List.length_cons, List.length_nil, List.length_map, Fw.snoc_at, Fw.snoc_set, Fw.tyL_snoc, decide_eq_true_eq, Bool.and_true, Bool.true_and, Bool.and_false, Bool.false_and, Nat.reduceSub, Nat.reduceAdd, Int.reduceAdd, Int.reduceSub, Int.reduceMul, Int.reduceNeg, Int.reduceLT, Int.reduceLE, Int.reduceEq, Int.reduceMod, Int.reduceDiv, Int.reduceToNat, Nat.reduceEqDiff, b__law_size, v_pow12, h, v_isI, v_isIb, v_isB, v_isBb, f1, f2, f3, f4, ti0, Int.toNat_natCast, ixk2, ixk3, ixk4, ixk5, ixk6, ixk7, ixk8, ixk9, ixk10, ixk11, ixk12, ixk13, ixk14, ixk15, ixk16, n2]
  · refine ⟨.int (1), false, fin _ _ ?_, sz_int (by rw [decide_eq_false (by omega)]) (by omega)⟩
    have n1 : ¬ ((lo : Int) ≤ 1 ∧ 1 ≤ (hi : Int)) := by omega
    by_cases n2 : (lo : Int) ≤ 1
    · have n3 : ¬ (1 ≤ (hi : Int)) := by omega
      simp -implicitDefEqProofs (disch := (first | exact Fw.tyL_snoc _ | omega | assumption | ((try simp only [List.length_append, List.length_cons, List.length_nil, List.length_map, List.length_take, List.length_drop, List.length_range, List.length_replicate, Fw.tyL_snoc]); first | done | omega))) only [Fw.v_c, Fw.v_bin, Fw.v_un, Fw.v_and, Fw.v_or, Fw.v_not, Fw.v_ife, Fw.v_args, Fw.v_nil, Fw.v_cons, Fw.v_bm, Fw.v_frz, Fw.v_chain, Fw.v_slLU, Fw.v_slL, Fw.v_slU, Fw.v_lc, Fw.v_seq, Fw.v_snil, Fw.v_ret, Fw.v_retN, Fw.v_brk, Fw.v_cnt, Fw.v_do, Fw.v_asg, Fw.v_if, Fw.v_for, Fw.v_srcOf, Fw.v_srcA, Fw.v_fn, Fw.w_binL, Fw.w_binR, Fw.w_un, Fw.w_andT, Fw.w_andF, Fw.w_orT, Fw.w_orF, Fw.w_not, Fw.w_ifT, Fw.w_ifF, Fw.w_arg, Fw.w_consL, Fw.w_consR, Fw.w_bmA, Fw.w_bmS, Fw.w_bm, Fw.w_frz, Fw.w_ch0, Fw.w_ch1, Fw.w_ch2T, Fw.w_ch2F, Fw.w_sl1, Fw.w_sl2, Fw.w_sl3, Fw.w_slL1, Fw.w_slL2, Fw.w_slU1, Fw.w_slU2, Fw.w_seq, Fw.w_seqR, Fw.w_seqB, Fw.w_seqC, Fw.w_seqE, Fw.w_ret, Fw.w_do, Fw.w_asg, Fw.w_tg, Fw.w_sifT, Fw.w_sifF, Fw.w_gs, Fw.w_gsnil, Fw.w_gscons, Fw.w_for, Fw.w_src, Fw.w_srcA, Fw.w_src2, Fw.w_lc, Fw.w_endN, Fw.w_endR, Fw.w_endE, Fw.e_binL, Fw.e_binR, Fw.e_un, Fw.e_and, Fw.e_or, Fw.e_not, Fw.e_ife, Fw.e_arg, Fw.e_consL, Fw.e_consR, Fw.e_bmA, Fw.e_bm, Fw.e_ret, Fw.e_do, Fw.e_asg, Fw.e_if, Fw.e_for, Fw.e_src, Fw.e_srcA, Fw.v_x0, Fw.v_s0, Fw.v_x1, Fw.v_s1, Fw.v_x2, Fw.v_s2, Fw.v_x3, Fw.v_s3, Fw.v_x4, Fw.v_s4, Fw.v_x5, Fw.v_s5, Fw.v_x6, Fw.v_s6, Fw.v_x7, Fw.v_s7, Fw.v_x8, Fw.v_s8, Fw.v_x9, Fw.v_s9, Fw.v_x10, Fw.v_s10, Fw.v_x11, Fw.v_s11, Fw.v_x12, Fw.v_s12, Fw.v_x13, Fw.v_s13, Fw.v_x14, Fw.v_s14, Fw.v_x15, Fw.v_s15, Fw.v_x16, Fw.v_s16, Fw.v_x17, Fw.v_s17, Fw.v_x18, Fw.v_s18, Fw.v_x19, Fw.v_s19, Fw.v_x20, Fw.v_s20, Fw.v_x21, Fw.v_s21, Fw.v_x22, Fw.v_s22, Fw.v_x23, Fw.v_s23, Fw.v_x24, Fw.v_s24, Fw.v_x25, Fw.v_s25, Fw.v_unp1, Fw.v_unpL1, Fw.v_unp2, Fw.v_unpL2, Fw.v_unp3, Fw.v_unpL3, Fw.v_unp4, Fw.v_unpL4, Fw.v_unp5, Fw.v_unpL5, Fw.v_unp6, Fw.v_unpL6, Fw.v_unp7, Fw.v_unpL7, Fw.v_unp8, Fw.v_unpL8, Fw.v_addC, Fw.v_dic, Fw.v_zipL, Fw.v_addCS, Fw.v_strBB, Fw.v_strBN, Fw.v_strBS, Fw.v_joinC, Fw.v_fld, Fw.w_fld, Fw.v_sfld, Fw.w_sfld1, Fw.w_sfld2, Fw.v_meth, Fw.w_meth, Fw.w_argD, Fw.v_make, Fw.w_make, Fw.w_madeN, Fw.w_madeE, Fw.e_doE, Fw.w_setAt, Fw.v_raise, Fw.v_tryAs, Fw.v_tryMany, Fw.w_tryN, Fw.w_tryR, Fw.w_tryC, Fw.w_tryE, Fw.w_trmN, Fw.w_trmR, Fw.w_trmC, Fw.w_trmE, Fw.w_hdY, Fw.w_hdN, Fw.w_all, Fw.w_unN, Fw.w_unC, Fw.w_unR, Fw.w_unN0, Fw.w_unC0, Fw.w_isE, Fw.w_tabN, Fw.w_goN, Fw.w_goC, Fw.w_turn, Fw.v_lenli, Fw.v_ixli, Fw.v_lenT, Fw.v_addT, Fw.v_eqT, Fw.v_neT, Fw.v_eqI, Fw.v_neI, Fw.v_strN, Fw.v_strS, Fw.v_ord, Fw.v_appC, Fw.v_pow18, Fw.v_ixT, Fw.v_lst, Fw.v_tup, Fw.v_cel, Fw.v_appT, Fw.v_appL, Fw.v_rng1, Fw.v_enT, Fw.v_iT, Fw.v_iL, Fw.v_iTp, Fw.v_cutLTo, Fw.v_cutLFrom, Fw.v_wipe0, Fw.v_wipe1, Fw.w_te, Fw.v_cutTo, Fw.v_cutFrom, Fw.v_cutLast, Fw.v_splT, Fw.v_rsplT, Fw.v_rfindT, Fw.v_endsT, Fw.v_inT, Fw.v_notInT, Fw.v_joinT, Fw.v_tab, Fw.w_tabL, Fw.w_tabR, Fw.v_lstT, Fw.v_lstL, Fw.v_tupT, Fw.v_tupL, Fw.v_isBt, Fw.v_isBf, Fw.v_isBi, Fw.v_isBs, Fw.v_ixL0, Fw.v_ixL1, Fw.v_isTs, Fw.v_isTsI, Fw.v_isTsB, Fw.v_allB, Fw.v_all0, Fw.v_all1, Fw.v_all2, Fw.v_all3, Fw.v_all4, Fw.v_all5, Fw.v_all6, Fw.v_all7, Fw.v_all8, Fw.v_appT2, Fw.v_lz, Fw.v_castN, Fw.v_zpN, Fw.v_zpN2, Fw.v_zpC, Fw.v_intT, Fw.v_in2, Fw.v_lcNil, Fw.v_lcCons, Fw.w_lcT, Fw.w_lcCt, Fw.w_lcCf, Fw.w_lcE, Fw.v_yes, Fw.v_finF, Fw.v_loopNil, Fw.v_loopCons, Fw.w_restN, Fw.w_restC, Fw.w_restB, Fw.w_restR, Fw.o_lt, Fw.o_le, Fw.o_gt, Fw.o_ge, Fw.o_addI, Fw.o_sub, Fw.o_neg, Fw.o_mul, Fw.o_mod, Fw.o_div, Fw.f_intI, Fw.f_intB, Fw.f_max, Fw.f_min, Fw.f_lenL, Fw.f_lenT, decide_true, decide_false, Bool.not_true, Bool.not_false, List.map_cons, List.map_nil, List.set_cons_zero, List.set_cons_succ, List.drop_succ_cons, List.drop_zero, List.take_succ_cons, List.take_zero, List.replicate_succ, List.replicate_zero, List.cons_append, List.nil_append, List.append_nil, ne_eq, not_false_eq_true, not_true_eq_false, and_self, eq_self, and_true, and_false, false_and, true_and, reduceIte, if_true, if_false, reduceCtorEq, List.length_cons, List.length_nil, List.length_map, Fw.snoc_at, Fw.snoc_set, Fw.tyL_snoc, decide_eq_true_eq, Bool.and_true, Bool.true_and, Bool.and_false, Bool.false_and, Nat.reduceSub, Nat.reduceAdd, Int.reduceAdd, Int.reduceSub, Int.reduceMul, Int.reduceNeg, Int.reduceLT, Int.reduceLE, Int.reduceEq, Int.reduceMod, Int.reduceDiv, Int.reduceToNat, Nat.reduceEqDiff, b__law_size, v_pow12, h, v_isI, v_isIb, v_isB, v_isBb, f1, f2, f3, f4, ti0, Int.toNat_natCast, ixk2, ixk3, ixk4, ixk5, ixk6, ixk7, ixk8, ixk9, ixk10, ixk11, ixk12, ixk13, ixk14, ixk15, ixk16, n2, n3]
    · simp -implicitDefEqProofs (disch := (first | exact Fw.tyL_snoc _ | omega | assumption | ((try simp only [List.length_append, List.length_cons, List.length_nil, List.length_map, List.length_take, List.length_drop, List.length_range, List.length_replicate, Fw.tyL_snoc]); first | done | omega))) only [Fw.v_c, Fw.v_bin, Fw.v_un, Fw.v_and, Fw.v_or, Fw.v_not, Fw.v_ife, Fw.v_args, Fw.v_nil, Fw.v_cons, Fw.v_bm, Fw.v_frz, Fw.v_chain, Fw.v_slLU, Fw.v_slL, Fw.v_slU, Fw.v_lc, Fw.v_seq, Fw.v_snil, Fw.v_ret, Fw.v_retN, Fw.v_brk, Fw.v_cnt, Fw.v_do, Fw.v_asg, Fw.v_if, Fw.v_for, Fw.v_srcOf, Fw.v_srcA, Fw.v_fn, Fw.w_binL, Fw.w_binR, Fw.w_un, Fw.w_andT, Fw.w_andF, Fw.w_orT, Fw.w_orF, Fw.w_not, Fw.w_ifT, Fw.w_ifF, Fw.w_arg, Fw.w_consL, Fw.w_consR, Fw.w_bmA, Fw.w_bmS, Fw.w_bm, Fw.w_frz, Fw.w_ch0, Fw.w_ch1, Fw.w_ch2T, Fw.w_ch2F, Fw.w_sl1, Fw.w_sl2, Fw.w_sl3, Fw.w_slL1, Fw.w_slL2, Fw.w_slU1, Fw.w_slU2, Fw.w_seq, Fw.w_seqR, Fw.w_seqB, Fw.w_seqC, Fw.w_seqE, Fw.w_ret, Fw.w_do, Fw.w_asg, Fw.w_tg, Fw.w_sifT, Fw.w_sifF, Fw.w_gs, Fw.w_gsnil, Fw.w_gscons, Fw.w_for, Fw.w_src, Fw.w_srcA, Fw.w_src2, Fw.w_lc, Fw.w_endN, Fw.w_endR, Fw.w_endE, Fw.e_binL, Fw.e_binR, Fw.e_un, Fw.e_and, Fw.e_or, Fw.e_not, Fw.e_ife, Fw.e_arg, Fw.e_consL, Fw.e_consR, Fw.e_bmA, Fw.e_bm, Fw.e_ret, Fw.e_do, Fw.e_asg, Fw.e_if, Fw.e_for, Fw.e_src, Fw.e_srcA, Fw.v_x0, Fw.v_s0, Fw.v_x1, Fw.v_s1, Fw.v_x2, Fw.v_s2, Fw.v_x3, Fw.v_s3, Fw.v_x4, Fw.v_s4, Fw.v_x5, Fw.v_s5, Fw.v_x6, Fw.v_s6, Fw.v_x7, Fw.v_s7, Fw.v_x8, Fw.v_s8, Fw.v_x9, Fw.v_s9, Fw.v_x10, Fw.v_s10, Fw.v_x11, Fw.v_s11, Fw.v_x12, Fw.v_s12, Fw.v_x13, Fw.v_s13, Fw.v_x14, Fw.v_s14, Fw.v_x15, Fw.v_s15, Fw.v_x16, Fw.v_s16, Fw.v_x17, Fw.v_s17, Fw.v_x18, Fw.v_s18, Fw.v_x19, Fw.v_s19, Fw.v_x20, Fw.v_s20, Fw.v_x21, Fw.v_s21, Fw.v_x22, Fw.v_s22, Fw.v_x23, Fw.v_s23, Fw.v_x24, Fw.v_s24, Fw.v_x25, Fw.v_s25, Fw.v_unp1, Fw.v_unpL1, Fw.v_unp2, Fw.v_unpL2, Fw.v_unp3, Fw.v_unpL3, Fw.v_unp4, Fw.v_unpL4, Fw.v_unp5, Fw.v_unpL5, Fw.v_unp6, Fw.v_unpL6, Fw.v_unp7, Fw.v_unpL7, Fw.v_unp8, Fw.v_unpL8, Fw.v_addC, Fw.v_dic, Fw.v_zipL, Fw.v_addCS, Fw.v_strBB, Fw.v_strBN, Fw.v_strBS, Fw.v_joinC, Fw.v_fld, Fw.w_fld, Fw.v_sfld, Fw.w_sfld1, Fw.w_sfld2, Fw.v_meth, Fw.w_meth, Fw.w_argD, Fw.v_make, Fw.w_make, Fw.w_madeN, Fw.w_madeE, Fw.e_doE, Fw.w_setAt, Fw.v_raise, Fw.v_tryAs, Fw.v_tryMany, Fw.w_tryN, Fw.w_tryR, Fw.w_tryC, Fw.w_tryE, Fw.w_trmN, Fw.w_trmR, Fw.w_trmC, Fw.w_trmE, Fw.w_hdY, Fw.w_hdN, Fw.w_all, Fw.w_unN, Fw.w_unC, Fw.w_unR, Fw.w_unN0, Fw.w_unC0, Fw.w_isE, Fw.w_tabN, Fw.w_goN, Fw.w_goC, Fw.w_turn, Fw.v_lenli, Fw.v_ixli, Fw.v_lenT, Fw.v_addT, Fw.v_eqT, Fw.v_neT, Fw.v_eqI, Fw.v_neI, Fw.v_strN, Fw.v_strS, Fw.v_ord, Fw.v_appC, Fw.v_pow18, Fw.v_ixT, Fw.v_lst, Fw.v_tup, Fw.v_cel, Fw.v_appT, Fw.v_appL, Fw.v_rng1, Fw.v_enT, Fw.v_iT, Fw.v_iL, Fw.v_iTp, Fw.v_cutLTo, Fw.v_cutLFrom, Fw.v_wipe0, Fw.v_wipe1, Fw.w_te, Fw.v_cutTo, Fw.v_cutFrom, Fw.v_cutLast, Fw.v_splT, Fw.v_rsplT, Fw.v_rfindT, Fw.v_endsT, Fw.v_inT, Fw.v_notInT, Fw.v_joinT, Fw.v_tab, Fw.w_tabL, Fw.w_tabR, Fw.v_lstT, Fw.v_lstL, Fw.v_tupT, Fw.v_tupL, Fw.v_isBt, Fw.v_isBf, Fw.v_isBi, Fw.v_isBs, Fw.v_ixL0, Fw.v_ixL1, Fw.v_isTs, Fw.v_isTsI, Fw.v_isTsB, Fw.v_allB, Fw.v_all0, Fw.v_all1, Fw.v_all2, Fw.v_all3, Fw.v_all4, Fw.v_all5, Fw.v_all6, Fw.v_all7, Fw.v_all8, Fw.v_appT2, Fw.v_lz, Fw.v_castN, Fw.v_zpN, Fw.v_zpN2, Fw.v_zpC, Fw.v_intT, Fw.v_in2, Fw.v_lcNil, Fw.v_lcCons, Fw.w_lcT, Fw.w_lcCt, Fw.w_lcCf, Fw.w_lcE, Fw.v_yes, Fw.v_finF, Fw.v_loopNil, Fw.v_loopCons, Fw.w_restN, Fw.w_restC, Fw.w_restB, Fw.w_restR, Fw.o_lt, Fw.o_le, Fw.o_gt, Fw.o_ge, Fw.o_addI, Fw.o_sub, Fw.o_neg, Fw.o_mul, Fw.o_mod, Fw.o_div, Fw.f_intI, Fw.f_intB, Fw.f_max, Fw.f_min, Fw.f_lenL, Fw.f_lenT, decide_true, decide_false, Bool.not_true, Bool.not_false, List.map_cons, List.map_nil, List.set_cons_zero, List.set_cons_succ, List.drop_succ_cons, List.drop_zero, List.take_succ_cons, List.take_zero, List.replicate_succ, List.replicate_zero, List.cons_append, List.nil_append, List.append_nil, ne_eq, not_false_eq_true, not_true_eq_false, and_self, eq_self, and_true, and_false, false_and, true_and, reduceIte, if_true, if_false, reduceCtorEq, List.length_cons, List.length_nil, List.length_map, Fw.snoc_at, Fw.snoc_set, Fw.tyL_snoc, decide_eq_true_eq, Bool.and_true, Bool.true_and, Bool.and_false, Bool.false_and, Nat.reduceSub, Nat.reduceAdd, Int.reduceAdd, Int.reduceSub, Int.reduceMul, Int.reduceNeg, Int.reduceLT, Int.reduceLE, Int.reduceEq, Int.reduceMod, Int.reduceDiv, Int.reduceToNat, Nat.reduceEqDiff, b__law_size, v_pow12, h, v_isI, v_isIb, v_isB, v_isBb, f1, f2, f3, f4, ti0, Int.toNat_natCast, ixk2, ixk3, ixk4, ixk5, ixk6, ixk7, ixk8, ixk9, ixk10, ixk11, ixk12, ixk13, ixk14, ixk15, ixk16, n2]
  · refine ⟨.int ((lo : Int) - 1), false, fin _ _ ?_, sz_int (by rw [decide_eq_false (by omega)]) (by omega)⟩
    have n1 : ¬ ((lo : Int) ≤ (lo : Int) - 1 ∧ (lo : Int) - 1 ≤ (hi : Int)) := by omega
    by_cases n2 : (lo : Int) ≤ (lo : Int) - 1
    · have n3 : ¬ ((lo : Int) - 1 ≤ (hi : Int)) := by omega
      simp -implicitDefEqProofs (disch := (first | exact Fw.tyL_snoc _ | omega | assumption | ((try simp only [List.length_append, List.length_cons, List.length_nil, List.length_map, List.length_take, List.length_drop, List.length_range, List.length_replicate, Fw.tyL_snoc]); first | done | omega))) only [Fw.v_c, Fw.v_bin, Fw.v_un, Fw.v_and, Fw.v_or, Fw.v_not, Fw.v_ife, Fw.v_args, Fw.v_nil, Fw.v_cons, Fw.v_bm, Fw.v_frz, Fw.v_chain, Fw.v_slLU, Fw.v_slL, Fw.v_slU, Fw.v_lc, Fw.v_seq, Fw.v_snil, Fw.v_ret, Fw.v_retN, Fw.v_brk, Fw.v_cnt, Fw.v_do, Fw.v_asg, Fw.v_if, Fw.v_for, Fw.v_srcOf, Fw.v_srcA, Fw.v_fn, Fw.w_binL, Fw.w_binR, Fw.w_un, Fw.w_andT, Fw.w_andF, Fw.w_orT, Fw.w_orF, Fw.w_not, Fw.w_ifT, Fw.w_ifF, Fw.w_arg, Fw.w_consL, Fw.w_consR, Fw.w_bmA, Fw.w_bmS, Fw.w_bm, Fw.w_frz, Fw.w_ch0, Fw.w_ch1, Fw.w_ch2T, Fw.w_ch2F, Fw.w_sl1, Fw.w_sl2, Fw.w_sl3, Fw.w_slL1, Fw.w_slL2, Fw.w_slU1, Fw.w_slU2, Fw.w_seq, Fw.w_seqR, Fw.w_seqB, Fw.w_seqC, Fw.w_seqE, Fw.w_ret, Fw.w_do, Fw.w_asg, Fw.w_tg, Fw.w_sifT, Fw.w_sifF, Fw.w_gs, Fw.w_gsnil, Fw.w_gscons, Fw.w_for, Fw.w_src, Fw.w_srcA, Fw.w_src2, Fw.w_lc, Fw.w_endN, Fw.w_endR, Fw.w_endE, Fw.e_binL, Fw.e_binR, Fw.e_un, Fw.e_and, Fw.e_or, Fw.e_not, Fw.e_ife, Fw.e_arg, Fw.e_consL, Fw.e_consR, Fw.e_bmA, Fw.e_bm, Fw.e_ret, Fw.e_do, Fw.e_asg, Fw.e_if, Fw.e_for, Fw.e_src, Fw.e_srcA, Fw.v_x0, Fw.v_s0, Fw.v_x1, Fw.v_s1, Fw.v_x2, Fw.v_s2, Fw.v_x3, Fw.v_s3, Fw.v_x4, Fw.v_s4, Fw.v_x5, Fw.v_s5, Fw.v_x6, Fw.v_s6, Fw.v_x7, Fw.v_s7, Fw.v_x8, Fw.v_s8, Fw.v_x9, Fw.v_s9, Fw.v_x10, Fw.v_s10, Fw.v_x11, Fw.v_s11, Fw.v_x12, Fw.v_s12, Fw.v_x13, Fw.v_s13, Fw.v_x14, Fw.v_s14, Fw.v_x15, Fw.v_s15, Fw.v_x16, Fw.v_s16, Fw.v_x17, Fw.v_s17, Fw.v_x18, Fw.v_s18, Fw.v_x19, Fw.v_s19, Fw.v_x20, Fw.v_s20, Fw.v_x21, Fw.v_s21, Fw.v_x22, Fw.v_s22, Fw.v_x23, Fw.v_s23, Fw.v_x24, Fw.v_s24, Fw.v_x25, Fw.v_s25, Fw.v_unp1, Fw.v_unpL1, Fw.v_unp2, Fw.v_unpL2, Fw.v_unp3, Fw.v_unpL3, Fw.v_unp4, Fw.v_unpL4, Fw.v_unp5, Fw.v_unpL5, Fw.v_unp6, Fw.v_unpL6, Fw.v_unp7, Fw.v_unpL7, Fw.v_unp8, Fw.v_unpL8, Fw.v_addC, Fw.v_dic, Fw.v_zipL, Fw.v_addCS, Fw.v_strBB, Fw.v_strBN, Fw.v_strBS, Fw.v_joinC, Fw.v_fld, Fw.w_fld, Fw.v_sfld, Fw.w_sfld1, Fw.w_sfld2, Fw.v_meth, Fw.w_meth, Fw.w_argD, Fw.v_make, Fw.w_make, Fw.w_madeN, Fw.w_madeE, Fw.e_doE, Fw.w_setAt, Fw.v_raise, Fw.v_tryAs, Fw.v_tryMany, Fw.w_tryN, Fw.w_tryR, Fw.w_tryC, Fw.w_tryE, Fw.w_trmN, Fw.w_trmR, Fw.w_trmC, Fw.w_trmE, Fw.w_hdY, Fw.w_hdN, Fw.w_all, Fw.w_unN, Fw.w_unC, Fw.w_unR, Fw.w_unN0, Fw.w_unC0, Fw.w_isE, Fw.w_tabN, Fw.w_goN, Fw.w_goC, Fw.w_turn, Fw.v_lenli, Fw.v_ixli, Fw.v_lenT, Fw.v_addT, Fw.v_eqT, Fw.v_neT, Fw.v_eqI, Fw.v_neI, Fw.v_strN, Fw.v_strS, Fw.v_ord, Fw.v_appC, Fw.v_pow18, Fw.v_ixT, Fw.v_lst, Fw.v_tup, Fw.v_cel, Fw.v_appT, Fw.v_appL, Fw.v_rng1, Fw.v_enT, Fw.v_iT, Fw.v_iL, Fw.v_iTp, Fw.v_cutLTo, Fw.v_cutLFrom, Fw.v_wipe0, Fw.v_wipe1, Fw.w_te, Fw.v_cutTo, Fw.v_cutFrom, Fw.v_cutLast, Fw.v_splT, Fw.v_rsplT, Fw.v_rfindT, Fw.v_endsT, Fw.v_inT, Fw.v_notInT, Fw.v_joinT, Fw.v_tab, Fw.w_tabL, Fw.w_tabR, Fw.v_lstT, Fw.v_lstL, Fw.v_tupT, Fw.v_tupL, Fw.v_isBt, Fw.v_isBf, Fw.v_isBi, Fw.v_isBs, Fw.v_ixL0, Fw.v_ixL1, Fw.v_isTs, Fw.v_isTsI, Fw.v_isTsB, Fw.v_allB, Fw.v_all0, Fw.v_all1, Fw.v_all2, Fw.v_all3, Fw.v_all4, Fw.v_all5, Fw.v_all6, Fw.v_all7, Fw.v_all8, Fw.v_appT2, Fw.v_lz, Fw.v_castN, Fw.v_zpN, Fw.v_zpN2, Fw.v_zpC, Fw.v_intT, Fw.v_in2, Fw.v_lcNil, Fw.v_lcCons, Fw.w_lcT, Fw.w_lcCt, Fw.w_lcCf, Fw.w_lcE, Fw.v_yes, Fw.v_finF, Fw.v_loopNil, Fw.v_loopCons, Fw.w_restN, Fw.w_restC, Fw.w_restB, Fw.w_restR, Fw.o_lt, Fw.o_le, Fw.o_gt, Fw.o_ge, Fw.o_addI, Fw.o_sub, Fw.o_neg, Fw.o_mul, Fw.o_mod, Fw.o_div, Fw.f_intI, Fw.f_intB, Fw.f_max, Fw.f_min, Fw.f_lenL, Fw.f_lenT, decide_true, decide_false, Bool.not_true, Bool.not_false, List.map_cons, List.map_nil, List.set_cons_zero, List.set_cons_succ, List.drop_succ_cons, List.drop_zero, List.take_succ_cons, List.take_zero, List.replicate_succ, List.replicate_zero, List.cons_append, List.nil_append, List.append_nil, ne_eq, not_false_eq_true, not_true_eq_false, and_self, eq_self, and_true, and_false, false_and, true_and, reduceIte, if_true, if_false, reduceCtorEq, List.length_cons, List.length_nil, List.length_map, Fw.snoc_at, Fw.snoc_set, Fw.tyL_snoc, decide_eq_true_eq, Bool.and_true, Bool.true_and, Bool.and_false, Bool.false_and, Nat.reduceSub, Nat.reduceAdd, Int.reduceAdd, Int.reduceSub, Int.reduceMul, Int.reduceNeg, Int.reduceLT, Int.reduceLE, Int.reduceEq, Int.reduceMod, Int.reduceDiv, Int.reduceToNat, Nat.reduceEqDiff, b__law_size, v_pow12, h, v_isI, v_isIb, v_isB, v_isBb, f1, f2, f3, f4, ti0, Int.toNat_natCast, ixk2, ixk3, ixk4, ixk5, ixk6, ixk7, ixk8, ixk9, ixk10, ixk11, ixk12, ixk13, ixk14, ixk15, ixk16, n2, n3]
    · simp -implicitDefEqProofs (disch := (first | exact Fw.tyL_snoc _ | omega | assumption | ((try simp only [List.length_append, List.length_cons, List.length_nil, List.length_map, List.length_take, List.length_drop, List.length_range, List.length_replicate, Fw.tyL_snoc]); first | done | omega))) only [Fw.v_c, Fw.v_bin, Fw.v_un, Fw.v_and, Fw.v_or, Fw.v_not, Fw.v_ife, Fw.v_args, Fw.v_nil, Fw.v_cons, Fw.v_bm, Fw.v_frz, Fw.v_chain, Fw.v_slLU, Fw.v_slL, Fw.v_slU, Fw.v_lc, Fw.v_seq, Fw.v_snil, Fw.v_ret, Fw.v_retN, Fw.v_brk, Fw.v_cnt, Fw.v_do, Fw.v_asg, Fw.v_if, Fw.v_for, Fw.v_srcOf, Fw.v_srcA, Fw.v_fn, Fw.w_binL, Fw.w_binR, Fw.w_un, Fw.w_andT, Fw.w_andF, Fw.w_orT, Fw.w_orF, Fw.w_not, Fw.w_ifT, Fw.w_ifF, Fw.w_arg, Fw.w_consL, Fw.w_consR, Fw.w_bmA, Fw.w_bmS, Fw.w_bm, Fw.w_frz, Fw.w_ch0, Fw.w_ch1, Fw.w_ch2T, Fw.w_ch2F, Fw.w_sl1, Fw.w_sl2, Fw.w_sl3, Fw.w_slL1, Fw.w_slL2, Fw.w_slU1, Fw.w_slU2, Fw.w_seq, Fw.w_seqR, Fw.w_seqB, Fw.w_seqC, Fw.w_seqE, Fw.w_ret, Fw.w_do, Fw.w_asg, Fw.w_tg, Fw.w_sifT, Fw.w_sifF, Fw.w_gs, Fw.w_gsnil, Fw.w_gscons, Fw.w_for, Fw.w_src, Fw.w_srcA, Fw.w_src2, Fw.w_lc, Fw.w_endN, Fw.w_endR, Fw.w_endE, Fw.e_binL, Fw.e_binR, Fw.e_un, Fw.e_and, Fw.e_or, Fw.e_not, Fw.e_ife, Fw.e_arg, Fw.e_consL, Fw.e_consR, Fw.e_bmA, Fw.e_bm, Fw.e_ret, Fw.e_do, Fw.e_asg, Fw.e_if, Fw.e_for, Fw.e_src, Fw.e_srcA, Fw.v_x0, Fw.v_s0, Fw.v_x1, Fw.v_s1, Fw.v_x2, Fw.v_s2, Fw.v_x3, Fw.v_s3, Fw.v_x4, Fw.v_s4, Fw.v_x5, Fw.v_s5, Fw.v_x6, Fw.v_s6, Fw.v_x7, Fw.v_s7, Fw.v_x8, Fw.v_s8, Fw.v_x9, Fw.v_s9, Fw.v_x10, Fw.v_s10, Fw.v_x11, Fw.v_s11, Fw.v_x12, Fw.v_s12, Fw.v_x13, Fw.v_s13, Fw.v_x14, Fw.v_s14, Fw.v_x15, Fw.v_s15, Fw.v_x16, Fw.v_s16, Fw.v_x17, Fw.v_s17, Fw.v_x18, Fw.v_s18, Fw.v_x19, Fw.v_s19, Fw.v_x20, Fw.v_s20, Fw.v_x21, Fw.v_s21, Fw.v_x22, Fw.v_s22, Fw.v_x23, Fw.v_s23, Fw.v_x24, Fw.v_s24, Fw.v_x25, Fw.v_s25, Fw.v_unp1, Fw.v_unpL1, Fw.v_unp2, Fw.v_unpL2, Fw.v_unp3, Fw.v_unpL3, Fw.v_unp4, Fw.v_unpL4, Fw.v_unp5, Fw.v_unpL5, Fw.v_unp6, Fw.v_unpL6, Fw.v_unp7, Fw.v_unpL7, Fw.v_unp8, Fw.v_unpL8, Fw.v_addC, Fw.v_dic, Fw.v_zipL, Fw.v_addCS, Fw.v_strBB, Fw.v_strBN, Fw.v_strBS, Fw.v_joinC, Fw.v_fld, Fw.w_fld, Fw.v_sfld, Fw.w_sfld1, Fw.w_sfld2, Fw.v_meth, Fw.w_meth, Fw.w_argD, Fw.v_make, Fw.w_make, Fw.w_madeN, Fw.w_madeE, Fw.e_doE, Fw.w_setAt, Fw.v_raise, Fw.v_tryAs, Fw.v_tryMany, Fw.w_tryN, Fw.w_tryR, Fw.w_tryC, Fw.w_tryE, Fw.w_trmN, Fw.w_trmR, Fw.w_trmC, Fw.w_trmE, Fw.w_hdY, Fw.w_hdN, Fw.w_all, Fw.w_unN, Fw.w_unC, Fw.w_unR, Fw.w_unN0, Fw.w_unC0, Fw.w_isE, Fw.w_tabN, Fw.w_goN, Fw.w_goC, Fw.w_turn, Fw.v_lenli, Fw.v_ixli, Fw.v_lenT, Fw.v_addT, Fw.v_eqT, Fw.v_neT, Fw.v_eqI, Fw.v_neI, Fw.v_strN, Fw.v_strS, Fw.v_ord, Fw.v_appC, Fw.v_pow18, Fw.v_ixT, Fw.v_lst, Fw.v_tup, Fw.v_cel, Fw.v_appT, Fw.v_appL, Fw.v_rng1, Fw.v_enT, Fw.v_iT, Fw.v_iL, Fw.v_iTp, Fw.v_cutLTo, Fw.v_cutLFrom, Fw.v_wipe0, Fw.v_wipe1, Fw.w_te, Fw.v_cutTo, Fw.v_cutFrom, Fw.v_cutLast, Fw.v_splT, Fw.v_rsplT, Fw.v_rfindT, Fw.v_endsT, Fw.v_inT, Fw.v_notInT, Fw.v_joinT, Fw.v_tab, Fw.w_tabL, Fw.w_tabR, Fw.v_lstT, Fw.v_lstL, Fw.v_tupT, Fw.v_tupL, Fw.v_isBt, Fw.v_isBf, Fw.v_isBi, Fw.v_isBs, Fw.v_ixL0, Fw.v_ixL1, Fw.v_isTs, Fw.v_isTsI, Fw.v_isTsB, Fw.v_allB, Fw.v_all0, Fw.v_all1, Fw.v_all2, Fw.v_all3, Fw.v_all4, Fw.v_all5, Fw.v_all6, Fw.v_all7, Fw.v_all8, Fw.v_appT2, Fw.v_lz, Fw.v_castN, Fw.v_zpN, Fw.v_zpN2, Fw.v_zpC, Fw.v_intT, Fw.v_in2, Fw.v_lcNil, Fw.v_lcCons, Fw.w_lcT, Fw.w_lcCt, Fw.w_lcCf, Fw.w_lcE, Fw.v_yes, Fw.v_finF, Fw.v_loopNil, Fw.v_loopCons, Fw.w_restN, Fw.w_restC, Fw.w_restB, Fw.w_restR, Fw.o_lt, Fw.o_le, Fw.o_gt, Fw.o_ge, Fw.o_addI, Fw.o_sub, Fw.o_neg, Fw.o_mul, Fw.o_mod, Fw.o_div, Fw.f_intI, Fw.f_intB, Fw.f_max, Fw.f_min, Fw.f_lenL, Fw.f_lenT, decide_true, decide_false, Bool.not_true, Bool.not_false, List.map_cons, List.map_nil, List.set_cons_zero, List.set_cons_succ, List.drop_succ_cons, List.drop_zero, List.take_succ_cons, List.take_zero, List.replicate_succ, List.replicate_zero, List.cons_append, List.nil_append, List.append_nil, ne_eq, not_false_eq_true, not_true_eq_false, and_self, eq_self, and_true, and_false, false_and, true_and, reduceIte, if_true, if_false, reduceCtorEq, List.length_cons, List.length_nil, List.length_map, Fw.snoc_at, Fw.snoc_set, Fw.tyL_snoc, decide_eq_true_eq, Bool.and_true, Bool.true_and, Bool.and_false, Bool.false_and, Nat.reduceSub, Nat.reduceAdd, Int.reduceAdd, Int.reduceSub, Int.reduceMul, Int.reduceNeg, Int.reduceLT, Int.reduceLE, Int.reduceEq, Int.reduceMod, Int.reduceDiv, Int.reduceToNat, Nat.reduceEqDiff, b__law_size, v_pow12, h, v_isI, v_isIb, v_isB, v_isBb, f1, f2, f3, f4, ti0, Int.toNat_natCast, ixk2, ixk3, ixk4, ixk5, ixk6, ixk7, ixk8, ixk9, ixk10, ixk11, ixk12, ixk13, ixk14, ixk15, ixk16, n2]
  · refine ⟨.int ((hi : Int) + 1), false, fin _ _ ?_, sz_int (by rw [decide_eq_false (by omega)]) (by omega)⟩
    have n1 : ¬ ((lo : Int) ≤ (hi : Int) + 1 ∧ (hi : Int) + 1 ≤ (hi : Int)) := by omega
    by_cases n2 : (lo : Int) ≤ (hi : Int) + 1
    · have n3 : ¬ ((hi : Int) + 1 ≤ (hi : Int)) := by omega
      simp -implicitDefEqProofs (disch := (first | exact Fw.tyL_snoc _ | omega | assumption | ((try simp only [List.length_append, List.length_cons, List.length_nil, List.length_map, List.length_take, List.length_drop, List.length_range, List.length_replicate, Fw.tyL_snoc]); first | done | omega))) only [Fw.v_c, Fw.v_bin, Fw.v_un, Fw.v_and, Fw.v_or, Fw.v_not, Fw.v_ife, Fw.v_args, Fw.v_nil, Fw.v_cons, Fw.v_bm, Fw.v_frz, Fw.v_chain, Fw.v_slLU, Fw.v_slL, Fw.v_slU, Fw.v_lc, Fw.v_seq, Fw.v_snil, Fw.v_ret, Fw.v_retN, Fw.v_brk, Fw.v_cnt, Fw.v_do, Fw.v_asg, Fw.v_if, Fw.v_for, Fw.v_srcOf, Fw.v_srcA, Fw.v_fn, Fw.w_binL, Fw.w_binR, Fw.w_un, Fw.w_andT, Fw.w_andF, Fw.w_orT, Fw.w_orF, Fw.w_not, Fw.w_ifT, Fw.w_ifF, Fw.w_arg, Fw.w_consL, Fw.w_consR, Fw.w_bmA, Fw.w_bmS, Fw.w_bm, Fw.w_frz, Fw.w_ch0, Fw.w_ch1, Fw.w_ch2T, Fw.w_ch2F, Fw.w_sl1, Fw.w_sl2, Fw.w_sl3, Fw.w_slL1, Fw.w_slL2, Fw.w_slU1, Fw.w_slU2, Fw.w_seq, Fw.w_seqR, Fw.w_seqB, Fw.w_seqC, Fw.w_seqE, Fw.w_ret, Fw.w_do, Fw.w_asg, Fw.w_tg, Fw.w_sifT, Fw.w_sifF, Fw.w_gs, Fw.w_gsnil, Fw.w_gscons, Fw.w_for, Fw.w_src, Fw.w_srcA, Fw.w_src2, Fw.w_lc, Fw.w_endN, Fw.w_endR, Fw.w_endE, Fw.e_binL, Fw.e_binR, Fw.e_un, Fw.e_and, Fw.e_or, Fw.e_not, Fw.e_ife, Fw.e_arg, Fw.e_consL, Fw.e_consR, Fw.e_bmA, Fw.e_bm, Fw.e_ret, Fw.e_do, Fw.e_asg, Fw.e_if, Fw.e_for, Fw.e_src, Fw.e_srcA, Fw.v_x0, Fw.v_s0, Fw.v_x1, Fw.v_s1, Fw.v_x2, Fw.v_s2, Fw.v_x3, Fw.v_s3, Fw.v_x4, Fw.v_s4, Fw.v_x5, Fw.v_s5, Fw.v_x6, Fw.v_s6, Fw.v_x7, Fw.v_s7, Fw.v_x8, Fw.v_s8, Fw.v_x9, Fw.v_s9, Fw.v_x10, Fw.v_s10, Fw.v_x11, Fw.v_s11, Fw.v_x12, Fw.v_s12, Fw.v_x13, Fw.v_s13, Fw.v_x14, Fw.v_s14, Fw.v_x15, Fw.v_s15, Fw.v_x16, Fw.v_s16, Fw.v_x17, Fw.v_s17, Fw.v_x18, Fw.v_s18, Fw.v_x19, Fw.v_s19, Fw.v_x20, Fw.v_s20, Fw.v_x21, Fw.v_s21, Fw.v_x22, Fw.v_s22, Fw.v_x23, Fw.v_s23, Fw.v_x24, Fw.v_s24, Fw.v_x25, Fw.v_s25, Fw.v_unp1, Fw.v_unpL1, Fw.v_unp2, Fw.v_unpL2, Fw.v_unp3, Fw.v_unpL3, Fw.v_unp4, Fw.v_unpL4, Fw.v_unp5, Fw.v_unpL5, Fw.v_unp6, Fw.v_unpL6, Fw.v_unp7, Fw.v_unpL7, Fw.v_unp8, Fw.v_unpL8, Fw.v_addC, Fw.v_dic, Fw.v_zipL, Fw.v_addCS, Fw.v_strBB, Fw.v_strBN, Fw.v_strBS, Fw.v_joinC, Fw.v_fld, Fw.w_fld, Fw.v_sfld, Fw.w_sfld1, Fw.w_sfld2, Fw.v_meth, Fw.w_meth, Fw.w_argD, Fw.v_make, Fw.w_make, Fw.w_madeN, Fw.w_madeE, Fw.e_doE, Fw.w_setAt, Fw.v_raise, Fw.v_tryAs, Fw.v_tryMany, Fw.w_tryN, Fw.w_tryR, Fw.w_tryC, Fw.w_tryE, Fw.w_trmN, Fw.w_trmR, Fw.w_trmC, Fw.w_trmE, Fw.w_hdY, Fw.w_hdN, Fw.w_all, Fw.w_unN, Fw.w_unC, Fw.w_unR, Fw.w_unN0, Fw.w_unC0, Fw.w_isE, Fw.w_tabN, Fw.w_goN, Fw.w_goC, Fw.w_turn, Fw.v_lenli, Fw.v_ixli, Fw.v_lenT, Fw.v_addT, Fw.v_eqT, Fw.v_neT, Fw.v_eqI, Fw.v_neI, Fw.v_strN, Fw.v_strS, Fw.v_ord, Fw.v_appC, Fw.v_pow18, Fw.v_ixT, Fw.v_lst, Fw.v_tup, Fw.v_cel, Fw.v_appT, Fw.v_appL, Fw.v_rng1, Fw.v_enT, Fw.v_iT, Fw.v_iL, Fw.v_iTp, Fw.v_cutLTo, Fw.v_cutLFrom, Fw.v_wipe0, Fw.v_wipe1, Fw.w_te, Fw.v_cutTo, Fw.v_cutFrom, Fw.v_cutLast, Fw.v_splT, Fw.v_rsplT, Fw.v_rfindT, Fw.v_endsT, Fw.v_inT, Fw.v_notInT, Fw.v_joinT, Fw.v_tab, Fw.w_tabL, Fw.w_tabR, Fw.v_lstT, Fw.v_lstL, Fw.v_tupT, Fw.v_tupL, Fw.v_isBt, Fw.v_isBf, Fw.v_isBi, Fw.v_isBs, Fw.v_ixL0, Fw.v_ixL1, Fw.v_isTs, Fw.v_isTsI, Fw.v_isTsB, Fw.v_allB, Fw.v_all0, Fw.v_all1, Fw.v_all2, Fw.v_all3, Fw.v_all4, Fw.v_all5, Fw.v_all6, Fw.v_all7, Fw.v_all8, Fw.v_appT2, Fw.v_lz, Fw.v_castN, Fw.v_zpN, Fw.v_zpN2, Fw.v_zpC, Fw.v_intT, Fw.v_in2, Fw.v_lcNil, Fw.v_lcCons, Fw.w_lcT, Fw.w_lcCt, Fw.w_lcCf, Fw.w_lcE, Fw.v_yes, Fw.v_finF, Fw.v_loopNil, Fw.v_loopCons, Fw.w_restN, Fw.w_restC, Fw.w_restB, Fw.w_restR, Fw.o_lt, Fw.o_le, Fw.o_gt, Fw.o_ge, Fw.o_addI, Fw.o_sub, Fw.o_neg, Fw.o_mul, Fw.o_mod, Fw.o_div, Fw.f_intI, Fw.f_intB, Fw.f_max, Fw.f_min, Fw.f_lenL, Fw.f_lenT, decide_true, decide_false, Bool.not_true, Bool.not_false, List.map_cons, List.map_nil, List.set_cons_zero, List.set_cons_succ, List.drop_succ_cons, List.drop_zero, List.take_succ_cons, List.take_zero, List.replicate_succ, List.replicate_zero, List.cons_append, List.nil_append, List.append_nil, ne_eq, not_false_eq_true, not_true_eq_false, and_self, eq_self, and_true, and_false, false_and, true_and, reduceIte, if_true, if_false, reduceCtorEq, List.length_cons, List.length_nil, List.length_map, Fw.snoc_at, Fw.snoc_set, Fw.tyL_snoc, decide_eq_true_eq, Bool.and_true, Bool.true_and, Bool.and_false, Bool.false_and, Nat.reduceSub, Nat.reduceAdd, Int.reduceAdd, Int.reduceSub, Int.reduceMul, Int.reduceNeg, Int.reduceLT, Int.reduceLE, Int.reduceEq, Int.reduceMod, Int.reduceDiv, Int.reduceToNat, Nat.reduceEqDiff, b__law_size, v_pow12, h, v_isI, v_isIb, v_isB, v_isBb, f1, f2, f3, f4, ti0, Int.toNat_natCast, ixk2, ixk3, ixk4, ixk5, ixk6, ixk7, ixk8, ixk9, ixk10, ixk11, ixk12, ixk13, ixk14, ixk15, ixk16, n2, n3]
    · simp -implicitDefEqProofs (disch := (first | exact Fw.tyL_snoc _ | omega | assumption | ((try simp only [List.length_append, List.length_cons, List.length_nil, List.length_map, List.length_take, List.length_drop, List.length_range, List.length_replicate, Fw.tyL_snoc]); first | done | omega))) only [Fw.v_c, Fw.v_bin, Fw.v_un, Fw.v_and, Fw.v_or, Fw.v_not, Fw.v_ife, Fw.v_args, Fw.v_nil, Fw.v_cons, Fw.v_bm, Fw.v_frz, Fw.v_chain, Fw.v_slLU, Fw.v_slL, Fw.v_slU, Fw.v_lc, Fw.v_seq, Fw.v_snil, Fw.v_ret, Fw.v_retN, Fw.v_brk, Fw.v_cnt, Fw.v_do, Fw.v_asg, Fw.v_if, Fw.v_for, Fw.v_srcOf, Fw.v_srcA, Fw.v_fn, Fw.w_binL, Fw.w_binR, Fw.w_un, Fw.w_andT, Fw.w_andF, Fw.w_orT, Fw.w_orF, Fw.w_not, Fw.w_ifT, Fw.w_ifF, Fw.w_arg, Fw.w_consL, Fw.w_consR, Fw.w_bmA, Fw.w_bmS, Fw.w_bm, Fw.w_frz, Fw.w_ch0, Fw.w_ch1, Fw.w_ch2T, Fw.w_ch2F, Fw.w_sl1, Fw.w_sl2, Fw.w_sl3, Fw.w_slL1, Fw.w_slL2, Fw.w_slU1, Fw.w_slU2, Fw.w_seq, Fw.w_seqR, Fw.w_seqB, Fw.w_seqC, Fw.w_seqE, Fw.w_ret, Fw.w_do, Fw.w_asg, Fw.w_tg, Fw.w_sifT, Fw.w_sifF, Fw.w_gs, Fw.w_gsnil, Fw.w_gscons, Fw.w_for, Fw.w_src, Fw.w_srcA, Fw.w_src2, Fw.w_lc, Fw.w_endN, Fw.w_endR, Fw.w_endE, Fw.e_binL, Fw.e_binR, Fw.e_un, Fw.e_and, Fw.e_or, Fw.e_not, Fw.e_ife, Fw.e_arg, Fw.e_consL, Fw.e_consR, Fw.e_bmA, Fw.e_bm, Fw.e_ret, Fw.e_do, Fw.e_asg, Fw.e_if, Fw.e_for, Fw.e_src, Fw.e_srcA, Fw.v_x0, Fw.v_s0, Fw.v_x1, Fw.v_s1, Fw.v_x2, Fw.v_s2, Fw.v_x3, Fw.v_s3, Fw.v_x4, Fw.v_s4, Fw.v_x5, Fw.v_s5, Fw.v_x6, Fw.v_s6, Fw.v_x7, Fw.v_s7, Fw.v_x8, Fw.v_s8, Fw.v_x9, Fw.v_s9, Fw.v_x10, Fw.v_s10, Fw.v_x11, Fw.v_s11, Fw.v_x12, Fw.v_s12, Fw.v_x13, Fw.v_s13, Fw.v_x14, Fw.v_s14, Fw.v_x15, Fw.v_s15, Fw.v_x16, Fw.v_s16, Fw.v_x17, Fw.v_s17, Fw.v_x18, Fw.v_s18, Fw.v_x19, Fw.v_s19, Fw.v_x20, Fw.v_s20, Fw.v_x21, Fw.v_s21, Fw.v_x22, Fw.v_s22, Fw.v_x23, Fw.v_s23, Fw.v_x24, Fw.v_s24, Fw.v_x25, Fw.v_s25, Fw.v_unp1, Fw.v_unpL1, Fw.v_unp2, Fw.v_unpL2, Fw.v_unp3, Fw.v_unpL3, Fw.v_unp4, Fw.v_unpL4, Fw.v_unp5, Fw.v_unpL5, Fw.v_unp6, Fw.v_unpL6, Fw.v_unp7, Fw.v_unpL7, Fw.v_unp8, Fw.v_unpL8, Fw.v_addC, Fw.v_dic, Fw.v_zipL, Fw.v_addCS, Fw.v_strBB, Fw.v_strBN, Fw.v_strBS, Fw.v_joinC, Fw.v_fld, Fw.w_fld, Fw.v_sfld, Fw.w_sfld1, Fw.w_sfld2, Fw.v_meth, Fw.w_meth, Fw.w_argD, Fw.v_make, Fw.w_make, Fw.w_madeN, Fw.w_madeE, Fw.e_doE, Fw.w_setAt, Fw.v_raise, Fw.v_tryAs, Fw.v_tryMany, Fw.w_tryN, Fw.w_tryR, Fw.w_tryC, Fw.w_tryE, Fw.w_trmN, Fw.w_trmR, Fw.w_trmC, Fw.w_trmE, Fw.w_hdY, Fw.w_hdN, Fw.w_all, Fw.w_unN, Fw.w_unC, Fw.w_unR, Fw.w_unN0, Fw.w_unC0, Fw.w_isE, Fw.w_tabN, Fw.w_goN, Fw.w_goC, Fw.w_turn, Fw.v_lenli, Fw.v_ixli, Fw.v_lenT, Fw.v_addT, Fw.v_eqT, Fw.v_neT, Fw.v_eqI, Fw.v_neI, Fw.v_strN, Fw.v_strS, Fw.v_ord, Fw.v_appC, Fw.v_pow18, Fw.v_ixT, Fw.v_lst, Fw.v_tup, Fw.v_cel, Fw.v_appT, Fw.v_appL, Fw.v_rng1, Fw.v_enT, Fw.v_iT, Fw.v_iL, Fw.v_iTp, Fw.v_cutLTo, Fw.v_cutLFrom, Fw.v_wipe0, Fw.v_wipe1, Fw.w_te, Fw.v_cutTo, Fw.v_cutFrom, Fw.v_cutLast, Fw.v_splT, Fw.v_rsplT, Fw.v_rfindT, Fw.v_endsT, Fw.v_inT, Fw.v_notInT, Fw.v_joinT, Fw.v_tab, Fw.w_tabL, Fw.w_tabR, Fw.v_lstT, Fw.v_lstL, Fw.v_tupT, Fw.v_tupL, Fw.v_isBt, Fw.v_isBf, Fw.v_isBi, Fw.v_isBs, Fw.v_ixL0, Fw.v_ixL1, Fw.v_isTs, Fw.v_isTsI, Fw.v_isTsB, Fw.v_allB, Fw.v_all0, Fw.v_all1, Fw.v_all2, Fw.v_all3, Fw.v_all4, Fw.v_all5, Fw.v_all6, Fw.v_all7, Fw.v_all8, Fw.v_appT2, Fw.v_lz, Fw.v_castN, Fw.v_zpN, Fw.v_zpN2, Fw.v_zpC, Fw.v_intT, Fw.v_in2, Fw.v_lcNil, Fw.v_lcCons, Fw.w_lcT, Fw.w_lcCt, Fw.w_lcCf, Fw.w_lcE, Fw.v_yes, Fw.v_finF, Fw.v_loopNil, Fw.v_loopCons, Fw.w_restN, Fw.w_restC, Fw.w_restB, Fw.w_restR, Fw.o_lt, Fw.o_le, Fw.o_gt, Fw.o_ge, Fw.o_addI, Fw.o_sub, Fw.o_neg, Fw.o_mul, Fw.o_mod, Fw.o_div, Fw.f_intI, Fw.f_intB, Fw.f_max, Fw.f_min, Fw.f_lenL, Fw.f_lenT, decide_true, decide_false, Bool.not_true, Bool.not_false, List.map_cons, List.map_nil, List.set_cons_zero, List.set_cons_succ, List.drop_succ_cons, List.drop_zero, List.take_succ_cons, List.take_zero, List.replicate_succ, List.replicate_zero, List.cons_append, List.nil_append, List.append_nil, ne_eq, not_false_eq_true, not_true_eq_false, and_self, eq_self, and_true, and_false, false_and, true_and, reduceIte, if_true, if_false, reduceCtorEq, List.length_cons, List.length_nil, List.length_map, Fw.snoc_at, Fw.snoc_set, Fw.tyL_snoc, decide_eq_true_eq, Bool.and_true, Bool.true_and, Bool.and_false, Bool.false_and, Nat.reduceSub, Nat.reduceAdd, Int.reduceAdd, Int.reduceSub, Int.reduceMul, Int.reduceNeg, Int.reduceLT, Int.reduceLE, Int.reduceEq, Int.reduceMod, Int.reduceDiv, Int.reduceToNat, Nat.reduceEqDiff, b__law_size, v_pow12, h, v_isI, v_isIb, v_isB, v_isBb, f1, f2, f3, f4, ti0, Int.toNat_natCast, ixk2, ixk3, ixk4, ixk5, ixk6, ixk7, ixk8, ixk9, ixk10, ixk11, ixk12, ixk13, ixk14, ixk15, ixk16, n2]
  · refine ⟨.int (-(lo : Int)), false, fin _ _ ?_, sz_int (by rw [decide_eq_false (by omega)]) (by omega)⟩
    have n1 : ¬ ((lo : Int) ≤ -(lo : Int) ∧ -(lo : Int) ≤ (hi : Int)) := by omega
    by_cases n2 : (lo : Int) ≤ -(lo : Int)
    · have n3 : ¬ (-(lo : Int) ≤ (hi : Int)) := by omega
      simp -implicitDefEqProofs (disch := (first | exact Fw.tyL_snoc _ | omega | assumption | ((try simp only [List.length_append, List.length_cons, List.length_nil, List.length_map, List.length_take, List.length_drop, List.length_range, List.length_replicate, Fw.tyL_snoc]); first | done | omega))) only [Fw.v_c, Fw.v_bin, Fw.v_un, Fw.v_and, Fw.v_or, Fw.v_not, Fw.v_ife, Fw.v_args, Fw.v_nil, Fw.v_cons, Fw.v_bm, Fw.v_frz, Fw.v_chain, Fw.v_slLU, Fw.v_slL, Fw.v_slU, Fw.v_lc, Fw.v_seq, Fw.v_snil, Fw.v_ret, Fw.v_retN, Fw.v_brk, Fw.v_cnt, Fw.v_do, Fw.v_asg, Fw.v_if, Fw.v_for, Fw.v_srcOf, Fw.v_srcA, Fw.v_fn, Fw.w_binL, Fw.w_binR, Fw.w_un, Fw.w_andT, Fw.w_andF, Fw.w_orT, Fw.w_orF, Fw.w_not, Fw.w_ifT, Fw.w_ifF, Fw.w_arg, Fw.w_consL, Fw.w_consR, Fw.w_bmA, Fw.w_bmS, Fw.w_bm, Fw.w_frz, Fw.w_ch0, Fw.w_ch1, Fw.w_ch2T, Fw.w_ch2F, Fw.w_sl1, Fw.w_sl2, Fw.w_sl3, Fw.w_slL1, Fw.w_slL2, Fw.w_slU1, Fw.w_slU2, Fw.w_seq, Fw.w_seqR, Fw.w_seqB, Fw.w_seqC, Fw.w_seqE, Fw.w_ret, Fw.w_do, Fw.w_asg, Fw.w_tg, Fw.w_sifT, Fw.w_sifF, Fw.w_gs, Fw.w_gsnil, Fw.w_gscons, Fw.w_for, Fw.w_src, Fw.w_srcA, Fw.w_src2, Fw.w_lc, Fw.w_endN, Fw.w_endR, Fw.w_endE, Fw.e_binL, Fw.e_binR, Fw.e_un, Fw.e_and, Fw.e_or, Fw.e_not, Fw.e_ife, Fw.e_arg, Fw.e_consL, Fw.e_consR, Fw.e_bmA, Fw.e_bm, Fw.e_ret, Fw.e_do, Fw.e_asg, Fw.e_if, Fw.e_for, Fw.e_src, Fw.e_srcA, Fw.v_x0, Fw.v_s0, Fw.v_x1, Fw.v_s1, Fw.v_x2, Fw.v_s2, Fw.v_x3, Fw.v_s3, Fw.v_x4, Fw.v_s4, Fw.v_x5, Fw.v_s5, Fw.v_x6, Fw.v_s6, Fw.v_x7, Fw.v_s7, Fw.v_x8, Fw.v_s8, Fw.v_x9, Fw.v_s9, Fw.v_x10, Fw.v_s10, Fw.v_x11, Fw.v_s11, Fw.v_x12, Fw.v_s12, Fw.v_x13, Fw.v_s13, Fw.v_x14, Fw.v_s14, Fw.v_x15, Fw.v_s15, Fw.v_x16, Fw.v_s16, Fw.v_x17, Fw.v_s17, Fw.v_x18, Fw.v_s18, Fw.v_x19, Fw.v_s19, Fw.v_x20, Fw.v_s20, Fw.v_x21, Fw.v_s21, Fw.v_x22, Fw.v_s22, Fw.v_x23, Fw.v_s23, Fw.v_x24, Fw.v_s24, Fw.v_x25, Fw.v_s25, Fw.v_unp1, Fw.v_unpL1, Fw.v_unp2, Fw.v_unpL2, Fw.v_unp3, Fw.v_unpL3, Fw.v_unp4, Fw.v_unpL4, Fw.v_unp5, Fw.v_unpL5, Fw.v_unp6, Fw.v_unpL6, Fw.v_unp7, Fw.v_unpL7, Fw.v_unp8, Fw.v_unpL8, Fw.v_addC, Fw.v_dic, Fw.v_zipL, Fw.v_addCS, Fw.v_strBB, Fw.v_strBN, Fw.v_strBS, Fw.v_joinC, Fw.v_fld, Fw.w_fld, Fw.v_sfld, Fw.w_sfld1, Fw.w_sfld2, Fw.v_meth, Fw.w_meth, Fw.w_argD, Fw.v_make, Fw.w_make, Fw.w_madeN, Fw.w_madeE, Fw.e_doE, Fw.w_setAt, Fw.v_raise, Fw.v_tryAs, Fw.v_tryMany, Fw.w_tryN, Fw.w_tryR, Fw.w_tryC, Fw.w_tryE, Fw.w_trmN, Fw.w_trmR, Fw.w_trmC, Fw.w_trmE, Fw.w_hdY, Fw.w_hdN, Fw.w_all, Fw.w_unN, Fw.w_unC, Fw.w_unR, Fw.w_unN0, Fw.w_unC0, Fw.w_isE, Fw.w_tabN, Fw.w_goN, Fw.w_goC, Fw.w_turn, Fw.v_lenli, Fw.v_ixli, Fw.v_lenT, Fw.v_addT, Fw.v_eqT, Fw.v_neT, Fw.v_eqI, Fw.v_neI, Fw.v_strN, Fw.v_strS, Fw.v_ord, Fw.v_appC, Fw.v_pow18, Fw.v_ixT, Fw.v_lst, Fw.v_tup, Fw.v_cel, Fw.v_appT, Fw.v_appL, Fw.v_rng1, Fw.v_enT, Fw.v_iT, Fw.v_iL, Fw.v_iTp, Fw.v_cutLTo, Fw.v_cutLFrom, Fw.v_wipe0, Fw.v_wipe1, Fw.w_te, Fw.v_cutTo, Fw.v_cutFrom, Fw.v_cutLast, Fw.v_splT, Fw.v_rsplT, Fw.v_rfindT, Fw.v_endsT, Fw.v_inT, Fw.v_notInT, Fw.v_joinT, Fw.v_tab, Fw.w_tabL, Fw.w_tabR, Fw.v_lstT, Fw.v_lstL, Fw.v_tupT, Fw.v_tupL, Fw.v_isBt, Fw.v_isBf, Fw.v_isBi, Fw.v_isBs, Fw.v_ixL0, Fw.v_ixL1, Fw.v_isTs, Fw.v_isTsI, Fw.v_isTsB, Fw.v_allB, Fw.v_all0, Fw.v_all1, Fw.v_all2, Fw.v_all3, Fw.v_all4, Fw.v_all5, Fw.v_all6, Fw.v_all7, Fw.v_all8, Fw.v_appT2, Fw.v_lz, Fw.v_castN, Fw.v_zpN, Fw.v_zpN2, Fw.v_zpC, Fw.v_intT, Fw.v_in2, Fw.v_lcNil, Fw.v_lcCons, Fw.w_lcT, Fw.w_lcCt, Fw.w_lcCf, Fw.w_lcE, Fw.v_yes, Fw.v_finF, Fw.v_loopNil, Fw.v_loopCons, Fw.w_restN, Fw.w_restC, Fw.w_restB, Fw.w_restR, Fw.o_lt, Fw.o_le, Fw.o_gt, Fw.o_ge, Fw.o_addI, Fw.o_sub, Fw.o_neg, Fw.o_mul, Fw.o_mod, Fw.o_div, Fw.f_intI, Fw.f_intB, Fw.f_max, Fw.f_min, Fw.f_lenL, Fw.f_lenT, decide_true, decide_false, Bool.not_true, Bool.not_false, List.map_cons, List.map_nil, List.set_cons_zero, List.set_cons_succ, List.drop_succ_cons, List.drop_zero, List.take_succ_cons, List.take_zero, List.replicate_succ, List.replicate_zero, List.cons_append, List.nil_append, List.append_nil, ne_eq, not_false_eq_true, not_true_eq_false, and_self, eq_self, and_true, and_false, false_and, true_and, reduceIte, if_true, if_false, reduceCtorEq, List.length_cons, List.length_nil, List.length_map, Fw.snoc_at, Fw.snoc_set, Fw.tyL_snoc, decide_eq_true_eq, Bool.and_true, Bool.true_and, Bool.and_false, Bool.false_and, Nat.reduceSub, Nat.reduceAdd, Int.reduceAdd, Int.reduceSub, Int.reduceMul, Int.reduceNeg, Int.reduceLT, Int.reduceLE, Int.reduceEq, Int.reduceMod, Int.reduceDiv, Int.reduceToNat, Nat.reduceEqDiff, b__law_size, v_pow12, h, v_isI, v_isIb, v_isB, v_isBb, f1, f2, f3, f4, ti0, Int.toNat_natCast, ixk2, ixk3, ixk4, ixk5, ixk6, ixk7, ixk8, ixk9, ixk10, ixk11, ixk12, ixk13, ixk14, ixk15, ixk16, n2, n3]
    · simp -implicitDefEqProofs (disch := (first | exact Fw.tyL_snoc _ | omega | assumption | ((try simp only [List.length_append, List.length_cons, List.length_nil, List.length_map, List.length_take, List.length_drop, List.length_range, List.length_replicate, Fw.tyL_snoc]); first | done | omega))) only [Fw.v_c, Fw.v_bin, Fw.v_un, Fw.v_and, Fw.v_or, Fw.v_not, Fw.v_ife, Fw.v_args, Fw.v_nil, Fw.v_cons, Fw.v_bm, Fw.v_frz, Fw.v_chain, Fw.v_slLU, Fw.v_slL, Fw.v_slU, Fw.v_lc, Fw.v_seq, Fw.v_snil, Fw.v_ret, Fw.v_retN, Fw.v_brk, Fw.v_cnt, Fw.v_do, Fw.v_asg, Fw.v_if, Fw.v_for, Fw.v_srcOf, Fw.v_srcA, Fw.v_fn, Fw.w_binL, Fw.w_binR, Fw.w_un, Fw.w_andT, Fw.w_andF, Fw.w_orT, Fw.w_orF, Fw.w_not, Fw.w_ifT, Fw.w_ifF, Fw.w_arg, Fw.w_consL, Fw.w_consR, Fw.w_bmA, Fw.w_bmS, Fw.w_bm, Fw.w_frz, Fw.w_ch0, Fw.w_ch1, Fw.w_ch2T, Fw.w_ch2F, Fw.w_sl1, Fw.w_sl2, Fw.w_sl3, Fw.w_slL1, Fw.w_slL2, Fw.w_slU1, Fw.w_slU2, Fw.w_seq, Fw.w_seqR, Fw.w_seqB, Fw.w_seqC, Fw.w_seqE, Fw.w_ret, Fw.w_do, Fw.w_asg, Fw.w_tg, Fw.w_sifT, Fw.w_sifF, Fw.w_gs, Fw.w_gsnil, Fw.w_gscons, Fw.w_for, Fw.w_src, Fw.w_srcA, Fw.w_src2, Fw.w_lc, Fw.w_endN, Fw.w_endR, Fw.w_endE, Fw.e_binL, Fw.e_binR, Fw.e_un, Fw.e_and, Fw.e_or, Fw.e_not, Fw.e_ife, Fw.e_arg, Fw.e_consL, Fw.e_consR, Fw.e_bmA, Fw.e_bm, Fw.e_ret, Fw.e_do, Fw.e_asg, Fw.e_if, Fw.e_for, Fw.e_src, Fw.e_srcA, Fw.v_x0, Fw.v_s0, Fw.v_x1, Fw.v_s1, Fw.v_x2, Fw.v_s2, Fw.v_x3, Fw.v_s3, Fw.v_x4, Fw.v_s4, Fw.v_x5, Fw.v_s5, Fw.v_x6, Fw.v_s6, Fw.v_x7, Fw.v_s7, Fw.v_x8, Fw.v_s8, Fw.v_x9, Fw.v_s9, Fw.v_x10, Fw.v_s10, Fw.v_x11, Fw.v_s11, Fw.v_x12, Fw.v_s12, Fw.v_x13, Fw.v_s13, Fw.v_x14, Fw.v_s14, Fw.v_x15, Fw.v_s15, Fw.v_x16, Fw.v_s16, Fw.v_x17, Fw.v_s17, Fw.v_x18, Fw.v_s18, Fw.v_x19, Fw.v_s19, Fw.v_x20, Fw.v_s20, Fw.v_x21, Fw.v_s21, Fw.v_x22, Fw.v_s22, Fw.v_x23, Fw.v_s23, Fw.v_x24, Fw.v_s24, Fw.v_x25, Fw.v_s25, Fw.v_unp1, Fw.v_unpL1, Fw.v_unp2, Fw.v_unpL2, Fw.v_unp3, Fw.v_unpL3, Fw.v_unp4, Fw.v_unpL4, Fw.v_unp5, Fw.v_unpL5, Fw.v_unp6, Fw.v_unpL6, Fw.v_unp7, Fw.v_unpL7, Fw.v_unp8, Fw.v_unpL8, Fw.v_addC, Fw.v_dic, Fw.v_zipL, Fw.v_addCS, Fw.v_strBB, Fw.v_strBN, Fw.v_strBS, Fw.v_joinC, Fw.v_fld, Fw.w_fld, Fw.v_sfld, Fw.w_sfld1, Fw.w_sfld2, Fw.v_meth, Fw.w_meth, Fw.w_argD, Fw.v_make, Fw.w_make, Fw.w_madeN, Fw.w_madeE, Fw.e_doE, Fw.w_setAt, Fw.v_raise, Fw.v_tryAs, Fw.v_tryMany, Fw.w_tryN, Fw.w_tryR, Fw.w_tryC, Fw.w_tryE, Fw.w_trmN, Fw.w_trmR, Fw.w_trmC, Fw.w_trmE, Fw.w_hdY, Fw.w_hdN, Fw.w_all, Fw.w_unN, Fw.w_unC, Fw.w_unR, Fw.w_unN0, Fw.w_unC0, Fw.w_isE, Fw.w_tabN, Fw.w_goN, Fw.w_goC, Fw.w_turn, Fw.v_lenli, Fw.v_ixli, Fw.v_lenT, Fw.v_addT, Fw.v_eqT, Fw.v_neT, Fw.v_eqI, Fw.v_neI, Fw.v_strN, Fw.v_strS, Fw.v_ord, Fw.v_appC, Fw.v_pow18, Fw.v_ixT, Fw.v_lst, Fw.v_tup, Fw.v_cel, Fw.v_appT, Fw.v_appL, Fw.v_rng1, Fw.v_enT, Fw.v_iT, Fw.v_iL, Fw.v_iTp, Fw.v_cutLTo, Fw.v_cutLFrom, Fw.v_wipe0, Fw.v_wipe1, Fw.w_te, Fw.v_cutTo, Fw.v_cutFrom, Fw.v_cutLast, Fw.v_splT, Fw.v_rsplT, Fw.v_rfindT, Fw.v_endsT, Fw.v_inT, Fw.v_notInT, Fw.v_joinT, Fw.v_tab, Fw.w_tabL, Fw.w_tabR, Fw.v_lstT, Fw.v_lstL, Fw.v_tupT, Fw.v_tupL, Fw.v_isBt, Fw.v_isBf, Fw.v_isBi, Fw.v_isBs, Fw.v_ixL0, Fw.v_ixL1, Fw.v_isTs, Fw.v_isTsI, Fw.v_isTsB, Fw.v_allB, Fw.v_all0, Fw.v_all1, Fw.v_all2, Fw.v_all3, Fw.v_all4, Fw.v_all5, Fw.v_all6, Fw.v_all7, Fw.v_all8, Fw.v_appT2, Fw.v_lz, Fw.v_castN, Fw.v_zpN, Fw.v_zpN2, Fw.v_zpC, Fw.v_intT, Fw.v_in2, Fw.v_lcNil, Fw.v_lcCons, Fw.w_lcT, Fw.w_lcCt, Fw.w_lcCf, Fw.w_lcE, Fw.v_yes, Fw.v_finF, Fw.v_loopNil, Fw.v_loopCons, Fw.w_restN, Fw.w_restC, Fw.w_restB, Fw.w_restR, Fw.o_lt, Fw.o_le, Fw.o_gt, Fw.o_ge, Fw.o_addI, Fw.o_sub, Fw.o_neg, Fw.o_mul, Fw.o_mod, Fw.o_div, Fw.f_intI, Fw.f_intB, Fw.f_max, Fw.f_min, Fw.f_lenL, Fw.f_lenT, decide_true, decide_false, Bool.not_true, Bool.not_false, List.map_cons, List.map_nil, List.set_cons_zero, List.set_cons_succ, List.drop_succ_cons, List.drop_zero, List.take_succ_cons, List.take_zero, List.replicate_succ, List.replicate_zero, List.cons_append, List.nil_append, List.append_nil, ne_eq, not_false_eq_true, not_true_eq_false, and_self, eq_self, and_true, and_false, false_and, true_and, reduceIte, if_true, if_false, reduceCtorEq, List.length_cons, List.length_nil, List.length_map, Fw.snoc_at, Fw.snoc_set, Fw.tyL_snoc, decide_eq_true_eq, Bool.and_true, Bool.true_and, Bool.and_false, Bool.false_and, Nat.reduceSub, Nat.reduceAdd, Int.reduceAdd, Int.reduceSub, Int.reduceMul, Int.reduceNeg, Int.reduceLT, Int.reduceLE, Int.reduceEq, Int.reduceMod, Int.reduceDiv, Int.reduceToNat, Nat.reduceEqDiff, b__law_size, v_pow12, h, v_isI, v_isIb, v_isB, v_isBb, f1, f2, f3, f4, ti0, Int.toNat_natCast, ixk2, ixk3, ixk4, ixk5, ixk6, ixk7, ixk8, ixk9, ixk10, ixk11, ixk12, ixk13, ixk14, ixk15, ixk16, n2]
  · refine ⟨.int ((hi : Int) + 1 + d / 24 * 1000000000000), false, fin _ _ ?_, sz_int (by rw [decide_eq_false (by omega)]) (by omega)⟩
    have n1 : ¬ ((lo : Int) ≤ (hi : Int) + 1 + d / 24 * 1000000000000 ∧ (hi : Int) + 1 + d / 24 * 1000000000000 ≤ (hi : Int)) := by omega
    by_cases n2 : (lo : Int) ≤ (hi : Int) + 1 + d / 24 * 1000000000000
    · have n3 : ¬ ((hi : Int) + 1 + d / 24 * 1000000000000 ≤ (hi : Int)) := by omega
      simp -implicitDefEqProofs (disch := (first | exact Fw.tyL_snoc _ | omega | assumption | ((try simp only [List.length_append, List.length_cons, List.length_nil, List.length_map, List.length_take, List.length_drop, List.length_range, List.length_replicate, Fw.tyL_snoc]); first | done | omega))) only [Fw.v_c, Fw.v_bin, Fw.v_un, Fw.v_and, Fw.v_or, Fw.v_not, Fw.v_ife, Fw.v_args, Fw.v_nil, Fw.v_cons, Fw.v_bm, Fw.v_frz, Fw.v_chain, Fw.v_slLU, Fw.v_slL, Fw.v_slU, Fw.v_lc, Fw.v_seq, Fw.v_snil, Fw.v_ret, Fw.v_retN, Fw.v_brk, Fw.v_cnt, Fw.v_do, Fw.v_asg, Fw.v_if, Fw.v_for, Fw.v_srcOf, Fw.v_srcA, Fw.v_fn, Fw.w_binL, Fw.w_binR, Fw.w_un, Fw.w_andT, Fw.w_andF, Fw.w_orT, Fw.w_orF, Fw.w_not, Fw.w_ifT, Fw.w_ifF, Fw.w_arg, Fw.w_consL, Fw.w_consR, Fw.w_bmA, Fw.w_bmS, Fw.w_bm, Fw.w_frz, Fw.w_ch0, Fw.w_ch1, Fw.w_ch2T, Fw.w_ch2F, Fw.w_sl1, Fw.w_sl2, Fw.w_sl3, Fw.w_slL1, Fw.w_slL2, Fw.w_slU1, Fw.w_slU2, Fw.w_seq, Fw.w_seqR, Fw.w_seqB, Fw.w_seqC, Fw.w_seqE, Fw.w_ret, Fw.w_do, Fw.w_asg, Fw.w_tg, Fw.w_sifT, Fw.w_sifF, Fw.w_gs, Fw.w_gsnil, Fw.w_gscons, Fw.w_for, Fw.w_src, Fw.w_srcA, Fw.w_src2, Fw.w_lc, Fw.w_endN, Fw.w_endR, Fw.w_endE, Fw.e_binL, Fw.e_binR, Fw.e_un, Fw.e_and, Fw.e_or, Fw.e_not, Fw.e_ife, Fw.e_arg, Fw.e_consL, Fw.e_consR, Fw.e_bmA, Fw.e_bm, Fw.e_ret, Fw.e_do, Fw.e_asg, Fw.e_if, Fw.e_for, Fw.e_src, Fw.e_srcA, Fw.v_x0, Fw.v_s0, Fw.v_x1, Fw.v_s1, Fw.v_x2, Fw.v_s2, Fw.v_x3, Fw.v_s3, Fw.v_x4, Fw.v_s4, Fw.v_x5, Fw.v_s5, Fw.v_x6, Fw.v_s6, Fw.v_x7, Fw.v_s7, Fw.v_x8, Fw.v_s8, Fw.v_x9, Fw.v_s9, Fw.v_x10, Fw.v_s10, Fw.v_x11, Fw.v_s11, Fw.v_x12, Fw.v_s12, Fw.v_x13, Fw.v_s13, Fw.v_x14, Fw.v_s14, Fw.v_x15, Fw.v_s15, Fw.v_x16, Fw.v_s16, Fw.v_x17, Fw.v_s17, Fw.v_x18, Fw.v_s18, Fw.v_x19, Fw.v_s19, Fw.v_x20, Fw.v_s20, Fw.v_x21, Fw.v_s21, Fw.v_x22, Fw.v_s22, Fw.v_x23, Fw.v_s23, Fw.v_x24, Fw.v_s24, Fw.v_x25, Fw.v_s25, Fw.v_unp1, Fw.v_unpL1, Fw.v_unp2, Fw.v_unpL2, Fw.v_unp3, Fw.v_unpL3, Fw.v_unp4, Fw.v_unpL4, Fw.v_unp5, Fw.v_unpL5, Fw.v_unp6, Fw.v_unpL6, Fw.v_unp7, Fw.v_unpL7, Fw.v_unp8, Fw.v_unpL8, Fw.v_addC, Fw.v_dic, Fw.v_zipL, Fw.v_addCS, Fw.v_strBB, Fw.v_strBN, Fw.v_strBS, Fw.v_joinC, Fw.v_fld, Fw.w_fld, Fw.v_sfld, Fw.w_sfld1, Fw.w_sfld2, Fw.v_meth, Fw.w_meth, Fw.w_argD, Fw.v_make, Fw.w_make, Fw.w_madeN, Fw.w_madeE, Fw.e_doE, Fw.w_setAt, Fw.v_raise, Fw.v_tryAs, Fw.v_tryMany, Fw.w_tryN, Fw.w_tryR, Fw.w_tryC, Fw.w_tryE, Fw.w_trmN, Fw.w_trmR, Fw.w_trmC, Fw.w_trmE, Fw.w_hdY, Fw.w_hdN, Fw.w_all, Fw.w_unN, Fw.w_unC, Fw.w_unR, Fw.w_unN0, Fw.w_unC0, Fw.w_isE, Fw.w_tabN, Fw.w_goN, Fw.w_goC, Fw.w_turn, Fw.v_lenli, Fw.v_ixli, Fw.v_lenT, Fw.v_addT, Fw.v_eqT, Fw.v_neT, Fw.v_eqI, Fw.v_neI, Fw.v_strN, Fw.v_strS, Fw.v_ord, Fw.v_appC, Fw.v_pow18, Fw.v_ixT, Fw.v_lst, Fw.v_tup, Fw.v_cel, Fw.v_appT, Fw.v_appL, Fw.v_rng1, Fw.v_enT, Fw.v_iT, Fw.v_iL, Fw.v_iTp, Fw.v_cutLTo, Fw.v_cutLFrom, Fw.v_wipe0, Fw.v_wipe1, Fw.w_te, Fw.v_cutTo, Fw.v_cutFrom, Fw.v_cutLast, Fw.v_splT, Fw.v_rsplT, Fw.v_rfindT, Fw.v_endsT, Fw.v_inT, Fw.v_notInT, Fw.v_joinT, Fw.v_tab, Fw.w_tabL, Fw.w_tabR, Fw.v_lstT, Fw.v_lstL, Fw.v_tupT, Fw.v_tupL, Fw.v_isBt, Fw.v_isBf, Fw.v_isBi, Fw.v_isBs, Fw.v_ixL0, Fw.v_ixL1, Fw.v_isTs, Fw.v_isTsI, Fw.v_isTsB, Fw.v_allB, Fw.v_all0, Fw.v_all1, Fw.v_all2, Fw.v_all3, Fw.v_all4, Fw.v_all5, Fw.v_all6, Fw.v_all7, Fw.v_all8, Fw.v_appT2, Fw.v_lz, Fw.v_castN, Fw.v_zpN, Fw.v_zpN2, Fw.v_zpC, Fw.v_intT, Fw.v_in2, Fw.v_lcNil, Fw.v_lcCons, Fw.w_lcT, Fw.w_lcCt, Fw.w_lcCf, Fw.w_lcE, Fw.v_yes, Fw.v_finF, Fw.v_loopNil, Fw.v_loopCons, Fw.w_restN, Fw.w_restC, Fw.w_restB, Fw.w_restR, Fw.o_lt, Fw.o_le, Fw.o_gt, Fw.o_ge, Fw.o_addI, Fw.o_sub, Fw.o_neg, Fw.o_mul, Fw.o_mod, Fw.o_div, Fw.f_intI, Fw.f_intB, Fw.f_max, Fw.f_min, Fw.f_lenL, Fw.f_lenT, decide_true, decide_false, Bool.not_true, Bool.not_false, List.map_cons, List.map_nil, List.set_cons_zero, List.set_cons_succ, List.drop_succ_cons, List.drop_zero, List.take_succ_cons, List.take_zero, List.replicate_succ, List.replicate_zero, List.cons_append, List.nil_append, List.append_nil, ne_eq, not_false_eq_true, not_true_eq_false, and_self, eq_self, and_true, and_false, false_and, true_and, reduceIte, if_true, if_false, reduceCtorEq, List.length_cons, List.length_nil, List.length_map, Fw.snoc_at, Fw.snoc_set, Fw.tyL_snoc, decide_eq_true_eq, Bool.and_true, Bool.true_and, Bool.and_false, Bool.false_and, Nat.reduceSub, Nat.reduceAdd, Int.reduceAdd, Int.reduceSub, Int.reduceMul, Int.reduceNeg, Int.reduceLT, Int.reduceLE, Int.reduceEq, Int.reduceMod, Int.reduceDiv, Int.reduceToNat, Nat.reduceEqDiff, b__law_size, v_pow12, h, v_isI, v_isIb, v_isB, v_isBb, f1, f2, f3, f4, ti0, Int.toNat_natCast, ixk2, ixk3, ixk4, ixk5, ixk6, ixk7, ixk8, ixk9, ixk10, ixk11, ixk12, ixk13, ixk14, ixk15, ixk16, n2, n3]
    · simp -implicitDefEqProofs (disch := (first | exact Fw.tyL_snoc _ | omega | assumption | ((try simp only [List.length_append, List.length_cons, List.length_nil, List.length_map, List.length_take, List.length_drop, List.length_range, List.length_replicate, Fw.tyL_snoc]); first | done | omega))) only [Fw.v_c, Fw.v_bin, Fw.v_un, Fw.v_and, Fw.v_or, Fw.v_not, Fw.v_ife, Fw.v_args, Fw.v_nil, Fw.v_cons, Fw.v_bm, Fw.v_frz, Fw.v_chain, Fw.v_slLU, Fw.v_slL, Fw.v_slU, Fw.v_lc, Fw.v_seq, Fw.v_snil, Fw.v_ret, Fw.v_retN, Fw.v_brk, Fw.v_cnt, Fw.v_do, Fw.v_asg, Fw.v_if, Fw.v_for, Fw.v_srcOf, Fw.v_srcA, Fw.v_fn, Fw.w_binL, Fw.w_binR, Fw.w_un, Fw.w_andT, Fw.w_andF, Fw.w_orT, Fw.w_orF, Fw.w_not, Fw.w_ifT, Fw.w_ifF, Fw.w_arg, Fw.w_consL, Fw.w_consR, Fw.w_bmA, Fw.w_bmS, Fw.w_bm, Fw.w_frz, Fw.w_ch0, Fw.w_ch1, Fw.w_ch2T, Fw.w_ch2F, Fw.w_sl1, Fw.w_sl2, Fw.w_sl3, Fw.w_slL1, Fw.w_slL2, Fw.w_slU1, Fw.w_slU2, Fw.w_seq, Fw.w_seqR, Fw.w_seqB, Fw.w_seqC, Fw.w_seqE, Fw.w_ret, Fw.w_do, Fw.w_asg, Fw.w_tg, Fw.w_sifT, Fw.w_sifF, Fw.w_gs, Fw.w_gsnil, Fw.w_gscons, Fw.w_for, Fw.w_src, Fw.w_srcA, Fw.w_src2, Fw.w_lc, Fw.w_endN, Fw.w_endR, Fw.w_endE, Fw.e_binL, Fw.e_binR, Fw.e_un, Fw.e_and, Fw.e_or, Fw.e_not, Fw.e_ife, Fw.e_arg, Fw.e_consL, Fw.e_consR, Fw.e_bmA, Fw.e_bm, Fw.e_ret, Fw.e_do, Fw.e_asg, Fw.e_if, Fw.e_for, Fw.e_src, Fw.e_srcA, Fw.v_x0, Fw.v_s0, Fw.v_x1, Fw.v_s1, Fw.v_x2, Fw.v_s2, Fw.v_x3, Fw.v_s3, Fw.v_x4, Fw.v_s4, Fw.v_x5, Fw.v_s5, Fw.v_x6, Fw.v_s6, Fw.v_x7, Fw.v_s7, Fw.v_x8, Fw.v_s8, Fw.v_x9, Fw.v_s9, Fw.v_x10, Fw.v_s10, Fw.v_x11, Fw.v_s11, Fw.v_x12, Fw.v_s12, Fw.v_x13, Fw.v_s13, Fw.v_x14, Fw.v_s14, Fw.v_x15, Fw.v_s15, Fw.v_x16, Fw.v_s16, Fw.v_x17, Fw.v_s17, Fw.v_x18, Fw.v_s18, Fw.v_x19, Fw.v_s19, Fw.v_x20, Fw.v_s20, Fw.v_x21, Fw.v_s21, Fw.v_x22, Fw.v_s22, Fw.v_x23, Fw.v_s23, Fw.v_x24, Fw.v_s24, Fw.v_x25, Fw.v_s25, Fw.v_unp1, Fw.v_unpL1, Fw.v_unp2, Fw.v_unpL2, Fw.v_unp3, Fw.v_unpL3, Fw.v_unp4, Fw.v_unpL4, Fw.v_unp5, Fw.v_unpL5, Fw.v_unp6, Fw.v_unpL6, Fw.v_unp7, Fw.v_unpL7, Fw.v_unp8, Fw.v_unpL8, Fw.v_addC, Fw.v_dic, Fw.v_zipL, Fw.v_addCS, Fw.v_strBB, Fw.v_strBN, Fw.v_strBS, Fw.v_joinC, Fw.v_fld, Fw.w_fld, Fw.v_sfld, Fw.w_sfld1, Fw.w_sfld2, Fw.v_meth, Fw.w_meth, Fw.w_argD, Fw.v_make, Fw.w_make, Fw.w_madeN, Fw.w_madeE, Fw.e_doE, Fw.w_setAt, Fw.v_raise, Fw.v_tryAs, Fw.v_tryMany, Fw.w_tryN, Fw.w_tryR, Fw.w_tryC, Fw.w_tryE, Fw.w_trmN, Fw.w_trmR, Fw.w_trmC, Fw.w_trmE, Fw.w_hdY, Fw.w_hdN, Fw.w_all, Fw.w_unN, Fw.w_unC, Fw.w_unR, Fw.w_unN0, Fw.w_unC0, Fw.w_isE, Fw.w_tabN, Fw.w_goN, Fw.w_goC, Fw.w_turn, Fw.v_lenli, Fw.v_ixli, Fw.v_lenT, Fw.v_addT, Fw.v_eqT, Fw.v_neT, Fw.v_eqI, Fw.v_neI, Fw.v_strN, Fw.v_strS, Fw.v_ord, Fw.v_appC, Fw.v_pow18, Fw.v_ixT, Fw.v_lst, Fw.v_tup, Fw.v_cel, Fw.v_appT, Fw.v_appL, Fw.v_rng1, Fw.v_enT, Fw.v_iT, Fw.v_iL, Fw.v_iTp, Fw.v_cutLTo, Fw.v_cutLFrom, Fw.v_wipe0, Fw.v_wipe1, Fw.w_te, Fw.v_cutTo, Fw.v_cutFrom, Fw.v_cutLast, Fw.v_splT, Fw.v_rsplT, Fw.v_rfindT, Fw.v_endsT, Fw.v_inT, Fw.v_notInT, Fw.v_joinT, Fw.v_tab, Fw.w_tabL, Fw.w_tabR, Fw.v_lstT, Fw.v_lstL, Fw.v_tupT, Fw.v_tupL, Fw.v_isBt, Fw.v_isBf, Fw.v_isBi, Fw.v_isBs, Fw.v_ixL0, Fw.v_ixL1, Fw.v_isTs, Fw.v_isTsI, Fw.v_isTsB, Fw.v_allB, Fw.v_all0, Fw.v_all1, Fw.v_all2, Fw.v_all3, Fw.v_all4, Fw.v_all5, Fw.v_all6, Fw.v_all7, Fw.v_all8, Fw.v_appT2, Fw.v_lz, Fw.v_castN, Fw.v_zpN, Fw.v_zpN2, Fw.v_zpC, Fw.v_intT, Fw.v_in2, Fw.v_lcNil, Fw.v_lcCons, Fw.w_lcT, Fw.w_lcCt, Fw.w_lcCf, Fw.w_lcE, Fw.v_yes, Fw.v_finF, Fw.v_loopNil, Fw.v_loopCons, Fw.w_restN, Fw.w_restC, Fw.w_restB, Fw.w_restR, Fw.o_lt, Fw.o_le, Fw.o_gt, Fw.o_ge, Fw.o_addI, Fw.o_sub, Fw.o_neg, Fw.o_mul, Fw.o_mod, Fw.o_div, Fw.f_intI, Fw.f_intB, Fw.f_max, Fw.f_min, Fw.f_lenL, Fw.f_lenT, decide_true, decide_false, Bool.not_true, Bool.not_false, List.map_cons, List.map_nil, List.set_cons_zero, List.set_cons_succ, List.drop_succ_cons, List.drop_zero, List.take_succ_cons, List.take_zero, List.replicate_succ, List.replicate_zero, List.cons_append, List.nil_append, List.append_nil, ne_eq, not_false_eq_true, not_true_eq_false, and_self, eq_self, and_true, and_false, false_and, true_and, reduceIte, if_true, if_false, reduceCtorEq, List.length_cons, List.length_nil, List.length_map, Fw.snoc_at, Fw.snoc_set, Fw.tyL_snoc, decide_eq_true_eq, Bool.and_true, Bool.true_and, Bool.and_false, Bool.false_and, Nat.reduceSub, Nat.reduceAdd, Int.reduceAdd, Int.reduceSub, Int.reduceMul, Int.reduceNeg, Int.reduceLT, Int.reduceLE, Int.reduceEq, Int.reduceMod, Int.reduceDiv, Int.reduceToNat, Nat.reduceEqDiff, b__law_size, v_pow12, h, v_isI, v_isIb, v_isB, v_isBb, f1, f2, f3, f4, ti0, Int.toNat_natCast, ixk2, ixk3, ixk4, ixk5, ixk6, ixk7, ixk8, ixk9, ixk10, ixk11, ixk12, ixk13, ixk14, ixk15, ixk16, n2]
  · refine ⟨.int (-1 - d / 24), false, fin _ _ ?_, sz_int (by rw [decide_eq_false (by omega)]) (by omega)⟩
    have n1 : ¬ ((lo : Int) ≤ -1 - d / 24 ∧ -1 - d / 24 ≤ (hi : Int)) := by omega
    by_cases n2 : (lo : Int) ≤ -1 - d / 24
    · have n3 : ¬ (-1 - d / 24 ≤ (hi : Int)) := by omega
      simp -implicitDefEqProofs (disch := (first | exact Fw.tyL_snoc _ | omega | assumption | ((try simp only [List.length_append, List.length_cons, List.length_nil, List.length_map, List.length_take, List.length_drop, List.length_range, List.length_replicate, Fw.tyL_snoc]); first | done | omega))) only [Fw.v_c, Fw.v_bin, Fw.v_un, Fw.v_and, Fw.v_or, Fw.v_not, Fw.v_ife, Fw.v_args, Fw.v_nil, Fw.v_cons, Fw.v_bm, Fw.v_frz, Fw.v_chain, Fw.v_slLU, Fw.v_slL, Fw.v_slU, Fw.v_lc, Fw.v_seq, Fw.v_snil, Fw.v_ret, Fw.v_retN, Fw.v_brk, Fw.v_cnt, Fw.v_do, Fw.v_asg, Fw.v_if, Fw.v_for, Fw.v_srcOf, Fw.v_srcA, Fw.v_fn, Fw.w_binL, Fw.w_binR, Fw.w_un, Fw.w_andT, Fw.w_andF, Fw.w_orT, Fw.w_orF, Fw.w_not, Fw.w_ifT, Fw.w_ifF, Fw.w_arg, Fw.w_consL, Fw.w_consR, Fw.w_bmA, Fw.w_bmS, Fw.w_bm, Fw.w_frz, Fw.w_ch0, Fw.w_ch1, Fw.w_ch2T, Fw.w_ch2F, Fw.w_sl1, Fw.w_sl2, Fw.w_sl3, Fw.w_slL1, Fw.w_slL2, Fw.w_slU1, Fw.w_slU2, Fw.w_seq, Fw.w_seqR, Fw.w_seqB, Fw.w_seqC, Fw.w_seqE, Fw.w_ret, Fw.w_do, Fw.w_asg, Fw.w_tg, Fw.w_sifT, Fw.w_sifF, Fw.w_gs, Fw.w_gsnil, Fw.w_gscons, Fw.w_for, Fw.w_src, Fw.w_srcA, Fw.w_src2, Fw.w_lc, Fw.w_endN, Fw.w_endR, Fw.w_endE, Fw.e_binL, Fw.e_binR, Fw.e_un, Fw.e_and, Fw.e_or, Fw.e_not, Fw.e_ife, Fw.e_arg, Fw.e_consL, Fw.e_consR, Fw.e_bmA, Fw.e_bm, Fw.e_ret, Fw.e_do, Fw.e_asg, Fw.e_if, Fw.e_for, Fw.e_src, Fw.e_srcA, Fw.v_x0, Fw.v_s0, Fw.v_x1, Fw.v_s1, Fw.v_x2, Fw.v_s2, Fw.v_x3, Fw.v_s3, Fw.v_x4, Fw.v_s4, Fw.v_x5, Fw.v_s5, Fw.v_x6, Fw.v_s6, Fw.v_x7, Fw.v_s7, Fw.v_x8, Fw.v_s8, Fw.v_x9, Fw.v_s9, Fw.v_x10, Fw.v_s10, Fw.v_x11, Fw.v_s11, Fw.v_x12, Fw.v_s12, Fw.v_x13, Fw.v_s13, Fw.v_x14, Fw.v_s14, Fw.v_x15, Fw.v_s15, Fw.v_x16, Fw.v_s16, Fw.v_x17, Fw.v_s17, Fw.v_x18, Fw.v_s18, Fw.v_x19, Fw.v_s19, Fw.v_x20, Fw.v_s20, Fw.v_x21, Fw.v_s21, Fw.v_x22, Fw.v_s22, Fw.v_x23, Fw.v_s23, Fw.v_x24, Fw.v_s24, Fw.v_x25, Fw.v_s25, Fw.v_unp1, Fw.v_unpL1, Fw.v_unp2, Fw.v_unpL2, Fw.v_unp3, Fw.v_unpL3, Fw.v_unp4, Fw.v_unpL4, Fw.v_unp5, Fw.v_unpL5, Fw.v_unp6, Fw.v_unpL6, Fw.v_unp7, Fw.v_unpL7, Fw.v_unp8, Fw.v_unpL8, Fw.v_addC, Fw.v_dic, Fw.v_zipL, Fw.v_addCS, Fw.v_strBB, Fw.v_strBN, Fw.v_strBS, Fw.v_joinC, Fw.v_fld, Fw.w_fld, Fw.v_sfld, Fw.w_sfld1, Fw.w_sfld2, Fw.v_meth, Fw.w_meth, Fw.w_argD, Fw.v_make, Fw.w_make, Fw.w_madeN, Fw.w_madeE, Fw.e_doE, Fw.w_setAt, Fw.v_raise, Fw.v_tryAs, Fw.v_tryMany, Fw.w_tryN, Fw.w_tryR, Fw.w_tryC, Fw.w_tryE, Fw.w_trmN, Fw.w_trmR, Fw.w_trmC, Fw.w_trmE, Fw.w_hdY, Fw.w_hdN, Fw.w_all, Fw.w_unN, Fw.w_unC, Fw.w_unR, Fw.w_unN0, Fw.w_unC0, Fw.w_isE, Fw.w_tabN, Fw.w_goN, Fw.w_goC, Fw.w_turn, Fw.v_lenli, Fw.v_ixli, Fw.v_lenT, Fw.v_addT, Fw.v_eqT, Fw.v_neT, Fw.v_eqI, Fw.v_neI, Fw.v_strN, Fw.v_strS, Fw.v_ord, Fw.v_appC, Fw.v_pow18, Fw.v_ixT, Fw.v_lst, Fw.v_tup, Fw.v_cel, Fw.v_appT, Fw.v_appL, Fw.v_rng1, Fw.v_enT, Fw.v_iT, Fw.v_iL, Fw.v_iTp, Fw.v_cutLTo, Fw.v_cutLFrom, Fw.v_wipe0, Fw.v_wipe1, Fw.w_te, Fw.v_cutTo, Fw.v_cutFrom, Fw.v_cutLast, Fw.v_splT, Fw.v_rsplT, Fw.v_rfindT, Fw.v_endsT, Fw.v_inT, Fw.v_notInT, Fw.v_joinT, Fw.v_tab, Fw.w_tabL, Fw.w_tabR, Fw.v_lstT, Fw.v_lstL, Fw.v_tupT, Fw.v_tupL, Fw.v_isBt, Fw.v_isBf, Fw.v_isBi, Fw.v_isBs, Fw.v_ixL0, Fw.v_ixL1, Fw.v_isTs, Fw.v_isTsI, Fw.v_isTsB, Fw.v_allB, Fw.v_all0, Fw.v_all1, Fw.v_all2, Fw.v_all3, Fw.v_all4, Fw.v_all5, Fw.v_all6, Fw.v_all7, Fw.v_all8, Fw.v_appT2, Fw.v_lz, Fw.v_castN, Fw.v_zpN, Fw.v_zpN2, Fw.v_zpC, Fw.v_intT, Fw.v_in2, Fw.v_lcNil, Fw.v_lcCons, Fw.w_lcT, Fw.w_lcCt, Fw.w_lcCf, Fw.w_lcE, Fw.v_yes, Fw.v_finF, Fw.v_loopNil, Fw.v_loopCons, Fw.w_restN, Fw.w_restC, Fw.w_restB, Fw.w_restR, Fw.o_lt, Fw.o_le, Fw.o_gt, Fw.o_ge, Fw.o_addI, Fw.o_sub, Fw.o_neg, Fw.o_mul, Fw.o_mod, Fw.o_div, Fw.f_intI, Fw.f_intB, Fw.f_max, Fw.f_min, Fw.f_lenL, Fw.f_lenT, decide_true, decide_false, Bool.not_true, Bool.not_false, List.map_cons, List.map_nil, List.set_cons_zero, List.set_cons_succ, List.drop_succ_cons, List.drop_zero, List.take_succ_cons, List.take_zero, List.replicate_succ, List.replicate_zero, List.cons_append, List.nil_append, List.append_nil, ne_eq, not_false_eq_true, not_true_eq_false, and_self, eq_self, and_true, and_false, false_and, true_and, reduceIte, if_true, if_false, reduceCtorEq, List.length_cons, List.length_nil, List.length_map, Fw.snoc_at, Fw.snoc_set, Fw.tyL_snoc, decide_eq_true_eq, Bool.and_true, Bool.true_and, Bool.and_false, Bool.false_and, Nat.reduceSub, Nat.reduceAdd, Int.reduceAdd, Int.reduceSub, Int.reduceMul, Int.reduceNeg, Int.reduceLT, Int.reduceLE, Int.reduceEq, Int.reduceMod, Int.reduceDiv, Int.reduceToNat, Nat.reduceEqDiff, b__law_size, v_pow12, h, v_isI, v_isIb, v_isB, v_isBb, f1, f2, f3, f4, ti0, Int.toNat_natCast, ixk2, ixk3, ixk4, ixk5, ixk6, ixk7, ixk8, ixk9, ixk10, ixk11, ixk12, ixk13, ixk14, ixk15, ixk16, n2, n3]
    · simp -implicitDefEqProofs (disch := (first | exact Fw.tyL_snoc _ | omega | assumption | ((try simp only [List.length_append, List.length_cons, List.length_nil, List.length_map, List.length_take, List.length_drop, List.length_range, List.length_replicate, Fw.tyL_snoc]); first | done | omega))) only [Fw.v_c, Fw.v_bin, Fw.v_un, Fw.v_and, Fw.v_or, Fw.v_not, Fw.v_ife, Fw.v_args, Fw.v_nil, Fw.v_cons, Fw.v_bm, Fw.v_frz, Fw.v_chain, Fw.v_slLU, Fw.v_slL, Fw.v_slU, Fw.v_lc, Fw.v_seq, Fw.v_snil, Fw.v_ret, Fw.v_retN, Fw.v_brk, Fw.v_cnt, Fw.v_do, Fw.v_asg, Fw.v_if, Fw.v_for, Fw.v_srcOf, Fw.v_srcA, Fw.v_fn, Fw.w_binL, Fw.w_binR, Fw.w_un, Fw.w_andT, Fw.w_andF, Fw.w_orT, Fw.w_orF, Fw.w_not, Fw.w_ifT, Fw.w_ifF, Fw.w_arg, Fw.w_consL, Fw.w_consR, Fw.w_bmA, Fw.w_bmS, Fw.w_bm, Fw.w_frz, Fw.w_ch0, Fw.w_ch1, Fw.w_ch2T, Fw.w_ch2F, Fw.w_sl1, Fw.w_sl2, Fw.w_sl3, Fw.w_slL1, Fw.w_slL2, Fw.w_slU1, Fw.w_slU2, Fw.w_seq, Fw.w_seqR, Fw.w_seqB, Fw.w_seqC, Fw.w_seqE, Fw.w_ret, Fw.w_do, Fw.w_asg, Fw.w_tg, Fw.w_sifT, Fw.w_sifF, Fw.w_gs, Fw.w_gsnil, Fw.w_gscons, Fw.w_for, Fw.w_src, Fw.w_srcA, Fw.w_src2, Fw.w_lc, Fw.w_endN, Fw.w_endR, Fw.w_endE, Fw.e_binL, Fw.e_binR, Fw.e_un, Fw.e_and, Fw.e_or, Fw.e_not, Fw.e_ife, Fw.e_arg, Fw.e_consL, Fw.e_consR, Fw.e_bmA, Fw.e_bm, Fw.e_ret, Fw.e_do, Fw.e_asg, Fw.e_if, Fw.e_for, Fw.e_src, Fw.e_srcA, Fw.v_x0, Fw.v_s0, Fw.v_x1, Fw.v_s1, Fw.v_x2, Fw.v_s2, Fw.v_x3, Fw.v_s3, Fw.v_x4, Fw.v_s4, Fw.v_x5, Fw.v_s5, Fw.v_x6, Fw.v_s6, Fw.v_x7, Fw.v_s7, Fw.v_x8, Fw.v_s8, Fw.v_x9, Fw.v_s9, Fw.v_x10, Fw.v_s10, Fw.v_x11, Fw.v_s11, Fw.v_x12, Fw.v_s12, Fw.v_x13, Fw.v_s13, Fw.v_x14, Fw.v_s14, Fw.v_x15, Fw.v_s15, Fw.v_x16, Fw.v_s16, Fw.v_x17, Fw.v_s17, Fw.v_x18, Fw.v_s18, Fw.v_x19, Fw.v_s19, Fw.v_x20, Fw.v_s20, Fw.v_x21, Fw.v_s21, Fw.v_x22, Fw.v_s22, Fw.v_x23, Fw.v_s23, Fw.v_x24, Fw.v_s24, Fw.v_x25, Fw.v_s25, Fw.v_unp1, Fw.v_unpL1, Fw.v_unp2, Fw.v_unpL2, Fw.v_unp3, Fw.v_unpL3, Fw.v_unp4, Fw.v_unpL4, Fw.v_unp5, Fw.v_unpL5, Fw.v_unp6, Fw.v_unpL6, Fw.v_unp7, Fw.v_unpL7, Fw.v_unp8, Fw.v_unpL8, Fw.v_addC, Fw.v_dic, Fw.v_zipL, Fw.v_addCS, Fw.v_strBB, Fw.v_strBN, Fw.v_strBS, Fw.v_joinC, Fw.v_fld, Fw.w_fld, Fw.v_sfld, Fw.w_sfld1, Fw.w_sfld2, Fw.v_meth, Fw.w_meth, Fw.w_argD, Fw.v_make, Fw.w_make, Fw.w_madeN, Fw.w_madeE, Fw.e_doE, Fw.w_setAt, Fw.v_raise, Fw.v_tryAs, Fw.v_tryMany, Fw.w_tryN, Fw.w_tryR, Fw.w_tryC, Fw.w_tryE, Fw.w_trmN, Fw.w_trmR, Fw.w_trmC, Fw.w_trmE, Fw.w_hdY, Fw.w_hdN, Fw.w_all, Fw.w_unN, Fw.w_unC, Fw.w_unR, Fw.w_unN0, Fw.w_unC0, Fw.w_isE, Fw.w_tabN, Fw.w_goN, Fw.w_goC, Fw.w_turn, Fw.v_lenli, Fw.v_ixli, Fw.v_lenT, Fw.v_addT, Fw.v_eqT, Fw.v_neT, Fw.v_eqI, Fw.v_neI, Fw.v_strN, Fw.v_strS, Fw.v_ord, Fw.v_appC, Fw.v_pow18, Fw.v_ixT, Fw.v_lst, Fw.v_tup, Fw.v_cel, Fw.v_appT, Fw.v_appL, Fw.v_rng1, Fw.v_enT, Fw.v_iT, Fw.v_iL, Fw.v_iTp, Fw.v_cutLTo, Fw.v_cutLFrom, Fw.v_wipe0, Fw.v_wipe1, Fw.w_te, Fw.v_cutTo, Fw.v_cutFrom, Fw.v_cutLast, Fw.v_splT, Fw.v_rsplT, Fw.v_rfindT, Fw.v_endsT, Fw.v_inT, Fw.v_notInT, Fw.v_joinT, Fw.v_tab, Fw.w_tabL, Fw.w_tabR, Fw.v_lstT, Fw.v_lstL, Fw.v_tupT, Fw.v_tupL, Fw.v_isBt, Fw.v_isBf, Fw.v_isBi, Fw.v_isBs, Fw.v_ixL0, Fw.v_ixL1, Fw.v_isTs, Fw.v_isTsI, Fw.v_isTsB, Fw.v_allB, Fw.v_all0, Fw.v_all1, Fw.v_all2, Fw.v_all3, Fw.v_all4, Fw.v_all5, Fw.v_all6, Fw.v_all7, Fw.v_all8, Fw.v_appT2, Fw.v_lz, Fw.v_castN, Fw.v_zpN, Fw.v_zpN2, Fw.v_zpC, Fw.v_intT, Fw.v_in2, Fw.v_lcNil, Fw.v_lcCons, Fw.w_lcT, Fw.w_lcCt, Fw.w_lcCf, Fw.w_lcE, Fw.v_yes, Fw.v_finF, Fw.v_loopNil, Fw.v_loopCons, Fw.w_restN, Fw.w_restC, Fw.w_restB, Fw.w_restR, Fw.o_lt, Fw.o_le, Fw.o_gt, Fw.o_ge, Fw.o_addI, Fw.o_sub, Fw.o_neg, Fw.o_mul, Fw.o_mod, Fw.o_div, Fw.f_intI, Fw.f_intB, Fw.f_max, Fw.f_min, Fw.f_lenL, Fw.f_lenT, decide_true, decide_false, Bool.not_true, Bool.not_false, List.map_cons, List.map_nil, List.set_cons_zero, List.set_cons_succ, List.drop_succ_cons, List.drop_zero, List.take_succ_cons, List.take_zero, List.replicate_succ, List.replicate_zero, List.cons_append, List.nil_append, List.append_nil, ne_eq, not_false_eq_true, not_true_eq_false, and_self, eq_self, and_true, and_false, false_and, true_and, reduceIte, if_true, if_false, reduceCtorEq, List.length_cons, List.length_nil, List.length_map, Fw.snoc_at, Fw.snoc_set, Fw.tyL_snoc, decide_eq_true_eq, Bool.and_true, Bool.true_and, Bool.and_false, Bool.false_and, Nat.reduceSub, Nat.reduceAdd, Int.reduceAdd, Int.reduceSub, Int.reduceMul, Int.reduceNeg, Int.reduceLT, Int.reduceLE, Int.reduceEq, Int.reduceMod, Int.reduceDiv, Int.reduceToNat, Nat.reduceEqDiff, b__law_size, v_pow12, h, v_isI, v_isIb, v_isB, v_isBb, f1, f2, f3, f4, ti0, Int.toNat_natCast, ixk2, ixk3, ixk4, ixk5, ixk6, ixk7, ixk8, ixk9, ixk10, ixk11, ixk12, ixk13, ixk14, ixk15, ixk16, n2]
  · have lo3 : lo = 2 ∨ lo = 3 := by omega
    refine ⟨.bl true, false, fin _ _ ?_, sz_bool⟩
    simp -implicitDefEqProofs (disch := (first | exact Fw.tyL_snoc _ | omega | assumption | ((try simp only [List.length_append, List.length_cons, List.length_nil, List.length_map, List.length_take, List.length_drop, List.length_range, List.length_replicate, Fw.tyL_snoc]); first | done | omega))) only [Fw.v_c, Fw.v_bin, Fw.v_un, Fw.v_and, Fw.v_or, Fw.v_not, Fw.v_ife, Fw.v_args, Fw.v_nil, Fw.v_cons, Fw.v_bm, Fw.v_frz, Fw.v_chain, Fw.v_slLU, Fw.v_slL, Fw.v_slU, Fw.v_lc, Fw.v_seq, Fw.v_snil, Fw.v_ret, Fw.v_retN, Fw.v_brk, Fw.v_cnt, Fw.v_do, Fw.v_asg, Fw.v_if, Fw.v_for, Fw.v_srcOf, Fw.v_srcA, Fw.v_fn, Fw.w_binL, Fw.w_binR, Fw.w_un, Fw.w_andT, Fw.w_andF, Fw.w_orT, Fw.w_orF, Fw.w_not, Fw.w_ifT, Fw.w_ifF, Fw.w_arg, Fw.w_consL, Fw.w_consR, Fw.w_bmA, Fw.w_bmS, Fw.w_bm, Fw.w_frz, Fw.w_ch0, Fw.w_ch1, Fw.w_ch2T, Fw.w_ch2F, Fw.w_sl1, Fw.w_sl2, Fw.w_sl3, Fw.w_slL1, Fw.w_slL2, Fw.w_slU1, Fw.w_slU2, Fw.w_seq, Fw.w_seqR, Fw.w_seqB, Fw.w_seqC, Fw.w_seqE, Fw.w_ret, Fw.w_do, Fw.w_asg, Fw.w_tg, Fw.w_sifT, Fw.w_sifF, Fw.w_gs, Fw.w_gsnil, Fw.w_gscons, Fw.w_for, Fw.w_src, Fw.w_srcA, Fw.w_src2, Fw.w_lc, Fw.w_endN, Fw.w_endR, Fw.w_endE, Fw.e_binL, Fw.e_binR, Fw.e_un, Fw.e_and, Fw.e_or, Fw.e_not, Fw.e_ife, Fw.e_arg, Fw.e_consL, Fw.e_consR, Fw.e_bmA, Fw.e_bm, Fw.e_ret, Fw.e_do, Fw.e_asg, Fw.e_if, Fw.e_for, Fw.e_src, Fw.e_srcA, Fw.v_x0, Fw.v_s0, Fw.v_x1, Fw.v_s1, Fw.v_x2, Fw.v_s2, Fw.v_x3, Fw.v_s3, Fw.v_x4, Fw.v_s4, Fw.v_x5, Fw.v_s5, Fw.v_x6, Fw.v_s6, Fw.v_x7, Fw.v_s7, Fw.v_x8, Fw.v_s8, Fw.v_x9, Fw.v_s9, Fw.v_x10, Fw.v_s10, Fw.v_x11, Fw.v_s11, Fw.v_x12, Fw.v_s12, Fw.v_x13, Fw.v_s13, Fw.v_x14, Fw.v_s14, Fw.v_x15, Fw.v_s15, Fw.v_x16, Fw.v_s16, Fw.v_x17, Fw.v_s17, Fw.v_x18, Fw.v_s18, Fw.v_x19, Fw.v_s19, Fw.v_x20, Fw.v_s20, Fw.v_x21, Fw.v_s21, Fw.v_x22, Fw.v_s22, Fw.v_x23, Fw.v_s23, Fw.v_x24, Fw.v_s24, Fw.v_x25, Fw.v_s25, Fw.v_unp1, Fw.v_unpL1, Fw.v_unp2, Fw.v_unpL2, Fw.v_unp3, Fw.v_unpL3, Fw.v_unp4, Fw.v_unpL4, Fw.v_unp5, Fw.v_unpL5, Fw.v_unp6, Fw.v_unpL6, Fw.v_unp7, Fw.v_unpL7, Fw.v_unp8, Fw.v_unpL8, Fw.v_addC, Fw.v_dic, Fw.v_zipL, Fw.v_addCS, Fw.v_strBB, Fw.v_strBN, Fw.v_strBS, Fw.v_joinC, Fw.v_fld, Fw.w_fld, Fw.v_sfld, Fw.w_sfld1, Fw.w_sfld2, Fw.v_meth, Fw.w_meth, Fw.w_argD, Fw.v_make, Fw.w_make, Fw.w_madeN, Fw.w_madeE, Fw.e_doE, Fw.w_setAt, Fw.v_raise, Fw.v_tryAs, Fw.v_tryMany, Fw.w_tryN, Fw.w_tryR, Fw.w_tryC, Fw.w_tryE, Fw.w_trmN, Fw.w_trmR, Fw.w_trmC, Fw.w_trmE, Fw.w_hdY, Fw.w_hdN, Fw.w_all, Fw.w_unN, Fw.w_unC, Fw.w_unR, Fw.w_unN0, Fw.w_unC0, Fw.w_isE, Fw.w_tabN, Fw.w_goN, Fw.w_goC, Fw.w_turn, Fw.v_lenli, Fw.v_ixli, Fw.v_lenT, Fw.v_addT, Fw.v_eqT, Fw.v_neT, Fw.v_eqI, Fw.v_neI, Fw.v_strN, Fw.v_strS, Fw.v_ord, Fw.v_appC, Fw.v_pow18, Fw.v_ixT, Fw.v_lst, Fw.v_tup, Fw.v_cel, Fw.v_appT, Fw.v_appL, Fw.v_rng1, Fw.v_enT, Fw.v_iT, Fw.v_iL, Fw.v_iTp, Fw.v_cutLTo, Fw.v_cutLFrom, Fw.v_wipe0, Fw.v_wipe1, Fw.w_te, Fw.v_cutTo, Fw.v_cutFrom, Fw.v_cutLast, Fw.v_splT, Fw.v_rsplT, Fw.v_rfindT, Fw.v_endsT, Fw.v_inT, Fw.v_notInT, Fw.v_joinT, Fw.v_tab, Fw.w_tabL, Fw.w_tabR, Fw.v_lstT, Fw.v_lstL, Fw.v_tupT, Fw.v_tupL, Fw.v_isBt, Fw.v_isBf, Fw.v_isBi, Fw.v_isBs, Fw.v_ixL0, Fw.v_ixL1, Fw.v_isTs, Fw.v_isTsI, Fw.v_isTsB, Fw.v_allB, Fw.v_all0, Fw.v_all1, Fw.v_all2, Fw.v_all3, Fw.v_all4, Fw.v_all5, Fw.v_all6, Fw.v_all7, Fw.v_all8, Fw.v_appT2, Fw.v_lz, Fw.v_castN, Fw.v_zpN, Fw.v_zpN2, Fw.v_zpC, Fw.v_intT, Fw.v_in2, Fw.v_lcNil, Fw.v_lcCons, Fw.w_lcT, Fw.w_lcCt, Fw.w_lcCf, Fw.w_lcE, Fw.v_yes, Fw.v_finF, Fw.v_loopNil, Fw.v_loopCons, Fw.w_restN, Fw.w_restC, Fw.w_restB, Fw.w_restR, Fw.o_lt, Fw.o_le, Fw.o_gt, Fw.o_ge, Fw.o_addI, Fw.o_sub, Fw.o_neg, Fw.o_mul, Fw.o_mod, Fw.o_div, Fw.f_intI, Fw.f_intB, Fw.f_max, Fw.f_min, Fw.f_lenL, Fw.f_lenT, decide_true, decide_false, Bool.not_true, Bool.not_false, List.map_cons, List.map_nil, List.set_cons_zero, List.set_cons_succ, List.drop_succ_cons, List.drop_zero, List.take_succ_cons, List.take_zero, List.replicate_succ, List.replicate_zero, List.cons_append, List.nil_append, List.append_nil, ne_eq, not_false_eq_true, not_true_eq_false, and_self, eq_self, and_true, and_false, false_and, true_and, reduceIte, if_true, if_false, reduceCtorEq, List.length_cons, List.length_nil, List.length_map, Fw.snoc_at, Fw.snoc_set, Fw.tyL_snoc, decide_eq_true_eq, Bool.and_true, Bool.true_and, Bool.and_false, Bool.false_and, Nat.reduceSub, Nat.reduceAdd, Int.reduceAdd, Int.reduceSub, Int.reduceMul, Int.reduceNeg, Int.reduceLT, Int.reduceLE, Int.reduceEq, Int.reduceMod, Int.reduceDiv, Int.reduceToNat, Nat.reduceEqDiff, b__law_size, v_pow12, h, v_isI, v_isIb, v_isB, v_isBb, f1, f2, f3, f4, ti0, Int.toNat_natCast, ixk2, ixk3, ixk4, ixk5, ixk6, ixk7, ixk8, ixk9, ixk10, ixk11, ixk12, ixk13, ixk14, ixk15, ixk16]
  · have lo3 : lo = 2 ∨ lo = 3 := by omega
    refine ⟨.bl false, false, fin _ _ ?_, sz_bool⟩
    simp -implicitDefEqProofs (disch := (first | exact Fw.tyL_snoc _ | omega | assumption | ((try simp only [List.length_append, List.length_cons, List.length_nil, List.length_map, List.length_take, List.length_drop, List.length_range, List.length_replicate, Fw.tyL_snoc]); first | done | omega))) only [Fw.v_c, Fw.v_bin, Fw.v_un, Fw.v_and, Fw.v_or, Fw.v_not, Fw.v_ife, Fw.v_args, Fw.v_nil, Fw.v_cons, Fw.v_bm, Fw.v_frz, Fw.v_chain, Fw.v_slLU, Fw.v_slL, Fw.v_slU, Fw.v_lc, Fw.v_seq, Fw.v_snil, Fw.v_ret, Fw.v_retN, Fw.v_brk, Fw.v_cnt, Fw.v_do, Fw.v_asg, Fw.v_if, Fw.v_for, Fw.v_srcOf, Fw.v_srcA, Fw.v_fn, Fw.w_binL, Fw.w_binR, Fw.w_un, Fw.w_andT, Fw.w_andF, Fw.w_orT, Fw.w_orF, Fw.w_not, Fw.w_ifT, Fw.w_ifF, Fw.w_arg, Fw.w_consL, Fw.w_consR, Fw.w_bmA, Fw.w_bmS, Fw.w_bm, Fw.w_frz, Fw.w_ch0, Fw.w_ch1, Fw.w_ch2T, Fw.w_ch2F, Fw.w_sl1, Fw.w_sl2, Fw.w_sl3, Fw.w_slL1, Fw.w_slL2, Fw.w_slU1, Fw.w_slU2, Fw.w_seq, Fw.w_seqR, Fw.w_seqB, Fw.w_seqC, Fw.w_seqE, Fw.w_ret, Fw.w_do, Fw.w_asg, Fw.w_tg, Fw.w_sifT, Fw.w_sifF, Fw.w_gs, Fw.w_gsnil, Fw.w_gscons, Fw.w_for, Fw.w_src, Fw.w_srcA, Fw.w_src2, Fw.w_lc, Fw.w_endN, Fw.w_endR, Fw.w_endE, Fw.e_binL, Fw.e_binR, Fw.e_un, Fw.e_and, Fw.e_or, Fw.e_not, Fw.e_ife, Fw.e_arg, Fw.e_consL, Fw.e_consR, Fw.e_bmA, Fw.e_bm, Fw.e_ret, Fw.e_do, Fw.e_asg, Fw.e_if, Fw.e_for, Fw.e_src, Fw.e_srcA, Fw.v_x0, Fw.v_s0, Fw.v_x1, Fw.v_s1, Fw.v_x2, Fw.v_s2, Fw.v_x3, Fw.v_s3, Fw.v_x4, Fw.v_s4, Fw.v_x5, Fw.v_s5, Fw.v_x6, Fw.v_s6, Fw.v_x7, Fw.v_s7, Fw.v_x8, Fw.v_s8, Fw.v_x9, Fw.v_s9, Fw.v_x10, Fw.v_s10, Fw.v_x11, Fw.v_s11, Fw.v_x12, Fw.v_s12, Fw.v_x13, Fw.v_s13, Fw.v_x14, Fw.v_s14, Fw.v_x15, Fw.v_s15, Fw.v_x16, Fw.v_s16, Fw.v_x17, Fw.v_s17, Fw.v_x18, Fw.v_s18, Fw.v_x19, Fw.v_s19, Fw.v_x20, Fw.v_s20, Fw.v_x21, Fw.v_s21, Fw.v_x22, Fw.v_s22, Fw.v_x23, Fw.v_s23, Fw.v_x24, Fw.v_s24, Fw.v_x25, Fw.v_s25, Fw.v_unp1, Fw.v_unpL1, Fw.v_unp2, Fw.v_unpL2, Fw.v_unp3, Fw.v_unpL3, Fw.v_unp4, Fw.v_unpL4, Fw.v_unp5, Fw.v_unpL5, Fw.v_unp6, Fw.v_unpL6, Fw.v_unp7, Fw.v_unpL7, Fw.v_unp8, Fw.v_unpL8, Fw.v_addC, Fw.v_dic, Fw.v_zipL, Fw.v_addCS, Fw.v_strBB, Fw.v_strBN, Fw.v_strBS, Fw.v_joinC, Fw.v_fld, Fw.w_fld, Fw.v_sfld, Fw.w_sfld1, Fw.w_sfld2, Fw.v_meth, Fw.w_meth, Fw.w_argD, Fw.v_make, Fw.w_make, Fw.w_madeN, Fw.w_madeE, Fw.e_doE, Fw.w_setAt, Fw.v_raise, Fw.v_tryAs, Fw.v_tryMany, Fw.w_tryN, Fw.w_tryR, Fw.w_tryC, Fw.w_tryE, Fw.w_trmN, Fw.w_trmR, Fw.w_trmC, Fw.w_trmE, Fw.w_hdY, Fw.w_hdN, Fw.w_all, Fw.w_unN, Fw.w_unC, Fw.w_unR, Fw.w_unN0, Fw.w_unC0, Fw.w_isE, Fw.w_tabN, Fw.w_goN, Fw.w_goC, Fw.w_turn, Fw.v_lenli, Fw.v_ixli, Fw.v_lenT, Fw.v_addT, Fw.v_eqT, Fw.v_neT, Fw.v_eqI, Fw.v_neI, Fw.v_strN, Fw.v_strS, Fw.v_ord, Fw.v_appC, Fw.v_pow18, Fw.v_ixT, Fw.v_lst, Fw.v_tup, Fw.v_cel, Fw.v_appT, Fw.v_appL, Fw.v_rng1, Fw.v_enT, Fw.v_iT, Fw.v_iL, Fw.v_iTp, Fw.v_cutLTo, Fw.v_cutLFrom, Fw.v_wipe0, Fw.v_wipe1, Fw.w_te, Fw.v_cutTo, Fw.v_cutFrom, Fw.v_cutLast, Fw.v_splT, Fw.v_rsplT, Fw.v_rfindT, Fw.v_endsT, Fw.v_inT, Fw.v_notInT, Fw.v_joinT, Fw.v_tab, Fw.w_tabL, Fw.w_tabR, Fw.v_lstT, Fw.v_lstL, Fw.v_tupT, Fw.v_tupL, Fw.v_isBt, Fw.v_isBf, Fw.v_isBi, Fw.v_isBs, Fw.v_ixL0, Fw.v_ixL1, Fw.v_isTs, Fw.v_isTsI, Fw.v_isTsB, Fw.v_allB, Fw.v_all0, Fw.v_all1, Fw.v_all2, Fw.v_all3, Fw.v_all4, Fw.v_all5, Fw.v_all6, Fw.v_all7, Fw.v_all8, Fw.v_appT2, Fw.v_lz, Fw.v_castN, Fw.v_zpN, Fw.v_zpN2, Fw.v_zpC, Fw.v_intT, Fw.v_in2, Fw.v_lcNil, Fw.v_lcCons, Fw.w_lcT, Fw.w_lcCt, Fw.w_lcCf, Fw.w_lcE, Fw.v_yes, Fw.v_finF, Fw.v_loopNil, Fw.v_loopCons, Fw.w_restN, Fw.w_restC, Fw.w_restB, Fw.w_restR, Fw.o_lt, Fw.o_le, Fw.o_gt, Fw.o_ge, Fw.o_addI, Fw.o_sub, Fw.o_neg, Fw.o_mul, Fw.o_mod, Fw.o_div, Fw.f_intI, Fw.f_intB, Fw.f_max, Fw.f_min, Fw.f_lenL, Fw.f_lenT, decide_true, decide_false, Bool.not_true, Bool.not_false, List.map_cons, List.map_nil, List.set_cons_zero, List.set_cons_succ, List.drop_succ_cons, List.drop_zero, List.take_succ_cons, List.take_zero, List.replicate_succ, List.replicate_zero, List.cons_append, List.nil_append, List.append_nil, ne_eq, not_false_eq_true, not_true_eq_false, and_self, eq_self, and_true, and_false, false_and, true_and, reduceIte, if_true, if_false, reduceCtorEq, List.length_cons, List.length_nil, List.length_map, Fw.snoc_at, Fw.snoc_set, Fw.tyL_snoc, decide_eq_true_eq, Bool.and_true, Bool.true_and, Bool.and_false, Bool.false_and, Nat.reduceSub, Nat.reduceAdd, Int.reduceAdd, Int.reduceSub, Int.reduceMul, Int.reduceNeg, Int.reduceLT, Int.reduceLE, Int.reduceEq, Int.reduceMod, Int.reduceDiv, Int.reduceToNat, Nat.reduceEqDiff, b__law_size, v_pow12, h, v_isI, v_isIb, v_isB, v_isBb, f1, f2, f3, f4, ti0, Int.toNat_natCast, ixk2, ixk3, ixk4, ixk5, ixk6, ixk7, ixk8, ixk9, ixk10, ixk11, ixk12, ixk13, ixk14, ixk15, ixk16]
  · have lo3 : lo = 2 ∨ lo = 3 := by omega
    refine ⟨.non, false, fin _ _ ?_, sz_other .none (fun _ => rfl) (fun _ => rfl) ⟨rfl, rfl, by decide⟩⟩
    simp -implicitDefEqProofs (disch := (first | exact Fw.tyL_snoc _ | omega | assumption | ((try simp only [List.length_append, List.length_cons, List.length_nil, List.length_map, List.length_take, List.length_drop, List.length_range, List.length_replicate, Fw.tyL_snoc]); first | done | omega))) only [Fw.v_c, Fw.v_bin, Fw.v_un, Fw.v_and, Fw.v_or, Fw.v_not, Fw.v_ife, Fw.v_args, Fw.v_nil, Fw.v_cons, Fw.v_bm, Fw.v_frz, Fw.v_chain, Fw.v_slLU, Fw.v_slL, Fw.v_slU, Fw.v_lc, Fw.v_seq, Fw.v_snil, Fw.v_ret, Fw.v_retN, Fw.v_brk, Fw.v_cnt, Fw.v_do, Fw.v_asg, Fw.v_if, Fw.v_for, Fw.v_srcOf, Fw.v_srcA, Fw.v_fn, Fw.w_binL, Fw.w_binR, Fw.w_un, Fw.w_andT, Fw.w_andF, Fw.w_orT, Fw.w_orF, Fw.w_not, Fw.w_ifT, Fw.w_ifF, Fw.w_arg, Fw.w_consL, Fw.w_consR, Fw.w_bmA, Fw.w_bmS, Fw.w_bm, Fw.w_frz, Fw.w_ch0, Fw.w_ch1, Fw.w_ch2T, Fw.w_ch2F, Fw.w_sl1, Fw.w_sl2, Fw.w_sl3, Fw.w_slL1, Fw.w_slL2, Fw.w_slU1, Fw.w_slU2, Fw.w_seq, Fw.w_seqR, Fw.w_seqB, Fw.w_seqC, Fw.w_seqE, Fw.w_ret, Fw.w_do, Fw.w_asg, Fw.w_tg, Fw.w_sifT, Fw.w_sifF, Fw.w_gs, Fw.w_gsnil, Fw.w_gscons, Fw.w_for, Fw.w_src, Fw.w_srcA, Fw.w_src2, Fw.w_lc, Fw.w_endN, Fw.w_endR, Fw.w_endE, Fw.e_binL, Fw.e_binR, Fw.e_un, Fw.e_and, Fw.e_or, Fw.e_not, Fw.e_ife, Fw.e_arg, Fw.e_consL, Fw.e_consR, Fw.e_bmA, Fw.e_bm, Fw.e_ret, Fw.e_do, Fw.e_asg, Fw.e_if, Fw.e_for, Fw.e_src, Fw.e_srcA, Fw.v_x0, Fw.v_s0, Fw.v_x1, Fw.v_s1, Fw.v_x2, Fw.v_s2, Fw.v_x3, Fw.v_s3, Fw.v_x4, Fw.v_s4, Fw.v_x5, Fw.v_s5, Fw.v_x6, Fw.v_s6, Fw.v_x7, Fw.v_s7, Fw.v_x8, Fw.v_s8, Fw.v_x9, Fw.v_s9, Fw.v_x10, Fw.v_s10, Fw.v_x11, Fw.v_s11, Fw.v_x12, Fw.v_s12, Fw.v_x13, Fw.v_s13, Fw.v_x14, Fw.v_s14, Fw.v_x15, Fw.v_s15, Fw.v_x16, Fw.v_s16, Fw.v_x17, Fw.v_s17, Fw.v_x18, Fw.v_s18, Fw.v_x19, Fw.v_s19, Fw.v_x20, Fw.v_s20, Fw.v_x21, Fw.v_s21, Fw.v_x22, Fw.v_s22, Fw.v_x23, Fw.v_s23, Fw.v_x24, Fw.v_s24, Fw.v_x25, Fw.v_s25, Fw.v_unp1, Fw.v_unpL1, Fw.v_unp2, Fw.v_unpL2, Fw.v_unp3, Fw.v_unpL3, Fw.v_unp4, Fw.v_unpL4, Fw.v_unp5, Fw.v_unpL5, Fw.v_unp6, Fw.v_unpL6, Fw.v_unp7, Fw.v_unpL7, Fw.v_unp8, Fw.v_unpL8, Fw.v_addC, Fw.v_dic, Fw.v_zipL, Fw.v_addCS, Fw.v_strBB, Fw.v_strBN, Fw.v_strBS, Fw.v_joinC, Fw.v_fld, Fw.w_fld, Fw.v_sfld, Fw.w_sfld1, Fw.w_sfld2, Fw.v_meth, Fw.w_meth, Fw.w_argD, Fw.v_make, Fw.w_make, Fw.w_madeN, Fw.w_madeE, Fw.e_doE, Fw.w_setAt, Fw.v_raise, Fw.v_tryAs, Fw.v_tryMany, Fw.w_tryN, Fw.w_tryR, Fw.w_tryC, Fw.w_tryE, Fw.w_trmN, Fw.w_trmR, Fw.w_trmC, Fw.w_trmE, Fw.w_hdY, Fw.w_hdN, Fw.w_all, Fw.w_unN, Fw.w_unC, Fw.w_unR, Fw.w_unN0, Fw.w_unC0, Fw.w_isE, Fw.w_tabN, Fw.w_goN, Fw.w_goC, Fw.w_turn, Fw.v_lenli, Fw.v_ixli, Fw.v_lenT, Fw.v_addT, Fw.v_eqT, Fw.v_neT, Fw.v_eqI, Fw.v_neI, Fw.v_strN, Fw.v_strS, Fw.v_ord, Fw.v_appC, Fw.v_pow18, Fw.v_ixT, Fw.v_lst, Fw.v_tup, Fw.v_cel, Fw.v_appT, Fw.v_appL, Fw.v_rng1, Fw.v_enT, Fw.v_iT, Fw.v_iL, Fw.v_iTp, Fw.v_cutLTo, Fw.v_cutLFrom, Fw.v_wipe0, Fw.v_wipe1, Fw.w_te, Fw.v_cutTo, Fw.v_cutFrom, Fw.v_cutLast, Fw.v_splT, Fw.v_rsplT, Fw.v_rfindT, Fw.v_endsT, Fw.v_inT, Fw.v_notInT, Fw.v_joinT, Fw.v_tab, Fw.w_tabL, Fw.w_tabR, Fw.v_lstT, Fw.v_lstL, Fw.v_tupT, Fw.v_tupL, Fw.v_isBt, Fw.v_isBf, Fw.v_isBi, Fw.v_isBs, Fw.v_ixL0, Fw.v_ixL1, Fw.v_isTs, Fw.v_isTsI, Fw.v_isTsB, Fw.v_allB, Fw.v_all0, Fw.v_all1, Fw.v_all2, Fw.v_all3, Fw.v_all4, Fw.v_all5, Fw.v_all6, Fw.v_all7, Fw.v_all8, Fw.v_appT2, Fw.v_lz, Fw.v_castN, Fw.v_zpN, Fw.v_zpN2, Fw.v_zpC, Fw.v_intT, Fw.v_in2, Fw.v_lcNil, Fw.v_lcCons, Fw.w_lcT, Fw.w_lcCt, Fw.w_lcCf, Fw.w_lcE, Fw.v_yes, Fw.v_finF, Fw.v_loopNil, Fw.v_loopCons, Fw.w_restN, Fw.w_restC, Fw.w_restB, Fw.w_restR, Fw.o_lt, Fw.o_le, Fw.o_gt, Fw.o_ge, Fw.o_addI, Fw.o_sub, Fw.o_neg, Fw.o_mul, Fw.o_mod, Fw.o_div, Fw.f_intI, Fw.f_intB, Fw.f_max, Fw.f_min, Fw.f_lenL, Fw.f_lenT, decide_true, decide_false, Bool.not_true, Bool.not_false, List.map_cons, List.map_nil, List.set_cons_zero, List.set_cons_succ, List.drop_succ_cons, List.drop_zero, List.take_succ_cons, List.take_zero, List.replicate_succ, List.replicate_zero, List.cons_append, List.nil_append, List.append_nil, ne_eq, not_false_eq_true, not_true_eq_false, and_self, eq_self, and_true, and_false, false_and, true_and, reduceIte, if_true, if_false, reduceCtorEq, List.length_cons, List.length_nil, List.length_map, Fw.snoc_at, Fw.snoc_set, Fw.tyL_snoc, decide_eq_true_eq, Bool.and_true, Bool.true_and, Bool.and_false, Bool.false_and, Nat.reduceSub, Nat.reduceAdd, Int.reduceAdd, Int.reduceSub, Int.reduceMul, Int.reduceNeg, Int.reduceLT, Int.reduceLE, Int.reduceEq, Int.reduceMod, Int.reduceDiv, Int.reduceToNat, Nat.reduceEqDiff, b__law_size, v_pow12, h, v_isI, v_isIb, v_isB, v_isBb, f1, f2, f3, f4, ti0, Int.toNat_natCast, ixk2, ixk3, ixk4, ixk5, ixk6, ixk7, ixk8, ixk9, ixk10, ixk11, ixk12, ixk13, ixk14, ixk15, ixk16]
  · have lo3 : lo = 2 ∨ lo = 3 := by omega
    refine ⟨.str (tx [51]), false, fin _ _ ?_, sz_other (.str (tx [51])) (fun _ => rfl) (fun _ => rfl) ⟨rfl, by decide +kernel, by decide +kernel⟩⟩
    simp -implicitDefEqProofs (disch := (first | exact Fw.tyL_snoc _ | omega | assumption | ((try simp only [List.length_append, List.length_cons, List.length_nil, List.length_map, List.length_take, List.length_drop, List.length_range, List.length_replicate, Fw.tyL_snoc]); first | done | omega))) only [Fw.v_c, Fw.v_bin, Fw.v_un, Fw.v_and, Fw.v_or, Fw.v_not, Fw.v_ife, Fw.v_args, Fw.v_nil, Fw.v_cons, Fw.v_bm, Fw.v_frz, Fw.v_chain, Fw.v_slLU, Fw.v_slL, Fw.v_slU, Fw.v_lc, Fw.v_seq, Fw.v_snil, Fw.v_ret, Fw.v_retN, Fw.v_brk, Fw.v_cnt, Fw.v_do, Fw.v_asg, Fw.v_if, Fw.v_for, Fw.v_srcOf, Fw.v_srcA, Fw.v_fn, Fw.w_binL, Fw.w_binR, Fw.w_un, Fw.w_andT, Fw.w_andF, Fw.w_orT, Fw.w_orF, Fw.w_not, Fw.w_ifT, Fw.w_ifF, Fw.w_arg, Fw.w_consL, Fw.w_consR, Fw.w_bmA, Fw.w_bmS, Fw.w_bm, Fw.w_frz, Fw.w_ch0, Fw.w_ch1, Fw.w_ch2T, Fw.w_ch2F, Fw.w_sl1, Fw.w_sl2, Fw.w_sl3, Fw.w_slL1, Fw.w_slL2, Fw.w_slU1, Fw.w_slU2, Fw.w_seq, Fw.w_seqR, Fw.w_seqB, Fw.w_seqC, Fw.w_seqE, Fw.w_ret, Fw.w_do, Fw.w_asg, Fw.w_tg, Fw.w_sifT, Fw.w_sifF, Fw.w_gs, Fw.w_gsnil, Fw.w_gscons, Fw.w_for, Fw.w_src, Fw.w_srcA, Fw.w_src2, Fw.w_lc, Fw.w_endN, Fw.w_endR, Fw.w_endE, Fw.e_binL, Fw.e_binR, Fw.e_un, Fw.e_and, Fw.e_or, Fw.e_not, Fw.e_ife, Fw.e_arg, Fw.e_consL, Fw.e_consR, Fw.e_bmA, Fw.e_bm, Fw.e_ret, Fw.e_do, Fw.e_asg, Fw.e_if, Fw.e_for, Fw.e_src, Fw.e_srcA, Fw.v_x0, Fw.v_s0, Fw.v_x1, Fw.v_s1, Fw.v_x2, Fw.v_s2, Fw.v_x3, Fw.v_s3, Fw.v_x4, Fw.v_s4, Fw.v_x5, Fw.v_s5, Fw.v_x6, Fw.v_s6, Fw.v_x7, Fw.v_s7, Fw.v_x8, Fw.v_s8, Fw.v_x9, Fw.v_s9, Fw.v_x10, Fw.v_s10, Fw.v_x11, Fw.v_s11, Fw.v_x12, Fw.v_s12, Fw.v_x13, Fw.v_s13, Fw.v_x14, Fw.v_s14, Fw.v_x15, Fw.v_s15, Fw.v_x16, Fw.v_s16, Fw.v_x17, Fw.v_s17, Fw.v_x18, Fw.v_s18, Fw.v_x19, Fw.v_s19, Fw.v_x20, Fw.v_s20, Fw.v_x21, Fw.v_s21, Fw.v_x22, Fw.v_s22, Fw.v_x23, Fw.v_s23, Fw.v_x24, Fw.v_s24, Fw.v_x25, Fw.v_s25, Fw.v_unp1, Fw.v_unpL1, Fw.v_unp2, Fw.v_unpL2, Fw.v_unp3, Fw.v_unpL3, Fw.v_unp4, Fw.v_unpL4, Fw.v_unp5, Fw.v_unpL5, Fw.v_unp6, Fw.v_unpL6, Fw.v_unp7, Fw.v_unpL7, Fw.v_unp8, Fw.v_unpL8, Fw.v_addC, Fw.v_dic, Fw.v_zipL, Fw.v_addCS, Fw.v_strBB, Fw.v_strBN, Fw.v_strBS, Fw.v_joinC, Fw.v_fld, Fw.w_fld, Fw.v_sfld, Fw.w_sfld1, Fw.w_sfld2, Fw.v_meth, Fw.w_meth, Fw.w_argD, Fw.v_make, Fw.w_make, Fw.w_madeN, Fw.w_madeE, Fw.e_doE, Fw.w_setAt, Fw.v_raise, Fw.v_tryAs, Fw.v_tryMany, Fw.w_tryN, Fw.w_tryR, Fw.w_tryC, Fw.w_tryE, Fw.w_trmN, Fw.w_trmR, Fw.w_trmC, Fw.w_trmE, Fw.w_hdY, Fw.w_hdN, Fw.w_all, Fw.w_unN, Fw.w_unC, Fw.w_unR, Fw.w_unN0, Fw.w_unC0, Fw.w_isE, Fw.w_tabN, Fw.w_goN, Fw.w_goC, Fw.w_turn, Fw.v_lenli, Fw.v_ixli, Fw.v_lenT, Fw.v_addT, Fw.v_eqT, Fw.v_neT, Fw.v_eqI, Fw.v_neI, Fw.v_strN, Fw.v_strS, Fw.v_ord, Fw.v_appC, Fw.v_pow18, Fw.v_ixT, Fw.v_lst, Fw.v_tup, Fw.v_cel, Fw.v_appT, Fw.v_appL, Fw.v_rng1, Fw.v_enT, Fw.v_iT, Fw.v_iL, Fw.v_iTp, Fw.v_cutLTo, Fw.v_cutLFrom, Fw.v_wipe0, Fw.v_wipe1, Fw.w_te, Fw.v_cutTo, Fw.v_cutFrom, Fw.v_cutLast, Fw.v_splT, Fw.v_rsplT, Fw.v_rfindT, Fw.v_endsT, Fw.v_inT, Fw.v_notInT, Fw.v_joinT, Fw.v_tab, Fw.w_tabL, Fw.w_tabR, Fw.v_lstT, Fw.v_lstL, Fw.v_tupT, Fw.v_tupL, Fw.v_isBt, Fw.v_isBf, Fw.v_isBi, Fw.v_isBs, Fw.v_ixL0, Fw.v_ixL1, Fw.v_isTs, Fw.v_isTsI, Fw.v_isTsB, Fw.v_allB, Fw.v_all0, Fw.v_all1, Fw.v_all2, Fw.v_all3, Fw.v_all4, Fw.v_all5, Fw.v_all6, Fw.v_all7, Fw.v_all8, Fw.v_appT2, Fw.v_lz, Fw.v_castN, Fw.v_zpN, Fw.v_zpN2, Fw.v_zpC, Fw.v_intT, Fw.v_in2, Fw.v_lcNil, Fw.v_lcCons, Fw.w_lcT, Fw.w_lcCt, Fw.w_lcCf, Fw.w_lcE, Fw.v_yes, Fw.v_finF, Fw.v_loopNil, Fw.v_loopCons, Fw.w_restN, Fw.w_restC, Fw.w_restB, Fw.w_restR, Fw.o_lt, Fw.o_le, Fw.o_gt, Fw.o_ge, Fw.o_addI, Fw.o_sub, Fw.o_neg, Fw.o_mul, Fw.o_mod, Fw.o_div, Fw.f_intI, Fw.f_intB, Fw.f_max, Fw.f_min, Fw.f_lenL, Fw.f_lenT, decide_true, decide_false, Bool.not_true, Bool.not_false, List.map_cons, List.map_nil, List.set_cons_zero, List.set_cons_succ, List.drop_succ_cons, List.drop_zero, List.take_succ_cons, List.take_zero, List.replicate_succ, List.replicate_zero, List.cons_append, List.nil_append, List.append_nil, ne_eq, not_false_eq_true, not_true_eq_false, and_self, eq_self, and_true, and_false, false_and, true_and, reduceIte, if_true, if_false, reduceCtorEq, List.length_cons, List.length_nil, List.length_map, Fw.snoc_at, Fw.snoc_set, Fw.tyL_snoc, decide_eq_true_eq, Bool.and_true, Bool.true_and, Bool.and_false, Bool.false_and, Nat.reduceSub, Nat.reduceAdd, Int.reduceAdd, Int.reduceSub, Int.reduceMul, Int.reduceNeg, Int.reduceLT, Int.reduceLE, Int.reduceEq, Int.reduceMod, Int.reduceDiv, Int.reduceToNat, Nat.reduceEqDiff, b__law_size, v_pow12, h, v_isI, v_isIb, v_isB, v_isBb, f1, f2, f3, f4, ti0, Int.toNat_natCast, ixk2, ixk3, ixk4, ixk5, ixk6, ixk7, ixk8, ixk9, ixk10, ixk11, ixk12, ixk13, ixk14, ixk15, ixk16]
  · have lo3 : lo = 2 ∨ lo = 3 := by omega
    refine ⟨.str (tx (nm lo)), false, fin _ _ ?_, sz_other (.str (tx (nm lo))) (fun _ => rfl) (fun _ => rfl) (by rcases lo3 with e | e <;> rw [e] <;> exact ⟨rfl, by decide +kernel, by decide +kernel⟩)⟩
    simp -implicitDefEqProofs (disch := (first | exact Fw.tyL_snoc _ | omega | assumption | ((try simp only [List.length_append, List.length_cons, List.length_nil, List.length_map, List.length_take, List.length_drop, List.length_range, List.length_replicate, Fw.tyL_snoc]); first | done | omega))) only [Fw.v_c, Fw.v_bin, Fw.v_un, Fw.v_and, Fw.v_or, Fw.v_not, Fw.v_ife, Fw.v_args, Fw.v_nil, Fw.v_cons, Fw.v_bm, Fw.v_frz, Fw.v_chain, Fw.v_slLU, Fw.v_slL, Fw.v_slU, Fw.v_lc, Fw.v_seq, Fw.v_snil, Fw.v_ret, Fw.v_retN, Fw.v_brk, Fw.v_cnt, Fw.v_do, Fw.v_asg, Fw.v_if, Fw.v_for, Fw.v_srcOf, Fw.v_srcA, Fw.v_fn, Fw.w_binL, Fw.w_binR, Fw.w_un, Fw.w_andT, Fw.w_andF, Fw.w_orT, Fw.w_orF, Fw.w_not, Fw.w_ifT, Fw.w_ifF, Fw.w_arg, Fw.w_consL, Fw.w_consR, Fw.w_bmA, Fw.w_bmS, Fw.w_bm, Fw.w_frz, Fw.w_ch0, Fw.w_ch1, Fw.w_ch2T, Fw.w_ch2F, Fw.w_sl1, Fw.w_sl2, Fw.w_sl3, Fw.w_slL1, Fw.w_slL2, Fw.w_slU1, Fw.w_slU2, Fw.w_seq, Fw.w_seqR, Fw.w_seqB, Fw.w_seqC, Fw.w_seqE, Fw.w_ret, Fw.w_do, Fw.w_asg, Fw.w_tg, Fw.w_sifT, Fw.w_sifF, Fw.w_gs, Fw.w_gsnil, Fw.w_gscons, Fw.w_for, Fw.w_src, Fw.w_srcA, Fw.w_src2, Fw.w_lc, Fw.w_endN, Fw.w_endR, Fw.w_endE, Fw.e_binL, Fw.e_binR, Fw.e_un, Fw.e_and, Fw.e_or, Fw.e_not, Fw.e_ife, Fw.e_arg, Fw.e_consL, Fw.e_consR, Fw.e_bmA, Fw.e_bm, Fw.e_ret, Fw.e_do, Fw.e_asg, Fw.e_if, Fw.e_for, Fw.e_src, Fw.e_srcA, Fw.v_x0, Fw.v_s0, Fw.v_x1, Fw.v_s1, Fw.v_x2, Fw.v_s2, Fw.v_x3, Fw.v_s3, Fw.v_x4, Fw.v_s4, Fw.v_x5, Fw.v_s5, Fw.v_x6, Fw.v_s6, Fw.v_x7, Fw.v_s7, Fw.v_x8, Fw.v_s8, Fw.v_x9, Fw.v_s9, Fw.v_x10, Fw.v_s10, Fw.v_x11, Fw.v_s11, Fw.v_x12, Fw.v_s12, Fw.v_x13, Fw.v_s13, Fw.v_x14, Fw.v_s14, Fw.v_x15, Fw.v_s15, Fw.v_x16, Fw.v_s16, Fw.v_x17, Fw.v_s17, Fw.v_x18, Fw.v_s18, Fw.v_x19, Fw.v_s19, Fw.v_x20, Fw.v_s20, Fw.v_x21, Fw.v_s21, Fw.v_x22, Fw.v_s22, Fw.v_x23, Fw.v_s23, Fw.v_x24, Fw.v_s24, Fw.v_x25, Fw.v_s25, Fw.v_unp1, Fw.v_unpL1, Fw.v_unp2, Fw.v_unpL2, Fw.v_unp3, Fw.v_unpL3, Fw.v_unp4, Fw.v_unpL4, Fw.v_unp5, Fw.v_unpL5, Fw.v_unp6, Fw.v_unpL6, Fw.v_unp7, Fw.v_unpL7, Fw.v_unp8, Fw.v_unpL8, Fw.v_addC, Fw.v_dic, Fw.v_zipL, Fw.v_addCS, Fw.v_strBB, Fw.v_strBN, Fw.v_strBS, Fw.v_joinC, Fw.v_fld, Fw.w_fld, Fw.v_sfld, Fw.w_sfld1, Fw.w_sfld2, Fw.v_meth, Fw.w_meth, Fw.w_argD, Fw.v_make, Fw.w_make, Fw.w_madeN, Fw.w_madeE, Fw.e_doE, Fw.w_setAt, Fw.v_raise, Fw.v_tryAs, Fw.v_tryMany, Fw.w_tryN, Fw.w_tryR, Fw.w_tryC, Fw.w_tryE, Fw.w_trmN, Fw.w_trmR, Fw.w_trmC, Fw.w_trmE, Fw.w_hdY, Fw.w_hdN, Fw.w_all, Fw.w_unN, Fw.w_unC, Fw.w_unR, Fw.w_unN0, Fw.w_unC0, Fw.w_isE, Fw.w_tabN, Fw.w_goN, Fw.w_goC, Fw.w_turn, Fw.v_lenli, Fw.v_ixli, Fw.v_lenT, Fw.v_addT, Fw.v_eqT, Fw.v_neT, Fw.v_eqI, Fw.v_neI, Fw.v_strN, Fw.v_strS, Fw.v_ord, Fw.v_appC, Fw.v_pow18, Fw.v_ixT, Fw.v_lst, Fw.v_tup, Fw.v_cel, Fw.v_appT, Fw.v_appL, Fw.v_rng1, Fw.v_enT, Fw.v_iT, Fw.v_iL, Fw.v_iTp, Fw.v_cutLTo, Fw.v_cutLFrom, Fw.v_wipe0, Fw.v_wipe1, Fw.w_te, Fw.v_cutTo, Fw.v_cutFrom, Fw.v_cutLast, Fw.v_splT, Fw.v_rsplT, Fw.v_rfindT, Fw.v_endsT, Fw.v_inT, Fw.v_notInT, Fw.v_joinT, Fw.v_tab, Fw.w_tabL, Fw.w_tabR, Fw.v_lstT, Fw.v_lstL, Fw.v_tupT, Fw.v_tupL, Fw.v_isBt, Fw.v_isBf, Fw.v_isBi, Fw.v_isBs, Fw.v_ixL0, Fw.v_ixL1, Fw.v_isTs, Fw.v_isTsI, Fw.v_isTsB, Fw.v_allB, Fw.v_all0, Fw.v_all1, Fw.v_all2, Fw.v_all3, Fw.v_all4, Fw.v_all5, Fw.v_all6, Fw.v_all7, Fw.v_all8, Fw.v_appT2, Fw.v_lz, Fw.v_castN, Fw.v_zpN, Fw.v_zpN2, Fw.v_zpC, Fw.v_intT, Fw.v_in2, Fw.v_lcNil, Fw.v_lcCons, Fw.w_lcT, Fw.w_lcCt, Fw.w_lcCf, Fw.w_lcE, Fw.v_yes, Fw.v_finF, Fw.v_loopNil, Fw.v_loopCons, Fw.w_restN, Fw.w_restC, Fw.w_restB, Fw.w_restR, Fw.o_lt, Fw.o_le, Fw.o_gt, Fw.o_ge, Fw.o_addI, Fw.o_sub, Fw.o_neg, Fw.o_mul, Fw.o_mod, Fw.o_div, Fw.f_intI, Fw.f_intB, Fw.f_max, Fw.f_min, Fw.f_lenL, Fw.f_lenT, decide_true, decide_false, Bool.not_true, Bool.not_false, List.map_cons, List.map_nil, List.set_cons_zero, List.set_cons_succ, List.drop_succ_cons, List.drop_zero, List.take_succ_cons, List.take_zero, List.replicate_succ, List.replicate_zero, List.cons_append, List.nil_append, List.append_nil, ne_eq, not_false_eq_true, not_true_eq_false, and_self, eq_self, and_true, and_false, false_and, true_and, reduceIte, if_true, if_false, reduceCtorEq, List.length_cons, List.length_nil, List.length_map, Fw.snoc_at, Fw.snoc_set, Fw.tyL_snoc, decide_eq_true_eq, Bool.and_true, Bool.true_and, Bool.and_false, Bool.false_and, Nat.reduceSub, Nat.reduceAdd, Int.reduceAdd, Int.reduceSub, Int.reduceMul, Int.reduceNeg, Int.reduceLT, Int.reduceLE, Int.reduceEq, Int.reduceMod, Int.reduceDiv, Int.reduceToNat, Nat.reduceEqDiff, b__law_size, v_pow12, h, v_isI, v_isIb, v_isB, v_isBb, f1, f2, f3, f4, ti0, Int.toNat_natCast, ixk2, ixk3, ixk4, ixk5, ixk6, ixk7, ixk8, ixk9, ixk10, ixk11, ixk12, ixk13, ixk14, ixk15, ixk16]
  · have lo3 : lo = 2 ∨ lo = 3 := by omega
    refine ⟨.lst [.int lo], false, fin _ _ ?_, sz_other (.list [.int lo]) (fun _ => rfl) (fun _ => rfl) (by rcases lo3 with e | e <;> rw [e] <;> exact ⟨by decide +kernel, by decide +kernel, by decide +kernel⟩)⟩
    simp -implicitDefEqProofs (disch := (first | exact Fw.tyL_snoc _ | omega | assumption | ((try simp only [List.length_append, List.length_cons, List.length_nil, List.length_map, List.length_take, List.length_drop, List.length_range, List.length_replicate, Fw.tyL_snoc]); first | done | omega))) only [Fw.v_c, Fw.v_bin, Fw.v_un, Fw.v_and, Fw.v_or, Fw.v_not, Fw.v_ife, Fw.v_args, Fw.v_nil, Fw.v_cons, Fw.v_bm, Fw.v_frz, Fw.v_chain, Fw.v_slLU, Fw.v_slL, Fw.v_slU, Fw.v_lc, Fw.v_seq, Fw.v_snil, Fw.v_ret, Fw.v_retN, Fw.v_brk, Fw.v_cnt, Fw.v_do, Fw.v_asg, Fw.v_if, Fw.v_for, Fw.v_srcOf, Fw.v_srcA, Fw.v_fn, Fw.w_binL, Fw.w_binR, Fw.w_un, Fw.w_andT, Fw.w_andF, Fw.w_orT, Fw.w_orF, Fw.w_not, Fw.w_ifT, Fw.w_ifF, Fw.w_arg, Fw.w_consL, Fw.w_consR, Fw.w_bmA, Fw.w_bmS, Fw.w_bm, Fw.w_frz, Fw.w_ch0, Fw.w_ch1, Fw.w_ch2T, Fw.w_ch2F, Fw.w_sl1, Fw.w_sl2, Fw.w_sl3, Fw.w_slL1, Fw.w_slL2, Fw.w_slU1, Fw.w_slU2, Fw.w_seq, Fw.w_seqR, Fw.w_seqB, Fw.w_seqC, Fw.w_seqE, Fw.w_ret, Fw.w_do, Fw.w_asg, Fw.w_tg, Fw.w_sifT, Fw.w_sifF, Fw.w_gs, Fw.w_gsnil, Fw.w_gscons, Fw.w_for, Fw.w_src, Fw.w_srcA, Fw.w_src2, Fw.w_lc, Fw.w_endN, Fw.w_endR, Fw.w_endE, Fw.e_binL, Fw.e_binR, Fw.e_un, Fw.e_and, Fw.e_or, Fw.e_not, Fw.e_ife, Fw.e_arg, Fw.e_consL, Fw.e_consR, Fw.e_bmA, Fw.e_bm, Fw.e_ret, Fw.e_do, Fw.e_asg, Fw.e_if, Fw.e_for, Fw.e_src, Fw.e_srcA, Fw.v_x0, Fw.v_s0, Fw.v_x1, Fw.v_s1, Fw.v_x2, Fw.v_s2, Fw.v_x3, Fw.v_s3, Fw.v_x4, Fw.v_s4, Fw.v_x5, Fw.v_s5, Fw.v_x6, Fw.v_s6, Fw.v_x7, Fw.v_s7, Fw.v_x8, Fw.v_s8, Fw.v_x9, Fw.v_s9, Fw.v_x10, Fw.v_s10, Fw.v_x11, Fw.v_s11, Fw.v_x12, Fw.v_s12, Fw.v_x13, Fw.v_s13, Fw.v_x14, Fw.v_s14, Fw.v_x15, Fw.v_s15, Fw.v_x16, Fw.v_s16, Fw.v_x17, Fw.v_s17, Fw.v_x18, Fw.v_s18, Fw.v_x19, Fw.v_s19, Fw.v_x20, Fw.v_s20, Fw.v_x21, Fw.v_s21, Fw.v_x22, Fw.v_s22, Fw.v_x23, Fw.v_s23, Fw.v_x24, Fw.v_s24, Fw.v_x25, Fw.v_s25, Fw.v_unp1, Fw.v_unpL1, Fw.v_unp2, Fw.v_unpL2, Fw.v_unp3, Fw.v_unpL3, Fw.v_unp4, Fw.v_unpL4, Fw.v_unp5, Fw.v_unpL5, Fw.v_unp6, Fw.v_unpL6, Fw.v_unp7, Fw.v_unpL7, Fw.v_unp8, Fw.v_unpL8, Fw.v_addC, Fw.v_dic, Fw.v_zipL, Fw.v_addCS, Fw.v_strBB, Fw.v_strBN, Fw.v_strBS, Fw.v_joinC, Fw.v_fld, Fw.w_fld, Fw.v_sfld, Fw.w_sfld1, Fw.w_sfld2, Fw.v_meth, Fw.w_meth, Fw.w_argD, Fw.v_make, Fw.w_make, Fw.w_madeN, Fw.w_madeE, Fw.e_doE, Fw.w_setAt, Fw.v_raise, Fw.v_tryAs, Fw.v_tryMany, Fw.w_tryN, Fw.w_tryR, Fw.w_tryC, Fw.w_tryE, Fw.w_trmN, Fw.w_trmR, Fw.w_trmC, Fw.w_trmE, Fw.w_hdY, Fw.w_hdN, Fw.w_all, Fw.w_unN, Fw.w_unC, Fw.w_unR, Fw.w_unN0, Fw.w_unC0, Fw.w_isE, Fw.w_tabN, Fw.w_goN, Fw.w_goC, Fw.w_turn, Fw.v_lenli, Fw.v_ixli, Fw.v_lenT, Fw.v_addT, Fw.v_eqT, Fw.v_neT, Fw.v_eqI, Fw.v_neI, Fw.v_strN, Fw.v_strS, Fw.v_ord, Fw.v_appC, Fw.v_pow18, Fw.v_ixT, Fw.v_lst, Fw.v_tup, Fw.v_cel, Fw.v_appT, Fw.v_appL, Fw.v_rng1, Fw.v_enT, Fw.v_iT, Fw.v_iL, Fw.v_iTp, Fw.v_cutLTo, Fw.v_cutLFrom, Fw.v_wipe0, Fw.v_wipe1, Fw.w_te, Fw.v_cutTo, Fw.v_cutFrom, Fw.v_cutLast, Fw.v_splT, Fw.v_rsplT, Fw.v_rfindT, Fw.v_endsT, Fw.v_inT, Fw.v_notInT, Fw.v_joinT, Fw.v_tab, Fw.w_tabL, Fw.w_tabR, Fw.v_lstT, Fw.v_lstL, Fw.v_tupT, Fw.v_tupL, Fw.v_isBt, Fw.v_isBf, Fw.v_isBi, Fw.v_isBs, Fw.v_ixL0, Fw.v_ixL1, Fw.v_isTs, Fw.v_isTsI, Fw.v_isTsB, Fw.v_allB, Fw.v_all0, Fw.v_all1, Fw.v_all2, Fw.v_all3, Fw.v_all4, Fw.v_all5, Fw.v_all6, Fw.v_all7, Fw.v_all8, Fw.v_appT2, Fw.v_lz, Fw.v_castN, Fw.v_zpN, Fw.v_zpN2, Fw.v_zpC, Fw.v_intT, Fw.v_in2, Fw.v_lcNil, Fw.v_lcCons, Fw.w_lcT, Fw.w_lcCt, Fw.w_lcCf, Fw.w_lcE, Fw.v_yes, Fw.v_finF, Fw.v_loopNil, Fw.v_loopCons, Fw.w_restN, Fw.w_restC, Fw.w_restB, Fw.w_restR, Fw.o_lt, Fw.o_le, Fw.o_gt, Fw.o_ge, Fw.o_addI, Fw.o_sub, Fw.o_neg, Fw.o_mul, Fw.o_mod, Fw.o_div, Fw.f_intI, Fw.f_intB, Fw.f_max, Fw.f_min, Fw.f_lenL, Fw.f_lenT, decide_true, decide_false, Bool.not_true, Bool.not_false, List.map_cons, List.map_nil, List.set_cons_zero, List.set_cons_succ, List.drop_succ_cons, List.drop_zero, List.take_succ_cons, List.take_zero, List.replicate_succ, List.replicate_zero, List.cons_append, List.nil_append, List.append_nil, ne_eq, not_false_eq_true, not_true_eq_false, and_self, eq_self, and_true, and_false, false_and, true_and, reduceIte, if_true, if_false, reduceCtorEq, List.length_cons, List.length_nil, List.length_map, Fw.snoc_at, Fw.snoc_set, Fw.tyL_snoc, decide_eq_true_eq, Bool.and_true, Bool.true_and, Bool.and_false, Bool.false_and, Nat.reduceSub, Nat.reduceAdd, Int.reduceAdd, Int.reduceSub, Int.reduceMul, Int.reduceNeg, Int.reduceLT, Int.reduceLE, Int.reduceEq, Int.reduceMod, Int.reduceDiv, Int.reduceToNat, Nat.reduceEqDiff, b__law_size, v_pow12, h, v_isI, v_isIb, v_isB, v_isBb, f1, f2, f3, f4, ti0, Int.toNat_natCast, ixk2, ixk3, ixk4, ixk5, ixk6, ixk7, ixk8, ixk9, ixk10, ixk11, ixk12, ixk13, ixk14, ixk15, ixk16]
  · have lo3 : lo = 2 ∨ lo = 3 := by omega
    refine ⟨.tup [], false, fin _ _ ?_, sz_other (.tuple []) (fun _ => rfl) (fun _ => rfl) ⟨by decide +kernel, by decide +kernel, by decide +kernel⟩⟩
    simp -implicitDefEqProofs (disch := (first | exact Fw.tyL_snoc _ | omega | assumption | ((try simp only [List.length_append, List.length_cons, List.length_nil, List.length_map, List.length_take, List.length_drop, List.length_range, List.length_replicate, Fw.tyL_snoc]); first | done | omega))) only [Fw.v_c, Fw.v_bin, Fw.v_un, Fw.v_and, Fw.v_or, Fw.v_not, Fw.v_ife, Fw.v_args, Fw.v_nil, Fw.v_cons, Fw.v_bm, Fw.v_frz, Fw.v_chain, Fw.v_slLU, Fw.v_slL, Fw.v_slU, Fw.v_lc, Fw.v_seq, Fw.v_snil, Fw.v_ret, Fw.v_retN, Fw.v_brk, Fw.v_cnt, Fw.v_do, Fw.v_asg, Fw.v_if, Fw.v_for, Fw.v_srcOf, Fw.v_srcA, Fw.v_fn, Fw.w_binL, Fw.w_binR, Fw.w_un, Fw.w_andT, Fw.w_andF, Fw.w_orT, Fw.w_orF, Fw.w_not, Fw.w_ifT, Fw.w_ifF, Fw.w_arg, Fw.w_consL, Fw.w_consR, Fw.w_bmA, Fw.w_bmS, Fw.w_bm, Fw.w_frz, Fw.w_ch0, Fw.w_ch1, Fw.w_ch2T, Fw.w_ch2F, Fw.w_sl1, Fw.w_sl2, Fw.w_sl3, Fw.w_slL1, Fw.w_slL2, Fw.w_slU1, Fw.w_slU2, Fw.w_seq, Fw.w_seqR, Fw.w_seqB, Fw.w_seqC, Fw.w_seqE, Fw.w_ret, Fw.w_do, Fw.w_asg, Fw.w_tg, Fw.w_sifT, Fw.w_sifF, Fw.w_gs, Fw.w_gsnil, Fw.w_gscons, Fw.w_for, Fw.w_src, Fw.w_srcA, Fw.w_src2, Fw.w_lc, Fw.w_endN, Fw.w_endR, Fw.w_endE, Fw.e_binL, Fw.e_binR, Fw.e_un, Fw.e_and, Fw.e_or, Fw.e_not, Fw.e_ife, Fw.e_arg, Fw.e_consL, Fw.e_consR, Fw.e_bmA, Fw.e_bm, Fw.e_ret, Fw.e_do, Fw.e_asg, Fw.e_if, Fw.e_for, Fw.e_src, Fw.e_srcA, Fw.v_x0, Fw.v_s0, Fw.v_x1, Fw.v_s1, Fw.v_x2, Fw.v_s2, Fw.v_x3, Fw.v_s3, Fw.v_x4, Fw.v_s4, Fw.v_x5, Fw.v_s5, Fw.v_x6, Fw.v_s6, Fw.v_x7, Fw.v_s7, Fw.v_x8, Fw.v_s8, Fw.v_x9, Fw.v_s9, Fw.v_x10, Fw.v_s10, Fw.v_x11, Fw.v_s11, Fw.v_x12, Fw.v_s12, Fw.v_x13, Fw.v_s13, Fw.v_x14, Fw.v_s14, Fw.v_x15, Fw.v_s15, Fw.v_x16, Fw.v_s16, Fw.v_x17, Fw.v_s17, Fw.v_x18, Fw.v_s18, Fw.v_x19, Fw.v_s19, Fw.v_x20, Fw.v_s20, Fw.v_x21, Fw.v_s21, Fw.v_x22, Fw.v_s22, Fw.v_x23, Fw.v_s23, Fw.v_x24, Fw.v_s24, Fw.v_x25, Fw.v_s25, Fw.v_unp1, Fw.v_unpL1, Fw.v_unp2, Fw.v_unpL2, Fw.v_unp3, Fw.v_unpL3, Fw.v_unp4, Fw.v_unpL4, Fw.v_unp5, Fw.v_unpL5, Fw.v_unp6, Fw.v_unpL6, Fw.v_unp7, Fw.v_unpL7, Fw.v_unp8, Fw.v_unpL8, Fw.v_addC, Fw.v_dic, Fw.v_zipL, Fw.v_addCS, Fw.v_strBB, Fw.v_strBN, Fw.v_strBS, Fw.v_joinC, Fw.v_fld, Fw.w_fld, Fw.v_sfld, Fw.w_sfld1, Fw.w_sfld2, Fw.v_meth, Fw.w_meth, Fw.w_argD, Fw.v_make, Fw.w_make, Fw.w_madeN, Fw.w_madeE, Fw.e_doE, Fw.w_setAt, Fw.v_raise, Fw.v_tryAs, Fw.v_tryMany, Fw.w_tryN, Fw.w_tryR, Fw.w_tryC, Fw.w_tryE, Fw.w_trmN, Fw.w_trmR, Fw.w_trmC, Fw.w_trmE, Fw.w_hdY, Fw.w_hdN, Fw.w_all, Fw.w_unN, Fw.w_unC, Fw.w_unR, Fw.w_unN0, Fw.w_unC0, Fw.w_isE, Fw.w_tabN, Fw.w_goN, Fw.w_goC, Fw.w_turn, Fw.v_lenli, Fw.v_ixli, Fw.v_lenT, Fw.v_addT, Fw.v_eqT, Fw.v_neT, Fw.v_eqI, Fw.v_neI, Fw.v_strN, Fw.v_strS, Fw.v_ord, Fw.v_appC, Fw.v_pow18, Fw.v_ixT, Fw.v_lst, Fw.v_tup, Fw.v_cel, Fw.v_appT, Fw.v_appL, Fw.v_rng1, Fw.v_enT, Fw.v_iT, Fw.v_iL, Fw.v_iTp, Fw.v_cutLTo, Fw.v_cutLFrom, Fw.v_wipe0, Fw.v_wipe1, Fw.w_te, Fw.v_cutTo, Fw.v_cutFrom, Fw.v_cutLast, Fw.v_splT, Fw.v_rsplT, Fw.v_rfindT, Fw.v_endsT, Fw.v_inT, Fw.v_notInT, Fw.v_joinT, Fw.v_tab, Fw.w_tabL, Fw.w_tabR, Fw.v_lstT, Fw.v_lstL, Fw.v_tupT, Fw.v_tupL, Fw.v_isBt, Fw.v_isBf, Fw.v_isBi, Fw.v_isBs, Fw.v_ixL0, Fw.v_ixL1, Fw.v_isTs, Fw.v_isTsI, Fw.v_isTsB, Fw.v_allB, Fw.v_all0, Fw.v_all1, Fw.v_all2, Fw.v_all3, Fw.v_all4, Fw.v_all5, Fw.v_all6, Fw.v_all7, Fw.v_all8, Fw.v_appT2, Fw.v_lz, Fw.v_castN, Fw.v_zpN, Fw.v_zpN2, Fw.v_zpC, Fw.v_intT, Fw.v_in2, Fw.v_lcNil, Fw.v_lcCons, Fw.w_lcT, Fw.w_lcCt, Fw.w_lcCf, Fw.w_lcE, Fw.v_yes, Fw.v_finF, Fw.v_loopNil, Fw.v_loopCons, Fw.w_restN, Fw.w_restC, Fw.w_restB, Fw.w_restR, Fw.o_lt, Fw.o_le, Fw.o_gt, Fw.o_ge, Fw.o_addI, Fw.o_sub, Fw.o_neg, Fw.o_mul, Fw.o_mod, Fw.o_div, Fw.f_intI, Fw.f_intB, Fw.f_max, Fw.f_min, Fw.f_lenL, Fw.f_lenT, decide_true, decide_false, Bool.not_true, Bool.not_false, List.map_cons, List.map_nil, List.set_cons_zero, List.set_cons_succ, List.drop_succ_cons, List.drop_zero, List.take_succ_cons, List.take_zero, List.replicate_succ, List.replicate_zero, List.cons_append, List.nil_append, List.append_nil, ne_eq, not_false_eq_true, not_true_eq_false, and_self, eq_self, and_true, and_false, false_and, true_and, reduceIte, if_true, if_false, reduceCtorEq, List.length_cons, List.length_nil, List.length_map, Fw.snoc_at, Fw.snoc_set, Fw.tyL_snoc, decide_eq_true_eq, Bool.and_true, Bool.true_and, Bool.and_false, Bool.false_and, Nat.reduceSub, Nat.reduceAdd, Int.reduceAdd, Int.reduceSub, Int.reduceMul, Int.reduceNeg, Int.reduceLT, Int.reduceLE, Int.reduceEq, Int.reduceMod, Int.reduceDiv, Int.reduceToNat, Nat.reduceEqDiff, b__law_size, v_pow12, h, v_isI, v_isIb, v_isB, v_isBb, f1, f2, f3, f4, ti0, Int.toNat_natCast, ixk2, ixk3, ixk4, ixk5, ixk6, ixk7, ixk8, ixk9, ixk10, ixk11, ixk12, ixk13, ixk14, ixk15, ixk16]
  · have lo3 : lo = 2 ∨ lo = 3 := by omega
    refine ⟨.obj g.length, false, fin _ _ ?_, sz_other (.dict []) ti (fun x => by show (match ((g ++ [Cl.dic []]) ++ x)[g.length]? with | some (.dic []) => some (PyData.dict []) | _ => _) = _; rw [ex x]) ⟨by decide +kernel, by decide +kernel, by decide +kernel⟩⟩
    simp -implicitDefEqProofs (disch := (first | exact Fw.tyL_snoc _ | omega | assumption | ((try simp only [List.length_append, List.length_cons, List.length_nil, List.length_map, List.length_take, List.length_drop, List.length_range, List.length_replicate, Fw.tyL_snoc]); first | done | omega))) only [Fw.v_c, Fw.v_bin, Fw.v_un, Fw.v_and, Fw.v_or, Fw.v_not, Fw.v_ife, Fw.v_args, Fw.v_nil, Fw.v_cons, Fw.v_bm, Fw.v_frz, Fw.v_chain, Fw.v_slLU, Fw.v_slL, Fw.v_slU, Fw.v_lc, Fw.v_seq, Fw.v_snil, Fw.v_ret, Fw.v_retN, Fw.v_brk, Fw.v_cnt, Fw.v_do, Fw.v_asg, Fw.v_if, Fw.v_for, Fw.v_srcOf, Fw.v_srcA, Fw.v_fn, Fw.w_binL, Fw.w_binR, Fw.w_un, Fw.w_andT, Fw.w_andF, Fw.w_orT, Fw.w_orF, Fw.w_not, Fw.w_ifT, Fw.w_ifF, Fw.w_arg, Fw.w_consL, Fw.w_consR, Fw.w_bmA, Fw.w_bmS, Fw.w_bm, Fw.w_frz, Fw.w_ch0, Fw.w_ch1, Fw.w_ch2T, Fw.w_ch2F, Fw.w_sl1, Fw.w_sl2, Fw.w_sl3, Fw.w_slL1, Fw.w_slL2, Fw.w_slU1, Fw.w_slU2, Fw.w_seq, Fw.w_seqR, Fw.w_seqB, Fw.w_seqC, Fw.w_seqE, Fw.w_ret, Fw.w_do, Fw.w_asg, Fw.w_tg, Fw.w_sifT, Fw.w_sifF, Fw.w_gs, Fw.w_gsnil, Fw.w_gscons, Fw.w_for, Fw.w_src, Fw.w_srcA, Fw.w_src2, Fw.w_lc, Fw.w_endN, Fw.w_endR, Fw.w_endE, Fw.e_binL, Fw.e_binR, Fw.e_un, Fw.e_and, Fw.e_or, Fw.e_not, Fw.e_ife, Fw.e_arg, Fw.e_consL, Fw.e_consR, Fw.e_bmA, Fw.e_bm, Fw.e_ret, Fw.e_do, Fw.e_asg, Fw.e_if, Fw.e_for, Fw.e_src, Fw.e_srcA, Fw.v_x0, Fw.v_s0, Fw.v_x1, Fw.v_s1, Fw.v_x2, Fw.v_s2, Fw.v_x3, Fw.v_s3, Fw.v_x4, Fw.v_s4, Fw.v_x5, Fw.v_s5, Fw.v_x6, Fw.v_s6, Fw.v_x7, Fw.v_s7, Fw.v_x8, Fw.v_s8, Fw.v_x9, Fw.v_s9, Fw.v_x10, Fw.v_s10, Fw.v_x11, Fw.v_s11, Fw.v_x12, Fw.v_s12, Fw.v_x13, Fw.v_s13, Fw.v_x14, Fw.v_s14, Fw.v_x15, Fw.v_s15, Fw.v_x16, Fw.v_s16, Fw.v_x17, Fw.v_s17, Fw.v_x18, Fw.v_s18, Fw.v_x19, Fw.v_s19, Fw.v_x20, Fw.v_s20, Fw.v_x21, Fw.v_s21, Fw.v_x22, Fw.v_s22, Fw.v_x23, Fw.v_s23, Fw.v_x24, Fw.v_s24, Fw.v_x25, Fw.v_s25, Fw.v_unp1, Fw.v_unpL1, Fw.v_unp2, Fw.v_unpL2, Fw.v_unp3, Fw.v_unpL3, Fw.v_unp4, Fw.v_unpL4, Fw.v_unp5, Fw.v_unpL5, Fw.v_unp6, Fw.v_unpL6, Fw.v_unp7, Fw.v_unpL7, Fw.v_unp8, Fw.v_unpL8, Fw.v_addC, Fw.v_dic, Fw.v_zipL, Fw.v_addCS, Fw.v_strBB, Fw.v_strBN, Fw.v_strBS, Fw.v_joinC, Fw.v_fld, Fw.w_fld, Fw.v_sfld, Fw.w_sfld1, Fw.w_sfld2, Fw.v_meth, Fw.w_meth, Fw.w_argD, Fw.v_make, Fw.w_make, Fw.w_madeN, Fw.w_madeE, Fw.e_doE, Fw.w_setAt, Fw.v_raise, Fw.v_tryAs, Fw.v_tryMany, Fw.w_tryN, Fw.w_tryR, Fw.w_tryC, Fw.w_tryE, Fw.w_trmN, Fw.w_trmR, Fw.w_trmC, Fw.w_trmE, Fw.w_hdY, Fw.w_hdN, Fw.w_all, Fw.w_unN, Fw.w_unC, Fw.w_unR, Fw.w_unN0, Fw.w_unC0, Fw.w_isE, Fw.w_tabN, Fw.w_goN, Fw.w_goC, Fw.w_turn, Fw.v_lenli, Fw.v_ixli, Fw.v_lenT, Fw.v_addT, Fw.v_eqT, Fw.v_neT, Fw.v_eqI, Fw.v_neI, Fw.v_strN, Fw.v_strS, Fw.v_ord, Fw.v_appC, Fw.v_pow18, Fw.v_ixT, Fw.v_lst, Fw.v_tup, Fw.v_cel, Fw.v_appT, Fw.v_appL, Fw.v_rng1, Fw.v_enT, Fw.v_iT, Fw.v_iL, Fw.v_iTp, Fw.v_cutLTo, Fw.v_cutLFrom, Fw.v_wipe0, Fw.v_wipe1, Fw.w_te, Fw.v_cutTo, Fw.v_cutFrom, Fw.v_cutLast, Fw.v_splT, Fw.v_rsplT, Fw.v_rfindT, Fw.v_endsT, Fw.v_inT, Fw.v_notInT, Fw.v_joinT, Fw.v_tab, Fw.w_tabL, Fw.w_tabR, Fw.v_lstT, Fw.v_lstL, Fw.v_tupT, Fw.v_tupL, Fw.v_isBt, Fw.v_isBf, Fw.v_isBi, Fw.v_isBs, Fw.v_ixL0, Fw.v_ixL1, Fw.v_isTs, Fw.v_isTsI, Fw.v_isTsB, Fw.v_allB, Fw.v_all0, Fw.v_all1, Fw.v_all2, Fw.v_all3, Fw.v_all4, Fw.v_all5, Fw.v_all6, Fw.v_all7, Fw.v_all8, Fw.v_appT2, Fw.v_lz, Fw.v_castN, Fw.v_zpN, Fw.v_zpN2, Fw.v_zpC, Fw.v_intT, Fw.v_in2, Fw.v_lcNil, Fw.v_lcCons, Fw.w_lcT, Fw.w_lcCt, Fw.w_lcCf, Fw.w_lcE, Fw.v_yes, Fw.v_finF, Fw.v_loopNil, Fw.v_loopCons, Fw.w_restN, Fw.w_restC, Fw.w_restB, Fw.w_restR, Fw.o_lt, Fw.o_le, Fw.o_gt, Fw.o_ge, Fw.o_addI, Fw.o_sub, Fw.o_neg, Fw.o_mul, Fw.o_mod, Fw.o_div, Fw.f_intI, Fw.f_intB, Fw.f_max, Fw.f_min, Fw.f_lenL, Fw.f_lenT, decide_true, decide_false, Bool.not_true, Bool.not_false, List.map_cons, List.map_nil, List.set_cons_zero, List.set_cons_succ, List.drop_succ_cons, List.drop_zero, List.take_succ_cons, List.take_zero, List.replicate_succ, List.replicate_zero, List.cons_append, List.nil_append, List.append_nil, ne_eq, not_false_eq_true, not_true_eq_false, and_self, eq_self, and_true, and_false, false_and, true_and, reduceIte, if_true, if_false, reduceCtorEq, List.length_cons, List.length_nil, List.length_map, Fw.snoc_at, Fw.snoc_set, Fw.tyL_snoc, decide_eq_true_eq, Bool.and_true, Bool.true_and, Bool.and_false, Bool.false_and, Nat.reduceSub, Nat.reduceAdd, Int.reduceAdd, Int.reduceSub, Int.reduceMul, Int.reduceNeg, Int.reduceLT, Int.reduceLE, Int.reduceEq, Int.reduceMod, Int.reduceDiv, Int.reduceToNat, Nat.reduceEqDiff, b__law_size, v_pow12, h, v_isI, v_isIb, v_isB, v_isBb, f1, f2, f3, f4, ti0, Int.toNat_natCast, ixk2, ixk3, ixk4, ixk5, ixk6, ixk7, ixk8, ixk9, ixk10, ixk11, ixk12, ixk13, ixk14, ixk15, ixk16]
  · have lo3 : lo = 2 ∨ lo = 3 := by omega
    refine ⟨.lst [], false, fin _ _ ?_, sz_other (.list []) (fun _ => rfl) (fun _ => rfl) ⟨by decide +kernel, by decide +kernel, by decide +kernel⟩⟩
    simp -implicitDefEqProofs (disch := (first | exact Fw.tyL_snoc _ | omega | assumption | ((try simp only [List.length_append, List.length_cons, List.length_nil, List.length_map, List.length_take, List.length_drop, List.length_range, List.length_replicate, Fw.tyL_snoc]); first | done | omega))) only [Fw.v_c, Fw.v_bin, Fw.v_un, Fw.v_and, Fw.v_or, Fw.v_not, Fw.v_ife, Fw.v_args, Fw.v_nil, Fw.v_cons, Fw.v_bm, Fw.v_frz, Fw.v_chain, Fw.v_slLU, Fw.v_slL, Fw.v_slU, Fw.v_lc, Fw.v_seq, Fw.v_snil, Fw.v_ret, Fw.v_retN, Fw.v_brk, Fw.v_cnt, Fw.v_do, Fw.v_asg, Fw.v_if, Fw.v_for, Fw.v_srcOf, Fw.v_srcA, Fw.v_fn, Fw.w_binL, Fw.w_binR, Fw.w_un, Fw.w_andT, Fw.w_andF, Fw.w_orT, Fw.w_orF, Fw.w_not, Fw.w_ifT, Fw.w_ifF, Fw.w_arg, Fw.w_consL, Fw.w_consR, Fw.w_bmA, Fw.w_bmS, Fw.w_bm, Fw.w_frz, Fw.w_ch0, Fw.w_ch1, Fw.w_ch2T, Fw.w_ch2F, Fw.w_sl1, Fw.w_sl2, Fw.w_sl3, Fw.w_slL1, Fw.w_slL2, Fw.w_slU1, Fw.w_slU2, Fw.w_seq, Fw.w_seqR, Fw.w_seqB, Fw.w_seqC, Fw.w_seqE, Fw.w_ret, Fw.w_do, Fw.w_asg, Fw.w_tg, Fw.w_sifT, Fw.w_sifF, Fw.w_gs, Fw.w_gsnil, Fw.w_gscons, Fw.w_for, Fw.w_src, Fw.w_srcA, Fw.w_src2, Fw.w_lc, Fw.w_endN, Fw.w_endR, Fw.w_endE, Fw.e_binL, Fw.e_binR, Fw.e_un, Fw.e_and, Fw.e_or, Fw.e_not, Fw.e_ife, Fw.e_arg, Fw.e_consL, Fw.e_consR, Fw.e_bmA, Fw.e_bm, Fw.e_ret, Fw.e_do, Fw.e_asg, Fw.e_if, Fw.e_for, Fw.e_src, Fw.e_srcA, Fw.v_x0, Fw.v_s0, Fw.v_x1, Fw.v_s1, Fw.v_x2, Fw.v_s2, Fw.v_x3, Fw.v_s3, Fw.v_x4, Fw.v_s4, Fw.v_x5, Fw.v_s5, Fw.v_x6, Fw.v_s6, Fw.v_x7, Fw.v_s7, Fw.v_x8, Fw.v_s8, Fw.v_x9, Fw.v_s9, Fw.v_x10, Fw.v_s10, Fw.v_x11, Fw.v_s11, Fw.v_x12, Fw.v_s12, Fw.v_x13, Fw.v_s13, Fw.v_x14, Fw.v_s14, Fw.v_x15, Fw.v_s15, Fw.v_x16, Fw.v_s16, Fw.v_x17, Fw.v_s17, Fw.v_x18, Fw.v_s18, Fw.v_x19, Fw.v_s19, Fw.v_x20, Fw.v_s20, Fw.v_x21, Fw.v_s21, Fw.v_x22, Fw.v_s22, Fw.v_x23, Fw.v_s23, Fw.v_x24, Fw.v_s24, Fw.v_x25, Fw.v_s25, Fw.v_unp1, Fw.v_unpL1, Fw.v_unp2, Fw.v_unpL2, Fw.v_unp3, Fw.v_unpL3, Fw.v_unp4, Fw.v_unpL4, Fw.v_unp5, Fw.v_unpL5, Fw.v_unp6, Fw.v_unpL6, Fw.v_unp7, Fw.v_unpL7, Fw.v_unp8, Fw.v_unpL8, Fw.v_addC, Fw.v_dic, Fw.v_zipL, Fw.v_addCS, Fw.v_strBB, Fw.v_strBN, Fw.v_strBS, Fw.v_joinC, Fw.v_fld, Fw.w_fld, Fw.v_sfld, Fw.w_sfld1, Fw.w_sfld2, Fw.v_meth, Fw.w_meth, Fw.w_argD, Fw.v_make, Fw.w_make, Fw.w_madeN, Fw.w_madeE, Fw.e_doE, Fw.w_setAt, Fw.v_raise, Fw.v_tryAs, Fw.v_tryMany, Fw.w_tryN, Fw.w_tryR, Fw.w_tryC, Fw.w_tryE, Fw.w_trmN, Fw.w_trmR, Fw.w_trmC, Fw.w_trmE, Fw.w_hdY, Fw.w_hdN, Fw.w_all, Fw.w_unN, Fw.w_unC, Fw.w_unR, Fw.w_unN0, Fw.w_unC0, Fw.w_isE, Fw.w_tabN, Fw.w_goN, Fw.w_goC, Fw.w_turn, Fw.v_lenli, Fw.v_ixli, Fw.v_lenT, Fw.v_addT, Fw.v_eqT, Fw.v_neT, Fw.v_eqI, Fw.v_neI, Fw.v_strN, Fw.v_strS, Fw.v_ord, Fw.v_appC, Fw.v_pow18, Fw.v_ixT, Fw.v_lst, Fw.v_tup, Fw.v_cel, Fw.v_appT, Fw.v_appL, Fw.v_rng1, Fw.v_enT, Fw.v_iT, Fw.v_iL, Fw.v_iTp, Fw.v_cutLTo, Fw.v_cutLFrom, Fw.v_wipe0, Fw.v_wipe1, Fw.w_te, Fw.v_cutTo, Fw.v_cutFrom, Fw.v_cutLast, Fw.v_splT, Fw.v_rsplT, Fw.v_rfindT, Fw.v_endsT, Fw.v_inT, Fw.v_notInT, Fw.v_joinT, Fw.v_tab, Fw.w_tabL, Fw.w_tabR, Fw.v_lstT, Fw.v_lstL, Fw.v_tupT, Fw.v_tupL, Fw.v_isBt, Fw.v_isBf, Fw.v_isBi, Fw.v_isBs, Fw.v_ixL0, Fw.v_ixL1, Fw.v_isTs, Fw.v_isTsI, Fw.v_isTsB, Fw.v_allB, Fw.v_all0, Fw.v_all1, Fw.v_all2, Fw.v_all3, Fw.v_all4, Fw.v_all5, Fw.v_all6, Fw.v_all7, Fw.v_all8, Fw.v_appT2, Fw.v_lz, Fw.v_castN, Fw.v_zpN, Fw.v_zpN2, Fw.v_zpC, Fw.v_intT, Fw.v_in2, Fw.v_lcNil, Fw.v_lcCons, Fw.w_lcT, Fw.w_lcCt, Fw.w_lcCf, Fw.w_lcE, Fw.v_yes, Fw.v_finF, Fw.v_loopNil, Fw.v_loopCons, Fw.w_restN, Fw.w_restC, Fw.w_restB, Fw.w_restR, Fw.o_lt, Fw.o_le, Fw.o_gt, Fw.o_ge, Fw.o_addI, Fw.o_sub, Fw.o_neg, Fw.o_mul, Fw.o_mod, Fw.o_div, Fw.f_intI, Fw.f_intB, Fw.f_max, Fw.f_min, Fw.f_lenL, Fw.f_lenT, decide_true, decide_false, Bool.not_true, Bool.not_false, List.map_cons, List.map_nil, List.set_cons_zero, List.set_cons_succ, List.drop_succ_cons, List.drop_zero, List.take_succ_cons, List.take_zero, List.replicate_succ, List.replicate_zero, List.cons_append, List.nil_append, List.append_nil, ne_eq, not_false_eq_true, not_true_eq_false, and_self, eq_self, and_true, and_false, false_and, true_and, reduceIte, if_true, if_false, reduceCtorEq, List.length_cons, List.length_nil, List.length_map, Fw.snoc_at, Fw.snoc_set, Fw.tyL_snoc, decide_eq_true_eq, Bool.and_true, Bool.true_and, Bool.and_false, Bool.false_and, Nat.reduceSub, Nat.reduceAdd, Int.reduceAdd, Int.reduceSub, Int.reduceMul, Int.reduceNeg, Int.reduceLT, Int.reduceLE, Int.reduceEq, Int.reduceMod, Int.reduceDiv, Int.reduceToNat, Nat.reduceEqDiff, b__law_size, v_pow12, h, v_isI, v_isIb, v_isB, v_isBb, f1, f2, f3, f4, ti0, Int.toNat_natCast, ixk2, ixk3, ixk4, ixk5, ixk6, ixk7, ixk8, ixk9, ixk10, ixk11, ixk12, ixk13, ixk14, ixk15, ixk16]
  · have lo3 : lo = 2 ∨ lo = 3 := by omega
    refine ⟨.tup [.int lo, .int hi], false, fin _ _ ?_, sz_other (.tuple [.int lo, .int hi]) (fun _ => rfl) (fun _ => rfl) (two_ok hl hh)⟩
    simp -implicitDefEqProofs (disch := (first | exact Fw.tyL_snoc _ | omega | assumption | ((try simp only [List.length_append, List.length_cons, List.length_nil, List.length_map, List.length_take, List.length_drop, List.length_range, List.length_replicate, Fw.tyL_snoc]); first | done | omega))) only [Fw.v_c, Fw.v_bin, Fw.v_un, Fw.v_and, Fw.v_or, Fw.v_not, Fw.v_ife, Fw.v_args, Fw.v_nil, Fw.v_cons, Fw.v_bm, Fw.v_frz, Fw.v_chain, Fw.v_slLU, Fw.v_slL, Fw.v_slU, Fw.v_lc, Fw.v_seq, Fw.v_snil, Fw.v_ret, Fw.v_retN, Fw.v_brk, Fw.v_cnt, Fw.v_do, Fw.v_asg, Fw.v_if, Fw.v_for, Fw.v_srcOf, Fw.v_srcA, Fw.v_fn, Fw.w_binL, Fw.w_binR, Fw.w_un, Fw.w_andT, Fw.w_andF, Fw.w_orT, Fw.w_orF, Fw.w_not, Fw.w_ifT, Fw.w_ifF, Fw.w_arg, Fw.w_consL, Fw.w_consR, Fw.w_bmA, Fw.w_bmS, Fw.w_bm, Fw.w_frz, Fw.w_ch0, Fw.w_ch1, Fw.w_ch2T, Fw.w_ch2F, Fw.w_sl1, Fw.w_sl2, Fw.w_sl3, Fw.w_slL1, Fw.w_slL2, Fw.w_slU1, Fw.w_slU2, Fw.w_seq, Fw.w_seqR, Fw.w_seqB, Fw.w_seqC, Fw.w_seqE, Fw.w_ret, Fw.w_do, Fw.w_asg, Fw.w_tg, Fw.w_sifT, Fw.w_sifF, Fw.w_gs, Fw.w_gsnil, Fw.w_gscons, Fw.w_for, Fw.w_src, Fw.w_srcA, Fw.w_src2, Fw.w_lc, Fw.w_endN, Fw.w_endR, Fw.w_endE, Fw.e_binL, Fw.e_binR, Fw.e_un, Fw.e_and, Fw.e_or, Fw.e_not, Fw.e_ife, Fw.e_arg, Fw.e_consL, Fw.e_consR, Fw.e_bmA, Fw.e_bm, Fw.e_ret, Fw.e_do, Fw.e_asg, Fw.e_if, Fw.e_for, Fw.e_src, Fw.e_srcA, Fw.v_x0, Fw.v_s0, Fw.v_x1, Fw.v_s1, Fw.v_x2, Fw.v_s2, Fw.v_x3, Fw.v_s3, Fw.v_x4, Fw.v_s4, Fw.v_x5, Fw.v_s5, Fw.v_x6, Fw.v_s6, Fw.v_x7, Fw.v_s7, Fw.v_x8, Fw.v_s8, Fw.v_x9, Fw.v_s9, Fw.v_x10, Fw.v_s10, Fw.v_x11, Fw.v_s11, Fw.v_x12, Fw.v_s12, Fw.v_x13, Fw.v_s13, Fw.v_x14, Fw.v_s14, Fw.v_x15, Fw.v_s15, Fw.v_x16, Fw.v_s16, Fw.v_x17, Fw.v_s17, Fw.v_x18, Fw.v_s18, Fw.v_x19, Fw.v_s19, Fw.v_x20, Fw.v_s20, Fw.v_x21, Fw.v_s21, Fw.v_x22, Fw.v_s22, Fw.v_x23, Fw.v_s23, Fw.v_x24, Fw.v_s24, Fw.v_x25, Fw.v_s25, Fw.v_unp1, Fw.v_unpL1, Fw.v_unp2, Fw.v_unpL2, Fw.v_unp3, Fw.v_unpL3, Fw.v_unp4, Fw.v_unpL4, Fw.v_unp5, Fw.v_unpL5, Fw.v_unp6, Fw.v_unpL6, Fw.v_unp7, Fw.v_unpL7, Fw.v_unp8, Fw.v_unpL8, Fw.v_addC, Fw.v_dic, Fw.v_zipL, Fw.v_addCS, Fw.v_strBB, Fw.v_strBN, Fw.v_strBS, Fw.v_joinC, Fw.v_fld, Fw.w_fld, Fw.v_sfld, Fw.w_sfld1, Fw.w_sfld2, Fw.v_meth, Fw.w_meth, Fw.w_argD, Fw.v_make, Fw.w_make, Fw.w_madeN, Fw.w_madeE, Fw.e_doE, Fw.w_setAt, Fw.v_raise, Fw.v_tryAs, Fw.v_tryMany, Fw.w_tryN, Fw.w_tryR, Fw.w_tryC, Fw.w_tryE, Fw.w_trmN, Fw.w_trmR, Fw.w_trmC, Fw.w_trmE, Fw.w_hdY, Fw.w_hdN, Fw.w_all, Fw.w_unN, Fw.w_unC, Fw.w_unR, Fw.w_unN0, Fw.w_unC0, Fw.w_isE, Fw.w_tabN, Fw.w_goN, Fw.w_goC, Fw.w_turn, Fw.v_lenli, Fw.v_ixli, Fw.v_lenT, Fw.v_addT, Fw.v_eqT, Fw.v_neT, Fw.v_eqI, Fw.v_neI, Fw.v_strN, Fw.v_strS, Fw.v_ord, Fw.v_appC, Fw.v_pow18, Fw.v_ixT, Fw.v_lst, Fw.v_tup, Fw.v_cel, Fw.v_appT, Fw.v_appL, Fw.v_rng1, Fw.v_enT, Fw.v_iT, Fw.v_iL, Fw.v_iTp, Fw.v_cutLTo, Fw.v_cutLFrom, Fw.v_wipe0, Fw.v_wipe1, Fw.w_te, Fw.v_cutTo, Fw.v_cutFrom, Fw.v_cutLast, Fw.v_splT, Fw.v_rsplT, Fw.v_rfindT, Fw.v_endsT, Fw.v_inT, Fw.v_notInT, Fw.v_joinT, Fw.v_tab, Fw.w_tabL, Fw.w_tabR, Fw.v_lstT, Fw.v_lstL, Fw.v_tupT, Fw.v_tupL, Fw.v_isBt, Fw.v_isBf, Fw.v_isBi, Fw.v_isBs, Fw.v_ixL0, Fw.v_ixL1, Fw.v_isTs, Fw.v_isTsI, Fw.v_isTsB, Fw.v_allB, Fw.v_all0, Fw.v_all1, Fw.v_all2, Fw.v_all3, Fw.v_all4, Fw.v_all5, Fw.v_all6, Fw.v_all7, Fw.v_all8, Fw.v_appT2, Fw.v_lz, Fw.v_castN, Fw.v_zpN, Fw.v_zpN2, Fw.v_zpC, Fw.v_intT, Fw.v_in2, Fw.v_lcNil, Fw.v_lcCons, Fw.w_lcT, Fw.w_lcCt, Fw.w_lcCf, Fw.w_lcE, Fw.v_yes, Fw.v_finF, Fw.v_loopNil, Fw.v_loopCons, Fw.w_restN, Fw.w_restC, Fw.w_restB, Fw.w_restR, Fw.o_lt, Fw.o_le, Fw.o_gt, Fw.o_ge, Fw.o_addI, Fw.o_sub, Fw.o_neg, Fw.o_mul, Fw.o_mod, Fw.o_div, Fw.f_intI, Fw.f_intB, Fw.f_max, Fw.f_min, Fw.f_lenL, Fw.f_lenT, decide_true, decide_false, Bool.not_true, Bool.not_false, List.map_cons, List.map_nil, List.set_cons_zero, List.set_cons_succ, List.drop_succ_cons, List.drop_zero, List.take_succ_cons, List.take_zero, List.replicate_succ, List.replicate_zero, List.cons_append, List.nil_append, List.append_nil, ne_eq, not_false_eq_true, not_true_eq_false, and_self, eq_self, and_true, and_false, false_and, true_and, reduceIte, if_true, if_false, reduceCtorEq, List.length_cons, List.length_nil, List.length_map, Fw.snoc_at, Fw.snoc_set, Fw.tyL_snoc, decide_eq_true_eq, Bool.and_true, Bool.true_and, Bool.and_false, Bool.false_and, Nat.reduceSub, Nat.reduceAdd, Int.reduceAdd, Int.reduceSub, Int.reduceMul, Int.reduceNeg, Int.reduceLT, Int.reduceLE, Int.reduceEq, Int.reduceMod, Int.reduceDiv, Int.reduceToNat, Nat.reduceEqDiff, b__law_size, v_pow12, h, v_isI, v_isIb, v_isB, v_isBb, f1, f2, f3, f4, ti0, Int.toNat_natCast, ixk2, ixk3, ixk4, ixk5, ixk6, ixk7, ixk8, ixk9, ixk10, ixk11, ixk12, ixk13, ixk14, ixk15, ixk16]
  · refine ⟨.int ((lo : Int) + d / 24 % ((hi : Int) - lo + 1)), true, fin _ _ ?_, sz_int ?_ ?_⟩
    · have n0 : ¬ (d % 24 < 17) := by omega
      simp -implicitDefEqProofs (disch := (first | exact Fw.tyL_snoc _ | omega | assumption | ((try simp only [List.length_append, List.length_cons, List.length_nil, List.length_map, List.length_take, List.length_drop, List.length_range, List.length_replicate, Fw.tyL_snoc]); first | done | omega))) only [Fw.v_c, Fw.v_bin, Fw.v_un, Fw.v_and, Fw.v_or, Fw.v_not, Fw.v_ife, Fw.v_args, Fw.v_nil, Fw.v_cons, Fw.v_bm, Fw.v_frz, Fw.v_chain, Fw.v_slLU, Fw.v_slL, Fw.v_slU, Fw.v_lc, Fw.v_seq, Fw.v_snil, Fw.v_ret, Fw.v_retN, Fw.v_brk, Fw.v_cnt, Fw.v_do, Fw.v_asg, Fw.v_if, Fw.v_for, Fw.v_srcOf, Fw.v_srcA, Fw.v_fn, Fw.w_binL, Fw.w_binR, Fw.w_un, Fw.w_andT, Fw.w_andF, Fw.w_orT, Fw.w_orF, Fw.w_not, Fw.w_ifT, Fw.w_ifF, Fw.w_arg, Fw.w_consL, Fw.w_consR, Fw.w_bmA, Fw.w_bmS, Fw.w_bm, Fw.w_frz, Fw.w_ch0, Fw.w_ch1, Fw.w_ch2T, Fw.w_ch2F, Fw.w_sl1, Fw.w_sl2, Fw.w_sl3, Fw.w_slL1, Fw.w_slL2, Fw.w_slU1, Fw.w_slU2, Fw.w_seq, Fw.w_seqR, Fw.w_seqB, Fw.w_seqC, Fw.w_seqE, Fw.w_ret, Fw.w_do, Fw.w_asg, Fw.w_tg, Fw.w_sifT, Fw.w_sifF, Fw.w_gs, Fw.w_gsnil, Fw.w_gscons, Fw.w_for, Fw.w_src, Fw.w_srcA, Fw.w_src2, Fw.w_lc, Fw.w_endN, Fw.w_endR, Fw.w_endE, Fw.e_binL, Fw.e_binR, Fw.e_un, Fw.e_and, Fw.e_or, Fw.e_not, Fw.e_ife, Fw.e_arg, Fw.e_consL, Fw.e_consR, Fw.e_bmA, Fw.e_bm, Fw.e_ret, Fw.e_do, Fw.e_asg, Fw.e_if, Fw.e_for, Fw.e_src, Fw.e_srcA, Fw.v_x0, Fw.v_s0, Fw.v_x1, Fw.v_s1, Fw.v_x2, Fw.v_s2, Fw.v_x3, Fw.v_s3, Fw.v_x4, Fw.v_s4, Fw.v_x5, Fw.v_s5, Fw.v_x6, Fw.v_s6, Fw.v_x7, Fw.v_s7, Fw.v_x8, Fw.v_s8, Fw.v_x9, Fw.v_s9, Fw.v_x10, Fw.v_s10, Fw.v_x11, Fw.v_s11, Fw.v_x12, Fw.v_s12, Fw.v_x13, Fw.v_s13, Fw.v_x14, Fw.v_s14, Fw.v_x15, Fw.v_s15, Fw.v_x16, Fw.v_s16, Fw.v_x17, Fw.v_s17, Fw.v_x18, Fw.v_s18, Fw.v_x19, Fw.v_s19, Fw.v_x20, Fw.v_s20, Fw.v_x21, Fw.v_s21, Fw.v_x22, Fw.v_s22, Fw.v_x23, Fw.v_s23, Fw.v_x24, Fw.v_s24, Fw.v_x25, Fw.v_s25, Fw.v_unp1, Fw.v_unpL1, Fw.v_unp2, Fw.v_unpL2, Fw.v_unp3, Fw.v_unpL3, Fw.v_unp4, Fw.v_unpL4, Fw.v_unp5, Fw.v_unpL5, Fw.v_unp6, Fw.v_unpL6, Fw.v_unp7, Fw.v_unpL7, Fw.v_unp8, Fw.v_unpL8, Fw.v_addC, Fw.v_dic, Fw.v_zipL, Fw.v_addCS, Fw.v_strBB, Fw.v_strBN, Fw.v_strBS, Fw.v_joinC, Fw.v_fld, Fw.w_fld, Fw.v_sfld, Fw.w_sfld1, Fw.w_sfld2, Fw.v_meth, Fw.w_meth, Fw.w_argD, Fw.v_make, Fw.w_make, Fw.w_madeN, Fw.w_madeE, Fw.e_doE, Fw.w_setAt, Fw.v_raise, Fw.v_tryAs, Fw.v_tryMany, Fw.w_tryN, Fw.w_tryR, Fw.w_tryC, Fw.w_tryE, Fw.w_trmN, Fw.w_trmR, Fw.w_trmC, Fw.w_trmE, Fw.w_hdY, Fw.w_hdN, Fw.w_all, Fw.w_unN, Fw.w_unC, Fw.w_unR, Fw.w_unN0, Fw.w_unC0, Fw.w_isE, Fw.w_tabN, Fw.w_goN, Fw.w_goC, Fw.w_turn, Fw.v_lenli, Fw.v_ixli, Fw.v_lenT, Fw.v_addT, Fw.v_eqT, Fw.v_neT, Fw.v_eqI, Fw.v_neI, Fw.v_strN, Fw.v_strS, Fw.v_ord, Fw.v_appC, Fw.v_pow18, Fw.v_ixT, Fw.v_lst, Fw.v_tup, Fw.v_cel, Fw.v_appT, Fw.v_appL, Fw.v_rng1, Fw.v_enT, Fw.v_iT, Fw.v_iL, Fw.v_iTp, Fw.v_cutLTo, Fw.v_cutLFrom, Fw.v_wipe0, Fw.v_wipe1, Fw.w_te, Fw.v_cutTo, Fw.v_cutFrom, Fw.v_cutLast, Fw.v_splT, Fw.v_rsplT, Fw.v_rfindT, Fw.v_endsT, Fw.v_inT, Fw.v_notInT, Fw.v_joinT, Fw.v_tab, Fw.w_tabL, Fw.w_tabR, Fw.v_lstT, Fw.v_lstL, Fw.v_tupT, Fw.v_tupL, Fw.v_isBt, Fw.v_isBf, Fw.v_isBi, Fw.v_isBs, Fw.v_ixL0, Fw.v_ixL1, Fw.v_isTs, Fw.v_isTsI, Fw.v_isTsB, Fw.v_allB, Fw.v_all0, Fw.v_all1, Fw.v_all2, Fw.v_all3, Fw.v_all4, Fw.v_all5, Fw.v_all6, Fw.v_all7, Fw.v_all8, Fw.v_appT2, Fw.v_lz, Fw.v_castN, Fw.v_zpN, Fw.v_zpN2, Fw.v_zpC, Fw.v_intT, Fw.v_in2, Fw.v_lcNil, Fw.v_lcCons, Fw.w_lcT, Fw.w_lcCt, Fw.w_lcCf, Fw.w_lcE, Fw.v_yes, Fw.v_finF, Fw.v_loopNil, Fw.v_loopCons, Fw.w_restN, Fw.w_restC, Fw.w_restB, Fw.w_restR, Fw.o_lt, Fw.o_le, Fw.o_gt, Fw.o_ge, Fw.o_addI, Fw.o_sub, Fw.o_neg, Fw.o_mul, Fw.o_mod, Fw.o_div, Fw.f_intI, Fw.f_intB, Fw.f_max, Fw.f_min, Fw.f_lenL, Fw.f_lenT, decide_true, decide_false, Bool.not_true, Bool.not_false, List.map_cons, List.map_nil, List.set_cons_zero, List.set_cons_succ, List.drop_succ_cons, List.drop_zero, List.take_succ_cons, List.take_zero, List.replicate_succ, List.replicate_zero, List.cons_append, List.nil_append, List.append_nil, ne_eq, not_false_eq_true, not_true_eq_false, and_self, eq_self, and_true, and_false, false_and, true_and, reduceIte, if_true, if_false, reduceCtorEq, List.length_cons, List.length_nil, List.length_map, Fw.snoc_at, Fw.snoc_set, Fw.tyL_snoc, decide_eq_true_eq, Bool.and_true, Bool.true_and, Bool.and_false, Bool.false_and, Nat.reduceSub, Nat.reduceAdd, Int.reduceAdd, Int.reduceSub, Int.reduceMul, Int.reduceNeg, Int.reduceLT, Int.reduceLE, Int.reduceEq, Int.reduceMod, Int.reduceDiv, Int.reduceToNat, Nat.reduceEqDiff, b__law_size, v_pow12, h, v_isI, v_isIb, v_isB, v_isBb, f1, f2, f3, f4, ti0, Int.toNat_natCast, ixk2, ixk3, ixk4, ixk5, ixk6, ixk7, ixk8, ixk9, ixk10, ixk11, ixk12, ixk13, ixk14, ixk15, ixk16, n0]
    · have := Int.emod_nonneg (d / 24) (show (hi : Int) - lo + 1 ≠ 0 by omega)
      have := Int.emod_lt_of_pos (d / 24) (show 0 < (hi : Int) - lo + 1 by omega)
      rw [decide_eq_true (by omega)]
    · have := Int.emod_nonneg (d / 24) (show (hi : Int) - lo + 1 ≠ 0 by omega)
      have := Int.emod_lt_of_pos (d / 24) (show 0 < (hi : Int) - lo + 1 by omega)
      omega
end Ww

set_option maxRecDepth 100000
set_option maxHeartbeats 4000000
namespace Ww
open PySem PySem.Spec PyProof.Rows Fw
theorem init_bad1 (v1 v2 : D) (G : Gr) (h : m_is_size [v1, .int 3, .int 16] G = .ok (.bl false) G) (d : D) : m_Disk___init__ [d, v1, v2] G = .err "NoDisk" G := by
  refine fn_err rfl ⟨?_, ?_⟩
  rotate_left
  simp -implicitDefEqProofs (disch := (first | exact Fw.tyL_snoc _ | omega | assumption | ((try simp only [List.length_append, List.length_cons, List.length_nil, List.length_map, List.length_take, List.length_drop, List.length_range, List.length_replicate, Fw.tyL_snoc]); first | done | omega))) only [Fw.v_c, Fw.v_bin, Fw.v_un, Fw.v_and, Fw.v_or, Fw.v_not, Fw.v_ife, Fw.v_args, Fw.v_nil, Fw.v_cons, Fw.v_bm, Fw.v_frz, Fw.v_chain, Fw.v_slLU, Fw.v_slL, Fw.v_slU, Fw.v_lc, Fw.v_seq, Fw.v_snil, Fw.v_ret, Fw.v_retN, Fw.v_brk, Fw.v_cnt, Fw.v_do, Fw.v_asg, Fw.v_if, Fw.v_for, Fw.v_srcOf, Fw.v_srcA, Fw.v_fn, Fw.w_binL, Fw.w_binR, Fw.w_un, Fw.w_andT, Fw.w_andF, Fw.w_orT, Fw.w_orF, Fw.w_not, Fw.w_ifT, Fw.w_ifF, Fw.w_arg, Fw.w_consL, Fw.w_consR, Fw.w_bmA, Fw.w_bmS, Fw.w_bm, Fw.w_frz, Fw.w_ch0, Fw.w_ch1, Fw.w_ch2T, Fw.w_ch2F, Fw.w_sl1, Fw.w_sl2, Fw.w_sl3, Fw.w_slL1, Fw.w_slL2, Fw.w_slU1, Fw.w_slU2, Fw.w_seq, Fw.w_seqR, Fw.w_seqB, Fw.w_seqC, Fw.w_seqE, Fw.w_ret, Fw.w_do, Fw.w_asg, Fw.w_tg, Fw.w_sifT, Fw.w_sifF, Fw.w_gs, Fw.w_gsnil, Fw.w_gscons, Fw.w_for, Fw.w_src, Fw.w_srcA, Fw.w_src2, Fw.w_lc, Fw.w_endN, Fw.w_endR, Fw.w_endE, Fw.e_binL, Fw.e_binR, Fw.e_un, Fw.e_and, Fw.e_or, Fw.e_not, Fw.e_ife, Fw.e_arg, Fw.e_consL, Fw.e_consR, Fw.e_bmA, Fw.e_bm, Fw.e_ret, Fw.e_do, Fw.e_asg, Fw.e_if, Fw.e_for, Fw.e_src, Fw.e_srcA, Fw.v_x0, Fw.v_s0, Fw.v_x1, Fw.v_s1, Fw.v_x2, Fw.v_s2, Fw.v_x3, Fw.v_s3, Fw.v_x4, Fw.v_s4, Fw.v_x5, Fw.v_s5, Fw.v_x6, Fw.v_s6, Fw.v_x7, Fw.v_s7, Fw.v_x8, Fw.v_s8, Fw.v_x9, Fw.v_s9, Fw.v_x10, Fw.v_s10, Fw.v_x11, Fw.v_s11, Fw.v_x12, Fw.v_s12, Fw.v_x13, Fw.v_s13, Fw.v_x14, Fw.v_s14, Fw.v_x15, Fw.v_s15, Fw.v_x16, Fw.v_s16, Fw.v_x17, Fw.v_s17, Fw.v_x18, Fw.v_s18, Fw.v_x19, Fw.v_s19, Fw.v_x20, Fw.v_s20, Fw.v_x21, Fw.v_s21, Fw.v_x22, Fw.v_s22, Fw.v_x23, Fw.v_s23, Fw.v_x24, Fw.v_s24, Fw.v_x25, Fw.v_s25, Fw.v_unp1, Fw.v_unpL1, Fw.v_unp2, Fw.v_unpL2, Fw.v_unp3, Fw.v_unpL3, Fw.v_unp4, Fw.v_unpL4, Fw.v_unp5, Fw.v_unpL5, Fw.v_unp6, Fw.v_unpL6, Fw.v_unp7, Fw.v_unpL7, Fw.v_unp8, Fw.v_unpL8, Fw.v_addC, Fw.v_dic, Fw.v_zipL, Fw.v_addCS, Fw.v_strBB, Fw.v_strBN, Fw.v_strBS, Fw.v_joinC, Fw.v_fld, Fw.w_fld, Fw.v_sfld, Fw.w_sfld1, Fw.w_sfld2, Fw.v_meth, Fw.w_meth, Fw.w_argD, Fw.v_make, Fw.w_make, Fw.w_madeN, Fw.w_madeE, Fw.e_doE, Fw.w_setAt, Fw.v_raise, Fw.v_tryAs, Fw.v_tryMany, Fw.w_tryN, Fw.w_tryR, Fw.w_tryC, Fw.w_tryE, Fw.w_trmN, Fw.w_trmR, Fw.w_trmC, Fw.w_trmE, Fw.w_hdY, Fw.w_hdN, Fw.w_all, Fw.w_unN, Fw.w_unC, Fw.w_unR, Fw.w_unN0, Fw.w_unC0, Fw.w_isE, Fw.w_tabN, Fw.w_goN, Fw.w_goC, Fw.w_turn, Fw.v_lenli, Fw.v_ixli, Fw.v_lenT, Fw.v_addT, Fw.v_eqT, Fw.v_neT, Fw.v_eqI, Fw.v_neI, Fw.v_strN, Fw.v_strS, Fw.v_ord, Fw.v_appC, Fw.v_pow18, Fw.v_ixT, Fw.v_lst, Fw.v_tup, Fw.v_cel, Fw.v_appT, Fw.v_appL, Fw.v_rng1, Fw.v_enT, Fw.v_iT, Fw.v_iL, Fw.v_iTp, Fw.v_cutLTo, Fw.v_cutLFrom, Fw.v_wipe0, Fw.v_wipe1, Fw.w_te, Fw.v_cutTo, Fw.v_cutFrom, Fw.v_cutLast, Fw.v_splT, Fw.v_rsplT, Fw.v_rfindT, Fw.v_endsT, Fw.v_inT, Fw.v_notInT, Fw.v_joinT, Fw.v_tab, Fw.w_tabL, Fw.w_tabR, Fw.v_lstT, Fw.v_lstL, Fw.v_tupT, Fw.v_tupL, Fw.v_isBt, Fw.v_isBf, Fw.v_isBi, Fw.v_isBs, Fw.v_ixL0, Fw.v_ixL1, Fw.v_isTs, Fw.v_isTsI, Fw.v_isTsB, Fw.v_allB, Fw.v_all0, Fw.v_all1, Fw.v_all2, Fw.v_all3, Fw.v_all4, Fw.v_all5, Fw.v_all6, Fw.v_all7, Fw.v_all8, Fw.v_appT2, Fw.v_lz, Fw.v_castN, Fw.v_zpN, Fw.v_zpN2, Fw.v_zpC, Fw.v_intT, Fw.v_in2, Fw.v_lcNil, Fw.v_lcCons, Fw.w_lcT, Fw.w_lcCt, Fw.w_lcCf, Fw.w_lcE, Fw.v_yes, Fw.v_finF, Fw.v_loopNil, Fw.v_loopCons, Fw.w_restN, Fw.w_restC, Fw.w_restB, Fw.w_restR, Fw.o_lt, Fw.o_le, Fw.o_gt, Fw.o_ge, Fw.o_addI, Fw.o_sub, Fw.o_neg, Fw.o_mul, Fw.o_mod, Fw.o_div, Fw.f_intI, Fw.f_intB, Fw.f_max, Fw.f_min, Fw.f_lenL, Fw.f_lenT, decide_true, decide_false, Bool.not_true, Bool.not_false, List.map_cons, List.map_nil, List.set_cons_zero, List.set_cons_succ, List.drop_succ_cons, List.drop_zero, List.take_succ_cons, List.take_zero, List.replicate_succ, List.replicate_zero, List.cons_append, List.nil_append, List.append_nil, ne_eq, not_false_eq_true, not_true_eq_false, and_self, eq_self, and_true, and_false, false_and, true_and, reduceIte, if_true, if_false, reduceCtorEq, List.length_cons, List.length_nil, List.length_map, Fw.snoc_at, Fw.snoc_set, Fw.tyL_snoc, decide_eq_true_eq, Bool.and_true, Bool.true_and, Bool.and_false, Bool.false_and, Nat.reduceSub, Nat.reduceAdd, Int.reduceAdd, Int.reduceSub, Int.reduceMul, Int.reduceNeg, Int.reduceLT, Int.reduceLE, Int.reduceEq, Int.reduceMod, Int.reduceDiv, Int.reduceToNat, Nat.reduceEqDiff, b_Disk___init__, h]
  rfl
theorem init_bad2 (v1 v2 : D) (G : Gr) (h : m_is_size [v1, .int 3, .int 16] G = .ok (.bl true) G) (h2 : m_is_size [v2, .int 2, .int 32] G = .ok (.bl false) G) (d : D) : m_Disk___init__ [d, v1, v2] G = .err "NoDisk" G := by
  refine fn_err rfl ⟨?_, ?_⟩
  rotate_left
  simp -implicitDefEqProofs (disch := (first | exact Fw.tyL_snoc _ | omega | assumption | ((try simp only [List.length_append, List.length_cons, List.length_nil, List.length_map, List.length_take, List.length_drop, List.length_range, List.length_replicate, Fw.tyL_snoc]); first | done | omega))) only [Fw.v_c, Fw.v_bin, Fw.v_un, Fw.v_and, Fw.v_or, Fw.v_not, Fw.v_ife, Fw.v_args, Fw.v_nil, Fw.v_cons, Fw.v_bm, Fw.v_frz, Fw.v_chain, Fw.v_slLU, Fw.v_slL, Fw.v_slU, Fw.v_lc, Fw.v_seq, Fw.v_snil, Fw.v_ret, Fw.v_retN, Fw.v_brk, Fw.v_cnt, Fw.v_do, Fw.v_asg, Fw.v_if, Fw.v_for, Fw.v_srcOf, Fw.v_srcA, Fw.v_fn, Fw.w_binL, Fw.w_binR, Fw.w_un, Fw.w_andT, Fw.w_andF, Fw.w_orT, Fw.w_orF, Fw.w_not, Fw.w_ifT, Fw.w_ifF, Fw.w_arg, Fw.w_consL, Fw.w_consR, Fw.w_bmA, Fw.w_bmS, Fw.w_bm, Fw.w_frz, Fw.w_ch0, Fw.w_ch1, Fw.w_ch2T, Fw.w_ch2F, Fw.w_sl1, Fw.w_sl2, Fw.w_sl3, Fw.w_slL1, Fw.w_slL2, Fw.w_slU1, Fw.w_slU2, Fw.w_seq, Fw.w_seqR, Fw.w_seqB, Fw.w_seqC, Fw.w_seqE, Fw.w_ret, Fw.w_do, Fw.w_asg, Fw.w_tg, Fw.w_sifT, Fw.w_sifF, Fw.w_gs, Fw.w_gsnil, Fw.w_gscons, Fw.w_for, Fw.w_src, Fw.w_srcA, Fw.w_src2, Fw.w_lc, Fw.w_endN, Fw.w_endR, Fw.w_endE, Fw.e_binL, Fw.e_binR, Fw.e_un, Fw.e_and, Fw.e_or, Fw.e_not, Fw.e_ife, Fw.e_arg, Fw.e_consL, Fw.e_consR, Fw.e_bmA, Fw.e_bm, Fw.e_ret, Fw.e_do, Fw.e_asg, Fw.e_if, Fw.e_for, Fw.e_src, Fw.e_srcA, Fw.v_x0, Fw.v_s0, Fw.v_x1, Fw.v_s1, Fw.v_x2, Fw.v_s2, Fw.v_x3, Fw.v_s3, Fw.v_x4, Fw.v_s4, Fw.v_x5, Fw.v_s5, Fw.v_x6, Fw.v_s6, Fw.v_x7, Fw.v_s7, Fw.v_x8, Fw.v_s8, Fw.v_x9, Fw.v_s9, Fw.v_x10, Fw.v_s10, Fw.v_x11, Fw.v_s11, Fw.v_x12, Fw.v_s12, Fw.v_x13, Fw.v_s13, Fw.v_x14, Fw.v_s14, Fw.v_x15, Fw.v_s15, Fw.v_x16, Fw.v_s16, Fw.v_x17, Fw.v_s17, Fw.v_x18, Fw.v_s18, Fw.v_x19, Fw.v_s19, Fw.v_x20, Fw.v_s20, Fw.v_x21, Fw.v_s21, Fw.v_x22, Fw.v_s22, Fw.v_x23, Fw.v_s23, Fw.v_x24, Fw.v_s24, Fw.v_x25, Fw.v_s25, Fw.v_unp1, Fw.v_unpL1, Fw.v_unp2, Fw.v_unpL2, Fw.v_unp3, Fw.v_unpL3, Fw.v_unp4, Fw.v_unpL4, Fw.v_unp5, Fw.v_unpL5, Fw.v_unp6, Fw.v_unpL6, Fw.v_unp7, Fw.v_unpL7, Fw.v_unp8, Fw.v_unpL8, Fw.v_addC, Fw.v_dic, Fw.v_zipL, Fw.v_addCS, Fw.v_strBB, Fw.v_strBN, Fw.v_strBS, Fw.v_joinC, Fw.v_fld, Fw.w_fld, Fw.v_sfld, Fw.w_sfld1, Fw.w_sfld2, Fw.v_meth, Fw.w_meth, Fw.w_argD, Fw.v_make, Fw.w_make, Fw.w_madeN, Fw.w_madeE, Fw.e_doE, Fw.w_setAt, Fw.v_raise, Fw.v_tryAs, Fw.v_tryMany, Fw.w_tryN, Fw.w_tryR, Fw.w_tryC, Fw.w_tryE, Fw.w_trmN, Fw.w_trmR, Fw.w_trmC, Fw.w_trmE, Fw.w_hdY, Fw.w_hdN, Fw.w_all, Fw.w_unN, Fw.w_unC, Fw.w_unR, Fw.w_unN0, Fw.w_unC0, Fw.w_isE, Fw.w_tabN, Fw.w_goN, Fw.w_goC, Fw.w_turn, Fw.v_lenli, Fw.v_ixli, Fw.v_lenT, Fw.v_addT, Fw.v_eqT, Fw.v_neT, Fw.v_eqI, Fw.v_neI, Fw.v_strN, Fw.v_strS, Fw.v_ord, Fw.v_appC, Fw.v_pow18, Fw.v_ixT, Fw.v_lst, Fw.v_tup, Fw.v_cel, Fw.v_appT, Fw.v_appL, Fw.v_rng1, Fw.v_enT, Fw.v_iT, Fw.v_iL, Fw.v_iTp, Fw.v_cutLTo, Fw.v_cutLFrom, Fw.v_wipe0, Fw.v_wipe1, Fw.w_te, Fw.v_cutTo, Fw.v_cutFrom, Fw.v_cutLast, Fw.v_splT, Fw.v_rsplT, Fw.v_rfindT, Fw.v_endsT, Fw.v_inT, Fw.v_notInT, Fw.v_joinT, Fw.v_tab, Fw.w_tabL, Fw.w_tabR, Fw.v_lstT, Fw.v_lstL, Fw.v_tupT, Fw.v_tupL, Fw.v_isBt, Fw.v_isBf, Fw.v_isBi, Fw.v_isBs, Fw.v_ixL0, Fw.v_ixL1, Fw.v_isTs, Fw.v_isTsI, Fw.v_isTsB, Fw.v_allB, Fw.v_all0, Fw.v_all1, Fw.v_all2, Fw.v_all3, Fw.v_all4, Fw.v_all5, Fw.v_all6, Fw.v_all7, Fw.v_all8, Fw.v_appT2, Fw.v_lz, Fw.v_castN, Fw.v_zpN, Fw.v_zpN2, Fw.v_zpC, Fw.v_intT, Fw.v_in2, Fw.v_lcNil, Fw.v_lcCons, Fw.w_lcT, Fw.w_lcCt, Fw.w_lcCf, Fw.w_lcE, Fw.v_yes, Fw.v_finF, Fw.v_loopNil, Fw.v_loopCons, Fw.w_restN, Fw.w_restC, Fw.w_restB, Fw.w_restR, Fw.o_lt, Fw.o_le, Fw.o_gt, Fw.o_ge, Fw.o_addI, Fw.o_sub, Fw.o_neg, Fw.o_mul, Fw.o_mod, Fw.o_div, Fw.f_intI, Fw.f_intB, Fw.f_max, Fw.f_min, Fw.f_lenL, Fw.f_lenT, decide_true, decide_false, Bool.not_true, Bool.not_false, List.map_cons, List.map_nil, List.set_cons_zero, List.set_cons_succ, List.drop_succ_cons, List.drop_zero, List.take_succ_cons, List.take_zero, List.replicate_succ, List.replicate_zero, List.cons_append, List.nil_append, List.append_nil, ne_eq, not_false_eq_true, not_true_eq_false, and_self, eq_self, and_true, and_false, false_and, true_and, reduceIte, if_true, if_false, reduceCtorEq, List.length_cons, List.length_nil, List.length_map, Fw.snoc_at, Fw.snoc_set, Fw.tyL_snoc, decide_eq_true_eq, Bool.and_true, Bool.true_and, Bool.and_false, Bool.false_and, Nat.reduceSub, Nat.reduceAdd, Int.reduceAdd, Int.reduceSub, Int.reduceMul, Int.reduceNeg, Int.reduceLT, Int.reduceLE, Int.reduceEq, Int.reduceMod, Int.reduceDiv, Int.reduceToNat, Nat.reduceEqDiff, b_Disk___init__, h, h2]
  rfl
theorem begun_bad (v1 v2 : D) (G : Gr) (h : ∀ d, m_Disk___init__ [d, v1, v2] (G ++ [Cl.ins "Disk" []]) = .err "NoDisk" (G ++ [Cl.ins "Disk" []])) : m__law_begun [v1, v2] G = .ok (.lst [.str (tx [100, 105, 115, 107])]) G := by
  have e1 : ("NoDisk" : Str) ∈ exL := by decide +kernel
  have e2 : ("CleanError" : Str) ∈ exC := by decide +kernel
  have e3 : isSub "NoDisk" "CleanError" = true := by decide +kernel
  refine pure_retX rfl ⟨?_, ?_, ?_⟩ rfl
  rotate_left
  · simp -implicitDefEqProofs (disch := (first | exact Fw.tyL_snoc _ | omega | assumption | ((try simp only [List.length_append, List.length_cons, List.length_nil, List.length_map, List.length_take, List.length_drop, List.length_range, List.length_replicate, Fw.tyL_snoc]); first | done | omega))) only [Fw.v_c, Fw.v_bin, Fw.v_un, Fw.v_and, Fw.v_or, Fw.v_not, Fw.v_ife, Fw.v_args, Fw.v_nil, Fw.v_cons, Fw.v_bm, Fw.v_frz, Fw.v_chain, Fw.v_slLU, Fw.v_slL, Fw.v_slU, Fw.v_lc, Fw.v_seq, Fw.v_snil, Fw.v_ret, Fw.v_retN, Fw.v_brk, Fw.v_cnt, Fw.v_do, Fw.v_asg, Fw.v_if, Fw.v_for, Fw.v_srcOf, Fw.v_srcA, Fw.v_fn, Fw.w_binL, Fw.w_binR, Fw.w_un, Fw.w_andT, Fw.w_andF, Fw.w_orT, Fw.w_orF, Fw.w_not, Fw.w_ifT, Fw.w_ifF, Fw.w_arg, Fw.w_consL, Fw.w_consR, Fw.w_bmA, Fw.w_bmS, Fw.w_bm, Fw.w_frz, Fw.w_ch0, Fw.w_ch1, Fw.w_ch2T, Fw.w_ch2F, Fw.w_sl1, Fw.w_sl2, Fw.w_sl3, Fw.w_slL1, Fw.w_slL2, Fw.w_slU1, Fw.w_slU2, Fw.w_seq, Fw.w_seqR, Fw.w_seqB, Fw.w_seqC, Fw.w_seqE, Fw.w_ret, Fw.w_do, Fw.w_asg, Fw.w_tg, Fw.w_sifT, Fw.w_sifF, Fw.w_gs, Fw.w_gsnil, Fw.w_gscons, Fw.w_for, Fw.w_src, Fw.w_srcA, Fw.w_src2, Fw.w_lc, Fw.w_endN, Fw.w_endR, Fw.w_endE, Fw.e_binL, Fw.e_binR, Fw.e_un, Fw.e_and, Fw.e_or, Fw.e_not, Fw.e_ife, Fw.e_arg, Fw.e_consL, Fw.e_consR, Fw.e_bmA, Fw.e_bm, Fw.e_ret, Fw.e_do, Fw.e_asg, Fw.e_if, Fw.e_for, Fw.e_src, Fw.e_srcA, Fw.v_x0, Fw.v_s0, Fw.v_x1, Fw.v_s1, Fw.v_x2, Fw.v_s2, Fw.v_x3, Fw.v_s3, Fw.v_x4, Fw.v_s4, Fw.v_x5, Fw.v_s5, Fw.v_x6, Fw.v_s6, Fw.v_x7, Fw.v_s7, Fw.v_x8, Fw.v_s8, Fw.v_x9, Fw.v_s9, Fw.v_x10, Fw.v_s10, Fw.v_x11, Fw.v_s11, Fw.v_x12, Fw.v_s12, Fw.v_x13, Fw.v_s13, Fw.v_x14, Fw.v_s14, Fw.v_x15, Fw.v_s15, Fw.v_x16, Fw.v_s16, Fw.v_x17, Fw.v_s17, Fw.v_x18, Fw.v_s18, Fw.v_x19, Fw.v_s19, Fw.v_x20, Fw.v_s20, Fw.v_x21, Fw.v_s21, Fw.v_x22, Fw.v_s22, Fw.v_x23, Fw.v_s23, Fw.v_x24, Fw.v_s24, Fw.v_x25, Fw.v_s25, Fw.v_unp1, Fw.v_unpL1, Fw.v_unp2, Fw.v_unpL2, Fw.v_unp3, Fw.v_unpL3, Fw.v_unp4, Fw.v_unpL4, Fw.v_unp5, Fw.v_unpL5, Fw.v_unp6, Fw.v_unpL6, Fw.v_unp7, Fw.v_unpL7, Fw.v_unp8, Fw.v_unpL8, Fw.v_addC, Fw.v_dic, Fw.v_zipL, Fw.v_addCS, Fw.v_strBB, Fw.v_strBN, Fw.v_strBS, Fw.v_joinC, Fw.v_fld, Fw.w_fld, Fw.v_sfld, Fw.w_sfld1, Fw.w_sfld2, Fw.v_meth, Fw.w_meth, Fw.w_argD, Fw.v_make, Fw.w_make, Fw.w_madeN, Fw.w_madeE, Fw.e_doE, Fw.w_setAt, Fw.v_raise, Fw.v_tryAs, Fw.v_tryMany, Fw.w_tryN, Fw.w_tryR, Fw.w_tryC, Fw.w_tryE, Fw.w_trmN, Fw.w_trmR, Fw.w_trmC, Fw.w_trmE, Fw.w_hdY, Fw.w_hdN, Fw.w_all, Fw.w_unN, Fw.w_unC, Fw.w_unR, Fw.w_unN0, Fw.w_unC0, Fw.w_isE, Fw.w_tabN, Fw.w_goN, Fw.w_goC, Fw.w_turn, Fw.v_lenli, Fw.v_ixli, Fw.v_lenT, Fw.v_addT, Fw.v_eqT, Fw.v_neT, Fw.v_eqI, Fw.v_neI, Fw.v_strN, Fw.v_strS, Fw.v_ord, Fw.v_appC, Fw.v_pow18, Fw.v_ixT, Fw.v_lst, Fw.v_tup, Fw.v_cel, Fw.v_appT, Fw.v_appL, Fw.v_rng1, Fw.v_enT, Fw.v_iT, Fw.v_iL, Fw.v_iTp, Fw.v_cutLTo, Fw.v_cutLFrom, Fw.v_wipe0, Fw.v_wipe1, Fw.w_te, Fw.v_cutTo, Fw.v_cutFrom, Fw.v_cutLast, Fw.v_splT, Fw.v_rsplT, Fw.v_rfindT, Fw.v_endsT, Fw.v_inT, Fw.v_notInT, Fw.v_joinT, Fw.v_tab, Fw.w_tabL, Fw.w_tabR, Fw.v_lstT, Fw.v_lstL, Fw.v_tupT, Fw.v_tupL, Fw.v_isBt, Fw.v_isBf, Fw.v_isBi, Fw.v_isBs, Fw.v_ixL0, Fw.v_ixL1, Fw.v_isTs, Fw.v_isTsI, Fw.v_isTsB, Fw.v_allB, Fw.v_all0, Fw.v_all1, Fw.v_all2, Fw.v_all3, Fw.v_all4, Fw.v_all5, Fw.v_all6, Fw.v_all7, Fw.v_all8, Fw.v_appT2, Fw.v_lz, Fw.v_castN, Fw.v_zpN, Fw.v_zpN2, Fw.v_zpC, Fw.v_intT, Fw.v_in2, Fw.v_lcNil, Fw.v_lcCons, Fw.w_lcT, Fw.w_lcCt, Fw.w_lcCf, Fw.w_lcE, Fw.v_yes, Fw.v_finF, Fw.v_loopNil, Fw.v_loopCons, Fw.w_restN, Fw.w_restC, Fw.w_restB, Fw.w_restR, Fw.o_lt, Fw.o_le, Fw.o_gt, Fw.o_ge, Fw.o_addI, Fw.o_sub, Fw.o_neg, Fw.o_mul, Fw.o_mod, Fw.o_div, Fw.f_intI, Fw.f_intB, Fw.f_max, Fw.f_min, Fw.f_lenL, Fw.f_lenT, decide_true, decide_false, Bool.not_true, Bool.not_false, List.map_cons, List.map_nil, List.set_cons_zero, List.set_cons_succ, List.drop_succ_cons, List.drop_zero, List.take_succ_cons, List.take_zero, List.replicate_succ, List.replicate_zero, List.cons_append, List.nil_append, List.append_nil, ne_eq, not_false_eq_true, not_true_eq_false, and_self, eq_self, and_true, and_false, false_and, true_and, reduceIte, if_true, if_false, reduceCtorEq, List.length_cons, List.length_nil, List.length_map, Fw.snoc_at, Fw.snoc_set, Fw.tyL_snoc, decide_eq_true_eq, Bool.and_true, Bool.true_and, Bool.and_false, Bool.false_and, Nat.reduceSub, Nat.reduceAdd, Int.reduceAdd, Int.reduceSub, Int.reduceMul, Int.reduceNeg, Int.reduceLT, Int.reduceLE, Int.reduceEq, Int.reduceMod, Int.reduceDiv, Int.reduceToNat, Nat.reduceEqDiff, b__law_begun, h, e1, e2, e3, kinds_NoDisk]
    rfl
  · exact ⟨_, rfl⟩
theorem begun_ok (s p : Nat) (hs : 3 ≤ s ∧ s ≤ 16) (hp : 2 ≤ p ∧ p ≤ 32) (G : Gr) : m__law_begun [.int s, .int p] G = .ok (.lst []) G := by
  have h := init_ok s p hs hp G
  refine pure_retX rfl ⟨?_, ?_, ?_⟩ rfl
  rotate_left
  · simp -implicitDefEqProofs (disch := (first | exact Fw.tyL_snoc _ | omega | assumption | ((try simp only [List.length_append, List.length_cons, List.length_nil, List.length_map, List.length_take, List.length_drop, List.length_range, List.length_replicate, Fw.tyL_snoc]); first | done | omega))) only [Fw.v_c, Fw.v_bin, Fw.v_un, Fw.v_and, Fw.v_or, Fw.v_not, Fw.v_ife, Fw.v_args, Fw.v_nil, Fw.v_cons, Fw.v_bm, Fw.v_frz, Fw.v_chain, Fw.v_slLU, Fw.v_slL, Fw.v_slU, Fw.v_lc, Fw.v_seq, Fw.v_snil, Fw.v_ret, Fw.v_retN, Fw.v_brk, Fw.v_cnt, Fw.v_do, Fw.v_asg, Fw.v_if, Fw.v_for, Fw.v_srcOf, Fw.v_srcA, Fw.v_fn, Fw.w_binL, Fw.w_binR, Fw.w_un, Fw.w_andT, Fw.w_andF, Fw.w_orT, Fw.w_orF, Fw.w_not, Fw.w_ifT, Fw.w_ifF, Fw.w_arg, Fw.w_consL, Fw.w_consR, Fw.w_bmA, Fw.w_bmS, Fw.w_bm, Fw.w_frz, Fw.w_ch0, Fw.w_ch1, Fw.w_ch2T, Fw.w_ch2F, Fw.w_sl1, Fw.w_sl2, Fw.w_sl3, Fw.w_slL1, Fw.w_slL2, Fw.w_slU1, Fw.w_slU2, Fw.w_seq, Fw.w_seqR, Fw.w_seqB, Fw.w_seqC, Fw.w_seqE, Fw.w_ret, Fw.w_do, Fw.w_asg, Fw.w_tg, Fw.w_sifT, Fw.w_sifF, Fw.w_gs, Fw.w_gsnil, Fw.w_gscons, Fw.w_for, Fw.w_src, Fw.w_srcA, Fw.w_src2, Fw.w_lc, Fw.w_endN, Fw.w_endR, Fw.w_endE, Fw.e_binL, Fw.e_binR, Fw.e_un, Fw.e_and, Fw.e_or, Fw.e_not, Fw.e_ife, Fw.e_arg, Fw.e_consL, Fw.e_consR, Fw.e_bmA, Fw.e_bm, Fw.e_ret, Fw.e_do, Fw.e_asg, Fw.e_if, Fw.e_for, Fw.e_src, Fw.e_srcA, Fw.v_x0, Fw.v_s0, Fw.v_x1, Fw.v_s1, Fw.v_x2, Fw.v_s2, Fw.v_x3, Fw.v_s3, Fw.v_x4, Fw.v_s4, Fw.v_x5, Fw.v_s5, Fw.v_x6, Fw.v_s6, Fw.v_x7, Fw.v_s7, Fw.v_x8, Fw.v_s8, Fw.v_x9, Fw.v_s9, Fw.v_x10, Fw.v_s10, Fw.v_x11, Fw.v_s11, Fw.v_x12, Fw.v_s12, Fw.v_x13, Fw.v_s13, Fw.v_x14, Fw.v_s14, Fw.v_x15, Fw.v_s15, Fw.v_x16, Fw.v_s16, Fw.v_x17, Fw.v_s17, Fw.v_x18, Fw.v_s18, Fw.v_x19, Fw.v_s19, Fw.v_x20, Fw.v_s20, Fw.v_x21, Fw.v_s21, Fw.v_x22, Fw.v_s22, Fw.v_x23, Fw.v_s23, Fw.v_x24, Fw.v_s24, Fw.v_x25, Fw.v_s25, Fw.v_unp1, Fw.v_unpL1, Fw.v_unp2, Fw.v_unpL2, Fw.v_unp3, Fw.v_unpL3, Fw.v_unp4, Fw.v_unpL4, Fw.v_unp5, Fw.v_unpL5, Fw.v_unp6, Fw.v_unpL6, Fw.v_unp7, Fw.v_unpL7, Fw.v_unp8, Fw.v_unpL8, Fw.v_addC, Fw.v_dic, Fw.v_zipL, Fw.v_addCS, Fw.v_strBB, Fw.v_strBN, Fw.v_strBS, Fw.v_joinC, Fw.v_fld, Fw.w_fld, Fw.v_sfld, Fw.w_sfld1, Fw.w_sfld2, Fw.v_meth, Fw.w_meth, Fw.w_argD, Fw.v_make, Fw.w_make, Fw.w_madeN, Fw.w_madeE, Fw.e_doE, Fw.w_setAt, Fw.v_raise, Fw.v_tryAs, Fw.v_tryMany, Fw.w_tryN, Fw.w_tryR, Fw.w_tryC, Fw.w_tryE, Fw.w_trmN, Fw.w_trmR, Fw.w_trmC, Fw.w_trmE, Fw.w_hdY, Fw.w_hdN, Fw.w_all, Fw.w_unN, Fw.w_unC, Fw.w_unR, Fw.w_unN0, Fw.w_unC0, Fw.w_isE, Fw.w_tabN, Fw.w_goN, Fw.w_goC, Fw.w_turn, Fw.v_lenli, Fw.v_ixli, Fw.v_lenT, Fw.v_addT, Fw.v_eqT, Fw.v_neT, Fw.v_eqI, Fw.v_neI, Fw.v_strN, Fw.v_strS, Fw.v_ord, Fw.v_appC, Fw.v_pow18, Fw.v_ixT, Fw.v_lst, Fw.v_tup, Fw.v_cel, Fw.v_appT, Fw.v_appL, Fw.v_rng1, Fw.v_enT, Fw.v_iT, Fw.v_iL, Fw.v_iTp, Fw.v_cutLTo, Fw.v_cutLFrom, Fw.v_wipe0, Fw.v_wipe1, Fw.w_te, Fw.v_cutTo, Fw.v_cutFrom, Fw.v_cutLast, Fw.v_splT, Fw.v_rsplT, Fw.v_rfindT, Fw.v_endsT, Fw.v_inT, Fw.v_notInT, Fw.v_joinT, Fw.v_tab, Fw.w_tabL, Fw.w_tabR, Fw.v_lstT, Fw.v_lstL, Fw.v_tupT, Fw.v_tupL, Fw.v_isBt, Fw.v_isBf, Fw.v_isBi, Fw.v_isBs, Fw.v_ixL0, Fw.v_ixL1, Fw.v_isTs, Fw.v_isTsI, Fw.v_isTsB, Fw.v_allB, Fw.v_all0, Fw.v_all1, Fw.v_all2, Fw.v_all3, Fw.v_all4, Fw.v_all5, Fw.v_all6, Fw.v_all7, Fw.v_all8, Fw.v_appT2, Fw.v_lz, Fw.v_castN, Fw.v_zpN, Fw.v_zpN2, Fw.v_zpC, Fw.v_intT, Fw.v_in2, Fw.v_lcNil, Fw.v_lcCons, Fw.w_lcT, Fw.w_lcCt, Fw.w_lcCf, Fw.w_lcE, Fw.v_yes, Fw.v_finF, Fw.v_loopNil, Fw.v_loopCons, Fw.w_restN, Fw.w_restC, Fw.w_restB, Fw.w_restR, Fw.o_lt, Fw.o_le, Fw.o_gt, Fw.o_ge, Fw.o_addI, Fw.o_sub, Fw.o_neg, Fw.o_mul, Fw.o_mod, Fw.o_div, Fw.f_intI, Fw.f_intB, Fw.f_max, Fw.f_min, Fw.f_lenL, Fw.f_lenT, decide_true, decide_false, Bool.not_true, Bool.not_false, List.map_cons, List.map_nil, List.set_cons_zero, List.set_cons_succ, List.drop_succ_cons, List.drop_zero, List.take_succ_cons, List.take_zero, List.replicate_succ, List.replicate_zero, List.cons_append, List.nil_append, List.append_nil, ne_eq, not_false_eq_true, not_true_eq_false, and_self, eq_self, and_true, and_false, false_and, true_and, reduceIte, if_true, if_false, reduceCtorEq, List.length_cons, List.length_nil, List.length_map, Fw.snoc_at, Fw.snoc_set, Fw.tyL_snoc, decide_eq_true_eq, Bool.and_true, Bool.true_and, Bool.and_false, Bool.false_and, Nat.reduceSub, Nat.reduceAdd, Int.reduceAdd, Int.reduceSub, Int.reduceMul, Int.reduceNeg, Int.reduceLT, Int.reduceLE, Int.reduceEq, Int.reduceMod, Int.reduceDiv, Int.reduceToNat, Nat.reduceEqDiff, b__law_begun, h]
    rfl
  · exact ⟨_, rfl⟩
theorem repr2 {v1 v2 : D} {G : Gr} {b1 b2 : Bool} {l1 h1 l2 h2 : Nat} (z1 : ∃ q : PyData, toE G v1 = some q ∧ q.showable = true ∧ q.leavesShort 20 = true ∧ q.weight ≤ 1000) (z2 : ∃ q : PyData, toE G v2 = some q ∧ q.showable = true ∧ q.leavesShort 20 = true ∧ q.weight ≤ 1000) : ∃ z : Str, fReprE [.lst [v1, v2]] G = .ok (.str z) G := by
  obtain ⟨q1, a1, a2, a3, a4⟩ := z1
  obtain ⟨q2, c1, c2, c3, c4⟩ := z2
  have e : topE G (.lst [v1, v2]) = some (.list [q1, q2]) := by
    show (mapO (toE G) [v1, v2]).map PyData.list = _
    simp only [mapO, a1, c1]; rfl
  have s1 : (PyData.list [q1, q2]).showable = true := by
    show (q1.showable && (q2.showable && true)) = true
    rw [a2, c2]; rfl
  have s2 : (PyData.list [q1, q2]).leavesShort 20 = true := by
    show (PyData.leavesShort 20 q1 && (PyData.leavesShort 20 q2 && true)) = true
    rw [a3, c3]; rfl
  have s3 : (PyData.list [q1, q2]).weight ≤ 10000 := by
    show PyData.weightAll [q1, q2] ≤ 10000
    rw [PyData.weightAll, PyData.weightAll, PyData.weightAll]; omega
  refine ⟨(PyData.list [q1, q2]).shown, ?_⟩
  have s := PyData.shown_le 20 (by decide) (.list [q1, q2]) s2
  have big := sizeLine_big
  show (match topE G (.lst [v1, v2]) with | some p => if p.showable = true ∧ p.shown.length ≤ sizeLine then R.ok (.str p.shown) G else .no | none => .no) = _
  rw [e]
  exact if_pos ⟨s1, by omega⟩
theorem list2 {ns : List Int} (h : ns.length = 2) : ∃ a b, ns = [a, b] := by
  match ns, h with
  | [a, b], _ => exact ⟨a, b, rfl⟩
theorem v_pow6 {g : Gr} : opPow (.int 10) (.int 6) g = .ok (.int 1000000) g := by
  rw [o_pow (by decide)]
  rfl
theorem pure_retX2 {n k : Nat} {m : Stm} {ds : List D} {d : D} {g : Gr} (hl : ds.length = n) (h : ∃ g2, m (ds.map some ++ List.replicate (k - n) none) g = .ret d (g ++ g2)) (lo : d.low g.length = true) : pureF (fnOf n k m) ds g = .ok d g := by
  obtain ⟨g2, h⟩ := h
  exact pure_ret (g2 := g2) hl h lo
theorem blank_new (s p : Nat) (hs : 3 ≤ s ∧ s ≤ 16) (hp : 2 ≤ p ∧ p ≤ 32) (G : Gr) : m__law_blank [.obj G.length, .int s, .int p] (G ++ dk G.length s p) = .ok (.bl true) (G ++ dk G.length s p) := law_blank (fresh G s p) hs hp
end Ww

set_option maxRecDepth 100000
set_option maxHeartbeats 4000000
namespace Ww
open PySem PySem.Spec PyProof.Rows Fw
theorem law_ok (ns : List Int) (g : Gr) : m_law [li ns] g = .ok (.bl true) g := by
  obtain ⟨n, en, hn⟩ : ∃ n : Nat, (if (if (20 : Int) < (ns.length : Int) then 20 else (ns.length : Int)) > 8 then (if (20 : Int) < (ns.length : Int) then 20 else (ns.length : Int)) else 8) = (n : Int) ∧ n ≤ 20 := by
    generalize (ns.length : Int) = n at *
    by_cases h1 : (20 : Int) < n
    · exact ⟨20, by rw [if_pos h1]; rfl, by decide⟩
    · rw [if_neg h1]
      by_cases h3 : n > 8
      · exact ⟨n.toNat, by rw [if_pos h3]; omega, by omega⟩
      · exact ⟨8, by rw [if_neg h3]; rfl, by decide⟩
  refine pure_retX2 rfl ?_ rfl
  have hm' : ((n : Int)).toNat = n := Int.toNat_natCast n
  simp -implicitDefEqProofs (disch := (first | exact Fw.tyL_snoc _ | omega | assumption | ((try simp only [List.length_append, List.length_cons, List.length_nil, List.length_map, List.length_take, List.length_drop, List.length_range, List.length_replicate, Fw.tyL_snoc]); first | done | omega))) only [Fw.v_c, Fw.v_bin, Fw.v_un, Fw.v_and, Fw.v_or, Fw.v_not, Fw.v_ife, Fw.v_args, Fw.v_nil, Fw.v_cons, Fw.v_bm, Fw.v_frz, Fw.v_chain, Fw.v_slLU, Fw.v_slL, Fw.v_slU, Fw.v_lc, Fw.v_seq, Fw.v_snil, Fw.v_ret, Fw.v_retN, Fw.v_brk, Fw.v_cnt, Fw.v_do, Fw.v_asg, Fw.v_if, Fw.v_for, Fw.v_srcOf, Fw.v_srcA, Fw.v_fn, Fw.w_binL, Fw.w_binR, Fw.w_un, Fw.w_andT, Fw.w_andF, Fw.w_orT, Fw.w_orF, Fw.w_not, Fw.w_ifT, Fw.w_ifF, Fw.w_arg, Fw.w_consL, Fw.w_consR, Fw.w_bmA, Fw.w_bmS, Fw.w_bm, Fw.w_frz, Fw.w_ch0, Fw.w_ch1, Fw.w_ch2T, Fw.w_ch2F, Fw.w_sl1, Fw.w_sl2, Fw.w_sl3, Fw.w_slL1, Fw.w_slL2, Fw.w_slU1, Fw.w_slU2, Fw.w_seq, Fw.w_seqR, Fw.w_seqB, Fw.w_seqC, Fw.w_seqE, Fw.w_ret, Fw.w_do, Fw.w_asg, Fw.w_tg, Fw.w_sifT, Fw.w_sifF, Fw.w_gs, Fw.w_gsnil, Fw.w_gscons, Fw.w_for, Fw.w_src, Fw.w_srcA, Fw.w_src2, Fw.w_lc, Fw.w_endN, Fw.w_endR, Fw.w_endE, Fw.e_binL, Fw.e_binR, Fw.e_un, Fw.e_and, Fw.e_or, Fw.e_not, Fw.e_ife, Fw.e_arg, Fw.e_consL, Fw.e_consR, Fw.e_bmA, Fw.e_bm, Fw.e_ret, Fw.e_do, Fw.e_asg, Fw.e_if, Fw.e_for, Fw.e_src, Fw.e_srcA, Fw.v_x0, Fw.v_s0, Fw.v_x1, Fw.v_s1, Fw.v_x2, Fw.v_s2, Fw.v_x3, Fw.v_s3, Fw.v_x4, Fw.v_s4, Fw.v_x5, Fw.v_s5, Fw.v_x6, Fw.v_s6, Fw.v_x7, Fw.v_s7, Fw.v_x8, Fw.v_s8, Fw.v_x9, Fw.v_s9, Fw.v_x10, Fw.v_s10, Fw.v_x11, Fw.v_s11, Fw.v_x12, Fw.v_s12, Fw.v_x13, Fw.v_s13, Fw.v_x14, Fw.v_s14, Fw.v_x15, Fw.v_s15, Fw.v_x16, Fw.v_s16, Fw.v_x17, Fw.v_s17, Fw.v_x18, Fw.v_s18, Fw.v_x19, Fw.v_s19, Fw.v_x20, Fw.v_s20, Fw.v_x21, Fw.v_s21, Fw.v_x22, Fw.v_s22, Fw.v_x23, Fw.v_s23, Fw.v_x24, Fw.v_s24, Fw.v_x25, Fw.v_s25, Fw.v_unp1, Fw.v_unpL1, Fw.v_unp2, Fw.v_unpL2, Fw.v_unp3, Fw.v_unpL3, Fw.v_unp4, Fw.v_unpL4, Fw.v_unp5, Fw.v_unpL5, Fw.v_unp6, Fw.v_unpL6, Fw.v_unp7, Fw.v_unpL7, Fw.v_unp8, Fw.v_unpL8, Fw.v_addC, Fw.v_dic, Fw.v_zipL, Fw.v_addCS, Fw.v_strBB, Fw.v_strBN, Fw.v_strBS, Fw.v_joinC, Fw.v_fld, Fw.w_fld, Fw.v_sfld, Fw.w_sfld1, Fw.w_sfld2, Fw.v_meth, Fw.w_meth, Fw.w_argD, Fw.v_make, Fw.w_make, Fw.w_madeN, Fw.w_madeE, Fw.e_doE, Fw.w_setAt, Fw.v_raise, Fw.v_tryAs, Fw.v_tryMany, Fw.w_tryN, Fw.w_tryR, Fw.w_tryC, Fw.w_tryE, Fw.w_trmN, Fw.w_trmR, Fw.w_trmC, Fw.w_trmE, Fw.w_hdY, Fw.w_hdN, Fw.w_all, Fw.w_unN, Fw.w_unC, Fw.w_unR, Fw.w_unN0, Fw.w_unC0, Fw.w_isE, Fw.w_tabN, Fw.w_goN, Fw.w_goC, Fw.w_turn, Fw.v_lenli, Fw.v_ixli, Fw.v_lenT, Fw.v_addT, Fw.v_eqT, Fw.v_neT, Fw.v_eqI, Fw.v_neI, Fw.v_strN, Fw.v_strS, Fw.v_ord, Fw.v_appC, Fw.v_pow18, Fw.v_ixT, Fw.v_lst, Fw.v_tup, Fw.v_cel, Fw.v_appT, Fw.v_appL, Fw.v_rng1, Fw.v_enT, Fw.v_iT, Fw.v_iL, Fw.v_iTp, Fw.v_cutLTo, Fw.v_cutLFrom, Fw.v_wipe0, Fw.v_wipe1, Fw.w_te, Fw.v_cutTo, Fw.v_cutFrom, Fw.v_cutLast, Fw.v_splT, Fw.v_rsplT, Fw.v_rfindT, Fw.v_endsT, Fw.v_inT, Fw.v_notInT, Fw.v_joinT, Fw.v_tab, Fw.w_tabL, Fw.w_tabR, Fw.v_lstT, Fw.v_lstL, Fw.v_tupT, Fw.v_tupL, Fw.v_isBt, Fw.v_isBf, Fw.v_isBi, Fw.v_isBs, Fw.v_ixL0, Fw.v_ixL1, Fw.v_isTs, Fw.v_isTsI, Fw.v_isTsB, Fw.v_allB, Fw.v_all0, Fw.v_all1, Fw.v_all2, Fw.v_all3, Fw.v_all4, Fw.v_all5, Fw.v_all6, Fw.v_all7, Fw.v_all8, Fw.v_appT2, Fw.v_lz, Fw.v_castN, Fw.v_zpN, Fw.v_zpN2, Fw.v_zpC, Fw.v_intT, Fw.v_in2, Fw.v_lcNil, Fw.v_lcCons, Fw.w_lcT, Fw.w_lcCt, Fw.w_lcCf, Fw.w_lcE, Fw.v_yes, Fw.v_finF, Fw.v_loopNil, Fw.v_loopCons, Fw.w_restN, Fw.w_restC, Fw.w_restB, Fw.w_restR, Fw.o_lt, Fw.o_le, Fw.o_gt, Fw.o_ge, Fw.o_addI, Fw.o_sub, Fw.o_neg, Fw.o_mul, Fw.o_mod, Fw.o_div, Fw.f_intI, Fw.f_intB, Fw.f_max, Fw.f_min, Fw.f_lenL, Fw.f_lenT, decide_true, decide_false, Bool.not_true, Bool.not_false, List.map_cons, List.map_nil, List.set_cons_zero, List.set_cons_succ, List.drop_succ_cons, List.drop_zero, List.take_succ_cons, List.take_zero, List.replicate_succ, List.replicate_zero, List.cons_append, List.nil_append, List.append_nil, ne_eq, not_false_eq_true, not_true_eq_false, and_self, eq_self, and_true, and_false, false_and, true_and, reduceIte, if_true, if_false, reduceCtorEq, List.length_cons, List.length_nil, List.length_map, Fw.snoc_at, Fw.snoc_set, Fw.tyL_snoc, decide_eq_true_eq, Bool.and_true, Bool.true_and, Bool.and_false, Bool.false_and, Nat.reduceSub, Nat.reduceAdd, Int.reduceAdd, Int.reduceSub, Int.reduceMul, Int.reduceNeg, Int.reduceLT, Int.reduceLE, Int.reduceEq, Int.reduceMod, Int.reduceDiv, Int.reduceToNat, Nat.reduceEqDiff, b_law, en]
  try rw [hm']
  refine rng_then (K := fun s => ∃ g2, fSeq _ s = .ret (.bl true) (g ++ g2)) (fun i ρ g' => ∃ t1 t2 t3 t4 t5 t6 t7 t8 t9 : Option D, ρ = [some (li ns), t1, t2, t3, t4, t5, t6, t7, t8, t9] ∧ ∃ g2, g' = g ++ g2) ⟨none, none, none, none, none, none, none, none, none, rfl, [], (List.append_nil g).symm⟩ ?_ ?_
  · rintro i ρ g' hi ⟨t1, t2, t3, t4, t5, t6, t7, t8, t9, rfl, g2, rfl⟩
    obtain ⟨a, b, er⟩ := list2 (ns := lrow ns (i : Int) 2 1000000) (lrow_len ..)
    have hb : ∀ d ∈ lrow ns (i : Int) 2 1000000, 0 ≤ d ∧ d < 1000000 := lrow_bd ns i 1000000 2 _ (by decide)
    have row : ∀ g, m__law_row [li ns, .int (i : Int), .int 2, .int 1000000] g = .ok (.lst [.int a, .int b]) g := fun g => by
      have := law_row ns (i : Int) 2 1000000 (by omega) (by decide) (by decide) (by decide) g
      rw [er] at this
      exact this
    rw [er] at hb
    obtain ⟨v1, b1, z1, Z1⟩ := law_size_ok a 3 16 (hb a (by simp)) (by omega) (by omega) (g ++ g2)
    obtain ⟨v2, b2, z2, Z2⟩ := law_size_ok b 2 32 (hb b (by simp)) (by omega) (by omega) ((g ++ g2) ++ [Cl.dic []])
    have z1' : m__law_size [.int a, .int 3, .int 16] (g ++ g2) = .ok (.tup [v1, .bl b1]) ((g ++ g2) ++ [Cl.dic []]) := z1
    have z2' : m__law_size [.int b, .int 2, .int 32] ((g ++ g2) ++ [Cl.dic []]) = .ok (.tup [v2, .bl b2]) (((g ++ g2) ++ [Cl.dic []]) ++ [Cl.dic []]) := z2
    obtain ⟨q1, r1, r1'⟩ := Z1.shw
    obtain ⟨q2, r2, r2'⟩ := Z2.shw
    have r2n := r2 []
    rw [List.append_nil] at r2n
    obtain ⟨z, hz⟩ := repr2 (b1 := true) (b2 := true) (l1 := 0) (h1 := 0) (l2 := 0) (h2 := 0) ⟨q1, r1 [Cl.dic []], r1'⟩ ⟨q2, r2n, r2'⟩
    have s1 := Z1.sz ([Cl.dic []] ++ [Cl.ins "Disk" []])
    rw [← List.append_assoc] at s1
    have s2 := Z2.sz [Cl.ins "Disk" []]
    have n1 := Z1.num
    have n2 := Z2.num
    generalize hG : ((g ++ g2) ++ [Cl.dic []]) ++ [Cl.dic []] = G at *
    have en2 : ∀ x, ∃ g2, G ++ x = g ++ g2 := fun x => ⟨g2 ++ [Cl.dic [], Cl.dic []] ++ x, by rw [← hG]; simp⟩
    have en0 : ∃ g2, G = g ++ g2 := ⟨g2 ++ [Cl.dic [], Cl.dic []], by rw [← hG]; simp⟩
    have e1 : ∀ g : Gr, opNe (.lst [.str (tx [100, 105, 115, 107])]) (.lst [.str (tx [100, 105, 115, 107])]) g = .ok (.bl false) g := fun _ => rfl
    have e2 : ∀ g : Gr, opEq (.lst [.str (tx [100, 105, 115, 107])]) (.lst []) g = .ok (.bl false) g := fun _ => rfl
    have e3 : ∀ g : Gr, opNe (.lst []) (.lst []) g = .ok (.bl false) g := fun _ => rfl
    have e4 : ∀ g : Gr, opEq (.lst []) (.lst []) g = .ok (.bl true) g := fun _ => rfl
    have e5 : ∀ g : Gr, opNe (.str z) (.str z) g = .ok (.bl false) g := fun g => (eq_selfD (q := .str z) rfl rfl).2
    cases b1 with
    | false =>
      have bg := begun_bad v1 v2 G fun d => init_bad1 v1 v2 _ s1 d
      simp -implicitDefEqProofs (disch := (first | exact Fw.tyL_snoc _ | omega | assumption | ((try simp only [List.length_append, List.length_cons, List.length_nil, List.length_map, List.length_take, List.length_drop, List.length_range, List.length_replicate, Fw.tyL_snoc]); first | done | omega))) only [Fw.v_c, Fw.v_bin, Fw.v_un, Fw.v_and, Fw.v_or, Fw.v_not, Fw.v_ife, Fw.v_args, Fw.v_nil, Fw.v_cons, Fw.v_bm, Fw.v_frz, Fw.v_chain, Fw.v_slLU, Fw.v_slL, Fw.v_slU, Fw.v_lc, Fw.v_seq, Fw.v_snil, Fw.v_ret, Fw.v_retN, Fw.v_brk, Fw.v_cnt, Fw.v_do, Fw.v_asg, Fw.v_if, Fw.v_for, Fw.v_srcOf, Fw.v_srcA, Fw.v_fn, Fw.w_binL, Fw.w_binR, Fw.w_un, Fw.w_andT, Fw.w_andF, Fw.w_orT, Fw.w_orF, Fw.w_not, Fw.w_ifT, Fw.w_ifF, Fw.w_arg, Fw.w_consL, Fw.w_consR, Fw.w_bmA, Fw.w_bmS, Fw.w_bm, Fw.w_frz, Fw.w_ch0, Fw.w_ch1, Fw.w_ch2T, Fw.w_ch2F, Fw.w_sl1, Fw.w_sl2, Fw.w_sl3, Fw.w_slL1, Fw.w_slL2, Fw.w_slU1, Fw.w_slU2, Fw.w_seq, Fw.w_seqR, Fw.w_seqB, Fw.w_seqC, Fw.w_seqE, Fw.w_ret, Fw.w_do, Fw.w_asg, Fw.w_tg, Fw.w_sifT, Fw.w_sifF, Fw.w_gs, Fw.w_gsnil, Fw.w_gscons, Fw.w_for, Fw.w_src, Fw.w_srcA, Fw.w_src2, Fw.w_lc, Fw.w_endN, Fw.w_endR, Fw.w_endE, Fw.e_binL, Fw.e_binR, Fw.e_un, Fw.e_and, Fw.e_or, Fw.e_not, Fw.e_ife, Fw.e_arg, Fw.e_consL, Fw.e_consR, Fw.e_bmA, Fw.e_bm, Fw.e_ret, Fw.e_do, Fw.e_asg, Fw.e_if, Fw.e_for, Fw.e_src, Fw.e_srcA, Fw.v_x0, Fw.v_s0, Fw.v_x1, Fw.v_s1, Fw.v_x2, Fw.v_s2, Fw.v_x3, Fw.v_s3, Fw.v_x4, Fw.v_s4, Fw.v_x5, Fw.v_s5, Fw.v_x6, Fw.v_s6, Fw.v_x7, Fw.v_s7, Fw.v_x8, Fw.v_s8, Fw.v_x9, Fw.v_s9, Fw.v_x10, Fw.v_s10, Fw.v_x11, Fw.v_s11, Fw.v_x12, Fw.v_s12, Fw.v_x13, Fw.v_s13, Fw.v_x14, Fw.v_s14, Fw.v_x15, Fw.v_s15, Fw.v_x16, Fw.v_s16, Fw.v_x17, Fw.v_s17, Fw.v_x18, Fw.v_s18, Fw.v_x19, Fw.v_s19, Fw.v_x20, Fw.v_s20, Fw.v_x21, Fw.v_s21, Fw.v_x22, Fw.v_s22, Fw.v_x23, Fw.v_s23, Fw.v_x24, Fw.v_s24, Fw.v_x25, Fw.v_s25, Fw.v_unp1, Fw.v_unpL1, Fw.v_unp2, Fw.v_unpL2, Fw.v_unp3, Fw.v_unpL3, Fw.v_unp4, Fw.v_unpL4, Fw.v_unp5, Fw.v_unpL5, Fw.v_unp6, Fw.v_unpL6, Fw.v_unp7, Fw.v_unpL7, Fw.v_unp8, Fw.v_unpL8, Fw.v_addC, Fw.v_dic, Fw.v_zipL, Fw.v_addCS, Fw.v_strBB, Fw.v_strBN, Fw.v_strBS, Fw.v_joinC, Fw.v_fld, Fw.w_fld, Fw.v_sfld, Fw.w_sfld1, Fw.w_sfld2, Fw.v_meth, Fw.w_meth, Fw.w_argD, Fw.v_make, Fw.w_make, Fw.w_madeN, Fw.w_madeE, Fw.e_doE, Fw.w_setAt, Fw.v_raise, Fw.v_tryAs, Fw.v_tryMany, Fw.w_tryN, Fw.w_tryR, Fw.w_tryC, Fw.w_tryE, Fw.w_trmN, Fw.w_trmR, Fw.w_trmC, Fw.w_trmE, Fw.w_hdY, Fw.w_hdN, Fw.w_all, Fw.w_unN, Fw.w_unC, Fw.w_unR, Fw.w_unN0, Fw.w_unC0, Fw.w_isE, Fw.w_tabN, Fw.w_goN, Fw.w_goC, Fw.w_turn, Fw.v_lenli, Fw.v_ixli, Fw.v_lenT, Fw.v_addT, Fw.v_eqT, Fw.v_neT, Fw.v_eqI, Fw.v_neI, Fw.v_strN, Fw.v_strS, Fw.v_ord, Fw.v_appC, Fw.v_pow18, Fw.v_ixT, Fw.v_lst, Fw.v_tup, Fw.v_cel, Fw.v_appT, Fw.v_appL, Fw.v_rng1, Fw.v_enT, Fw.v_iT, Fw.v_iL, Fw.v_iTp, Fw.v_cutLTo, Fw.v_cutLFrom, Fw.v_wipe0, Fw.v_wipe1, Fw.w_te, Fw.v_cutTo, Fw.v_cutFrom, Fw.v_cutLast, Fw.v_splT, Fw.v_rsplT, Fw.v_rfindT, Fw.v_endsT, Fw.v_inT, Fw.v_notInT, Fw.v_joinT, Fw.v_tab, Fw.w_tabL, Fw.w_tabR, Fw.v_lstT, Fw.v_lstL, Fw.v_tupT, Fw.v_tupL, Fw.v_isBt, Fw.v_isBf, Fw.v_isBi, Fw.v_isBs, Fw.v_ixL0, Fw.v_ixL1, Fw.v_isTs, Fw.v_isTsI, Fw.v_isTsB, Fw.v_allB, Fw.v_all0, Fw.v_all1, Fw.v_all2, Fw.v_all3, Fw.v_all4, Fw.v_all5, Fw.v_all6, Fw.v_all7, Fw.v_all8, Fw.v_appT2, Fw.v_lz, Fw.v_castN, Fw.v_zpN, Fw.v_zpN2, Fw.v_zpC, Fw.v_intT, Fw.v_in2, Fw.v_lcNil, Fw.v_lcCons, Fw.w_lcT, Fw.w_lcCt, Fw.w_lcCf, Fw.w_lcE, Fw.v_yes, Fw.v_finF, Fw.v_loopNil, Fw.v_loopCons, Fw.w_restN, Fw.w_restC, Fw.w_restB, Fw.w_restR, Fw.o_lt, Fw.o_le, Fw.o_gt, Fw.o_ge, Fw.o_addI, Fw.o_sub, Fw.o_neg, Fw.o_mul, Fw.o_mod, Fw.o_div, Fw.f_intI, Fw.f_intB, Fw.f_max, Fw.f_min, Fw.f_lenL, Fw.f_lenT, decide_true, decide_false, Bool.not_true, Bool.not_false, List.map_cons, List.map_nil, List.set_cons_zero, List.set_cons_succ, List.drop_succ_cons, List.drop_zero, List.take_succ_cons, List.take_zero, List.replicate_succ, List.replicate_zero, List.cons_append, List.nil_append, List.append_nil, ne_eq, not_false_eq_true, not_true_eq_false, and_self, eq_self, and_true, and_false, false_and, true_and, reduceIte, if_true, if_false, reduceCtorEq, List.length_cons, List.length_nil, List.length_map, Fw.snoc_at, Fw.snoc_set, Fw.tyL_snoc, decide_eq_true_eq, Bool.and_true, Bool.true_and, Bool.and_false, Bool.false_and, Nat.reduceSub, Nat.reduceAdd, Int.reduceAdd, Int.reduceSub, Int.reduceMul, Int.reduceNeg, Int.reduceLT, Int.reduceLE, Int.reduceEq, Int.reduceMod, Int.reduceDiv, Int.reduceToNat, Nat.reduceEqDiff, row, v_pow6, z1', z2', hz, bg, e1, e2, e5]
      exact ⟨_, _, _, _, _, _, _, _, _, rfl, en0⟩
    | true =>
      cases b2 with
      | false =>
        have bg := begun_bad v1 v2 G fun d => init_bad2 v1 v2 _ s1 s2 d
        simp -implicitDefEqProofs (disch := (first | exact Fw.tyL_snoc _ | omega | assumption | ((try simp only [List.length_append, List.length_cons, List.length_nil, List.length_map, List.length_take, List.length_drop, List.length_range, List.length_replicate, Fw.tyL_snoc]); first | done | omega))) only [Fw.v_c, Fw.v_bin, Fw.v_un, Fw.v_and, Fw.v_or, Fw.v_not, Fw.v_ife, Fw.v_args, Fw.v_nil, Fw.v_cons, Fw.v_bm, Fw.v_frz, Fw.v_chain, Fw.v_slLU, Fw.v_slL, Fw.v_slU, Fw.v_lc, Fw.v_seq, Fw.v_snil, Fw.v_ret, Fw.v_retN, Fw.v_brk, Fw.v_cnt, Fw.v_do, Fw.v_asg, Fw.v_if, Fw.v_for, Fw.v_srcOf, Fw.v_srcA, Fw.v_fn, Fw.w_binL, Fw.w_binR, Fw.w_un, Fw.w_andT, Fw.w_andF, Fw.w_orT, Fw.w_orF, Fw.w_not, Fw.w_ifT, Fw.w_ifF, Fw.w_arg, Fw.w_consL, Fw.w_consR, Fw.w_bmA, Fw.w_bmS, Fw.w_bm, Fw.w_frz, Fw.w_ch0, Fw.w_ch1, Fw.w_ch2T, Fw.w_ch2F, Fw.w_sl1, Fw.w_sl2, Fw.w_sl3, Fw.w_slL1, Fw.w_slL2, Fw.w_slU1, Fw.w_slU2, Fw.w_seq, Fw.w_seqR, Fw.w_seqB, Fw.w_seqC, Fw.w_seqE, Fw.w_ret, Fw.w_do, Fw.w_asg, Fw.w_tg, Fw.w_sifT, Fw.w_sifF, Fw.w_gs, Fw.w_gsnil, Fw.w_gscons, Fw.w_for, Fw.w_src, Fw.w_srcA, Fw.w_src2, Fw.w_lc, Fw.w_endN, Fw.w_endR, Fw.w_endE, Fw.e_binL, Fw.e_binR, Fw.e_un, Fw.e_and, Fw.e_or, Fw.e_not, Fw.e_ife, Fw.e_arg, Fw.e_consL, Fw.e_consR, Fw.e_bmA, Fw.e_bm, Fw.e_ret, Fw.e_do, Fw.e_asg, Fw.e_if, Fw.e_for, Fw.e_src, Fw.e_srcA, Fw.v_x0, Fw.v_s0, Fw.v_x1, Fw.v_s1, Fw.v_x2, Fw.v_s2, Fw.v_x3, Fw.v_s3, Fw.v_x4, Fw.v_s4, Fw.v_x5, Fw.v_s5, Fw.v_x6, Fw.v_s6, Fw.v_x7, Fw.v_s7, Fw.v_x8, Fw.v_s8, Fw.v_x9, Fw.v_s9, Fw.v_x10, Fw.v_s10, Fw.v_x11, Fw.v_s11, Fw.v_x12, Fw.v_s12, Fw.v_x13, Fw.v_s13, Fw.v_x14, Fw.v_s14, Fw.v_x15, Fw.v_s15, Fw.v_x16, Fw.v_s16, Fw.v_x17, Fw.v_s17, Fw.v_x18, Fw.v_s18, Fw.v_x19, Fw.v_s19, Fw.v_x20, Fw.v_s20, Fw.v_x21, Fw.v_s21, Fw.v_x22, Fw.v_s22, Fw.v_x23, Fw.v_s23, Fw.v_x24, Fw.v_s24, Fw.v_x25, Fw.v_s25, Fw.v_unp1, Fw.v_unpL1, Fw.v_unp2, Fw.v_unpL2, Fw.v_unp3, Fw.v_unpL3, Fw.v_unp4, Fw.v_unpL4, Fw.v_unp5, Fw.v_unpL5, Fw.v_unp6, Fw.v_unpL6, Fw.v_unp7, Fw.v_unpL7, Fw.v_unp8, Fw.v_unpL8, Fw.v_addC, Fw.v_dic, Fw.v_zipL, Fw.v_addCS, Fw.v_strBB, Fw.v_strBN, Fw.v_strBS, Fw.v_joinC, Fw.v_fld, Fw.w_fld, Fw.v_sfld, Fw.w_sfld1, Fw.w_sfld2, Fw.v_meth, Fw.w_meth, Fw.w_argD, Fw.v_make, Fw.w_make, Fw.w_madeN, Fw.w_madeE, Fw.e_doE, Fw.w_setAt, Fw.v_raise, Fw.v_tryAs, Fw.v_tryMany, Fw.w_tryN, Fw.w_tryR, Fw.w_tryC, Fw.w_tryE, Fw.w_trmN, Fw.w_trmR, Fw.w_trmC, Fw.w_trmE, Fw.w_hdY, Fw.w_hdN, Fw.w_all, Fw.w_unN, Fw.w_unC, Fw.w_unR, Fw.w_unN0, Fw.w_unC0, Fw.w_isE, Fw.w_tabN, Fw.w_goN, Fw.w_goC, Fw.w_turn, Fw.v_lenli, Fw.v_ixli, Fw.v_lenT, Fw.v_addT, Fw.v_eqT, Fw.v_neT, Fw.v_eqI, Fw.v_neI, Fw.v_strN, Fw.v_strS, Fw.v_ord, Fw.v_appC, Fw.v_pow18, Fw.v_ixT, Fw.v_lst, Fw.v_tup, Fw.v_cel, Fw.v_appT, Fw.v_appL, Fw.v_rng1, Fw.v_enT, Fw.v_iT, Fw.v_iL, Fw.v_iTp, Fw.v_cutLTo, Fw.v_cutLFrom, Fw.v_wipe0, Fw.v_wipe1, Fw.w_te, Fw.v_cutTo, Fw.v_cutFrom, Fw.v_cutLast, Fw.v_splT, Fw.v_rsplT, Fw.v_rfindT, Fw.v_endsT, Fw.v_inT, Fw.v_notInT, Fw.v_joinT, Fw.v_tab, Fw.w_tabL, Fw.w_tabR, Fw.v_lstT, Fw.v_lstL, Fw.v_tupT, Fw.v_tupL, Fw.v_isBt, Fw.v_isBf, Fw.v_isBi, Fw.v_isBs, Fw.v_ixL0, Fw.v_ixL1, Fw.v_isTs, Fw.v_isTsI, Fw.v_isTsB, Fw.v_allB, Fw.v_all0, Fw.v_all1, Fw.v_all2, Fw.v_all3, Fw.v_all4, Fw.v_all5, Fw.v_all6, Fw.v_all7, Fw.v_all8, Fw.v_appT2, Fw.v_lz, Fw.v_castN, Fw.v_zpN, Fw.v_zpN2, Fw.v_zpC, Fw.v_intT, Fw.v_in2, Fw.v_lcNil, Fw.v_lcCons, Fw.w_lcT, Fw.w_lcCt, Fw.w_lcCf, Fw.w_lcE, Fw.v_yes, Fw.v_finF, Fw.v_loopNil, Fw.v_loopCons, Fw.w_restN, Fw.w_restC, Fw.w_restB, Fw.w_restR, Fw.o_lt, Fw.o_le, Fw.o_gt, Fw.o_ge, Fw.o_addI, Fw.o_sub, Fw.o_neg, Fw.o_mul, Fw.o_mod, Fw.o_div, Fw.f_intI, Fw.f_intB, Fw.f_max, Fw.f_min, Fw.f_lenL, Fw.f_lenT, decide_true, decide_false, Bool.not_true, Bool.not_false, List.map_cons, List.map_nil, List.set_cons_zero, List.set_cons_succ, List.drop_succ_cons, List.drop_zero, List.take_succ_cons, List.take_zero, List.replicate_succ, List.replicate_zero, List.cons_append, List.nil_append, List.append_nil, ne_eq, not_false_eq_true, not_true_eq_false, and_self, eq_self, and_true, and_false, false_and, true_and, reduceIte, if_true, if_false, reduceCtorEq, List.length_cons, List.length_nil, List.length_map, Fw.snoc_at, Fw.snoc_set, Fw.tyL_snoc, decide_eq_true_eq, Bool.and_true, Bool.true_and, Bool.and_false, Bool.false_and, Nat.reduceSub, Nat.reduceAdd, Int.reduceAdd, Int.reduceSub, Int.reduceMul, Int.reduceNeg, Int.reduceLT, Int.reduceLE, Int.reduceEq, Int.reduceMod, Int.reduceDiv, Int.reduceToNat, Nat.reduceEqDiff, row, v_pow6, z1', z2', hz, bg, e1, e2, e5]
        exact ⟨_, _, _, _, _, _, _, _, _, rfl, en0⟩
      | true =>
        obtain ⟨s, rfl, hs⟩ := n1 rfl
        obtain ⟨p, rfl, hp⟩ := n2 rfl
        have bg := begun_ok s p hs hp G
        have io := init_ok s p hs hp G
        have bl := blank_new s p hs hp G
        simp -implicitDefEqProofs (disch := (first | exact Fw.tyL_snoc _ | omega | assumption | ((try simp only [List.length_append, List.length_cons, List.length_nil, List.length_map, List.length_take, List.length_drop, List.length_range, List.length_replicate, Fw.tyL_snoc]); first | done | omega))) only [Fw.v_c, Fw.v_bin, Fw.v_un, Fw.v_and, Fw.v_or, Fw.v_not, Fw.v_ife, Fw.v_args, Fw.v_nil, Fw.v_cons, Fw.v_bm, Fw.v_frz, Fw.v_chain, Fw.v_slLU, Fw.v_slL, Fw.v_slU, Fw.v_lc, Fw.v_seq, Fw.v_snil, Fw.v_ret, Fw.v_retN, Fw.v_brk, Fw.v_cnt, Fw.v_do, Fw.v_asg, Fw.v_if, Fw.v_for, Fw.v_srcOf, Fw.v_srcA, Fw.v_fn, Fw.w_binL, Fw.w_binR, Fw.w_un, Fw.w_andT, Fw.w_andF, Fw.w_orT, Fw.w_orF, Fw.w_not, Fw.w_ifT, Fw.w_ifF, Fw.w_arg, Fw.w_consL, Fw.w_consR, Fw.w_bmA, Fw.w_bmS, Fw.w_bm, Fw.w_frz, Fw.w_ch0, Fw.w_ch1, Fw.w_ch2T, Fw.w_ch2F, Fw.w_sl1, Fw.w_sl2, Fw.w_sl3, Fw.w_slL1, Fw.w_slL2, Fw.w_slU1, Fw.w_slU2, Fw.w_seq, Fw.w_seqR, Fw.w_seqB, Fw.w_seqC, Fw.w_seqE, Fw.w_ret, Fw.w_do, Fw.w_asg, Fw.w_tg, Fw.w_sifT, Fw.w_sifF, Fw.w_gs, Fw.w_gsnil, Fw.w_gscons, Fw.w_for, Fw.w_src, Fw.w_srcA, Fw.w_src2, Fw.w_lc, Fw.w_endN, Fw.w_endR, Fw.w_endE, Fw.e_binL, Fw.e_binR, Fw.e_un, Fw.e_and, Fw.e_or, Fw.e_not, Fw.e_ife, Fw.e_arg, Fw.e_consL, Fw.e_consR, Fw.e_bmA, Fw.e_bm, Fw.e_ret, Fw.e_do, Fw.e_asg, Fw.e_if, Fw.e_for, Fw.e_src, Fw.e_srcA, Fw.v_x0, Fw.v_s0, Fw.v_x1, Fw.v_s1, Fw.v_x2, Fw.v_s2, Fw.v_x3, Fw.v_s3, Fw.v_x4, Fw.v_s4, Fw.v_x5, Fw.v_s5, Fw.v_x6, Fw.v_s6, Fw.v_x7, Fw.v_s7, Fw.v_x8, Fw.v_s8, Fw.v_x9, Fw.v_s9, Fw.v_x10, Fw.v_s10, Fw.v_x11, Fw.v_s11, Fw.v_x12, Fw.v_s12, Fw.v_x13, Fw.v_s13, Fw.v_x14, Fw.v_s14, Fw.v_x15, Fw.v_s15, Fw.v_x16, Fw.v_s16, Fw.v_x17, Fw.v_s17, Fw.v_x18, Fw.v_s18, Fw.v_x19, Fw.v_s19, Fw.v_x20, Fw.v_s20, Fw.v_x21, Fw.v_s21, Fw.v_x22, Fw.v_s22, Fw.v_x23, Fw.v_s23, Fw.v_x24, Fw.v_s24, Fw.v_x25, Fw.v_s25, Fw.v_unp1, Fw.v_unpL1, Fw.v_unp2, Fw.v_unpL2, Fw.v_unp3, Fw.v_unpL3, Fw.v_unp4, Fw.v_unpL4, Fw.v_unp5, Fw.v_unpL5, Fw.v_unp6, Fw.v_unpL6, Fw.v_unp7, Fw.v_unpL7, Fw.v_unp8, Fw.v_unpL8, Fw.v_addC, Fw.v_dic, Fw.v_zipL, Fw.v_addCS, Fw.v_strBB, Fw.v_strBN, Fw.v_strBS, Fw.v_joinC, Fw.v_fld, Fw.w_fld, Fw.v_sfld, Fw.w_sfld1, Fw.w_sfld2, Fw.v_meth, Fw.w_meth, Fw.w_argD, Fw.v_make, Fw.w_make, Fw.w_madeN, Fw.w_madeE, Fw.e_doE, Fw.w_setAt, Fw.v_raise, Fw.v_tryAs, Fw.v_tryMany, Fw.w_tryN, Fw.w_tryR, Fw.w_tryC, Fw.w_tryE, Fw.w_trmN, Fw.w_trmR, Fw.w_trmC, Fw.w_trmE, Fw.w_hdY, Fw.w_hdN, Fw.w_all, Fw.w_unN, Fw.w_unC, Fw.w_unR, Fw.w_unN0, Fw.w_unC0, Fw.w_isE, Fw.w_tabN, Fw.w_goN, Fw.w_goC, Fw.w_turn, Fw.v_lenli, Fw.v_ixli, Fw.v_lenT, Fw.v_addT, Fw.v_eqT, Fw.v_neT, Fw.v_eqI, Fw.v_neI, Fw.v_strN, Fw.v_strS, Fw.v_ord, Fw.v_appC, Fw.v_pow18, Fw.v_ixT, Fw.v_lst, Fw.v_tup, Fw.v_cel, Fw.v_appT, Fw.v_appL, Fw.v_rng1, Fw.v_enT, Fw.v_iT, Fw.v_iL, Fw.v_iTp, Fw.v_cutLTo, Fw.v_cutLFrom, Fw.v_wipe0, Fw.v_wipe1, Fw.w_te, Fw.v_cutTo, Fw.v_cutFrom, Fw.v_cutLast, Fw.v_splT, Fw.v_rsplT, Fw.v_rfindT, Fw.v_endsT, Fw.v_inT, Fw.v_notInT, Fw.v_joinT, Fw.v_tab, Fw.w_tabL, Fw.w_tabR, Fw.v_lstT, Fw.v_lstL, Fw.v_tupT, Fw.v_tupL, Fw.v_isBt, Fw.v_isBf, Fw.v_isBi, Fw.v_isBs, Fw.v_ixL0, Fw.v_ixL1, Fw.v_isTs, Fw.v_isTsI, Fw.v_isTsB, Fw.v_allB, Fw.v_all0, Fw.v_all1, Fw.v_all2, Fw.v_all3, Fw.v_all4, Fw.v_all5, Fw.v_all6, Fw.v_all7, Fw.v_all8, Fw.v_appT2, Fw.v_lz, Fw.v_castN, Fw.v_zpN, Fw.v_zpN2, Fw.v_zpC, Fw.v_intT, Fw.v_in2, Fw.v_lcNil, Fw.v_lcCons, Fw.w_lcT, Fw.w_lcCt, Fw.w_lcCf, Fw.w_lcE, Fw.v_yes, Fw.v_finF, Fw.v_loopNil, Fw.v_loopCons, Fw.w_restN, Fw.w_restC, Fw.w_restB, Fw.w_restR, Fw.o_lt, Fw.o_le, Fw.o_gt, Fw.o_ge, Fw.o_addI, Fw.o_sub, Fw.o_neg, Fw.o_mul, Fw.o_mod, Fw.o_div, Fw.f_intI, Fw.f_intB, Fw.f_max, Fw.f_min, Fw.f_lenL, Fw.f_lenT, decide_true, decide_false, Bool.not_true, Bool.not_false, List.map_cons, List.map_nil, List.set_cons_zero, List.set_cons_succ, List.drop_succ_cons, List.drop_zero, List.take_succ_cons, List.take_zero, List.replicate_succ, List.replicate_zero, List.cons_append, List.nil_append, List.append_nil, ne_eq, not_false_eq_true, not_true_eq_false, and_self, eq_self, and_true, and_false, false_and, true_and, reduceIte, if_true, if_false, reduceCtorEq, List.length_cons, List.length_nil, List.length_map, Fw.snoc_at, Fw.snoc_set, Fw.tyL_snoc, decide_eq_true_eq, Bool.and_true, Bool.true_and, Bool.and_false, Bool.false_and, Nat.reduceSub, Nat.reduceAdd, Int.reduceAdd, Int.reduceSub, Int.reduceMul, Int.reduceNeg, Int.reduceLT, Int.reduceLE, Int.reduceEq, Int.reduceMod, Int.reduceDiv, Int.reduceToNat, Nat.reduceEqDiff, row, v_pow6, z1', z2', hz, bg, e3, e4, e5, io, bl]
        exact ⟨_, _, _, _, _, _, _, _, _, rfl, en2 _⟩
  · rintro ρ' g' ⟨t1, t2, t3, t4, t5, t6, t7, t8, t9, rfl, g2, rfl⟩
    have i1 : ∀ G : Gr, m_Disk___init__ [.obj G.length, .int 3, .int 2] (G ++ [Cl.ins "Disk" []]) = .ok .non (G ++ dk G.length 3 2) := fun G => init_ok 3 2 (by omega) (by omega) G
    have i2 : ∀ G : Gr, m_Disk___init__ [.obj G.length, .int 16, .int 32] (G ++ [Cl.ins "Disk" []]) = .ok .non (G ++ dk G.length 16 32) := fun G => init_ok 16 32 (by omega) (by omega) G
    have b1 : ∀ G : Gr, m__law_blank [.obj G.length, .int 3, .int 2] (G ++ dk G.length 3 2) = .ok (.bl true) (G ++ dk G.length 3 2) := fun G => blank_new 3 2 (by omega) (by omega) G
    have b2 : ∀ G : Gr, m__law_blank [.obj G.length, .int 16, .int 32] (G ++ dk G.length 16 32) = .ok (.bl true) (G ++ dk G.length 16 32) := fun G => blank_new 16 32 (by omega) (by omega) G
    refine ⟨?_, ?_⟩
    rotate_left
    simp -implicitDefEqProofs (disch := (first | exact Fw.tyL_snoc _ | omega | assumption | ((try simp only [List.length_append, List.length_cons, List.length_nil, List.length_map, List.length_take, List.length_drop, List.length_range, List.length_replicate, Fw.tyL_snoc]); first | done | omega))) only [Fw.v_c, Fw.v_bin, Fw.v_un, Fw.v_and, Fw.v_or, Fw.v_not, Fw.v_ife, Fw.v_args, Fw.v_nil, Fw.v_cons, Fw.v_bm, Fw.v_frz, Fw.v_chain, Fw.v_slLU, Fw.v_slL, Fw.v_slU, Fw.v_lc, Fw.v_seq, Fw.v_snil, Fw.v_ret, Fw.v_retN, Fw.v_brk, Fw.v_cnt, Fw.v_do, Fw.v_asg, Fw.v_if, Fw.v_for, Fw.v_srcOf, Fw.v_srcA, Fw.v_fn, Fw.w_binL, Fw.w_binR, Fw.w_un, Fw.w_andT, Fw.w_andF, Fw.w_orT, Fw.w_orF, Fw.w_not, Fw.w_ifT, Fw.w_ifF, Fw.w_arg, Fw.w_consL, Fw.w_consR, Fw.w_bmA, Fw.w_bmS, Fw.w_bm, Fw.w_frz, Fw.w_ch0, Fw.w_ch1, Fw.w_ch2T, Fw.w_ch2F, Fw.w_sl1, Fw.w_sl2, Fw.w_sl3, Fw.w_slL1, Fw.w_slL2, Fw.w_slU1, Fw.w_slU2, Fw.w_seq, Fw.w_seqR, Fw.w_seqB, Fw.w_seqC, Fw.w_seqE, Fw.w_ret, Fw.w_do, Fw.w_asg, Fw.w_tg, Fw.w_sifT, Fw.w_sifF, Fw.w_gs, Fw.w_gsnil, Fw.w_gscons, Fw.w_for, Fw.w_src, Fw.w_srcA, Fw.w_src2, Fw.w_lc, Fw.w_endN, Fw.w_endR, Fw.w_endE, Fw.e_binL, Fw.e_binR, Fw.e_un, Fw.e_and, Fw.e_or, Fw.e_not, Fw.e_ife, Fw.e_arg, Fw.e_consL, Fw.e_consR, Fw.e_bmA, Fw.e_bm, Fw.e_ret, Fw.e_do, Fw.e_asg, Fw.e_if, Fw.e_for, Fw.e_src, Fw.e_srcA, Fw.v_x0, Fw.v_s0, Fw.v_x1, Fw.v_s1, Fw.v_x2, Fw.v_s2, Fw.v_x3, Fw.v_s3, Fw.v_x4, Fw.v_s4, Fw.v_x5, Fw.v_s5, Fw.v_x6, Fw.v_s6, Fw.v_x7, Fw.v_s7, Fw.v_x8, Fw.v_s8, Fw.v_x9, Fw.v_s9, Fw.v_x10, Fw.v_s10, Fw.v_x11, Fw.v_s11, Fw.v_x12, Fw.v_s12, Fw.v_x13, Fw.v_s13, Fw.v_x14, Fw.v_s14, Fw.v_x15, Fw.v_s15, Fw.v_x16, Fw.v_s16, Fw.v_x17, Fw.v_s17, Fw.v_x18, Fw.v_s18, Fw.v_x19, Fw.v_s19, Fw.v_x20, Fw.v_s20, Fw.v_x21, Fw.v_s21, Fw.v_x22, Fw.v_s22, Fw.v_x23, Fw.v_s23, Fw.v_x24, Fw.v_s24, Fw.v_x25, Fw.v_s25, Fw.v_unp1, Fw.v_unpL1, Fw.v_unp2, Fw.v_unpL2, Fw.v_unp3, Fw.v_unpL3, Fw.v_unp4, Fw.v_unpL4, Fw.v_unp5, Fw.v_unpL5, Fw.v_unp6, Fw.v_unpL6, Fw.v_unp7, Fw.v_unpL7, Fw.v_unp8, Fw.v_unpL8, Fw.v_addC, Fw.v_dic, Fw.v_zipL, Fw.v_addCS, Fw.v_strBB, Fw.v_strBN, Fw.v_strBS, Fw.v_joinC, Fw.v_fld, Fw.w_fld, Fw.v_sfld, Fw.w_sfld1, Fw.w_sfld2, Fw.v_meth, Fw.w_meth, Fw.w_argD, Fw.v_make, Fw.w_make, Fw.w_madeN, Fw.w_madeE, Fw.e_doE, Fw.w_setAt, Fw.v_raise, Fw.v_tryAs, Fw.v_tryMany, Fw.w_tryN, Fw.w_tryR, Fw.w_tryC, Fw.w_tryE, Fw.w_trmN, Fw.w_trmR, Fw.w_trmC, Fw.w_trmE, Fw.w_hdY, Fw.w_hdN, Fw.w_all, Fw.w_unN, Fw.w_unC, Fw.w_unR, Fw.w_unN0, Fw.w_unC0, Fw.w_isE, Fw.w_tabN, Fw.w_goN, Fw.w_goC, Fw.w_turn, Fw.v_lenli, Fw.v_ixli, Fw.v_lenT, Fw.v_addT, Fw.v_eqT, Fw.v_neT, Fw.v_eqI, Fw.v_neI, Fw.v_strN, Fw.v_strS, Fw.v_ord, Fw.v_appC, Fw.v_pow18, Fw.v_ixT, Fw.v_lst, Fw.v_tup, Fw.v_cel, Fw.v_appT, Fw.v_appL, Fw.v_rng1, Fw.v_enT, Fw.v_iT, Fw.v_iL, Fw.v_iTp, Fw.v_cutLTo, Fw.v_cutLFrom, Fw.v_wipe0, Fw.v_wipe1, Fw.w_te, Fw.v_cutTo, Fw.v_cutFrom, Fw.v_cutLast, Fw.v_splT, Fw.v_rsplT, Fw.v_rfindT, Fw.v_endsT, Fw.v_inT, Fw.v_notInT, Fw.v_joinT, Fw.v_tab, Fw.w_tabL, Fw.w_tabR, Fw.v_lstT, Fw.v_lstL, Fw.v_tupT, Fw.v_tupL, Fw.v_isBt, Fw.v_isBf, Fw.v_isBi, Fw.v_isBs, Fw.v_ixL0, Fw.v_ixL1, Fw.v_isTs, Fw.v_isTsI, Fw.v_isTsB, Fw.v_allB, Fw.v_all0, Fw.v_all1, Fw.v_all2, Fw.v_all3, Fw.v_all4, Fw.v_all5, Fw.v_all6, Fw.v_all7, Fw.v_all8, Fw.v_appT2, Fw.v_lz, Fw.v_castN, Fw.v_zpN, Fw.v_zpN2, Fw.v_zpC, Fw.v_intT, Fw.v_in2, Fw.v_lcNil, Fw.v_lcCons, Fw.w_lcT, Fw.w_lcCt, Fw.w_lcCf, Fw.w_lcE, Fw.v_yes, Fw.v_finF, Fw.v_loopNil, Fw.v_loopCons, Fw.w_restN, Fw.w_restC, Fw.w_restB, Fw.w_restR, Fw.o_lt, Fw.o_le, Fw.o_gt, Fw.o_ge, Fw.o_addI, Fw.o_sub, Fw.o_neg, Fw.o_mul, Fw.o_mod, Fw.o_div, Fw.f_intI, Fw.f_intB, Fw.f_max, Fw.f_min, Fw.f_lenL, Fw.f_lenT, decide_true, decide_false, Bool.not_true, Bool.not_false, List.map_cons, List.map_nil, List.set_cons_zero, List.set_cons_succ, List.drop_succ_cons, List.drop_zero, List.take_succ_cons, List.take_zero, List.replicate_succ, List.replicate_zero, List.cons_append, List.nil_append, List.append_nil, ne_eq, not_false_eq_true, not_true_eq_false, and_self, eq_self, and_true, and_false, false_and, true_and, reduceIte, if_true, if_false, reduceCtorEq, List.length_cons, List.length_nil, List.length_map, Fw.snoc_at, Fw.snoc_set, Fw.tyL_snoc, decide_eq_true_eq, Bool.and_true, Bool.true_and, Bool.and_false, Bool.false_and, Nat.reduceSub, Nat.reduceAdd, Int.reduceAdd, Int.reduceSub, Int.reduceMul, Int.reduceNeg, Int.reduceLT, Int.reduceLE, Int.reduceEq, Int.reduceMod, Int.reduceDiv, Int.reduceToNat, Nat.reduceEqDiff, i1, i2, b1, b2]
    rw [List.append_assoc, List.append_assoc]
end Ww

set_option maxRecDepth 100000
set_option maxHeartbeats 0
/-! law_k16_no_disks: the head (printed by gen.py). -/
namespace Ww
open PySem PySem.Spec PyProof.Rows L2 Fw
abbrev RowR : PySem.W.OpenRow := PySem.W.OpenLaw.row PySem.Challenge.rw_cleanrows_k16_no_disks
abbrev hkX : PySem.W.Hook := He.hookX 4 fa fn ts [] ex
def obX (s : PySem.W.SharedT) : He.AlX := He.obsX 4 fa fn ts [] ex (HandSHeadRun.getT s)
theorem obX_eq (s : PySem.W.SharedT) : obX s = hkX.obs s.abs := He.obsX_eq (HandSHeadRun.getT_eq s)
def looseN : List Str := (["_wall", "__name__", "CleanError", "NoRow", "NoDisk", "Full", "Stopped", "NoFile", "NoPlace", "HeldAlready", "NotHeld", "NoFiles", "NoMark", "NoRoom", "Gone", "NotClosed", "NotBlank", "NoDeed", "NoHouse", "FEWEST_STRETCHES", "MOST_STRETCHES", "FEWEST_PLACES", "MOST_PLACES", "is_size", "Disk", "_law_at", "_law_mixed", "_law_row", "_law_size", "_law_kinds"] : List Str) ++ (["_law_begun", "_law_blank"] : List Str)
theorem runX (w : World) : HandSHeadRun.RunEq RowR (PySem.W.view RowR.prog [34]) hkX obX 40000 looseN w :=
  PySem.W.byRow2 "special-get-raises" (P := fun w => HandSHeadRun.RunEq RowR (PySem.W.view RowR.prog [34]) hkX obX 40000 looseN w) (fun w => by intro os; kernel_rfl) (fun w => by intro os; kernel_rfl) w
theorem lawX {P : Program} {w : World} {K : PySem.W.Frag} {h : Heap} {mg : Str → Option Value} {f : Addr} (KX : K.In h) (G : h.Ns mainGlobals mg) (hf : mg ("law" : Str) = some (.ref f)) (c : Says w h K) :
    ∃ fd : FuncData, (∀ (s : Shared) (v : Value), BindsTo s fd ⟨[v], []⟩ [("_law_script", v)]) ∧ ∀ base : Heap, K.In base → base.Ns mainGlobals mg → FnM P w K mg base none 5 f fd ["_law_script"] (spM K 1 m_law) := by
  obtain ⟨fd, F⟩ := c.t.d.def_ 14 (d := d_law) rfl
  have e := hf.symm.trans (He.glo_ok KX G (c.t.d.fact 54 rfl))
  cases e
  have b := FunD.bindsA (ps := ["_law_script"]) F fun _ _ _ _ _ _ us hl => match us, hl with | [_], _ => rfl
  refine ⟨fd, fun s v => b s [v] rfl, fun base _ _ => ?_⟩
  exact fnm_pure (fnm_of F sc_law (vi := [0, 1, 2, 3, 4, 5, 6, 7, 8, 9]) (ow := [0, 1, 2, 3, 4, 5, 6, 7, 8, 9]) (gl := ["range", "len", "min", "max", "_law_row", "_law_size", "int", "repr", "_law_begun", "_law_blank", "Disk"]) (by kernel_rfl) fun X W C => rb_law c KX G C)
end Ww
open PySem PySem.W PySem.Calls PyProof.Rows
theorem Ww.holds_of (hm : ∀ ns : List Int, ns.length ≤ 63 → (∀ z ∈ ns, Builtin.Int.intBits z ≤ 1048576) → ∃ g', Ww.m_law [.lst (ns.map .int)] [] = .ok (.bl true) g') : PySem.Challenge.rw_cleanrows_k16_no_disks.Holds := by
  w_on; o_law
  refine HandSHeadRun.head_any (r := OpenLaw.row PySem.Challenge.rw_cleanrows_k16_no_disks) (q := view (OpenLaw.row PySem.Challenge.rw_cleanrows_k16_no_disks).prog [34]) (H := Ww.hkX) (ob := Ww.obX) (M := 40000) (loose := Ww.looseN) (d := HandSHeadRun.topDef (OpenLaw.row PySem.Challenge.rw_cleanrows_k16_no_disks).prog 34) (kwd := []) Ww.obX_eq
    (by kernel_rfl) (fun s => by kernel_rfl) Ww.runX (by kernel_rfl) (by kernel_rfl) (by kernel_rfl) (by rfl) (by first | assumption | decide +kernel) (by decide +kernel) ⟨rfl, rfl, rfl, rfl, rfl, by decide +kernel⟩ ?hw ?hc
  case hw => w_witness2
  case hc =>
    refine Fw.walk_ofM (l := PySem.Challenge.rw_cleanrows_k16_no_disks) (n := 63) (k := 5) (x := "_law_script") (m := Ww.m_law) rfl (by decide) (by kernel_rfl) ⟨by decide, by decide, rfl⟩ ?F hm
    intro w mg fa h Y G hmg0
    obtain ⟨K, KX, c⟩ := Y
    have hmg : mg ("law" : PySem.Str) = some (.ref fa) := by
      have e : (HandSHeadRun.topDef (OpenLaw.row PySem.Challenge.rw_cleanrows_k16_no_disks).prog 34).name = ("law" : PySem.Str) := by kernel_rfl
      rw [← e]
      exact hmg0
    obtain ⟨fd, hb, hF⟩ := Ww.lawX (P := (PySem.Challenge.rw_cleanrows_k16_no_disks).prog) (w := w) KX G hmg c
    exact ⟨K, fd, KX, by have e := c.more; simp only [Ww.ex, Bool.and_eq_true] at e; exact e.1, hb, hF⟩

theorem PySem.Challenge.cw_cleanrows_k16_no_disks_holds : PySem.Challenge.rw_cleanrows_k16_no_disks.Holds := by
  exact Ww.holds_of fun ns _ _ => ⟨[], Ww.law_ok ns []⟩
