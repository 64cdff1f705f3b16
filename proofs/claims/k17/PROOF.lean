import PyProof.Rows.All
import Wide.All
import OpenK.AllK
import Wide.FinOn
import HandS.ForMost
import HandS.Exc
import HandS.TryOnly
import HandS.ExcOwn
import HandS.WordsExc
import HandS.IsInst
import HandS.Style
import HandS.Flow
import HandS.Lambda
import HandS.EndTab
import HandS.ExcInit
import HandS.More
import PySem.Challenge.RW_selfprint_k17_whole_kinds_of_nodes_and_p
import KE.KStateDown
import Lean
import HandS.Head0
import HandS.Head1
import HandS.Head2
import HandS.HeadEnd
import HandS.HeadHook1
import HandS.HeadHook2
import HandS.HeadHook3
import HandS.HeadHook4
import KE.GoesMore
import KE.GoesEnum
import PyProof.ReprRoads
import HandS.Sort
import KE.KSortKeyAny
import PyProof.NsMap
import KE.KRevSl
import KE.KExcInit
import PyProof.ExcBaseAll.RuntimeError
import HandS.Small
import HandS.EndBits
set_option Elab.async false
set_option linter.all false
set_option maxRecDepth 100000
/-! K1: the text by places, the data (kinds, nodes, terms), how they lie in the abstract heap, short rules. -/
namespace K17
open PySem L2
def top (i : Nat) : Stmt := PySem.Challenge.pw_selfprint_k17_whole_kinds_of_nodes_and_p.main.body.getD i (.Pass ⟨0, 0, 0, 0⟩)

/-! ### words -/
inductive Wd where
  | name | told | fn | call | both | first | second | left | right | which | next | turns | lt | pair | sum | letter | count
  deriving DecidableEq
def Wd.s : Wd → Str
  | .name => "name" | .told => "told" | .fn => "fun" | .call => "call" | .both => "both" | .first => "first" | .second => "second" | .left => "left" | .right => "right"
  | .which => "which" | .next => "next" | .turns => "turns" | .lt => "let" | .pair => "pair" | .sum => "sum" | .letter => "letter" | .count => "count"
def Wd.all : List Wd := [.name, .told, .fn, .call, .both, .first, .second, .left, .right, .which, .next, .turns, .lt, .pair, .sum, .letter, .count]
theorem Wd.mem (a : Wd) : a ∈ Wd.all := by cases a <;> decide
theorem Wd.sep : (Wd.all.all fun a => Wd.all.all fun b => decide (a.s = b.s) == decide (a = b)) = true := by decide +kernel
theorem Wd.dec (a b : Wd) : decide (a.s = b.s) = decide (a = b) := by
  have h1 := List.all_eq_true.mp Wd.sep a a.mem
  have h2 := List.all_eq_true.mp h1 b b.mem
  exact eq_of_beq h2
theorem Wd.inj {a b : Wd} (h : a.s = b.s) : a = b := by
  have e := Wd.dec a b
  rw [decide_eq_true h] at e
  exact of_decide_eq_true e.symm
theorem decS (a b : Str) : decide (V.str a = V.str b) = decide (a = b) := by
  by_cases e : a = b
  · subst e; simp
  · have h : ¬ V.str a = V.str b := fun q => e (V.str.inj q)
    rw [decide_eq_false h, decide_eq_false e]
theorem decW (a b : Wd) : decide (V.str a.s = V.str b.s) = decide (a = b) := by rw [decS, Wd.dec]

/-! ### kinds -/
inductive Bw where
  | pair | sum | fn
  deriving DecidableEq
def Bw.w : Bw → Wd
  | .pair => .pair | .sum => .sum | .fn => .fn
inductive Kd where
  | ltr (b : Bool)
  | cnt
  | br (w : Bw) (a b : Kd)
  deriving DecidableEq
def lv (b : Bool) : Int := if b then 1 else 0
def Kd.size : Kd → Nat
  | .br _ a b => 1 + a.size + b.size
  | _ => 1
def Kd.deep : Kd → Nat
  | .br _ a b => 1 + max a.deep b.deep
  | _ => 1
def dK : Kd → PyData
  | .ltr b => .tuple [.str Wd.letter.s, .int (lv b)]
  | .cnt => .tuple [.str Wd.count.s]
  | .br w a b => .tuple [.str w.w.s, dK a, dK b]
def dO : Option Kd → PyData
  | none => .none
  | some k => dK k
def dRow : List Kd → PyData
  | [] => .none
  | k :: r => .tuple [dK k, dRow r]
/-- not too many signs, not too deep -/
def okK (k : Kd) : Bool := decide (k.size ≤ 60 ∧ k.deep ≤ 12)
def Kd.put (l : Bool) (o : Kd) : Kd → Kd
  | .ltr b => if b = l then o else .ltr b
  | .cnt => .cnt
  | .br w a b => .br w (Kd.put l o a) (Kd.put l o b)

/-! ### nodes -/
inductive Nd where
  | nm (i : Nat) | told (n : Nat) | toldT | fn (k : Kd) | call | both | first | second | left (k : Kd) | right (k : Kd) | which | next | turns (k : Kd) | lt
  deriving DecidableEq
def Nd.w : Nd → Wd
  | .nm _ => .name | .told _ => .told | .toldT => .told | .fn _ => .fn | .call => .call | .both => .both | .first => .first | .second => .second | .left _ => .left | .right _ => .right
  | .which => .which | .next => .next | .turns _ => .turns | .lt => .lt
def Nd.arg : Nd → List PyData
  | .nm i => [.int i] | .told n => [.int n] | .toldT => [.bool true] | .fn k => [dK k] | .left k => [dK k] | .right k => [dK k] | .turns k => [dK k]
  | _ => []
def dN (n : Nd) : PyData := .tuple (.str n.w.s :: n.arg)
def binds : Wd → List Nat
  | .fn => [1] | .call => [0, 0] | .both => [0, 0] | .first => [0] | .second => [0] | .left => [0] | .right => [0] | .which => [0, 1, 1] | .next => [0] | .turns => [0, 1, 0] | .lt => [0, 1]
  | _ => []

/-! ### what lies in the abstract heap -/
/-- what holds no object that may change -/
def Tl : HO → Bool
  | .tup _ => true | .frz _ _ => true
  | _ => false
/-- the tuples stay -/
def TK (H H' : Hp) : Prop := ∀ b o, H b = some o → Tl o = true → H' b = some o
/-- all stays but what stands at p -/
def SB (p : Addr) (H H' : Hp) : Prop := ∀ b o, b ≠ p → H b = some o → H' b = some o
theorem TK.of {H H' : Hp} (h : Same H H') : TK H H' := fun b o e _ => h b o e
theorem TK.trans {H H1 H2 : Hp} (a : TK H H1) (b : TK H1 H2) : TK H H2 := fun c o e t => b c o (a c o e t) t
theorem TK.refl (H : Hp) : TK H H := fun _ _ e _ => e
theorem SB.of {p : Addr} {H H' : Hp} (h : Same H H') : SB p H H' := fun b o _ e => h b o e
theorem SB.refl (p : Addr) (H : Hp) : SB p H H := fun _ _ _ e => e
theorem SB.trans {p : Addr} {H H1 H2 : Hp} (a : SB p H H1) (b : SB p H1 H2) : SB p H H2 := fun c o n e => b c o n (a c o n e)
theorem SB.upd {p : Addr} {H : Hp} (o : HO) : SB p H (L2.upd H p o) := fun b _ n e => by rw [upd_ne n]; exact e
theorem SB.tk {p : Addr} {H H' : Hp} (h : SB p H H') {o : HO} (e : H p = some o) (t : Tl o = false) : TK H H' := fun b u q tu => h b u (fun z => by
  rw [z, e] at q
  rw [← Option.some.inj q, t] at tu
  cases tu) q
theorem Same.new {H : Hp} {p : Addr} (h : H p = none) (o : HO) : Same H (L2.upd H p o) := fun b u q => by rw [upd_ne (ne_of_none q h)]; exact q
theorem TK.upd {H : Hp} {p : Addr} {o : HO} (e : H p = some o) (t : Tl o = false) (u : HO) : TK H (L2.upd H p u) := SB.tk (SB.upd u) e t
theorem Same.upd {H H1 : Hp} {p : Addr} (s : Same H H1) (h : H p = none) (o : HO) : Same H (L2.upd H1 p o) := fun b u q => by rw [upd_ne (ne_of_none q h)]; exact s b u q

section
variable {K : PySem.W.Frag} {H H' : Hp}
theorem Rd.same {a : Addr} {u : HO} (s : Same H H') (h : Rd H a u) : Rd H' a u := by
  rcases h with h | ⟨o, h⟩
  · exact .inl (s _ _ h)
  · exact .inr ⟨o, s _ _ h⟩
theorem SqL.same {a : Addr} {xs : List V} (s : Same H H') (h : SqL K H a xs) : SqL K H' a xs := by
  rcases h with h | h
  · exact .inl (Rd.same s h)
  · exact .inr h
theorem SqT.tk {a : Addr} {xs : List V} (s : TK H H') (h : SqT K H a xs) : SqT K H' a xs := by
  rcases h with (h | ⟨o, h⟩) | h
  · exact .inl (.inl (s _ _ h rfl))
  · exact .inl (.inr ⟨o, s _ _ h rfl⟩)
  · exact .inr h
theorem SqT.same {a : Addr} {xs : List V} (s : Same H H') (h : SqT K H a xs) : SqT K H' a xs := SqT.tk (TK.of s) h
theorem SqL.sb {p a : Addr} {xs : List V} (s : SB p H H') (n : a ≠ p) (h : SqL K H a xs) : SqL K H' a xs := by
  rcases h with (h | ⟨o, h⟩) | h
  · exact .inl (.inl (s _ _ n h))
  · exact .inl (.inr ⟨o, s _ _ n h⟩)
  · exact .inr h
mutual
theorem Dp.same (s : Same H H') : ∀ (d : PyData) (v : V), Dp K H v d → Dp K H' v d
  | .none, _, h => by cases h; exact .non
  | .bool b, _, h => by cases h; exact .bl b
  | .int i, _, h => by cases h; exact .int i
  | .str x, _, h => by cases h; exact .str x
  | .list ds, _, h => by
    cases h with
    | lst hs ha => exact .lst (SqL.same s hs) (DpAll.same s ds _ ha)
  | .tuple ds, _, h => by
    cases h with
    | tup hs ha => exact .tup (SqT.same s hs) (DpAll.same s ds _ ha)
  | .dict _, _, h => by cases h
theorem DpAll.same (s : Same H H') : ∀ (ds : List PyData) (vs : List V), DpAll K H vs ds → DpAll K H' vs ds
  | [], _, h => by cases h; exact .nil
  | d :: ds, _, h => by
    cases h with
    | cons h1 h2 => exact .cons (Dp.same s d _ h1) (DpAll.same s ds _ h2)
end
mutual
/-- no list within -/
def noL : PyData → Bool
  | .list _ => false
  | .tuple ds => noLs ds
  | _ => true
def noLs : List PyData → Bool
  | [] => true
  | d :: ds => noL d && noLs ds
end
mutual
theorem Dp.tk (s : TK H H') : ∀ (d : PyData) (v : V), noL d = true → Dp K H v d → Dp K H' v d
  | .none, _, _, h => by cases h; exact .non
  | .bool b, _, _, h => by cases h; exact .bl b
  | .int i, _, _, h => by cases h; exact .int i
  | .str x, _, _, h => by cases h; exact .str x
  | .list ds, _, n, h => by simp [noL] at n
  | .tuple ds, _, n, h => by
    cases h with
    | tup hs ha => exact .tup (SqT.tk s hs) (DpAll.tk s ds _ (by simpa [noL] using n) ha)
  | .dict _, _, _, h => by cases h
theorem DpAll.tk (s : TK H H') : ∀ (ds : List PyData) (vs : List V), noLs ds = true → DpAll K H vs ds → DpAll K H' vs ds
  | [], _, _, h => by cases h; exact .nil
  | d :: ds, _, n, h => by
    cases h with
    | cons h1 h2 =>
      have n' : noL d = true ∧ noLs ds = true := by simpa [noLs] using n
      exact .cons (Dp.tk s d _ n'.1 h1) (DpAll.tk s ds _ n'.2 h2)
end
theorem noL_dK : ∀ k : Kd, noL (dK k) = true
  | .ltr _ => rfl
  | .cnt => rfl
  | .br _ a b => by simp [dK, noL, noLs, noL_dK a, noL_dK b]
theorem noL_dO : ∀ k : Option Kd, noL (dO k) = true
  | none => rfl
  | some k => noL_dK k
theorem noL_dRow : ∀ r : List Kd, noL (dRow r) = true
  | [] => rfl
  | k :: r => by simp [dRow, noL, noLs, noL_dK k, noL_dRow r]
theorem noL_dN (n : Nd) : noL (dN n) = true := by cases n <;> simp [dN, Nd.arg, noL, noLs, noL_dK]
abbrev KAt (K : PySem.W.Frag) (H : Hp) (v : V) (k : Kd) : Prop := Dp K H v (dK k)
abbrev NAt (K : PySem.W.Frag) (H : Hp) (v : V) (n : Nd) : Prop := Dp K H v (dN n)
abbrev KsAt (K : PySem.W.Frag) (H : Hp) (vs : List V) (ks : List Kd) : Prop := DpAll K H vs (ks.map dK)
abbrev NsAt (K : PySem.W.Frag) (H : Hp) (vs : List V) (ns : List Nd) : Prop := DpAll K H vs (ns.map dN)
theorem noL_ks : ∀ ks : List Kd, noLs (ks.map dK) = true
  | [] => rfl
  | k :: r => by simp [noLs, noL_dK k, noL_ks r]
theorem noL_ns : ∀ ns : List Nd, noLs (ns.map dN) = true
  | [] => rfl
  | k :: r => by simp [noLs, noL_dN k, noL_ns r]
theorem KAt.tk {v : V} {k : Kd} (h : KAt K H v k) (s : TK H H') : KAt K H' v k := Dp.tk s _ _ (noL_dK k) h
theorem NAt.tk {v : V} {n : Nd} (h : NAt K H v n) (s : TK H H') : NAt K H' v n := Dp.tk s _ _ (noL_dN n) h
theorem KsAt.tk {v : List V} {k : List Kd} (h : KsAt K H v k) (s : TK H H') : KsAt K H' v k := DpAll.tk s _ _ (noL_ks k) h
theorem NsAt.tk {v : List V} {n : List Nd} (h : NsAt K H v n) (s : TK H H') : NsAt K H' v n := DpAll.tk s _ _ (noL_ns n) h
theorem DpAll.length : ∀ {vs : List V} {ds : List PyData}, DpAll K H vs ds → vs.length = ds.length
  | _, _, .nil => rfl
  | _, _, .cons _ t => congrArg Nat.succ (DpAll.length t)
theorem DpAll.app : ∀ {vs ws : List V} {ds es : List PyData}, DpAll K H vs ds → DpAll K H ws es → DpAll K H (vs ++ ws) (ds ++ es)
  | _, _, _, _, .nil, h => h
  | _, _, _, _, .cons a t, h => .cons a (DpAll.app t h)
theorem DpAll.get : ∀ {vs : List V} {ds : List PyData} {i : Nat} {d : PyData}, DpAll K H vs ds → ds[i]? = some d → ∃ v, vs[i]? = some v ∧ Dp K H v d
  | _, _, _, _, .nil, e => by simp at e
  | _, _, 0, _, .cons a _, e => by
    simp at e
    subst e
    exact ⟨_, rfl, a⟩
  | _, _, i + 1, _, .cons _ t, e => by
    obtain ⟨v, h1, h2⟩ := DpAll.get (i := i) t (by simpa using e)
    exact ⟨v, by simpa using h1, h2⟩
theorem DpAll.get' : ∀ {vs : List V} {ds : List PyData} {i : Nat} {v : V}, DpAll K H vs ds → vs[i]? = some v → ∃ d, ds[i]? = some d ∧ Dp K H v d
  | _, _, _, _, .nil, e => by simp at e
  | _, _, 0, _, .cons a _, e => by
    simp at e
    subst e
    exact ⟨_, rfl, a⟩
  | _, _, i + 1, _, .cons _ t, e => by
    obtain ⟨v, h1, h2⟩ := DpAll.get' (i := i) t (by simpa using e)
    exact ⟨v, by simpa using h1, h2⟩
theorem DpAll.drop : ∀ {vs : List V} {ds : List PyData} (n : Nat), DpAll K H vs ds → DpAll K H (vs.drop n) (ds.drop n)
  | _, _, 0, h => h
  | _, _, _ + 1, .nil => .nil
  | _, _, n + 1, .cons _ t => DpAll.drop n t
theorem DpAll.take : ∀ {vs : List V} {ds : List PyData} (n : Nat), DpAll K H vs ds → DpAll K H (vs.take n) (ds.take n)
  | _, _, 0, _ => .nil
  | _, _, _ + 1, .nil => .nil
  | _, _, n + 1, .cons a t => .cons a (DpAll.take n t)
theorem DpAll.rev : ∀ {vs : List V} {ds : List PyData}, DpAll K H vs ds → DpAll K H vs.reverse ds.reverse
  | _, _, .nil => .nil
  | _, _, .cons a t => by
    rw [List.reverse_cons, List.reverse_cons]
    exact DpAll.app (DpAll.rev t) (.cons a .nil)
theorem KsAt.length {vs : List V} {ks : List Kd} (h : KsAt K H vs ks) : vs.length = ks.length := by
  have := DpAll.length h
  rwa [List.length_map] at this
theorem NsAt.length {vs : List V} {ks : List Nd} (h : NsAt K H vs ks) : vs.length = ks.length := by
  have := DpAll.length h
  rwa [List.length_map] at this
theorem KsAt.get {vs : List V} {ks : List Kd} {i : Nat} {k : Kd} (h : KsAt K H vs ks) (e : ks[i]? = some k) : ∃ v, vs[i]? = some v ∧ KAt K H v k :=
  DpAll.get h (by rw [List.getElem?_map, e]; rfl)
theorem NsAt.get {vs : List V} {ks : List Nd} {i : Nat} {k : Nd} (h : NsAt K H vs ks) (e : ks[i]? = some k) : ∃ v, vs[i]? = some v ∧ NAt K H v k :=
  DpAll.get h (by rw [List.getElem?_map, e]; rfl)
theorem NsAt.get' {vs : List V} {ks : List Nd} {i : Nat} {v : V} (h : NsAt K H vs ks) (e : vs[i]? = some v) : ∃ k, ks[i]? = some k ∧ NAt K H v k := by
  obtain ⟨d, e1, e2⟩ := DpAll.get' h e
  rw [List.getElem?_map] at e1
  cases q : ks[i]? with
  | none => rw [q] at e1; cases e1
  | some k =>
    rw [q] at e1
    cases e1
    exact ⟨k, rfl, e2⟩
theorem KsAt.get' {vs : List V} {ks : List Kd} {i : Nat} {v : V} (h : KsAt K H vs ks) (e : vs[i]? = some v) : ∃ k, ks[i]? = some k ∧ KAt K H v k := by
  obtain ⟨d, e1, e2⟩ := DpAll.get' h e
  rw [List.getElem?_map] at e1
  cases q : ks[i]? with
  | none => rw [q] at e1; cases e1
  | some k =>
    rw [q] at e1
    cases e1
    exact ⟨k, rfl, e2⟩

theorem DpAll.snoc : ∀ {ds : List PyData} {d : PyData} {xs : List V}, DpAll K H xs (ds ++ [d]) → ∃ ys y, xs = ys ++ [y] ∧ DpAll K H ys ds ∧ Dp K H y d
  | [], d, xs, h => by
    cases h with
    | cons h1 h2 =>
      cases h2
      exact ⟨[], _, rfl, .nil, h1⟩
  | e :: ds, d, xs, h => by
    cases h with
    | cons h1 h2 =>
      obtain ⟨ys, y, rfl, h3, h4⟩ := DpAll.snoc (ds := ds) h2
      exact ⟨_ :: ys, y, rfl, .cons h1 h3, h4⟩
/-! ### kinds and nodes as objects -/
theorem KAt.ltr {v : V} {b : Bool} (h : KAt K H v (.ltr b)) : ∃ a, v = .ref a ∧ SqT K H a [.str Wd.letter.s, .int (lv b)] := by
  have h' : Dp K H v (.tuple [.str Wd.letter.s, .int (lv b)]) := h
  cases h' with
  | tup hs ha =>
    cases ha with
    | cons h1 h2 =>
      cases h2 with
      | cons h3 h4 =>
        cases h4
        cases h1
        cases h3
        exact ⟨_, rfl, hs⟩
theorem KAt.cnt {v : V} (h : KAt K H v .cnt) : ∃ a, v = .ref a ∧ SqT K H a [.str Wd.count.s] := by
  have h' : Dp K H v (.tuple [.str Wd.count.s]) := h
  cases h' with
  | tup hs ha =>
    cases ha with
    | cons h1 h2 =>
      cases h2
      cases h1
      exact ⟨_, rfl, hs⟩
theorem KAt.br {v : V} {w : Bw} {p q : Kd} (h : KAt K H v (.br w p q)) : ∃ a x y, v = .ref a ∧ SqT K H a [.str w.w.s, x, y] ∧ KAt K H x p ∧ KAt K H y q := by
  have h' : Dp K H v (.tuple [.str w.w.s, dK p, dK q]) := h
  cases h' with
  | tup hs ha =>
    cases ha with
    | cons h1 h2 =>
      cases h2 with
      | cons h3 h4 =>
        cases h4 with
        | cons h5 h6 =>
          cases h6
          cases h1
          exact ⟨_, _, _, rfl, hs, h3, h5⟩
theorem KAt.mk_ltr {a : Addr} {b : Bool} (h : SqT K H a [.str Wd.letter.s, .int (lv b)]) : KAt K H (.ref a) (.ltr b) := .tup h (.cons (.str _) (.cons (.int _) .nil))
theorem KAt.mk_cnt {a : Addr} (h : SqT K H a [.str Wd.count.s]) : KAt K H (.ref a) .cnt := .tup h (.cons (.str _) .nil)
theorem KAt.mk_br {a : Addr} {w : Bw} {x y : V} {p q : Kd} (h : SqT K H a [.str w.w.s, x, y]) (hx : KAt K H x p) (hy : KAt K H y q) : KAt K H (.ref a) (.br w p q) := .tup h (.cons (.str _) (.cons hx (.cons hy .nil)))
/-- any kind is a tuple whose first place is a word -/
theorem KAt.tup {v : V} {k : Kd} (h : KAt K H v k) : ∃ a w r, v = .ref a ∧ SqT K H a (.str w :: r) := by
  cases k with
  | ltr b =>
    obtain ⟨a, e, hs⟩ := h.ltr
    exact ⟨a, _, _, e, hs⟩
  | cnt =>
    obtain ⟨a, e, hs⟩ := h.cnt
    exact ⟨a, _, _, e, hs⟩
  | br w p q =>
    obtain ⟨a, x, y, e, hs, _⟩ := h.br
    exact ⟨a, _, _, e, hs⟩
theorem NAt.tup {v : V} {n : Nd} (h : NAt K H v n) : ∃ a r, v = .ref a ∧ SqT K H a (.str n.w.s :: r) ∧ DpAll K H r n.arg := by
  have h' : Dp K H v (.tuple (.str n.w.s :: n.arg)) := h
  cases h' with
  | tup hs ha =>
    cases ha with
    | cons h1 h2 =>
      cases h1
      exact ⟨_, _, rfl, hs, h2⟩
theorem DpAll.one {r : List V} {d : PyData} (h : DpAll K H r [d]) : ∃ v, r = [v] ∧ Dp K H v d := by
  cases h with
  | cons h1 h2 =>
    cases h2
    exact ⟨_, rfl, h1⟩
theorem DpAll.nil' {r : List V} (h : DpAll K H r []) : r = [] := by
  cases h
  rfl
theorem Dp.int' {v : V} {i : Int} (h : Dp K H v (.int i)) : v = .int i := by cases h; rfl
theorem Dp.bl' {v : V} {i : Bool} (h : Dp K H v (.bool i)) : v = .bl i := by cases h; rfl
theorem Dp.non' {v : V} (h : Dp K H v .none) : v = .non := by cases h; rfl
theorem dRow_cons {v : V} {k : Kd} {r : List Kd} (h : Dp K H v (dRow (k :: r))) : ∃ a x y, v = .ref a ∧ SqT K H a [x, y] ∧ KAt K H x k ∧ Dp K H y (dRow r) := by
  have h' : Dp K H v (.tuple [dK k, dRow r]) := h
  cases h' with
  | tup hs ha =>
    cases ha with
    | cons h1 h2 =>
      cases h2 with
      | cons h3 h4 =>
        cases h4
        exact ⟨_, _, _, rfl, hs, h1, h3⟩
end
end K17
/-! KD: what the head is asked. -/
namespace K17
open PySem PySem.Spec PyProof.Rows L2
/-- a class of that line, at C, found in a look -/
def nkIn (K : PySem.W.Frag) (C : Addr) : Bool := match K.lookup C with
  | some ⟨.type "type", _, .cls cd, sl⟩ => (match cd.mro, sl.toList with
    | [.ref D, .ref _, .type t1, .type t2, .type t3, .type t4], [_, _, _, _, some (.builtin n), _] => D == C && n == "RuntimeError.__new__" && !cd.hasDel && cd.hasDict && t1 == "RuntimeError" && t2 == "Exception" && t3 == "BaseException" && t4 == "object"
    | _, _ => false)
  | _ => false
/-- the defs of the top that the law reaches, by their places -/
def defL : List (Str × Nat) := [(Str.ofString "is_integer", 12), (Str.ofString "is_count", 13), (Str.ofString "is_list", 14), (Str.ofString "is_letter_word", 26), (Str.ofString "is_letter", 27), (Str.ofString "is_leaf", 25), (Str.ofString "is_branch", 28), (Str.ofString "is_kind", 29), (Str.ofString "want_kind", 30), (Str.ofString "want_letter", 31), (Str.ofString "want_at_most", 15), (Str.ofString "signs_of", 32), (Str.ofString "depth_of", 33), (Str.ofString "letters_in", 34), (Str.ofString "put_letter", 35), (Str.ofString "put_letter_told", 36), (Str.ofString "put_kind", 37), (Str.ofString "_law_signs", 80), (Str.ofString "_law_deep", 81), (Str.ofString "_law_put", 82), (Str.ofString "is_node", 46), (Str.ofString "are_tree", 47), (Str.ofString "is_term", 48), (Str.ofString "want_term", 49), (Str.ofString "letters_put", 50), (Str.ofString "kind_in", 57), (Str.ofString "kind_of_leaf", 58), (Str.ofString "kind_of_part", 59), (Str.ofString "kind_of_call", 60), (Str.ofString "kind_of_turns", 61), (Str.ofString "kind_of_few", 62), (Str.ofString "kind_by", 63), (Str.ofString "bound_kind", 64), (Str.ofString "are_names", 54), (Str.ofString "want_names", 55), (Str.ofString "row_of", 56), (Str.ofString "next_row", 66), (Str.ofString "finished", 67), (Str.ofString "kinds_of", 68), (Str.ofString "fitting_kinds", 69), (Str.ofString "kind_of", 70), (Str.ofString "fits", 71), (Str.ofString "kinds_at", 72), (Str.ofString "is_program", 73), (Str.ofString "want_program", 74), (Str.ofString "program_kind", 75), (Str.ofString "_law_pot", 77), (Str.ofString "_law_draw", 78), (Str.ofString "_law_pick", 79), (Str.ofString "_law_kind", 83), (Str.ofString "_law_made", 85), (Str.ofString "_law_cut", 84), (Str.ofString "_law_binds", 86), (Str.ofString "_law_read", 87), (Str.ofString "_law_by", 88), (Str.ofString "_law_bound", 89), (Str.ofString "_law_fit", 90), (Str.ofString "_law_programs_right", 91), (Str.ofString "law", 93)]
def faA : List He.Fa := [.free (Str.ofString "isinstance"), .free (Str.ofString "int"), .free (Str.ofString "bool"), .free (Str.ofString "str"), .free (Str.ofString "list"), .free (Str.ofString "tuple"), .free (Str.ofString "len"), .free (Str.ofString "abs"), .free (Str.ofString "max"), .free (Str.ofString "divmod"), .free (Str.ofString "all"), .free (Str.ofString "range"), .free (Str.ofString "enumerate"), .free (Str.ofString "sorted"), .free (Str.ofString "repr"), .str (Str.ofString "LETTER") Wd.letter.s, .str (Str.ofString "TELLING") Wd.count.s, .str (Str.ofString "PAIR") Wd.pair.s, .str (Str.ofString "SUM") Wd.sum.s, .str (Str.ofString "FUN") Wd.fn.s, .str (Str.ofString "NAME") Wd.name.s, .str (Str.ofString "TOLD") Wd.told.s, .int (Str.ofString "MOST_LETTER") 5, .int (Str.ofString "MOST_SIGNS") 60, .int (Str.ofString "MOST_DEEP") 12, .int (Str.ofString "MOST_NODES") 300, .int (Str.ofString "MOST_OUT") 299, .int (Str.ofString "MOST_TOLD") 1000000, .int (Str.ofString "MOST_NAMES") 8, .glo (Str.ofString "NUMBER")]
def faB : List He.Fa := [.glo (Str.ofString "WITH_KIND"), .glo (Str.ofString "BINDS"), .glo (Str.ofString "Frame"), .glo (Str.ofString "NoKind"), .glo (Str.ofString "_law_right"), .cls (Str.ofString "Frame"), .mkr (Str.ofString "Frame"), .noat (Str.ofString "Frame") (Str.ofString "own_position"), .noat (Str.ofString "Frame") (Str.ofString "own_row"), .noat (Str.ofString "Frame") (Str.ofString "own_some"), .noat (Str.ofString "NoKind") (Str.ofString "position"), .keep (Str.ofString "NoKind"), .exm (Str.ofString "NoKind") (Str.ofString "NoKind") true, .meth (Str.ofString "NoKind") (Str.ofString "__init__")]
def faL : List He.Fa := (faA ++ faB) ++ defL.map fun p => .glo p.1
def mkD (p : Str × Nat) : He.DefD := ⟨(p.1, none), p.1, p.1, defArgs (top p.2), defBody (top p.2), defScope (top p.2), [], []⟩
def mkI (x q : Str) (st : Stmt) : He.DefD := ⟨(x, some "__init__"), "__init__", q, defArgs st, defBody st, defScope st, [], []⟩
def fnL : List He.DefD := defL.map mkD ++ [mkD (Str.ofString "_law_right", 92), mkI (Str.ofString "Frame") (Str.ofString "Frame.__init__") (inClass (top 65) 0), mkI (Str.ofString "NoKind") (Str.ofString "NoKind.__init__") (inClass (top 9) 0)]
def tabL : List He.Tab := [((fun K => He.ga K (Str.ofString "BINDS")), [Wd.name.s, Wd.told.s, Wd.fn.s, Wd.call.s, Wd.both.s, Wd.first.s, Wd.second.s, Wd.left.s, Wd.right.s, Wd.which.s, Wd.next.s, Wd.turns.s, Wd.lt.s])]
def tfL : List He.Defn := [(Str.ofString "_law_right", none)]
/-- a tuple of the module -/
def tupB (K : PySem.W.Frag) (a : Addr) (xs : List V) : Bool := match K.lookup a with
  | some ⟨.type c, _, .seq its _, _⟩ => decide (c = "tuple") && (Nat.ble its.size 100 && He.relAll xs its.toList)
  | _ => false
def nodeW : List Wd := [.name, .told, .fn, .call, .both, .first, .second, .left, .right, .which, .next, .turns, .lt]
def bindB (K : PySem.W.Frag) (z : Wd) : Bool := match PySem.W.nsIn K (He.ga K (Str.ofString "BINDS")) z.s with
  | some (some (.ref t)) => tupB K t ((binds z).map fun (b : Nat) => V.int b)
  | _ => false
def nkA (K : PySem.W.Frag) : Addr := He.ga K (Str.ofString "NoKind")
def nkIA (K : PySem.W.Frag) : Addr := He.ma K (nkA K) "__init__"
def exB (K : PySem.W.Frag) : Bool := nkIn K (nkA K) && (He.eqO (PySem.W.findIn K (.ref (nkA K)) "__setattr__") (some (some (.builtin "object.__setattr__"))) && (decide (PySem.W.subIn K (.ref (nkA K)) (.type "BaseException") = some true) && (decide (PySem.W.typeIn K (.ref (nkA K)) = some (.type "type")) &&
  (decide (PySem.W.typeIn K (.ref (nkIA K)) = some (.type "function")) && (tupB K (He.ga K (Str.ofString "NUMBER")) [.str Wd.count.s] && (tupB K (He.ga K (Str.ofString "WITH_KIND")) [.str Wd.fn.s, .str Wd.left.s, .str Wd.right.s, .str Wd.turns.s] && nodeW.all (bindB K)))))))
end K17
/-! KH: a look at the heap over a given row of addresses, in place of what is reached from the module: nothing is sought. -/
namespace K17
open PySem PySem.Spec PyProof.Rows
section
variable (as : List Addr) (fa : List He.Fa) (fn : List He.DefD) (ts : List He.Tab) (tf : List He.Defn) (ex : PySem.W.Frag → Bool)
/-- what is seen of the objects at these addresses -/
def seenAt (g : Addr → Option Obj) : He.AlX := (fun K => (He.obsT fa fn ts K, ex K && He.tabsB g tf K)) (He.frT g as)
variable {as fa fn ts tf ex}
theorem says_at {w : World} {h : Heap} (e : seenAt as fa fn ts tf ex h.get? = He.valX fn ts w) : He.SaysX fa fn ts tf ex w h (He.frT h.get? as) := by
  generalize hK : He.frT h.get? as = K
  have e0 : (He.obsT fa fn ts K, ex K && He.tabsB h.get? tf K) = (He.valT fn ts w, true) := by rw [← hK]; exact e
  obtain ⟨a1, a2⟩ := Prod.mk.inj e0
  obtain ⟨b1, b2⟩ := He.ba a2
  have at_ : ∀ p ∈ tf, PySem.W.codeHdIn K (He.cT K p).1 (He.cT K p).2 = true ∧ ∃ o, h.get? (He.cT K p).2 = some o ∧ He.emptyTab o = true := by
    intro p hp
    obtain ⟨c1, c2⟩ := He.ba (List.all_eq_true.mp b2 p hp)
    split at c2
    · rename_i o ho
      exact ⟨c1, o, ho, c2⟩
    · exact nomatch c2
  refine ⟨a1, b1, fun p hp => (at_ p hp).1, fun p hp => ?_, fun p hp => ?_⟩ <;> obtain ⟨_, o, ho, hz⟩ := at_ p hp
  · rw [← hK] at ho ⊢
    exact He.frT_none ho hz
  · rw [ho, He.emptyTab_eq hz]
variable (as fa fn ts tf ex)
def hookAt : PySem.W.Hook where
  α := He.AlX
  obs := fun s => seenAt as fa fn ts tf ex s.heap.get?
  val := fun w => He.valX fn ts w
  says := fun w h => ∃ K : PySem.W.Frag, K.In h ∧ He.SaysX fa fn ts tf ex w h K
  of := fun _ _ e => ⟨_, He.frT_in, says_at e⟩
  keeps := fun _ _ _ ⟨K, hK, c⟩ k => ⟨K, PySem.W.Frag.In.keeps hK k, { c with empty := fun p hp => k _ _ (c.empty p hp) }⟩
theorem seenAt_eq {g : Addr → Option Obj} {s : Shared} (h : ∀ a, g a = s.heap.get? a) : seenAt as fa fn ts tf ex g = (hookAt as fa fn ts tf ex).obs s := congrArg (seenAt as fa fn ts tf ex) (funext h)
end
end K17
set_option maxHeartbeats 0
/-! K28: the top's run. -/
namespace K17
open PySem PySem.Spec PyProof.Rows L2
abbrev hR : PySem.W.OpenRow := PySem.W.OpenLaw.row PySem.Challenge.rw_selfprint_k17_whole_kinds_of_nodes_and_p
/-- the addresses that are looked at: all that the boot and the top give out -/
abbrev rowA : List Addr := List.range 700
abbrev hk : PySem.W.Hook := hookAt rowA faL fnL tabL tfL exB
def ob (s : PySem.W.SharedT) : He.AlX := seenAt rowA faL fnL tabL tfL exB (HandSHeadRun.getT s)
theorem ob_eq (s : PySem.W.SharedT) : ob s = hk.obs s.abs := seenAt_eq rowA faL fnL tabL tfL exB (HandSHeadRun.getT_eq s)
/-- two looks at one run, each proved by a run of its own (what a run leaves in memory is freed behind each) -/
theorem both_looks {X : Option PySem.W.SharedT} {A B C : Type} {f : PySem.W.SharedT → A} {g : PySem.W.SharedT → B} {c : PySem.W.SharedT → C} {a : A} {b : B} {z : C} (h1 : X.map (fun s => (f s, g s)) = some (a, b)) (h2 : X.map c = some z) : X.map (fun s => (f s, g s, c s)) = some (a, b, z) := by
  obtain ⟨s, hs, e⟩ := Option.map_eq_some_iff.mp h1
  obtain ⟨s2, hs2, e2⟩ := Option.map_eq_some_iff.mp h2
  have es : s = s2 := Option.some.inj (hs.symm.trans hs2)
  subst es
  obtain ⟨e3, e4⟩ := Prod.mk.inj e
  rw [hs]
  show some (f s, g s, c s) = _
  rw [e3, e4, e2]
noncomputable abbrev runAt (w : World) (os : OsState) : Option PySem.W.SharedT := HandSHeadRun.endF (HandSHeadRun.stepQ (HandSHeadRun.denQ HandSHeadRun.tabQ) hR.prog w) 6000 hR.prog w os
def names0 : List Str := [Str.ofString "TermError", Str.ofString "StateError", Str.ofString "LimitError", Str.ofString "InvalidKind", Str.ofString "InvalidNames", Str.ofString "InvalidProgram", Str.ofString "InvalidTerm", Str.ofString "InvalidLetter", Str.ofString "NoKind", Str.ofString "TooMany", Str.ofString "is_integer", Str.ofString "is_count", Str.ofString "is_list", Str.ofString "want_at_most", Str.ofString "LETTER", Str.ofString "TELLING", Str.ofString "PAIR", Str.ofString "SUM", Str.ofString "FUN", Str.ofString "MOST_LETTER", Str.ofString "MOST_SIGNS", Str.ofString "MOST_DEEP", Str.ofString "is_leaf", Str.ofString "is_letter_word", Str.ofString "is_letter", Str.ofString "is_branch", Str.ofString "is_kind", Str.ofString "want_kind", Str.ofString "want_letter", Str.ofString "signs_of"]
def names1 : List Str := [Str.ofString "depth_of", Str.ofString "letters_in", Str.ofString "put_letter", Str.ofString "put_letter_told", Str.ofString "put_kind", Str.ofString "NAME", Str.ofString "TOLD", Str.ofString "MOST_NODES", Str.ofString "MOST_OUT", Str.ofString "MOST_TOLD", Str.ofString "BINDS", Str.ofString "WITH_KIND", Str.ofString "is_node", Str.ofString "are_tree", Str.ofString "is_term", Str.ofString "want_term", Str.ofString "letters_put", Str.ofString "MOST_NAMES", Str.ofString "NUMBER", Str.ofString "are_names", Str.ofString "want_names", Str.ofString "row_of", Str.ofString "kind_in", Str.ofString "kind_of_leaf", Str.ofString "kind_of_part", Str.ofString "kind_of_call", Str.ofString "kind_of_turns", Str.ofString "kind_of_few", Str.ofString "kind_by", Str.ofString "bound_kind"]
def names2 : List Str := [Str.ofString "Frame", Str.ofString "next_row", Str.ofString "finished", Str.ofString "kinds_of", Str.ofString "fitting_kinds", Str.ofString "kind_of", Str.ofString "fits", Str.ofString "kinds_at", Str.ofString "is_program", Str.ofString "want_program", Str.ofString "program_kind", Str.ofString "_law_pot", Str.ofString "_law_draw", Str.ofString "_law_pick", Str.ofString "_law_signs", Str.ofString "_law_deep", Str.ofString "_law_put", Str.ofString "_law_kind", Str.ofString "_law_cut", Str.ofString "_law_made", Str.ofString "_law_binds", Str.ofString "_law_read", Str.ofString "_law_by", Str.ofString "_law_bound", Str.ofString "_law_fit", Str.ofString "_law_programs_right", Str.ofString "_law_right"]
def namesL : List Str := names0 ++ (names1 ++ (names2))
theorem head_left0 (w : World) (os : OsState) : (runAt (w.withFollow "special-get-raises" false) os).map (fun s => (HandSHeadRun.looksF hR.prog (PySem.W.boot_heap (w.withFollow "special-get-raises" false).params) s.abs, HandSHeadRun.seenQ (PySem.W.view hR.prog [93]) namesL (PySem.importedModules hR.prog.main.body) (fun s => PySem.W.xlAt (PySem.W.view hR.prog [93]) [] s && PySem.W.recOk hR.toRowW.records s) s.abs)) = some (true, PySem.W.openGood (PySem.W.view hR.prog [93]) namesL) := by
  kernel_rfl
theorem head_told0 (w : World) (os : OsState) : (runAt (w.withFollow "special-get-raises" false) os).map ob = some (hk.val (w.withFollow "special-get-raises" false)) := by
  kernel_rfl
theorem head_run0 (w : World) : HandSHeadRun.RunEq hR (PySem.W.view hR.prog [93]) hk ob 6000 namesL (w.withFollow "special-get-raises" false) := fun os => both_looks (head_left0 w os) (head_told0 w os)
theorem head_left1 (w : World) (os : OsState) : (runAt (w.withFollow "special-get-raises" true) os).map (fun s => (HandSHeadRun.looksF hR.prog (PySem.W.boot_heap (w.withFollow "special-get-raises" true).params) s.abs, HandSHeadRun.seenQ (PySem.W.view hR.prog [93]) namesL (PySem.importedModules hR.prog.main.body) (fun s => PySem.W.xlAt (PySem.W.view hR.prog [93]) [] s && PySem.W.recOk hR.toRowW.records s) s.abs)) = some (true, PySem.W.openGood (PySem.W.view hR.prog [93]) namesL) := by
  kernel_rfl
theorem head_told1 (w : World) (os : OsState) : (runAt (w.withFollow "special-get-raises" true) os).map ob = some (hk.val (w.withFollow "special-get-raises" true)) := by
  kernel_rfl
theorem head_run1 (w : World) : HandSHeadRun.RunEq hR (PySem.W.view hR.prog [93]) hk ob 6000 namesL (w.withFollow "special-get-raises" true) := fun os => both_looks (head_left1 w os) (head_told1 w os)
theorem head_run (w : World) : HandSHeadRun.RunEq hR (PySem.W.view hR.prog [93]) hk ob 6000 namesL w :=
  PySem.W.byRow2 "special-get-raises" (P := fun w => HandSHeadRun.RunEq hR (PySem.W.view hR.prog [93]) hk ob 6000 namesL w) head_run0 head_run1 w
end K17
/-! KE1: walks over a list or a tuple, plain or enumerated. -/
namespace K17
open PySem PySem.Spec PyProof.Rows L2
set_option maxHeartbeats 1000000 in
/-- enumerate(t), one argument, t anything that begins -/
theorem enum1_meets {v : Value} {o : Obj} {G : Heap → Prop} (B : Begins v o G) : Meets (Builtin.«enumerate.__new__» ⟨[.type "enumerate", v], []⟩) (fun _ R s => G s.heap ∧
    R (.ok (.ret (.ref (s.heap.push o).objs.size))) { s with heap := (s.heap.push o).push { cls := .type "enumerate", data := .fields #[.none, .bool false, .ref s.heap.objs.size, rawInt 0, .none, .none] } }) :=
  .of_wp fun prog w A R s hh => by
    obtain ⟨hp, gg, dd, tt, oo⟩ := s
    obtain ⟨hG, hR⟩ := hh
    have e0 := sub_enumerate
    have go : ∀ {A' : Around} {E : Value → Shared → Prop} {Q : Value → Shared → Prop}, Q (.ref hp.objs.size) ⟨hp.push o, gg, dd, tt, oo⟩ → wpAny (model prog w) A' (pyIter v) Q E ⟨hp, gg, dd, tt, oo⟩ := fun q =>
      B.iter prog w _ _ ⟨hp, gg, dd, tt, oo⟩ _ hG q
    wp_walk using go
    refine wpAny_stack_any fun stk => wpAny_pure ?_
    split
    · rename_i c1 _ _ _ _ _
      cases (c1 == Value.type "enumerate") <;> (wp_walk using go; exact ⟨_, rfl, hR⟩)
    · (wp_walk using go; exact ⟨_, rfl, hR⟩)
section
variable {prog : Program} {w : World} {A : Around} {E : Value → Shared → Prop} {s : Shared}
theorem enum1_call {v : Value} {o : Obj} {G : Heap → Prop} {Q : Value → Shared → Prop} (B : Begins v o G) (hG : G s.heap)
    (k : ∀ h', IsEnum h' (s.heap.objs.size + 1) s.heap.objs.size 0 .none → h'.get? s.heap.objs.size = some o → h'.objs.size = s.heap.objs.size + 2 →
      (∀ b u, s.heap.get? b = some u → h'.get? b = some u) → Q (.ref (s.heap.objs.size + 1)) { s with heap := h' }) : wpAny (model prog w) A (call (.type "enumerate") [v]) Q E s := by
  have sz : (s.heap.push o).objs.size = s.heap.objs.size + 1 := Heap.size_push _ _
  have at1 : IsEnum ((s.heap.push o).push { cls := .type "enumerate", data := .fields #[.none, .bool false, .ref s.heap.objs.size, rawInt 0, .none, .none] }) (s.heap.objs.size + 1) s.heap.objs.size 0 .none := by
    have q := Heap.get?_push_size (s.heap.push o) (o := ({ cls := .type "enumerate", data := .fields #[.none, .bool false, .ref s.heap.objs.size, rawInt 0, .none, .none] } : Obj)) rfl
    rwa [sz] at q
  refine callType_new F.called_enumerate (by decide) (F.typeCall_enumerate_1 _) (F.newCall_enumerate_1 _) (fun ob => F.args_object_init_2 ob _) F.entry_enumerate_new (enum1_meets B) ⟨hG, ?_⟩
  show (_ : Prop) ∧ _
  rw [sz]
  exact ⟨⟨_, at1, rfl⟩, k _ at1 (Heap.get?_push_of_some _ (Heap.get?_push_size _ B.free)) (by rw [Heap.size_push, sz]) fun b u x => Heap.get?_push_of_some _ (Heap.get?_push_of_some _ x)⟩
end
/-- the tuple at a, each item in a new pair -/
def IteT (K : PySem.W.Frag) (a : Addr) : It :=
  ⟨fun i H => ∃ (xs : List V) (x : V), SqT K H a xs ∧ xs[i]? = some x, fun i H v H' => ∃ T x, v = .ref T ∧ H T = none ∧ H' = upd H T (.tup [.int (i : Nat), x]) ∧ ∀ xs, SqT K H a xs → xs[i]? = some x, fun i H => ∃ xs : List V, SqT K H a xs ∧ xs.length ≤ i⟩
theorem turn_enumT {P : Program} {w : World} {K : PySem.W.Frag} {elts : List Expr} {kk : Nat} {tpos : Pos} (a e it : Addr) (hai : a ≠ it) (hae : a ≠ e) :
    Turn P w K (.Tuple elts kk tpos) (IteT K a) [e, it] e (fun i h => (∃ old, IsEnum h e it ((i : Nat) : Int) old) ∧ h.IsTupleIter it a i ∧ e ≠ it) where
  mem := List.mem_cons_self
  obj := fun i h st b hb => by
    obtain ⟨⟨old, he⟩, ⟨o, ho, hc, hd⟩, _⟩ := st
    rcases List.mem_cons.mp hb with z | z
    · subst z
      exact ⟨_, he, fun v q => nomatch q⟩
    · have z' := List.mem_singleton.mp z
      subst z'
      exact ⟨o, ho, fun v q => by rw [hd] at q; cases q⟩
  keep := fun i h h' st k => by
    obtain ⟨⟨old, he⟩, hi, hne⟩ := st
    exact ⟨⟨old, k e (by simp) _ he⟩, hi.at fun o q => k it (by simp) o q, hne⟩
  item := by
    intro X hP hw hK hc i pins s σ H E I hf st hg
    subst hP hw hK
    obtain ⟨⟨old, he⟩, hit, hne⟩ := st
    obtain ⟨xs, x, hq, hx⟩ := hg
    obtain ⟨its, rv, p, hz⟩ := I.tuple hq
    have e_lt : e < s.heap.objs.size := Heap.lt_size he
    have i_lt : it < s.heap.objs.size := by
      obtain ⟨_, q, _⟩ := hit
      exact Heap.lt_size q
    have nlt : i < its.toArray.size := by
      have q1 : i < xs.length := (List.getElem?_eq_some_iff.mp hx).1
      rw [List.size_toArray, ← rv.length]
      exact q1
    have Dr := Draws.tuple (prog := X.prog) (w := X.w) (A := X.A.in1) (I.ok.hd hc) it a hai its.toArray
    refine wpAny_pyNext_enum_itemD Dr he ⟨hit, p⟩ nlt hne (by simp; exact ⟨hne, Ne.symm hae⟩) fun u h' tk hu ho hit' hT hsz hk => ?_
    obtain ⟨u', hu', ru⟩ := rv.get hx
    have hu2 : its[i]? = some u := by simpa using hu
    rw [hu2] at hu'
    cases hu'
    refine ⟨_, rfl, wpAny_letOwnedTupleGo_enum (s := { s with heap := h', toks := tk + 1 }) ho fun h2 he2 sb => ?_⟩
    have atT : h2.get? s.heap.objs.size = some { cls := .type "tuple", data := .seq #[.int i tk, u] } := (sb.2 _ (Nat.ne_of_gt e_lt)).trans hT
    have nw : ObjOk X.prog X.w (upd H s.heap.objs.size (.tup [.int (i : Nat), x])) h2 s.heap.objs.size (.tup [.int (i : Nat), x]) := by
      refine ⟨(by show 2 ≤ sizeLine; decide), [.int i tk, u], .cons ⟨_, rfl⟩ (.cons ru .nil), ?_⟩
      exact ⟨_, atT, rfl, _, rfl⟩
    have I1 : Inv X pins σ (upd H s.heap.objs.size (.tup [.int (i : Nat), x])) { s with heap := h2, toks := tk + 1 } :=
      I.turnedNew (ch := [e, it]) (fun b ob hb q => (sb.2 b (fun z => hb (by simp [z]))).trans (hk b ob (fun z => hb (by simp [z])) (fun z => hb (by simp [z])) q)) hf (Nat.le_refl _) nw
    refine ⟨.ref s.heap.objs.size, _, I1, rfl, ⟨_, x, rfl, I.hok.fresh (Nat.le_refl _), rfl, fun ys hy => ?_⟩, ⟨⟨u, ?_⟩, hit'.1.at fun o q => (sb.2 it (Ne.symm hne)).trans q, hne⟩, fun b hb => ?_⟩
    · rw [I.tuple_inj hy hq]
      exact hx
    · have e1 : ((i + 1 : Nat) : Int) = (i : Int) + 1 := by omega
      rw [e1]
      exact he2
    · have b_lt : b < s.heap.objs.size := by
        rcases List.mem_cons.mp hb with z | z
        · rw [z]
          exact e_lt
        · rw [List.mem_singleton.mp z]
          exact i_lt
      rw [upd_ne (Nat.ne_of_lt b_lt)]
      exact (hf b hb).1
  done := by
    intro X hP hw hK hc i pins s σ H E I hf st hg
    subst hP hw hK
    obtain ⟨⟨old, he⟩, hit, hne⟩ := st
    obtain ⟨xs, hq, hx⟩ := hg
    obtain ⟨its, rv, p, hz⟩ := I.tuple hq
    obtain ⟨f0, f1, f2, f3, f4, f5⟩ := hf it (by simp)
    have hl := rv.length
    have nx : its.toArray[i]? = none := by simp; omega
    show wpAny (model X.prog X.w) X.A (pyNext (.ref e)) _ E s
    have hTy : s.TypeIs (.ref e) "enumerate" := ⟨_, he, rfl⟩
    unfold pyNext
    refine wpAny_bind (wpAny_attempt (wpAny_callSpecial?_slot (name := Str.ofString "__next__") hTy F.slot_enumerate_next (wpAny_call_entry F.slot_enumerate_next hTy F.entry_enumerate_next ?_ (F.args_enumerate_next_1 _))))
    show wpAny _ _ (field (.ref e) 2 >>= _) _ _ _
    refine wpAny_bind (wpAny_field he rfl (x := .ref it) rfl ?_)
    refine wpAny_bind (wpAny_nextOf_tuple_end (I.ok.hd hc) hit (show s.heap.IsTuple a its.toArray from p) nx fun h' x he' hx' => ?_)
    obtain ⟨o, ho, hcl⟩ := hx'
    refine wpAny_bind (wpAny_isInstance (T := "StopIteration") (b := true) ⟨o, ho, hcl⟩ isSubtype_stop ?_)
    exact wpAny_pure ⟨rfl, I.turned (t' := s.toks) (fun b o hb q => he' b o hb q) f0 f1 f3 f4 f5⟩
  self := fun A i s Q E st h => by
    obtain ⟨⟨_, he⟩, _⟩ := st
    exact wpAny_pyIter_enum he h
section
variable {X : Cx} {tg : Expr}
/-- a list or a tuple, walked -/
def iSeq (K : PySem.W.Frag) (tl : TE) : TI := fun σ H R => tl σ H fun x H1 => ∃ a xs, x = .ref a ∧ ((SqL K H1 a xs ∧ R (Itl K a) H1) ∨ (SqT K H1 a xs ∧ R (Itt K a) H1))
theorem pi_seq {l : Expr} {tl : TE} (hl : PE X l tl) : PI X tg l (iSeq X.K tl) := by
  refine ⟨fun pins s σ H R I h => ?_⟩
  refine thn (hl.run pins s σ H _ I h) fun v s1 ⟨x, H1, I1, r1, a, xs, ex, q⟩ => ?_
  subst ex
  cases r1
  have one : ∀ b ∈ [s1.heap.objs.size], FpOk X pins H1 b := fun b hb => by
    rw [List.mem_singleton.mp hb]
    exact I1.fpOk (Nat.le_refl _) (I1.hok.fresh (Nat.le_refl _))
  rcases q with ⟨hq, q⟩ | ⟨hq, q⟩
  · obtain ⟨its, rv, p, hz⟩ := I1.list hq
    exact wpAny_pyIter_list p.isList ⟨_, _, _, _, H1, rfl, I1.kept (t' := s1.toks) fun b o e => Heap.get?_push_of_some _ e, turn_list a _, ⟨_, Heap.get?_push_size _ rfl, rfl, rfl⟩, one, q⟩
  · obtain ⟨its, rv, p, hz⟩ := I1.tuple hq
    exact wpAny_pyIter_tuple (show s1.heap.IsTuple a its.toArray from p) ⟨_, _, _, _, H1, rfl, I1.kept (t' := s1.toks) fun b o e => Heap.get?_push_of_some _ e, turn_tuple a _, ⟨_, Heap.get?_push_size _ rfl, rfl, rfl⟩, one, q⟩
/-- enumerate of a list or a tuple -/
def iEnumS (K : PySem.W.Frag) (ta : TA) : TI := fun σ H R => ta σ H fun vs H1 => ∃ a xs, vs = [.ref a] ∧ ((SqL K H1 a xs ∧ R (Ite K a) H1) ∨ (SqT K H1 a xs ∧ R (IteT K a) H1))
theorem pi_enumS {e : Expr} {ta : TA} {p pos tpos : Pos} {elts : List Expr} {kk : Nat} (hg : Gl X "enumerate") (hm : X.mg "enumerate" = none) (ha : PA X [e] ta) (hs : starEach [e] X.env = [(false, eval e X.env)] := by rfl) :
    PI X (.Tuple elts kk tpos) (.Call (.Name "enumerate" p) [e] [] pos) (iEnumS X.K ta) := by
  refine ⟨fun pins s σ H R I h => ?_⟩
  refine Call_ (ld_blt I hg hm boot_enumerate (PyProof.Rows.callWith_type1 (thn (ha.run pos pins s σ H _ I h) fun us s1 ⟨vs, H1, I1, r1, a, xs, ex, q⟩ => ?_) hs rfl))
  subst ex
  obtain rfl := Vals.ref1 r1
  have two : ∀ b ∈ [s1.heap.objs.size + 1, s1.heap.objs.size], FpOk X pins H1 b := fun b hb => by
    have le : s1.heap.objs.size ≤ b := by
      rcases List.mem_cons.mp hb with z | z
      · rw [z]
        exact Nat.le_succ _
      · rw [List.mem_singleton.mp z]
        exact Nat.le_refl _
    exact I1.fpOk le (I1.hok.fresh le)
  rcases q with ⟨hq, q⟩ | ⟨hq, q⟩
  · obtain ⟨its, rv, p', hz⟩ := I1.list hq
    refine enum1_call (begins_list a its.toArray) p'.isList fun h' he hit hsz hk => wpAny_pyIter_enum he ?_
    exact ⟨_, _, _, _, H1, rfl, I1.kept (t' := s1.toks) hk, turn_enum a (s1.heap.objs.size + 1) s1.heap.objs.size, ⟨⟨.none, he⟩, ⟨_, hit, rfl, rfl⟩, Nat.succ_ne_self _⟩, two, q⟩
  · obtain ⟨its, rv, p', hz⟩ := I1.tuple hq
    have hp : s1.heap.IsTuple a its.toArray := p'
    have alt : a < s1.heap.objs.size := p'.lt
    refine enum1_call (begins_tuple a its.toArray) hp fun h' he hit hsz hk => wpAny_pyIter_enum he ?_
    exact ⟨_, _, _, _, H1, rfl, I1.kept (t' := s1.toks) hk, turn_enumT a (s1.heap.objs.size + 1) s1.heap.objs.size (Nat.ne_of_lt alt) (Nat.ne_of_lt (Nat.lt_succ_of_lt alt)), ⟨⟨.none, he⟩, ⟨_, hit, rfl, rfl⟩, Nat.succ_ne_self _⟩, two, q⟩
end
/-- for over an enumerated list or tuple that the body leaves as it is -/
theorem for_enum {K : PySem.W.Frag} {a : Addr} {xs : List V} {g : TG} {tb : TS} {D : Ends} {σ : L2.St} {H : Hp}
    (Pv : Nat → L2.St → Hp → Prop) (hL : (SqL K H a xs ∧ ∀ i σ H', i ≤ xs.length → Pv i σ H' → SqL K H' a xs) ∨ (SqT K H a xs ∧ ∀ i σ H', i ≤ xs.length → Pv i σ H' → SqT K H' a xs))
    (h0 : Pv 0 σ H)
    (hs : ∀ i x σ H T, xs[i]? = some x → Pv i σ H → H T = none → g (.ref T) σ (upd H T (.tup [.int (i : Nat), x])) fun σ2 H2 => tb { D with nx := Pv (i + 1), ct := Pv (i + 1), bk := D.nx } σ2 H2)
    (hd : ∀ σ H, Pv xs.length σ H → D.nx σ H) :
    (SqL K H a xs ∧ ∃ W : Nat → Nat → L2.St → Hp → Prop, (∃ m, W 0 m σ H) ∧ ∀ i m σ H, W i m σ H →
      ((Ite K a).stop i H ∧ D.nx σ H) ∨ ((Ite K a).go i H ∧ ∃ N : L2.St → Hp → Prop, (∀ σ' H', N σ' H' → ∃ m', m' < m ∧ W (i + 1) m' σ' H') ∧ ∀ x H', (Ite K a).yld i H x H' → g x σ H' fun σ2 H2 => tb { D with nx := N, ct := N, bk := D.nx } σ2 H2)) ∨
    (SqT K H a xs ∧ ∃ W : Nat → Nat → L2.St → Hp → Prop, (∃ m, W 0 m σ H) ∧ ∀ i m σ H, W i m σ H →
      ((IteT K a).stop i H ∧ D.nx σ H) ∨ ((IteT K a).go i H ∧ ∃ N : L2.St → Hp → Prop, (∀ σ' H', N σ' H' → ∃ m', m' < m ∧ W (i + 1) m' σ' H') ∧ ∀ x H', (IteT K a).yld i H x H' → g x σ H' fun σ2 H2 => tb { D with nx := N, ct := N, bk := D.nx } σ2 H2)) := by
  have gen : ∀ (J : It) (Sq : Hp → Prop), (∀ i σ H, i ≤ xs.length → Pv i σ H → Sq H) → (∀ i H, i < xs.length → Sq H → J.go i H) → (∀ H, Sq H → J.stop xs.length H) →
      (∀ i x H v H', xs[i]? = some x → Sq H → J.yld i H v H' → ∃ T, v = .ref T ∧ H T = none ∧ H' = upd H T (.tup [.int (i : Nat), x])) →
      ∃ W : Nat → Nat → L2.St → Hp → Prop, (∃ m, W 0 m σ H) ∧ ∀ i m σ H, W i m σ H →
        (J.stop i H ∧ D.nx σ H) ∨ (J.go i H ∧ ∃ N : L2.St → Hp → Prop, (∀ σ' H', N σ' H' → ∃ m', m' < m ∧ W (i + 1) m' σ' H') ∧ ∀ x H', J.yld i H x H' → g x σ H' fun σ2 H2 => tb { D with nx := N, ct := N, bk := D.nx } σ2 H2) := by
    intro J Sq j1 j2 j3 j4
    refine ⟨fun i m σ H => m = xs.length - i ∧ i ≤ xs.length ∧ Pv i σ H, ⟨xs.length, by simp, Nat.zero_le _, h0⟩, ?_⟩
    rintro i m σ H ⟨rfl, hi, p⟩
    have sq := j1 i σ H hi p
    by_cases hlt : i < xs.length
    · refine .inr ⟨j2 i H hlt sq, Pv (i + 1), fun σ' H' p' => ⟨xs.length - (i + 1), by omega, rfl, hlt, p'⟩, fun v H' y => ?_⟩
      obtain ⟨T, e1, e2, e3⟩ := j4 i xs[i] H v H' (by simp [hlt]) sq y
      subst e1 e3
      exact hs i xs[i] σ H T (by simp [hlt]) p e2
    · have e : i = xs.length := by omega
      subst e
      exact .inl ⟨j3 H sq, hd σ H p⟩
  rcases hL with ⟨hL, hl⟩ | ⟨hL, hl⟩
  · refine .inl ⟨hL, gen (Ite K a) (fun H => SqL K H a xs) hl (fun i H hi q => ⟨xs, xs[i], q, by simp [hi]⟩) (fun H q => ⟨xs, q, Nat.le_refl _⟩) fun i x H v H' hx q y => ?_⟩
    obtain ⟨T, x', e1, e2, e3, e4⟩ := y
    have z := e4 xs q
    rw [hx] at z
    cases z
    exact ⟨T, e1, e2, e3⟩
  · refine .inr ⟨hL, gen (IteT K a) (fun H => SqT K H a xs) hl (fun i H hi q => ⟨xs, xs[i], q, by simp [hi]⟩) (fun H q => ⟨xs, q, Nat.le_refl _⟩) fun i x H v H' hx q y => ?_⟩
    obtain ⟨T, x', e1, e2, e3, e4⟩ := y
    have z := e4 xs q
    rw [hx] at z
    cases z
    exact ⟨T, e1, e2, e3⟩
end K17
/-! K2: short rules: constants, own defs called, subscripts, types; what the top has written. -/
namespace K17
open PySem PySem.Spec PyProof.Rows L2
/-! ### what the top has written -/
structure Txt (K : PySem.W.Frag) (w : World) (mg : Str → Option Value) (fr : Addr) (fd : FuncData) (nk nkI : Addr) : Prop where
  isinstance : mg "isinstance" = none
  int : mg "int" = none
  bool : mg "bool" = none
  str : mg "str" = none
  list : mg "list" = none
  tuple : mg "tuple" = none
  len : mg "len" = none
  abs : mg "abs" = none
  max : mg "max" = none
  divmod : mg "divmod" = none
  all : mg "all" = none
  range : mg "range" = none
  enumerate : mg "enumerate" = none
  sorted : mg "sorted" = none
  repr : mg "repr" = none
  LETTER : ∃ t, mg "LETTER" = some (.str Wd.letter.s t)
  TELLING : ∃ t, mg "TELLING" = some (.str Wd.count.s t)
  PAIR : ∃ t, mg "PAIR" = some (.str Wd.pair.s t)
  SUM : ∃ t, mg "SUM" = some (.str Wd.sum.s t)
  FUN : ∃ t, mg "FUN" = some (.str Wd.fn.s t)
  NAME : ∃ t, mg "NAME" = some (.str Wd.name.s t)
  TOLD : ∃ t, mg "TOLD" = some (.str Wd.told.s t)
  MOST_LETTER : ∃ t, mg "MOST_LETTER" = some (.int 5 t)
  MOST_SIGNS : ∃ t, mg "MOST_SIGNS" = some (.int 60 t)
  MOST_DEEP : ∃ t, mg "MOST_DEEP" = some (.int 12 t)
  MOST_NODES : ∃ t, mg "MOST_NODES" = some (.int 300 t)
  MOST_OUT : ∃ t, mg "MOST_OUT" = some (.int 299 t)
  MOST_TOLD : ∃ t, mg "MOST_TOLD" = some (.int 1000000 t)
  MOST_NAMES : ∃ t, mg "MOST_NAMES" = some (.int 8 t)
  /-- ("count",) -/
  NUMBER : ∃ a, mg "NUMBER" = some (.ref a) ∧ ∀ H, SqT K H a [.str Wd.count.s]
  /-- ("fun", "left", "right", "turns") -/
  WITH_KIND : ∃ a, mg "WITH_KIND" = some (.ref a) ∧ ∀ H, SqT K H a [.str Wd.fn.s, .str Wd.left.s, .str Wd.right.s, .str Wd.turns.s]
  /-- the table of the binders -/
  BINDS : ∃ a es n, mg "BINDS" = some (.ref a) ∧ KDict K w a es n ∧ (∀ nd : Nd, ∃ t, PySem.W.nsIn K a nd.w.s = some (some (.ref t)) ∧ ∀ H, SqT K H t ((binds nd.w).map fun (b : Nat) => V.int b))
  /-- class Frame, its __init__ -/
  gFrame : mg "Frame" = some (.ref fr)
  cFrame : Cls K fr
  mkFrame : ∃ f, Mk K fr f ∧ Fun K "__init__" "Frame.__init__" (inClass (top 65) 0) f fd
  aFrame : NoAttr K fr "own_position" ∧ NoAttr K fr "own_row" ∧ NoAttr K fr "own_some"
/-- a def of the top -/
structure Df (K : PySem.W.Frag) (mg : Str → Option Value) (x : Str) (st : Stmt) : Prop where
  ex : ∃ (f : Addr) (fd : FuncData), Fun K x x st f fd ∧ mg x = some (.ref f)
/-- a def that may be called -/
structure Cal (P : Program) (w : World) (K : PySem.W.Frag) (mg : Str → Option Value) (base : Heap) (CX : CXT) (x : Str) (k : Nat) (ps : List Str) (sp : Sp) : Prop where
  ex : ∃ (f : Addr) (fd : FuncData), FnOk P w K mg base CX k f fd ps sp ∧ mg x = some (.ref f) ∧ PySem.W.keepIn K (.ref f) = true ∧ Binds K fd ps [] ∧ ∃ st, Fun K x x st f fd
section
variable {P : Program} {w : World} {K : PySem.W.Frag} {mg : Str → Option Value} {base : Heap} {CX : CXT} {x : Str} {k : Nat} {ps : List Str} {sp sp' : Sp} {st : Stmt} {N : List Str}
theorem Cal.mono (c : Cal P w K mg base CX x k ps sp) {j : Nat} (h : k ≤ j) : Cal P w K mg base CX x j ps sp := by
  obtain ⟨f, fd, F, r⟩ := c.ex
  exact ⟨f, fd, F.mono h, r⟩
theorem Cal.imp (c : Cal P w K mg base CX x k ps sp) (h : ∀ vs H Q E, sp' vs H Q E → sp vs H Q E) : Cal P w K mg base CX x k ps sp' := by
  obtain ⟨f, fd, F, r⟩ := c.ex
  exact ⟨f, fd, F.imp h, r⟩
/-- how the arguments of a def without defaults bind -/
def BindsS (x : Str) (st : Stmt) (ps : List Str) : Prop :=
  ∀ (kV doc pm : Value) (an : Option Addr) (cdv ct : Value) (us : List Value), us.length = ps.length → bindArgs (PySem.W.fnOf x x (defArgs st) (defBody st) (defScope st) .none kV doc pm an cdv ct) ⟨us, []⟩ = pure (ps.zip us)
/-- a def that lets nothing out -/
theorem Df.cal (D : Df K mg x st) (S : FnScope N ps (defScope st)) (hb : BindsS x st ps) (len : ∀ vs H Q E, sp vs H Q E → vs.length = ps.length)
    (body : ∀ (f : Addr) (cdv : Value) (A : Around) (outer : List Env) (s : Shared) (H : Hp) (vs : List V) (Q : VK) (E : XK), Room k (A.deeper (envOfC x (defScope st) s.heap.objs.size f cdv)) → sp vs H Q E →
      ∃ t, PSs (cxOf CX0 P w K mg base N x (defScope st) f cdv A outer s H E).nox (defBody st) t ∧ t { nx := fun _ H' => Q .non H', rt := Q } (L2.start N vs) H) : Cal P w K mg base CX0 x (k + 1) ps sp := by
  obtain ⟨f, fd, F, g⟩ := D.ex
  exact ⟨f, fd, F.ok S len (body f), g, F.kp, F.binds hb, st, F⟩
/-- a def that may raise -/
theorem Df.calX (D : Df K mg x st) (S : FnScope N ps (defScope st)) (hb : BindsS x st ps) (len : ∀ vs H Q E, sp vs H Q E → vs.length = ps.length)
    (body : ∀ (f : Addr) (cdv : Value) (A : Around) (outer : List Env) (s : Shared) (H : Hp) (vs : List V) (Q : VK) (E : XK), Room k (A.deeper (envOfC x (defScope st) s.heap.objs.size f cdv)) → sp vs H Q E →
      ∃ t, PSs (cxOf (L2.CX P w) P w K mg base N x (defScope st) f cdv A outer s H E) (defBody st) t ∧ t { nx := fun _ H' => Q .non H', rt := Q } (L2.start N vs) H) : Cal P w K mg base (L2.CX P w) x (k + 1) ps sp := by
  obtain ⟨f, fd, F, g⟩ := D.ex
  exact ⟨f, fd, F.okX S len (body f), g, F.kp, F.binds hb, st, F⟩
/-- nothing is asked of it with no room -/
theorem Df.cal0 (D : Df K mg x st) (hb : BindsS x st ps) (no : ∀ vs H Q E, ¬ sp vs H Q E) : Cal P w K mg base CX x 0 ps sp := by
  obtain ⟨f, fd, F, g⟩ := D.ex
  exact ⟨f, fd, ⟨fun vs H Q E h => absurd h (no vs H Q E), fun A outer s H args us vs Q E _ _ _ _ h => absurd h (no vs H Q E)⟩, g, F.kp, F.binds hb, st, F⟩
end
theorem bs1 {x : Str} {st : Stmt} {a : Str} (h : ∀ (kV doc pm : Value) (an : Option Addr) (cdv ct u : Value), bindArgs (PySem.W.fnOf x x (defArgs st) (defBody st) (defScope st) .none kV doc pm an cdv ct) ⟨[u], []⟩ = pure [(a, u)]) : BindsS x st [a] :=
  fun kV doc pm an cdv ct us hl => match us, hl with | [u], _ => h kV doc pm an cdv ct u
theorem bs2 {x : Str} {st : Stmt} {a b : Str} (h : ∀ (kV doc pm : Value) (an : Option Addr) (cdv ct u v : Value), bindArgs (PySem.W.fnOf x x (defArgs st) (defBody st) (defScope st) .none kV doc pm an cdv ct) ⟨[u, v], []⟩ = pure [(a, u), (b, v)]) : BindsS x st [a, b] :=
  fun kV doc pm an cdv ct us hl => match us, hl with | [u, v], _ => h kV doc pm an cdv ct u v
theorem bs3 {x : Str} {st : Stmt} {a b c : Str} (h : ∀ (kV doc pm : Value) (an : Option Addr) (cdv ct u v z : Value), bindArgs (PySem.W.fnOf x x (defArgs st) (defBody st) (defScope st) .none kV doc pm an cdv ct) ⟨[u, v, z], []⟩ = pure [(a, u), (b, v), (c, z)]) : BindsS x st [a, b, c] :=
  fun kV doc pm an cdv ct us hl => match us, hl with | [u, v, z], _ => h kV doc pm an cdv ct u v z
theorem bs4 {x : Str} {st : Stmt} {a b c d : Str} (h : ∀ (kV doc pm : Value) (an : Option Addr) (cdv ct u v z y : Value), bindArgs (PySem.W.fnOf x x (defArgs st) (defBody st) (defScope st) .none kV doc pm an cdv ct) ⟨[u, v, z, y], []⟩ = pure [(a, u), (b, v), (c, z), (d, y)]) : BindsS x st [a, b, c, d] :=
  fun kV doc pm an cdv ct us hl => match us, hl with | [u, v, z, y], _ => h kV doc pm an cdv ct u v z y

/-! ### promises by the number of arguments -/
abbrev G1 := V → Hp → VK → XK → Prop
abbrev G2 := V → V → Hp → VK → XK → Prop
abbrev G3 := V → V → V → Hp → VK → XK → Prop
abbrev G4 := V → V → V → V → Hp → VK → XK → Prop
def sp1 (g : G1) : Sp := fun vs H Q E => ∃ a, vs = [a] ∧ g a H Q E
def sp2 (g : G2) : Sp := fun vs H Q E => ∃ a b, vs = [a, b] ∧ g a b H Q E
def sp3 (g : G3) : Sp := fun vs H Q E => ∃ a b c, vs = [a, b, c] ∧ g a b c H Q E
def sp4 (g : G4) : Sp := fun vs H Q E => ∃ a b c d, vs = [a, b, c, d] ∧ g a b c d H Q E
theorem sp1_len {g : G1} {x : Str} : ∀ vs H Q E, sp1 g vs H Q E → vs.length = [x].length := fun vs H Q E h => by
  obtain ⟨a, rfl, _⟩ := h
  rfl
theorem sp2_len {g : G2} {x y : Str} : ∀ vs H Q E, sp2 g vs H Q E → vs.length = [x, y].length := fun vs H Q E h => by
  obtain ⟨a, b, rfl, _⟩ := h
  rfl
theorem sp3_len {g : G3} {x y z : Str} : ∀ vs H Q E, sp3 g vs H Q E → vs.length = [x, y, z].length := fun vs H Q E h => by
  obtain ⟨a, b, c, rfl, _⟩ := h
  rfl
theorem sp4_len {g : G4} {x y z u : Str} : ∀ vs H Q E, sp4 g vs H Q E → vs.length = [x, y, z, u].length := fun vs H Q E h => by
  obtain ⟨a, b, c, d, rfl, _⟩ := h
  rfl

/-! ### rules -/
section
variable {X : Cx} {pos p : Pos} {x : Str}
theorem pe_gS {z : Str} (hg : Gl X x) (h : ∃ t, X.mg x = some (.str z t)) (hd : (x == ("__debug__" : Str)) = false := by decide) : PE X (.Name x pos) (tC (.str z)) := by
  obtain ⟨t, e⟩ := h
  exact pe_glob hg e ⟨t, rfl⟩ hd
theorem pe_gI {i : Int} (hg : Gl X x) (h : ∃ t, X.mg x = some (.int i t)) (hd : (x == ("__debug__" : Str)) = false := by decide) : PE X (.Name x pos) (tC (.int i)) := by
  obtain ⟨t, e⟩ := h
  exact pe_glob hg e ⟨t, rfl⟩ hd
/-- a module's tuple -/
def tGT (K : PySem.W.Frag) (xs : List V) : TE := fun _ H Q => ∀ a, (∀ H', SqT K H' a xs) → Q (.ref a) H
theorem pe_gT {xs : List V} (hg : Gl X x) (h : ∃ a, X.mg x = some (.ref a) ∧ ∀ H, SqT X.K H a xs) (hd : (x == ("__debug__" : Str)) = false := by decide) : PE X (.Name x pos) (tGT X.K xs) := by
  obtain ⟨a, e, hs⟩ := h
  have q := pe_glob (X := X) (x := x) (v := .ref a) (pos := pos) hg e rfl hd
  exact ⟨fun pins s σ H Q I hq => q.run pins s σ H Q I (hq a hs)⟩
abbrev BindsAt (K : PySem.W.Frag) (w : World) (mg : Str → Option Value) : Prop :=
  ∃ a es n, mg "BINDS" = some (.ref a) ∧ KDict K w a es n ∧ (∀ nd : Nd, ∃ t, PySem.W.nsIn K a nd.w.s = some (some (.ref t)) ∧ ∀ H, SqT K H t ((binds nd.w).map fun (b : Nat) => V.int b))
/-- BINDS[e] -/
def tKd (K : PySem.W.Frag) (te : TE) : TE := fun σ H Q => te σ H fun y H1 => ∃ nd : Nd, y = .str nd.w.s ∧ ∀ t, (∀ H', SqT K H' t ((binds nd.w).map fun (b : Nat) => V.int b)) → Q (.ref t) H1
theorem pe_kd {e : Expr} {te : TE} (h : BindsAt X.K X.w X.mg) (hg : Gl X "BINDS") (he : PE X e te) (hs : PlainIx e) : PE X (.Subscript (.Name "BINDS" p) e pos) (tKd X.K te) := by
  obtain ⟨a, es, n, hm, D, ht⟩ := h
  refine ⟨fun pins s σ H Q I hq => ?_⟩
  refine Subscript_ (binT (pe_glob (x := "BINDS") (v := .ref a) hg hm rfl) he I (R := fun x y H2 => x = .ref a ∧ ∃ nd : Nd, y = .str nd.w.s ∧ ∀ t, (∀ H', SqT X.K H' t ((binds nd.w).map fun (b : Nat) => V.int b)) → Q (.ref t) H2) ?_ fun v u s2 x y H2 I2 rx ry q => ?_)
  · have go : ∀ (R R' : VK), (∀ y H1, R y H1 → R' y H1) → te σ H R → PE X e te → te σ H R := fun _ _ _ z _ => z
    exact (show te σ H fun y H1 => (V.ref a = .ref a) ∧ ∃ nd : Nd, y = .str nd.w.s ∧ ∀ t, (∀ H', SqT X.K H' t ((binds nd.w).map fun (b : Nat) => V.int b)) → Q (.ref t) H1 from by
      have z := hq
      unfold tKd at z
      simpa using z)
  · obtain ⟨ex, nd, ey, q⟩ := q
    subst ex ey
    obtain ⟨t, et, hst⟩ := ht nd
    cases rx
    refine tail_any (kd_type D I2) slot_dict_getitem.lookup (op_item_kd D pins s2 σ H2 (.ref a) (.str nd.w.s) (.ref a) u Q I2 rfl ry ⟨nd.w.s, .ref t, .ref t, rfl, rfl, et, rfl, q t hst⟩) (hs _ _)
/-- e not in BINDS, e a node's word -/
def tNotInKd (te : TE) : TT := fun σ H Q => te σ H fun y H1 => ∃ nd : Nd, y = .str nd.w.s ∧ Q false H1
theorem pt_notInKd {e : Expr} {te : TE} (h : BindsAt X.K X.w X.mg) (hg : Gl X "BINDS") (he : PE X e te) : PT X (.Compare e [.NotIn] [.Name "BINDS" p] pos) (tNotInKd te) := by
  obtain ⟨a, es, n, hm, D, ht⟩ := h
  refine ⟨fun pins s σ H Q I hq => ?_⟩
  refine wpAny_isTrue_Compare1 (thn (he.run pins s σ H _ I hq) fun v s1 ⟨y, H1, I1, r1, nd, ey, q1⟩ => ?_) (by rfl)
  subst ey
  refine thn ((pe_glob (x := "BINDS") (v := .ref a) (pos := p) hg hm rfl).run pins s1 σ H1 (fun v H2 => v = .ref a ∧ Q false H2) I1 ⟨rfl, q1⟩) fun u s2 ⟨z, H2, I2, r2, ez, q2⟩ => ?_
  subst ez
  obtain ⟨t, et, hst⟩ := ht nd
  refine thn (op_notIn_kd D pins s2 σ H2 (.str nd.w.s) (.ref a) v u (fun b H3 => b = .bl false ∧ Q false H3) I2 r1 r2 ⟨nd.w.s, _, rfl, rfl, et, rfl, q2⟩) fun c s3 ⟨b, H3, I3, r3, eb, q3⟩ => ?_
  subst eb
  cases r3
  exact wpAny_truthy_bool ⟨H3, I3, q3⟩
theorem pe_ty (n : String) (hg : Gl X x) (hm : X.mg x = none) (hv : bootBuiltins x = some (.type n)) (hn : x ≠ "__name__" := by decide) (hd : (x == ("__debug__" : Str)) = false := by decide) : PE X (.Name x pos) (tC (.ty n)) :=
  pe_bltn (v := .ty n) hg hm hv rfl hn hd
/-- a def called -/
theorem pe_cal {CX : CXT} {k : Nat} {ps : List Str} {sp : Sp} {E : XK} {e : Expr} {es : List Expr} {t : TA} (c : Cal X.prog X.w X.K X.mg X.base CX x k ps sp) (hr : Room k X.A) (hg : Gl X x) (hx : Passes CX X E) (ha : PA X (e :: es) t)
    (hdb : (x == ("__debug__" : Str)) = false := by decide) (he : starEach (e :: es) X.env = (false, eval e X.env) :: starEach es X.env := by rfl) (hpl : (backTo pos (starEach es X.env)).any (·.1) = false := by rfl) :
    PE X (.Call (.Name x p) (e :: es) [] pos) (tCall sp [] E t) := by
  obtain ⟨f, fd, F, hm, hk, hb, _⟩ := c.ex
  exact pe_call F hr hg hm hk hb .nil hx ha hdb he hpl
end
end K17
/-! KE4: defs that run where no container is being shown (repr may be asked); repr; calls by keyword alone. -/
namespace K17
open PySem PySem.Spec PyProof.Rows L2
/-- a def's promise, kept where no guard stands -/
structure FnG (P : Program) (w : World) (K : PySem.W.Frag) (mg : Str → Option Value) (base : Heap) (k : Nat) (f : Addr) (fd : FuncData) (ps : List Str) (sp : Sp) : Prop where
  len : ∀ vs H Q E, sp vs H Q E → vs.length = ps.length
  go : ∀ (A : Around) (outer : List Env) (s : Shared) (H : Hp) (args : Args) (us : List Value) (vs : List V) (Q : VK) (E : XK), A.guards = some [] → Room k A → Env0 P w K mg base A outer s H → BindsTo s fd args (ps.zip us) → Vals vs us → sp vs H Q E →
    codeAny (model P w) A (.call (.ref f) args) (CR CX0 outer P w H s Q E) s
section
variable {P : Program} {w : World} {K : PySem.W.Frag} {mg : Str → Option Value} {base : Heap} {k : Nat} {f : Addr} {x : Str} {st : Stmt} {N ps : List Str} {sp : Sp}
/-- by the def's body -/
theorem fn_mkG {kV doc pm cdv ct oc : Value} {an od : Option Addr} {osl : Array (Option Value)} (at_ : K.lookup f = some ⟨oc, od, .func (PySem.W.fnOf x x (defArgs st) (defBody st) (defScope st) .none kV doc pm an cdv ct), osl⟩) (code : PySem.W.codeIn K cdv x = true) (S : FnScope N ps (defScope st))
    (len : ∀ vs H Q E, sp vs H Q E → vs.length = ps.length)
    (body : ∀ (A : Around) (outer : List Env) (s : Shared) (H : Hp) (vs : List V) (Q : VK) (E : XK), A.guards = some [] → Room k (A.deeper (envOfC x (defScope st) s.heap.objs.size f cdv)) → sp vs H Q E →
      ∃ t, PSs (cxOf CX0 P w K mg base N x (defScope st) f cdv A outer s H E).nox (defBody st) t ∧ t { nx := fun _ H' => Q .non H', rt := Q } (L2.start N vs) H) :
    FnG P w K mg base (k + 1) f (PySem.W.fnOf x x (defArgs st) (defBody st) (defScope st) .none kV doc pm an cdv ct) ps sp := by
  refine ⟨len, fun A outer s H args us vs Q E noG room env bind rel want => ?_⟩
  have same := len _ _ _ _ want
  exact LamX.run_ofS (CX := CX0) at_ code S room env bind rel same fun room' => by
    obtain ⟨t, ht, hq⟩ := body A outer s H vs Q E noG room' want
    exact ⟨t, ht.nox, hq⟩
end
/-- such a def, by its name -/
structure CalG (P : Program) (w : World) (K : PySem.W.Frag) (mg : Str → Option Value) (base : Heap) (x : Str) (k : Nat) (ps : List Str) (sp : Sp) : Prop where
  ex : ∃ (f : Addr) (fd : FuncData), FnG P w K mg base k f fd ps sp ∧ mg x = some (.ref f) ∧ PySem.W.keepIn K (.ref f) = true ∧ Binds K fd ps []
section
variable {X : Cx} {pos p : Pos} {x : Str} {k : Nat} {ps : List Str} {sp : Sp} {e : Expr} {es : List Expr} {t : TA}
theorem pe_calG (c : CalG X.prog X.w X.K X.mg X.base x k ps sp) (noG : X.A.guards = some []) (hr : Room k X.A) (hg : Gl X x) (ha : PA X (e :: es) t)
    (hdb : (x == ("__debug__" : Str)) = false := by decide) (he : starEach (e :: es) X.env = (false, eval e X.env) :: starEach es X.env := by rfl) (hpl : (backTo pos (starEach es X.env)).any (·.1) = false := by rfl) :
    PE X (.Call (.Name x p) (e :: es) [] pos) (tCall sp [] E0 t) := by
  obtain ⟨f, fd, F, hm, hk, hb⟩ := c.ex
  refine ⟨fun pins s σ H Q I h => ?_⟩
  refine wpAny_Call_Name_kw (ld_glob I hg hm ?_ hdb)
  refine PySem.W.callWith_K (h₀ := X.base) I.ok.mod.kin hk (thn (ha.run pos pins s σ H _ I h) fun us s1 ⟨vs, H1, I1, r, q⟩ => ⟨I1.kIn, ?_⟩) he hpl
  have q : sp vs H1 Q E0 := by
    have z : sp (vs ++ []) H1 Q E0 := q
    rwa [List.append_nil] at z
  have same : us.length = ps.length := by
    rw [← r.length]
    exact F.len _ _ _ _ q
  have bd := hb s1 us I1.kIn (by rw [List.append_nil]; exact same)
  rw [List.append_nil] at bd
  refine wpAny_call (codeAny_mono (F.go X.A X.stack s1 H1 ⟨us, []⟩ us vs Q E0 noG hr I1.env0 bd r q) fun r2 s2 got => ?_)
  cases r2 with
  | error er => exact False.elim got
  | ok fl =>
    cases fl with
    | ret u => exact I1.after got
    | next => exact False.elim got
    | brk => exact False.elim got
    | cont => exact False.elim got
/-- two values, the other way round -/
def flip2 {α : Type} : List α → List α
  | [a, b] => [b, a]
  | l => l
theorem flip2_vals {vs : List V} {us : List Value} (h : Vals vs us) : Vals (flip2 vs) (flip2 us) := by
  cases h with
  | nil => exact .nil
  | cons a t =>
    cases t with
    | nil => exact .cons a .nil
    | cons b t =>
      cases t with
      | nil => exact .cons b (.cons a .nil)
      | cons c t => exact .cons a (.cons b (.cons c t))
/-- how a def binds keywords alone: g puts the values in the parameters' order -/
def BindsK (x : Str) (st : Stmt) (ps ks : List Str) (g : List Value → List Value) : Prop :=
  ∀ (kV doc pm : Value) (an : Option Addr) (cdv ct : Value) (us : List Value), (g us).length = ps.length → bindArgs (PySem.W.fnOf x x (defArgs st) (defBody st) (defScope st) .none kV doc pm an cdv ct) ⟨[], ks.zip us⟩ = pure (ps.zip (g us))
/-- f(a = .., b = ..), all arguments by name: g puts the values in the parameters' order -/
theorem pe_calKw {ks : List Str} {st : Stmt} {kws : List Keyword} {tk : TA} {g : List Value → List Value} {gV : List V → List V} (c : Cal X.prog X.w X.K X.mg X.base CX0 x k ps sp) (D : Df X.K X.mg x st) (hb : BindsK x st ps ks g) (hv : ∀ (vs : List V) (us : List Value), Vals vs us → Vals (gV vs) (g us))
    (hp : ps ≠ []) (hr : Room k X.A) (hg : Gl X x) (hkw : PK X kws tk) (hall : (backToKw pos (keywordEach kws X.env)).all (·.1.isSome) = true := by rfl) (hks : (backToKw pos (keywordEach kws X.env)).filterMap (·.1) = ks := by rfl)
    (hpl : ((backTo pos (starEach [] X.env)).any (·.1) || (backToKw pos (keywordEach kws X.env)).any (·.1.isNone)) = false := by rfl) (hdb : (x == ("__debug__" : Str)) = false := by decide) :
    PE X (.Call (.Name x p) [] kws pos) (fun σ H Q => tk σ H fun zs H1 => sp (gV zs) H1 Q E0) := by
  obtain ⟨f, fd, F, hm, hk, _, st0, F0⟩ := c.ex
  obtain ⟨f', fd', F1, hm'⟩ := D.ex
  rw [hm] at hm'
  cases hm'
  obtain ⟨_, _, _, _, _, _, _, _, _, _, lk0, _⟩ := F0.ex
  obtain ⟨_, _, kV, doc, pm, an, cdv, ct, _, efd, lk1, _⟩ := F1.ex
  rw [lk0] at lk1
  have same : fd = fd' := by
    have z := congrArg Obj.data (Option.some.inj lk1)
    injection z
  have KB : KBinds X.K fd ps ks (fun us ws => match us with | [] => g ws | _ => []) (fun vs zs => match vs with | [] => gV zs | _ => []) := by
    refine ⟨fun s us ws _ hl => ?_, fun {vs us zs ws} r rz => ?_⟩
    · cases us with
      | cons u us => exact absurd (List.length_eq_zero_iff.mp hl.symm) hp
      | nil =>
        rw [same, efd]
        exact BindsTo.of_eq (hb kV doc pm an cdv ct ws hl)
    · cases r with
      | nil => exact hv _ _ rz
      | cons _ _ => exact .nil
  refine ⟨fun pins s σ H Q I h => ?_⟩
  refine wpAny_Call_Name_kw (ld_glob I hg hm ?_ hdb)
  refine PySem.W.callWith_KW0 (h₀ := X.base) I.ok.mod.kin hk hall (thn (hkw.run pos pins s σ H _ I h) fun ws s2 ⟨zs, H2, I2, rz, q2⟩ => ⟨I2.kIn, ?_⟩) hpl
  rw [hks]
  exact run_fnk (us := []) (vs := []) F hr KB (fun _ _ _ _ _ _ _ z => z.elim) I2 .nil rz q2
end
section
variable {X : Cx}
/-- repr of a list or a tuple -/
theorem cr_repr (noG : X.A.guards = some []) (room : X.A.units + 64 < cLine) : CallR X (.builtin "repr") (fun xs H Q => ∃ (a : Addr) (d : PyData), xs = [.ref a] ∧ Dp X.K H (.ref a) d ∧ d.showable = true ∧ d.hasDict = false ∧ d.depth ≤ 60 ∧ d.shown.length ≤ sizeLine ∧ Q (.str d.shown) H) := by
  intro pins s σ H xs us Q I r h
  obtain ⟨a, d, rfl, hd, hs, hn, hdep, hsz, q⟩ := h
  rw [Vals.ref1 r]
  obtain ⟨as, rd⟩ := Dp.reads I d _ _ hd (rfl : RelV (.ref a) (.ref a))
  exact repr_of_reads' rd hs (PyData.noDict_hsm hn) noG (by omega) (fun b o z => z) (fun h' u tk k => ⟨.str d.shown, H, I.kept (t' := tk) k, ⟨_, rfl⟩, q⟩) hsz
end
end K17
set_option maxHeartbeats 1000000
/-! KE5: sorted(x, key=lambda a: a[0]) of a list of tuples that begin with an int. -/
namespace K17
open PySem PySem.Spec PyProof.Rows L2
/-- lambda a: .. -/
def oneArg (a : Str) (ap : Pos) : Arguments := { posonlyargs := [], args := [{ arg := a, annotation := none, pos := ap }], vararg := none, kwonlyargs := [], kw_defaults := [], kwarg := none, defaults := [] }
def oneScope (a : Str) : Scope := { kind := .function, names := [(a, .local)], isGenerator := false, isCoroutine := false, more := [] }
/-- a[0] -/
def zeroth (a : Str) (p1 p2 p3 : Pos) (k0 : Nat) : Expr := .Subscript (.Name a p1) (.Constant (.int 0) k0 p2) p3
/-- the objects of a heap but the one at L -/
def others (h : Heap) (L : Addr) : List (Addr × Obj) := (List.range h.objs.size).filterMap fun b => if b = L then none else (h.get? b).map fun o => (b, o)
theorem others_iff {h : Heap} {L b : Addr} {o : Obj} : (b, o) ∈ others h L ↔ b ≠ L ∧ h.get? b = some o := by
  unfold others
  rw [List.mem_filterMap]
  constructor
  · rintro ⟨c, _, hc⟩
    split at hc
    · cases hc
    · rename_i n
      cases hg : h.get? c with
      | none => rw [hg] at hc; cases hc
      | some u =>
        rw [hg] at hc
        cases hc
        exact ⟨n, hg⟩
  · rintro ⟨n, hg⟩
    refine ⟨b, List.mem_range.mpr (Heap.lt_size hg), ?_⟩
    rw [if_neg n, hg]
    rfl
/-- no object at all -/
def noHeap : Heap := { objs := #[] }
theorem noHeap_get (b : Addr) : noHeap.get? b = none := by
  unfold noHeap Heap.get?
  simp
section
variable {prog : Program} {w : World} {A : Around} {E : Value → Shared → Prop} {s : Shared}
/-- the lambda called with a tuple that begins with k -/
theorem lam_zeroth {a : Str} {ap p1 p2 p3 : Pos} {k0 : Nat} {f c' t L : Addr} {qual : Str} {pm ctv : Value} {items : Array Value} {k : Int} {tk : Tok} {m : Str → Option Value} {need : List (Addr × Obj)} (room : A.depth < recursionLimit) (nolim : s.heap.NoLimit)
    (hf : s.heap.get? f = some (PySem.W.kla_obj "<lambda>" qual (oneArg a ap) (zeroth a p1 p2 p3 k0) (oneScope a) [] pm c' ctv)) (hc : s.heap.CodeRec (.ref c') qual) (ht : IsTup s.heap t items) (h0 : items[0]? = some (.int k tk)) (hz : items.size ≤ sizeLine)
    (F : Fr noHeap L s.heap m) (N : News noHeap L s.heap need) (hd : (a == ("__debug__" : Str)) = false)
    (hb : bindArgs (PySem.W.kla_fn "<lambda>" qual (oneArg a ap) (zeroth a p1 p2 p3 k0) (oneScope a) [] pm (.ref c') ctv) ⟨[.ref t], []⟩ = pure [(a, .ref t)]) :
    wpAny (model prog w) A (call (.ref f) [.ref t]) (KskEnd noHeap L m need k s) E s := by
  have kind : (PySem.W.envX qual (oneScope a) s.heap.objs.size f (.ref c') []).kindOf a = some .local := by
    show List.lookup a [(a, NameKind.local)] = some .local
    simp [List.lookup]
  refine wpAny_call (PySem.W.kla_callFunE room hf rfl rfl rfl rfl hc ?_)
  rw [hb]
  refine wpAny_pure (wpAny_newFunctionEnv (fun y hy => ?_) (fun y hy => ?_) (fun h₁ hns hsb => ⟨nolim.fresh _ hsb, ?_⟩) rfl)
  · rw [List.mem_singleton.mp hy]
    intro z
    cases z
  · rw [List.mem_singleton.mp hy]
    show List.lookup a [(a, NameKind.local)] = some .local
    simp [List.lookup]
  have kp : ∀ b o, s.heap.get? b = some o → h₁.get? b = some o := fun b o e => hsb.extBut b o (Nat.ne_of_lt (Heap.lt_size e)) (Heap.get?_push_of_some _ e)
  refine PySem.W.kla_codeExpr ?_
  show wpAny _ _ (eval (.Subscript (.Name a p1) (.Constant (.int 0) k0 p2) p3) (PySem.W.envX qual (oneScope a) s.heap.objs.size f (.ref c') [])) _ _ _
  refine Subscript_ (wpAny_Name (wpAny_loadName_local (m := fun x => List.lookup x [(a, Value.ref t)]) (v := .ref t) rfl kind hns (by simp [List.lookup]) ?_) hd)
  refine wpAny_Constant_int ?_
  have ht1 := ht.keeps kp
  refine subscriptTail_builtinR (x := .int k tk) ht1.typeIs slot_tuple_getitem.lookup (getItem_tuple (j := 0) ht1 (by decide) (by decide) (seqIndex_of (by decide) ?_) h0 ⟨rfl, ?_⟩) rfl
  · have := (Array.getElem?_eq_some_iff.mp h0).1
    omega
  · exact ⟨h₁, _, tk, rfl, rfl, ⟨F.ns.keeps kp, fun b o e => kp b o (F.keep b o e), F.above⟩, fun q hq => ⟨kp _ _ (N q hq).1, (N q hq).2⟩⟩
end
/-- sorted(x, key=lambda a: a[0]) -/
def tSortK (K : PySem.W.Frag) (P : Addr) (te : TE) : TE := fun σ H Q => te σ H fun x H1 => ∃ (l : Addr) (xs : List V) (keys : List Int), x = .ref l ∧ SqL K H1 l xs ∧ keys.length = xs.length ∧ (∀ (i : Nat) (v : V) (k : Int), xs[i]? = some v → keys[i]? = some k → ∃ t r, v = .ref t ∧ SqT K H1 t (.int k :: r)) ∧
  H1 P = some (.tbl #[]) ∧ ∀ (H2 : Hp) (d : Addr) (ps : List (Int × V)), LamX.ExtN H1 H2 → H2 d = none → ps.Perm (keys.zip xs) → ps.Pairwise (fun a b => a.1 ≤ b.1) → Q (.ref d) (upd H2 d (.lst (ps.map (·.2))))
section
variable {X : Cx}
theorem pe_sortKey {a : Str} {ap p p1 p2 p3 lpos kpos pos : Pos} {k0 : Nat} {e : Expr} {te : TE} {c P : Addr} (TB : LamX.TabB X.base X.mg c P) (code : X.env.code = .ref c) (calm : X.calm = true) (room : Room 3 X.A) (hg : Gl X "sorted") (hm : X.mg "sorted" = none) (ha : PA X [e] (tCons te tNil)) (hd : (a == ("__debug__" : Str)) = false)
    (hb : ∀ (q : Str) (pm cv ctv u : Value), bindArgs (PySem.W.kla_fn "<lambda>" q (oneArg a ap) (zeroth a p1 p2 p3 k0) (oneScope a) [] pm cv ctv) ⟨[u], []⟩ = pure [(a, u)])
    (hv : bootBuiltins "sorted" = some (.builtin "sorted")) (hs : backTo pos (starEach [e] X.env) = (false, eval e X.env) :: backTo pos (starEach [] X.env) := by rfl) (hpl : (backTo pos (starEach [e] X.env)).any (·.1) = false := by rfl) :
    PE X (.Call (.Name "sorted" p) [e] [⟨some "key", .Lambda (oneArg a ap) (zeroth a p1 p2 p3 k0) (oneScope a) lpos, kpos⟩] pos) (tSortK X.K P te) := by
  refine ⟨fun pins s σ H Q I h => ?_⟩
  refine wpAny_Call_Name_kw (ld_blt I hg hm hv ?_)
  refine PyProof.Rows.callWith_kw (thn (ha.run pos pins s σ H (fun vs H1 => match vs with | [x] => (∃ (l : Addr) (xs : List V) (keys : List Int), x = .ref l ∧ SqL X.K H1 l xs ∧ keys.length = xs.length ∧ (∀ (i : Nat) (v : V) (k : Int), xs[i]? = some v → keys[i]? = some k → ∃ t r, v = .ref t ∧ SqT X.K H1 t (.int k :: r)) ∧
    H1 P = some (.tbl #[]) ∧ ∀ (H2 : Hp) (d : Addr) (ps : List (Int × V)), LamX.ExtN H1 H2 → H2 d = none → ps.Perm (keys.zip xs) → ps.Pairwise (fun a b => a.1 ≤ b.1) → Q (.ref d) (upd H2 d (.lst (ps.map (·.2))))) | _ => False) I h) fun us s1 ⟨vs, H1, I1, r1, q0⟩ => ?_) hs hpl (by rfl) (by rfl)
  obtain ⟨x, rfl⟩ : ∃ x, vs = [x] := by
    match vs, q0 with
    | [x], _ => exact ⟨x, rfl⟩
    | [], z => exact z.elim
    | _ :: _ :: _, z => exact z.elim
  obtain ⟨l, xs, keys, ex, hl, hlen, hkeys, hP, q⟩ := q0
  subst ex
  rw [Vals.ref1 r1]
  refine wpAny_evalAll_cons (wpAny_bind ?_)
  refine LamX.lam_make2 (T := [(P, X.env.qual ++ "<lambda>")]) I1 TB code (by simp) (fun p hp _ => by rw [List.mem_singleton.mp hp]) (fun p hp => by rw [List.mem_singleton.mp hp]; exact LamX.TabS.nil hP) (by rfl) (fun y hy z => by
    rw [List.mem_singleton.mp hy] at z
    cases z) fun f c' pm ctv H2 s2 I2 eN T2 hf hfn hfr hco => ?_
  refine wpAny_bind (wpAny_standAt (wpAny_pure (wpAny_evalAll_nil ?_)))
  show wpAny _ _ (call (.builtin "sorted") [.ref l] [(Str.ofString "key", .ref f)]) _ _ _
  have seqL : ∀ {b : Addr} {zs : List V}, SqL X.K H1 b zs → SqL X.K H2 b zs := fun h => by
    rcases h with (h | ⟨o, h⟩) | h
    · exact .inl (.inl (eN _ _ h fun _ z => by cases z))
    · exact .inl (.inr ⟨o, eN _ _ h fun _ z => by cases z⟩)
    · exact .inr h
  have seqT : ∀ {b : Addr} {zs : List V}, SqT X.K H1 b zs → SqT X.K H2 b zs := fun h => by
    rcases h with (h | ⟨o, h⟩) | h
    · exact .inl (.inl (eN _ _ h fun _ z => by cases z))
    · exact .inl (.inr ⟨o, eN _ _ h fun _ z => by cases z⟩)
    · exact .inr h
  obtain ⟨its, rv, isl, hz⟩ := I2.list (seqL hl)
  have lits := rv.length
  have allR : ∀ x ∈ xs, ∃ a, x = V.ref a := fun x hx => by
    obtain ⟨i, hi⟩ := List.getElem?_of_mem hx
    have li := (List.getElem?_eq_some_iff.mp hi).1
    obtain ⟨t, r, e, _⟩ := hkeys i x keys[i] hi (List.getElem?_eq_getElem (by omega))
    exact ⟨t, e⟩
  obtain ⟨b1, b2⟩ := refs_back rv allR
  obtain ⟨m, hns, _⟩ := I2.loc
  obtain ⟨oL, esL, epL, gL, dL, _⟩ := id hns
  have F0 : Fr noHeap X.env.locals s2.heap m := by
    refine ⟨hns, fun b o z => ?_, Nat.zero_le _⟩
    rw [noHeap_get] at z
    cases z
  have N0 : News noHeap X.env.locals s2.heap (others s2.heap X.env.locals) := fun q hq => by
    obtain ⟨n, g⟩ := others_iff.mp hq
    exact ⟨g, n, noHeap_get _⟩
  have notL : ∀ {b : Addr} {o : Obj}, s2.heap.get? b = some o → (∀ es ep, o.data ≠ .dict es ep) → b ≠ X.env.locals := fun g n z => by
    rw [z, gL] at g
    cases g
    exact n _ _ dL
  obtain ⟨s2h, s2g, s2d, s2t, s2o⟩ := s2
  refine PyProof.Rows.ksk_sortedAny (b := false) (kz := keys) F0 N0 isl.isList (by omega) (by omega) (ksk_s1 _ _) (fun y => ksk_l1 _ _) (fun y => ksk_t1 f y) (fun i v k hv hk h tk own F' N' => ?_) fun D h' tk out cc F' N' hlt K' => ?_
  · have lv := (List.getElem?_eq_some_iff.mp hv).1
    obtain ⟨t, rfl⟩ := b2 v (List.mem_of_getElem? hv)
    obtain ⟨t', r, e, hst⟩ := hkeys i (backV (.ref t)) k (by rw [b1, List.getElem?_map, hv]; rfl) hk
    obtain rfl : t = t' := V.ref.inj e
    obtain ⟨items, rit, isT, hiz⟩ := I2.tuple (seqT hst)
    have kept : ∀ {b : Addr} {o : Obj}, s2h.get? b = some o → (∀ es ep, o.data ≠ .dict es ep) → h.get? b = some o := fun g n => (N' _ (List.mem_append_left _ (others_iff.mpr ⟨notL g n, g⟩))).1
    obtain ⟨oT, gT, cT, nT, dT⟩ := isT
    have isT' : IsTup h t items.toArray := ⟨oT, kept gT (fun _ _ z => by rw [dT] at z; cases z), cT, nT, dT⟩
    obtain ⟨u0, hu0, ru0⟩ := rit.get (show (V.int k :: r)[0]? = some (.int k) from rfl)
    obtain ⟨tk0, rfl⟩ := ru0
    obtain ⟨⟨oc, cvs, ct, hoc, hdc, hvc⟩, _, _⟩ := I2.hok c' _ hco
    have hoc' := kept hoc (fun _ _ z => by rw [hdc] at z; cases z)
    have hf' := kept hf (fun _ _ z => by cases z)
    have nolim : h.NoLimit := I2.ok.mod.nolimit.keeps fun b o e => by
      have g := I2.bk b o e
      have nb : b ≠ X.env.locals := Nat.ne_of_lt (Nat.lt_of_lt_of_le (Heap.lt_size e) (Nat.le_trans I2.ok.bsz I2.ok.above))
      exact (N' _ (List.mem_append_left _ (others_iff.mpr ⟨nb, g⟩))).1
    have hl2 := rit.length
    exact lam_zeroth (s := ⟨h, s2g, s2d, tk, s2o⟩) (items := items.toArray) room.depth nolim hf' ⟨c', oc, cvs, ct, rfl, hoc', hdc, hvc⟩ isT' (by simpa using hu0) (by rw [List.size_toArray]; omega) F' N' hd (hb _ _ _ _ _)
  · obtain ⟨ps, pperm, pout, psort⟩ := K'
    have atD := N' _ (List.mem_cons_self)
    have keepO : ∀ {b : Addr} {o : Obj}, b ≠ X.env.locals → s2h.get? b = some o → h'.get? b = some o := fun n g => (N' _ (List.mem_cons_of_mem _ (others_iff.mpr ⟨n, g⟩))).1
    have dNew : ∀ {b : Addr} {o : Obj}, s2h.get? b = some o → b ≠ D := fun {b o} g z => by
      by_cases hbL : b = X.env.locals
      · exact atD.2.1 (z.symm.trans hbL)
      · have lt : b < D := hlt _ (others_iff.mpr ⟨hbL, g⟩)
        rw [z] at lt
        exact Nat.lt_irrefl _ lt
    have freeD : H2 D = none := by
      cases e : H2 D with
      | none => rfl
      | some o =>
        obtain ⟨u, g⟩ := objOk_get (I2.hok D o e)
        exact absurd rfl (dNew g)
    have notLH : ∀ {b : Addr} {o : HO}, H2 b = some o → b ≠ X.env.locals := fun e z => by
      rw [z, I2.free] at e
      cases e
    have refsOut : ∀ u ∈ out.toList, ∃ a, u = Value.ref a := fun u hu => by
      rw [pout] at hu
      obtain ⟨pr, hpr, e⟩ := List.mem_map.mp hu
      have z := (pperm.mem_iff.mp hpr)
      obtain ⟨x1, x2⟩ := pr
      have := (List.of_mem_zip z).2
      rw [← e]
      exact b2 _ this
    have lenOut : out.toList.length ≤ sizeLine := by
      rw [pout, List.length_map, pperm.length_eq, List.length_zip]
      exact Nat.le_trans (Nat.min_le_right _ _) (by omega)
    have J : L2.Inv X pins σ (upd H2 D (.lst (out.toList.map backV))) ⟨h', s2g, s2d, tk, s2o⟩ := by
      refine I2.step (g' := s2g) (d' := s2d) (t' := tk) (h' := h') (ch := []) (fun b hb => absurd hb (by simp)) (fun b o n _ _ g _ => keepO n g) (fun b o n _ _ g _ => ⟨o.slots, keepO n g⟩) (fun b o _ g n => by
        rw [upd_ne (dNew g)]
        exact n) (fun b o _ g => ?_) (fun b zs z => by rw [upd_ne (ne_of_none z freeD)]; exact z) (fun b o u z => by rw [upd_ne (ne_of_none z freeD)]; exact z) (fun b zs z => ⟨#[], by rw [upd_ne (ne_of_none z freeD), z]; simp⟩) (fun m' hm' => ?_) (fun b o z => ?_) I2.bare
      · by_cases hbL : b = X.env.locals
        · obtain ⟨o', _, _, g', _⟩ := F'.ns
          exact ⟨o', by rw [hbL]; exact g'⟩
        · exact ⟨o, keepO hbL g⟩
      · have e1 := hm'.eq_nsMap
        have e2 := hns.eq_nsMap
        rw [e1.trans e2.symm]
        exact F'.ns
      · by_cases hbD : b = D
        · subst hbD
          rw [upd_same] at z
          cases z
          exact ⟨by rw [List.length_map]; exact lenOut, out.toList, cc, vals_back refsOut, by simpa using atD.1⟩
        · rw [upd_ne hbD] at z
          refine (I2.hok b o z).stay (fun c v hc g => keepO ?_ g) (fun c g => by rw [upd_ne (ne_of_none g freeD)]; exact g) (fun c zs g => by rw [upd_ne (ne_of_none g freeD)]; exact g)
          rcases hc with hc | hc
          · rw [hc]
            exact notLH z
          · exact notLH hc
    refine ⟨.ref D, _, J, rfl, ?_⟩
    have want := q H2 D (ps.map fun p => (p.1, backV p.2)) eN freeD ?_ ?_
    · rw [List.map_map] at want
      rw [pout, List.map_map]
      exact want
    · have z := pperm.map (fun p : Int × Value => (p.1, backV p.2))
      have e : (keys.zip its).map (fun p : Int × Value => (p.1, backV p.2)) = keys.zip xs := by
        rw [b1, List.zip_map_right]
        rfl
      rwa [e] at z
    · rw [List.pairwise_map]
      exact psort.imp fun {a b} h => by simpa using h
end
end K17
/-! K3: whole numbers, types, kinds judged. -/
namespace K17
open PySem L2
/-! ### types by data -/
def tyD : PyData → String
  | .none => "NoneType" | .bool _ => "bool" | .int _ => "int" | .str _ => "str" | .list _ => "list" | .tuple _ => "tuple" | .dict _ => "dict"
abbrev TyN (K : PySem.W.Frag) (H : Hp) (v : V) (t : String) : Prop := TyX K H v (.type t)
theorem tyL {K : PySem.W.Frag} {H : Hp} {a : Addr} {xs : List V} (h : SqL K H a xs) : TyN K H (.ref a) "list" := by
  rcases h with (h | ⟨o, h⟩) | ⟨o, its, n, h, c, _⟩
  · exact .base (.lst h)
  · exact .base (.frz h)
  · exact .kList h c
theorem tyT {K : PySem.W.Frag} {H : Hp} {a : Addr} {xs : List V} (h : SqT K H a xs) : TyN K H (.ref a) "tuple" := by
  rcases h with (h | ⟨o, h⟩) | ⟨o, its, n, h, c, _⟩
  · exact .base (.tup h)
  · exact .fTuple h
  · exact .kTuple h c
theorem Dp.ty {K : PySem.W.Frag} {H : Hp} {v : V} : ∀ {d : PyData}, Dp K H v d → TyN K H v (tyD d)
  | _, .non => .base .non
  | _, .bl b => .base (.bl b)
  | _, .int i => .base (.int i)
  | _, .str x => .base (.str x)
  | _, .lst h _ => tyL h
  | _, .tup h _ => tyT h
/-! ### answers -/
theorem lenT {K : PySem.W.Frag} {H : Hp} {a : Addr} {xs : List V} (h : SqT K H a xs) : LenV K (.ref a) H xs.length := .inr ⟨xs, h, rfl⟩
theorem lenL {K : PySem.W.Frag} {H : Hp} {a : Addr} {xs : List V} (h : SqL K H a xs) : LenV K (.ref a) H xs.length := .inl ⟨xs, h, rfl⟩
theorem at0 {α : Type} {x : α} {xs : List α} : atI (x :: xs) 0 = some x := atI_nat (j := 0) rfl
theorem at1 {α : Type} {x y : α} {xs : List α} : atI (x :: y :: xs) 1 = some y := atI_nat (j := 1) rfl
theorem at2 {α : Type} {x y z : α} {xs : List α} : atI (x :: y :: z :: xs) 2 = some z := atI_nat (j := 2) rfl
theorem fits2 : 2 ≤ sizeLine := by decide
theorem fits3 : 3 ≤ sizeLine := by decide
theorem fits1 : 1 ≤ sizeLine := by decide
theorem fits0 : 0 ≤ sizeLine := by decide
theorem ifT {c : Bool} {A B : Prop} (h : c = true) (a : A) : if c = true then A else B := by rw [if_pos h]; exact a
theorem ifF {c : Bool} {A B : Prop} (h : c = false) (b : B) : if c = true then A else B := by rw [if_neg (by rw [h]; decide)]; exact b
theorem ifIT {i j : Int} {A B : Prop} (h : i = j) (a : A) : if decide (V.int i = V.int j) = true then A else B := ifT (decide_eq_true (congrArg V.int h)) a
theorem ifIF {i j : Int} {A B : Prop} (h : i ≠ j) (b : B) : if decide (V.int i = V.int j) = true then A else B := ifF (decide_eq_false fun e => h (V.int.inj e)) b
theorem ifST {i j : Wd} {A B : Prop} (h : i = j) (a : A) : if decide (V.str i.s = V.str j.s) = true then A else B := ifT (by rw [decW, decide_eq_true h]) a
theorem ifSF {i j : Wd} {A B : Prop} (h : i ≠ j) (b : B) : if decide (V.str i.s = V.str j.s) = true then A else B := ifF (by rw [decW, decide_eq_false h]) b
theorem TyX.same {K : PySem.W.Frag} {H H' : Hp} {v : V} {t : Value} (s : Same H H') (h : TyX K H v t) : TyX K H' v t := by
  cases h with
  | base b =>
    refine .base ?_
    cases b with
    | non => exact .non
    | bl x => exact .bl x
    | int x => exact .int x
    | str x => exact .str x
    | flt x => exact .flt x
    | lst e => exact .lst (s _ _ e)
    | frz e => exact .frz (s _ _ e)
    | tup e => exact .tup (s _ _ e)
    | dK e => exact .dK (s _ _ e)
    | dT e => exact .dT (s _ _ e)
    | ins e c1 c2 c3 c4 c5 => exact .ins (s _ _ e) c1 c2 c3 c4 c5
  | byt b => exact .byt b
  | set e => exact .set (s _ _ e)
  | kList e c => exact .kList e c
  | kTuple e c => exact .kTuple e c
  | kDict e c => exact .kDict e c
  | fTuple e => exact .fTuple (s _ _ e)
  | fDict e => exact .fDict (s _ _ e)
section
variable {P : Program} {w : World} {K : PySem.W.Frag} {mg : Str → Option Value} {base : Heap} {fr nk nkI : Addr} {fd : FuncData}
abbrev N_is_integer : List Str := ["value"]
theorem sc_is_integer : FnScope N_is_integer ["value"] (defScope (top 12)) := ⟨rfl, rfl, rfl, by decide +kernel, rfl, by decide +kernel, by decide +kernel⟩
def gInteger : G1 := fun v H Q _ => (∃ i, v = .int i ∧ Q (.bl true) H) ∨ (∃ b, v = .bl b ∧ Q (.bl false) H)
theorem ok_is_integer (T : Txt K w mg fr fd nk nkI) (D : Df K mg "is_integer" (top 12)) : Cal P w K mg base CX0 "is_integer" 1 ["value"] (sp1 gInteger) := by
  refine D.cal sc_is_integer (bs1 fun _ _ _ _ _ _ _ => rfl) sp1_len fun f cdv A outer s H vs Q E hr h => ?_
  obtain ⟨v, rfl, h⟩ := h
  refine ⟨_, (pss_one (ps_ret (pe_and (pe_callB call_isi (by rfl) T.isinstance (by decide +kernel) (pa_cons (pv 0) (pa_cons (pe_ty "int" (by rfl) T.int (by decide +kernel)) pa_nil))) (pe_one (pe_not (pe_callB call_isi (by rfl) T.isinstance (by decide +kernel) (pa_cons (pv 0) (pa_cons (pe_ty "bool" (by rfl) T.bool (by decide +kernel)) pa_nil)))))))), ?_⟩
  rcases h with ⟨i, rfl, q⟩ | ⟨b, rfl, q⟩
  · refine ⟨_, rfl, _, _, _, _, true, rfl, .ty _, .base (.int i), kit_ty (by decide +kernel), true, rfl, iteT ?_⟩
    exact ⟨_, rfl, _, _, _, _, false, rfl, .ty _, .base (.int i), kit_ty (by decide +kernel), false, rfl, q⟩
  · refine ⟨_, rfl, _, _, _, _, true, rfl, .ty _, .base (.bl b), kit_ty (by decide +kernel), true, rfl, iteT ?_⟩
    exact ⟨_, rfl, _, _, _, _, true, rfl, .ty _, .base (.bl b), kit_ty (by decide +kernel), true, rfl, q⟩
abbrev N_is_count : List Str := ["value"]
theorem sc_is_count : FnScope N_is_count ["value"] (defScope (top 13)) := ⟨rfl, rfl, rfl, by decide +kernel, rfl, by decide +kernel, by decide +kernel⟩
def gCount : G1 := fun v H Q _ => (∃ i, v = .int i ∧ Q (.bl (decide (0 ≤ i))) H) ∨ (∃ b, v = .bl b ∧ Q (.bl false) H)
theorem ok_is_count (T : Txt K w mg fr fd nk nkI) (D : Df K mg "is_count" (top 13)) (c_is_integer : Cal P w K mg base CX0 "is_integer" 1 ["value"] (sp1 gInteger)) : Cal P w K mg base CX0 "is_count" 2 ["value"] (sp1 gCount) := by
  refine D.cal sc_is_count (bs1 fun _ _ _ _ _ _ _ => rfl) sp1_len fun f cdv A outer s H vs Q E hr h => ?_
  obtain ⟨v, rfl, h⟩ := h
  refine ⟨_, (pss_one (ps_ret (pe_and (pe_cal c_is_integer (hr.mono (by decide)) rfl pass0 (pa_cons (pv 0) pa_nil)) (pe_one (pe_cmpR op_ge (pv 0) pe_int (by rfl)))))), ?_⟩
  rcases h with ⟨i, rfl, q⟩ | ⟨b, rfl, q⟩
  · exact ⟨_, rfl, _, rfl, .inl ⟨i, rfl, true, rfl, iteT ⟨_, rfl, _, _, rfl, rfl, q⟩⟩⟩
  · exact ⟨_, rfl, _, rfl, .inr ⟨b, rfl, false, rfl, iteF q⟩⟩
abbrev N_is_list : List Str := ["value"]
theorem sc_is_list : FnScope N_is_list ["value"] (defScope (top 14)) := ⟨rfl, rfl, rfl, by decide +kernel, rfl, by decide +kernel, by decide +kernel⟩
/-- any value whose type is told -/
def gList (K : PySem.W.Frag) : G1 := fun v H Q _ => ∃ t b, TyN K H v t ∧ PySem.W.kitAny K (.type t) [.type "list", .type "tuple"] = some b ∧ ∀ H', Same H H' → Q (.bl b) H'
theorem ok_is_list (T : Txt K w mg fr fd nk nkI) (D : Df K mg "is_list" (top 14)) : Cal P w K mg base CX0 "is_list" 1 ["value"] (sp1 (gList K)) := by
  refine D.cal sc_is_list (bs1 fun _ _ _ _ _ _ _ => rfl) sp1_len fun f cdv A outer s H vs Q E hr h => ?_
  obtain ⟨v, rfl, t, b, ht, hk, q⟩ := h
  refine ⟨_, (pss_one (ps_ret (pe_callB call_isiT (by rfl) T.isinstance (by decide +kernel) (pa_cons (pv 0) (pa_cons (pe_tup (pa_cons (pe_ty "list" (by rfl) T.list (by decide +kernel)) (pa_cons (pe_ty "tuple" (by rfl) T.tuple (by decide +kernel)) pa_nil))) pa_nil))))), ?_⟩
  refine ⟨_, rfl, fits2, fun p hp => ?_⟩
  have sm := Same.new hp (.tup [V.ty "list", V.ty "tuple"])
  exact ⟨_, p, _, .type t, [.type "list", .type "tuple"], b, rfl, upd_same, .cons (.ty _) (.cons (.ty _) .nil), TyX.same sm ht, hk, q _ sm⟩
abbrev N_is_letter_word : List Str := ["value"]
theorem sc_is_letter_word : FnScope N_is_letter_word ["value"] (defScope (top 26)) := ⟨rfl, rfl, rfl, by decide +kernel, rfl, by decide +kernel, by decide +kernel⟩
def gLetterWord : G1 := fun v H Q _ => ∃ z : Wd, v = .str z.s ∧ Q (.bl (decide (z = Wd.letter))) H
theorem ok_is_letter_word (T : Txt K w mg fr fd nk nkI) (D : Df K mg "is_letter_word" (top 26)) : Cal P w K mg base CX0 "is_letter_word" 1 ["value"] (sp1 gLetterWord) := by
  refine D.cal sc_is_letter_word (bs1 fun _ _ _ _ _ _ _ => rfl) sp1_len fun f cdv A outer s H vs Q E hr h => ?_
  obtain ⟨v, rfl, z, rfl, q⟩ := h
  refine ⟨_, (pss_one (ps_ret (pe_and (pe_callB call_isi (by rfl) T.isinstance (by decide +kernel) (pa_cons (pv 0) (pa_cons (pe_ty "str" (by rfl) T.str (by decide +kernel)) pa_nil))) (pe_one (pe_cmpR op_eq (pv 0) (pe_gS rfl T.LETTER) (by rfl)))))), ?_⟩
  refine ⟨_, rfl, _, _, _, _, true, rfl, .ty _, .base (.str _), kit_ty (by decide +kernel), true, rfl, iteT ?_⟩
  refine ⟨_, rfl, rfl, ?_⟩
  rw [decW]
  exact q
abbrev N_is_letter : List Str := ["value"]
theorem sc_is_letter : FnScope N_is_letter ["value"] (defScope (top 27)) := ⟨rfl, rfl, rfl, by decide +kernel, rfl, by decide +kernel, by decide +kernel⟩
def gLetter : G1 := fun v H Q _ => ∃ i : Int, v = .int i ∧ 0 ≤ i ∧ i ≤ 5 ∧ Q (.bl true) H
theorem ok_is_letter (T : Txt K w mg fr fd nk nkI) (D : Df K mg "is_letter" (top 27)) (c_is_count : Cal P w K mg base CX0 "is_count" 2 ["value"] (sp1 gCount)) : Cal P w K mg base CX0 "is_letter" 3 ["value"] (sp1 gLetter) := by
  refine D.cal sc_is_letter (bs1 fun _ _ _ _ _ _ _ => rfl) sp1_len fun f cdv A outer s H vs Q E hr h => ?_
  obtain ⟨v, rfl, i, rfl, h0, h5, q⟩ := h
  refine ⟨_, (pss_one (ps_ret (pe_and (pe_cal c_is_count (hr.mono (by decide)) rfl pass0 (pa_cons (pv 0) pa_nil)) (pe_one (pe_cmpR op_le (pv 0) (pe_gI rfl T.MOST_LETTER) (by rfl)))))), ?_⟩
  refine ⟨_, rfl, _, rfl, .inl ⟨i, rfl, _, rfl, ifT (decide_eq_true h0) ⟨_, rfl, _, _, rfl, rfl, ?_⟩⟩⟩
  show Q (.bl (decide (i ≤ 5))) H
  rw [decide_eq_true h5]
  exact q
def Kd.lf : Kd → Bool
  | .br _ _ _ => false
  | _ => true
abbrev N_is_leaf : List Str := ["value"]
theorem sc_is_leaf : FnScope N_is_leaf ["value"] (defScope (top 25)) := ⟨rfl, rfl, rfl, by decide +kernel, rfl, by decide +kernel, by decide +kernel⟩
def gLeaf (K : PySem.W.Frag) : G1 := fun v H Q _ => ∃ k, KAt K H v k ∧ Q (.bl k.lf) H
theorem ok_is_leaf (T : Txt K w mg fr fd nk nkI) (D : Df K mg "is_leaf" (top 25)) (c_is_letter_word : Cal P w K mg base CX0 "is_letter_word" 1 ["value"] (sp1 gLetterWord)) (c_is_letter : Cal P w K mg base CX0 "is_letter" 3 ["value"] (sp1 gLetter)) :
    Cal P w K mg base CX0 "is_leaf" 4 ["value"] (sp1 (gLeaf K)) := by
  refine D.cal sc_is_leaf (bs1 fun _ _ _ _ _ _ _ => rfl) sp1_len fun f cdv A outer s H vs Q E hr h => ?_
  obtain ⟨v, rfl, k, hk, q⟩ := h
  refine ⟨_, (pss_cons (ps_if (PW.pt (pw_or (pt_not (pt_val (pe_callB call_isi (by rfl) T.isinstance (by decide +kernel) (pa_cons (pv 0) (pa_cons (pe_ty "tuple" (by rfl) T.tuple (by decide +kernel)) pa_nil))))) (pw_or1 (pt_cmpR op_eq (pe_callB call_len (by rfl) T.len (by decide +kernel) (pa_cons (pv 0) pa_nil)) pe_int (by rfl))))) 
      (pss_one (ps_ret pe_bl)) pss_nil)
    (pss_cons (ps_if (pt_cmpR op_eq (pe_callB call_len (by rfl) T.len (by decide +kernel) (pa_cons (pv 0) pa_nil)) pe_int (by rfl)) 
      (pss_one (ps_ret (pe_and (pe_callB call_isi (by rfl) T.isinstance (by decide +kernel) (pa_cons (pe_ix ix_tup (pv 0) pe_int (fun _ _ => rfl)) (pa_cons (pe_ty "str" (by rfl) T.str (by decide +kernel)) pa_nil))) (pe_one (pe_cmpR op_eq (pe_ix ix_tup (pv 0) pe_int (fun _ _ => rfl)) (pe_gS rfl T.TELLING) (by rfl)))))) pss_nil)
    (pss_one (ps_ret (pe_and (pe_cmpR op_eq (pe_callB call_len (by rfl) T.len (by decide +kernel) (pa_cons (pv 0) pa_nil)) pe_int (by rfl)) (pe_and (pe_cal c_is_letter_word (hr.mono (by decide)) rfl pass0 (pa_cons (pe_ix ix_tup (pv 0) pe_int (fun _ _ => rfl)) pa_nil)) (pe_one (pe_cal c_is_letter (hr.mono (by decide)) rfl pass0 (pa_cons (pe_ix ix_tup (pv 0) pe_int (fun _ _ => rfl)) pa_nil))))))))), ?_⟩
  cases k with
  | ltr b =>
    obtain ⟨a, rfl, hs⟩ := hk.ltr
    refine ⟨_, rfl, _, _, _, _, true, rfl, .ty _, tyT hs, kit_ty (by decide +kernel), true, rfl, iteF ⟨_, rfl, _, _, rfl, lenT hs, rfl, _, rfl, ifIF (by simp) ?_⟩⟩
    refine ⟨_, rfl, _, _, rfl, lenT hs, rfl, _, rfl, ifIF (by simp) ?_⟩
    refine ⟨_, rfl, _, _, rfl, lenT hs, rfl, _, rfl, ifIT (by simp) ?_⟩
    refine ⟨_, rfl, _, _, _, _, rfl, rfl, hs, at0, _, rfl, Wd.letter, rfl, _, rfl, iteT ?_⟩
    exact ⟨_, rfl, _, _, _, _, rfl, rfl, hs, at1, _, rfl, lv b, rfl, by cases b <;> decide, by cases b <;> decide, q⟩
  | cnt =>
    obtain ⟨a, rfl, hs⟩ := hk.cnt
    refine ⟨_, rfl, _, _, _, _, true, rfl, .ty _, tyT hs, kit_ty (by decide +kernel), true, rfl, iteF ⟨_, rfl, _, _, rfl, lenT hs, rfl, _, rfl, ifIF (by simp) ?_⟩⟩
    refine ⟨_, rfl, _, _, rfl, lenT hs, rfl, _, rfl, ifIT (by simp) ?_⟩
    refine ⟨_, rfl, _, _, _, _, rfl, rfl, hs, at0, _, _, _, _, true, rfl, .ty _, .base (.str _), kit_ty (by decide +kernel), true, rfl, iteT ?_⟩
    refine ⟨_, rfl, _, _, _, _, rfl, rfl, hs, at0, rfl, ?_⟩
    rw [decW]
    exact q
  | br w2 x y =>
    obtain ⟨a, vx, vy, rfl, hs, _⟩ := hk.br
    refine ⟨_, rfl, _, _, _, _, true, rfl, .ty _, tyT hs, kit_ty (by decide +kernel), true, rfl, iteF ⟨_, rfl, _, _, rfl, lenT hs, rfl, _, rfl, ifIF (by simp) ?_⟩⟩
    refine ⟨_, rfl, _, _, rfl, lenT hs, rfl, _, rfl, ifIF (by simp) ?_⟩
    refine ⟨_, rfl, _, _, rfl, lenT hs, rfl, _, rfl, ?_⟩
    exact ifF (by simp) q
abbrev N_is_branch : List Str := ["value"]
theorem sc_is_branch : FnScope N_is_branch ["value"] (defScope (top 28)) := ⟨rfl, rfl, rfl, by decide +kernel, rfl, by decide +kernel, by decide +kernel⟩
def gBranch (K : PySem.W.Frag) : G1 := fun v H Q _ => ∃ k, KAt K H v k ∧ ∀ H', Same H H' → Q (.bl (!k.lf)) H'
theorem ok_is_branch (T : Txt K w mg fr fd nk nkI) (D : Df K mg "is_branch" (top 28)) : Cal P w K mg base CX0 "is_branch" 1 ["value"] (sp1 (gBranch K)) := by
  refine D.cal sc_is_branch (bs1 fun _ _ _ _ _ _ _ => rfl) sp1_len fun f cdv A outer s H vs Q E hr h => ?_
  obtain ⟨v, rfl, k, hk, q⟩ := h
  refine ⟨_, (pss_cons (ps_if (PW.pt (pw_or (pt_not (pt_val (pe_callB call_isi (by rfl) T.isinstance (by decide +kernel) (pa_cons (pv 0) (pa_cons (pe_ty "tuple" (by rfl) T.tuple (by decide +kernel)) pa_nil))))) (pw_or1 (pt_cmpR op_ne (pe_callB call_len (by rfl) T.len (by decide +kernel) (pa_cons (pv 0) pa_nil)) pe_int (by rfl))))) 
      (pss_one (ps_ret pe_bl)) pss_nil)
    (pss_one (ps_ret (pe_and (pe_callB call_isi (by rfl) T.isinstance (by decide +kernel) (pa_cons (pe_ix ix_tup (pv 0) pe_int (fun _ _ => rfl)) (pa_cons (pe_ty "str" (by rfl) T.str (by decide +kernel)) pa_nil))) (pe_one (pe_cmpR op_in_seq (pe_ix ix_tup (pv 0) pe_int (fun _ _ => rfl)) (pe_tup (pa_cons (pe_gS rfl T.PAIR) (pa_cons (pe_gS rfl T.SUM) (pa_cons (pe_gS rfl T.FUN) pa_nil)))) (by rfl))))))), ?_⟩
  cases k with
  | ltr b =>
    obtain ⟨a, rfl, hs⟩ := hk.ltr
    exact ⟨_, rfl, _, _, _, _, true, rfl, .ty _, tyT hs, kit_ty (by decide +kernel), true, rfl, iteF ⟨_, rfl, _, _, rfl, lenT hs, rfl, _, rfl, ifT (by simp) (q _ (Same.refl _))⟩⟩
  | cnt =>
    obtain ⟨a, rfl, hs⟩ := hk.cnt
    exact ⟨_, rfl, _, _, _, _, true, rfl, .ty _, tyT hs, kit_ty (by decide +kernel), true, rfl, iteF ⟨_, rfl, _, _, rfl, lenT hs, rfl, _, rfl, ifT (by simp) (q _ (Same.refl _))⟩⟩
  | br w2 x y =>
    obtain ⟨a, vx, vy, rfl, hs, _⟩ := hk.br
    refine ⟨_, rfl, _, _, _, _, true, rfl, .ty _, tyT hs, kit_ty (by decide +kernel), true, rfl, iteF ⟨_, rfl, _, _, rfl, lenT hs, rfl, _, rfl, ifF (by simp) ?_⟩⟩
    refine ⟨_, rfl, _, _, _, _, rfl, rfl, hs, at0, _, _, _, _, true, rfl, .ty _, .base (.str _), kit_ty (by decide +kernel), true, rfl, iteT ?_⟩
    refine ⟨_, rfl, _, _, _, _, rfl, rfl, hs, at0, fits3, fun p hp => ?_⟩
    have sm := Same.new hp (.tup [V.str Wd.pair.s, V.str Wd.sum.s, V.str Wd.fn.s])
    refine ⟨p, _, rfl, .inr (SqT.of upd_same), rfl, rfl, ?_⟩
    have e : inV (V.str w2.w.s) [V.str Wd.pair.s, V.str Wd.sum.s, V.str Wd.fn.s] = true := by cases w2 <;> decide +kernel
    rw [e]
    exact q _ sm
end
end K17
/-! K4: is_kind and what puts letters in kinds. -/
namespace K17
open PySem L2
/-! ### the stack of is_kind -/
def dS (p : Kd × Nat) : PyData := .tuple [dK p.1, .int p.2]
theorem noL_st : ∀ st : List (Kd × Nat), noLs (st.map dS) = true
  | [] => rfl
  | (k, d) :: r => by simp [noLs, noL, dS, noL_dK k, noL_st r]
def tot (st : List (Kd × Nat)) : Nat := (st.map fun p => p.1.size).sum
def dok (st : List (Kd × Nat)) : Prop := ∀ p ∈ st, p.2 + p.1.deep ≤ 13
theorem tot_snoc (st : List (Kd × Nat)) (p : Kd × Nat) : tot (st ++ [p]) = tot st + p.1.size := by
  unfold tot
  rw [List.map_append, List.sum_append]
  simp
theorem dok_snoc (st : List (Kd × Nat)) (p : Kd × Nat) : dok (st ++ [p]) ↔ dok st ∧ p.2 + p.1.deep ≤ 13 := by
  unfold dok
  constructor
  · intro h
    exact ⟨fun q hq => h q (List.mem_append_left _ hq), h p (by simp)⟩
  · rintro ⟨h1, h2⟩ q hq
    rcases List.mem_append.mp hq with z | z
    · exact h1 q z
    · rw [List.mem_singleton.mp z]
      exact h2
theorem size_pos (k : Kd) : 1 ≤ k.size := by cases k <;> simp [Kd.size]; omega
theorem deep_pos (k : Kd) : 1 ≤ k.deep := by cases k <;> simp [Kd.deep]
section
variable {P : Program} {w : World} {K : PySem.W.Frag} {mg : Str → Option Value} {base : Heap} {fr nk nkI : Addr} {fd : FuncData}
abbrev N_is_kind : List Str := ["value", "left", "signs", "one", "deep"]
theorem sc_is_kind : FnScope N_is_kind ["value"] (defScope (top 29)) := ⟨rfl, rfl, rfl, by decide +kernel, rfl, by decide +kernel, by decide +kernel⟩
def gKind (K : PySem.W.Frag) : G1 := fun v H Q _ => ∃ k, KAt K H v k ∧ ∀ H', Same H H' → Q (.bl (okK k)) H'
theorem ok_is_kind (T : Txt K w mg fr fd nk nkI) (D : Df K mg "is_kind" (top 29)) (c_is_branch : Cal P w K mg base CX0 "is_branch" 1 ["value"] (sp1 (gBranch K))) (c_is_leaf : Cal P w K mg base CX0 "is_leaf" 4 ["value"] (sp1 (gLeaf K))) :
    Cal P w K mg base CX0 "is_kind" 5 ["value"] (sp1 (gKind K)) := by
  refine D.cal sc_is_kind (bs1 fun _ _ _ _ _ _ _ => rfl) sp1_len fun f cdv A outer s H vs Q E hr h => ?_
  obtain ⟨v, rfl, k, hk, q⟩ := h
  refine ⟨_, (pss_cons (ps_par (i := 1) (j := 2) rfl sc_is_kind.nd rfl rfl (by decide) rfl rfl (pa_cons (pe_lst (pa_cons (pe_tup (pa_cons (pv 0) (pa_cons pe_int pa_nil))) pa_nil)) (pa_cons pe_int pa_nil)) (by rfl))
    (pss_cons (ps_while PassesOwn.never (pt_cmpR op_gt (pe_callB call_len (by rfl) T.len (by decide +kernel) (pa_cons (pv 1) pa_nil)) pe_int (by rfl)) 
      (pss_cons (ps_asg (pe_bm0 PySem.F.plainAttrs_list PySem.F.slot_list_pop PySem.F.type_list_pop mt_pop (pv 1)) (pg_tup rfl (pgs_cons (pg_name (i := 3) sc_is_kind.nd rfl (Or.inl rfl)) (pgs_cons (pg_name (i := 4) sc_is_kind.nd rfl (Or.inl rfl)) pgs_nil))))
      (pss_cons (ps_set (i := 2) sc_is_kind.nd rfl (Or.inl rfl) (pe_op op_add (pv 2) pe_int))
      (pss_cons (ps_if (PW.pt (pw_or (pt_cmpR op_gt (pv 2) (pe_gI rfl T.MOST_SIGNS) (by rfl)) (pw_or1 (pt_cmpR op_gt (pv 4) (pe_gI rfl T.MOST_DEEP) (by rfl))))) 
        (pss_one (ps_ret pe_bl)) pss_nil)
      (pss_one (ps_if (pt_val (pe_cal c_is_branch (hr.mono (by decide)) rfl pass0 (pa_cons (pv 3) pa_nil))) 
        (pss_one (ps_expr (pe_bm PySem.F.plainAttrs_list PySem.F.slot_list_extend PySem.F.type_list_extend mt_extend (pv 1) (pa_cons (pe_lst (pa_cons (pe_tup (pa_cons (pe_ix ix_tup (pv 3) pe_int (fun _ _ => rfl)) (pa_cons (pe_op op_add (pv 4) pe_int) pa_nil))) (pa_cons (pe_tup (pa_cons (pe_ix ix_tup (pv 3) pe_int (fun _ _ => rfl)) (pa_cons (pe_op op_add (pv 4) pe_int) pa_nil))) pa_nil))) pa_nil)))) 
        (pss_one (ps_if (pt_not (pt_val (pe_cal c_is_leaf (hr.mono (by decide)) rfl pass0 (pa_cons (pv 3) pa_nil)))) 
          (pss_one (ps_ret pe_bl)) pss_nil))))))))
    (pss_one (ps_ret pe_bl)))), ?_⟩
  refine ⟨_, rfl, fits2, fun p hp => ⟨fits1, fun l hl => ⟨_, _, rfl, ?_⟩⟩⟩
  have s1 : Same H (upd H p (.tup [v, .int 1])) := Same.new hp _
  have s2 : Same H (upd (upd H p (.tup [v, .int 1])) l (.lst [.ref p])) := s1.trans (Same.new hl _)
  have np : p ≠ l := ne_of_none upd_same hl
  have hl0 : H l = none := s1.free hl
  refine ⟨fun m σ H' => ∃ (xs : List V) (st : List (Kd × Nat)) (sg : Nat) (o3 o4 : Option V), σ = [some v, some (.ref l), some (.int sg), o3, o4] ∧ H' l = some (.lst xs) ∧ DpAll K H' xs (st.map dS) ∧ Same H H' ∧ m = tot st ∧ st.length ≤ sg + 1 ∧ sg ≤ 60 ∧
    (okK k = true ↔ (sg + tot st ≤ 60 ∧ dok st)), ?_, ?_⟩
  · refine ⟨_, [.ref p], [(k, 1)], 0, none, none, rfl, upd_same, .cons (.tup (SqT.of (by rw [upd_ne np]; exact upd_same)) (.cons (hk.tk (TK.of s2)) (.cons (.int _) .nil))) .nil, s2, rfl, by simp, by omega, ?_⟩
    simp only [okK, decide_eq_true_eq, tot, dok, List.map_cons, List.map_nil, List.sum_cons, List.sum_nil, List.mem_singleton, forall_eq]
    omega
  rintro m σ H' ⟨xs, st, sg, o3, o4, rfl, hx, hd, sm, rfl, hlen, hsg, hiff⟩
  refine ⟨_, rfl, _, _, rfl, lenL (SqL.of hx), _, _, rfl, rfl, _, rfl, ?_⟩
  have lx := DpAll.length hd
  rw [List.length_map] at lx
  rcases List.eq_nil_or_concat st with rfl | ⟨st', ⟨kk, dd⟩, rfl⟩
  · -- the stack is empty
    refine ifF (by rw [lx]; rfl) ?_
    have e : okK k = true := hiff.mpr ⟨by simp [tot]; exact hsg, fun p hp => by cases hp⟩
    have q' := q _ sm
    rw [e] at q'
    exact q'
  · rw [List.concat_eq_append] at lx hlen hiff hd
    refine ifT (by rw [lx]; simp) ?_
    rw [List.map_append] at hd
    obtain ⟨ys, y, rfl, hd1, hd2⟩ := DpAll.snoc hd
    cases hd2 with
    | @tup a zs _ ht ha =>
      cases ha with
      | @cons vk _ _ _ hk1 ha =>
        cases ha with
        | cons hi hn =>
          cases hn
          cases hi
          have tk1 : TK H' (upd H' l (.lst ys)) := TK.upd hx rfl _
          have sm1 : Same H (upd H' l (.lst ys)) := Same.upd sm hl0 _
          rw [tot_snoc, dok_snoc] at hiff
          rw [List.length_append] at hlen
          have kp := size_pos kk
          have kq := deep_pos kk
          have ht1 := SqT.tk tk1 ht
          have hk2 : KAt K (upd H' l (.lst ys)) vk kk := KAt.tk hk1 tk1
          refine ⟨_, fun σ' H'' z => z, _, rfl, .inl ⟨rfl, _, SqL.of hx⟩, l, _, .ref a, rfl, rfl, hx, by simp, ?_⟩
          rw [List.dropLast_concat]
          refine ⟨a, _, rfl, ht1, rfl, _, _, rfl, _, _, rfl, rfl, ?_⟩
          refine ⟨_, rfl, _, _, rfl, rfl, ?_⟩
          refine ⟨_, rfl, _, _, rfl, rfl, _, rfl, ?_⟩
          have fls : okK k = false → Q (.bl false) (upd H' l (.lst ys)) := fun e => by
            have q' := q _ sm1
            rw [e] at q'
            exact q'
          by_cases c1 : 60 < sg + 1
          · refine ifT (decide_eq_true (by omega)) (iteT (fls ?_))
            refine Bool.eq_false_iff.mpr fun e => ?_
            have := hiff.mp e
            simp only at this
            omega
          refine ifF (decide_eq_false (by omega)) ?_
          refine ⟨_, rfl, _, _, rfl, rfl, _, rfl, ?_⟩
          by_cases c2 : 12 < dd
          · refine ifT (decide_eq_true (by omega)) (fls ?_)
            refine Bool.eq_false_iff.mpr fun e => ?_
            have := (hiff.mp e).2.2
            simp only at this
            omega
          refine ifF (decide_eq_false (by omega)) ?_
          refine ⟨_, rfl, _, rfl, kk, hk2, fun H2 e2 => ⟨_, rfl, ?_⟩⟩
          have hk3 : KAt K H2 vk kk := hk2.tk (TK.of e2)
          have hl2 : H2 l = some (.lst ys) := e2 _ _ upd_same
          have sm2 : Same H H2 := sm1.trans e2
          have hd3 : DpAll K H2 ys (st'.map dS) := DpAll.tk (TK.of e2) _ _ (noL_st st') (DpAll.tk tk1 _ _ (noL_st st') hd1)
          cases kk with
          | br ww ka kb =>
            obtain ⟨ak, vx, vy, rfl, hs, hxa, hyb⟩ := hk3.br
            refine iteT ⟨_, rfl, .inl ⟨rfl, _, SqL.of hl2⟩, ?_⟩
            refine ⟨_, rfl, _, _, _, _, rfl, rfl, hs, at1, _, rfl, _, _, rfl, rfl, fits2, fun p1 hp1 => ?_⟩
            have u1 : Same H2 (upd H2 p1 (.tup [vx, .int ((dd : Int) + 1)])) := Same.new hp1 _
            refine ⟨_, rfl, _, _, _, _, rfl, rfl, SqT.same u1 hs, at2, _, rfl, _, _, rfl, rfl, fits2, fun p2 hp2 => ⟨fits2, fun lb hlb => ?_⟩⟩
            have u2 : Same (upd H2 p1 (.tup [vx, .int ((dd : Int) + 1)])) (upd (upd H2 p1 (.tup [vx, .int ((dd : Int) + 1)])) p2 (.tup [vy, .int ((dd : Int) + 1)])) := Same.new hp2 _
            have u3 := Same.new hlb (.lst [V.ref p1, V.ref p2])
            have u23 := u2.trans u3
            have u123 := u1.trans u23
            have hl4 := u123 _ _ hl2
            refine ⟨l, lb, _, _, rfl, rfl, hl4, upd_same, ?_, ?_⟩
            · have z := DpAll.length hd3
              rw [List.length_map] at z
              have e : sizeLine = 16777216 := sizeLine_eq
              rw [z, e]
              simp only [List.length_cons, List.length_nil] at hlen ⊢
              omega
            · have tkE := TK.upd hl4 rfl (.lst (ys ++ [V.ref p1, V.ref p2]))
              have t1 := u23 _ _ (upd_same (H := H2) (a := p1) (o := .tup [vx, .int ((dd : Int) + 1)]))
              have t2 := u3 _ _ (upd_same (H := upd H2 p1 (.tup [vx, .int ((dd : Int) + 1)])) (a := p2) (o := .tup [vy, .int ((dd : Int) + 1)]))
              refine ⟨tot (st' ++ [(ka, dd + 1), (kb, dd + 1)]), ?_, ys ++ [V.ref p1, V.ref p2], st' ++ [(ka, dd + 1), (kb, dd + 1)], sg + 1, _, _, rfl, upd_same, ?_, Same.upd (sm2.trans u123) hl0 _, rfl, ?_, by omega, ?_⟩
              · have e1 : st' ++ [(ka, dd + 1), (kb, dd + 1)] = (st' ++ [(ka, dd + 1)]) ++ [(kb, dd + 1)] := by simp
                rw [e1, List.concat_eq_append, tot_snoc, tot_snoc, tot_snoc]
                simp only [Kd.size]
                omega
              · rw [List.map_append]
                refine DpAll.app (DpAll.tk (TK.trans (TK.of u123) tkE) _ _ (noL_st st') hd3) (.cons (.tup (SqT.of (tkE _ _ t1 rfl)) (.cons (hxa.tk (TK.trans (TK.of u123) tkE)) (.cons ?_ .nil))) (.cons (.tup (SqT.of (tkE _ _ t2 rfl)) (.cons (hyb.tk (TK.trans (TK.of u123) tkE)) (.cons ?_ .nil))) .nil))
                · exact .int _
                · exact .int _
              · rw [List.length_append]
                simp only [List.length_cons, List.length_nil] at hlen ⊢
                omega
              · have e1 : st' ++ [(ka, dd + 1), (kb, dd + 1)] = (st' ++ [(ka, dd + 1)]) ++ [(kb, dd + 1)] := by simp
                rw [hiff, e1, tot_snoc, tot_snoc, dok_snoc, dok_snoc]
                simp only [Kd.size, Kd.deep]
                constructor
                · rintro ⟨a1, a2, a3⟩
                  exact ⟨by omega, ⟨a2, by omega⟩, by omega⟩
                · rintro ⟨a1, ⟨a2, a3⟩, a4⟩
                  exact ⟨by omega, a2, by omega⟩
          | ltr bb =>
            refine iteF ⟨_, rfl, _, rfl, _, hk3, true, rfl, iteF ?_⟩
            refine ⟨tot st', by rw [List.concat_eq_append, tot_snoc]; simp only [Kd.size]; omega, ys, st', sg + 1, _, _, rfl, hl2, hd3, sm2, rfl, ?_, by omega, ?_⟩
            · simp only [List.length_cons, List.length_nil] at hlen
              omega
            · rw [hiff]
              simp only [Kd.size, Kd.deep]
              constructor
              · rintro ⟨a1, a2, a3⟩
                exact ⟨by omega, a2⟩
              · rintro ⟨a1, a2⟩
                exact ⟨by omega, a2, by omega⟩
          | cnt =>
            refine iteF ⟨_, rfl, _, rfl, _, hk3, true, rfl, iteF ?_⟩
            refine ⟨tot st', by rw [List.concat_eq_append, tot_snoc]; simp only [Kd.size]; omega, ys, st', sg + 1, _, _, rfl, hl2, hd3, sm2, rfl, ?_, by omega, ?_⟩
            · simp only [List.length_cons, List.length_nil] at hlen
              omega
            · rw [hiff]
              simp only [Kd.size, Kd.deep]
              constructor
              · rintro ⟨a1, a2, a3⟩
                exact ⟨by omega, a2⟩
              · rintro ⟨a1, a2⟩
                exact ⟨by omega, a2, by omega⟩
end
end K17
/-! K5: kinds measured, letters put in kinds. -/
namespace K17
open PySem L2
/-! ### kinds as data: told apart -/
theorem eqv_tt (xs ys : List PyData) : PyData.eqv (.tuple xs) (.tuple ys) = PyData.eqvAll xs ys := by rw [PyData.eqv]
theorem eqvAll_len : ∀ xs ys : List PyData, xs.length ≠ ys.length → PyData.eqvAll xs ys = false
  | [], [], h => absurd rfl h
  | [], _ :: _, _ => by rw [PyData.eqvAll]
  | _ :: _, [], _ => by rw [PyData.eqvAll]
  | x :: xs, y :: ys, h => by
    rw [PyData.eqvAll, eqvAll_len xs ys (fun e => h (by simp [e])), Bool.and_false]
theorem eqv_ll (x y : Bool) : PyData.eqv (dK (.ltr x)) (dK (.ltr y)) = decide (Kd.ltr x = .ltr y) := by cases x <;> cases y <;> decide +kernel
theorem eqv_lc (x : Bool) : PyData.eqv (dK (.ltr x)) (dK .cnt) = false := by cases x <;> decide +kernel
theorem eqv_cl (x : Bool) : PyData.eqv (dK .cnt) (dK (.ltr x)) = false := by cases x <;> decide +kernel
theorem eqv_cc : PyData.eqv (dK .cnt) (dK .cnt) = true := by decide +kernel
theorem eqv_lb (x : Bool) (w : Bw) (a b : Kd) : PyData.eqv (dK (.ltr x)) (dK (.br w a b)) = false := by rw [dK, dK, eqv_tt]; exact eqvAll_len _ _ (by simp)
theorem eqv_bl (x : Bool) (w : Bw) (a b : Kd) : PyData.eqv (dK (.br w a b)) (dK (.ltr x)) = false := by rw [dK, dK, eqv_tt]; exact eqvAll_len _ _ (by simp)
theorem eqv_cb (w : Bw) (a b : Kd) : PyData.eqv (dK .cnt) (dK (.br w a b)) = false := by rw [dK, dK, eqv_tt]; exact eqvAll_len _ _ (by simp)
theorem eqv_bc (w : Bw) (a b : Kd) : PyData.eqv (dK (.br w a b)) (dK .cnt) = false := by rw [dK, dK, eqv_tt]; exact eqvAll_len _ _ (by simp)
theorem eqv_bb (w w' : Bw) (a b a' b' : Kd) : PyData.eqv (dK (.br w a b)) (dK (.br w' a' b')) = (decide (w = w') && (PyData.eqv (dK a) (dK a') && PyData.eqv (dK b) (dK b'))) := by
  have e3 : (w.w.s == w'.w.s) = decide (w = w') := by cases w <;> cases w' <;> decide +kernel
  simp only [dK, PyData.eqv, PyData.eqvAll, e3, Bool.and_true]
theorem eqv_dK (a : Kd) : ∀ b : Kd, PyData.eqv (dK a) (dK b) = decide (a = b) := by
  induction a with
  | ltr x =>
    intro b
    cases b with
    | ltr y => exact eqv_ll x y
    | cnt => rw [eqv_lc]; rfl
    | br w p q => rw [eqv_lb, decide_eq_false (by intro e; cases e)]
  | cnt =>
    intro b
    cases b with
    | ltr y => rw [eqv_cl]; rfl
    | cnt => rw [eqv_cc]; rfl
    | br w p q => rw [eqv_cb, decide_eq_false (by intro e; cases e)]
  | br w p q ih1 ih2 =>
    intro b
    cases b with
    | ltr y => rw [eqv_bl, decide_eq_false (by intro e; cases e)]
    | cnt => rw [eqv_bc, decide_eq_false (by intro e; cases e)]
    | br w' p' q' => simp only [eqv_bb, ih1 p', ih2 q', Kd.br.injEq, Bool.decide_and]
theorem eqvAll_dK : ∀ a b : List Kd, PyData.eqvAll (a.map dK) (b.map dK) = decide (a = b)
  | [], [] => by simp [PyData.eqvAll]
  | [], _ :: _ => by simp [PyData.eqvAll]
  | _ :: _, [] => by simp [PyData.eqvAll]
  | x :: a, y :: b => by
    simp only [List.map_cons, PyData.eqvAll, eqv_dK x y, eqvAll_dK a b, List.cons.injEq, Bool.decide_and]
theorem strOk_wd (z : Wd) : PyData.strOk z.s = true := by cases z <;> decide +kernel
theorem can_dK : ∀ k : Kd, PyData.canLay0 (dK k) = true
  | .ltr _ => by simp [dK, PyData.canLay0, PyData.canLayAll0, strOk_wd]
  | .cnt => by simp [dK, PyData.canLay0, PyData.canLayAll0, strOk_wd]
  | .br w a b => by simp [dK, PyData.canLay0, PyData.canLayAll0, strOk_wd, can_dK a, can_dK b]
theorem dep_dK : ∀ k : Kd, PyData.depth (dK k) = k.deep
  | .ltr _ => by simp [dK, PyData.depth, PyData.depthAll, Kd.deep]
  | .cnt => by simp [dK, PyData.depth, PyData.depthAll, Kd.deep]
  | .br w a b => by
    have e1 := dep_dK a
    have e2 := dep_dK b
    simp only [dK, PyData.depth, PyData.depthAll, Kd.deep, e1, e2]
    omega
theorem shp_dK {k : Kd} (h : k.deep ≤ 64) : SeqAt.shaped (dK k) = true := by
  unfold SeqAt.shaped
  rw [can_dK, dep_dK, decide_eq_true h]
  rfl
theorem cans_dK : ∀ ks : List Kd, PyData.canLayAll0 (ks.map dK) = true
  | [] => by simp [PyData.canLayAll0]
  | k :: r => by simp [PyData.canLayAll0, can_dK k, cans_dK r]
theorem deps_dK {n : Nat} : ∀ {ks : List Kd}, (∀ k ∈ ks, k.deep ≤ n) → PyData.depthAll (ks.map dK) ≤ n
  | [], _ => by simp [PyData.depthAll]
  | k :: r, h => by
    have e1 := h k (by simp)
    have e2 := deps_dK (ks := r) fun q hq => h q (by simp [hq])
    simp only [List.map_cons, PyData.depthAll, dep_dK]
    omega
theorem shp_ks {ks : List Kd} (h : ∀ k ∈ ks, k.deep ≤ 63) : SeqAt.shaped (.list (ks.map dK)) = true := by
  have e := deps_dK h
  unfold SeqAt.shaped
  rw [decide_eq_true (by simp only [PyData.depth]; omega)]
  simp [PyData.canLay0, cans_dK]
/-! ### letters -/
def Kd.lets : Kd → List Bool
  | .ltr b => [b]
  | .cnt => []
  | .br _ a b => a.lets ++ b.lets
theorem lets_le : ∀ k : Kd, k.lets.length ≤ k.size
  | .ltr _ => by simp [Kd.lets, Kd.size]
  | .cnt => by simp [Kd.lets, Kd.size]
  | .br _ a b => by
    have := lets_le a
    have := lets_le b
    simp only [Kd.lets, Kd.size, List.length_append]
    omega
theorem put_size (l : Bool) (o : Kd) : ∀ k : Kd, (Kd.put l o k).size = k.size + (k.lets.filter (· == l)).length * (o.size - 1)
  | .ltr b => by
    have := size_pos o
    by_cases e : b = l
    · simp [Kd.put, Kd.lets, e, Kd.size]
      omega
    · simp [Kd.put, Kd.lets, e, Kd.size]
  | .cnt => by simp [Kd.put, Kd.lets, Kd.size]
  | .br _ a b => by
    have e1 := put_size l o a
    have e2 := put_size l o b
    simp only [Kd.put, Kd.lets, Kd.size, e1, e2, List.filter_append, List.length_append, Nat.add_mul]
    omega
theorem in3 (z : Wd) : inV (V.str z.s) [V.str Wd.pair.s, V.str Wd.sum.s, V.str Wd.fn.s] = decide (z = .pair ∨ z = .sum ∨ z = .fn) := by cases z <;> decide +kernel
section
variable {P : Program} {w : World} {K : PySem.W.Frag} {mg : Str → Option Value} {base : Heap} {fr nk nkI : Addr} {fd : FuncData}
abbrev N_want_kind : List Str := ["value"]
theorem sc_want_kind : FnScope N_want_kind ["value"] (defScope (top 30)) := ⟨rfl, rfl, rfl, by decide +kernel, rfl, by decide +kernel, by decide +kernel⟩
def gWantKind (K : PySem.W.Frag) : G1 := fun v H Q _ => ∃ k, KAt K H v k ∧ okK k = true ∧ ∀ H', Same H H' → Q .non H'
theorem ok_want_kind (T : Txt K w mg fr fd nk nkI) (D : Df K mg "want_kind" (top 30)) (c_is_kind : Cal P w K mg base CX0 "is_kind" 5 ["value"] (sp1 (gKind K))) : Cal P w K mg base CX0 "want_kind" 6 ["value"] (sp1 (gWantKind K)) := by
  refine D.cal sc_want_kind (bs1 fun _ _ _ _ _ _ _ => rfl) sp1_len fun f cdv A outer s H vs Q E hr h => ?_
  obtain ⟨v, rfl, k, hk, ok, q⟩ := h
  refine ⟨_, (pss_one (ps_if (pt_not (pt_val (pe_cal c_is_kind (hr.mono (by omega)) rfl pass0 (pa_cons (pv 0) pa_nil)))) 
      (pss_one ps_never) pss_nil)), ?_⟩
  refine ⟨_, rfl, _, rfl, k, hk, fun H' e => ⟨_, rfl, ?_⟩⟩
  rw [ok]
  exact iteF (q _ e)
abbrev N_want_letter : List Str := ["value"]
theorem sc_want_letter : FnScope N_want_letter ["value"] (defScope (top 31)) := ⟨rfl, rfl, rfl, by decide +kernel, rfl, by decide +kernel, by decide +kernel⟩
def gWantLetter : G1 := fun v H Q _ => ∃ i : Int, v = .int i ∧ 0 ≤ i ∧ i ≤ 5 ∧ Q .non H
theorem ok_want_letter (T : Txt K w mg fr fd nk nkI) (D : Df K mg "want_letter" (top 31)) (c_is_letter : Cal P w K mg base CX0 "is_letter" 3 ["value"] (sp1 gLetter)) : Cal P w K mg base CX0 "want_letter" 4 ["value"] (sp1 gWantLetter) := by
  refine D.cal sc_want_letter (bs1 fun _ _ _ _ _ _ _ => rfl) sp1_len fun f cdv A outer s H vs Q E hr h => ?_
  obtain ⟨v, rfl, i, rfl, h0, h5, q⟩ := h
  refine ⟨_, (pss_one (ps_if (pt_not (pt_val (pe_cal c_is_letter (hr.mono (by omega)) rfl pass0 (pa_cons (pv 0) pa_nil)))) 
      (pss_one ps_never) pss_nil)), ?_⟩
  exact ⟨_, rfl, _, rfl, i, rfl, h0, h5, _, rfl, iteF q⟩
abbrev N_want_at_most : List Str := ["what", "limit", "number"]
theorem sc_want_at_most : FnScope N_want_at_most ["what", "limit", "number"] (defScope (top 15)) := ⟨rfl, rfl, rfl, by decide +kernel, rfl, by decide +kernel, by decide +kernel⟩
def gAtMost : G3 := fun a l n H Q _ => ∃ z i j, a = .str z ∧ l = .int i ∧ n = .int j ∧ j ≤ i ∧ Q .non H
theorem ok_want_at_most (T : Txt K w mg fr fd nk nkI) (D : Df K mg "want_at_most" (top 15)) : Cal P w K mg base CX0 "want_at_most" 1 ["what", "limit", "number"] (sp3 gAtMost) := by
  refine D.cal sc_want_at_most (bs3 fun _ _ _ _ _ _ _ _ _ => rfl) sp3_len fun f cdv A outer s H vs Q E hr h => ?_
  obtain ⟨a, b, c, rfl, z, i, j, rfl, rfl, rfl, hj, q⟩ := h
  refine ⟨_, (pss_one (ps_if (pt_cmpR op_gt (pv 2) (pv 1) (by rfl)) 
      (pss_one ps_never) pss_nil)), ?_⟩
  exact ⟨_, rfl, _, rfl, _, _, rfl, rfl, _, rfl, ifF (decide_eq_false (by omega)) q⟩
abbrev N_signs_of : List Str := ["kind"]
theorem sc_signs_of : FnScope N_signs_of ["kind"] (defScope (top 32)) := ⟨rfl, rfl, rfl, by decide +kernel, rfl, by decide +kernel, by decide +kernel⟩
def gSigns (K : PySem.W.Frag) (n : Nat) : G1 := fun v H Q _ => ∃ k, KAt K H v k ∧ k.deep ≤ n ∧ Q (.int k.size) H
theorem ok_signs_of (T : Txt K w mg fr fd nk nkI) (D : Df K mg "signs_of" (top 32)) : ∀ n, Cal P w K mg base CX0 "signs_of" n ["kind"] (sp1 (gSigns K n))
  | 0 => D.cal0 (bs1 fun _ _ _ _ _ _ _ => rfl) fun vs H Q E ⟨v, _, k, _, h, _⟩ => by
    have := deep_pos k
    omega
  | n + 1 => by
    have c_signs_of := ok_signs_of T D n
    refine D.cal sc_signs_of (bs1 fun _ _ _ _ _ _ _ => rfl) sp1_len fun f cdv A outer s H vs Q E hr h => ?_
    obtain ⟨v, rfl, k, hk, hn, q⟩ := h
    refine ⟨_, (pss_one (ps_ret (pe_ifExp (pt_cmpR op_eq (pe_callB call_len (by rfl) T.len (by decide +kernel) (pa_cons (pv 0) pa_nil)) pe_int (by rfl)) (pe_op op_add (pe_op op_add pe_int (pe_cal c_signs_of (hr.mono (by omega)) rfl pass0 (pa_cons (pe_ix ix_tup (pv 0) pe_int (fun _ _ => rfl)) pa_nil))) (pe_cal c_signs_of (hr.mono (by omega)) rfl pass0 (pa_cons (pe_ix ix_tup (pv 0) pe_int (fun _ _ => rfl)) pa_nil))) pe_int))), ?_⟩
    cases k with
    | ltr b =>
      obtain ⟨a, rfl, hs⟩ := hk.ltr
      exact ⟨_, rfl, _, _, rfl, lenT hs, rfl, _, rfl, ifIF (by simp) q⟩
    | cnt =>
      obtain ⟨a, rfl, hs⟩ := hk.cnt
      exact ⟨_, rfl, _, _, rfl, lenT hs, rfl, _, rfl, ifIF (by simp) q⟩
    | br w2 x y =>
      obtain ⟨a, vx, vy, rfl, hs, hx, hy⟩ := hk.br
      simp only [Kd.deep] at hn
      refine ⟨_, rfl, _, _, rfl, lenT hs, rfl, _, rfl, ifIT (by simp) ?_⟩
      refine ⟨_, rfl, _, _, _, _, rfl, rfl, hs, at1, _, rfl, x, hx, by omega, _, _, rfl, rfl, ?_⟩
      refine ⟨_, rfl, _, _, _, _, rfl, rfl, hs, at2, _, rfl, y, hy, by omega, _, _, rfl, rfl, ?_⟩
      have e : ((Kd.br w2 x y).size : Int) = 1 + (x.size : Int) + (y.size : Int) := by simp only [Kd.size]; omega
      rw [e] at q
      exact q
abbrev N_depth_of : List Str := ["kind"]
theorem sc_depth_of : FnScope N_depth_of ["kind"] (defScope (top 33)) := ⟨rfl, rfl, rfl, by decide +kernel, rfl, by decide +kernel, by decide +kernel⟩
def gDeep (K : PySem.W.Frag) (n : Nat) : G1 := fun v H Q _ => ∃ k, KAt K H v k ∧ k.deep ≤ n ∧ Q (.int k.deep) H
theorem max_int (a b : Nat) : (if (b : Int) > (a : Int) then (b : Int) else (a : Int)) = ((max a b : Nat) : Int) := by split <;> omega
theorem ok_depth_of (T : Txt K w mg fr fd nk nkI) (D : Df K mg "depth_of" (top 33)) : ∀ n, Cal P w K mg base CX0 "depth_of" n ["kind"] (sp1 (gDeep K n))
  | 0 => D.cal0 (bs1 fun _ _ _ _ _ _ _ => rfl) fun vs H Q E ⟨v, _, k, _, h, _⟩ => by
    have := deep_pos k
    omega
  | n + 1 => by
    have c_depth_of := ok_depth_of T D n
    refine D.cal sc_depth_of (bs1 fun _ _ _ _ _ _ _ => rfl) sp1_len fun f cdv A outer s H vs Q E hr h => ?_
    obtain ⟨v, rfl, k, hk, hn, q⟩ := h
    refine ⟨_, (pss_one (ps_ret (pe_ifExp (pt_cmpR op_eq (pe_callB call_len (by rfl) T.len (by decide +kernel) (pa_cons (pv 0) pa_nil)) pe_int (by rfl)) (pe_op op_add pe_int (pe_callB (call_max2 rfl) (by rfl) T.max (by decide +kernel) (pa_cons (pe_cal c_depth_of (hr.mono (by omega)) rfl pass0 (pa_cons (pe_ix ix_tup (pv 0) pe_int (fun _ _ => rfl)) pa_nil)) (pa_cons (pe_cal c_depth_of (hr.mono (by omega)) rfl pass0 (pa_cons (pe_ix ix_tup (pv 0) pe_int (fun _ _ => rfl)) pa_nil)) pa_nil)))) pe_int))), ?_⟩
    cases k with
    | ltr b =>
      obtain ⟨a, rfl, hs⟩ := hk.ltr
      exact ⟨_, rfl, _, _, rfl, lenT hs, rfl, _, rfl, ifIF (by simp) q⟩
    | cnt =>
      obtain ⟨a, rfl, hs⟩ := hk.cnt
      exact ⟨_, rfl, _, _, rfl, lenT hs, rfl, _, rfl, ifIF (by simp) q⟩
    | br w2 x y =>
      obtain ⟨a, vx, vy, rfl, hs, hx, hy⟩ := hk.br
      simp only [Kd.deep] at hn
      refine ⟨_, rfl, _, _, rfl, lenT hs, rfl, _, rfl, ifIT (by simp) ?_⟩
      refine ⟨_, rfl, _, _, _, _, rfl, rfl, hs, at1, _, rfl, x, hx, by omega, ?_⟩
      refine ⟨_, rfl, _, _, _, _, rfl, rfl, hs, at2, _, rfl, y, hy, by omega, _, _, rfl, _, _, rfl, rfl, ?_⟩
      have e : ((Kd.br w2 x y).deep : Int) = 1 + ((max x.deep y.deep : Nat) : Int) := by simp only [Kd.deep]; omega
      rw [e, ← max_int] at q
      exact q
end
end K17
/-! K6: letters put in kinds, the law's own walks over kinds. -/
namespace K17
open PySem L2
theorem line_eq : sizeLine = 16777216 := sizeLine_eq
section
variable {P : Program} {w : World} {K : PySem.W.Frag} {mg : Str → Option Value} {base : Heap} {fr nk nkI : Addr} {fd : FuncData}
abbrev N_letters_in : List Str := ["kind"]
theorem sc_letters_in : FnScope N_letters_in ["kind"] (defScope (top 34)) := ⟨rfl, rfl, rfl, by decide +kernel, rfl, by decide +kernel, by decide +kernel⟩
def lvs (l : List Bool) : List V := l.map fun b => V.int (lv b)
def gLetters (K : PySem.W.Frag) (n : Nat) : G1 := fun v H Q _ => ∃ k, KAt K H v k ∧ k.deep ≤ n ∧ k.size ≤ 60 ∧ ∀ p H', Same H H' → H p = none → H' p = some (.lst (lvs k.lets)) → Q (.ref p) H'
theorem ok_letters_in (T : Txt K w mg fr fd nk nkI) (D : Df K mg "letters_in" (top 34)) : ∀ n, Cal P w K mg base CX0 "letters_in" n ["kind"] (sp1 (gLetters K n))
  | 0 => D.cal0 (bs1 fun _ _ _ _ _ _ _ => rfl) fun vs H Q E ⟨v, _, k, _, h, _⟩ => by
    have := deep_pos k
    omega
  | n + 1 => by
    have c_letters_in := ok_letters_in T D n
    refine D.cal sc_letters_in (bs1 fun _ _ _ _ _ _ _ => rfl) sp1_len fun f cdv A outer s H vs Q E hr h => ?_
    obtain ⟨v, rfl, k, hk, hn, hz, q⟩ := h
    refine ⟨_, (pss_cons (ps_if (pt_cmpR op_eq (pe_callB call_len (by rfl) T.len (by decide +kernel) (pa_cons (pv 0) pa_nil)) pe_int (by rfl)) 
      (pss_one (ps_ret (pe_op op_cat (pe_cal c_letters_in (hr.mono (by omega)) rfl pass0 (pa_cons (pe_ix ix_tup (pv 0) pe_int (fun _ _ => rfl)) pa_nil)) (pe_cal c_letters_in (hr.mono (by omega)) rfl pass0 (pa_cons (pe_ix ix_tup (pv 0) pe_int (fun _ _ => rfl)) pa_nil))))) pss_nil)
    (pss_one (ps_ret (pe_ifExp (pt_cmpR op_eq (pe_ix ix_tup (pv 0) pe_int (fun _ _ => rfl)) (pe_gS rfl T.LETTER) (by rfl)) (pe_lst (pa_cons (pe_ix ix_tup (pv 0) pe_int (fun _ _ => rfl)) pa_nil)) (pe_lst pa_nil))))), ?_⟩
    cases k with
    | ltr b =>
      obtain ⟨a, rfl, hs⟩ := hk.ltr
      refine ⟨_, rfl, _, _, rfl, lenT hs, rfl, _, rfl, ifIF (by simp) ?_⟩
      refine ⟨_, rfl, _, _, _, _, rfl, rfl, hs, at0, rfl, _, rfl, ifST rfl ?_⟩
      exact ⟨_, rfl, _, _, _, _, rfl, rfl, hs, at1, fits1, fun p hp => q p _ (Same.new hp _) hp upd_same⟩
    | cnt =>
      obtain ⟨a, rfl, hs⟩ := hk.cnt
      refine ⟨_, rfl, _, _, rfl, lenT hs, rfl, _, rfl, ifIF (by simp) ?_⟩
      refine ⟨_, rfl, _, _, _, _, rfl, rfl, hs, at0, rfl, _, rfl, ifSF (by decide) ?_⟩
      exact ⟨fits0, fun p hp => q p _ (Same.new hp _) hp upd_same⟩
    | br w2 x y =>
      obtain ⟨a, vx, vy, rfl, hs, hx, hy⟩ := hk.br
      simp only [Kd.deep] at hn
      simp only [Kd.size] at hz
      have l1 := lets_le x
      have l2 := lets_le y
      refine ⟨_, rfl, _, _, rfl, lenT hs, rfl, _, rfl, ifIT (by simp) ?_⟩
      refine ⟨_, rfl, _, _, _, _, rfl, rfl, hs, at1, _, rfl, x, hx, by omega, by omega, fun p1 H1 e1 n1 h1 => ?_⟩
      refine ⟨_, rfl, _, _, _, _, rfl, rfl, SqT.same e1 hs, at2, _, rfl, y, hy.tk (TK.of e1), by omega, by omega, fun p2 H2 e2 n2 h2 => ?_⟩
      refine ⟨p1, p2, _, _, rfl, rfl, e2 _ _ h1, h2, ?_, fun p hp => ?_⟩
      · rw [line_eq]
        simp only [lvs, List.length_map]
        omega
      · have e12 := e1.trans e2
        have hp0 : H p = none := e12.free hp
        refine q p _ (Same.upd e12 hp0 _) hp0 ?_
        rw [upd_same]
        simp [lvs, Kd.lets]
abbrev N_put_letter : List Str := ["kind", "letter", "other"]
theorem sc_put_letter : FnScope N_put_letter ["kind", "letter", "other"] (defScope (top 35)) := ⟨rfl, rfl, rfl, by decide +kernel, rfl, by decide +kernel, by decide +kernel⟩
def gPutL (K : PySem.W.Frag) (n : Nat) : G3 := fun v l o H Q _ => ∃ k b ko, KAt K H v k ∧ l = .int (lv b) ∧ KAt K H o ko ∧ k.deep ≤ n ∧ k.deep ≤ 60 ∧ ∀ r H', Same H H' → KAt K H' r (Kd.put b ko k) → Q r H'
theorem ok_put_letter (T : Txt K w mg fr fd nk nkI) (D : Df K mg "put_letter" (top 35)) : ∀ n, Cal P w K mg base CX0 "put_letter" n ["kind", "letter", "other"] (sp3 (gPutL K n))
  | 0 => D.cal0 (bs3 fun _ _ _ _ _ _ _ _ _ => rfl) fun vs H Q E ⟨v, _, _, _, k, _, _, _, _, _, h, _⟩ => by
    have := deep_pos k
    omega
  | n + 1 => by
    have c_put_letter := ok_put_letter T D n
    refine D.cal sc_put_letter (bs3 fun _ _ _ _ _ _ _ _ _ => rfl) sp3_len fun f cdv A outer s H vs Q E hr h => ?_
    obtain ⟨v, _, o, rfl, k, b, ko, hk, rfl, ho, hn, h60, q⟩ := h
    refine ⟨_, (pss_cons (ps_if (pt_cmpR op_eq (pe_callB call_len (by rfl) T.len (by decide +kernel) (pa_cons (pv 0) pa_nil)) pe_int (by rfl)) 
      (pss_one (ps_ret (pe_tup (pa_cons (pe_ix ix_tup (pv 0) pe_int (fun _ _ => rfl)) (pa_cons (pe_cal c_put_letter (hr.mono (by omega)) rfl pass0 (pa_cons (pe_ix ix_tup (pv 0) pe_int (fun _ _ => rfl)) (pa_cons (pv 1) (pa_cons (pv 2) pa_nil)))) (pa_cons (pe_cal c_put_letter (hr.mono (by omega)) rfl pass0 (pa_cons (pe_ix ix_tup (pv 0) pe_int (fun _ _ => rfl)) (pa_cons (pv 1) (pa_cons (pv 2) pa_nil)))) pa_nil)))))) pss_nil)
    (pss_one (ps_ret (pe_ifExp (pt_cmpR (op_eqD hr.units) (pv 0) (pe_tup (pa_cons (pe_gS rfl T.LETTER) (pa_cons (pv 1) pa_nil))) (by rfl)) (pv 2) (pv 0))))), ?_⟩
    cases k with
    | ltr c =>
      obtain ⟨a, rfl, hs⟩ := hk.ltr
      refine ⟨_, rfl, _, _, rfl, lenT hs, rfl, _, rfl, ifIF (by simp) ?_⟩
      refine ⟨_, rfl, _, rfl, fits2, fun p hp => ?_⟩
      have e1 := Same.new hp (.tup [V.str Wd.letter.s, V.int (lv b)])
      refine ⟨dK (.ltr c), dK (.ltr b), hk.tk (TK.of e1), KAt.mk_ltr (SqT.of upd_same), shp_dK (by simp [Kd.deep]), shp_dK (by simp [Kd.deep]), _, rfl, ?_⟩
      rw [eqv_dK]
      by_cases e : c = b
      · refine ifT (by simp [e]) ⟨_, rfl, q _ _ e1 ?_⟩
        rw [Kd.put, if_pos e]
        exact ho.tk (TK.of e1)
      · refine ifF (by simp [e]) ⟨_, rfl, q _ _ e1 ?_⟩
        rw [Kd.put, if_neg e]
        exact hk.tk (TK.of e1)
    | cnt =>
      obtain ⟨a, rfl, hs⟩ := hk.cnt
      refine ⟨_, rfl, _, _, rfl, lenT hs, rfl, _, rfl, ifIF (by simp) ?_⟩
      refine ⟨_, rfl, _, rfl, fits2, fun p hp => ?_⟩
      have e1 := Same.new hp (.tup [V.str Wd.letter.s, V.int (lv b)])
      refine ⟨dK .cnt, dK (.ltr b), hk.tk (TK.of e1), KAt.mk_ltr (SqT.of upd_same), shp_dK (by simp [Kd.deep]), shp_dK (by simp [Kd.deep]), _, rfl, ?_⟩
      rw [eqv_dK]
      exact ifF (by simp) ⟨_, rfl, q _ _ e1 (hk.tk (TK.of e1))⟩
    | br w2 x y =>
      obtain ⟨a, vx, vy, rfl, hs, hx, hy⟩ := hk.br
      simp only [Kd.deep] at hn h60
      refine ⟨_, rfl, _, _, rfl, lenT hs, rfl, _, rfl, ifIT (by simp) ?_⟩
      refine ⟨_, rfl, _, _, _, _, rfl, rfl, hs, at0, ?_⟩
      refine ⟨_, rfl, _, _, _, _, rfl, rfl, hs, at1, _, rfl, _, rfl, _, _, _, rfl, x, b, ko, hx, rfl, ho, by omega, by omega, fun r1 H1 e1 k1 => ?_⟩
      refine ⟨_, rfl, _, _, _, _, rfl, rfl, SqT.same e1 hs, at2, _, rfl, _, rfl, _, _, _, rfl, y, b, ko, hy.tk (TK.of e1), rfl, ho.tk (TK.of e1), by omega, by omega, fun r2 H2 e2 k2 => ?_⟩
      refine ⟨fits3, fun p hp => ?_⟩
      have e12 := e1.trans e2
      have e3 := Same.new hp (.tup [V.str w2.w.s, r1, r2])
      exact q _ _ (e12.trans e3) (KAt.mk_br (SqT.of upd_same) (k1.tk (TK.of (e2.trans e3))) (k2.tk (TK.of e3)))
abbrev N_put_letter_told : List Str := ["kind", "letter", "other", "times", "found", "one"]
theorem sc_put_letter_told : FnScope N_put_letter_told ["kind", "letter", "other"] (defScope (top 36)) := ⟨rfl, rfl, rfl, by decide +kernel, rfl, by decide +kernel, by decide +kernel⟩
def gPutT (K : PySem.W.Frag) : G3 := fun v l o H Q _ => ∃ k b ko, KAt K H v k ∧ l = .int (lv b) ∧ KAt K H o ko ∧ k.deep ≤ 8 ∧ k.size ≤ 60 ∧ ko.deep ≤ 8 ∧ ko.size ≤ 60 ∧ okK (Kd.put b ko k) = true ∧ ∀ r H', Same H H' → KAt K H' r (Kd.put b ko k) → Q r H'
theorem take_more {α : Type} {l : List α} {i : Nat} {x : α} (h : l[i]? = some x) : l.take (i + 1) = l.take i ++ [x] := by
  rw [List.take_succ, h]
  rfl
theorem lv_inj {a b : Bool} : lv a = lv b ↔ a = b := by cases a <;> cases b <;> simp [lv]
theorem ok_put_letter_told (T : Txt K w mg fr fd nk nkI) (D : Df K mg "put_letter_told" (top 36)) (c_letters_in : Cal P w K mg base CX0 "letters_in" 8 ["kind"] (sp1 (gLetters K 8)))
    (c_want_at_most : Cal P w K mg base CX0 "want_at_most" 1 ["what", "limit", "number"] (sp3 gAtMost)) (c_signs_of : Cal P w K mg base CX0 "signs_of" 8 ["kind"] (sp1 (gSigns K 8)))
    (c_depth_of : Cal P w K mg base CX0 "depth_of" 12 ["kind"] (sp1 (gDeep K 12))) (c_put_letter : Cal P w K mg base CX0 "put_letter" 8 ["kind", "letter", "other"] (sp3 (gPutL K 8))) :
    Cal P w K mg base CX0 "put_letter_told" 13 ["kind", "letter", "other"] (sp3 (gPutT K)) := by
  refine D.cal sc_put_letter_told (bs3 fun _ _ _ _ _ _ _ _ _ => rfl) sp3_len fun f cdv A outer s H vs Q E hr h => ?_
  obtain ⟨v, _, o, rfl, k, b, ko, hk, rfl, ho, hd, hz, hdo, hzo, hok, q⟩ := h
  refine ⟨_, (pss_cons (ps_set (i := 3) sc_put_letter_told.nd rfl (Or.inl rfl) (pe_callB call_len (by rfl) T.len (by decide +kernel) (pa_cons (pe_lc (own := [("one", 5)]) rfl sc_put_letter_told.nd (pi_seq (pe_cal c_letters_in (hr.mono (by omega)) rfl pass0 (pa_cons (pv 0) pa_nil))) (blkOk_by (own := [("one", 5)]) (N := N_put_letter_told) (sc := defScope (top 36)) (by decide +kernel)) (fun _ _ _ _ _ => (pg_name (i := 5) sc_put_letter_told.nd rfl (Or.inl rfl))) (fun _ _ _ _ _ => (pts_one (pt_cmpR op_eq (pv 5) (pv 1) (by rfl)))) (fun _ _ _ _ _ => (pv 5))) pa_nil)))
    (pss_cons (ps_expr (pe_cal c_want_at_most (hr.mono (by omega)) rfl pass0 (pa_cons pe_str (pa_cons (pe_gI rfl T.MOST_SIGNS) (pa_cons (pe_op op_add (pe_cal c_signs_of (hr.mono (by omega)) rfl pass0 (pa_cons (pv 0) pa_nil)) (pe_op op_mul (pv 3) (pe_op op_sub (pe_cal c_signs_of (hr.mono (by omega)) rfl pass0 (pa_cons (pv 2) pa_nil)) pe_int))) pa_nil)))))
    (pss_cons (ps_set (i := 4) sc_put_letter_told.nd rfl (Or.inl rfl) (pe_cal c_put_letter (hr.mono (by omega)) rfl pass0 (pa_cons (pv 0) (pa_cons (pv 1) (pa_cons (pv 2) pa_nil)))))
    (pss_cons (ps_expr (pe_cal c_want_at_most (hr.mono (by omega)) rfl pass0 (pa_cons pe_str (pa_cons (pe_gI rfl T.MOST_DEEP) (pa_cons (pe_cal c_depth_of (hr.mono (by omega)) rfl pass0 (pa_cons (pv 4) pa_nil)) pa_nil)))))
    (pss_one (ps_ret (pv 4))))))), ?_⟩
  have ok2 : (Kd.put b ko k).size ≤ 60 ∧ (Kd.put b ko k).deep ≤ 12 := of_decide_eq_true hok
  have ps := put_size b ko k
  have l1 := lets_le k
  have l2 : (k.lets.filter (· == b)).length ≤ k.lets.length := List.length_filter_le _ _
  have zp := size_pos ko
  refine ⟨_, rfl, _, rfl, k, hk, hd, hz, fun p H1 e1 n1 h1 => ⟨p, lvs k.lets, rfl, .inl ⟨SqL.of h1, fun L hL => ?_⟩⟩⟩
  refine lc_list (K := K) (a := p) (xs := lvs k.lets) (fun i H' => Same H1 H' ∧ H' L = some (.lst (lvs ((k.lets.take i).filter (· == b))))) ⟨Same.new hL _, upd_same⟩ (fun i H' _ ⟨e, _⟩ => SqL.same e (SqL.of h1)) ?_ ?_
  · rintro i x H' hx ⟨e, hl⟩
    obtain ⟨c, hc, rfl⟩ : ∃ c, k.lets[i]? = some c ∧ x = V.int (lv c) := by
      rw [lvs, List.getElem?_map] at hx
      cases z : k.lets[i]? with
      | none => rw [z] at hx; cases hx
      | some c =>
        rw [z] at hx
        cases hx
        exact ⟨c, rfl, rfl⟩
    refine ⟨rfl, _, rfl, _, rfl, rfl, _, rfl, ?_⟩
    by_cases ec : c = b
    · refine ifIT (by rw [ec]) ⟨_, rfl, _, hl, ?_, ?_, ?_⟩
      · rw [line_eq]
        simp only [lvs, List.length_map]
        have z1 : ((k.lets.take i).filter (· == b)).length ≤ (k.lets.take i).length := List.length_filter_le _ _
        have z2 : (k.lets.take i).length ≤ k.lets.length := by rw [List.length_take]; omega
        omega
      · exact Same.upd e hL _
      · rw [upd_same, take_more hc, List.filter_append]
        simp [lvs, ec]
    · refine ifIF (fun z => ec (lv_inj.mp z)) ⟨e, ?_⟩
      rw [hl, take_more hc, List.filter_append]
      simp [ec]
  · rintro H' ⟨e, hl⟩
    have fl : (lvs k.lets).length = k.lets.length := by simp [lvs]
    rw [fl, List.take_length] at hl
    have e2 : Same H H' := e1.trans e
    have hk2 := hk.tk (TK.of e2)
    have ho2 := ho.tk (TK.of e2)
    refine ⟨_, _, rfl, lenL (SqL.of hl), ?_⟩
    refine ⟨_, rfl, _, rfl, k, hk2, hd, ?_⟩
    refine ⟨_, rfl, _, rfl, _, rfl, ko, ho2, hdo, _, _, rfl, rfl, _, _, rfl, rfl, ?_, _, _, rfl, rfl, ?_⟩
    · refine .inl ⟨?_, ?_⟩
      · simp only [lvs, List.length_map]
        omega
      · simp only [lvs, List.length_map]
        omega
    refine ⟨_, _, _, rfl, "signs", 60, _, rfl, rfl, rfl, ?_, ?_⟩
    · simp only [lvs, List.length_map]
      have z : ((k.size : Int) + ((k.lets.filter (· == b)).length : Int) * ((ko.size : Int) - 1)) = (((Kd.put b ko k).size : Nat) : Int) := by
        rw [ps]
        have : ((ko.size - 1 : Nat) : Int) = (ko.size : Int) - 1 := by omega
        rw [Int.natCast_add, Int.natCast_mul, this]
      rw [z]
      omega
    refine ⟨_, rfl, _, rfl, _, rfl, _, _, _, rfl, k, b, ko, hk2, rfl, ho2, hd, by omega, fun r H3 e3 k3 => ?_⟩
    refine ⟨_, rfl, _, rfl, _, k3, ok2.2, _, _, _, rfl, "depth", 12, _, rfl, rfl, rfl, by omega, ?_⟩
    exact ⟨_, rfl, q _ _ (e2.trans e3) k3⟩
abbrev N_put_kind : List Str := ["kind", "letter", "other"]
theorem sc_put_kind : FnScope N_put_kind ["kind", "letter", "other"] (defScope (top 37)) := ⟨rfl, rfl, rfl, by decide +kernel, rfl, by decide +kernel, by decide +kernel⟩
def gPutK (K : PySem.W.Frag) : G3 := fun v l o H Q _ => ∃ k b ko, KAt K H v k ∧ l = .int (lv b) ∧ KAt K H o ko ∧ k.deep ≤ 8 ∧ k.size ≤ 60 ∧ ko.deep ≤ 8 ∧ ko.size ≤ 60 ∧ okK (Kd.put b ko k) = true ∧ ∀ r H', Same H H' → KAt K H' r (Kd.put b ko k) → Q r H'
theorem ok_small {k : Kd} (h1 : k.size ≤ 60) (h2 : k.deep ≤ 12) : okK k = true := decide_eq_true ⟨h1, h2⟩
theorem lv_bd (b : Bool) : 0 ≤ lv b ∧ lv b ≤ 5 := by cases b <;> simp [lv]
theorem ok_put_kind (T : Txt K w mg fr fd nk nkI) (D : Df K mg "put_kind" (top 37)) (c_want_kind : Cal P w K mg base CX0 "want_kind" 6 ["value"] (sp1 (gWantKind K))) (c_want_letter : Cal P w K mg base CX0 "want_letter" 4 ["value"] (sp1 gWantLetter))
    (c_put_letter_told : Cal P w K mg base CX0 "put_letter_told" 13 ["kind", "letter", "other"] (sp3 (gPutT K))) : Cal P w K mg base CX0 "put_kind" 14 ["kind", "letter", "other"] (sp3 (gPutK K)) := by
  refine D.cal sc_put_kind (bs3 fun _ _ _ _ _ _ _ _ _ => rfl) sp3_len fun f cdv A outer s H vs Q E hr h => ?_
  obtain ⟨v, _, o, rfl, k, b, ko, hk, rfl, ho, hd, hz, hdo, hzo, hok, q⟩ := h
  refine ⟨_, (pss_cons (ps_expr (pe_cal c_want_kind (hr.mono (by omega)) rfl pass0 (pa_cons (pv 0) pa_nil)))
    (pss_cons (ps_expr (pe_cal c_want_letter (hr.mono (by omega)) rfl pass0 (pa_cons (pv 1) pa_nil)))
    (pss_cons (ps_expr (pe_cal c_want_kind (hr.mono (by omega)) rfl pass0 (pa_cons (pv 2) pa_nil)))
    (pss_one (ps_ret (pe_cal c_put_letter_told (hr.mono (by omega)) rfl pass0 (pa_cons (pv 0) (pa_cons (pv 1) (pa_cons (pv 2) pa_nil))))))))), ?_⟩
  refine ⟨_, rfl, _, rfl, k, hk, ok_small hz (by omega), fun H1 e1 => ?_⟩
  refine ⟨_, rfl, _, rfl, _, rfl, (lv_bd b).1, (lv_bd b).2, ?_⟩
  refine ⟨_, rfl, _, rfl, ko, ho.tk (TK.of e1), ok_small hzo (by omega), fun H2 e2 => ?_⟩
  have e12 := e1.trans e2
  exact ⟨_, rfl, _, rfl, _, rfl, _, _, _, rfl, k, b, ko, hk.tk (TK.of e12), rfl, ho.tk (TK.of e12), hd, hz, hdo, hzo, hok, fun r H3 e3 k3 => q _ _ (e12.trans e3) k3⟩
abbrev N__law_signs : List Str := ["_law_kind_here"]
theorem sc__law_signs : FnScope N__law_signs ["_law_kind_here"] (defScope (top 80)) := ⟨rfl, rfl, rfl, by decide +kernel, rfl, by decide +kernel, by decide +kernel⟩
theorem same_ins {H : Hp} {p : Addr} {xs : List V} (hp : H p = none) : Same H (upd H p (.lst xs)) := Same.new hp _
def gLSigns (K : PySem.W.Frag) (n : Nat) : G1 := fun v H Q _ => ∃ k, KAt K H v k ∧ k.deep ≤ n ∧ ∀ H', Same H H' → Q (.int k.size) H'
theorem ok__law_signs (D : Df K mg "_law_signs" (top 80)) : ∀ n, Cal P w K mg base CX0 "_law_signs" n ["_law_kind_here"] (sp1 (gLSigns K n))
  | 0 => D.cal0 (bs1 fun _ _ _ _ _ _ _ => rfl) fun vs H Q E ⟨v, _, k, _, h, _⟩ => by
    have := deep_pos k
    omega
  | n + 1 => by
    have c__law_signs := ok__law_signs D n
    refine D.cal sc__law_signs (bs1 fun _ _ _ _ _ _ _ => rfl) sp1_len fun f cdv A outer s H vs Q E hr h => ?_
    obtain ⟨v, rfl, k, hk, hn, q⟩ := h
    refine ⟨_, (pss_one (ps_ret (pe_ifExp (pt_cmpR op_in_seq (pe_ix ix_tup (pv 0) pe_int (fun _ _ => rfl)) (pe_lst (pa_cons pe_str (pa_cons pe_str (pa_cons pe_str pa_nil)))) (by rfl)) (pe_op op_add (pe_op op_add pe_int (pe_cal c__law_signs (hr.mono (by omega)) rfl pass0 (pa_cons (pe_ix ix_tup (pv 0) pe_int (fun _ _ => rfl)) pa_nil))) (pe_cal c__law_signs (hr.mono (by omega)) rfl pass0 (pa_cons (pe_ix ix_tup (pv 0) pe_int (fun _ _ => rfl)) pa_nil))) pe_int))), ?_⟩
    cases k with
    | ltr b =>
      obtain ⟨a, rfl, hs⟩ := hk.ltr
      refine ⟨_, rfl, _, _, _, _, rfl, rfl, hs, at0, fits3, fun p hp => ⟨p, _, rfl, .inl (SqL.of upd_same), rfl, rfl, _, rfl, ?_⟩⟩
      exact ifF (in3 .letter) (q _ (Same.new hp _))
    | cnt =>
      obtain ⟨a, rfl, hs⟩ := hk.cnt
      refine ⟨_, rfl, _, _, _, _, rfl, rfl, hs, at0, fits3, fun p hp => ⟨p, _, rfl, .inl (SqL.of upd_same), rfl, rfl, _, rfl, ?_⟩⟩
      exact ifF (in3 .count) (q _ (Same.new hp _))
    | br w2 x y =>
      obtain ⟨a, vx, vy, rfl, hs, hx, hy⟩ := hk.br
      simp only [Kd.deep] at hn
      refine ⟨_, rfl, _, _, _, _, rfl, rfl, hs, at0, fits3, fun p hp => ⟨p, _, rfl, .inl (SqL.of upd_same), rfl, rfl, _, rfl, ?_⟩⟩
      have e1 : Same H (upd H p (.lst [V.str "pair", V.str "sum", V.str "fun"])) := Same.new hp _
      refine ifT ((in3 w2.w).trans (by cases w2 <;> decide)) ?_
      refine ⟨_, rfl, _, _, _, _, rfl, rfl, SqT.same e1 hs, at1, _, rfl, x, hx.tk (TK.of e1), by omega, fun H2 e2 => ⟨_, _, rfl, rfl, ?_⟩⟩
      have e12 := e1.trans e2
      refine ⟨_, rfl, _, _, _, _, rfl, rfl, SqT.same e12 hs, at2, _, rfl, y, hy.tk (TK.of e12), by omega, fun H3 e3 => ⟨_, _, rfl, rfl, ?_⟩⟩
      have e : ((Kd.br w2 x y).size : Int) = 1 + (x.size : Int) + (y.size : Int) := by simp only [Kd.size]; omega
      have q' := q _ (e12.trans e3)
      rw [e] at q'
      exact q'
abbrev N__law_deep : List Str := ["_law_kind_here"]
theorem sc__law_deep : FnScope N__law_deep ["_law_kind_here"] (defScope (top 81)) := ⟨rfl, rfl, rfl, by decide +kernel, rfl, by decide +kernel, by decide +kernel⟩
def gLDeep (K : PySem.W.Frag) (n : Nat) : G1 := fun v H Q _ => ∃ k, KAt K H v k ∧ k.deep ≤ n ∧ ∀ H', Same H H' → Q (.int k.deep) H'
theorem ok__law_deep (T : Txt K w mg fr fd nk nkI) (D : Df K mg "_law_deep" (top 81)) : ∀ n, Cal P w K mg base CX0 "_law_deep" n ["_law_kind_here"] (sp1 (gLDeep K n))
  | 0 => D.cal0 (bs1 fun _ _ _ _ _ _ _ => rfl) fun vs H Q E ⟨v, _, k, _, h, _⟩ => by
    have := deep_pos k
    omega
  | n + 1 => by
    have c__law_deep := ok__law_deep T D n
    refine D.cal sc__law_deep (bs1 fun _ _ _ _ _ _ _ => rfl) sp1_len fun f cdv A outer s H vs Q E hr h => ?_
    obtain ⟨v, rfl, k, hk, hn, q⟩ := h
    refine ⟨_, (pss_one (ps_ret (pe_ifExp (pt_cmpR op_in_seq (pe_ix ix_tup (pv 0) pe_int (fun _ _ => rfl)) (pe_lst (pa_cons pe_str (pa_cons pe_str (pa_cons pe_str pa_nil)))) (by rfl)) (pe_op op_add pe_int (pe_callB (call_max2 rfl) (by rfl) T.max (by decide +kernel) (pa_cons (pe_cal c__law_deep (hr.mono (by omega)) rfl pass0 (pa_cons (pe_ix ix_tup (pv 0) pe_int (fun _ _ => rfl)) pa_nil)) (pa_cons (pe_cal c__law_deep (hr.mono (by omega)) rfl pass0 (pa_cons (pe_ix ix_tup (pv 0) pe_int (fun _ _ => rfl)) pa_nil)) pa_nil)))) pe_int))), ?_⟩
    cases k with
    | ltr b =>
      obtain ⟨a, rfl, hs⟩ := hk.ltr
      refine ⟨_, rfl, _, _, _, _, rfl, rfl, hs, at0, fits3, fun p hp => ⟨p, _, rfl, .inl (SqL.of upd_same), rfl, rfl, _, rfl, ?_⟩⟩
      exact ifF (in3 .letter) (q _ (Same.new hp _))
    | cnt =>
      obtain ⟨a, rfl, hs⟩ := hk.cnt
      refine ⟨_, rfl, _, _, _, _, rfl, rfl, hs, at0, fits3, fun p hp => ⟨p, _, rfl, .inl (SqL.of upd_same), rfl, rfl, _, rfl, ?_⟩⟩
      exact ifF (in3 .count) (q _ (Same.new hp _))
    | br w2 x y =>
      obtain ⟨a, vx, vy, rfl, hs, hx, hy⟩ := hk.br
      simp only [Kd.deep] at hn
      refine ⟨_, rfl, _, _, _, _, rfl, rfl, hs, at0, fits3, fun p hp => ⟨p, _, rfl, .inl (SqL.of upd_same), rfl, rfl, _, rfl, ?_⟩⟩
      have e1 : Same H (upd H p (.lst [V.str "pair", V.str "sum", V.str "fun"])) := Same.new hp _
      refine ifT ((in3 w2.w).trans (by cases w2 <;> decide)) ?_
      refine ⟨_, rfl, _, _, _, _, rfl, rfl, SqT.same e1 hs, at1, _, rfl, x, hx.tk (TK.of e1), by omega, fun H2 e2 => ?_⟩
      have e12 := e1.trans e2
      refine ⟨_, rfl, _, _, _, _, rfl, rfl, SqT.same e12 hs, at2, _, rfl, y, hy.tk (TK.of e12), by omega, fun H3 e3 => ⟨_, _, rfl, _, _, rfl, rfl, ?_⟩⟩
      have e : ((Kd.br w2 x y).deep : Int) = 1 + ((max x.deep y.deep : Nat) : Int) := by simp only [Kd.deep]; omega
      have q' := q _ (e12.trans e3)
      rw [e, ← max_int] at q'
      exact q'
abbrev N__law_put : List Str := ["_law_kind_here", "_law_letter", "_law_other"]
theorem sc__law_put : FnScope N__law_put ["_law_kind_here", "_law_letter", "_law_other"] (defScope (top 82)) := ⟨rfl, rfl, rfl, by decide +kernel, rfl, by decide +kernel, by decide +kernel⟩
theorem ok__law_put (D : Df K mg "_law_put" (top 82)) : ∀ n, Cal P w K mg base CX0 "_law_put" n ["_law_kind_here", "_law_letter", "_law_other"] (sp3 (gPutL K n))
  | 0 => D.cal0 (bs3 fun _ _ _ _ _ _ _ _ _ => rfl) fun vs H Q E ⟨v, _, _, _, k, _, _, _, _, _, h, _⟩ => by
    have := deep_pos k
    omega
  | n + 1 => by
    have c__law_put := ok__law_put D n
    refine D.cal sc__law_put (bs3 fun _ _ _ _ _ _ _ _ _ => rfl) sp3_len fun f cdv A outer s H vs Q E hr h => ?_
    obtain ⟨v, _, o, rfl, k, b, ko, hk, rfl, ho, hn, h60, q⟩ := h
    refine ⟨_, (pss_cons (ps_if (pt_cmpR op_in_seq (pe_ix ix_tup (pv 0) pe_int (fun _ _ => rfl)) (pe_lst (pa_cons pe_str (pa_cons pe_str (pa_cons pe_str pa_nil)))) (by rfl)) 
      (pss_one (ps_ret (pe_tup (pa_cons (pe_ix ix_tup (pv 0) pe_int (fun _ _ => rfl)) (pa_cons (pe_cal c__law_put (hr.mono (by omega)) rfl pass0 (pa_cons (pe_ix ix_tup (pv 0) pe_int (fun _ _ => rfl)) (pa_cons (pv 1) (pa_cons (pv 2) pa_nil)))) (pa_cons (pe_cal c__law_put (hr.mono (by omega)) rfl pass0 (pa_cons (pe_ix ix_tup (pv 0) pe_int (fun _ _ => rfl)) (pa_cons (pv 1) (pa_cons (pv 2) pa_nil)))) pa_nil)))))) pss_nil)
    (pss_one (ps_ret (pe_ifExp (pt_cmpR (op_eqD hr.units) (pv 0) (pe_tup (pa_cons pe_str (pa_cons (pv 1) pa_nil))) (by rfl)) (pv 2) (pv 0))))), ?_⟩
    cases k with
    | ltr c =>
      obtain ⟨a, rfl, hs⟩ := hk.ltr
      refine ⟨_, rfl, _, _, _, _, rfl, rfl, hs, at0, fits3, fun p hp => ⟨p, _, rfl, .inl (SqL.of upd_same), rfl, rfl, _, rfl, ?_⟩⟩
      have e0 : Same H (upd H p (.lst [V.str "pair", V.str "sum", V.str "fun"])) := Same.new hp _
      refine ifF (in3 .letter) ⟨_, rfl, _, rfl, fits2, fun p2 hp2 => ?_⟩
      have e1 := Same.new hp2 (.tup [V.str Wd.letter.s, V.int (lv b)])
      have e01 := e0.trans e1
      refine ⟨dK (.ltr c), dK (.ltr b), hk.tk (TK.of e01), KAt.mk_ltr (SqT.of upd_same), shp_dK (by simp [Kd.deep]), shp_dK (by simp [Kd.deep]), _, rfl, ?_⟩
      rw [eqv_dK]
      by_cases e : c = b
      · refine ifT (by simp [e]) ⟨_, rfl, q _ _ e01 ?_⟩
        rw [Kd.put, if_pos e]
        exact ho.tk (TK.of e01)
      · refine ifF (by simp [e]) ⟨_, rfl, q _ _ e01 ?_⟩
        rw [Kd.put, if_neg e]
        exact hk.tk (TK.of e01)
    | cnt =>
      obtain ⟨a, rfl, hs⟩ := hk.cnt
      refine ⟨_, rfl, _, _, _, _, rfl, rfl, hs, at0, fits3, fun p hp => ⟨p, _, rfl, .inl (SqL.of upd_same), rfl, rfl, _, rfl, ?_⟩⟩
      have e0 : Same H (upd H p (.lst [V.str "pair", V.str "sum", V.str "fun"])) := Same.new hp _
      refine ifF (in3 .count) ⟨_, rfl, _, rfl, fits2, fun p2 hp2 => ?_⟩
      have e1 := Same.new hp2 (.tup [V.str Wd.letter.s, V.int (lv b)])
      have e01 := e0.trans e1
      refine ⟨dK .cnt, dK (.ltr b), hk.tk (TK.of e01), KAt.mk_ltr (SqT.of upd_same), shp_dK (by simp [Kd.deep]), shp_dK (by simp [Kd.deep]), _, rfl, ?_⟩
      rw [eqv_dK]
      exact ifF (by simp) ⟨_, rfl, q _ _ e01 (hk.tk (TK.of e01))⟩
    | br w2 x y =>
      obtain ⟨a, vx, vy, rfl, hs, hx, hy⟩ := hk.br
      simp only [Kd.deep] at hn h60
      refine ⟨_, rfl, _, _, _, _, rfl, rfl, hs, at0, fits3, fun p hp => ⟨p, _, rfl, .inl (SqL.of upd_same), rfl, rfl, _, rfl, ?_⟩⟩
      have e0 : Same H (upd H p (.lst [V.str "pair", V.str "sum", V.str "fun"])) := Same.new hp _
      refine ifT ((in3 w2.w).trans (by cases w2 <;> decide)) ?_
      refine ⟨_, rfl, _, _, _, _, rfl, rfl, SqT.same e0 hs, at0, ?_⟩
      refine ⟨_, rfl, _, _, _, _, rfl, rfl, SqT.same e0 hs, at1, _, rfl, _, rfl, _, _, _, rfl, x, b, ko, hx.tk (TK.of e0), rfl, ho.tk (TK.of e0), by omega, by omega, fun r1 H1 e1 k1 => ?_⟩
      have e01 := e0.trans e1
      refine ⟨_, rfl, _, _, _, _, rfl, rfl, SqT.same e01 hs, at2, _, rfl, _, rfl, _, _, _, rfl, y, b, ko, hy.tk (TK.of e01), rfl, ho.tk (TK.of e01), by omega, by omega, fun r2 H2 e2 k2 => ?_⟩
      refine ⟨fits3, fun p2 hp2 => ?_⟩
      have e3 := Same.new hp2 (.tup [V.str w2.w.s, r1, r2])
      exact q _ _ (e01.trans (e2.trans e3)) (KAt.mk_br (SqT.of upd_same) (k1.tk (TK.of (e2.trans e3))) (k2.tk (TK.of e3)))
end
end K17
/-! K7: terms. -/
namespace K17
open PySem L2
/-! ### walks over a list or a tuple -/
/-- a list or a tuple -/
abbrev SqS (K : PySem.W.Frag) (H : Hp) (a : Addr) (xs : List V) : Prop := SqL K H a xs ∨ SqT K H a xs
theorem SqS.same {K : PySem.W.Frag} {H H' : Hp} {a : Addr} {xs : List V} (s : Same H H') (h : SqS K H a xs) : SqS K H' a xs := h.elim (fun q => .inl (SqL.same s q)) (fun q => .inr (SqT.same s q))
theorem SqS.len {K : PySem.W.Frag} {H : Hp} {a : Addr} {xs : List V} (h : SqS K H a xs) : LenV K (.ref a) H xs.length := h.elim lenL lenT
theorem seq_walk {K : PySem.W.Frag} {a : Addr} {xs : List V} {S : Type} {H0 : Hp} {σ0 : S} {R : It → Hp → Prop} (Pv : Nat → S → Hp → Prop) (hL : SqS K H0 a xs) (h0 : Pv 0 σ0 H0)
    (hl : ∀ i σ H', i ≤ xs.length → Pv i σ H' → Same H0 H' ∨ ((SqL K H0 a xs → SqL K H' a xs) ∧ (SqT K H0 a xs → SqT K H' a xs)))
    (mk : ∀ (J : It) (hgo : ∀ i σ H, i < xs.length → Pv i σ H → J.go i H) (hstop : ∀ σ H, Pv xs.length σ H → J.stop xs.length H) (hy : ∀ i x σ H v H', xs[i]? = some x → Pv i σ H → J.yld i H v H' → v = x ∧ H' = H), R J H0) :
    (SqL K H0 a xs ∧ R (Itl K a) H0) ∨ (SqT K H0 a xs ∧ R (Itt K a) H0) := by
  rcases hL with hL | hL
  · have k : ∀ i σ H', i ≤ xs.length → Pv i σ H' → SqL K H' a xs := fun i σ H' hi p => (hl i σ H' hi p).elim (fun s => SqL.same s hL) (fun s => s.1 hL)
    refine .inl ⟨hL, mk _ (fun i σ H hi p => ⟨xs, xs[i], k i σ H (Nat.le_of_lt hi) p, by simp [hi]⟩) (fun σ H p => ⟨xs, k _ σ H (Nat.le_refl _) p, Nat.le_refl _⟩) fun i x σ H v H' hx p y => ?_⟩
    have hi : i < xs.length := (List.getElem?_eq_some_iff.mp hx).1
    have z := y.2 xs (k i σ H (Nat.le_of_lt hi) p)
    rw [hx] at z
    exact ⟨(Option.some.inj z).symm, y.1⟩
  · have k : ∀ i σ H', i ≤ xs.length → Pv i σ H' → SqT K H' a xs := fun i σ H' hi p => (hl i σ H' hi p).elim (fun s => SqT.same s hL) (fun s => s.2 hL)
    refine .inr ⟨hL, mk _ (fun i σ H hi p => ⟨xs, xs[i], k i σ H (Nat.le_of_lt hi) p, by simp [hi]⟩) (fun σ H p => ⟨xs, k _ σ H (Nat.le_refl _) p, Nat.le_refl _⟩) fun i x σ H v H' hx p y => ?_⟩
    have hi : i < xs.length := (List.getElem?_eq_some_iff.mp hx).1
    have z := y.2 xs (k i σ H (Nat.le_of_lt hi) p)
    rw [hx] at z
    exact ⟨(Option.some.inj z).symm, y.1⟩
/-- for x in a list or a tuple -/
theorem for_seq {K : PySem.W.Frag} {a : Addr} {xs : List V} {tl : TE} {g : TG} {tb : TS} {D : Ends} {σ : L2.St} {H : Hp} (hv : ∀ R : VK, R (.ref a) H → tl σ H R) (Pv : Nat → L2.St → Hp → Prop) (hL : SqS K H a xs) (h0 : Pv 0 σ H)
    (hl : ∀ i σ H', i ≤ xs.length → Pv i σ H' → Same H H' ∨ ((SqL K H a xs → SqL K H' a xs) ∧ (SqT K H a xs → SqT K H' a xs)))
    (hs : ∀ i x σ H, xs[i]? = some x → Pv i σ H → g x σ H fun σ2 H2 => tb { D with nx := Pv (i + 1), ct := Pv (i + 1), bk := D.nx } σ2 H2)
    (hd : ∀ σ H, Pv xs.length σ H → D.nx σ H) : tFor (iSeq K tl) g tb D σ H := by
  refine hv _ ?_
  refine ⟨a, xs, rfl, seq_walk (σ0 := σ) (R := fun J H => ∃ W : Nat → Nat → L2.St → Hp → Prop, (∃ m, W 0 m σ H) ∧ ∀ i m σ H, W i m σ H → (J.stop i H ∧ D.nx σ H) ∨ (J.go i H ∧ ∃ N : L2.St → Hp → Prop, (∀ σ' H', N σ' H' → ∃ m', m' < m ∧ W (i + 1) m' σ' H') ∧ ∀ x H', J.yld i H x H' → g x σ H' fun σ2 H2 => tb { D with nx := N, ct := N, bk := D.nx } σ2 H2)) Pv hL h0 hl fun J hgo hstop hy => ?_⟩
  refine ⟨fun i m σ H => m = xs.length - i ∧ i ≤ xs.length ∧ Pv i σ H, ⟨xs.length, by simp, Nat.zero_le _, h0⟩, ?_⟩
  rintro i m σ H ⟨rfl, hi, p⟩
  by_cases hlt : i < xs.length
  · refine .inr ⟨hgo i σ H hlt p, Pv (i + 1), fun σ' H' p' => ⟨xs.length - (i + 1), by omega, rfl, hlt, p'⟩, fun v H' y => ?_⟩
    obtain ⟨e1, e2⟩ := hy i xs[i] σ H v H' (by simp [hlt]) p y
    subst e1 e2
    exact hs i xs[i] σ _ (by simp [hlt]) p
  · have e : i = xs.length := by omega
    subst e
    exact .inl ⟨hstop σ H p, hd σ H p⟩
theorem asg_split {te : TE} {g : TG} {u : TS} {D : Ends} {σ : L2.St} {H : Hp} (R : V → Hp → Prop) (h1 : ∀ Q : VK, (∀ v H', R v H' → Q v H') → te σ H Q) (h2 : ∀ v H', R v H' → g v σ H' fun σ' H'' => u D σ' H'') : tSeq (tAsg te g) u D σ H := h1 _ h2
theorem for_via {K : PySem.W.Frag} {tl : TE} {g : TG} {tb : TS} {D : Ends} {σ : L2.St} {H : Hp} (h : tl σ H fun x H1 => tFor (iSeq K (tC x)) g tb D σ H1) : tFor (iSeq K tl) g tb D σ H := h
/-- [.. for x in a list or a tuple] -/
theorem lc_seq {K : PySem.W.Frag} {a : Addr} {xs : List V} {tl : TE} {g : TG} {tt : TT} {te : TE} {vs : List Nat} {σ : L2.St} {H1 : Hp} {Q : VK} (hv : ∀ R : VK, R (.ref a) H1 → tl σ H1 R) (Pv : Addr → Nat → Hp → Prop) (hL : SqS K H1 a xs) (h0 : ∀ D, H1 D = none → Pv D 0 (upd H1 D (.lst [])))
    (hl : ∀ D i H', H1 D = none → i ≤ xs.length → Pv D i H' → Same H1 H')
    (hs : ∀ D i x H, H1 D = none → xs[i]? = some x → Pv D i H → g x (wipe σ vs) H fun σ2 H2 => wipe σ2 vs = wipe σ vs ∧ tt σ2 H2 fun b H3 =>
      if b = true then te σ2 H3 fun y H4 => ∃ acc, H4 D = some (.lst acc) ∧ acc.length < sizeLine ∧ Pv D (i + 1) (upd H4 D (.lst (acc ++ [y]))) else Pv D (i + 1) H3) (hd : ∀ D H, H1 D = none → Pv D xs.length H → Q (.ref D) H) :
    tLc (iSeq K tl) g tt te vs σ H1 Q := by
  refine hv _ ?_
  refine ⟨a, xs, rfl, seq_walk (S := Unit) (σ0 := ()) (R := fun J H1 => ∀ D, H1 D = none → ∃ W : Nat → Nat → Hp → Prop, (∃ m, W 0 m (upd H1 D (.lst []))) ∧ ∀ i m H, W i m H →
      (J.stop i H ∧ Q (.ref D) H) ∨ (J.go i H ∧ ∃ Nx : Hp → Prop, (∀ H', Nx H' → ∃ m', m' < m ∧ W (i + 1) m' H') ∧ ∀ x H', J.yld i H x H' → g x (wipe σ vs) H' fun σ2 H2 => wipe σ2 vs = wipe σ vs ∧ tt σ2 H2 fun b H3 =>
        if b = true then te σ2 H3 fun y H4 => ∃ acc, H4 D = some (.lst acc) ∧ acc.length < sizeLine ∧ Nx (upd H4 D (.lst (acc ++ [y]))) else Nx H3))
    (fun i _ H' => (i = 0 ∧ H' = H1) ∨ ∃ D, H1 D = none ∧ Pv D i H') hL (.inl ⟨rfl, rfl⟩) (fun i _ H' hi p => .inl ?_) fun J hgo hstop hy => ?_⟩
  · rcases p with ⟨_, rfl⟩ | ⟨D, hD, p⟩
    · exact Same.refl _
    · exact hl D i H' hD hi p
  intro D hD
  refine ⟨fun i m H => m = xs.length - i ∧ i ≤ xs.length ∧ Pv D i H, ⟨xs.length, by simp, Nat.zero_le _, h0 D hD⟩, ?_⟩
  rintro i m H ⟨rfl, hi, p⟩
  by_cases hlt : i < xs.length
  · refine .inr ⟨hgo i () H hlt (.inr ⟨D, hD, p⟩), Pv D (i + 1), fun H' p' => ⟨xs.length - (i + 1), by omega, rfl, hlt, p'⟩, fun v H' y => ?_⟩
    obtain ⟨e1, e2⟩ := hy i xs[i] () H v H' (by simp [hlt]) (.inr ⟨D, hD, p⟩) y
    subst e1 e2
    exact hs D i xs[i] _ hD (by simp [hlt]) p
  · have e : i = xs.length := by omega
    subst e
    exact .inl ⟨hstop () H (.inr ⟨D, hD, p⟩), hd D H hD p⟩
/-- what a new list covered is kept -/
theorem TK.over {H H' : Hp} {L : Addr} {xs : List V} (s : Same H H') : TK (L2.upd H L (.lst xs)) H' := fun b o e t => by
  by_cases n : b = L
  · subst n
    rw [upd_same] at e
    cases e
    cases t
  · rw [upd_ne n] at e
    exact s _ _ e
/-! ### nodes and trees -/
def okN : Nd → Bool
  | .nm i => decide (i ≤ 299)
  | .told n => decide (n ≤ 1000000)
  | .toldT => false
  | .fn k | .left k | .right k | .turns k => okK k
  | _ => true
def tree : Nat → List Nd → Bool
  | w, [] => decide (w = 0)
  | 0, _ :: _ => false
  | w + 1, n :: r => tree (w + (binds n.w).length) r
/-- a node, or a list -/
def EAt (K : PySem.W.Frag) (H : Hp) (v : V) : Option Nd → Prop
  | some n => NAt K H v n
  | none => ∃ a xs, v = .ref a ∧ SqL K H a xs
def okE : Option Nd → Bool
  | some n => okN n
  | none => false
theorem EAt.same {K : PySem.W.Frag} {H H' : Hp} {v : V} (s : Same H H') : ∀ {e : Option Nd}, EAt K H v e → EAt K H' v e
  | some n, h => NAt.tk h (TK.of s)
  | none, ⟨a, xs, e, h⟩ => ⟨a, xs, e, SqL.same s h⟩
inductive EsAt (K : PySem.W.Frag) (H : Hp) : List V → List (Option Nd) → Prop where
  | nil : EsAt K H [] []
  | cons {v : V} {e : Option Nd} {vs : List V} {es : List (Option Nd)} : EAt K H v e → EsAt K H vs es → EsAt K H (v :: vs) (e :: es)
theorem EsAt.same {K : PySem.W.Frag} {H H' : Hp} (s : Same H H') : ∀ {vs : List V} {es : List (Option Nd)}, EsAt K H vs es → EsAt K H' vs es
  | _, _, .nil => .nil
  | _, _, .cons a t => .cons (EAt.same s a) (EsAt.same s t)
theorem EsAt.length {K : PySem.W.Frag} {H : Hp} : ∀ {vs : List V} {es : List (Option Nd)}, EsAt K H vs es → vs.length = es.length
  | _, _, .nil => rfl
  | _, _, .cons _ t => congrArg Nat.succ (EsAt.length t)
theorem EsAt.get {K : PySem.W.Frag} {H : Hp} : ∀ {vs : List V} {es : List (Option Nd)} {i : Nat} {v : V}, EsAt K H vs es → vs[i]? = some v → ∃ e, es[i]? = some e ∧ EAt K H v e
  | _, _, _, _, .nil, e => by simp at e
  | _, _, 0, _, .cons a _, e => by
    simp at e
    subst e
    exact ⟨_, rfl, a⟩
  | _, _, i + 1, _, .cons _ t, e => by
    obtain ⟨d, h1, h2⟩ := EsAt.get (i := i) t (by simpa using e)
    exact ⟨d, by simpa using h1, h2⟩
theorem EsAt.of {K : PySem.W.Frag} {H : Hp} : ∀ {ns : List Nd} {vs : List V}, NsAt K H vs ns → EsAt K H vs (ns.map some)
  | [], _, h => by
    cases h
    exact .nil
  | n :: ns, _, h => by
    cases h with
    | cons h1 h2 => exact .cons h1 (EsAt.of h2)
theorem EsAt.nodes {K : PySem.W.Frag} {H : Hp} : ∀ {vs : List V} {es : List (Option Nd)}, EsAt K H vs es → es.all okE = true → NsAt K H vs (es.filterMap id)
  | _, _, .nil, _ => .nil
  | _, _, .cons (e := none) a t, h => by simp [okE] at h
  | _, _, .cons (e := some n) a t, h => by
    exact .cons a (EsAt.nodes t (by
      rw [List.all_cons, Bool.and_eq_true] at h
      exact h.2))
def isT (es : List (Option Nd)) : Bool := decide (1 ≤ es.length) && (decide (es.length ≤ 300) && (es.all okE && tree 1 (es.filterMap id)))
theorem isT_of (ns : List Nd) : isT (ns.map some) = (decide (1 ≤ ns.length) && (decide (ns.length ≤ 300) && (ns.all okN && tree 1 ns))) := by
  unfold isT
  have e1 : (ns.map some).all okE = ns.all okN := by rw [List.all_map]; rfl
  have e2 : (ns.map some).filterMap id = ns := by rw [List.filterMap_map]; simp
  rw [e1, e2, List.length_map]
theorem strs_in (z : Wd) : inV (V.str z.s) [V.str Wd.fn.s, V.str Wd.left.s, V.str Wd.right.s, V.str Wd.turns.s] = decide (z = .fn ∨ z = .left ∨ z = .right ∨ z = .turns) := by cases z <;> decide +kernel
section
variable {P : Program} {w : World} {K : PySem.W.Frag} {mg : Str → Option Value} {base : Heap} {fr nk nkI : Addr} {fd : FuncData}
abbrev N_is_node : List Str := ["value"]
theorem sc_is_node : FnScope N_is_node ["value"] (defScope (top 46)) := ⟨rfl, rfl, rfl, by decide +kernel, rfl, by decide +kernel, by decide +kernel⟩
def gNode (K : PySem.W.Frag) : G1 := fun v H Q _ => ∃ e, EAt K H v e ∧ ∀ H', Same H H' → Q (.bl (okE e)) H'
theorem ok_is_node (T : Txt K w mg fr fd nk nkI) (D : Df K mg "is_node" (top 46)) (c_is_kind : Cal P w K mg base CX0 "is_kind" 5 ["value"] (sp1 (gKind K))) (c_is_count : Cal P w K mg base CX0 "is_count" 2 ["value"] (sp1 gCount)) :
    Cal P w K mg base CX0 "is_node" 6 ["value"] (sp1 (gNode K)) := by
  refine D.cal sc_is_node (bs1 fun _ _ _ _ _ _ _ => rfl) sp1_len fun f cdv A outer s H vs Q E hr h => ?_
  obtain ⟨v, rfl, e, he, q⟩ := h
  refine ⟨_, (pss_cons (ps_if (PW.pt (pw_or (pt_not (pt_val (pe_callB call_isi (by rfl) T.isinstance (by decide +kernel) (pa_cons (pv 0) (pa_cons (pe_ty "tuple" (by rfl) T.tuple (by decide +kernel)) pa_nil))))) (pw_or (pt_cmpR op_eq (pe_callB call_len (by rfl) T.len (by decide +kernel) (pa_cons (pv 0) pa_nil)) pe_int (by rfl)) (pw_or (pt_not (pt_val (pe_callB call_isi (by rfl) T.isinstance (by decide +kernel) (pa_cons (pe_ix ix_tup (pv 0) pe_int (fun _ _ => rfl)) (pa_cons (pe_ty "str" (by rfl) T.str (by decide +kernel)) pa_nil))))) (pw_or1 (pt_notInKd T.BINDS rfl (pe_ix ix_tup (pv 0) pe_int (fun _ _ => rfl)))))))) 
      (pss_one (ps_ret pe_bl)) pss_nil)
    (pss_cons (ps_if (pt_cmpR op_in_seq (pe_ix ix_tup (pv 0) pe_int (fun _ _ => rfl)) (pe_gT rfl T.WITH_KIND) (by rfl)) 
      (pss_one (ps_ret (pe_and (pe_cmpR op_eq (pe_callB call_len (by rfl) T.len (by decide +kernel) (pa_cons (pv 0) pa_nil)) pe_int (by rfl)) (pe_one (pe_cal c_is_kind (hr.mono (by omega)) rfl pass0 (pa_cons (pe_ix ix_tup (pv 0) pe_int (fun _ _ => rfl)) pa_nil)))))) pss_nil)
    (pss_cons (ps_if (pt_cmpR op_eq (pe_ix ix_tup (pv 0) pe_int (fun _ _ => rfl)) (pe_gS rfl T.NAME) (by rfl)) 
      (pss_one (ps_ret (pe_and (pe_cmpR op_eq (pe_callB call_len (by rfl) T.len (by decide +kernel) (pa_cons (pv 0) pa_nil)) pe_int (by rfl)) (pe_and (pe_cal c_is_count (hr.mono (by omega)) rfl pass0 (pa_cons (pe_ix ix_tup (pv 0) pe_int (fun _ _ => rfl)) pa_nil)) (pe_one (pe_cmpR op_le (pe_ix ix_tup (pv 0) pe_int (fun _ _ => rfl)) (pe_gI rfl T.MOST_OUT) (by rfl))))))) pss_nil)
    (pss_cons (ps_if (pt_cmpR op_eq (pe_ix ix_tup (pv 0) pe_int (fun _ _ => rfl)) (pe_gS rfl T.TOLD) (by rfl)) 
      (pss_one (ps_ret (pe_and (pe_cmpR op_eq (pe_callB call_len (by rfl) T.len (by decide +kernel) (pa_cons (pv 0) pa_nil)) pe_int (by rfl)) (pe_and (pe_cal c_is_count (hr.mono (by omega)) rfl pass0 (pa_cons (pe_ix ix_tup (pv 0) pe_int (fun _ _ => rfl)) pa_nil)) (pe_one (pe_cmpR op_le (pe_ix ix_tup (pv 0) pe_int (fun _ _ => rfl)) (pe_gI rfl T.MOST_TOLD) (by rfl))))))) pss_nil)
    (pss_one (ps_ret (pe_cmpR op_eq (pe_callB call_len (by rfl) T.len (by decide +kernel) (pa_cons (pv 0) pa_nil)) pe_int (by rfl)))))))), ?_⟩
  cases e with
  | none =>
    obtain ⟨a, xs, rfl, hs⟩ := he
    exact ⟨_, rfl, _, _, _, _, false, rfl, .ty _, tyL hs, kit_ty (by decide +kernel), false, rfl, iteT (q _ (Same.refl _))⟩
  | some n =>
    obtain ⟨a, r, rfl, hs, hr2⟩ := NAt.tup he
    refine ⟨_, rfl, _, _, _, _, true, rfl, .ty _, tyT hs, kit_ty (by decide +kernel), true, rfl, iteF ?_⟩
    refine ⟨_, rfl, _, _, rfl, lenT hs, rfl, _, rfl, ifIF (by simp; omega) ?_⟩
    refine ⟨_, rfl, _, _, _, _, rfl, rfl, hs, at0, _, _, _, _, true, rfl, .ty _, .base (.str _), kit_ty (by decide +kernel), true, rfl, iteF ?_⟩
    refine ⟨_, rfl, _, _, _, _, rfl, rfl, hs, at0, n, rfl, ?_⟩
    refine iteF ?_
    refine ⟨_, rfl, _, _, _, _, rfl, rfl, hs, at0, fun t ht => ⟨t, _, rfl, .inr (ht H), rfl, rfl, _, rfl, ?_⟩⟩
    have cls : (∃ k, n.arg = [dK k] ∧ okE (some n) = okK k ∧ decide (n.w = .fn ∨ n.w = .left ∨ n.w = .right ∨ n.w = .turns) = true) ∨ (decide (n.w = .fn ∨ n.w = .left ∨ n.w = .right ∨ n.w = .turns) = false ∧ n.w ≠ .name ∧ n.w ≠ .told ∧ n.arg = [] ∧ okE (some n) = true) ∨ n.w = .name ∨ n.w = .told := by
      cases n <;> first | exact .inl ⟨_, rfl, rfl, rfl⟩ | exact .inr (.inl ⟨rfl, by decide, by decide, rfl, rfl⟩) | exact .inr (.inr (.inl rfl)) | exact .inr (.inr (.inr rfl))
    rcases cls with ⟨k, e1, e2, e3⟩ | ⟨e1, e2, e3, e4, e5⟩ | cls
    · rw [e1] at hr2
      obtain ⟨y, rfl, hk⟩ := DpAll.one hr2
      rw [e2] at q
      exact ifT ((strs_in n.w).trans e3) ⟨_, rfl, _, _, rfl, lenT hs, rfl, true, rfl, iteT ⟨_, rfl, _, _, _, _, rfl, rfl, hs, at1, _, rfl, k, hk, q⟩⟩
    · rw [e4] at hr2
      obtain rfl := DpAll.nil' hr2
      rw [e5] at q
      exact ifF ((strs_in n.w).trans e1) ⟨_, rfl, _, _, _, _, rfl, rfl, hs, at0, rfl, _, rfl, ifSF e2 ⟨_, rfl, _, _, _, _, rfl, rfl, hs, at0, rfl, _, rfl, ifSF e3 ⟨_, rfl, _, _, rfl, lenT hs, rfl, q _ (Same.refl _)⟩⟩⟩
    cases n with
    | nm i =>
      obtain ⟨y, rfl, hk⟩ := DpAll.one hr2
      obtain rfl := Dp.int' hk
      refine ifF (strs_in .name) ⟨_, rfl, _, _, _, _, rfl, rfl, hs, at0, rfl, _, rfl, ifST rfl ?_⟩
      refine ⟨_, rfl, _, _, rfl, lenT hs, rfl, true, rfl, iteT ?_⟩
      refine ⟨_, rfl, _, _, _, _, rfl, rfl, hs, at1, _, rfl, .inl ⟨_, rfl, _, rfl, ifT (by simp) ⟨_, rfl, _, _, _, _, rfl, rfl, hs, at1, _, _, rfl, rfl, ?_⟩⟩⟩
      have e : decide ((i : Int) ≤ 299) = okE (some (.nm i)) := by simp only [okE, okN]; congr 1; exact propext ⟨fun h => by omega, fun h => by omega⟩
      rw [← e] at q
      exact q _ (Same.refl _)
    | told i =>
      obtain ⟨y, rfl, hk⟩ := DpAll.one hr2
      obtain rfl := Dp.int' hk
      refine ifF (strs_in .told) ⟨_, rfl, _, _, _, _, rfl, rfl, hs, at0, rfl, _, rfl, ifSF (show Wd.told ≠ Wd.name by decide) ⟨_, rfl, _, _, _, _, rfl, rfl, hs, at0, rfl, _, rfl, ifST rfl ?_⟩⟩
      refine ⟨_, rfl, _, _, rfl, lenT hs, rfl, true, rfl, iteT ?_⟩
      refine ⟨_, rfl, _, _, _, _, rfl, rfl, hs, at1, _, rfl, .inl ⟨_, rfl, _, rfl, ifT (by simp) ⟨_, rfl, _, _, _, _, rfl, rfl, hs, at1, _, _, rfl, rfl, ?_⟩⟩⟩
      have e : decide ((i : Int) ≤ 1000000) = okE (some (.told i)) := by simp only [okE, okN]; congr 1; exact propext ⟨fun h => by omega, fun h => by omega⟩
      rw [← e] at q
      exact q _ (Same.refl _)
    | toldT =>
      obtain ⟨y, rfl, hk⟩ := DpAll.one hr2
      obtain rfl := Dp.bl' hk
      refine ifF (strs_in .told) ⟨_, rfl, _, _, _, _, rfl, rfl, hs, at0, rfl, _, rfl, ifSF (show Wd.told ≠ Wd.name by decide) ⟨_, rfl, _, _, _, _, rfl, rfl, hs, at0, rfl, _, rfl, ifST rfl ?_⟩⟩
      refine ⟨_, rfl, _, _, rfl, lenT hs, rfl, true, rfl, iteT ?_⟩
      exact ⟨_, rfl, _, _, _, _, rfl, rfl, hs, at1, _, rfl, .inr ⟨_, rfl, false, rfl, iteF (q _ (Same.refl _))⟩⟩
    | _ => rcases cls with c | c <;> cases c
abbrev N_are_tree : List Str := ["nodes", "wanted", "node"]
theorem sc_are_tree : FnScope N_are_tree ["nodes"] (defScope (top 47)) := ⟨rfl, rfl, rfl, by decide +kernel, rfl, by decide +kernel, by decide +kernel⟩
def gTree (K : PySem.W.Frag) : G1 := fun v H Q _ => ∃ a xs ns, v = .ref a ∧ SqS K H a xs ∧ NsAt K H xs ns ∧ Q (.bl (tree 1 ns)) H
theorem ok_are_tree (T : Txt K w mg fr fd nk nkI) (D : Df K mg "are_tree" (top 47)) : Cal P w K mg base CX0 "are_tree" 1 ["nodes"] (sp1 (gTree K)) := by
  refine D.cal sc_are_tree (bs1 fun _ _ _ _ _ _ _ => rfl) sp1_len fun f cdv A outer s H vs Q E hr h => ?_
  obtain ⟨v, rfl, a, xs, ns, rfl, hs, hn, q⟩ := h
  refine ⟨_, (pss_cons (ps_set (i := 1) sc_are_tree.nd rfl (Or.inl rfl) pe_int)
    (pss_cons (ps_for PassesOwn.never rfl (pi_seq (pv 0)) (pg_name (i := 2) sc_are_tree.nd rfl (Or.inl rfl)) 
      (pss_cons (ps_if (pt_cmpR op_eq (pv 1) pe_int (by rfl)) 
        (pss_one (ps_ret pe_bl)) pss_nil)
      (pss_one (ps_set (i := 1) sc_are_tree.nd rfl (Or.inl rfl) (pe_op op_add (pe_op op_sub (pv 1) pe_int) (pe_callB call_len (by rfl) T.len (by decide +kernel) (pa_cons (pe_kd T.BINDS rfl (pe_ix ix_tup (pv 2) pe_int (fun _ _ => rfl)) (fun _ _ => rfl)) pa_nil)))))))
    (pss_one (ps_ret (pe_cmpR op_eq (pv 1) pe_int (by rfl)))))), ?_⟩
  have lx := NsAt.length hn
  dsimp only [tSeq, tAsg, tC, gName]
  refine for_seq (a := a) (xs := xs) (fun _ z => ⟨_, rfl, z⟩) (fun i σ H' => ∃ (wn : Nat) (o : Option V), H' = H ∧ σ = [some (.ref a), some (.int wn), o] ∧ tree 1 ns = tree wn (ns.drop i)) hs ⟨1, _, rfl, rfl, rfl⟩ (fun i σ H' _ ⟨_, _, e, _⟩ => .inl (e ▸ Same.refl _)) ?_ ?_
  · rintro i x σ H' hx ⟨wn, o, rfl, rfl, e⟩
    obtain ⟨n, hn1, hn2⟩ := NsAt.get' hn hx
    have hd : ns.drop i = n :: ns.drop (i + 1) := by
      obtain ⟨hi, e1⟩ := List.getElem?_eq_some_iff.mp hn1
      rw [← e1]
      exact List.drop_eq_getElem_cons hi
    rw [hd] at e
    obtain ⟨b, r, rfl, hs2, _⟩ := NAt.tup hn2
    cases wn with
    | zero =>
      refine ⟨_, rfl, rfl, _, rfl, ifIT rfl ?_⟩
      rw [e] at q
      exact q
    | succ m =>
      refine ⟨_, rfl, rfl, _, rfl, ifIF (by omega) ?_⟩
      refine ⟨_, rfl, _, _, rfl, rfl, _, rfl, _, _, _, _, rfl, rfl, hs2, at0, n, rfl, fun t ht => ⟨_, _, rfl, lenT (ht _), _, _, rfl, rfl, m + (binds n.w).length, some (.ref b), rfl, ?_, e⟩⟩
      rw [List.length_map]
      have e3 : ((m + 1 : Nat) : Int) - 1 + ((binds n.w).length : Int) = ((m + (binds n.w).length : Nat) : Int) := by omega
      exact congrArg (fun z => [some (V.ref a), some (V.int z), some (V.ref b)]) e3
  · rintro σ H' ⟨wn, o, rfl, rfl, e⟩
    refine ⟨_, rfl, rfl, ?_⟩
    rw [lx, List.drop_length] at e
    have e2 : decide (V.int (wn : Int) = V.int 0) = tree 1 ns := by
      rw [e]
      simp only [tree, V.int.injEq]
      congr 1
      exact propext ⟨fun h => by omega, fun h => by omega⟩
    rw [e2]
    exact q
abbrev N_is_term : List Str := ["value", "node"]
theorem sc_is_term : FnScope N_is_term ["value"] (defScope (top 48)) := ⟨rfl, rfl, rfl, by decide +kernel, rfl, by decide +kernel, by decide +kernel⟩
/-- a value that is not a list and not a tuple -/
def NoSeq (K : PySem.W.Frag) (H : Hp) (v : V) : Prop := ∃ t, TyN K H v t ∧ PySem.W.kitAny K (.type t) [.type "list", .type "tuple"] = some false
theorem NoSeq.same {H H' : Hp} {v : V} (s : Same H H') (h : NoSeq K H v) : NoSeq K H' v := h.imp fun t q => ⟨TyX.same s q.1, q.2⟩
theorem seq_ty {H : Hp} {a : Addr} {xs : List V} (h : SqS K H a xs) : ∃ t, TyN K H (.ref a) t ∧ PySem.W.kitAny K (.type t) [.type "list", .type "tuple"] = some true :=
  h.elim (fun q => ⟨_, tyL q, kitAny_cons (b := true) rfl (fun z => by cases z) (fun _ => rfl)⟩) (fun q => ⟨_, tyT q, kitAny_cons (b := false) rfl (fun _ => kitAny_cons (b := true) rfl (fun z => by cases z) (fun _ => rfl)) (fun z => by cases z)⟩)
def gTerm (K : PySem.W.Frag) : G1 := fun v H Q _ => (∃ a xs es, v = .ref a ∧ SqS K H a xs ∧ EsAt K H xs es ∧ ∀ H', Same H H' → Q (.bl (isT es)) H') ∨ (NoSeq K H v ∧ ∀ H', Same H H' → Q (.bl false) H')
theorem ok_is_term (T : Txt K w mg fr fd nk nkI) (D : Df K mg "is_term" (top 48)) (c_is_list : Cal P w K mg base CX0 "is_list" 1 ["value"] (sp1 (gList K))) (c_is_node : Cal P w K mg base CX0 "is_node" 6 ["value"] (sp1 (gNode K)))
    (c_are_tree : Cal P w K mg base CX0 "are_tree" 1 ["nodes"] (sp1 (gTree K))) : Cal P w K mg base CX0 "is_term" 7 ["value"] (sp1 (gTerm K)) := by
  refine D.cal sc_is_term (bs1 fun _ _ _ _ _ _ _ => rfl) sp1_len fun f cdv A outer s H vs Q E hr h => ?_
  obtain ⟨v, rfl, h⟩ := h
  refine ⟨_, (pss_cons (ps_if (PW.pt (pw_or (pt_not (pt_val (pe_cal c_is_list (hr.mono (by omega)) rfl pass0 (pa_cons (pv 0) pa_nil)))) (pw_or (pt_not (pt_chain op_le op_le pe_int (pe_callB call_len (by rfl) T.len (by decide +kernel) (pa_cons (pv 0) pa_nil)) (pe_gI rfl T.MOST_NODES))) (pw_or1 (pt_not (pt_val (pe_callB (cr_all rfl) (by rfl) T.all (by decide +kernel) (pa_cons (pe_lc (own := [("node", 1)]) rfl sc_is_term.nd (pi_seq (pv 0)) (blkOk_by (own := [("node", 1)]) (N := N_is_term) (sc := defScope (top 48)) (by decide +kernel)) (fun _ _ _ _ _ => (pg_name (i := 1) sc_is_term.nd rfl (Or.inl rfl))) (fun _ _ _ _ _ => pts_nil) (fun _ _ _ _ _ => (pe_cal c_is_node (hr.mono (by omega)) rfl pass0 (pa_cons (pv 1) pa_nil)))) pa_nil)))))))) 
      (pss_one (ps_ret pe_bl)) pss_nil)
    (pss_one (ps_ret (pe_cal c_are_tree (hr.mono (by omega)) rfl pass0 (pa_cons (pv 0) pa_nil))))), ?_⟩
  rcases h with ⟨a, xs, es, rfl, hs, he, q⟩ | ⟨⟨t, ht, hk⟩, q⟩
  · obtain ⟨t, ht, hk⟩ := seq_ty hs
    have lx := EsAt.length he
    refine ⟨_, rfl, _, rfl, t, true, ht, hk, fun H1 e1 => ⟨_, rfl, iteF ?_⟩⟩
    have hs1 := SqS.same e1 hs
    have out : isT es = false → Q (.bl false) H1 := fun z => by
      have q' := q _ e1
      rwa [z] at q'
    by_cases l1 : 1 ≤ es.length
    case neg =>
      refine ⟨_, rfl, _, _, rfl, SqS.len hs1, _, _, rfl, rfl, false, ?_, ifF rfl ⟨_, rfl, iteT (out ?_)⟩⟩
      · rw [lx]
        exact congrArg V.bl (decide_eq_false (by omega))
      · unfold isT
        rw [decide_eq_false l1]
        rfl
    by_cases l2 : es.length ≤ 300
    case neg =>
      refine ⟨_, rfl, _, _, rfl, SqS.len hs1, _, _, rfl, rfl, true, ?_, ifT rfl ⟨_, _, rfl, rfl, _, rfl, ifT ?_ (iteT (out ?_))⟩⟩
      · rw [lx]
        exact congrArg V.bl (decide_eq_true (by omega))
      · rw [lx, decide_eq_false (by omega)]
        rfl
      · unfold isT
        rw [decide_eq_false l2, Bool.false_and, Bool.and_false]
    refine ⟨_, rfl, _, _, rfl, SqS.len hs1, _, _, rfl, rfl, true, ?_, ifT rfl ⟨_, _, rfl, rfl, _, rfl, ifF ?_ ?_⟩⟩
    · rw [lx]
      exact congrArg V.bl (decide_eq_true (by omega))
    · rw [lx, decide_eq_true (by omega)]
      rfl
    dsimp only [tNot, tB, tCB, tCons, tNil]
    refine lc_seq (a := a) (xs := xs) (fun _ z => ⟨_, rfl, z⟩) (fun D i H' => Same H1 H' ∧ H' D = some (.lst ((es.take i).map fun e => V.bl (okE e)))) hs1 (fun D hD => ⟨Same.new hD _, upd_same⟩) (fun D i H' _ _ p => p.1) ?_ ?_
    · rintro D i x H' hD hx ⟨sm, hl⟩
      obtain ⟨e, g1, g2⟩ := EsAt.get he hx
      refine ⟨rfl, ?_⟩
      refine ⟨_, rfl, _, rfl, e, EAt.same (e1.trans sm) g2, fun H2 e2 => ⟨_, e2 _ _ hl, ?_, Same.upd (sm.trans e2) hD _, ?_⟩⟩
      · rw [line_eq, List.length_map, List.length_take]
        omega
      · rw [upd_same, take_more g1, List.map_append]
        rfl
    · rintro D H' hD ⟨sm, hl⟩
      rw [lx, List.take_length] at hl
      refine ⟨D, es.map okE, rfl, SqL.of (by rw [hl, List.map_map]; rfl), _, rfl, ?_⟩
      have ea : (es.map okE).all id = es.all okE := by rw [List.all_map]; rfl
      rw [ea]
      have sm1 := e1.trans sm
      cases eo : es.all okE with
      | false =>
        refine iteT ?_
        have z : isT es = false := by
          unfold isT
          rw [eo, Bool.false_and, Bool.and_false, Bool.and_false]
        have q' := q _ sm1
        rwa [z] at q'
      | true =>
        refine iteF ⟨_, rfl, _, rfl, a, xs, es.filterMap id, rfl, SqS.same sm hs1, EsAt.nodes (EsAt.same sm1 he) eo, ?_⟩
        have z : isT es = tree 1 (es.filterMap id) := by
          unfold isT
          rw [decide_eq_true l1, decide_eq_true l2, eo]
          rfl
        have q' := q _ sm1
        rwa [z] at q'
  · exact ⟨_, rfl, _, rfl, t, false, ht, hk, fun H1 e1 => ⟨_, rfl, iteT (q _ e1)⟩⟩
abbrev N_want_term : List Str := ["value"]
theorem sc_want_term : FnScope N_want_term ["value"] (defScope (top 49)) := ⟨rfl, rfl, rfl, by decide +kernel, rfl, by decide +kernel, by decide +kernel⟩
def gWantTerm (K : PySem.W.Frag) : G1 := fun v H Q _ => ∃ a xs ns, v = .ref a ∧ SqS K H a xs ∧ NsAt K H xs ns ∧ isT (ns.map some) = true ∧ ∀ p H', Same H H' → H p = none → H' p = some (.lst xs) → Q (.ref p) H'
theorem ok_want_term (T : Txt K w mg fr fd nk nkI) (D : Df K mg "want_term" (top 49)) (c_is_term : Cal P w K mg base CX0 "is_term" 7 ["value"] (sp1 (gTerm K))) : Cal P w K mg base CX0 "want_term" 8 ["value"] (sp1 (gWantTerm K)) := by
  refine D.cal sc_want_term (bs1 fun _ _ _ _ _ _ _ => rfl) sp1_len fun f cdv A outer s H vs Q E hr h => ?_
  obtain ⟨v, rfl, a, xs, ns, rfl, hs, hn, ht, q⟩ := h
  refine ⟨_, (pss_cons (ps_if (pt_not (pt_val (pe_cal c_is_term (hr.mono (by omega)) rfl pass0 (pa_cons (pv 0) pa_nil)))) 
      (pss_one ps_never) pss_nil)
    (pss_one (ps_ret (pe_callTy call_list_of (by rfl) T.list (by decide +kernel) (pa_cons (pv 0) pa_nil))))), ?_⟩
  refine ⟨_, rfl, _, rfl, .inl ⟨a, xs, ns.map some, rfl, hs, EsAt.of hn, fun H1 e1 => ⟨_, rfl, ?_⟩⟩⟩
  rw [ht]
  exact iteF ⟨_, rfl, a, xs, rfl, SqS.same e1 hs, fun l hl => q l _ (Same.upd e1 (e1.free hl) _) (e1.free hl) upd_same⟩
abbrev N_letters_put : List Str := ["term", "letter", "kind", "nodes", "found", "node"]
theorem sc_letters_put : FnScope N_letters_put ["term", "letter", "kind"] (defScope (top 50)) := ⟨rfl, rfl, rfl, by decide +kernel, rfl, by decide +kernel, by decide +kernel⟩
def Nd.put (b : Bool) (o : Kd) : Nd → Nd
  | .fn k => .fn (Kd.put b o k)
  | .left k => .left (Kd.put b o k)
  | .right k => .right (Kd.put b o k)
  | .turns k => .turns (Kd.put b o k)
  | n => n
/-- what a node's kind may be for the letters to be put -/
def Nd.small (b : Bool) (o : Kd) : Nd → Prop
  | .fn k | .left k | .right k | .turns k => k.deep ≤ 8 ∧ k.size ≤ 60 ∧ okK (Kd.put b o k) = true
  | _ => True
def gLPut (K : PySem.W.Frag) : G3 := fun v l o H Q _ => ∃ a xs ns b ko, v = .ref a ∧ SqS K H a xs ∧ NsAt K H xs ns ∧ isT (ns.map some) = true ∧ l = .int (lv b) ∧ KAt K H o ko ∧ ko.deep ≤ 8 ∧ ko.size ≤ 60 ∧ (∀ n ∈ ns, n.small b ko) ∧
  ∀ p ys H', Same H H' → H p = none → H' p = some (.lst ys) → NsAt K H' ys (ns.map (Nd.put b ko)) → Q (.ref p) H'
theorem ok_letters_put (T : Txt K w mg fr fd nk nkI) (D : Df K mg "letters_put" (top 50)) (c_want_term : Cal P w K mg base CX0 "want_term" 8 ["value"] (sp1 (gWantTerm K))) (c_want_letter : Cal P w K mg base CX0 "want_letter" 4 ["value"] (sp1 gWantLetter))
    (c_want_kind : Cal P w K mg base CX0 "want_kind" 6 ["value"] (sp1 (gWantKind K))) (c_put_letter_told : Cal P w K mg base CX0 "put_letter_told" 13 ["kind", "letter", "other"] (sp3 (gPutT K))) : Cal P w K mg base CX0 "letters_put" 14 ["term", "letter", "kind"] (sp3 (gLPut K)) := by
  refine D.cal sc_letters_put (bs3 fun _ _ _ _ _ _ _ _ _ => rfl) sp3_len fun f cdv A outer s H vs Q E hr h => ?_
  obtain ⟨v, _, o, rfl, a, xs, ns, b, ko, rfl, hs, hn, ht, rfl, ho, hdo, hzo, hsm, q⟩ := h
  refine ⟨_, (pss_cons (ps_set (i := 3) sc_letters_put.nd rfl (Or.inl rfl) (pe_cal c_want_term (hr.mono (by omega)) rfl pass0 (pa_cons (pv 0) pa_nil)))
    (pss_cons (ps_expr (pe_cal c_want_letter (hr.mono (by omega)) rfl pass0 (pa_cons (pv 1) pa_nil)))
    (pss_cons (ps_expr (pe_cal c_want_kind (hr.mono (by omega)) rfl pass0 (pa_cons (pv 2) pa_nil)))
    (pss_cons (ps_set (i := 4) sc_letters_put.nd rfl (Or.inl rfl) (pe_lst pa_nil))
    (pss_cons (ps_for PassesOwn.never rfl (pi_seq (pv 3)) (pg_name (i := 5) sc_letters_put.nd rfl (Or.inl rfl)) 
      (pss_one (ps_expr (pe_bm PySem.F.plainAttrs_list PySem.F.slot_list_append PySem.F.type_list_append mt_append (pv 4) (pa_cons (pe_ifExp (pt_cmpR op_in_seq (pe_ix ix_tup (pv 5) pe_int (fun _ _ => rfl)) (pe_gT rfl T.WITH_KIND) (by rfl)) (pe_tup (pa_cons (pe_ix ix_tup (pv 5) pe_int (fun _ _ => rfl)) (pa_cons (pe_cal c_put_letter_told (hr.mono (by omega)) rfl pass0 (pa_cons (pe_ix ix_tup (pv 5) pe_int (fun _ _ => rfl)) (pa_cons (pv 1) (pa_cons (pv 2) pa_nil)))) pa_nil))) (pv 5)) pa_nil)))))
    (pss_one (ps_ret (pv 4)))))))), ?_⟩
  refine ⟨_, rfl, _, rfl, a, xs, ns, rfl, hs, hn, ht, fun p0 H1 e1 f1 h1 => ?_⟩
  have ho1 := ho.tk (TK.of e1)
  refine ⟨_, rfl, _, rfl, _, rfl, (lv_bd b).1, (lv_bd b).2, ?_⟩
  refine ⟨_, rfl, _, rfl, ko, ho1, ok_small hzo (by omega), fun H2 e2 => ?_⟩
  refine ⟨fits0, fun L hL => ?_⟩
  have e12 := e1.trans e2
  have fL : H L = none := e12.free hL
  have h2 := e2 _ _ h1
  have lx := NsAt.length hn
  have l300 : ns.length ≤ 300 := by
    rw [isT_of] at ht
    simp only [Bool.and_eq_true, decide_eq_true_eq] at ht
    exact ht.2.1
  dsimp only [tSeq]
  refine for_seq (a := p0) (xs := xs) (fun _ z => ⟨_, rfl, z⟩) (fun i σ H' => ∃ (ys : List V) (o5 : Option V), Same H2 H' ∧ σ = [some (.ref a), some (.int (lv b)), some o, some (.ref p0), some (.ref L), o5] ∧ H' L = some (.lst ys) ∧ NsAt K H' ys ((ns.take i).map (Nd.put b ko)))
    (.inl (SqL.of ((Same.new hL _) _ _ h2))) ⟨[], none, Same.new hL _, rfl, upd_same, .nil⟩ (fun i σ H' _ p => ?_) ?_ ?_
  · obtain ⟨ys, o5, sm, _⟩ := p
    exact .inr ⟨fun _ => SqL.of (sm _ _ h2), fun z => SqT.tk (TK.over sm) z⟩
  · rintro i x σ H' hx ⟨ys, o5, sm, rfl, hl, hk⟩
    have sm2 := e12.trans sm
    obtain ⟨n, hn1, hn2⟩ := NsAt.get' (hn.tk (TK.of sm2)) hx
    obtain ⟨c, r, rfl, hs2, hr2⟩ := NAt.tup hn2
    have lr : ys.length < sizeLine := by
      have z := NsAt.length hk
      rw [List.length_map, List.length_take] at z
      rw [line_eq]
      omega
    have ln : (ns.take (i + 1)).map (Nd.put b ko) = (ns.take i).map (Nd.put b ko) ++ [n.put b ko] := by
      rw [take_more hn1, List.map_append]
      rfl
    refine ⟨_, rfl, .inl ⟨rfl, _, SqL.of hl⟩, _, rfl, _, _, _, _, rfl, rfl, hs2, at0, fun t ht => ⟨t, _, rfl, .inr (ht _), rfl, rfl, _, rfl, ?_⟩⟩
    have fin : ∀ (y : V) (H3 : Hp), Same H' H3 → NAt K H3 y (n.put b ko) → ∃ (l : Addr) (zs : List V) (z : V), V.ref L = .ref l ∧ [y] = [z] ∧ H3 l = some (.lst zs) ∧ zs.length < sizeLine ∧
        ∃ (us : List V) (o6 : Option V), Same H2 (upd H3 l (.lst (zs ++ [z]))) ∧ [some (V.ref a), some (V.int (lv b)), some o, some (V.ref p0), some (V.ref L), some (.ref c)] = [some (.ref a), some (.int (lv b)), some o, some (.ref p0), some (.ref L), o6] ∧
          (upd H3 l (.lst (zs ++ [z]))) L = some (.lst us) ∧ NsAt K (upd H3 l (.lst (zs ++ [z]))) us ((ns.take (i + 1)).map (Nd.put b ko)) := fun y H3 e3 hy => by
      have hl3 := e3 _ _ hl
      refine ⟨L, ys, y, rfl, rfl, hl3, lr, ys ++ [y], _, Same.upd (sm.trans e3) hL _, rfl, upd_same, ?_⟩
      have tk := TK.upd hl3 rfl (.lst (ys ++ [y]))
      rw [ln]
      show DpAll K _ _ (List.map dN _)
      rw [List.map_append]
      exact DpAll.app (hk.tk (TK.trans (TK.of e3) tk)) (.cons (hy.tk tk) .nil)
    have hsn := hsm n (List.mem_of_getElem? hn1)
    have cls : (∃ k, n.arg = [dK k] ∧ (n.put b ko).arg = [dK (Kd.put b ko k)] ∧ (n.put b ko).w = n.w ∧ (k.deep ≤ 8 ∧ k.size ≤ 60 ∧ okK (Kd.put b ko k) = true) ∧ decide (n.w = .fn ∨ n.w = .left ∨ n.w = .right ∨ n.w = .turns) = true) ∨ (decide (n.w = .fn ∨ n.w = .left ∨ n.w = .right ∨ n.w = .turns) = false ∧ n.put b ko = n) := by
      cases n <;> first | exact .inl ⟨_, rfl, rfl, rfl, hsn, rfl⟩ | exact .inr ⟨rfl, rfl⟩
    rcases cls with ⟨k, a1, a2, a3, a4, a5⟩ | ⟨a1, a2⟩
    · rw [a1] at hr2
      obtain ⟨y, rfl, hy⟩ := DpAll.one hr2
      refine ifT ((strs_in n.w).trans a5) ?_
      refine ⟨_, rfl, _, _, _, _, rfl, rfl, hs2, at0, _, rfl, _, _, _, _, rfl, rfl, hs2, at1, _, rfl, _, rfl, _, _, _, rfl, k, b, ko, hy, rfl, ho.tk (TK.of sm2), a4.1, a4.2.1, hdo, hzo, a4.2.2, fun r3 H3 e3 k3 => ⟨fits2, fun t hp => ?_⟩⟩
      have e4 := Same.new hp (.tup [V.str n.w.s, r3])
      refine fin _ _ (e3.trans e4) ?_
      have z : dN (n.put b ko) = .tuple [.str n.w.s, dK (Kd.put b ko k)] := by rw [dN, a2, a3]
      show Dp K _ _ (dN (n.put b ko))
      rw [z]
      exact .tup (SqT.of upd_same) (.cons (.str _) (.cons (k3.tk (TK.of e4)) .nil))
    · refine ifF ((strs_in n.w).trans a1) ⟨_, rfl, fin _ _ (Same.refl _) ?_⟩
      rw [a2]
      exact hn2
  · rintro σ H' ⟨ys, o5, sm, rfl, hl, hk⟩
    rw [lx, List.take_length] at hk
    exact ⟨_, rfl, q _ _ _ (e12.trans sm) fL hl hk⟩
end
end K17
/-! K8: the kinds of nodes. -/
namespace K17
open PySem L2
/-! ### mirrors -/
def chk (k : Kd) : Option Kd := if okK k = true then some k else none
def kPart (f : Bool) : Kd → Option Kd
  | .br .pair p q => some (if f = true then p else q)
  | _ => none
def kCall : Kd → Kd → Option Kd
  | .br .fn p q, o => if p = o then some q else none
  | _, _ => none
def kindFew : Nd → List Kd → Option Kd
  | .call, [a, b] => kCall a b
  | .first, [a] => kPart true a
  | .second, [a] => kPart false a
  | .which, [_, b, c] => if b = c then some b else none
  | .next, [a] => if a = .cnt then some .cnt else none
  | .turns k, ks => if ks = [.cnt, k, k] then some k else none
  | .lt, [_, b] => some b
  | _, _ => none
def kindBy : Nd → List Kd → Option Kd
  | .fn k, [a] => chk (.br .fn k a)
  | .both, [a, b] => chk (.br .pair a b)
  | .left k, [a] => chk (.br .sum a k)
  | .right k, [a] => chk (.br .sum k a)
  | n, ks => kindFew n ks
def boundKind : Nd → List Kd → Option Kd
  | .which, .br .sum p q :: r => some (if r.length = 0 then p else q)
  | .which, _ => none
  | .lt, k :: _ => some k
  | .fn k, _ => some k
  | .turns k, _ => some k
  | _, _ => none
def Nd.inner (n : Nd) : Bool := !(binds n.w).isEmpty
abbrev OAt (K : PySem.W.Frag) (H : Hp) (v : V) (k : Option Kd) : Prop := Dp K H v (dO k)
abbrev RAt (K : PySem.W.Frag) (H : Hp) (v : V) (r : List Kd) : Prop := Dp K H v (dRow r)
section
variable {K : PySem.W.Frag} {H H' : Hp}
theorem OAt.tk {v : V} {k : Option Kd} (h : OAt K H v k) (s : TK H H') : OAt K H' v k := Dp.tk s _ _ (noL_dO k) h
theorem RAt.tk {v : V} {r : List Kd} (h : RAt K H v r) (s : TK H H') : RAt K H' v r := Dp.tk s _ _ (noL_dRow r) h
theorem RAt.nil {v : V} (h : RAt K H v []) : v = .non := Dp.non' h
theorem dec_ref (a : Addr) : decide (V.ref a = V.non) = false := decide_eq_false (by intro z; cases z)
theorem dec_non : decide (V.non = V.non) = true := rfl
theorem KsAt.one {vs : List V} {a : Kd} (h : KsAt K H vs [a]) : ∃ x, vs = [x] ∧ KAt K H x a := DpAll.one h
theorem KsAt.two {vs : List V} {a b : Kd} (h : KsAt K H vs [a, b]) : ∃ x y, vs = [x, y] ∧ KAt K H x a ∧ KAt K H y b := by
  have h' : DpAll K H vs [dK a, dK b] := h
  cases h' with
  | cons h1 h2 =>
    obtain ⟨y, rfl, h3⟩ := DpAll.one h2
    exact ⟨_, _, rfl, h1, h3⟩
theorem KsAt.three {vs : List V} {a b c : Kd} (h : KsAt K H vs [a, b, c]) : ∃ x y z, vs = [x, y, z] ∧ KAt K H x a ∧ KAt K H y b ∧ KAt K H z c := by
  have h' : DpAll K H vs [dK a, dK b, dK c] := h
  cases h' with
  | cons h1 h2 =>
    obtain ⟨y, z, rfl, h3, h4⟩ := KsAt.two (a := b) (b := c) h2
    exact ⟨_, _, _, rfl, h1, h3, h4⟩
end
theorem okK_deep {k : Kd} (h : okK k = true) : k.deep ≤ 12 := (of_decide_eq_true h : k.size ≤ 60 ∧ k.deep ≤ 12).2
theorem okK_size {k : Kd} (h : okK k = true) : k.size ≤ 60 := (of_decide_eq_true h : k.size ≤ 60 ∧ k.deep ≤ 12).1
theorem shp_ok {k : Kd} (h : okK k = true) : SeqAt.shaped (dK k) = true := shp_dK (by have := okK_deep h; omega)
section
variable {P : Program} {w : World} {K : PySem.W.Frag} {mg : Str → Option Value} {base : Heap} {fr nk nkI : Addr} {fd : FuncData}
theorem ifNT {i j : Wd} {A B : Prop} (h : i ≠ j) (a : A) : if (!decide (V.str i.s = V.str j.s)) = true then A else B := ifT (by rw [decW, decide_eq_false h]; rfl) a
theorem ifNF {i j : Wd} {A B : Prop} (h : i = j) (b : B) : if (!decide (V.str i.s = V.str j.s)) = true then A else B := ifF (by rw [decW, decide_eq_true h]; rfl) b
/-- a kind: a tuple whose first place tells its word -/
def Kd.wd : Kd → Wd
  | .ltr _ => .letter
  | .cnt => .count
  | .br w _ _ => w.w
theorem KAt.head {H : Hp} {v : V} {k : Kd} (h : KAt K H v k) : ∃ a r, v = .ref a ∧ SqT K H a (.str k.wd.s :: r) := by
  cases k with
  | ltr b =>
    obtain ⟨a, e, hs⟩ := h.ltr
    exact ⟨a, _, e, hs⟩
  | cnt =>
    obtain ⟨a, e, hs⟩ := h.cnt
    exact ⟨a, _, e, hs⟩
  | br w p q =>
    obtain ⟨a, x, y, e, hs, _⟩ := h.br
    exact ⟨a, _, e, hs⟩
abbrev N_kind_in : List Str := ["row", "out", "left", "turn"]
theorem sc_kind_in : FnScope N_kind_in ["row", "out"] (defScope (top 57)) := ⟨rfl, rfl, rfl, by decide +kernel, rfl, by decide +kernel, by decide +kernel⟩
def gKindIn (K : PySem.W.Frag) : G2 := fun rv ov H Q _ => ∃ (r : List Kd) (i : Nat), RAt K H rv r ∧ ov = .int i ∧ i ≤ 1000 ∧ ∀ v, OAt K H v r[i]? → Q v H
theorem ok_kind_in (T : Txt K w mg fr fd nk nkI) (D : Df K mg "kind_in" (top 57)) : Cal P w K mg base CX0 "kind_in" 1 ["row", "out"] (sp2 (gKindIn K)) := by
  refine D.cal sc_kind_in (bs2 fun _ _ _ _ _ _ _ _ => rfl) sp2_len fun f cdv A outer s H vs Q E hr h => ?_
  obtain ⟨rv, _, rfl, r, i, hr2, rfl, hi, q⟩ := h
  refine ⟨_, (pss_cons (ps_set (i := 2) sc_kind_in.nd rfl (Or.inl rfl) (pv 0))
    (pss_cons (ps_for PassesOwn.never rfl (pi_range1 (by rfl) T.range (pa_cons (pv 1) pa_nil)) (pg_name (i := 3) sc_kind_in.nd rfl (Or.inl rfl)) 
      (pss_cons (ps_if (pt_cmpR op_isN (pv 2) pe_non (by rfl)) 
        (pss_one (ps_ret pe_non)) pss_nil)
      (pss_one (ps_set (i := 2) sc_kind_in.nd rfl (Or.inl rfl) (pe_ix ix_tup (pv 2) pe_int (fun _ _ => rfl))))))
    (pss_one (ps_ret (pe_ifExp (pt_cmpR op_isN (pv 2) pe_non (by rfl)) (pv 2) (pe_ix ix_tup (pv 2) pe_int (fun _ _ => rfl))))))), ?_⟩
  refine ⟨_, rfl, _, rfl, _, rfl, by omega, by omega, ?_⟩
  have fin : ∀ (v : V), RAt K H v (r.drop i) → (v = .non ∧ OAt K H .non r[i]?) ∨ ∃ a x y, v = .ref a ∧ SqT K H a [x, y] ∧ OAt K H x r[i]? := fun v hv => by
    cases hd : r.drop i with
    | nil =>
      rw [hd] at hv
      refine .inl ⟨RAt.nil hv, ?_⟩
      have : r.length ≤ i := List.drop_eq_nil_iff.mp hd
      rw [List.getElem?_eq_none this]
      exact .non
    | cons k t =>
      rw [hd] at hv
      obtain ⟨a, x, y, e1, e2, e3, e4⟩ := dRow_cons hv
      have z : r[i]? = some k := by
        have := congrArg (fun l => l[0]?) hd
        simpa using this
      rw [z]
      exact .inr ⟨a, x, y, e1, e2, e3⟩
  refine ⟨fun t m σ H' => m = i - t ∧ t ≤ i ∧ H' = H ∧ ∃ (lf : V) (o : Option V), σ = [some rv, some (.int i), some lf, o] ∧ RAt K H lf (r.drop t), ⟨i, by omega, by omega, rfl, rv, none, rfl, hr2⟩, ?_⟩
  rintro t m σ H' ⟨rfl, ht, rfl, lf, o, rfl, hlf⟩
  rcases Nat.lt_or_ge t i with c | c
  · refine .inr ⟨show t < (i : Int).toNat by omega, fun σ' H2 => H2 = H' ∧ ∃ (lf : V) (o : Option V), σ' = [some rv, some (.int i), some lf, o] ∧ RAt K H' lf (r.drop (t + 1)), fun σ' H2 ⟨z1, z2⟩ => ⟨i - (t + 1), by omega, rfl, c, z1, z1 ▸ z2⟩, ?_⟩
    rintro x H2 ⟨rfl, rfl⟩
    cases hd : r.drop t with
    | nil =>
      rw [hd] at hlf
      obtain rfl := RAt.nil hlf
      refine ⟨_, rfl, rfl, true, rfl, iteT (q _ ?_)⟩
      have : r.length ≤ t := List.drop_eq_nil_iff.mp hd
      rw [List.getElem?_eq_none (by omega)]
      exact .non
    | cons k u =>
      rw [hd] at hlf
      obtain ⟨a, x, y, rfl, e2, e3, e4⟩ := dRow_cons hlf
      have z : r.drop (t + 1) = u := by
        rw [← List.drop_drop, hd]
        rfl
      refine ⟨_, rfl, rfl, false, rfl, iteF ⟨_, rfl, _, _, _, _, rfl, rfl, e2, at1, rfl, y, _, rfl, ?_⟩⟩
      rw [z]
      exact e4
  · have e : t = i := by omega
    subst e
    refine .inl ⟨show (t : Int).toNat ≤ t by omega, ?_⟩
    rcases fin lf hlf with ⟨rfl, h1⟩ | ⟨a, x, y, rfl, h1, h2⟩
    · exact ⟨_, rfl, rfl, true, rfl, iteT ⟨_, rfl, q _ h1⟩⟩
    · exact ⟨_, rfl, rfl, false, rfl, iteF ⟨_, rfl, _, _, _, _, rfl, rfl, h1, at0, q _ h2⟩⟩
abbrev N_kind_of_leaf : List Str := ["node", "row"]
theorem sc_kind_of_leaf : FnScope N_kind_of_leaf ["node", "row"] (defScope (top 58)) := ⟨rfl, rfl, rfl, by decide +kernel, rfl, by decide +kernel, by decide +kernel⟩
def kindLeaf (n : Nd) (r : List Kd) : Option Kd :=
  match n with
  | .nm i => r[i]?
  | _ => some .cnt
def gKindLeaf (K : PySem.W.Frag) : G2 := fun nv rv H Q _ => ∃ (n : Nd) (r : List Kd), NAt K H nv n ∧ RAt K H rv r ∧ okN n = true ∧ ∀ v, OAt K H v (kindLeaf n r) → Q v H
theorem num_at (T : Txt K w mg fr fd nk nkI) : ∃ a, mg "NUMBER" = some (.ref a) ∧ ∀ H, KAt K H (.ref a) .cnt := by
  obtain ⟨a, e, h⟩ := T.NUMBER
  exact ⟨a, e, fun H => KAt.mk_cnt (h H)⟩
theorem ok_kind_of_leaf (T : Txt K w mg fr fd nk nkI) (D : Df K mg "kind_of_leaf" (top 58)) (c_kind_in : Cal P w K mg base CX0 "kind_in" 1 ["row", "out"] (sp2 (gKindIn K))) : Cal P w K mg base CX0 "kind_of_leaf" 2 ["node", "row"] (sp2 (gKindLeaf K)) := by
  refine D.cal sc_kind_of_leaf (bs2 fun _ _ _ _ _ _ _ _ => rfl) sp2_len fun f cdv A outer s H vs Q E hr h => ?_
  obtain ⟨nv, rv, rfl, n, r, hn, hr2, ho, q⟩ := h
  refine ⟨_, (pss_one (ps_ret (pe_ifExp (pt_cmpR op_eq (pe_ix ix_tup (pv 0) pe_int (fun _ _ => rfl)) (pe_gS rfl T.NAME) (by rfl)) (pe_cal c_kind_in (hr.mono (by omega)) rfl pass0 (pa_cons (pv 1) (pa_cons (pe_ix ix_tup (pv 0) pe_int (fun _ _ => rfl)) pa_nil))) (pe_gT rfl T.NUMBER)))), ?_⟩
  obtain ⟨a, t, rfl, hs, ht⟩ := NAt.tup hn
  by_cases c : n.w = .name
  · obtain ⟨i, rfl⟩ : ∃ i, n = .nm i := by cases n <;> first | exact ⟨_, rfl⟩ | cases c
    obtain ⟨y, rfl, hy⟩ := DpAll.one ht
    obtain rfl := Dp.int' hy
    have hi : i ≤ 299 := of_decide_eq_true ho
    exact ⟨_, rfl, _, _, _, _, rfl, rfl, hs, at0, rfl, _, rfl, ifST rfl ⟨_, rfl, _, rfl, _, _, _, _, rfl, rfl, hs, at1, _, _, rfl, r, i, hr2, rfl, by omega, q⟩⟩
  · refine ⟨_, rfl, _, _, _, _, rfl, rfl, hs, at0, rfl, _, rfl, ifSF c fun a ha => q _ ?_⟩
    have : kindLeaf n r = some .cnt := by cases n <;> first | rfl | exact absurd rfl c
    rw [this]
    exact KAt.mk_cnt (ha _)
abbrev N_kind_of_part : List Str := ["word", "one"]
theorem sc_kind_of_part : FnScope N_kind_of_part ["word", "one"] (defScope (top 59)) := ⟨rfl, rfl, rfl, by decide +kernel, rfl, by decide +kernel, by decide +kernel⟩
def gKindPart (K : PySem.W.Frag) : G2 := fun wv ov H Q _ => ∃ (z : Wd) (k : Kd), wv = .str z.s ∧ KAt K H ov k ∧ ∀ v, OAt K H v (kPart (decide (z = .first)) k) → Q v H
theorem ok_kind_of_part (T : Txt K w mg fr fd nk nkI) (D : Df K mg "kind_of_part" (top 59)) : Cal P w K mg base CX0 "kind_of_part" 1 ["word", "one"] (sp2 (gKindPart K)) := by
  refine D.cal sc_kind_of_part (bs2 fun _ _ _ _ _ _ _ _ => rfl) sp2_len fun f cdv A outer s H vs Q E hr h => ?_
  obtain ⟨_, ov, rfl, z, k, rfl, hk, q⟩ := h
  refine ⟨_, (pss_cons (ps_if (pt_cmpR op_ne (pe_ix ix_tup (pv 1) pe_int (fun _ _ => rfl)) (pe_gS rfl T.PAIR) (by rfl)) 
      (pss_one (ps_ret pe_non)) pss_nil)
    (pss_one (ps_ret (pe_ifExp (pt_cmpR op_eq (pv 0) pe_str (by rfl)) (pe_ix ix_tup (pv 1) pe_int (fun _ _ => rfl)) (pe_ix ix_tup (pv 1) pe_int (fun _ _ => rfl)))))), ?_⟩
  by_cases c : k.wd = .pair
  · obtain ⟨p, r, rfl⟩ : ∃ p r, k = .br .pair p r := by
      cases k with
      | ltr _ => cases c
      | cnt => cases c
      | br w2 p r => cases w2 <;> first | exact ⟨_, _, rfl⟩ | cases c
    obtain ⟨a, x, y, rfl, hs, hx, hy⟩ := hk.br
    refine ⟨_, rfl, _, _, _, _, rfl, rfl, hs, at0, rfl, _, rfl, ifNF (i := .pair) (j := .pair) rfl ?_⟩
    by_cases d : z = .first
    · refine ⟨_, rfl, rfl, _, rfl, ifST (j := .first) d ⟨_, rfl, _, _, _, _, rfl, rfl, hs, at1, q _ ?_⟩⟩
      rw [decide_eq_true d]
      exact hx
    · refine ⟨_, rfl, rfl, _, rfl, ifSF (j := .first) d ⟨_, rfl, _, _, _, _, rfl, rfl, hs, at2, q _ ?_⟩⟩
      rw [decide_eq_false d]
      exact hy
  · obtain ⟨a, r, rfl, hs⟩ := hk.head
    refine ⟨_, rfl, _, _, _, _, rfl, rfl, hs, at0, rfl, _, rfl, ifNT c (q _ ?_)⟩
    have : kPart (decide (z = .first)) k = none := by
      cases k with
      | ltr _ => rfl
      | cnt => rfl
      | br w2 p r => cases w2 <;> first | rfl | exact absurd rfl c
    rw [this]
    exact .non
abbrev N_kind_of_call : List Str := ["one", "other"]
theorem sc_kind_of_call : FnScope N_kind_of_call ["one", "other"] (defScope (top 60)) := ⟨rfl, rfl, rfl, by decide +kernel, rfl, by decide +kernel, by decide +kernel⟩
def gKindCall (K : PySem.W.Frag) : G2 := fun av bv H Q _ => ∃ (a b : Kd), KAt K H av a ∧ KAt K H bv b ∧ okK a = true ∧ okK b = true ∧ ∀ v, OAt K H v (kCall a b) → Q v H
theorem ok_kind_of_call (T : Txt K w mg fr fd nk nkI) (D : Df K mg "kind_of_call" (top 60)) : Cal P w K mg base CX0 "kind_of_call" 1 ["one", "other"] (sp2 (gKindCall K)) := by
  refine D.cal sc_kind_of_call (bs2 fun _ _ _ _ _ _ _ _ => rfl) sp2_len fun f cdv A outer s H vs Q E hr h => ?_
  obtain ⟨av, bv, rfl, a, b, ha, hb, oa, ob, q⟩ := h
  refine ⟨_, (pss_one (ps_ret (pe_ifExp (PW.pt (pw_and (pt_cmpR op_eq (pe_ix ix_tup (pv 0) pe_int (fun _ _ => rfl)) (pe_gS rfl T.FUN) (by rfl)) (pw_and1 (pt_cmpR (op_eqD hr.units) (pe_ix ix_tup (pv 0) pe_int (fun _ _ => rfl)) (pv 1) (by rfl))))) (pe_ix ix_tup (pv 0) pe_int (fun _ _ => rfl)) pe_non))), ?_⟩
  by_cases c : a.wd = .fn
  · obtain ⟨p, r, rfl⟩ : ∃ p r, a = .br .fn p r := by
      cases a with
      | ltr _ => cases c
      | cnt => cases c
      | br w2 p r => cases w2 <;> first | exact ⟨_, _, rfl⟩ | cases c
    obtain ⟨t, x, y, rfl, hs, hx, hy⟩ := ha.br
    have od := okK_deep oa
    simp only [Kd.deep] at od
    refine ⟨_, rfl, _, _, _, _, rfl, rfl, hs, at0, rfl, _, rfl, ifST (i := .fn) (j := .fn) rfl ?_⟩
    refine ⟨_, rfl, _, _, _, _, rfl, rfl, hs, at1, _, rfl, _, _, hx, hb, shp_dK (by omega), shp_ok ob, _, rfl, ?_⟩
    rw [eqv_dK]
    by_cases d : p = b
    · refine ifT (decide_eq_true d) ⟨_, rfl, _, _, _, _, rfl, rfl, hs, at2, q _ ?_⟩
      show Dp K H y (dO (kCall (.br .fn p r) b))
      rw [kCall, if_pos d]
      exact hy
    · refine ifF (decide_eq_false d) (q _ ?_)
      show Dp K H .non (dO (kCall (.br .fn p r) b))
      rw [kCall, if_neg d]
      exact .non
  · obtain ⟨t, r, rfl, hs⟩ := ha.head
    refine ⟨_, rfl, _, _, _, _, rfl, rfl, hs, at0, rfl, _, rfl, ifSF c (iteF (q _ ?_))⟩
    have : kCall a b = none := by
      cases a with
      | ltr _ => rfl
      | cnt => rfl
      | br w2 p r => cases w2 <;> first | rfl | exact absurd rfl c
    rw [this]
    exact .non
abbrev N_kind_of_turns : List Str := ["kind", "some"]
theorem sc_kind_of_turns : FnScope N_kind_of_turns ["kind", "some"] (defScope (top 61)) := ⟨rfl, rfl, rfl, by decide +kernel, rfl, by decide +kernel, by decide +kernel⟩
def gKindTurns (K : PySem.W.Frag) : G2 := fun kv sv H Q _ => ∃ (k : Kd) (a : Addr) (vs : List V) (ks : List Kd), KAt K H kv k ∧ sv = .ref a ∧ SqL K H a vs ∧ KsAt K H vs ks ∧ okK k = true ∧ (∀ q ∈ ks, okK q = true) ∧ ∀ v H', Same H H' → OAt K H' v (kindFew (.turns k) ks) → Q v H'
theorem ok_kind_of_turns (T : Txt K w mg fr fd nk nkI) (D : Df K mg "kind_of_turns" (top 61)) : Cal P w K mg base CX0 "kind_of_turns" 1 ["kind", "some"] (sp2 (gKindTurns K)) := by
  refine D.cal sc_kind_of_turns (bs2 fun _ _ _ _ _ _ _ _ => rfl) sp2_len fun f cdv A outer s H vs Q E hr h => ?_
  obtain ⟨kv, _, rfl, k, a, vs, ks, hk, rfl, hs, hks, ok, oks, q⟩ := h
  refine ⟨_, (pss_one (ps_ret (pe_ifExp (pt_cmpR (op_eqD hr.units) (pv 1) (pe_lst (pa_cons (pe_gT rfl T.NUMBER) (pa_cons (pv 0) (pa_cons (pv 0) pa_nil)))) (by rfl)) (pv 0) pe_non))), ?_⟩
  refine ⟨_, rfl, fun n hn => ⟨_, rfl, _, rfl, fits3, fun L hL => ?_⟩⟩
  have e1 := Same.new hL (.lst [V.ref n, kv, kv])
  have tk := TK.of e1
  refine ⟨.list (ks.map dK), .list ([Kd.cnt, k, k].map dK), .lst (SqL.same e1 hs) (hks.tk tk), .lst (SqL.of upd_same) (.cons (KAt.mk_cnt (hn _)) (.cons (hk.tk tk) (.cons (hk.tk tk) .nil))), shp_ks fun q hq => ?_, shp_ks fun q hq => ?_, _, rfl, ?_⟩
  · have := okK_deep (oks q hq)
    omega
  · have h1 := okK_deep ok
    rcases List.mem_cons.mp hq with rfl | hq
    · simp [Kd.deep]
    · have : q = k := by simpa using hq
      subst this
      omega
  have ev : PyData.eqv (.list (ks.map dK)) (.list ([Kd.cnt, k, k].map dK)) = decide (ks = [.cnt, k, k]) := by
    rw [PyData.eqv]
    exact eqvAll_dK _ _
  rw [ev]
  by_cases c : ks = [.cnt, k, k]
  · refine ifT (decide_eq_true c) ⟨_, rfl, q _ _ e1 ?_⟩
    show Dp K _ kv (dO (kindFew (.turns k) ks))
    rw [kindFew, if_pos c]
    exact hk.tk tk
  · refine ifF (decide_eq_false c) (q _ _ e1 ?_)
    show Dp K _ .non (dO (kindFew (.turns k) ks))
    rw [kindFew, if_neg c]
    exact .non
abbrev N_kind_of_few : List Str := ["node", "some", "word"]
theorem sc_kind_of_few : FnScope N_kind_of_few ["node", "some"] (defScope (top 62)) := ⟨rfl, rfl, rfl, by decide +kernel, rfl, by decide +kernel, by decide +kernel⟩
/-- what a node's kind is made of -/
structure By (K : PySem.W.Frag) (H : Hp) (nv sv : V) (n : Nd) (ks : List Kd) : Prop where
  nd : NAt K H nv n
  at_ : ∃ a vs, sv = .ref a ∧ SqL K H a vs ∧ KsAt K H vs ks
  len : ks.length = (binds n.w).length
  inn : n.inner = true
  okn : okN n = true
  oks : ∀ k ∈ ks, okK k = true
def gKindFew (K : PySem.W.Frag) : G2 := fun nv sv H Q _ => ∃ n ks, By K H nv sv n ks ∧ (n.w ≠ .fn ∧ n.w ≠ .both ∧ n.w ≠ .left ∧ n.w ≠ .right) ∧ ∀ v H', Same H H' → OAt K H' v (kindFew n ks) → Q v H'
theorem len1 {ks : List Kd} (h : ks.length = 1) : ∃ a, ks = [a] := match ks, h with | [a], _ => ⟨a, rfl⟩
theorem len2 {ks : List Kd} (h : ks.length = 2) : ∃ a b, ks = [a, b] := match ks, h with | [a, b], _ => ⟨a, b, rfl⟩
theorem len3 {ks : List Kd} (h : ks.length = 3) : ∃ a b c, ks = [a, b, c] := match ks, h with | [a, b, c], _ => ⟨a, b, c, rfl⟩
theorem in2 (z : Wd) : inV (V.str z.s) [V.str Wd.first.s, V.str Wd.second.s] = decide (z = .first ∨ z = .second) := by cases z <;> decide +kernel
theorem ok_kind_of_few (T : Txt K w mg fr fd nk nkI) (D : Df K mg "kind_of_few" (top 62)) (c_kind_of_call : Cal P w K mg base CX0 "kind_of_call" 1 ["one", "other"] (sp2 (gKindCall K))) (c_kind_of_part : Cal P w K mg base CX0 "kind_of_part" 1 ["word", "one"] (sp2 (gKindPart K)))
    (c_kind_of_turns : Cal P w K mg base CX0 "kind_of_turns" 1 ["kind", "some"] (sp2 (gKindTurns K))) : Cal P w K mg base CX0 "kind_of_few" 2 ["node", "some"] (sp2 (gKindFew K)) := by
  refine D.cal sc_kind_of_few (bs2 fun _ _ _ _ _ _ _ _ => rfl) sp2_len fun f cdv A outer s H vs Q E hr h => ?_
  obtain ⟨nv, sv, rfl, n, ks, B, hw, q⟩ := h
  refine ⟨_, (pss_cons (ps_set (i := 2) sc_kind_of_few.nd rfl (Or.inl rfl) (pe_ix ix_tup (pv 0) pe_int (fun _ _ => rfl)))
    (pss_cons (ps_if (pt_cmpR op_eq (pv 2) pe_str (by rfl)) 
      (pss_one (ps_ret (pe_cal c_kind_of_call (hr.mono (by omega)) rfl pass0 (pa_cons (pe_ix ix_list (pv 1) pe_int (fun _ _ => rfl)) (pa_cons (pe_ix ix_list (pv 1) pe_int (fun _ _ => rfl)) pa_nil))))) pss_nil)
    (pss_cons (ps_if (pt_cmpR op_in_seq (pv 2) (pe_tup (pa_cons pe_str (pa_cons pe_str pa_nil))) (by rfl)) 
      (pss_one (ps_ret (pe_cal c_kind_of_part (hr.mono (by omega)) rfl pass0 (pa_cons (pv 2) (pa_cons (pe_ix ix_list (pv 1) pe_int (fun _ _ => rfl)) pa_nil))))) pss_nil)
    (pss_cons (ps_if (pt_cmpR op_eq (pv 2) pe_str (by rfl)) 
      (pss_one (ps_ret (pe_ifExp (pt_cmpR (op_eqD hr.units) (pe_ix ix_list (pv 1) pe_int (fun _ _ => rfl)) (pe_ix ix_list (pv 1) pe_int (fun _ _ => rfl)) (by rfl)) (pe_ix ix_list (pv 1) pe_int (fun _ _ => rfl)) pe_non))) pss_nil)
    (pss_cons (ps_if (pt_cmpR op_eq (pv 2) pe_str (by rfl)) 
      (pss_one (ps_ret (pe_ifExp (pt_cmpR (op_eqD hr.units) (pe_ix ix_list (pv 1) pe_int (fun _ _ => rfl)) (pe_gT rfl T.NUMBER) (by rfl)) (pe_gT rfl T.NUMBER) pe_non))) pss_nil)
    (pss_one (ps_ret (pe_ifExp (pt_cmpR op_eq (pv 2) pe_str (by rfl)) (pe_cal c_kind_of_turns (hr.mono (by omega)) rfl pass0 (pa_cons (pe_ix ix_tup (pv 0) pe_int (fun _ _ => rfl)) (pa_cons (pv 1) pa_nil))) (pe_ix ix_list (pv 1) pe_int (fun _ _ => rfl)))))))))), ?_⟩
  obtain ⟨hn, ⟨a, vs, rfl, hs, hks⟩, hlen, hinn, hokn, hoks⟩ := B
  obtain ⟨t, r, rfl, ht, hr2⟩ := NAt.tup hn
  refine ⟨_, rfl, _, _, _, _, rfl, rfl, ht, at0, ?_⟩
  refine ⟨_, rfl, rfl, _, rfl, ?_⟩
  by_cases c1 : n.w = .call
  · refine ifST (j := .call) c1 ?_
    obtain rfl : n = .call := by cases n <;> first | rfl | cases c1
    obtain ⟨x, y, rfl⟩ := len2 hlen
    obtain ⟨vx, vy, rfl, hx, hy⟩ := hks.two
    exact ⟨_, rfl, _, _, _, _, rfl, rfl, hs, at0, _, rfl, _, _, _, _, rfl, rfl, hs, at1, _, _, rfl, x, y, hx, hy, hoks _ (by simp), hoks _ (by simp), fun v hv => q v _ (Same.refl _) hv⟩
  refine ifSF (j := .call) c1 ?_
  refine ⟨_, rfl, fits2, fun p hp => ⟨p, _, rfl, .inr (SqT.of upd_same), rfl, rfl, _, rfl, ?_⟩⟩
  have e1 := Same.new hp (.tup [V.str Wd.first.s, V.str Wd.second.s])
  have tk := TK.of e1
  have hs1 := SqL.same e1 hs
  have ht1 := SqT.same e1 ht
  by_cases c2 : n.w = .first ∨ n.w = .second
  · refine ifT ((in2 n.w).trans (decide_eq_true c2)) ?_
    have z : kindFew n ks = kPart (decide (n.w = .first)) (ks.headD .cnt) ∧ (binds n.w).length = 1 := by
      rcases c2 with c | c
      · obtain rfl : n = .first := by cases n <;> first | rfl | cases c
        obtain ⟨x, rfl⟩ := len1 hlen
        exact ⟨rfl, rfl⟩
      · obtain rfl : n = .second := by cases n <;> first | rfl | cases c
        obtain ⟨x, rfl⟩ := len1 hlen
        exact ⟨rfl, rfl⟩
    rw [z.2] at hlen
    obtain ⟨x, rfl⟩ := len1 hlen
    obtain ⟨vx, rfl, hx⟩ := hks.one
    exact ⟨_, rfl, _, rfl, _, _, _, _, rfl, rfl, hs1, at0, _, _, rfl, n.w, x, rfl, hx.tk tk, fun v hv => q v _ e1 (z.1 ▸ hv)⟩
  refine ifF ((in2 n.w).trans (decide_eq_false c2)) ?_
  refine ⟨_, rfl, rfl, _, rfl, ?_⟩
  by_cases c3 : n.w = .which
  · refine ifST (j := .which) c3 ?_
    obtain rfl : n = .which := by cases n <;> first | rfl | cases c3
    obtain ⟨x, y, z, rfl⟩ := len3 hlen
    obtain ⟨vx, vy, vz, rfl, hx, hy, hz⟩ := hks.three
    refine ⟨_, rfl, _, _, _, _, rfl, rfl, hs1, at1, _, rfl, _, _, _, _, rfl, rfl, hs1, at2, _, _, hy.tk tk, hz.tk tk, shp_ok (hoks _ (by simp)), shp_ok (hoks _ (by simp)), _, rfl, ?_⟩
    rw [eqv_dK]
    by_cases d : y = z
    · refine ifT (decide_eq_true d) ⟨_, rfl, _, _, _, _, rfl, rfl, hs1, at1, q _ _ e1 ?_⟩
      show Dp K _ vy (dO (kindFew .which [x, y, z]))
      rw [kindFew, if_pos d]
      exact hy.tk tk
    · refine ifF (decide_eq_false d) (q _ _ e1 ?_)
      show Dp K _ .non (dO (kindFew .which [x, y, z]))
      rw [kindFew, if_neg d]
      exact .non
  refine ifSF (j := .which) c3 ⟨_, rfl, rfl, _, rfl, ?_⟩
  by_cases c4 : n.w = .next
  · refine ifST (j := .next) c4 ?_
    obtain rfl : n = .next := by cases n <;> first | rfl | cases c4
    obtain ⟨x, rfl⟩ := len1 hlen
    obtain ⟨vx, rfl, hx⟩ := hks.one
    refine ⟨_, rfl, _, _, _, _, rfl, rfl, hs1, at0, fun m hm => ⟨_, _, hx.tk tk, KAt.mk_cnt (hm _), shp_ok (hoks _ (by simp)), shp_dK (by simp [Kd.deep]), _, rfl, ?_⟩⟩
    rw [eqv_dK]
    by_cases d : x = .cnt
    · refine ifT (decide_eq_true d) fun m2 hm2 => q _ _ e1 ?_
      show Dp K _ _ (dO (kindFew .next [x]))
      rw [kindFew, if_pos d]
      exact KAt.mk_cnt (hm2 _)
    · refine ifF (decide_eq_false d) (q _ _ e1 ?_)
      show Dp K _ .non (dO (kindFew .next [x]))
      rw [kindFew, if_neg d]
      exact .non
  refine ifSF (j := .next) c4 ⟨_, rfl, rfl, _, rfl, ?_⟩
  by_cases c5 : n.w = .turns
  · refine ifST (j := .turns) c5 ?_
    obtain ⟨k, rfl⟩ : ∃ k, n = .turns k := by cases n <;> first | exact ⟨_, rfl⟩ | cases c5
    obtain ⟨vk, rfl, hk⟩ := DpAll.one hr2
    exact ⟨_, rfl, _, _, _, _, rfl, rfl, ht1, at1, _, rfl, _, _, rfl, k, a, vs, ks, Dp.tk tk _ _ (noL_dK k) hk, rfl, hs1, hks.tk tk, hokn, hoks, fun v H' e2 hv => q v _ (e1.trans e2) hv⟩
  refine ifSF (j := .turns) c5 ?_
  obtain rfl : n = .lt := by
    cases n <;> first | rfl | exact absurd rfl hw.1 | exact absurd rfl hw.2.1 | exact absurd rfl hw.2.2.1 | exact absurd rfl hw.2.2.2 | exact absurd rfl c1 | exact absurd (.inl rfl) c2 | exact absurd (.inr rfl) c2 | exact absurd rfl c3 | exact absurd rfl c4 | exact absurd rfl c5 | cases hinn
  obtain ⟨x, y, rfl⟩ := len2 hlen
  obtain ⟨vx, vy, rfl, hx, hy⟩ := hks.two
  exact ⟨_, rfl, _, _, _, _, rfl, rfl, hs1, at1, q _ _ e1 (hy.tk tk)⟩
end
end K17
/-! KE2: x[::-1], x a list or a tuple. -/
namespace K17
open PySem PySem.Spec PyProof.Rows L2
theorem rev_places (n : Nat) : Builtin.Slice.slicePlaces ((n : Int) - 1) (-1) (-1) = n := by
  unfold Builtin.Slice.slicePlaces
  rw [if_neg (by decide : ¬ ((-1 : Int) > 0))]
  by_cases h : (n : Int) - 1 > -1
  · rw [if_pos h, show (-(-1 : Int)) = 1 from rfl, Int.ediv_one]
    omega
  · rw [if_neg h]
    omega
theorem rev_pick (xs : Array Value) : ((List.range xs.size).filterMap fun (k : Nat) => xs[((xs.size : Int) - 1 + (k : Int) * (-1)).toNat]?) = xs.toList.reverse := by
  have go : ∀ l : List Value, ((List.range l.length).filterMap fun (k : Nat) => l[((l.length : Int) - 1 + (k : Int) * (-1)).toNat]?) = l.reverse := by
    intro l
    have cg : ∀ (ks : List Nat) (f g : Nat → Option Value), (∀ k ∈ ks, f k = g k) → ks.filterMap f = ks.filterMap g := by
      intro ks f g hfg
      induction ks with
      | nil => rfl
      | cons k ks ih =>
        rw [List.filterMap_cons, List.filterMap_cons, hfg k (by simp), ih fun j hj => hfg j (by simp [hj])]
    have e : ((List.range l.length).filterMap fun (k : Nat) => l[((l.length : Int) - 1 + (k : Int) * (-1)).toNat]?) = ((List.range l.length).filterMap fun (k : Nat) => l.reverse[k]?) := by
      refine cg _ _ _ fun k hk => ?_
      have hk' := List.mem_range.mp hk
      rw [List.getElem?_reverse hk']
      have hz : ((l.length : Int) - 1 + (k : Int) * (-1)).toNat = l.length - 1 - k := by omega
      rw [hz]
    have all : ∀ m : List Value, ((List.range m.length).filterMap fun (k : Nat) => m[k]?) = m := by
      intro m
      induction m with
      | nil => rfl
      | cons a m ih =>
        rw [List.length_cons, List.range_succ_eq_map, List.filterMap_cons, List.filterMap_map]
        simp only [List.getElem?_cons_zero]
        congr 1
    rw [e]
    have := all l.reverse
    rwa [List.length_reverse] at this
  have q := go xs.toList
  rw [Array.length_toList] at q
  rw [← q]
  simp only [Array.getElem?_toList]
theorem rev_tuple {prog : Program} {w : World} {A : Around} {E : Value → Shared → Prop} {s : Shared} {t sl : Addr} {xs : Array Value} {u : Tok} {Q : Value → Shared → Prop} (ht : IsTup s.heap t xs) (hs : s.heap.IsSliceOf sl .none .none (.int (-1) u))
    (h : Q (.ref s.heap.objs.size) { s with heap := s.heap.push { cls := .type "tuple", data := .seq xs.toList.reverse.toArray } }) (hsz : xs.size ≤ sizeLine) : wpAny (model prog w) A (getItem (.ref t) (.ref sl)) Q E s := by
  have fit : sizeOk (.seq xs.toList.reverse.toArray) := by
    show xs.toList.reverse.toArray.size ≤ sizeLine
    simpa using hsz
  obtain ⟨os, hos, hcs, hds⟩ := id hs
  have ty : s.TypeIs (.ref sl) "slice" := ⟨os, hos, hcs⟩
  unfold getItem
  try with_reducible refine wpAny_holding ?_
  first | refine wpAny_bind (wpAny_pure ?_) | skip
  refine wpAny_bind (wpAny_sequenceKey ht.typeIs (by decide) ?_)
  refine wpAny_bind (wpAny_callSpecial?_slot (name := Str.ofString "__getitem__") ht.typeIs slot_tuple_getitem (wpAny_call_entry slot_tuple_getitem ht.typeIs PyProof.Rows.entry_tuple_getitem ?_ (PyProof.Rows.args_tuple_getitem _ _)))
  show wpAny _ _ (Builtin.Tuple.tupleItemsOf (.ref t) >>= _) _ _ s
  refine wpAny_bind (tupleItemsOf_ ht ?_)
  refine wpAny_bind (wpAny_typeOf ty ?_)
  rw [if_pos (by decide)]
  have app : ∀ (B : Around) (R : Int × Int × Nat → Shared → Prop), R ((xs.size : Int) - 1, -1, xs.size) s → wpAny (model prog w) B (Builtin.Slice.sliceApplied (.ref sl) (pure (xs.size : Int))) R E s := fun B R hR => by
    unfold Builtin.Slice.sliceApplied Builtin.Slice.sliceFields
    refine wpAny_bind (wpAny_bind (wpAny_field hos hds (x := .none) rfl (wpAny_bind (wpAny_field hos hds (x := .none) rfl (wpAny_bind (wpAny_field hos hds (x := .int (-1) u) rfl (wpAny_pure ?_)))))))
    refine wpAny_bind (slicePart_int ?_)
    show wpAny _ _ (if ((-1 : Int) == 0) = true then _ else _) _ _ s
    rw [if_neg (by decide)]
    refine wpAny_bind (slicePart_none (wpAny_bind (slicePart_none (wpAny_bind (wpAny_pure ?_)))))
    show wpAny _ _ (pure ((xs.size : Int) - 1, (-1 : Int), Builtin.Slice.slicePlaces ((xs.size : Int) - 1) (-1) (-1))) _ _ s
    rw [rev_places]
    exact wpAny_pure hR
  refine wpAny_bind (app _ _ ?_)
  have no : ¬ ((((xs.size : Int) - 1 == 0 && (-1 : Int) == 1) && xs.size == xs.size) = true) := by simp
  show wpAny _ _ (if (((xs.size : Int) - 1 == 0 && (-1 : Int) == 1) && xs.size == xs.size) = true then _ else _) _ _ s
  rw [if_neg no, rev_pick]
  first
    | exact wpAny_bind (m := Builtin.Tuple.tupleExact _) (wpAny_newObj_type (wpAny_pure ⟨_, rfl, wpAny_pure h⟩) fit)
    | exact wpAny_bind (m := Builtin.Tuple.tupleExact _) (wpAny_newObj_type (wpAny_bind (wpAny_pure (wpAny_pure ⟨_, rfl, wpAny_pure h⟩))) fit)
    | exact wpAny_bind (wpAny_bind (m := Builtin.Tuple.tupleExact _) (wpAny_newObj_type (wpAny_pure (wpAny_pure ⟨_, rfl, wpAny_pure h⟩)) fit))
    | exact wpAny_bind (wpAny_bind (m := Builtin.Tuple.tupleExact _) (wpAny_newObj_type (wpAny_pure ⟨_, rfl, wpAny_pure h⟩) fit))
/-- x[::-1] of a list or a tuple -/
def tRevS (K : PySem.W.Frag) (te : TE) : TE := fun σ H Q => te σ H fun x H1 => ∃ a xs, x = .ref a ∧ ((SqL K H1 a xs ∧ ∀ p, H1 p = none → Q (.ref p) (upd H1 p (.lst xs.reverse))) ∨ (SqT K H1 a xs ∧ ∀ p, H1 p = none → Q (.ref p) (upd H1 p (.tup xs.reverse))))
theorem pe_revS {X : Cx} {e : Expr} {te : TE} {k : Nat} {p1 p2 p3 pos : Pos} (he : PE X e te) : PE X (.Subscript e (.Slice none none (some (.UnaryOp .USub (.Constant (.int 1) k p1) p2)) p3) pos) (tRevS X.K te) := by
  refine ⟨fun pins s σ H Q I h => ?_⟩
  refine Subscript_ (thn (he.run pins s σ H _ I h) fun v s1 ⟨x, H1, I1, r1, a, xs, ex, q⟩ => ?_)
  subst ex
  cases r1
  have hst : PO X (some (.UnaryOp .USub (.Constant (.int 1) k p1) p2)) (tPart (tUn (rU fun i => .int (-i)) (tC (.int 1)))) := po_some (pe_un un_neg pe_int)
  refine wpAny_Slice (thn (po_none.run pins s1 σ H1 (fun o H2 => o = none ∧ H2 = H1) I1 ⟨rfl, rfl⟩) fun vl s2 ⟨l, H2, I2, pl, el, e2⟩ => ?_)
  subst el e2
  refine thn (po_none.run pins s2 σ H2 (fun o H3 => o = none ∧ H3 = H2) I2 ⟨rfl, rfl⟩) fun vu s3 ⟨u, H3, I3, pu, eu, e3⟩ => ?_
  subst eu e3
  refine thn (hst.run pins s3 σ H3 (fun o H4 => o = some (-1) ∧ H4 = H3) I3 ⟨1, rfl, -1, rfl, rfl, rfl⟩) fun vs s4 ⟨o, H4, I4, ps, eo, e4⟩ => ?_
  subst eo e4
  have I5 : Inv X pins σ H4 { s4 with heap := s4.heap.push { cls := .type "slice", data := .fields #[vl, vu, vs] } } := I4.kept (t' := s4.toks) fun b ob q => Heap.get?_push_of_some _ q
  rcases q with ⟨hx, q⟩ | ⟨hx, q⟩
  · obtain ⟨its, r, ht, hz⟩ := I5.list hx
    show wpAny (model X.prog X.w) X.A (subscriptTail e (.Slice none none (some (.UnaryOp .USub (.Constant (.int 1) k p1) p2)) p3) (.ref a) (.ref s4.heap.objs.size)) (EP X pins σ Q) X.xe { s4 with heap := s4.heap.push { cls := .type "slice", data := .fields #[vl, vu, vs] } }
    have hlen := r.length
    refine tail_any (ops := [.ref a, .ref s4.heap.objs.size]) ht.isList.typeIs slot_list_getitem.lookup ?_ (by with_unfolding_all rfl)
    refine wpAny_getItem_list_slice ht.isList (Heap.IsSliceOf.new _ vl vu vs) pl pu ps (by decide) ?_ (by rw [List.size_toArray]; omega)
    rw [PySem.W.krv_pick]
    exact ⟨.ref _, _, I5.laid (t' := s4.toks) (o := .lst xs.reverse) (fun b ob q => Heap.get?_push_of_some _ q) (Nat.le_refl _) ⟨by rw [List.length_reverse]; exact hz, _, 0, r.reverse, Heap.get?_push_size _ rfl⟩, rfl, q _ (I5.hok.fresh (Nat.le_refl _))⟩
  · obtain ⟨its, r, ht, hz⟩ := I5.tuple hx
    have hlen := r.length
    cases pl
    cases pu
    obtain ⟨t, rfl⟩ : ∃ t, vs = .int (-1) t := by
      cases ps
      exact ⟨_, rfl⟩
    show wpAny (model X.prog X.w) X.A (subscriptTail e (.Slice none none (some (.UnaryOp .USub (.Constant (.int 1) k p1) p2)) p3) (.ref a) (.ref s4.heap.objs.size)) (EP X pins σ Q) X.xe { s4 with heap := s4.heap.push { cls := .type "slice", data := .fields #[.none, .none, .int (-1) t] } }
    refine tail_any (ops := [.ref a, .ref s4.heap.objs.size]) ht.typeIs slot_tuple_getitem.lookup ?_ (by with_unfolding_all rfl)
    refine rev_tuple ht (Heap.IsSliceOf.new _ .none .none (.int (-1) t)) ?_ (by rw [List.size_toArray]; omega)
    refine ⟨.ref _, _, I5.laid (t' := s4.toks) (o := .tup xs.reverse) (fun b ob q => Heap.get?_push_of_some _ q) (Nat.le_refl _) ?_, rfl, q _ (I5.hok.fresh (Nat.le_refl _))⟩
    exact ⟨by rw [List.length_reverse]; exact hz, _, r.reverse, IsTup.new _ _⟩
end K17
/-! K9: kind_by, bound_kind, names. -/
namespace K17
open PySem L2
section
variable {P : Program} {w : World} {K : PySem.W.Frag} {mg : Str → Option Value} {base : Heap} {fr nk nkI : Addr} {fd : FuncData}
abbrev N_kind_by : List Str := ["node", "some", "made", "word", "found"]
theorem sc_kind_by : FnScope N_kind_by ["node", "some"] (defScope (top 63)) := ⟨rfl, rfl, rfl, by decide +kernel, rfl, by decide +kernel, by decide +kernel⟩
def mades : List (Key × V) := [(.inr Wd.fn.s, .str Wd.fn.s), (.inr Wd.both.s, .str Wd.pair.s), (.inr Wd.left.s, .str Wd.sum.s), (.inr Wd.right.s, .str Wd.sum.s)]
def madeOf : Wd → Option Bw
  | .fn => some .fn
  | .both => some .pair
  | .left => some .sum
  | .right => some .sum
  | _ => none
theorem made_get (z : Wd) : valV mades (.inr z.s) = (madeOf z).map fun b => V.str b.w.s := by cases z <;> rfl
def gKindBy (K : PySem.W.Frag) : G2 := fun nv sv H Q _ => ∃ n ks, By K H nv sv n ks ∧ ∀ v H', Same H H' → OAt K H' v (kindBy n ks) → Q v H'
theorem ok_kind_by (T : Txt K w mg fr fd nk nkI) (D : Df K mg "kind_by" (top 63)) (c_kind_of_few : Cal P w K mg base CX0 "kind_of_few" 2 ["node", "some"] (sp2 (gKindFew K))) (c_is_kind : Cal P w K mg base CX0 "is_kind" 5 ["value"] (sp1 (gKind K))) :
    Cal P w K mg base CX0 "kind_by" 6 ["node", "some"] (sp2 (gKindBy K)) := by
  refine D.cal sc_kind_by (bs2 fun _ _ _ _ _ _ _ _ => rfl) sp2_len fun f cdv A outer s H vs Q E hr h => ?_
  obtain ⟨nv, sv, rfl, n, ks, B, q⟩ := h
  refine ⟨_, (pss_cons (ps_set (i := 2) sc_kind_by.nd rfl (Or.inl rfl) (pe_disp (pps_cons pe_str (pe_gS rfl T.FUN) (pps_cons pe_str (pe_gS rfl T.PAIR) (pps_cons pe_str (pe_gS rfl T.SUM) (pps_cons pe_str (pe_gS rfl T.SUM) pps_nil)))) (by rfl) (by rfl) (fun z => by cases z) (by decide)))
    (pss_cons (ps_set (i := 3) sc_kind_by.nd rfl (Or.inl rfl) (pe_ix ix_tup (pv 0) pe_int (fun _ _ => rfl)))
    (pss_cons (ps_if (pt_cmp (pc_dnotin (hu_of hr) (pv 3) (pv 2))) 
      (pss_one (ps_ret (pe_cal c_kind_of_few (hr.mono (by omega)) rfl pass0 (pa_cons (pv 0) (pa_cons (pv 1) pa_nil))))) pss_nil)
    (pss_cons (ps_if (PW.pt (pw_or (pt_cmpR op_eq (pv 3) pe_str (by rfl)) (pw_or1 (pt_cmpR op_eq (pv 3) pe_str (by rfl))))) 
      (pss_one (ps_set (i := 4) sc_kind_by.nd rfl (Or.inl rfl) (pe_tup (pa_cons (pe_dget (hu_of hr) (pv 2) (pv 3) (fun _ _ => rfl)) (pa_cons (pe_ix ix_tup (pv 0) pe_int (fun _ _ => rfl)) (pa_cons (pe_ix ix_list (pv 1) pe_int (fun _ _ => rfl)) pa_nil)))))) 
      (pss_one (ps_set (i := 4) sc_kind_by.nd rfl (Or.inl rfl) (pe_tup (pa_cons (pe_dget (hu_of hr) (pv 2) (pv 3) (fun _ _ => rfl)) (pa_cons (pe_ix ix_list (pv 1) pe_int (fun _ _ => rfl)) (pa_cons (pe_ifExp (pt_cmpR op_eq (pv 3) pe_str (by rfl)) (pe_ix ix_list (pv 1) pe_int (fun _ _ => rfl)) (pe_ix ix_tup (pv 0) pe_int (fun _ _ => rfl))) pa_nil)))))))
    (pss_one (ps_ret (pe_ifExp (pt_val (pe_cal c_is_kind (hr.mono (by omega)) rfl pass0 (pa_cons (pv 4) pa_nil))) (pv 4) pe_non))))))), ?_⟩
  refine fun p hp => ⟨upd_same, mades, rfl, by decide, ?_⟩
  have em : mergeK [] mades = mades := rfl
  rw [em, upd_upd]
  have e1 := Same.new hp (.dK mades)
  have tk := TK.of e1
  have dg : ∀ H', Same (upd H p (.dK mades)) H' → ∀ z : Wd, DGet H' p (.str z.s) ((madeOf z).map fun b => V.str b.w.s) := fun H' e z => .inl ⟨mades, .inr z.s, .inl (e _ _ upd_same), rfl, (made_get z).symm⟩
  obtain ⟨hn, ⟨a, vs, rfl, hs, hks⟩, hlen, hinn, hokn, hoks⟩ := B
  obtain ⟨t, r, rfl, ht, hr2⟩ := NAt.tup hn
  have ht1 := SqT.same e1 ht
  have hs1 := SqL.same e1 hs
  have hks1 := hks.tk tk
  refine ⟨_, rfl, _, _, _, _, rfl, rfl, ht1, at0, ?_⟩
  refine ⟨_, rfl, _, rfl, p, _, rfl, dg _ (Same.refl _) n.w, _, rfl, ?_⟩
  have okE : ∀ {kk : Kd}, kindBy n ks = chk kk → okK kk = true → dO (kindBy n ks) = dK kk := fun e o => by
    rw [e, chk, if_pos o]
    rfl
  have noE : ∀ {kk : Kd}, kindBy n ks = chk kk → okK kk = false → dO (kindBy n ks) = .none := fun e o => by
    rw [e, chk, o]
    rfl
  by_cases c1 : n.w = .fn
  · obtain ⟨k, rfl⟩ : ∃ k, n = .fn k := by cases n <;> first | exact ⟨_, rfl⟩ | cases c1
    obtain ⟨vk, rfl, hk⟩ := DpAll.one hr2
    obtain ⟨x, rfl⟩ := len1 hlen
    obtain ⟨vx, rfl, hx⟩ := hks1.one
    refine iteF ⟨_, rfl, rfl, _, rfl, ifST (i := .fn) (j := .fn) rfl (iteT ?_)⟩
    refine ⟨_, rfl, _, rfl, p, V.str Wd.fn.s, rfl, dg _ (Same.refl _) .fn, _, rfl, _, _, _, _, rfl, rfl, ht1, at1, _, rfl, _, _, _, _, rfl, rfl, hs1, at0, fits3, fun b hb => ?_⟩
    have e2 := Same.new hb (.tup [V.str Wd.fn.s, vk, vx])
    have tk2 := TK.of e2
    have kk : KAt K (upd (upd H p (.dK mades)) b (.tup [V.str Wd.fn.s, vk, vx])) (.ref b) (.br .fn k x) := KAt.mk_br (w := .fn) (SqT.of upd_same) (Dp.tk (TK.trans tk tk2) _ _ (noL_dK k) hk) (hx.tk tk2)
    refine ⟨_, rfl, _, rfl, _, kk, fun H3 e3 => ⟨_, rfl, ?_⟩⟩
    have e123 := (e1.trans e2).trans e3
    cases o : okK (Kd.br .fn k x) with
    | true => exact iteT ⟨_, rfl, q _ _ e123 (by
        show Dp K _ _ _
        rw [okE rfl o]
        exact kk.tk (TK.of e3))⟩
    | false => exact iteF (q _ _ e123 (by
        show Dp K _ _ _
        rw [noE rfl o]
        exact .non))
  by_cases c2 : n.w = .right
  · obtain ⟨k, rfl⟩ : ∃ k, n = .right k := by cases n <;> first | exact ⟨_, rfl⟩ | cases c2
    obtain ⟨vk, rfl, hk⟩ := DpAll.one hr2
    obtain ⟨x, rfl⟩ := len1 hlen
    obtain ⟨vx, rfl, hx⟩ := hks1.one
    refine iteF ⟨_, rfl, rfl, _, rfl, ifSF (j := .fn) c1 ⟨_, rfl, rfl, _, rfl, ifST (i := .right) (j := .right) rfl ?_⟩⟩
    refine ⟨_, rfl, _, rfl, p, V.str Wd.sum.s, rfl, dg _ (Same.refl _) .right, _, rfl, _, _, _, _, rfl, rfl, ht1, at1, _, rfl, _, _, _, _, rfl, rfl, hs1, at0, fits3, fun b hb => ?_⟩
    have e2 := Same.new hb (.tup [V.str Wd.sum.s, vk, vx])
    have tk2 := TK.of e2
    have kk : KAt K (upd (upd H p (.dK mades)) b (.tup [V.str Wd.sum.s, vk, vx])) (.ref b) (.br .sum k x) := KAt.mk_br (w := .sum) (SqT.of upd_same) (Dp.tk (TK.trans tk tk2) _ _ (noL_dK k) hk) (hx.tk tk2)
    refine ⟨_, rfl, _, rfl, _, kk, fun H3 e3 => ⟨_, rfl, ?_⟩⟩
    have e123 := (e1.trans e2).trans e3
    cases o : okK (Kd.br .sum k x) with
    | true => exact iteT ⟨_, rfl, q _ _ e123 (by
        show Dp K _ _ _
        rw [okE rfl o]
        exact kk.tk (TK.of e3))⟩
    | false => exact iteF (q _ _ e123 (by
        show Dp K _ _ _
        rw [noE rfl o]
        exact .non))
  by_cases c3 : n.w = .both
  · obtain rfl : n = .both := by cases n <;> first | rfl | cases c3
    obtain ⟨x, y, rfl⟩ := len2 hlen
    obtain ⟨vx, vy, rfl, hx, hy⟩ := hks1.two
    refine iteF ⟨_, rfl, rfl, _, rfl, ifSF (j := .fn) c1 ⟨_, rfl, rfl, _, rfl, ifSF (j := .right) c2 ?_⟩⟩
    refine ⟨_, rfl, _, rfl, p, V.str Wd.pair.s, rfl, dg _ (Same.refl _) .both, _, rfl, _, _, _, _, rfl, rfl, hs1, at0, _, rfl, rfl, _, rfl, ifST (i := .both) (j := .both) rfl ⟨_, rfl, _, _, _, _, rfl, rfl, hs1, at1, fits3, fun b hb => ?_⟩⟩
    have e2 := Same.new hb (.tup [V.str Wd.pair.s, vx, vy])
    have tk2 := TK.of e2
    have kk : KAt K (upd (upd H p (.dK mades)) b (.tup [V.str Wd.pair.s, vx, vy])) (.ref b) (.br .pair x y) := KAt.mk_br (w := .pair) (SqT.of upd_same) (hx.tk tk2) (hy.tk tk2)
    refine ⟨_, rfl, _, rfl, _, kk, fun H3 e3 => ⟨_, rfl, ?_⟩⟩
    have e123 := (e1.trans e2).trans e3
    cases o : okK (Kd.br .pair x y) with
    | true => exact iteT ⟨_, rfl, q _ _ e123 (by
        show Dp K _ _ _
        rw [okE rfl o]
        exact kk.tk (TK.of e3))⟩
    | false => exact iteF (q _ _ e123 (by
        show Dp K _ _ _
        rw [noE rfl o]
        exact .non))
  by_cases c4 : n.w = .left
  · obtain ⟨k, rfl⟩ : ∃ k, n = .left k := by cases n <;> first | exact ⟨_, rfl⟩ | cases c4
    obtain ⟨vk, rfl, hk⟩ := DpAll.one hr2
    obtain ⟨x, rfl⟩ := len1 hlen
    obtain ⟨vx, rfl, hx⟩ := hks1.one
    refine iteF ⟨_, rfl, rfl, _, rfl, ifSF (j := .fn) c1 ⟨_, rfl, rfl, _, rfl, ifSF (j := .right) c2 ?_⟩⟩
    refine ⟨_, rfl, _, rfl, p, V.str Wd.sum.s, rfl, dg _ (Same.refl _) .left, _, rfl, _, _, _, _, rfl, rfl, hs1, at0, _, rfl, rfl, _, rfl, ifSF (j := .both) c3 ⟨_, rfl, _, _, _, _, rfl, rfl, ht1, at1, fits3, fun b hb => ?_⟩⟩
    have e2 := Same.new hb (.tup [V.str Wd.sum.s, vx, vk])
    have tk2 := TK.of e2
    have kk : KAt K (upd (upd H p (.dK mades)) b (.tup [V.str Wd.sum.s, vx, vk])) (.ref b) (.br .sum x k) := KAt.mk_br (w := .sum) (SqT.of upd_same) (hx.tk tk2) (Dp.tk (TK.trans tk tk2) _ _ (noL_dK k) hk)
    refine ⟨_, rfl, _, rfl, _, kk, fun H3 e3 => ⟨_, rfl, ?_⟩⟩
    have e123 := (e1.trans e2).trans e3
    cases o : okK (Kd.br .sum x k) with
    | true => exact iteT ⟨_, rfl, q _ _ e123 (by
        show Dp K _ _ _
        rw [okE rfl o]
        exact kk.tk (TK.of e3))⟩
    | false => exact iteF (q _ _ e123 (by
        show Dp K _ _ _
        rw [noE rfl o]
        exact .non))
  have z : madeOf n.w = none ∧ kindBy n ks = kindFew n ks := by
    cases n <;> first | exact absurd rfl c1 | exact absurd rfl c2 | exact absurd rfl c3 | exact absurd rfl c4 | exact ⟨rfl, rfl⟩
  refine ifT (by rw [z.1]; rfl) ?_
  refine ⟨_, rfl, _, rfl, _, _, rfl, n, ks, ⟨Dp.tk tk _ _ (noL_dN n) hn, ⟨a, vs, rfl, hs1, hks1⟩, hlen, hinn, hokn, hoks⟩, ⟨c1, c3, c4, c2⟩, fun v H' e2 hv => q v _ (e1.trans e2) ?_⟩
  show Dp K _ _ _
  rw [z.2]
  exact hv
abbrev N_bound_kind : List Str := ["node", "some", "word"]
theorem sc_bound_kind : FnScope N_bound_kind ["node", "some"] (defScope (top 64)) := ⟨rfl, rfl, rfl, by decide +kernel, rfl, by decide +kernel, by decide +kernel⟩
def gBound (K : PySem.W.Frag) : G2 := fun nv sv H Q _ => ∃ n a vs ks, NAt K H nv n ∧ sv = .ref a ∧ SqL K H a vs ∧ KsAt K H vs ks ∧ (binds n.w)[ks.length]? = some 1 ∧ ∀ v, OAt K H v (boundKind n ks) → Q v H
theorem ok_bound_kind (T : Txt K w mg fr fd nk nkI) (D : Df K mg "bound_kind" (top 64)) : Cal P w K mg base CX0 "bound_kind" 1 ["node", "some"] (sp2 (gBound K)) := by
  refine D.cal sc_bound_kind (bs2 fun _ _ _ _ _ _ _ _ => rfl) sp2_len fun f cdv A outer s H vs Q E hr h => ?_
  obtain ⟨nv, _, rfl, n, a, vs, ks, hn, rfl, hs, hks, hb, q⟩ := h
  refine ⟨_, (pss_cons (ps_set (i := 2) sc_bound_kind.nd rfl (Or.inl rfl) (pe_ix ix_tup (pv 0) pe_int (fun _ _ => rfl)))
    (pss_cons (ps_if (pt_cmpR op_eq (pv 2) pe_str (by rfl)) 
      (pss_one (ps_ret (pe_ifExp (pt_cmpR op_eq (pe_ix ix_tup (pe_ix ix_list (pv 1) pe_int (fun _ _ => rfl)) pe_int (fun _ _ => rfl)) (pe_gS rfl T.SUM) (by rfl)) (pe_ix ix_tup (pe_ix ix_list (pv 1) pe_int (fun _ _ => rfl)) (pe_callB call_len (by rfl) T.len (by decide +kernel) (pa_cons (pv 1) pa_nil)) (fun _ _ => rfl)) pe_non))) pss_nil)
    (pss_one (ps_ret (pe_ifExp (pt_cmpR op_eq (pv 2) pe_str (by rfl)) (pe_ix ix_list (pv 1) pe_int (fun _ _ => rfl)) (pe_ix ix_tup (pv 0) pe_int (fun _ _ => rfl))))))), ?_⟩
  obtain ⟨t, r, rfl, ht, hr2⟩ := NAt.tup hn
  refine ⟨_, rfl, _, _, _, _, rfl, rfl, ht, at0, ?_⟩
  refine ⟨_, rfl, rfl, _, rfl, ?_⟩
  by_cases c1 : n.w = .which
  · obtain rfl : n = .which := by cases n <;> first | rfl | cases c1
    refine ifST (i := .which) (j := .which) rfl ?_
    have lks : ks.length = 1 ∨ ks.length = 2 := by
      have hb' : [0, 1, 1][ks.length]? = some 1 := hb
      match ks, hb' with
      | [], h => cases h
      | [_], _ => exact .inl rfl
      | [_, _], _ => exact .inr rfl
      | _ :: _ :: _ :: _, h => cases h
    obtain ⟨k, u, rfl⟩ : ∃ k u, ks = k :: u := by
      cases ks with
      | nil => simp at lks
      | cons k u => exact ⟨k, u, rfl⟩
    have hks' : DpAll K H vs (dK k :: u.map dK) := hks
    obtain ⟨x, xs, rfl, hx, hxs⟩ : ∃ x xs, vs = x :: xs ∧ KAt K H x k ∧ KsAt K H xs u := by
      cases hks' with
      | cons h1 h2 => exact ⟨_, _, rfl, h1, h2⟩
    have lxs := KsAt.length hxs
    by_cases c : k.wd = .sum
    · obtain ⟨p, g, rfl⟩ : ∃ p g, k = .br .sum p g := by
        cases k with
        | ltr _ => cases c
        | cnt => cases c
        | br w2 p r => cases w2 <;> first | exact ⟨_, _, rfl⟩ | cases c
      obtain ⟨b, vp, vg, rfl, hsb, hp, hg⟩ := hx.br
      refine ⟨_, rfl, _, _, _, _, rfl, rfl, hs, at0, _, _, _, _, rfl, rfl, hsb, at0, rfl, _, rfl, ifST (i := .sum) (j := .sum) rfl ?_⟩
      refine ⟨_, rfl, _, _, _, _, rfl, rfl, hs, at0, _, rfl, _, _, rfl, lenL hs, ?_⟩
      simp only [List.length_cons] at lks ⊢
      rcases lks with l | l
      · have l0 : xs.length = 0 := by omega
        refine ⟨_, _, _, vp, rfl, rfl, hsb, by rw [l0]; rfl, q _ ?_⟩
        have : boundKind .which (.br .sum p g :: u) = some p := by
          rw [boundKind, if_pos (by omega)]
        rw [this]
        exact hp
      · have l0 : xs.length = 1 := by omega
        refine ⟨_, _, _, vg, rfl, rfl, hsb, by rw [l0]; rfl, q _ ?_⟩
        have : boundKind .which (.br .sum p g :: u) = some g := by
          rw [boundKind, if_neg (by omega)]
        rw [this]
        exact hg
    · obtain ⟨b, r3, rfl, hsb⟩ := hx.head
      refine ⟨_, rfl, _, _, _, _, rfl, rfl, hs, at0, _, _, _, _, rfl, rfl, hsb, at0, rfl, _, rfl, ifSF c (q _ ?_)⟩
      have : boundKind .which (k :: u) = none := by
        cases k with
        | ltr _ => rfl
        | cnt => rfl
        | br w2 p r => cases w2 <;> first | rfl | exact absurd rfl c
      rw [this]
      exact .non
  refine ifSF (j := .which) c1 ⟨_, rfl, rfl, _, rfl, ?_⟩
  by_cases c2 : n.w = .lt
  · obtain rfl : n = .lt := by cases n <;> first | rfl | cases c2
    refine ifST (i := .lt) (j := .lt) rfl ?_
    have hb' : [0, 1][ks.length]? = some 1 := hb
    match ks, hb', hks with
    | [k], _, hks =>
      obtain ⟨x, rfl, hx⟩ := hks.one
      exact ⟨_, rfl, _, _, _, _, rfl, rfl, hs, at0, q _ hx⟩
    | [], h, _ => cases h
    | _ :: _ :: _, h, _ => cases h
  refine ifSF (j := .lt) c2 ?_
  have cls : ∃ k, n.arg = [dK k] ∧ boundKind n ks = some k := by
    cases n <;> first | exact ⟨_, rfl, rfl⟩ | exact absurd rfl c1 | exact absurd rfl c2 | (exfalso; revert hb; simp only [Nd.w, binds]; rcases ks with _ | ⟨_, _ | ⟨_, _ | ⟨_, _⟩⟩⟩ <;> simp)
  obtain ⟨k, g1, g2⟩ := cls
  rw [g1] at hr2
  obtain ⟨y, rfl, hy⟩ := DpAll.one hr2
  refine ⟨_, rfl, _, _, _, _, rfl, rfl, ht, at1, q _ ?_⟩
  rw [g2]
  exact hy
abbrev N_are_names : List Str := ["value", "kind"]
theorem sc_are_names : FnScope N_are_names ["value"] (defScope (top 54)) := ⟨rfl, rfl, rfl, by decide +kernel, rfl, by decide +kernel, by decide +kernel⟩
def gNames (K : PySem.W.Frag) : G1 := fun v H Q _ => ∃ a xs ks, v = .ref a ∧ SqS K H a xs ∧ KsAt K H xs ks ∧ ks.length ≤ 8 ∧ (∀ k ∈ ks, okK k = true) ∧ ∀ H', Same H H' → Q (.bl true) H'
theorem ok_are_names (T : Txt K w mg fr fd nk nkI) (D : Df K mg "are_names" (top 54)) (c_is_list : Cal P w K mg base CX0 "is_list" 1 ["value"] (sp1 (gList K))) (c_is_kind : Cal P w K mg base CX0 "is_kind" 5 ["value"] (sp1 (gKind K))) :
    Cal P w K mg base CX0 "are_names" 6 ["value"] (sp1 (gNames K)) := by
  refine D.cal sc_are_names (bs1 fun _ _ _ _ _ _ _ => rfl) sp1_len fun f cdv A outer s H vs Q E hr h => ?_
  obtain ⟨v, rfl, a, xs, ks, rfl, hs, hk, hl, hok, q⟩ := h
  refine ⟨_, (pss_one (ps_ret (pe_and (pe_cal c_is_list (hr.mono (by omega)) rfl pass0 (pa_cons (pv 0) pa_nil)) (pe_and (pe_cmpR op_le (pe_callB call_len (by rfl) T.len (by decide +kernel) (pa_cons (pv 0) pa_nil)) (pe_gI rfl T.MOST_NAMES) (by rfl)) (pe_one (pe_callB (cr_all rfl) (by rfl) T.all (by decide +kernel) (pa_cons (pe_lc (own := [("kind", 1)]) rfl sc_are_names.nd (pi_seq (pv 0)) (blkOk_by (own := [("kind", 1)]) (N := N_are_names) (sc := defScope (top 54)) (by decide +kernel)) (fun _ _ _ _ _ => (pg_name (i := 1) sc_are_names.nd rfl (Or.inl rfl))) (fun _ _ _ _ _ => pts_nil) (fun _ _ _ _ _ => (pe_cal c_is_kind (hr.mono (by omega)) rfl pass0 (pa_cons (pv 1) pa_nil)))) pa_nil))))))), ?_⟩
  obtain ⟨t, ht, hkt⟩ := seq_ty hs
  have lx := KsAt.length hk
  refine ⟨_, rfl, _, rfl, t, true, ht, hkt, fun H1 e1 => ⟨_, rfl, iteT ?_⟩⟩
  have hs1 := SqS.same e1 hs
  have hk1 := hk.tk (TK.of e1)
  refine ⟨_, rfl, _, _, rfl, SqS.len hs1, _, _, rfl, rfl, _, rfl, ifT (decide_eq_true (by omega)) ?_⟩
  dsimp only [tCB, tCons, tNil]
  refine lc_seq (a := a) (xs := xs) (fun _ z => ⟨_, rfl, z⟩) (fun D i H' => Same H1 H' ∧ H' D = some (.lst ((ks.take i).map fun k => V.bl (okK k)))) hs1 (fun D hD => ⟨Same.new hD _, upd_same⟩) (fun D i H' _ _ p => p.1) ?_ ?_
  · rintro D i x H' hD hx ⟨sm, hl2⟩
    obtain ⟨k, g1, g2⟩ := KsAt.get' hk1 hx
    refine ⟨rfl, ?_⟩
    refine ⟨_, rfl, _, rfl, k, g2.tk (TK.of sm), fun H2 e2 => ⟨_, e2 _ _ hl2, ?_, Same.upd (sm.trans e2) hD _, ?_⟩⟩
    · rw [line_eq, List.length_map, List.length_take]
      omega
    · rw [upd_same, take_more g1, List.map_append]
      rfl
  · rintro D H' hD ⟨sm, hl2⟩
    rw [lx, List.take_length] at hl2
    refine ⟨D, ks.map okK, rfl, SqL.of (by rw [hl2, List.map_map]; rfl), ?_⟩
    have ea : (ks.map okK).all id = true := by
      rw [List.all_map, List.all_eq_true]
      exact hok
    rw [ea]
    exact q _ (e1.trans sm)
abbrev N_want_names : List Str := ["value"]
theorem sc_want_names : FnScope N_want_names ["value"] (defScope (top 55)) := ⟨rfl, rfl, rfl, by decide +kernel, rfl, by decide +kernel, by decide +kernel⟩
def gWantNames (K : PySem.W.Frag) : G1 := fun v H Q _ => ∃ a xs ks, v = .ref a ∧ SqS K H a xs ∧ KsAt K H xs ks ∧ ks.length ≤ 8 ∧ (∀ k ∈ ks, okK k = true) ∧ ∀ H', Same H H' → Q .non H'
theorem ok_want_names (T : Txt K w mg fr fd nk nkI) (D : Df K mg "want_names" (top 55)) (c_are_names : Cal P w K mg base CX0 "are_names" 6 ["value"] (sp1 (gNames K))) : Cal P w K mg base CX0 "want_names" 7 ["value"] (sp1 (gWantNames K)) := by
  refine D.cal sc_want_names (bs1 fun _ _ _ _ _ _ _ => rfl) sp1_len fun f cdv A outer s H vs Q E hr h => ?_
  obtain ⟨v, rfl, a, xs, ks, rfl, hs, hk, hl, hok, q⟩ := h
  refine ⟨_, (pss_one (ps_if (pt_not (pt_val (pe_cal c_are_names (hr.mono (by omega)) rfl pass0 (pa_cons (pv 0) pa_nil)))) 
      (pss_one ps_never) pss_nil)), ?_⟩
  exact ⟨_, rfl, _, rfl, a, xs, ks, rfl, hs, hk, hl, hok, fun H1 e1 => ⟨_, rfl, iteF (q _ e1)⟩⟩
abbrev N_row_of : List Str := ["names", "found", "kind"]
theorem sc_row_of : FnScope N_row_of ["names"] (defScope (top 56)) := ⟨rfl, rfl, rfl, by decide +kernel, rfl, by decide +kernel, by decide +kernel⟩
def gRow (K : PySem.W.Frag) : G1 := fun v H Q _ => ∃ a xs ks, v = .ref a ∧ SqS K H a xs ∧ KsAt K H xs ks ∧ ∀ r H', Same H H' → RAt K H' r ks → Q r H'
theorem ok_row_of (D : Df K mg "row_of" (top 56)) : Cal P w K mg base CX0 "row_of" 1 ["names"] (sp1 (gRow K)) := by
  refine D.cal sc_row_of (bs1 fun _ _ _ _ _ _ _ => rfl) sp1_len fun f cdv A outer s H vs Q E hr h => ?_
  obtain ⟨v, rfl, a, xs, ks, rfl, hs, hk, q⟩ := h
  refine ⟨_, (pss_cons (ps_set (i := 1) sc_row_of.nd rfl (Or.inl rfl) pe_non)
    (pss_cons (ps_for PassesOwn.never rfl (pi_seq (pe_revS (pv 0))) (pg_name (i := 2) sc_row_of.nd rfl (Or.inl rfl)) 
      (pss_one (ps_set (i := 1) sc_row_of.nd rfl (Or.inl rfl) (pe_tup (pa_cons (pv 2) (pa_cons (pv 1) pa_nil))))))
    (pss_one (ps_ret (pv 1))))), ?_⟩
  have lx := KsAt.length hk
  have lr : xs.reverse.length = ks.length := by rw [List.length_reverse]; exact lx
  have go : ∀ (p : Addr) (H1 : Hp), Same H H1 → SqS K H1 p xs.reverse → ∀ (D : Ends), (∀ r H', Same H H' → RAt K H' r ks → ∀ o, D.nx [some (.ref a), some r, o] H') →
      tFor (iSeq K (tC (.ref p))) (gName 2) (tAsg (tTup (tCons (tVar 2) (tCons (tVar 1) tNil))) (gName 1)) D [some (.ref a), some .non, none] H1 := fun p H1 e1 hs1 D hD => by
    refine for_seq (a := p) (xs := xs.reverse) (fun _ z => z) (fun i σ H' => ∃ (r : V) (o : Option V), Same H1 H' ∧ σ = [some (.ref a), some r, o] ∧ RAt K H' r (ks.drop (ks.length - i))) hs1 ⟨.non, none, Same.refl _, rfl, ?_⟩ (fun i σ H' _ ⟨_, _, z, _⟩ => .inl z) ?_ ?_
    · rw [Nat.sub_zero, List.drop_length]
      exact .non
    · rintro i x σ H' hx ⟨r, o, sm, rfl, hr2⟩
      have hi : i < xs.reverse.length := (List.getElem?_eq_some_iff.mp hx).1
      rw [lr] at hi
      rw [List.getElem?_reverse (by omega)] at hx
      obtain ⟨k, g1, g2⟩ := KsAt.get' (hk.tk (TK.of (e1.trans sm))) hx
      have g1' : ks[ks.length - (i + 1)]? = some k := by
        rw [← g1]
        congr 1
        omega
      refine ⟨_, rfl, _, rfl, fits2, fun b hb => ?_⟩
      have e2 := Same.new hb (.tup [x, r])
      refine ⟨_, _, sm.trans e2, rfl, ?_⟩
      have hd : ks.drop (ks.length - (i + 1)) = k :: ks.drop (ks.length - i) := by
        obtain ⟨h1, h2⟩ := List.getElem?_eq_some_iff.mp g1'
        rw [List.drop_eq_getElem_cons h1, h2]
        congr 2
        omega
      rw [hd]
      exact .tup (SqT.of upd_same) (.cons (g2.tk (TK.of e2)) (.cons (hr2.tk (TK.of e2)) .nil))
    · rintro σ H' ⟨r, o, sm, rfl, hr2⟩
      rw [lr, Nat.sub_self, List.drop_zero] at hr2
      exact hD r H' (e1.trans sm) hr2 o
  dsimp only [tSeq, tAsg, tC, gName]
  rcases hs with hs | hs
  · refine for_via ⟨_, rfl, a, xs, rfl, .inl ⟨hs, fun p hp => ?_⟩⟩
    have e1 := Same.new hp (.lst xs.reverse)
    exact go p _ e1 (.inl (SqL.of upd_same)) _ fun r H' e hr2 o => ⟨_, rfl, q r H' e hr2⟩
  · refine for_via ⟨_, rfl, a, xs, rfl, .inr ⟨hs, fun p hp => ?_⟩⟩
    have e1 := Same.new hp (.tup xs.reverse)
    exact go p _ e1 (.inr (SqT.of upd_same)) _ fun r H' e hr2 o => ⟨_, rfl, q r H' e hr2⟩
end
end K17
set_option maxHeartbeats 2000000
/-! KE3: an own class over an own class over RuntimeError, its __init__ writes one field; made and raised. -/
namespace K17
open PySem PySem.Spec PyProof.Rows L2
open PySem.HandSPX (excO)
open PySem.Builtin.ObjectAttr
/-- RuntimeError and what is above it -/
abbrev runLine : List Value := [.type "RuntimeError", .type "Exception", .type "BaseException", .type "object"]
/-- the written class at C -/
structure NkC (K : PySem.W.Frag) (C : Addr) : Prop where
  laid : ∃ nm q N bs up sn sub ab col dd k0 k1 k2 k3 k5, K.lookup C = some (excClassObj nm q C N bs (.ref up :: runLine) true sn sub ab col dd k0 k1 k2 k3 k5 "RuntimeError.__new__")
  store : PySem.W.findIn K (.ref C) "__setattr__" = some (some (.builtin "object.__setattr__"))
  free : PySem.W.findIn K (.ref C) "position" = some none
  isExc : PySem.W.subIn K (.ref C) (.type "BaseException") = some true
  isTy : PySem.W.typeIn K (.ref C) = some (.type "type")
  kept : PySem.W.keepIn K (.ref C) = true
theorem run_has (up : Addr) (T : String) : List.contains (.ref up :: runLine) (Value.type T) = runLine.contains (.type T) := by
  rw [List.contains_cons]
  rfl
theorem nk_laid {K : PySem.W.Frag} {C : Addr} (h : nkIn K C = true) : ∃ nm q N bs up sn sub ab col dd k0 k1 k2 k3 k5, K.lookup C = some (excClassObj nm q C N bs (.ref up :: runLine) true sn sub ab col dd k0 k1 k2 k3 k5 "RuntimeError.__new__") := by
  unfold nkIn at h
  split at h
  · rename_i dd cd sl ho
    split at h
    · rename_i D up t1 t2 t3 t4 k0 k1 k2 k3 n k5 hm hs
      simp only [Bool.and_eq_true, beq_iff_eq, Bool.not_eq_true'] at h
      obtain ⟨⟨⟨⟨⟨⟨⟨z1, z2⟩, z3⟩, z4⟩, z5⟩, z6⟩, z7⟩, z8⟩ := h
      subst z1 z2 z5 z6 z7 z8
      obtain ⟨nm, bs, mro, ns, qn, hd, sn, sub, ab, col, del⟩ := cd
      dsimp only at hm z3 z4
      subst hm z3 z4
      obtain ⟨l⟩ := sl
      simp only at hs
      subst hs
      exact ⟨_, _, _, _, _, _, _, _, _, _, _, _, _, _, _, ho⟩
    · cases h
  · cases h
section
variable {prog : Program} {w : World} {A : Around} {E : Value → Shared → Prop} {R : Result → Shared → Prop} {h0 : Heap} {g : Array GenState} {dr : Drawn} {tk : Nat} {os : OsState}
/-- object.__setattr__ on a fresh exception of that class -/
theorem nk_setattr {K : PySem.W.Frag} {nam : Str} {u : Tok} {val : Value} {e C : Addr} {fv : Array Value} {cls : ClassData} {up : Addr} (kin : K.In h0) (at_ : h0.get? e = some { cls := .ref C, data := .fields fv }) (hcls : PySem.W.clsIn K C = some cls)
    (line : cls.mro = .ref C :: .ref up :: runLine) (dict : cls.hasDict = true) (free : PySem.W.findIn K (.ref C) nam = some none)
    (done : ∀ h1 tk1 dx, (∀ b o, b ≠ e → h0.get? b = some o → h1.get? b = some o) → h0.objs.size ≤ dx → dx ≠ e → h1.get? e = some { cls := .ref C, dict := some dx, data := .fields fv } →
      h1.Ns1 dx (fun y => if y = nam then some val else none) → R (.ok (.ret .none)) ⟨h1, g, dr, tk1, os⟩) :
    codeAny (model prog w) A (.call (.builtin "object.__setattr__") ⟨[.ref e, .str nam u, val], []⟩) R ⟨h0, g, dr, tk, os⟩ := by
  have inst : PySem.W.InstAt h0 e { cls := .ref C, data := .fields fv } C none := ⟨at_, rfl, rfl, trivial⟩
  have sf := F.store_object
  have notEmpty : cls.mro.isEmpty = false := by rw [line]; rfl
  have hasObj : cls.mro.contains (.type "object") = true := by
    rw [line, List.contains_cons, run_has]
    rfl
  have enew : e ≠ h0.objs.size := Nat.ne_of_lt (Heap.lt_size at_)
  have isObj : PySem.W.Looks (model prog w) h0 (isInstance (.ref e) (.type "object")) true := inst.type.andThen (PySem.W.looks_mroIn kin (by
    unfold PySem.W.mroIn
    rw [hcls, Option.bind_some, if_neg (by rw [notEmpty]; decide), hasObj]))
  refine codeAny_call_builtin sf.slot.plain sf.entry (@PySem.W.check_slot (model prog w) _ _ ⟨h0, g, dr, tk, os⟩ "object.__setattr__" "object" "__setattr__" (.ref e) [.str nam u, val] [] _ sf.kind sf.split isObj (sf.args (.ref e) (.str nam u) val) ?_)
  have mro : PySem.W.Looks (model prog w) h0 (mroOf (.ref C)) cls.mro := (PySem.W.looks_clsIn kin hcls).andThen .now
  have noTaker : PySem.W.Looks (model prog w) h0 (storeTaker? none) none := .now
  have cdata : PySem.W.Looks (model prog w) h0 (classData C) cls := PySem.W.looks_clsIn kin hcls
  have pass : refuseLoop (.ref e) "__setattr__" cls.mro = pure () := by
    rw [line, refuseLoop_ref, refuseLoop_ref]
    exact F.store_RuntimeError.passes (.ref e)
  rw [PySem.W.osa_eq, refuse_eq]
  refine wpAny_bind (wpAny_bind (inst.type.at (wpAny_bind (mro.at ?_))))
  rw [pass]
  refine wpAny_pure (wpAny_bind (inst.type.at (wpAny_bind ((PySem.W.looks_findIn kin free).at (wpAny_bind (noTaker.at ?_))))))
  show wpAny _ _ (storeInOwnDict (.ref e) (.ref C) (.str nam u) nam val false) _ _ _
  obtain ⟨nm, bs, mr, ns, qn, hd, sn, sb, ab, col, del⟩ := cls
  dsimp only at dict
  subst dict
  unfold storeInOwnDict ownDictForStores
  repeat (first | with_reducible refine PySem.HandSPX.store_in_new ?_ ?_ | with_reducible refine wpAny_loadPart_at at_ ?_ | with_reducible refine cdata.at ?_ | wp_step)
  · exact ⟨_, #[], _, (Heap.get?_update_ne _ _ _ _ enew.symm).trans (Heap.get?_push_at rfl rfl), rfl, fun y hy => absurd hy (by simp), fun _ => rfl⟩
  · intro h1 tk1 hn1 same
    have old : (h0.push { cls := .type "dict", data := .dict #[] }).get? e = some { cls := .ref C, data := .fields fv } := Heap.get?_push_of_some _ at_
    refine done h1 tk1 h0.objs.size (fun b o hb ho => ?_) (Nat.le_refl _) enew.symm ?_ hn1
    · exact (same.2 b (Nat.ne_of_lt (Heap.lt_size ho))).trans ((Heap.get?_update_ne _ _ _ _ hb).trans (Heap.get?_push_of_some _ ho))
    · exact (same.2 e enew).trans (Heap.get?_update_self _ old rfl)
end
section
variable {X : Cx} {pins : List (Addr × Obj)} {σ : L2.St} {H : Hp} {s : Shared} {a C : Addr} {y : V} {u : Value} {Q : Unit → Shared → Prop} {E : Value → Shared → Prop} {A : Around}
/-- self.position = y on a fresh exception -/
theorem nk_first (T : NkC X.K C) (I : Inv X pins σ H s) (at_ : H a = some (exo a C none)) (ry : RelV y u)
    (go : ∀ dx s', H dx = none → dx ≠ a → Inv X pins σ (upd (upd H dx (exd dx [("position", y)])) a (exo a C (some dx))) s' → Q () s') : wpAny (model X.prog X.w) A (setAttr (.ref a) "position" u) Q E s := by
  obtain ⟨nm, q, N, bs, up, sn, sub, ab, col, dd, k0, k1, k2, k3, k5, hC⟩ := T.laid
  have hcls : PySem.W.clsIn X.K C = some { name := nm, bases := bs, mro := .ref C :: .ref up :: runLine, ns := N, qualname := q, hasDict := true, slotNames := sn, subclasses := sub, abstract := ab, collection := col, hasDel := false } := by
    unfold PySem.W.clsIn
    rw [hC] <;> rfl
  obtain ⟨t1, ho⟩ := exo_at I.hok at_
  obtain ⟨hp, g, d, t, os⟩ := s
  refine PySem.W.set_plain I.kIn (ox := { cls := .ref C, dict := none, data := .fields #[.ref t1, .none, .none, .none, .bool false, .none] }) (od := none) ⟨ho, rfl, rfl, trivial⟩ T.store ?_
  refine nk_setattr I.kIn ho hcls rfl rfl T.free (fun h1 tk1 dx keep dnew dne hx hn => ?_)
  have hdx : H dx = none := I.hok.fresh dnew
  have old : ∀ {b : Addr} {o : Obj}, hp.get? b = some o → b ≠ dx := fun {b o} z => Nat.ne_of_lt (Nat.lt_of_lt_of_le (Heap.lt_size z) dnew)
  have nota : ∀ {b : Addr}, H b = none → b ≠ a := fun {b} n z => by
    rw [z, at_] at n
    cases n
  have U : Un X.fs [] H (upd (upd H dx (exd dx [("position", y)])) a (exo a C (some dx))) hp h1 := {
    keep := fun b o z n _ _ => keep b o (nota n) z
    slot := fun b o z n _ _ => ⟨o.slots, keep b o (nota n) z⟩
    free := fun b o z n _ => by
      rw [upd_ne (nota n), upd_ne (old z)]
      exact n
    there := fun b o z _ => by
      by_cases hb : b = a
      · exact ⟨_, by rw [hb]; exact hx⟩
      · exact ⟨o, keep b o hb z⟩
    tups := fun b xs z => by
      rw [upd_ne (at_ne at_ z exo_tup), upd_ne (ne_of_none z hdx)]
      exact z
    frzs := fun b o v z => by
      rw [upd_ne (at_ne at_ z exo_frz), upd_ne (ne_of_none z hdx)]
      exact z
    tbls := fun b ps z => ⟨#[], by
      rw [upd_ne (at_ne at_ z exo_tbl), upd_ne (ne_of_none z hdx), z]
      simp⟩ }
  refine go dx _ hdx dne (I.un (t' := tk1) U fun b o z => ?_)
  by_cases hb : b = a
  · subst hb
    rw [upd_same] at z
    cases z
    exact exo_ok hx
  · rw [upd_ne hb] at z
    by_cases hd : b = dx
    · subst hd
      rw [upd_same] at z
      cases z
      exact exd_ok hn (relO_put (fs := []) ry fun _ => True.intro)
    · rw [upd_ne hd] at z
      refine (I.hok b o z).stay (fun c v hc z2 => keep c v ?_ z2) (fun c hc => ?_) (fun c xs hc => ?_)
      · rcases hc with hc | hc
        · rw [hc]
          exact hb
        · exact at_ne at_ hc exo_own
      · rw [upd_ne (at_ne at_ hc exo_own), upd_ne (ne_of_none hc hdx)]
        exact hc
      · rw [upd_ne (at_ne at_ hc exo_tup), upd_ne (ne_of_none hc hdx)]
        exact hc
/-- self.position = e, the first field of an exception -/
def tNkSet (K : PySem.W.Frag) (tself te : TE) : TS := fun D σ H => te σ H fun y H1 => tself σ H1 fun x H2 => ∃ a C : Addr, x = .ref a ∧ NkC K C ∧ H2 a = some (exo a C none) ∧
  ∀ dx, H2 dx = none → dx ≠ a → D.nx σ (upd (upd H2 dx (exd dx [("position", y)])) a (exo a C (some dx)))
theorem ps_nkSet {o e : Expr} {tself te : TE} {p' pos : Pos} (ho : PE X o tself) (he : PE X e te) (hs : swapsWith e (some (.Attribute o "position" p')) pos.line X.env = pure false := by rfl) : PS X (.Assign [.Attribute o "position" p'] e pos) (tNkSet X.K tself te) := by
  refine ⟨fun pins s σ H D I h => ?_⟩
  refine plainObj_wpAny_Assign_Attribute (thn (he.run pins s σ H _ I h) fun v s1 ⟨y, H1, I1, r1, q1⟩ => thn (ho.run pins s1 σ H1 _ I1 q1) fun u s2 ⟨x, H2, I2, r2, a, C, ex, T, at_, q⟩ => ?_) hs
  subst ex
  obtain rfl : u = Value.ref a := r2
  exact nk_first T I2 at_ r1 fun dx s' n ne J => ⟨σ, _, J, q dx n ne⟩
/-- C(e, ..) to be raised -/
theorem pmk_nk {CX : CXT} {x : Str} {fI : Addr} {k : Nat} {fd : FuncData} {ps : List Str} {sp : Sp} {e : Expr} {es : List Expr} {ta : TA} {p pos : Pos} (T : NkC X.K C) (ini : PySem.W.findIn X.K (.ref C) "__init__" = some (some (.ref fI))) (fty : PySem.W.typeIn X.K (.ref fI) = some (.type "function"))
    (F1 : FnOk X.prog X.w X.K X.mg X.base CX k fI fd ps sp) (room : Room (k + 1) X.A) (bnd : Binds X.K fd ps []) (pass : Passes CX X (fun _ _ _ => False)) (hg : Gl X x) (hm : X.mg x = some (.ref C)) (ha : PA X (e :: es) ta)
    (hdb : (x == ("__debug__" : Str)) = false := by decide) (he : starEach (e :: es) X.env = (false, eval e X.env) :: starEach es X.env := by rfl) (hpl : (backTo pos (starEach es X.env)).any (·.1) = false := by rfl) :
    PMk X (.Call (.Name x p) (e :: es) [] pos) (tMkO C sp [] ta) := by
  intro pins s σ H Q I h
  obtain ⟨nm, q, N, bs, up, sn, sub, ab, col, dd, k0, k1, k2, k3, k5, hC⟩ := T.laid
  refine wpAny_Call_Name_kw (ld_glob I hg hm ?_ hdb)
  refine PySem.W.callWith_K (h₀ := X.base) I.ok.mod.kin T.kept (thn (ha.run pos pins s σ H _ I h) fun us s1 ⟨vs, H1, I1, r1, hz, q1⟩ => ⟨I1.kIn, ?_⟩) he hpl
  show wpAny _ _ (call (.ref C) us) _ _ _
  obtain ⟨hp, g, dr, tk, os⟩ := s1
  have grown : hp.objs.size ≤ hp.objs.size + 1 := Nat.le_succ _
  have unseen : H1 (hp.objs.size + 1) = none := I1.hok.fresh grown
  have want := q1 (hp.objs.size + 1) unseen
  rw [List.append_nil] at want
  have keep : ∀ b o, hp.get? b = some o → ((hp.push (PySem.W.kdv_tup us)).push (excO C hp.objs.size)).get? b = some o := fun b o z => Heap.get?_push_of_some _ (Heap.get?_push_of_some _ z)
  have new : ((hp.push (PySem.W.kdv_tup us)).push (excO C hp.objs.size)).get? (hp.objs.size + 1) = some (excO C hp.objs.size) := by heap_get
  have I2 : Inv X pins σ (upd H1 (hp.objs.size + 1) (exo (hp.objs.size + 1) C none)) ⟨(hp.push (PySem.W.kdv_tup us)).push (excO C hp.objs.size), g, dr, tk, os⟩ :=
    I1.laid (t' := tk) (a := hp.objs.size + 1) (o := exo (hp.objs.size + 1) C none) (h' := (hp.push (PySem.W.kdv_tup us)).push (excO C hp.objs.size)) keep grown (exo_ok new)
  have rel : Vals (V.ref (hp.objs.size + 1) :: vs) (Value.ref (hp.objs.size + 1) :: us) := .cons rfl r1
  have len : (Value.ref (hp.objs.size + 1) :: us).length = ps.length := by
    rw [← rel.length]
    exact F1.len _ _ _ _ want
  have few : us.length ≤ sizeLine := by
    rw [← Paired.length r1, sizeLine_eq]
    omega
  have bound := bnd _ (Value.ref (hp.objs.size + 1) :: us) I2.kIn (by rw [List.append_nil]; exact len)
  rw [List.append_nil] at bound
  refine wpAny_call (PySem.HandSPX.call_own F.excBase_RuntimeError (fun Y => run_has up Y) (I1.kIn _ _ hC) (PySem.W.looks_findIn I1.kIn ini) (fun self => PySem.W.bind_fn I1.kIn self fty) few
    (codeAny_mono (F1.run _ X.stack _ _ ⟨Value.ref (hp.objs.size + 1) :: us, []⟩ (Value.ref (hp.objs.size + 1) :: us) _ _ (fun _ _ _ => False) (room.make C us []) (I2.env0.make C us []) bound rel want) fun r s' got => ?_))
  cases r with
  | error er => exact pass pins σ _ _ er s' I2 got
  | ok fl =>
    cases fl with
    | ret u =>
      obtain ⟨v, H2, os2, bare2, un2, hok2, rv, ev, d, fs, ea, ed, hd1, q2⟩ := got
      subst ev
      obtain ⟨h2, g2, d2, t2, os'⟩ := s'
      exact ⟨rv, mk_end (raises_own T.isExc T.isTy) I1 grown keep un2 hok2 os2 bare2 ea ed hd1 q2⟩
    | next => exact False.elim got
    | brk => exact False.elim got
    | cont => exact False.elim got
end
end K17
/-! K10: frames, NoKind, next_row. -/
namespace K17
open PySem L2
/-! ### a call of a def that may raise -/
section
variable {X : Cx} {pos p : Pos} {x : Str} {W : WX}
theorem pe_calS {k : Nat} {ps : List Str} {sp : Sp} {e : Expr} {es : List Expr} {t : TA} (c : Cal X.prog X.w X.K X.mg X.base (L2.CX X.prog X.w) x k ps sp) (hr : Room k X.A) (hg : Gl X x) (tk : Takes X W) (ha : PA X (e :: es) t)
    (hdb : (x == ("__debug__" : Str)) = false := by decide) (he : starEach (e :: es) X.env = (false, eval e X.env) :: starEach es X.env := by rfl) (hpl : (backTo pos (starEach es X.env)).any (·.1) = false := by rfl) :
    PE X (.Call (.Name x p) (e :: es) [] pos) (tCallS sp (WE W) t) := by
  obtain ⟨f, fd, F, hm, hk, hb, _⟩ := c.ex
  exact pe_callS F hr hg hm hk hb (fun σ => passAt tk σ) ha hdb he hpl
end
/-- what the top has written of NoKind -/
structure NkT (K : PySem.W.Frag) (mg : Str → Option Value) (nk nkI : Addr) : Prop where
  gNoKind : mg "NoKind" = some (.ref nk)
  cls : NkC K nk
  init : PySem.W.findIn K (.ref nk) "__init__" = some (some (.ref nkI))
  fty : PySem.W.typeIn K (.ref nkI) = some (.type "function")
  fn : ∃ fdn, Fun K "__init__" "NoKind.__init__" (inClass (top 9) 0) nkI fdn
  te : PySem.W.exmOne K (.ref nk) (.ref nk) = some true
section
variable {P : Program} {w : World} {K : PySem.W.Frag} {mg : Str → Option Value} {base : Heap} {fr nk nkI : Addr} {fd : FuncData}
/-! ### NoKind(position) -/
abbrev N_nk : List Str := ["self", "position"]
theorem sc_nk : FnScope N_nk ["self", "position"] (defScope (inClass (top 9) 0)) := ⟨rfl, rfl, rfl, by decide +kernel, rfl, by decide +kernel, by decide +kernel⟩
def spNk (nk : Addr) : Sp := fun vs H Q _ => ∃ a y, vs = [.ref a, y] ∧ H a = some (exo a nk none) ∧ ∀ dx, H dx = none → dx ≠ a → Q .non (upd (upd H dx (exd dx [("position", y)])) a (exo a nk (some dx)))
theorem ok_nk (T : NkT K mg nk nkI) : ∃ fdn, FnOk P w K mg base CX0 1 nkI fdn ["self", "position"] (spNk nk) ∧ Binds K fdn ["self", "position"] [] := by
  obtain ⟨fdn, F⟩ := T.fn
  refine ⟨fdn, F.ok sc_nk (fun vs H Q E h => by obtain ⟨a, y, rfl, _⟩ := h; rfl) (fun cdv A outer s H vs Q E hr h => ?_), F.binds (bs2 fun _ _ _ _ _ _ _ _ => rfl)⟩
  obtain ⟨a, y, rfl, ha, q⟩ := h
  refine ⟨_, pss_one (ps_nkSet (pv 0) (pv 1)), ?_⟩
  exact ⟨_, rfl, _, rfl, a, nk, rfl, T.cls, ha, q⟩
/-- raise NoKind(e) -/
def tNk (nk : Addr) (W : WX) (te : TE) : TS := fun _ σ H => tMkO nk (spNk nk) [] (tCons te tNil) σ H fun cls d H' => W cls d σ H'
theorem ps_nk {X : Cx} {W : WX} {e : Expr} {te : TE} {p pos pos2 : Pos} (T : NkT X.K X.mg nk nkI) (hc : X.calm = true) (hr : Room 2 X.A) (hg : Gl X "NoKind") (tk : Takes X W) (he : PE X e te)
    (hs : starEach [e] X.env = (false, eval e X.env) :: starEach [] X.env := by rfl) (hpl : (backTo pos (starEach [] X.env)).any (·.1) = false := by rfl) :
    PS X (.Raise (some (.Call (.Name "NoKind" p) [e] [] pos)) none pos2) (tNk nk W te) := by
  obtain ⟨fdn, F, bnd⟩ := ok_nk (P := X.prog) (w := X.w) (base := X.base) T
  exact ps_raise (pos := pos2) hc tk (pmk_nk (p := p) (pos := pos) T.cls T.init T.fty F hr bnd (fun _ _ _ _ _ _ _ z => z.elim) hg T.gNoKind (pa_cons he pa_nil hs) (by decide) hs hpl)
/-- what it asks -/
theorem nk_go {E : XK} {H : Hp} {y : V} (h : ∀ d H', Same H H' → E (.ref nk) d H') : [y].length ≤ 1000 ∧ ∀ a, H a = none → spNk nk (.ref a :: ([y] ++ [])) (upd H a (exo a nk none))
    (fun v H2 => v = .non ∧ ∃ (d : Addr) (fs : List (Str × V)), H2 a = some (exo a nk (some d)) ∧ H2 d = some (exd d fs) ∧ H d = none ∧ E (.ref nk) (some d) (upd (del H2 a) d (.xd fs))) (fun _ _ _ => False) := by
  refine ⟨(by decide : 1 ≤ 1000), fun a ha => ⟨a, y, rfl, upd_same, fun dx hx ne => ⟨rfl, dx, [("position", y)], upd_same, ?_, ?_, ?_⟩⟩⟩
  · rw [upd_ne ne, upd_same]
  · rwa [upd_ne ne] at hx
  · refine h _ _ fun b o z => ?_
    rw [upd_ne ne] at hx
    have n1 : b ≠ a := ne_of_none z ha
    have n2 : b ≠ dx := ne_of_none z hx
    rw [upd_ne n2, del_ne n1, upd_ne n1, upd_ne n2, upd_ne n1]
    exact z
/-! ### frames -/
structure Fr where
  pos : Nat
  nd : Nd
  row : List Kd
  ks : List Kd
/-- a frame in the heap: the instance at p.1, its list at p.2 -/
def FrAt (K : PySem.W.Frag) (fr : Addr) (H : Hp) (p : Addr × Addr) (f : Fr) : Prop := ∃ dx rv vs, H p.1 = some (.ins fr dx [("own_position", .int f.pos), ("own_row", rv), ("own_some", .ref p.2)]) ∧ RAt K H rv f.row ∧ H p.2 = some (.lst vs) ∧ KsAt K H vs f.ks
theorem FrAt.same {H H' : Hp} {p : Addr × Addr} {f : Fr} (s : Same H H') (h : FrAt K fr H p f) : FrAt K fr H' p f := by
  obtain ⟨dx, rv, vs, h1, h2, h3, h4⟩ := h
  exact ⟨dx, rv, vs, s _ _ h1, h2.tk (TK.of s), s _ _ h3, h4.tk (TK.of s)⟩
abbrev N_frI : List Str := ["self", "position", "row"]
theorem sc_frI : FnScope N_frI ["self", "position", "row"] (defScope (inClass (top 65) 0)) := ⟨rfl, rfl, rfl, by decide +kernel, rfl, by decide +kernel, by decide +kernel⟩
def spFrI (fr : Addr) : Sp := fun vs H Q _ => ∃ x dx p r, vs = [.ref x, p, r] ∧ H x = some (.ins fr dx []) ∧ ∀ L H', H L = none → L ≠ x → (∀ b o, b ≠ x → H b = some o → H' b = some o) → H' x = some (.ins fr dx [("own_position", p), ("own_row", r), ("own_some", .ref L)]) → H' L = some (.lst []) → Q .non H'
theorem ok_frI (T : Txt K w mg fr fd nk nkI) : ∃ f, Mk K fr f ∧ FnOk P w K mg base CX0 1 f fd ["self", "position", "row"] (spFrI fr) ∧ Binds K fd ["self", "position", "row"] [] := by
  obtain ⟨f, M, F⟩ := T.mkFrame
  refine ⟨f, M, F.ok sc_frI (fun vs H Q E h => by obtain ⟨x, dx, p, r, rfl, _⟩ := h; rfl) (fun cdv A outer s H vs Q E hr h => ?_), F.binds (bs3 fun _ _ _ _ _ _ _ _ _ => rfl)⟩
  obtain ⟨x, dx, p, r, rfl, hx, q⟩ := h
  refine ⟨_, pss_cons (ps_fld (pv 0) (pv 1) rfl) (pss_cons (ps_fld (pv 0) (pv 2) rfl) (pss_one (ps_fld (pv 0) (pe_lst pa_nil) rfl))), ?_⟩
  refine ⟨_, rfl, _, rfl, x, fr, dx, [], rfl, hx, T.cFrame, T.aFrame.1, by decide, ?_⟩
  refine ⟨_, rfl, _, rfl, x, fr, dx, _, rfl, upd_same, T.cFrame, T.aFrame.2.1, (by decide : 1 < 1000), ?_⟩
  refine ⟨fits0, fun L hL => ⟨_, rfl, x, fr, dx, [("own_position", p), ("own_row", r)], rfl, ?_, T.cFrame, T.aFrame.2.2, (by decide : 2 < 1000), ?_⟩⟩
  · rw [upd_ne (ne_of_none upd_same hL), upd_same]
    rfl
  · have nx : L ≠ x := fun z => by
      rw [z, upd_same] at hL
      cases hL
    have hL0 : H L = none := by rwa [upd_ne nx, upd_ne nx] at hL
    refine q L _ hL0 nx (fun b o nb hb => ?_) ?_ ?_
    · rw [upd_ne nb, upd_ne (ne_of_none hb hL0), upd_ne nb, upd_ne nb]
      exact hb
    · rw [upd_same]
      rfl
    · rw [upd_ne nx, upd_same]
/-! ### next_row -/
def nextRow (f : Fr) : Option (List Kd) := if (binds f.nd.w)[f.ks.length]? = some 0 then some f.row else (boundKind f.nd f.ks).map (· :: f.row)
abbrev N_next_row : List Str := ["nodes", "frame", "node", "kind"]
theorem sc_next_row : FnScope N_next_row ["nodes", "frame"] (defScope (top 66)) := ⟨rfl, rfl, rfl, by decide +kernel, rfl, by decide +kernel, by decide +kernel⟩
def gNextRow (K : PySem.W.Frag) (fr nk : Addr) : G2 := fun nv fv H Q E => ∃ a xs ns p f, nv = .ref a ∧ SqS K H a xs ∧ NsAt K H xs ns ∧ fv = .ref p.1 ∧ FrAt K fr H p f ∧ ns[f.pos]? = some f.nd ∧ f.ks.length < (binds f.nd.w).length ∧
  (∀ r v H', nextRow f = some r → Same H H' → RAt K H' v r → Q v H') ∧ (nextRow f = none → ∀ d H', Same H H' → E (.ref nk) d H')
theorem ix_any {H : Hp} {a : Addr} {xs : List V} {i : Nat} {v : V} {Q : VK} (hs : SqS K H a xs) (hi : xs[i]? = some v) (q : Q v H) : rIx K (.ref a) (.int i) H Q := by
  rcases hs with hs | hs
  · exact .inl ⟨a, xs, i, v, rfl, rfl, hs, atI_nat hi, q⟩
  · exact .inr (.inl ⟨a, xs, i, v, rfl, rfl, hs, atI_nat hi, q⟩)
theorem ok_next_row (T : Txt K w mg fr fd nk nkI) (TN : NkT K mg nk nkI) (D : Df K mg "next_row" (top 66)) (c_bound_kind : Cal P w K mg base CX0 "bound_kind" 1 ["node", "some"] (sp2 (gBound K))) :
    Cal P w K mg base (L2.CX P w) "next_row" 3 ["nodes", "frame"] (sp2 (gNextRow K fr nk)) := by
  refine D.calX sc_next_row (bs2 fun _ _ _ _ _ _ _ _ => rfl) sp2_len fun f cdv A outer s H vs Q E hr h => ?_
  obtain ⟨_, _, rfl, a, xs, ns, p, g, rfl, hs, hn, rfl, hf, hnd, hlt, q1, q2⟩ := h
  refine ⟨_, (pss_cons (ps_set (i := 2) sc_next_row.nd rfl (Or.inl rfl) (pe_ix ix_seq (pv 0) (pe_fld (pv 1) rfl) (fun _ _ => rfl)))
    (pss_cons (ps_if (pt_cmpR op_eq (pe_ix ix_tup (pe_kd T.BINDS rfl (pe_ix ix_tup (pv 2) pe_int (fun _ _ => rfl)) (fun _ _ => rfl)) (pe_callB call_len (by rfl) T.len (by decide +kernel) (pa_cons (pe_fld (pv 1) rfl) pa_nil)) (fun _ _ => rfl)) pe_int (by rfl)) 
      (pss_one (ps_ret (pe_fld (pv 1) rfl))) pss_nil)
    (pss_cons (ps_set (i := 3) sc_next_row.nd rfl (Or.inl rfl) (pe_cal c_bound_kind (hr.mono (by omega)) rfl pass0 (pa_cons (pv 2) (pa_cons (pe_fld (pv 1) rfl) pa_nil))))
    (pss_cons (ps_if (pt_cmpR op_isN (pv 3) pe_non (by rfl)) 
      (pss_one (ps_nk TN rfl (hr.mono (by omega)) rfl (takes_of rfl rfl rfl rfl) (pe_fld (pv 1) rfl))) pss_nil)
    (pss_one (ps_ret (pe_tup (pa_cons (pv 3) (pa_cons (pe_fld (pv 1) rfl) pa_nil))))))))), ?_⟩
  obtain ⟨dx, rv, ws, hp, hrow, hl, hk⟩ := hf
  obtain ⟨y, hy, hyn⟩ := NsAt.get hn hnd
  obtain ⟨b, u, rfl, hsn, _⟩ := NAt.tup hyn
  have lw := KsAt.length hk
  refine ⟨_, rfl, _, rfl, _, fr, dx, _, _, rfl, hp, T.cFrame, T.aFrame.1, rfl, ix_any hs hy ?_⟩
  obtain ⟨c, hc⟩ : ∃ c, (binds g.nd.w)[g.ks.length]? = some c := ⟨_, List.getElem?_eq_getElem hlt⟩
  refine ⟨_, rfl, _, _, _, _, rfl, rfl, hsn, at0, g.nd, rfl, fun t ht => ?_⟩
  refine ⟨_, rfl, _, fr, dx, _, _, rfl, hp, T.cFrame, T.aFrame.2.2, rfl, _, _, rfl, lenL (SqL.of hl), _, _, _, .int c, rfl, rfl, ht _, ?_, rfl, _, rfl, ?_⟩
  · rw [lw]
    refine atI_nat ?_
    rw [List.getElem?_map, hc]
    rfl
  by_cases c0 : c = 0
  · subst c0
    refine ifIT rfl ⟨_, rfl, _, fr, dx, _, _, rfl, hp, T.cFrame, T.aFrame.2.1, rfl, ?_⟩
    exact q1 g.row rv H (by rw [nextRow, if_pos hc]) (Same.refl _) hrow
  · refine ifIF (by omega) ?_
    have hc1 : (binds g.nd.w)[g.ks.length]? = some 1 := by
      rw [hc]
      have z : ∀ (n : Nd) (i c : Nat), (binds n.w)[i]? = some c → c = 0 ∨ c = 1 := by
        intro n i c h
        have m := List.mem_of_getElem? h
        revert m
        cases n <;> simp [binds, Nd.w] <;> omega
      rcases z _ _ _ hc with z | z
      · exact absurd z c0
      · rw [z]
    have nr : nextRow g = (boundKind g.nd g.ks).map (· :: g.row) := by
      rw [nextRow, if_neg]
      rw [hc]
      intro z
      exact c0 (Option.some.inj z)
    refine ⟨_, rfl, _, rfl, _, fr, dx, _, _, rfl, hp, T.cFrame, T.aFrame.2.2, rfl, _, _, rfl, g.nd, p.2, ws, g.ks, hyn, rfl, SqL.of hl, hk, hc1, fun v hv => ?_⟩
    cases hb : boundKind g.nd g.ks with
    | none =>
      rw [hb] at hv nr
      obtain rfl := Dp.non' hv
      refine ⟨_, rfl, rfl, true, rfl, iteT ?_⟩
      exact ⟨_, rfl, _, fr, dx, _, _, rfl, hp, T.cFrame, T.aFrame.1, rfl, nk_go (q2 nr)⟩
    | some k =>
      rw [hb] at hv nr
      obtain ⟨e, z, r, rfl, hse⟩ := KAt.tup hv
      refine ⟨_, rfl, rfl, false, rfl, iteF ?_⟩
      refine ⟨_, rfl, _, rfl, _, fr, dx, _, _, rfl, hp, T.cFrame, T.aFrame.2.1, rfl, fits2, fun d hd => ?_⟩
      have e1 := Same.new hd (.tup [V.ref e, rv])
      exact q1 (k :: g.row) _ _ nr e1 (.tup (SqT.of upd_same) (.cons (KAt.tk hv (TK.of e1)) (.cons (hrow.tk (TK.of e1)) .nil)))
end
end K17
/-! K11: the machine: finished, kinds_of. -/
namespace K17
open PySem L2
/-! ### mirrors -/
def pushK (k : Kd) : List Fr → List Fr
  | [] => []
  | g :: gs => { g with ks := g.ks ++ [k] } :: gs
theorem pushK_len (k : Kd) (fs : List Fr) : (pushK k fs).length = fs.length := by cases fs <;> rfl
def finish : Nat → List Fr → List (Option Kd) → Option (List Fr × List (Option Kd))
  | _, [], kn => some ([], kn)
  | 0, _, _ => none
  | n + 1, f :: fs, kn => if f.ks.length < (binds f.nd.w).length then some (f :: fs, kn) else
    match kindBy f.nd f.ks with
    | none => none
    | some k => finish n (pushK k fs) (kn.set f.pos (some k))
/-- a frame that fits the nodes -/
structure WfF (ns : List Nd) (f : Fr) : Prop where
  at_ : ns[f.pos]? = some f.nd
  inn : f.nd.inner = true
  okn : okN f.nd = true
  len : f.ks.length ≤ (binds f.nd.w).length
  oks : ∀ k ∈ f.ks, okK k = true
  row : ∀ k ∈ f.row, okK k = true
def WfL (ns : List Nd) (fs : List Fr) : Prop := ∀ f ∈ fs, WfF ns f ∧ f.ks.length < (binds f.nd.w).length
def WfS (ns : List Nd) : List Fr → Prop
  | [] => True
  | f :: fs => WfF ns f ∧ WfL ns fs
theorem WfL.s {ns : List Nd} {fs : List Fr} (h : WfL ns fs) : WfS ns fs := by
  cases fs with
  | nil => trivial
  | cons f fs => exact ⟨(h f (by simp)).1, fun g hg => h g (by simp [hg])⟩
theorem WfL.push {ns : List Nd} {fs : List Fr} {k : Kd} (h : WfL ns fs) (hk : okK k = true) : WfS ns (pushK k fs) := by
  cases fs with
  | nil => trivial
  | cons f fs =>
    obtain ⟨w, l⟩ := h f (by simp)
    refine ⟨⟨w.at_, w.inn, w.okn, ?_, ?_, w.row⟩, fun g hg => h g (by simp [hg])⟩
    · show (f.ks ++ [k]).length ≤ _
      rw [List.length_append]
      exact l
    · intro q hq
      have hq' : q ∈ f.ks ++ [k] := hq
      rcases List.mem_append.mp hq' with z | z
      · exact w.oks q z
      · rw [List.mem_singleton.mp z]
        exact hk
/-! ### good kinds are made of good kinds -/
theorem okK_br {w : Bw} {a b : Kd} (h : okK (.br w a b) = true) : okK a = true ∧ okK b = true := by
  have h1 := okK_deep h
  have h2 := okK_size h
  simp only [Kd.deep, Kd.size] at h1 h2
  exact ⟨decide_eq_true ⟨by omega, by omega⟩, decide_eq_true ⟨by omega, by omega⟩⟩
theorem chk_ok {a k : Kd} (h : chk a = some k) : okK k = true := by
  unfold chk at h
  split at h
  · rename_i o
    rw [← Option.some.inj h]
    exact o
  · cases h
theorem kPart_ok {f : Bool} {a k : Kd} (h : kPart f a = some k) (o : okK a = true) : okK k = true := by
  cases a with
  | ltr _ => cases h
  | cnt => cases h
  | br w p q =>
    have := okK_br o
    cases w with
    | sum => cases h
    | fn => cases h
    | pair =>
      have e : (if f = true then p else q) = k := Option.some.inj h
      rw [← e]
      split
      · exact this.1
      · exact this.2
theorem kCall_ok {a b k : Kd} (h : kCall a b = some k) (o : okK a = true) : okK k = true := by
  cases a with
  | ltr _ => cases h
  | cnt => cases h
  | br w p q =>
    cases w with
    | sum => cases h
    | pair => cases h
    | fn =>
      simp only [kCall] at h
      split at h
      · rw [← Option.some.inj h]
        exact (okK_br o).2
      · cases h
theorem kindBy_ok {n : Nd} {ks : List Kd} {k : Kd} (h : kindBy n ks = some k) (on : okN n = true) (o : ∀ q ∈ ks, okK q = true) : okK k = true := by
  have few : kindFew n ks = some k → okK k = true := fun h => by
    unfold kindFew at h
    split at h
    · exact kCall_ok h (o _ (by simp))
    · exact kPart_ok h (o _ (by simp))
    · exact kPart_ok h (o _ (by simp))
    · split at h
      · rw [← Option.some.inj h]
        exact o _ (by simp)
      · cases h
    · split at h
      · rw [← Option.some.inj h]
        rfl
      · cases h
    · split at h
      · rw [← Option.some.inj h]
        exact on
      · cases h
    · rw [← Option.some.inj h]
      exact o _ (by simp)
    · cases h
  unfold kindBy at h
  split at h
  · exact chk_ok h
  · exact chk_ok h
  · exact chk_ok h
  · exact chk_ok h
  · exact few h
theorem boundKind_ok {n : Nd} {ks : List Kd} {k : Kd} (h : boundKind n ks = some k) (on : okN n = true) (o : ∀ q ∈ ks, okK q = true) : okK k = true := by
  unfold boundKind at h
  split at h
  · have := okK_br (o _ List.mem_cons_self)
    split at h
    · rw [← Option.some.inj h]
      exact this.1
    · rw [← Option.some.inj h]
      exact this.2
  · cases h
  · rw [← Option.some.inj h]
    exact o _ (by simp)
  · rw [← Option.some.inj h]
    exact on
  · rw [← Option.some.inj h]
    exact on
  · cases h
theorem finish_wf {ns : List Nd} : ∀ (m : Nat) {fs fs' : List Fr} {kn kn' : List (Option Kd)}, WfS ns fs → finish m fs kn = some (fs', kn') → WfL ns fs' ∧ kn'.length = kn.length := by
  intro m
  induction m with
  | zero =>
    intro fs fs' kn kn' wf h
    cases fs with
    | nil =>
      rw [finish] at h
      cases h
      exact ⟨fun f hf => by simp at hf, rfl⟩
    | cons f fs => simp [finish] at h
  | succ m ih =>
    intro fs fs' kn kn' wf h
    cases fs with
    | nil =>
      rw [finish] at h
      cases h
      exact ⟨fun f hf => by simp at hf, rfl⟩
    | cons f fs =>
      rw [finish] at h
      split at h
      · rename_i l
        cases h
        refine ⟨fun g hg => ?_, rfl⟩
        rcases List.mem_cons.mp hg with z | z
        · rw [z]
          exact ⟨wf.1, l⟩
        · exact wf.2 g z
      · split at h
        · cases h
        · rename_i k hk
          obtain ⟨a, b⟩ := ih (wf.2.push (kindBy_ok hk wf.1.okn wf.1.oks)) h
          rw [List.length_set] at b
          exact ⟨a, b⟩
/-! ### the machine in the heap -/
section
variable {P : Program} {w : World} {K : PySem.W.Frag} {mg : Str → Option Value} {base : Heap} {fr nk nkI : Addr} {fd : FuncData}
inductive Frs (K : PySem.W.Frag) (fr : Addr) (H : Hp) : List (Addr × Addr) → List Fr → Prop where
  | nil : Frs K fr H [] []
  | cons {p : Addr × Addr} {f : Fr} {as : List (Addr × Addr)} {fs : List Fr} : FrAt K fr H p f → Frs K fr H as fs → Frs K fr H (p :: as) (f :: fs)
theorem Frs.length {H : Hp} : ∀ {as : List (Addr × Addr)} {fs : List Fr}, Frs K fr H as fs → as.length = fs.length
  | _, _, .nil => rfl
  | _, _, .cons _ t => congrArg Nat.succ (Frs.length t)
theorem Frs.same {H H' : Hp} (s : Same H H') : ∀ {as : List (Addr × Addr)} {fs : List Fr}, Frs K fr H as fs → Frs K fr H' as fs
  | _, _, .nil => .nil
  | _, _, .cons a t => .cons (a.same s) (Frs.same s t)
theorem FrAt.put {H : Hp} {b : Addr} {xs ys : List V} {p : Addr × Addr} {f : Fr} (h : FrAt K fr H p f) (hb : H b = some (.lst xs)) (ne : p.2 ≠ b) : FrAt K fr (L2.upd H b (.lst ys)) p f := by
  obtain ⟨dx, rv, vs, h1, h2, h3, h4⟩ := h
  have tk := TK.upd hb rfl (.lst ys)
  have n1 : p.1 ≠ b := fun z => by
    rw [z, hb] at h1
    cases h1
  exact ⟨dx, rv, vs, by rw [upd_ne n1]; exact h1, h2.tk tk, by rw [upd_ne ne]; exact h3, h4.tk tk⟩
theorem Frs.put {H : Hp} {b : Addr} {xs ys : List V} (hb : H b = some (.lst xs)) {as : List (Addr × Addr)} {fs : List Fr} (n : b ∉ as.map (·.2)) (h : Frs K fr H as fs) : Frs K fr (L2.upd H b (.lst ys)) as fs := by
  induction h with
  | nil => exact .nil
  | cons a t ih =>
    simp only [List.map_cons, List.mem_cons, not_or] at n
    exact .cons (a.put hb (Ne.symm n.1)) (ih n.2)
structure Mach (K : PySem.W.Frag) (fr : Addr) (H0 H : Hp) (F Kx : Addr) (as : List (Addr × Addr)) (fs : List Fr) (kn : List (Option Kd)) : Prop where
  same : Same H0 H
  hF : H F = some (.lst (as.reverse.map fun p => V.ref p.1))
  hK : ∃ vs, H Kx = some (.lst vs) ∧ DpAll K H vs (kn.map dO)
  fr : Frs K fr H as fs
  nod : (F :: Kx :: as.map (·.2)).Nodup
  new : ∀ b ∈ F :: Kx :: as.map (·.2), H0 b = none
theorem noL_os : ∀ ks : List (Option Kd), noLs (ks.map dO) = true
  | [] => rfl
  | k :: r => by simp [noLs, noL_dO k, noL_os r]
section
variable {H0 H H' : Hp} {F Kx : Addr} {as : List (Addr × Addr)} {fs : List Fr} {kn : List (Option Kd)} {p : Addr × Addr} {f : Fr} {k : Kd}
theorem Mach.grow (m : Mach K fr H0 H F Kx as fs kn) (s : Same H H') : Mach K fr H0 H' F Kx as fs kn := by
  obtain ⟨vs, h1, h2⟩ := m.hK
  exact ⟨m.same.trans s, s _ _ m.hF, ⟨vs, s _ _ h1, DpAll.same s _ _ h2⟩, m.fr.same s, m.nod, m.new⟩
theorem Mach.ne (m : Mach K fr H0 H F Kx as fs kn) : F ≠ Kx ∧ F ∉ as.map (·.2) ∧ Kx ∉ as.map (·.2) := by
  have n := m.nod
  simp only [List.nodup_cons, List.mem_cons, not_or] at n
  exact ⟨n.1.1, n.1.2, n.2.1⟩
/-- frames.pop() -/
theorem Mach.pop (m : Mach K fr H0 H F Kx (p :: as) (f :: fs) kn) : Mach K fr H0 (upd H F (.lst (as.reverse.map fun p => V.ref p.1))) F Kx as fs kn ∧ FrAt K fr (upd H F (.lst (as.reverse.map fun p => V.ref p.1))) p f := by
  obtain ⟨n1, n2, n3⟩ := m.ne
  obtain ⟨vs, h1, h2⟩ := m.hK
  have fF := m.new F (by simp)
  simp only [List.map_cons, List.mem_cons, not_or] at n2 n3
  cases m.fr with
  | cons a t =>
    refine ⟨⟨K17.Same.upd m.same fF _, upd_same, ⟨vs, by rw [upd_ne (Ne.symm n1)]; exact h1, DpAll.tk (TK.upd m.hF rfl _) _ _ (noL_os kn) h2⟩, Frs.put m.hF n2.2 t, ?_, fun b hb => m.new b ?_⟩, a.put m.hF (Ne.symm n2.1)⟩
    · have n := m.nod
      simp only [List.map_cons, List.nodup_cons, List.mem_cons, not_or] at n ⊢
      exact ⟨⟨n.1.1, n.1.2.2⟩, n.2.1.2, n.2.2.2⟩
    · simp only [List.map_cons, List.mem_cons] at hb ⊢
      rcases hb with z | z | z
      · exact .inl z
      · exact .inr (.inl z)
      · exact .inr (.inr (.inr z))
/-- kinds[i] = k -/
theorem Mach.put {i : Nat} {v : V} {vs : List V} (m : Mach K fr H0 H F Kx as fs kn) (hK : H Kx = some (.lst vs)) (hv : OAt K H v (some k)) : Mach K fr H0 (L2.upd H Kx (.lst (vs.set i v))) F Kx as fs (kn.set i (some k)) := by
  obtain ⟨n1, n2, n3⟩ := m.ne
  obtain ⟨vs', h1, h2⟩ := m.hK
  rw [hK] at h1
  cases h1
  have tk := TK.upd hK rfl (.lst (vs.set i v))
  refine ⟨K17.Same.upd m.same (m.new Kx (by simp)) _, by rw [upd_ne n1]; exact m.hF, ⟨_, upd_same, ?_⟩, Frs.put hK n3 m.fr, m.nod, m.new⟩
  have go : ∀ (i : Nat) (ks : List (Option Kd)) (us : List V), DpAll K (L2.upd H Kx (.lst (vs.set i v))) us (ks.map dO) → ∀ j, DpAll K (L2.upd H Kx (.lst (vs.set i v))) (us.set j v) ((ks.set j (some k)).map dO) := by
    intro i ks
    induction ks with
    | nil =>
      intro us h j
      cases h
      cases j <;> exact .nil
    | cons q ks ih =>
      intro us h j
      have h' : DpAll K _ us (dO q :: ks.map dO) := h
      cases h' with
      | cons a b =>
        cases j with
        | zero => exact .cons (Dp.tk (by
            have z := TK.upd (H := H) hK rfl (.lst (vs.set i v))
            exact z) _ _ (noL_dO (some k)) hv) b
        | succ j => exact .cons a (ih _ b j)
  exact go i kn vs (DpAll.tk tk _ _ (noL_os kn) h2) i
/-- frames[-1].own_some.append(k) -/
theorem Mach.app {v : V} {vs : List V} (m : Mach K fr H0 H F Kx (p :: as) (f :: fs) kn) (hs : H p.2 = some (.lst vs)) (hv : KAt K H v k) : Mach K fr H0 (L2.upd H p.2 (.lst (vs ++ [v]))) F Kx (p :: as) (pushK k (f :: fs)) kn := by
  obtain ⟨n1, n2, n3⟩ := m.ne
  obtain ⟨ws, h1, h2⟩ := m.hK
  simp only [List.map_cons, List.mem_cons, not_or] at n2 n3
  have tk := TK.upd hs rfl (.lst (vs ++ [v]))
  have nd := m.nod
  simp only [List.map_cons, List.nodup_cons, List.mem_cons, not_or] at nd
  refine ⟨K17.Same.upd m.same (m.new p.2 (by simp)) _, by rw [upd_ne n2.1]; exact m.hF, ⟨ws, by rw [upd_ne n3.1]; exact h1, DpAll.tk tk _ _ (noL_os kn) h2⟩, ?_, m.nod, m.new⟩
  cases m.fr with
  | cons a t =>
    refine .cons ?_ (Frs.put hs nd.2.2.1 t)
    obtain ⟨dx, rv, us, g1, g2, g3, g4⟩ := a
    rw [hs] at g3
    cases g3
    have np : p.1 ≠ p.2 := fun z => by
      rw [z, hs] at g1
      cases g1
    refine ⟨dx, rv, _, by rw [upd_ne np]; exact g1, g2.tk tk, upd_same, ?_⟩
    show DpAll K _ _ ((f.ks ++ [k]).map dK)
    rw [List.map_append]
    exact DpAll.app (g4.tk tk) (.cons (hv.tk tk) .nil)
/-- frames.append(Frame(..)) -/
theorem Mach.add {xs : List V} (m : Mach K fr H0 H F Kx as fs kn) (a : FrAt K fr H p f) (n0 : H0 p.2 = none) (nF : p.2 ≠ F) (nK : p.2 ≠ Kx) (nas : p.2 ∉ as.map (·.2)) (e : xs = as.reverse.map fun p => V.ref p.1) :
    Mach K fr H0 (L2.upd H F (.lst (xs ++ [.ref p.1]))) F Kx (p :: as) (f :: fs) kn := by
  subst e
  obtain ⟨n1, n2, n3⟩ := m.ne
  obtain ⟨ws, h1, h2⟩ := m.hK
  have tk := TK.upd m.hF rfl (.lst ((as.reverse.map fun p => V.ref p.1) ++ [.ref p.1]))
  refine ⟨K17.Same.upd m.same (m.new F (by simp)) _, by rw [upd_same]; simp, ⟨ws, by rw [upd_ne (Ne.symm n1)]; exact h1, DpAll.tk tk _ _ (noL_os kn) h2⟩, .cons (a.put m.hF nF) (Frs.put m.hF n2 m.fr), ?_, fun b hb => ?_⟩
  · have nd := m.nod
    simp only [List.map_cons, List.nodup_cons, List.mem_cons, not_or] at nd ⊢
    exact ⟨⟨n1, Ne.symm nF, n2⟩, ⟨Ne.symm nK, n3⟩, nas, nd.2.2⟩
  · simp only [List.map_cons, List.mem_cons] at hb
    rcases hb with z | z | z | z
    · rw [z]; exact m.new F (by simp)
    · rw [z]; exact m.new Kx (by simp)
    · rw [z]; exact n0
    · exact m.new b (by simp [z])
end
end
end K17
/-! K12: finished, kinds_of. -/
namespace K17
open PySem L2
section
variable {P : Program} {w : World} {K : PySem.W.Frag} {mg : Str → Option Value} {base : Heap} {fr nk nkI : Addr} {fd : FuncData}
abbrev N_finished : List Str := ["nodes", "frames", "kinds", "frame", "node", "kind"]
theorem sc_finished : FnScope N_finished ["nodes", "frames", "kinds"] (defScope (top 67)) := ⟨rfl, rfl, rfl, by decide +kernel, rfl, by decide +kernel, by decide +kernel⟩
def gFinished (K : PySem.W.Frag) (fr nk : Addr) : G3 := fun nv fv kv H Q E => ∃ (H0 : Hp) (a : Addr) (xs : List V) (ns : List Nd) (F Kx : Addr) (as : List (Addr × Addr)) (fs : List Fr) (kn : List (Option Kd)), nv = .ref a ∧ fv = .ref F ∧ kv = .ref Kx ∧ SqS K H0 a xs ∧ NsAt K H0 xs ns ∧ ns.length = kn.length ∧
  Mach K fr H0 H F Kx as fs kn ∧ WfS ns fs ∧ (∀ fs' kn' as' H', finish fs.length fs kn = some (fs', kn') → Mach K fr H0 H' F Kx as' fs' kn' → Q .non H') ∧ (finish fs.length fs kn = none → ∀ d H', Same H0 H' → E (.ref nk) d H')
theorem ok_finished (T : Txt K w mg fr fd nk nkI) (TN : NkT K mg nk nkI) (D : Df K mg "finished" (top 67)) (c_kind_by : Cal P w K mg base CX0 "kind_by" 6 ["node", "some"] (sp2 (gKindBy K))) :
    Cal P w K mg base (L2.CX P w) "finished" 7 ["nodes", "frames", "kinds"] (sp3 (gFinished K fr nk)) := by
  refine D.calX sc_finished (bs3 fun _ _ _ _ _ _ _ _ _ => rfl) sp3_len fun f cdv A outer s H vs Q E hr h => ?_
  obtain ⟨_, _, _, rfl, H0, a, xs, ns, F, Kx, as, fs, kn, rfl, rfl, rfl, hs, hn, hlen, M, W, q1, q2⟩ := h
  refine ⟨_, (pss_one (ps_while (passes_of rfl) (pt_cmpR op_gt (pe_callB call_len (by rfl) T.len (by decide +kernel) (pa_cons (pv 1) pa_nil)) pe_int (by rfl)) 
      (pss_cons (ps_set (i := 3) sc_finished.nd rfl (Or.inl rfl) (pe_ix ix_list (pv 1) (pe_un un_neg pe_int) (fun _ _ => rfl)))
      (pss_cons (ps_set (i := 4) sc_finished.nd rfl (Or.inl rfl) (pe_ix ix_seq (pv 0) (pe_fld (pv 3) rfl) (fun _ _ => rfl)))
      (pss_cons (ps_if (pt_cmpR op_lt (pe_callB call_len (by rfl) T.len (by decide +kernel) (pa_cons (pe_fld (pv 3) rfl) pa_nil)) (pe_callB call_len (by rfl) T.len (by decide +kernel) (pa_cons (pe_kd T.BINDS rfl (pe_ix ix_tup (pv 4) pe_int (fun _ _ => rfl)) (fun _ _ => rfl)) pa_nil)) (by rfl)) 
        (pss_one ps_retN) pss_nil)
      (pss_cons (ps_expr (pe_bm0 PySem.F.plainAttrs_list PySem.F.slot_list_pop PySem.F.type_list_pop mt_pop (pv 1)))
      (pss_cons (ps_set (i := 5) sc_finished.nd rfl (Or.inl rfl) (pe_cal c_kind_by (hr.mono (by omega)) rfl pass0 (pa_cons (pv 4) (pa_cons (pe_fld (pv 3) rfl) pa_nil))))
      (pss_cons (ps_if (pt_cmpR op_isN (pv 5) pe_non (by rfl)) 
        (pss_one (ps_nk TN rfl (hr.mono (by omega)) rfl (takes_of rfl rfl rfl rfl) (pe_fld (pv 3) rfl))) pss_nil)
      (pss_cons (ps_asg (pv 5) (pg_sub (pv 2) (pe_fld (pv 3) rfl) set_list))
      (pss_one (ps_if (pt_cmpR op_gt (pe_callB call_len (by rfl) T.len (by decide +kernel) (pa_cons (pv 1) pa_nil)) pe_int (by rfl)) 
        (pss_one (ps_expr (pe_bm PySem.F.plainAttrs_list PySem.F.slot_list_append PySem.F.type_list_append mt_append (pe_fld (pe_ix ix_list (pv 1) (pe_un un_neg pe_int) (fun _ _ => rfl)) rfl) (pa_cons (pv 5) pa_nil)))) pss_nil))))))))))), ?_⟩
  refine ⟨fun m σ H' => ∃ (as' : List (Addr × Addr)) (fs' : List Fr) (kn' : List (Option Kd)) (o3 o4 o5 : Option V), m = fs'.length ∧ Mach K fr H0 H' F Kx as' fs' kn' ∧ WfS ns fs' ∧ kn'.length = kn.length ∧ finish fs.length fs kn = finish fs'.length fs' kn' ∧ σ = [some (.ref a), some (.ref F), some (.ref Kx), o3, o4, o5],
    ⟨fs.length, as, fs, kn, none, none, none, rfl, M, W, rfl, rfl, rfl⟩, ?_⟩
  rintro m σ H' ⟨as', fs', kn', o3, o4, o5, rfl, M', W', hkl, hfin, rfl⟩
  refine ⟨_, rfl, _, _, rfl, lenL (SqL.of M'.hF), _, _, rfl, rfl, _, rfl, ?_⟩
  rw [List.length_map, List.length_reverse, M'.fr.length]
  cases fs' with
  | nil => exact ifF rfl (q1 _ _ _ _ (hfin.trans (by simp [finish])) M')
  | cons g gs =>
    refine ifT (decide_eq_true (by simp)) ?_
    obtain ⟨p, ps, rfl⟩ : ∃ p ps, as' = p :: ps := by
      cases as' with
      | nil => cases M'.fr
      | cons p ps => exact ⟨p, ps, rfl⟩
    have hF := M'.hF
    rw [List.reverse_cons, List.map_append] at hF
    have sm := M'.same
    obtain ⟨wg, wgs⟩ := W'
    obtain ⟨y, hy, hyn⟩ := NsAt.get hn wg.at_
    obtain ⟨b, u, rfl, hsn, _⟩ := NAt.tup hyn
    obtain ⟨dx, rv, ws, hp, hrow, hl, hk⟩ : FrAt K fr H' p g := by
      cases M'.fr with
      | cons a t => exact a
    have lw := KsAt.length hk
    refine ⟨_, fun σ' H'' z => z, _, rfl, _, rfl, _, _, _, _, rfl, rfl, SqL.of hF, atI_last _ _, ?_⟩
    refine ⟨_, rfl, _, rfl, _, fr, dx, _, _, rfl, hp, T.cFrame, T.aFrame.1, rfl, ix_any (SqS.same sm hs) hy ?_⟩
    refine ⟨_, rfl, _, fr, dx, _, _, rfl, hp, T.cFrame, T.aFrame.2.2, rfl, _, _, rfl, lenL (SqL.of hl), ?_⟩
    refine ⟨_, rfl, _, _, _, _, rfl, rfl, SqT.same sm hsn, at0, g.nd, rfl, fun t ht => ⟨_, _, rfl, lenT (ht _), _, _, rfl, rfl, _, rfl, ?_⟩⟩
    rw [List.length_map, lw]
    by_cases c : g.ks.length < (binds g.nd.w).length
    · refine ifT (decide_eq_true (by omega)) ?_
      refine q1 _ _ _ _ (hfin.trans ?_) M'
      rw [List.length_cons, finish, if_pos c]
    · refine ifF (decide_eq_false (by omega)) ?_
      have hfin2 : finish fs.length fs kn = match kindBy g.nd g.ks with | none => none | some k => finish gs.length (pushK k gs) (kn'.set g.pos (some k)) := by
        rw [hfin, List.length_cons, finish, if_neg c]
        all_goals (cases kindBy g.nd g.ks <;> rfl)
      obtain ⟨M2, f2⟩ := M'.pop
      refine ⟨_, rfl, .inl ⟨rfl, _, SqL.of hF⟩, F, (ps.reverse.map fun p => V.ref p.1) ++ [V.ref p.1], V.ref p.1, rfl, rfl, hF, by simp, ?_⟩
      rw [List.dropLast_concat]
      obtain ⟨dx2, rv2, ws2, hp2, hrow2, hl2, hk2⟩ := f2
      have sm2 := M2.same
      have hyn2 : NAt K (upd H' F (.lst (ps.reverse.map fun p => V.ref p.1))) (.ref b) g.nd := hyn.tk (TK.of sm2)
      refine ⟨_, rfl, _, rfl, _, fr, dx2, _, _, rfl, hp2, T.cFrame, T.aFrame.2.2, rfl, _, _, rfl, g.nd, g.ks, ⟨hyn2, ⟨p.2, ws2, rfl, SqL.of hl2, hk2⟩, Nat.le_antisymm wg.len (Nat.le_of_not_lt c), wg.inn, wg.okn, wg.oks⟩, fun v H3 e3 hv => ?_⟩
      have M3 := M2.grow e3
      have hp3 := e3 _ _ hp2
      cases hb : kindBy g.nd g.ks with
      | none =>
        rw [hb] at hv hfin2
        obtain rfl := Dp.non' hv
        refine ⟨_, rfl, rfl, true, rfl, iteT ?_⟩
        exact ⟨_, rfl, _, fr, dx2, _, _, rfl, hp3, T.cFrame, T.aFrame.1, rfl, nk_go fun d H4 e4 => q2 hfin2 d H4 (M3.same.trans e4)⟩
      | some k =>
        rw [hb] at hv hfin2
        obtain ⟨e, z, r, rfl, hse⟩ := KAt.tup hv
        obtain ⟨kvs, hK, hKd⟩ := M3.hK
        have lkv := DpAll.length hKd
        rw [List.length_map, hkl, ← hlen] at lkv
        have hpos : g.pos < kvs.length := by
          rw [lkv]
          exact (List.getElem?_eq_some_iff.mp wg.at_).1
        refine ⟨_, rfl, rfl, false, rfl, iteF ?_⟩
        refine ⟨_, rfl, _, rfl, _, rfl, _, fr, dx2, _, _, rfl, hp3, T.cFrame, T.aFrame.1, rfl, Kx, kvs, _, g.pos, rfl, rfl, hK, ?_, ?_⟩
        · unfold ixN
          rw [if_pos (by omega), if_pos (by omega), Int.toNat_natCast]
        have M4 := M3.put (i := g.pos) hK hv
        have ok := kindBy_ok hb wg.okn wg.oks
        refine ⟨_, rfl, _, _, rfl, lenL (SqL.of M4.hF), _, _, rfl, rfl, _, rfl, ?_⟩
        rw [List.length_map, List.length_reverse, M4.fr.length]
        have mok : ∀ (o3 o4 o5 : Option V) (ps' : List (Addr × Addr)) (H5 : Hp), Mach K fr H0 H5 F Kx ps' (pushK k gs) (kn'.set g.pos (some k)) → ∃ m', m' < (g :: gs).length ∧ ∃ (as' : List (Addr × Addr)) (fs' : List Fr) (kn' : List (Option Kd)) (p3 p4 p5 : Option V), m' = fs'.length ∧ Mach K fr H0 H5 F Kx as' fs' kn' ∧ WfS ns fs' ∧ kn'.length = kn.length ∧
            finish fs.length fs kn = finish fs'.length fs' kn' ∧ [some (V.ref a), some (.ref F), some (.ref Kx), o3, o4, o5] = [some (.ref a), some (.ref F), some (.ref Kx), p3, p4, p5] := fun o3 o4 o5 ps' H5 M5 =>
          ⟨_, by rw [pushK_len, List.length_cons]; exact Nat.lt_succ_self _, ps', pushK k gs, kn'.set g.pos (some k), o3, o4, o5, rfl, M5, wgs.push ok, by rw [List.length_set]; exact hkl, by rw [hfin2, pushK_len], rfl⟩
        cases gs with
        | nil => exact ifF rfl (mok _ _ _ ps _ M4)
        | cons g2 gs =>
          obtain ⟨p2, ps2, rfl⟩ : ∃ p2 ps2, ps = p2 :: ps2 := by
            cases ps with
            | nil => cases M4.fr
            | cons p ps => exact ⟨p, ps, rfl⟩
          refine ifT (decide_eq_true (by simp)) ?_
          have hF4 := M4.hF
          rw [List.reverse_cons, List.map_append] at hF4
          obtain ⟨dx4, rv4, ws4, hp4, hrow4, hl4, hk4⟩ : FrAt K fr (upd H3 Kx (.lst (kvs.set g.pos (.ref e)))) p2 g2 := by
            cases M4.fr with
            | cons a t => exact a
          have lw4 := KsAt.length hk4
          refine ⟨_, rfl, _, rfl, _, _, _, _, rfl, rfl, SqL.of hF4, atI_last _ _, _, fr, dx4, _, _, rfl, hp4, T.cFrame, T.aFrame.2.2, rfl, .inl ⟨rfl, _, SqL.of hl4⟩, _, rfl, _, _, _, rfl, rfl, hl4, ?_, ?_⟩
          · have z := (wgs g2 (by simp)).2
            rw [lw4, line_eq]
            have z2 : ∀ n : Nd, (binds n.w).length ≤ 3 := fun n => by cases n <;> simp [binds, Nd.w]
            have := z2 g2.nd
            omega
          · exact mok _ _ _ (p2 :: ps2) _ (M4.app hl4 (hv.tk (TK.upd hK rfl _)))
end
end K17
/-! K13: kinds_of. -/
namespace K17
open PySem L2
/-! ### mirror -/
def rowOf (top : List Kd) : List Fr → Option (List Kd)
  | [] => some top
  | f :: _ => nextRow f
def run (top : List Kd) : Nat → List Nd → List Fr → List (Option Kd) → Option (List (Option Kd))
  | _, [], _, kn => some kn
  | i, n :: r, fs, kn =>
    match rowOf top fs with
    | none => none
    | some row =>
      if n.inner = true then run top (i + 1) r (⟨i, n, row, []⟩ :: fs) kn
      else match kindLeaf n row with
        | none => none
        | some k => match finish fs.length (pushK k fs) (kn.set i (some k)) with
          | none => none
          | some q => run top (i + 1) r q.1 q.2
def kindsOf (names : List Kd) (ns : List Nd) : Option (List (Option Kd)) := run names 0 ns [] (List.replicate ns.length none)
theorem rowOf_ok {ns : List Nd} {top row : List Kd} {fs : List Fr} (h : rowOf top fs = some row) (ht : ∀ k ∈ top, okK k = true) (W : WfL ns fs) : ∀ k ∈ row, okK k = true := by
  cases fs with
  | nil =>
    have : top = row := Option.some.inj h
    rw [← this]
    exact ht
  | cons f fs =>
    have w := (W f (by simp)).1
    have h' : nextRow f = some row := h
    unfold nextRow at h'
    split at h'
    · rw [← Option.some.inj h']
      exact w.row
    · cases hb : boundKind f.nd f.ks with
      | none => rw [hb] at h'; cases h'
      | some k =>
        rw [hb] at h'
        have e : k :: f.row = row := Option.some.inj h'
        rw [← e]
        intro q hq
        rcases List.mem_cons.mp hq with z | z
        · rw [z]
          exact boundKind_ok hb w.okn w.oks
        · exact w.row q z
theorem kindLeaf_ok {n : Nd} {row : List Kd} {k : Kd} (h : kindLeaf n row = some k) (hr : ∀ q ∈ row, okK q = true) : okK k = true := by
  unfold kindLeaf at h
  split at h
  · exact hr k (List.mem_of_getElem? h)
  · rw [← Option.some.inj h]
    rfl
theorem finish_len : ∀ (m : Nat) {fs fs' : List Fr} {kn kn' : List (Option Kd)}, finish m fs kn = some (fs', kn') → fs'.length ≤ fs.length := by
  intro m
  induction m with
  | zero =>
    intro fs fs' kn kn' h
    cases fs with
    | nil =>
      rw [finish] at h
      cases h
      exact Nat.le_refl _
    | cons f fs => simp [finish] at h
  | succ m ih =>
    intro fs fs' kn kn' h
    cases fs with
    | nil =>
      rw [finish] at h
      cases h
      exact Nat.le_refl _
    | cons f fs =>
      rw [finish] at h
      split at h
      · cases h
        exact Nat.le_refl _
      · split at h
        · cases h
        · have := ih h
          rw [pushK_len] at this
          rw [List.length_cons]
          omega
theorem Frs.there {K : PySem.W.Frag} {fr : Addr} {H : Hp} {as : List (Addr × Addr)} {fs : List Fr} (h : Frs K fr H as fs) {b : Addr} (hb : H b = none) : b ∉ as.map (·.2) := by
  induction h with
  | nil => simp
  | cons a t ih =>
    obtain ⟨dx, rv, vs, h1, h2, h3, h4⟩ := a
    simp only [List.map_cons, List.mem_cons, not_or]
    refine ⟨fun z => ?_, ih⟩
    rw [z, h3] at hb
    cases hb
theorem for_enS {K : PySem.W.Frag} {a : Addr} {xs : List V} {ta : TA} {g : TG} {tb : TS} {D : Ends} {σ : L2.St} {H0 H : Hp} (hv : ∀ R : List V → Hp → Prop, R [.ref a] H → ta σ H R) (Pv : Nat → L2.St → Hp → Prop) (hL : SqS K H0 a xs)
    (h0 : Pv 0 σ H) (hl : ∀ i σ H', Pv i σ H' → Same H0 H')
    (hs : ∀ i x σ H T, xs[i]? = some x → Pv i σ H → H T = none → g (.ref T) σ (upd H T (.tup [.int (i : Nat), x])) fun σ2 H2 => tb { D with nx := Pv (i + 1), ct := Pv (i + 1), bk := D.nx } σ2 H2)
    (hd : ∀ σ H, Pv xs.length σ H → D.nx σ H) : tFor (iEnumS K ta) g tb D σ H := by
  refine hv _ ⟨a, xs, rfl, for_enum Pv ?_ h0 hs hd⟩
  rcases hL with hL | hL
  · exact .inl ⟨SqL.same (hl _ _ _ h0) hL, fun i σ H' _ p => SqL.same (hl _ _ _ p) hL⟩
  · exact .inr ⟨SqT.same (hl _ _ _ h0) hL, fun i σ H' _ p => SqT.same (hl _ _ _ p) hL⟩
section
variable {P : Program} {w : World} {K : PySem.W.Frag} {mg : Str → Option Value} {base : Heap} {fr nk nkI : Addr} {fd : FuncData}
abbrev N_kinds_of : List Str := ["names", "nodes", "node", "kinds", "frames", "top", "position", "row", "kind"]
theorem sc_kinds_of : FnScope N_kinds_of ["names", "nodes"] (defScope (top 68)) := ⟨rfl, rfl, rfl, by decide +kernel, rfl, by decide +kernel, by decide +kernel⟩
def gKindsOf (K : PySem.W.Frag) (nk : Addr) : G2 := fun nv sv H Q E => ∃ (na : Addr) (nxs : List V) (names : List Kd) (a : Addr) (xs : List V) (ns : List Nd), nv = .ref na ∧ sv = .ref a ∧ SqS K H na nxs ∧ KsAt K H nxs names ∧ (∀ k ∈ names, okK k = true) ∧ SqS K H a xs ∧ NsAt K H xs ns ∧ (∀ n ∈ ns, okN n = true) ∧ ns.length ≤ 300 ∧
  (∀ kn p vs H', kindsOf names ns = some kn → Same H H' → H p = none → H' p = some (.lst vs) → DpAll K H' vs (kn.map dO) → Q (.ref p) H') ∧ (kindsOf names ns = none → ∀ d H', Same H H' → E (.ref nk) d H')
theorem ok_kinds_of (T : Txt K w mg fr fd nk nkI) (TN : NkT K mg nk nkI) (D : Df K mg "kinds_of" (top 68)) (c_row_of : Cal P w K mg base CX0 "row_of" 1 ["names"] (sp1 (gRow K)))
    (c_next_row : Cal P w K mg base (L2.CX P w) "next_row" 3 ["nodes", "frame"] (sp2 (gNextRow K fr nk))) (c_kind_of_leaf : Cal P w K mg base CX0 "kind_of_leaf" 2 ["node", "row"] (sp2 (gKindLeaf K)))
    (c_finished : Cal P w K mg base (L2.CX P w) "finished" 7 ["nodes", "frames", "kinds"] (sp3 (gFinished K fr nk))) :
    Cal P w K mg base (L2.CX P w) "kinds_of" 8 ["names", "nodes"] (sp2 (gKindsOf K nk)) := by
  refine D.calX sc_kinds_of (bs2 fun _ _ _ _ _ _ _ _ => rfl) sp2_len fun f cdv A outer s H vs Q E hr h => ?_
  obtain ⟨_, _, rfl, na, nxs, names, a, xs, ns, rfl, rfl, hns, hnk, hok, hs, hn, hokn, h300, q1, q2⟩ := h
  obtain ⟨ff, MF, FF, BF⟩ := ok_frI (P := P) (w := w) (base := base) T
  refine ⟨_, (pss_cons (ps_par3 (i := 3) (j := 4) (l := 5) rfl sc_kinds_of.nd rfl rfl rfl (by decide) (by decide) (by decide) rfl rfl rfl (pa_cons (pe_lc (own := [("node", 2)]) rfl sc_kinds_of.nd (pi_seq (pv 1)) (blkOk_by (own := [("node", 2)]) (N := N_kinds_of) (sc := defScope (top 68)) (by decide +kernel)) (fun _ _ _ _ _ => (pg_name (i := 2) sc_kinds_of.nd rfl (Or.inl rfl))) (fun _ _ _ _ _ => pts_nil) (fun _ _ _ _ _ => pe_non)) (pa_cons (pe_lst pa_nil) (pa_cons (pe_cal c_row_of (hr.mono (by omega)) rfl pass0 (pa_cons (pv 0) pa_nil)) pa_nil))) (by rfl))
    (pss_cons (ps_for (passes_of rfl) rfl (pi_enumS (by rfl) T.enumerate (pa_cons (pv 1) pa_nil)) (pg_tup rfl (pgs_cons (pg_name (i := 6) sc_kinds_of.nd rfl (Or.inl rfl)) (pgs_cons (pg_name (i := 2) sc_kinds_of.nd rfl (Or.inl rfl)) pgs_nil))) 
      (pss_cons (ps_set (i := 7) sc_kinds_of.nd rfl (Or.inl rfl) (pe_ifExp (pt_cmpR op_gt (pe_callB call_len (by rfl) T.len (by decide +kernel) (pa_cons (pv 4) pa_nil)) pe_int (by rfl)) (pe_calS c_next_row (hr.mono (by omega)) rfl (takes_of rfl rfl rfl rfl) (pa_cons (pv 1) (pa_cons (pe_ix ix_list (pv 4) (pe_un un_neg pe_int) (fun _ _ => rfl)) pa_nil))) (pv 5)))
      (pss_one (ps_if (pt_cmpR op_gt (pe_callB call_len (by rfl) T.len (by decide +kernel) (pa_cons (pe_kd T.BINDS rfl (pe_ix ix_tup (pv 2) pe_int (fun _ _ => rfl)) (fun _ _ => rfl)) pa_nil)) pe_int (by rfl)) 
        (pss_one (ps_expr (pe_bm PySem.F.plainAttrs_list PySem.F.slot_list_append PySem.F.type_list_append mt_append (pv 4) (pa_cons (pe_make MF FF (hr.mono (by omega)) rfl T.gFrame BF .nil pass0 (pa_cons (pv 6) (pa_cons (pv 7) pa_nil))) pa_nil)))) 
        (pss_cons (ps_set (i := 8) sc_kinds_of.nd rfl (Or.inl rfl) (pe_cal c_kind_of_leaf (hr.mono (by omega)) rfl pass0 (pa_cons (pv 2) (pa_cons (pv 7) pa_nil))))
        (pss_cons (ps_if (pt_cmpR op_isN (pv 8) pe_non (by rfl)) 
          (pss_one (ps_nk TN rfl (hr.mono (by omega)) rfl (takes_of rfl rfl rfl rfl) (pv 6))) pss_nil)
        (pss_cons (ps_asg (pv 8) (pg_sub (pv 3) (pv 6) set_list))
        (pss_cons (ps_if (pt_cmpR op_gt (pe_callB call_len (by rfl) T.len (by decide +kernel) (pa_cons (pv 4) pa_nil)) pe_int (by rfl)) 
          (pss_one (ps_expr (pe_bm PySem.F.plainAttrs_list PySem.F.slot_list_append PySem.F.type_list_append mt_append (pe_fld (pe_ix ix_list (pv 4) (pe_un un_neg pe_int) (fun _ _ => rfl)) rfl) (pa_cons (pv 8) pa_nil)))) pss_nil)
        (pss_one (ps_expr (pe_calS c_finished (hr.mono (by omega)) rfl (takes_of rfl rfl rfl rfl) (pa_cons (pv 1) (pa_cons (pv 4) (pa_cons (pv 3) pa_nil))))))))))))))
    (pss_one (ps_ret (pv 3))))), ?_⟩
  have lx := NsAt.length hn
  dsimp only [tSeq, tPar3, tCons, tNil]
  refine lc_seq (a := a) (xs := xs) (fun _ z => ⟨_, rfl, z⟩) (fun D i H' => Same H H' ∧ H' D = some (.lst (List.replicate i .non))) hs (fun D hD => ⟨Same.new hD _, upd_same⟩) (fun D i H' _ _ p => p.1) ?_ ?_
  · rintro D i x H' hD hx ⟨sm, hl⟩
    have hi : i < xs.length := (List.getElem?_eq_some_iff.mp hx).1
    refine ⟨rfl, _, hl, ?_, Same.upd sm hD _, ?_⟩
    · rw [line_eq, List.length_replicate]
      omega
    · rw [upd_same, List.replicate_succ']
  · rintro Kx H1 hKx ⟨e1, hK⟩
    refine ⟨fits0, fun F hF => ?_⟩
    have e2 := Same.new hF (.lst [])
    have e12 := e1.trans e2
    have fF : H F = none := e1.free hF
    have nFK : F ≠ Kx := fun z => by
      rw [z, hK] at hF
      cases hF
    refine ⟨_, rfl, _, rfl, na, nxs, names, rfl, SqS.same e12 hns, hnk.tk (TK.of e12), fun tv H3 e3 htv => ⟨_, _, _, rfl, ?_⟩⟩
    have e13 := e12.trans e3
    have h3F : H3 F = some (.lst []) := e3 _ _ upd_same
    have h3K : H3 Kx = some (.lst (List.replicate xs.length .non)) := e3 _ _ (e2 _ _ hK)
    obtain ⟨Hb, eb, sb, tb, fF, fK⟩ : ∃ Hb : Hp, Same H Hb ∧ Same Hb H3 ∧ TK H3 Hb ∧ Hb F = none ∧ Hb Kx = none := by
      refine ⟨fun b => if b = F ∨ b = Kx then none else H3 b, fun b o z => ?_, fun b o z => ?_, fun b o z t => ?_, if_pos (.inl rfl), if_pos (.inr rfl)⟩
      · show (if b = F ∨ b = Kx then none else H3 b) = some o
        rw [if_neg]
        · exact e13 b o z
        · rintro (q | q)
          · exact ne_of_none z fF q
          · exact ne_of_none z hKx q
      · have z' : (if b = F ∨ b = Kx then none else H3 b) = some o := z
        split at z'
        · cases z'
        · exact z'
      · show (if b = F ∨ b = Kx then none else H3 b) = some o
        rw [if_neg]
        · exact z
        · rintro (q | q)
          · rw [q, h3F] at z
            cases z
            cases t
          · rw [q, h3K] at z
            cases z
            cases t
    have htvb := htv.tk tb
    have M0 : Mach K fr Hb H3 F Kx [] [] (List.replicate ns.length none) := by
      refine ⟨sb, h3F, ⟨_, h3K, ?_⟩, .nil, by simp [nFK], fun b hb => ?_⟩
      · rw [lx]
        have go : ∀ n : Nat, DpAll K H3 (List.replicate n .non) ((List.replicate n (none : Option Kd)).map dO) := fun n => by
          induction n with
          | zero => exact .nil
          | succ n ih => exact .cons .non ih
        exact go _
      · simp only [List.map_nil, List.mem_cons, List.not_mem_nil, or_false] at hb
        rcases hb with z | z
        · rw [z]; exact fF
        · rw [z]; exact fK
    have hsb := SqS.same eb hs
    have hnb := hn.tk (TK.of eb)
    refine for_enS (a := a) (xs := xs) (H0 := Hb) (fun _ z => ⟨_, rfl, z⟩) (fun i σ H' => ∃ (as : List (Addr × Addr)) (fs : List Fr) (kn : List (Option Kd)) (o2 o6 o7 o8 : Option V), Mach K fr Hb H' F Kx as fs kn ∧ WfL ns fs ∧ fs.length ≤ i ∧ kn.length = ns.length ∧ kindsOf names ns = run names i (ns.drop i) fs kn ∧
      σ = [some (.ref na), some (.ref a), o2, some (.ref Kx), some (.ref F), some tv, o6, o7, o8]) hsb ⟨[], [], _, none, none, none, none, M0, fun f hf => by simp at hf, Nat.le_refl _, by simp, rfl, rfl⟩ (fun i σ H' ⟨_, _, _, _, _, _, _, m, _⟩ => m.same) ?_ ?_
    · rintro i x σ H' T' hx ⟨as, fs, kn, o2, o6, o7, o8, M, W, hfl, hkl, hrun, rfl⟩ hT
      obtain ⟨n, hn1, hn2⟩ := NsAt.get' (hnb.tk (TK.of M.same)) hx
      have hd : ns.drop i = n :: ns.drop (i + 1) := by
        obtain ⟨hi, z⟩ := List.getElem?_eq_some_iff.mp hn1
        rw [← z]
        exact List.drop_eq_getElem_cons hi
      have on := hokn n (List.mem_of_getElem? hn1)
      rw [hd] at hrun
      obtain ⟨b, r, rfl, hsn, _⟩ := NAt.tup hn2
      have eT := Same.new hT (.tup [V.int (i : Nat), .ref b])
      have MT := M.grow eT
      have htvT := htvb.tk (TK.of MT.same)
      have hsbT := SqT.same eT hsn
      refine ⟨T', [V.int (i : Nat), .ref b], rfl, SqT.of upd_same, rfl, _, _, rfl, _, _, rfl, rfl, ?_⟩
      refine asg_split (fun rv H4 => ∃ row, rowOf names fs = some row ∧ Same (upd H' T' (.tup [V.int (i : Nat), .ref b])) H4 ∧ RAt K H4 rv row) (fun Q hQ => ?_) ?_
      · refine ⟨_, rfl, _, _, rfl, lenL (SqL.of MT.hF), _, _, rfl, rfl, _, rfl, ?_⟩
        rw [List.length_map, List.length_reverse, MT.fr.length]
        cases fs with
        | nil => exact ifF rfl ⟨_, rfl, hQ _ _ ⟨names, rfl, Same.refl _, htvT⟩⟩
        | cons g gs =>
          refine ifT (decide_eq_true (by simp)) ?_
          obtain ⟨p, ps, rfl⟩ : ∃ p ps, as = p :: ps := by
            cases as with
            | nil => cases MT.fr
            | cons p ps => exact ⟨p, ps, rfl⟩
          have hF := MT.hF
          rw [List.reverse_cons, List.map_append] at hF
          obtain ⟨wg, lg⟩ := W g (by simp)
          have fg : FrAt K fr (upd H' T' (.tup [V.int (i : Nat), .ref b])) p g := by
            cases MT.fr with
            | cons a t => exact a
          refine ⟨_, rfl, _, rfl, _, rfl, _, _, _, _, rfl, rfl, SqL.of hF, atI_last _ _, _, _, rfl, a, xs, ns, p, g, rfl, SqS.same MT.same hsb, hnb.tk (TK.of MT.same), rfl, fg, wg.at_, lg, fun r v H4 h1 h2 h3 => hQ v H4 ⟨r, h1, h2, h3⟩, fun h1 d H4 h2 => q2 ?_ d H4 (eb.trans (MT.same.trans h2))⟩
          rw [hrun, K17.run]
          simp only [rowOf, h1]
      · rintro rv H4 ⟨row, hrow, e4, hrv⟩
        have M4 := MT.grow e4
        have hsb4 := SqT.same e4 hsbT
        have hn4 : NAt K H4 (.ref b) n := hn2.tk (TK.of (eT.trans e4))
        rw [K17.run] at hrun
        simp only [hrow] at hrun
        refine ⟨_, rfl, _, _, _, _, rfl, rfl, hsb4, at0, n, rfl, fun t ht => ⟨_, _, rfl, lenT (ht _), _, _, rfl, rfl, _, rfl, ?_⟩⟩
        rw [List.length_map]
        have rok := rowOf_ok hrow hok W
        cases hin : n.inner with
        | true =>
          have l0 : 0 < (binds n.w).length := by
            cases hb : binds n.w with
            | nil => simp [Nd.inner, hb] at hin
            | cons _ _ => simp
          rw [hin] at hrun
          refine ifT (decide_eq_true (by omega)) ?_
          refine ⟨_, rfl, .inl ⟨rfl, _, SqL.of M4.hF⟩, _, rfl, _, rfl, fun x dx hx hdx ne => ?_⟩
          refine ⟨x, dx, _, _, rfl, upd_same, fun L H5 hL nx keep h1 h2 => ⟨rfl, ?_⟩⟩
          have e5 : Same H4 H5 := fun c o z => keep c o (ne_of_none z hx) (by rw [upd_ne (ne_of_none z hx), upd_ne (ne_of_none z hdx)]; exact z)
          have M5 := M4.grow e5
          have hL4 : H4 L = none := by
            rw [upd_ne nx] at hL
            by_cases z : L = dx
            · rw [z, upd_same] at hL
              cases hL
            · rwa [upd_ne z] at hL
          obtain ⟨us, hK4, _⟩ := M4.hK
          have f5 : FrAt K fr H5 (x, L) ⟨i, n, row, []⟩ := ⟨dx, rv, [], h1, hrv.tk (TK.of e5), h2, .nil⟩
          refine ⟨F, _, V.ref x, rfl, rfl, M5.hF, ?_, ?_⟩
          · rw [List.length_map, List.length_reverse, M5.fr.length, line_eq]
            have := (List.getElem?_eq_some_iff.mp hn1).1
            omega
          · have M6 := M5.add f5 (M4.same.free hL4) (fun z => by
              rw [show L = F from z, M4.hF] at hL4
              cases hL4) (fun z => by
              rw [show L = Kx from z, hK4] at hL4
              cases hL4) (M4.fr.there hL4) rfl
            refine ⟨_, _, kn, _, _, _, _, M6, fun g hg => ?_, ?_, hkl, hrun, rfl⟩
            · rcases List.mem_cons.mp hg with z | z
              · rw [z]
                exact ⟨⟨hn1, hin, on, by simp, fun q hq => by simp at hq, rok⟩, l0⟩
              · exact W g z
            · rw [List.length_cons]
              omega
        | false =>
          have l0 : (binds n.w).length = 0 := by
            cases hb : binds n.w with
            | nil => rfl
            | cons _ _ => simp [Nd.inner, hb] at hin
          rw [hin] at hrun
          refine ifF (decide_eq_false (by omega)) ?_
          refine ⟨_, rfl, _, rfl, _, _, rfl, n, row, hn4, hrv, on, fun v hv => ?_⟩
          simp only [Bool.false_eq_true, if_false] at hrun
          cases hb : kindLeaf n row with
          | none =>
            rw [hb] at hv hrun
            obtain rfl := Dp.non' hv
            refine ⟨_, rfl, rfl, true, rfl, iteT ?_⟩
            exact ⟨_, rfl, nk_go fun d H5 e5 => q2 hrun d H5 (eb.trans (M4.same.trans e5))⟩
          | some k =>
            rw [hb] at hv hrun
            simp only at hrun
            obtain ⟨e, z, r3, rfl, hse⟩ := KAt.tup hv
            have ko := kindLeaf_ok hb rok
            refine ⟨_, rfl, rfl, false, rfl, iteF ?_⟩
            obtain ⟨us, hK4, hKd⟩ := M4.hK
            have lkv := DpAll.length hKd
            rw [List.length_map, hkl] at lkv
            have hi := (List.getElem?_eq_some_iff.mp hn1).1
            refine ⟨_, rfl, _, rfl, _, rfl, Kx, us, _, i, rfl, rfl, hK4, ?_, ?_⟩
            · unfold ixN
              rw [if_pos (by omega), if_pos (by omega), Int.toNat_natCast]
            have M5 := M4.put (i := i) hK4 hv
            have tk5 := TK.upd hK4 rfl (.lst (us.set i (.ref e)))
            refine ⟨_, rfl, _, _, rfl, lenL (SqL.of M5.hF), _, _, rfl, rfl, _, rfl, ?_⟩
            rw [List.length_map, List.length_reverse, M5.fr.length]
            have last : ∀ (as' : List (Addr × Addr)) (H6 : Hp), Mach K fr Hb H6 F Kx as' (pushK k fs) (kn.set i (some k)) → ∃ (H0 : Hp) (a0 : Addr) (xs : List V) (ns0 : List Nd) (F0 Kx0 : Addr) (as : List (Addr × Addr)) (fs0 : List Fr) (kn0 : List (Option Kd)), V.ref a = .ref a0 ∧ V.ref F = .ref F0 ∧ V.ref Kx = .ref Kx0 ∧ SqS K H0 a0 xs ∧ NsAt K H0 xs ns0 ∧ ns0.length = kn0.length ∧
                Mach K fr H0 H6 F0 Kx0 as fs0 kn0 ∧ WfS ns0 fs0 ∧ (∀ fs' kn' as' H', finish fs0.length fs0 kn0 = some (fs', kn') → Mach K fr H0 H' F0 Kx0 as' fs' kn' → ∃ (as : List (Addr × Addr)) (fs : List Fr) (kn : List (Option Kd)) (o2 o6 o7 o8 : Option V), Mach K fr Hb H' F Kx as fs kn ∧ WfL ns fs ∧ fs.length ≤ i + 1 ∧ kn.length = ns.length ∧ kindsOf names ns = K17.run names (i + 1) (ns.drop (i + 1)) fs kn ∧
                  [some (.ref na), some (.ref a), some (.ref b), some (.ref Kx), some (.ref F), some tv, some (.int (i : Nat)), some rv, some (.ref e)] = [some (.ref na), some (.ref a), o2, some (.ref Kx), some (.ref F), some tv, o6, o7, o8]) ∧ (finish fs0.length fs0 kn0 = none → ∀ d H', Same H0 H' → E (.ref nk) d H') := fun as' H6 M6 => by
              refine ⟨Hb, a, xs, ns, F, Kx, as', _, _, rfl, rfl, rfl, hsb, hnb, by rw [List.length_set]; exact hkl.symm, M6, W.push ko, fun fs' kn' as2 H7 hf M7 => ?_, fun hf d H7 e7 => ?_⟩
              · rw [pushK_len] at hf
                obtain ⟨w1, w2⟩ := finish_wf _ (W.push ko) hf
                have l2 := finish_len _ hf
                rw [pushK_len] at l2
                rw [hf] at hrun
                refine ⟨as2, fs', kn', _, _, _, _, M7, w1, by omega, ?_, hrun, rfl⟩
                rw [w2, List.length_set]
                exact hkl
              · rw [pushK_len] at hf
                rw [hf] at hrun
                exact q2 hrun d H7 (eb.trans e7)
            cases fs with
            | nil =>
              refine ifF rfl ⟨_, rfl, _, rfl, _, rfl, _, _, _, rfl, last as _ M5⟩
            | cons g gs =>
              obtain ⟨p, ps, rfl⟩ : ∃ p ps, as = p :: ps := by
                cases as with
                | nil => cases M5.fr
                | cons p ps => exact ⟨p, ps, rfl⟩
              refine ifT (decide_eq_true (by simp)) ?_
              have hF5 := M5.hF
              rw [List.reverse_cons, List.map_append] at hF5
              obtain ⟨dx5, rv5, ws5, hp5, hrow5, hl5, hk5⟩ : FrAt K fr (upd H4 Kx (.lst (us.set i (.ref e)))) p g := by
                cases M5.fr with
                | cons a t => exact a
              have lw5 := KsAt.length hk5
              refine ⟨_, rfl, _, rfl, _, _, _, _, rfl, rfl, SqL.of hF5, atI_last _ _, _, fr, dx5, _, _, rfl, hp5, T.cFrame, T.aFrame.2.2, rfl, .inl ⟨rfl, _, SqL.of hl5⟩, _, rfl, _, _, _, rfl, rfl, hl5, ?_, ?_⟩
              · have z := (W g (by simp)).2
                rw [lw5, line_eq]
                have z2 : ∀ n : Nd, (binds n.w).length ≤ 3 := fun n => by cases n <;> simp [binds, Nd.w]
                have := z2 g.nd
                omega
              · exact ⟨_, rfl, _, rfl, _, rfl, _, _, _, rfl, last (p :: ps) _ (M5.app hl5 (hv.tk tk5))⟩
    · rintro σ H' ⟨as, fs, kn, o2, o6, o7, o8, M, W, hfl, hkl, hrun, rfl⟩
      rw [lx, List.drop_length] at hrun
      obtain ⟨vs, h1, h2⟩ := M.hK
      exact ⟨_, rfl, q1 kn Kx vs H' hrun (eb.trans M.same) hKx h1 h2⟩
end
end K17
/-! K14: what the checked module gives out. -/
namespace K17
open PySem L2
/-! ### mirrors -/
theorem run_len {top : List Kd} : ∀ {r : List Nd} {i : Nat} {fs : List Fr} {kn kn' : List (Option Kd)}, run top i r fs kn = some kn' → (∀ (m : Nat) (fs fs' : List Fr) (a b : List (Option Kd)), finish m fs a = some (fs', b) → b.length = a.length) → kn'.length = kn.length
  | [], i, fs, kn, kn', h, _ => by
    rw [run] at h
    rw [Option.some.inj h]
  | n :: r, i, fs, kn, kn', h, F => by
    rw [run] at h
    split at h
    · cases h
    · split at h
      · exact run_len h F
      · split at h
        · cases h
        · split at h
          · cases h
          · rename_i q hq
            have := run_len h F
            rw [this, F _ _ q.1 _ q.2 hq, List.length_set]
theorem finish_klen : ∀ (m : Nat) (fs fs' : List Fr) (a b : List (Option Kd)), finish m fs a = some (fs', b) → b.length = a.length := by
  intro m
  induction m with
  | zero =>
    intro fs fs' a b h
    cases fs with
    | nil =>
      rw [finish] at h
      cases h
      rfl
    | cons f fs => simp [finish] at h
  | succ m ih =>
    intro fs fs' a b h
    cases fs with
    | nil =>
      rw [finish] at h
      cases h
      rfl
    | cons f fs =>
      rw [finish] at h
      split at h
      · cases h
        rfl
      · split at h
        · cases h
        · have := ih _ _ _ _ h
          rw [this, List.length_set]
theorem kindsOf_len {names : List Kd} {ns : List Nd} {kn : List (Option Kd)} (h : kindsOf names ns = some kn) : kn.length = ns.length := by
  have := run_len h finish_klen
  rwa [List.length_replicate] at this
def isP (es : List (Option Nd)) : Bool := isT es && (kindsOf [] (es.filterMap id)).isSome
theorem isT_okN {ns : List Nd} (h : isT (ns.map some) = true) : (∀ n ∈ ns, okN n = true) ∧ 1 ≤ ns.length ∧ ns.length ≤ 300 := by
  rw [isT_of] at h
  simp only [Bool.and_eq_true, decide_eq_true_eq, List.all_eq_true] at h
  exact ⟨h.2.2.1, h.1, h.2.1⟩
theorem isT_nodes {es : List (Option Nd)} (h : isT es = true) : es.all okE = true ∧ (∀ n ∈ es.filterMap id, okN n = true) ∧ (es.filterMap id).length ≤ 300 := by
  unfold isT at h
  simp only [Bool.and_eq_true, decide_eq_true_eq] at h
  obtain ⟨h1, h2, h3, h4⟩ := h
  refine ⟨h3, fun n hn => ?_, Nat.le_trans (List.length_filterMap_le _ _) h2⟩
  rw [List.mem_filterMap] at hn
  obtain ⟨e, he, hen⟩ := hn
  have z := List.all_eq_true.mp h3 e he
  have : e = some n := hen
  rw [this] at z
  exact z
theorem nodes_of (ns : List Nd) : (ns.map some).filterMap id = ns := by rw [List.filterMap_map]; simp
section
variable {P : Program} {w : World} {K : PySem.W.Frag} {mg : Str → Option Value} {base : Heap} {fr nk nkI : Addr} {fd : FuncData}
abbrev N_fitting_kinds : List Str := ["names", "nodes"]
theorem sc_fitting_kinds : FnScope N_fitting_kinds ["names", "nodes"] (defScope (top 69)) := ⟨rfl, rfl, rfl, by decide +kernel, rfl, by decide +kernel, by decide +kernel⟩
def gFitting (K : PySem.W.Frag) : G2 := fun nv sv H Q _ => ∃ (na : Addr) (nxs : List V) (names : List Kd) (a : Addr) (xs : List V) (ns : List Nd), nv = .ref na ∧ sv = .ref a ∧ SqS K H na nxs ∧ KsAt K H nxs names ∧ (∀ k ∈ names, okK k = true) ∧ SqS K H a xs ∧ NsAt K H xs ns ∧ (∀ n ∈ ns, okN n = true) ∧ ns.length ≤ 300 ∧
  ∀ v H', Same H H' → ((kindsOf names ns).isSome = true ∧ (∃ p, v = .ref p) ∨ (kindsOf names ns).isSome = false ∧ v = .non) → Q v H'
theorem ok_fitting_kinds (TN : NkT K mg nk nkI) (D : Df K mg "fitting_kinds" (top 69)) (c_kinds_of : Cal P w K mg base (L2.CX P w) "kinds_of" 8 ["names", "nodes"] (sp2 (gKindsOf K nk))) :
    Cal P w K mg base CX0 "fitting_kinds" 9 ["names", "nodes"] (sp2 (gFitting K)) := by
  refine D.cal sc_fitting_kinds (bs2 fun _ _ _ _ _ _ _ _ => rfl) sp2_len fun f cdv A outer s H vs Q E hr h => ?_
  obtain ⟨_, _, rfl, na, nxs, names, a, xs, ns, rfl, rfl, hns, hnk, hok, hs, hn, hokn, h300, q⟩ := h
  refine ⟨_, pss_one (ps_try_only rfl rfl ⟨rfl, by decide, .inl TN.gNoKind⟩ takes0 (fun W pn xe tkW pass => pss_one (ps_ret (pe_calS c_kinds_of (hr.mono (by omega)) rfl tkW (pa_cons (pv 0) (pa_cons (pv 1) pa_nil))))) (fun a oe cls d pn z hv => pss_one (ps_ret pe_non))), ?_⟩
  refine ⟨_, rfl, _, rfl, _, _, rfl, na, nxs, names, a, xs, ns, rfl, rfl, hns, hnk, hok, hs, hn, hokn, h300, fun kn p vs H' hk e _ _ _ => ?_, fun hk d H' e => ?_⟩
  · exact q _ _ e (.inl ⟨by rw [hk]; rfl, p, rfl⟩)
  · exact ⟨true, TN.te, fun _ b hb => q _ _ e (.inr ⟨by rw [hk]; rfl, rfl⟩), fun z => by cases z⟩
abbrev N_kind_of : List Str := ["names", "term"]
theorem sc_kind_of : FnScope N_kind_of ["names", "term"] (defScope (top 70)) := ⟨rfl, rfl, rfl, by decide +kernel, rfl, by decide +kernel, by decide +kernel⟩
/-- names and a term that fits them -/
structure Fit (K : PySem.W.Frag) (H : Hp) (nv sv : V) (names : List Kd) (ns : List Nd) : Prop where
  nm : ∃ na nxs, nv = .ref na ∧ SqS K H na nxs ∧ KsAt K H nxs names
  few : names.length ≤ 8
  nok : ∀ k ∈ names, okK k = true
  tm : ∃ a xs, sv = .ref a ∧ SqS K H a xs ∧ NsAt K H xs ns
  isT : isT (ns.map some) = true
def gKindOf (K : PySem.W.Frag) : G2 := fun nv sv H Q _ => ∃ names ns kn o, Fit K H nv sv names ns ∧ kindsOf names ns = some kn ∧ kn.head? = some o ∧ ∀ v H', Same H H' → OAt K H' v o → Q v H'
theorem ok_kind_of (D : Df K mg "kind_of" (top 70)) (c_want_names : Cal P w K mg base CX0 "want_names" 7 ["value"] (sp1 (gWantNames K))) (c_want_term : Cal P w K mg base CX0 "want_term" 8 ["value"] (sp1 (gWantTerm K)))
    (c_kinds_of : Cal P w K mg base (L2.CX P w) "kinds_of" 8 ["names", "nodes"] (sp2 (gKindsOf K nk))) : Cal P w K mg base CX0 "kind_of" 9 ["names", "term"] (sp2 (gKindOf K)) := by
  refine D.cal sc_kind_of (bs2 fun _ _ _ _ _ _ _ _ => rfl) sp2_len fun f cdv A outer s H vs Q E hr h => ?_
  obtain ⟨_, _, rfl, names, ns, kn, o, ⟨⟨na, nxs, rfl, hns, hnk⟩, few, nok, ⟨a, xs, rfl, hs, hn⟩, ht⟩, hk, ho, q⟩ := h
  refine ⟨_, (pss_cons (ps_expr (pe_cal c_want_names (hr.mono (by omega)) rfl pass0 (pa_cons (pv 0) pa_nil)))
    (pss_one (ps_ret (pe_ix ix_list (pe_calS c_kinds_of (hr.mono (by omega)) rfl takes0 (pa_cons (pv 0) (pa_cons (pe_cal c_want_term (hr.mono (by omega)) rfl pass0 (pa_cons (pv 1) pa_nil)) pa_nil))) pe_int (fun _ _ => rfl))))), ?_⟩
  obtain ⟨okn, _, h300⟩ := isT_okN ht
  refine ⟨_, rfl, _, rfl, na, nxs, names, rfl, hns, hnk, few, nok, fun H1 e1 => ?_⟩
  refine ⟨_, rfl, _, rfl, _, rfl, a, xs, ns, rfl, SqS.same e1 hs, hn.tk (TK.of e1), ht, fun p H2 e2 _ h2 => ?_⟩
  have e12 := e1.trans e2
  refine ⟨_, _, rfl, na, nxs, names, p, xs, ns, rfl, rfl, SqS.same e12 hns, hnk.tk (TK.of e12), nok, .inl (SqL.of h2), hn.tk (TK.of e12), okn, h300, fun kn' p' us H3 hk' e3 _ h3 hd => ?_, fun z => ?_⟩
  · rw [hk] at hk'
    cases hk'
    cases kn with
    | nil => cases ho
    | cons o' kn =>
      cases ho
      have hd' : DpAll K H3 us (dO o :: kn.map dO) := hd
      cases hd' with
      | cons x y => exact ⟨_, _, _, _, rfl, rfl, SqL.of h3, at0, q _ _ (e12.trans e3) x⟩
  · rw [hk] at z
    cases z
abbrev N_fits : List Str := ["names", "term"]
theorem sc_fits : FnScope N_fits ["names", "term"] (defScope (top 71)) := ⟨rfl, rfl, rfl, by decide +kernel, rfl, by decide +kernel, by decide +kernel⟩
def gFits (K : PySem.W.Frag) : G2 := fun nv sv H Q _ => ∃ names ns, Fit K H nv sv names ns ∧ ∀ H', Same H H' → Q (.bl (kindsOf names ns).isSome) H'
theorem ok_fits (D : Df K mg "fits" (top 71)) (c_want_names : Cal P w K mg base CX0 "want_names" 7 ["value"] (sp1 (gWantNames K))) (c_want_term : Cal P w K mg base CX0 "want_term" 8 ["value"] (sp1 (gWantTerm K)))
    (c_fitting_kinds : Cal P w K mg base CX0 "fitting_kinds" 9 ["names", "nodes"] (sp2 (gFitting K))) : Cal P w K mg base CX0 "fits" 10 ["names", "term"] (sp2 (gFits K)) := by
  refine D.cal sc_fits (bs2 fun _ _ _ _ _ _ _ _ => rfl) sp2_len fun f cdv A outer s H vs Q E hr h => ?_
  obtain ⟨_, _, rfl, names, ns, ⟨⟨na, nxs, rfl, hns, hnk⟩, few, nok, ⟨a, xs, rfl, hs, hn⟩, ht⟩, q⟩ := h
  refine ⟨_, (pss_cons (ps_expr (pe_cal c_want_names (hr.mono (by omega)) rfl pass0 (pa_cons (pv 0) pa_nil)))
    (pss_one (ps_ret (pe_cmpR op_notN (pe_cal c_fitting_kinds (hr.mono (by omega)) rfl pass0 (pa_cons (pv 0) (pa_cons (pe_cal c_want_term (hr.mono (by omega)) rfl pass0 (pa_cons (pv 1) pa_nil)) pa_nil))) pe_non (by rfl))))), ?_⟩
  obtain ⟨okn, _, h300⟩ := isT_okN ht
  refine ⟨_, rfl, _, rfl, na, nxs, names, rfl, hns, hnk, few, nok, fun H1 e1 => ?_⟩
  refine ⟨_, rfl, _, rfl, _, rfl, a, xs, ns, rfl, SqS.same e1 hs, hn.tk (TK.of e1), ht, fun p H2 e2 _ h2 => ?_⟩
  have e12 := e1.trans e2
  refine ⟨_, _, rfl, na, nxs, names, p, xs, ns, rfl, rfl, SqS.same e12 hns, hnk.tk (TK.of e12), nok, .inl (SqL.of h2), hn.tk (TK.of e12), okn, h300, fun v H3 e3 hv => ⟨rfl, ?_⟩⟩
  have q' := q _ (e12.trans e3)
  rcases hv with ⟨z, p', rfl⟩ | ⟨z, rfl⟩
  · rwa [z] at q'
  · rwa [z] at q'
abbrev N_kinds_at : List Str := ["names", "term"]
theorem sc_kinds_at : FnScope N_kinds_at ["names", "term"] (defScope (top 72)) := ⟨rfl, rfl, rfl, by decide +kernel, rfl, by decide +kernel, by decide +kernel⟩
def gKindsAt (K : PySem.W.Frag) : G2 := fun nv sv H Q _ => ∃ names ns kn, Fit K H nv sv names ns ∧ kindsOf names ns = some kn ∧ ∀ p vs H', Same H H' → H p = none → H' p = some (.lst vs) → DpAll K H' vs (kn.map dO) → Q (.ref p) H'
theorem ok_kinds_at (D : Df K mg "kinds_at" (top 72)) (c_want_names : Cal P w K mg base CX0 "want_names" 7 ["value"] (sp1 (gWantNames K))) (c_want_term : Cal P w K mg base CX0 "want_term" 8 ["value"] (sp1 (gWantTerm K)))
    (c_kinds_of : Cal P w K mg base (L2.CX P w) "kinds_of" 8 ["names", "nodes"] (sp2 (gKindsOf K nk))) : Cal P w K mg base CX0 "kinds_at" 9 ["names", "term"] (sp2 (gKindsAt K)) := by
  refine D.cal sc_kinds_at (bs2 fun _ _ _ _ _ _ _ _ => rfl) sp2_len fun f cdv A outer s H vs Q E hr h => ?_
  obtain ⟨_, _, rfl, names, ns, kn, ⟨⟨na, nxs, rfl, hns, hnk⟩, few, nok, ⟨a, xs, rfl, hs, hn⟩, ht⟩, hk, q⟩ := h
  refine ⟨_, (pss_cons (ps_expr (pe_cal c_want_names (hr.mono (by omega)) rfl pass0 (pa_cons (pv 0) pa_nil)))
    (pss_one (ps_ret (pe_calS c_kinds_of (hr.mono (by omega)) rfl takes0 (pa_cons (pv 0) (pa_cons (pe_cal c_want_term (hr.mono (by omega)) rfl pass0 (pa_cons (pv 1) pa_nil)) pa_nil)))))), ?_⟩
  obtain ⟨okn, _, h300⟩ := isT_okN ht
  refine ⟨_, rfl, _, rfl, na, nxs, names, rfl, hns, hnk, few, nok, fun H1 e1 => ?_⟩
  refine ⟨_, rfl, _, rfl, _, rfl, a, xs, ns, rfl, SqS.same e1 hs, hn.tk (TK.of e1), ht, fun p H2 e2 _ h2 => ?_⟩
  have e12 := e1.trans e2
  refine ⟨_, _, rfl, na, nxs, names, p, xs, ns, rfl, rfl, SqS.same e12 hns, hnk.tk (TK.of e12), nok, .inl (SqL.of h2), hn.tk (TK.of e12), okn, h300, fun kn' p' us H3 hk' e3 n3 h3 hd => ?_, fun z => ?_⟩
  · rw [hk] at hk'
    cases hk'
    exact q p' us H3 (e12.trans e3) (e12.free n3) h3 hd
  · rw [hk] at z
    cases z
abbrev N_is_program : List Str := ["value"]
theorem sc_is_program : FnScope N_is_program ["value"] (defScope (top 73)) := ⟨rfl, rfl, rfl, by decide +kernel, rfl, by decide +kernel, by decide +kernel⟩
def gProgram (K : PySem.W.Frag) : G1 := fun v H Q _ => (∃ a xs es, v = .ref a ∧ SqS K H a xs ∧ EsAt K H xs es ∧ ∀ H', Same H H' → Q (.bl (isP es)) H') ∨ (NoSeq K H v ∧ ∀ H', Same H H' → Q (.bl false) H')
theorem ok_is_program (D : Df K mg "is_program" (top 73)) (c_is_term : Cal P w K mg base CX0 "is_term" 7 ["value"] (sp1 (gTerm K)))
    (c_fitting_kinds : Cal P w K mg base CX0 "fitting_kinds" 9 ["names", "nodes"] (sp2 (gFitting K))) : Cal P w K mg base CX0 "is_program" 10 ["value"] (sp1 (gProgram K)) := by
  refine D.cal sc_is_program (bs1 fun _ _ _ _ _ _ _ => rfl) sp1_len fun f cdv A outer s H vs Q E hr h => ?_
  obtain ⟨v, rfl, h⟩ := h
  refine ⟨_, (pss_one (ps_ret (pe_and (pe_cal c_is_term (hr.mono (by omega)) rfl pass0 (pa_cons (pv 0) pa_nil)) (pe_one (pe_cmpR op_notN (pe_cal c_fitting_kinds (hr.mono (by omega)) rfl pass0 (pa_cons (pe_lst pa_nil) (pa_cons (pv 0) pa_nil))) pe_non (by rfl)))))), ?_⟩
  rcases h with ⟨a, xs, es, rfl, hs, he, q⟩ | ⟨hn, q⟩
  · refine ⟨_, rfl, _, rfl, .inl ⟨a, xs, es, rfl, hs, he, fun H1 e1 => ⟨_, rfl, ?_⟩⟩⟩
    cases ht : isT es with
    | false =>
      refine iteF ?_
      have q' := q _ e1
      unfold isP at q'
      rwa [ht] at q'
    | true =>
      obtain ⟨t1, t2, t3⟩ := isT_nodes ht
      refine iteT ⟨fits0, fun L hL => ?_⟩
      have e2 := Same.new hL (.lst [])
      have e12 := e1.trans e2
      refine ⟨_, rfl, _, _, rfl, L, [], [], a, xs, es.filterMap id, rfl, rfl, .inl (SqL.of upd_same), .nil, fun k hk => by simp at hk, SqS.same e12 hs, EsAt.nodes (EsAt.same e12 he) t1, t2, t3, fun v H3 e3 hv => ⟨rfl, ?_⟩⟩
      have q' := q _ (e12.trans e3)
      unfold isP at q'
      rw [ht, Bool.true_and] at q'
      rcases hv with ⟨z, p', rfl⟩ | ⟨z, rfl⟩
      · rwa [z] at q'
      · rwa [z] at q'
  · exact ⟨_, rfl, _, rfl, .inr ⟨hn, fun H1 e1 => ⟨_, rfl, iteF (q _ e1)⟩⟩⟩
abbrev N_want_program : List Str := ["value"]
theorem sc_want_program : FnScope N_want_program ["value"] (defScope (top 74)) := ⟨rfl, rfl, rfl, by decide +kernel, rfl, by decide +kernel, by decide +kernel⟩
def gWantProgram (K : PySem.W.Frag) : G1 := fun v H Q _ => ∃ a xs ns, v = .ref a ∧ SqS K H a xs ∧ NsAt K H xs ns ∧ isP (ns.map some) = true ∧ ∀ p H', Same H H' → H p = none → H' p = some (.lst xs) → Q (.ref p) H'
theorem ok_want_program (T : Txt K w mg fr fd nk nkI) (D : Df K mg "want_program" (top 74)) (c_is_program : Cal P w K mg base CX0 "is_program" 10 ["value"] (sp1 (gProgram K))) : Cal P w K mg base CX0 "want_program" 11 ["value"] (sp1 (gWantProgram K)) := by
  refine D.cal sc_want_program (bs1 fun _ _ _ _ _ _ _ => rfl) sp1_len fun f cdv A outer s H vs Q E hr h => ?_
  obtain ⟨v, rfl, a, xs, ns, rfl, hs, hn, ht, q⟩ := h
  refine ⟨_, (pss_cons (ps_if (pt_not (pt_val (pe_cal c_is_program (hr.mono (by omega)) rfl pass0 (pa_cons (pv 0) pa_nil)))) 
      (pss_one ps_never) pss_nil)
    (pss_one (ps_ret (pe_callTy call_list_of (by rfl) T.list (by decide +kernel) (pa_cons (pv 0) pa_nil))))), ?_⟩
  refine ⟨_, rfl, _, rfl, .inl ⟨a, xs, ns.map some, rfl, hs, EsAt.of hn, fun H1 e1 => ⟨_, rfl, ?_⟩⟩⟩
  rw [ht]
  exact iteF ⟨_, rfl, a, xs, rfl, SqS.same e1 hs, fun l hl => q l _ (Same.upd e1 (e1.free hl) _) (e1.free hl) upd_same⟩
abbrev N_program_kind : List Str := ["program"]
theorem sc_program_kind : FnScope N_program_kind ["program"] (defScope (top 75)) := ⟨rfl, rfl, rfl, by decide +kernel, rfl, by decide +kernel, by decide +kernel⟩
def gProgKind (K : PySem.W.Frag) : G1 := fun v H Q _ => ∃ a xs ns kn o, v = .ref a ∧ SqS K H a xs ∧ NsAt K H xs ns ∧ isT (ns.map some) = true ∧ kindsOf [] ns = some kn ∧ kn.head? = some o ∧ ∀ v H', Same H H' → OAt K H' v o → Q v H'
theorem ok_program_kind (D : Df K mg "program_kind" (top 75)) (c_want_program : Cal P w K mg base CX0 "want_program" 11 ["value"] (sp1 (gWantProgram K)))
    (c_kinds_of : Cal P w K mg base (L2.CX P w) "kinds_of" 8 ["names", "nodes"] (sp2 (gKindsOf K nk))) : Cal P w K mg base CX0 "program_kind" 12 ["program"] (sp1 (gProgKind K)) := by
  refine D.cal sc_program_kind (bs1 fun _ _ _ _ _ _ _ => rfl) sp1_len fun f cdv A outer s H vs Q E hr h => ?_
  obtain ⟨_, rfl, a, xs, ns, kn, o, rfl, hs, hn, ht, hk, ho, q⟩ := h
  refine ⟨_, (pss_one (ps_ret (pe_ix ix_list (pe_calS c_kinds_of (hr.mono (by omega)) rfl takes0 (pa_cons (pe_lst pa_nil) (pa_cons (pe_cal c_want_program (hr.mono (by omega)) rfl pass0 (pa_cons (pv 0) pa_nil)) pa_nil))) pe_int (fun _ _ => rfl)))), ?_⟩
  obtain ⟨okn, _, h300⟩ := isT_okN ht
  have hp : isP (ns.map some) = true := by
    unfold isP
    rw [ht, nodes_of, hk]
    rfl
  refine ⟨fits0, fun L hL => ?_⟩
  have e1 := Same.new hL (.lst [])
  refine ⟨_, rfl, _, rfl, a, xs, ns, rfl, SqS.same e1 hs, hn.tk (TK.of e1), hp, fun p H2 e2 _ h2 => ?_⟩
  have e12 := e1.trans e2
  refine ⟨_, _, rfl, L, [], [], p, xs, ns, rfl, rfl, .inl (SqL.of (e2 _ _ upd_same)), .nil, fun k hk => by simp at hk, .inl (SqL.of h2), hn.tk (TK.of e12), okn, h300, fun kn' p' us H3 hk' e3 _ h3 hd => ?_, fun z => ?_⟩
  · rw [hk] at hk'
    cases hk'
    cases kn with
    | nil => cases ho
    | cons o' kn =>
      cases ho
      have hd' : DpAll K H3 us (dO o :: kn.map dO) := hd
      cases hd' with
      | cons x y => exact ⟨_, _, _, _, rfl, rfl, SqL.of h3, at0, q _ _ (e12.trans e3) x⟩
  · rw [hk] at z
    cases z
end
end K17
/-! K15: the law's draws and kinds. -/
namespace K17
open PySem L2
/-! ### the pot -/
def PotAt (H : Hp) (p : Addr) : Prop := ∃ a b : Int, H p = some (.lst [.int a, .int b]) ∧ 0 ≤ a ∧ 0 ≤ b ∧ b < 2147483648
theorem PotAt.tk {H H' : Hp} {p : Addr} (h : PotAt H p) (s : SB p H H') : TK H H' := by
  obtain ⟨a, b, e, _⟩ := h
  exact SB.tk s e rfl
theorem PotAt.same {H H' : Hp} {p : Addr} (h : PotAt H p) (s : Same H H') : PotAt H' p := by
  obtain ⟨a, b, e, r⟩ := h
  exact ⟨a, b, s _ _ e, r⟩
theorem PotAt.new {H : Hp} {p q : Addr} (h : PotAt H p) (n : H q = none) (o : HO) : PotAt (L2.upd H q o) p := h.same (K17.Same.new n o)
theorem SB.new {p q : Addr} {H H' : Hp} (s : SB p H H') (n : H' q = none) (o : HO) : SB p H (L2.upd H' q o) := SB.trans s (SB.of (K17.Same.new n o))
theorem SB.free {p q : Addr} {H H' : Hp} (h : PotAt H p) (s : SB p H H') (n : H' q = none) (h' : PotAt H' p) : H q = none := by
  have ne : q ≠ p := fun z => by
    obtain ⟨a, b, e, _⟩ := h'
    rw [z, e] at n
    cases n
  cases e : H q with
  | none => rfl
  | some o =>
    rw [s q o ne e] at n
    cases n
section
variable {P : Program} {w : World} {K : PySem.W.Frag} {mg : Str → Option Value} {base : Heap} {fr nk nkI : Addr} {fd : FuncData}
abbrev N__law_pot : List Str := ["_law_script", "_law_k", "_law_cell"]
theorem sc__law_pot : FnScope N__law_pot ["_law_script", "_law_k"] (defScope (top 77)) := ⟨rfl, rfl, rfl, by decide +kernel, rfl, by decide +kernel, by decide +kernel⟩
def gPot (K : PySem.W.Frag) : G2 := fun sv kv H Q _ => ∃ (a : Addr) (ns : List Int), sv = .ref a ∧ kv = .int 0 ∧ SqL K H a (ns.map V.int) ∧ ∀ p H', Same H H' → H p = none → PotAt H' p → Q (.ref p) H'
theorem ok__law_pot (T : Txt K w mg fr fd nk nkI) (D : Df K mg "_law_pot" (top 77)) : Cal P w K mg base CX0 "_law_pot" 1 ["_law_script", "_law_k"] (sp2 (gPot K)) := by
  refine D.cal sc__law_pot (bs2 fun _ _ _ _ _ _ _ _ => rfl) sp2_len fun f cdv A outer s H vs Q E hr h => ?_
  obtain ⟨_, _, rfl, a, ns, rfl, rfl, hs, q⟩ := h
  refine ⟨_, (pss_cons (ps_set (i := 2) sc__law_pot.nd rfl (Or.inl rfl) (pe_op op_add (pe_op op_mul pe_int (pv 1)) pe_int))
    (pss_cons (ps_if (pt_cmpR op_lt (pv 1) (pe_callB call_len (by rfl) T.len (by decide +kernel) (pa_cons (pv 0) pa_nil)) (by rfl)) 
      (pss_one (ps_set (i := 2) sc__law_pot.nd rfl (Or.inl rfl) (pe_callB call_abs (by rfl) T.abs (by decide +kernel) (pa_cons (pe_ix ix_list (pv 0) (pv 1) (fun _ _ => rfl)) pa_nil)))) pss_nil)
    (pss_one (ps_ret (pe_lst (pa_cons (pe_callB (call_max2 rfl) (by rfl) T.max (by decide +kernel) (pa_cons pe_int (pa_cons (pe_op op_sub (pv 2) (pe_op op_pow pe_int pe_int)) pa_nil))) (pa_cons (pe_op op_add (pe_op op_mod (pe_callTy call_int1 (by rfl) T.int (by decide +kernel) (pa_cons (pe_op op_add (pe_op op_add (pe_op op_mul (pe_op op_mod (pe_callTy call_int1 (by rfl) T.int (by decide +kernel) (pa_cons (pv 2) pa_nil)) pe_int) pe_int) (pe_op op_mul pe_int (pv 1))) pe_int) pa_nil)) pe_int) pe_int) pa_nil))))))), ?_⟩
  refine ⟨_, rfl, _, _, rfl, rfl, .inr (by decide), _, _, rfl, rfl, ?_⟩
  have fin : ∀ (c : Int), 0 ≤ (if c - 10 ^ 18 > 0 then c - 10 ^ 18 else 0) := fun c => by split <;> omega
  have go : ∀ (p : Addr) (c z : Int), H p = none → Q (.ref p) (upd H p (.lst [.int (if c - 10 ^ 18 > 0 then c - 10 ^ 18 else 0), .int (z % 2147483563 + 1)])) := fun p c z hp =>
    q p _ (Same.new hp _) hp ⟨_, _, upd_same, fin c, by omega, by omega⟩
  refine ⟨_, rfl, _, rfl, _, _, rfl, lenL hs, _, _, rfl, rfl, _, rfl, ?_⟩
  rw [List.length_map]
  cases ns with
  | nil =>
    refine ifF rfl ?_
    refine ⟨_, rfl, _, _, rfl, rfl, ⟨by decide, by decide, by decide⟩, _, _, rfl, rfl, _, _, rfl, ?_⟩
    refine ⟨_, rfl, .inl ⟨_, rfl, _, _, rfl, rfl, by decide, _, _, rfl, rfl, .inr (by decide), _, rfl, _, _, rfl, rfl, .inr (by decide), _, _, rfl, rfl, _, _, rfl, rfl, .inl ⟨_, rfl, _, _, rfl, rfl, by decide, _, _, rfl, rfl, fits2, fun p hp => go p _ _ hp⟩⟩⟩
  | cons i ns =>
    refine ifT (decide_eq_true (by simp)) ?_
    refine ⟨_, rfl, _, rfl, _, _, _, _, rfl, rfl, hs, at0, _, rfl, ?_⟩
    refine ⟨_, rfl, _, _, rfl, rfl, ⟨by decide, by decide, by decide⟩, _, _, rfl, rfl, _, _, rfl, ?_⟩
    refine ⟨_, rfl, .inl ⟨_, rfl, _, _, rfl, rfl, (show (0 : Int) < 2147483549 by decide), _, _, rfl, rfl, .inr (by decide), _, rfl, _, _, rfl, rfl, .inr (by decide), _, _, rfl, rfl, _, _, rfl, rfl, .inl ⟨_, rfl, _, _, rfl, rfl, (show (0 : Int) < 2147483563 by decide), _, _, rfl, rfl, fits2, fun p hp => go p _ _ hp⟩⟩⟩
abbrev N__law_draw : List Str := ["_law_pot_here", "_law_size", "_law_digit"]
theorem sc__law_draw : FnScope N__law_draw ["_law_pot_here", "_law_size"] (defScope (top 78)) := ⟨rfl, rfl, rfl, by decide +kernel, rfl, by decide +kernel, by decide +kernel⟩
def gDraw : G2 := fun pv sv H Q _ => ∃ (p : Addr) (n : Nat), pv = .ref p ∧ sv = .int n ∧ 0 < n ∧ n ≤ 1000 ∧ PotAt H p ∧ ∀ (d : Nat) H', d < n → SB p H H' → PotAt H' p → Q (.int d) H'
theorem ok__law_draw (T : Txt K w mg fr fd nk nkI) (D : Df K mg "_law_draw" (top 78)) : Cal P w K mg base CX0 "_law_draw" 1 ["_law_pot_here", "_law_size"] (sp2 gDraw) := by
  refine D.cal sc__law_draw (bs2 fun _ _ _ _ _ _ _ _ => rfl) sp2_len fun f cdv A outer s H vs Q E hr h => ?_
  obtain ⟨_, _, rfl, p, n, rfl, rfl, hn, hn2, ⟨a, b, hp, ha, hb, hb2⟩, q⟩ := h
  refine ⟨_, (pss_cons (ps_if (pt_cmpR op_gt (pe_ix ix_list (pv 0) pe_int (fun _ _ => rfl)) pe_int (by rfl)) 
      (pss_cons (ps_asg (pe_callB call_divmod (by rfl) T.divmod (by decide +kernel) (pa_cons (pe_ix ix_list (pv 0) pe_int (fun _ _ => rfl)) (pa_cons (pv 1) pa_nil))) (pg_tup rfl (pgs_cons (pg_sub (pv 0) pe_int set_list) (pgs_cons (pg_name (i := 2) sc__law_draw.nd rfl (Or.inl rfl)) pgs_nil))))
      (pss_one (ps_ret (pv 2)))) pss_nil)
    (pss_cons (ps_asg (pe_op op_mod (pe_callTy call_int1 (by rfl) T.int (by decide +kernel) (pa_cons (pe_op op_add (pe_op op_mul (pe_ix ix_list (pv 0) pe_int (fun _ _ => rfl)) pe_int) pe_int) pa_nil)) pe_int) (pg_sub (pv 0) pe_int set_list))
    (pss_one (ps_ret (pe_op op_mod (pe_callTy call_int1 (by rfl) T.int (by decide +kernel) (pa_cons (pe_op op_fdiv (pe_op op_mod (pe_callTy call_int1 (by rfl) T.int (by decide +kernel) (pa_cons (pe_op op_mul (pe_ix ix_list (pv 0) pe_int (fun _ _ => rfl)) (pe_ix ix_list (pv 0) pe_int (fun _ _ => rfl))) pa_nil)) pe_int) pe_int) pa_nil)) (pv 1)))))), ?_⟩
  have nz : (0 : Int) < (n : Int) := by omega
  refine ⟨_, rfl, _, _, _, _, rfl, rfl, SqL.of hp, at0, _, _, rfl, rfl, _, rfl, ?_⟩
  have nat : ∀ x : Int, ∃ d : Nat, x % (n : Int) = (d : Int) ∧ d < n := fun x => by
    have h1 := Int.emod_nonneg x (show (n : Int) ≠ 0 by omega)
    have h2 := Int.emod_lt_of_pos x nz
    exact ⟨(x % (n : Int)).toNat, by omega, by omega⟩
  by_cases c : a > 0
  · refine ifT (decide_eq_true c) ?_
    refine ⟨_, rfl, _, _, _, _, rfl, rfl, SqL.of hp, at0, _, rfl, _, _, rfl, ⟨nz, by omega⟩, fun t ht => ?_⟩
    refine ⟨t, _, rfl, SqT.of upd_same, rfl, _, _, rfl, _, rfl, p, [.int a, .int b], 0, 0, rfl, rfl, by rw [upd_ne (ne_of_none hp ht)]; exact hp, rfl, ?_⟩
    obtain ⟨d, e1, e2⟩ := nat a
    refine ⟨_, _, rfl, rfl, _, rfl, ?_⟩
    have q' := q d (upd (upd H t (.tup [.int (a / n), .int (a % n)])) p (.lst [.int (a / n), .int b])) e2 (SB.trans (SB.of (Same.new ht _)) (SB.upd _)) ⟨_, _, upd_same, Int.ediv_nonneg ha (by omega), hb, hb2⟩
    rw [← e1] at q'
    exact q'
  · refine ifF (decide_eq_false c) ?_
    refine ⟨_, rfl, _, _, _, _, rfl, rfl, SqL.of hp, at1, _, _, rfl, rfl, .inl ⟨by omega, by omega⟩, _, _, rfl, rfl, .inl ⟨_, rfl, _, _, rfl, rfl, (show (0 : Int) < 2147483587 by decide), ?_⟩⟩
    refine ⟨_, rfl, p, [.int a, .int b], 1, 1, rfl, rfl, hp, rfl, ?_⟩
    have l1 := Int.emod_nonneg (b * 39373 + 3617) (show (2147483587 : Int) ≠ 0 by decide)
    have l2 := Int.emod_lt_of_pos (b * 39373 + 3617) (show (0 : Int) < 2147483587 by decide)
    have hp2 : (upd H p (.lst ([V.int a, .int b].set 1 (.int ((b * 39373 + 3617) % 2147483587))))) p = some (.lst [.int a, .int ((b * 39373 + 3617) % 2147483587)]) := upd_same
    refine ⟨_, rfl, _, _, _, _, rfl, rfl, SqL.of hp2, at1, _, rfl, _, _, _, _, rfl, rfl, SqL.of hp2, at1, _, _, rfl, rfl, .inl ⟨by omega, by omega⟩, .inl ⟨_, rfl, ?_⟩⟩
    refine ⟨_, _, rfl, rfl, (show (0 : Int) < 2147483563 by decide), _, _, rfl, rfl, ⟨by decide, by decide⟩, .inl ⟨_, rfl, _, rfl, _, _, rfl, rfl, nz, ?_⟩⟩
    obtain ⟨d, e1, e2⟩ := nat (((b * 39373 + 3617) % 2147483587 * ((b * 39373 + 3617) % 2147483587)) % 2147483563 / 17)
    have q' := q d _ e2 (SB.upd _) ⟨_, _, hp2, ha, l1, by omega⟩
    rw [← e1] at q'
    exact q'
abbrev N__law_pick : List Str := ["_law_pot_here", "_law_some"]
theorem sc__law_pick : FnScope N__law_pick ["_law_pot_here", "_law_some"] (defScope (top 79)) := ⟨rfl, rfl, rfl, by decide +kernel, rfl, by decide +kernel, by decide +kernel⟩
def gPick (K : PySem.W.Frag) : G2 := fun pv sv H Q _ => ∃ (p l : Addr) (xs : List V), pv = .ref p ∧ sv = .ref l ∧ SqL K H l xs ∧ l ≠ p ∧ 0 < xs.length ∧ xs.length ≤ 1000 ∧ PotAt H p ∧ ∀ (i : Nat) v H', xs[i]? = some v → SB p H H' → PotAt H' p → Q v H'
theorem ok__law_pick (T : Txt K w mg fr fd nk nkI) (D : Df K mg "_law_pick" (top 79)) (c__law_draw : Cal P w K mg base CX0 "_law_draw" 1 ["_law_pot_here", "_law_size"] (sp2 gDraw)) : Cal P w K mg base CX0 "_law_pick" 2 ["_law_pot_here", "_law_some"] (sp2 (gPick K)) := by
  refine D.cal sc__law_pick (bs2 fun _ _ _ _ _ _ _ _ => rfl) sp2_len fun f cdv A outer s H vs Q E hr h => ?_
  obtain ⟨_, _, rfl, p, l, xs, rfl, rfl, hs, ne, h0, h1, hp, q⟩ := h
  refine ⟨_, (pss_one (ps_ret (pe_ix ix_list (pv 1) (pe_cal c__law_draw (hr.mono (by omega)) rfl pass0 (pa_cons (pv 0) (pa_cons (pe_callB call_len (by rfl) T.len (by decide +kernel) (pa_cons (pv 1) pa_nil)) pa_nil))) (fun _ _ => rfl)))), ?_⟩
  refine ⟨_, rfl, _, rfl, _, rfl, _, _, rfl, lenL hs, _, _, rfl, p, _, rfl, rfl, h0, h1, hp, fun d H' hd sb hp' => ?_⟩
  exact ⟨_, _, _, _, rfl, rfl, SqL.sb sb ne hs, atI_nat (List.getElem?_eq_getElem hd), q d _ H' (List.getElem?_eq_getElem hd) sb hp'⟩
abbrev N__law_kind : List Str := ["_law_pot_here", "_law_deep_here", "_law_way", "_law_near"]
theorem sc__law_kind : FnScope N__law_kind ["_law_pot_here", "_law_deep_here"] (defScope (top 83)) := ⟨rfl, rfl, rfl, by decide +kernel, rfl, by decide +kernel, by decide +kernel⟩
/-- a kind drawn d deep -/
def Kd.within (d : Nat) (k : Kd) : Prop := k.deep ≤ d + 1 ∧ k.size + 1 ≤ 2 ^ (d + 1)
def gLKind (K : PySem.W.Frag) (n : Nat) : G2 := fun pv dv H Q _ => ∃ (p : Addr) (d : Nat), pv = .ref p ∧ dv = .int d ∧ d + 2 ≤ n ∧ PotAt H p ∧ ∀ k v H', Kd.within d k → SB p H H' → PotAt H' p → KAt K H' v k → Q v H'
theorem ok__law_kind (T : Txt K w mg fr fd nk nkI) (D : Df K mg "_law_kind" (top 83)) (c__law_draw : Cal P w K mg base CX0 "_law_draw" 1 ["_law_pot_here", "_law_size"] (sp2 gDraw)) : ∀ n, Cal P w K mg base CX0 "_law_kind" n ["_law_pot_here", "_law_deep_here"] (sp2 (gLKind K n))
  | 0 => D.cal0 (bs2 fun _ _ _ _ _ _ _ _ => rfl) fun vs H Q E ⟨v, _, _, p, d, _, _, h, _⟩ => by omega
  | n + 1 => by
    have c__law_kind := ok__law_kind T D c__law_draw n
    refine D.cal sc__law_kind (bs2 fun _ _ _ _ _ _ _ _ => rfl) sp2_len fun f cdv A outer s H vs Q E hr h => ?_
    obtain ⟨_, _, rfl, p, d, rfl, rfl, hd, hp, q⟩ := h
    have h1n : 1 ≤ n := by omega
    refine ⟨_, (pss_cons (ps_set (i := 2) sc__law_kind.nd rfl (Or.inl rfl) (pe_cal c__law_draw (hr.mono (by omega)) rfl pass0 (pa_cons (pv 0) (pa_cons (pe_ifExp (pt_cmpR op_gt (pv 1) pe_int (by rfl)) pe_int pe_int) pa_nil))))
    (pss_cons (ps_if (pt_cmpR op_lt (pv 2) pe_int (by rfl)) 
      (pss_one (ps_ret (pe_ifExp (pt_cmpR op_lt (pv 2) pe_int (by rfl)) (pe_tup (pa_cons pe_str (pa_cons (pv 2) pa_nil))) (pe_tup (pa_cons pe_str pa_nil))))) pss_nil)
    (pss_cons (ps_set (i := 3) sc__law_kind.nd rfl (Or.inl rfl) (pe_cal c__law_kind (hr.mono (by omega)) rfl pass0 (pa_cons (pv 0) (pa_cons (pe_op op_sub (pv 1) pe_int) pa_nil))))
    (pss_one (ps_ret (pe_tup (pa_cons (pe_ix ix_list (pe_lst (pa_cons pe_str (pa_cons pe_str (pa_cons pe_str pa_nil)))) (pe_op op_sub (pv 2) pe_int) (fun _ _ => rfl)) (pa_cons (pv 3) (pa_cons (pe_cal c__law_kind (hr.mono (by omega)) rfl pass0 (pa_cons (pv 0) (pa_cons (pe_op op_sub (pv 1) pe_int) pa_nil))) pa_nil))))))))), ?_⟩
    have two : 2 ≤ 2 ^ (d + 1) := Nat.le_trans (by decide) (Nat.pow_le_pow_right (by decide) (Nat.le_add_left 1 d))
    refine asg_split (fun v H' => ∃ g : Nat, v = .int g ∧ g < 6 ∧ (3 ≤ g → 0 < d) ∧ SB p H H' ∧ PotAt H' p) (fun Q2 hQ => ?_) ?_
    · refine ⟨_, rfl, _, rfl, _, _, rfl, rfl, _, rfl, ?_⟩
      by_cases c : 0 < d
      · refine ifT (decide_eq_true (by omega)) ?_
        exact ⟨_, _, rfl, p, 6, rfl, rfl, by decide, by decide, hp, fun g H' hg sb hp' => hQ _ _ ⟨g, rfl, hg, fun _ => c, sb, hp'⟩⟩
      · refine ifF (decide_eq_false (by omega)) ?_
        exact ⟨_, _, rfl, p, 3, rfl, rfl, by decide, by decide, hp, fun g H' hg sb hp' => hQ _ _ ⟨g, rfl, by omega, fun z => by omega, sb, hp'⟩⟩
    rintro _ H1 ⟨g, rfl, hg, hgd, s1, hp1⟩
    refine ⟨_, rfl, _, _, rfl, rfl, _, rfl, ?_⟩
    by_cases c : g < 3
    · refine ifT (decide_eq_true (by omega)) ⟨_, rfl, _, _, rfl, rfl, _, rfl, ?_⟩
      by_cases c2 : g < 2
      · refine ifT (decide_eq_true (by omega)) ⟨_, rfl, fits2, fun b hb => ?_⟩
        have e : ∃ l, ((g : Nat) : Int) = lv l := by
          have : g = 0 ∨ g = 1 := by omega
          rcases this with z | z
          · exact ⟨false, by rw [z]; rfl⟩
          · exact ⟨true, by rw [z]; rfl⟩
        obtain ⟨l, e⟩ := e
        refine q (.ltr l) _ _ ⟨by simp [Kd.deep], by simp only [Kd.size]; omega⟩ (s1.new hb _) (hp1.new hb _) (KAt.mk_ltr ?_)
        rw [e]
        exact SqT.of upd_same
      · refine ifF (decide_eq_false (by omega)) ⟨fits1, fun b hb => ?_⟩
        exact q .cnt _ _ ⟨by simp [Kd.deep], by simp only [Kd.size]; omega⟩ (s1.new hb _) (hp1.new hb _) (KAt.mk_cnt (SqT.of upd_same))
    · refine ifF (decide_eq_false (by omega)) ?_
      have hd0 := hgd (by omega)
      obtain ⟨d', rfl⟩ : ∃ d', d = d' + 1 := ⟨d - 1, by omega⟩
      have ed : ((d' + 1 : Nat) : Int) - 1 = (d' : Nat) := by omega
      refine ⟨_, rfl, _, rfl, _, _, rfl, rfl, _, _, rfl, p, d', rfl, congrArg V.int ed, by omega, hp1, fun k1 v1 H2 w1 s2 hp2 h1 => ?_⟩
      refine ⟨fits3, fun L hL => ?_⟩
      have e3 := Same.new hL (.lst [V.str Wd.pair.s, V.str Wd.sum.s, V.str Wd.fn.s])
      have hp3 := hp2.same e3
      obtain ⟨bw, hbw⟩ : ∃ bw : Bw, [V.str Wd.pair.s, V.str Wd.sum.s, V.str Wd.fn.s][g - 3]? = some (.str bw.w.s) := by
        have : g = 3 ∨ g = 4 ∨ g = 5 := by omega
        rcases this with z | z | z
        · exact ⟨.pair, by rw [z]; rfl⟩
        · exact ⟨.sum, by rw [z]; rfl⟩
        · exact ⟨.fn, by rw [z]; rfl⟩
      have eg : ((g : Nat) : Int) - 3 = ((g - 3 : Nat) : Int) := by omega
      refine ⟨_, rfl, _, _, rfl, rfl, L, _, _, .str bw.w.s, rfl, congrArg V.int eg, SqL.of upd_same, atI_nat hbw, ?_⟩
      refine ⟨_, rfl, _, rfl, _, rfl, _, _, rfl, rfl, _, _, rfl, p, d', rfl, congrArg V.int ed, by omega, hp3, fun k2 v2 H4 w2 s4 hp4 h2 => ?_⟩
      refine ⟨fits3, fun b hb => ?_⟩
      have tk4 := hp3.tk s4
      have e5 := Same.new hb (.tup [V.str bw.w.s, v1, v2])
      have s14 : SB p H H4 := SB.trans s1 (SB.trans s2 (SB.trans (SB.of e3) s4))
      refine q (.br bw k1 k2) _ _ ⟨?_, ?_⟩ (s14.new hb _) (hp4.new hb _) (KAt.mk_br (SqT.of upd_same) ((h1.tk (TK.of e3)).tk (TK.trans tk4 (TK.of e5))) (h2.tk (TK.of e5)))
      · have a1 := w1.1
        have a2 := w2.1
        simp only [Kd.deep]
        omega
      · have a1 := w1.2
        have a2 := w2.2
        have pw : 2 ^ (d' + 1 + 1) = 2 * 2 ^ (d' + 1) := by rw [Nat.pow_succ, Nat.mul_comm]
        simp only [Kd.size]
        omega
end
end K17
/-! K16: terms as trees; the machine on a tree that fits. -/
namespace K17
inductive Tm where
  | leaf (n : Nd)
  | un (n : Nd) (a : Tm)
  | bin (n : Nd) (a b : Tm)
  | tri (n : Nd) (a b c : Tm)
def Tm.flat : Tm → List Nd
  | .leaf n => [n]
  | .un n a => n :: a.flat
  | .bin n a b => n :: (a.flat ++ b.flat)
  | .tri n a b c => n :: (a.flat ++ (b.flat ++ c.flat))
/-- t has the kind k under the names row, all its kinds keep P; ks its kinds in the order of the nodes -/
inductive Ty (P : Kd → Prop) : List Kd → Tm → Kd → List Kd → Prop where
  | nm {row : List Kd} {i : Nat} {k : Kd} : row[i]? = some k → i ≤ 299 → P k → Ty P row (.leaf (.nm i)) k [k]
  | told {row : List Kd} {n : Nat} : n ≤ 1000000 → P .cnt → Ty P row (.leaf (.told n)) .cnt [.cnt]
  | fn {row ks : List Kd} {k r : Kd} {a : Tm} : P k → P (.br .fn k r) → Ty P (k :: row) a r ks → Ty P row (.un (.fn k) a) (.br .fn k r) (.br .fn k r :: ks)
  | call {row ka kb : List Kd} {p r : Kd} {a b : Tm} : Ty P row a (.br .fn p r) ka → Ty P row b p kb → P r → Ty P row (.bin .call a b) r (r :: (ka ++ kb))
  | lt {row ka kb : List Kd} {p r : Kd} {a b : Tm} : Ty P row a p ka → Ty P (p :: row) b r kb → P r → Ty P row (.bin .lt a b) r (r :: (ka ++ kb))
  | both {row ka kb : List Kd} {p r : Kd} {a b : Tm} : Ty P row a p ka → Ty P row b r kb → P (.br .pair p r) → Ty P row (.bin .both a b) (.br .pair p r) (.br .pair p r :: (ka ++ kb))
  | first {row ka : List Kd} {p r : Kd} {a : Tm} : Ty P row a (.br .pair p r) ka → P p → Ty P row (.un .first a) p (p :: ka)
  | second {row ka : List Kd} {p r : Kd} {a : Tm} : Ty P row a (.br .pair p r) ka → P r → Ty P row (.un .second a) r (r :: ka)
  | left {row ka : List Kd} {p r : Kd} {a : Tm} : Ty P row a p ka → P r → P (.br .sum p r) → Ty P row (.un (.left r) a) (.br .sum p r) (.br .sum p r :: ka)
  | right {row ka : List Kd} {p r : Kd} {a : Tm} : Ty P row a r ka → P p → P (.br .sum p r) → Ty P row (.un (.right p) a) (.br .sum p r) (.br .sum p r :: ka)
  | which {row ka kb kc : List Kd} {p r k : Kd} {a b c : Tm} : Ty P row a (.br .sum p r) ka → Ty P (p :: row) b k kb → Ty P (r :: row) c k kc → P k → Ty P row (.tri .which a b c) k (k :: (ka ++ (kb ++ kc)))
  | turns {row ka kb kc : List Kd} {k : Kd} {a b c : Tm} : Ty P row a .cnt ka → Ty P (k :: row) b k kb → Ty P row c k kc → P k → Ty P row (.tri (.turns k) a b c) k (k :: (ka ++ (kb ++ kc)))
  | next {row ka : List Kd} {a : Tm} : Ty P row a .cnt ka → P .cnt → Ty P row (.un .next a) .cnt (.cnt :: ka)
theorem consAll {α : Type} {R : α → Prop} {a : α} {l : List α} (h : R a) (t : ∀ x ∈ l, R x) : ∀ x ∈ a :: l, R x := fun x hx => by
  rcases List.mem_cons.mp hx with z | z
  · rw [z]
    exact h
  · exact t x z
theorem appAll {α : Type} {R : α → Prop} {l m : List α} (h : ∀ x ∈ l, R x) (t : ∀ x ∈ m, R x) : ∀ x ∈ l ++ m, R x := fun x hx => (List.mem_append.mp hx).elim (h x) (t x)
theorem oneAll {α : Type} {R : α → Prop} {a : α} (h : R a) : ∀ x ∈ [a], R x := fun x hx => by
  rw [List.mem_singleton.mp hx]
  exact h
section
variable {P : Kd → Prop} {row : List Kd} {t : Tm} {k : Kd} {ks : List Kd}
theorem Ty.len (h : Ty P row t k ks) : ks.length = t.flat.length := by
  induction h <;> simp_all [Tm.flat]
theorem Ty.head (h : Ty P row t k ks) : ks.head? = some k := by cases h <;> rfl
theorem Ty.ne (h : Ty P row t k ks) : 1 ≤ t.flat.length := by cases h <;> simp [Tm.flat]
theorem Ty.good (h : Ty P row t k ks) : P k := by cases h <;> assumption
theorem Ty.goods (h : Ty P row t k ks) : ∀ q ∈ ks, P q := by
  induction h with
  | nm _ _ p => exact oneAll p
  | told _ p => exact oneAll p
  | fn _ p _ ih => exact consAll p ih
  | first _ p ih => exact consAll p ih
  | second _ p ih => exact consAll p ih
  | left _ _ p ih => exact consAll p ih
  | right _ _ p ih => exact consAll p ih
  | next _ p ih => exact consAll p ih
  | call _ _ p ih1 ih2 => exact consAll p (appAll ih1 ih2)
  | lt _ _ p ih1 ih2 => exact consAll p (appAll ih1 ih2)
  | both _ _ p ih1 ih2 => exact consAll p (appAll ih1 ih2)
  | which _ _ _ p ih1 ih2 ih3 => exact consAll p (appAll ih1 (appAll ih2 ih3))
  | turns _ _ _ p ih1 ih2 ih3 => exact consAll p (appAll ih1 (appAll ih2 ih3))
/-- a property of a node's own kind, by the nodes of a tree -/
theorem Ty.nodes {R : Nd → Prop} (r1 : ∀ i, i ≤ 299 → R (.nm i)) (r2 : ∀ n, n ≤ 1000000 → R (.told n)) (r3 : ∀ q, P q → R (.fn q) ∧ R (.left q) ∧ R (.right q) ∧ R (.turns q)) (r4 : R .call ∧ R .lt ∧ R .both ∧ R .first ∧ R .second ∧ R .which ∧ R .next)
    (h : Ty P row t k ks) : ∀ n ∈ t.flat, R n := by
  obtain ⟨c1, c2, c3, c4, c5, c6, c7⟩ := r4
  induction h with
  | nm _ l _ => exact oneAll (r1 _ l)
  | told l _ => exact oneAll (r2 _ l)
  | fn p _ _ ih => exact consAll (r3 _ p).1 ih
  | first _ _ ih => exact consAll c4 ih
  | second _ _ ih => exact consAll c5 ih
  | left _ p _ ih => exact consAll (r3 _ p).2.1 ih
  | right _ p _ ih => exact consAll (r3 _ p).2.2.1 ih
  | next _ _ ih => exact consAll c7 ih
  | call _ _ _ ih1 ih2 => exact consAll c1 (appAll ih1 ih2)
  | lt _ _ _ ih1 ih2 => exact consAll c2 (appAll ih1 ih2)
  | both _ _ _ ih1 ih2 => exact consAll c3 (appAll ih1 ih2)
  | which _ _ _ _ ih1 ih2 ih3 => exact consAll c6 (appAll ih1 (appAll ih2 ih3))
  | turns _ _ _ p ih1 ih2 ih3 => exact consAll (r3 _ p).2.2.2 (appAll ih1 (appAll ih2 ih3))
theorem Ty.okn (hP : ∀ q, P q → okK q = true) (h : Ty P row t k ks) : ∀ n ∈ t.flat, okN n = true :=
  h.nodes (R := fun n => okN n = true) (fun i l => decide_eq_true l) (fun n l => decide_eq_true l) (fun q p => ⟨hP q p, hP q p, hP q p, hP q p⟩) ⟨rfl, rfl, rfl, rfl, rfl, rfl, rfl⟩
theorem Ty.tree (h : Ty P row t k ks) : ∀ (w : Nat) (r : List Nd), tree (w + 1) (t.flat ++ r) = K17.tree w r := by
  have e : ∀ (w : Nat) (n : Nd) (l : List Nd), K17.tree (w + 1) (n :: l) = K17.tree (w + (binds n.w).length) l := fun w n l => by rw [K17.tree]
  induction h with
  | nm _ _ _ => intro w r; exact e w _ r
  | told _ _ => intro w r; exact e w _ r
  | fn _ _ _ ih => intro w r; rw [Tm.flat, List.cons_append, e]; exact ih w r
  | first _ _ ih => intro w r; rw [Tm.flat, List.cons_append, e]; exact ih w r
  | second _ _ ih => intro w r; rw [Tm.flat, List.cons_append, e]; exact ih w r
  | left _ _ _ ih => intro w r; rw [Tm.flat, List.cons_append, e]; exact ih w r
  | right _ _ _ ih => intro w r; rw [Tm.flat, List.cons_append, e]; exact ih w r
  | next _ _ ih => intro w r; rw [Tm.flat, List.cons_append, e]; exact ih w r
  | call _ _ _ ih1 ih2 => intro w r; rw [Tm.flat, List.cons_append, e, List.append_assoc]; exact (ih1 (w + 1) _).trans (ih2 w r)
  | lt _ _ _ ih1 ih2 => intro w r; rw [Tm.flat, List.cons_append, e, List.append_assoc]; exact (ih1 (w + 1) _).trans (ih2 w r)
  | both _ _ _ ih1 ih2 => intro w r; rw [Tm.flat, List.cons_append, e, List.append_assoc]; exact (ih1 (w + 1) _).trans (ih2 w r)
  | which _ _ _ _ ih1 ih2 ih3 => intro w r; rw [Tm.flat, List.cons_append, e, List.append_assoc, List.append_assoc]; exact (ih1 (w + 2) _).trans ((ih2 (w + 1) _).trans (ih3 w r))
  | turns _ _ _ _ ih1 ih2 ih3 => intro w r; rw [Tm.flat, List.cons_append, e, List.append_assoc, List.append_assoc]; exact (ih1 (w + 2) _).trans ((ih2 (w + 1) _).trans (ih3 w r))
theorem Ty.isT (hP : ∀ q, P q → okK q = true) (h : Ty P row t k ks) (l : t.flat.length ≤ 300) : isT (t.flat.map some) = true := by
  have e := h.tree 0 []
  rw [List.append_nil] at e
  rw [isT_of, decide_eq_true h.ne, decide_eq_true l, e, Bool.true_and, Bool.true_and, K17.tree, decide_eq_true rfl, Bool.and_true, List.all_eq_true]
  exact h.okn hP
/-- more names behind -/
theorem Ty.weak (h : Ty P row t k ks) : ∀ more, Ty P (row ++ more) t k ks := by
  induction h with
  | nm a b c => exact fun more => .nm (by rw [List.getElem?_append_left (List.getElem?_eq_some_iff.mp a).1]; exact a) b c
  | told a b => exact fun more => .told a b
  | fn a b _ ih => exact fun more => .fn a b (ih more)
  | first _ a ih => exact fun more => .first (ih more) a
  | second _ a ih => exact fun more => .second (ih more) a
  | left _ a b ih => exact fun more => .left (ih more) a b
  | right _ a b ih => exact fun more => .right (ih more) a b
  | next _ a ih => exact fun more => .next (ih more) a
  | call _ _ a ih1 ih2 => exact fun more => .call (ih1 more) (ih2 more) a
  | lt _ _ a ih1 ih2 => exact fun more => .lt (ih1 more) (ih2 more) a
  | both _ _ a ih1 ih2 => exact fun more => .both (ih1 more) (ih2 more) a
  | which _ _ _ a ih1 ih2 ih3 => exact fun more => .which (ih1 more) (ih2 more) (ih3 more) a
  | turns _ _ _ a ih1 ih2 ih3 => exact fun more => .turns (ih1 more) (ih2 more) (ih3 more) a
def Tm.put (b : Bool) (o : Kd) : Tm → Tm
  | .leaf n => .leaf (n.put b o)
  | .un n a => .un (n.put b o) (Tm.put b o a)
  | .bin n a c => .bin (n.put b o) (Tm.put b o a) (Tm.put b o c)
  | .tri n a c d => .tri (n.put b o) (Tm.put b o a) (Tm.put b o c) (Tm.put b o d)
theorem put_flat (b : Bool) (o : Kd) : ∀ t : Tm, (Tm.put b o t).flat = t.flat.map (Nd.put b o)
  | .leaf n => rfl
  | .un n a => by rw [Tm.put, Tm.flat, Tm.flat, put_flat b o a, List.map_cons]
  | .bin n a c => by rw [Tm.put, Tm.flat, Tm.flat, put_flat b o a, put_flat b o c, List.map_cons, List.map_append]
  | .tri n a c d => by rw [Tm.put, Tm.flat, Tm.flat, put_flat b o a, put_flat b o c, put_flat b o d, List.map_cons, List.map_append, List.map_append]
theorem Ty.put {P' : Kd → Prop} {b : Bool} {o : Kd} (hp : ∀ q, P q → P' (Kd.put b o q)) (h : Ty P row t k ks) : Ty P' (row.map (Kd.put b o)) (Tm.put b o t) (Kd.put b o k) (ks.map (Kd.put b o)) := by
  induction h with
  | nm x y z => exact .nm (by rw [List.getElem?_map, x]; rfl) y (hp _ z)
  | told x y => exact .told x (hp _ y)
  | fn x y _ ih => exact .fn (hp _ x) (hp _ y) ih
  | first _ x ih => exact .first ih (hp _ x)
  | second _ x ih => exact .second ih (hp _ x)
  | left _ x y ih => exact .left ih (hp _ x) (hp _ y)
  | right _ x y ih => exact .right ih (hp _ x) (hp _ y)
  | next _ x ih => exact .next ih (hp _ x)
  | call _ _ x ih1 ih2 =>
    rw [List.map_cons, List.map_append]
    exact .call ih1 ih2 (hp _ x)
  | lt _ _ x ih1 ih2 =>
    rw [List.map_cons, List.map_append]
    exact .lt ih1 ih2 (hp _ x)
  | both _ _ x ih1 ih2 =>
    rw [List.map_cons, List.map_append]
    exact .both ih1 ih2 (hp _ x)
  | which _ _ _ x ih1 ih2 ih3 =>
    rw [List.map_cons, List.map_append, List.map_append]
    exact .which ih1 ih2 ih3 (hp _ x)
  | turns _ _ _ x ih1 ih2 ih3 =>
    rw [List.map_cons, List.map_append, List.map_append]
    exact .turns ih1 ih2 ih3 (hp _ x)
end
/-! ### the machine on a tree -/
def setL : List (Option Kd) → Nat → List Kd → List (Option Kd)
  | kn, _, [] => kn
  | kn, i, k :: ks => setL (kn.set i (some k)) (i + 1) ks
theorem setL_app : ∀ (xs ys : List Kd) (kn : List (Option Kd)) (i : Nat), setL kn i (xs ++ ys) = setL (setL kn i xs) (i + xs.length) ys
  | [], ys, kn, i => rfl
  | x :: xs, ys, kn, i => by
    rw [List.cons_append, setL, setL_app xs ys, setL, List.length_cons, Nat.add_assoc, Nat.add_comm 1]
theorem setL_set : ∀ (ks : List Kd) (kn : List (Option Kd)) (i j : Nat) (v : Option Kd), i < j → (setL kn j ks).set i v = setL (kn.set i v) j ks
  | [], kn, i, j, v, h => rfl
  | k :: ks, kn, i, j, v, h => by
    rw [setL, setL, setL_set ks _ i (j + 1) v (by omega), List.set_comm _ _ (by omega)]
theorem setL_all : ∀ (ks : List Kd) (pre mid : List (Option Kd)), mid.length = ks.length → setL (pre ++ mid) pre.length ks = pre ++ ks.map some
  | [], pre, mid, h => by
    rw [List.length_eq_zero_iff.mp h]
    rfl
  | k :: ks, pre, [], h => by cases h
  | k :: ks, pre, m :: mid, h => by
    have e : (pre ++ m :: mid).set pre.length (some k) = (pre ++ [some k]) ++ mid := by simp
    have l : pre.length + 1 = (pre ++ [some k]).length := by simp
    rw [setL, e, l, setL_all ks _ mid (by simpa using h)]
    simp
/-- one node more of a tree -/
def after (top : List Kd) (i : Nat) (r : List Nd) (fs : List Fr) (kn : List (Option Kd)) (k : Kd) : Option (List (Option Kd)) :=
  match finish fs.length (pushK k fs) kn with
  | none => none
  | some q => run top i r q.1 q.2
theorem run_leaf {top row : List Kd} {fs : List Fr} {n : Nd} {k : Kd} {i : Nat} {r : List Nd} {kn : List (Option Kd)} (h : rowOf top fs = some row) (hn : n.inner = false) (hk : kindLeaf n row = some k) : run top i (n :: r) fs kn = after top (i + 1) r fs (kn.set i (some k)) k := by
  rw [run]
  simp only [h, hn, hk, after]
  rfl
theorem run_inner {top row : List Kd} {fs : List Fr} {n : Nd} {i : Nat} {r : List Nd} {kn : List (Option Kd)} (h : rowOf top fs = some row) (hn : n.inner = true) : run top i (n :: r) fs kn = run top (i + 1) r (⟨i, n, row, []⟩ :: fs) kn := by
  rw [run]
  simp only [h, hn, if_true]
/-- the frame has all its kinds -/
theorem after_full {top row : List Kd} {fs : List Fr} {n : Nd} {k q : Kd} {us : List Kd} {i j : Nat} {r : List Nd} {kn : List (Option Kd)} (hl : (us ++ [q]).length = (binds n.w).length) (hk : kindBy n (us ++ [q]) = some k) :
    after top j r (⟨i, n, row, us⟩ :: fs) kn q = after top j r fs (kn.set i (some k)) k := by
  unfold after
  rw [List.length_cons, pushK, finish, if_neg (by rw [hl]; exact Nat.lt_irrefl _)]
  simp only [hk]
/-- the frame waits for more -/
theorem after_wait {top row : List Kd} {fs : List Fr} {n : Nd} {q : Kd} {us : List Kd} {i j : Nat} {r : List Nd} {kn : List (Option Kd)} (hl : (us ++ [q]).length < (binds n.w).length) :
    after top j r (⟨i, n, row, us⟩ :: fs) kn q = run top j r (⟨i, n, row, us ++ [q]⟩ :: fs) kn := by
  unfold after
  rw [List.length_cons, pushK, finish, if_pos hl]
theorem chk_pos {k : Kd} (h : okK k = true) : chk k = some k := if_pos h
theorem Ty.walks {P : Kd → Prop} (hP : ∀ q, P q → okK q = true) {row : List Kd} {t : Tm} {k : Kd} {ks : List Kd} (h : Ty P row t k ks) : ∀ (top : List Kd) (i : Nat) (r : List Nd) (fs : List Fr) (kn : List (Option Kd)), rowOf top fs = some row →
    run top i (t.flat ++ r) fs kn = after top (i + t.flat.length) r fs (setL kn i ks) k := by
  have one : ∀ {n : Nd} {row row' ka : List Kd} {a : Tm} {p k : Kd} (top : List Kd) (i : Nat) (r : List Nd) (fs : List Fr) (kn : List (Option Kd)), n.inner = true → (binds n.w).length = 1 → rowOf top fs = some row → nextRow ⟨i, n, row, []⟩ = some row' → kindBy n [p] = some k →
      (∀ (top : List Kd) (i : Nat) (r : List Nd) (fs : List Fr) (kn : List (Option Kd)), rowOf top fs = some row' → run top i (a.flat ++ r) fs kn = after top (i + a.flat.length) r fs (setL kn i ka) p) →
      run top i ((Tm.un n a).flat ++ r) fs kn = after top (i + (Tm.un n a).flat.length) r fs (setL kn i (k :: ka)) k := by
    intro n row row' ka a p k top i r fs kn hin hl hrow hnx hk ih
    rw [Tm.flat, List.cons_append, run_inner hrow hin, ih top (i + 1) r (⟨i, n, row, []⟩ :: fs) kn hnx, after_full (us := []) (k := k) hl.symm hk, setL_set _ _ _ _ _ (Nat.lt_succ_self i), setL, List.length_cons]
    congr 1
    omega
  have two : ∀ {n : Nd} {row row1 row2 ka kb : List Kd} {a b : Tm} {p q k : Kd} (top : List Kd) (i : Nat) (r : List Nd) (fs : List Fr) (kn : List (Option Kd)), n.inner = true → (binds n.w).length = 2 → rowOf top fs = some row → nextRow ⟨i, n, row, []⟩ = some row1 → nextRow ⟨i, n, row, [p]⟩ = some row2 → kindBy n [p, q] = some k → ka.length = a.flat.length →
      (∀ (top : List Kd) (i : Nat) (r : List Nd) (fs : List Fr) (kn : List (Option Kd)), rowOf top fs = some row1 → run top i (a.flat ++ r) fs kn = after top (i + a.flat.length) r fs (setL kn i ka) p) →
      (∀ (top : List Kd) (i : Nat) (r : List Nd) (fs : List Fr) (kn : List (Option Kd)), rowOf top fs = some row2 → run top i (b.flat ++ r) fs kn = after top (i + b.flat.length) r fs (setL kn i kb) q) →
      run top i ((Tm.bin n a b).flat ++ r) fs kn = after top (i + (Tm.bin n a b).flat.length) r fs (setL kn i (k :: (ka ++ kb))) k := by
    intro n row row1 row2 ka kb a b p q k top i r fs kn hin hl hrow hn1 hn2 hk la ih1 ih2
    rw [Tm.flat, List.cons_append, List.append_assoc, run_inner hrow hin, ih1 top (i + 1) _ (⟨i, n, row, []⟩ :: fs) kn hn1, after_wait (us := []) (by rw [hl]; simp), List.nil_append, ih2 top _ r (⟨i, n, row, [p]⟩ :: fs) _ hn2, after_full (us := [p]) (k := k) hl.symm hk,
      setL_set _ _ _ _ _ (by omega), setL_set _ _ _ _ _ (Nat.lt_succ_self i), setL, setL_app, la, List.length_cons, List.length_append]
    congr 1
    omega
  have three : ∀ {n : Nd} {row row1 row2 row3 ka kb kc : List Kd} {a b c : Tm} {p q s k : Kd} (top : List Kd) (i : Nat) (r : List Nd) (fs : List Fr) (kn : List (Option Kd)), n.inner = true → (binds n.w).length = 3 → rowOf top fs = some row → nextRow ⟨i, n, row, []⟩ = some row1 → nextRow ⟨i, n, row, [p]⟩ = some row2 → nextRow ⟨i, n, row, [p, q]⟩ = some row3 → kindBy n [p, q, s] = some k → ka.length = a.flat.length → kb.length = b.flat.length →
      (∀ (top : List Kd) (i : Nat) (r : List Nd) (fs : List Fr) (kn : List (Option Kd)), rowOf top fs = some row1 → run top i (a.flat ++ r) fs kn = after top (i + a.flat.length) r fs (setL kn i ka) p) →
      (∀ (top : List Kd) (i : Nat) (r : List Nd) (fs : List Fr) (kn : List (Option Kd)), rowOf top fs = some row2 → run top i (b.flat ++ r) fs kn = after top (i + b.flat.length) r fs (setL kn i kb) q) →
      (∀ (top : List Kd) (i : Nat) (r : List Nd) (fs : List Fr) (kn : List (Option Kd)), rowOf top fs = some row3 → run top i (c.flat ++ r) fs kn = after top (i + c.flat.length) r fs (setL kn i kc) s) →
      run top i ((Tm.tri n a b c).flat ++ r) fs kn = after top (i + (Tm.tri n a b c).flat.length) r fs (setL kn i (k :: (ka ++ (kb ++ kc)))) k := by
    intro n row row1 row2 row3 ka kb kc a b c p q s k top i r fs kn hin hl hrow hn1 hn2 hn3 hk la lb ih1 ih2 ih3
    rw [Tm.flat, List.cons_append, List.append_assoc, List.append_assoc, run_inner hrow hin, ih1 top (i + 1) _ (⟨i, n, row, []⟩ :: fs) kn hn1, after_wait (us := []) (by rw [hl]; simp), List.nil_append, ih2 top _ _ (⟨i, n, row, [p]⟩ :: fs) _ hn2, after_wait (us := [p]) (by rw [hl]; simp), List.singleton_append, ih3 top _ r (⟨i, n, row, [p, q]⟩ :: fs) _ hn3, after_full (us := [p, q]) (k := k) hl.symm hk,
      setL_set _ _ _ _ _ (by omega), setL_set _ _ _ _ _ (by omega), setL_set _ _ _ _ _ (Nat.lt_succ_self i), setL, setL_app, setL_app, la, lb, List.length_cons, List.length_append, List.length_append]
    congr 1
    omega
  induction h with
  | nm x y z =>
    intro top i r fs kn hrow
    exact run_leaf hrow rfl x
  | told x y =>
    intro top i r fs kn hrow
    exact run_leaf hrow rfl rfl
  | fn x y _ ih => exact fun top i r fs kn hrow => one top i r fs kn rfl rfl hrow rfl (chk_pos (hP _ y)) ih
  | first _ x ih => exact fun top i r fs kn hrow => one top i r fs kn rfl rfl hrow rfl rfl ih
  | second _ x ih => exact fun top i r fs kn hrow => one top i r fs kn rfl rfl hrow rfl rfl ih
  | left _ x y ih => exact fun top i r fs kn hrow => one top i r fs kn rfl rfl hrow rfl (chk_pos (hP _ y)) ih
  | right _ x y ih => exact fun top i r fs kn hrow => one top i r fs kn rfl rfl hrow rfl (chk_pos (hP _ y)) ih
  | next _ x ih => exact fun top i r fs kn hrow => one top i r fs kn rfl rfl hrow rfl rfl ih
  | call h1 h2 x ih1 ih2 => exact fun top i r fs kn hrow => two top i r fs kn rfl rfl hrow rfl rfl (by simp [kindBy, kindFew, kCall]) h1.len ih1 ih2
  | lt h1 h2 x ih1 ih2 => exact fun top i r fs kn hrow => two top i r fs kn rfl rfl hrow rfl rfl rfl h1.len ih1 ih2
  | both h1 h2 x ih1 ih2 => exact fun top i r fs kn hrow => two top i r fs kn rfl rfl hrow rfl rfl (chk_pos (hP _ x)) h1.len ih1 ih2
  | which h1 h2 h3 x ih1 ih2 ih3 => exact fun top i r fs kn hrow => three top i r fs kn rfl rfl hrow rfl rfl rfl (by simp [kindBy, kindFew]) h1.len h2.len ih1 ih2 ih3
  | turns h1 h2 h3 x ih1 ih2 ih3 => exact fun top i r fs kn hrow => three top i r fs kn rfl rfl hrow rfl rfl rfl (by simp [kindBy, kindFew]) h1.len h2.len ih1 ih2 ih3
/-- what the machine tells of a tree that fits -/
theorem Ty.kinds {P : Kd → Prop} (hP : ∀ q, P q → okK q = true) {row : List Kd} {t : Tm} {k : Kd} {ks : List Kd} (h : Ty P row t k ks) : kindsOf row t.flat = some (ks.map some) := by
  have e := h.walks hP row 0 [] [] (List.replicate t.flat.length none) rfl
  rw [List.append_nil] at e
  have s := setL_all ks [] (List.replicate t.flat.length none) (by rw [List.length_replicate, h.len])
  rw [List.nil_append, List.nil_append, List.length_nil] at s
  unfold K17.kindsOf
  rw [e, s]
  rfl
end K17
/-! K17: terms drawn: _law_cut, _law_made. -/
namespace K17
open PySem L2
/-! ### lists of nodes, lists of kinds, beside the pot -/
def NLs (K : PySem.W.Frag) (H : Hp) (p : Addr) (v : V) (ns : List Nd) : Prop := ∃ l xs, v = .ref l ∧ l ≠ p ∧ H l = some (.lst xs) ∧ NsAt K H xs ns
def KLs (K : PySem.W.Frag) (H : Hp) (p : Addr) (v : V) (ks : List Kd) : Prop := ∃ l xs, v = .ref l ∧ l ≠ p ∧ H l = some (.lst xs) ∧ KsAt K H xs ks
section
variable {K : PySem.W.Frag} {H H' : Hp} {p : Addr} {v v1 v2 : V} {ns ms : List Nd} {ks ls : List Kd} {Q : VK}
theorem NLs.sb (h : NLs K H p v ns) (hp : PotAt H p) (s : SB p H H') : NLs K H' p v ns := by
  obtain ⟨l, xs, rfl, n, e, a⟩ := h
  exact ⟨l, xs, rfl, n, s _ _ n e, a.tk (hp.tk s)⟩
theorem KLs.sb (h : KLs K H p v ks) (hp : PotAt H p) (s : SB p H H') : KLs K H' p v ks := by
  obtain ⟨l, xs, rfl, n, e, a⟩ := h
  exact ⟨l, xs, rfl, n, s _ _ n e, a.tk (hp.tk s)⟩
theorem NLs.same (h : NLs K H p v ns) (s : Same H H') : NLs K H' p v ns := by
  obtain ⟨l, xs, rfl, n, e, a⟩ := h
  exact ⟨l, xs, rfl, n, s _ _ e, a.tk (TK.of s)⟩
theorem KLs.same (h : KLs K H p v ks) (s : Same H H') : KLs K H' p v ks := by
  obtain ⟨l, xs, rfl, n, e, a⟩ := h
  exact ⟨l, xs, rfl, n, s _ _ e, a.tk (TK.of s)⟩
theorem PotAt.ne {q : Addr} (h : PotAt H p) (n : H q = none) : q ≠ p := fun z => by
  obtain ⟨a, b, e, _⟩ := h
  rw [z, e] at n
  cases n
theorem NLs.new {l : Addr} {xs : List V} (hp : PotAt H p) (hl : H l = none) (h : NsAt K H xs ns) : NLs K (L2.upd H l (.lst xs)) p (.ref l) ns :=
  ⟨l, xs, rfl, hp.ne hl, upd_same, h.tk (TK.of (K17.Same.new hl _))⟩
theorem KLs.new {l : Addr} {xs : List V} (hp : PotAt H p) (hl : H l = none) (h : KsAt K H xs ks) : KLs K (L2.upd H l (.lst xs)) p (.ref l) ks :=
  ⟨l, xs, rfl, hp.ne hl, upd_same, h.tk (TK.of (K17.Same.new hl _))⟩
theorem cat_n (h1 : NLs K H p v1 ns) (h2 : NLs K H p v2 ms) (hp : PotAt H p) (hl : ns.length + ms.length ≤ 10000) (q : ∀ v H', Same H H' → PotAt H' p → NLs K H' p v (ns ++ ms) → Q v H') : rCat v1 v2 H Q := by
  obtain ⟨l, xs, rfl, n1, e1, a1⟩ := h1
  obtain ⟨b, ys, rfl, n2, e2, a2⟩ := h2
  refine ⟨l, b, xs, ys, rfl, rfl, e1, e2, ?_, fun c hc => q _ _ (K17.Same.new hc _) (hp.new hc _) (NLs.new hp hc ?_)⟩
  · rw [a1.length, a2.length, line_eq]
    omega
  · show DpAll K H (xs ++ ys) ((ns ++ ms).map dN)
    rw [List.map_append]
    exact DpAll.app a1 a2
theorem cat_k (h1 : KLs K H p v1 ks) (h2 : KLs K H p v2 ls) (hp : PotAt H p) (hl : ks.length + ls.length ≤ 10000) (q : ∀ v H', Same H H' → PotAt H' p → KLs K H' p v (ks ++ ls) → Q v H') : rCat v1 v2 H Q := by
  obtain ⟨l, xs, rfl, n1, e1, a1⟩ := h1
  obtain ⟨b, ys, rfl, n2, e2, a2⟩ := h2
  refine ⟨l, b, xs, ys, rfl, rfl, e1, e2, ?_, fun c hc => q _ _ (K17.Same.new hc _) (hp.new hc _) (KLs.new hp hc ?_)⟩
  · rw [a1.length, a2.length, line_eq]
    omega
  · show DpAll K H (xs ++ ys) ((ks ++ ls).map dK)
    rw [List.map_append]
    exact DpAll.app a1 a2
theorem NAt.w0 {n : Nd} {a : Addr} (e : n.arg = []) (h : SqT K H a [.str n.w.s]) : NAt K H (.ref a) n := by
  show Dp K H _ (dN n)
  rw [dN, e]
  exact .tup h (.cons (.str _) .nil)
theorem NAt.w1 {n : Nd} {a : Addr} {x : V} {k : Kd} (e : n.arg = [dK k]) (h : SqT K H a [.str n.w.s, x]) (hx : KAt K H x k) : NAt K H (.ref a) n := by
  show Dp K H _ (dN n)
  rw [dN, e]
  exact .tup h (.cons (.str _) (.cons hx .nil))
theorem NAt.wi {n : Nd} {a : Addr} {i : Int} (e : n.arg = [.int i]) (h : SqT K H a [.str n.w.s, .int i]) : NAt K H (.ref a) n := by
  show Dp K H _ (dN n)
  rw [dN, e]
  exact .tup h (.cons (.str _) (.cons (.int _) .nil))
end
section
variable {K : PySem.W.Frag} {H : Hp} {p : Addr} {nv vk : V} {k' : Kd} {names : List Kd} {Q : VK}
/-- [k] + names -/
theorem more_k (a1 : PotAt H p) (a2 : KAt K H vk k') (a3 : KLs K H p nv names) (hl : names.length ≤ 1000) (q : ∀ v H', Same H H' → PotAt H' p → KLs K H' p v (k' :: names) → Q v H') : [vk].length ≤ sizeLine ∧ ∀ l, H l = none → ∃ v, some (some nv) = some (some v) ∧ rCat (.ref l) v (upd H l (.lst [vk])) Q := by
  refine ⟨fits1, fun l hl2 => ⟨nv, rfl, ?_⟩⟩
  have e := K17.Same.new hl2 (.lst [vk])
  exact cat_k (ks := [k']) (KLs.new a1 hl2 (.cons a2 .nil)) (a3.same e) (a1.new hl2 _) (by simp only [List.length_cons, List.length_nil]; omega) fun v H4 e4 h4 k4 => q v H4 (e.trans e4) h4 k4
end
theorem if_split {c : TT} {t u : TS} {D : Ends} {σ : L2.St} {H : Hp} (R : L2.St → Hp → Prop) (h1 : ∀ N : L2.St → Hp → Prop, (∀ σ' H', R σ' H' → N σ' H') → tIfS c t tNext { D with nx := N } σ H) (h2 : ∀ σ' H', R σ' H' → u D σ' H') : tSeq (tIfS c t tNext) u D σ H := h1 (u D) h2
section
variable {K : PySem.W.Frag} {H : Hp} {p b1 b2 l : Addr} {x y : V} {n1 n2 : Nd} {k1 k2 : Kd}
/-- [(w1,)], [(w1, k1)], .. laid anew: the heap, the list -/
theorem lay1 {xs : List V} (hp : PotAt H p) (h1 : H b1 = none) (hl : (L2.upd H b1 (.tup xs)) l = none) (a1 : ∀ H', Same H H' → SqT K H' b1 xs → NAt K H' (.ref b1) n1) :
    Same H (L2.upd (L2.upd H b1 (.tup xs)) l (.lst [.ref b1])) ∧ PotAt (L2.upd (L2.upd H b1 (.tup xs)) l (.lst [.ref b1])) p ∧ NLs K (L2.upd (L2.upd H b1 (.tup xs)) l (.lst [.ref b1])) p (.ref l) [n1] := by
  have e1 := K17.Same.new h1 (.tup xs)
  have e2 := K17.Same.new hl (.lst [V.ref b1])
  exact ⟨e1.trans e2, hp.same (e1.trans e2), NLs.new (hp.same e1) hl (.cons (a1 _ e1 (SqT.of upd_same)) .nil)⟩
theorem lay2 {xs ys : List V} (hp : PotAt H p) (h1 : H b1 = none) (h2 : (L2.upd H b1 (.tup xs)) b2 = none) (hl : (L2.upd (L2.upd H b1 (.tup xs)) b2 (.tup ys)) l = none) (a1 : ∀ H', Same H H' → SqT K H' b1 xs → NAt K H' (.ref b1) n1) (a2 : ∀ H', Same H H' → SqT K H' b2 ys → NAt K H' (.ref b2) n2) :
    Same H (L2.upd (L2.upd (L2.upd H b1 (.tup xs)) b2 (.tup ys)) l (.lst [.ref b1, .ref b2])) ∧ PotAt (L2.upd (L2.upd (L2.upd H b1 (.tup xs)) b2 (.tup ys)) l (.lst [.ref b1, .ref b2])) p ∧ NLs K (L2.upd (L2.upd (L2.upd H b1 (.tup xs)) b2 (.tup ys)) l (.lst [.ref b1, .ref b2])) p (.ref l) [n1, n2] := by
  have e1 := K17.Same.new h1 (.tup xs)
  have e2 := K17.Same.new h2 (.tup ys)
  have e3 := K17.Same.new hl (.lst [V.ref b1, V.ref b2])
  exact ⟨(e1.trans e2).trans e3, hp.same ((e1.trans e2).trans e3), NLs.new (hp.same (e1.trans e2)) hl (.cons (a1 _ (e1.trans e2) (SqT.of (e2 _ _ upd_same))) (.cons (a2 _ (e1.trans e2) (SqT.of upd_same)) .nil))⟩
end
/-! ### bounds -/
def PK (k : Kd) : Prop := k.size ≤ 11 ∧ k.deep ≤ 5
theorem PK.ok {k : Kd} (h : PK k) : okK k = true := decide_eq_true ⟨by have := h.1; omega, by have := h.2; omega⟩
def BB : Nat → Nat
  | 0 => 11
  | n + 1 => 2 + 3 * BB n
def bnd (n : Nat) (k : Kd) : Nat := if n = 0 then 3 * 2 ^ (k.deep - 1) - 1 else BB n
def need (n : Nat) (k : Kd) : Nat := if n = 0 then k.deep + 3 else 2 * n + 6
theorem pow_le {a b : Nat} (h : a ≤ b) : 2 ^ a ≤ 2 ^ b := Nat.pow_le_pow_right (by decide) h
theorem bnd_le {n : Nat} {k : Kd} (h : k.deep ≤ 3) : bnd n k ≤ BB n := by
  unfold bnd
  split
  · rename_i e
    subst e
    have : 2 ^ (k.deep - 1) ≤ 2 ^ 2 := pow_le (by omega)
    show _ ≤ 11
    omega
  · exact Nat.le_refl _
theorem BB_pos : ∀ n, 2 ≤ BB n
  | 0 => by decide
  | n + 1 => by
    have := BB_pos n
    show 2 ≤ 2 + 3 * BB n
    omega
theorem bnd_pos {n : Nat} {k : Kd} : 2 ≤ bnd n k := by
  unfold bnd
  split
  · have : 1 ≤ 2 ^ (k.deep - 1) := Nat.one_le_two_pow
    omega
  · exact BB_pos n
theorem within_lt {k : Kd} {d e : Nat} (h : Kd.within d k) (l : d ≤ e) : Kd.within e k := ⟨by have := h.1; omega, Nat.le_trans h.2 (pow_le (by omega))⟩
theorem within2 {k : Kd} (h : Kd.within 2 k) : k.deep ≤ 3 ∧ k.size ≤ 7 := ⟨h.1, by have := h.2; have e : 2 ^ (2 + 1) = 8 := rfl; omega⟩
theorem within1 {k : Kd} (h : Kd.within 1 k) : k.deep ≤ 2 ∧ k.size ≤ 3 := ⟨h.1, by have := h.2; have e : 2 ^ (1 + 1) = 4 := rfl; omega⟩
theorem within0 {k : Kd} (h : Kd.within 0 k) : k.deep ≤ 1 ∧ k.size ≤ 1 := ⟨h.1, by have := h.2; have e : 2 ^ (0 + 1) = 2 := rfl; omega⟩
theorem within2_PK {k : Kd} (h : Kd.within 2 k) : PK k := ⟨by have := within2 h; omega, by have := within2 h; omega⟩
theorem within_br {w : Bw} {a b : Kd} (h : Kd.within 2 (.br w a b)) : Kd.within 2 a ∧ Kd.within 2 b ∧ a.deep ≤ 2 ∧ b.deep ≤ 2 := by
  have := within2 h
  have e : 2 ^ (2 + 1) = 8 := rfl
  simp only [Kd.deep, Kd.size] at this
  exact ⟨⟨by omega, by omega⟩, ⟨by omega, by omega⟩, by omega, by omega⟩
theorem PK_br {w : Bw} {a b : Kd} (ha : a.deep ≤ 3 ∧ a.size ≤ 7) (hb : b.deep ≤ 3 ∧ b.size ≤ 7) (l : a.size + b.size ≤ 10) : PK (.br w a b) := ⟨by simp only [Kd.size]; omega, by simp only [Kd.deep]; omega⟩
/-! ### promises -/
structure MadeIn (K : PySem.W.Frag) (H : Hp) (p : Addr) (pv kv nv dv : V) (m : Nat) (k : Kd) (names : List Kd) (d : Int) : Prop where
  pv : pv = .ref p
  dv : dv = .int d
  pot : PotAt H p
  kd : KAt K H kv k
  nm : KLs K H p nv names
  kw : Kd.within 2 k
  nP : ∀ q ∈ names, PK q
  lt : ∀ b, Kd.ltr b ∈ names
  nl : names.length + m ≤ 100
  d3 : d ≤ 3
def gMade (K : PySem.W.Frag) (m : Nat) : G4 := fun pv kv nv dv H Q _ => ∃ p k names d, MadeIn K H p pv kv nv dv m k names d ∧ need d.toNat k ≤ m ∧ ∀ v t ks H', Ty PK names t k ks → t.flat.length ≤ bnd d.toNat k → SB p H H' → PotAt H' p → NLs K H' p v t.flat → Q v H'
def gCut (K : PySem.W.Frag) (m : Nat) : G4 := fun pv kv nv dv H Q _ => ∃ p k names d, MadeIn K H p pv kv nv dv m k names d ∧ 0 < d ∧ 2 * d.toNat + 5 ≤ m ∧ d.toNat ≤ 3 ∧ ∀ v t ks H', Ty PK names t k ks → t.flat.length ≤ BB d.toNat → SB p H H' → PotAt H' p → NLs K H' p v t.flat → Q v H'
section
variable {P : Program} {w : World} {K : PySem.W.Frag} {mg : Str → Option Value} {base : Heap} {fr nk nkI : Addr} {fd : FuncData}
abbrev N__law_cut : List Str := ["_law_pot_here", "_law_kind_here", "_law_names", "_law_deep_here", "_law_way", "_law_other", "_law_body", "_law_what", "_law_near", "_law_far", "_law_more", "_law_arm", "_law_step"]
theorem sc__law_cut : FnScope N__law_cut ["_law_pot_here", "_law_kind_here", "_law_names", "_law_deep_here"] (defScope (top 84)) := ⟨rfl, rfl, rfl, by decide +kernel, rfl, by decide +kernel, by decide +kernel⟩
abbrev psM : List Str := ["_law_pot_here", "_law_kind_here", "_law_names", "_law_deep_here"]
theorem ok_cut_step (T : Txt K w mg fr fd nk nkI) (D : Df K mg "_law_cut" (top 84)) (c__law_draw : Cal P w K mg base CX0 "_law_draw" 1 ["_law_pot_here", "_law_size"] (sp2 gDraw)) (c__law_kind : Cal P w K mg base CX0 "_law_kind" 3 ["_law_pot_here", "_law_deep_here"] (sp2 (gLKind K 3)))
    (m : Nat) (c__law_made : Cal P w K mg base CX0 "_law_made" m psM (sp4 (gMade K m))) : Cal P w K mg base CX0 "_law_cut" (m + 1) psM (sp4 (gCut K (m + 1))) := by
  refine D.cal sc__law_cut (bs4 fun _ _ _ _ _ _ _ _ _ _ => rfl) sp4_len fun f cdv A outer s H vs Q E hr h => ?_
  obtain ⟨_, kv, nv, _, rfl, p, k, names, d, ⟨rfl, rfl, hp, hk, hnm, kw, nP, lt, nl, hdd⟩, hd, hlv, hd3, q⟩ := h
  have m6 : 6 ≤ m := by omega
  refine ⟨_, (pss_cons (ps_par (i := 4) (j := 5) rfl sc__law_cut.nd rfl rfl (by decide) rfl rfl (pa_cons (pe_cal c__law_draw (hr.mono (by omega)) rfl pass0 (pa_cons (pv 0) (pa_cons pe_int pa_nil))) (pa_cons (pe_cal c__law_kind (hr.mono (by omega)) rfl pass0 (pa_cons (pv 0) (pa_cons pe_int pa_nil))) pa_nil)) (by rfl))
    (pss_cons (ps_if (pt_cmpR op_eq (pv 4) pe_int (by rfl)) 
      (pss_cons (ps_set (i := 6) sc__law_cut.nd rfl (Or.inl rfl) (pe_cal c__law_made (hr.mono (by omega)) rfl pass0 (pa_cons (pv 0) (pa_cons (pv 1) (pa_cons (pe_op op_cat (pe_lst (pa_cons (pv 5) pa_nil)) (pv 2)) (pa_cons (pe_op op_sub (pv 3) pe_int) pa_nil))))))
      (pss_one (ps_ret (pe_op op_cat (pe_op op_cat (pe_lst (pa_cons (pe_tup (pa_cons pe_str pa_nil)) (pa_cons (pe_tup (pa_cons pe_str (pa_cons (pv 5) pa_nil))) pa_nil))) (pv 6)) (pe_cal c__law_made (hr.mono (by omega)) rfl pass0 (pa_cons (pv 0) (pa_cons (pv 5) (pa_cons (pv 2) (pa_cons (pe_op op_sub (pv 3) pe_int) pa_nil))))))))) pss_nil)
    (pss_cons (ps_if (pt_cmpR op_eq (pv 4) pe_int (by rfl)) 
      (pss_cons (ps_set (i := 7) sc__law_cut.nd rfl (Or.inl rfl) (pe_cal c__law_made (hr.mono (by omega)) rfl pass0 (pa_cons (pv 0) (pa_cons (pv 5) (pa_cons (pv 2) (pa_cons (pe_op op_sub (pv 3) pe_int) pa_nil))))))
      (pss_one (ps_ret (pe_op op_cat (pe_op op_cat (pe_lst (pa_cons (pe_tup (pa_cons pe_str pa_nil)) pa_nil)) (pv 7)) (pe_cal c__law_made (hr.mono (by omega)) rfl pass0 (pa_cons (pv 0) (pa_cons (pv 1) (pa_cons (pe_op op_cat (pe_lst (pa_cons (pv 5) pa_nil)) (pv 2)) (pa_cons (pe_op op_sub (pv 3) pe_int) pa_nil))))))))) pss_nil)
    (pss_cons (ps_if (pt_cmpR op_eq (pv 4) pe_int (by rfl)) 
      (pss_cons (ps_set (i := 8) sc__law_cut.nd rfl (Or.inl rfl) (pe_cal c__law_made (hr.mono (by omega)) rfl pass0 (pa_cons (pv 0) (pa_cons (pv 1) (pa_cons (pv 2) (pa_cons (pe_op op_sub (pv 3) pe_int) pa_nil))))))
      (pss_cons (ps_set (i := 9) sc__law_cut.nd rfl (Or.inl rfl) (pe_cal c__law_made (hr.mono (by omega)) rfl pass0 (pa_cons (pv 0) (pa_cons (pv 5) (pa_cons (pv 2) (pa_cons (pe_op op_sub (pv 3) pe_int) pa_nil))))))
      (pss_one (ps_ret (pe_ifExp (pt_cmpR op_eq (pe_cal c__law_draw (hr.mono (by omega)) rfl pass0 (pa_cons (pv 0) (pa_cons pe_int pa_nil))) pe_int (by rfl)) (pe_op op_cat (pe_op op_cat (pe_lst (pa_cons (pe_tup (pa_cons pe_str pa_nil)) (pa_cons (pe_tup (pa_cons pe_str pa_nil)) pa_nil))) (pv 8)) (pv 9)) (pe_op op_cat (pe_op op_cat (pe_lst (pa_cons (pe_tup (pa_cons pe_str pa_nil)) (pa_cons (pe_tup (pa_cons pe_str pa_nil)) pa_nil))) (pv 9)) (pv 8))))))) pss_nil)
    (pss_cons (ps_if (pt_cmpR op_eq (pv 4) pe_int (by rfl)) 
      (pss_cons (ps_set (i := 10) sc__law_cut.nd rfl (Or.inl rfl) (pe_cal c__law_kind (hr.mono (by omega)) rfl pass0 (pa_cons (pv 0) (pa_cons pe_int pa_nil))))
      (pss_cons (ps_set (i := 7) sc__law_cut.nd rfl (Or.inl rfl) (pe_op op_cat (pe_lst (pa_cons (pe_tup (pa_cons pe_str (pa_cons (pv 10) pa_nil))) pa_nil)) (pe_cal c__law_made (hr.mono (by omega)) rfl pass0 (pa_cons (pv 0) (pa_cons (pv 5) (pa_cons (pv 2) (pa_cons (pe_op op_sub (pv 3) pe_int) pa_nil)))))))
      (pss_cons (ps_if (pt_cmpR op_eq (pe_cal c__law_draw (hr.mono (by omega)) rfl pass0 (pa_cons (pv 0) (pa_cons pe_int pa_nil))) pe_int (by rfl)) 
        (pss_one (ps_set (i := 7) sc__law_cut.nd rfl (Or.inl rfl) (pe_op op_cat (pe_lst (pa_cons (pe_tup (pa_cons pe_str (pa_cons (pv 5) pa_nil))) pa_nil)) (pe_cal c__law_made (hr.mono (by omega)) rfl pass0 (pa_cons (pv 0) (pa_cons (pv 10) (pa_cons (pv 2) (pa_cons (pe_op op_sub (pv 3) pe_int) pa_nil)))))))) pss_nil)
      (pss_cons (ps_set (i := 11) sc__law_cut.nd rfl (Or.inl rfl) (pe_cal c__law_made (hr.mono (by omega)) rfl pass0 (pa_cons (pv 0) (pa_cons (pv 1) (pa_cons (pe_op op_cat (pe_lst (pa_cons (pv 5) pa_nil)) (pv 2)) (pa_cons (pe_op op_sub (pv 3) pe_int) pa_nil))))))
      (pss_one (ps_ret (pe_op op_cat (pe_op op_cat (pe_op op_cat (pe_lst (pa_cons (pe_tup (pa_cons pe_str pa_nil)) pa_nil)) (pv 7)) (pv 11)) (pe_cal c__law_made (hr.mono (by omega)) rfl pass0 (pa_cons (pv 0) (pa_cons (pv 1) (pa_cons (pe_op op_cat (pe_lst (pa_cons (pv 10) pa_nil)) (pv 2)) (pa_cons (pe_op op_sub (pv 3) pe_int) pa_nil)))))))))))) pss_nil)
    (pss_cons (ps_set (i := 12) sc__law_cut.nd rfl (Or.inl rfl) (pe_cal c__law_made (hr.mono (by omega)) rfl pass0 (pa_cons (pv 0) (pa_cons (pv 1) (pa_cons (pe_op op_cat (pe_lst (pa_cons (pv 1) pa_nil)) (pv 2)) (pa_cons (pe_op op_sub (pv 3) pe_int) pa_nil))))))
    (pss_one (ps_ret (pe_op op_cat (pe_op op_cat (pe_lst (pa_cons (pe_tup (pa_cons pe_str (pa_cons (pv 1) pa_nil))) (pa_cons (pe_tup (pa_cons pe_str (pa_cons (pe_cal c__law_draw (hr.mono (by omega)) rfl pass0 (pa_cons (pv 0) (pa_cons pe_int pa_nil))) pa_nil))) pa_nil))) (pv 12)) (pe_cal c__law_made (hr.mono (by omega)) rfl pass0 (pa_cons (pv 0) (pa_cons (pv 1) (pa_cons (pv 2) (pa_cons (pe_op op_sub (pv 3) pe_int) pa_nil)))))))))))))), ?_⟩
  have ed : (d - 1).toNat + 1 = d.toNat := by omega
  have eB : BB d.toNat = 2 + 3 * BB (d - 1).toNat := by rw [← ed]; rfl
  have w2 := within2 kw
  have nd : ∀ q : Kd, q.deep ≤ 3 → need (d - 1).toNat q ≤ m := fun q hq => by
    unfold need
    split <;> omega
  refine ⟨_, rfl, _, _, rfl, p, 5, rfl, rfl, by decide, by decide, hp, fun g H1 hg s1 hp1 => ?_⟩
  refine ⟨_, rfl, _, _, rfl, p, 1, rfl, rfl, by decide, hp1, fun ko vo H2 wo s2 hp2 ho => ?_⟩
  have s12 := SB.trans s1 s2
  have w1 := within1 wo
  have wo2 : Kd.within 2 ko := within_lt wo (by decide)
  refine ⟨_, _, rfl, ?_⟩
  have hB : BB (d - 1).toNat ≤ 107 := by
    have : (d - 1).toNat = 0 ∨ (d - 1).toNat = 1 ∨ (d - 1).toNat = 2 := by omega
    rcases this with z | z | z <;> rw [z] <;> decide
  have bL : ∀ {k' : Kd}, Kd.within 2 k' → bnd (d - 1).toNat k' ≤ BB (d - 1).toNat := fun h => bnd_le (within2 h).1
  -- what is asked of made, whatever the heap
  have ask : ∀ {H3 : Hp} {kv' nv' : V} {k' : Kd} {names' : List Kd}, PotAt H3 p → KAt K H3 kv' k' → KLs K H3 p nv' names' → Kd.within 2 k' → (∀ q ∈ names', PK q) → (∀ b, Kd.ltr b ∈ names') → names'.length ≤ names.length + 1 →
      MadeIn K H3 p (.ref p) kv' nv' (.int (d - 1)) m k' names' (d - 1) ∧ need (d - 1).toNat k' ≤ m := fun a1 a2 a3 a4 a5 a6 a7 => ⟨⟨rfl, rfl, a1, a2, a3, a4, a5, a6, by omega, by omega⟩, nd _ (within2 a4).1⟩
  have one : ∀ {k' : Kd}, Kd.within 2 k' → ∀ q ∈ k' :: names, PK q := fun h => consAll (within2_PK h) nP
  have lt1 : ∀ {k' : Kd} (b : Bool), Kd.ltr b ∈ k' :: names := fun b => List.mem_cons_of_mem _ (lt b)
  refine ⟨_, rfl, rfl, _, rfl, ?_⟩
  have hk2 := hk.tk (hp.tk s12)
  have hn2 := hnm.sb hp s12
  by_cases g0 : g = 0
  · refine ifIT (by omega) ?_
    refine ⟨_, rfl, _, rfl, _, rfl, more_k hp2 ho hn2 (by omega) fun v3 H3 e3 hp3 kl3 => ?_⟩
    have hk3 := hk2.tk (TK.of e3)
    obtain ⟨i4, n4⟩ := ask hp3 hk3 kl3 kw (one wo2) lt1 (Nat.le_refl _)
    refine ⟨_, rfl, _, _, rfl, rfl, _, _, _, _, rfl, p, k, ko :: names, d - 1, i4, n4, fun vb tb kb H4 tyb lb s4 hp4 nb => ?_⟩
    -- [("call",), ("fun", other)] + body
    have s14 := SB.trans s12 (SB.trans (SB.of e3) s4)
    have ho4 := ho.tk (TK.trans (TK.of e3) (hp3.tk s4))
    refine ⟨fits1, fun b1 hb1 => ⟨_, rfl, fits2, fun b2 hb2 => ⟨fits2, fun l hl => ⟨_, rfl, ?_⟩⟩⟩⟩
    obtain ⟨e7, hp7, nl7⟩ := lay2 (K := K) (n1 := .call) (n2 := .fn ko) hp4 hb1 hb2 hl (fun _ _ h => NAt.w0 rfl h) (fun _ e h => NAt.w1 rfl h (ho4.tk (TK.of e)))
    refine cat_n nl7 (nb.same e7) hp7 (by have := bL kw; simp only [List.length_cons, List.length_nil]; omega) fun v8 H8 e8 hp8 nl8 => ?_
    have s18 := SB.trans s14 (SB.of (e7.trans e8))
    obtain ⟨i9, n9⟩ := ask hp8 (ho4.tk (TK.of (e7.trans e8))) (hnm.sb hp s18) wo2 nP lt (Nat.le_succ _)
    refine ⟨_, rfl, _, rfl, _, rfl, _, rfl, _, _, rfl, rfl, _, _, _, _, rfl, p, ko, names, d - 1, i9, n9, fun vc tc kc H9 tyc lc s9 hp9 nc => ?_⟩
    refine cat_n (nl8.sb hp8 s9) nc hp9 (by have := bL kw; have := bL wo2; rw [List.length_append]; simp only [List.length_cons, List.length_nil]; omega) fun v10 H10 e10 hp10 nl10 => ?_
    refine q v10 (.bin .call (.un (.fn ko) tb) tc) _ _ (.call (.fn (within2_PK wo2) (PK_br ⟨by omega, by omega⟩ w2 (by omega)) tyb) tyc (within2_PK kw)) ?_ (SB.trans s18 (SB.trans s9 (SB.of e10))) hp10 nl10
    have := bL kw
    have := bL wo2
    simp only [Tm.flat, List.length_cons, List.length_append]
    omega
  refine ifIF (by omega) ⟨_, rfl, rfl, _, rfl, ?_⟩
  by_cases g1 : g = 1
  · refine ifIT (by omega) ?_
    obtain ⟨i4, n4⟩ := ask hp2 ho hn2 wo2 nP lt (Nat.le_succ _)
    refine ⟨_, rfl, _, rfl, _, rfl, _, rfl, _, _, rfl, rfl, _, _, _, _, rfl, p, ko, names, d - 1, i4, n4, fun vb tb kb H4 tyb lb s4 hp4 nb => ?_⟩
    have s14 := SB.trans s12 s4
    have ho4 := ho.tk (hp2.tk s4)
    refine ⟨fits1, fun b1 hb1 => ⟨fits1, fun l hl => ⟨_, rfl, ?_⟩⟩⟩
    obtain ⟨e7, hp7, nl7⟩ := lay1 (K := K) (n1 := .lt) hp4 hb1 hl (fun _ _ h => NAt.w0 rfl h)
    refine cat_n nl7 (nb.same e7) hp7 (by have := bL wo2; simp only [List.length_cons, List.length_nil]; omega) fun v8 H8 e8 hp8 nl8 => ?_
    have s18 := SB.trans s14 (SB.of (e7.trans e8))
    refine ⟨_, rfl, _, rfl, _, rfl, more_k hp8 (ho4.tk (TK.of (e7.trans e8))) (hnm.sb hp s18) (by omega) fun v3 H3 e3 hp3 kl3 => ?_⟩
    have s13 := SB.trans s18 (SB.of e3)
    obtain ⟨i9, n9⟩ := ask hp3 (hk.tk (hp.tk s13)) kl3 kw (one wo2) lt1 (Nat.le_refl _)
    refine ⟨_, rfl, _, _, rfl, rfl, _, _, _, _, rfl, p, k, ko :: names, d - 1, i9, n9, fun vc tc kc H9 tyc lc s9 hp9 nc => ?_⟩
    refine cat_n ((nl8.same e3).sb hp3 s9) nc hp9 (by have := bL kw; have := bL wo2; rw [List.length_append]; simp only [List.length_cons, List.length_nil]; omega) fun v10 H10 e10 hp10 nl10 => ?_
    refine q v10 (.bin .lt tb tc) _ _ (.lt tyb tyc (within2_PK kw)) ?_ (SB.trans s13 (SB.trans s9 (SB.of e10))) hp10 nl10
    have := bL kw
    have := bL wo2
    simp only [Tm.flat, List.length_cons, List.length_append]
    omega
  refine ifIF (by omega) ⟨_, rfl, rfl, _, rfl, ?_⟩
  by_cases g2 : g = 2
  · refine ifIT (by omega) ?_
    obtain ⟨i4, n4⟩ := ask hp2 hk2 hn2 kw nP lt (Nat.le_succ _)
    refine ⟨_, rfl, _, rfl, _, rfl, _, rfl, _, _, rfl, rfl, _, _, _, _, rfl, p, k, names, d - 1, i4, n4, fun vb tb kb H4 tyb lb s4 hp4 nb => ?_⟩
    have s14 := SB.trans s12 s4
    obtain ⟨i5, n5⟩ := ask hp4 (ho.tk (hp2.tk s4)) (hnm.sb hp s14) wo2 nP lt (Nat.le_succ _)
    refine ⟨_, rfl, _, rfl, _, rfl, _, rfl, _, _, rfl, rfl, _, _, _, _, rfl, p, ko, names, d - 1, i5, n5, fun vc tc kc H5 tyc lc s5 hp5 nc => ?_⟩
    have s15 := SB.trans s14 s5
    refine ⟨_, rfl, _, _, rfl, p, 2, rfl, rfl, by decide, by decide, hp5, fun z H6 hz s6 hp6 => ?_⟩
    have s16 := SB.trans s15 s6
    have nb6 := (nb.sb hp4 s5).sb hp5 s6
    have nc6 := nc.sb hp5 s6
    have pkb : PK (.br .pair k ko) := PK_br w2 ⟨by omega, by omega⟩ (by omega)
    have pkb2 : PK (.br .pair ko k) := PK_br ⟨by omega, by omega⟩ w2 (by omega)
    refine ⟨rfl, _, rfl, ?_⟩
    by_cases z0 : z = 0
    · refine ifIT (by omega) ⟨fits1, fun b1 hb1 => ⟨fits1, fun b2 hb2 => ⟨fits2, fun l hl => ⟨_, rfl, ?_⟩⟩⟩⟩
      obtain ⟨e7, hp7, nl7⟩ := lay2 (K := K) (n1 := .first) (n2 := .both) hp6 hb1 hb2 hl (fun _ _ h => NAt.w0 rfl h) (fun _ _ h => NAt.w0 rfl h)
      refine cat_n nl7 (nb6.same e7) hp7 (by have := bL kw; simp only [List.length_cons, List.length_nil]; omega) fun v8 H8 e8 hp8 nl8 => ⟨_, rfl, ?_⟩
      refine cat_n nl8 (nc6.same (e7.trans e8)) hp8 (by have := bL kw; have := bL wo2; rw [List.length_append]; simp only [List.length_cons, List.length_nil]; omega) fun v10 H10 e10 hp10 nl10 => ?_
      refine q v10 (.un .first (.bin .both tb tc)) _ _ (.first (.both tyb tyc pkb) (within2_PK kw)) ?_ (SB.trans s16 (SB.of ((e7.trans e8).trans e10))) hp10 nl10
      have := bL kw
      have := bL wo2
      simp only [Tm.flat, List.length_cons, List.length_append]
      omega
    · refine ifIF (by omega) ⟨fits1, fun b1 hb1 => ⟨fits1, fun b2 hb2 => ⟨fits2, fun l hl => ⟨_, rfl, ?_⟩⟩⟩⟩
      obtain ⟨e7, hp7, nl7⟩ := lay2 (K := K) (n1 := .second) (n2 := .both) hp6 hb1 hb2 hl (fun _ _ h => NAt.w0 rfl h) (fun _ _ h => NAt.w0 rfl h)
      refine cat_n nl7 (nc6.same e7) hp7 (by have := bL wo2; simp only [List.length_cons, List.length_nil]; omega) fun v8 H8 e8 hp8 nl8 => ⟨_, rfl, ?_⟩
      refine cat_n nl8 (nb6.same (e7.trans e8)) hp8 (by have := bL kw; have := bL wo2; rw [List.length_append]; simp only [List.length_cons, List.length_nil]; omega) fun v10 H10 e10 hp10 nl10 => ?_
      refine q v10 (.un .second (.bin .both tc tb)) _ _ (.second (.both tyc tyb pkb2) (within2_PK kw)) ?_ (SB.trans s16 (SB.of ((e7.trans e8).trans e10))) hp10 nl10
      have := bL kw
      have := bL wo2
      simp only [Tm.flat, List.length_cons, List.length_append]
      omega
  refine ifIF (by omega) ⟨_, rfl, rfl, _, rfl, ?_⟩
  by_cases g3 : g = 3
  · refine ifIT (by omega) ?_
    refine ⟨_, rfl, _, _, rfl, p, 0, rfl, rfl, by decide, hp2, fun km vm H3 wm s3 hp3 hm => ?_⟩
    have s13 := SB.trans s12 s3
    have ho3 := ho.tk (hp2.tk s3)
    have wm2 : Kd.within 2 km := within_lt wm (by decide)
    have w0 := within0 wm
    have pks : PK (.br .sum ko km) := PK_br ⟨by omega, by omega⟩ ⟨by omega, by omega⟩ (by omega)
    refine ⟨_, rfl, ?_⟩
    refine ⟨fits2, fun b1 hb1 => ⟨fits1, fun l hl => ?_⟩⟩
    obtain ⟨e7, hp7, nl7⟩ := lay1 (K := K) (n1 := .left km) hp3 hb1 hl (fun _ e h => NAt.w1 rfl h (hm.tk (TK.of e)))
    have s17 := SB.trans s13 (SB.of e7)
    obtain ⟨i4, n4⟩ := ask hp7 (ho3.tk (TK.of e7)) (hnm.sb hp s17) wo2 nP lt (Nat.le_succ _)
    refine ⟨_, rfl, _, rfl, _, rfl, _, rfl, _, _, rfl, rfl, _, _, _, _, rfl, p, ko, names, d - 1, i4, n4, fun va ta ka H4 tya la s4 hp4 na => ?_⟩
    have s14 := SB.trans s17 s4
    refine cat_n (nl7.sb hp7 s4) na hp4 (by have := bL wo2; simp only [List.length_cons, List.length_nil]; omega) fun v8 H8 e8 hp8 nl8 => ?_
    have s18 := SB.trans s14 (SB.of e8)
    -- from p's own steps on
    have step38 : SB p H3 H8 := SB.trans (SB.of e7) (SB.trans s4 (SB.of e8))
    have ho8 := ho3.tk (hp3.tk step38)
    have hm8 := hm.tk (hp3.tk step38)
    dsimp only [gName]
    refine if_split (fun σ' H' => ∃ vw tw kw', Ty PK names tw (.br .sum ko km) kw' ∧ tw.flat.length ≤ 1 + BB (d - 1).toNat ∧ NLs K H' p vw tw.flat ∧ SB p H8 H' ∧ PotAt H' p ∧
      σ' = [some (.ref p), some kv, some nv, some (.int d), some (.int g), some vo, none, some vw, none, none, some vm, none, none]) (fun D' hD => ?_) ?_
    · refine ⟨_, rfl, _, _, rfl, p, 2, rfl, rfl, by decide, by decide, hp8, fun z H9 hz s9 hp9 => ?_⟩
      refine ⟨rfl, _, rfl, ?_⟩
      by_cases z0 : z = 0
      · refine ifIT (by omega) ?_
        refine ⟨_, rfl, fits2, fun b3 hb3 => ⟨fits1, fun l2 hl2 => ?_⟩⟩
        have ho9 := ho8.tk (hp8.tk s9)
        obtain ⟨e10, hp10, nl10⟩ := lay1 (K := K) (n1 := .right ko) hp9 hb3 hl2 (fun _ e h => NAt.w1 rfl h (ho9.tk (TK.of e)))
        have s10 := SB.trans (SB.trans s18 s9) (SB.of e10)
        obtain ⟨i5, n5⟩ := ask hp10 ((hm8.tk (hp8.tk s9)).tk (TK.of e10)) (hnm.sb hp s10) wm2 nP lt (Nat.le_succ _)
        refine ⟨_, rfl, _, rfl, _, rfl, _, rfl, _, _, rfl, rfl, _, _, _, _, rfl, p, km, names, d - 1, i5, n5, fun vc tc kc H11 tyc lc s11 hp11 nc => ?_⟩
        refine cat_n (nl10.sb hp10 s11) nc hp11 (by have := bL wm2; simp only [List.length_cons, List.length_nil]; omega) fun v12 H12 e12 hp12 nl12 => ?_
        refine hD _ _ ⟨v12, .un (.right ko) tc, _, .right tyc (within2_PK wo2) pks, ?_, nl12, SB.trans s9 (SB.trans (SB.of e10) (SB.trans s11 (SB.of e12))), hp12, rfl⟩
        have := bL wm2
        simp only [Tm.flat, List.length_cons]
        omega
      · refine ifIF (by omega) (hD _ _ ⟨v8, .un (.left km) ta, _, .left tya (within2_PK wm2) pks, ?_, nl8.sb hp8 s9, s9, hp9, rfl⟩)
        have := bL wo2
        simp only [Tm.flat, List.length_cons]
        omega
    · rintro _ H9 ⟨vw, tw, kw', tyw, lw, nw, s9, hp9, rfl⟩
      have s19 := SB.trans s18 s9
      have ho9 := ho8.tk (hp8.tk s9)
      refine ⟨_, rfl, _, rfl, _, rfl, more_k hp9 ho9 (hnm.sb hp s19) (by omega) fun v10 H10 e10 hp10 kl10 => ?_⟩
      have s110 := SB.trans s19 (SB.of e10)
      obtain ⟨i5, n5⟩ := ask hp10 (hk.tk (hp.tk s110)) kl10 kw (one wo2) lt1 (Nat.le_refl _)
      refine ⟨_, rfl, _, _, rfl, rfl, _, _, _, _, rfl, p, k, ko :: names, d - 1, i5, n5, fun vc tc kc H11 tyc lc s11 hp11 nc => ?_⟩
      have s111 := SB.trans s110 s11
      refine ⟨fits1, fun b3 hb3 => ⟨fits1, fun l2 hl2 => ⟨_, rfl, ?_⟩⟩⟩
      obtain ⟨e12, hp12, nl12⟩ := lay1 (K := K) (n1 := .which) hp11 hb3 hl2 (fun _ _ h => NAt.w0 rfl h)
      have step911 : SB p H9 H11 := SB.trans (SB.of e10) s11
      refine cat_n nl12 ((nw.sb hp9 step911).same e12) hp12 (by simp only [List.length_cons, List.length_nil]; omega) fun v13 H13 e13 hp13 nl13 => ⟨_, rfl, ?_⟩
      refine cat_n nl13 (nc.same (e12.trans e13)) hp13 (by have := bL kw; rw [List.length_append]; simp only [List.length_cons, List.length_nil]; omega) fun v14 H14 e14 hp14 nl14 => ?_
      have e1214 := (e12.trans e13).trans e14
      have s114 := SB.trans s111 (SB.of e1214)
      have hm14 := hm8.tk (hp8.tk (SB.trans s9 (SB.trans step911 (SB.of e1214))))
      refine ⟨_, rfl, _, rfl, _, rfl, more_k hp14 hm14 (hnm.sb hp s114) (by omega) fun v15 H15 e15 hp15 kl15 => ?_⟩
      have s115 := SB.trans s114 (SB.of e15)
      obtain ⟨i6, n6⟩ := ask hp15 (hk.tk (hp.tk s115)) kl15 kw (one wm2) lt1 (Nat.le_refl _)
      refine ⟨_, rfl, _, _, rfl, rfl, _, _, _, _, rfl, p, k, km :: names, d - 1, i6, n6, fun vd td kd H16 tyd ld s16 hp16 nd' => ?_⟩
      refine cat_n ((nl14.same e15).sb hp15 s16) nd' hp16 (by have := bL kw; rw [List.length_append, List.length_append]; simp only [List.length_cons, List.length_nil]; omega) fun v17 H17 e17 hp17 nl17 => ?_
      refine q v17 (.tri .which tw tc td) _ _ (.which tyw tyc tyd (within2_PK kw)) ?_ (SB.trans s115 (SB.trans s16 (SB.of e17))) hp17 ?_
      · have := bL kw
        simp only [Tm.flat, List.length_cons, List.length_append]
        omega
      · have e : (Tm.tri .which tw tc td).flat = (([Nd.which] ++ tw.flat) ++ tc.flat) ++ td.flat := by simp [Tm.flat]
        rw [e]
        exact nl17
  refine ifIF (by omega) ?_
  refine ⟨_, rfl, _, rfl, _, rfl, more_k hp2 hk2 hn2 (by omega) fun v3 H3 e3 hp3 kl3 => ?_⟩
  have s13 := SB.trans s12 (SB.of e3)
  obtain ⟨i4, n4⟩ := ask hp3 (hk.tk (hp.tk s13)) kl3 kw (one kw) lt1 (Nat.le_refl _)
  refine ⟨_, rfl, _, _, rfl, rfl, _, _, _, _, rfl, p, k, k :: names, d - 1, i4, n4, fun vb tb kb H4 tyb lb s4 hp4 nb => ?_⟩
  have s14 := SB.trans s13 s4
  refine ⟨_, rfl, fits2, fun b1 hb1 => ?_⟩
  have hp5 := hp4.new hb1 (.tup [V.str "turns", kv])
  have e5 := Same.new hb1 (.tup [V.str "turns", kv])
  refine ⟨_, rfl, _, _, rfl, p, 3, rfl, rfl, by decide, by decide, hp5, fun z H6 hz s6 hp6 => ?_⟩
  have s15 := SB.trans s14 (SB.of e5)
  have s16 := SB.trans s15 s6
  refine ⟨fits2, fun b2 hb2 => ⟨fits2, fun l hl => ⟨_, rfl, ?_⟩⟩⟩
  have e6 := Same.new hb2 (.tup [V.str "told", V.int (z : Nat)])
  have e7 := Same.new hl (.lst [V.ref b1, V.ref b2])
  have e67 := e6.trans e7
  have nb1 : b1 ≠ p := hp4.ne hb1
  have n1 : NAt K (upd H6 b2 (.tup [V.str "told", V.int (z : Nat)])) (.ref b1) (.turns k) := NAt.w1 rfl (SqT.of (e6 _ _ (s6 _ _ nb1 upd_same))) ((hk.tk (hp.tk s16)).tk (TK.of e6))
  have n2 : NAt K (upd H6 b2 (.tup [V.str "told", V.int (z : Nat)])) (.ref b2) (.told z) := NAt.wi rfl (SqT.of upd_same)
  have nl7 := NLs.new (K := K) (ns := [.turns k, .told z]) (hp6.same e6) hl (.cons n1 (.cons n2 .nil))
  have hp7 := hp6.same e67
  have nb7 := ((nb.same e5).sb hp5 s6).same e67
  refine cat_n nl7 nb7 hp7 (by have := bL kw; simp only [List.length_cons, List.length_nil]; omega) fun v8 H8 e8 hp8 nl8 => ?_
  have s18 := SB.trans s16 (SB.of (e67.trans e8))
  obtain ⟨i9, n9⟩ := ask hp8 (hk.tk (hp.tk s18)) (hnm.sb hp s18) kw nP lt (Nat.le_succ _)
  refine ⟨_, rfl, _, rfl, _, rfl, _, rfl, _, _, rfl, rfl, _, _, _, _, rfl, p, k, names, d - 1, i9, n9, fun vc tc kc H9 tyc lc s9 hp9 nc => ?_⟩
  refine cat_n (nl8.sb hp8 s9) nc hp9 (by have := bL kw; rw [List.length_append]; simp only [List.length_cons, List.length_nil]; omega) fun v10 H10 e10 hp10 nl10 => ?_
  refine q v10 (.tri (.turns k) (.leaf (.told z)) tb tc) _ _ (.turns (.told (by omega) ⟨by decide, by decide⟩) tyb tyc (within2_PK kw)) ?_ (SB.trans s18 (SB.trans s9 (SB.of e10))) hp10 nl10
  have := bL kw
  simp only [Tm.flat, List.length_cons, List.length_append, List.length_nil]
  omega
abbrev N__law_made : List Str := ["_law_pot_here", "_law_kind_here", "_law_names", "_law_deep_here", "_law_here", "_law_near", "_law_at", "_law_one"]
theorem sc__law_made : FnScope N__law_made ["_law_pot_here", "_law_kind_here", "_law_names", "_law_deep_here"] (defScope (top 85)) := ⟨rfl, rfl, rfl, by decide +kernel, rfl, by decide +kernel, by decide +kernel⟩
theorem lc_enS {a : Addr} {xs : List V} {ta : TA} {g : TG} {tt : TT} {te : TE} {vs : List Nat} {σ : L2.St} {H1 : Hp} {Q : VK} (hv : ∀ R : List V → Hp → Prop, R [.ref a] H1 → ta σ H1 R) (Pv : Addr → Nat → Hp → Prop) (hL : SqS K H1 a xs) (h0 : ∀ D, H1 D = none → Pv D 0 (upd H1 D (.lst [])))
    (hl : ∀ D i H', H1 D = none → i ≤ xs.length → Pv D i H' → Same H1 H')
    (hs : ∀ D i x H T, H1 D = none → xs[i]? = some x → Pv D i H → H T = none → g (.ref T) (wipe σ vs) (upd H T (.tup [.int (i : Nat), x])) fun σ2 H2 => wipe σ2 vs = wipe σ vs ∧ tt σ2 H2 fun b H3 =>
      if b = true then te σ2 H3 fun y H4 => ∃ acc, H4 D = some (.lst acc) ∧ acc.length < sizeLine ∧ Pv D (i + 1) (upd H4 D (.lst (acc ++ [y]))) else Pv D (i + 1) H3) (hd : ∀ D H, H1 D = none → Pv D xs.length H → Q (.ref D) H) :
    tLc (iEnumS K ta) g tt te vs σ H1 Q := by
  refine hv _ ⟨a, xs, rfl, ?_⟩
  have gen : ∀ (J : It), (∀ D i H, H1 D = none → i < xs.length → Pv D i H → J.go i H) → (∀ D H, H1 D = none → Pv D xs.length H → J.stop xs.length H) →
      (∀ D i x H v H', H1 D = none → xs[i]? = some x → Pv D i H → J.yld i H v H' → ∃ T, v = .ref T ∧ H T = none ∧ H' = upd H T (.tup [.int (i : Nat), x])) → ∀ D, H1 D = none → ∃ W : Nat → Nat → Hp → Prop, (∃ m, W 0 m (upd H1 D (.lst []))) ∧ ∀ i m H, W i m H →
        (J.stop i H ∧ Q (.ref D) H) ∨ (J.go i H ∧ ∃ Nx : Hp → Prop, (∀ H', Nx H' → ∃ m', m' < m ∧ W (i + 1) m' H') ∧ ∀ x H', J.yld i H x H' → g x (wipe σ vs) H' fun σ2 H2 => wipe σ2 vs = wipe σ vs ∧ tt σ2 H2 fun b H3 =>
          if b = true then te σ2 H3 fun y H4 => ∃ acc, H4 D = some (.lst acc) ∧ acc.length < sizeLine ∧ Nx (upd H4 D (.lst (acc ++ [y]))) else Nx H3) := fun J j1 j2 j3 D hD => by
    refine ⟨fun i m H => m = xs.length - i ∧ i ≤ xs.length ∧ Pv D i H, ⟨xs.length, by simp, Nat.zero_le _, h0 D hD⟩, ?_⟩
    rintro i m H ⟨rfl, hi, pv⟩
    rcases Nat.lt_or_ge i xs.length with hlt | hge
    · refine .inr ⟨j1 D i H hD hlt pv, Pv D (i + 1), fun H' p' => ⟨xs.length - (i + 1), by omega, rfl, hlt, p'⟩, fun v H' y => ?_⟩
      obtain ⟨T, e1, e2, e3⟩ := j3 D i xs[i] H v H' hD (by simp [hlt]) pv y
      subst e1 e3
      exact hs D i xs[i] H T hD (by simp [hlt]) pv e2
    · have e : i = xs.length := Nat.le_antisymm hi hge
      subst e
      exact .inl ⟨j2 D H hD pv, hd D H hD pv⟩
  rcases hL with hL | hL
  · refine .inl ⟨hL, gen (Ite K a) (fun D i H hD hi p => ⟨xs, xs[i], SqL.same (hl D i H hD (Nat.le_of_lt hi) p) hL, by simp [hi]⟩) (fun D H hD p => ⟨xs, SqL.same (hl D _ H hD (Nat.le_refl _) p) hL, Nat.le_refl _⟩) fun D i x H v H' hD hx p y => ?_⟩
    obtain ⟨T, x', e1, e2, e3, e4⟩ := y
    have z := e4 xs (SqL.same (hl D i H hD (Nat.le_of_lt (List.getElem?_eq_some_iff.mp hx).1) p) hL)
    rw [hx] at z
    cases z
    exact ⟨T, e1, e2, e3⟩
  · refine .inr ⟨hL, gen (IteT K a) (fun D i H hD hi p => ⟨xs, xs[i], SqT.same (hl D i H hD (Nat.le_of_lt hi) p) hL, by simp [hi]⟩) (fun D H hD p => ⟨xs, SqT.same (hl D _ H hD (Nat.le_refl _) p) hL, Nat.le_refl _⟩) fun D i x H v H' hD hx p y => ?_⟩
    obtain ⟨T, x', e1, e2, e3, e4⟩ := y
    have z := e4 xs (SqT.same (hl D i H hD (Nat.le_of_lt (List.getElem?_eq_some_iff.mp hx).1) p) hL)
    rw [hx] at z
    cases z
    exact ⟨T, e1, e2, e3⟩
/-- places as values -/
def ivs (is : List Nat) : List V := is.map fun (j : Nat) => V.int j
def dI (is : List Nat) : PyData := .list (is.map fun (j : Nat) => PyData.int j)
theorem dI_shaped (is : List Nat) : SeqAt.shaped (dI is) = true := by
  have e1 : ∀ l : List Nat, PyData.canLayAll0 (l.map fun (j : Nat) => PyData.int j) = true := fun l => by
    induction l with
    | nil => rfl
    | cons a l ih => simp [PyData.canLayAll0, PyData.canLay0, ih]
  have e2 : ∀ l : List Nat, PyData.depthAll (l.map fun (j : Nat) => PyData.int j) = 0 := fun l => by
    induction l with
    | nil => rfl
    | cons a l ih => simp [PyData.depthAll, PyData.depth, ih]
  unfold SeqAt.shaped dI
  simp [PyData.canLay0, PyData.depth, e1, e2]
theorem dI_nil (is : List Nat) : PyData.eqv (dI is) (.list []) = is.isEmpty := by
  unfold dI
  cases is <;> simp [PyData.eqv, PyData.eqvAll]
theorem dI_at {H : Hp} {l : Addr} {is : List Nat} (h : SqL K H l (ivs is)) : Dp K H (.ref l) (dI is) := by
  refine .lst h ?_
  have go : ∀ js : List Nat, DpAll K H (ivs js) (js.map fun (j : Nat) => PyData.int j) := fun js => by
    induction js with
    | nil => exact .nil
    | cons a js ih => exact .cons (.int _) ih
  exact go is
theorem ok_made_step (T : Txt K w mg fr fd nk nkI) (D : Df K mg "_law_made" (top 85)) (c__law_draw : Cal P w K mg base CX0 "_law_draw" 1 ["_law_pot_here", "_law_size"] (sp2 gDraw)) (c__law_pick : Cal P w K mg base CX0 "_law_pick" 2 ["_law_pot_here", "_law_some"] (sp2 (gPick K)))
    (m : Nat) (c__law_made : Cal P w K mg base CX0 "_law_made" m psM (sp4 (gMade K m))) (c__law_cut : Cal P w K mg base CX0 "_law_cut" m psM (sp4 (gCut K m))) : Cal P w K mg base CX0 "_law_made" (m + 1) psM (sp4 (gMade K (m + 1))) := by
  refine D.cal sc__law_made (bs4 fun _ _ _ _ _ _ _ _ _ _ => rfl) sp4_len fun f cdv A outer s H vs Q E hr h => ?_
  obtain ⟨_, kv, nv, _, rfl, p, k, names, d, ⟨rfl, rfl, hp, hk, hnm, kw, nP, lt, nl, hdd⟩, hnd, q⟩ := h
  have w2 := within2 kw
  have kd1 := deep_pos k
  have m3 : 3 ≤ m := by
    unfold need at hnd
    split at hnd <;> omega
  refine ⟨_, (pss_cons (ps_setLc (i := 4) (own := [("_law_at", 6), ("_law_one", 7)]) rfl sc__law_made.nd rfl rfl (sw_true rfl rfl rfl (by decide +kernel)) (pi_enumS (by rfl) T.enumerate (pa_cons (pv 2) pa_nil)) (blkOk_by (own := [("_law_at", 6), ("_law_one", 7)]) (N := N__law_made) (sc := defScope (top 85)) (by decide +kernel)) (fun _ _ _ _ _ => (show PG _ _ (gTup K 2 _) from pg_tup rfl (pgs_cons (pg_name (i := 6) sc__law_made.nd rfl (Or.inl rfl)) (pgs_cons (pg_name (i := 7) sc__law_made.nd rfl (Or.inl rfl)) pgs_nil)))) (fun _ _ _ _ _ => (pts_one (pt_cmpR (show OpR _ (compareOp .Eq) (rEqD K) from op_eqD hr.units) (pv 7) (pv 1) (by rfl)))) (fun _ _ _ _ _ => (pv 6)))
    (pss_cons (ps_if (PW.pt (pw_and (pt_cmpR (op_neD hr.units) (pv 4) (pe_lst pa_nil) (by rfl)) (pw_and1 (PW.pt (pw_or (PW.pt (pw_and (pt_cmpR op_eq (pe_ix ix_tup (pv 1) pe_int (fun _ _ => rfl)) pe_str (by rfl)) (pw_and1 (pt_cmpR op_lt (pv 3) pe_int (by rfl))))) (pw_or1 (pt_cmpR op_eq (pe_cal c__law_draw (hr.mono (by omega)) rfl pass0 (pa_cons (pv 0) (pa_cons pe_int pa_nil))) pe_int (by rfl)))))))) 
      (pss_one (ps_ret (pe_lst (pa_cons (pe_tup (pa_cons pe_str (pa_cons (pe_cal c__law_pick (hr.mono (by omega)) rfl pass0 (pa_cons (pv 0) (pa_cons (pv 4) pa_nil))) pa_nil))) pa_nil)))) pss_nil)
    (pss_cons (ps_if (PW.pt (pw_and (pt_cmpR op_gt (pv 3) pe_int (by rfl)) (pw_and1 (pt_cmpR op_eq (pe_cal c__law_draw (hr.mono (by omega)) rfl pass0 (pa_cons (pv 0) (pa_cons pe_int pa_nil))) pe_int (by rfl))))) 
      (pss_one (ps_ret (pe_cal c__law_cut (hr.mono (by omega)) rfl pass0 (pa_cons (pv 0) (pa_cons (pv 1) (pa_cons (pv 2) (pa_cons (pv 3) pa_nil))))))) pss_nil)
    (pss_cons (ps_if (pt_cmpR op_eq (pe_ix ix_tup (pv 1) pe_int (fun _ _ => rfl)) pe_str (by rfl)) 
      (pss_one (ps_ret (pe_lst (pa_cons (pe_tup (pa_cons pe_str (pa_cons (pe_cal c__law_pick (hr.mono (by omega)) rfl pass0 (pa_cons (pv 0) (pa_cons (pv 4) pa_nil))) pa_nil))) pa_nil)))) pss_nil)
    (pss_cons (ps_if (pt_cmpR op_eq (pe_ix ix_tup (pv 1) pe_int (fun _ _ => rfl)) pe_str (by rfl)) 
      (pss_one (ps_ret (pe_ifExp (pt_cmpR op_gt (pe_cal c__law_draw (hr.mono (by omega)) rfl pass0 (pa_cons (pv 0) (pa_cons pe_int pa_nil))) pe_int (by rfl)) (pe_lst (pa_cons (pe_tup (pa_cons pe_str (pa_cons (pe_cal c__law_draw (hr.mono (by omega)) rfl pass0 (pa_cons (pv 0) (pa_cons pe_int pa_nil))) pa_nil))) pa_nil)) (pe_lst (pa_cons (pe_tup (pa_cons pe_str pa_nil)) (pa_cons (pe_tup (pa_cons pe_str (pa_cons (pe_cal c__law_draw (hr.mono (by omega)) rfl pass0 (pa_cons (pv 0) (pa_cons pe_int pa_nil))) pa_nil))) pa_nil)))))) pss_nil)
    (pss_cons (ps_if (pt_cmpR op_eq (pe_ix ix_tup (pv 1) pe_int (fun _ _ => rfl)) pe_str (by rfl)) 
      (pss_cons (ps_set (i := 5) sc__law_made.nd rfl (Or.inl rfl) (pe_cal c__law_made (hr.mono (by omega)) rfl pass0 (pa_cons (pv 0) (pa_cons (pe_ix ix_tup (pv 1) pe_int (fun _ _ => rfl)) (pa_cons (pv 2) (pa_cons (pe_op op_sub (pv 3) pe_int) pa_nil))))))
      (pss_one (ps_ret (pe_op op_cat (pe_op op_cat (pe_lst (pa_cons (pe_tup (pa_cons pe_str pa_nil)) pa_nil)) (pv 5)) (pe_cal c__law_made (hr.mono (by omega)) rfl pass0 (pa_cons (pv 0) (pa_cons (pe_ix ix_tup (pv 1) pe_int (fun _ _ => rfl)) (pa_cons (pv 2) (pa_cons (pe_op op_sub (pv 3) pe_int) pa_nil))))))))) pss_nil)
    (pss_cons (ps_if (pt_cmpR op_eq (pe_ix ix_tup (pv 1) pe_int (fun _ _ => rfl)) pe_str (by rfl)) 
      (pss_cons (ps_if (pt_cmpR op_eq (pe_cal c__law_draw (hr.mono (by omega)) rfl pass0 (pa_cons (pv 0) (pa_cons pe_int pa_nil))) pe_int (by rfl)) 
        (pss_one (ps_ret (pe_op op_cat (pe_lst (pa_cons (pe_tup (pa_cons pe_str (pa_cons (pe_ix ix_tup (pv 1) pe_int (fun _ _ => rfl)) pa_nil))) pa_nil)) (pe_cal c__law_made (hr.mono (by omega)) rfl pass0 (pa_cons (pv 0) (pa_cons (pe_ix ix_tup (pv 1) pe_int (fun _ _ => rfl)) (pa_cons (pv 2) (pa_cons (pe_op op_sub (pv 3) pe_int) pa_nil)))))))) pss_nil)
      (pss_one (ps_ret (pe_op op_cat (pe_lst (pa_cons (pe_tup (pa_cons pe_str (pa_cons (pe_ix ix_tup (pv 1) pe_int (fun _ _ => rfl)) pa_nil))) pa_nil)) (pe_cal c__law_made (hr.mono (by omega)) rfl pass0 (pa_cons (pv 0) (pa_cons (pe_ix ix_tup (pv 1) pe_int (fun _ _ => rfl)) (pa_cons (pv 2) (pa_cons (pe_op op_sub (pv 3) pe_int) pa_nil))))))))) pss_nil)
    (pss_one (ps_ret (pe_op op_cat (pe_lst (pa_cons (pe_tup (pa_cons pe_str (pa_cons (pe_ix ix_tup (pv 1) pe_int (fun _ _ => rfl)) pa_nil))) pa_nil)) (pe_cal c__law_made (hr.mono (by omega)) rfl pass0 (pa_cons (pv 0) (pa_cons (pe_ix ix_tup (pv 1) pe_int (fun _ _ => rfl)) (pa_cons (pe_op op_cat (pe_lst (pa_cons (pe_ix ix_tup (pv 1) pe_int (fun _ _ => rfl)) pa_nil)) (pv 2)) (pa_cons (pe_op op_sub (pv 3) pe_int) pa_nil))))))))))))))), ?_⟩
  obtain ⟨la, lxs, rfl, lne, hl, hlk⟩ := hnm
  have lx := KsAt.length hlk
  dsimp only [tSeq, tAsg]
  refine lc_enS (a := la) (xs := lxs) (fun _ z => ⟨_, rfl, z⟩) (fun L i H' => Same H H' ∧ ∃ is : List Nat, H' L = some (.lst (ivs is)) ∧ (∀ j ∈ is, names[j]? = some k) ∧ (∀ j, j < i → names[j]? = some k → j ∈ is) ∧ is.length ≤ i) (.inl (SqL.of hl)) (fun L hL => ⟨Same.new hL _, [], upd_same, by simp, by simp, by simp⟩) (fun L i H' _ _ p => p.1) ?_ ?_
  · rintro L i x H' T' hL hx ⟨sm, is, g1, g2, g3, g4⟩ hT
    obtain ⟨ki, n1, n2⟩ := KsAt.get' (hlk.tk (TK.of sm)) hx
    have eT := Same.new hT (.tup [V.int (i : Nat), x])
    have hi := (List.getElem?_eq_some_iff.mp n1).1
    refine ⟨T', [V.int (i : Nat), x], rfl, SqT.of upd_same, rfl, _, _, rfl, _, _, rfl, rfl, ?_⟩
    refine ⟨rfl, _, rfl, _, rfl, dK ki, dK k, n2.tk (TK.of eT), hk.tk (TK.of (sm.trans eT)), shp_ok (PK.ok (nP _ (List.mem_of_getElem? n1))), shp_ok (PK.ok (within2_PK kw)), _, rfl, ?_⟩
    rw [eqv_dK]
    have g1T := eT _ _ g1
    by_cases c : ki = k
    · refine ifT (decide_eq_true c) ⟨_, rfl, ivs is, g1T, ?_, Same.upd (sm.trans eT) hL _, is ++ [i], ?_, ?_, ?_, ?_⟩
      · rw [line_eq, ivs, List.length_map]
        omega
      · rw [upd_same, ivs, ivs, List.map_append]
        rfl
      · intro j hj
        rcases List.mem_append.mp hj with z | z
        · exact g2 j z
        · rw [List.mem_singleton.mp z, n1, c]
      · intro j hj hjk
        by_cases e : j = i
        · rw [e]
          simp
        · exact List.mem_append_left _ (g3 j (by omega) hjk)
      · rw [List.length_append, List.length_singleton]
        omega
    · refine ifF (decide_eq_false c) ⟨sm.trans eT, is, g1T, g2, fun j hj hjk => ?_, by omega⟩
      by_cases e : j = i
      · rw [e, n1] at hjk
        exact absurd (Option.some.inj hjk) c
      · exact g3 j (by omega) hjk
  rintro L H1 hL ⟨e1, is, g1, g2, g3, g4⟩
  rw [lx] at g3 g4
  have hp1 := hp.same e1
  have Lp : L ≠ p := fun z => by
    obtain ⟨a, b, e, _⟩ := hp
    rw [z, e] at hL
    cases hL
  have mem : k ∈ names → is ≠ [] := fun h => by
    obtain ⟨j, hj⟩ := List.getElem?_of_mem h
    have := g3 j (List.getElem?_eq_some_iff.mp hj).1 hj
    intro z
    rw [z] at this
    cases this
  -- [("name", pick(pot, here))]
  have named : ∀ {H2 : Hp} {Q2 : VK}, SB p H1 H2 → PotAt H2 p → is ≠ [] → (∀ v t ks H', Ty PK names t k ks → t.flat.length ≤ bnd d.toNat k → SB p H1 H' → PotAt H' p → NLs K H' p v t.flat → Q2 v H') →
      ∃ (p0 l0 : Addr) (xs : List V), V.ref p = .ref p0 ∧ V.ref L = .ref l0 ∧ SqL K H2 l0 xs ∧ l0 ≠ p0 ∧ 0 < xs.length ∧ xs.length ≤ 1000 ∧ PotAt H2 p0 ∧ ∀ (i : Nat) v H', xs[i]? = some v → SB p0 H2 H' → PotAt H' p0 → [V.str "name", v].length ≤ sizeLine ∧ ∀ b, H' b = none → [V.ref b].length ≤ sizeLine ∧ ∀ l, (upd H' b (.tup [V.str "name", v])) l = none → Q2 (.ref l) (upd (upd H' b (.tup [V.str "name", v])) l (.lst [.ref b])) := fun {H2 Q2} s2 hp2 hne q2 => by
    refine ⟨p, L, ivs is, rfl, rfl, SqL.of (s2 _ _ Lp g1), Lp, ?_, ?_, hp2, fun i v H' hv s3 hp3 => ?_⟩
    · rw [ivs, List.length_map]
      exact List.length_pos_iff.mpr hne
    · rw [ivs, List.length_map]
      omega
    · rw [ivs, List.getElem?_map] at hv
      cases hz : is[i]? with
      | none => rw [hz] at hv; cases hv
      | some j =>
        rw [hz] at hv
        cases hv
        have hj := g2 j (List.mem_of_getElem? hz)
        have jl := (List.getElem?_eq_some_iff.mp hj).1
        refine ⟨fits2, fun b hb => ⟨fits1, fun l hl2 => ?_⟩⟩
        obtain ⟨e7, hp7, nl7⟩ := lay1 (K := K) (n1 := .nm j) hp3 hb hl2 (fun _ _ h => NAt.wi rfl h)
        exact q2 _ (.leaf (.nm j)) _ _ (.nm hj (by omega) (within2_PK kw)) (Nat.le_trans (by simp [Tm.flat]) (Nat.le_trans (by decide : 1 ≤ 2) bnd_pos)) (SB.trans s2 (SB.trans s3 (SB.of e7))) hp7 nl7
  have q1 : ∀ v t ks H', Ty PK names t k ks → t.flat.length ≤ bnd d.toNat k → SB p H1 H' → PotAt H' p → NLs K H' p v t.flat → Q v H' := fun v t ks H' a1 a2 a3 a4 a5 => q v t ks H' a1 a2 (SB.trans (SB.of e1) a3) a4 a5
  have hk1 := hk.tk (TK.of e1)
  have hnm1 : KLs K H1 p (.ref la) names := ⟨la, lxs, rfl, lne, e1 _ _ hl, hlk.tk (TK.of e1)⟩
  dsimp only [gName]
  refine if_split (fun σ' H' => σ' = [some (.ref p), some kv, some (.ref la), some (.int d), some (.ref L), none, none, none] ∧ SB p H1 H' ∧ PotAt H' p ∧ (is = [] ∨ 0 < d ∨ k.wd ≠ .letter)) (fun N hN => ?_) ?_
  · obtain ⟨ka, kr, hke, hks⟩ := hk1.head
    subst hke
    refine ⟨_, rfl, fits0, fun l hl2 => ?_⟩
    have e2 := Same.new hl2 (.lst [])
    refine ⟨dI is, .list [], dI_at (SqL.same e2 (SqL.of g1)), .lst (SqL.of upd_same) .nil, dI_shaped is, by decide, _, rfl, ?_⟩
    rw [dI_nil]
    cases is with
    | nil => exact ifF rfl (iteF (hN _ _ ⟨rfl, SB.of e2, hp1.same e2, .inl rfl⟩))
    | cons i0 is' =>
      refine ifT rfl ?_
      refine ⟨_, rfl, _, _, _, _, rfl, rfl, SqT.same e2 hks, at0, rfl, _, rfl, ?_⟩
      have dr : ∀ (X : Prop), (∀ H3, SB p H1 H3 → PotAt H3 p → X) → X := fun X h => h _ (SB.of e2) (hp1.same e2)
      by_cases c1 : k.wd = .letter
      · refine ifST (j := .letter) c1 ⟨_, rfl, _, _, rfl, rfl, _, rfl, ?_⟩
        by_cases c2 : d < 1
        · refine ifT (decide_eq_true c2) (iteT ?_)
          exact ⟨_, rfl, _, rfl, _, _, rfl, named (SB.of e2) (hp1.same e2) (by simp) q1⟩
        · refine ifF (decide_eq_false c2) ?_
          refine ⟨_, rfl, _, _, rfl, p, 4, rfl, rfl, by decide, by decide, hp1.same e2, fun z H3 hz s3 hp3 => ⟨rfl, _, rfl, ?_⟩⟩
          by_cases c3 : z = 0
          · refine ifIT (by omega) ?_
            exact ⟨_, rfl, _, rfl, _, _, rfl, named (SB.trans (SB.of e2) s3) hp3 (by simp) q1⟩
          · exact ifIF (by omega) (hN _ _ ⟨rfl, SB.trans (SB.of e2) s3, hp3, .inr (.inl (by omega))⟩)
      · refine ifSF (j := .letter) c1 (iteF ?_)
        refine ⟨_, rfl, _, _, rfl, p, 4, rfl, rfl, by decide, by decide, hp1.same e2, fun z H3 hz s3 hp3 => ⟨rfl, _, rfl, ?_⟩⟩
        by_cases c3 : z = 0
        · refine ifIT (by omega) ?_
          exact ⟨_, rfl, _, rfl, _, _, rfl, named (SB.trans (SB.of e2) s3) hp3 (by simp) q1⟩
        · exact ifIF (by omega) (hN _ _ ⟨rfl, SB.trans (SB.of e2) s3, hp3, .inr (.inr c1)⟩)
  rintro _ H2 ⟨rfl, s2, hp2, why⟩
  have hnm2 := hnm1.sb hp1 s2
  have ask : ∀ {H3 : Hp} {kv' nv' : V} {k' : Kd} {names' : List Kd}, PotAt H3 p → KAt K H3 kv' k' → KLs K H3 p nv' names' → Kd.within 2 k' → k'.deep + 1 ≤ k.deep → (∀ q ∈ names', PK q) → (∀ b, Kd.ltr b ∈ names') → names'.length ≤ names.length + 1 →
      MadeIn K H3 p (.ref p) kv' nv' (.int (d - 1)) m k' names' (d - 1) ∧ need (d - 1).toNat k' ≤ m := fun {H3 kv' nv' k' names'} a1 a2 a3 a4 a8 a5 a6 a7 => ⟨⟨rfl, rfl, a1, a2, a3, a4, a5, a6, by omega, by omega⟩, by
    unfold need at hnd ⊢
    split at hnd
    · split <;> omega
    · split <;> omega⟩
  have hk2 := hk1.tk (hp1.tk s2)
  refine if_split (fun σ' H' => σ' = [some (.ref p), some kv, some (.ref la), some (.int d), some (.ref L), none, none, none] ∧ SB p H1 H' ∧ PotAt H' p) (fun N hN => ?_) ?_
  · refine ⟨_, rfl, _, _, rfl, rfl, _, rfl, ?_⟩
    by_cases c : d > 0
    · refine ifT (decide_eq_true c) ?_
      refine ⟨_, rfl, _, _, rfl, p, 2, rfl, rfl, by decide, by decide, hp2, fun z H3 hz s3 hp3 => ⟨rfl, _, rfl, ?_⟩⟩
      have s13 := SB.trans s2 s3
      by_cases z0 : z = 0
      · refine ifIT (by omega) ?_
        have hn6 : 2 * d.toNat + 6 ≤ m + 1 := by
          unfold need at hnd
          rwa [if_neg (by omega)] at hnd
        refine ⟨_, rfl, _, rfl, _, rfl, _, rfl, _, _, _, _, rfl, p, k, names, d, ⟨rfl, rfl, hp3, hk1.tk (hp1.tk s13), hnm1.sb hp1 s13, kw, nP, lt, by omega, hdd⟩, c, by omega, by omega, fun v t ks H' a1 a2 a3 a4 a5 => q1 v t ks H' a1 ?_ (SB.trans s13 a3) a4 a5⟩
        unfold bnd
        rwa [if_neg (by omega)]
      · exact ifIF (by omega) (hN _ _ ⟨rfl, s13, hp3⟩)
    · exact ifF (decide_eq_false c) (hN _ _ ⟨rfl, s2, hp2⟩)
  rintro _ H3 ⟨rfl, s3, hp3⟩
  have hnm3 := hnm1.sb hp1 s3
  have hk3 := hk1.tk (hp1.tk s3)
  have eb : ∀ (w2 : Bw) (a b : Kd), k = .br w2 a b → 1 + bnd (d - 1).toNat a + bnd (d - 1).toNat b ≤ bnd d.toNat k ∧ 1 + bnd (d - 1).toNat a ≤ bnd d.toNat k ∧ 1 + bnd (d - 1).toNat b ≤ bnd d.toNat k := fun w2 a b e => by
    have wb := within_br (by rw [← e]; exact kw)
    have da := deep_pos a
    have db := deep_pos b
    by_cases c : d.toNat = 0
    · have c2 : (d - 1).toNat = 0 := by omega
      unfold bnd
      rw [if_pos c2, if_pos c2, if_pos c]
      have dk : k.deep = 1 + max a.deep b.deep := by rw [e]; rfl
      obtain ⟨x, hx⟩ : ∃ x, max a.deep b.deep = x + 1 := ⟨max a.deep b.deep - 1, by omega⟩
      have p1 : 2 ^ (a.deep - 1) ≤ 2 ^ x := pow_le (by omega)
      have p2 : 2 ^ (b.deep - 1) ≤ 2 ^ x := pow_le (by omega)
      have p3 : 2 ^ (k.deep - 1) = 2 * 2 ^ x := by
        rw [show k.deep - 1 = x + 1 by omega, Nat.pow_succ, Nat.mul_comm]
      have p4 : 1 ≤ 2 ^ x := Nat.one_le_two_pow
      have p5 : 1 ≤ 2 ^ (a.deep - 1) := Nat.one_le_two_pow
      have p6 : 1 ≤ 2 ^ (b.deep - 1) := Nat.one_le_two_pow
      omega
    · have e2 : (d - 1).toNat + 1 = d.toNat := by omega
      have b1 := bnd_le (n := (d - 1).toNat) (k := a) (by omega)
      have b2 := bnd_le (n := (d - 1).toNat) (k := b) (by omega)
      have e3 : bnd d.toNat k = 2 + 3 * BB (d - 1).toNat := by
        unfold bnd
        rw [if_neg c, ← e2]
        rfl
      omega
  have bsmall : bnd d.toNat k ≤ 1000 := by
    refine Nat.le_trans (bnd_le w2.1) ?_
    have : d.toNat = 0 ∨ d.toNat = 1 ∨ d.toNat = 2 ∨ d.toNat = 3 := by omega
    rcases this with z | z | z | z <;> rw [z] <;> decide
  cases k with
  | ltr b =>
    obtain ⟨ka, rfl, hks⟩ := hk3.ltr
    refine ⟨_, rfl, _, _, _, _, rfl, rfl, hks, at0, rfl, _, rfl, ifST (i := .letter) (j := .letter) rfl ?_⟩
    exact ⟨_, rfl, _, rfl, _, _, rfl, named s3 hp3 (mem (lt b)) q1⟩
  | cnt =>
    obtain ⟨ka, rfl, hks⟩ := hk3.cnt
    refine ⟨_, rfl, _, _, _, _, rfl, rfl, hks, at0, rfl, _, rfl, ifSF (i := .count) (j := .letter) (by decide) ?_⟩
    refine ⟨_, rfl, _, _, _, _, rfl, rfl, hks, at0, rfl, _, rfl, ifST (i := .count) (j := .count) rfl ?_⟩
    refine ⟨_, rfl, _, _, rfl, p, 3, rfl, rfl, by decide, by decide, hp3, fun z H4 hz s4 hp4 => ?_⟩
    have s14 := SB.trans s3 s4
    refine ⟨_, _, rfl, rfl, _, rfl, ?_⟩
    have pc : PK .cnt := ⟨by decide, by decide⟩
    by_cases z0 : 0 < z
    · refine ifT (decide_eq_true (by omega)) ?_
      refine ⟨_, rfl, _, _, rfl, p, 9, rfl, rfl, by decide, by decide, hp4, fun y H5 hy s5 hp5 => ⟨fits2, fun b1 hb1 => ⟨fits1, fun l hl2 => ?_⟩⟩⟩
      obtain ⟨e7, hp7, nl7⟩ := lay1 (K := K) (n1 := .told y) hp5 hb1 hl2 (fun _ _ h => NAt.wi rfl h)
      exact q1 _ (.leaf (.told y)) _ _ (.told (by omega) pc) (Nat.le_trans (by simp [Tm.flat]) (Nat.le_trans (by decide : 1 ≤ 2) bnd_pos)) (SB.trans s14 (SB.trans s5 (SB.of e7))) hp7 nl7
    · refine ifF (decide_eq_false (by omega)) ⟨fits1, fun b1 hb1 => ?_⟩
      have e5 := Same.new hb1 (.tup [V.str "next"])
      have hp5 := hp4.same e5
      refine ⟨_, rfl, _, _, rfl, p, 9, rfl, rfl, by decide, by decide, hp5, fun y H6 hy s6 hp6 => ⟨fits2, fun b2 hb2 => ⟨fits2, fun l hl2 => ?_⟩⟩⟩
      have e6 := Same.new hb2 (.tup [V.str "told", V.int (y : Nat)])
      have e7 := Same.new hl2 (.lst [V.ref b1, V.ref b2])
      have n1 : NAt K (upd H6 b2 (.tup [V.str "told", V.int (y : Nat)])) (.ref b1) .next := NAt.w0 rfl (SqT.of (e6 _ _ (s6 _ _ (hp4.ne hb1) upd_same)))
      have n2 : NAt K (upd H6 b2 (.tup [V.str "told", V.int (y : Nat)])) (.ref b2) (.told y) := NAt.wi rfl (SqT.of upd_same)
      have nl7 := NLs.new (K := K) (ns := [.next, .told y]) (hp6.same e6) hl2 (.cons n1 (.cons n2 .nil))
      exact q1 _ (.un .next (.leaf (.told y))) _ _ (.next (.told (by omega) pc) pc) bnd_pos (SB.trans s14 (SB.trans (SB.of e5) (SB.trans s6 (SB.of (e6.trans e7))))) (hp6.same (e6.trans e7)) nl7
  | br w2' a b =>
    obtain ⟨ka, va, vb, rfl, hks, ha, hb⟩ := hk3.br
    obtain ⟨wa, wb, da, db⟩ := within_br kw
    obtain ⟨l2, la1, lb1⟩ := eb _ _ _ rfl
    have dk : a.deep + 1 ≤ (Kd.br w2' a b).deep ∧ b.deep + 1 ≤ (Kd.br w2' a b).deep := by
      simp only [Kd.deep]
      omega
    have pk := within2_PK kw
    refine ⟨_, rfl, _, _, _, _, rfl, rfl, hks, at0, rfl, _, rfl, ifSF (i := w2'.w) (j := .letter) (by cases w2' <;> decide) ?_⟩
    refine ⟨_, rfl, _, _, _, _, rfl, rfl, hks, at0, rfl, _, rfl, ifSF (i := w2'.w) (j := .count) (by cases w2' <;> decide) ?_⟩
    cases w2' with
    | pair =>
      refine ⟨_, rfl, _, _, _, _, rfl, rfl, hks, at0, rfl, _, rfl, ifST (i := .pair) (j := .pair) rfl ?_⟩
      obtain ⟨i4, n4⟩ := ask hp3 ha hnm3 wa dk.1 nP lt (Nat.le_succ _)
      refine ⟨_, rfl, _, rfl, _, _, _, _, rfl, rfl, hks, at1, _, rfl, _, rfl, _, _, rfl, rfl, _, _, _, _, rfl, p, a, names, d - 1, i4, n4, fun v4 t4 k4 H4 ty4 l4 s4 hp4 nl4 => ?_⟩
      refine ⟨fits1, fun b1 hb1 => ⟨fits1, fun l hl2 => ⟨_, rfl, ?_⟩⟩⟩
      obtain ⟨e7, hp7, nl7⟩ := lay1 (K := K) (n1 := .both) hp4 hb1 hl2 (fun _ _ h => NAt.w0 rfl h)
      refine cat_n nl7 (nl4.same e7) hp7 (by simp only [List.length_cons, List.length_nil]; omega) fun v8 H8 e8 hp8 nl8 => ?_
      have s48 : SB p H3 H8 := SB.trans s4 (SB.of (e7.trans e8))
      have hks8 := SqT.tk (hp3.tk s48) hks
      obtain ⟨i9, n9⟩ := ask hp8 (hb.tk (hp3.tk s48)) (hnm3.sb hp3 s48) wb dk.2 nP lt (Nat.le_succ _)
      refine ⟨_, rfl, _, rfl, _, _, _, _, rfl, rfl, hks8, at2, _, rfl, _, rfl, _, _, rfl, rfl, _, _, _, _, rfl, p, b, names, d - 1, i9, n9, fun v9 t9 k9 H9 ty9 l9 s9 hp9 nl9 => ?_⟩
      refine cat_n (nl8.sb hp8 s9) nl9 hp9 (by rw [List.length_append]; simp only [List.length_cons, List.length_nil]; omega) fun v10 H10 e10 hp10 nl10 => ?_
      refine q1 v10 (.bin .both t4 t9) _ _ (.both ty4 ty9 pk) ?_ (SB.trans s3 (SB.trans s48 (SB.trans s9 (SB.of e10)))) hp10 nl10
      simp only [Tm.flat, List.length_cons, List.length_append]
      omega
    | sum =>
      refine ⟨_, rfl, _, _, _, _, rfl, rfl, hks, at0, rfl, _, rfl, ifSF (i := .sum) (j := .pair) (by decide) ?_⟩
      refine ⟨_, rfl, _, _, _, _, rfl, rfl, hks, at0, rfl, _, rfl, ifST (i := .sum) (j := .sum) rfl ?_⟩
      refine ⟨_, rfl, _, _, rfl, p, 2, rfl, rfl, by decide, by decide, hp3, fun z H4 hz s4 hp4 => ⟨rfl, _, rfl, ?_⟩⟩
      have tk4 := hp3.tk s4
      have hks4 := SqT.tk tk4 hks
      by_cases z0 : z = 0
      · refine ifIT (by omega) ?_
        refine ⟨_, rfl, _, _, _, _, rfl, rfl, hks4, at2, fits2, fun b1 hb1 => ⟨fits1, fun l hl2 => ?_⟩⟩
        obtain ⟨e7, hp7, nl7⟩ := lay1 (K := K) (n1 := .left b) hp4 hb1 hl2 (fun _ e h => NAt.w1 rfl h ((hb.tk tk4).tk (TK.of e)))
        have s37 : SB p H3 _ := SB.trans s4 (SB.of e7)
        obtain ⟨i9, n9⟩ := ask hp7 (ha.tk (hp3.tk s37)) (hnm3.sb hp3 s37) wa dk.1 nP lt (Nat.le_succ _)
        refine ⟨_, rfl, _, rfl, _, _, _, _, rfl, rfl, SqT.same e7 hks4, at1, _, rfl, _, rfl, _, _, rfl, rfl, _, _, _, _, rfl, p, a, names, d - 1, i9, n9, fun v9 t9 k9 H9 ty9 l9 s9 hp9 nl9 => ?_⟩
        refine cat_n (nl7.sb hp7 s9) nl9 hp9 (by simp only [List.length_cons, List.length_nil]; omega) fun v10 H10 e10 hp10 nl10 => ?_
        refine q1 v10 (.un (.left b) t9) _ _ (.left ty9 (within2_PK wb) pk) ?_ (SB.trans s3 (SB.trans s37 (SB.trans s9 (SB.of e10)))) hp10 nl10
        simp only [Tm.flat, List.length_cons]
        omega
      · refine ifIF (by omega) ?_
        refine ⟨_, rfl, _, _, _, _, rfl, rfl, hks4, at1, fits2, fun b1 hb1 => ⟨fits1, fun l hl2 => ?_⟩⟩
        obtain ⟨e7, hp7, nl7⟩ := lay1 (K := K) (n1 := .right a) hp4 hb1 hl2 (fun _ e h => NAt.w1 rfl h ((ha.tk tk4).tk (TK.of e)))
        have s37 : SB p H3 _ := SB.trans s4 (SB.of e7)
        obtain ⟨i9, n9⟩ := ask hp7 (hb.tk (hp3.tk s37)) (hnm3.sb hp3 s37) wb dk.2 nP lt (Nat.le_succ _)
        refine ⟨_, rfl, _, rfl, _, _, _, _, rfl, rfl, SqT.same e7 hks4, at2, _, rfl, _, rfl, _, _, rfl, rfl, _, _, _, _, rfl, p, b, names, d - 1, i9, n9, fun v9 t9 k9 H9 ty9 l9 s9 hp9 nl9 => ?_⟩
        refine cat_n (nl7.sb hp7 s9) nl9 hp9 (by simp only [List.length_cons, List.length_nil]; omega) fun v10 H10 e10 hp10 nl10 => ?_
        refine q1 v10 (.un (.right a) t9) _ _ (.right ty9 (within2_PK wa) pk) ?_ (SB.trans s3 (SB.trans s37 (SB.trans s9 (SB.of e10)))) hp10 nl10
        simp only [Tm.flat, List.length_cons]
        omega
    | fn =>
      refine ⟨_, rfl, _, _, _, _, rfl, rfl, hks, at0, rfl, _, rfl, ifSF (i := .fn) (j := .pair) (by decide) ?_⟩
      refine ⟨_, rfl, _, _, _, _, rfl, rfl, hks, at0, rfl, _, rfl, ifSF (i := .fn) (j := .sum) (by decide) ?_⟩
      refine ⟨_, rfl, _, _, _, _, rfl, rfl, hks, at1, fits2, fun b1 hb1 => ⟨fits1, fun l hl2 => ?_⟩⟩
      obtain ⟨e7, hp7, nl7⟩ := lay1 (K := K) (n1 := .fn a) hp3 hb1 hl2 (fun _ e h => NAt.w1 rfl h (ha.tk (TK.of e)))
      refine ⟨_, rfl, _, rfl, _, _, _, _, rfl, rfl, SqT.same e7 hks, at2, _, rfl, _, _, _, _, rfl, rfl, SqT.same e7 hks, at1, more_k hp7 (ha.tk (TK.of e7)) (hnm3.same e7) (by omega) fun v8 H8 e8 hp8 kl8 => ?_⟩
      obtain ⟨i9, n9⟩ := ask hp8 (hb.tk (TK.of (e7.trans e8))) kl8 wb dk.2 (consAll (within2_PK wa) nP) (fun c => List.mem_cons_of_mem _ (lt c)) (Nat.le_refl _)
      refine ⟨_, rfl, _, _, rfl, rfl, _, _, _, _, rfl, p, b, a :: names, d - 1, i9, n9, fun v9 t9 k9 H9 ty9 l9 s9 hp9 nl9 => ?_⟩
      refine cat_n ((nl7.same e8).sb hp8 s9) nl9 hp9 (by simp only [List.length_cons, List.length_nil]; omega) fun v10 H10 e10 hp10 nl10 => ?_
      refine q1 v10 (.un (.fn a) t9) _ _ (.fn (within2_PK wa) pk ty9) ?_ (SB.trans s3 (SB.trans (SB.of (e7.trans e8)) (SB.trans s9 (SB.of e10)))) hp10 nl10
      simp only [Tm.flat, List.length_cons]
      omega
theorem ok_made_cut (T : Txt K w mg fr fd nk nkI) (DM : Df K mg "_law_made" (top 85)) (DC : Df K mg "_law_cut" (top 84)) (c__law_draw : Cal P w K mg base CX0 "_law_draw" 1 ["_law_pot_here", "_law_size"] (sp2 gDraw))
    (c__law_pick : Cal P w K mg base CX0 "_law_pick" 2 ["_law_pot_here", "_law_some"] (sp2 (gPick K))) (c__law_kind : Cal P w K mg base CX0 "_law_kind" 3 ["_law_pot_here", "_law_deep_here"] (sp2 (gLKind K 3))) :
    ∀ m, Cal P w K mg base CX0 "_law_made" m psM (sp4 (gMade K m)) ∧ Cal P w K mg base CX0 "_law_cut" m psM (sp4 (gCut K m))
  | 0 => ⟨DM.cal0 (bs4 fun _ _ _ _ _ _ _ _ _ _ => rfl) fun vs H Q E ⟨_, _, _, _, _, p, k, names, d, _, h, _⟩ => by
      have := deep_pos k
      unfold need at h
      split at h <;> omega, DC.cal0 (bs4 fun _ _ _ _ _ _ _ _ _ _ => rfl) fun vs H Q E ⟨_, _, _, _, _, p, k, names, d, _, _, h, _⟩ => by omega⟩
  | m + 1 => by
    obtain ⟨a, b⟩ := ok_made_cut T DM DC c__law_draw c__law_pick c__law_kind m
    exact ⟨ok_made_step T DM c__law_draw c__law_pick m a b, ok_cut_step T DC c__law_draw c__law_kind m a⟩
end
end K17
/-! K18: the law's own reading of a term. -/
namespace K17
open PySem L2
section
variable {P : Program} {w : World} {K : PySem.W.Frag} {mg : Str → Option Value} {base : Heap} {fr nk nkI : Addr} {fd : FuncData}
abbrev N__law_binds : List Str := ["_law_word", "_law_some"]
theorem sc__law_binds : FnScope N__law_binds ["_law_word"] (defScope (top 86)) := ⟨rfl, rfl, rfl, by decide +kernel, rfl, by decide +kernel, by decide +kernel⟩
def isW (z : Wd) : Bool := match z with
  | .pair | .sum | .letter | .count => false
  | _ => true
def gBinds : G1 := fun v H Q _ => ∃ z : Wd, v = .str z.s ∧ isW z = true ∧ ∀ p H', Same H H' → H p = none → H' p = some (.lst ((binds z).map fun (b : Nat) => V.int b)) → Q (.ref p) H'
theorem Same.sbn {p : Addr} {H H' : Hp} (h : SB p H H') (n : H p = none) : Same H H' := fun b o e => h b o (fun z => by
  rw [z, n] at e
  cases e) e
theorem ok__law_binds (D : Df K mg "_law_binds" (top 86)) : Cal P w K mg base CX0 "_law_binds" 1 ["_law_word"] (sp1 gBinds) := by
  refine D.cal sc__law_binds (bs1 fun _ _ _ _ _ _ _ => rfl) sp1_len fun f cdv A outer s H vs Q E hr h => ?_
  obtain ⟨_, rfl, z, rfl, hz, q⟩ := h
  refine ⟨_, (pss_cons (ps_set (i := 1) sc__law_binds.nd rfl (Or.inl rfl) (pe_disp (pps_cons pe_str (pe_lst pa_nil) (pps_cons pe_str (pe_lst pa_nil) (pps_cons pe_str (pe_lst (pa_cons pe_int pa_nil)) (pps_cons pe_str (pe_lst (pa_cons pe_int (pa_cons pe_int pa_nil))) (pps_cons pe_str (pe_lst (pa_cons pe_int (pa_cons pe_int pa_nil))) (pps_cons pe_str (pe_lst (pa_cons pe_int pa_nil)) (pps_cons pe_str (pe_lst (pa_cons pe_int pa_nil)) pps_nil))))))) (by rfl) (by rfl) (fun z => by cases z) (by decide)))
    (pss_cons (ps_asg (pe_tup (pa_cons (pe_lst (pa_cons pe_int pa_nil)) (pa_cons (pe_lst (pa_cons pe_int pa_nil)) (pa_cons (pe_lst (pa_cons pe_int pa_nil)) (pa_cons (pe_lst (pa_cons pe_int (pa_cons pe_int pa_nil))) pa_nil))))) (pg_tup rfl (pgs_cons (pg_sub (pv 1) pe_str (set_dict (hu_of hr))) (pgs_cons (pg_sub (pv 1) pe_str (set_dict (hu_of hr))) (pgs_cons (pg_sub (pv 1) pe_str (set_dict (hu_of hr))) (pgs_cons (pg_sub (pv 1) pe_str (set_dict (hu_of hr))) pgs_nil))))))
    (pss_cons (ps_asg (pe_tup (pa_cons (pe_lst (pa_cons pe_int (pa_cons pe_int (pa_cons pe_int pa_nil)))) (pa_cons (pe_lst (pa_cons pe_int (pa_cons pe_int (pa_cons pe_int pa_nil)))) pa_nil))) (pg_tup rfl (pgs_cons (pg_sub (pv 1) pe_str (set_dict (hu_of hr))) (pgs_cons (pg_sub (pv 1) pe_str (set_dict (hu_of hr))) pgs_nil))))
    (pss_one (ps_ret (pe_dget (hu_of hr) (pv 1) (pv 0) (fun _ _ => rfl))))))), ?_⟩
  refine fun p hp => ⟨fits0, fun l1 h1 => ⟨fits0, fun l2 h2 => ⟨fits1, fun l3 h3 => ⟨fits2, fun l4 h4 => ⟨fits2, fun l5 h5 => ⟨fits1, fun l6 h6 => ⟨fits1, fun l7 h7 => ?_⟩⟩⟩⟩⟩⟩⟩
  have g1 := Same.new h1 (.lst [])
  have g2 := Same.new h2 (.lst [])
  have g3 := Same.new h3 (.lst [V.int 1])
  have g4 := Same.new h4 (.lst [V.int 0, V.int 0])
  have g5 := Same.new h5 (.lst [V.int 0, V.int 0])
  have g6 := Same.new h6 (.lst [V.int 0])
  have g7 := Same.new h7 (.lst [V.int 0])
  have g67 := g6.trans g7
  have g57 := g5.trans g67
  have g47 := g4.trans g57
  have g37 := g3.trans g47
  have g27 := g2.trans g37
  have g17 := g1.trans g27
  have sH0 : SB p H (upd H p (.dK [])) := SB.upd _
  have c1 := (Same.sbn sH0 hp).free h1
  have c2 := (Same.sbn (SB.trans sH0 (SB.of g1)) hp).free h2
  have c3 := (Same.sbn (SB.trans sH0 (SB.of (g1.trans g2))) hp).free h3
  have c4 := (Same.sbn (SB.trans sH0 (SB.of (g1.trans (g2.trans g3)))) hp).free h4
  have c5 := (Same.sbn (SB.trans sH0 (SB.of (g1.trans (g2.trans (g3.trans g4))))) hp).free h5
  have c6 := (Same.sbn (SB.trans sH0 (SB.of (g1.trans (g2.trans (g3.trans (g4.trans g5)))))) hp).free h6
  have c7 := (Same.sbn (SB.trans sH0 (SB.of (g1.trans (g2.trans (g3.trans (g4.trans (g5.trans g6))))))) hp).free h7
  have hpp := g17 _ _ (upd_same (H := H) (a := p) (o := .dK []))
  refine ⟨hpp, [(.inr "name", .ref l1), (.inr "told", .ref l2), (.inr "fun", .ref l3), (.inr "call", .ref l4), (.inr "both", .ref l5), (.inr "first", .ref l6), (.inr "second", .ref l7)], rfl, (by decide : 7 ≤ 15), ?_⟩
  have f1 := g27 _ _ (upd_same (H := upd H p (.dK [])) (a := l1) (o := .lst []))
  have f2 := g37 _ _ (upd_same (H := upd (upd H p (.dK [])) l1 (.lst [])) (a := l2) (o := .lst []))
  generalize hA : upd (upd (upd H p (.dK [])) l1 (.lst [])) l2 (.lst []) = A2 at *
  have f3 := g47 _ _ (upd_same (H := A2) (a := l3) (o := .lst [V.int 1]))
  generalize hB : upd A2 l3 (.lst [V.int 1]) = A3 at *
  have f4 := g57 _ _ (upd_same (H := A3) (a := l4) (o := .lst [V.int 0, V.int 0]))
  generalize hC : upd A3 l4 (.lst [V.int 0, V.int 0]) = A4 at *
  have f5 := g67 _ _ (upd_same (H := A4) (a := l5) (o := .lst [V.int 0, V.int 0]))
  generalize hD : upd A4 l5 (.lst [V.int 0, V.int 0]) = A5 at *
  have f6 := g7 _ _ (upd_same (H := A5) (a := l6) (o := .lst [V.int 0]))
  generalize hE : upd A5 l6 (.lst [V.int 0]) = A6 at *
  have f7 := upd_same (H := A6) (a := l7) (o := .lst [V.int 0])
  generalize hG : upd A6 l7 (.lst [V.int 0]) = A7 at *
  clear hA hB hC hD hE hG g1 g2 g3 g4 g5 g6 g7 g67 g57 g47 g37 g27 h1 h2 h3 h4 h5 h6 h7
  have np : ∀ {l : Addr} {xs : List V}, A7 l = some (.lst xs) → l ≠ p := fun e z => by
    rw [z, hpp] at e
    cases e
  have sH : SB p H A7 := SB.trans (SB.upd _) (SB.of g17)
  refine ⟨fits1, fun l8 h8 => ⟨fits1, fun l9 h9 => ⟨fits1, fun l10 h10 => ⟨fits2, fun l11 h11 => ⟨(by decide : 4 ≤ sizeLine), fun T hT => ?_⟩⟩⟩⟩⟩
  have hkv : mergeK [] [(Sum.inr (Str.ofString "name"), V.ref l1), (Sum.inr (Str.ofString "told"), V.ref l2), (Sum.inr (Str.ofString "fun"), V.ref l3), (Sum.inr (Str.ofString "call"), V.ref l4), (Sum.inr (Str.ofString "both"), V.ref l5), (Sum.inr (Str.ofString "first"), V.ref l6), (Sum.inr (Str.ofString "second"), V.ref l7)] = [(Sum.inr (Str.ofString "name"), V.ref l1), (Sum.inr (Str.ofString "told"), V.ref l2), (Sum.inr (Str.ofString "fun"), V.ref l3), (Sum.inr (Str.ofString "call"), V.ref l4), (Sum.inr (Str.ofString "both"), V.ref l5), (Sum.inr (Str.ofString "first"), V.ref l6), (Sum.inr (Str.ofString "second"), V.ref l7)] := rfl
  generalize mergeK [] [(Sum.inr (Str.ofString "name"), V.ref l1), (Sum.inr (Str.ofString "told"), V.ref l2), (Sum.inr (Str.ofString "fun"), V.ref l3), (Sum.inr (Str.ofString "call"), V.ref l4), (Sum.inr (Str.ofString "both"), V.ref l5), (Sum.inr (Str.ofString "first"), V.ref l6), (Sum.inr (Str.ofString "second"), V.ref l7)] = kv0 at *
  have n0 : kv0.length = 7 := by rw [hkv]; rfl
  have f0 := upd_same (H := A7) (a := p) (o := .dK kv0)
  have s0 : SB p A7 (upd A7 p (.dK kv0)) := SB.upd _
  generalize upd A7 p (.dK kv0) = B0 at *
  have sB0 := SB.trans sH s0
  have c8 := (Same.sbn sB0 hp).free h8
  have e8 := Same.new h8 (.lst [V.int 0])
  have f8 := upd_same (H := B0) (a := l8) (o := .lst [V.int 0])
  generalize upd B0 l8 (.lst [V.int 0]) = B1 at *
  have c9 := (Same.sbn (SB.trans sB0 (SB.of e8)) hp).free h9
  have e9 := Same.new h9 (.lst [V.int 0])
  have f9 := upd_same (H := B1) (a := l9) (o := .lst [V.int 0])
  generalize upd B1 l9 (.lst [V.int 0]) = B2 at *
  have c10 := (Same.sbn (SB.trans sB0 (SB.of (e8.trans e9))) hp).free h10
  have e10 := Same.new h10 (.lst [V.int 0])
  have f10 := upd_same (H := B2) (a := l10) (o := .lst [V.int 0])
  generalize upd B2 l10 (.lst [V.int 0]) = B3 at *
  have c11 := (Same.sbn (SB.trans sB0 (SB.of (e8.trans (e9.trans e10)))) hp).free h11
  have e11 := Same.new h11 (.lst [V.int 0, V.int 1])
  have f11 := upd_same (H := B3) (a := l11) (o := .lst [V.int 0, V.int 1])
  generalize upd B3 l11 (.lst [V.int 0, V.int 1]) = B4 at *
  have eT := Same.new hT (.tup [V.ref l8, V.ref l9, V.ref l10, V.ref l11])
  have fT := upd_same (H := B4) (a := T) (o := .tup [V.ref l8, V.ref l9, V.ref l10, V.ref l11])
  generalize upd B4 T (.tup [V.ref l8, V.ref l9, V.ref l10, V.ref l11]) = B5 at *
  have e05 := (e8.trans e9).trans ((e10.trans e11).trans eT)
  have g8 := ((e9.trans e10).trans (e11.trans eT)) _ _ f8
  have g9 := (e10.trans (e11.trans eT)) _ _ f9
  have g10 := (e11.trans eT) _ _ f10
  have g11 := eT _ _ f11
  have g0 := e05 _ _ f0
  have s5 : SB p H B5 := SB.trans sH (SB.trans s0 (SB.of e05))
  have sA : SB p A7 B5 := SB.trans s0 (SB.of e05)
  have ln : ∀ n : Nat, n ≤ 20 → n < sizeLine := fun n h => by
    rw [line_eq]
    omega
  have lp : ∀ (kv : List (Key × V)) (k : Key) (v : V), (putK kv k v).length ≤ kv.length + 1 := length_putK
  refine ⟨T, [V.ref l8, V.ref l9, V.ref l10, V.ref l11], rfl, SqT.of fT, rfl, ?_⟩
  refine ⟨_, _, rfl, _, rfl, p, _, rfl, .inl ⟨kv0, .inr "left", g0, rfl, ln _ (by omega), rfl⟩, ?_⟩
  refine ⟨_, _, rfl, _, rfl, p, _, rfl, .inl ⟨_, .inr "right", upd_same, rfl, ln _ (Nat.le_trans (lp _ _ _) (by omega)), rfl⟩, ?_⟩
  refine ⟨_, _, rfl, _, rfl, p, _, rfl, .inl ⟨_, .inr "next", upd_same, rfl, ln _ (Nat.le_trans (lp _ _ _) (Nat.le_trans (Nat.succ_le_succ (lp _ _ _)) (by omega))), rfl⟩, ?_⟩
  refine ⟨_, _, rfl, _, rfl, p, _, rfl, .inl ⟨_, .inr "let", upd_same, rfl, ln _ (Nat.le_trans (lp _ _ _) (Nat.le_trans (Nat.succ_le_succ (lp _ _ _)) (Nat.le_trans (Nat.succ_le_succ (Nat.succ_le_succ (lp _ _ _))) (by omega)))), rfl⟩, ?_⟩
  rw [upd_upd, upd_upd, upd_upd]
  refine ⟨rfl, ?_⟩
  refine ⟨fits3, fun l12 h12 => ⟨fits3, fun l13 h13 => ⟨fits2, fun T2 hT2 => ?_⟩⟩⟩
  have nk1 : (putK (putK (putK (putK kv0 (Sum.inr (Str.ofString "left")) (V.ref l8)) (Sum.inr (Str.ofString "right")) (V.ref l9)) (Sum.inr (Str.ofString "next")) (V.ref l10)) (Sum.inr (Str.ofString "let")) (V.ref l11)).length ≤ 11 := Nat.le_trans (lp _ _ _) (Nat.le_trans (Nat.succ_le_succ (lp _ _ _)) (Nat.le_trans (Nat.succ_le_succ (Nat.succ_le_succ (lp _ _ _))) (Nat.le_trans (Nat.succ_le_succ (Nat.succ_le_succ (Nat.succ_le_succ (lp _ _ _)))) (by omega))))
  have hkv1 : (putK (putK (putK (putK kv0 (Sum.inr (Str.ofString "left")) (V.ref l8)) (Sum.inr (Str.ofString "right")) (V.ref l9)) (Sum.inr (Str.ofString "next")) (V.ref l10)) (Sum.inr (Str.ofString "let")) (V.ref l11)) = kv0 ++ [(Sum.inr (Str.ofString "left"), V.ref l8), (Sum.inr (Str.ofString "right"), V.ref l9), (Sum.inr (Str.ofString "next"), V.ref l10), (Sum.inr (Str.ofString "let"), V.ref l11)] := by
    rw [hkv]
    rfl
  generalize (putK (putK (putK (putK kv0 (Sum.inr (Str.ofString "left")) (V.ref l8)) (Sum.inr (Str.ofString "right")) (V.ref l9)) (Sum.inr (Str.ofString "next")) (V.ref l10)) (Sum.inr (Str.ofString "let")) (V.ref l11)) = kv1 at *
  have fC := upd_same (H := B5) (a := p) (o := .dK kv1)
  have sC : SB p B5 (upd B5 p (.dK kv1)) := SB.upd _
  generalize upd B5 p (.dK kv1) = C0 at *
  have sC0 := SB.trans s5 sC
  have c12 := (Same.sbn sC0 hp).free h12
  have e12 := Same.new h12 (.lst [V.int 0, V.int 1, V.int 1])
  have f12 := upd_same (H := C0) (a := l12) (o := .lst [V.int 0, V.int 1, V.int 1])
  generalize upd C0 l12 (.lst [V.int 0, V.int 1, V.int 1]) = C1 at *
  have c13 := (Same.sbn (SB.trans sC0 (SB.of e12)) hp).free h13
  have e13 := Same.new h13 (.lst [V.int 0, V.int 1, V.int 0])
  have f13 := upd_same (H := C1) (a := l13) (o := .lst [V.int 0, V.int 1, V.int 0])
  generalize upd C1 l13 (.lst [V.int 0, V.int 1, V.int 0]) = C2 at *
  have eT2 := Same.new hT2 (.tup [V.ref l12, V.ref l13])
  have fT2 := upd_same (H := C2) (a := T2) (o := .tup [V.ref l12, V.ref l13])
  generalize upd C2 T2 (.tup [V.ref l12, V.ref l13]) = C3 at *
  have g12 := (e13.trans eT2) _ _ f12
  have g13 := eT2 _ _ f13
  have gC := (e12.trans (e13.trans eT2)) _ _ fC
  have s53 : SB p B5 C3 := SB.trans sC (SB.of (e12.trans (e13.trans eT2)))
  refine ⟨T2, [V.ref l12, V.ref l13], rfl, SqT.of fT2, rfl, ?_⟩
  refine ⟨_, _, rfl, _, rfl, p, _, rfl, .inl ⟨kv1, .inr "which", gC, rfl, ln _ (by omega), rfl⟩, ?_⟩
  refine ⟨_, _, rfl, _, rfl, p, _, rfl, .inl ⟨_, .inr "turns", upd_same, rfl, ln _ (Nat.le_trans (lp _ _ _) (by omega)), rfl⟩, ?_⟩
  rw [upd_upd]
  have hkv2 : putK (putK kv1 (Sum.inr (Str.ofString "which")) (V.ref l12)) (Sum.inr (Str.ofString "turns")) (V.ref l13) = kv1 ++ [(Sum.inr (Str.ofString "which"), V.ref l12), (Sum.inr (Str.ofString "turns"), V.ref l13)] := by
    rw [hkv1, hkv]
    rfl
  rw [hkv2]
  refine ⟨rfl, ?_⟩
  -- every list, in the last heap
  have sl : SB p B5 (upd C3 p (.dK (kv1 ++ [(Sum.inr (Str.ofString "which"), V.ref l12), (Sum.inr (Str.ofString "turns"), V.ref l13)]))) := SB.trans s53 (SB.upd _)
  have old : ∀ {l : Addr} {xs : List V}, A7 l = some (.lst xs) → (upd C3 p (.dK (kv1 ++ [(Sum.inr (Str.ofString "which"), V.ref l12), (Sum.inr (Str.ofString "turns"), V.ref l13)]))) l = some (.lst xs) := fun e => sl _ _ (np e) (sA _ _ (np e) e)
  have nq : ∀ {l : Addr} {xs : List V}, C3 l = some (.lst xs) → l ≠ p := fun e z => by
    rw [z, gC] at e
    cases e
  have nb : ∀ {l : Addr} {xs : List V}, B5 l = some (.lst xs) → l ≠ p := fun e z => by
    rw [z, g0] at e
    cases e
  have mid : ∀ {l : Addr} {xs : List V}, B5 l = some (.lst xs) → (upd C3 p (.dK (kv1 ++ [(Sum.inr (Str.ofString "which"), V.ref l12), (Sum.inr (Str.ofString "turns"), V.ref l13)]))) l = some (.lst xs) := fun e => sl _ _ (nb e) e
  have new : ∀ {l : Addr} {xs : List V}, C3 l = some (.lst xs) → (upd C3 p (.dK (kv1 ++ [(Sum.inr (Str.ofString "which"), V.ref l12), (Sum.inr (Str.ofString "turns"), V.ref l13)]))) l = some (.lst xs) := fun e => by
    rw [upd_ne (nq e)]
    exact e
  have sm : Same H (upd C3 p (.dK (kv1 ++ [(Sum.inr (Str.ofString "which"), V.ref l12), (Sum.inr (Str.ofString "turns"), V.ref l13)]))) := Same.sbn (SB.trans s5 sl) hp
  have fin : ∃ l, valV (kv1 ++ [(Sum.inr (Str.ofString "which"), V.ref l12), (Sum.inr (Str.ofString "turns"), V.ref l13)]) (Sum.inr z.s) = some (V.ref l) ∧ (upd C3 p (.dK (kv1 ++ [(Sum.inr (Str.ofString "which"), V.ref l12), (Sum.inr (Str.ofString "turns"), V.ref l13)]))) l = some (.lst ((binds z).map fun (b : Nat) => V.int b)) ∧ H l = none := by
    rw [hkv1, hkv]
    rw [hkv1, hkv] at old mid new
    cases z with
    | name => exact ⟨l1, rfl, old f1, c1⟩
    | told => exact ⟨l2, rfl, old f2, c2⟩
    | fn => exact ⟨l3, rfl, old f3, c3⟩
    | call => exact ⟨l4, rfl, old f4, c4⟩
    | both => exact ⟨l5, rfl, old f5, c5⟩
    | first => exact ⟨l6, rfl, old f6, c6⟩
    | second => exact ⟨l7, rfl, old f7, c7⟩
    | left => exact ⟨l8, rfl, mid g8, c8⟩
    | right => exact ⟨l9, rfl, mid g9, c9⟩
    | next => exact ⟨l10, rfl, mid g10, c10⟩
    | lt => exact ⟨l11, rfl, mid g11, c11⟩
    | which => exact ⟨l12, rfl, new g12, c12⟩
    | turns => exact ⟨l13, rfl, new g13, c13⟩
    | pair => cases hz
    | sum => cases hz
    | letter => cases hz
    | count => cases hz
  obtain ⟨l, v1, v2, v3⟩ := fin
  refine ⟨_, rfl, _, rfl, p, _, rfl, .inl ⟨_, .inr z.s, .inl upd_same, rfl, v1.symm⟩, ?_⟩
  exact q l _ sm v3 v2
end
end K17
/-! K19: the law's own reading of a term into a tree. -/
namespace K17
open PySem L2
/-! ### trees as the law lays them -/
def Tm.nd : Tm → Nd
  | .leaf n => n
  | .un n _ => n
  | .bin n _ _ => n
  | .tri n _ _ _ => n
def Tm.kids : Tm → List Tm
  | .leaf _ => []
  | .un _ a => [a]
  | .bin _ a b => [a, b]
  | .tri _ a b c => [a, b, c]
def Tm.h : Tm → Nat
  | .leaf _ => 1
  | .un _ a => a.h + 1
  | .bin _ a b => max a.h b.h + 1
  | .tri _ a b c => max a.h (max b.h c.h) + 1
theorem Tm.flat_kids (t : Tm) : t.flat = t.nd :: t.kids.flatMap Tm.flat := by cases t <;> simp [Tm.flat, Tm.nd, Tm.kids]
theorem Tm.kid_h {t c : Tm} (h : c ∈ t.kids) : c.h + 1 ≤ t.h := by
  cases t <;> simp [Tm.kids] at h
  · subst h
    exact Nat.le_refl _
  · rcases h with h | h <;> subst h <;> simp only [Tm.h] <;> omega
  · rcases h with h | h | h <;> subst h <;> simp only [Tm.h] <;> omega
theorem Tm.h_le : ∀ t : Tm, t.h ≤ t.flat.length
  | .leaf n => by simp [Tm.h, Tm.flat]
  | .un n a => by
    have := Tm.h_le a
    simp only [Tm.h, Tm.flat, List.length_cons]
    omega
  | .bin n a b => by
    have := Tm.h_le a
    have := Tm.h_le b
    simp only [Tm.h, Tm.flat, List.length_cons, List.length_append]
    omega
  | .tri n a b c => by
    have := Tm.h_le a
    have := Tm.h_le b
    have := Tm.h_le c
    simp only [Tm.h, Tm.flat, List.length_cons, List.length_append]
    omega
/-- as many children as the node's word wants -/
inductive Ar : Tm → Prop where
  | mk {t : Tm} : t.kids.length = (binds t.nd.w).length → (∀ c ∈ t.kids, Ar c) → Ar t
theorem Ty.ar {P : Kd → Prop} {row : List Kd} {t : Tm} {k : Kd} {ks : List Kd} (h : Ty P row t k ks) : Ar t := by
  induction h with
  | nm _ _ _ => exact .mk rfl (fun c hc => by simp [Tm.kids] at hc)
  | told _ _ => exact .mk rfl (fun c hc => by simp [Tm.kids] at hc)
  | fn _ _ _ ih => exact .mk rfl (oneAll ih)
  | first _ _ ih => exact .mk rfl (oneAll ih)
  | second _ _ ih => exact .mk rfl (oneAll ih)
  | left _ _ _ ih => exact .mk rfl (oneAll ih)
  | right _ _ _ ih => exact .mk rfl (oneAll ih)
  | next _ _ ih => exact .mk rfl (oneAll ih)
  | call _ _ _ ih1 ih2 => exact .mk rfl (consAll ih1 (oneAll ih2))
  | lt _ _ _ ih1 ih2 => exact .mk rfl (consAll ih1 (oneAll ih2))
  | both _ _ _ ih1 ih2 => exact .mk rfl (consAll ih1 (oneAll ih2))
  | which _ _ _ _ ih1 ih2 ih3 => exact .mk rfl (consAll ih1 (consAll ih2 (oneAll ih3)))
  | turns _ _ _ _ ih1 ih2 ih3 => exact .mk rfl (consAll ih1 (consAll ih2 (oneAll ih3)))
mutual
/-- a tree in the heap, none of its lists at an address of D -/
inductive TrAt (K : PySem.W.Frag) (D : Addr → Prop) (H : Hp) : V → Tm → Nat → Prop where
  | mk {a l : Addr} {vn : V} {cs : List V} {t : Tm} {b : Nat} : SqT K H a [vn, .ref l, .int b] → NAt K H vn t.nd → ¬ D l → H l = some (.lst cs) → TrsAt K D H cs t.kids (b + 1) → TrAt K D H (.ref a) t b
inductive TrsAt (K : PySem.W.Frag) (D : Addr → Prop) (H : Hp) : List V → List Tm → Nat → Prop where
  | nil {b : Nat} : TrsAt K D H [] [] b
  | cons {v : V} {vs : List V} {t : Tm} {ts : List Tm} {b : Nat} : TrAt K D H v t b → TrsAt K D H vs ts (b + t.flat.length) → TrsAt K D H (v :: vs) (t :: ts) b
end
def sz (ts : List Tm) : Nat := (ts.flatMap Tm.flat).length
theorem sz_cons (t : Tm) (ts : List Tm) : sz (t :: ts) = t.flat.length + sz ts := by simp [sz]
section
variable {K : PySem.W.Frag} {D D' : Addr → Prop} {H H' : Hp}
mutual
theorem TrAt.keep (k : ∀ b o, ¬ D b → H b = some o → H' b = some o) (tk : TK H H') : ∀ {v : V} {t : Tm} {b : Nat}, TrAt K D H v t b → TrAt K D H' v t b
  | _, _, _, .mk h1 h2 h3 h4 h5 => .mk (SqT.tk tk h1) (h2.tk tk) h3 (k _ _ h3 h4) (TrsAt.keep k tk h5)
theorem TrsAt.keep (k : ∀ b o, ¬ D b → H b = some o → H' b = some o) (tk : TK H H') : ∀ {vs : List V} {ts : List Tm} {b : Nat}, TrsAt K D H vs ts b → TrsAt K D H' vs ts b
  | _, _, _, .nil => .nil
  | _, _, _, .cons h1 h2 => .cons (TrAt.keep k tk h1) (TrsAt.keep k tk h2)
end
mutual
theorem TrAt.less (k : ∀ b, D' b → D b) : ∀ {v : V} {t : Tm} {b : Nat}, TrAt K D H v t b → TrAt K D' H v t b
  | _, _, _, .mk h1 h2 h3 h4 h5 => .mk h1 h2 (fun z => h3 (k _ z)) h4 (TrsAt.less k h5)
theorem TrsAt.less (k : ∀ b, D' b → D b) : ∀ {vs : List V} {ts : List Tm} {b : Nat}, TrsAt K D H vs ts b → TrsAt K D' H vs ts b
  | _, _, _, .nil => .nil
  | _, _, _, .cons h1 h2 => .cons (TrAt.less k h1) (TrsAt.less k h2)
end
theorem TrsAt.snoc : ∀ {vs : List V} {ts : List Tm} {b : Nat} {v : V} {t : Tm}, TrsAt K D H vs ts b → TrAt K D H v t (b + sz ts) → TrsAt K D H (vs ++ [v]) (ts ++ [t]) b
  | _, _, b, v, t, .nil, h => .cons h .nil
  | _, _, b, v, t, .cons (t := u) (ts := us) h1 h2, h => .cons h1 (TrsAt.snoc h2 (by
      rw [sz_cons, ← Nat.add_assoc] at h
      exact h))
end
theorem nd_isW (n : Nd) : isW n.w = true := by cases n <;> rfl
theorem kid_drop {ts : List Tm} {r : List Nd} {i : Nat} {t : Tm} (h : ts[i]? = some t) : (ts.flatMap Tm.flat ++ r).drop (sz (ts.take i)) = t.flat ++ ((ts.drop (i + 1)).flatMap Tm.flat ++ r) := by
  obtain ⟨hi, e⟩ := List.getElem?_eq_some_iff.mp h
  have d : ts = ts.take i ++ t :: ts.drop (i + 1) := by
    rw [← e, ← List.drop_eq_getElem_cons hi, List.take_append_drop]
  have f : ts.flatMap Tm.flat = (ts.take i).flatMap Tm.flat ++ (t.flat ++ (ts.drop (i + 1)).flatMap Tm.flat) := by
    conv => lhs; rw [d]
    rw [List.flatMap_append, List.flatMap_cons]
  rw [f, List.append_assoc, sz, List.drop_left, List.append_assoc]
section
variable {P : Program} {w : World} {K : PySem.W.Frag} {mg : Str → Option Value} {base : Heap} {fr nk nkI : Addr} {fd : FuncData}
abbrev N__law_read : List Str := ["_law_nodes", "_law_begin", "_law_found", "_law_place", "_law_more", "_law_tree"]
theorem sc__law_read : FnScope N__law_read ["_law_nodes", "_law_begin"] (defScope (top 87)) := ⟨rfl, rfl, rfl, by decide +kernel, rfl, by decide +kernel, by decide +kernel⟩
def gRead (K : PySem.W.Frag) (m : Nat) : G2 := fun nv bv H Q _ => ∃ (a : Addr) (xs : List V) (ns r : List Nd) (b : Nat) (t : Tm), nv = .ref a ∧ bv = .int b ∧ SqL K H a xs ∧ NsAt K H xs ns ∧ ns.drop b = t.flat ++ r ∧ Ar t ∧ t.h + 1 ≤ m ∧ ns.length ≤ 1000 ∧
  ∀ q tv H', Same H H' → SqT K H' q [tv, .int ((b + t.flat.length : Nat) : Int)] → (∀ D : Addr → Prop, (∀ c, D c → H c ≠ none) → TrAt K D H' tv t b) → Q (.ref q) H'
theorem ok__law_read (T : Txt K w mg fr fd nk nkI) (D : Df K mg "_law_read" (top 87)) (c__law_binds : Cal P w K mg base CX0 "_law_binds" 1 ["_law_word"] (sp1 gBinds)) : ∀ m, Cal P w K mg base CX0 "_law_read" m ["_law_nodes", "_law_begin"] (sp2 (gRead K m))
  | 0 => D.cal0 (bs2 fun _ _ _ _ _ _ _ _ => rfl) fun vs H Q E ⟨_, _, _, a, xs, ns, r, b, t, _, _, _, _, _, _, h, _⟩ => by omega
  | m + 1 => by
    have c__law_read := ok__law_read T D c__law_binds m
    refine D.cal sc__law_read (bs2 fun _ _ _ _ _ _ _ _ => rfl) sp2_len fun f cdv A outer s H vs Q E hr h => ?_
    obtain ⟨_, _, rfl, a, xs, ns, r, b, t, rfl, rfl, hs, hn, hd, har, hm, hlen, q⟩ := h
    have th : 1 ≤ t.h := by cases t <;> simp [Tm.h]
    have m1 : 1 ≤ m := by omega
    refine ⟨_, (pss_cons (ps_par (i := 2) (j := 3) rfl sc__law_read.nd rfl rfl (by decide) rfl rfl (pa_cons (pe_lst pa_nil) (pa_cons (pe_op op_add (pv 1) pe_int) pa_nil)) (by rfl))
    (pss_cons (ps_for PassesOwn.never rfl (pi_seq (pe_cal c__law_binds (hr.mono (by omega)) rfl pass0 (pa_cons (pe_ix ix_tup (pe_ix ix_list (pv 0) (pv 1) (fun _ _ => rfl)) pe_int (fun _ _ => rfl)) pa_nil))) (pg_name (i := 4) sc__law_read.nd rfl (Or.inl rfl)) 
      (pss_cons (ps_asg (pe_cal c__law_read (hr.mono (by omega)) rfl pass0 (pa_cons (pv 0) (pa_cons (pv 3) pa_nil))) (pg_tup rfl (pgs_cons (pg_name (i := 5) sc__law_read.nd rfl (Or.inl rfl)) (pgs_cons (pg_name (i := 3) sc__law_read.nd rfl (Or.inl rfl)) pgs_nil))))
      (pss_one (ps_expr (pe_bm PySem.F.plainAttrs_list PySem.F.slot_list_append PySem.F.type_list_append mt_append (pv 2) (pa_cons (pv 5) pa_nil))))))
    (pss_one (ps_ret (pe_tup (pa_cons (pe_tup (pa_cons (pe_ix ix_list (pv 0) (pv 1) (fun _ _ => rfl)) (pa_cons (pv 2) (pa_cons (pv 1) pa_nil)))) (pa_cons (pv 3) pa_nil))))))), ?_⟩
    refine ⟨fits0, fun L hL => ⟨_, rfl, _, _, rfl, rfl, _, _, rfl, ?_⟩⟩
    have e0 := Same.new hL (.lst [])
    rw [Tm.flat_kids] at hd
    have hb : ns[b]? = some t.nd := by
      have := congrArg (fun l => l[0]?) hd
      simpa using this
    have hbl := (List.getElem?_eq_some_iff.mp hb).1
    have hd1 : ns.drop (b + 1) = t.kids.flatMap Tm.flat ++ r := by
      rw [← List.drop_drop, hd]
      rfl
    obtain ⟨y, hy, hyn⟩ := NsAt.get hn hb
    obtain ⟨c, u, rfl, hsc, _⟩ := NAt.tup hyn
    cases har with
    | mk hk1 hk2 =>
      dsimp only [tSeq]
      refine for_via ⟨_, rfl, _, rfl, _, _, _, _, rfl, rfl, SqL.same e0 hs, atI_nat hy, _, _, _, _, rfl, rfl, SqT.same e0 hsc, at0, _, rfl, t.nd.w, rfl, nd_isW _, fun p1 H1 e1 n1 h1 => ?_⟩
      have e01 := e0.trans e1
      have hL1 : H1 L = some (.lst []) := e1 _ _ upd_same
      have hp1 : p1 ≠ L := fun z => by
        rw [z, upd_same] at n1
        cases n1
      have kl : t.kids.length = ((binds t.nd.w).map fun (b : Nat) => V.int b).length := by rw [List.length_map]; exact hk1
      refine for_seq (a := p1) (xs := (binds t.nd.w).map fun (b : Nat) => V.int b) (fun _ z => z) (fun i σ H' => ∃ (cs : List V) (o4 o5 : Option V), σ = [some (.ref a), some (.int b), some (.ref L), some (.int ((b + 1 + sz (t.kids.take i) : Nat) : Int)), o4, o5] ∧ SB L H1 H' ∧ H' L = some (.lst cs) ∧ cs.length = i ∧
        ∀ D : Addr → Prop, (∀ c, D c → H c ≠ none) → TrsAt K (fun c => D c ∨ c = L) H' cs (t.kids.take i) (b + 1)) (.inl (SqL.of h1)) ⟨[], none, none, rfl, SB.refl _ _, hL1, rfl, fun _ _ => .nil⟩ (fun i σ H' _ p => ?_) ?_ ?_
      · obtain ⟨cs, o4, o5, _, sb, _⟩ := p
        exact .inr ⟨fun _ => SqL.of (sb _ _ hp1 h1), fun z => SqT.tk (SB.tk sb hL1 rfl) z⟩
      · rintro i x σ H' hx ⟨cs, o4, o5, rfl, sb, hcs, hcl, htr⟩
        have hi := (List.getElem?_eq_some_iff.mp hx).1
        rw [← kl] at hi
        have hkid : t.kids[i]? = some t.kids[i] := List.getElem?_eq_getElem hi
        have mk := List.mem_of_getElem? hkid
        have eH : Same H H' := Same.sbn (SB.trans (SB.of e01) sb) hL
        have hdk : ns.drop (b + 1 + sz (t.kids.take i)) = t.kids[i].flat ++ ((t.kids.drop (i + 1)).flatMap Tm.flat ++ r) := by
          rw [← List.drop_drop, hd1]
          exact kid_drop hkid
        have hkh := Tm.kid_h mk
        refine ⟨_, rfl, _, rfl, _, _, rfl, a, xs, ns, _, b + 1 + sz (t.kids.take i), t.kids[i], rfl, rfl, SqL.same eH hs, hn.tk (TK.of eH), hdk, hk2 _ mk, by omega, hlen, fun q0 tv H2 e2 hq0 ht2 => ?_⟩
        refine ⟨q0, [tv, _], rfl, hq0, rfl, _, _, rfl, _, _, rfl, rfl, ?_⟩
        have hcs2 := e2 _ _ hcs
        have hl1000 : cs.length < sizeLine := by
          rw [line_eq, hcl]
          have : (binds t.nd.w).length ≤ 3 := by cases t.nd <;> simp [binds, Nd.w]
          omega
        refine ⟨_, rfl, .inl ⟨rfl, _, SqL.of hcs2⟩, _, rfl, L, cs, tv, rfl, rfl, hcs2, hl1000, ?_⟩
        have e3 : TK H2 (upd H2 L (.lst (cs ++ [tv]))) := TK.upd hcs2 rfl _
        have tkk : t.kids.take (i + 1) = t.kids.take i ++ [t.kids[i]] := take_more hkid
        refine ⟨cs ++ [tv], some x, some tv, ?_, SB.trans sb (SB.trans (SB.of e2) (SB.upd _)), upd_same, by rw [List.length_append, hcl]; rfl, fun D hD => ?_⟩
        · have ez : b + 1 + sz (t.kids.take i) + t.kids[i].flat.length = b + 1 + sz (t.kids.take (i + 1)) := by
            rw [tkk, sz, sz, List.flatMap_append, List.length_append]
            simp only [List.flatMap_cons, List.flatMap_nil, List.append_nil]
            omega
          rw [← ez]
          rfl
        · have h2 := ht2 (fun c => D c ∨ c = L) (fun c hc => by
            rcases hc with hc | hc
            · have := hD c hc
              cases e : H c with
              | none => exact absurd e this
              | some o =>
                rw [eH _ _ e]
                simp
            · rw [hc, hcs]
              simp)
          have nL : ∀ {G : Hp} (c : Addr) (o : HO), ¬ (D c ∨ c = L) → H2 c = some o → (upd H2 L (.lst (cs ++ [tv]))) c = some o := fun c o hc z => by
            rw [upd_ne (fun y => hc (.inr y))]
            exact z
          rw [tkk]
          refine TrsAt.snoc (TrsAt.keep (fun c o hc z => nL (G := H2) c o hc (e2 _ _ z)) (TK.trans (TK.of e2) e3) (htr D hD)) ?_
          exact TrAt.keep (fun c o hc z => nL (G := H2) c o hc z) e3 h2
      · rintro σ H' ⟨cs, o4, o5, rfl, sb, hcs, hcl, htr⟩
        have eH : Same H H' := Same.sbn (SB.trans (SB.of e01) sb) hL
        rw [← kl, List.take_length] at htr
        refine ⟨_, rfl, _, rfl, _, _, _, _, rfl, rfl, SqL.same eH hs, atI_nat hy, _, rfl, _, rfl, fits3, fun q1 hq1 => ⟨_, rfl, fits2, fun q2 hq2 => ?_⟩⟩
        have e1' := Same.new hq1 (.tup [V.ref c, V.ref L, V.int (b : Nat)])
        have e2' := Same.new hq2 (.tup [V.ref q1, V.int ((b + 1 + sz (t.kids.take ((binds t.nd.w).map fun (b : Nat) => V.int b).length) : Nat) : Int)])
        have e12 := e1'.trans e2'
        refine q q2 (.ref q1) _ (eH.trans e12) ?_ fun D hD => ?_
        · have ez : b + 1 + sz (t.kids.take ((binds t.nd.w).map fun (b : Nat) => V.int b).length) = b + t.flat.length := by
            rw [← kl, List.take_length, sz, t.flat_kids, List.length_cons]
            omega
          rw [← ez]
          exact SqT.of upd_same
        · refine .mk (vn := .ref c) (l := L) (cs := cs) (SqT.of (e2' _ _ upd_same)) (hyn.tk (TK.of (eH.trans e12))) (fun z => hD L z hL) (e12 _ _ hcs) ?_
          exact TrsAt.keep (fun c o _ z => e12 _ _ z) (TK.of e12) (TrsAt.less (fun c z => .inl z) (htr D hD))
end
end K17
/-! K20: _law_by, _law_bound. -/
namespace K17
open PySem L2
section
variable {P : Program} {w : World} {K : PySem.W.Frag} {mg : Str → Option Value} {base : Heap} {fr nk nkI : Addr} {fd : FuncData}
theorem chk_some {a k : Kd} (h : chk a = some k) : k = a := by
  unfold chk at h
  split at h
  · exact (Option.some.inj h).symm
  · cases h
theorem kPart_some {f : Bool} {a k : Kd} (h : kPart f a = some k) : ∃ p q, a = .br .pair p q ∧ k = if f = true then p else q := by
  cases a with
  | ltr _ => cases h
  | cnt => cases h
  | br w p q =>
    cases w with
    | sum => cases h
    | fn => cases h
    | pair => exact ⟨p, q, rfl, (Option.some.inj h).symm⟩
theorem kCall_some {a b k : Kd} (h : kCall a b = some k) : a = .br .fn b k := by
  cases a with
  | ltr _ => cases h
  | cnt => cases h
  | br w p q =>
    cases w with
    | sum => cases h
    | pair => cases h
    | fn =>
      simp only [kCall] at h
      split at h
      · rename_i e
        rw [e, Option.some.inj h]
      · cases h
theorem inLR (z : Wd) : inV (V.str z.s) [V.str Wd.left.s, V.str Wd.right.s] = decide (z = .left ∨ z = .right) := by cases z <;> decide +kernel
abbrev N__law_by : List Str := ["_law_node", "_law_kinds", "_law_word"]
theorem sc__law_by : FnScope N__law_by ["_law_node", "_law_kinds"] (defScope (top 88)) := ⟨rfl, rfl, rfl, by decide +kernel, rfl, by decide +kernel, by decide +kernel⟩
def gLBy (K : PySem.W.Frag) : G2 := fun nv sv H Q _ => ∃ n ks k, By K H nv sv n ks ∧ kindBy n ks = some k ∧ ∀ v H', Same H H' → KAt K H' v k → Q v H'
theorem ok__law_by (T : Txt K w mg fr fd nk nkI) (D : Df K mg "_law_by" (top 88)) : Cal P w K mg base CX0 "_law_by" 1 ["_law_node", "_law_kinds"] (sp2 (gLBy K)) := by
  refine D.cal sc__law_by (bs2 fun _ _ _ _ _ _ _ _ => rfl) sp2_len fun f cdv A outer s H vs Q E hr h => ?_
  obtain ⟨nv, sv, rfl, n, ks, k, ⟨hn, ⟨a, vs, rfl, hs, hks⟩, hlen, hinn, hokn, hoks⟩, hk, q⟩ := h
  refine ⟨_, (pss_cons (ps_set (i := 2) sc__law_by.nd rfl (Or.inl rfl) (pe_ix ix_tup (pv 0) pe_int (fun _ _ => rfl)))
    (pss_cons (ps_if (pt_cmpR op_eq (pv 2) pe_str (by rfl)) 
      (pss_one (ps_ret (pe_tup (pa_cons pe_str (pa_cons (pe_ix ix_tup (pv 0) pe_int (fun _ _ => rfl)) (pa_cons (pe_ix ix_list (pv 1) pe_int (fun _ _ => rfl)) pa_nil)))))) pss_nil)
    (pss_cons (ps_if (pt_cmpR op_eq (pv 2) pe_str (by rfl)) 
      (pss_one (ps_ret (pe_ifExp (PW.pt (pw_and (pt_cmpR op_eq (pe_ix ix_tup (pe_ix ix_list (pv 1) pe_int (fun _ _ => rfl)) pe_int (fun _ _ => rfl)) pe_str (by rfl)) (pw_and1 (pt_cmpR (op_eqD hr.units) (pe_ix ix_tup (pe_ix ix_list (pv 1) pe_int (fun _ _ => rfl)) pe_int (fun _ _ => rfl)) (pe_ix ix_list (pv 1) pe_int (fun _ _ => rfl)) (by rfl))))) (pe_ix ix_tup (pe_ix ix_list (pv 1) pe_int (fun _ _ => rfl)) pe_int (fun _ _ => rfl)) pe_non))) pss_nil)
    (pss_cons (ps_if (pt_cmpR op_eq (pv 2) pe_str (by rfl)) 
      (pss_one (ps_ret (pe_tup (pa_cons pe_str (pa_cons (pe_ix ix_list (pv 1) pe_int (fun _ _ => rfl)) (pa_cons (pe_ix ix_list (pv 1) pe_int (fun _ _ => rfl)) pa_nil)))))) pss_nil)
    (pss_cons (ps_if (pt_cmpR op_in_seq (pv 2) (pe_lst (pa_cons pe_str (pa_cons pe_str pa_nil))) (by rfl)) 
      (pss_one (ps_ret (pe_ifExp (pt_cmpR op_ne (pe_ix ix_tup (pe_ix ix_list (pv 1) pe_int (fun _ _ => rfl)) pe_int (fun _ _ => rfl)) pe_str (by rfl)) pe_non (pe_ifExp (pt_cmpR op_eq (pv 2) pe_str (by rfl)) (pe_ix ix_tup (pe_ix ix_list (pv 1) pe_int (fun _ _ => rfl)) pe_int (fun _ _ => rfl)) (pe_ix ix_tup (pe_ix ix_list (pv 1) pe_int (fun _ _ => rfl)) pe_int (fun _ _ => rfl)))))) pss_nil)
    (pss_cons (ps_if (pt_cmpR op_in_seq (pv 2) (pe_lst (pa_cons pe_str (pa_cons pe_str pa_nil))) (by rfl)) 
      (pss_one (ps_ret (pe_ifExp (pt_cmpR op_eq (pv 2) pe_str (by rfl)) (pe_tup (pa_cons pe_str (pa_cons (pe_ix ix_list (pv 1) pe_int (fun _ _ => rfl)) (pa_cons (pe_ix ix_tup (pv 0) pe_int (fun _ _ => rfl)) pa_nil)))) (pe_tup (pa_cons pe_str (pa_cons (pe_ix ix_tup (pv 0) pe_int (fun _ _ => rfl)) (pa_cons (pe_ix ix_list (pv 1) pe_int (fun _ _ => rfl)) pa_nil))))))) pss_nil)
    (pss_cons (ps_if (pt_cmpR op_eq (pv 2) pe_str (by rfl)) 
      (pss_one (ps_ret (pe_ifExp (pt_cmpR (op_eqD hr.units) (pe_ix ix_list (pv 1) pe_int (fun _ _ => rfl)) (pe_ix ix_list (pv 1) pe_int (fun _ _ => rfl)) (by rfl)) (pe_ix ix_list (pv 1) pe_int (fun _ _ => rfl)) pe_non))) pss_nil)
    (pss_cons (ps_if (pt_cmpR op_eq (pv 2) pe_str (by rfl)) 
      (pss_one (ps_ret (pe_ifExp (pt_cmpR (op_eqD hr.units) (pe_ix ix_list (pv 1) pe_int (fun _ _ => rfl)) (pe_tup (pa_cons pe_str pa_nil)) (by rfl)) (pe_tup (pa_cons pe_str pa_nil)) pe_non))) pss_nil)
    (pss_cons (ps_if (pt_cmpR op_eq (pv 2) pe_str (by rfl)) 
      (pss_one (ps_ret (pe_ifExp (pt_cmpR (op_eqD hr.units) (pv 1) (pe_lst (pa_cons (pe_tup (pa_cons pe_str pa_nil)) (pa_cons (pe_ix ix_tup (pv 0) pe_int (fun _ _ => rfl)) (pa_cons (pe_ix ix_tup (pv 0) pe_int (fun _ _ => rfl)) pa_nil)))) (by rfl)) (pe_ix ix_tup (pv 0) pe_int (fun _ _ => rfl)) pe_non))) pss_nil)
    (pss_one (ps_ret (pe_ix ix_list (pv 1) pe_int (fun _ _ => rfl))))))))))))), ?_⟩
  obtain ⟨t, r, rfl, ht, hr2⟩ := NAt.tup hn
  refine ⟨_, rfl, _, _, _, _, rfl, rfl, ht, at0, ?_⟩
  refine ⟨_, rfl, rfl, _, rfl, ?_⟩
  by_cases c1 : n.w = .fn
  · obtain ⟨kk, rfl⟩ : ∃ k, n = .fn k := by cases n <;> first | exact ⟨_, rfl⟩ | cases c1
    obtain ⟨vk, rfl, hkk⟩ := DpAll.one hr2
    obtain ⟨x, rfl⟩ := len1 hlen
    obtain ⟨vx, rfl, hx⟩ := hks.one
    obtain rfl := chk_some hk
    refine ifST (i := .fn) (j := .fn) rfl ⟨_, rfl, _, _, _, _, rfl, rfl, ht, at1, _, rfl, _, _, _, _, rfl, rfl, hs, at0, fits3, fun b hb => ?_⟩
    have e := Same.new hb (.tup [V.str Wd.fn.s, vk, vx])
    exact q _ _ e (KAt.mk_br (w := .fn) (SqT.of upd_same) (Dp.tk (TK.of e) _ _ (noL_dK kk) hkk) (hx.tk (TK.of e)))
  refine ifSF (j := .fn) c1 ⟨_, rfl, rfl, _, rfl, ?_⟩
  by_cases c2 : n.w = .call
  · obtain rfl : n = .call := by cases n <;> first | rfl | cases c2
    obtain ⟨x, y, rfl⟩ := len2 hlen
    obtain ⟨vx, vy, rfl, hx, hy⟩ := hks.two
    obtain rfl := kCall_some hk
    obtain ⟨b, va, vb, rfl, hsb, ha, hb⟩ := hx.br
    have ox := hoks (.br .fn y k) (by simp)
    have oy := hoks y (by simp)
    refine ifST (i := .call) (j := .call) rfl ?_
    refine ⟨_, rfl, _, _, _, _, rfl, rfl, hs, at0, _, _, _, _, rfl, rfl, hsb, at0, rfl, _, rfl, ifST (i := .fn) (j := .fn) rfl ?_⟩
    refine ⟨_, rfl, _, _, _, _, rfl, rfl, hs, at0, _, _, _, _, rfl, rfl, hsb, at1, _, rfl, _, _, _, _, rfl, rfl, hs, at1, _, _, ha, hy, shp_ok oy, shp_ok oy, _, rfl, ?_⟩
    rw [eqv_dK]
    exact ifT (decide_eq_true rfl) ⟨_, rfl, _, _, _, _, rfl, rfl, hs, at0, _, _, _, _, rfl, rfl, hsb, at2, q _ _ (Same.refl _) hb⟩
  refine ifSF (j := .call) c2 ⟨_, rfl, rfl, _, rfl, ?_⟩
  by_cases c3 : n.w = .both
  · obtain rfl : n = .both := by cases n <;> first | rfl | cases c3
    obtain ⟨x, y, rfl⟩ := len2 hlen
    obtain ⟨vx, vy, rfl, hx, hy⟩ := hks.two
    obtain rfl := chk_some hk
    refine ifST (i := .both) (j := .both) rfl ⟨_, rfl, _, _, _, _, rfl, rfl, hs, at0, _, rfl, _, _, _, _, rfl, rfl, hs, at1, fits3, fun b hb => ?_⟩
    have e := Same.new hb (.tup [V.str Wd.pair.s, vx, vy])
    exact q _ _ e (KAt.mk_br (w := .pair) (SqT.of upd_same) (hx.tk (TK.of e)) (hy.tk (TK.of e)))
  refine ifSF (j := .both) c3 ⟨_, rfl, fits2, fun p1 hp1 => ⟨p1, _, rfl, .inl (SqL.of upd_same), rfl, rfl, _, rfl, ?_⟩⟩
  have e1 := Same.new hp1 (.lst [V.str Wd.first.s, V.str Wd.second.s])
  have hs1 := SqL.same e1 hs
  have ht1 := SqT.same e1 ht
  have hks1 := hks.tk (TK.of e1)
  by_cases c4 : n.w = .first ∨ n.w = .second
  · refine ifT ((in2 n.w).trans (decide_eq_true c4)) ?_
    have z : ∃ x, ks = [x] ∧ kPart (decide (n.w = .first)) x = some k := by
      rcases c4 with c | c
      · obtain rfl : n = .first := by cases n <;> first | rfl | cases c
        obtain ⟨x, rfl⟩ := len1 hlen
        exact ⟨x, rfl, hk⟩
      · obtain rfl : n = .second := by cases n <;> first | rfl | cases c
        obtain ⟨x, rfl⟩ := len1 hlen
        exact ⟨x, rfl, hk⟩
    obtain ⟨x, rfl, hp⟩ := z
    obtain ⟨vx, rfl, hx⟩ := hks1.one
    obtain ⟨p, g, rfl, rfl⟩ := kPart_some hp
    obtain ⟨b, va, vb, rfl, hsb, ha, hb⟩ := hx.br
    refine ⟨_, rfl, _, _, _, _, rfl, rfl, hs1, at0, _, _, _, _, rfl, rfl, hsb, at0, rfl, _, rfl, ifNF (i := .pair) (j := .pair) rfl ?_⟩
    by_cases d : n.w = .first
    · refine ⟨_, rfl, rfl, _, rfl, ifST (j := .first) d ⟨_, rfl, _, _, _, _, rfl, rfl, hs1, at0, _, _, _, _, rfl, rfl, hsb, at1, q _ _ e1 ?_⟩⟩
      rw [if_pos (decide_eq_true d)]
      exact ha
    · refine ⟨_, rfl, rfl, _, rfl, ifSF (j := .first) d ⟨_, rfl, _, _, _, _, rfl, rfl, hs1, at0, _, _, _, _, rfl, rfl, hsb, at2, q _ _ e1 ?_⟩⟩
      rw [if_neg (by rw [decide_eq_false d]; decide)]
      exact hb
  refine ifF ((in2 n.w).trans (decide_eq_false c4)) ⟨_, rfl, fits2, fun p2 hp2 => ⟨p2, _, rfl, .inl (SqL.of upd_same), rfl, rfl, _, rfl, ?_⟩⟩
  have e2 := e1.trans (Same.new hp2 (.lst [V.str Wd.left.s, V.str Wd.right.s]))
  have hs2 := SqL.same e2 hs
  have ht2 := SqT.same e2 ht
  have hks2 := hks.tk (TK.of e2)
  by_cases c5 : n.w = .left ∨ n.w = .right
  · refine ifT ((inLR n.w).trans (decide_eq_true c5)) ⟨_, rfl, rfl, _, rfl, ?_⟩
    by_cases d : n.w = .left
    · obtain ⟨kk, rfl⟩ : ∃ k, n = .left k := by cases n <;> first | exact ⟨_, rfl⟩ | cases d
      obtain ⟨vk, rfl, hkk⟩ := DpAll.one hr2
      obtain ⟨x, rfl⟩ := len1 hlen
      obtain ⟨vx, rfl, hx⟩ := hks2.one
      obtain rfl := chk_some hk
      refine ifST (i := .left) (j := .left) rfl ⟨_, rfl, _, _, _, _, rfl, rfl, hs2, at0, _, rfl, _, _, _, _, rfl, rfl, ht2, at1, fits3, fun b hb => ?_⟩
      have e3 := Same.new hb (.tup [V.str Wd.sum.s, vx, vk])
      exact q _ _ (e2.trans e3) (KAt.mk_br (w := .sum) (SqT.of upd_same) (hx.tk (TK.of e3)) (Dp.tk (TK.of (e2.trans e3)) _ _ (noL_dK kk) hkk))
    · have d2 : n.w = .right := c5.resolve_left d
      obtain ⟨kk, rfl⟩ : ∃ k, n = .right k := by cases n <;> first | exact ⟨_, rfl⟩ | cases d2
      obtain ⟨vk, rfl, hkk⟩ := DpAll.one hr2
      obtain ⟨x, rfl⟩ := len1 hlen
      obtain ⟨vx, rfl, hx⟩ := hks2.one
      obtain rfl := chk_some hk
      refine ifSF (j := .left) d ⟨_, rfl, _, _, _, _, rfl, rfl, ht2, at1, _, rfl, _, _, _, _, rfl, rfl, hs2, at0, fits3, fun b hb => ?_⟩
      have e3 := Same.new hb (.tup [V.str Wd.sum.s, vk, vx])
      exact q _ _ (e2.trans e3) (KAt.mk_br (w := .sum) (SqT.of upd_same) (Dp.tk (TK.of (e2.trans e3)) _ _ (noL_dK kk) hkk) (hx.tk (TK.of e3)))
  refine ifF ((inLR n.w).trans (decide_eq_false c5)) ⟨_, rfl, rfl, _, rfl, ?_⟩
  by_cases c6 : n.w = .which
  · obtain rfl : n = .which := by cases n <;> first | rfl | cases c6
    obtain ⟨x, y, z, rfl⟩ := len3 hlen
    obtain ⟨vx, vy, vz, rfl, hx, hy, hz⟩ := hks2.three
    have hk' : (if y = z then some y else none) = some k := hk
    have oy := hoks y (by simp)
    have oz := hoks z (by simp)
    refine ifST (i := .which) (j := .which) rfl ⟨_, rfl, _, _, _, _, rfl, rfl, hs2, at1, _, rfl, _, _, _, _, rfl, rfl, hs2, at2, _, _, hy, hz, shp_ok oy, shp_ok oz, _, rfl, ?_⟩
    rw [eqv_dK]
    by_cases d : y = z
    · rw [if_pos d] at hk'
      obtain rfl := Option.some.inj hk'
      exact ifT (decide_eq_true d) ⟨_, rfl, _, _, _, _, rfl, rfl, hs2, at1, q _ _ e2 hy⟩
    · rw [if_neg d] at hk'
      cases hk'
  refine ifSF (j := .which) c6 ⟨_, rfl, rfl, _, rfl, ?_⟩
  by_cases c7 : n.w = .next
  · obtain rfl : n = .next := by cases n <;> first | rfl | cases c7
    obtain ⟨x, rfl⟩ := len1 hlen
    obtain ⟨vx, rfl, hx⟩ := hks2.one
    have hk' : (if x = .cnt then some .cnt else none) = some k := hk
    refine ifST (i := .next) (j := .next) rfl ⟨_, rfl, _, _, _, _, rfl, rfl, hs2, at0, fits1, fun b hb => ?_⟩
    have e3 := Same.new hb (.tup [V.str Wd.count.s])
    refine ⟨_, dK .cnt, hx.tk (TK.of e3), KAt.mk_cnt (SqT.of upd_same), shp_ok (hoks _ (by simp)), shp_dK (by simp [Kd.deep]), _, rfl, ?_⟩
    rw [eqv_dK]
    by_cases d : x = .cnt
    · rw [if_pos d] at hk'
      obtain rfl := Option.some.inj hk'
      refine ifT (decide_eq_true d) ⟨fits1, fun b2 hb2 => ?_⟩
      exact q _ _ (e2.trans (e3.trans (Same.new hb2 _))) (KAt.mk_cnt (SqT.of upd_same))
    · rw [if_neg d] at hk'
      cases hk'
  refine ifSF (j := .next) c7 ⟨_, rfl, rfl, _, rfl, ?_⟩
  by_cases c8 : n.w = .turns
  · obtain ⟨kk, rfl⟩ : ∃ k, n = .turns k := by cases n <;> first | exact ⟨_, rfl⟩ | cases c8
    obtain ⟨vk, rfl, hkk⟩ := DpAll.one hr2
    have hk' : (if ks = [.cnt, kk, kk] then some kk else none) = some k := hk
    by_cases d : ks = [.cnt, kk, kk]
    · rw [if_pos d] at hk'
      obtain rfl := Option.some.inj hk'
      refine ifST (i := .turns) (j := .turns) rfl ⟨_, rfl, fits1, fun b hb => ⟨_, rfl, _, _, _, _, rfl, rfl, SqT.same (Same.new hb _) ht2, at1, _, rfl, _, _, _, _, rfl, rfl, SqT.same (Same.new hb _) ht2, at1, fits3, fun l hl => ?_⟩⟩
      have e3 := Same.new hb (.tup [V.str Wd.count.s])
      have e4 := Same.new hl (.lst [V.ref b, vk, vk])
      have e34 := e3.trans e4
      have tk := TK.of (e2.trans e34)
      have hkk4 := Dp.tk tk _ _ (noL_dK kk) hkk
      refine ⟨.list (ks.map dK), .list ([Kd.cnt, kk, kk].map dK), .lst (SqL.same e34 hs2) (hks.tk tk), .lst (SqL.of upd_same) (.cons (KAt.mk_cnt (SqT.of (e4 _ _ upd_same))) (.cons hkk4 (.cons hkk4 .nil))), shp_ks fun g hg => ?_, shp_ks fun g hg => ?_, _, rfl, ?_⟩
      · have := okK_deep (hoks g hg)
        omega
      · rw [← d] at hg
        have := okK_deep (hoks g hg)
        omega
      have ev : PyData.eqv (.list (ks.map dK)) (.list ([Kd.cnt, kk, kk].map dK)) = decide (ks = [.cnt, kk, kk]) := by
        rw [PyData.eqv]
        exact eqvAll_dK _ _
      rw [ev]
      exact ifT (decide_eq_true d) ⟨_, rfl, _, _, _, _, rfl, rfl, SqT.same e34 ht2, at1, q _ _ (e2.trans e34) hkk4⟩
    · rw [if_neg d] at hk'
      cases hk'
  refine ifSF (j := .turns) c8 ?_
  obtain rfl : n = .lt := by
    cases n <;> first | rfl | exact absurd rfl c1 | exact absurd rfl c2 | exact absurd rfl c3 | exact absurd (.inl rfl) c4 | exact absurd (.inr rfl) c4 | exact absurd (.inl rfl) c5 | exact absurd (.inr rfl) c5 | exact absurd rfl c6 | exact absurd rfl c7 | exact absurd rfl c8 | cases hinn
  obtain ⟨x, y, rfl⟩ := len2 hlen
  obtain ⟨vx, vy, rfl, hx, hy⟩ := hks2.two
  have hk' : some y = some k := hk
  obtain rfl := Option.some.inj hk'
  exact ⟨_, rfl, _, _, _, _, rfl, rfl, hs2, at1, q _ _ e2 hy⟩
end
end K17
/-! K21: _law_bound, _law_fit. -/
namespace K17
open PySem L2
/-! ### a typed tree by its node and its children -/
def childRow (n : Nd) (row us : List Kd) : Option (List Kd) := if (binds n.w)[us.length]? = some 0 then some row else (boundKind n us).map (· :: row)
structure Inn (P : Kd → Prop) (row : List Kd) (t : Tm) (k : Kd) (ks : List Kd) (kk : List Kd) (kss : List (List Kd)) : Prop where
  lk : kk.length = t.kids.length
  ls : kss.length = t.kids.length
  ks_eq : ks = k :: kss.flatten
  by_ : kindBy t.nd kk = some k
  inn : t.nd.inner = true
  okn : okN t.nd = true
  kids : ∀ (j : Nat) (c : Tm), t.kids[j]? = some c → ∃ q qs r, kk[j]? = some q ∧ kss[j]? = some qs ∧ childRow t.nd row (kk.take j) = some r ∧ Ty P r c q qs
theorem Ty.inv {P : Kd → Prop} (hP : ∀ q, P q → okK q = true) {row : List Kd} {t : Tm} {k : Kd} {ks : List Kd} (h : Ty P row t k ks) :
    (∃ i, t = .leaf (.nm i) ∧ row[i]? = some k ∧ i ≤ 299 ∧ ks = [k]) ∨ (∃ n, t = .leaf (.told n) ∧ k = .cnt ∧ ks = [.cnt] ∧ n ≤ 1000000) ∨ ∃ kk kss, Inn P row t k ks kk kss := by
  have kid1 : ∀ {n : Nd} {a : Tm} {q : Kd} {qs r : List Kd} {us : List Kd}, childRow n row [] = some r → Ty P r a q qs → ∀ (j : Nat) (c : Tm), (Tm.un n a).kids[j]? = some c → ∃ q' qs' r', [q][j]? = some q' ∧ [qs][j]? = some qs' ∧ childRow n row ([q].take j) = some r' ∧ Ty P r' c q' qs' := fun hr ht j c hc => by
    match j, hc with
    | 0, hc =>
      cases hc
      exact ⟨_, _, _, rfl, rfl, hr, ht⟩
    | j + 1, hc => cases hc
  have kid2 : ∀ {n : Nd} {a b : Tm} {q q2 : Kd} {qs qs2 r r2 : List Kd}, childRow n row [] = some r → Ty P r a q qs → childRow n row [q] = some r2 → Ty P r2 b q2 qs2 → ∀ (j : Nat) (c : Tm), (Tm.bin n a b).kids[j]? = some c → ∃ q' qs' r', [q, q2][j]? = some q' ∧ [qs, qs2][j]? = some qs' ∧ childRow n row ([q, q2].take j) = some r' ∧ Ty P r' c q' qs' := fun hr ht hr2 ht2 j c hc => by
    match j, hc with
    | 0, hc =>
      cases hc
      exact ⟨_, _, _, rfl, rfl, hr, ht⟩
    | 1, hc =>
      cases hc
      exact ⟨_, _, _, rfl, rfl, hr2, ht2⟩
    | j + 2, hc => cases hc
  have kid3 : ∀ {n : Nd} {a b d : Tm} {q q2 q3 : Kd} {qs qs2 qs3 r r2 r3 : List Kd}, childRow n row [] = some r → Ty P r a q qs → childRow n row [q] = some r2 → Ty P r2 b q2 qs2 → childRow n row [q, q2] = some r3 → Ty P r3 d q3 qs3 → ∀ (j : Nat) (c : Tm), (Tm.tri n a b d).kids[j]? = some c → ∃ q' qs' r', [q, q2, q3][j]? = some q' ∧ [qs, qs2, qs3][j]? = some qs' ∧ childRow n row ([q, q2, q3].take j) = some r' ∧ Ty P r' c q' qs' := fun hr ht hr2 ht2 hr3 ht3 j c hc => by
    match j, hc with
    | 0, hc =>
      cases hc
      exact ⟨_, _, _, rfl, rfl, hr, ht⟩
    | 1, hc =>
      cases hc
      exact ⟨_, _, _, rfl, rfl, hr2, ht2⟩
    | 2, hc =>
      cases hc
      exact ⟨_, _, _, rfl, rfl, hr3, ht3⟩
    | j + 3, hc => cases hc
  cases h with
  | nm a b c => exact .inl ⟨_, rfl, a, b, rfl⟩
  | told a b => exact .inr (.inl ⟨_, rfl, rfl, rfl, a⟩)
  | fn a b c => exact .inr (.inr ⟨[_], [_], rfl, rfl, by simp, chk_pos (hP _ b), rfl, hP _ a, kid1 (us := []) rfl c⟩)
  | first a b => exact .inr (.inr ⟨[_], [_], rfl, rfl, by simp, rfl, rfl, rfl, kid1 (us := []) rfl a⟩)
  | second a b => exact .inr (.inr ⟨[_], [_], rfl, rfl, by simp, rfl, rfl, rfl, kid1 (us := []) rfl a⟩)
  | left a b c => exact .inr (.inr ⟨[_], [_], rfl, rfl, by simp, chk_pos (hP _ c), rfl, hP _ b, kid1 (us := []) rfl a⟩)
  | right a b c => exact .inr (.inr ⟨[_], [_], rfl, rfl, by simp, chk_pos (hP _ c), rfl, hP _ b, kid1 (us := []) rfl a⟩)
  | next a b => exact .inr (.inr ⟨[_], [_], rfl, rfl, by simp, rfl, rfl, rfl, kid1 (us := []) rfl a⟩)
  | call a b c => exact .inr (.inr ⟨[_, _], [_, _], rfl, rfl, by simp, by simp [Tm.nd, kindBy, kindFew, kCall], rfl, rfl, kid2 rfl a rfl b⟩)
  | lt a b c => exact .inr (.inr ⟨[_, _], [_, _], rfl, rfl, by simp, rfl, rfl, rfl, kid2 rfl a rfl b⟩)
  | both a b c => exact .inr (.inr ⟨[_, _], [_, _], rfl, rfl, by simp, chk_pos (hP _ c), rfl, rfl, kid2 rfl a rfl b⟩)
  | which a b c d => exact .inr (.inr ⟨[_, _, _], [_, _, _], rfl, rfl, by simp, by simp [Tm.nd, kindBy, kindFew], rfl, rfl, kid3 rfl a rfl b rfl c⟩)
  | turns a b c d => exact .inr (.inr ⟨[_, _, _], [_, _, _], rfl, rfl, by simp, by simp [Tm.nd, kindBy, kindFew], rfl, hP _ d, kid3 rfl a rfl b rfl c⟩)
/-- the kinds by their places -/
def zipI : Nat → List Kd → List (Nat × Kd)
  | _, [] => []
  | b, k :: ks => (b, k) :: zipI (b + 1) ks
theorem zipI_app : ∀ (xs ys : List Kd) (b : Nat), zipI b (xs ++ ys) = zipI b xs ++ zipI (b + xs.length) ys
  | [], ys, b => rfl
  | x :: xs, ys, b => by
    rw [List.cons_append, zipI, zipI_app xs ys, zipI, List.length_cons, List.cons_append, Nat.add_assoc, Nat.add_comm 1]
def dP (p : Nat × Kd) : PyData := .tuple [.int p.1, dK p.2]
theorem noL_ps : ∀ ps : List (Nat × Kd), noLs (ps.map dP) = true
  | [] => rfl
  | p :: r => by simp [noLs, noL, dP, noL_dK, noL_ps r]
section
variable {P : Program} {w : World} {K : PySem.W.Frag} {mg : Str → Option Value} {base : Heap} {fr nk nkI : Addr} {fd : FuncData}
abbrev N__law_bound : List Str := ["_law_node", "_law_kinds", "_law_place"]
theorem sc__law_bound : FnScope N__law_bound ["_law_node", "_law_kinds", "_law_place"] (defScope (top 89)) := ⟨rfl, rfl, rfl, by decide +kernel, rfl, by decide +kernel, by decide +kernel⟩
def gLBound (K : PySem.W.Frag) : G3 := fun nv sv pv H Q _ => ∃ n a vs ks k, NAt K H nv n ∧ sv = .ref a ∧ SqL K H a vs ∧ KsAt K H vs ks ∧ pv = .int (ks.length : Nat) ∧ (binds n.w)[ks.length]? = some 1 ∧ boundKind n ks = some k ∧ ∀ v, KAt K H v k → Q v H
theorem ok__law_bound (D : Df K mg "_law_bound" (top 89)) : Cal P w K mg base CX0 "_law_bound" 1 ["_law_node", "_law_kinds", "_law_place"] (sp3 (gLBound K)) := by
  refine D.cal sc__law_bound (bs3 fun _ _ _ _ _ _ _ _ _ => rfl) sp3_len fun f cdv A outer s H vs Q E hr h => ?_
  obtain ⟨nv, _, _, rfl, n, a, vs, ks, k, hn, rfl, hs, hks, rfl, hb, hk, q⟩ := h
  refine ⟨_, (pss_cons (ps_if (pt_cmpR op_eq (pe_ix ix_tup (pv 0) pe_int (fun _ _ => rfl)) pe_str (by rfl)) 
      (pss_one (ps_ret (pe_ifExp (pt_cmpR op_eq (pe_ix ix_tup (pe_ix ix_list (pv 1) pe_int (fun _ _ => rfl)) pe_int (fun _ _ => rfl)) pe_str (by rfl)) (pe_ix ix_tup (pe_ix ix_list (pv 1) pe_int (fun _ _ => rfl)) (pv 2) (fun _ _ => rfl)) pe_non))) pss_nil)
    (pss_one (ps_ret (pe_ifExp (pt_cmpR op_eq (pe_ix ix_tup (pv 0) pe_int (fun _ _ => rfl)) pe_str (by rfl)) (pe_ix ix_list (pv 1) pe_int (fun _ _ => rfl)) (pe_ix ix_tup (pv 0) pe_int (fun _ _ => rfl)))))), ?_⟩
  obtain ⟨t, r, rfl, ht, hr2⟩ := NAt.tup hn
  refine ⟨_, rfl, _, _, _, _, rfl, rfl, ht, at0, rfl, _, rfl, ?_⟩
  by_cases c1 : n.w = .which
  · obtain rfl : n = .which := by cases n <;> first | rfl | cases c1
    refine ifST (i := .which) (j := .which) rfl ?_
    have lks : ks.length = 1 ∨ ks.length = 2 := by
      have hb' : [0, 1, 1][ks.length]? = some 1 := hb
      match ks, hb' with
      | [], h => cases h
      | [_], _ => exact .inl rfl
      | [_, _], _ => exact .inr rfl
      | _ :: _ :: _ :: _, h => cases h
    obtain ⟨g, u, rfl⟩ : ∃ k u, ks = k :: u := by
      cases ks with
      | nil => simp at lks
      | cons k u => exact ⟨k, u, rfl⟩
    have hks' : DpAll K H vs (dK g :: u.map dK) := hks
    obtain ⟨x, xs, rfl, hx⟩ : ∃ x xs, vs = x :: xs ∧ KAt K H x g := by
      cases hks' with
      | cons h1 h2 => exact ⟨_, _, rfl, h1⟩
    obtain ⟨p, r2, rfl⟩ : ∃ p r, g = .br .sum p r := by
      cases g with
      | ltr _ => cases hk
      | cnt => cases hk
      | br w2 p r =>
        cases w2 with
        | pair => cases hk
        | fn => cases hk
        | sum => exact ⟨_, _, rfl⟩
    obtain ⟨b, vp, vg, rfl, hsb, hp, hg⟩ := hx.br
    refine ⟨_, rfl, _, _, _, _, rfl, rfl, hs, at0, _, _, _, _, rfl, rfl, hsb, at0, rfl, _, rfl, ifST (i := .sum) (j := .sum) rfl ?_⟩
    rw [boundKind] at hk
    simp only [List.length_cons] at lks
    rcases lks with l | l
    · have l0 : u.length = 0 := by omega
      rw [if_pos l0] at hk
      obtain rfl := Option.some.inj hk
      exact ⟨_, rfl, _, _, _, _, rfl, rfl, hs, at0, _, rfl, _, _, _, vp, rfl, rfl, hsb, by rw [List.length_cons, l0]; rfl, q _ hp⟩
    · have l0 : u.length = 1 := by omega
      rw [if_neg (by omega)] at hk
      obtain rfl := Option.some.inj hk
      exact ⟨_, rfl, _, _, _, _, rfl, rfl, hs, at0, _, rfl, _, _, _, vg, rfl, rfl, hsb, by rw [List.length_cons, l0]; rfl, q _ hg⟩
  refine ifSF (j := .which) c1 ⟨_, rfl, _, _, _, _, rfl, rfl, ht, at0, rfl, _, rfl, ?_⟩
  by_cases c2 : n.w = .lt
  · obtain rfl : n = .lt := by cases n <;> first | rfl | cases c2
    have hb' : [0, 1][ks.length]? = some 1 := hb
    match ks, hb', hks, hk with
    | [g], _, hks, hk =>
      obtain ⟨x, rfl, hx⟩ := hks.one
      obtain rfl : g = k := Option.some.inj hk
      exact ifST (i := .lt) (j := .lt) rfl ⟨_, rfl, _, _, _, _, rfl, rfl, hs, at0, q _ hx⟩
    | [], h, _, _ => cases h
    | _ :: _ :: _, h, _, _ => cases h
  refine ifSF (j := .lt) c2 ?_
  have cls : n.arg = [dK k] := by
    cases n <;> first | exact absurd rfl c1 | exact absurd rfl c2 | (obtain rfl := Option.some.inj hk; rfl) | cases hk
  rw [cls] at hr2
  obtain ⟨y, rfl, hy⟩ := DpAll.one hr2
  exact ⟨_, rfl, _, _, _, _, rfl, rfl, ht, at1, q _ hy⟩
end
end K17
/-! K22: _law_fit. -/
namespace K17
open PySem L2
theorem inNT (z : Wd) : inV (V.str z.s) [V.str Wd.name.s, V.str Wd.told.s] = decide (z = .name ∨ z = .told) := by cases z <;> decide +kernel
theorem TrsAt.get {K : PySem.W.Frag} {D : Addr → Prop} {H : Hp} : ∀ {vs : List V} {ts : List Tm} {b j : Nat} {v : V}, TrsAt K D H vs ts b → vs[j]? = some v → ∃ t, ts[j]? = some t ∧ TrAt K D H v t (b + sz (ts.take j))
  | _, _, _, _, _, .nil, h => by simp at h
  | _, _, b, 0, _, .cons h1 h2, h => by
    simp at h
    subst h
    exact ⟨_, rfl, h1⟩
  | _, _, b, j + 1, _, .cons (t := u) h1 h2, h => by
    obtain ⟨t, e, g⟩ := TrsAt.get h2 (by simpa using h)
    refine ⟨t, by simpa using e, ?_⟩
    rw [List.take_succ_cons, sz_cons, ← Nat.add_assoc]
    exact g
theorem TrsAt.length {K : PySem.W.Frag} {D : Addr → Prop} {H : Hp} : ∀ {vs : List V} {ts : List Tm} {b : Nat}, TrsAt K D H vs ts b → vs.length = ts.length
  | _, _, _, .nil => rfl
  | _, _, _, .cons _ t => congrArg Nat.succ (TrsAt.length t)
theorem Inn.size {P : Kd → Prop} {row : List Kd} {t : Tm} {k : Kd} {ks kk : List Kd} {kss : List (List Kd)} (I : Inn P row t k ks kk kss) : ∀ j, j ≤ t.kids.length → (kss.take j).flatten.length = sz (t.kids.take j) := by
  intro j
  induction j with
  | zero => intro _; rfl
  | succ j ih =>
    intro hj
    have hc : t.kids[j]? = some t.kids[j] := List.getElem?_eq_getElem (by omega)
    obtain ⟨q, qs, r, h1, h2, h3, h4⟩ := I.kids j _ hc
    rw [take_more h2, take_more hc, List.flatten_append, List.length_append, ih (by omega), sz, sz, List.flatMap_append, List.length_append]
    simp [h4.len]
theorem eqv_non (k : Kd) : PyData.eqv (dK k) .none = false := by
  cases k <;> simp [dK, PyData.eqv]
theorem for_via2 {K : PySem.W.Frag} {ta : TA} {g : TG} {tb : TS} {D : Ends} {σ : L2.St} {H : Hp} (h : ta σ H fun x H1 => tFor (iEnumS K fun _ H R => R x H) g tb D σ H1) : tFor (iEnumS K ta) g tb D σ H := h
section
variable {P : Program} {w : World} {K : PySem.W.Frag} {mg : Str → Option Value} {base : Heap} {fr nk nkI : Addr} {fd : FuncData}
abbrev N__law_fit : List Str := ["_law_tree", "_law_names", "_law_seen", "_law_node", "_law_kinds", "_law_binds_here", "_law_found", "_law_place", "_law_child", "_law_more", "_law_told"]
theorem sc__law_fit : FnScope N__law_fit ["_law_tree", "_law_names", "_law_seen"] (defScope (top 90)) := ⟨rfl, rfl, rfl, by decide +kernel, rfl, by decide +kernel, by decide +kernel⟩
def gFit (K : PySem.W.Frag) (m : Nat) : G3 := fun tv nv sv H Q _ => ∃ (S a : Addr) (nxs vs : List V) (row : List Kd) (t : Tm) (b : Nat) (k : Kd) (ks : List Kd), nv = .ref a ∧ sv = .ref S ∧ H S = some (.lst vs) ∧ a ≠ S ∧ H a = some (.lst nxs) ∧ KsAt K H nxs row ∧ TrAt K (fun c => c = S) H tv t b ∧ Ty PK row t k ks ∧
  t.h + 6 ≤ m ∧ vs.length + t.flat.length ≤ 1000 ∧ row.length + t.h ≤ 1000 ∧
  ∀ (v : V) (H' : Hp) (ws : List V) (ps : List (Nat × Kd)), SB S H H' → H' S = some (.lst (vs ++ ws)) → DpAll K H' ws (ps.map dP) → ps.Perm (zipI b ks) → KAt K H' v k → Q v H'
theorem ok_fit_step (T : Txt K w mg fr fd nk nkI) (D : Df K mg "_law_fit" (top 90)) (c__law_binds : Cal P w K mg base CX0 "_law_binds" 1 ["_law_word"] (sp1 gBinds)) (c__law_bound : Cal P w K mg base CX0 "_law_bound" 1 ["_law_node", "_law_kinds", "_law_place"] (sp3 (gLBound K)))
    (c__law_by : Cal P w K mg base CX0 "_law_by" 1 ["_law_node", "_law_kinds"] (sp2 (gLBy K))) (c__law_signs : Cal P w K mg base CX0 "_law_signs" 5 ["_law_kind_here"] (sp1 (gLSigns K 5))) (c__law_deep : Cal P w K mg base CX0 "_law_deep" 5 ["_law_kind_here"] (sp1 (gLDeep K 5)))
    (m : Nat) (c__law_fit : Cal P w K mg base CX0 "_law_fit" m ["_law_tree", "_law_names", "_law_seen"] (sp3 (gFit K m))) : Cal P w K mg base CX0 "_law_fit" (m + 1) ["_law_tree", "_law_names", "_law_seen"] (sp3 (gFit K (m + 1))) := by
  refine D.cal sc__law_fit (bs3 fun _ _ _ _ _ _ _ _ _ => rfl) sp3_len fun f cdv A outer s H vs0 Q E hr h => ?_
  obtain ⟨_, _, _, rfl, S, a, nxs, vs, row, t, b, k, ks, rfl, rfl, hS, naS, ha, hrow, htr, hty, hm, hlen, hrl, q⟩ := h
  have th : 1 ≤ t.h := by cases t <;> simp [Tm.h]
  have m6 : 6 ≤ m := by omega
  have m5 : 5 ≤ m := by omega
  have m1 : 1 ≤ m := by omega
  refine ⟨_, (pss_cons (ps_par3 (i := 3) (j := 4) (l := 5) rfl sc__law_fit.nd rfl rfl rfl (by decide) (by decide) (by decide) rfl rfl rfl (pa_cons (pe_ix ix_tup (pv 0) pe_int (fun _ _ => rfl)) (pa_cons (pe_lst pa_nil) (pa_cons (pe_cal c__law_binds (hr.mono (by omega)) rfl pass0 (pa_cons (pe_ix ix_tup (pe_ix ix_tup (pv 0) pe_int (fun _ _ => rfl)) pe_int (fun _ _ => rfl)) pa_nil)) pa_nil))) (by rfl))
    (pss_cons (ps_if (pt_cmpR op_in_seq (pe_ix ix_tup (pv 3) pe_int (fun _ _ => rfl)) (pe_lst (pa_cons pe_str (pa_cons pe_str pa_nil))) (by rfl)) 
      (pss_cons (ps_set (i := 6) sc__law_fit.nd rfl (Or.inl rfl) (pe_ifExp (pt_cmpR op_eq (pe_ix ix_tup (pv 3) pe_int (fun _ _ => rfl)) pe_str (by rfl)) (pe_tup (pa_cons pe_str pa_nil)) (pe_ifExp (pt_cmpR op_lt (pe_ix ix_tup (pv 3) pe_int (fun _ _ => rfl)) (pe_callB call_len (by rfl) T.len (by decide +kernel) (pa_cons (pv 1) pa_nil)) (by rfl)) (pe_ix ix_list (pv 1) (pe_ix ix_tup (pv 3) pe_int (fun _ _ => rfl)) (fun _ _ => rfl)) (pe_lst (pa_cons (pe_ix ix_tup (pv 0) pe_int (fun _ _ => rfl)) pa_nil)))))
      (pss_cons (ps_expr (pe_bm PySem.F.plainAttrs_list PySem.F.slot_list_append PySem.F.type_list_append mt_append (pv 2) (pa_cons (pe_tup (pa_cons (pe_ix ix_tup (pv 0) pe_int (fun _ _ => rfl)) (pa_cons (pv 6) pa_nil))) pa_nil)))
      (pss_one (ps_ret (pv 6))))) pss_nil)
    (pss_cons (ps_for PassesOwn.never rfl (pi_enumS (by rfl) T.enumerate (pa_cons (pe_ix ix_tup (pv 0) pe_int (fun _ _ => rfl)) pa_nil)) (pg_tup rfl (pgs_cons (pg_name (i := 7) sc__law_fit.nd rfl (Or.inl rfl)) (pgs_cons (pg_name (i := 8) sc__law_fit.nd rfl (Or.inl rfl)) pgs_nil))) 
      (pss_cons (ps_set (i := 9) sc__law_fit.nd rfl (Or.inl rfl) (pe_ifExp (pt_cmpR op_eq (pe_ix ix_list (pv 5) (pv 7) (fun _ _ => rfl)) pe_int (by rfl)) (pe_lst (pa_cons (pe_cal c__law_bound (hr.mono (by omega)) rfl pass0 (pa_cons (pv 3) (pa_cons (pv 4) (pa_cons (pv 7) pa_nil)))) pa_nil)) (pe_lst pa_nil)))
      (pss_cons (ps_if (pt_cmpR (op_eqD hr.units) (pv 9) (pe_lst (pa_cons pe_non pa_nil)) (by rfl)) 
        (pss_one (ps_ret (pe_lst (pa_cons (pe_ix ix_tup (pv 0) pe_int (fun _ _ => rfl)) pa_nil)))) pss_nil)
      (pss_cons (ps_set (i := 10) sc__law_fit.nd rfl (Or.inl rfl) (pe_cal c__law_fit (hr.mono (by omega)) rfl pass0 (pa_cons (pv 8) (pa_cons (pe_op op_cat (pv 9) (pv 1)) (pa_cons (pv 2) pa_nil)))))
      (pss_cons (ps_if (pt_val (pe_callB call_isi (by rfl) T.isinstance (by decide +kernel) (pa_cons (pv 10) (pa_cons (pe_ty "list" (by rfl) T.list (by decide +kernel)) pa_nil)))) 
        (pss_one (ps_ret (pv 10))) pss_nil)
      (pss_one (ps_expr (pe_bm PySem.F.plainAttrs_list PySem.F.slot_list_append PySem.F.type_list_append mt_append (pv 4) (pa_cons (pv 10) pa_nil)))))))))
    (pss_cons (ps_set (i := 6) sc__law_fit.nd rfl (Or.inl rfl) (pe_cal c__law_by (hr.mono (by omega)) rfl pass0 (pa_cons (pv 3) (pa_cons (pv 4) pa_nil))))
    (pss_cons (ps_if (PW.pt (pw_or (pt_cmpR op_isN (pv 6) pe_non (by rfl)) (pw_or (pt_cmpR op_gt (pe_cal c__law_signs (hr.mono (by omega)) rfl pass0 (pa_cons (pv 6) pa_nil)) pe_int (by rfl)) (pw_or1 (pt_cmpR op_gt (pe_cal c__law_deep (hr.mono (by omega)) rfl pass0 (pa_cons (pv 6) pa_nil)) pe_int (by rfl)))))) 
      (pss_one (ps_ret (pe_lst (pa_cons (pe_ix ix_tup (pv 0) pe_int (fun _ _ => rfl)) pa_nil)))) pss_nil)
    (pss_cons (ps_expr (pe_bm PySem.F.plainAttrs_list PySem.F.slot_list_append PySem.F.type_list_append mt_append (pv 2) (pa_cons (pe_tup (pa_cons (pe_ix ix_tup (pv 0) pe_int (fun _ _ => rfl)) (pa_cons (pv 6) pa_nil))) pa_nil)))
    (pss_one (ps_ret (pv 6))))))))), ?_⟩
  cases htr with
  | @mk ta l vn cs _ _ hst hnd nlS hl hkids =>
    obtain ⟨na, r, rfl, hsn, hr2⟩ := NAt.tup hnd
    refine ⟨_, rfl, _, _, _, _, rfl, rfl, hst, at0, fits0, fun L hL => ?_⟩
    have eL := Same.new hL (.lst [])
    refine ⟨_, rfl, _, _, _, _, rfl, rfl, SqT.same eL hst, at0, _, _, _, _, rfl, rfl, SqT.same eL hsn, at0, _, rfl, t.nd.w, rfl, nd_isW _, fun B H1 eB nB hB => ⟨_, _, _, rfl, ?_⟩⟩
    have e01 := eL.trans eB
    have hL1 : H1 L = some (.lst []) := eB _ _ upd_same
    have hS1 := e01 _ _ hS
    have LS : L ≠ S := (ne_of_none hS hL).symm
    have hst1 := SqT.same e01 hst
    have hsn1 := SqT.same e01 hsn
    have lenS : vs.length < sizeLine := by
      rw [line_eq]
      omega
    refine ⟨_, rfl, _, _, _, _, rfl, rfl, hsn1, at0, fits2, fun p1 hp1 => ⟨p1, _, rfl, .inl (SqL.of upd_same), rfl, rfl, _, rfl, ?_⟩⟩
    have e2 := Same.new hp1 (.lst [V.str Wd.name.s, V.str Wd.told.s])
    have e02 := e01.trans e2
    have hst2 := SqT.same e2 hst1
    have hsn2 := SqT.same e2 hsn1
    have hS2 := e2 _ _ hS1
    -- a leaf: its kind seen
    have leaf : ∀ (v : V) (H3 : Hp), Same H H3 → KAt K H3 v k → ks = [k] → ∀ (X : V → Hp → Prop), (∀ v H', Q v H' → X v H') → ∀ q0, H3 q0 = none → H3 S = some (.lst vs) ∧ vs.length < sizeLine ∧ X v (upd (upd H3 q0 (.tup [V.int (b : Nat), v])) S (.lst (vs ++ [V.ref q0]))) := fun v H3 e3 hv hks X hX q0 hq0 => by
      refine ⟨e3 _ _ hS, lenS, hX _ _ ?_⟩
      have e4 := Same.new hq0 (.tup [V.int (b : Nat), v])
      have tk5 := TK.upd (e4 _ _ (e3 _ _ hS)) rfl (.lst (vs ++ [V.ref q0]))
      refine q v _ [V.ref q0] [(b, k)] (SB.trans (SB.of (e3.trans e4)) (SB.upd _)) upd_same (.cons ?_ .nil) (by rw [hks]; exact List.Perm.refl _) ((hv.tk (TK.of e4)).tk tk5)
      exact .tup (SqT.tk tk5 (SqT.of upd_same)) (.cons (.int _) (.cons ((hv.tk (TK.of e4)).tk tk5) .nil))
    rcases Ty.inv (fun _ h => PK.ok h) hty with ⟨i, rfl, hi, hi2, hks⟩ | ⟨n, rfl, rfl, hks, hn2⟩ | ⟨kk, kss, I⟩
    · -- a name
      obtain ⟨y, rfl, hy⟩ := DpAll.one hr2
      obtain rfl := Dp.int' hy
      refine ifT ((inNT .name).trans (by decide)) ?_
      refine ⟨_, rfl, _, _, _, _, rfl, rfl, hsn2, at0, rfl, _, rfl, ifSF (i := .name) (j := .told) (by decide) ?_⟩
      have ha2 := e02 _ _ ha
      have hrow2 := hrow.tk (TK.of e02)
      obtain ⟨kv, hkv, hka⟩ := KsAt.get hrow2 hi
      have li := (List.getElem?_eq_some_iff.mp hkv).1
      refine ⟨_, rfl, _, _, _, _, rfl, rfl, hsn2, at1, _, rfl, _, _, rfl, lenL (SqL.of ha2), _, _, rfl, rfl, _, rfl, ifT (decide_eq_true (by omega)) ?_⟩
      refine ⟨_, rfl, _, rfl, _, _, _, _, rfl, rfl, hsn2, at1, _, _, _, _, rfl, rfl, SqL.of ha2, atI_nat hkv, ?_⟩
      refine ⟨_, rfl, .inl ⟨rfl, _, SqL.of hS2⟩, _, rfl, _, _, _, _, rfl, rfl, hst2, at2, _, rfl, fits2, fun q0 hq0 => ?_⟩
      obtain ⟨f1, f2, f3⟩ := leaf kv _ e02 hka hks Q (fun _ _ h => h) q0 hq0
      exact ⟨S, vs, _, rfl, rfl, (Same.new hq0 _) _ _ f1, f2, _, rfl, f3⟩
    · -- a told number
      refine ifT ((inNT .told).trans (by decide)) ?_
      refine ⟨_, rfl, _, _, _, _, rfl, rfl, hsn2, at0, rfl, _, rfl, ifST (i := .told) (j := .told) rfl ⟨fits1, fun p2 hp2 => ?_⟩⟩
      have e3 := Same.new hp2 (.tup [V.str Wd.count.s])
      have e03 := e02.trans e3
      refine ⟨_, rfl, .inl ⟨rfl, _, SqL.of (e3 _ _ hS2)⟩, _, rfl, _, _, _, _, rfl, rfl, SqT.same e3 hst2, at2, _, rfl, fits2, fun q0 hq0 => ?_⟩
      obtain ⟨f1, f2, f3⟩ := leaf (.ref p2) _ e03 (KAt.mk_cnt (SqT.of upd_same)) hks Q (fun _ _ h => h) q0 hq0
      exact ⟨S, vs, _, rfl, rfl, (Same.new hq0 _) _ _ f1, f2, _, rfl, f3⟩
    · -- an inner node
      have hnt : ¬ (t.nd.w = .name ∨ t.nd.w = .told) := by
        have z := I.inn
        revert z
        cases t.nd <;> simp [Nd.inner, Nd.w, binds]
      have klen : t.kids.length = (binds t.nd.w).length := by
        cases hty.ar with
        | mk x _ => exact x
      refine ifF ((inNT t.nd.w).trans (decide_eq_false hnt)) ?_
      have hLc : (upd H1 p1 (.lst [V.str Wd.name.s, V.str Wd.told.s])) L = some (.lst []) := e2 _ _ hL1
      have hBc := e2 _ _ hB
      have nBL : B ≠ L := fun z => by
        rw [z, upd_same] at nB
        cases nB
      have nBS : B ≠ S := (ne_of_none (eL _ _ hS) nB).symm
      obtain ⟨Hb, sb, tb, fS, fL, ob⟩ : ∃ Hb : Hp, Same Hb (upd H1 p1 (.lst [V.str Wd.name.s, V.str Wd.told.s])) ∧ TK (upd H1 p1 (.lst [V.str Wd.name.s, V.str Wd.told.s])) Hb ∧ Hb S = none ∧ Hb L = none ∧ ∀ c, c ≠ S → c ≠ L → Hb c = (upd H1 p1 (.lst [V.str Wd.name.s, V.str Wd.told.s])) c := by
        refine ⟨fun c => if c = S ∨ c = L then none else (upd H1 p1 (.lst [V.str Wd.name.s, V.str Wd.told.s])) c, fun c o z => ?_, fun c o z y => ?_, if_pos (.inl rfl), if_pos (.inr rfl), fun c n1 n2 => if_neg (fun z => z.elim n1 n2)⟩
        · have z' : (if c = S ∨ c = L then none else (upd H1 p1 (.lst [V.str Wd.name.s, V.str Wd.told.s])) c) = some o := z
          split at z'
          · cases z'
          · exact z'
        · show (if c = S ∨ c = L then none else (upd H1 p1 (.lst [V.str Wd.name.s, V.str Wd.told.s])) c) = some o
          rw [if_neg]
          · exact z
          · rintro (x | x)
            · rw [x, hS2] at z
              cases z
              cases y
            · rw [x, hLc] at z
              cases z
              cases y
      have toB : ∀ c o, ¬ c = S → H c = some o → Hb c = some o := fun c o n z => by
        rw [ob c n (ne_of_none z hL)]
        exact e02 _ _ z
      have tHB : TK H Hb := TK.trans (TK.of e02) tb
      have hkb := TrsAt.keep toB tHB hkids
      have hlb := toB _ _ nlS hl
      have hab := toB _ _ naS ha
      have hrb := hrow.tk tHB
      have hstb := SqT.tk tHB hst
      have hsnb := SqT.tk tHB hsn
      have hBb : Hb B = some (.lst ((binds t.nd.w).map fun (b : Nat) => V.int b)) := by
        rw [ob B nBS nBL]
        exact hBc
      have hndb := hnd.tk tHB
      clear leaf
      dsimp only [tNext, tSeq]
      have lcs := TrsAt.length hkb
      have hflat := t.flat_kids
      have hpk := hty.good
      refine for_via2 ⟨_, rfl, _, _, _, _, rfl, rfl, hst2, at1, ?_⟩
      refine for_enS (a := l) (xs := cs) (H0 := Hb) (fun _ z => z) (fun j σ H' => ∃ (lks wss : List V) (ps : List (Nat × Kd)) (o6 o7 o8 o9 o10 : Option V), σ = [some (.ref ta), some (.ref a), some (.ref S), some (.ref na), some (.ref L), some (.ref B), o6, o7, o8, o9, o10] ∧ Same Hb H' ∧ H' S = some (.lst (vs ++ wss)) ∧ H' L = some (.lst lks) ∧
        KsAt K H' lks (kk.take j) ∧ DpAll K H' wss (ps.map dP) ∧ ps.Perm (zipI (b + 1) (kss.take j).flatten)) (.inl (SqL.of hlb)) ⟨[], [], [], none, none, none, none, none, rfl, sb, by rw [List.append_nil]; exact hS2, hLc, .nil, .nil, List.Perm.refl _⟩ (fun j σ H' ⟨_, _, _, _, _, _, _, _, _, z, _⟩ => z) ?_ ?_
      · rintro j x σ H' T' hx ⟨lks, wss, ps, o6, o7, o8, o9, o10, rfl, sm, hS', hL', hks', hws', hps'⟩ hT
        have hj := (List.getElem?_eq_some_iff.mp hx).1
        obtain ⟨c, hc, htc⟩ := TrsAt.get hkb hx
        obtain ⟨kq, kqs, kr, i1, i2, i3, i4⟩ := I.kids j c hc
        have hjk : j < t.kids.length := (List.getElem?_eq_some_iff.mp hc).1
        have eT := Same.new hT (.tup [V.int (j : Nat), x])
        have smT := sm.trans eT
        refine ⟨T', [V.int (j : Nat), x], rfl, SqT.of upd_same, rfl, _, _, rfl, _, _, rfl, rfl, ?_⟩
        have hST := eT _ _ hS'
        have hLT := eT _ _ hL'
        have hksT := hks'.tk (TK.of eT)
        have lkj : (kk.take j).length = j := by
          rw [List.length_take, I.lk]
          omega
        have ljk : j < (binds t.nd.w).length := by omega
        obtain ⟨bc, hbc⟩ : ∃ bc, (binds t.nd.w)[j]? = some bc := ⟨_, List.getElem?_eq_getElem ljk⟩
        have hbv : ((binds t.nd.w).map fun (b : Nat) => V.int b)[j]? = some (.int bc) := by
          rw [List.getElem?_map, hbc]
          rfl
        unfold childRow at i3
        rw [lkj, hbc] at i3
        refine asg_split (fun v H4 => ∃ Mx mvs mk, v = .ref Mx ∧ Same (upd H' T' (.tup [V.int (j : Nat), x])) H4 ∧ H4 Mx = some (.lst mvs) ∧ KsAt K H4 mvs mk ∧ mk ++ row = kr ∧ (upd H' T' (.tup [V.int (j : Nat), x])) Mx = none ∧ (∀ g ∈ mk, okK g = true) ∧ mk.length ≤ 1) (fun Q2 hQ => ?_) ?_
        · refine ⟨_, rfl, _, rfl, _, _, _, _, rfl, rfl, SqL.of (smT _ _ hBb), atI_nat hbv, rfl, _, rfl, ?_⟩
          by_cases c1 : bc = 1
          · subst c1
            rw [if_neg (by decide)] at i3
            cases hbk : boundKind t.nd (kk.take j) with
            | none => rw [hbk] at i3; cases i3
            | some kb =>
              rw [hbk] at i3
              have ekr : kb :: row = kr := Option.some.inj i3
              refine ifIT rfl ?_
              refine ⟨_, rfl, _, rfl, _, rfl, _, _, _, rfl, t.nd, L, lks, kk.take j, kb, hndb.tk (TK.of smT), rfl, SqL.of hLT, hksT, by rw [lkj], by rw [lkj]; exact hbc, hbk, fun vk hvk => ⟨fits1, fun Mx hMx => ?_⟩⟩
              have e5 := Same.new hMx (.lst [vk])
              refine hQ _ _ ⟨Mx, [vk], [kb], rfl, e5, upd_same, .cons (hvk.tk (TK.of e5)) .nil, ekr, hMx, oneAll (boundKind_ok hbk I.okn fun g hg => ?_), Nat.le_refl _⟩
              obtain ⟨j2, hj2⟩ := List.getElem?_of_mem (List.mem_of_mem_take hg)
              have lj2 := (List.getElem?_eq_some_iff.mp hj2).1
              have lj3 : j2 < t.kids.length := by rw [← I.lk]; exact lj2
              obtain ⟨q', qs', r', y1, y2, y3, y4⟩ := I.kids j2 (t.kids[j2]'lj3) (List.getElem?_eq_getElem lj3)
              rw [hj2] at y1
              rw [Option.some.inj y1]
              exact PK.ok y4.good
          · have c0 : bc = 0 := by
              have z : ∀ (n : Nd) (i c : Nat), (binds n.w)[i]? = some c → c = 0 ∨ c = 1 := by
                intro n i c h
                have m := List.mem_of_getElem? h
                revert m
                cases n <;> simp [binds, Nd.w] <;> omega
              exact (z _ _ _ hbc).resolve_right c1
            subst c0
            rw [if_pos rfl] at i3
            refine ifIF (by decide) ⟨fits0, fun Mx hMx => ?_⟩
            exact hQ _ _ ⟨Mx, [], [], rfl, Same.new hMx _, upd_same, .nil, Option.some.inj i3, hMx, fun g hg => by simp at hg, Nat.zero_le _⟩
        rintro _ H4 ⟨Mx, mvs, mk, rfl, e4, hM, hmk, emk, nM, okm, lm⟩
        have sm4 := smT.trans e4
        refine ⟨_, rfl, fits1, fun p2 hp2 => ?_⟩
        have e5 := Same.new hp2 (.lst [V.non])
        refine ⟨.list (mk.map dK), .list [.none], .lst (SqL.of (e5 _ _ hM)) (hmk.tk (TK.of e5)), .lst (SqL.of upd_same) (.cons .non .nil), shp_ks fun g hg => ?_, by decide, _, rfl, ?_⟩
        · have := okK_deep (okm g hg)
          omega
        have ev : PyData.eqv (.list (mk.map dK)) (.list [.none]) = false := by
          cases mk with
          | nil => simp [PyData.eqv, PyData.eqvAll]
          | cons g gs => simp [PyData.eqv, PyData.eqvAll, eqv_non]
        rw [ev]
        refine ifF rfl ?_
        have sm5 := sm4.trans e5
        have h45 := e4.trans e5
        have hM5 := e5 _ _ hM
        have ha5 := sm5 _ _ hab
        have lm2 := hmk.length
        have lr := hrb.length
        refine ⟨_, rfl, _, rfl, _, rfl, Mx, a, mvs, nxs, rfl, rfl, hM5, ha5, by rw [line_eq]; omega, fun N hN => ?_⟩
        have e6 := Same.new hN (.lst (mvs ++ nxs))
        have sm6 := sm5.trans e6
        have h46 := h45.trans e6
        have hS6 := h46 _ _ hST
        have hL6 := h46 _ _ hLT
        have NS : N ≠ S := (ne_of_none (h45 _ _ hST) hN).symm
        have lws : wss.length = (kss.take j).flatten.length := by
          have z := DpAll.length hws'
          rw [List.length_map] at z
          rw [z, hps'.length_eq]
          have zl : ∀ (g : List Kd) (i : Nat), (zipI i g).length = g.length := fun g => by
            induction g with
            | nil => intro i; rfl
            | cons g gs ih => intro i; rw [zipI, List.length_cons, ih, List.length_cons]
          exact zl _ _
        have szle : sz (t.kids.take j) + c.flat.length ≤ sz t.kids := by
          have z := congrArg List.length (kid_drop (r := []) hc)
          rw [List.length_drop, List.length_append, List.length_append] at z
          have z2 := List.length_append (as := (t.kids.take j).flatMap Tm.flat) (bs := (t.kids.drop j).flatMap Tm.flat)
          rw [← List.flatMap_append, List.take_append_drop] at z2
          unfold sz
          have z3 : ((t.kids.drop j).flatMap Tm.flat).length = c.flat.length + ((t.kids.drop (j + 1)).flatMap Tm.flat).length := by
            have : t.kids.drop j = c :: t.kids.drop (j + 1) := by
              obtain ⟨hi, e⟩ := List.getElem?_eq_some_iff.mp hc
              rw [← e]
              exact List.drop_eq_getElem_cons hi
            rw [this, List.flatMap_cons, List.length_append]
          omega
        have kh := Tm.kid_h (List.mem_of_getElem? hc)
        have tl : t.flat.length = 1 + sz t.kids := by
          rw [hflat, List.length_cons, sz]
          omega
        refine ⟨_, rfl, _, _, _, rfl, S, N, mvs ++ nxs, vs ++ wss, kr, c, b + 1 + sz (t.kids.take j), kq, kqs, rfl, rfl, hS6, NS, upd_same, ?_, TrAt.keep (fun g o _ z => sm6 _ _ z) (TK.of sm6) htc, i4, by omega, ?_, ?_, fun v H7 ws' ps' sb7 hS7 hws7 hps7 hv7 => ?_⟩
        · rw [← emk]
          show DpAll K _ _ ((mk ++ row).map dK)
          rw [List.map_append]
          exact DpAll.app (hmk.tk (TK.of (e5.trans e6))) (hrb.tk (TK.of sm6))
        · rw [List.length_append, lws, I.size j (by omega)]
          omega
        · rw [← emk, List.length_append]
          omega
        obtain ⟨va, vw, vr, rfl, hva⟩ := KAt.tup hv7
        refine ⟨_, rfl, _, _, _, _, false, rfl, .ty _, tyT hva, kit_ty (by decide +kernel), false, rfl, iteF ?_⟩
        have hL7 := sb7 _ _ LS hL6
        have sm7 : Same Hb H7 := fun g o z => sb7 _ _ (fun y => by
          rw [y, fS] at z
          cases z) (sm6 _ _ z)
        have tk67 := SB.tk sb7 hS6 rfl
        have tk' : TK H' H7 := TK.trans (TK.of (eT.trans h46)) tk67
        refine ⟨_, rfl, .inl ⟨rfl, _, SqL.of hL7⟩, _, rfl, L, lks, _, rfl, rfl, hL7, ?_, ?_⟩
        · rw [hks'.length, lkj, line_eq]
          have : (binds t.nd.w).length ≤ 3 := by cases t.nd <;> simp [binds, Nd.w]
          omega
        have tk8 := TK.upd hL7 rfl (.lst (lks ++ [V.ref va]))
        refine ⟨lks ++ [V.ref va], wss ++ ws', ps ++ ps', _, _, _, _, _, rfl, Same.upd sm7 fL _, ?_, upd_same, ?_, ?_, ?_⟩
        · rw [upd_ne (Ne.symm LS), hS7, List.append_assoc]
        · rw [take_more i1]
          show DpAll K _ _ (List.map dK _)
          rw [List.map_append]
          exact DpAll.app (hks'.tk (TK.trans tk' tk8)) (.cons (hv7.tk tk8) .nil)
        · rw [List.map_append]
          exact DpAll.app (DpAll.tk (TK.trans tk' tk8) _ _ (noL_ps ps) hws') (DpAll.tk tk8 _ _ (noL_ps ps') hws7)
        · rw [take_more i2, List.flatten_append, zipI_app, I.size j (by omega)]
          simp only [List.flatten_cons, List.flatten_nil, List.append_nil]
          exact List.Perm.append hps' hps7
      · rintro σ H' ⟨lks, wss, ps, o6, o7, o8, o9, o10, rfl, sm, hS', hL', hks', hws', hps'⟩
        have lcs2 : cs.length = kk.length := by rw [lcs, I.lk]
        rw [lcs2, List.take_length] at hks'
        have lss : cs.length = kss.length := by rw [lcs, I.ls]
        rw [lss, List.take_length] at hps'
        have kok : ∀ g ∈ kk, okK g = true := fun g hg => by
          obtain ⟨j2, hj2⟩ := List.getElem?_of_mem hg
          have lj2 := (List.getElem?_eq_some_iff.mp hj2).1
          have lj3 : j2 < t.kids.length := by rw [← I.lk]; exact lj2
          obtain ⟨q', qs', r', y1, y2, y3, y4⟩ := I.kids j2 (t.kids[j2]'lj3) (List.getElem?_eq_getElem lj3)
          rw [hj2] at y1
          rw [Option.some.inj y1]
          exact PK.ok y4.good
        refine ⟨_, rfl, _, rfl, _, _, rfl, t.nd, kk, k, ⟨hndb.tk (TK.of sm), ⟨L, lks, rfl, SqL.of hL', hks'⟩, by rw [I.lk, klen], I.inn, I.okn, kok⟩, I.by_, fun v H5 e5 hv => ?_⟩
        obtain ⟨va, vw, vr, rfl, hva⟩ := KAt.tup hv
        refine ⟨_, rfl, rfl, false, rfl, iteF ?_⟩
        have kd : k.deep ≤ 5 := hpk.2
        have ksz : k.size ≤ 11 := hpk.1
        refine ⟨_, rfl, _, rfl, k, hv, kd, fun H6 e6 => ⟨_, _, rfl, rfl, _, rfl, ifF (decide_eq_false (by omega)) ?_⟩⟩
        refine ⟨_, rfl, _, rfl, k, hv.tk (TK.of e6), kd, fun H7 e7 => ⟨_, _, rfl, rfl, _, rfl, ifF (decide_eq_false (by omega)) ?_⟩⟩
        have e57 := (e5.trans e6).trans e7
        have hv7 := hv.tk (TK.of (e6.trans e7))
        have hS7 := e57 _ _ hS'
        refine ⟨_, rfl, .inl ⟨rfl, _, SqL.of hS7⟩, _, rfl, _, _, _, _, rfl, rfl, SqT.same (sm.trans e57) hstb, at2, _, rfl, fits2, fun q0 hq0 => ?_⟩
        have e8 := Same.new hq0 (.tup [V.int (b : Nat), V.ref va])
        have hS8 := e8 _ _ hS7
        refine ⟨S, vs ++ wss, _, rfl, rfl, hS8, ?_, _, rfl, ?_⟩
        · have z := DpAll.length hws'
          rw [List.length_map, hps'.length_eq] at z
          have zl : ∀ (g : List Kd) (i : Nat), (zipI i g).length = g.length := fun g => by
            induction g with
            | nil => intro i; rfl
            | cons g gs ih => intro i; rw [zipI, List.length_cons, ih, List.length_cons]
          rw [zl] at z
          have z2 := hty.len
          rw [I.ks_eq, List.length_cons] at z2
          rw [List.length_append, line_eq]
          omega
        have tk9 := TK.upd hS8 rfl (.lst ((vs ++ wss) ++ [V.ref q0]))
        have tkA := TK.trans (TK.of (e57.trans e8)) tk9
        have hv9 := (hv7.tk (TK.of e8)).tk tk9
        refine q (.ref va) _ (wss ++ [V.ref q0]) (ps ++ [(b, k)]) ?_ (by rw [upd_same, List.append_assoc]) ?_ ?_ hv9
        · intro g o ng z
          rw [upd_ne ng]
          exact (e57.trans e8) _ _ (sm _ _ (toB g o ng z))
        · rw [List.map_append]
          refine DpAll.app (DpAll.tk tkA _ _ (noL_ps ps) hws') (.cons (.tup (SqT.tk tk9 (SqT.of upd_same)) (.cons (.int _) (.cons hv9 .nil))) .nil)
        · rw [I.ks_eq, zipI]
          exact (List.perm_append_comm).trans (List.Perm.cons _ hps')
theorem ok__law_fit (T : Txt K w mg fr fd nk nkI) (D : Df K mg "_law_fit" (top 90)) (c__law_binds : Cal P w K mg base CX0 "_law_binds" 1 ["_law_word"] (sp1 gBinds)) (c__law_bound : Cal P w K mg base CX0 "_law_bound" 1 ["_law_node", "_law_kinds", "_law_place"] (sp3 (gLBound K)))
    (c__law_by : Cal P w K mg base CX0 "_law_by" 1 ["_law_node", "_law_kinds"] (sp2 (gLBy K))) (c__law_signs : Cal P w K mg base CX0 "_law_signs" 5 ["_law_kind_here"] (sp1 (gLSigns K 5))) (c__law_deep : Cal P w K mg base CX0 "_law_deep" 5 ["_law_kind_here"] (sp1 (gLDeep K 5))) :
    ∀ m, Cal P w K mg base CX0 "_law_fit" m ["_law_tree", "_law_names", "_law_seen"] (sp3 (gFit K m))
  | 0 => D.cal0 (bs3 fun _ _ _ _ _ _ _ _ _ => rfl) fun vs H Q E ⟨_, _, _, _, S, a, nxs, vs', row, t, b, k, ks, _, _, _, _, _, _, _, _, h, _⟩ => by omega
  | m + 1 => ok_fit_step T D c__law_binds c__law_bound c__law_by c__law_signs c__law_deep m (ok__law_fit T D c__law_binds c__law_bound c__law_by c__law_signs c__law_deep m)
end
end K17
/-! K23: the law on programs. -/
namespace K17
open PySem PySem.Spec PyProof.Rows L2
theorem Df.calG {P : Program} {w : World} {K : PySem.W.Frag} {mg : Str → Option Value} {base : Heap} {x : Str} {st : Stmt} {N ps : List Str} {sp : Sp} {k : Nat} (D : Df K mg x st) (S : FnScope N ps (defScope st)) (hb : BindsS x st ps) (len : ∀ vs H Q E, sp vs H Q E → vs.length = ps.length)
    (body : ∀ (f : Addr) (cdv : Value) (A : Around) (outer : List Env) (s : Shared) (H : Hp) (vs : List V) (Q : VK) (E : XK), A.guards = some [] → Room k (A.deeper (envOfC x (defScope st) s.heap.objs.size f cdv)) → sp vs H Q E →
      ∃ t, PSs (cxOf CX0 P w K mg base N x (defScope st) f cdv A outer s H E).nox (defBody st) t ∧ t { nx := fun _ H' => Q .non H', rt := Q } (L2.start N vs) H) : CalG P w K mg base x (k + 1) ps sp := by
  obtain ⟨f, fd, F, g⟩ := D.ex
  obtain ⟨⟨oc, od, kV, doc, pm, an, cdv, ct, osl, rfl, lk, hcd⟩, kp⟩ := id F
  exact ⟨f, _, fn_mkG lk hcd S len (fun A outer s H vs Q E => body f cdv A outer s H vs Q E), g, kp, F.binds hb⟩
theorem put_deep (l : Bool) (o : Kd) : ∀ k : Kd, (Kd.put l o k).deep ≤ k.deep + o.deep
  | .ltr b => by
    rw [Kd.put]
    split <;> simp only [Kd.deep] <;> omega
  | .cnt => by
    rw [Kd.put]
    omega
  | .br w a b => by
    have h1 := put_deep l o a
    have h2 := put_deep l o b
    simp only [Kd.put, Kd.deep]
    omega
theorem put_PK {l : Bool} {o k : Kd} (h : PK k) (ho : Kd.within 1 o) : okK (Kd.put l o k) = true := by
  obtain ⟨h1, h2⟩ := h
  obtain ⟨o1, o2⟩ := within1 ho
  have d := put_deep l o k
  have z := put_size l o k
  have f : (k.lets.filter (· == l)).length ≤ k.lets.length := List.length_filter_le _ _
  have g := lets_le k
  have m : (k.lets.filter (· == l)).length * (o.size - 1) ≤ 11 * 2 := Nat.mul_le_mul (by omega) (by omega)
  exact ok_small (by omega) (by omega)
def prog (near : Kd) (t : Tm) : Tm := .un (.fn (.ltr true)) (.un (.fn (.ltr false)) (.un (.fn near) t))
def due (near k : Kd) : Kd := .br .fn (.ltr true) (.br .fn (.ltr false) (.br .fn near k))
theorem PK_ltr (b : Bool) : PK (.ltr b) := ⟨by simp [Kd.size], by simp [Kd.deep]⟩
theorem Ty.prog {near k : Kd} {t : Tm} {ks : List Kd} (h : Ty PK [near, .ltr false, .ltr true] t k ks) (hn : Kd.within 1 near) (hk : Kd.within 1 k) : ∃ ks', Ty PK [] (K17.prog near t) (due near k) ks' := by
  have a := within1 hn
  have b := within1 hk
  refine ⟨_, .fn (PK_ltr true) ?_ (.fn (PK_ltr false) ?_ (.fn (within2_PK (within_lt hn (by decide))) ?_ h))⟩
  · exact ⟨by simp only [Kd.size]; omega, by simp only [Kd.deep]; omega⟩
  · exact ⟨by simp only [Kd.size]; omega, by simp only [Kd.deep]; omega⟩
  · exact ⟨by simp only [Kd.size]; omega, by simp only [Kd.deep]; omega⟩
theorem Ty.small {row : List Kd} {t : Tm} {k o : Kd} {ks : List Kd} {l : Bool} (h : Ty PK row t k ks) (ho : Kd.within 1 o) : ∀ n ∈ t.flat, n.small l o :=
  h.nodes (R := fun n => n.small l o) (fun _ _ => trivial) (fun _ _ => trivial) (fun q p => by
    have z : q.deep ≤ 8 ∧ q.size ≤ 60 ∧ okK (Kd.put l o q) = true := ⟨by have := p.2; omega, by have := p.1; omega, put_PK p ho⟩
    exact ⟨z, z, z, z⟩) ⟨trivial, trivial, trivial, trivial, trivial, trivial, trivial⟩
/-- what is_program may be asked about -/
def Jd (K : PySem.W.Frag) (H : Hp) (v : V) : Prop := (∃ a xs es, v = .ref a ∧ SqS K H a xs ∧ EsAt K H xs es) ∨ NoSeq K H v
theorem Jd.same {K : PySem.W.Frag} {H H' : Hp} {v : V} (s : Same H H') (h : Jd K H v) : Jd K H' v := by
  rcases h with ⟨a, xs, es, e, h1, h2⟩ | h
  · exact .inl ⟨a, xs, es, e, SqS.same s h1, EsAt.same s h2⟩
  · exact .inr (NoSeq.same s h)
theorem Jd.lst {K : PySem.W.Frag} {H : Hp} {a : Addr} {xs : List V} {ns : List Nd} (h : H a = some (.lst xs)) (n : NsAt K H xs ns) : Jd K H (.ref a) := .inl ⟨a, xs, ns.map some, rfl, .inl (SqL.of h), EsAt.of n⟩
theorem Jd.sc {K : PySem.W.Frag} {H : Hp} {v : V} {t : String} (h : TyN K H v t) (k : PySem.W.kitAny K (.type t) [.type "list", .type "tuple"] = some false) : Jd K H v := .inr ⟨t, h, k⟩
theorem noLT {K : PySem.W.Frag} {t : String} (h1 : kitB t "list" = some false) (h2 : kitB t "tuple" = some false) : PySem.W.kitAny K (.type t) [.type "list", .type "tuple"] = some false :=
  kitAny_cons (b := false) (kit_ty h1) (fun _ => kitAny_cons (b := false) (kit_ty h2) (fun _ => rfl) (fun z => by cases z)) (fun z => by cases z)
theorem NsAt.cut {K : PySem.W.Frag} {H : Hp} {xs : List V} {ns : List Nd} (h : NsAt K H xs ns) (lo hi : Option Int) : ∃ ms, NsAt K H (cutV xs lo hi) ms := by
  refine ⟨(ns.drop (HT.sIx xs.length 0 lo)).take (HT.sIx xs.length xs.length hi - HT.sIx xs.length 0 lo), ?_⟩
  unfold K17.NsAt
  rw [List.map_take, List.map_drop]
  exact DpAll.take _ (DpAll.drop _ h)
theorem NsAt.app {K : PySem.W.Frag} {H : Hp} {xs ys : List V} {ns ms : List Nd} (h : NsAt K H xs ns) (g : NsAt K H ys ms) : NsAt K H (xs ++ ys) (ns ++ ms) := by
  unfold K17.NsAt
  rw [List.map_append]
  exact DpAll.app h g
theorem NsAt.one {K : PySem.W.Frag} {H : Hp} {x : V} {n : Nd} (h : NAt K H x n) : NsAt K H [x] [n] := .cons h .nil
/-- what is_program answers -/
def Wh (K : PySem.W.Frag) (H : Hp) (v : V) (b : Bool) : Prop := (∃ a xs es, v = .ref a ∧ SqS K H a xs ∧ EsAt K H xs es ∧ b = isP es) ∨ (NoSeq K H v ∧ b = false)
theorem Jd.wh {K : PySem.W.Frag} {H : Hp} {v : V} (h : Jd K H v) : ∃ b, Wh K H v b := by
  rcases h with ⟨a, xs, es, e, h1, h2⟩ | h
  · exact ⟨_, .inl ⟨a, xs, es, e, h1, h2, rfl⟩⟩
  · exact ⟨_, .inr ⟨h, rfl⟩⟩
theorem Wh.same {K : PySem.W.Frag} {H H' : Hp} {v : V} {b : Bool} (s : Same H H') (h : Wh K H v b) : Wh K H' v b := by
  rcases h with ⟨a, xs, es, e, h1, h2, h3⟩ | ⟨h, h3⟩
  · exact .inl ⟨a, xs, es, e, SqS.same s h1, EsAt.same s h2, h3⟩
  · exact .inr ⟨NoSeq.same s h, h3⟩
theorem Wh.prog {K : PySem.W.Frag} {H : Hp} {v : V} {b : Bool} {Q : VK} {E : XK} (h : Wh K H v b) (q : ∀ H', Same H H' → Q (.bl b) H') : gProgram K v H Q E := by
  rcases h with ⟨a, xs, es, e, h1, h2, rfl⟩ | ⟨h, rfl⟩
  · exact .inl ⟨a, xs, es, e, h1, h2, q⟩
  · exact .inr ⟨h, q⟩
theorem okE_some : ∀ {es : List (Option Nd)}, es.all okE = true → (es.filterMap id).map some = es
  | [], _ => rfl
  | none :: es, h => by simp [okE] at h
  | some n :: es, h => by
    rw [List.all_cons, Bool.and_eq_true] at h
    have z := okE_some h.2
    simp only [List.filterMap_cons, id, List.map_cons]
    rw [z]
theorem NAt.wb {K : PySem.W.Frag} {H : Hp} {a : Addr} (h : SqT K H a [.str Wd.told.s, .bl true]) : NAt K H (.ref a) .toldT := Dp.tup h (.cons (.str _) (.cons (.bl _) .nil))
structure Bn (K : PySem.W.Frag) (H : Hp) (p lp lb : Addr) (xs bs : List V) (ns bn : List Nd) (dv : V) (du : Kd) : Prop where
  pot : PotAt H p
  np : lp ≠ p
  nb : lb ≠ p
  pr : H lp = some (.lst xs)
  pn : NsAt K H xs ns
  br : H lb = some (.lst bs)
  bn : NsAt K H bs bn
  du : KAt K H dv du
section
variable {K : PySem.W.Frag} {H H' : Hp} {p lp lb : Addr} {xs bs : List V} {ns bn : List Nd} {dv : V} {du : Kd}
theorem Bn.sb (b : Bn K H p lp lb xs bs ns bn dv du) (s : SB p H H') (h : PotAt H' p) : Bn K H' p lp lb xs bs ns bn dv du :=
  ⟨h, b.np, b.nb, s _ _ b.np b.pr, b.pn.tk (b.pot.tk s), s _ _ b.nb b.br, b.bn.tk (b.pot.tk s), b.du.tk (b.pot.tk s)⟩
theorem Bn.same (b : Bn K H p lp lb xs bs ns bn dv du) (s : Same H H') : Bn K H' p lp lb xs bs ns bn dv du := b.sb (SB.of s) (b.pot.same s)
end
theorem b_is_program_value : BindsK "is_program" (top 73) ["value"] ["value"] (fun us => us) := fun kV doc pm an cdv ct us hl => match us, hl with | [u], _ => rfl
theorem b_program_kind_program : BindsK "program_kind" (top 75) ["program"] ["program"] (fun us => us) := fun kV doc pm an cdv ct us hl => match us, hl with | [u], _ => rfl
section
variable {P : Program} {w : World} {K : PySem.W.Frag} {mg : Str → Option Value} {base : Heap} {fr nk nkI : Addr} {fd : FuncData}
abbrev N__law_programs_right : List Str := ["_law_pot_here", "_law_kind_here", "_law_near", "_law_body", "_law_program", "_law_due", "_law_at", "_law_values", "_law_value", "_law_whole", "_law_letter", "_law_other", "_law_moved"]
theorem sc__law_programs_right : FnScope N__law_programs_right ["_law_pot_here"] (defScope (top 91)) := ⟨rfl, rfl, rfl, by decide +kernel, rfl, by decide +kernel, by decide +kernel⟩
def gRight : G1 := fun v H Q _ => ∃ p, v = .ref p ∧ PotAt H p ∧ ∀ H', Q (.bl true) H'
theorem ok__law_programs_right (T : Txt K w mg fr fd nk nkI) (D : Df K mg "_law_programs_right" (top 91)) (D_is_program : Df K mg "is_program" (top 73)) (D_program_kind : Df K mg "program_kind" (top 75))
    (c__law_kind : Cal P w K mg base CX0 "_law_kind" 3 ["_law_pot_here", "_law_deep_here"] (sp2 (gLKind K 3))) (c__law_made : Cal P w K mg base CX0 "_law_made" 10 psM (sp4 (gMade K 10)))
    (c_is_program : Cal P w K mg base CX0 "is_program" 10 ["value"] (sp1 (gProgram K))) (c_program_kind : Cal P w K mg base CX0 "program_kind" 12 ["program"] (sp1 (gProgKind K)))
    (c_kind_of : Cal P w K mg base CX0 "kind_of" 9 ["names", "term"] (sp2 (gKindOf K))) (c__law_draw : Cal P w K mg base CX0 "_law_draw" 1 ["_law_pot_here", "_law_size"] (sp2 gDraw))
    (c_is_term : Cal P w K mg base CX0 "is_term" 7 ["value"] (sp1 (gTerm K))) (c_fits : Cal P w K mg base CX0 "fits" 10 ["names", "term"] (sp2 (gFits K)))
    (c_letters_put : Cal P w K mg base CX0 "letters_put" 14 ["term", "letter", "kind"] (sp3 (gLPut K))) (c_put_kind : Cal P w K mg base CX0 "put_kind" 14 ["kind", "letter", "other"] (sp3 (gPutK K)))
    (c__law_put : Cal P w K mg base CX0 "_law_put" 5 ["_law_kind_here", "_law_letter", "_law_other"] (sp3 (gPutL K 5))) :
    CalG P w K mg base "_law_programs_right" 15 ["_law_pot_here"] (sp1 gRight) := by
  refine D.calG sc__law_programs_right (bs1 fun _ _ _ _ _ _ _ => rfl) sp1_len fun f cdv A outer s H vs Q E noG hr h => ?_
  obtain ⟨_, rfl, p, rfl, hp, q⟩ := h
  refine ⟨_, (pss_cons (ps_par (i := 1) (j := 2) rfl sc__law_programs_right.nd rfl rfl (by decide) rfl rfl (pa_cons (pe_cal c__law_kind (hr.mono (by omega)) rfl pass0 (pa_cons (pv 0) (pa_cons pe_int pa_nil))) (pa_cons (pe_cal c__law_kind (hr.mono (by omega)) rfl pass0 (pa_cons (pv 0) (pa_cons pe_int pa_nil))) pa_nil)) (by rfl))
    (pss_cons (ps_set (i := 3) sc__law_programs_right.nd rfl (Or.inl rfl) (pe_cal c__law_made (hr.mono (by omega)) rfl pass0 (pa_cons (pv 0) (pa_cons (pv 1) (pa_cons (pe_lst (pa_cons (pv 2) (pa_cons (pe_tup (pa_cons pe_str (pa_cons pe_int pa_nil))) (pa_cons (pe_tup (pa_cons pe_str (pa_cons pe_int pa_nil))) pa_nil)))) (pa_cons pe_int pa_nil))))))
    (pss_cons (ps_set (i := 4) sc__law_programs_right.nd rfl (Or.inl rfl) (pe_op op_cat (pe_lst (pa_cons (pe_tup (pa_cons pe_str (pa_cons (pe_tup (pa_cons pe_str (pa_cons pe_int pa_nil))) pa_nil))) (pa_cons (pe_tup (pa_cons pe_str (pa_cons (pe_tup (pa_cons pe_str (pa_cons pe_int pa_nil))) pa_nil))) (pa_cons (pe_tup (pa_cons pe_str (pa_cons (pv 2) pa_nil))) pa_nil)))) (pv 3)))
    (pss_cons (ps_set (i := 5) sc__law_programs_right.nd rfl (Or.inl rfl) (pe_tup (pa_cons pe_str (pa_cons (pe_tup (pa_cons pe_str (pa_cons pe_int pa_nil))) (pa_cons (pe_tup (pa_cons pe_str (pa_cons (pe_tup (pa_cons pe_str (pa_cons pe_int pa_nil))) (pa_cons (pe_tup (pa_cons pe_str (pa_cons (pv 2) (pa_cons (pv 1) pa_nil)))) pa_nil)))) pa_nil)))))
    (pss_cons (ps_if (PW.pt (pw_or (pt_cmpR op_notBl (pe_cal c_is_program (hr.mono (by omega)) rfl pass0 (pa_cons (pv 4) pa_nil)) pe_bl (by rfl)) (pw_or (pt_cmpR (op_neD hr.units) (pe_cal c_program_kind (hr.mono (by omega)) rfl pass0 (pa_cons (pv 4) pa_nil)) (pv 5) (by rfl)) (pw_or (pt_cmpR (op_neD hr.units) (pe_cal c_kind_of (hr.mono (by omega)) rfl pass0 (pa_cons (pe_lst pa_nil) (pa_cons (pv 4) pa_nil))) (pv 5) (by rfl)) (pw_or1 (pt_cmpR (op_neD hr.units) (pe_calKw c_program_kind D_program_kind b_program_kind_program (fun _ _ r => r) (by simp) (hr.mono (by omega)) rfl (pk_cons (pe_callTy call_tuple_of (by rfl) T.tuple (by decide +kernel) (pa_cons (pv 4) pa_nil)) pk_nil)) (pv 5) (by rfl))))))) 
      (pss_one (ps_ret pe_bl)) pss_nil)
    (pss_cons (ps_set (i := 6) sc__law_programs_right.nd rfl (Or.inl rfl) (pe_cal c__law_draw (hr.mono (by omega)) rfl pass0 (pa_cons (pv 0) (pa_cons (pe_callB call_len (by rfl) T.len (by decide +kernel) (pa_cons (pv 4) pa_nil)) pa_nil))))
    (pss_cons (ps_set (i := 7) sc__law_programs_right.nd rfl (Or.inl rfl) (pe_lst (pa_cons (pv 3) (pa_cons (pe_slice sl_list (pv 4) (po_some pe_int) po_none) (pa_cons (pe_slice sl_list (pv 4) (po_some pe_int) po_none) (pa_cons (pe_op op_cat (pe_op op_cat (pe_slice sl_list (pv 4) po_none (po_some (pv 6))) (pe_lst (pa_cons (pe_tup (pa_cons pe_str (pa_cons pe_int pa_nil))) pa_nil))) (pe_slice sl_list (pv 4) (po_some (pe_op op_add (pv 6) pe_int)) po_none)) (pa_cons (pe_slice sl_list (pv 4) po_none (po_some (pe_un un_neg pe_int))) (pa_cons (pe_lst (pa_cons (pv 4) pa_nil)) (pa_cons pe_non (pa_cons pe_int (pa_cons pe_str (pa_cons pe_dnewK (pa_cons pe_bl (pa_cons (pe_lst pa_nil) (pa_cons (pe_lst (pa_cons (pe_tup (pa_cons pe_str (pa_cons pe_int pa_nil))) pa_nil)) (pa_cons (pe_callTy call_tuple_of (by rfl) T.tuple (by decide +kernel) (pa_cons (pv 4) pa_nil)) pa_nil))))))))))))))))
    (pss_cons (ps_for PassesOwn.never rfl (pi_seq (pe_op op_cat (pv 7) (pe_lst (pa_cons (pe_lst (pa_cons (pe_tup (pa_cons pe_str (pa_cons pe_int pa_nil))) pa_nil)) (pa_cons (pe_lst (pa_cons (pe_tup (pa_cons pe_str pa_nil)) (pa_cons (pe_tup (pa_cons pe_str (pa_cons pe_bl pa_nil))) pa_nil))) (pa_cons (pe_op op_cat (pv 4) (pe_lst (pa_cons (pe_tup (pa_cons pe_str (pa_cons pe_int pa_nil))) pa_nil))) pa_nil)))))) (pg_name (i := 8) sc__law_programs_right.nd rfl (Or.inl rfl)) 
      (pss_cons (ps_set (i := 9) sc__law_programs_right.nd rfl (Or.inl rfl) (pe_and (pe_cal c_is_term (hr.mono (by omega)) rfl pass0 (pa_cons (pv 8) pa_nil)) (pe_one (pe_cal c_fits (hr.mono (by omega)) rfl pass0 (pa_cons (pe_lst pa_nil) (pa_cons (pv 8) pa_nil))))))
      (pss_one (ps_if (pt_cmpR op_ne (pe_callB (cr_repr noG hr.units) (by rfl) T.repr (by decide +kernel) (pa_cons (pe_lst (pa_cons (pe_cal c_is_program (hr.mono (by omega)) rfl pass0 (pa_cons (pv 8) pa_nil)) (pa_cons (pe_calKw c_is_program D_is_program b_is_program_value (fun _ _ r => r) (by simp) (hr.mono (by omega)) rfl (pk_cons (pv 8) pk_nil)) pa_nil))) pa_nil)) (pe_callB (cr_repr noG hr.units) (by rfl) T.repr (by decide +kernel) (pa_cons (pe_lst (pa_cons (pv 9) (pa_cons (pv 9) pa_nil))) pa_nil)) (by rfl)) 
        (pss_one (ps_ret pe_bl)) pss_nil))))
    (pss_cons (ps_par (i := 10) (j := 11) rfl sc__law_programs_right.nd rfl rfl (by decide) rfl rfl (pa_cons (pe_cal c__law_draw (hr.mono (by omega)) rfl pass0 (pa_cons (pv 0) (pa_cons pe_int pa_nil))) (pa_cons (pe_cal c__law_kind (hr.mono (by omega)) rfl pass0 (pa_cons (pv 0) (pa_cons pe_int pa_nil))) pa_nil)) (by rfl))
    (pss_cons (ps_set (i := 12) sc__law_programs_right.nd rfl (Or.inl rfl) (pe_cal c_letters_put (hr.mono (by omega)) rfl pass0 (pa_cons (pv 4) (pa_cons (pv 10) (pa_cons (pv 11) pa_nil)))))
    (pss_one (ps_ret (pe_and (pe_cmpR op_isBl (pe_cal c_is_program (hr.mono (by omega)) rfl pass0 (pa_cons (pv 12) pa_nil)) pe_bl (by rfl)) (pe_one (pe_chain (op_eqD hr.units) (op_eqD hr.units) (pe_cal c_program_kind (hr.mono (by omega)) rfl pass0 (pa_cons (pv 12) pa_nil)) (pe_cal c_put_kind (hr.mono (by omega)) rfl pass0 (pa_cons (pv 5) (pa_cons (pv 10) (pa_cons (pv 11) pa_nil)))) (pe_cal c__law_put (hr.mono (by omega)) rfl pass0 (pa_cons (pv 5) (pa_cons (pv 10) (pa_cons (pv 11) pa_nil))))))))))))))))))), ?_⟩
  refine ⟨_, rfl, _, _, rfl, p, 1, rfl, rfl, by decide, hp, fun k kv H1 kw s1 hp1 kk1 => ?_⟩
  refine ⟨_, rfl, _, _, rfl, p, 1, rfl, rfl, by decide, hp1, fun near nv H2 nw s2 hp2 nn2 => ⟨_, _, rfl, ?_⟩⟩
  have kk2 := kk1.tk (hp1.tk s2)
  refine ⟨_, rfl, _, rfl, _, rfl, fits2, fun l0 h0 => ⟨fits2, fun l1 h1 => ⟨fits3, fun lr hr0 => ?_⟩⟩⟩
  have e0 := Same.new h0 (.tup [V.str "letter", V.int 0])
  have e1 := Same.new h1 (.tup [V.str "letter", V.int 1])
  have e2 := Same.new hr0 (.lst [nv, .ref l0, .ref l1])
  have e02 := (e0.trans e1).trans e2
  have hp3 := hp2.same e02
  have row : KLs K _ p (.ref lr) [near, .ltr false, .ltr true] := KLs.new ((hp2.same e0).same e1) hr0 (.cons (nn2.tk (TK.of (e0.trans e1))) (.cons (KAt.mk_ltr (b := false) (SqT.of (e1 _ _ upd_same))) (.cons (KAt.mk_ltr (b := true) (SqT.of upd_same)) .nil)))
  refine ⟨_, _, _, _, rfl, p, k, [near, .ltr false, .ltr true], 2, ⟨rfl, rfl, hp3, kk2.tk (TK.of e02), row, within_lt kw (by decide), ?_, fun b => by cases b <;> simp, by simp, by decide⟩, (show need 2 k ≤ 10 by simp [need]), fun bv t ks H4 ty lt s4 hp4 nb => ?_⟩
  · refine consAll (within2_PK (within_lt nw (by decide))) (consAll (PK_ltr _) (oneAll (PK_ltr _)))
  obtain ⟨lb, bs, rfl, nlb, hb4, bn4⟩ := nb
  have lt7 : t.flat.length ≤ 107 := lt
  have nn4 := (nn2.tk (TK.of e02)).tk (hp3.tk s4)
  have kk4 := (kk2.tk (TK.of e02)).tk (hp3.tk s4)
  clear row e02 e0 e1 e2 kk2 nn2
  -- the program
  refine ⟨fits2, fun a1 ha1 => ⟨fits2, fun b1 hb1 => ⟨fits2, fun a2 ha2 => ⟨fits2, fun b2 hb2 => ⟨_, rfl, fits2, fun b3 hb3 => ⟨fits3, fun l3 hl3 => ⟨_, rfl, ?_⟩⟩⟩⟩⟩⟩⟩
  have g1 := Same.new ha1 (.tup [V.str "letter", V.int 1])
  have g2 := Same.new hb1 (.tup [V.str "fun", .ref a1])
  have g3 := Same.new ha2 (.tup [V.str "letter", V.int 0])
  have g4 := Same.new hb2 (.tup [V.str "fun", .ref a2])
  have g5 := Same.new hb3 (.tup [V.str "fun", nv])
  have g6 := Same.new hl3 (.lst [.ref b1, .ref b2, .ref b3])
  have g56 := g5.trans g6
  have g46 := g4.trans g56
  have g36 := g3.trans g46
  have g26 := g2.trans g36
  have g16 := g1.trans g26
  have n1 : NAt K _ (.ref b1) (.fn (.ltr true)) := NAt.w1 rfl (SqT.of (g36 _ _ upd_same)) (KAt.mk_ltr (b := true) (SqT.of (g26 _ _ upd_same)))
  have n2 : NAt K _ (.ref b2) (.fn (.ltr false)) := NAt.w1 rfl (SqT.of (g56 _ _ upd_same)) (KAt.mk_ltr (b := false) (SqT.of (g46 _ _ upd_same)))
  have n3 : NAt K _ (.ref b3) (.fn near) := NAt.w1 rfl (SqT.of (g6 _ _ upd_same)) (nn4.tk (TK.of g16))
  have q1 := hp4.same g16
  have l3' : NLs K _ p (.ref l3) [.fn (.ltr true), .fn (.ltr false), .fn near] := ⟨l3, _, rfl, (hp4.same (g1.trans (g2.trans (g3.trans (g4.trans g5))))).ne hl3, upd_same, .cons n1 (.cons n2 (.cons n3 .nil))⟩
  refine cat_n l3' ⟨lb, bs, rfl, nlb, g16 _ _ hb4, bn4.tk (TK.of g16)⟩ q1 (by simp only [List.length_cons, List.length_nil]; omega) fun pv H5 e5 hp5 np5 => ?_
  obtain ⟨lp, xs, rfl, nlp, hp6, pn5⟩ := np5
  have g15 := g16.trans e5
  have nn5 := nn4.tk (TK.of g15)
  have kk5 := kk4.tk (TK.of g15)
  have hb5 := g15 _ _ hb4
  have bn5 := bn4.tk (TK.of g15)
  clear g1 g2 g3 g4 g5 g6 g56 g46 g36 g26 n1 n2 n3 l3' q1
  refine ⟨fits2, fun c1 hc1 => ⟨fits2, fun c2 hc2 => ⟨_, rfl, _, rfl, fits3, fun c3 hc3 => ⟨fits3, fun c4 hc4 => ⟨fits3, fun c5 hc5 => ?_⟩⟩⟩⟩⟩
  have g1 := Same.new hc1 (.tup [V.str "letter", V.int 1])
  have g2 := Same.new hc2 (.tup [V.str "letter", V.int 0])
  have g3 := Same.new hc3 (.tup [V.str "fun", nv, kv])
  have g4 := Same.new hc4 (.tup [V.str "fun", .ref c2, .ref c3])
  have g5 := Same.new hc5 (.tup [V.str "fun", .ref c1, .ref c4])
  have g45 := g4.trans g5
  have g35 := g3.trans g45
  have g25 := g2.trans g35
  have g15' := g1.trans g25
  have dk : KAt K _ (.ref c5) (due near k) := KAt.mk_br (w := .fn) (SqT.of upd_same) (KAt.mk_ltr (b := true) (SqT.of (g25 _ _ upd_same))) (KAt.mk_br (w := .fn) (SqT.of (g5 _ _ upd_same)) (KAt.mk_ltr (b := false) (SqT.of (g35 _ _ upd_same))) (KAt.mk_br (w := .fn) (SqT.of (g45 _ _ upd_same)) (nn5.tk (TK.of g15')) (kk5.tk (TK.of g15'))))
  have B : Bn K _ p lp lb xs bs (prog near t).flat t.flat (.ref c5) (due near k) := ⟨hp5.same g15', nlp, nlb, g15' _ _ hp6, pn5.tk (TK.of g15'), g15' _ _ hb5, bn5.tk (TK.of g15'), dk⟩
  clear dk hb5 bn5 hp6 pn5 kk5 nn5
  have du5 : PK (due near k) := by
    have a := within1 nw
    have b := within1 kw
    exact ⟨by simp only [due, Kd.size]; omega, by simp only [due, Kd.deep]; omega⟩
  obtain ⟨ks', ty'⟩ := ty.prog nw kw
  have len' : (prog near t).flat.length ≤ 110 := by
    simp only [prog, Tm.flat, List.length_cons]
    omega
  have is' := ty'.isT (fun _ => PK.ok) (by omega)
  have kn' := ty'.kinds fun _ => PK.ok
  have hd' : (ks'.map some).head? = some (some (due near k)) := by rw [List.head?_map, ty'.head]; rfl
  have shd := shp_dK (show (due near k).deep ≤ 64 by have := du5.2; omega)
  have mv : ∀ (b : Bool) (o : Kd), Kd.within 1 o → (∀ n ∈ (prog near t).flat, n.small b o) ∧ K17.isT (((prog near t).flat.map (Nd.put b o)).map some) = true ∧ ∃ ks2, kindsOf [] ((prog near t).flat.map (Nd.put b o)) = some ks2 ∧ ks2.head? = some (some (Kd.put b o (due near k))) := fun b o wo => by
    have z := ty'.put (P' := fun q => okK q = true) (b := b) (o := o) fun q hq => put_PK hq wo
    rw [← put_flat]
    refine ⟨ty'.small wo, z.isT (fun _ h => h) ?_, _, z.kinds fun _ h => h, by rw [List.head?_map, z.head]; rfl⟩
    rw [put_flat, List.length_map]
    omega
  generalize (prog near t).flat = ns at *
  generalize upd (upd (upd (upd (upd H5 c1 (.tup [V.str "letter", V.int 1])) c2 (.tup [V.str "letter", V.int 0])) c3 (.tup [V.str "fun", nv, kv])) c4 (.tup [V.str "fun", .ref c2, .ref c3])) c5 (.tup [V.str "fun", .ref c1, .ref c4]) = H6 at *
  have isp : isP (ns.map some) = true := by
    unfold isP
    rw [is', nodes_of, kn']
    rfl
  have eqd : ∀ {A C : Prop}, C → if (!PyData.eqv (dK (due near k)) (dK (due near k))) = true then A else C := fun c => by
    rw [eqv_dK, decide_eq_true rfl]
    exact ifF rfl c
  refine ⟨_, rfl, _, rfl, .inl ⟨lp, xs, _, rfl, .inl (SqL.of B.pr), EsAt.of B.pn, fun H7 e7 => ⟨_, true, rfl, rfl, _, rfl, ?_⟩⟩⟩
  rw [isp]
  have B7 := B.same e7
  refine ifF rfl ⟨_, rfl, _, rfl, lp, xs, ns, _, _, rfl, .inl (SqL.of B7.pr), B7.pn, is', kn', hd', fun v8 H8 e8 k8 => ?_⟩
  have B8 := B7.same e8
  refine ⟨_, rfl, dK (due near k), dK (due near k), k8, B8.du, shd, shd, _, rfl, eqd ?_⟩
  refine ⟨fits0, fun L9 h9 => ?_⟩
  have e9 := Same.new h9 (.lst [])
  have B9 := B8.same e9
  refine ⟨_, rfl, _, _, rfl, [], ns, _, _, ⟨⟨L9, [], rfl, .inl (SqL.of upd_same), .nil⟩, by decide, by simp, ⟨lp, xs, rfl, .inl (SqL.of B9.pr), B9.pn⟩, is'⟩, kn', hd', fun v10 H10 e10 k10 => ?_⟩
  have B10 := B9.same e10
  refine ⟨_, rfl, dK (due near k), dK (due near k), k10, B10.du, shd, shd, _, rfl, eqd ?_⟩
  refine ⟨_, rfl, lp, xs, rfl, .inl ⟨SqL.of B10.pr, fun L11 h11 => ?_⟩⟩
  have e11 := Same.new h11 (.tup xs)
  have B11 := B10.same e11
  refine ⟨_, rfl, L11, xs, ns, _, _, rfl, .inr (SqT.of upd_same), B11.pn, is', kn', hd', fun v12 H12 e12 k12 => ?_⟩
  have B12 := B11.same e12
  refine ⟨_, rfl, dK (due near k), dK (due near k), k12, B12.du, shd, shd, _, rfl, eqd ?_⟩
  clear B B7 B8 B9 B10 B11 e7 e8 e9 e10 e11 e12
  -- the draw
  refine ⟨_, rfl, _, rfl, _, _, rfl, lenL (SqL.of B12.pr), _, _, rfl, p, xs.length, rfl, rfl, ?_, ?_, B12.pot, fun at' H13 lat s13 hp13 => ?_⟩
  · rw [B12.pn.length]
    exact (isT_okN is').2.1
  · rw [B12.pn.length]
    omega
  have B13 := B12.sb s13 hp13
  dsimp only [gName]
  refine asg_split (fun v H' => ∃ L vals, v = .ref L ∧ H' L = some (.lst vals) ∧ Same H13 H' ∧ (∀ x ∈ vals, Jd K H' x) ∧ vals.length = 14) (fun Q2 hQ => ?_) ?_
  · have cutJ : ∀ {H' : Hp} {l : Addr} {ys : List V} (lo hi : Option Int), H' l = some (.lst (cutV ys lo hi)) → (∃ ms, NsAt K H' ys ms) → Jd K H' (.ref l) := fun lo hi e z => by
      obtain ⟨ms, z⟩ := z
      obtain ⟨ms', z'⟩ := z.cut lo hi
      exact Jd.lst e z'
    refine ⟨_, rfl, _, rfl, _, rfl, lp, xs, rfl, SqL.of B13.pr, fun s1 hs1 => ?_⟩
    have E1 := Same.new hs1 (.lst (cutV xs (some 1) none))
    have C1 := B13.same E1
    have J1 : Jd K _ (.ref s1) := cutJ _ _ upd_same ⟨_, C1.pn⟩
    refine ⟨_, rfl, _, rfl, lp, xs, rfl, SqL.of C1.pr, fun s2 hs2 => ?_⟩
    have E2 := Same.new hs2 (.lst (cutV xs (some 2) none))
    have C2 := C1.same E2
    have J2 : Jd K _ (.ref s2) := cutJ _ _ upd_same ⟨_, C2.pn⟩
    refine ⟨_, rfl, _, rfl, _, rfl, lp, xs, rfl, SqL.of C2.pr, fun s3 hs3 => ?_⟩
    have E3 := Same.new hs3 (.lst (cutV xs none (some (at' : Int))))
    have C3 := C2.same E3
    refine ⟨fits2, fun t4 ht4 => ⟨fits1, fun l5 hl5 => ?_⟩⟩
    have E4 := Same.new ht4 (.tup [V.str "told", V.int 1])
    have E5 := Same.new hl5 (.lst [V.ref t4])
    have C5 := C3.same (E4.trans E5)
    have lx : xs.length ≤ 110 := by rw [B13.pn.length]; exact len'
    have bg : ∀ {n : Nat}, n ≤ 1000 → n ≤ sizeLine := fun h => by rw [line_eq]; omega
    refine ⟨s3, l5, _, _, rfl, rfl, (E4.trans E5) _ _ upd_same, upd_same, bg ?_, fun c6 hc6 => ?_⟩
    · have := cutV_length xs none (some (at' : Int))
      simp only [List.length_append, List.length_cons, List.length_nil]
      omega
    have E6 := Same.new hc6 (.lst (cutV xs none (some (at' : Int)) ++ [V.ref t4]))
    have C6 := C5.same E6
    refine ⟨_, rfl, _, rfl, _, _, rfl, rfl, _, rfl, lp, xs, rfl, SqL.of C6.pr, fun s7 hs7 => ?_⟩
    have E7 := Same.new hs7 (.lst (cutV xs (some ((at' : Int) + 1)) none))
    have C7 := C6.same E7
    refine ⟨c6, s7, _, _, rfl, rfl, E7 _ _ upd_same, upd_same, bg ?_, fun c8 hc8 => ?_⟩
    · have := cutV_length xs none (some (at' : Int))
      have := cutV_length xs (some ((at' : Int) + 1)) none
      simp only [List.length_append, List.length_cons, List.length_nil]
      omega
    have E8 := Same.new hc8 (.lst ((cutV xs none (some (at' : Int)) ++ [V.ref t4]) ++ cutV xs (some ((at' : Int) + 1)) none))
    have C8 := C7.same E8
    have t1 := NAt.tk (NAt.wi (K := K) (n := .told 1) (a := t4) (i := 1) rfl (SqT.of upd_same)) (TK.of (E5.trans (E6.trans (E7.trans E8))))
    have J8 := Jd.lst (a := c8) upd_same (((C8.pn.cut none (some (at' : Int))).choose_spec.app (NsAt.one t1)).app (C8.pn.cut (some ((at' : Int) + 1)) none).choose_spec)
    refine ⟨_, rfl, _, rfl, _, rfl, lp, xs, rfl, SqL.of C8.pr, fun s9 hs9 => ?_⟩
    have E9 := Same.new hs9 (.lst (cutV xs none (some (-1))))
    have C9 := C8.same E9
    have J9 : Jd K _ (.ref s9) := cutJ _ _ upd_same ⟨_, C9.pn⟩
    refine ⟨_, rfl, fits1, fun s10 hs10 => ?_⟩
    have E10 := Same.new hs10 (.lst [V.ref lp])
    have C10 := C9.same E10
    have J10 : Jd K _ (.ref s10) := .inl ⟨s10, _, [none], rfl, .inl (SqL.of upd_same), .cons ⟨lp, xs, rfl, SqL.of C10.pr⟩ .nil⟩
    refine fun d11 hd11 => ⟨fits0, fun s12 hs12 => ⟨fits2, fun t13 ht13 => ⟨fits1, fun s14 hs14 => ?_⟩⟩⟩
    have E11 := Same.new hd11 (.dK [])
    have E12 := Same.new hs12 (.lst [])
    have E13 := Same.new ht13 (.tup [V.str "name", V.int 0])
    have E14 := Same.new hs14 (.lst [V.ref t13])
    have C14 := C10.same (E11.trans (E12.trans (E13.trans E14)))
    refine ⟨_, rfl, lp, xs, rfl, .inl ⟨SqL.of C14.pr, fun s15 hs15 => ?_⟩⟩
    have E15 := Same.new hs15 (.tup xs)
    have C15 := C14.same E15
    refine ⟨(by decide : 14 ≤ sizeLine), fun L hL => ?_⟩
    have E16 := Same.new hL (.lst [V.ref lb, .ref s1, .ref s2, .ref c8, .ref s9, .ref s10, .non, .int 5, .str "", .ref d11, .bl true, .ref s12, .ref s14, .ref s15])
    have C16 := C15.same E16
    have G15 := E15.trans E16
    have G13 := E13.trans (E14.trans G15)
    have G12 := E12.trans G13
    have G11 := E11.trans G12
    have G10 := E10.trans G11
    have G9 := E9.trans G10
    have G3 := E3.trans (E4.trans (E5.trans (E6.trans (E7.trans (E8.trans G9)))))
    have G2 := E2.trans G3
    have nameZ := NAt.tk (NAt.wi (K := K) (n := .nm 0) (a := t13) (i := 0) rfl (SqT.of upd_same)) (TK.of (E14.trans G15))
    refine hQ _ _ ⟨L, _, rfl, upd_same, E1.trans G2, ?_, rfl⟩
    refine consAll (Jd.lst C16.br C16.bn) (consAll (J1.same G2) (consAll (J2.same G3) (consAll (J8.same G9) (consAll (J9.same G10) (consAll (J10.same G11) ?_)))))
    refine consAll (Jd.sc (t := "NoneType") (.base .non) (noLT (by decide +kernel) (by decide +kernel))) (consAll (Jd.sc (t := "int") (.base (.int _)) (noLT (by decide +kernel) (by decide +kernel))) (consAll (Jd.sc (t := "str") (.base (.str _)) (noLT (by decide +kernel) (by decide +kernel))) ?_))
    refine consAll (Jd.sc (t := "dict") (.base (.dK (G12 _ _ upd_same))) (noLT (by decide +kernel) (by decide +kernel))) (consAll (Jd.sc (t := "bool") (.base (.bl _)) (noLT (by decide +kernel) (by decide +kernel))) ?_)
    refine consAll (Jd.lst (xs := []) (ns := []) (G13 _ _ upd_same) .nil) (consAll (Jd.lst (G15 _ _ upd_same) (NsAt.one nameZ)) (oneAll ?_))
    exact .inl ⟨s15, xs, ns.map some, rfl, .inr (SqT.of (E16 _ _ upd_same)), EsAt.of C16.pn⟩
  rintro _ H14 ⟨L, vals, rfl, hL14, e14, js14, lv14⟩
  have B14 := B13.same e14
  dsimp only [tSeq]
  have lx : xs.length ≤ 110 := by rw [B14.pn.length]; exact len'
  have bg : ∀ {n : Nat}, n ≤ 1000 → n ≤ sizeLine := fun h => by rw [line_eq]; omega
  refine for_via ⟨_, rfl, fits2, fun t1 ht1 => ⟨fits1, fun s2 hs2 => ⟨fits1, fun t3 ht3 => ⟨fits2, fun t4 ht4 => ⟨fits2, fun s5 hs5 => ⟨_, rfl, fits2, fun t6 ht6 => ⟨fits1, fun s7 hs7 => ?_⟩⟩⟩⟩⟩⟩⟩
  have E1 := Same.new ht1 (.tup [V.str "told", V.int 7])
  have E2 := Same.new hs2 (.lst [V.ref t1])
  have E3 := Same.new ht3 (.tup [V.str "next"])
  have E4 := Same.new ht4 (.tup [V.str "told", V.bl true])
  have E5 := Same.new hs5 (.lst [V.ref t3, V.ref t4])
  have E6 := Same.new ht6 (.tup [V.str "told", V.int 1])
  have E7 := Same.new hs7 (.lst [V.ref t6])
  have G27 := E2.trans (E3.trans (E4.trans (E5.trans (E6.trans E7))))
  have B15 := B14.same (E1.trans G27)
  refine ⟨lp, s7, _, _, rfl, rfl, B15.pr, upd_same, bg (by simp only [List.length_append, List.length_cons, List.length_nil]; omega), fun s8 hs8 => ⟨fits3, fun s9 hs9 => ?_⟩⟩
  have E8 := Same.new hs8 (.lst (xs ++ [V.ref t6]))
  have E9 := Same.new hs9 (.lst [V.ref s2, V.ref s5, V.ref s8])
  have E89 := E8.trans E9
  refine ⟨L, s9, _, _, rfl, rfl, ((E1.trans G27).trans E89) _ _ hL14, upd_same, bg (by simp only [List.length_append, List.length_cons, List.length_nil]; omega), fun s10 hs10 => ?_⟩
  have E10 := Same.new hs10 (.lst (vals ++ [V.ref s2, V.ref s5, V.ref s8]))
  have E810 := E89.trans E10
  have B16 := B15.same E810
  have n1 := NAt.tk (NAt.wi (K := K) (n := .told 7) (a := t1) (i := 7) rfl (SqT.of upd_same)) (TK.of (G27.trans E810))
  have n3 := NAt.tk (NAt.w0 (K := K) (n := .next) (a := t3) rfl (SqT.of upd_same)) (TK.of (E4.trans (E5.trans (E6.trans (E7.trans E810)))))
  have n4 := NAt.tk (NAt.wb (K := K) (a := t4) (SqT.of upd_same)) (TK.of (E5.trans (E6.trans (E7.trans E810))))
  have n6 := NAt.tk (NAt.wi (K := K) (n := .told 1) (a := t6) (i := 1) rfl (SqT.of upd_same)) (TK.of (E7.trans E810))
  have js : ∀ x ∈ vals ++ [V.ref s2, V.ref s5, V.ref s8], Jd K _ x := appAll (fun x hx => (js14 x hx).same ((E1.trans G27).trans E810))
    (consAll (Jd.lst ((E3.trans (E4.trans (E5.trans (E6.trans (E7.trans E810))))) _ _ upd_same) (NsAt.one n1)) (consAll (Jd.lst (ns := [.next, .toldT]) ((E6.trans (E7.trans E810)) _ _ upd_same) (.cons n3 (.cons n4 .nil))) (oneAll (Jd.lst ((E9.trans E10) _ _ upd_same) (B16.pn.app (NsAt.one n6))))))
  have hL16 := upd_same (H := upd (upd (upd (upd (upd (upd (upd (upd (upd H14 t1 (.tup [V.str "told", V.int 7])) s2 (.lst [V.ref t1])) t3 (.tup [V.str "next"])) t4 (.tup [V.str "told", V.bl true])) s5 (.lst [V.ref t3, V.ref t4])) t6 (.tup [V.str "told", V.int 1])) s7 (.lst [V.ref t6])) s8 (.lst (xs ++ [V.ref t6]))) s9 (.lst [V.ref s2, V.ref s5, V.ref s8])) (a := s10) (o := .lst (vals ++ [V.ref s2, V.ref s5, V.ref s8]))
  clear n1 n3 n4 n6 E10 E810 E89 E8 E9 B15 G27 E1 E2 E3 E4 E5 E6 E7
  generalize upd (upd (upd (upd (upd (upd (upd (upd (upd (upd H14 t1 (.tup [V.str "told", V.int 7])) s2 (.lst [V.ref t1])) t3 (.tup [V.str "next"])) t4 (.tup [V.str "told", V.bl true])) s5 (.lst [V.ref t3, V.ref t4])) t6 (.tup [V.str "told", V.int 1])) s7 (.lst [V.ref t6])) s8 (.lst (xs ++ [V.ref t6]))) s9 (.lst [V.ref s2, V.ref s5, V.ref s8])) s10 (.lst (vals ++ [V.ref s2, V.ref s5, V.ref s8])) = H16 at *
  refine for_seq (a := s10) (xs := vals ++ [V.ref s2, V.ref s5, V.ref s8]) (fun _ z => z) (fun i σ H' => ∃ (o8 o9 : Option V), Same H16 H' ∧ σ = [some (.ref p), some kv, some nv, some (.ref lb), some (.ref lp), some (.ref c5), some (.int (at' : Nat)), some (.ref L), o8, o9, none, none, none])
    (.inl (SqL.of hL16)) ⟨none, none, fun _ _ z => z, rfl⟩ (fun i σ H' _ p => .inl p.choose_spec.choose_spec.1) ?_ ?_
  · rintro i x σ H' hx ⟨o8, o9, sm, rfl⟩
    obtain ⟨b, wh⟩ := ((js x (List.mem_of_getElem? hx)).same sm).wh
    refine asg_split (fun v H' => Same H16 H' ∧ v = .bl b ∧ Wh K H' x b) (fun Q2 hQ => ?_) ?_
    · rcases wh with ⟨a, ys, es, rfl, hs, he, rfl⟩ | ⟨hn, rfl⟩
      · refine ⟨_, rfl, _, rfl, .inl ⟨a, ys, es, rfl, hs, he, fun H1 e1 => ⟨_, rfl, ?_⟩⟩⟩
        cases ht : isT es with
        | false =>
          have z : isP es = false := by
            unfold isP
            rw [ht]
            rfl
          rw [z] at hQ
          exact iteF (hQ _ _ ⟨sm.trans e1, rfl, .inl ⟨a, ys, es, rfl, SqS.same e1 hs, EsAt.same e1 he, z.symm⟩⟩)
        | true =>
          obtain ⟨t1, t2, t3⟩ := isT_nodes ht
          refine iteT ⟨fits0, fun L1 hL1 => ?_⟩
          have e2 := Same.new hL1 (.lst [])
          have e12 := e1.trans e2
          refine ⟨_, rfl, _, _, rfl, [], es.filterMap id, ⟨⟨L1, [], rfl, .inl (SqL.of upd_same), .nil⟩, by decide, by simp, ⟨a, ys, rfl, SqS.same e12 hs, EsAt.nodes (EsAt.same e12 he) t1⟩, by rw [okE_some t1]; exact ht⟩, fun H3 e3 => ?_⟩
          have z : isP es = (kindsOf [] (es.filterMap id)).isSome := by
            unfold isP
            rw [ht, Bool.true_and]
          have e13 := e12.trans e3
          exact hQ _ _ ⟨sm.trans e13, congrArg V.bl z.symm, .inl ⟨a, ys, es, rfl, SqS.same e13 hs, EsAt.same e13 he, rfl⟩⟩
      · exact ⟨_, rfl, _, rfl, .inr ⟨hn, fun H1 e1 => ⟨_, rfl, iteF (hQ _ _ ⟨sm.trans e1, rfl, .inr ⟨NoSeq.same e1 hn, rfl⟩⟩)⟩⟩⟩
    · rintro _ H1 ⟨sm1, rfl, wh1⟩
      have sh : (PyData.list [.bool b, .bool b]).showable = true := by cases b <;> decide +kernel
      have nd : (PyData.list [.bool b, .bool b]).hasDict = false := by cases b <;> decide +kernel
      have dp : (PyData.list [.bool b, .bool b]).depth ≤ 60 := by cases b <;> decide +kernel
      have sl : (PyData.list [.bool b, .bool b]).shown.length ≤ sizeLine := by cases b <;> decide +kernel
      refine ⟨_, rfl, _, rfl, wh1.prog fun H2 e2 => ⟨_, rfl, _, rfl, (wh1.same e2).prog fun H3 e3 => ⟨fits2, fun l4 hl4 => ?_⟩⟩⟩
      have e4 := Same.new hl4 (.lst [V.bl b, V.bl b])
      refine ⟨l4, .list [.bool b, .bool b], rfl, .lst (SqL.of upd_same) (.cons (.bl _) (.cons (.bl _) .nil)), sh, nd, dp, sl, ?_⟩
      refine ⟨_, rfl, _, rfl, fits2, fun l5 hl5 => ?_⟩
      have e5 := Same.new hl5 (.lst [V.bl b, V.bl b])
      refine ⟨l5, .list [.bool b, .bool b], rfl, .lst (SqL.of upd_same) (.cons (.bl _) (.cons (.bl _) .nil)), sh, nd, dp, sl, rfl, _, rfl, ?_⟩
      rw [decide_eq_true rfl]
      exact ifF rfl ⟨_, _, sm1.trans (e2.trans (e3.trans (e4.trans e5))), rfl⟩
  · rintro σ H17 ⟨o8, o9, sm, rfl⟩
    have B17 := B16.same sm
    refine ⟨_, rfl, _, _, rfl, p, 2, rfl, rfl, by decide, by decide, B17.pot, fun g H18 hg s18 hp18 => ?_⟩
    have B18 := B17.sb s18 hp18
    refine ⟨_, rfl, _, _, rfl, p, 1, rfl, rfl, by decide, hp18, fun o ov H19 wo s19 hp19 ho19 => ⟨_, _, rfl, ?_⟩⟩
    have B19 := B18.sb s19 hp19
    obtain ⟨b, eb⟩ : ∃ b, ((g : Nat) : Int) = lv b := by
      have : g = 0 ∨ g = 1 := by omega
      rcases this with z | z
      · exact ⟨false, by rw [z]; rfl⟩
      · exact ⟨true, by rw [z]; rfl⟩
    obtain ⟨m1, m2, ks2, m3, m4⟩ := mv b o wo
    have mp' : isP ((ns.map (Nd.put b o)).map some) = true := by
      unfold isP
      rw [m2, nodes_of, m3]
      rfl
    have w1 := within1 wo
    refine ⟨_, rfl, _, rfl, _, rfl, _, _, _, rfl, lp, xs, ns, b, o, rfl, .inl (SqL.of B19.pr), B19.pn, is', congrArg V.int eb, ho19, by omega, by omega, m1, fun mp ys H20 e20 _ hm20 mn20 => ?_⟩
    have B20 := B19.same e20
    refine ⟨_, rfl, _, rfl, .inl ⟨mp, ys, _, rfl, .inl (SqL.of hm20), EsAt.of mn20, fun H21 e21 => ⟨_, true, rfl, rfl, _, rfl, ?_⟩⟩⟩
    rw [mp']
    have B21 := B20.same e21
    refine ifT rfl ⟨_, rfl, _, rfl, mp, ys, _, _, _, rfl, .inl (SqL.of (e21 _ _ hm20)), mn20.tk (TK.of e21), m2, m3, m4, fun v22 H22 e22 k22 => ?_⟩
    have B22 := B21.same e22
    have ho22 := ho19.tk (TK.of (e20.trans (e21.trans e22)))
    have okp : okK (Kd.put b o (due near k)) = true := put_PK du5 wo
    have shp' := shp_dK (show (Kd.put b o (due near k)).deep ≤ 64 by have := put_deep b o (due near k); have := du5.2; omega)
    have eqp : PyData.eqv (dK (Kd.put b o (due near k))) (dK (Kd.put b o (due near k))) = true := by rw [eqv_dK, decide_eq_true rfl]
    have d5 := du5.2
    have d11 := du5.1
    refine ⟨_, rfl, _, rfl, _, rfl, _, _, _, rfl, due near k, b, o, B22.du, congrArg V.int eb, ho22, by omega, by omega, by omega, by omega, okp, fun r23 H23 e23 k23 => ?_⟩
    have B23 := B22.same e23
    refine ⟨dK (Kd.put b o (due near k)), dK (Kd.put b o (due near k)), k22.tk (TK.of e23), k23, shp', shp', _, rfl, ?_⟩
    refine ifT eqp ⟨_, rfl, _, rfl, _, rfl, _, _, _, rfl, due near k, b, o, B23.du, congrArg V.int eb, ho22.tk (TK.of e23), by omega, by omega, fun r24 H24 e24 k24 => ?_⟩
    refine ⟨dK (Kd.put b o (due near k)), dK (Kd.put b o (due near k)), k23.tk (TK.of e24), k24, shp', shp', ?_⟩
    rw [eqp]
    exact q _
end
end K17
/-! KE6: the length of what repr writes of kinds; pairs put in order. -/
namespace K17
open PySem PySem.Spec PyProof.Rows L2
theorem listText_le (ts : List Str) : (listText ts).length ≤ piled ts + 2 := by
  cases ts with
  | nil => decide
  | cons t r =>
    have h := textFrom_length_pos r 1 (("[" : Str) ++ (if (0 : Nat) > 0 then ", " else "" : String) ++ t) (Nat.succ_pos 0)
    have e : ((("[" : Str) ++ (if (0 : Nat) > 0 then ", " else "" : String) ++ t)).length = 1 + t.length := by
      rw [strLen_append, strLen_append]; rfl
    have hX : (listText (t :: r)).length = (textFrom 0 "[" (t :: r)).length + 1 := by
      show (textFrom 0 "[" (t :: r) ++ "]").length = _
      rw [strLen_append]; rfl
    have hY : (textFrom 0 "[" (t :: r)).length = (textFrom 1 (("[" : Str) ++ (if (0 : Nat) > 0 then ", " else "" : String) ++ t) r).length := rfl
    rw [hX, hY, h, e, piled_cons]
    omega
theorem tupleText_le (ts : List Str) : (tupleText ts).length ≤ piled ts + 3 := by
  unfold tupleText
  rw [strLen_append, strLen_append]
  have e1 : ((("(" : String) : Str)).length = 1 := rfl
  have e3 : (((if ts.length == 1 then ",)" else ")" : String) : Str)).length ≤ 2 := by split <;> decide
  rw [e1]
  by_cases h : ts = []
  · subst h
    have e0 : (Str.join ", " ([] : List Str)).length = 0 := rfl
    rw [e0]
    omega
  · have := join_length_add ts h
    omega
theorem shown_dK : ∀ k : Kd, (dK k).shown.length ≤ 20 * k.size
  | .ltr b => by cases b <;> decide +kernel
  | .cnt => by decide +kernel
  | .br w a b => by
    have h1 := shown_dK a
    have h2 := shown_dK b
    have h3 : (PyData.str w.w.s).shown.length ≤ 6 := by cases w <;> decide +kernel
    have h4 := tupleText_le [(PyData.str w.w.s).shown, (dK a).shown, (dK b).shown]
    have e : (dK (.br w a b)).shown = tupleText [(PyData.str w.w.s).shown, (dK a).shown, (dK b).shown] := by
      rw [dK]
      simp only [PyData.shown, PyData.shownAll]
    rw [e]
    simp only [piled_cons, piled_nil] at h4
    simp only [Kd.size]
    omega
theorem shown_ks {m : Nat} : ∀ {ks : List Kd}, (∀ k ∈ ks, k.size ≤ m) → piled (PyData.shownAll (ks.map dK)) ≤ (20 * m + 2) * ks.length
  | [], _ => by simp [PyData.shownAll, piled]
  | k :: ks, h => by
    have ih := shown_ks (m := m) (ks := ks) fun q hq => h q (List.mem_cons_of_mem _ hq)
    have h1 := shown_dK k
    have h2 := h k List.mem_cons_self
    have h3 : 20 * k.size ≤ 20 * m := Nat.mul_le_mul_left _ h2
    simp only [List.map_cons, PyData.shownAll, piled_cons, List.length_cons]
    rw [Nat.mul_succ]
    omega
theorem shown_two {ks : List Kd} (h : ∀ k ∈ ks, k.size ≤ 11) (l : ks.length ≤ 1000) : (PyData.list [.list (ks.map dK), .list (ks.map dK)]).shown.length ≤ sizeLine := by
  have h1 := shown_ks h
  have h2 := listText_le (PyData.shownAll (ks.map dK))
  have e1 : (PyData.list (ks.map dK)).shown = listText (PyData.shownAll (ks.map dK)) := by simp only [PyData.shown]
  have e2 : (PyData.list [.list (ks.map dK), .list (ks.map dK)]).shown = listText [(PyData.list (ks.map dK)).shown, (PyData.list (ks.map dK)).shown] := by
    simp only [PyData.shown, PyData.shownAll]
  have h3 := listText_le [(PyData.list (ks.map dK)).shown, (PyData.list (ks.map dK)).shown]
  rw [e2]
  simp only [piled_cons, piled_nil] at h3
  rw [e1] at h3 ⊢
  have h4 : (20 * 11 + 2) * ks.length ≤ 222 * 1000 := Nat.mul_le_mul_left _ l
  rw [line_eq]
  omega
theorem showable_dK : ∀ k : Kd, (dK k).showable = true
  | .ltr b => by cases b <;> decide +kernel
  | .cnt => by decide +kernel
  | .br w a b => by
    have h3 : (PyData.str w.w.s).showable = true := by cases w <;> decide +kernel
    rw [dK]
    simp only [PyData.showable, PyData.showableAll, showable_dK a, showable_dK b]
    simp only [PyData.showable] at h3
    simp [h3]
theorem showable_ks : ∀ ks : List Kd, PyData.showableAll (ks.map dK) = true
  | [] => rfl
  | k :: ks => by simp [PyData.showableAll, showable_dK k, showable_ks ks]
theorem noDict_dK : ∀ k : Kd, (dK k).hasDict = false
  | .ltr b => by cases b <;> decide +kernel
  | .cnt => by decide +kernel
  | .br w a b => by
    rw [dK]
    simp [PyData.hasDict, PyData.hasDictAll, noDict_dK a, noDict_dK b]
theorem noDict_ks : ∀ ks : List Kd, PyData.hasDictAll (ks.map dK) = false
  | [] => rfl
  | k :: ks => by simp [PyData.hasDictAll, noDict_dK k, noDict_ks ks]
theorem two_ok {ks : List Kd} (h : ∀ k ∈ ks, k.deep ≤ 5) : (PyData.list [.list (ks.map dK), .list (ks.map dK)]).showable = true ∧ (PyData.list [.list (ks.map dK), .list (ks.map dK)]).hasDict = false ∧ (PyData.list [.list (ks.map dK), .list (ks.map dK)]).depth ≤ 60 := by
  refine ⟨?_, ?_, ?_⟩
  · simp [PyData.showable, PyData.showableAll, showable_ks]
  · simp [PyData.hasDict, PyData.hasDictAll, noDict_ks]
  · have := deps_dK h
    simp only [PyData.depth, PyData.depthAll]
    omega
/-! ### in order -/
theorem perm_lift {α β : Type} (f : α → β) : ∀ {m l : List β}, m.Perm l → ∀ {t : List α}, m = t.map f → ∃ t', t.Perm t' ∧ t'.map f = l := by
  intro m l h
  induction h with
  | nil =>
    intro t e
    cases t with
    | nil => exact ⟨[], .nil, rfl⟩
    | cons a t => cases e
  | cons x _ ih =>
    intro t e
    cases t with
    | nil => cases e
    | cons a t =>
      injection e with e1 e2
      obtain ⟨t', h1, h2⟩ := ih e2
      exact ⟨a :: t', h1.cons a, by rw [List.map_cons, h2, e1]⟩
  | swap x y l =>
    intro t e
    match t, e with
    | [], e => cases e
    | [a], e => cases e
    | a :: b :: t, e =>
      injection e with e1 e2
      injection e2 with e2 e3
      exact ⟨b :: a :: t, .swap b a t, by rw [List.map_cons, List.map_cons, ← e1, ← e2, ← e3]⟩
  | trans _ _ ih1 ih2 =>
    intro t e
    obtain ⟨t1, h1, h2⟩ := ih1 e
    obtain ⟨t2, h3, h4⟩ := ih2 h2.symm
    exact ⟨t2, h1.trans h3, h4⟩
theorem zipI_mem : ∀ {ks : List Kd} {b : Nat} {p : Nat × Kd}, p ∈ zipI b ks → b ≤ p.1 ∧ ks[p.1 - b]? = some p.2
  | [], b, p, h => by cases h
  | k :: ks, b, p, h => by
    rcases List.mem_cons.mp h with rfl | h
    · exact ⟨Nat.le_refl _, by simp⟩
    · obtain ⟨h1, h2⟩ := zipI_mem h
      have e : p.1 - b = (p.1 - (b + 1)) + 1 := by omega
      exact ⟨by omega, by rw [e, List.getElem?_cons_succ]; exact h2⟩
theorem zipI_sort : ∀ (ks : List Kd) (b : Nat), (zipI b ks).Pairwise fun p q => p.1 ≤ q.1
  | [], b => .nil
  | k :: ks, b => .cons (fun q hq => by
      have := (zipI_mem hq).1
      omega) (zipI_sort ks (b + 1))
/-- sorted by their numbers, they stand in their order -/
theorem in_order {ps qs : List (Nat × Kd)} {ks : List Kd} {b : Nat} (h : ps.Perm (zipI b ks)) (g : ps.Perm qs) (s : qs.Pairwise fun p q => p.1 ≤ q.1) : qs = zipI b ks := by
  refine List.Perm.eq_of_pairwise (le := fun p q => p.1 ≤ q.1) (fun p q hp hq h1 h2 => ?_) s (zipI_sort ks b) (g.symm.trans h)
  have m1 := zipI_mem ((g.symm.trans h).mem_iff.mp hp)
  have m2 := zipI_mem hq
  have e : p.1 = q.1 := Nat.le_antisymm h1 h2
  have e2 : some p.2 = some q.2 := by rw [← m1.2, ← m2.2, e]
  exact Prod.ext e (Option.some.inj e2)
theorem zipI_snd : ∀ (ks : List Kd) (b : Nat), (zipI b ks).map (·.2) = ks
  | [], b => rfl
  | k :: ks, b => by rw [zipI, List.map_cons, zipI_snd ks (b + 1)]
theorem zipI_len : ∀ (ks : List Kd) (b : Nat), (zipI b ks).length = ks.length
  | [], b => rfl
  | k :: ks, b => by rw [zipI, List.length_cons, List.length_cons, zipI_len ks (b + 1)]
/-- what the sorted list holds -/
theorem sorted_pairs {K : PySem.W.Frag} {H : Hp} {ws : List V} {ps : List (Nat × Kd)} {ks : List Kd} {qs : List (Int × V)} (h : DpAll K H ws (ps.map dP)) (hp : ps.Perm (zipI 0 ks)) (g : qs.Perm ((ps.map fun p => (p.1 : Int)).zip ws)) (s : qs.Pairwise fun a b => a.1 ≤ b.1) :
    DpAll K H (qs.map (·.2)) ((zipI 0 ks).map dP) := by
  have key : ∀ {ws : List V} {ps : List (Nat × Kd)}, DpAll K H ws (ps.map dP) → ∃ tr : List ((Nat × Kd) × V), tr.map (fun t => ((t.1.1 : Int), t.2)) = (ps.map fun p => (p.1 : Int)).zip ws ∧ tr.map (·.1) = ps ∧ ∀ t ∈ tr, Dp K H t.2 (dP t.1) := by
    intro ws ps h
    induction ps generalizing ws with
    | nil =>
      cases h
      exact ⟨[], rfl, rfl, fun t ht => by cases ht⟩
    | cons p ps ih =>
      cases h with
      | cons h1 h2 =>
        obtain ⟨tr, e1, e2, e3⟩ := ih h2
        exact ⟨(p, _) :: tr, by simp [e1], by simp [e2], consAll h1 e3⟩
  obtain ⟨tr, e1, e2, e3⟩ := key h
  obtain ⟨tr', p1, p2⟩ := perm_lift (fun t : (Nat × Kd) × V => ((t.1.1 : Int), t.2)) g.symm e1.symm
  have ord : tr'.map (·.1) = zipI 0 ks := by
    refine in_order hp ?_ ?_
    · rw [← e2]
      exact p1.map _
    · rw [← p2, List.pairwise_map] at s
      rw [List.pairwise_map]
      exact s.imp fun {a b} z => by
        have z' : (a.1.1 : Int) ≤ (b.1.1 : Int) := z
        omega
  have e4 : qs.map (·.2) = tr'.map (·.2) := by
    rw [← p2, List.map_map]
    rfl
  have all' : ∀ t ∈ tr', Dp K H t.2 (dP t.1) := fun t ht => e3 t (p1.mem_iff.mpr ht)
  rw [e4, ← ord, List.map_map]
  clear ord e4 p1 p2 e1 e2 e3 s g
  induction tr' with
  | nil => exact .nil
  | cons t tr' ih => exact .cons (all' t List.mem_cons_self) (ih fun u hu => all' u (List.mem_cons_of_mem _ hu))
end K17
/-! K24: the law. -/
namespace K17
open PySem PySem.Spec PyProof.Rows L2
/-- a def whose code object is known -/
structure DfC (K : PySem.W.Frag) (mg : Str → Option Value) (x : Str) (st : Stmt) (c : Addr) : Prop where
  ex : ∃ (f : Addr) (oc : Value) (od : Option Addr) (kV doc pm : Value) (an : Option Addr) (ct : Value) (osl : Array (Option Value)), K.lookup f = some ⟨oc, od, .func (PySem.W.fnOf x x (defArgs st) (defBody st) (defScope st) .none kV doc pm an (.ref c) ct), osl⟩ ∧
    PySem.W.codeIn K (.ref c) x = true ∧ PySem.W.keepIn K (.ref f) = true ∧ mg x = some (.ref f)
theorem DfC.calG {P : Program} {w : World} {K : PySem.W.Frag} {mg : Str → Option Value} {base : Heap} {x : Str} {st : Stmt} {c : Addr} {N ps : List Str} {sp : Sp} {k : Nat} (D : DfC K mg x st c) (S : FnScope N ps (defScope st)) (hb : BindsS x st ps) (len : ∀ vs H Q E, sp vs H Q E → vs.length = ps.length)
    (body : ∀ (f : Addr) (A : Around) (outer : List Env) (s : Shared) (H : Hp) (vs : List V) (Q : VK) (E : XK), A.guards = some [] → Room k (A.deeper (envOfC x (defScope st) s.heap.objs.size f (.ref c))) → sp vs H Q E →
      ∃ t, PSs (cxOf CX0 P w K mg base N x (defScope st) f (.ref c) A outer s H E).nox (defBody st) t ∧ t { nx := fun _ H' => Q .non H', rt := Q } (L2.start N vs) H) : CalG P w K mg base x (k + 1) ps sp := by
  obtain ⟨f, oc, od, kV, doc, pm, an, ct, osl, lk, hcd, kp, g⟩ := D.ex
  have F : Fun K x x st f (PySem.W.fnOf x x (defArgs st) (defBody st) (defScope st) .none kV doc pm an (.ref c) ct) := ⟨⟨oc, od, kV, doc, pm, an, .ref c, ct, osl, rfl, lk, hcd⟩, kp⟩
  exact ⟨f, _, fn_mkG lk hcd S len (fun A outer s H vs Q E => body f A outer s H vs Q E), g, kp, F.binds hb⟩
theorem lc_via {K : PySem.W.Frag} {tl : TE} {g : TG} {tt : TT} {te : TE} {vs : List Nat} {σ : L2.St} {H : Hp} {Q : VK} (h : tl σ H fun x H1 => tLc (iSeq K (tC x)) g tt te vs σ H1 Q) : tLc (iSeq K tl) g tt te vs σ H Q := h
theorem b_fits_term_names : BindsK "fits" (top 71) ["names", "term"] ["term", "names"] flip2 := fun kV doc pm an cdv ct us hl => match us, hl with | [u, v], _ => rfl
theorem b_kind_of_term_names : BindsK "kind_of" (top 70) ["names", "term"] ["term", "names"] flip2 := fun kV doc pm an cdv ct us hl => match us, hl with | [u, v], _ => rfl
theorem b_kinds_at_term_names : BindsK "kinds_at" (top 72) ["names", "term"] ["term", "names"] flip2 := fun kV doc pm an cdv ct us hl => match us, hl with | [u, v], _ => rfl
theorem dP_at {K : PySem.W.Frag} {H : Hp} {v : V} {p : Nat × Kd} (h : Dp K H v (dP p)) : ∃ t y, v = .ref t ∧ SqT K H t [.int (p.1 : Int), y] ∧ KAt K H y p.2 := by
  have h' : Dp K H v (.tuple [.int p.1, dK p.2]) := h
  cases h' with
  | tup hs ha =>
    cases ha with
    | cons h1 h2 =>
      cases h2 with
      | cons h3 h4 =>
        cases h4
        cases h1
        exact ⟨_, _, rfl, hs, h3⟩
theorem KsAt.snoc1 {K : PySem.W.Frag} {H : Hp} {xs : List V} {x : V} {ks : List Kd} {k : Kd} (h : KsAt K H xs ks) (g : KAt K H x k) : KsAt K H (xs ++ [x]) (ks ++ [k]) := by
  show DpAll K H _ (List.map dK _)
  rw [List.map_append]
  exact DpAll.app h (.cons g .nil)
/-- what stays all along -/
structure Rn (K : PySem.W.Frag) (H : Hp) (p la lt : Addr) (nxs xs : List V) (row : List Kd) (ns : List Nd) (kv : V) (k : Kd) : Prop where
  pot : PotAt H p
  na : la ≠ p
  nt : lt ≠ p
  nm : H la = some (.lst nxs)
  nk : KsAt K H nxs row
  tm : H lt = some (.lst xs)
  tn : NsAt K H xs ns
  kd : KAt K H kv k
section
variable {K : PySem.W.Frag} {H H' : Hp} {P p la lt : Addr} {nxs xs : List V} {row : List Kd} {ns : List Nd} {kv : V} {k : Kd}
theorem tbl_ne {H : Hp} {p P : Addr} (h : PotAt H p) (t : H P = some (.tbl #[])) : P ≠ p := fun z => by
  obtain ⟨a, b, e, _⟩ := h
  rw [z, e] at t
  cases t
theorem Rn.sb (b : Rn K H p la lt nxs xs row ns kv k) (s : SB p H H') (h : PotAt H' p) : Rn K H' p la lt nxs xs row ns kv k :=
  ⟨h, b.na, b.nt, s _ _ b.na b.nm, b.nk.tk (b.pot.tk s), s _ _ b.nt b.tm, b.tn.tk (b.pot.tk s), b.kd.tk (b.pot.tk s)⟩
theorem Rn.same (b : Rn K H p la lt nxs xs row ns kv k) (s : Same H H') : Rn K H' p la lt nxs xs row ns kv k := b.sb (SB.of s) (b.pot.same s)
theorem Rn.sbS {S : Addr} {vs : List V} (b : Rn K H p la lt nxs xs row ns kv k) (s : SB S H H') (hS : H S = some (.lst vs)) (np : p ≠ S) (na : la ≠ S) (nt : lt ≠ S) : Rn K H' p la lt nxs xs row ns kv k := by
  have tk := s.tk hS rfl
  obtain ⟨x, y, e, r⟩ := b.pot
  exact ⟨⟨x, y, s _ _ np e, r⟩, b.na, b.nt, s _ _ na b.nm, b.nk.tk tk, s _ _ nt b.tm, b.tn.tk tk, b.kd.tk tk⟩
theorem Rn.ext (b : Rn K H p la lt nxs xs row ns kv k) (s : LamX.ExtN H H') : Rn K H' p la lt nxs xs row ns kv k := by
  have tk : TK H H' := fun b o e t => s b o e fun z q => by
    rw [q] at t
    cases t
  obtain ⟨x, y, e, r⟩ := b.pot
  exact ⟨⟨x, y, s _ _ e (fun _ z => by cases z), r⟩, b.na, b.nt, s _ _ b.nm (fun _ z => by cases z), b.nk.tk tk, s _ _ b.tm (fun _ z => by cases z), b.tn.tk tk, b.kd.tk tk⟩
end
section
variable {P : Program} {w : World} {K : PySem.W.Frag} {mg : Str → Option Value} {base : Heap} {fr nk nkI : Addr} {fd : FuncData}
abbrev N__law_right : List Str := ["_law_pot_here", "_law_names", "_law_kind_here", "_law_seen", "_law_term", "_law_due", "_law_told", "_law_at", "_law_one"]
theorem sc__law_right : FnScope N__law_right ["_law_pot_here"] (defScope (top 92)) := ⟨rfl, rfl, rfl, by decide +kernel, rfl, by decide +kernel, by decide +kernel⟩
def gLRight (tP : Addr) : G1 := fun v H Q _ => ∃ p, v = .ref p ∧ PotAt H p ∧ H tP = some (.tbl #[]) ∧ ∀ H', Q (.bl true) H'
theorem ok__law_right {c tP : Addr} (T : Txt K w mg fr fd nk nkI) (D : DfC K mg "_law_right" (top 92) c) (TB : LamX.TabB base mg c tP) (D_fits : Df K mg "fits" (top 71)) (D_kind_of : Df K mg "kind_of" (top 70)) (D_kinds_at : Df K mg "kinds_at" (top 72))
    (c__law_kind : Cal P w K mg base CX0 "_law_kind" 4 ["_law_pot_here", "_law_deep_here"] (sp2 (gLKind K 4))) (c__law_made : Cal P w K mg base CX0 "_law_made" 10 psM (sp4 (gMade K 10)))
    (c__law_fit : Cal P w K mg base CX0 "_law_fit" 120 ["_law_tree", "_law_names", "_law_seen"] (sp3 (gFit K 120))) (c__law_read : Cal P w K mg base CX0 "_law_read" 120 ["_law_nodes", "_law_begin"] (sp2 (gRead K 120)))
    (c_kind_of : Cal P w K mg base CX0 "kind_of" 9 ["names", "term"] (sp2 (gKindOf K))) (c_fits : Cal P w K mg base CX0 "fits" 10 ["names", "term"] (sp2 (gFits K))) (c_kinds_at : Cal P w K mg base CX0 "kinds_at" 9 ["names", "term"] (sp2 (gKindsAt K)))
    (c__law_programs_right : CalG P w K mg base "_law_programs_right" 15 ["_law_pot_here"] (sp1 gRight)) :
    CalG P w K mg base "_law_right" 121 ["_law_pot_here"] (sp1 (gLRight tP)) := by
  refine D.calG sc__law_right (bs1 fun _ _ _ _ _ _ _ => rfl) sp1_len fun f A outer s H vs Q E noG hr h => ?_
  obtain ⟨_, rfl, p, rfl, hp, hT, q⟩ := h
  refine ⟨_, (pss_cons (ps_par3 (i := 1) (j := 2) (l := 3) rfl sc__law_right.nd rfl rfl rfl (by decide) (by decide) (by decide) rfl rfl rfl (pa_cons (pe_lst (pa_cons (pe_cal c__law_kind (hr.mono (by omega)) rfl pass0 (pa_cons (pv 0) (pa_cons pe_int pa_nil))) (pa_cons (pe_cal c__law_kind (hr.mono (by omega)) rfl pass0 (pa_cons (pv 0) (pa_cons pe_int pa_nil))) (pa_cons (pe_tup (pa_cons pe_str (pa_cons pe_int pa_nil))) (pa_cons (pe_tup (pa_cons pe_str (pa_cons pe_int pa_nil))) pa_nil))))) (pa_cons (pe_cal c__law_kind (hr.mono (by omega)) rfl pass0 (pa_cons (pv 0) (pa_cons pe_int pa_nil))) (pa_cons (pe_lst pa_nil) pa_nil))) (by rfl))
    (pss_cons (ps_set (i := 4) sc__law_right.nd rfl (Or.inl rfl) (pe_cal c__law_made (hr.mono (by omega)) rfl pass0 (pa_cons (pv 0) (pa_cons (pv 2) (pa_cons (pv 1) (pa_cons pe_int pa_nil))))))
    (pss_cons (ps_if (pt_cmpR (op_neD hr.units) (pe_cal c__law_fit (hr.mono (by omega)) rfl pass0 (pa_cons (pe_ix ix_tup (pe_cal c__law_read (hr.mono (by omega)) rfl pass0 (pa_cons (pv 4) (pa_cons pe_int pa_nil))) pe_int (fun _ _ => rfl)) (pa_cons (pv 1) (pa_cons (pv 3) pa_nil)))) (pv 2) (by rfl)) 
      (pss_one (ps_ret pe_bl)) pss_nil)
    (pss_cons (ps_setLc (i := 5) (own := [("_law_at", 7), ("_law_one", 8)]) rfl sc__law_right.nd rfl rfl (sw_true rfl rfl rfl (by decide +kernel)) (pi_seq (pe_sortKey TB rfl rfl (hr.mono (by omega)) rfl T.sorted (pa_cons (pv 3) pa_nil) rfl (fun _ _ _ _ _ => rfl) rfl)) (blkOk_by (own := [("_law_at", 7), ("_law_one", 8)]) (N := N__law_right) (sc := defScope (top 92)) (by decide +kernel)) (fun _ _ _ _ _ => (show PG _ _ (gTup K 2 _) from pg_tup rfl (pgs_cons (pg_name (i := 7) sc__law_right.nd rfl (Or.inl rfl)) (pgs_cons (pg_name (i := 8) sc__law_right.nd rfl (Or.inl rfl)) pgs_nil)))) (fun _ _ _ _ _ => pts_nil) (fun _ _ _ _ _ => (pv 8)))
    (pss_cons (ps_if (PW.pt (pw_or (pt_cmpR (op_neD hr.units) (pe_cal c_kind_of (hr.mono (by omega)) rfl pass0 (pa_cons (pv 1) (pa_cons (pv 4) pa_nil))) (pv 2) (by rfl)) (pw_or (pt_cmpR (op_neD hr.units) (pe_calKw c_kind_of D_kind_of b_kind_of_term_names (fun _ _ r => flip2_vals r) (by simp) (hr.mono (by omega)) rfl (pk_cons (pe_callTy call_tuple_of (by rfl) T.tuple (by decide +kernel) (pa_cons (pv 4) pa_nil)) (pk_cons (pe_callTy call_tuple_of (by rfl) T.tuple (by decide +kernel) (pa_cons (pv 1) pa_nil)) pk_nil))) (pv 2) (by rfl)) (pw_or1 (pt_cmpR op_notBl (pe_cal c_fits (hr.mono (by omega)) rfl pass0 (pa_cons (pv 1) (pa_cons (pv 4) pa_nil))) pe_bl (by rfl)))))) 
      (pss_one (ps_ret pe_bl)) pss_nil)
    (pss_cons (ps_set (i := 6) sc__law_right.nd rfl (Or.inl rfl) (pe_cal c_kinds_at (hr.mono (by omega)) rfl pass0 (pa_cons (pv 1) (pa_cons (pv 4) pa_nil))))
    (pss_cons (ps_if (pt_cmpR op_ne (pe_callB (cr_repr noG hr.units) (by rfl) T.repr (by decide +kernel) (pa_cons (pe_lst (pa_cons (pv 6) (pa_cons (pe_calKw c_kinds_at D_kinds_at b_kinds_at_term_names (fun _ _ r => flip2_vals r) (by simp) (hr.mono (by omega)) rfl (pk_cons (pv 4) (pk_cons (pv 1) pk_nil))) pa_nil))) pa_nil)) (pe_callB (cr_repr noG hr.units) (by rfl) T.repr (by decide +kernel) (pa_cons (pe_lst (pa_cons (pv 5) (pa_cons (pv 5) pa_nil))) pa_nil)) (by rfl)) 
      (pss_one (ps_ret pe_bl)) pss_nil)
    (pss_cons (ps_expr (pe_bm PySem.F.plainAttrs_list PySem.F.slot_list_append PySem.F.type_list_append mt_append (pv 6) (pa_cons pe_non pa_nil)))
    (pss_cons (ps_if (PW.pt (pw_or (pt_cmpR (op_neD hr.units) (pe_cal c_kinds_at (hr.mono (by omega)) rfl pass0 (pa_cons (pv 1) (pa_cons (pv 4) pa_nil))) (pv 5) (by rfl)) (pw_or1 (pt_cmpR (op_neD hr.units) (pe_cal c_kind_of (hr.mono (by omega)) rfl pass0 (pa_cons (pe_op op_cat (pv 1) (pe_lst (pa_cons (pe_cal c__law_kind (hr.mono (by omega)) rfl pass0 (pa_cons (pv 0) (pa_cons pe_int pa_nil))) pa_nil))) (pa_cons (pv 4) pa_nil))) (pv 2) (by rfl))))) 
      (pss_one (ps_ret pe_bl)) pss_nil)
    (pss_cons (ps_if (PW.pt (pw_or (pt_cmpR op_notBl (pe_calKw c_fits D_fits b_fits_term_names (fun _ _ r => flip2_vals r) (by simp) (hr.mono (by omega)) rfl (pk_cons (pe_lst (pa_cons (pe_tup (pa_cons pe_str (pa_cons pe_int pa_nil))) pa_nil)) (pk_cons (pv 1) pk_nil))) pe_bl (by rfl)) (pw_or1 (pt_cmpR op_notBl (pe_cal c_fits (hr.mono (by omega)) rfl pass0 (pa_cons (pv 1) (pa_cons (pe_lst (pa_cons (pe_tup (pa_cons pe_str (pa_cons pe_int pa_nil))) pa_nil)) pa_nil))) pe_bl (by rfl))))) 
      (pss_one (ps_ret pe_bl)) pss_nil)
    (pss_one (ps_ret (pe_calG c__law_programs_right noG (hr.mono (by omega)) rfl (pa_cons (pv 0) pa_nil)))))))))))))), ?_⟩
  refine ⟨_, rfl, _, _, rfl, p, 1, rfl, rfl, by decide, hp, fun k1 v1 H1 w1 s1 hp1 kk1 => ?_⟩
  refine ⟨_, rfl, _, _, rfl, p, 2, rfl, rfl, by decide, hp1, fun k2 v2 H2 w2 s2 hp2 kk2 => ?_⟩
  have kk1' := kk1.tk (hp1.tk s2)
  refine ⟨fits2, fun l0 h0 => ⟨fits2, fun l1 h1 => ⟨(by decide : 4 ≤ sizeLine), fun la hla => ?_⟩⟩⟩
  have e0 := Same.new h0 (.tup [V.str "letter", V.int 0])
  have e1 := Same.new h1 (.tup [V.str "letter", V.int 1])
  have e2 := Same.new hla (.lst [v1, v2, .ref l0, .ref l1])
  have e02 := (e0.trans e1).trans e2
  have hp3 := hp2.same e02
  have row3 : KLs K _ p (.ref la) [k1, k2, .ltr false, .ltr true] := KLs.new ((hp2.same e0).same e1) hla (.cons (kk1'.tk (TK.of (e0.trans e1))) (.cons (kk2.tk (TK.of (e0.trans e1))) (.cons (KAt.mk_ltr (b := false) (SqT.of (e1 _ _ upd_same))) (.cons (KAt.mk_ltr (b := true) (SqT.of upd_same)) .nil))))
  have tb3 := e02 _ _ (s2 _ _ (tbl_ne hp1 (s1 _ _ (tbl_ne hp hT) hT)) (s1 _ _ (tbl_ne hp hT) hT))
  clear kk1' kk1 kk2 e0 e1 e2 e02
  refine ⟨_, rfl, _, _, rfl, p, 2, rfl, rfl, by decide, hp3, fun k kv H4 kw s4 hp4 kk4 => ?_⟩
  have row4 := row3.sb hp3 s4
  have tb4 := s4 _ _ (tbl_ne hp3 tb3) tb3
  refine ⟨fits0, fun ls hls => ⟨_, _, _, rfl, ?_⟩⟩
  have e5 := Same.new hls (.lst [])
  have hp5 := hp4.same e5
  have row5 := row4.same e5
  have tb5 := e5 _ _ tb4
  have kk5 := kk4.tk (TK.of e5)
  have hs5 := upd_same (H := H4) (a := ls) (o := .lst [])
  have nls : ls ≠ p := hp4.ne hls
  have rowP : ∀ q ∈ [k1, k2, .ltr false, .ltr true], PK q := consAll (within2_PK (within_lt w1 (by decide))) (consAll (within2_PK w2) (consAll (PK_ltr _) (oneAll (PK_ltr _))))
  have nla : la ≠ ls := fun z => by
    obtain ⟨l, ys, el, _, hl, _⟩ := row4
    cases el
    rw [z, hls] at hl
    cases hl
  clear row4 row3 tb4 tb3
  generalize upd H4 ls (.lst []) = H5 at *
  refine ⟨_, rfl, _, rfl, _, rfl, _, _, _, _, rfl, p, k, [k1, k2, .ltr false, .ltr true], 2, ⟨rfl, rfl, hp5, kk5, row5, kw, rowP, fun b => by cases b <;> simp, by simp, by decide⟩, (show need 2 k ≤ 10 by simp [need]), fun bv t ks H6 ty lt s6 hp6 nb => ?_⟩
  obtain ⟨lt', xs, rfl, nlt, ht6, tn6⟩ := nb
  obtain ⟨la', nxs, ela, nlap, hla6, nk6⟩ := row5.sb hp5 s6
  cases ela
  have lt7 : t.flat.length ≤ 107 := lt
  have R6 : Rn K H6 p la lt' nxs xs [k1, k2, .ltr false, .ltr true] t.flat kv k := ⟨hp6, nlap, nlt, hla6, nk6, ht6, tn6, kk5.tk (hp5.tk s6)⟩
  have tb6 := s6 _ _ (tbl_ne hp5 tb5) tb5
  have hs6 := s6 _ _ nls hs5
  clear hla6 nk6 ht6 tn6 tb5 kk5 hs5 row5
  have hh := t.h_le
  have tne := ty.ne
  have nlt2 : lt' ≠ ls := fun z => by
    have e := R6.tm
    rw [z, hs6] at e
    cases e
    have := R6.tn.length
    simp only [List.length_nil] at this
    omega
  have shk := shp_dK (show k.deep ≤ 64 by have := within2 kw; omega)
  have eqk : ∀ {A C : Prop}, C → if (!PyData.eqv (dK k) (dK k)) = true then A else C := fun c => by
    rw [eqv_dK, decide_eq_true rfl]
    exact ifF rfl c
  refine ⟨_, rfl, _, _, rfl, lt', xs, t.flat, [], 0, t, rfl, rfl, SqL.of R6.tm, R6.tn, by simp, ty.ar, by omega, by omega, fun q7 tv H7 e7 hq7 htr => ?_⟩
  have R7 := R6.same e7
  have tb7 := e7 _ _ tb6
  have hs7 := e7 _ _ hs6
  refine ⟨_, _, _, _, rfl, rfl, hq7, at0, _, rfl, _, rfl, _, _, _, rfl, ls, la, nxs, [], _, t, 0, k, ks, rfl, rfl, hs7, nla, R7.nm, R7.nk, htr _ (fun c z => by rw [z, hs6]; simp), ty, by omega, by simp only [List.length_nil]; omega, by simp only [List.length_cons, List.length_nil]; omega, fun v8 H8 ws ps s8 hs8 dws pp k8 => ?_⟩
  have tb8 := s8 _ _ (fun z => by
    rw [z, hs7] at tb7
    cases tb7) tb7
  have R8 := R7.sbS s8 hs7 (fun z => nls z.symm) nla nlt2
  refine ⟨_, rfl, dK k, dK k, k8, R8.kd, shk, shk, _, rfl, eqk ?_⟩
  clear R6 R7 htr hq7 e7 hs6 hs7 s8
  rw [List.nil_append] at hs8
  have lws : ws.length = ps.length := by
    have := DpAll.length dws
    rwa [List.length_map] at this
  have lps : ps.length ≤ 107 := by
    rw [pp.length_eq, zipI_len, ty.len]
    exact lt7
  dsimp only [tNext]
  refine asg_split (fun v H' => ∃ L us, v = .ref L ∧ H' L = some (.lst us) ∧ L ≠ p ∧ Rn K H' p la lt' nxs xs [k1, k2, .ltr false, .ltr true] t.flat kv k ∧ KsAt K H' us ks) (fun Q2 hQ => ?_) ?_
  · refine lc_via ⟨_, rfl, ls, ws, ps.map (fun p => (p.1 : Int)), rfl, SqL.of hs8, by rw [List.length_map, lws], ?_, tb8, fun H9 d qs ext hd pq sq => ?_⟩
    · intro i v kk hv hkk
      obtain ⟨d0, hd0, dp⟩ := DpAll.get' dws hv
      rw [List.getElem?_map] at hd0 hkk
      cases hp0 : ps[i]? with
      | none =>
        rw [hp0] at hd0
        cases hd0
      | some pr =>
        rw [hp0] at hd0 hkk
        cases hd0
        cases hkk
        obtain ⟨t0, y, rfl, hs0, _⟩ := dP_at dp
        exact ⟨t0, [y], rfl, hs0⟩
    · have tk9 : TK H8 H9 := fun b o e t => ext b o e fun z q => by
        rw [q] at t
        cases t
      have R9 := R8.ext ext
      have dq := sorted_pairs (DpAll.tk tk9 _ _ (noL_ps ps) dws) pp pq sq
      have e10 := Same.new hd (.lst (qs.map (·.2)))
      have R10 := R9.same e10
      have dq10 := DpAll.same e10 _ _ dq
      have hd10 := upd_same (H := H9) (a := d) (o := .lst (qs.map (·.2)))
      have lq : (qs.map (·.2)).length = ks.length := by
        have := DpAll.length dq
        rw [List.length_map, List.length_map, zipI_len] at this
        rw [List.length_map]
        exact this
      generalize upd H9 d (.lst (qs.map (·.2))) = H10 at *
      refine lc_seq (a := d) (xs := qs.map (·.2)) (fun _ z => z) (fun D i H' => Same H10 H' ∧ ∃ us, H' D = some (.lst us) ∧ KsAt K H' us (ks.take i)) (.inl (SqL.of hd10)) (fun D hD => ⟨Same.new hD _, [], upd_same, .nil⟩) (fun D i H' _ _ p => p.1) ?_ ?_
      · rintro D i x H' hD hx ⟨sm, us, hu, ku⟩
        obtain ⟨d0, hd0, dp⟩ := DpAll.get' (DpAll.same sm _ _ dq10) hx
        rw [List.getElem?_map] at hd0
        cases hp0 : (zipI 0 ks)[i]? with
        | none =>
          rw [hp0] at hd0
          cases hd0
        | some pr =>
          rw [hp0] at hd0
          cases hd0
          have hk0 : ks[i]? = some pr.2 := by
            have z := zipI_snd ks 0
            rw [← z, List.getElem?_map, hp0]
            rfl
          obtain ⟨t0, y, rfl, hs0, hy⟩ := dP_at dp
          have lu := KsAt.length ku
          rw [List.length_take] at lu
          have lk := ty.len
          refine ⟨t0, _, rfl, hs0, rfl, _, _, rfl, _, _, rfl, rfl, rfl, _, rfl, us, hu, by rw [line_eq]; omega, Same.upd sm hD _, _, upd_same, ?_⟩
          have tk := TK.upd hu rfl (.lst (us ++ [y]))
          rw [take_more hk0]
          show DpAll K _ _ (List.map dK _)
          rw [List.map_append]
          exact DpAll.app (ku.tk tk) (.cons (hy.tk tk) .nil)
      · rintro D H' hD ⟨sm, us, hu, ku⟩
        have R11 := R10.same sm
        rw [lq, List.take_length] at ku
        exact hQ _ _ ⟨D, us, rfl, hu, R10.pot.ne hD, R11, ku⟩
  rintro _ H12 ⟨ld, us, rfl, hld, nld, R12, ku⟩
  have lk := ty.len
  have it := ty.isT (fun _ => PK.ok) (by omega)
  have kn := ty.kinds fun _ => PK.ok
  have hd := (show (ks.map some).head? = some (some k) by rw [List.head?_map, ty.head]; rfl)
  have rowO : ∀ q ∈ [k1, k2, .ltr false, .ltr true], okK q = true := fun q hq => (rowP q hq).ok
  have fitA : ∀ {H' : Hp}, Rn K H' p la lt' nxs xs [k1, k2, .ltr false, .ltr true] t.flat kv k → Fit K H' (.ref la) (.ref lt') [k1, k2, .ltr false, .ltr true] t.flat := fun R =>
    ⟨⟨la, nxs, rfl, .inl (SqL.of R.nm), R.nk⟩, (show 4 ≤ 8 by decide), rowO, ⟨lt', xs, rfl, .inl (SqL.of R.tm), R.tn⟩, it⟩
  refine ⟨_, rfl, _, rfl, _, _, rfl, _, _, _, _, fitA R12, kn, hd, fun v13 H13 e13 k13 => ?_⟩
  have R13 := R12.same e13
  refine ⟨_, rfl, dK k, dK k, k13, R13.kd, shk, shk, _, rfl, eqk ?_⟩
  refine ⟨_, rfl, lt', xs, rfl, .inl ⟨SqL.of R13.tm, fun a14 ha14 => ?_⟩⟩
  have e14 := Same.new ha14 (.tup xs)
  have R14 := R13.same e14
  refine ⟨_, rfl, la, nxs, rfl, .inl ⟨SqL.of R14.nm, fun a15 ha15 => ?_⟩⟩
  have e15 := Same.new ha15 (.tup nxs)
  have R15 := R14.same e15
  refine ⟨_, _, rfl, _, _, _, _, ⟨⟨a15, nxs, rfl, .inr (SqT.of upd_same), R15.nk⟩, (show 4 ≤ 8 by decide), rowO, ⟨a14, xs, rfl, .inr (SqT.of (e15 _ _ upd_same)), R15.tn⟩, it⟩, kn, hd, fun v16 H16 e16 k16 => ?_⟩
  have R16 := R15.same e16
  refine ⟨_, rfl, dK k, dK k, k16, R16.kd, shk, shk, _, rfl, eqk ?_⟩
  refine ⟨_, rfl, _, rfl, _, _, rfl, _, _, fitA R16, fun H17 e17 => ⟨_, true, rfl, rfl, _, rfl, ?_⟩⟩
  rw [kn]
  have R17 := R16.same e17
  refine ifF rfl ?_
  have e1217 := e13.trans (e14.trans (e15.trans (e16.trans e17)))
  have hld17 := e1217 _ _ hld
  have ku17 := ku.tk (TK.of e1217)
  clear R12 R13 R14 R15 R16 e13 e14 e15 e16 e17 e1217 k13 k16
  -- kinds_at
  have someK : (ks.map some).map dO = ks.map dK := by
    rw [List.map_map]
    rfl
  have goods := ty.goods
  have sz11 : ∀ q ∈ ks, q.size ≤ 11 := fun q hq => (goods q hq).1
  have dp5 : ∀ q ∈ ks, q.deep ≤ 5 := fun q hq => (goods q hq).2
  obtain ⟨sh, nd, dp⟩ := two_ok dp5
  have sl := shown_two sz11 (by omega)
  refine ⟨_, rfl, _, rfl, _, _, rfl, _, _, _, fitA R17, kn, fun lo vs18 H18 e18 n18 h18 d18 => ?_⟩
  rw [someK] at d18
  have R18 := R17.same e18
  have k18 : KsAt K H18 vs18 ks := d18
  have hld18 := e18 _ _ hld17
  have ku18 := ku17.tk (TK.of e18)
  refine ⟨_, rfl, _, rfl, _, rfl, _, _, rfl, _, _, _, fitA R18, kn, fun l19 vs19 H19 e19 n19 h19 d19 => ⟨fits2, fun l20 hl20 => ?_⟩⟩
  rw [someK] at d19
  have e20 := Same.new hl20 (.lst [V.ref lo, V.ref l19])
  refine ⟨l20, .list [.list (ks.map dK), .list (ks.map dK)], rfl, .lst (SqL.of upd_same) (.cons (.lst (SqL.of ((e19.trans e20) _ _ h18)) (k18.tk (TK.of (e19.trans e20)))) (.cons (.lst (SqL.of (e20 _ _ h19)) (DpAll.same e20 _ _ d19)) .nil)), sh, nd, dp, sl, ?_⟩
  refine ⟨_, rfl, _, rfl, fits2, fun l21 hl21 => ?_⟩
  have e21 := Same.new hl21 (.lst [V.ref ld, V.ref ld])
  have e1921 := e19.trans (e20.trans e21)
  have R21 := R18.same e1921
  have hld21 := e1921 _ _ hld18
  have ku21 := ku18.tk (TK.of e1921)
  refine ⟨l21, .list [.list (ks.map dK), .list (ks.map dK)], rfl, .lst (SqL.of upd_same) (.cons (.lst (SqL.of hld21) ku21) (.cons (.lst (SqL.of hld21) ku21) .nil)), sh, nd, dp, sl, rfl, _, rfl, ?_⟩
  rw [decide_eq_true rfl]
  have ho21 := e1921 _ _ h18
  have lv18 := k18.length
  refine ifF rfl ⟨_, rfl, .inl ⟨rfl, _, SqL.of ho21⟩, lo, vs18, .non, rfl, rfl, ho21, by rw [line_eq]; omega, ?_⟩
  have R22 := R21.sbS (SB.upd (.lst (vs18 ++ [V.non]))) ho21 (fun z => R17.pot.ne n18 z.symm) (fun z => by
    have e := R17.nm
    rw [z, n18] at e
    cases e) (fun z => by
    have e := R17.tm
    rw [z, n18] at e
    cases e)
  have nlo : ld ≠ lo := fun z => by
    rw [z, n18] at hld17
    cases hld17
  have tk22 := TK.upd ho21 rfl (.lst (vs18 ++ [V.non]))
  have hld22 : (upd _ lo (.lst (vs18 ++ [V.non]))) ld = _ := (upd_ne nlo).trans hld21
  have ku22 := ku21.tk tk22
  clear e18 e19 e20 e21 e1921 R17 R18 R21 d19 h19 hld17 hld18 hld21 ku17 ku18 ku21 ku
  have shl := shp_ks (ks := ks) (fun q hq => by have := dp5 q hq; omega)
  have eql : PyData.eqv (.list (ks.map dK)) (.list (ks.map dK)) = true := by
    rw [PyData.eqv, eqvAll_dK, decide_eq_true rfl]
  refine ⟨_, rfl, _, rfl, _, _, rfl, _, _, _, fitA R22, kn, fun l23 vs23 H23 e23 n23 h23 d23 => ?_⟩
  rw [someK] at d23
  have R23 := R22.same e23
  have hld23 := e23 _ _ hld22
  have ku23 := ku22.tk (TK.of e23)
  refine ⟨_, rfl, .list (ks.map dK), .list (ks.map dK), .lst (SqL.of h23) d23, .lst (SqL.of hld23) ku23, shl, shl, _, rfl, ?_⟩
  rw [eql]
  refine ifF rfl ⟨_, rfl, _, rfl, _, _, rfl, p, 1, rfl, rfl, by decide, R23.pot, fun k9 v9 H24 w9 s24 hp24 kk9 => ⟨fits1, fun l25 hl25 => ?_⟩⟩
  have R24 := R23.sb s24 hp24
  have e25 := Same.new hl25 (.lst [v9])
  have R25 := R24.same e25
  have lnx := R25.nk.length
  refine ⟨la, l25, nxs, [v9], rfl, rfl, R25.nm, upd_same, by rw [line_eq, lnx]; simp, fun c26 hc26 => ?_⟩
  have e26 := Same.new hc26 (.lst (nxs ++ [v9]))
  have R26 := R25.same e26
  have nk26 := KsAt.snoc1 R26.nk (kk9.tk (TK.of (e25.trans e26)))
  refine ⟨_, rfl, _, _, rfl, [k1, k2, .ltr false, .ltr true] ++ [k9], t.flat, _, _, ⟨⟨c26, nxs ++ [v9], rfl, .inl (SqL.of upd_same), nk26⟩, (show 5 ≤ 8 by decide), appAll rowO (oneAll (within2_PK (within_lt w9 (by decide))).ok), ⟨lt', xs, rfl, .inl (SqL.of R26.tm), R26.tn⟩, it⟩, (ty.weak [k9]).kinds (fun _ => PK.ok), hd, fun v27 H27 e27 k27 => ?_⟩
  have R27 := R26.same e27
  refine ⟨_, rfl, dK k, dK k, k27, R27.kd, shk, shk, _, rfl, eqk ?_⟩
  clear R22 R23 R24 R25 R26 nk26 k27 hld22 hld23 ku22 ku23
  have kn3 : (kindsOf [k1, k2, .ltr false, .ltr true] [.nm 3]).isSome = true := by
    have z : kindsOf [k1, k2, .ltr false, .ltr true] [.nm 3] = _ := (Ty.nm (P := PK) (row := [k1, k2, .ltr false, .ltr true]) (i := 3) rfl (by decide) (PK_ltr true)).kinds fun _ => PK.ok
    rw [z]
    rfl
  have kn4 : (kindsOf [k1, k2, .ltr false, .ltr true] [.nm 4]).isSome = false := rfl
  refine ⟨fits2, fun t28 ht28 => ⟨fits1, fun l29 hl29 => ?_⟩⟩
  have e28 := Same.new ht28 (.tup [V.str "name", V.int 3])
  have e29 := Same.new hl29 (.lst [V.ref t28])
  have R29 := R27.same (e28.trans e29)
  refine ⟨_, rfl, _, _, rfl, [k1, k2, .ltr false, .ltr true], [.nm 3], ⟨⟨la, nxs, rfl, .inl (SqL.of R29.nm), R29.nk⟩, (show 4 ≤ 8 by decide), rowO, ⟨l29, [.ref t28], rfl, .inl (SqL.of upd_same), NsAt.one (NAt.tk (NAt.wi (n := .nm 3) rfl (SqT.of upd_same)) (TK.of e29))⟩, by decide +kernel⟩, fun H30 e30 => ⟨_, true, rfl, rfl, _, rfl, ?_⟩⟩
  rw [kn3]
  have R30 := R29.same e30
  refine ifF rfl ⟨_, rfl, fits2, fun t31 ht31 => ⟨fits1, fun l32 hl32 => ?_⟩⟩
  have e31 := Same.new ht31 (.tup [V.str "name", V.int 4])
  have e32 := Same.new hl32 (.lst [V.ref t31])
  have R32 := R30.same (e31.trans e32)
  refine ⟨_, _, rfl, [k1, k2, .ltr false, .ltr true], [.nm 4], ⟨⟨la, nxs, rfl, .inl (SqL.of R32.nm), R32.nk⟩, (show 4 ≤ 8 by decide), rowO, ⟨l32, [.ref t31], rfl, .inl (SqL.of upd_same), NsAt.one (NAt.tk (NAt.wi (n := .nm 4) rfl (SqT.of upd_same)) (TK.of e32))⟩, by decide +kernel⟩, fun H33 e33 => ⟨_, false, rfl, rfl, _, rfl, ?_⟩⟩
  rw [kn4]
  have R33 := R32.same e33
  refine ifF rfl ⟨_, rfl, _, rfl, p, rfl, R33.pot, fun H' => q _⟩
end
end K17
/-! K25: law, and the call of it. -/
namespace K17
open PySem PySem.Spec PyProof.Rows L2
section
variable {P : Program} {w : World} {K : PySem.W.Frag} {mg : Str → Option Value} {base : Heap} {fr nk nkI : Addr} {fd : FuncData}
abbrev N_law : List Str := ["_law_script"]
theorem sc_law : FnScope N_law ["_law_script"] (defScope (top 93)) := ⟨rfl, rfl, rfl, by decide +kernel, rfl, by decide +kernel, by decide +kernel⟩
def gLaw (K : PySem.W.Frag) (tP : Addr) : G1 := fun v H Q _ => ∃ (a : Addr) (ns : List Int), v = .ref a ∧ SqL K H a (ns.map V.int) ∧ H tP = some (.tbl #[]) ∧ ∀ H', Q (.bl true) H'
theorem ok_law {tP : Addr} (D : Df K mg "law" (top 93)) (c__law_pot : Cal P w K mg base CX0 "_law_pot" 1 ["_law_script", "_law_k"] (sp2 (gPot K))) (c__law_right : CalG P w K mg base "_law_right" 121 ["_law_pot_here"] (sp1 (gLRight tP))) :
    CalG P w K mg base "law" 122 ["_law_script"] (sp1 (gLaw K tP)) := by
  refine D.calG sc_law (bs1 fun _ _ _ _ _ _ _ => rfl) sp1_len fun f cdv A outer s H vs Q E noG hr h => ?_
  obtain ⟨_, rfl, a, ns, rfl, hs, hT, q⟩ := h
  refine ⟨_, (pss_one (ps_ret (pe_calG c__law_right noG (hr.mono (by omega)) rfl (pa_cons (pe_cal c__law_pot (hr.mono (by omega)) rfl pass0 (pa_cons (pv 0) (pa_cons pe_int pa_nil))) pa_nil)))), ?_⟩
  refine ⟨_, rfl, _, _, rfl, a, ns, rfl, rfl, hs, fun p H1 e1 f1 hp1 => ?_⟩
  exact ⟨_, rfl, p, rfl, hp1, e1 _ _ hT, fun H' => q _⟩
end
end K17
set_option maxHeartbeats 2000000
/-! KE7: the law called, where no guard stands; one table of a code object. -/
namespace K17
open PySem PySem.Spec PyProof.Rows L2 LamX
/-- the empty table -/
abbrev tab0 : Obj := { cls := .none, data := .fields #[] }
section
variable {P : Program} {w : World} {K : PySem.W.Frag} {mg mb : Str → Option Value} {k : Nat} {fa a c tP : Addr} {x y : Str} {sp : Sp} {s₁ : Shared} {vs : List Value} {ns : List Int}
theorem law_callG (KX : K.In s₁.heap) (hns : s₁.heap.Ns mainGlobals mg) (hb : s₁.heap.Ns builtinsNs mb) (hbb : ∀ x : Str, x ≠ "__name__" → mb x = bootBuiltins x) (hlim : s₁.heap.NoLimit) (hg : s₁.gens = #[])
    (hT : s₁.heap.get? tP = some tab0) (nT : K.lookup tP = none) (C : PySem.W.CodeHd s₁.heap c tP)
    (hbm : ∃ (bm : Addr) (ob : Obj), mg "__builtins__" = some (.ref bm) ∧ bm ≠ builtinsNs ∧ s₁.heap.get? bm = some ob ∧ ob.cls = .type "module" ∧ ob.dict = some builtinsNs ∧ ob.data = .plain)
    (ha : s₁.heap.get? a = some { cls := .type "list", data := .seq vs.toArray }) (hi : IntsAre vs ns) (hl : ns.length ≤ sizeLine) (hr : Room k callerA)
    (F : ∀ base : Heap, K.In base → base.Ns mainGlobals mg → TabB base mg c tP → CalG P w K mg base y k [x] sp) (hfa : mg y = some (.ref fa))
    (hsp : ∀ H : Hp, H tP = some (.tbl #[]) → SqL K H a (ns.map V.int) → sp [.ref a] H (fun v _ => v = .bl true) fun _ _ _ => False) :
    codeAny (model P w) callerA (.call (.ref fa) ⟨[.ref a], []⟩) (fun r s' => r = .ok (.ret (.bool true)) ∧ OldK s₁.heap s'.heap ∧ s'.os = s₁.os ∧ AllBare s'.gens) s₁ := by
  have rv := vals_ints hi
  have aT : a ≠ tP := fun z => by
    rw [z, hT] at ha
    have q : Data.fields #[] = Data.seq vs.toArray _ := congrArg Obj.data (Option.some.inj ha)
    cases q
  -- the abstract heap: the table, and the script unless K holds it
  obtain ⟨H, hP, hO, hS, hA⟩ : ∃ H : Hp, H tP = some (.tbl #[]) ∧ (∀ b u, H b = some u → (b = tP ∧ u = .tbl #[]) ∨ (b = a ∧ K.lookup a = none ∧ u = .frz { cls := .type "list", data := .seq vs.toArray } (.lst (ns.map V.int)))) ∧ SqL K H a (ns.map V.int) ∧
      (H a = none ∨ H a = some (.frz { cls := .type "list", data := .seq vs.toArray } (.lst (ns.map V.int)))) := by
    cases hk : K.lookup a with
    | some o =>
      have e := KX a o hk
      rw [ha] at e
      cases e
      refine ⟨fun b => if b = tP then some (.tbl #[]) else none, if_pos rfl, fun b u z => ?_, .inr ⟨_, vs.toArray, _, hk, rfl, rfl, rfl, by rw [List.size_toArray, hi.length]; exact hl, by simpa using rv⟩, .inl (if_neg aT)⟩
      by_cases hb : b = tP
      · exact .inl ⟨hb, (Option.some.inj ((if_pos hb).symm.trans z)).symm⟩
      · cases (if_neg hb).symm.trans z
    | none =>
      refine ⟨fun b => if b = tP then some (.tbl #[]) else if b = a then some (.frz { cls := .type "list", data := .seq vs.toArray } (.lst (ns.map V.int))) else none, if_pos rfl, fun b u z => ?_, .inl (.inr ⟨_, (if_neg aT).trans (if_pos rfl)⟩), .inr ((if_neg aT).trans (if_pos rfl))⟩
      by_cases hb : b = tP
      · exact .inl ⟨hb, (Option.some.inj ((if_pos hb).symm.trans z)).symm⟩
      · have z1 := (if_neg hb).symm.trans z
        by_cases hb2 : b = a
        · exact .inr ⟨hb2, rfl, (Option.some.inj ((if_pos hb2).symm.trans z1)).symm⟩
        · cases (if_neg hb2).symm.trans z1
  have free : ∀ {b : Addr} {o : Obj}, s₁.heap.get? b = some o → (∀ us n, o.data ≠ .seq us n) → o.data ≠ .fields #[] → (hidT s₁.heap H).get? b = some o := fun {b o} e h1 h2 => by
    refine hidT_get e ?_
    cases q : H b with
    | none => rfl
    | some u =>
      rcases hO b u q with ⟨eb, _⟩ | ⟨eb, _⟩
      · rw [eb, hT] at e
        cases e
        exact absurd rfl h2
      · rw [eb, ha] at e
        cases e
        exact absurd rfl (h1 _ _)
  have nsK : ∀ {b : Addr} {m : Str → Option Value}, s₁.heap.Ns b m → (hidT s₁.heap H).Ns b m := fun {b m} ⟨o, es, ep, e, d, r⟩ => ⟨o, es, ep, free e (fun us n z => by rw [d] at z; cases z) (fun z => by rw [d] at z; cases z), d, r⟩
  have KB : K.In (hidT s₁.heap H) := fun b o e => hidT_get (KX b o e) (by
    cases q : H b with
    | none => rfl
    | some u =>
      rcases hO b u q with ⟨eb, _⟩ | ⟨eb, n, _⟩
      · rw [eb, nT] at e
        cases e
      · rw [eb, n] at e
        cases e)
  have TB : TabB (hidT s₁.heap H) mg c tP := by
    refine ⟨?_, ?_, fun z => ?_⟩
    · obtain ⟨o, us, file, tf, flags, tg, inF, text, tt, e1, r1, r2, r3, rest⟩ := C
      exact ⟨o, us, file, tf, flags, tg, inF, text, tt, free e1 (fun vs n z => by rw [r2] at z; cases z) (fun z => by
        rw [r2] at z
        cases z
        simp at r3), r1, r2, r3, rest⟩
    · obtain ⟨bm, ob, b1, b2, b3, b4, b5, b6⟩ := hbm
      refine ⟨bm, ob, b1, b2, fun q => ?_, fun q => ?_, free b3 (fun us n z => by rw [b6] at z; cases z) (fun z => by rw [b6] at z; cases z), b4, b5, b6⟩
      · obtain ⟨o, es, ep, e, hd, _⟩ := hns
        rw [q, e] at b3
        cases b3
        rw [hd] at b6
        cases b6
      · rw [q, hT] at b3
        cases b3
        cases b6
    · obtain ⟨o, es, ep, e, hd, _⟩ := hns
      rw [z, hT] at e
      cases e
      cases hd
  have hok : HOk P w H s₁.heap := fun b u z => by
    rcases hO b u z with ⟨eb, eu⟩ | ⟨eb, _, eu⟩
    · rw [eb, eu]
      exact hT
    · rw [eb, eu]
      exact ⟨ha, by rw [List.length_map]; exact hl, vs, _, rv, ha⟩
  have e0 : Env0 P w K mg (hidT s₁.heap H) callerA [] s₁ H := ⟨rfl, ⟨KB, nsK hns, ⟨mb, nsK hb, hbb⟩, let ⟨mc, h1, h2⟩ := hlim; ⟨mc, nsK h1, h2⟩⟩, fun b o e => of_hidT e, Nat.le_of_eq (hidT_size _ _), trivial, fun b hb => absurd (show b ∈ ([] : List Addr) from hb) (by simp), hok, .of_eq hg⟩
  obtain ⟨f, fd, FF, hm, _, hbd⟩ := (F _ KB (nsK hns) TB).ex
  rw [hfa] at hm
  cases hm
  have bd := hbd s₁ [.ref a] KX rfl
  rw [List.append_nil] at bd
  refine codeAny_mono (FF.go callerA [] s₁ H ⟨[.ref a], []⟩ [.ref a] [.ref a] _ _ rfl hr e0 bd (.cons rfl .nil) (hsp H hP hS)) fun r s' h => ?_
  match r, h with
  | .error e, h => exact h.elim
  | .ok .next, h => exact False.elim h
  | .ok .brk, h => exact False.elim h
  | .ok .cont, h => exact False.elim h
  | .ok (.ret u), h =>
    obtain ⟨v, H', os, bare, un, hok', r', q⟩ := h
    cases (show v = .bl true from q)
    obtain rfl : u = Value.bool true := r'
    obtain ⟨more, hm⟩ := un.tbls tP #[] hP
    have hm' : s'.heap.get? tP = some { cls := .none, data := .fields _ } := hok' tP _ hm
    have key : ∀ b o, b ≠ tP → s₁.heap.get? b = some o → s'.heap.get? b = some o := fun b o nb e => by
      cases q : H b with
      | none => exact un.keep b o e q (by intro z; exact absurd (show b ∈ ([] : List Addr) from z) (by simp)) (by simp)
      | some u =>
        rcases hO b u q with ⟨eb, _⟩ | ⟨eb, _, eu⟩
        · exact absurd eb nb
        · rw [eu] at q
          obtain ⟨e2, _⟩ := hok' b _ (un.frzs b _ _ q)
          rw [eb, ha] at e
          cases e
          exact e2
    refine ⟨rfl, ⟨fun b o e => ?_, fun b o e => ?_⟩, os, bare⟩
    · by_cases eb : b = tP
      · rw [eb] at e ⊢
        rw [hT] at e
        cases e
        exact .inr (.inl ⟨(C.tab hT).isCodeTable, rfl, #[], _, rfl, by rw [Array.empty_append]; exact hm'⟩)
      · exact .inl (key b o eb e)
    · by_cases eb : b = tP
      · rw [eb]
        exact ⟨_, hm'⟩
      · exact ⟨o, key b o eb e⟩
end
end K17
/-! K26: all the promises put together. -/
namespace K17
open PySem PySem.Spec PyProof.Rows L2
theorem law_all {P : Program} {w : World} {K : PySem.W.Frag} {mg : Str → Option Value} {base : Heap} {fr nk nkI c tP : Addr} {fd : FuncData} (T : Txt K w mg fr fd nk nkI) (TN : NkT K mg nk nkI) (D : ∀ (i : Nat) (p : Str × Nat), defL[i]? = some p → Df K mg p.1 (top p.2))
    (DC : DfC K mg "_law_right" (top 92) c) (TB : LamX.TabB base mg c tP) : CalG P w K mg base "law" 122 ["_law_script"] (sp1 (gLaw K tP)) := by
  have c_is_integer := ok_is_integer (P := P) (w := w) (base := base) T (D 0 _ rfl)
  have c_is_count := ok_is_count (P := P) (w := w) (base := base) T (D 1 _ rfl) c_is_integer
  have c_is_list := ok_is_list (P := P) (w := w) (base := base) T (D 2 _ rfl)
  have c_is_letter_word := ok_is_letter_word (P := P) (w := w) (base := base) T (D 3 _ rfl)
  have c_is_letter := ok_is_letter (P := P) (w := w) (base := base) T (D 4 _ rfl) c_is_count
  have c_is_leaf := ok_is_leaf (P := P) (w := w) (base := base) T (D 5 _ rfl) c_is_letter_word c_is_letter
  have c_is_branch := ok_is_branch (P := P) (w := w) (base := base) T (D 6 _ rfl)
  have c_is_kind := ok_is_kind (P := P) (w := w) (base := base) T (D 7 _ rfl) c_is_branch c_is_leaf
  have c_want_kind := ok_want_kind (P := P) (w := w) (base := base) T (D 8 _ rfl) c_is_kind
  have c_want_letter := ok_want_letter (P := P) (w := w) (base := base) T (D 9 _ rfl) c_is_letter
  have c_want_at_most := ok_want_at_most (P := P) (w := w) (base := base) T (D 10 _ rfl)
  have c_signs_of := ok_signs_of (P := P) (w := w) (base := base) T (D 11 _ rfl)
  have c_depth_of := ok_depth_of (P := P) (w := w) (base := base) T (D 12 _ rfl)
  have c_letters_in := ok_letters_in (P := P) (w := w) (base := base) T (D 13 _ rfl)
  have c_put_letter := ok_put_letter (P := P) (w := w) (base := base) T (D 14 _ rfl)
  have c_put_letter_told := ok_put_letter_told (P := P) (w := w) (base := base) T (D 15 _ rfl) (c_letters_in 8) c_want_at_most (c_signs_of 8) (c_depth_of 12) (c_put_letter 8)
  have c_put_kind := ok_put_kind (P := P) (w := w) (base := base) T (D 16 _ rfl) c_want_kind c_want_letter c_put_letter_told
  have c__law_signs := ok__law_signs (P := P) (w := w) (base := base) (D 17 _ rfl)
  have c__law_deep := ok__law_deep (P := P) (w := w) (base := base) T (D 18 _ rfl)
  have c__law_put := ok__law_put (P := P) (w := w) (base := base) (D 19 _ rfl)
  have c_is_node := ok_is_node (P := P) (w := w) (base := base) T (D 20 _ rfl) c_is_kind c_is_count
  have c_are_tree := ok_are_tree (P := P) (w := w) (base := base) T (D 21 _ rfl)
  have c_is_term := ok_is_term (P := P) (w := w) (base := base) T (D 22 _ rfl) c_is_list c_is_node c_are_tree
  have c_want_term := ok_want_term (P := P) (w := w) (base := base) T (D 23 _ rfl) c_is_term
  have c_letters_put := ok_letters_put (P := P) (w := w) (base := base) T (D 24 _ rfl) c_want_term c_want_letter c_want_kind c_put_letter_told
  have c_kind_in := ok_kind_in (P := P) (w := w) (base := base) T (D 25 _ rfl)
  have c_kind_of_leaf := ok_kind_of_leaf (P := P) (w := w) (base := base) T (D 26 _ rfl) c_kind_in
  have c_kind_of_part := ok_kind_of_part (P := P) (w := w) (base := base) T (D 27 _ rfl)
  have c_kind_of_call := ok_kind_of_call (P := P) (w := w) (base := base) T (D 28 _ rfl)
  have c_kind_of_turns := ok_kind_of_turns (P := P) (w := w) (base := base) T (D 29 _ rfl)
  have c_kind_of_few := ok_kind_of_few (P := P) (w := w) (base := base) T (D 30 _ rfl) c_kind_of_call c_kind_of_part c_kind_of_turns
  have c_kind_by := ok_kind_by (P := P) (w := w) (base := base) T (D 31 _ rfl) c_kind_of_few c_is_kind
  have c_bound_kind := ok_bound_kind (P := P) (w := w) (base := base) T (D 32 _ rfl)
  have c_are_names := ok_are_names (P := P) (w := w) (base := base) T (D 33 _ rfl) c_is_list c_is_kind
  have c_want_names := ok_want_names (P := P) (w := w) (base := base) T (D 34 _ rfl) c_are_names
  have c_row_of := ok_row_of (P := P) (w := w) (base := base) (D 35 _ rfl)
  have c_next_row := ok_next_row (P := P) (w := w) (base := base) T TN (D 36 _ rfl) c_bound_kind
  have c_finished := ok_finished (P := P) (w := w) (base := base) T TN (D 37 _ rfl) c_kind_by
  have c_kinds_of := ok_kinds_of (P := P) (w := w) (base := base) T TN (D 38 _ rfl) c_row_of c_next_row c_kind_of_leaf c_finished
  have c_fitting_kinds := ok_fitting_kinds (P := P) (w := w) (base := base) TN (D 39 _ rfl) c_kinds_of
  have c_kind_of := ok_kind_of (P := P) (w := w) (base := base) (D 40 _ rfl) c_want_names c_want_term c_kinds_of
  have c_fits := ok_fits (P := P) (w := w) (base := base) (D 41 _ rfl) c_want_names c_want_term c_fitting_kinds
  have c_kinds_at := ok_kinds_at (P := P) (w := w) (base := base) (D 42 _ rfl) c_want_names c_want_term c_kinds_of
  have c_is_program := ok_is_program (P := P) (w := w) (base := base) (D 43 _ rfl) c_is_term c_fitting_kinds
  have c_want_program := ok_want_program (P := P) (w := w) (base := base) T (D 44 _ rfl) c_is_program
  have c_program_kind := ok_program_kind (P := P) (w := w) (base := base) (D 45 _ rfl) c_want_program c_kinds_of
  have c__law_pot := ok__law_pot (P := P) (w := w) (base := base) T (D 46 _ rfl)
  have c__law_draw := ok__law_draw (P := P) (w := w) (base := base) T (D 47 _ rfl)
  have c__law_pick := ok__law_pick (P := P) (w := w) (base := base) T (D 48 _ rfl) c__law_draw
  have c__law_kind := ok__law_kind (P := P) (w := w) (base := base) T (D 49 _ rfl) c__law_draw
  have c__law_made := (ok_made_cut (P := P) (w := w) (base := base) T (D 50 _ rfl) (D 51 _ rfl) c__law_draw c__law_pick (c__law_kind 3) 10).1
  have c__law_binds := ok__law_binds (P := P) (w := w) (base := base) (D 52 _ rfl)
  have c__law_read := ok__law_read (P := P) (w := w) (base := base) T (D 53 _ rfl) c__law_binds
  have c__law_by := ok__law_by (P := P) (w := w) (base := base) T (D 54 _ rfl)
  have c__law_bound := ok__law_bound (P := P) (w := w) (base := base) (D 55 _ rfl)
  have c__law_fit := ok__law_fit (P := P) (w := w) (base := base) T (D 56 _ rfl) c__law_binds c__law_bound c__law_by (c__law_signs 5) (c__law_deep 5)
  have c__law_programs_right := ok__law_programs_right (P := P) (w := w) (base := base) T (D 57 _ rfl) (D 43 _ rfl) (D 45 _ rfl) (c__law_kind 3) c__law_made c_is_program c_program_kind c_kind_of c__law_draw c_is_term c_fits c_letters_put c_put_kind (c__law_put 5)
  have c__law_right := ok__law_right (P := P) (w := w) (base := base) T DC TB (D 41 _ rfl) (D 40 _ rfl) (D 42 _ rfl) (c__law_kind 4) c__law_made (c__law_fit 120) (c__law_read 120) c_kind_of c_fits c_kinds_at c__law_programs_right
  have c_law := ok_law (P := P) (w := w) (base := base) (D 58 _ rfl) c__law_pot c__law_right
  exact c_law
end K17
/-! K27: what the head tells. -/
namespace K17
open PySem PySem.Spec PyProof.Rows L2
theorem tupB_ok {K : PySem.W.Frag} {a : Addr} {xs : List V} (h : tupB K a xs = true) (H : Hp) : SqT K H a xs := by
  unfold tupB at h
  split at h
  · rename_i c dd its n sl hk
    obtain ⟨h1, h2⟩ := He.ba h
    obtain ⟨h3, h4⟩ := He.ba h2
    exact .inr ⟨_, its, n, hk, congrArg Value.type (of_decide_eq_true h1), rfl, Nat.le_trans (Nat.le_of_ble_eq_true h3) (by rw [line_eq]; decide), He.relAll_ok h4⟩
  · cases h
theorem nodeW_mem (n : Nd) : n.w ∈ nodeW := by cases n <;> simp [nodeW, Nd.w]
theorem FunD.toFun {K : PySem.W.Frag} {x q : Str} {st : Stmt} {f : Addr} {fd : FuncData} (F : FunD K x q (defArgs st) (defBody st) (defScope st) [] [] f fd) : Fun K x q st f fd := by
  obtain ⟨⟨oc, od, dV, kV, doc, pm, an, cdv, ct, osl, e, lk, hc, hd, hk⟩, kp⟩ := F
  rcases hd with ⟨_, z⟩ | ⟨z, _⟩
  · subst z
    exact ⟨⟨oc, od, kV, doc, pm, an, cdv, ct, osl, e, lk, hc⟩, kp⟩
  · exact absurd rfl z
section
variable {w : World} {K : PySem.W.Frag} {h : Heap} {mg : Str → Option Value}
theorem defs_ok (X : K.In h) (G : h.Ns mainGlobals mg) (c : He.SaysD faL fnL K) : ∀ (i : Nat) (p : Str × Nat), defL[i]? = some p → Df K mg p.1 (top p.2) := fun i p hp => by
  have li := (List.getElem?_eq_some_iff.mp hp).1
  have e : fnL[i]? = some (mkD p) := by
    unfold fnL
    rw [List.getElem?_append_left (by rw [List.length_map]; exact li), List.getElem?_map, hp]
    rfl
  obtain ⟨fd, F⟩ := c.def_ i (d := mkD p) e
  have g : (He.Fa.glo p.1).ok K = true := c.facts (List.mem_append_right _ (List.mem_map.mpr ⟨p, List.mem_of_getElem? hp, rfl⟩))
  exact ⟨_, fd, FunD.toFun F, He.glo_ok X G g⟩
theorem right_ok (X : K.In h) (G : h.Ns mainGlobals mg) (c : He.SaysD faL fnL K) : DfC K mg "_law_right" (top 92) (He.cT K (Str.ofString "_law_right", none)).1 := by
  obtain ⟨fd, F⟩ := c.def_ 59 (d := mkD (Str.ofString "_law_right", 92)) rfl
  obtain ⟨⟨oc, od, dV, kV, doc, pm, an, cdv, ct, osl, e, lk, hc, hd, hk⟩, kp⟩ := F
  obtain ⟨cc, ec⟩ := He.codeIn_ref hc
  subst ec e
  have ecc : (He.cT K (Str.ofString "_law_right", none)).1 = cc := He.codeOf_eq lk rfl
  rcases hd with ⟨_, z⟩ | ⟨z, _⟩
  · subst z
    rw [ecc]
    exact ⟨_, oc, od, kV, doc, pm, an, ct, osl, lk, hc, kp, He.glo_ok X G (c.fact 34 (f := .glo (Str.ofString "_law_right")) rfl)⟩
  · exact absurd rfl z
theorem nk_ok (X : K.In h) (G : h.Ns mainGlobals mg) (c : He.SaysD faL fnL K) (x : exB K = true) : NkT K mg (nkA K) (nkIA K) := by
  obtain ⟨x1, x⟩ := He.ba x
  obtain ⟨x2, x⟩ := He.ba x
  obtain ⟨x3, x⟩ := He.ba x
  obtain ⟨x4, x⟩ := He.ba x
  obtain ⟨x5, x⟩ := He.ba x
  obtain ⟨fd, F⟩ := c.def_ 61 (d := mkI (Str.ofString "NoKind") (Str.ofString "NoKind.__init__") (inClass (top 9) 0)) rfl
  have m := (He.meth_ok (c.fact 43 (f := .meth (Str.ofString "NoKind") (Str.ofString "__init__")) rfl))
  exact ⟨He.glo_ok X G (c.fact 33 (f := .glo (Str.ofString "NoKind")) rfl), ⟨nk_laid x1, He.eqO_ok x2, He.noat_ok (c.fact 40 (f := .noat (Str.ofString "NoKind") (Str.ofString "position")) rfl), of_decide_eq_true x3, of_decide_eq_true x4, He.keep_ok (c.fact 41 (f := .keep (Str.ofString "NoKind")) rfl)⟩, m.1, of_decide_eq_true x5, ⟨fd, FunD.toFun F⟩, He.exm_ok (c.fact 42 (f := .exm (Str.ofString "NoKind") (Str.ofString "NoKind") true) rfl)⟩
theorem txt_ok (X : K.In h) (G : h.Ns mainGlobals mg) (c : He.SaysD faL fnL K) (ct : He.SaysT faL fnL tabL w K) (x : exB K = true) : ∃ fd, Txt K w mg (He.ga K (Str.ofString "Frame")) fd (nkA K) (nkIA K) := by
  obtain ⟨_, x⟩ := He.ba x
  obtain ⟨_, x⟩ := He.ba x
  obtain ⟨_, x⟩ := He.ba x
  obtain ⟨_, x⟩ := He.ba x
  obtain ⟨_, x⟩ := He.ba x
  obtain ⟨x1, x⟩ := He.ba x
  obtain ⟨x2, x⟩ := He.ba x
  obtain ⟨fd, F⟩ := c.def_ 60 (d := mkI (Str.ofString "Frame") (Str.ofString "Frame.__init__") (inClass (top 65) 0)) rfl
  obtain ⟨es, n, kd⟩ := ct.tab 0 rfl
  refine ⟨fd, He.free_ok X G (c.fact 0 (f := .free (Str.ofString "isinstance")) rfl), He.free_ok X G (c.fact 1 (f := .free (Str.ofString "int")) rfl), He.free_ok X G (c.fact 2 (f := .free (Str.ofString "bool")) rfl), He.free_ok X G (c.fact 3 (f := .free (Str.ofString "str")) rfl), He.free_ok X G (c.fact 4 (f := .free (Str.ofString "list")) rfl), He.free_ok X G (c.fact 5 (f := .free (Str.ofString "tuple")) rfl), He.free_ok X G (c.fact 6 (f := .free (Str.ofString "len")) rfl), He.free_ok X G (c.fact 7 (f := .free (Str.ofString "abs")) rfl), He.free_ok X G (c.fact 8 (f := .free (Str.ofString "max")) rfl), He.free_ok X G (c.fact 9 (f := .free (Str.ofString "divmod")) rfl), He.free_ok X G (c.fact 10 (f := .free (Str.ofString "all")) rfl), He.free_ok X G (c.fact 11 (f := .free (Str.ofString "range")) rfl), He.free_ok X G (c.fact 12 (f := .free (Str.ofString "enumerate")) rfl), He.free_ok X G (c.fact 13 (f := .free (Str.ofString "sorted")) rfl), He.free_ok X G (c.fact 14 (f := .free (Str.ofString "repr")) rfl), He.str_ok X G (c.fact 15 (f := .str (Str.ofString "LETTER") Wd.letter.s) rfl), He.str_ok X G (c.fact 16 (f := .str (Str.ofString "TELLING") Wd.count.s) rfl), He.str_ok X G (c.fact 17 (f := .str (Str.ofString "PAIR") Wd.pair.s) rfl), He.str_ok X G (c.fact 18 (f := .str (Str.ofString "SUM") Wd.sum.s) rfl), He.str_ok X G (c.fact 19 (f := .str (Str.ofString "FUN") Wd.fn.s) rfl), He.str_ok X G (c.fact 20 (f := .str (Str.ofString "NAME") Wd.name.s) rfl), He.str_ok X G (c.fact 21 (f := .str (Str.ofString "TOLD") Wd.told.s) rfl), He.int_ok X G (c.fact 22 (f := .int (Str.ofString "MOST_LETTER") 5) rfl), He.int_ok X G (c.fact 23 (f := .int (Str.ofString "MOST_SIGNS") 60) rfl), He.int_ok X G (c.fact 24 (f := .int (Str.ofString "MOST_DEEP") 12) rfl), He.int_ok X G (c.fact 25 (f := .int (Str.ofString "MOST_NODES") 300) rfl), He.int_ok X G (c.fact 26 (f := .int (Str.ofString "MOST_OUT") 299) rfl), He.int_ok X G (c.fact 27 (f := .int (Str.ofString "MOST_TOLD") 1000000) rfl), He.int_ok X G (c.fact 28 (f := .int (Str.ofString "MOST_NAMES") 8) rfl), ⟨_, He.glo_ok X G (c.fact 29 (f := .glo (Str.ofString "NUMBER")) rfl), tupB_ok x1⟩, ⟨_, He.glo_ok X G (c.fact 30 (f := .glo (Str.ofString "WITH_KIND")) rfl), tupB_ok x2⟩, ⟨_, es, n, He.glo_ok X G (c.fact 31 (f := .glo (Str.ofString "BINDS")) rfl), kd, fun nd => ?_⟩, He.glo_ok X G (c.fact 32 (f := .glo (Str.ofString "Frame")) rfl), He.cls_ok (c.fact 35 (f := .cls (Str.ofString "Frame")) rfl), ⟨_, He.mkr_ok (c.fact 36 (f := .mkr (Str.ofString "Frame")) rfl), FunD.toFun F⟩, ⟨He.noat_ok (c.fact 37 (f := .noat (Str.ofString "Frame") (Str.ofString "own_position")) rfl), He.noat_ok (c.fact 38 (f := .noat (Str.ofString "Frame") (Str.ofString "own_row")) rfl), He.noat_ok (c.fact 39 (f := .noat (Str.ofString "Frame") (Str.ofString "own_some")) rfl)⟩⟩
  have z := List.all_eq_true.mp x nd.w (nodeW_mem nd)
  unfold bindB at z
  split at z
  · rename_i t ht
    exact ⟨t, ht, tupB_ok z⟩
  · cases z
end
end K17
/-! K29: the law's promise at the head's heap. -/
namespace K17
open PySem PySem.Spec PyProof.Rows L2
theorem room_law : Room 122 callerA := ⟨rfl, by decide +kernel, by decide +kernel⟩
theorem walk_law {q : Program} {loose : List Str} {XP : (Str → Option Value) → Heap → Prop} {d : DefRec} (hdf : d.params.defaults = []) (hn : d.name = Str.ofString "law") :
    PySem.W.WalkO q loose XP (hookAt (List.range 700) faL fnL tabL tfL exB).says (PySem.Challenge.rw_selfprint_k17_whole_kinds_of_nodes_and_p).row.toRowW d [] (fun f vs => PySem.call f vs) := by
  refine Att.attach_callB (n := 63) rfl hdf fun w s₀ s₁ mg mb fa o pm cd doc a vs ns G Y ho hd hcd hmg hobj hints hlen hbits hg => ?_
  obtain ⟨K, KX, c⟩ := Y
  have cd' := c.t.d
  have mem : (Str.ofString "_law_right", none) ∈ tfL := List.mem_singleton.mpr rfl
  obtain ⟨fdF, T⟩ := txt_ok KX G.T.g cd' c.t c.more
  rw [hn] at hmg
  exact law_callG (y := Str.ofString "law") (k := 122) KX G.T.g G.T.b G.T.builtins G.T.nolimit hg (c.empty _ mem) (c.out _ mem) (PySem.W.codeHd_of_K KX (c.hd _ mem)) G.T.bmain hobj hints (Nat.le_trans hlen (by rw [line_eq]; decide)) room_law
    (fun base _ _ TB => law_all T (nk_ok KX G.T.g cd' c.more) (defs_ok KX G.T.g cd') (right_ok KX G.T.g cd') TB) hmg (fun H hP hS => ⟨_, rfl, a, ns, rfl, hS, hP, fun _ => rfl⟩)
end K17
set_option maxHeartbeats 0
/-! K30: the law holds. -/
open PySem PySem.W PySem.Calls PyProof.Rows
theorem PySem.Challenge.cw_selfprint_k17_whole_kinds_of_nodes_and_p_holds : PySem.Challenge.rw_selfprint_k17_whole_kinds_of_nodes_and_p.Holds := by
  w_on; o_law
  refine HandSHeadRun.head_any (r := OpenLaw.row PySem.Challenge.rw_selfprint_k17_whole_kinds_of_nodes_and_p) (q := view (OpenLaw.row PySem.Challenge.rw_selfprint_k17_whole_kinds_of_nodes_and_p).prog [93]) (H := K17.hk) (ob := K17.ob) (M := 6000) (loose := K17.namesL) (d := HandSHeadRun.topDef (OpenLaw.row PySem.Challenge.rw_selfprint_k17_whole_kinds_of_nodes_and_p).prog 93) (kwd := []) K17.ob_eq
    (by kernel_rfl) (fun s => by kernel_rfl) K17.head_run (by kernel_rfl) (by kernel_rfl) (by kernel_rfl) (by rfl) (by first | assumption | decide +kernel) (by decide +kernel) ⟨rfl, rfl, rfl, rfl, rfl, by decide +kernel⟩ ?hw ?hc
  case hw => w_witness2
  case hc => exact K17.walk_law (by kernel_rfl) (by kernel_rfl)
