import PyProof.Rows.All
import Wide.All
import OpenK.AllK
import Wide.FinOn
import HandS.ForMost
import HandS.Exc
import HandS.TryOnly
import HandS.ExcOwn
import HandS.WordsExc
import HandS.IsInst
import HandS.TupAny
import HandS.TupMul
import HandS.Walk
import HandS.Zip
import HandS.Conv
import HandS.Deep
import HandS.Flow
import KE.KDictKeyed
import KE.SortData
import KE.LtData
import KE.DataCmp
import PySem.Challenge.RW_ballrooms_k95_whole_fixed_steps_and_roun
set_option Elab.async false
set_option linter.all false
set_option maxRecDepth 100000
set_option maxHeartbeats 4000000
/-! PL1: plain data D, runs T, the frozen part of a heap, steps. -/
namespace PL
open PySem PySem.Spec PyProof.Rows L2

/-- plain data -/
inductive D where
  | non | bl (b : Bool) | int (i : Int) | str (s : Str) | tup (ds : List D) | lst (ds : List D) | dct (kvs : List (D × D)) | hand | glob (x : Str)

/-- an exception: its class by name, its field -/
structure Exn where
  cls : Str
  fld : Option D

/-- a run: a result, an exception, no word, or a draw -/
inductive T (α : Type) where
  | ret (a : α) | err (x : Exn) | bad | draw (n : Int) (k : Int → T α)

def T.bind {α β : Type} : T α → (α → T β) → T β
  | .ret a, f => f a
  | .err x, _ => .err x
  | .bad, _ => .bad
  | .draw n k, f => .draw n fun i => (k i).bind f

/-- every end -/
def T.Al {α : Type} (P : α → Prop) (R : Exn → Prop) : T α → Prop
  | .ret a => P a
  | .err x => R x
  | .bad => False
  | .draw n k => 0 < n ∧ n < 1073741824 ∧ ∀ i, 0 ≤ i → i < n → (k i).Al P R

def T.opt {α : Type} : Option α → T α
  | some a => .ret a
  | none => .bad

theorem T.Al_mono {α : Type} {P P' : α → Prop} {R R' : Exn → Prop} (hP : ∀ a, P a → P' a) (hR : ∀ x, R x → R' x) : ∀ {t : T α}, t.Al P R → t.Al P' R'
  | .ret a, h => hP a h
  | .err x, h => hR x h
  | .bad, h => h
  | .draw n k, h => ⟨h.1, h.2.1, fun i h0 h1 => T.Al_mono hP hR (h.2.2 i h0 h1)⟩
theorem T.Al_bind {α β : Type} {P : β → Prop} {R : Exn → Prop} {f : α → T β} : ∀ {t : T α}, (t.bind f).Al P R → t.Al (fun a => (f a).Al P R) R
  | .ret _, h => h
  | .err _, h => h
  | .bad, h => h
  | .draw _ k, h => ⟨h.1, h.2.1, fun i h0 h1 => T.Al_bind (t := k i) (h.2.2 i h0 h1)⟩
theorem T.Al_of_bind {α β : Type} {P : β → Prop} {R : Exn → Prop} {f : α → T β} : ∀ {t : T α}, t.Al (fun a => (f a).Al P R) R → (t.bind f).Al P R
  | .ret _, h => h
  | .err _, h => h
  | .bad, h => h
  | .draw _ k, h => ⟨h.1, h.2.1, fun i h0 h1 => T.Al_of_bind (t := k i) (h.2.2 i h0 h1)⟩
theorem T.Al_opt {α : Type} {P : α → Prop} {R : Exn → Prop} {o : Option α} (h : (T.opt o).Al P R) : ∃ a, o = some a ∧ P a := by
  cases o with
  | none => exact h.elim
  | some a => exact ⟨a, rfl, h⟩
theorem T.bind_assoc {α β γ : Type} {f : α → T β} {g : β → T γ} : ∀ {t : T α}, (t.bind f).bind g = t.bind fun a => (f a).bind g
  | .ret _ => rfl
  | .err _ => rfl
  | .bad => rfl
  | .draw n k => by
    show T.draw n _ = T.draw n _
    congr 1
    funext i
    exact T.bind_assoc (t := k i)
theorem T.bind_ret {α : Type} : ∀ {t : T α}, t.bind .ret = t
  | .ret _ => rfl
  | .err _ => rfl
  | .bad => rfl
  | .draw n k => by
    show T.draw n _ = T.draw n _
    congr 1
    funext i
    exact T.bind_ret (t := k i)

/-- a hand of drawn numbers: the list's address, its cells' address, the cells -/
structure Hd where
  a : Addr
  cells : List Int
  live : Bool
/-- it is drawn from -/
def Live (h : Option Hd) (x : Hd) : Prop := h = some x ∧ x.live = true

/-- what stood stands -/
def Le (F F' : Hp) : Prop := ∀ a o, F a = some o → F' a = some o
theorem Le.refl (F : Hp) : Le F F := fun _ _ h => h
theorem Le.trans {F F1 F2 : Hp} (a : Le F F1) (b : Le F1 F2) : Le F F2 := fun x o e => b x o (a x o e)
theorem Le.new {F : Hp} {p : Addr} {o : HO} (h : F p = none) : Le F (upd F p o) := fun a u e => by
  rw [upd_ne (ne_of_none e h)]
  exact e
theorem Le.nn {F F' : Hp} (l : Le F F') {a : Addr} (e : F' a = none) : F a = none := by
  cases q : F a with
  | none => rfl
  | some o =>
    rw [l a o q] at e
    cases e
theorem Le.rd {F F' : Hp} (l : Le F F') {a : Addr} {u : HO} (e : Rd F a u) : Rd F' a u := by
  rcases e with e | ⟨ob, e⟩
  · exact .inl (l _ _ e)
  · exact .inr ⟨ob, l _ _ e⟩
theorem Le.sqL {K : PySem.W.Frag} {F F' : Hp} (l : Le F F') {a : Addr} {xs : List V} (e : SqL K F a xs) : SqL K F' a xs := by
  rcases e with e | e
  · exact .inl (l.rd e)
  · exact .inr e
theorem Le.sqT {K : PySem.W.Frag} {F F' : Hp} (l : Le F F') {a : Addr} {xs : List V} (e : SqT K F a xs) : SqT K F' a xs := by
  rcases e with e | e
  · exact .inl (l.rd e)
  · exact .inr e
end PL
/-! PL2: what bears plain data, the slots, expressions. -/
namespace PL
open PySem PySem.Spec PyProof.Rows L2

/-- what stays the same: the program, the world, the written part, the module's names -/
structure Cn where
  P : Program
  w : World
  K : PySem.W.Frag
  mg : Str → Option Value
abbrev cn (X : Cx) : Cn := ⟨X.prog, X.w, X.K, X.mg⟩

mutual
/-- a key of a dict -/
def nkey : D → Option NestedKey
  | .non => some .none
  | .bl b => some (.num (if b = true then 1 else 0))
  | .int i => some (.num i)
  | .str s => some (.text s)
  | .tup ds => match nkeys ds with
    | some ks => some (.tup ks)
    | none => none
  | _ => none
def nkeys : List D → Option (List NestedKey)
  | [] => some []
  | d :: ds => match nkey d, nkeys ds with
    | some k, some ks => some (k :: ks)
    | _, _ => none
end
/-- a dict that is known to the object -/
def DX (a : Addr) (o : Obj) : HO := .ext fun h => h.get? a = some o

mutual
/-- a value bears plain data, in the frozen part F -/
inductive Rep (C : Cn) (h : Option Hd) (F : Hp) : V → D → Prop
  | non : Rep C h F .non .non
  | bl (b : Bool) : Rep C h F (.bl b) (.bl b)
  | int (i : Int) : Rep C h F (.int i) (.int i)
  | str (s : Str) : Rep C h F (.str s) (.str s)
  | tup {a : Addr} {xs : List V} {ds : List D} (e : SqT C.K F a xs) (r : Reps C h F xs ds) : Rep C h F (.ref a) (.tup ds)
  | lst {a : Addr} {xs : List V} {ds : List D} (e : F a = some (.lst xs)) (r : Reps C h F xs ds) : Rep C h F (.ref a) (.lst ds)
  | dct {a : Addr} {o : Obj} {es : Array DictEntry} {ep : Nat} {kvs : List (D × D)} (e : F a = some (DX a o)) (hx : o.ExactDict) (hd : o.data = .dict es ep) (n : (kvs.map fun q => nkey q.1).Nodup) (r : RepE C h F es.toList kvs) : Rep C h F (.ref a) (.dct kvs)
  | hand {x : Hd} (e : Live h x) : Rep C h F (.ref x.a) .hand
  | glob {x : Str} {a : Addr} (e : C.mg x = some (.ref a)) : Rep C h F (.ref a) (.glob x)
inductive Reps (C : Cn) (h : Option Hd) (F : Hp) : List V → List D → Prop
  | nil : Reps C h F [] []
  | cons {x : V} {d : D} {xs : List V} {ds : List D} (r : Rep C h F x d) (t : Reps C h F xs ds) : Reps C h F (x :: xs) (d :: ds)
/-- a dict's entries -/
inductive RepE (C : Cn) (h : Option Hd) (F : Hp) : List DictEntry → List (D × D) → Prop
  | nil : RepE C h F [] []
  | cons {en : DictEntry} {x y : V} {k d : D} {nk : NestedKey} {es : List DictEntry} {ds : List (D × D)} (rk : RelV x en.key) (hk : Rep C h F x k) (rv : RelV y en.val) (hv : Rep C h F y d) (hn : nkey k = some nk) (hh : en.hash = nk.hash C.w) (t : RepE C h F es ds) :
    RepE C h F (en :: es) ((k, d) :: ds)
end

section
variable {C : Cn} {h : Option Hd} {F F' H H' : Hp}
mutual
theorem Rep.mono (l : Le F F') : ∀ {v : V} {d : D}, Rep C h F v d → Rep C h F' v d
  | _, _, .non => .non
  | _, _, .bl b => .bl b
  | _, _, .int i => .int i
  | _, _, .str s => .str s
  | _, _, .tup e r => .tup (l.sqT e) (Reps.mono l r)
  | _, _, .lst e r => .lst (l _ _ e) (Reps.mono l r)
  | _, _, .dct e hx hd n r => .dct (l _ _ e) hx hd n (RepE.mono l r)
  | _, _, .hand e => .hand e
  | _, _, .glob e => .glob e
theorem Reps.mono (l : Le F F') : ∀ {v : List V} {d : List D}, Reps C h F v d → Reps C h F' v d
  | _, _, .nil => .nil
  | _, _, .cons r t => .cons (Rep.mono l r) (Reps.mono l t)
theorem RepE.mono (l : Le F F') : ∀ {v : List DictEntry} {d : List (D × D)}, RepE C h F v d → RepE C h F' v d
  | _, _, .nil => .nil
  | _, _, .cons rk hk rv hv hn hh t => .cons rk (Rep.mono l hk) rv (Rep.mono l hv) hn hh (RepE.mono l t)
end
theorem Reps.length : ∀ {xs : List V} {ds : List D}, Reps C h F xs ds → xs.length = ds.length
  | _, _, .nil => rfl
  | _, _, .cons _ t => congrArg (· + 1) t.length
theorem Reps.append : ∀ {xs ys : List V} {ds es : List D}, Reps C h F xs ds → Reps C h F ys es → Reps C h F (xs ++ ys) (ds ++ es)
  | _, _, _, _, .nil, s => s
  | _, _, _, _, .cons r t, s => .cons r (t.append s)
theorem Reps.one {x : V} {d : D} (r : Rep C h F x d) : Reps C h F [x] [d] := .cons r .nil
theorem Reps.get : ∀ {xs : List V} {ds : List D} {i : Nat} {d : D}, Reps C h F xs ds → ds[i]? = some d → ∃ x, xs[i]? = some x ∧ Rep C h F x d
  | _, _, _, _, .nil, e => by simp at e
  | _, _, 0, _, .cons r _, e => by
    cases e
    exact ⟨_, rfl, r⟩
  | _, _, i + 1, d, .cons _ t, e => Reps.get (i := i) t e
theorem Reps.get' : ∀ {xs : List V} {ds : List D} {i : Nat} {x : V}, Reps C h F xs ds → xs[i]? = some x → ∃ d, ds[i]? = some d ∧ Rep C h F x d
  | _, _, _, _, .nil, e => by simp at e
  | _, _, 0, _, .cons r _, e => by
    cases e
    exact ⟨_, rfl, r⟩
  | _, _, i + 1, d, .cons _ t, e => Reps.get' (i := i) t e
theorem Reps.take : ∀ {xs : List V} {ds : List D} (n : Nat), Reps C h F xs ds → Reps C h F (xs.take n) (ds.take n)
  | _, _, 0, _ => .nil
  | _, _, _ + 1, .nil => .nil
  | _, _, n + 1, .cons r t => .cons r (t.take n)
theorem Reps.drop : ∀ {xs : List V} {ds : List D} (n : Nat), Reps C h F xs ds → Reps C h F (xs.drop n) (ds.drop n)
  | _, _, 0, r => r
  | _, _, _ + 1, .nil => .nil
  | _, _, n + 1, .cons _ t => t.drop n
theorem Reps.set {x : V} {d : D} (r : Rep C h F x d) : ∀ {xs : List V} {ds : List D} (i : Nat), Reps C h F xs ds → Reps C h F (xs.set i x) (ds.set i d)
  | _, _, _, .nil => .nil
  | _, _, 0, .cons _ t => .cons r t
  | _, _, i + 1, .cons q t => .cons q (t.set r i)
theorem Reps.ints : ∀ {ns : List Int}, Reps C h F (ns.map V.int) (ns.map D.int)
  | [] => .nil
  | _ :: _ => .cons (.int _) Reps.ints

def NotHand (h : Option Hd) (a : Addr) : Prop := ∀ x, Live h x → a ≠ x.a
/-- the hand stands -/
def HandIn (C : Cn) (h : Option Hd) (F H : Hp) : Prop := ∀ x, Live h x → F x.a = none ∧ ∃ c : Addr, F c = some (.lst (x.cells.map V.int)) ∧
  ∃ (i : Nat) (g y m : Int), H x.a = some (.lst [.ref c, .int i, .int g, .int y, .int m])
/-- F is frozen in H -/
structure Fz (C : Cn) (h : Option Hd) (F H : Hp) : Prop where
  le : Le F H
  hand : HandIn C h F H
/-- from one heap and its frozen part to later ones -/
structure Step (C : Cn) (h : Option Hd) (F H F' H' : Hp) : Prop where
  f : Le F F'
  new : ∀ a, F a = none → F' a ≠ none → H a = none
  keep : ∀ a o, NotHand h a → H a = some o → H' a = some o
  z : Fz C h F' H'
theorem Step.refl (z : Fz C h F H) : Step C h F H F H := ⟨Le.refl F, fun a e n => absurd e n, fun _ _ _ e => e, z⟩
theorem NotHand.of {a : Addr} {o : HO} (z : HandIn C h F H) (e : F a = some o) : NotHand h a := fun x hx q => by
  subst q
  rw [(z x hx).1] at e
  cases e
theorem Step.back (s : Step C h F H F' H') (z : Fz C h F H) {a : Addr} (e : H' a = none) : H a = none := by
  cases q : H a with
  | none => rfl
  | some o =>
    by_cases n : NotHand h a
    · rw [s.keep a o n q] at e
      cases e
    · unfold NotHand at n
      have n2 : ∃ x, Live h x ∧ a = x.a := Classical.byContradiction fun q => n fun x hx e => q ⟨x, hx, e⟩
      obtain ⟨x, hx, rfl⟩ := n2
      obtain ⟨_, _, _, i, g, y, m, h1⟩ := s.z.hand x hx
      rw [h1] at e
      cases e
theorem Step.trans {F1 H1 : Hp} (z : Fz C h F H) (a : Step C h F H F1 H1) (b : Step C h F1 H1 F' H') : Step C h F H F' H' where
  f := a.f.trans b.f
  new := fun x e n => by
    cases q : F1 x with
    | none => exact a.back z (b.new x q n)
    | some o => exact a.new x e (by rw [q]; exact fun z => nomatch z)
  keep := fun x o n e => b.keep x o n (a.keep x o n e)
  z := b.z
/-- a new object, not frozen -/
theorem Step.made {p : Addr} {o : HO} (z : Fz C h F H) (n : H p = none) : Step C h F H F (upd H p o) where
  f := Le.refl F
  new := fun a e q => absurd e q
  keep := fun a u _ e => by
    rw [upd_ne (ne_of_none e n)]
    exact e
  z := ⟨z.le.trans (Le.new n), fun x hx => by
    obtain ⟨h1, c, h2, i, g, y, m, h3⟩ := z.hand x hx
    exact ⟨h1, c, h2, i, g, y, m, by rw [upd_ne (ne_of_none h3 n)]; exact h3⟩⟩
theorem Le.upd2 {p : Addr} {o : HO} (l : Le F H) : Le (upd F p o) (upd H p o) := fun a u q => by
  by_cases h : a = p
  · subst h
    rw [upd_same] at q ⊢
    exact q
  · rw [upd_ne h] at q ⊢
    exact l a u q
theorem Le.updR {p : Addr} {o : HO} (l : Le F H) (e : H p = some o) : Le (upd F p o) H := fun a u q => by
  by_cases h : a = p
  · subst h
    rw [upd_same] at q
    cases q
    exact e
  · rw [upd_ne h] at q
    exact l a u q
/-- a new object, frozen at once -/
theorem Step.madeF {p : Addr} {o : HO} (z : Fz C h F H) (n : H p = none) : Step C h F H (upd F p o) (upd H p o) where
  f := Le.new (z.le.nn n)
  new := fun a e q => by
    by_cases h : a = p
    · subst h
      exact n
    · rw [upd_ne h] at q
      exact absurd e q
  keep := fun a u _ e => by
    rw [upd_ne (ne_of_none e n)]
    exact e
  z := ⟨z.le.upd2, fun x hx => by
    obtain ⟨h1, c, h2, i, g, y, m, h3⟩ := z.hand x hx
    have ne : x.a ≠ p := ne_of_none h3 n
    exact ⟨by rw [upd_ne ne]; exact h1, c, (Le.new (z.le.nn n)) _ _ h2, i, g, y, m, by rw [upd_ne ne]; exact h3⟩⟩

/-- a list of one's own -/
def OwnL (C : Cn) (h : Option Hd) (F H : Hp) (a : Addr) (ds : List D) : Prop := F a = none ∧ NotHand h a ∧ ∃ xs, H a = some (.lst xs) ∧ Reps C h F xs ds
/-- what a dict holds -/
structure DRep (C : Cn) (h : Option Hd) (F : Hp) (o : Obj) (kvs : List (D × D)) : Prop where
  hx : o.ExactDict
  n : (kvs.map fun q => nkey q.1).Nodup
  r : ∃ es ep, o.data = .dict es ep ∧ RepE C h F es.toList kvs
theorem DRep.mono {o : Obj} {kvs : List (D × D)} (l : Le F F') (d : DRep C h F o kvs) : DRep C h F' o kvs := ⟨d.hx, d.n, let ⟨es, ep, e, r⟩ := d.r; ⟨es, ep, e, r.mono l⟩⟩
theorem DRep.rep {o : Obj} {kvs : List (D × D)} {a : Addr} (e : F a = some (DX a o)) (d : DRep C h F o kvs) : Rep C h F (.ref a) (.dct kvs) := let ⟨_, _, e1, r⟩ := d.r; .dct e d.hx e1 d.n r
def OwnD (C : Cn) (h : Option Hd) (F H : Hp) (a : Addr) (kvs : List (D × D)) : Prop := F a = none ∧ NotHand h a ∧ ∃ o, H a = some (DX a o) ∧ DRep C h F o kvs
theorem OwnL.step {a : Addr} {ds : List D} (o : OwnL C h F H a ds) (s : Step C h F H F' H') : OwnL C h F' H' a ds := by
  obtain ⟨h1, h2, xs, h3, h4⟩ := o
  refine ⟨?_, h2, xs, s.keep a _ h2 h3, h4.mono s.f⟩
  cases q : F' a with
  | none => rfl
  | some u =>
    have := s.new a h1 (by rw [q]; exact fun z => nomatch z)
    rw [h3] at this
    cases this
theorem OwnD.step {a : Addr} {kvs : List (D × D)} (o : OwnD C h F H a kvs) (s : Step C h F H F' H') : OwnD C h F' H' a kvs := by
  obtain ⟨h1, h2, u, h3, h4⟩ := o
  refine ⟨?_, h2, u, s.keep a _ h2 h3, h4.mono s.f⟩
  cases q : F' a with
  | none => rfl
  | some u =>
    have := s.new a h1 (by rw [q]; exact fun z => nomatch z)
    rw [h3] at this
    cases this
theorem NotHand.new {p : Addr} (z : Fz C h F H) (n : H p = none) : NotHand h p := fun x hx e => by
  obtain ⟨_, _, _, i, g, y, m, h3⟩ := z.hand x hx
  rw [← e, n] at h3
  cases h3
/-- to freeze -/
theorem Step.freeze {a : Addr} {o : HO} {F0 H0 : Hp} (s : Step C h F0 H0 F H) (n0 : H0 a = none) (n : F a = none) (nh : NotHand h a) (e : H a = some o) : Step C h F0 H0 (upd F a o) H where
  f := s.f.trans (Le.new n)
  new := fun x e1 q => by
    by_cases hx : x = a
    · subst hx
      exact n0
    · rw [upd_ne hx] at q
      exact s.new x e1 q
  keep := s.keep
  z := ⟨s.z.le.updR e, fun x hx => by
    obtain ⟨h1, c, h2, i, g, y, m, h3⟩ := s.z.hand x hx
    exact ⟨by rw [upd_ne (nh x hx).symm]; exact h1, c, (Le.new n) _ _ h2, i, g, y, m, h3⟩⟩
theorem OwnL.freeze {a : Addr} {ds : List D} {F0 H0 : Hp} (o : OwnL C h F H a ds) (s : Step C h F0 H0 F H) (n0 : H0 a = none) : ∃ F', Step C h F0 H0 F' H ∧ Le F F' ∧ Rep C h F' (.ref a) (.lst ds) := by
  obtain ⟨h1, h2, xs, h3, h4⟩ := o
  exact ⟨upd F a (.lst xs), s.freeze n0 h1 h2 h3, Le.new h1, .lst upd_same (h4.mono (Le.new h1))⟩
theorem OwnD.freeze {a : Addr} {kvs : List (D × D)} {F0 H0 : Hp} (o : OwnD C h F H a kvs) (s : Step C h F0 H0 F H) (n0 : H0 a = none) : ∃ F', Step C h F0 H0 F' H ∧ Le F F' ∧ Rep C h F' (.ref a) (.dct kvs) := by
  obtain ⟨h1, h2, u, h3, h4⟩ := o
  exact ⟨upd F a (DX a u), s.freeze n0 h1 h2 h3, Le.new h1, (h4.mono (Le.new h1)).rep upd_same⟩

/-- read at once: frozen, or one's own -/
inductive RepP (C : Cn) (h : Option Hd) (F H : Hp) : V → D → Prop
  | fz {v : V} {d : D} (r : Rep C h F v d) : RepP C h F H v d
  | own {a : Addr} {ds : List D} (o : OwnL C h F H a ds) : RepP C h F H (.ref a) (.lst ds)
  | ownD {a : Addr} {kvs : List (D × D)} (o : OwnD C h F H a kvs) : RepP C h F H (.ref a) (.dct kvs)
theorem RepP.step {v : V} {d : D} (s : Step C h F H F' H') : RepP C h F H v d → RepP C h F' H' v d
  | .fz r => .fz (r.mono s.f)
  | .own o => .own (o.step s)
  | .ownD o => .ownD (o.step s)
end

/-! ### slots -/
inductive Sl where
  | un | d (x : D) | own (ds : List D) | ownD (kvs : List (D × D)) | scr (ns : List Int) | pin (ds : List D)
abbrev Env := List Sl
def SlOk (C : Cn) (h : Option Hd) (F H : Hp) (σ : L2.St) (i : Nat) : Sl → Prop
  | .un => True
  | .d x => ∃ v, σ[i]? = some (some v) ∧ Rep C h F v x
  | .own ds => ∃ a, σ[i]? = some (some (.ref a)) ∧ OwnL C h F H a ds
  | .ownD kvs => ∃ a, σ[i]? = some (some (.ref a)) ∧ OwnD C h F H a kvs
  | .scr ns => ∃ a : Addr, σ[i]? = some (some (.ref a)) ∧ SqL C.K F a (ns.map V.int)
  | .pin ds => ∃ x, h = some x ∧ x.live = false ∧ σ[i]? = some (some (.ref x.a)) ∧ OwnL C h F H x.a ds
def isOwn : Option Sl → Bool
  | some (.own _) => true
  | some (.ownD _) => true
  | some (.pin _) => true
  | _ => false
structure EnvE (C : Cn) (h : Option Hd) (F H : Hp) (σ : L2.St) (ρ : Env) : Prop where
  z : Fz C h F H
  slots : ∀ i s, ρ[i]? = some s → SlOk C h F H σ i s
  len : σ.length = ρ.length
  dist : ∀ (i j : Nat) (a : Addr), i ≠ j → isOwn ρ[i]? = true → isOwn ρ[j]? = true → σ[i]? = some (some (.ref a)) → σ[j]? = some (some (.ref a)) → False
theorem SlOk.step {C : Cn} {h : Option Hd} {F H F' H' : Hp} {σ : L2.St} {i : Nat} {s : Sl} (q : SlOk C h F H σ i s) (st : Step C h F H F' H') : SlOk C h F' H' σ i s := by
  cases s with
  | un => trivial
  | d x =>
    obtain ⟨v, e, r⟩ := q
    exact ⟨v, e, r.mono st.f⟩
  | own ds =>
    obtain ⟨a, e, o⟩ := q
    exact ⟨a, e, o.step st⟩
  | ownD kvs =>
    obtain ⟨a, e, o⟩ := q
    exact ⟨a, e, o.step st⟩
  | scr ns =>
    obtain ⟨a, e, o⟩ := q
    exact ⟨a, e, st.f.sqL o⟩
  | pin ds =>
    obtain ⟨x, e, l, e1, o⟩ := q
    exact ⟨x, e, l, e1, o.step st⟩
theorem EnvE.step {C : Cn} {h : Option Hd} {F H F' H' : Hp} {σ : L2.St} {ρ : Env} (E : EnvE C h F H σ ρ) (st : Step C h F H F' H') : EnvE C h F' H' σ ρ :=
  ⟨st.z, fun i s e => (E.slots i s e).step st, E.len, E.dist⟩

/-! ### what is wanted -/
/-- what is wished of an exception, plainly -/
def ErrK (C : Cn) (W : WX) (h : Option Hd) (σ : L2.St) (F : Hp) (H : Hp) (x : Exn) : Prop :=
  match x.fld with
  | none => ∀ c : Addr, C.mg x.cls = some (.ref c) → W (.ref c) none σ H
  | some d => ∀ (c dx : Addr) (nm : Str) (v : V), C.mg x.cls = some (.ref c) → H dx = some (.xd [(nm, v)]) → Rep C h F v d → W (.ref c) (some dx) σ H
def PX (C : Cn) (W : WX) (h : Option Hd) (σ : L2.St) (F H : Hp) (x : Exn) : Prop := ∀ F' H', Step C h F H F' H' → ErrK C W h σ F' H' x
def PD (C : Cn) (h : Option Hd) (F H : Hp) (Q : VK) (d : D) : Prop := ∀ F' H' v, Step C h F H F' H' → Rep C h F' v d → Q v H'
def PP (C : Cn) (h : Option Hd) (F H : Hp) (Q : VK) (d : D) : Prop := ∀ F' H' v, Step C h F H F' H' → RepP C h F' H' v d → Q v H'
def PO (C : Cn) (h : Option Hd) (F H : Hp) (Q : VK) (ds : List D) : Prop := ∀ F' H' a, Step C h F H F' H' → H a = none → OwnL C h F' H' a ds → Q (.ref a) H'
def POD (C : Cn) (h : Option Hd) (F H : Hp) (Q : VK) (kvs : List (D × D)) : Prop := ∀ F' H' a, Step C h F H F' H' → H a = none → OwnD C h F' H' a kvs → Q (.ref a) H'
def PB (C : Cn) (h : Option Hd) (F H : Hp) (Q : Bool → Hp → Prop) (b : Bool) : Prop := ∀ F' H', Step C h F H F' H' → Q b H'
def PL (C : Cn) (h : Option Hd) (F H : Hp) (Q : List V → Hp → Prop) (ds : List D) : Prop := ∀ F' H' vs, Step C h F H F' H' → Reps C h F' vs ds → Q vs H'
section
variable {C : Cn} {W : WX} {h : Option Hd} {σ : L2.St} {F H F' H' : Hp} {Q : VK}
theorem PX.step {x : Exn} (z : Fz C h F H) (s : Step C h F H F' H') (p : PX C W h σ F H x) : PX C W h σ F' H' x := fun _ _ t => p _ _ (s.trans z t)
theorem PD.step {x : D} (z : Fz C h F H) (s : Step C h F H F' H') (p : PD C h F H Q x) : PD C h F' H' Q x := fun _ _ _ t r => p _ _ _ (s.trans z t) r
theorem PO.step {x : List D} (z : Fz C h F H) (s : Step C h F H F' H') (p : PO C h F H Q x) : PO C h F' H' Q x := fun _ _ _ t n r => p _ _ _ (s.trans z t) (s.back z n) r
theorem POD.step {x : List (D × D)} (z : Fz C h F H) (s : Step C h F H F' H') (p : POD C h F H Q x) : POD C h F' H' Q x := fun _ _ _ t n r => p _ _ _ (s.trans z t) (s.back z n) r
end

/-- expressions: frozen; to be read at once; a new list; a new dict; a test; arguments -/
def EvE (C : Cn) (W : WX) (te : TE) (m : Env → T D) : Prop := ∀ h F H σ ρ (Q : VK), EnvE C h F H σ ρ → (m ρ).Al (PD C h F H Q) (PX C W h σ F H) → te σ H Q
def EvP (C : Cn) (W : WX) (te : TE) (m : Env → T D) : Prop := ∀ h F H σ ρ (Q : VK), EnvE C h F H σ ρ → (m ρ).Al (PP C h F H Q) (PX C W h σ F H) → te σ H Q
def EvO (C : Cn) (W : WX) (te : TE) (m : Env → T (List D)) : Prop := ∀ h F H σ ρ (Q : VK), EnvE C h F H σ ρ → (m ρ).Al (PO C h F H Q) (PX C W h σ F H) → te σ H Q
def EvOD (C : Cn) (W : WX) (te : TE) (m : Env → T (List (D × D))) : Prop := ∀ h F H σ ρ (Q : VK), EnvE C h F H σ ρ → (m ρ).Al (POD C h F H Q) (PX C W h σ F H) → te σ H Q
def EvB (C : Cn) (W : WX) (tt : TT) (m : Env → T Bool) : Prop := ∀ h F H σ ρ (Q : Bool → Hp → Prop), EnvE C h F H σ ρ → (m ρ).Al (PB C h F H Q) (PX C W h σ F H) → tt σ H Q
def EvA (C : Cn) (W : WX) (ta : TA) (m : Env → T (List D)) : Prop := ∀ h F H σ ρ (Q : List V → Hp → Prop), EnvE C h F H σ ρ → (m ρ).Al (PL C h F H Q) (PX C W h σ F H) → ta σ H Q


/-- the readings that a run gives -/
def tD (C : Cn) (W : WX) (m : Env → T D) : TE := fun σ H Q => ∃ h F ρ, EnvE C h F H σ ρ ∧ (m ρ).Al (PD C h F H Q) (PX C W h σ F H)
def tP (C : Cn) (W : WX) (m : Env → T D) : TE := fun σ H Q => ∃ h F ρ, EnvE C h F H σ ρ ∧ (m ρ).Al (PP C h F H Q) (PX C W h σ F H)
def tO (C : Cn) (W : WX) (m : Env → T (List D)) : TE := fun σ H Q => ∃ h F ρ, EnvE C h F H σ ρ ∧ (m ρ).Al (PO C h F H Q) (PX C W h σ F H)
def tOD (C : Cn) (W : WX) (m : Env → T (List (D × D))) : TE := fun σ H Q => ∃ h F ρ, EnvE C h F H σ ρ ∧ (m ρ).Al (POD C h F H Q) (PX C W h σ F H)
def tTB (C : Cn) (W : WX) (m : Env → T Bool) : TT := fun σ H Q => ∃ h F ρ, EnvE C h F H σ ρ ∧ (m ρ).Al (PB C h F H Q) (PX C W h σ F H)
def tAL (C : Cn) (W : WX) (m : Env → T (List D)) : TA := fun σ H Q => ∃ h F ρ, EnvE C h F H σ ρ ∧ (m ρ).Al (PL C h F H Q) (PX C W h σ F H)
theorem evD {C : Cn} {W : WX} {m : Env → T D} : EvE C W (tD C W m) m := fun h F H σ ρ Q E a => ⟨h, F, ρ, E, a⟩
theorem evP {C : Cn} {W : WX} {m : Env → T D} : EvP C W (tP C W m) m := fun h F H σ ρ Q E a => ⟨h, F, ρ, E, a⟩
theorem evO {C : Cn} {W : WX} {m : Env → T (List D)} : EvO C W (tO C W m) m := fun h F H σ ρ Q E a => ⟨h, F, ρ, E, a⟩
theorem evOD {C : Cn} {W : WX} {m : Env → T (List (D × D))} : EvOD C W (tOD C W m) m := fun h F H σ ρ Q E a => ⟨h, F, ρ, E, a⟩
theorem evB {C : Cn} {W : WX} {m : Env → T Bool} : EvB C W (tTB C W m) m := fun h F H σ ρ Q E a => ⟨h, F, ρ, E, a⟩
theorem evA {C : Cn} {W : WX} {m : Env → T (List D)} : EvA C W (tAL C W m) m := fun h F H σ ρ Q E a => ⟨h, F, ρ, E, a⟩

/-- an expression runs as m; read at once; a new list; a new dict; a test; a test in and, or; arguments -/
def DE (X : Cx) (W : WX) (e : Expr) (m : Env → T D) : Prop := PE X e (tD (cn X) W m)
def DP (X : Cx) (W : WX) (e : Expr) (m : Env → T D) : Prop := PE X e (tP (cn X) W m)
def DO (X : Cx) (W : WX) (e : Expr) (m : Env → T (List D)) : Prop := PE X e (tO (cn X) W m)
def DOD (X : Cx) (W : WX) (e : Expr) (m : Env → T (List (D × D))) : Prop := PE X e (tOD (cn X) W m)
def DB (X : Cx) (W : WX) (e : Expr) (m : Env → T Bool) : Prop := PT X e (tTB (cn X) W m)
def DW (X : Cx) (W : WX) (e : Expr) (m : Env → T Bool) : Prop := PW X e (tTB (cn X) W m)
def DA (X : Cx) (W : WX) (es : List Expr) (m : Env → T (List D)) : Prop := PA X es (tAL (cn X) W m)
section
variable {X : Cx} {W : WX} {e : Expr} {es : List Expr} {te : TE} {tt : TT} {ta : TA}
theorem DE.of {m : Env → T D} (p : PE X e te) (v : EvE (cn X) W te m) : DE X W e m := ⟨fun pins s σ H Q I ⟨h, F, ρ, E, a⟩ => p.run pins s σ H Q I (v h F H σ ρ Q E a)⟩
theorem DP.of {m : Env → T D} (p : PE X e te) (v : EvP (cn X) W te m) : DP X W e m := ⟨fun pins s σ H Q I ⟨h, F, ρ, E, a⟩ => p.run pins s σ H Q I (v h F H σ ρ Q E a)⟩
theorem DO.of {m : Env → T (List D)} (p : PE X e te) (v : EvO (cn X) W te m) : DO X W e m := ⟨fun pins s σ H Q I ⟨h, F, ρ, E, a⟩ => p.run pins s σ H Q I (v h F H σ ρ Q E a)⟩
theorem DOD.of {m : Env → T (List (D × D))} (p : PE X e te) (v : EvOD (cn X) W te m) : DOD X W e m := ⟨fun pins s σ H Q I ⟨h, F, ρ, E, a⟩ => p.run pins s σ H Q I (v h F H σ ρ Q E a)⟩
theorem DB.of {m : Env → T Bool} (p : PT X e tt) (v : EvB (cn X) W tt m) : DB X W e m := ⟨fun pins s σ H Q I ⟨h, F, ρ, E, a⟩ => p.run pins s σ H Q I (v h F H σ ρ Q E a)⟩
theorem DW.of {m : Env → T Bool} (p : PW X e tt) (v : EvB (cn X) W tt m) : DW X W e m := ⟨fun wh pins s σ H Q I ⟨h, F, ρ, E, a⟩ => p.run wh pins s σ H Q I (v h F H σ ρ Q E a)⟩
theorem DA.of {m : Env → T (List D)} (p : PA X es ta) (v : EvA (cn X) W ta m) : DA X W es m := ⟨fun pos pins s σ H Q I ⟨h, F, ρ, E, a⟩ => p.run pos pins s σ H Q I (v h F H σ ρ Q E a)⟩
end

theorem EvE.p {C : Cn} {W : WX} {te : TE} {m : Env → T D} (e : EvE C W te m) : EvP C W te m := fun h F H σ ρ Q E a =>
  e h F H σ ρ Q E (T.Al_mono (fun d p F' H' v s r => p F' H' v s (.fz r)) (fun _ x => x) a)
theorem DE.p {X : Cx} {W : WX} {e : Expr} {m : Env → T D} (h : DE X W e m) : DP X W e m := DP.of h evD.p
theorem T.Al_map {α β : Type} {P : β → Prop} {R : Exn → Prop} {f : α → β} {t : T α} (a : (t.bind fun x => .ret (f x)).Al P R) : t.Al (fun x => P (f x)) R := T.Al_bind a
def eL (m : Env → T (List D)) : Env → T D := fun ρ => (m ρ).bind fun ds => .ret (.lst ds)
def eD (m : Env → T (List (D × D))) : Env → T D := fun ρ => (m ρ).bind fun ds => .ret (.dct ds)
/-- a new list, frozen -/
theorem EvO.e {C : Cn} {W : WX} {te : TE} {m : Env → T (List D)} (e : EvO C W te m) : EvE C W te (eL m) := fun h F H σ ρ Q E a =>
  e h F H σ ρ Q E (T.Al_mono (fun ds p F' H' a' s n o => by
    obtain ⟨F2, s2, l2, r2⟩ := o.freeze s n
    exact p F2 H' _ s2 r2) (fun _ x => x) (T.Al_map a))
theorem EvOD.e {C : Cn} {W : WX} {te : TE} {m : Env → T (List (D × D))} (e : EvOD C W te m) : EvE C W te (eD m) := fun h F H σ ρ Q E a =>
  e h F H σ ρ Q E (T.Al_mono (fun ds p F' H' a' s n o => by
    obtain ⟨F2, s2, l2, r2⟩ := o.freeze s n
    exact p F2 H' _ s2 r2) (fun _ x => x) (T.Al_map a))
theorem DO.e {X : Cx} {W : WX} {e : Expr} {m : Env → T (List D)} (h : DO X W e m) : DE X W e (eL m) := DE.of h evO.e
theorem DOD.e {X : Cx} {W : WX} {e : Expr} {m : Env → T (List (D × D))} (h : DOD X W e m) : DE X W e (eD m) := DE.of h evOD.e
theorem DO.p {X : Cx} {W : WX} {e : Expr} {m : Env → T (List D)} (h : DO X W e m) : DP X W e (eL m) := h.e.p
theorem DOD.p {X : Cx} {W : WX} {e : Expr} {m : Env → T (List (D × D))} (h : DOD X W e m) : DP X W e (eD m) := h.e.p
end PL
/-! PL3: operators, names, constants, tests, displays. -/
namespace PL
open PySem PySem.Spec PyProof.Rows L2

/-! ### data -/
mutual
def D.toP : D → PyData
  | .non => .none
  | .bl b => .bool b
  | .int i => .int i
  | .str s => .str s
  | .tup ds => .tuple (D.toPs ds)
  | .lst ds => .list (D.toPs ds)
  | _ => .none
def D.toPs : List D → List PyData
  | [] => []
  | d :: ds => d.toP :: D.toPs ds
end
mutual
/-- plain, to a depth -/
def plain : Nat → D → Bool
  | _, .non => true
  | _, .bl _ => true
  | _, .int _ => true
  | _, .str s => PyData.strOk s
  | n, .tup ds => match n with
    | 0 => false
    | m + 1 => plains m ds
  | n, .lst ds => match n with
    | 0 => false
    | m + 1 => plains m ds
  | _, .dct _ => false
  | _, .hand => false
  | _, .glob _ => false
def plains : Nat → List D → Bool
  | _, [] => true
  | n, d :: ds => plain n d && plains n ds
end
mutual
def D.eqv : D → D → Bool
  | .non, .non => true
  | .bl a, .bl b => a == b
  | .bl a, .int j => (if a then 1 else 0) == j
  | .int i, .bl b => i == (if b then 1 else 0)
  | .int i, .int j => i == j
  | .str x, .str y => x == y
  | .lst xs, .lst ys => D.eqvs xs ys
  | .tup xs, .tup ys => D.eqvs xs ys
  | _, _ => false
def D.eqvs : List D → List D → Bool
  | [], [] => true
  | x :: xs, y :: ys => D.eqv x y && D.eqvs xs ys
  | [], _ :: _ => false
  | _ :: _, [] => false
end
mutual
theorem eqv_toP : ∀ (n m : Nat) (x y : D), plain n x = true → plain m y = true → PyData.eqv x.toP y.toP = D.eqv x y
  | n, m, .tup xs, .tup ys, h1, h2 => by
    cases n with
    | zero => simp [plain] at h1
    | succ n =>
    cases m with
    | zero => simp [plain] at h2
    | succ m =>
    simp only [plain] at h1 h2
    simp only [D.toP, PyData.eqv, D.eqv]
    exact eqvs_toP n m xs ys h1 h2
  | n, m, .lst xs, .lst ys, h1, h2 => by
    cases n with
    | zero => simp [plain] at h1
    | succ n =>
    cases m with
    | zero => simp [plain] at h2
    | succ m =>
    simp only [plain] at h1 h2
    simp only [D.toP, PyData.eqv, D.eqv]
    exact eqvs_toP n m xs ys h1 h2
  | n, m, .non, y, h1, h2 => by cases y <;> first | (exfalso; simp [plain] at h2; done) | rfl | simp [D.toP, PyData.eqv, D.eqv]
  | n, m, .bl b, y, h1, h2 => by cases y <;> first | (exfalso; simp [plain] at h2; done) | rfl | simp [D.toP, PyData.eqv, D.eqv]
  | n, m, .int i, y, h1, h2 => by cases y <;> first | (exfalso; simp [plain] at h2; done) | rfl | simp [D.toP, PyData.eqv, D.eqv]
  | n, m, .str i, y, h1, h2 => by cases y <;> first | (exfalso; simp [plain] at h2; done) | rfl | simp [D.toP, PyData.eqv, D.eqv]
  | n, m, .tup xs, .non, h1, h2 => by simp [D.toP, PyData.eqv, D.eqv]
  | n, m, .tup xs, .bl _, h1, h2 => by simp [D.toP, PyData.eqv, D.eqv]
  | n, m, .tup xs, .int _, h1, h2 => by simp [D.toP, PyData.eqv, D.eqv]
  | n, m, .tup xs, .str _, h1, h2 => by simp [D.toP, PyData.eqv, D.eqv]
  | n, m, .tup xs, .lst _, h1, h2 => by simp [D.toP, PyData.eqv, D.eqv]
  | n, m, .lst xs, .non, h1, h2 => by simp [D.toP, PyData.eqv, D.eqv]
  | n, m, .lst xs, .bl _, h1, h2 => by simp [D.toP, PyData.eqv, D.eqv]
  | n, m, .lst xs, .int _, h1, h2 => by simp [D.toP, PyData.eqv, D.eqv]
  | n, m, .lst xs, .str _, h1, h2 => by simp [D.toP, PyData.eqv, D.eqv]
  | n, m, .lst xs, .tup _, h1, h2 => by simp [D.toP, PyData.eqv, D.eqv]
  | n, m, .dct _, y, h1, h2 => by simp [plain] at h1
  | n, m, .hand, y, h1, h2 => by simp [plain] at h1
  | n, m, .glob _, y, h1, h2 => by simp [plain] at h1
  | n, m, x, .dct _, h1, h2 => by simp [plain] at h2
  | n, m, x, .hand, h1, h2 => by simp [plain] at h2
  | n, m, x, .glob _, h1, h2 => by simp [plain] at h2
theorem eqvs_toP : ∀ (n m : Nat) (xs ys : List D), plains n xs = true → plains m ys = true → PyData.eqvAll (D.toPs xs) (D.toPs ys) = D.eqvs xs ys
  | _, _, [], [], _, _ => rfl
  | _, _, [], _ :: _, _, _ => rfl
  | _, _, _ :: _, [], _, _ => rfl
  | n, m, x :: xs, y :: ys, h1, h2 => by
    simp only [plains, Bool.and_eq_true] at h1 h2
    simp only [D.toPs, PyData.eqvAll, D.eqvs]
    rw [eqv_toP n m x y h1.1 h2.1, eqvs_toP n m xs ys h1.2 h2.2]
end
mutual
theorem plain_lay : ∀ (n : Nat) (x : D), plain n x = true → x.toP.canLay0 = true ∧ x.toP.depth ≤ n
  | n, .non, _ => by simp [D.toP, PyData.canLay0, PyData.depth]
  | n, .bl _, _ => by simp [D.toP, PyData.canLay0, PyData.depth]
  | n, .int _, _ => by simp [D.toP, PyData.canLay0, PyData.depth]
  | n, .str s, h => by
    simp only [plain] at h
    simp [D.toP, PyData.canLay0, PyData.depth, h]
  | 0, .tup ds, h => by simp [plain] at h
  | n + 1, .tup ds, h => by
    simp only [plain] at h
    have := plains_lay n ds h
    simp only [D.toP, PyData.canLay0, PyData.depth]
    exact ⟨this.1, by omega⟩
  | 0, .lst ds, h => by simp [plain] at h
  | n + 1, .lst ds, h => by
    simp only [plain] at h
    have := plains_lay n ds h
    simp only [D.toP, PyData.canLay0, PyData.depth]
    exact ⟨this.1, by omega⟩
  | n, .dct _, h => by simp [plain] at h
  | n, .hand, h => by simp [plain] at h
  | n, .glob _, h => by simp [plain] at h
theorem plains_lay : ∀ (n : Nat) (x : List D), plains n x = true → PyData.canLayAll0 (D.toPs x) = true ∧ PyData.depthAll (D.toPs x) ≤ n
  | n, [], _ => by simp [D.toPs, PyData.canLayAll0, PyData.depthAll]
  | n, d :: ds, h => by
    simp only [plains, Bool.and_eq_true] at h
    have h1 := plain_lay n d h.1
    have h2 := plains_lay n ds h.2
    simp only [D.toPs, PyData.canLayAll0, PyData.depthAll, Bool.and_eq_true]
    exact ⟨⟨h1.1, h2.1⟩, by omega⟩
end
theorem plain_shaped {n : Nat} {x : D} (h : plain n x = true) (hn : n ≤ 64) : SeqAt.shaped x.toP = true := by
  have := plain_lay n x h
  show (x.toP.canLay0 && decide (x.toP.depth ≤ 64)) = true
  rw [Bool.and_eq_true]
  exact ⟨this.1, decide_eq_true (by omega)⟩
section
variable {C : Cn} {h : Option Hd} {F H : Hp}
mutual
theorem Rep.dp (l : Le F H) : ∀ {v : V} {d : D} (n : Nat), plain n d = true → Rep C h F v d → Dp C.K H v d.toP
  | _, _, _, _, .non => .non
  | _, _, _, _, .bl b => .bl b
  | _, _, _, _, .int i => .int i
  | _, _, _, _, .str s => .str s
  | _, _, 0, p, .tup e r => by simp [plain] at p
  | _, _, n + 1, p, .tup e r => .tup (l.sqT e) (Reps.dp l n (by simpa [plain] using p) r)
  | _, _, 0, p, .lst e r => by simp [plain] at p
  | _, _, n + 1, p, .lst e r => .lst (SqL.of (l _ _ e)) (Reps.dp l n (by simpa [plain] using p) r)
  | _, _, n, p, .dct _ _ _ _ _ => by simp [plain] at p
  | _, _, n, p, .hand _ => by simp [plain] at p
  | _, _, n, p, .glob _ => by simp [plain] at p
theorem Reps.dp (l : Le F H) : ∀ {v : List V} {d : List D} (n : Nat), plains n d = true → Reps C h F v d → DpAll C.K H v (D.toPs d)
  | _, _, _, _, .nil => .nil
  | _, _, n, p, .cons r t => by
    simp only [plains, Bool.and_eq_true] at p
    exact .cons (Rep.dp l n p.1 r) (Reps.dp l n p.2 t)
end
theorem RepP.dp (l : Le F H) {v : V} {d : D} {n : Nat} (p : plain n d = true) (r : RepP C h F H v d) : Dp C.K H v d.toP := by
  cases r with
  | fz r => exact r.dp l n p
  | @own a ds o =>
    obtain ⟨_, _, xs, h3, h4⟩ := o
    cases n with
    | zero => simp [plain] at p
    | succ n => exact .lst (SqL.of h3) (h4.dp l n (by simpa [plain] using p))
  | ownD o => cases n <;> simp [plain] at p
/-- a list, read -/
theorem RepP.lst (z : Fz C h F H) {v : V} {ds : List D} (r : RepP C h F H v (.lst ds)) : ∃ a xs, v = .ref a ∧ H a = some (.lst xs) ∧ Reps C h F xs ds := by
  cases r with
  | fz r =>
    cases r with
    | lst e r => exact ⟨_, _, rfl, z.le _ _ e, r⟩
  | own o =>
    obtain ⟨_, _, xs, h3, h4⟩ := o
    exact ⟨_, _, rfl, h3, h4⟩
theorem RepP.tup (z : Fz C h F H) {v : V} {ds : List D} (r : RepP C h F H v (.tup ds)) : ∃ a xs, v = .ref a ∧ SqT C.K H a xs ∧ SqT C.K F a xs ∧ Reps C h F xs ds := by
  cases r with
  | fz r =>
    cases r with
    | tup e r => exact ⟨_, _, rfl, z.le.sqT e, e, r⟩
theorem RepP.int {v : V} {i : Int} (r : RepP C h F H v (.int i)) : v = .int i := by
  cases r with
  | fz r => cases r; rfl
theorem RepP.bl {v : V} {i : Bool} (r : RepP C h F H v (.bl i)) : v = .bl i := by
  cases r with
  | fz r => cases r; rfl
theorem RepP.str {v : V} {i : Str} (r : RepP C h F H v (.str i)) : v = .str i := by
  cases r with
  | fz r => cases r; rfl
theorem RepP.non {v : V} (r : RepP C h F H v .non) : v = .non := by
  cases r with
  | fz r => cases r; rfl
theorem Step.newT {p : Addr} {xs : List V} {ds : List D} (z : Fz C h F H) (n : H p = none) (r : Reps C h F xs ds) : Step C h F H (upd F p (.tup xs)) (upd H p (.tup xs)) ∧ Rep C h (upd F p (.tup xs)) (.ref p) (.tup ds) :=
  ⟨Step.madeF z n, .tup (SqT.of upd_same) (r.mono (Le.new (z.le.nn n)))⟩
theorem Step.newL {p : Addr} {xs : List V} {ds : List D} (z : Fz C h F H) (n : H p = none) (r : Reps C h F xs ds) : Step C h F H (upd F p (.lst xs)) (upd H p (.lst xs)) ∧ Rep C h (upd F p (.lst xs)) (.ref p) (.lst ds) :=
  ⟨Step.madeF z n, .lst upd_same (r.mono (Le.new (z.le.nn n)))⟩
theorem Step.newO {p : Addr} {xs : List V} {ds : List D} (z : Fz C h F H) (n : H p = none) (r : Reps C h F xs ds) : Step C h F H F (upd H p (.lst xs)) ∧ OwnL C h F (upd H p (.lst xs)) p ds :=
  ⟨Step.made z n, z.le.nn n, NotHand.new z n, xs, upd_same, r⟩
end

/-! ### values in, a value out -/
def R2D (C : Cn) (r : R2) (f : D → D → Option D) : Prop := ∀ h F H x y dx dy d (Q : VK), Fz C h F H → RepP C h F H x dx → RepP C h F H y dy → f dx dy = some d → (∀ F' H' v, Step C h F H F' H' → Rep C h F' v d → Q v H') → r x y H Q
def R2O (C : Cn) (r : R2) (f : D → D → Option (List D)) : Prop := ∀ h F H x y dx dy ds (Q : VK), Fz C h F H → RepP C h F H x dx → RepP C h F H y dy → f dx dy = some ds → (∀ F' H' a, Step C h F H F' H' → H a = none → OwnL C h F' H' a ds → Q (.ref a) H') → r x y H Q
def R1D (C : Cn) (r : V → Hp → VK → Prop) (f : D → Option D) : Prop := ∀ h F H x dx d (Q : VK), Fz C h F H → RepP C h F H x dx → f dx = some d → (∀ F' H' v, Step C h F H F' H' → Rep C h F' v d → Q v H') → r x H Q
/-- an operator keeps to f -/
def BinOk (X : Cx) (g : Value → Value → Sem Value) (f : D → D → Option D) : Prop := ∃ r, OpR X g r ∧ R2D (cn X) r f
def BinOkO (X : Cx) (g : Value → Value → Sem Value) (f : D → D → Option (List D)) : Prop := ∃ r, OpR X g r ∧ R2O (cn X) r f
def UnOk (X : Cx) (g : Value → Sem Value) (f : D → Option D) : Prop := ∃ r, UnR X g r ∧ R1D (cn X) r f
theorem OpR.or {X : Cx} {g : Value → Value → Sem Value} {r r' : R2} (a : OpR X g r) (b : OpR X g r') : OpR X g (fun x y H Q => r x y H Q ∨ r' x y H Q) := fun pins s σ H x y v u Q I rx ry h => by
  rcases h with h | h
  · exact a pins s σ H x y v u Q I rx ry h
  · exact b pins s σ H x y v u Q I rx ry h
def orElse {α : Type} : Option α → Option α → Option α
  | some a, _ => some a
  | none, b => b
theorem R2D.or {C : Cn} {r r' : R2} {f f' : D → D → Option D} (a : R2D C r f) (b : R2D C r' f') : R2D C (fun x y H Q => r x y H Q ∨ r' x y H Q) (fun x y => orElse (f x y) (f' x y)) := fun h F H x y dx dy d Q z rx ry e q => by
  have e : orElse (f dx dy) (f' dx dy) = some d := e
  cases e1 : f dx dy with
  | some d1 =>
    rw [e1] at e
    cases e
    exact .inl (a h F H x y dx dy _ Q z rx ry e1 q)
  | none =>
    rw [e1] at e
    exact .inr (b h F H x y dx dy d Q z rx ry e q)
theorem BinOk.or {X : Cx} {g : Value → Value → Sem Value} {f f' : D → D → Option D} (a : BinOk X g f) (b : BinOk X g f') : BinOk X g (fun x y => orElse (f x y) (f' x y)) :=
  let ⟨_, a1, a2⟩ := a; let ⟨_, b1, b2⟩ := b; ⟨_, OpR.or a1 b1, a2.or b2⟩
theorem BinOk.imp {X : Cx} {g : Value → Value → Sem Value} {f f' : D → D → Option D} (a : BinOk X g f) (h : ∀ x y d, f' x y = some d → f x y = some d) : BinOk X g f' :=
  let ⟨r, a1, a2⟩ := a; ⟨r, a1, fun hh F H x y dx dy d Q z rx ry e q => a2 hh F H x y dx dy d Q z rx ry (h _ _ _ e) q⟩

section
variable {X : Cx} {W : WX}

/-! ### ints -/
theorem bin_int {g : Value → Value → Sem Value} {C : Int → Int → Prop} {v : Int → Int → V} {w : Int → Int → D} {f : D → D → Option D} (ho : OpR X g (rI C v)) (hv : ∀ i j cc h F, Rep cc h F (v i j) (w i j))
    (hf : ∀ x y d, f x y = some d → ∃ i j, x = .int i ∧ y = .int j ∧ C i j ∧ d = w i j) : BinOk X g f :=
  ⟨_, ho, fun h F H x y dx dy d Q z rx ry e q => by
    obtain ⟨i, j, rfl, rfl, c, rfl⟩ := hf _ _ _ e
    cases rx.int
    cases ry.int
    exact ⟨i, j, rfl, rfl, c, q F H _ (Step.refl z) (hv i j _ _ _)⟩⟩
theorem bin_int0 {g : Value → Value → Sem Value} {v : Int → Int → V} {w : Int → Int → D} {f : D → D → Option D} (ho : OpR X g (rI0 v)) (hv : ∀ i j cc h F, Rep cc h F (v i j) (w i j))
    (hf : ∀ x y d, f x y = some d → ∃ i j, x = .int i ∧ y = .int j ∧ d = w i j) : BinOk X g f :=
  ⟨_, ho, fun h F H x y dx dy d Q z rx ry e q => by
    obtain ⟨i, j, rfl, rfl, rfl⟩ := hf _ _ _ e
    cases rx.int
    cases ry.int
    exact ⟨i, j, rfl, rfl, q F H _ (Step.refl z) (hv i j _ _ _)⟩⟩
def dSub : D → D → Option D
  | .int i, .int j => some (.int (i - j))
  | _, _ => none
theorem b_sub : BinOk X (binaryOp .Sub) dSub := bin_int0 op_sub (fun i j _ _ _ => .int (i - j)) fun x y d e => by
  unfold dSub at e
  split at e <;> first | cases e | skip
  exact ⟨_, _, rfl, rfl, rfl⟩
def small64 (i : Int) : Bool := decide (-(2 ^ 64) < i) && decide (i < 2 ^ 64)
def dMod : D → D → Option D
  | .int i, .int j => if 0 < j then some (.int (i % j)) else none
  | _, _ => none
theorem b_mod : BinOk X (binaryOp .Mod) dMod := bin_int op_mod (fun i j _ _ _ => .int (i % j)) fun x y d e => by
  unfold dMod at e
  split at e
  · split at e <;> first | cases e | skip
    exact ⟨_, _, rfl, rfl, by assumption, rfl⟩
  · cases e
def dFdiv : D → D → Option D
  | .int i, .int j => if 0 < j ∧ j < 1073741824 then some (.int (i / j)) else none
  | _, _ => none
theorem b_fdiv : BinOk X (binaryOp .FloorDiv) dFdiv := bin_int op_fdiv (fun i j _ _ _ => .int (i / j)) fun x y d e => by
  unfold dFdiv at e
  split at e
  · split at e <;> first | cases e | skip
    exact ⟨_, _, rfl, rfl, by assumption, rfl⟩
  · cases e
def dPow : D → D → Option D
  | .int i, .int j => if 0 ≤ j ∧ j ≤ 1000000 ∧ i.natAbs < 2 ^ 64 then some (.int (i ^ j.toNat)) else none
  | _, _ => none
theorem b_pow : BinOk X (binaryOp .Pow) dPow := bin_int op_pow (fun i j _ _ _ => .int (i ^ j.toNat)) fun x y d e => by
  unfold dPow at e
  split at e
  · split at e <;> first | cases e | skip
    exact ⟨_, _, rfl, rfl, by assumption, rfl⟩
  · cases e
def dShl : D → D → Option D
  | .int i, .int j => if 0 ≤ j ∧ j ≤ 1000000 ∧ i.natAbs < 2 ^ 64 then some (.int (i * 2 ^ j.toNat)) else none
  | _, _ => none
theorem b_shl : BinOk X (binaryOp .LShift) dShl := bin_int op_shl (fun i j _ _ _ => .int (i * 2 ^ j.toNat)) fun x y d e => by
  unfold dShl at e
  split at e
  · split at e <;> first | cases e | skip
    exact ⟨_, _, rfl, rfl, by assumption, rfl⟩
  · cases e
/-- a product: of ints -/
def dMulI : D → D → Option D
  | .int i, .int j => if (-(2 ^ 64) < i ∧ i < 2 ^ 64) ∨ (-(2 ^ 64) < j ∧ j < 2 ^ 64) then some (.int (i * j)) else none
  | _, _ => none
theorem b_mulI : BinOk X (binaryOp .Mult) dMulI := bin_int op_mul (fun i j _ _ _ => .int (i * j)) fun x y d e => by
  unfold dMulI at e
  split at e
  · split at e <;> first | cases e | skip
    exact ⟨_, _, rfl, rfl, by assumption, rfl⟩
  · cases e
/-! ### + -/
def dAdd : D → D → Option D
  | .int i, .int j => some (.int (i + j))
  | .str a, .str b => if a.length + b.length ≤ 16777216 then some (.str (a ++ b)) else none
  | .tup a, .tup b => if a.length + b.length ≤ 16777216 then some (.tup (a ++ b)) else none
  | .lst a, .lst b => if a.length + b.length ≤ 16777216 then some (.lst (a ++ b)) else none
  | .int i, .bl b => some (.int (i + if b then 1 else 0))
  | _, _ => none
def dCat : D → D → Option (List D)
  | .lst a, .lst b => if a.length + b.length ≤ 16777216 then some (a ++ b) else none
  | _, _ => none
def dAddT : D → D → Option D
  | .tup a, .tup b => if a.length + b.length ≤ 16777216 then some (.tup (a ++ b)) else none
  | _, _ => none
def dAddS : D → D → Option D
  | .str a, .str b => if a.length + b.length ≤ 16777216 then some (.str (a ++ b)) else none
  | _, _ => none
def dAddIB : D → D → Option D
  | .int i, .bl b => some (.int (i + if b then 1 else 0))
  | _, _ => none
def dAddI : D → D → Option D
  | .int i, .int j => some (.int (i + j))
  | _, _ => none
theorem b_addT : BinOk X (binaryOp .Add) dAddT :=
  ⟨_, op_catA, fun h F H x y dx dy d Q z rx ry e q => by
    unfold dAddT at e
    split at e <;> first | cases e | skip
    rename_i a b
    split at e <;> first | cases e | skip
    rename_i hl
    obtain ⟨pa, xs, rfl, e1, f1, r1⟩ := rx.tup z
    obtain ⟨pb, ys, rfl, e2, f2, r2⟩ := ry.tup z
    refine ⟨pa, pb, xs, ys, rfl, rfl, e1, e2, by rw [r1.length, r2.length, sizeLine_eq]; exact hl, fun q0 => ?_, fun _ q0 => ?_, fun _ _ p hp => ?_⟩
    · subst q0
      cases r1
      exact q F H _ (Step.refl z) (.tup f2 r2)
    · subst q0
      cases r2
      rw [List.append_nil] at q
      exact q F H _ (Step.refl z) (.tup f1 r1)
    · obtain ⟨s, r⟩ := Step.newT z hp (r1.append r2)
      exact q _ _ _ s r⟩
theorem b_addS : BinOk X (binaryOp .Add) dAddS :=
  ⟨_, op_add_str, fun h F H x y dx dy d Q z rx ry e q => by
    unfold dAddS at e
    split at e <;> first | cases e | skip
    split at e <;> first | cases e | skip
    cases rx.str
    cases ry.str
    exact ⟨_, _, rfl, rfl, by rw [sizeLine_eq]; assumption, q F H _ (Step.refl z) (.str _)⟩⟩
theorem b_addIB : BinOk X (binaryOp .Add) dAddIB :=
  ⟨_, op_add_ib, fun h F H x y dx dy d Q z rx ry e q => by
    unfold dAddIB at e
    split at e <;> first | cases e | skip
    cases rx.int
    cases ry.bl
    exact ⟨_, _, rfl, rfl, q F H _ (Step.refl z) (.int _)⟩⟩
theorem b_addI : BinOk X (binaryOp .Add) dAddI :=
  bin_int0 op_add (fun i j _ _ _ => .int (i + j)) fun x y d e => by
    unfold dAddI at e
    split at e <;> first | cases e | skip
    exact ⟨_, _, rfl, rfl, rfl⟩
theorem bo_cat : BinOkO X (binaryOp .Add) dCat :=
  ⟨_, op_cat, fun h F H x y dx dy d Q z rx ry e q => by
    unfold dCat at e
    split at e <;> first | cases e | skip
    split at e <;> first | cases e | skip
    obtain ⟨pa, xs, rfl, e1, r1⟩ := rx.lst z
    obtain ⟨pb, ys, rfl, e2, r2⟩ := ry.lst z
    refine ⟨pa, pb, xs, ys, rfl, rfl, e1, e2, by rw [r1.length, r2.length, sizeLine_eq]; assumption, fun p hp => ?_⟩
    obtain ⟨s, r⟩ := Step.newO z hp (r1.append r2)
    exact q _ _ _ s hp r⟩
theorem BinOkO.e {g : Value → Value → Sem Value} {f : D → D → Option (List D)} (a : BinOkO X g f) : BinOk X g fun x y => (f x y).map .lst :=
  let ⟨r, a1, a2⟩ := a; ⟨r, a1, fun h F H x y dx dy d Q z rx ry e q => by
    obtain ⟨ds, e1, rfl⟩ := Option.map_eq_some_iff.mp e
    refine a2 h F H x y dx dy ds Q z rx ry e1 fun F' H' a s n o => ?_
    obtain ⟨F2, s2, l2, r2⟩ := o.freeze s n
    exact q F2 H' _ s2 r2⟩
theorem b_add : BinOk X (binaryOp .Add) dAdd :=
  (BinOk.or b_addI (BinOk.or b_addS (BinOk.or b_addT (BinOk.or bo_cat.e b_addIB)))).imp fun x y d e => by
    unfold dAdd at e
    split at e
    · simpa [orElse, dAddI] using e
    · split at e <;> first | cases e | skip
      simp only [orElse, dAddI, dAddS]
      rw [if_pos (by assumption)]
    · split at e <;> first | cases e | skip
      simp only [orElse, dAddI, dAddS, dAddT]
      rw [if_pos (by assumption)]
    · split at e <;> first | cases e | skip
      simp only [orElse, dAddI, dAddS, dAddT, dCat]
      rw [if_pos (by assumption)]
      rfl
    · simpa [orElse, dCat, dAddI, dAddS, dAddT, dAddIB] using e
    · cases e
/-! ### comparisons -/
def dLt : D → D → Option D
  | .int i, .int j => some (.bl (decide (i < j)))
  | _, _ => none
def dLe : D → D → Option D
  | .int i, .int j => some (.bl (decide (i ≤ j)))
  | _, _ => none
def dGt : D → D → Option D
  | .int i, .int j => some (.bl (decide (j < i)))
  | _, _ => none
def dGe : D → D → Option D
  | .int i, .int j => some (.bl (decide (j ≤ i)))
  | _, _ => none
theorem c_lt : BinOk X (compareOp .Lt) dLt := bin_int0 op_lt (fun i j _ _ _ => .bl _) fun x y d e => by
  unfold dLt at e
  split at e <;> first | cases e | skip
  exact ⟨_, _, rfl, rfl, rfl⟩
theorem c_le : BinOk X (compareOp .LtE) dLe := bin_int0 op_le (fun i j _ _ _ => .bl _) fun x y d e => by
  unfold dLe at e
  split at e <;> first | cases e | skip
  exact ⟨_, _, rfl, rfl, rfl⟩
theorem c_gt : BinOk X (compareOp .Gt) dGt := bin_int0 op_gt (fun i j _ _ _ => .bl _) fun x y d e => by
  unfold dGt at e
  split at e <;> first | cases e | skip
  exact ⟨_, _, rfl, rfl, rfl⟩
theorem c_ge : BinOk X (compareOp .GtE) dGe := bin_int0 op_ge (fun i j _ _ _ => .bl _) fun x y d e => by
  unfold dGe at e
  split at e <;> first | cases e | skip
  exact ⟨_, _, rfl, rfl, rfl⟩
def dEq (x y : D) : Option D := if (plain 64 x && plain 64 y) = true then some (.bl (D.eqv x y)) else none
def dNe (x y : D) : Option D := if (plain 64 x && plain 64 y) = true then some (.bl (!D.eqv x y)) else none
theorem c_eq (hu : X.A.units + 64 < cLine) : BinOk X (compareOp .Eq) dEq :=
  ⟨_, op_eqD hu, fun h F H x y dx dy d Q z rx ry e q => by
    unfold dEq at e
    split at e <;> first | cases e | skip
    rename_i p
    rw [Bool.and_eq_true] at p
    refine ⟨dx.toP, dy.toP, rx.dp z.le p.1, ry.dp z.le p.2, plain_shaped p.1 (Nat.le_refl _), plain_shaped p.2 (Nat.le_refl _), ?_⟩
    rw [eqv_toP _ _ _ _ p.1 p.2]
    exact q F H _ (Step.refl z) (.bl _)⟩
theorem c_ne (hu : X.A.units + 64 < cLine) : BinOk X (compareOp .NotEq) dNe :=
  ⟨_, op_neD hu, fun h F H x y dx dy d Q z rx ry e q => by
    unfold dNe at e
    split at e <;> first | cases e | skip
    rename_i p
    rw [Bool.and_eq_true] at p
    refine ⟨dx.toP, dy.toP, rx.dp z.le p.1, ry.dp z.le p.2, plain_shaped p.1 (Nat.le_refl _), plain_shaped p.2 (Nat.le_refl _), ?_⟩
    rw [eqv_toP _ _ _ _ p.1 p.2]
    exact q F H _ (Step.refl z) (.bl _)⟩
def isNon : D → Bool
  | .non => true
  | _ => false
def dIsN : D → D → Option D
  | x, .non => some (.bl (isNon x))
  | _, _ => none
def dIsNotN : D → D → Option D
  | x, .non => some (.bl (!isNon x))
  | _, _ => none
theorem rep_isNon {C : Cn} {h : Option Hd} {F H : Hp} {v : V} {d : D} (r : RepP C h F H v d) : decide (v = .non) = isNon d := by
  cases r with
  | fz r => cases r <;> rfl
  | own _ => rfl
  | ownD _ => rfl
theorem c_isN : BinOk X (compareOp .Is) dIsN :=
  ⟨_, op_isN, fun h F H x y dx dy d Q z rx ry e q => by
    unfold dIsN at e
    split at e <;> first | cases e | skip
    cases ry.non
    exact ⟨rfl, by rw [rep_isNon rx]; exact q F H _ (Step.refl z) (.bl _)⟩⟩
theorem c_isNotN : BinOk X (compareOp .IsNot) dIsNotN :=
  ⟨_, op_notN, fun h F H x y dx dy d Q z rx ry e q => by
    unfold dIsNotN at e
    split at e <;> first | cases e | skip
    cases ry.non
    exact ⟨rfl, by rw [rep_isNon rx]; exact q F H _ (Step.refl z) (.bl _)⟩⟩
def dIn : D → D → Option D
  | x, .lst ds => if (plain 64 x && plains 63 ds) = true then some (.bl (ds.any fun z => D.eqv z x)) else none
  | _, _ => none
def dNotIn : D → D → Option D
  | x, .lst ds => if (plain 64 x && plains 63 ds) = true then some (.bl (!ds.any fun z => D.eqv z x)) else none
  | _, _ => none
theorem any_toP {n m : Nat} {x : D} (hx : plain n x = true) : ∀ {ds : List D}, plains m ds = true → ((D.toPs ds).any fun z => PyData.eqv z x.toP) = ds.any fun z => D.eqv z x
  | [], _ => rfl
  | d :: ds, h => by
    simp only [plains, Bool.and_eq_true] at h
    simp only [D.toPs, List.any_cons]
    rw [eqv_toP m n d x h.1 hx, any_toP hx h.2]
theorem c_inL (hu : X.A.units + 65 < cLine) : BinOk X (compareOp .In) dIn :=
  ⟨_, op_inD hu, fun h F H x y dx dy d Q z rx ry e q => by
    unfold dIn at e
    split at e <;> first | cases e | skip
    rename_i ds
    split at e <;> first | cases e | skip
    rename_i p
    rw [Bool.and_eq_true] at p
    have pl : plain 64 (.lst ds) = true := by simpa [plain] using p.2
    refine ⟨dx.toP, D.toPs ds, rx.dp z.le p.1, ry.dp z.le pl, plain_shaped p.1 (Nat.le_refl _), plain_shaped pl (Nat.le_refl _), ?_⟩
    rw [any_toP p.1 p.2]
    exact q F H _ (Step.refl z) (.bl _)⟩
theorem c_notInL (hu : X.A.units + 65 < cLine) : BinOk X (compareOp .NotIn) dNotIn :=
  ⟨_, op_notInD hu, fun h F H x y dx dy d Q z rx ry e q => by
    unfold dNotIn at e
    split at e <;> first | cases e | skip
    rename_i ds
    split at e <;> first | cases e | skip
    rename_i p
    rw [Bool.and_eq_true] at p
    have pl : plain 64 (.lst ds) = true := by simpa [plain] using p.2
    refine ⟨dx.toP, D.toPs ds, rx.dp z.le p.1, ry.dp z.le pl, plain_shaped p.1 (Nat.le_refl _), plain_shaped pl (Nat.le_refl _), ?_⟩
    rw [any_toP p.1 p.2]
    exact q F H _ (Step.refl z) (.bl _)⟩
def dNeg : D → Option D
  | .int i => some (.int (-i))
  | _ => none
theorem u_neg : UnOk X (unaryOp .USub) dNeg :=
  ⟨_, un_neg, fun h F H x dx d Q z rx e q => by
    unfold dNeg at e
    split at e <;> first | cases e | skip
    cases rx.int
    exact ⟨_, rfl, q F H _ (Step.refl z) (.int _)⟩⟩
end
end PL
/-! PL4: expressions. -/
namespace PL
open PySem PySem.Spec PyProof.Rows L2

section
variable {X : Cx} {W : WX} {a b c e : Expr} {es : List Expr} {pos : Pos}

/-! ### names, constants -/
def eV (i : Nat) : Env → T D := fun ρ => match ρ[i]? with
  | some (.d x) => .ret x
  | _ => .bad
def eVp (i : Nat) : Env → T D := fun ρ => match ρ[i]? with
  | some (.d x) => .ret x
  | some (.own ds) => .ret (.lst ds)
  | some (.ownD kvs) => .ret (.dct kvs)
  | some (.pin ds) => .ret (.lst ds)
  | _ => .bad
def eC (d : D) : Env → T D := fun _ => .ret d
theorem de_var (i : Nat) {x : Str} (hN : X.N[i]? = some x := by rfl) (hv : Vis X.env.scope x := by first | exact Or.inl rfl | exact Or.inr (Or.inl rfl) | exact Or.inr (Or.inr rfl)) (hd : (x == ("__debug__" : Str)) = false := by decide)
    (hcd : (x == ("__classdict__" : Str)) = false := by decide) : DE X W (.Name x pos) (eV i) :=
  DE.of (pe_var hN hv hd hcd) fun h F H σ ρ Q E q => by
    unfold eV at q
    split at q <;> first | exact q.elim | skip
    rename_i d e
    obtain ⟨v, e1, r⟩ := E.slots i _ e
    exact ⟨v, e1, q F H v (Step.refl E.z) r⟩
theorem dp_var (i : Nat) {x : Str} (hN : X.N[i]? = some x := by rfl) (hv : Vis X.env.scope x := by first | exact Or.inl rfl | exact Or.inr (Or.inl rfl) | exact Or.inr (Or.inr rfl)) (hd : (x == ("__debug__" : Str)) = false := by decide)
    (hcd : (x == ("__classdict__" : Str)) = false := by decide) : DP X W (.Name x pos) (eVp i) :=
  DP.of (pe_var hN hv hd hcd) fun h F H σ ρ Q E q => by
    unfold eVp at q
    split at q
    · obtain ⟨v, e1, r⟩ := E.slots i _ (by assumption)
      exact ⟨v, e1, q F H v (Step.refl E.z) (.fz r)⟩
    · obtain ⟨v, e1, r⟩ := E.slots i _ (by assumption)
      exact ⟨.ref v, e1, q F H _ (Step.refl E.z) (.own r)⟩
    · obtain ⟨v, e1, r⟩ := E.slots i _ (by assumption)
      exact ⟨.ref v, e1, q F H _ (Step.refl E.z) (.ownD r)⟩
    · obtain ⟨x, _, _, e1, r⟩ := E.slots i _ (by assumption)
      exact ⟨.ref x.a, e1, q F H _ (Step.refl E.z) (.own r)⟩
    · exact q.elim
theorem ev_c {C : Cn} {v : V} {d : D} (r : ∀ h F, Rep C h F v d) : EvE C W (tC v) (eC d) := fun h F H σ ρ Q E q => q F H v (Step.refl E.z) (r h F)
theorem de_int {i j} : DE X W (.Constant (.int i) j pos) (eC (.int i)) := DE.of pe_int (ev_c fun _ _ => .int i)
theorem de_bl {b j} : DE X W (.Constant (.bool b) j pos) (eC (.bl b)) := DE.of pe_bl (ev_c fun _ _ => .bl b)
theorem de_non {j} : DE X W (.Constant .none j pos) (eC .non) := DE.of pe_non (ev_c fun _ _ => .non)
theorem de_str {s j} : DE X W (.Constant (.str s) j pos) (eC (.str s)) := DE.of pe_str (ev_c fun _ _ => .str s)
/-- a constant of the module -/
structure GlobIs (C : Cn) (x : Str) (d : D) : Prop where
  ex : ∃ u v, C.mg x = some u ∧ RelV v u ∧ ∀ h F, Rep C h F v d
theorem de_glob {x : Str} {d : D} (G : GlobIs (cn X) x d) (hg : Gl X x) (hd : (x == ("__debug__" : Str)) = false := by decide) : DE X W (.Name x pos) (eC d) := by
  obtain ⟨u, v, hm, r, hr⟩ := G.ex
  exact DE.of (pe_glob hg hm r hd) (ev_c hr)

/-! ### operators -/
def e2 (f : D → D → Option D) (ma mb : Env → T D) : Env → T D := fun ρ => (ma ρ).bind fun x => (mb ρ).bind fun y => .opt (f x y)
def e2O (f : D → D → Option (List D)) (ma mb : Env → T D) : Env → T (List D) := fun ρ => (ma ρ).bind fun x => (mb ρ).bind fun y => .opt (f x y)
def e1 (f : D → Option D) (ma : Env → T D) : Env → T D := fun ρ => (ma ρ).bind fun x => .opt (f x)
section
variable {C : Cn} {ta tb : TE} {ma mb mc : Env → T D}
theorem ev_2 {r : R2} {f : D → D → Option D} (ha : EvP C W ta ma) (hb : EvP C W tb mb) (hr : R2D C r f) : EvE C W (tOp r ta tb) (e2 f ma mb) := fun h F H σ ρ Q E q => by
  refine ha h F H σ ρ _ E (T.Al_mono ?_ (fun _ x => x) (T.Al_bind q))
  intro dx q1 F1 H1 x s1 rx
  refine hb h F1 H1 σ ρ _ (E.step s1) (T.Al_mono ?_ (fun _ px => px.step E.z s1) (T.Al_bind q1))
  intro dy q2 F2 H2 y s2 ry
  obtain ⟨d, e, p⟩ := T.Al_opt q2
  exact hr h F2 H2 x y dx dy d Q s2.z (rx.step s2) ry e (p.step E.z (s1.trans E.z s2))
theorem ev_2O {r : R2} {f : D → D → Option (List D)} (ha : EvP C W ta ma) (hb : EvP C W tb mb) (hr : R2O C r f) : EvO C W (tOp r ta tb) (e2O f ma mb) := fun h F H σ ρ Q E q => by
  refine ha h F H σ ρ _ E (T.Al_mono ?_ (fun _ x => x) (T.Al_bind q))
  intro dx q1 F1 H1 x s1 rx
  refine hb h F1 H1 σ ρ _ (E.step s1) (T.Al_mono ?_ (fun _ px => px.step E.z s1) (T.Al_bind q1))
  intro dy q2 F2 H2 y s2 ry
  obtain ⟨d, e, p⟩ := T.Al_opt q2
  exact hr h F2 H2 x y dx dy d Q s2.z (rx.step s2) ry e (p.step E.z (s1.trans E.z s2))
theorem ev_1 {r : V → Hp → VK → Prop} {f : D → Option D} (ha : EvP C W ta ma) (hr : R1D C r f) : EvE C W (tUn r ta) (e1 f ma) := fun h F H σ ρ Q E q => by
  refine ha h F H σ ρ _ E (T.Al_mono ?_ (fun _ x => x) (T.Al_bind q))
  intro dx q1 F1 H1 x s1 rx
  obtain ⟨d, e, p⟩ := T.Al_opt q1
  exact hr h F1 H1 x dx d Q s1.z rx e (p.step E.z s1)
end
variable {ma mb mc : Env → T D}
theorem de_bin {op : Operator} {f : D → D → Option D} (o : BinOk X (binaryOp op) f) (ha : DP X W a ma) (hb : DP X W b mb) : DE X W (.BinOp a op b pos) (e2 f ma mb) :=
  let ⟨_, o1, o2⟩ := o; DE.of (pe_op o1 ha hb) (ev_2 evP evP o2)
theorem do_bin {op : Operator} {f : D → D → Option (List D)} (o : BinOkO X (binaryOp op) f) (ha : DP X W a ma) (hb : DP X W b mb) : DO X W (.BinOp a op b pos) (e2O f ma mb) :=
  let ⟨_, o1, o2⟩ := o; DO.of (pe_op o1 ha hb) (ev_2O evP evP o2)
theorem de_un {op : UnaryOp} {f : D → Option D} (o : UnOk X (unaryOp op) f) (ha : DP X W a ma) : DE X W (.UnaryOp op a pos) (e1 f ma) :=
  let ⟨_, o1, o2⟩ := o; DE.of (pe_un o1 ha) (ev_1 evP o2)
theorem de_cmp {op : CmpOp} {f : D → D → Option D} (o : BinOk X (compareOp op) f) (ha : DP X W a ma) (hb : DP X W b mb) (hm : behindInMarks op b = false := by first | exact nomark _ | rfl) : DE X W (.Compare a [op] [b] pos) (e2 f ma mb) :=
  let ⟨_, o1, o2⟩ := o; DE.of (pe_cmpR o1 ha hb hm) (ev_2 evP evP o2)
def toB : D → T Bool
  | .bl b => .ret b
  | _ => .bad
/-- a flag -/
def eF (m : Env → T D) : Env → T Bool := fun ρ => (m ρ).bind toB
theorem Al_toB {d : D} {P : Bool → Prop} {R : Exn → Prop} (h : (toB d).Al P R) : ∃ b, d = .bl b ∧ P b := by
  cases d <;> first | exact h.elim | exact ⟨_, rfl, h⟩
theorem Rep.bl_inv {C : Cn} {h : Option Hd} {F : Hp} {v : V} {b : Bool} (r : Rep C h F v (.bl b)) : v = .bl b := by cases r; rfl
theorem ev_f {C : Cn} {te : TE} {m : Env → T D} (e : EvE C W te m) : EvB C W (tTest te) (eF m) := fun h F H σ ρ Q E q =>
  e h F H σ ρ _ E (T.Al_mono (fun d p F' H' v s r => by
    obtain ⟨b, rfl, pb⟩ := Al_toB p
    exact ⟨b, r.bl_inv, pb F' H' s⟩) (fun _ x => x) (T.Al_bind q))
theorem db_cmp {op : CmpOp} {f : D → D → Option D} (o : BinOk X (compareOp op) f) (ha : DP X W a ma) (hb : DP X W b mb) (hm : behindInMarks op b = false := by first | exact nomark _ | rfl) : DB X W (.Compare a [op] [b] pos) (eF (e2 f ma mb)) :=
  let ⟨_, o1, o2⟩ := o; DB.of (pt_cmpR o1 ha hb hm) (ev_f (ev_2 evP evP o2))
/-- a op b op' c -/
def eCh (f g : D → D → Option D) (ma mb mc : Env → T D) : Env → T D := fun ρ => (ma ρ).bind fun x => (mb ρ).bind fun y => (T.opt (f x y)).bind fun z => (toB z).bind fun k => if k = true then (mc ρ).bind fun w => .opt (g y w) else .ret (.bl false)
theorem ev_ch {C : Cn} {ta tb tc : TE} {r r' : R2} {f g : D → D → Option D} (ha : EvP C W ta ma) (hb : EvP C W tb mb) (hc : EvP C W tc mc) (hr : R2D C r f) (hr' : R2D C r' g) : EvE C W (tChain r r' ta tb tc) (eCh f g ma mb mc) := fun h F H σ ρ Q E q => by
  refine ha h F H σ ρ _ E (T.Al_mono ?_ (fun _ x => x) (T.Al_bind q))
  intro dx q1 F1 H1 x s1 rx
  refine hb h F1 H1 σ ρ _ (E.step s1) (T.Al_mono ?_ (fun _ px => px.step E.z s1) (T.Al_bind q1))
  intro dy q2 F2 H2 y s2 ry
  obtain ⟨d, e, p⟩ := T.Al_opt (T.Al_bind q2)
  have s12 := s1.trans E.z s2
  refine hr h F2 H2 x y dx dy d _ s2.z (rx.step s2) ry e fun F3 H3 v s3 rv => ?_
  obtain ⟨k, rfl, p2⟩ := Al_toB (T.Al_bind p)
  refine ⟨k, rv.bl_inv, ?_⟩
  have s13 := s12.trans E.z s3
  cases k with
  | false =>
    rw [if_neg Bool.false_ne_true]
    rw [if_neg Bool.false_ne_true] at p2
    exact p2 F3 H3 _ s13 (.bl _)
  | true =>
    rw [if_pos rfl]
    rw [if_pos rfl] at p2
    refine hc h F3 H3 σ ρ _ (E.step s13) (T.Al_mono ?_ (fun _ px => px.step E.z s13) (T.Al_bind p2))
    intro dw q4 F4 H4 w s4 rw'
    obtain ⟨d', e', p'⟩ := T.Al_opt q4
    exact hr' h F4 H4 y w dy dw d' Q s4.z (ry.step (s3.trans s2.z s4)) rw' e' (p'.step E.z (s13.trans E.z s4))
theorem de_chain {op op' : CmpOp} {f g : D → D → Option D} (o : BinOk X (compareOp op) f) (o' : BinOk X (compareOp op') g) (ha : DP X W a ma) (hb : DP X W b mb) (hc : DP X W c mc) (hm : lastMarks [op, op'] [b, c] = false := by with_unfolding_all rfl) :
    DE X W (.Compare a [op, op'] [b, c] pos) (eCh f g ma mb mc) :=
  let ⟨_, o1, o2⟩ := o; let ⟨_, p1, p2⟩ := o'; DE.of (pe_chain o1 p1 ha hb hc hm) (ev_ch evP evP evP o2 p2)
theorem db_chain {op op' : CmpOp} {f g : D → D → Option D} (o : BinOk X (compareOp op) f) (o' : BinOk X (compareOp op') g) (ha : DP X W a ma) (hb : DP X W b mb) (hc : DP X W c mc) (hm : lastMarks [op, op'] [b, c] = false := by with_unfolding_all rfl) :
    DB X W (.Compare a [op, op'] [b, c] pos) (eF (eCh f g ma mb mc)) :=
  let ⟨_, o1, o2⟩ := o; let ⟨_, p1, p2⟩ := o'; DB.of (pt_chain o1 p1 ha hb hc hm) (ev_f (ev_ch evP evP evP o2 p2))

/-! ### truth, not, and, or, if else -/
def dTru : D → Option Bool
  | .non => some false
  | .bl b => some b
  | .int i => some (i != 0)
  | .str s => if s.length ≤ 16777216 then some ((s.length : Int) != 0) else none
  | .tup ds => some (!ds.isEmpty)
  | .lst ds => some (!ds.isEmpty)
  | _ => none
def eT (m : Env → T D) : Env → T Bool := fun ρ => (m ρ).bind fun d => .opt (dTru d)
theorem Reps.empty {C : Cn} {h : Option Hd} {F : Hp} {xs : List V} {ds : List D} (r : Reps C h F xs ds) : (!xs.isEmpty) = !ds.isEmpty := by cases r <;> rfl
theorem tru_of {C : Cn} {h : Option Hd} {F H : Hp} {v : V} {d : D} {k : Bool} (z : Fz C h F H) (r : RepP C h F H v d) (e : dTru d = some k) : TruV C.K v H k := by
  unfold dTru at e
  split at e
  · cases r.non; cases e; rfl
  · cases r.bl; cases e; rfl
  · cases r.int; cases e; rfl
  · cases r.str
    split at e <;> first | cases e | skip
    exact ⟨by rw [sizeLine_eq]; assumption, rfl⟩
  · obtain ⟨a, xs, rfl, e1, _, r1⟩ := r.tup z
    cases e
    exact .inr (.inl ⟨xs, e1, r1.empty.symm⟩)
  · obtain ⟨a, xs, rfl, e1, r1⟩ := r.lst z
    cases e
    exact .inl ⟨xs, SqL.of e1, r1.empty.symm⟩
  · cases e
theorem db_tru (ha : DP X W a ma) (he : ∀ whole, isTrue a X.env whole = (do let v ← whole; standAt a.pos; holding [v] (truthy v)) := by intro _; rfl) : DB X W a (eT ma) :=
  DB.of (pt_truth ha he) fun h F H σ ρ Q E q =>
    evP h F H σ ρ _ E (T.Al_mono (fun d p F' H' v s r => by
      obtain ⟨k, e, pb⟩ := T.Al_opt p
      exact ⟨k, tru_of s.z r e, pb F' H' s⟩) (fun _ x => x) (T.Al_bind q))
def bNot (m : Env → T Bool) : Env → T Bool := fun ρ => (m ρ).bind fun k => .ret (!k)
def bAnd (m n : Env → T Bool) : Env → T Bool := fun ρ => (m ρ).bind fun k => if k = true then n ρ else .ret false
def bOr (m n : Env → T Bool) : Env → T Bool := fun ρ => (m ρ).bind fun k => if k = true then .ret true else n ρ
variable {na nb : Env → T Bool}
theorem db_not (ha : DB X W a na) : DB X W (.UnaryOp .Not a pos) (bNot na) :=
  DB.of (pt_not ha) fun h F H σ ρ Q E q => evB h F H σ ρ _ E (T.Al_mono (fun k p F' H' s => p F' H' s) (fun _ x => x) (T.Al_map q))
theorem PB.step {C : Cn} {h : Option Hd} {F H F' H' : Hp} {Q : Bool → Hp → Prop} {x : Bool} (z : Fz C h F H) (s : Step C h F H F' H') (p : PB C h F H Q x) : PB C h F' H' Q x := fun _ _ t => p _ _ (s.trans z t)
theorem ev_and {C : Cn} {ta tb : TT} (ha : EvB C W ta na) (hb : EvB C W tb nb) : EvB C W (tAnd ta tb) (bAnd na nb) := fun h F H σ ρ Q E q => by
  refine ha h F H σ ρ _ E (T.Al_mono ?_ (fun _ x => x) (T.Al_bind q))
  intro k p F1 H1 s1
  cases k with
  | false =>
    rw [if_neg Bool.false_ne_true] at p ⊢
    exact p F1 H1 s1
  | true =>
    rw [if_pos rfl] at p ⊢
    exact hb h F1 H1 σ ρ _ (E.step s1) (T.Al_mono (fun _ pb => pb.step E.z s1) (fun _ px => px.step E.z s1) p)
theorem ev_or {C : Cn} {ta tb : TT} (ha : EvB C W ta na) (hb : EvB C W tb nb) : EvB C W (tOr ta tb) (bOr na nb) := fun h F H σ ρ Q E q => by
  refine ha h F H σ ρ _ E (T.Al_mono ?_ (fun _ x => x) (T.Al_bind q))
  intro k p F1 H1 s1
  cases k with
  | true =>
    rw [if_pos rfl] at p ⊢
    exact p F1 H1 s1
  | false =>
    rw [if_neg Bool.false_ne_true] at p ⊢
    exact hb h F1 H1 σ ρ _ (E.step s1) (T.Al_mono (fun _ pb => pb.step E.z s1) (fun _ px => px.step E.z s1) p)
theorem dw_and1 (ha : DB X W a na) : DW X W (.BoolOp .And [a] pos) na := DW.of (pw_and1 ha) evB
theorem dw_or1 (ha : DB X W a na) : DW X W (.BoolOp .Or [a] pos) na := DW.of (pw_or1 ha) evB
theorem dw_and {rest : List Expr} (ha : DB X W a na) (hb : DW X W (.BoolOp .And (b :: rest) pos) nb) : DW X W (.BoolOp .And (a :: b :: rest) pos) (bAnd na nb) := DW.of (pw_and ha hb) (ev_and evB evB)
theorem dw_or {rest : List Expr} (ha : DB X W a na) (hb : DW X W (.BoolOp .Or (b :: rest) pos) nb) : DW X W (.BoolOp .Or (a :: b :: rest) pos) (bOr na nb) := DW.of (pw_or ha hb) (ev_or evB evB)
theorem db_bool (h : DW X W a na) : DB X W a na := DB.of (PW.pt h) evB
/-- as values: flags, the last anything -/
def eAnd (ma mb : Env → T D) : Env → T D := fun ρ => (ma ρ).bind fun x => (toB x).bind fun k => if k = true then mb ρ else .ret (.bl false)
def eOr (ma mb : Env → T D) : Env → T D := fun ρ => (ma ρ).bind fun x => (toB x).bind fun k => if k = true then .ret (.bl true) else mb ρ
def eNot (ma : Env → T D) : Env → T D := fun ρ => (ma ρ).bind fun x => (toB x).bind fun k => .ret (.bl (!k))
theorem de_one {op} (ha : DE X W a ma) : DE X W (.BoolOp op [a] pos) ma := DE.of (pe_one ha) evD
theorem de_and {rest : List Expr} (ha : DE X W a ma) (hb : DE X W (.BoolOp .And (b :: rest) pos) mb) : DE X W (.BoolOp .And (a :: b :: rest) pos) (eAnd ma mb) :=
  DE.of (pe_and ha hb) fun h F H σ ρ Q E q => by
    refine evD h F H σ ρ _ E (T.Al_mono ?_ (fun _ x => x) (T.Al_bind q))
    intro d p F1 H1 v s1 r1
    obtain ⟨k, rfl, p2⟩ := Al_toB (T.Al_bind p)
    refine ⟨k, r1.bl_inv, ?_⟩
    cases k with
    | false =>
      rw [if_neg Bool.false_ne_true] at p2 ⊢
      exact p2 F1 H1 _ s1 (.bl _)
    | true =>
      rw [if_pos rfl] at p2 ⊢
      exact evD h F1 H1 σ ρ _ (E.step s1) (T.Al_mono (fun _ pb => pb.step E.z s1) (fun _ px => px.step E.z s1) p2)
theorem de_or {rest : List Expr} (ha : DE X W a ma) (hb : DE X W (.BoolOp .Or (b :: rest) pos) mb) : DE X W (.BoolOp .Or (a :: b :: rest) pos) (eOr ma mb) :=
  DE.of (pe_or ha hb) fun h F H σ ρ Q E q => by
    refine evD h F H σ ρ _ E (T.Al_mono ?_ (fun _ x => x) (T.Al_bind q))
    intro d p F1 H1 v s1 r1
    obtain ⟨k, rfl, p2⟩ := Al_toB (T.Al_bind p)
    refine ⟨k, r1.bl_inv, ?_⟩
    cases k with
    | true =>
      rw [if_pos rfl] at p2 ⊢
      exact p2 F1 H1 _ s1 (.bl _)
    | false =>
      rw [if_neg Bool.false_ne_true] at p2 ⊢
      exact evD h F1 H1 σ ρ _ (E.step s1) (T.Al_mono (fun _ pb => pb.step E.z s1) (fun _ px => px.step E.z s1) p2)
theorem de_not (ha : DE X W a ma) : DE X W (.UnaryOp .Not a pos) (eNot ma) :=
  DE.of (pe_not ha) fun h F H σ ρ Q E q => by
    refine evD h F H σ ρ _ E (T.Al_mono ?_ (fun _ x => x) (T.Al_bind q))
    intro d p F1 H1 v s1 r1
    obtain ⟨k, rfl, p2⟩ := Al_toB (T.Al_bind p)
    exact ⟨k, r1.bl_inv, p2 F1 H1 _ s1 (.bl _)⟩
def eIf (n : Env → T Bool) (ma mb : Env → T D) : Env → T D := fun ρ => (n ρ).bind fun k => if k = true then ma ρ else mb ρ
theorem de_if (hc : DB X W c na) (ha : DE X W a ma) (hb : DE X W b mb) : DE X W (.IfExp c a b pos) (eIf na ma mb) :=
  DE.of (pe_ifExp hc ha hb) fun h F H σ ρ Q E q => by
    refine evB h F H σ ρ _ E (T.Al_mono ?_ (fun _ x => x) (T.Al_bind q))
    intro k p F1 H1 s1
    cases k with
    | true =>
      rw [if_pos rfl] at p ⊢
      exact evD h F1 H1 σ ρ _ (E.step s1) (T.Al_mono (fun _ pb => pb.step E.z s1) (fun _ px => px.step E.z s1) p)
    | false =>
      rw [if_neg Bool.false_ne_true] at p ⊢
      exact evD h F1 H1 σ ρ _ (E.step s1) (T.Al_mono (fun _ pb => pb.step E.z s1) (fun _ px => px.step E.z s1) p)

/-! ### arguments, displays -/
def aN : Env → T (List D) := fun _ => .ret []
def aC (m : Env → T D) (ms : Env → T (List D)) : Env → T (List D) := fun ρ => (m ρ).bind fun d => (ms ρ).bind fun ds => .ret (d :: ds)
variable {ms : Env → T (List D)}
theorem da_nil : DA X W [] aN := DA.of pa_nil fun h F H σ ρ Q E q => q F H [] (Step.refl E.z) .nil
theorem da_cons (ha : DE X W e ma) (hr : DA X W es ms) (hs : starEach (e :: es) X.env = (false, eval e X.env) :: starEach es X.env := by rfl) : DA X W (e :: es) (aC ma ms) :=
  DA.of (pa_cons ha hr hs) fun h F H σ ρ Q E q => by
    refine evD h F H σ ρ _ E (T.Al_mono ?_ (fun _ x => x) (T.Al_bind q))
    intro d p F1 H1 v s1 r1
    refine evA h F1 H1 σ ρ _ (E.step s1) (T.Al_mono ?_ (fun _ px => px.step E.z s1) (T.Al_bind p))
    intro ds p2 F2 H2 vs s2 r2
    exact p2 F2 H2 (v :: vs) (s1.trans E.z s2) (.cons (r1.mono s2.f) r2)
def eTup (ms : Env → T (List D)) : Env → T D := fun ρ => (ms ρ).bind fun ds => if ds.length ≤ 16777216 then .ret (.tup ds) else .bad
def eLst (ms : Env → T (List D)) : Env → T (List D) := fun ρ => (ms ρ).bind fun ds => if ds.length ≤ 16777216 then .ret ds else .bad
theorem de_tup {x1} (ha : DA X W es ms) : DE X W (.Tuple es x1 pos) (eTup ms) :=
  DE.of (pe_tup ha) fun h F H σ ρ Q E q => by
    refine evA h F H σ ρ _ E (T.Al_mono ?_ (fun _ x => x) (T.Al_bind q))
    intro ds p F1 H1 vs s1 r1
    split at p <;> first | exact p.elim | skip
    refine ⟨by rw [r1.length, sizeLine_eq]; assumption, fun l n => ?_⟩
    obtain ⟨s2, r2⟩ := Step.newT s1.z n r1
    exact p _ _ _ (s1.trans E.z s2) r2
theorem do_lst (ha : DA X W es ms) : DO X W (.List es pos) (eLst ms) :=
  DO.of (pe_lst ha) fun h F H σ ρ Q E q => by
    refine evA h F H σ ρ _ E (T.Al_mono ?_ (fun _ x => x) (T.Al_bind q))
    intro ds p F1 H1 vs s1 r1
    split at p <;> first | exact p.elim | skip
    refine ⟨by rw [r1.length, sizeLine_eq]; assumption, fun l n => ?_⟩
    obtain ⟨s2, r2⟩ := Step.newO s1.z n r1
    exact p _ _ _ (s1.trans E.z s2) (s1.back E.z n) r2

/-! ### items, slices -/
/-- the place of an item -/
def dAt : D → D → Option D
  | .lst ds, .int i => atI ds i
  | .tup ds, .int i => atI ds i
  | .str s, .int i => if s.length ≤ 16777216 then (atI s.cps.toList i).map fun c => .str ⟨#[c]⟩ else none
  | _, _ => none
theorem atI_rep {C : Cn} {h : Option Hd} {F : Hp} {xs : List V} {ds : List D} {i : Int} {d : D} (r : Reps C h F xs ds) (e : atI ds i = some d) : ∃ x, atI xs i = some x ∧ Rep C h F x d := by
  unfold atI at e ⊢
  rw [r.length]
  cases q : ixN ds.length i with
  | none => rw [q] at e; cases e
  | some j =>
    rw [q] at e
    exact r.get e
theorem de_ix (ha : DP X W a ma) (hb : DP X W b mb) (hs : PlainIx b := by intro _ _; rfl) : DE X W (.Subscript a b pos) (e2 dAt ma mb) :=
  DE.of (pe_ix ix_seq ha hb hs) (ev_2 evP evP fun h F H x y dx dy d Q z rx ry e q => by
    unfold dAt at e
    split at e
    · obtain ⟨l, xs, rfl, e1, r1⟩ := rx.lst z
      cases ry.int
      obtain ⟨v, e2, r2⟩ := atI_rep r1 e
      exact .inl ⟨l, xs, _, v, rfl, rfl, SqL.of e1, e2, q F H v (Step.refl z) r2⟩
    · obtain ⟨l, xs, rfl, e1, _, r1⟩ := rx.tup z
      cases ry.int
      obtain ⟨v, e2, r2⟩ := atI_rep r1 e
      exact .inr (.inl ⟨l, xs, _, v, rfl, rfl, e1, e2, q F H v (Step.refl z) r2⟩)
    · split at e <;> first | cases e | skip
      cases rx.str
      cases ry.int
      obtain ⟨c, e2, rfl⟩ := Option.map_eq_some_iff.mp e
      exact .inr (.inr ⟨_, _, c, rfl, rfl, by rw [sizeLine_eq]; assumption, e2, q F H _ (Step.refl z) (.str _)⟩)
    · cases e)
end
end PL
/-! PL5: slices, built-in calls, the calls of defs. -/
namespace PL
open PySem PySem.Spec PyProof.Rows L2

section
variable {X : Cx} {W : WX} {a b c e : Expr} {es : List Expr} {pos p2 : Pos} {ma mb mc : Env → T D} {lo hi : Option Expr}

/-! ### slices -/
def toI : D → T Int
  | .int i => .ret i
  | _ => .bad
theorem Al_toI {d : D} {P : Int → Prop} {R : Exn → Prop} (h : (toI d).Al P R) : ∃ b, d = .int b ∧ P b := by
  cases d <;> first | exact h.elim | exact ⟨_, rfl, h⟩
theorem Rep.int_inv {C : Cn} {h : Option Hd} {F : Hp} {v : V} {b : Int} (r : Rep C h F v (.int b)) : v = .int b := by cases r; rfl
def pN : Env → T (Option Int) := fun _ => .ret none
def pS (m : Env → T D) : Env → T (Option Int) := fun ρ => (m ρ).bind fun d => (toI d).bind fun i => .ret (some i)
def PPt (C : Cn) (h : Option Hd) (F H : Hp) (Q : Option Int → Hp → Prop) (o : Option Int) : Prop := ∀ F' H', Step C h F H F' H' → Q o H'
def tPt (C : Cn) (W : WX) (m : Env → T (Option Int)) : TO := fun σ H Q => ∃ h F ρ, EnvE C h F H σ ρ ∧ (m ρ).Al (PPt C h F H Q) (PX C W h σ F H)
def DPt (X : Cx) (W : WX) (e : Option Expr) (m : Env → T (Option Int)) : Prop := L2.PO X e (tPt (cn X) W m)
theorem dpt_none : DPt X W none pN := ⟨fun pins s σ H Q I ⟨h, F, ρ, E, q⟩ => po_none.run pins s σ H Q I (q F H (Step.refl E.z))⟩
theorem dpt_some (ha : DE X W e ma) : DPt X W (some e) (pS ma) := ⟨fun pins s σ H Q I ⟨h, F, ρ, E, q⟩ => (po_some ha).run pins s σ H Q I (evD h F H σ ρ _ E (T.Al_mono (fun d p F' H' v s r => by
  obtain ⟨i, rfl, p2⟩ := Al_toI (T.Al_bind p)
  exact ⟨i, r.int_inv, p2 F' H' s⟩) (fun _ x => x) (T.Al_bind q)))⟩
def cutL {α : Type} (xs : List α) (lo hi : Option Int) : List α := (xs.drop (HT.sIx xs.length 0 lo)).take (HT.sIx xs.length xs.length hi - HT.sIx xs.length 0 lo)
theorem cut_rep {C : Cn} {h : Option Hd} {F : Hp} {xs : List V} {ds : List D} (r : Reps C h F xs ds) (lo hi : Option Int) : Reps C h F (cutV xs lo hi) (cutL ds lo hi) := by
  unfold cutV cutL
  rw [r.length]
  exact (r.drop _).take _
def dSl : D → Option Int → Option Int → Option D
  | .tup ds, lo, hi => some (.tup (cutL ds lo hi))
  | .str s, lo, hi => if s.length ≤ 16777216 then some (.str (cutS s lo hi)) else none
  | _, _, _ => none
def dSlL : D → Option Int → Option Int → Option (List D)
  | .lst ds, lo, hi => some (cutL ds lo hi)
  | _, _, _ => none
def eSl (m : Env → T D) (lo hi : Env → T (Option Int)) : Env → T D := fun ρ => (m ρ).bind fun d => (lo ρ).bind fun l => (hi ρ).bind fun u => .opt (dSl d l u)
def eSlL (m : Env → T D) (lo hi : Env → T (Option Int)) : Env → T (List D) := fun ρ => (m ρ).bind fun d => (lo ρ).bind fun l => (hi ρ).bind fun u => .opt (dSlL d l u)
variable {ml mh : Env → T (Option Int)}
theorem sl_whole {C : Cn} {h : Option Hd} {F : Hp} {ds : List D} {lo hi : Option Int} (e : HT.sIx ds.length 0 lo = 0 ∧ HT.sIx ds.length ds.length hi = ds.length) : cutL ds lo hi = ds := by
  unfold cutL
  rw [e.1, e.2]
  simp
theorem de_sl (ha : DP X W e ma) (hl : DPt X W lo ml) (hh : DPt X W hi mh) : DE X W (.Subscript e (.Slice lo hi none p2) pos) (eSl ma ml mh) :=
  DE.of (pe_slice (SlR.or sl_tupA sl_str) ha hl hh) fun h F H σ ρ Q E q => by
    refine evP h F H σ ρ _ E (T.Al_mono ?_ (fun _ x => x) (T.Al_bind q))
    intro dx q1 F1 H1 x s1 rx
    refine ⟨h, F1, ρ, E.step s1, T.Al_mono ?_ (fun _ px => px.step E.z s1) (T.Al_bind q1)⟩
    intro l q2 F2 H2 s2
    have s12 := s1.trans E.z s2
    refine ⟨h, F2, ρ, E.step s12, T.Al_mono ?_ (fun _ px => px.step E.z s12) (T.Al_bind q2)⟩
    intro u q3 F3 H3 s3
    have s13 := s12.trans E.z s3
    obtain ⟨d, e, p⟩ := T.Al_opt q3
    have rx3 := (rx.step s2).step s3
    unfold dSl at e
    split at e
    · cases e
      obtain ⟨k, xs, rfl, e1, f1, r1⟩ := rx3.tup s3.z
      refine .inl ⟨k, xs, rfl, e1, fun w => ?_, fun w n0 n => ?_⟩
      · rw [r1.length] at w
        rw [sl_whole (C := cn X) (h := h) (F := F3) w] at p
        exact p F3 H3 _ s13 (.tup f1 r1)
      · obtain ⟨s4, r4⟩ := Step.newT s3.z n (cut_rep r1 l u)
        exact p _ _ _ (s13.trans E.z s4) r4
    · split at e <;> first | cases e | skip
      cases rx3.str
      exact .inr ⟨_, rfl, by rw [sizeLine_eq]; assumption, p F3 H3 _ s13 (.str _)⟩
    · cases e
theorem do_sl (ha : DP X W e ma) (hl : DPt X W lo ml) (hh : DPt X W hi mh) : DO X W (.Subscript e (.Slice lo hi none p2) pos) (eSlL ma ml mh) :=
  DO.of (pe_slice sl_list ha hl hh) fun h F H σ ρ Q E q => by
    refine evP h F H σ ρ _ E (T.Al_mono ?_ (fun _ x => x) (T.Al_bind q))
    intro dx q1 F1 H1 x s1 rx
    refine ⟨h, F1, ρ, E.step s1, T.Al_mono ?_ (fun _ px => px.step E.z s1) (T.Al_bind q1)⟩
    intro l q2 F2 H2 s2
    have s12 := s1.trans E.z s2
    refine ⟨h, F2, ρ, E.step s12, T.Al_mono ?_ (fun _ px => px.step E.z s12) (T.Al_bind q2)⟩
    intro u q3 F3 H3 s3
    have s13 := s12.trans E.z s3
    obtain ⟨d, e, p⟩ := T.Al_opt q3
    have rx3 := (rx.step s2).step s3
    unfold dSlL at e
    split at e <;> first | cases e | skip
    obtain ⟨k, xs, rfl, e1, r1⟩ := rx3.lst s3.z
    refine ⟨k, xs, rfl, SqL.of e1, fun w n => ?_⟩
    obtain ⟨s4, r4⟩ := Step.newO s3.z n (cut_rep r1 l u)
    exact p _ _ _ (s13.trans E.z s4) (s13.back E.z n) r4

/-! ### calls of built-ins with one value, two -/
def C1D (C : Cn) (r : List V → Hp → VK → Prop) (f : D → Option D) : Prop := ∀ h F H x dx d (Q : VK), Fz C h F H → RepP C h F H x dx → f dx = some d → (∀ F' H' v, Step C h F H F' H' → Rep C h F' v d → Q v H') → r [x] H Q
def C1O (C : Cn) (r : List V → Hp → VK → Prop) (f : D → Option (List D)) : Prop := ∀ h F H x dx ds (Q : VK), Fz C h F H → RepP C h F H x dx → f dx = some ds → (∀ F' H' a, Step C h F H F' H' → H a = none → OwnL C h F' H' a ds → Q (.ref a) H') → r [x] H Q
def C2D (C : Cn) (r : List V → Hp → VK → Prop) (f : D → D → Option D) : Prop := ∀ h F H x y dx dy d (Q : VK), Fz C h F H → RepP C h F H x dx → RepP C h F H y dy → f dx dy = some d → (∀ F' H' v, Step C h F H F' H' → Rep C h F' v d → Q v H') → r [x, y] H Q
def Call1 (X : Cx) (g : Value) (f : D → Option D) : Prop := ∃ r, CallR X g r ∧ C1D (cn X) r f
def Call1O (X : Cx) (g : Value) (f : D → Option (List D)) : Prop := ∃ r, CallR X g r ∧ C1O (cn X) r f
def Call2 (X : Cx) (g : Value) (f : D → D → Option D) : Prop := ∃ r, CallR X g r ∧ C2D (cn X) r f
theorem Call1.or {g : Value} {f f' : D → Option D} (x : Call1 X g f) (y : Call1 X g f') : Call1 X g (fun d => orElse (f d) (f' d)) :=
  let ⟨r, x1, x2⟩ := x; let ⟨r', y1, y2⟩ := y; ⟨_, CallR.or x1 y1, fun h F H x dx d Q z rx e q => by
    have e : orElse (f dx) (f' dx) = some d := e
    cases e1 : f dx with
    | some d1 =>
      rw [e1] at e
      cases e
      exact .inl (x2 h F H x dx _ Q z rx e1 q)
    | none =>
      rw [e1] at e
      exact .inr (y2 h F H x dx d Q z rx e q)⟩
theorem Call1.imp {g : Value} {f f' : D → Option D} (x : Call1 X g f) (hh : ∀ d k, f' d = some k → f d = some k) : Call1 X g f' :=
  let ⟨r, x1, x2⟩ := x; ⟨r, x1, fun h F H x dx d Q z rx e q => x2 h F H x dx d Q z rx (hh _ _ e) q⟩
theorem Call1O.fz {g : Value} {f : D → Option (List D)} (x : Call1O X g f) : Call1 X g (fun d => (f d).map .lst) :=
  let ⟨r, x1, x2⟩ := x; ⟨r, x1, fun h F H x dx d Q z rx e q => by
    obtain ⟨ds, e1, rfl⟩ := Option.map_eq_some_iff.mp e
    refine x2 h F H x dx ds Q z rx e1 fun F' H' l s n o => ?_
    obtain ⟨F2, s2, l2, r2⟩ := o.freeze s n
    exact q F2 H' _ s2 r2⟩
def e1O (f : D → Option (List D)) (ma : Env → T D) : Env → T (List D) := fun ρ => (ma ρ).bind fun x => .opt (f x)
theorem ev_c1 {C : Cn} {ta : TE} {r : List V → Hp → VK → Prop} {f : D → Option D} (ha : EvP C W ta ma) (hr : C1D C r f) : EvE C W (tCB r (tCons ta tNil)) (e1 f ma) := fun h F H σ ρ Q E q => by
  refine ha h F H σ ρ _ E (T.Al_mono ?_ (fun _ x => x) (T.Al_bind q))
  intro dx q1 F1 H1 x s1 rx
  obtain ⟨d, e, p⟩ := T.Al_opt q1
  exact hr h F1 H1 x dx d Q s1.z rx e (p.step E.z s1)
theorem ev_c1O {C : Cn} {ta : TE} {r : List V → Hp → VK → Prop} {f : D → Option (List D)} (ha : EvP C W ta ma) (hr : C1O C r f) : EvO C W (tCB r (tCons ta tNil)) (e1O f ma) := fun h F H σ ρ Q E q => by
  refine ha h F H σ ρ _ E (T.Al_mono ?_ (fun _ x => x) (T.Al_bind q))
  intro dx q1 F1 H1 x s1 rx
  obtain ⟨d, e, p⟩ := T.Al_opt q1
  exact hr h F1 H1 x dx d Q s1.z rx e (p.step E.z s1)
theorem ev_c2 {C : Cn} {ta tb : TE} {r : List V → Hp → VK → Prop} {f : D → D → Option D} (ha : EvP C W ta ma) (hb : EvP C W tb mb) (hr : C2D C r f) : EvE C W (tCB r (tCons ta (tCons tb tNil))) (e2 f ma mb) := fun h F H σ ρ Q E q => by
  refine ha h F H σ ρ _ E (T.Al_mono ?_ (fun _ x => x) (T.Al_bind q))
  intro dx q1 F1 H1 x s1 rx
  refine hb h F1 H1 σ ρ _ (E.step s1) (T.Al_mono ?_ (fun _ px => px.step E.z s1) (T.Al_bind q1))
  intro dy q2 F2 H2 y s2 ry
  obtain ⟨d, e, p⟩ := T.Al_opt q2
  exact hr h F2 H2 x y dx dy d Q s2.z (rx.step s2) ry e (p.step E.z (s1.trans E.z s2))
section
variable {x : Str} {id T' : String} {p : Pos}
theorem de_b1 {f : D → Option D} (hc : Call1 X (.builtin id) f) (ha : DP X W e ma) (hg : Gl X x) (hm : X.mg x = none) (hv : bootBuiltins x = some (.builtin id)) (hn : x ≠ "__name__" := by decide) (hdb : (x == ("__debug__" : Str)) = false := by decide)
    (hs : starEach [e] X.env = (false, eval e X.env) :: starEach [] X.env := by rfl) : DE X W (.Call (.Name x p) [e] [] pos) (e1 f ma) :=
  let ⟨_, c1, c2⟩ := hc; DE.of (pe_callB c1 hg hm hv (pa_cons ha pa_nil hs) hn hdb (he := hs)) (ev_c1 evP c2)
theorem de_t1 {f : D → Option D} (hc : Call1 X (.type T') f) (ha : DP X W e ma) (hg : Gl X x) (hm : X.mg x = none) (hv : bootBuiltins x = some (.type T')) (hn : x ≠ "__name__" := by decide) (hdb : (x == ("__debug__" : Str)) = false := by decide)
    (hs : starEach [e] X.env = (false, eval e X.env) :: starEach [] X.env := by rfl) : DE X W (.Call (.Name x p) [e] [] pos) (e1 f ma) :=
  let ⟨_, c1, c2⟩ := hc; DE.of (pe_callTy c1 hg hm hv (pa_cons ha pa_nil hs) hn hdb (he := hs)) (ev_c1 evP c2)
theorem do_b1 {f : D → Option (List D)} (hc : Call1O X (.builtin id) f) (ha : DP X W e ma) (hg : Gl X x) (hm : X.mg x = none) (hv : bootBuiltins x = some (.builtin id)) (hn : x ≠ "__name__" := by decide) (hdb : (x == ("__debug__" : Str)) = false := by decide)
    (hs : starEach [e] X.env = (false, eval e X.env) :: starEach [] X.env := by rfl) : DO X W (.Call (.Name x p) [e] [] pos) (e1O f ma) :=
  let ⟨_, c1, c2⟩ := hc; DO.of (pe_callB c1 hg hm hv (pa_cons ha pa_nil hs) hn hdb (he := hs)) (ev_c1O evP c2)
theorem do_t1 {f : D → Option (List D)} (hc : Call1O X (.type T') f) (ha : DP X W e ma) (hg : Gl X x) (hm : X.mg x = none) (hv : bootBuiltins x = some (.type T')) (hn : x ≠ "__name__" := by decide) (hdb : (x == ("__debug__" : Str)) = false := by decide)
    (hs : starEach [e] X.env = (false, eval e X.env) :: starEach [] X.env := by rfl) : DO X W (.Call (.Name x p) [e] [] pos) (e1O f ma) :=
  let ⟨_, c1, c2⟩ := hc; DO.of (pe_callTy c1 hg hm hv (pa_cons ha pa_nil hs) hn hdb (he := hs)) (ev_c1O evP c2)
theorem de_b2 {f : D → D → Option D} (hc : Call2 X (.builtin id) f) (ha : DP X W a ma) (hb : DP X W b mb) (hg : Gl X x) (hm : X.mg x = none) (hv : bootBuiltins x = some (.builtin id)) (hn : x ≠ "__name__" := by decide) (hdb : (x == ("__debug__" : Str)) = false := by decide)
    (hs : starEach [a, b] X.env = (false, eval a X.env) :: starEach [b] X.env := by rfl) (hs2 : starEach [b] X.env = (false, eval b X.env) :: starEach [] X.env := by rfl) : DE X W (.Call (.Name x p) [a, b] [] pos) (e2 f ma mb) :=
  let ⟨_, c1, c2⟩ := hc; DE.of (pe_callB c1 hg hm hv (pa_cons ha (pa_cons hb pa_nil hs2) hs) hn hdb (he := hs) (hpl := by rw [hs2]; rfl)) (ev_c2 evP evP c2)
end
def dLen : D → Option D
  | .lst ds => some (.int ds.length)
  | .tup ds => some (.int ds.length)
  | .str s => if s.length ≤ 16777216 then some (.int s.length) else none
  | _ => none
theorem k_len : Call1 X (.builtin "len") dLen :=
  ⟨_, call_len, fun h F H x dx d Q z rx e q => by
    unfold dLen at e
    split at e
    · cases e
      obtain ⟨k, xs, rfl, e1, r1⟩ := rx.lst z
      exact ⟨_, xs.length, rfl, .inl ⟨xs, SqL.of e1, rfl⟩, by rw [r1.length]; exact q F H _ (Step.refl z) (.int _)⟩
    · cases e
      obtain ⟨k, xs, rfl, e1, _, r1⟩ := rx.tup z
      exact ⟨_, xs.length, rfl, .inr ⟨xs, e1, rfl⟩, by rw [r1.length]; exact q F H _ (Step.refl z) (.int _)⟩
    · split at e <;> first | cases e | skip
      cases rx.str
      exact ⟨_, _, rfl, ⟨by rw [sizeLine_eq]; assumption, rfl⟩, q F H _ (Step.refl z) (.int _)⟩
    · cases e⟩
def dAbs : D → Option D
  | .int i => some (.int (if i < 0 then -i else i))
  | _ => none
theorem k_abs : Call1 X (.builtin "abs") dAbs :=
  ⟨_, call_abs, fun h F H x dx d Q z rx e q => by
    unfold dAbs at e
    split at e <;> first | cases e | skip
    cases rx.int
    exact ⟨_, rfl, q F H _ (Step.refl z) (.int _)⟩⟩
def dInt : D → Option D
  | .int i => some (.int i)
  | .bl b => some (.int (if b then 1 else 0))
  | _ => none
theorem k_int : Call1 X (.type "int") dInt :=
  ⟨_, call_int1, fun h F H x dx d Q z rx e q => by
    unfold dInt at e
    split at e
    · cases e
      cases rx.int
      exact .inl ⟨_, rfl, q F H _ (Step.refl z) (.int _)⟩
    · cases e
      cases rx.bl
      exact .inr ⟨_, rfl, q F H _ (Step.refl z) (.int _)⟩
    · cases e⟩
def dTuple : D → Option D
  | .lst ds => some (.tup ds)
  | .tup ds => some (.tup ds)
  | _ => none
theorem k_tuple : Call1 X (.type "tuple") dTuple :=
  ⟨_, call_tuple_of, fun h F H x dx d Q z rx e q => by
    unfold dTuple at e
    split at e
    · cases e
      obtain ⟨k, xs, rfl, e1, r1⟩ := rx.lst z
      refine ⟨k, xs, rfl, .inl ⟨SqL.of e1, fun l n => ?_⟩⟩
      obtain ⟨s2, r2⟩ := Step.newT z n r1
      exact q _ _ _ s2 r2
    · cases e
      obtain ⟨k, xs, rfl, e1, f1, r1⟩ := rx.tup z
      exact ⟨k, xs, rfl, .inr ⟨e1, q F H _ (Step.refl z) (.tup f1 r1)⟩⟩
    · cases e⟩
def dList : D → Option (List D)
  | .lst ds => some ds
  | .tup ds => some ds
  | _ => none
theorem k_list : Call1O X (.type "list") dList :=
  ⟨_, call_list_of, fun h F H x dx d Q z rx e q => by
    unfold dList at e
    split at e
    · cases e
      obtain ⟨k, xs, rfl, e1, r1⟩ := rx.lst z
      refine ⟨k, xs, rfl, .inl (SqL.of e1), fun l n => ?_⟩
      obtain ⟨s2, r2⟩ := Step.newO z n r1
      exact q _ _ _ s2 n r2
    · cases e
      obtain ⟨k, xs, rfl, e1, f1, r1⟩ := rx.tup z
      refine ⟨k, xs, rfl, .inr e1, fun l n => ?_⟩
      obtain ⟨s2, r2⟩ := Step.newO z n r1
      exact q _ _ _ s2 n r2
    · cases e⟩
def dFlags : List D → Option (List Bool)
  | [] => some []
  | .bl b :: ds => (dFlags ds).map (b :: ·)
  | _ :: _ => none
theorem flags_rep {C : Cn} {h : Option Hd} {F : Hp} : ∀ {xs : List V} {ds : List D} {bs : List Bool}, Reps C h F xs ds → dFlags ds = some bs → xs = bs.map V.bl
  | _, _, _, .nil, e => by cases e; rfl
  | _, d :: ds, bs, .cons r t, e => by
    cases d <;> first | cases e | skip
    rename_i b
    obtain ⟨cs, e1, rfl⟩ := Option.map_eq_some_iff.mp (show (dFlags ds).map (b :: ·) = some bs from e)
    rw [flags_rep t e1, r.bl_inv]
    rfl
def dAll : D → Option D
  | .lst ds => (dFlags ds).map fun bs => .bl (bs.all id)
  | _ => none
def dAny : D → Option D
  | .lst ds => (dFlags ds).map fun bs => .bl (bs.any id)
  | _ => none
theorem k_all (hc : X.calm = true) : Call1 X (.builtin "all") dAll :=
  ⟨_, cr_all hc, fun h F H x dx d Q z rx e q => by
    unfold dAll at e
    split at e <;> first | cases e | skip
    obtain ⟨bs, e1, rfl⟩ := Option.map_eq_some_iff.mp e
    obtain ⟨k, xs, rfl, e2, r1⟩ := rx.lst z
    exact ⟨k, bs, rfl, by rw [← flags_rep r1 e1]; exact SqL.of e2, q F H _ (Step.refl z) (.bl _)⟩⟩
theorem k_any (hc : X.calm = true) : Call1 X (.builtin "any") dAny :=
  ⟨_, cr_any hc, fun h F H x dx d Q z rx e q => by
    unfold dAny at e
    split at e <;> first | cases e | skip
    obtain ⟨bs, e1, rfl⟩ := Option.map_eq_some_iff.mp e
    obtain ⟨k, xs, rfl, e2, r1⟩ := rx.lst z
    exact ⟨k, bs, rfl, by rw [← flags_rep r1 e1]; exact SqL.of e2, q F H _ (Step.refl z) (.bl _)⟩⟩
def dMin2 : D → D → Option D
  | .int i, .int j => some (.int (if j < i then j else i))
  | _, _ => none
def dMax2 : D → D → Option D
  | .int i, .int j => some (.int (if j > i then j else i))
  | _, _ => none
theorem k_min2 (hc : X.calm = true) : Call2 X (.builtin "min") dMin2 :=
  ⟨_, call_min2 hc, fun h F H x y dx dy d Q z rx ry e q => by
    unfold dMin2 at e
    split at e <;> first | cases e | skip
    cases rx.int
    cases ry.int
    exact ⟨_, _, rfl, q F H _ (Step.refl z) (.int _)⟩⟩
theorem k_max2 (hc : X.calm = true) : Call2 X (.builtin "max") dMax2 :=
  ⟨_, call_max2 hc, fun h F H x y dx dy d Q z rx ry e q => by
    unfold dMax2 at e
    split at e <;> first | cases e | skip
    cases rx.int
    cases ry.int
    exact ⟨_, _, rfl, q F H _ (Step.refl z) (.int _)⟩⟩

/-! ### ranges -/
def dRg (a b : Int) : Option (List D) := if -(2 ^ 62) ≤ a ∧ a < 2 ^ 62 ∧ -(2 ^ 62) ≤ b ∧ b < 2 ^ 62 ∧ (b - a).toNat ≤ 16777216 then some ((List.range (b - a).toNat).map fun i => D.int (a + (i : Nat))) else none
theorem rg_rep {C : Cn} {h : Option Hd} {F : Hp} {a b : Int} : Reps C h F (rgV a b) ((List.range (b - a).toNat).map fun i => D.int (a + (i : Nat))) := by
  unfold rgV
  generalize (List.range (b - a).toNat) = l
  induction l with
  | nil => exact .nil
  | cons x l ih => exact .cons (.int _) ih
def rR1 (m : Env → T D) : Env → T (Int × Int) := fun ρ => (m ρ).bind fun d => (toI d).bind fun i => .ret (0, i)
def rR2 (m n : Env → T D) : Env → T (Int × Int) := fun ρ => (m ρ).bind fun d => (n ρ).bind fun d' => (toI d).bind fun i => (toI d').bind fun j => .ret (i, j)
def PRr (C : Cn) (h : Option Hd) (F H : Hp) (Q : Int → Int → Hp → Prop) (o : Int × Int) : Prop := ∀ F' H', Step C h F H F' H' → Q o.1 o.2 H'
def tRr (C : Cn) (W : WX) (m : Env → T (Int × Int)) : L2.St → Hp → (Int → Int → Hp → Prop) → Prop := fun σ H Q => ∃ h F ρ, EnvE C h F H σ ρ ∧ (m ρ).Al (PRr C h F H Q) (PX C W h σ F H)
def DR (X : Cx) (W : WX) (e : Expr) (m : Env → T (Int × Int)) : Prop := PRg X e (tRr (cn X) W m)
theorem PRg.imp {t t' : L2.St → Hp → (Int → Int → Hp → Prop) → Prop} (p : PRg X e t) (hh : ∀ σ H Q, t' σ H Q → t σ H Q) : PRg X e t' := by
  intro pins s σ H Q I q
  exact p pins s σ H Q I (hh _ _ _ q)
theorem dr_1 {p pos : Pos} (ha : DE X W a ma) (hg : Gl X "range") (hm : X.mg "range" = none) (na : starEach [a] X.env = (false, eval a X.env) :: starEach [] X.env := by rfl) : DR X W (.Call (.Name "range" p) [a] [] pos) (rR1 ma) :=
  PRg.imp (prg_1 hg hm ha na) fun σ H Q ⟨h, F, ρ, E, q⟩ => evD h F H σ ρ _ E (T.Al_mono (fun d p F' H' v s r => by
    obtain ⟨i, rfl, p2⟩ := Al_toI (T.Al_bind p)
    exact ⟨i, r.int_inv, p2 F' H' s⟩) (fun _ x => x) (T.Al_bind q))
theorem dr_2 {p pos : Pos} (ha : DE X W a ma) (hb : DE X W b mb) (hg : Gl X "range") (hm : X.mg "range" = none) (na : starEach [a, b] X.env = (false, eval a X.env) :: starEach [b] X.env := by rfl)
    (nb : starEach [b] X.env = (false, eval b X.env) :: starEach [] X.env := by rfl) : DR X W (.Call (.Name "range" p) [a, b] [] pos) (rR2 ma mb) :=
  PRg.imp (prg_2 hg hm ha hb na nb (by rw [nb]; rfl)) fun σ H Q ⟨h, F, ρ, E, q⟩ => evD h F H σ ρ _ E (T.Al_mono (fun d p F' H' v s r => by
    refine evD h F' H' σ ρ _ (E.step s) (T.Al_mono ?_ (fun _ px => px.step E.z s) (T.Al_bind p))
    intro d2 p2 F2 H2 v2 s2 r2
    obtain ⟨i, rfl, p3⟩ := Al_toI (T.Al_bind p2)
    obtain ⟨j, rfl, p4⟩ := Al_toI (T.Al_bind p3)
    exact ⟨i, j, r.int_inv, r2.int_inv, p4 F2 H2 (s.trans E.z s2)⟩) (fun _ x => x) (T.Al_bind q))
def eLstRg (m : Env → T (Int × Int)) : Env → T (List D) := fun ρ => (m ρ).bind fun o => .opt (dRg o.1 o.2)
def eTupRg (m : Env → T (Int × Int)) : Env → T D := fun ρ => (m ρ).bind fun o => .opt ((dRg o.1 o.2).map .tup)
variable {mr : Env → T (Int × Int)}
theorem do_listRg {p pos : Pos} (hc : X.calm = true) (he : DR X W e mr) (hg : Gl X "list") (hm : X.mg "list" = none) (na : starEach [e] X.env = (false, eval e X.env) :: starEach [] X.env := by rfl) : DO X W (.Call (.Name "list" p) [e] [] pos) (eLstRg mr) :=
  DO.of (pe_listRg hc hg hm he na) fun h F H σ ρ Q E q => ⟨h, F, ρ, E, T.Al_mono (fun o p F' H' s => by
    obtain ⟨ds, e, p2⟩ := T.Al_opt p
    unfold dRg at e
    split at e <;> first | cases e | skip
    rename_i hr
    refine ⟨hr, fun l n => ?_⟩
    obtain ⟨s2, r2⟩ := Step.newO s.z n rg_rep
    exact p2 _ _ _ (s.trans E.z s2) (s.back E.z n) r2) (fun _ x => x) (T.Al_bind q)⟩
theorem de_tupRg {p pos : Pos} (hc : X.calm = true) (he : DR X W e mr) (hg : Gl X "tuple") (hm : X.mg "tuple" = none) (na : starEach [e] X.env = (false, eval e X.env) :: starEach [] X.env := by rfl) : DE X W (.Call (.Name "tuple" p) [e] [] pos) (eTupRg mr) :=
  DE.of (pe_tupRg hc hg hm he na) fun h F H σ ρ Q E q => ⟨h, F, ρ, E, T.Al_mono (fun o p F' H' s => by
    obtain ⟨d, e, p2⟩ := T.Al_opt p
    obtain ⟨ds, e, rfl⟩ := Option.map_eq_some_iff.mp e
    unfold dRg at e
    split at e <;> first | cases e | skip
    rename_i hr
    refine ⟨hr, fun l n => ?_⟩
    obtain ⟨s2, r2⟩ := Step.newT s.z n rg_rep
    exact p2 _ _ _ (s.trans E.z s2) r2) (fun _ x => x) (T.Al_bind q)⟩
end
end PL
/-! PL6: calls of defs, isinstance, targets, what is walked, comprehensions. -/
namespace PL
open PySem PySem.Spec PyProof.Rows L2

/-! ### defs -/
inductive Rv where
  | d (x : D) | own (ds : List D) | ownD (kvs : List (D × D))
def PR (C : Cn) (h : Option Hd) (F H : Hp) (Q : VK) : Rv → Prop
  | .d x => PD C h F H Q x
  | .own ds => PO C h F H Q ds
  | .ownD kvs => POD C h F H Q kvs
/-- what a def promises: it runs as m -/
def spOf (C : Cn) (m : List D → T Rv) : Sp := fun vs H Q E => ∃ h F ds, Fz C h F H ∧ Reps C h F vs ds ∧ (m ds).Al (PR C h F H Q) (PX C (fun c d _ H' => E c d H') h [] F H)
/-- the def of that name runs as m, at a depth of k -/
structure FnI (C : Cn) (base : Heap) (k : Nat) (x : Str) (m : List D → T Rv) : Prop where
  ex : ∃ (f : Addr) (fd : FuncData) (ps : List Str), FnOk C.P C.w C.K C.mg base (L2.CX C.P C.w) k f fd ps (spOf C m) ∧ C.mg x = some (.ref f) ∧ PySem.W.keepIn C.K (.ref f) = true ∧ Binds C.K fd ps []
theorem FnI.mono {C : Cn} {base : Heap} {j k : Nat} {x : Str} {m : List D → T Rv} (F : FnI C base j x m) (h : j ≤ k) : FnI C base k x m :=
  let ⟨f, fd, ps, a, b⟩ := F.ex; ⟨f, fd, ps, a.mono h, b⟩
def rvD : Rv → T D
  | .d x => .ret x
  | .own ds => .ret (.lst ds)
  | .ownD kvs => .ret (.dct kvs)
def rvL : Rv → T (List D)
  | .own ds => .ret ds
  | _ => .bad
def rvK : Rv → T (List (D × D))
  | .ownD kvs => .ret kvs
  | _ => .bad
def eCall (m : List D → T Rv) (ms : Env → T (List D)) : Env → T D := fun ρ => (ms ρ).bind fun ds => (m ds).bind rvD
def eCallO (m : List D → T Rv) (ms : Env → T (List D)) : Env → T (List D) := fun ρ => (ms ρ).bind fun ds => (m ds).bind rvL
def eCallK (m : List D → T Rv) (ms : Env → T (List D)) : Env → T (List (D × D)) := fun ρ => (ms ρ).bind fun ds => (m ds).bind rvK
section
variable {X : Cx} {W : WX} {a b c e : Expr} {es : List Expr} {pos p2 p : Pos} {ma mb mc : Env → T D} {ms : Env → T (List D)} {k j : Nat} {x : Str} {m : List D → T Rv}
theorem PX.sig {C : Cn} {W : WX} {h : Option Hd} {σ : L2.St} {F H : Hp} {x : Exn} (p : PX C W h σ F H x) : PX C (fun c d _ H' => W c d σ H') h [] F H x := fun F' H' s => by
  have q := p F' H' s
  unfold ErrK at q ⊢
  exact q
theorem ev_call {C : Cn} {ta : TA} {α : Type} {P : Hp → Hp → VK → α → Prop} {h : Option Hd} {F H : Hp} {σ : L2.St} {ρ : Env} {Q : VK} {g : Rv → T α} (ha : EvA C W ta ms) (E : EnvE C h F H σ ρ)
    (q : ((ms ρ).bind fun ds => (m ds).bind g).Al (P F H Q) (PX C W h σ F H)) (hP : ∀ r F1 H1, Step C h F H F1 H1 → (g r).Al (P F H Q) (PX C W h σ F H) → PR C h F1 H1 Q r) : tCallS (spOf C m) (WE W) ta σ H Q := by
  refine ha h F H σ ρ _ E (T.Al_mono ?_ (fun _ x => x) (T.Al_bind q))
  intro ds q1 F1 H1 vs s1 r1
  exact ⟨h, F1, ds, s1.z, r1, T.Al_mono (fun r pr => hP r F1 H1 s1 pr) (fun _ px => (px.step E.z s1).sig) (T.Al_bind q1)⟩
theorem de_call (I : FnI (cn X) X.base j x m) (hr : Room k X.A) (hj : j ≤ k) (tk : Takes X W) (ha : DA X W (e :: es) ms) (hg : Gl X x) (hdb : (x == ("__debug__" : Str)) = false := by decide) (he : starEach (e :: es) X.env = (false, eval e X.env) :: starEach es X.env := by rfl)
    (hpl : (backTo pos (starEach es X.env)).any (·.1) = false := by rfl) : DE X W (.Call (.Name x p) (e :: es) [] pos) (eCall m ms) := by
  obtain ⟨f, fd, ps, F, hm, hk, hb⟩ := I.ex
  refine DE.of (pe_callS F (hr.mono hj) hg hm hk hb (passAt tk) ha hdb he hpl) fun h F H σ ρ Q E q => ev_call (P := fun F H Q => PD (cn X) h F H Q) evA E q fun r F1 H1 s1 pr => ?_
  cases r with
  | d x => exact PD.step E.z s1 pr
  | own ds =>
    intro F' H' l s n o
    obtain ⟨F2, s2, _, r2⟩ := o.freeze s n
    exact PD.step E.z s1 pr F2 H' _ s2 r2
  | ownD ds =>
    intro F' H' l s n o
    obtain ⟨F2, s2, _, r2⟩ := o.freeze s n
    exact PD.step E.z s1 pr F2 H' _ s2 r2
theorem do_call (I : FnI (cn X) X.base j x m) (hr : Room k X.A) (hj : j ≤ k) (tk : Takes X W) (ha : DA X W (e :: es) ms) (hg : Gl X x) (hdb : (x == ("__debug__" : Str)) = false := by decide) (he : starEach (e :: es) X.env = (false, eval e X.env) :: starEach es X.env := by rfl)
    (hpl : (backTo pos (starEach es X.env)).any (·.1) = false := by rfl) : DO X W (.Call (.Name x p) (e :: es) [] pos) (eCallO m ms) := by
  obtain ⟨f, fd, ps, F, hm, hk, hb⟩ := I.ex
  refine DO.of (pe_callS F (hr.mono hj) hg hm hk hb (passAt tk) ha hdb he hpl) fun h F H σ ρ Q E q => ev_call (P := fun F H Q => PO (cn X) h F H Q) evA E q fun r F1 H1 s1 pr => ?_
  cases r with
  | d x => exact pr.elim
  | own ds => exact PO.step E.z s1 pr
  | ownD ds => exact pr.elim
theorem dod_call (I : FnI (cn X) X.base j x m) (hr : Room k X.A) (hj : j ≤ k) (tk : Takes X W) (ha : DA X W (e :: es) ms) (hg : Gl X x) (hdb : (x == ("__debug__" : Str)) = false := by decide) (he : starEach (e :: es) X.env = (false, eval e X.env) :: starEach es X.env := by rfl)
    (hpl : (backTo pos (starEach es X.env)).any (·.1) = false := by rfl) : DOD X W (.Call (.Name x p) (e :: es) [] pos) (eCallK m ms) := by
  obtain ⟨f, fd, ps, F, hm, hk, hb⟩ := I.ex
  refine DOD.of (pe_callS F (hr.mono hj) hg hm hk hb (passAt tk) ha hdb he hpl) fun h F H σ ρ Q E q => ev_call (P := fun F H Q => POD (cn X) h F H Q) evA E q fun r F1 H1 s1 pr => ?_
  cases r with
  | d x => exact pr.elim
  | own ds => exact pr.elim
  | ownD ds => exact POD.step E.z s1 pr

/-! ### isinstance -/
inductive Tn where
  | int | bool | str | tuple | list | dict
def Tn.nm : Tn → String
  | .int => "int"
  | .bool => "bool"
  | .str => "str"
  | .tuple => "tuple"
  | .list => "list"
  | .dict => "dict"
def isB : D → Tn → Option Bool
  | .non, _ => some false
  | .bl _, .bool => some true
  | .bl _, .int => some true
  | .bl _, _ => some false
  | .int _, .int => some true
  | .int _, _ => some false
  | .str _, .str => some true
  | .str _, _ => some false
  | .tup _, .tuple => some true
  | .tup _, _ => some false
  | .lst _, .list => some true
  | .lst _, _ => some false
  | .dct _, .dict => some true
  | .dct _, _ => some false
  | _, _ => none
def tyNm : D → Option String
  | .non => some "NoneType"
  | .bl _ => some "bool"
  | .int _ => some "int"
  | .str _ => some "str"
  | .tup _ => some "tuple"
  | .lst _ => some "list"
  | .dct _ => some "dict"
  | _ => none
theorem kit_isB {K : PySem.W.Frag} {d : D} {t : Tn} {b : Bool} (e : isB d t = some b) : ∃ n, tyNm d = some n ∧ PySem.W.kitOne K (.type n) (.type t.nm) = some b := by
  have key : ∀ n : String, ∀ (b : Bool), kitB n t.nm = some b → PySem.W.kitOne K (.type n) (.type t.nm) = some b := fun n b h => kit_ty h
  cases d with
  | non => refine ⟨_, rfl, key _ _ ?_⟩; cases t <;> cases e <;> decide +kernel
  | bl _ => refine ⟨_, rfl, key _ _ ?_⟩; cases t <;> cases e <;> decide +kernel
  | int _ => refine ⟨_, rfl, key _ _ ?_⟩; cases t <;> cases e <;> decide +kernel
  | str _ => refine ⟨_, rfl, key _ _ ?_⟩; cases t <;> cases e <;> decide +kernel
  | tup _ => refine ⟨_, rfl, key _ _ ?_⟩; cases t <;> cases e <;> decide +kernel
  | lst _ => refine ⟨_, rfl, key _ _ ?_⟩; cases t <;> cases e <;> decide +kernel
  | dct _ => refine ⟨_, rfl, key _ _ ?_⟩; cases t <;> cases e <;> decide +kernel
  | _ => cases e
theorem kit_rep {pins : List (Addr × Obj)} {σ : L2.St} {H F : Hp} {s : Shared} {h : Option Hd} {v : V} {u : Value} {d : D} {n : String} (I : Inv X pins σ H s) (z : Fz (cn X) h F H) (r : RepP (cn X) h F H v d) (ru : RelV v u) (e : tyNm d = some n) :
    ∃ P : Heap → Prop, PySem.W.KitX X.K u (.type n) P ∧ P s.heap ∧ u ≠ .builtin "__main__.__loader__#opaque" := by
  have tup : ∀ {a : Addr} {xs : List V}, SqT X.K H a xs → ∃ P : Heap → Prop, PySem.W.KitX X.K (.ref a) (.type "tuple") P ∧ P s.heap ∧ (Value.ref a) ≠ .builtin "__main__.__loader__#opaque" := fun hx => by
    obtain ⟨its, rv, ⟨o, h1, h2, _⟩, _⟩ := I.tuple hx
    exact ⟨_, PySem.W.kitx_tuple, ⟨o, h1, h2⟩, fun z => nomatch z⟩
  have lst : ∀ {a : Addr} {xs : List V}, H a = some (.lst xs) → ∃ P : Heap → Prop, PySem.W.KitX X.K (.ref a) (.type "list") P ∧ P s.heap ∧ (Value.ref a) ≠ .builtin "__main__.__loader__#opaque" := fun hx => by
    obtain ⟨_, _, n, _, h1⟩ := (show ObjOk X.prog X.w H s.heap _ (.lst _) from I.hok _ _ hx)
    exact ⟨_, PySem.W.kitx_list, ⟨_, h1, rfl⟩, fun z => nomatch z⟩
  have dct : ∀ {a : Addr} {o : Obj}, H a = some (DX a o) → o.ExactDict → ∃ P : Heap → Prop, PySem.W.KitX X.K (.ref a) (.type "dict") P ∧ P s.heap ∧ (Value.ref a) ≠ .builtin "__main__.__loader__#opaque" := fun {a o} hx hd => by
    obtain ⟨h1, _, _⟩ := (show ObjOk X.prog X.w H s.heap a (DX a o) from I.hok _ _ hx)
    exact ⟨_, PySem.W.kitx_dict, ⟨o, h1, hd.1⟩, fun z => nomatch z⟩
  cases r with
  | fz r =>
    cases r with
    | non => cases e; cases (show u = Value.none from ru); exact ⟨_, PySem.W.kitx_none, True.intro, fun z => nomatch z⟩
    | bl y => cases e; cases (show u = Value.bool y from ru); exact ⟨_, PySem.W.kitx_bool, True.intro, fun z => nomatch z⟩
    | int i => cases e; obtain ⟨t, q⟩ := (show ∃ t, u = Value.int i t from ru); cases q; exact ⟨_, PySem.W.kitx_int, True.intro, fun z => nomatch z⟩
    | str y => cases e; obtain ⟨t, q⟩ := (show ∃ t, u = Value.str y t from ru); cases q; exact ⟨_, PySem.W.kitx_str, True.intro, fun z => nomatch z⟩
    | tup e1 r => cases e; cases (show u = Value.ref _ from ru); exact tup (z.le.sqT e1)
    | lst e1 r => cases e; cases (show u = Value.ref _ from ru); exact lst (z.le _ _ e1)
    | dct e1 hx _ _ _ => cases e; cases (show u = Value.ref _ from ru); exact dct (z.le _ _ e1) hx
    | hand _ => cases e
    | glob _ => cases e
  | own o =>
    obtain ⟨_, _, xs, h3, _⟩ := o
    cases e; cases (show u = Value.ref _ from ru); exact lst h3
  | ownD o =>
    obtain ⟨_, _, ob, h3, h4⟩ := o
    cases e; cases (show u = Value.ref _ from ru); exact dct h3 h4.hx
def rIs1 (C : Cn) (t : Tn) : List V → Hp → VK → Prop := fun xs H Q => ∃ (x : V) (h : Option Hd) (F : Hp) (d : D) (b : Bool), xs = [x, .ty t.nm] ∧ Fz C h F H ∧ RepP C h F H x d ∧ isB d t = some b ∧ Q (.bl b) H
theorem call_is1 (t : Tn) : CallR X (.builtin "isinstance") (rIs1 (cn X) t) := by
  intro pins s σ H xs us Q I r h
  obtain ⟨x, hh, F, d, b, rfl, z, rp, e, q⟩ := h
  obtain ⟨u1, u2, rfl, r1, r2⟩ := vals2 r
  cases (show u2 = Value.type t.nm from r2)
  obtain ⟨n, en, ek⟩ := kit_isB (K := X.K) e
  obtain ⟨P, Z, p, hx⟩ := kit_rep I z rp r1 en
  exact PySem.W.kia_one Z I.kIn p ek hx fun tk => ⟨.bl b, H, I.tok tk, rfl, q⟩
def isBs : D → List Tn → Option Bool
  | _, [] => some false
  | d, t :: ts => match isB d t with
    | some true => some true
    | some false => isBs d ts
    | none => none
theorem kit_isBs {K : PySem.W.Frag} {d : D} {n : String} (en : tyNm d = some n) : ∀ {ts : List Tn} {b : Bool}, isBs d ts = some b → PySem.W.kitAny K (.type n) (ts.map fun t => Value.type t.nm) = some b
  | [], b, e => by cases e; rfl
  | t :: ts, b, e => by
    unfold isBs at e
    cases q : isB d t with
    | none => rw [q] at e; cases e
    | some k =>
      rw [q] at e
      obtain ⟨n', en', ek⟩ := kit_isB (K := K) q
      rw [en] at en'
      cases en'
      refine kitAny_cons ek (fun hk => ?_) (fun hk => ?_)
      · subst hk; exact kit_isBs en e
      · subst hk; cases e; rfl
theorem isBs_ty {d : D} : ∀ {ts : List Tn} {b : Bool}, ts ≠ [] → isBs d ts = some b → ∃ n, tyNm d = some n
  | t :: ts, b, _, e => by
    unfold isBs at e
    cases q : isB d t with
    | none => rw [q] at e; cases e
    | some k =>
      obtain ⟨n, en, _⟩ := kit_isB (K := default) q
      exact ⟨n, en⟩
theorem tys_vals : ∀ {ts : List Tn} {us : List Value}, Vals (ts.map fun t => V.ty t.nm) us → us = ts.map fun t => Value.type t.nm
  | [], _, .nil => rfl
  | t :: ts, _, .cons r rr => by
    rw [tys_vals rr]
    cases (show _ = Value.type t.nm from r)
    rfl
def rIsN (C : Cn) (ts : List Tn) : List V → Hp → VK → Prop := fun xs H Q => ∃ (x : V) (tp : Addr) (h : Option Hd) (F : Hp) (d : D) (b : Bool), xs = [x, .ref tp] ∧ H tp = some (.tup (ts.map fun t => V.ty t.nm)) ∧ ts ≠ [] ∧ Fz C h F H ∧ RepP C h F H x d ∧ isBs d ts = some b ∧ Q (.bl b) H
theorem call_isN (ts : List Tn) : CallR X (.builtin "isinstance") (rIsN (cn X) ts) := by
  intro pins s σ H xs us Q I r h
  obtain ⟨x, tp, hh, F, d, b, rfl, hT, hne, z, rp, e, q⟩ := h
  obtain ⟨u1, u2, rfl, r1, r2⟩ := vals2 r
  cases (show u2 = Value.ref tp from r2)
  obtain ⟨n, en⟩ := isBs_ty hne e
  obtain ⟨P, Z, p, hx⟩ := kit_rep I z rp r1 en
  obtain ⟨_, its, rv, o, h1, h2, n', h3⟩ := (show ObjOk X.prog X.w H s.heap tp (.tup _) from I.hok tp _ hT)
  have e3 := tys_vals rv
  subst e3
  obtain ⟨oc, od, dt, sl⟩ := o
  simp only at h2 h3
  subst h2 h3
  exact PySem.W.kia_tup Z I.kIn p h1 (kit_isBs en e) hx fun tk => ⟨.bl b, H, I.tok tk, rfl, q⟩
def dIsB (t : Tn) (d : D) : Option D := (isB d t).map .bl
def dIsBs (ts : List Tn) (d : D) : Option D := (isBs d ts).map .bl
theorem de_is1 {x : Str} {px : Pos} (t : Tn) (ha : DP X W e ma) (hg : Gl X "isinstance") (hm : X.mg "isinstance" = none) (hgt : Gl X x) (hmt : X.mg x = none) (hvt : bootBuiltins x = some (.type t.nm)) (hn : x ≠ "__name__" := by decide) (hd : (x == ("__debug__" : Str)) = false := by decide)
    (hs : starEach [e, .Name x px] X.env = (false, eval e X.env) :: starEach [.Name x px] X.env := by rfl) : DE X W (.Call (.Name "isinstance" p) [e, .Name x px] [] pos) (e1 (dIsB t) ma) :=
  DE.of (pe_callB (call_is1 t) hg hm (by decide +kernel) (pa_cons ha (pa_cons (pe_bltn (v := .ty t.nm) hgt hmt hvt rfl hn hd) pa_nil) hs) (he := hs)) fun h F H σ ρ Q E q =>
    evP h F H σ ρ _ E (T.Al_mono (fun d p F' H' v s r => by
      obtain ⟨k, e, p2⟩ := T.Al_opt p
      obtain ⟨b, e9, rfl⟩ := Option.map_eq_some_iff.mp e
      exact ⟨v, h, F', d, b, rfl, s.z, r, e9, p2 F' H' _ s (.bl b)⟩) (fun _ x => x) (T.Al_bind q))
/-- the classes of a tuple -/
structure TyNames (X : Cx) (es : List Expr) (ts : List Tn) : Prop where
  ok : ∃ ta, PA X es ta ∧ ∀ σ H Q, Q (ts.map fun t => V.ty t.nm) H → ta σ H Q
theorem tyn_nil : TyNames X [] [] := ⟨_, pa_nil, fun _ _ _ q => q⟩
theorem tyn_cons {x : Str} {px : Pos} {ts : List Tn} (t : Tn) (hgt : Gl X x) (hmt : X.mg x = none) (hvt : bootBuiltins x = some (.type t.nm)) (r : TyNames X es ts) (hn : x ≠ "__name__" := by decide) (hd : (x == ("__debug__" : Str)) = false := by decide)
    (hs : starEach (.Name x px :: es) X.env = (false, eval (.Name x px) X.env) :: starEach es X.env := by rfl) : TyNames X (.Name x px :: es) (t :: ts) :=
  let ⟨_, a, b⟩ := r.ok; ⟨_, pa_cons (pe_bltn (v := .ty t.nm) hgt hmt hvt rfl hn hd) a hs, fun σ H Q q => b σ H _ q⟩
theorem de_isN {ts : List Tn} {x1 : Nat} {px : Pos} (ht : TyNames X es ts) (hl : (decide (ts ≠ [] ∧ ts.length ≤ 16) : Bool) = true) (ha : DP X W e ma) (hg : Gl X "isinstance") (hm : X.mg "isinstance" = none)
    (hs : starEach [e, .Tuple es x1 px] X.env = (false, eval e X.env) :: starEach [.Tuple es x1 px] X.env := by rfl) (hs2 : starEach [.Tuple es x1 px] X.env = (false, eval (.Tuple es x1 px) X.env) :: starEach [] X.env := by rfl) :
    DE X W (.Call (.Name "isinstance" p) [e, .Tuple es x1 px] [] pos) (e1 (dIsBs ts) ma) := by
  obtain ⟨ta, h1, h2⟩ := ht.ok
  have hl := of_decide_eq_true hl
  refine DE.of (pe_callB (call_isN ts) hg hm (by decide +kernel) (pa_cons ha (pa_cons (pe_tup h1) pa_nil hs2) hs) (he := hs) (hpl := by rw [hs2]; rfl)) fun h F H σ ρ Q E q =>
    evP h F H σ ρ _ E (T.Al_mono (fun d p F' H' v s r => ?_) (fun _ x => x) (T.Al_bind q))
  obtain ⟨k, e, p2⟩ := T.Al_opt p
  obtain ⟨b, e9, rfl⟩ := Option.map_eq_some_iff.mp e
  refine h2 _ _ _ ⟨by rw [List.length_map, sizeLine_eq]; omega, fun l n => ?_⟩
  have s2 : Step (cn X) h F' H' F' (upd H' l (.tup (ts.map fun t => V.ty t.nm))) := Step.made s.z n
  exact ⟨v, l, h, F', d, b, rfl, upd_same, hl.1, s2.z, r.step s2, e9, p2 _ _ _ (s.trans E.z s2) (.bl b)⟩
end
end PL
/-! PL7: targets, what is walked, comprehensions. -/
namespace PL
open PySem PySem.Spec PyProof.Rows L2

/-! ### targets -/
structure Kp (js : List Nat) (σ : L2.St) (ρ : Env) (σ' : L2.St) (ρ' : Env) : Prop where
  out : ∀ (i : Nat), i ∉ js → σ'[i]? = σ[i]?
  own : ∀ (i : Nat), isOwn ρ'[i]? = true → isOwn ρ[i]? = true ∧ σ'[i]? = σ[i]?
  len : σ'.length = σ.length
theorem Kp.refl {js : List Nat} {σ : L2.St} {ρ : Env} : Kp js σ ρ σ ρ := ⟨fun _ _ => rfl, fun _ h => ⟨h, rfl⟩, rfl⟩
theorem Kp.trans {js ks : List Nat} {σ σ1 σ2 : L2.St} {ρ ρ1 ρ2 : Env} (a : Kp js σ ρ σ1 ρ1) (b : Kp ks σ1 ρ1 σ2 ρ2) : Kp (js ++ ks) σ ρ σ2 ρ2 :=
  ⟨fun i h => by rw [List.mem_append, not_or] at h; rw [b.out i h.2, a.out i h.1], fun i h => by
    obtain ⟨h1, e1⟩ := b.own i h
    obtain ⟨h2, e2⟩ := a.own i h1
    exact ⟨h2, e1.trans e2⟩, b.len.trans a.len⟩
def tG (C : Cn) (js : List Nat) (mg : D → Env → Option Env) : TG := fun v σ H Q => ∃ h F ρ d ρ', EnvE C h F H σ ρ ∧ Rep C h F v d ∧ mg d ρ = some ρ' ∧ ∀ σ', Kp js σ ρ σ' ρ' → EnvE C h F H σ' ρ' → Q σ' H
def tGs (C : Cn) (js : List Nat) (mg : List D → Env → Option Env) : TGs := fun v σ H Q => ∃ h F ρ d ρ', EnvE C h F H σ ρ ∧ Reps C h F v d ∧ mg d ρ = some ρ' ∧ ∀ σ', Kp js σ ρ σ' ρ' → EnvE C h F H σ' ρ' → Q σ' H
def DG (X : Cx) (tg : Expr) (js : List Nat) (mg : D → Env → Option Env) : Prop := PG X tg (tG (cn X) js mg)
def DGs (X : Cx) (tg : List Expr) (js : List Nat) (mg : List D → Env → Option Env) : Prop := PGs X tg (tGs (cn X) js mg)
def gN (i : Nat) : D → Env → Option Env := fun d ρ => some (ρ.set i (.d d))
def gT (n : Nat) (g : List D → Env → Option Env) : D → Env → Option Env := fun d ρ => match d with
  | .tup ds => if ds.length = n then g ds ρ else none
  | _ => none
def gsN : List D → Env → Option Env := fun ds ρ => match ds with
  | [] => some ρ
  | _ => none
def gsC (g : D → Env → Option Env) (gs : List D → Env → Option Env) : List D → Env → Option Env := fun ds ρ => match ds with
  | d :: r => (g d ρ).bind (gs r)
  | _ => none
theorem EnvE.set {C : Cn} {h : Option Hd} {F H : Hp} {σ : L2.St} {ρ : Env} {i : Nat} {v : V} {d : D} (E : EnvE C h F H σ ρ) (r : Rep C h F v d) : Kp [i] σ ρ (σ.set i (some v)) (ρ.set i (.d d)) ∧ EnvE C h F H (σ.set i (some v)) (ρ.set i (.d d)) := by
  have own : ∀ j, isOwn (ρ.set i (.d d))[j]? = true → j ≠ i ∧ isOwn ρ[j]? = true := fun j hj => by
    by_cases e : j = i
    · subst e
      rw [List.getElem?_set_self'] at hj
      cases q : ρ[j]? with
      | none => rw [q] at hj; cases hj
      | some s => rw [q] at hj; cases hj
    · exact ⟨e, by rw [List.getElem?_set_ne (Ne.symm e)] at hj; exact hj⟩
  refine ⟨⟨fun j hj => ?_, fun j hj => ?_, List.length_set⟩, E.z, fun j s e => ?_, by rw [List.length_set, List.length_set]; exact E.len, fun j k a hjk h1 h2 e1 e2 => ?_⟩
  · rw [List.getElem?_set_ne]
    simp only [List.mem_singleton] at hj
    exact Ne.symm hj
  · obtain ⟨h1, h2⟩ := own j hj
    exact ⟨h2, List.getElem?_set_ne (Ne.symm h1)⟩
  · by_cases hj : j = i
    · subst hj
      have hl : j < ρ.length := by
        by_cases q : j < ρ.length
        · exact q
        · rw [List.getElem?_eq_none_iff.mpr (by rw [List.length_set]; omega)] at e
          cases e
      rw [List.getElem?_set_self hl] at e
      cases e
      exact ⟨v, List.getElem?_set_self (by rw [E.len]; exact hl), r⟩
    · rw [List.getElem?_set_ne (Ne.symm hj)] at e
      have := E.slots j s e
      cases s with
      | un => trivial
      | d x => obtain ⟨v', e1, r1⟩ := this; exact ⟨v', by rw [List.getElem?_set_ne (Ne.symm hj)]; exact e1, r1⟩
      | own x => obtain ⟨v', e1, r1⟩ := this; exact ⟨v', by rw [List.getElem?_set_ne (Ne.symm hj)]; exact e1, r1⟩
      | ownD x => obtain ⟨v', e1, r1⟩ := this; exact ⟨v', by rw [List.getElem?_set_ne (Ne.symm hj)]; exact e1, r1⟩
      | scr x => obtain ⟨v', e1, r1⟩ := this; exact ⟨v', by rw [List.getElem?_set_ne (Ne.symm hj)]; exact e1, r1⟩
      | pin x => obtain ⟨y, e0, l0, e1, r1⟩ := this; exact ⟨y, e0, l0, by rw [List.getElem?_set_ne (Ne.symm hj)]; exact e1, r1⟩
  · obtain ⟨n1, o1⟩ := own j h1
    obtain ⟨n2, o2⟩ := own k h2
    rw [List.getElem?_set_ne (Ne.symm n1)] at e1
    rw [List.getElem?_set_ne (Ne.symm n2)] at e2
    exact E.dist j k a hjk o1 o2 e1 e2
section
variable {X : Cx} {W : WX} {e tg : Expr} {es : List Expr} {pos : Pos} {js ks : List Nat} {g : D → Env → Option Env} {gs : List D → Env → Option Env}
theorem PG.imp {t t' : TG} (p : PG X tg t) (h : ∀ v σ H Q, t' v σ H Q → t v σ H Q) : PG X tg t' := ⟨fun pins s σ H v u Q I r q => p.run pins s σ H v u Q I r (h _ _ _ _ q)⟩
theorem PGs.imp {t t' : TGs} (p : PGs X es t) (h : ∀ v σ H Q, t' v σ H Q → t v σ H Q) : PGs X es t' := ⟨fun pins s σ H v u Q I r q => p.run pins s σ H v u Q I r (h _ _ _ _ q)⟩
theorem dg_name (i : Nat) {x : Str} (hN : X.N.Nodup) (hi : X.N[i]? = some x := by rfl) (hx : Loc X.env.scope x := by first | exact .inl rfl | exact .inr rfl) (hf : X.fn x = true ∨ X.env.scope.names.lookup x = some .local := by first | exact .inl rfl | exact .inr rfl) : DG X (.Name x pos) [i] (gN i) :=
  PG.imp (pg_name hN hi hx hf) fun v σ H Q ⟨h, F, ρ, d, ρ', E, r, e, q⟩ => by
    cases e
    obtain ⟨k, E'⟩ := E.set (i := i) r
    exact q _ k E'
theorem dgs_nil : DGs X [] [] gsN := PGs.imp pgs_nil fun v σ H Q ⟨h, F, ρ, d, ρ', E, r, e, q⟩ => by
  cases r with
  | nil => cases e; exact ⟨rfl, q σ Kp.refl E⟩
  | cons _ _ => cases e
theorem dgs_cons (h1 : DG X e js g) (h2 : DGs X es ks gs) (hs : (assignEach (e :: es) X.env).map (·.2) = assign e X.env :: (assignEach es X.env).map (·.2) := by rfl) : DGs X (e :: es) (js ++ ks) (gsC g gs) :=
  PGs.imp (pgs_cons h1 h2 hs) fun v σ H Q ⟨h, F, ρ, d, ρ', E, r, e, q⟩ => by
    cases r with
    | nil => cases e
    | cons r t =>
      obtain ⟨ρ1, e1, e2⟩ := Option.bind_eq_some_iff.mp (show (g _ ρ).bind (gs _) = some ρ' from e)
      exact ⟨_, _, rfl, h, F, ρ, _, ρ1, E, r, e1, fun σ1 k1 E1 => ⟨h, F, ρ1, _, ρ', E1, t, e2, fun σ2 k2 E2 => q σ2 (k1.trans k2) E2⟩⟩
theorem dg_tup {k n : Nat} (hc : X.calm = true) (h : DGs X es js gs) (hn : (assignEach es X.env).length = n := by rfl) (hst : (assignEach es X.env).findIdx? (·.1) = none := by rfl) : DG X (.Tuple es k pos) js (gT n gs) :=
  PG.imp (pg_tup hc h hn hst) fun v σ H Q ⟨h, F, ρ, d, ρ', E, r, e, q⟩ => by
    unfold gT at e
    split at e <;> first | cases e | skip
    split at e <;> first | cases e | skip
    rename_i hl
    cases r with
    | tup e1 r1 => exact ⟨_, _, rfl, E.z.le.sqT e1, by rw [r1.length]; exact hl, h, F, ρ, _, ρ', E, r1, e, q⟩
end

/-! ### what is walked -/
/-- the walk of the items ds; k: the heap's own lists stand, too -/
def PIt (C : Cn) (h : Option Hd) (k : Bool) (F H : Hp) (R : It → Hp → Prop) (ds : List D) : Prop := ∀ F' H' (J : It) (G : Hp → Prop) (Y : Nat → Hp → V → Hp → Prop), Step C h F H F' H' → Walk J ds.length G Y →
  (∀ F2 H2, Le F' F2 → Fz C h F2 H2 → (k = true → ∀ a o, NotHand h a → H' a = some o → H2 a = some o) → G H2) →
  (∀ i F2 H2 x H3, i < ds.length → Le F' F2 → Fz C h F2 H2 → Y i H2 x H3 → ∃ d F3, ds[i]? = some d ∧ Step C h F2 H2 F3 H3 ∧ Rep C h F3 x d) → R J H'
def tI (C : Cn) (W : WX) (k : Bool) (m : Env → T (List D)) : TI := fun σ H R => ∃ h F ρ, EnvE C h F H σ ρ ∧ (m ρ).Al (PIt C h k F H R) (PX C W h σ F H)
def DI (X : Cx) (W : WX) (k : Bool) (tg iter : Expr) (m : Env → T (List D)) : Prop := PI X tg iter (tI (cn X) W k m)
section
variable {X : Cx} {W : WX} {k : Bool} {e e' tg : Expr} {es : List Expr} {pos : Pos} {ma mb : Env → T D} {ms : Env → T (List D)}
theorem PI.imp {t t' : TI} (p : PI X tg e t) (h : ∀ σ H Q, t' σ H Q → t σ H Q) : PI X tg e t' := ⟨fun pins s σ H R I q => p.run pins s σ H R I (h _ _ _ q)⟩
/-- a list, a tuple, a text -/
def iGen (K : PySem.W.Frag) (te : TE) : TI := fun σ H R => te σ H fun x H1 => (∃ a, x = .ref a ∧ (∃ xs, SqL K H1 a xs) ∧ R (Itl K a) H1) ∨ (∃ a, x = .ref a ∧ (∃ xs, SqT K H1 a xs) ∧ R (Itt K a) H1) ∨ ∃ z, x = .str z ∧ R (Its z) H1
theorem pi_gen {te : TE} (he : PE X e te) : PI X tg e (iGen X.K te) := by
  refine ⟨fun pins s σ H R I h => ?_⟩
  refine thn (he.run pins s σ H _ I h) fun v s1 ⟨x, H1, I1, r1, q1⟩ => ?_
  rcases q1 with ⟨a, e, ⟨xs, hq⟩, q⟩ | ⟨a, e, ⟨xs, hq⟩, q⟩ | ⟨z, ex, q⟩
  · subst e
    cases r1
    obtain ⟨its, rv, p, hz⟩ := I1.list hq
    refine wpAny_pyIter_list p.isList ?_
    refine ⟨s1.heap.objs.size, [s1.heap.objs.size], _, _, H1, rfl, I1.kept (t' := s1.toks) fun b o e => Heap.get?_push_of_some _ e, turn_list a _, ⟨_, Heap.get?_push_size _ rfl, rfl, rfl⟩, fun b hb => ?_, q⟩
    have e : b = s1.heap.objs.size := by simpa using hb
    subst e
    exact I1.fpOk (Nat.le_refl _) (I1.hok.fresh (Nat.le_refl _))
  · subst e
    cases r1
    obtain ⟨its, rv, p, hz⟩ := I1.tuple hq
    refine wpAny_pyIter_tuple (show s1.heap.IsTuple a its.toArray from p) ?_
    refine ⟨s1.heap.objs.size, [s1.heap.objs.size], _, _, H1, rfl, I1.kept (t' := s1.toks) fun b o e => Heap.get?_push_of_some _ e, turn_tuple a _, ⟨_, Heap.get?_push_size _ rfl, rfl, rfl⟩, fun b hb => ?_, q⟩
    have e : b = s1.heap.objs.size := by simpa using hb
    subst e
    exact I1.fpOk (Nat.le_refl _) (I1.hok.fresh (Nat.le_refl _))
  · subst ex
    obtain ⟨t, rfl⟩ := r1
    cases ha : z.cps.all (· < 128)
    · exact wpAny_pyIter_wide ha (pi_one (tk := s1.toks) I1 _ (turn_str _ z t "str_iterator" (.inr rfl)) ⟨_, Heap.get?_push_size _ rfl, rfl, rfl⟩ q)
    · exact wpAny_pyIter_ascii ha (pi_one (tk := s1.toks) I1 _ (turn_str _ z t "str_ascii_iterator" (.inl rfl)) ⟨_, Heap.get?_push_size _ rfl, rfl, rfl⟩ q)
def signs (z : Str) : List D := z.cps.toList.map fun c => .str ⟨#[c]⟩
/-- the items of a value -/
def dItems : D → Option (List D)
  | .lst ds => some ds
  | .tup ds => some ds
  | .str z => some (signs z)
  | _ => none
def iIt (m : Env → T D) : Env → T (List D) := fun ρ => (m ρ).bind fun d => .opt (dItems d)
theorem yat {C : Cn} {h : Option Hd} {F H2 H3 : Hp} {xs : List V} {ds : List D} {i : Nat} {x : V} (z : Fz C h F H2) (r : Reps C h F xs ds) (y : YAt xs i H2 x H3) : ∃ d F3, ds[i]? = some d ∧ Step C h F H2 F3 H3 ∧ Rep C h F3 x d := by
  obtain ⟨rfl, e⟩ := y
  obtain ⟨d, e1, r1⟩ := r.get' e
  exact ⟨d, F, e1, Step.refl z, r1⟩
theorem walk_items {C : Cn} {h : Option Hd} {F H F1 H1 : Hp} {v : V} {d : D} {ds : List D} {R : It → Hp → Prop} (s : Step C h F H F1 H1) (r : RepP C h F1 H1 v d) (hk : k = true ∨ Rep C h F1 v d) (e : dItems d = some ds) (p : PIt C h k F H R ds) :
    (∃ a, v = .ref a ∧ (∃ xs, SqL C.K H1 a xs) ∧ R (Itl C.K a) H1) ∨ (∃ a, v = .ref a ∧ (∃ xs, SqT C.K H1 a xs) ∧ R (Itt C.K a) H1) ∨ ∃ z, v = .str z ∧ R (Its z) H1 := by
  unfold dItems at e
  split at e
  · cases e
    obtain ⟨a, xs, rfl, e1, r1⟩ := r.lst s.z
    have w := walk_list (K := C.K) (a := a) (xs := xs)
    rw [r1.length] at w
    refine .inl ⟨a, rfl, ⟨xs, SqL.of e1⟩, p F1 H1 _ _ _ s w (fun F2 H2 l z2 hh => ?_) fun i F2 H2 x H3 hi l z2 y => yat z2 (r1.mono l) y⟩
    rcases hk with hk | hk
    · cases r with
      | fz r =>
        cases r with
        | lst e2 _ =>
          have := s.z.le _ _ e2
          rw [e1] at this
          cases this
          exact SqL.of (z2.le _ _ (l _ _ e2))
      | own o => exact SqL.of (hh hk a _ o.2.1 e1)
    · cases hk with
      | lst e2 _ =>
        have := s.z.le _ _ e2
        rw [e1] at this
        cases this
        exact SqL.of (z2.le _ _ (l _ _ e2))
  · cases e
    obtain ⟨a, xs, rfl, e1, f1, r1⟩ := r.tup s.z
    have w := walk_tup (K := C.K) (a := a) (xs := xs)
    rw [r1.length] at w
    exact .inr (.inl ⟨a, rfl, ⟨xs, e1⟩, p F1 H1 _ _ _ s w (fun F2 H2 l z2 _ => z2.le.sqT (l.sqT f1)) fun i F2 H2 x H3 hi l z2 y => yat z2 (r1.mono l) y⟩)
  · cases e
    cases r.str
    rename_i z
    have w := walk_str (z := z)
    have hl : z.cps.size = (signs z).length := by unfold signs; rw [List.length_map, Array.length_toList]
    rw [hl] at w
    refine .inr (.inr ⟨z, rfl, p F1 H1 _ _ _ s w (fun _ _ _ _ _ => trivial) fun i F2 H2 x H3 hi l z2 y => ?_⟩)
    obtain ⟨rfl, c, e1, rfl⟩ := y
    refine ⟨.str ⟨#[c]⟩, F2, ?_, Step.refl z2, .str _⟩
    unfold signs
    rw [List.getElem?_map, Array.getElem?_toList, e1]
    rfl
  · cases e
theorem di_frz (ha : DE X W e ma) : DI X W k tg e (iIt ma) :=
  PI.imp (pi_gen ha) fun σ H R ⟨h, F, ρ, E, q⟩ => evD h F H σ ρ _ E (T.Al_mono (fun d p F1 H1 v s r => by
    obtain ⟨ds, e, p2⟩ := T.Al_opt p
    exact walk_items s (.fz r) (.inr r) e p2) (fun _ x => x) (T.Al_bind q))
theorem di_peek (ha : DP X W e ma) : DI X W true tg e (iIt ma) :=
  PI.imp (pi_gen ha) fun σ H R ⟨h, F, ρ, E, q⟩ => evP h F H σ ρ _ E (T.Al_mono (fun d p F1 H1 v s r => by
    obtain ⟨ds, e, p2⟩ := T.Al_opt p
    exact walk_items s r (.inl rfl) e p2) (fun _ x => x) (T.Al_bind q))
/-- a new list, walked at once -/
theorem di_new {m : Env → T (List D)} (ha : DO X W e m) : DI X W k tg e m :=
  PI.imp (pi_gen ha) fun σ H R ⟨h, F, ρ, E, q⟩ => evO h F H σ ρ _ E (T.Al_mono (fun ds p F1 H1 a s n o => by
    obtain ⟨F2, s2, _, r2⟩ := o.freeze s n
    exact walk_items s2 (.fz r2) (.inr r2) rfl p) (fun _ x => x) q)

def rgL (lo : Int) (n : Nat) : List D := (List.range n).map fun i => .int (lo + (i : Nat))
theorem rgL_len {lo : Int} {n : Nat} : (rgL lo n).length = n := by unfold rgL; rw [List.length_map, List.length_range]
theorem rgL_at {lo : Int} {n i : Nat} (h : i < n) : (rgL lo n)[i]? = some (.int (lo + (i : Nat))) := by
  unfold rgL
  rw [List.getElem?_map, List.getElem?_range h]
  rfl
theorem walk_rg {C : Cn} {h : Option Hd} {F H F1 H1 : Hp} {lo : Int} {n : Nat} {R : It → Hp → Prop} (s : Step C h F H F1 H1) (p : PIt C h k F H R (rgL lo n)) : R (Itr lo n) H1 := by
  have w := walk_range (lo := lo) (n := n)
  have e : n = (rgL lo n).length := rgL_len.symm
  refine p F1 H1 _ _ _ s (by rw [← e]; exact w) (fun _ _ _ _ _ => trivial) fun i F2 H2 x H3 hi l z2 y => ?_
  obtain ⟨rfl, rfl⟩ := y
  rw [rgL_len] at hi
  exact ⟨_, F2, rgL_at hi, Step.refl z2, .int _⟩
def iRg1 (m : Env → T D) : Env → T (List D) := fun ρ => (m ρ).bind fun d => (toI d).bind fun j => if -(2 ^ 62) ≤ j ∧ j < 2 ^ 62 then .ret (rgL 0 j.toNat) else .bad
def iRg2 (m n : Env → T D) : Env → T (List D) := fun ρ => (m ρ).bind fun d => (n ρ).bind fun d' => (toI d).bind fun i => (toI d').bind fun j => if -(2 ^ 62) ≤ i ∧ i < 2 ^ 62 ∧ -(2 ^ 62) ≤ j ∧ j < 2 ^ 62 then .ret (rgL i (j - i).toNat) else .bad
variable {a b c : Expr} {mc : Env → T D} {p : Pos}
theorem di_rg1 (ha : DE X W a ma) (hg : Gl X "range") (hm : X.mg "range" = none) (hs : starEach [a] X.env = [(false, eval a X.env)] := by rfl) : DI X W k tg (.Call (.Name "range" p) [a] [] pos) (iRg1 ma) :=
  PI.imp (pi_range1 hg hm (pa_cons ha pa_nil hs) hs) fun σ H R ⟨h, F, ρ, E, q⟩ => evD h F H σ ρ _ E (T.Al_mono (fun d p F1 H1 v s r => by
    obtain ⟨j, rfl, p2⟩ := Al_toI (T.Al_bind p)
    split at p2 <;> first | exact p2.elim | skip
    rename_i hj
    exact ⟨j, by rw [r.int_inv], hj.1, hj.2, walk_rg s p2⟩) (fun _ x => x) (T.Al_bind q))
theorem di_rg2 (ha : DE X W a ma) (hb : DE X W b mb) (hg : Gl X "range") (hm : X.mg "range" = none) (hs : starEach [a, b] X.env = [(false, eval a X.env), (false, eval b X.env)] := by rfl) (hs2 : starEach [b] X.env = [(false, eval b X.env)] := by rfl) :
    DI X W k tg (.Call (.Name "range" p) [a, b] [] pos) (iRg2 ma mb) :=
  PI.imp (pi_range2 hg hm (pa_cons ha (pa_cons hb pa_nil hs2) (hs.trans (by rw [hs2]))) hs hs2) fun σ H R ⟨h, F, ρ, E, q⟩ => evD h F H σ ρ _ E (T.Al_mono (fun d p F1 H1 v s r => by
    refine evD h F1 H1 σ ρ _ (E.step s) (T.Al_mono ?_ (fun _ px => px.step E.z s) (T.Al_bind p))
    intro d2 p2 F2 H2 v2 s2 r2
    obtain ⟨i, rfl, p3⟩ := Al_toI (T.Al_bind p2)
    obtain ⟨j, rfl, p4⟩ := Al_toI (T.Al_bind p3)
    split at p4 <;> first | exact p4.elim | skip
    rename_i hj
    exact ⟨i, j, by rw [r.int_inv, r2.int_inv], hj, walk_rg (s.trans E.z s2) p4⟩) (fun _ x => x) (T.Al_bind q))
end
end PL
/-! PL8: zip, enumerate, ranges with a step; comprehensions. -/
namespace PL
open PySem PySem.Spec PyProof.Rows L2

section
variable {X : Cx} {W : WX} {k : Bool} {a b c e e' tg : Expr} {es : List Expr} {pos p : Pos} {ma mb mc : Env → T D} {ms : Env → T (List D)}

/-! ### range with a step -/
def stL (lo c : Int) (n : Nat) : List D := (List.range n).map fun i => .int (lo + (i : Nat) * c)
theorem stL_len {lo c : Int} {n : Nat} : (stL lo c n).length = n := by unfold stL; rw [List.length_map, List.length_range]
theorem stL_at {lo c : Int} {n i : Nat} (h : i < n) : (stL lo c n)[i]? = some (.int (lo + (i : Nat) * c)) := by
  unfold stL
  rw [List.getElem?_map, List.getElem?_range h]
  rfl
/-- range(i, j, -1) -/
def iRg3 (ma mb mc : Env → T D) : Env → T (List D) := fun ρ => (ma ρ).bind fun d => (mb ρ).bind fun d' => (mc ρ).bind fun d'' => (toI d).bind fun i => (toI d').bind fun j => (toI d'').bind fun c =>
  if -(2 ^ 62) ≤ i ∧ i < 2 ^ 62 ∧ -(2 ^ 62) ≤ j ∧ j < 2 ^ 62 ∧ c = -1 then .ret (stL i (-1) (i - j).toNat) else .bad
theorem di_rg3 (ha : DE X W a ma) (hb : DE X W b mb) (hc : DE X W c mc) (hg : Gl X "range") (hm : X.mg "range" = none) (hs : starEach [a, b, c] X.env = (false, eval a X.env) :: starEach [b, c] X.env := by rfl)
    (hs2 : starEach [b, c] X.env = (false, eval b X.env) :: starEach [c] X.env := by rfl) (hs3 : starEach [c] X.env = (false, eval c X.env) :: starEach [] X.env := by rfl) :
    DI X W k tg (.Call (.Name "range" p) [a, b, c] [] pos) (iRg3 ma mb mc) :=
  PI.imp (pi_range3 hg hm (pa_cons ha (pa_cons hb (pa_cons hc pa_nil hs3) hs2) hs) hs (by rw [hs2, hs3]; rfl)) fun σ H R ⟨h, F, ρ, E, q⟩ => evD h F H σ ρ _ E (T.Al_mono (fun d p F1 H1 v s r => by
    refine evD h F1 H1 σ ρ _ (E.step s) (T.Al_mono ?_ (fun _ px => px.step E.z s) (T.Al_bind p))
    intro d2 p2 F2 H2 v2 s2 r2
    have s12 := s.trans E.z s2
    refine evD h F2 H2 σ ρ _ (E.step s12) (T.Al_mono ?_ (fun _ px => px.step E.z s12) (T.Al_bind p2))
    intro d3 p3 F3 H3 v3 s3 r3
    obtain ⟨i, rfl, p4⟩ := Al_toI (T.Al_bind p3)
    obtain ⟨j, rfl, p5⟩ := Al_toI (T.Al_bind p4)
    obtain ⟨c, rfl, p6⟩ := Al_toI (T.Al_bind p5)
    split at p6 <;> first | exact p6.elim | skip
    rename_i hj
    obtain ⟨h1, h2, h3, h4, rfl⟩ := hj
    refine ⟨i, j, -1, (i - j).toNat, by rw [r.int_inv, r2.int_inv, r3.int_inv], RgC.neg h1 h2 h3 h4, ?_⟩
    have w := walk_rangeC (lo := i) (c := -1) (n := (i - j).toNat)
    refine p6 F3 H3 _ _ _ (s12.trans E.z s3) (by rw [stL_len]; exact w) (fun _ _ _ _ _ => trivial) fun i F2 H2 x H3 hi l z2 y => ?_
    obtain ⟨rfl, rfl⟩ := y
    rw [stL_len] at hi
    exact ⟨_, F2, stL_at hi, Step.refl z2, .int _⟩) (fun _ x => x) (T.Al_bind q))

/-! ### zip, enumerate -/
def zipL : List D → List D → List D
  | x :: xs, y :: ys => .tup [x, y] :: zipL xs ys
  | _, _ => []
theorem zipL_len : ∀ xs ys : List D, (zipL xs ys).length = min xs.length ys.length
  | [], _ => by simp [zipL]
  | _ :: _, [] => by simp [zipL]
  | x :: xs, y :: ys => by
    simp only [zipL, List.length_cons, zipL_len xs ys]
    omega
theorem zipL_at : ∀ {xs ys : List D} {i : Nat} {x y : D}, xs[i]? = some x → ys[i]? = some y → (zipL xs ys)[i]? = some (.tup [x, y])
  | [], _, _, _, _, h, _ => by simp at h
  | _ :: _, [], _, _, _, _, h => by simp at h
  | x :: xs, y :: ys, 0, _, _, h, h' => by
    cases h; cases h'; rfl
  | x :: xs, y :: ys, i + 1, _, _, h, h' => zipL_at (i := i) (xs := xs) (ys := ys) h h'
def dZip : D → D → Option (List D)
  | .lst xs, .lst ys => some (zipL xs ys)
  | .tup xs, .tup ys => some (zipL xs ys)
  | _, _ => none
theorem walk_zipT {K : PySem.W.Frag} {a b : Addr} {xs ys : List V} {n : Nat} (hn : n = min xs.length ys.length) : Walk (RZ.ItzT K a b) n (fun H => SqT K H a xs ∧ SqT K H b ys) (YPair (fun i => xs[i]?) (fun i => ys[i]?)) := by
  subst hn
  refine ⟨fun i _ hi q => ?_, fun _ q => ⟨xs, ys, q.1, q.2, by omega⟩, fun i H v H' _ q y => ?_⟩
  · have h1 : i < xs.length := by omega
    have h2 : i < ys.length := by omega
    exact ⟨xs, ys, xs[i], ys[i], q.1, q.2, by simp [h1], by simp [h2]⟩
  · obtain ⟨T, x, z, h1, h2, h3, h4, h5⟩ := y
    exact ⟨T, x, z, h1, h2, h3, h4 xs q.1, h5 ys q.2⟩
theorem ypair {C : Cn} {h : Option Hd} {F H2 H3 : Hp} {fx fy : Nat → Option V} {gx gy : Nat → Option D} {i : Nat} {x : V} (z : Fz C h F H2) (rx : ∀ v, fx i = some v → ∃ d, gx i = some d ∧ Rep C h F v d) (ry : ∀ v, fy i = some v → ∃ d, gy i = some d ∧ Rep C h F v d)
    (y : YPair fx fy i H2 x H3) : ∃ d d' F3, gx i = some d ∧ gy i = some d' ∧ Step C h F H2 F3 H3 ∧ Rep C h F3 x (.tup [d, d']) := by
  obtain ⟨T', v, u, rfl, n, rfl, e1, e2⟩ := y
  obtain ⟨d, g1, r1⟩ := rx v e1
  obtain ⟨d', g2, r2⟩ := ry u e2
  obtain ⟨s, r⟩ := Step.newT z n (.cons r1 (.cons r2 .nil))
  exact ⟨d, d', _, g1, g2, s, r⟩
def iZp (ms : Env → T (List D)) : Env → T (List D) := fun ρ => (ms ρ).bind fun l => match l with
  | [x, y] => .opt (dZip x y)
  | _ => .bad
theorem di_zip {elts : List Expr} {kk : Nat} {tpos : Pos} (ha : DA X W [e, e'] ms) (hg : Gl X "zip") (hm : X.mg "zip" = none) (hs : starEach [e, e'] X.env = (false, eval e X.env) :: starEach [e'] X.env := by rfl) (hpl : (backTo pos (starEach [e'] X.env)).any (·.1) = false := by rfl) :
    DI X W k (.Tuple elts kk tpos) (.Call (.Name "zip" p) [e, e'] [] pos) (iZp ms) :=
  PI.imp (RZ.pi_zipA hg hm ha hs hpl) fun σ H R ⟨h, F, ρ, E, q⟩ => evA h F H σ ρ _ E (T.Al_mono (fun l pp F1 H1 vs s r => by
    split at pp <;> first | exact pp.elim | skip
    cases r with
    | cons r1 r' =>
    cases r' with
    | cons r2 r' =>
    cases r'
    obtain ⟨ds, e, p2⟩ := T.Al_opt pp
    unfold dZip at e
    split at e
    · cases e
      cases r1 with
      | lst e1 q1 =>
      cases r2 with
      | lst e2 q2 =>
      refine ⟨_, _, _, _, rfl, .inl ⟨SqL.of (s.z.le _ _ e1), SqL.of (s.z.le _ _ e2), p2 F1 H1 _ _ _ s (walk_zip (by rw [zipL_len, q1.length, q2.length])) (fun F2 H2 l z2 _ => ⟨SqL.of (z2.le _ _ (l _ _ e1)), SqL.of (z2.le _ _ (l _ _ e2))⟩) fun i F2 H2 x H3 hi l z2 y => ?_⟩⟩
      obtain ⟨d, d', F3, g1, g2, s3, r3⟩ := ypair z2 (fun v e => (q1.mono l).get' e) (fun v e => (q2.mono l).get' e) y
      exact ⟨_, F3, zipL_at g1 g2, s3, r3⟩
    · cases e
      cases r1 with
      | tup e1 q1 =>
      cases r2 with
      | tup e2 q2 =>
      refine ⟨_, _, _, _, rfl, .inr ⟨s.z.le.sqT e1, s.z.le.sqT e2, p2 F1 H1 _ _ _ s (walk_zipT (by rw [zipL_len, q1.length, q2.length])) (fun F2 H2 l z2 _ => ⟨z2.le.sqT (l.sqT e1), z2.le.sqT (l.sqT e2)⟩) fun i F2 H2 x H3 hi l z2 y => ?_⟩⟩
      obtain ⟨d, d', F3, g1, g2, s3, r3⟩ := ypair z2 (fun v e => (q1.mono l).get' e) (fun v e => (q2.mono l).get' e) y
      exact ⟨_, F3, zipL_at g1 g2, s3, r3⟩
    · cases e) (fun _ x => x) (T.Al_bind q))
def enumL (i : Nat) : List D → List D
  | [] => []
  | d :: ds => .tup [.int i, d] :: enumL (i + 1) ds
theorem enumL_len : ∀ (ds : List D) (i : Nat), (enumL i ds).length = ds.length
  | [], _ => rfl
  | d :: ds, i => by simp only [enumL, List.length_cons, enumL_len ds (i + 1)]
theorem enumL_at : ∀ {ds : List D} {i j : Nat} {d : D}, ds[j]? = some d → (enumL i ds)[j]? = some (.tup [.int ((i + j : Nat) : Int), d])
  | [], _, _, _, h => by simp at h
  | d :: ds, i, 0, _, h => by cases h; rfl
  | d :: ds, i, j + 1, _, h => by
    have := enumL_at (ds := ds) (i := i + 1) (j := j) h
    rw [show i + 1 + j = i + (j + 1) by omega] at this
    exact this
def dEnum : D → Option (List D)
  | .lst xs => some (enumL 0 xs)
  | _ => none
def iEn (m : Env → T D) : Env → T (List D) := fun ρ => (m ρ).bind fun d => .opt (dEnum d)
theorem di_enum {elts : List Expr} {kk : Nat} {tpos : Pos} (ha : DE X W e ma) (hg : Gl X "enumerate") (hm : X.mg "enumerate" = none) (hs : starEach [e] X.env = [(false, eval e X.env)] := by rfl) :
    DI X W k (.Tuple elts kk tpos) (.Call (.Name "enumerate" p) [e] [] pos) (iEn ma) :=
  PI.imp (pi_enum hg hm (pa_cons ha pa_nil hs) hs) fun σ H R ⟨h, F, ρ, E, q⟩ => evD h F H σ ρ _ E (T.Al_mono (fun d pp F1 H1 v s r => by
    obtain ⟨ds, e, p2⟩ := T.Al_opt pp
    unfold dEnum at e
    split at e <;> first | cases e | skip
    cases r with
    | lst e1 q1 =>
    refine ⟨_, _, rfl, SqL.of (s.z.le _ _ e1), p2 F1 H1 _ _ _ s (by rw [enumL_len, ← q1.length]; exact walk_enum) (fun F2 H2 l z2 _ => SqL.of (z2.le _ _ (l _ _ e1))) fun i F2 H2 x H3 hi l z2 y => ?_⟩
    obtain ⟨d, d', F3, g1, g2, s3, r3⟩ := ypair (gx := fun i => some (.int (i : Nat))) z2 (fun v e => by cases e; exact ⟨_, rfl, .int _⟩) (fun v e => (q1.mono l).get' e) y
    cases g1
    refine ⟨_, F3, ?_, s3, r3⟩
    have := enumL_at (i := 0) g2
    rw [Nat.zero_add] at this
    exact this) (fun _ x => x) (T.Al_bind q))
end

/-! ### comprehensions -/
def T.ne {α : Type} : T α → T α
  | .ret a => .ret a
  | .err _ => .bad
  | .bad => .bad
  | .draw n k => .draw n fun i => (k i).ne
theorem T.Al_ne {α : Type} {P : α → Prop} {R : Exn → Prop} : ∀ {t : T α}, t.ne.Al P R → t.Al P (fun _ => False)
  | .ret _, h => h
  | .err _, h => h
  | .bad, h => h
  | .draw _ k, h => ⟨h.1, h.2.1, fun i h0 h1 => T.Al_ne (t := k i) (h.2.2 i h0 h1)⟩
def wipeR (ρ : Env) : List Nat → Env
  | [] => ρ
  | i :: vs => (wipeR ρ vs).set i .un
def lcGo (mg : D → Env → Option Env) (mc : Env → T Bool) (me : Env → T D) (ρ : Env) : List D → T (List D)
  | [] => .ret []
  | d :: ds => match mg d ρ with
    | none => .bad
    | some ρ1 => (mc ρ1).ne.bind fun k => if k = true then (me ρ1).ne.bind fun y => (lcGo mg mc me ρ ds).bind fun ys => .ret (y :: ys) else lcGo mg mc me ρ ds
def eLc (vs : List Nat) (mi : Env → T (List D)) (mg : D → Env → Option Env) (mc : Env → T Bool) (me : Env → T D) : Env → T (List D) := fun ρ => (mi ρ).bind fun ds => if ds.length ≤ 16777216 then lcGo mg mc me (wipeR ρ vs) ds else .bad
def bYes : Env → T Bool := fun _ => .ret true
abbrev W0 : WX := fun _ _ _ _ => False
def DTs (X : Cx) (W : WX) (ifs : List Expr) (m : Env → T Bool) : Prop := PTs X ifs (tTB (cn X) W m)
section
variable {C : Cn} {h : Option Hd} {F H : Hp} {σ : L2.St} {ρ : Env}
theorem isOwn_un {l : Env} {i j : Nat} (h : isOwn (l.set i .un)[j]? = true) : j ≠ i ∧ isOwn l[j]? = true := by
  by_cases e : j = i
  · subst e
    rw [List.getElem?_set_self'] at h
    cases q : l[j]? with
    | none => rw [q] at h; cases h
    | some s => rw [q] at h; cases h
  · exact ⟨e, by rw [List.getElem?_set_ne (Ne.symm e)] at h; exact h⟩
theorem EnvE.unset {i : Nat} (E : EnvE C h F H σ ρ) : EnvE C h F H (σ.set i none) (ρ.set i .un) := by
  refine ⟨E.z, fun j s e => ?_, by rw [List.length_set, List.length_set]; exact E.len, fun j k a hjk h1 h2 e1 e2 => ?_⟩
  · by_cases hj : j = i
    · subst hj
      have hl : j < ρ.length := by
        by_cases q : j < ρ.length
        · exact q
        · rw [List.getElem?_eq_none_iff.mpr (by rw [List.length_set]; omega)] at e
          cases e
      rw [List.getElem?_set_self hl] at e
      cases e
      trivial
    · rw [List.getElem?_set_ne (Ne.symm hj)] at e
      have := E.slots j s e
      cases s with
      | un => trivial
      | d x => obtain ⟨v', e1, r1⟩ := this; exact ⟨v', by rw [List.getElem?_set_ne (Ne.symm hj)]; exact e1, r1⟩
      | own x => obtain ⟨v', e1, r1⟩ := this; exact ⟨v', by rw [List.getElem?_set_ne (Ne.symm hj)]; exact e1, r1⟩
      | ownD x => obtain ⟨v', e1, r1⟩ := this; exact ⟨v', by rw [List.getElem?_set_ne (Ne.symm hj)]; exact e1, r1⟩
      | scr x => obtain ⟨v', e1, r1⟩ := this; exact ⟨v', by rw [List.getElem?_set_ne (Ne.symm hj)]; exact e1, r1⟩
      | pin x => obtain ⟨y, e0, l0, e1, r1⟩ := this; exact ⟨y, e0, l0, by rw [List.getElem?_set_ne (Ne.symm hj)]; exact e1, r1⟩
  · obtain ⟨n1, o1⟩ := isOwn_un h1
    obtain ⟨n2, o2⟩ := isOwn_un h2
    rw [List.getElem?_set_ne (Ne.symm n1)] at e1
    rw [List.getElem?_set_ne (Ne.symm n2)] at e2
    exact E.dist j k a hjk o1 o2 e1 e2
theorem EnvE.wipe (E : EnvE C h F H σ ρ) : ∀ vs : List Nat, EnvE C h F H (L2.wipe σ vs) (wipeR ρ vs)
  | [] => E
  | i :: vs => (E.wipe vs).unset
theorem wipe_in {i : Nat} (τ : L2.St) : ∀ ws : List Nat, i ∈ ws → (L2.wipe τ ws)[i]? = if i < τ.length then some none else none
  | [], h => by cases h
  | j :: ws, hm => by
    show ((L2.wipe τ ws).set j none)[i]? = _
    by_cases hj : j = i
    · subst hj
      by_cases hlt : j < τ.length
      · rw [if_pos hlt, List.getElem?_set_self (by rw [L2.wipe_length]; exact hlt)]
      · rw [if_neg hlt, List.getElem?_eq_none_iff.mpr (by rw [List.length_set, L2.wipe_length]; omega)]
    · rw [List.getElem?_set_ne hj]
      exact wipe_in τ ws (by rcases List.mem_cons.mp hm with e | e; exact absurd e.symm hj; exact e)
theorem wipe_eq {σ σ' : L2.St} {vs : List Nat} (hl : σ'.length = σ.length) (hh : ∀ (i : Nat), i ∉ vs → σ'[i]? = σ[i]?) : L2.wipe σ' vs = L2.wipe σ vs := by
  apply List.ext_getElem?
  intro i
  by_cases hi : i ∈ vs
  · rw [wipe_in σ' vs hi, wipe_in σ vs hi, hl]
  · rw [L2.wipe_out hi, L2.wipe_out hi, hh i hi]
theorem wipe_wipe (σ : L2.St) (vs : List Nat) : L2.wipe (L2.wipe σ vs) vs = L2.wipe σ vs := by
  apply List.ext_getElem?
  intro i
  by_cases hi : i ∈ vs
  · rw [wipe_in _ vs hi, wipe_in σ vs hi, L2.wipe_length]
  · rw [L2.wipe_out hi]
theorem Step.stays {F1 H1 F2 H2 : Hp} {L : Addr} {o : HO} (s : Step C h F1 H1 F2 H2) (f : F1 L = none) (e : H1 L = some o) : F2 L = none := by
  cases q : F2 L with
  | none => rfl
  | some u =>
    have := s.new L f (by rw [q]; exact fun z => nomatch z)
    rw [this] at e
    cases e
theorem Step.mut {F1 H1 F2 H2 : Hp} {L : Addr} {o : HO} (s : Step C h F1 H1 F2 H2) (n : H1 L = none) (f : F2 L = none) (nh : NotHand h L) : Step C h F1 H1 F2 (upd H2 L o) where
  f := s.f
  new := s.new
  keep := fun a u na e => by
    rw [upd_ne (ne_of_none e n)]
    exact s.keep a u na e
  z := ⟨fun a u e => by
    rw [upd_ne (ne_of_none e f)]
    exact s.z.le a u e, fun x hx => by
    obtain ⟨h1, c, h2, i, g, y, m, h3⟩ := s.z.hand x hx
    exact ⟨h1, c, h2, i, g, y, m, by rw [upd_ne (nh x hx).symm]; exact h3⟩⟩
end
theorem ev_lc {C : Cn} {W : WX} {k : Bool} {mi : Env → T (List D)} {js vs : List Nat} {mg : D → Env → Option Env} {mc : Env → T Bool} {me : Env → T D} (hk : k = true) (hv : ∀ i, i ∈ js → i ∈ vs) :
    EvO C W (tLc (tI C W k mi) (tG C js mg) (tTB C W0 mc) (tD C W0 me) vs) (eLc vs mi mg mc me) := fun h F H σ ρ Q E q => by
  refine ⟨h, F, ρ, E, T.Al_mono ?_ (fun _ x => x) (T.Al_bind q)⟩
  intro ds p F1 H1 J G Y s1 w hG hY
  split at p <;> first | exact p.elim | skip
  rename_i hlen
  intro L hL
  have E1 := E.step s1
  have p : (lcGo mg mc me (wipeR ρ vs) ds).Al (PO C h F1 H1 Q) (PX C W h σ F1 H1) := T.Al_mono (fun _ x => PO.step E.z s1 x) (fun _ x => PX.step E.z s1 x) p
  refine lc_it w (fun i H2 => ∃ F2 xs acc, Step C h F1 H1 F2 H2 ∧ H2 L = some (.lst xs) ∧ F2 L = none ∧ Reps C h F2 xs acc ∧ xs.length ≤ i ∧ (lcGo mg mc me (wipeR ρ vs) (ds.drop i)).Al (fun ys => PO C h F1 H1 Q (acc ++ ys)) (PX C W h σ F1 H1))
    ⟨F1, [], [], Step.made s1.z hL, upd_same, s1.z.le.nn hL, .nil, Nat.zero_le _, by simpa using p⟩ (fun i H2 hi ⟨F2, xs, acc, st, _⟩ => hG F2 H2 st.f st.z fun _ a o n e => st.keep a o n e) ?_ ?_
  · intro i x H2 H3 hi ⟨F2, xs, acc, st, eL, fL, rA, hx, pr⟩ hy
    obtain ⟨d, F3, ed, s3, r3⟩ := hY i F2 H2 x H3 hi st.f st.z hy
    have st3 := st.trans s1.z s3
    rw [List.drop_eq_getElem?_toList_append, ed] at pr
    have pr : (lcGo mg mc me (wipeR ρ vs) (d :: ds.drop (i + 1))).Al _ _ := pr
    unfold lcGo at pr
    split at pr <;> first | exact pr.elim | skip
    rename_i ρ1 e1
    refine ⟨h, F3, wipeR ρ vs, d, ρ1, (E1.step st3).wipe vs, r3, e1, fun σ1 kp E3 => ⟨?_, ?_⟩⟩
    · rw [wipe_eq kp.len fun i hi => kp.out i fun q => hi (hv i q)]
      exact wipe_wipe σ vs
    · refine ⟨h, F3, ρ1, E3, T.Al_mono ?_ (fun _ x => x.elim) (T.Al_ne (T.Al_bind pr))⟩
      intro b pb F4 H4 s4
      have nL : NotHand h L := NotHand.new s1.z hL
      have eL3 := s3.keep L _ nL eL
      have fL3 := s3.stays fL eL
      have eL4 := s4.keep L _ nL eL3
      have fL4 := s4.stays fL3 eL3
      have st4 := st3.trans s1.z s4
      have rA4 : Reps C h F4 xs acc := (rA.mono s3.f).mono s4.f
      cases b with
      | false =>
        rw [if_neg Bool.false_ne_true] at pb ⊢
        exact ⟨F4, xs, acc, st4, eL4, fL4, rA4, by omega, pb⟩
      | true =>
        rw [if_pos rfl] at pb ⊢
        refine ⟨h, F4, ρ1, E3.step s4, T.Al_mono ?_ (fun _ x => x.elim) (T.Al_ne (T.Al_bind pb))⟩
        intro y py F5 H5 v s5 r5
        have eL5 := s5.keep L _ nL eL4
        have fL5 := s5.stays fL4 eL4
        refine ⟨xs, eL5, by rw [sizeLine_eq]; omega, F5, xs ++ [v], acc ++ [y], (st4.trans s1.z s5).mut hL fL5 nL, upd_same, fL5, (rA4.mono s5.f).append (.one r5), by rw [List.length_append]; simp only [List.length_cons, List.length_nil]; omega, ?_⟩
        refine T.Al_mono (fun ys q => ?_) (fun _ x => x) (T.Al_map py)
        rw [List.append_assoc]
        exact q
  · intro H2 ⟨F2, xs, acc, st, eL, fL, rA, hx, pr⟩
    rw [List.drop_length] at pr
    have pr : PO C h F1 H1 Q (acc ++ []) := pr
    rw [List.append_nil] at pr
    exact pr F2 H2 L st hL ⟨fL, NotHand.new s1.z hL, xs, eL, rA⟩
end PL
/-! PL9: statements, defs. -/
namespace PL
open PySem PySem.Spec PyProof.Rows L2

section
variable {X : Cx} {W : WX} {e elt iter tg : Expr} {ifs : List Expr} {pos : Pos} {js : List Nat} {mi : Env → T (List D)} {mg : D → Env → Option Env} {mc : Env → T Bool} {me : Env → T D}
theorem dts_nil : DTs X W [] bYes := ⟨fun pins s σ H Q I ⟨h, F, ρ, E, q⟩ => pts_nil.run pins s σ H Q I (q F H (Step.refl E.z))⟩
theorem dts_one (h : DB X W e mc) : DTs X W [e] mc := pts_one h
theorem do_lc {scope : Scope} {own : List (Str × Nat)} (hc : X.calm = true) (hN : X.N.Nodup) (hi : DI X W true tg iter mi) (ok : BlkOk X.N X.env.scope scope own)
    (hg : ∀ (s : Shared) (H : Hp) (C : Addr) (cl : List (Str × Addr)) (fp : List Addr), DG (X.blk s H scope (compEnvC scope cl C X.env) fp) tg js mg) (ht : ∀ (s : Shared) (H : Hp) (C : Addr) (cl : List (Str × Addr)) (fp : List Addr), DTs (X.blk s H scope (compEnvC scope cl C X.env) fp) W0 ifs mc)
    (he : ∀ (s : Shared) (H : Hp) (C : Addr) (cl : List (Str × Addr)) (fp : List Addr), DE (X.blk s H scope (compEnvC scope cl C X.env) fp) W0 elt me) (hs : ∀ x, foldedSetIterable iter X.env x = pure x := by intro _; rfl) (hv : (js.all fun i => (own.map (·.2)).contains i) = true := by rfl) :
    DO X W (.ListComp elt [⟨tg, iter, ifs, 0⟩] scope pos) (eLc (own.map (·.2)) mi mg mc me) :=
  DO.of (pe_lc (g := tG (cn X) js mg) (tt := tTB (cn X) W0 mc) (te := tD (cn X) W0 me) hc hN hi ok hg ht he hs) (ev_lc rfl fun i hi => by
    have := List.all_eq_true.mp hv i hi
    exact List.contains_iff_mem.mp this)
end

/-! ### statements -/
inductive Fl where
  | nx (ρ : Env) | rt (r : Rv) (ρ : Env) | bk (ρ : Env) | ct (ρ : Env)
structure EnvS (C : Cn) (h : Option Hd) (F0 H0 F H : Hp) (σ : L2.St) (ρ : Env) : Prop where
  e : EnvE C h F H σ ρ
  st : Step C h F0 H0 F H
  z0 : Fz C h F0 H0
  own : ∀ (i : Nat) (a : Addr), isOwn ρ[i]? = true → σ[i]? = some (some (.ref a)) → H0 a = none
def PNx (C : Cn) (h : Option Hd) (F0 H0 Fs : Hp) (N : L2.St → Hp → Prop) (ρ : Env) : Prop := ∀ F H σ, Le Fs F → EnvS C h F0 H0 F H σ ρ → N σ H
def PRS (C : Cn) (h : Option Hd) (F0 H0 Fs : Hp) (Q : VK) (r : Rv) (ρ : Env) : Prop := match r with
  | .d x => ∀ F H σ v, Le Fs F → EnvS C h F0 H0 F H σ ρ → Rep C h F v x → Q v H
  | .own ds => ∀ F H σ a, Le Fs F → EnvS C h F0 H0 F H σ ρ → H0 a = none → OwnL C h F H a ds → Q (.ref a) H
  | .ownD ds => ∀ F H σ a, Le Fs F → EnvS C h F0 H0 F H σ ρ → H0 a = none → OwnD C h F H a ds → Q (.ref a) H
def PFl (C : Cn) (h : Option Hd) (F0 H0 Fs : Hp) (N : Ends) : Fl → Prop
  | .nx ρ => PNx C h F0 H0 Fs N.nx ρ
  | .bk ρ => PNx C h F0 H0 Fs N.bk ρ
  | .ct ρ => PNx C h F0 H0 Fs N.ct ρ
  | .rt r ρ => PRS C h F0 H0 Fs N.rt r ρ
def PXS (C : Cn) (W : WX) (h : Option Hd) (F0 H0 : Hp) (x : Exn) : Prop := ∀ F' H' σ', Step C h F0 H0 F' H' → ErrK C W h σ' F' H' x
def tS (C : Cn) (W : WX) (m : Env → T Fl) : TS := fun N σ H => ∃ h F0 H0 F ρ, EnvS C h F0 H0 F H σ ρ ∧ (m ρ).Al (PFl C h F0 H0 F N) (PXS C W h F0 H0)
def DS (X : Cx) (W : WX) (st : Stmt) (m : Env → T Fl) : Prop := PS X st (tS (cn X) W m)
def DSs (X : Cx) (W : WX) (sts : List Stmt) (m : Env → T Fl) : Prop := PSs X sts (tS (cn X) W m)
section
variable {C : Cn} {h : Option Hd} {F0 H0 F H F' H' : Hp} {σ : L2.St} {ρ : Env} {W : WX}
theorem PFl.mono {N : Ends} (l : Le F F') : ∀ {f : Fl}, PFl C h F0 H0 F N f → PFl C h F0 H0 F' N f
  | .nx _, p => fun _ _ _ l' E => p _ _ _ (l.trans l') E
  | .bk _, p => fun _ _ _ l' E => p _ _ _ (l.trans l') E
  | .ct _, p => fun _ _ _ l' E => p _ _ _ (l.trans l') E
  | .rt (.d _) _, p => fun _ _ _ _ l' E => p _ _ _ _ (l.trans l') E
  | .rt (.own _) _, p => fun _ _ _ _ l' E => p _ _ _ _ (l.trans l') E
  | .rt (.ownD _) _, p => fun _ _ _ _ l' E => p _ _ _ _ (l.trans l') E
theorem EnvS.step (E : EnvS C h F0 H0 F H σ ρ) (s : Step C h F H F' H') : EnvS C h F0 H0 F' H' σ ρ := ⟨E.e.step s, E.st.trans E.z0 s, E.z0, E.own⟩
theorem PXS.px {x : Exn} (E : EnvS C h F0 H0 F H σ ρ) (p : PXS C W h F0 H0 x) : PX C W h σ F H x := fun F' H' s => p F' H' σ (E.st.trans E.z0 s)
theorem EnvS.kp {σ' : L2.St} {ρ' : Env} {js : List Nat} (E : EnvS C h F0 H0 F H σ ρ) (k : Kp js σ ρ σ' ρ') (E' : EnvE C h F H σ' ρ') : EnvS C h F0 H0 F H σ' ρ' := ⟨E', E.st, E.z0, fun i a h1 h2 => by
  obtain ⟨h3, h4⟩ := k.own i h1
  exact E.own i a h3 (h4.symm.trans h2)⟩
theorem isOwn_at {l : Env} {i j : Nat} {s : Sl} (h : isOwn (l.set i s)[j]? = true) : j = i ∨ (j ≠ i ∧ isOwn l[j]? = true) := by
  by_cases e : j = i
  · exact .inl e
  · exact .inr ⟨e, by rw [List.getElem?_set_ne (Ne.symm e)] at h; exact h⟩
theorem SlOk.ne {i j : Nat} {s : Sl} {F H : Hp} {v : Option V} (hj : j ≠ i) (q : SlOk C h F H σ j s) : SlOk C h F H (σ.set i v) j s := by
  cases s with
  | un => trivial
  | d x => obtain ⟨v', e1, r1⟩ := q; exact ⟨v', by rw [List.getElem?_set_ne (Ne.symm hj)]; exact e1, r1⟩
  | own x => obtain ⟨v', e1, r1⟩ := q; exact ⟨v', by rw [List.getElem?_set_ne (Ne.symm hj)]; exact e1, r1⟩
  | ownD x => obtain ⟨v', e1, r1⟩ := q; exact ⟨v', by rw [List.getElem?_set_ne (Ne.symm hj)]; exact e1, r1⟩
  | scr x => obtain ⟨v', e1, r1⟩ := q; exact ⟨v', by rw [List.getElem?_set_ne (Ne.symm hj)]; exact e1, r1⟩
  | pin x => obtain ⟨y, e0, l0, e1, r1⟩ := q; exact ⟨y, e0, l0, by rw [List.getElem?_set_ne (Ne.symm hj)]; exact e1, r1⟩
theorem set_at {i j : Nat} {s s' : Sl} (e : (ρ.set i s)[j]? = some s') : (j = i ∧ i < ρ.length ∧ s' = s) ∨ (j ≠ i ∧ ρ[j]? = some s') := by
  by_cases hj : j = i
  · subst hj
    have hl : j < ρ.length := by
      by_cases q : j < ρ.length
      · exact q
      · rw [List.getElem?_eq_none_iff.mpr (by rw [List.length_set]; omega)] at e
        cases e
    rw [List.getElem?_set_self hl] at e
    cases e
    exact .inl ⟨rfl, hl, rfl⟩
  · rw [List.getElem?_set_ne (Ne.symm hj)] at e
    exact .inr ⟨hj, e⟩
theorem own_addr {F H : Hp} {i : Nat} {a : Addr} (E : EnvE C h F H σ ρ) (o : isOwn ρ[i]? = true) (e : σ[i]? = some (some (.ref a))) : F a = none ∧ NotHand h a ∧ ∃ u, H a = some u := by
  cases q : ρ[i]? with
  | none => rw [q] at o; cases o
  | some s =>
    have := E.slots i s q
    rw [q] at o
    cases s with
    | un => cases o
    | d _ => cases o
    | own ds =>
      obtain ⟨b, e1, f, n, xs, h1, _⟩ := this
      rw [e] at e1
      cases e1
      exact ⟨f, n, _, h1⟩
    | ownD ds =>
      obtain ⟨b, e1, f, n, xs, h1, _⟩ := this
      rw [e] at e1
      cases e1
      exact ⟨f, n, _, h1⟩
    | scr _ => cases o
    | pin ds =>
      obtain ⟨y, e0, l0, e1, f, n, xs, h1, _⟩ := this
      rw [e] at e1
      cases e1
      exact ⟨f, n, _, h1⟩
/-- a new object of one's own, stored -/
theorem EnvS.setOwn {i : Nat} {a : Addr} {s : Sl} (E : EnvS C h F0 H0 F H σ ρ) (st : Step C h F H F' H') (n : H a = none) (hs : ∀ τ : L2.St, τ[i]? = some (some (.ref a)) → SlOk C h F' H' τ i s) : EnvS C h F0 H0 F' H' (σ.set i (some (.ref a))) (ρ.set i s) := by
  have E1 := E.step st
  have old : ∀ j b, j ≠ i → isOwn ρ[j]? = true → σ[j]? = some (some (.ref b)) → b ≠ a := fun j b _ o e q => by
    obtain ⟨_, _, u, hu⟩ := own_addr E.e o e
    rw [q, n] at hu
    cases hu
  refine ⟨⟨E1.e.z, fun j s' e => ?_, by rw [List.length_set, List.length_set]; exact E.e.len, fun j k b hjk h1 h2 e1 e2 => ?_⟩, E1.st, E.z0, fun j b h1 e1 => ?_⟩
  · rcases set_at e with ⟨rfl, hl, rfl⟩ | ⟨hj, e⟩
    · exact hs _ (List.getElem?_set_self (by rw [E.e.len]; exact hl))
    · exact (E1.e.slots j s' e).ne hj
  · rcases isOwn_at h1 with rfl | ⟨n1, o1⟩
    · rcases isOwn_at h2 with rfl | ⟨n2, o2⟩
      · exact hjk rfl
      · rw [List.getElem?_set_ne (Ne.symm n2)] at e2
        rw [List.getElem?_set] at e1
        simp only [if_true] at e1
        split at e1 <;> cases e1
        exact old k _ n2 o2 e2 rfl
    · rw [List.getElem?_set_ne (Ne.symm n1)] at e1
      rcases isOwn_at h2 with rfl | ⟨n2, o2⟩
      · rw [List.getElem?_set] at e2
        simp only [if_true] at e2
        split at e2 <;> cases e2
        exact old j _ n1 o1 e1 rfl
      · rw [List.getElem?_set_ne (Ne.symm n2)] at e2
        exact E.e.dist j k b hjk o1 o2 e1 e2
  · rcases isOwn_at h1 with rfl | ⟨n1, o1⟩
    · rw [List.getElem?_set] at e1
      simp only [if_true] at e1
      split at e1 <;> cases e1
      exact E.st.back E.z0 n
    · rw [List.getElem?_set_ne (Ne.symm n1)] at e1
      exact E.own j b o1 e1
/-- an object of one's own, changed -/
theorem EnvS.mutOwn {i : Nat} {a : Addr} {o : HO} {s0 s : Sl} (E : EnvS C h F0 H0 F H σ ρ) (e0 : ρ[i]? = some s0) (o0 : isOwn (some s0) = true) (ea : σ[i]? = some (some (.ref a))) (hs : SlOk C h F (upd H a o) σ i s) (os : isOwn (some s) = true) :
    EnvS C h F0 H0 F (upd H a o) σ (ρ.set i s) := by
  obtain ⟨fa, na, u, hu⟩ := own_addr E.e (by rw [e0]; exact o0) ea
  have n0 := E.own i a (by rw [e0]; exact o0) ea
  have hl : i < ρ.length := (List.getElem?_eq_some_iff.mp e0).1
  have st := E.st.mut (o := o) n0 fa na
  have os' : ∀ j, isOwn (ρ.set i s)[j]? = true → isOwn ρ[j]? = true := fun j hj => by
    rcases isOwn_at hj with rfl | ⟨_, q⟩
    · rw [e0]; exact o0
    · exact q
  refine ⟨⟨st.z, fun j s' e => ?_, by rw [List.length_set]; exact E.e.len, fun j k b hjk h1 h2 e1 e2 => E.e.dist j k b hjk (os' j h1) (os' k h2) e1 e2⟩, st, E.z0, fun j b h1 e1 => E.own j b (os' j h1) e1⟩
  rcases set_at e with ⟨rfl, _, rfl⟩ | ⟨hj, e⟩
  · exact hs
  · have := E.e.slots j s' e
    have far : ∀ b, isOwn (some s') = true → σ[j]? = some (some (.ref b)) → b ≠ a := fun b ob eb q => by
      subst q
      exact E.e.dist j i b hj (by rw [e]; exact ob) (by rw [e0]; exact o0) eb ea
    cases s' with
    | un => trivial
    | d x => exact this
    | own ds =>
      obtain ⟨b, eb, f, nb, xs, h1, r⟩ := this
      exact ⟨b, eb, f, nb, xs, by rw [upd_ne (far b rfl eb)]; exact h1, r⟩
    | ownD ds =>
      obtain ⟨b, eb, f, nb, xs, h1, r⟩ := this
      exact ⟨b, eb, f, nb, xs, by rw [upd_ne (far b rfl eb)]; exact h1, r⟩
    | scr _ => exact this
    | pin ds =>
      obtain ⟨y, e0', l0, eb, f, nb, xs, h1, r⟩ := this
      exact ⟨y, e0', l0, eb, f, nb, xs, by rw [upd_ne (far y.a rfl eb)]; exact h1, r⟩
end
def sNx : Env → T Fl := fun ρ => .ret (.nx ρ)
def goOn (n : Env → T Fl) : Fl → T Fl
  | .nx ρ => n ρ
  | f => .ret f
def sSeq (m n : Env → T Fl) : Env → T Fl := fun ρ => (m ρ).bind (goOn n)
section
variable {X : Cx} {W : WX} {e a b c tg iter : Expr} {es : List Expr} {st : Stmt} {rest sts : List Stmt} {pos : Pos} {m n : Env → T Fl} {me mb : Env → T D} {ml : Env → T (List D)} {mk : Env → T (List (D × D))} {i : Nat} {x : Str}
theorem PS.imp {t t' : TS} (p : PS X st t) (h : ∀ N σ H, t' N σ H → t N σ H) : PS X st t' := ⟨fun pins s σ H N I q => p.run pins s σ H N I (h _ _ _ q)⟩
theorem PSs.imp {t t' : TS} (p : PSs X sts t) (h : ∀ N σ H, t' N σ H → t N σ H) : PSs X sts t' := ⟨fun pins s σ H N I q => p.run pins s σ H N I (h _ _ _ q)⟩
theorem dss_nil : DSs X W [] sNx := PSs.imp pss_nil fun N σ H ⟨h, F0, H0, F, ρ, E, q⟩ => q F H σ (Le.refl _) E
theorem dss_cons (h1 : DS X W st m) (h2 : DSs X W rest n) : DSs X W (st :: rest) (sSeq m n) :=
  PSs.imp (pss_cons h1 h2) fun N σ H ⟨h, F0, H0, F, ρ, E, q⟩ => ⟨h, F0, H0, F, ρ, E, T.Al_mono (fun f p => by
    cases f with
    | nx ρ' => exact fun F' H' σ' l E' => ⟨h, F0, H0, F', ρ', E', T.Al_mono (fun _ => PFl.mono l) (fun _ x => x) p⟩
    | rt r _ => exact p
    | bk ρ' => exact p
    | ct ρ' => exact p) (fun _ x => x) (T.Al_bind q)⟩
theorem dss_one (h1 : DS X W st m) : DSs X W [st] m := pss_one h1
/-- where nothing is to be shown -/
def sBad : Env → T Fl := fun _ => .bad
theorem ds_bad : DS X W st sBad := ⟨fun pins s σ H N I ⟨h, F0, H0, F, ρ, E, q⟩ => q.elim⟩
theorem dss_bad : DSs X W sts sBad := ⟨fun pins s σ H N I ⟨h, F0, H0, F, ρ, E, q⟩ => q.elim⟩
/-- a list of one's own becomes plain -/
def frz (i : Nat) (ρ : Env) : Env := match ρ[i]? with
  | some (.own ds) => ρ.set i (.d (.lst ds))
  | some (.ownD kvs) => ρ.set i (.d (.dct kvs))
  | _ => ρ
def sFrz (i : Nat) (m : Env → T Fl) : Env → T Fl := fun ρ => m (frz i ρ)
theorem EnvS.frz {C : Cn} {h : Option Hd} {F0 H0 F H : Hp} {σ : L2.St} {ρ : Env} (E : EnvS C h F0 H0 F H σ ρ) (i : Nat) : ∃ F', Le F F' ∧ EnvS C h F0 H0 F' H σ (frz i ρ) := by
  have key : ∀ {s0 : Sl} {a : Addr} {o : HO} {d : D}, ρ[i]? = some s0 → isOwn (some s0) = true → σ[i]? = some (some (.ref a)) → H a = some o → Rep C h (upd F a o) (.ref a) d → ∃ F', Le F F' ∧ EnvS C h F0 H0 F' H σ (ρ.set i (.d d)) := fun {s0 a o d} e0 o0 ea ho r => by
    obtain ⟨fa, na, u, hu⟩ := own_addr E.e (by rw [e0]; exact o0) ea
    have n0 := E.own i a (by rw [e0]; exact o0) ea
    have st := E.st.freeze n0 fa na ho
    have os' : ∀ j, isOwn (ρ.set i (.d d))[j]? = true → j ≠ i ∧ isOwn ρ[j]? = true := fun j hj => by
      rcases isOwn_at hj with rfl | q
      · rw [List.getElem?_set_self'] at hj
        rw [e0] at hj
        cases hj
      · exact q
    refine ⟨upd F a o, Le.new fa, ⟨st.z, fun j s' e => ?_, by rw [List.length_set]; exact E.e.len, fun j k b hjk h1 h2 e1 e2 => E.e.dist j k b hjk (os' j h1).2 (os' k h2).2 e1 e2⟩, st, E.z0, fun j b h1 e1 => E.own j b (os' j h1).2 e1⟩
    rcases set_at e with ⟨rfl, _, rfl⟩ | ⟨hj, e⟩
    · exact ⟨.ref a, ea, r⟩
    · have := E.e.slots j s' e
      have far : ∀ b, isOwn (some s') = true → σ[j]? = some (some (.ref b)) → b ≠ a := fun b ob eb q => by
        subst q
        exact E.e.dist j i b hj (by rw [e]; exact ob) (by rw [e0]; exact o0) eb ea
      cases s' with
      | un => trivial
      | d x => obtain ⟨v, e1, r1⟩ := this; exact ⟨v, e1, r1.mono (Le.new fa)⟩
      | own ds =>
        obtain ⟨b, eb, f, nb, xs, h1, r⟩ := this
        exact ⟨b, eb, by rw [upd_ne (far b rfl eb)]; exact f, nb, xs, h1, r.mono (Le.new fa)⟩
      | ownD ds =>
        obtain ⟨b, eb, f, nb, xs, h1, r⟩ := this
        exact ⟨b, eb, by rw [upd_ne (far b rfl eb)]; exact f, nb, xs, h1, r.mono (Le.new fa)⟩
      | scr _ => obtain ⟨v, e1, r1⟩ := this; exact ⟨v, e1, (Le.new fa).sqL r1⟩
      | pin ds =>
        obtain ⟨y, e0', l0, eb, f, nb, xs, h1, r⟩ := this
        exact ⟨y, e0', l0, eb, by rw [upd_ne (far y.a rfl eb)]; exact f, nb, xs, h1, r.mono (Le.new fa)⟩
  unfold PL.frz
  split
  · rename_i ds e0
    obtain ⟨a, ea, fa, na, xs, h1, r⟩ := E.e.slots i _ e0
    exact key e0 rfl ea h1 (.lst upd_same (r.mono (Le.new fa)))
  · rename_i ds e0
    obtain ⟨a, ea, fa, na, xs, h1, r⟩ := E.e.slots i _ e0
    exact key e0 rfl ea h1 ((r.mono (Le.new fa)).rep upd_same)
  · exact ⟨F, Le.refl _, E⟩
theorem dss_frz (i : Nat) (h1 : DSs X W sts m) : DSs X W sts (sFrz i m) := PSs.imp h1 fun N σ H ⟨h, F0, H0, F, ρ, E, q⟩ => by
  obtain ⟨F', l, E'⟩ := E.frz i
  exact ⟨h, F0, H0, F', _, E', T.Al_mono (fun _ => PFl.mono l) (fun _ x => x) q⟩

def sAsg (g : D → Env → Option Env) (me : Env → T D) : Env → T Fl := fun ρ => (me ρ).bind fun d => match g d ρ with
  | some ρ' => .ret (.nx ρ')
  | none => .bad
theorem asg_reads {g : D → Env → Option Env} {js : List Nat} {N : Ends} {σ : L2.St} {H : Hp} (q : tS (cn X) W (sAsg g me) N σ H) : tAsg (tD (cn X) W me) (tG (cn X) js g) N σ H := by
  obtain ⟨h, F0, H0, F, ρ, E, q⟩ := q
  refine ⟨h, F, ρ, E.e, T.Al_mono (fun d p F' H' v s r => ?_) (fun _ x => x.px E) (T.Al_bind q)⟩
  split at p <;> first | exact p.elim | skip
  rename_i ρ' e1
  exact ⟨h, F', ρ, d, ρ', E.e.step s, r, e1, fun σ' k E' => p F' H' σ' s.f ((E.step s).kp k E')⟩
theorem ds_asg {g : D → Env → Option Env} {js : List Nat} (he : DE X W e me) (hg : DG X tg js g) (hs : swapsWithSole [tg] e pos.line X.env = pure false := by rfl) (hw : swappedStores [tg] e X.env = pure none := by rfl)
    (h1 : (assignEach [tg] X.env).map (·.2) = [assign tg X.env] := by rfl) : DS X W (.Assign [tg] e pos) (sAsg g me) := PS.imp (ps_asg he hg hs hw h1) fun N σ H q => asg_reads q
theorem ds_set (i : Nat) {pos' : Pos} (hN : X.N.Nodup) (he : DE X W e me) (hi : X.N[i]? = some x := by rfl) (hx : Loc X.env.scope x := by first | exact .inl rfl | exact .inr rfl) (hs : swapsWith e (some (.Name x pos')) pos.line X.env = pure false := by rfl)
    (hf : X.fn x = true ∨ X.env.scope.names.lookup x = some .local := by first | exact .inl rfl | exact .inr rfl) : DS X W (.Assign [.Name x pos'] e pos) (sAsg (gN i) me) :=
  PS.imp (ps_set hN hi hx he hs hf) fun N σ H q => by
    obtain ⟨h, F, ρ, E, q⟩ := asg_reads (js := [i]) q
    refine ⟨h, F, ρ, E, T.Al_mono (fun d p F' H' v s r => ?_) (fun _ x => x) q⟩
    obtain ⟨h', F2, ρ2, d2, ρ3, E2, r2, e2, q2⟩ := p F' H' v s r
    cases e2
    obtain ⟨k, E3⟩ := E2.set (i := i) r2
    exact q2 _ k E3
def sSetO (i : Nat) (ml : Env → T (List D)) : Env → T Fl := fun ρ => (ml ρ).bind fun ds => .ret (.nx (ρ.set i (.own ds)))
def sSetK (i : Nat) (mk : Env → T (List (D × D))) : Env → T Fl := fun ρ => (mk ρ).bind fun ds => .ret (.nx (ρ.set i (.ownD ds)))
theorem setO_reads {N : Ends} {σ : L2.St} {H : Hp} (q : tS (cn X) W (sSetO i ml) N σ H) : tAsg (tO (cn X) W ml) (gName i) N σ H := by
  obtain ⟨h, F0, H0, F, ρ, E, q⟩ := q
  exact ⟨h, F, ρ, E.e, T.Al_mono (fun ds p F' H' a s n o => p F' H' _ s.f (E.setOwn (a := a) s n fun τ e => ⟨a, e, o⟩)) (fun _ x => x.px E) (T.Al_bind q)⟩
theorem ds_setO (i : Nat) {pos' : Pos} (hN : X.N.Nodup) (he : DO X W e ml) (hi : X.N[i]? = some x := by rfl) (hx : Loc X.env.scope x := by first | exact .inl rfl | exact .inr rfl) (hs : swapsWith e (some (.Name x pos')) pos.line X.env = pure false := by rfl)
    (hf : X.fn x = true ∨ X.env.scope.names.lookup x = some .local := by first | exact .inl rfl | exact .inr rfl) : DS X W (.Assign [.Name x pos'] e pos) (sSetO i ml) :=
  PS.imp (ps_set hN hi hx he hs hf) fun N σ H q => setO_reads q
theorem ds_setK (i : Nat) {pos' : Pos} (hN : X.N.Nodup) (he : DOD X W e mk) (hi : X.N[i]? = some x := by rfl) (hx : Loc X.env.scope x := by first | exact .inl rfl | exact .inr rfl) (hs : swapsWith e (some (.Name x pos')) pos.line X.env = pure false := by rfl)
    (hf : X.fn x = true ∨ X.env.scope.names.lookup x = some .local := by first | exact .inl rfl | exact .inr rfl) : DS X W (.Assign [.Name x pos'] e pos) (sSetK i mk) :=
  PS.imp (ps_set hN hi hx he hs hf) fun N σ H ⟨h, F0, H0, F, ρ, E, q⟩ =>
    ⟨h, F, ρ, E.e, T.Al_mono (fun ds p F' H' a s n o => p F' H' _ s.f (E.setOwn (a := a) s n fun τ e => ⟨a, e, o⟩)) (fun _ x => x.px E) (T.Al_bind q)⟩
/-- name = [..], a local -/
theorem ds_setLc (i : Nat) {y : Str} {py spos : Pos} {elt tg iter : Expr} {ifs : List Expr} {scope : Scope} {own : List (Str × Nat)} {js : List Nat} {mi : Env → T (List D)} {mg : D → Env → Option Env} {mc : Env → T Bool} {me : Env → T D}
    (hc : X.calm = true) (hN : X.N.Nodup) (hsw : swapsWith (.ListComp elt [⟨tg, iter, ifs, 0⟩] scope pos) (some (.Name y py)) spos.line X.env = pure true) (hi : DI X W true tg iter mi) (ok : BlkOk X.N X.env.scope scope own)
    (hg : ∀ (s : Shared) (H : Hp) (C : Addr) (cl : List (Str × Addr)) (fp : List Addr), DG (X.blk s H scope (compEnvC scope cl C X.env) fp) tg js mg) (ht : ∀ (s : Shared) (H : Hp) (C : Addr) (cl : List (Str × Addr)) (fp : List Addr), DTs (X.blk s H scope (compEnvC scope cl C X.env) fp) W0 ifs mc)
    (he : ∀ (s : Shared) (H : Hp) (C : Addr) (cl : List (Str × Addr)) (fp : List Addr), DE (X.blk s H scope (compEnvC scope cl C X.env) fp) W0 elt me) (hy : X.N[i]? = some y := by rfl) (hyl : X.env.scope.names.lookup y = some .local := by rfl) (hs : ∀ x, foldedSetIterable iter X.env x = pure x := by intro _; rfl) (hv : (js.all fun i => (own.map (·.2)).contains i) = true := by rfl) :
    DS X W (.Assign [.Name y py] (.ListComp elt [⟨tg, iter, ifs, 0⟩] scope pos) spos) (sSetO i (eLc (own.map (·.2)) mi mg mc me)) :=
  PS.imp (ps_setLc (g := tG (cn X) js mg) (tt := tTB (cn X) W0 mc) (te := tD (cn X) W0 me) hc hN hy hyl hsw hi ok hg ht he hs) fun N σ H q => by
    obtain ⟨h, F, ρ, E, q⟩ := setO_reads q
    exact ev_lc rfl (fun i hi => by
      have := List.all_eq_true.mp hv i hi
      exact List.contains_iff_mem.mp this) h F H σ ρ _ E q

def sRet (me : Env → T D) : Env → T Fl := fun ρ => (me ρ).bind fun d => .ret (.rt (.d d) ρ)
def sRetO (ml : Env → T (List D)) : Env → T Fl := fun ρ => (ml ρ).bind fun d => .ret (.rt (.own d) ρ)
def sRetK (mk : Env → T (List (D × D))) : Env → T Fl := fun ρ => (mk ρ).bind fun d => .ret (.rt (.ownD d) ρ)
theorem ds_ret (he : DE X W e me) : DS X W (.Return (some e) pos) (sRet me) :=
  PS.imp (ps_ret he) fun N σ H ⟨h, F0, H0, F, ρ, E, q⟩ => ⟨h, F, ρ, E.e, T.Al_mono (fun d p F' H' v s r => p F' H' σ v s.f (E.step s) r) (fun _ x => x.px E) (T.Al_bind q)⟩
theorem ds_retO (he : DO X W e ml) : DS X W (.Return (some e) pos) (sRetO ml) :=
  PS.imp (ps_ret he) fun N σ H ⟨h, F0, H0, F, ρ, E, q⟩ => ⟨h, F, ρ, E.e, T.Al_mono (fun d p F' H' a s n o => p F' H' σ a s.f (E.step s) (E.st.back E.z0 n) o) (fun _ x => x.px E) (T.Al_bind q)⟩
theorem ds_retK (he : DOD X W e mk) : DS X W (.Return (some e) pos) (sRetK mk) :=
  PS.imp (ps_ret he) fun N σ H ⟨h, F0, H0, F, ρ, E, q⟩ => ⟨h, F, ρ, E.e, T.Al_mono (fun d p F' H' a s n o => p F' H' σ a s.f (E.step s) (E.st.back E.z0 n) o) (fun _ x => x.px E) (T.Al_bind q)⟩
/-- return name -/
def sRetV (i : Nat) : Env → T Fl := fun ρ => match ρ[i]? with
  | some (.d d) => .ret (.rt (.d d) ρ)
  | some (.own ds) => .ret (.rt (.own ds) ρ)
  | some (.ownD ds) => .ret (.rt (.ownD ds) ρ)
  | _ => .bad
theorem ds_retV (i : Nat) {px : Pos} (hN : X.N[i]? = some x := by rfl) (hv : Vis X.env.scope x := by first | exact Or.inl rfl | exact Or.inr (Or.inl rfl) | exact Or.inr (Or.inr rfl)) (hd : (x == ("__debug__" : Str)) = false := by decide)
    (hcd : (x == ("__classdict__" : Str)) = false := by decide) : DS X W (.Return (some (.Name x px)) pos) (sRetV i) :=
  PS.imp (ps_ret (pe_var hN hv hd hcd)) fun N σ H ⟨h, F0, H0, F, ρ, E, q⟩ => by
    unfold sRetV at q
    split at q
    · rename_i e0
      obtain ⟨v, e1, r⟩ := E.e.slots i _ e0
      exact ⟨v, e1, q F H σ v (Le.refl _) E r⟩
    · rename_i e0
      obtain ⟨a, e1, o⟩ := E.e.slots i _ e0
      exact ⟨.ref a, e1, q F H σ a (Le.refl _) E (E.own i a (by rw [e0]; rfl) e1) o⟩
    · rename_i e0
      obtain ⟨a, e1, o⟩ := E.e.slots i _ e0
      exact ⟨.ref a, e1, q F H σ a (Le.refl _) E (E.own i a (by rw [e0]; rfl) e1) o⟩
    · exact q.elim
def sRetN : Env → T Fl := fun ρ => .ret (.rt (.d .non) ρ)
theorem ds_retN : DS X W (.Return none pos) sRetN :=
  PS.imp ps_retN fun N σ H ⟨h, F0, H0, F, ρ, E, q⟩ => q F H σ .non (Le.refl _) E .non
theorem ds_pass : DS X W (.Pass pos) sNx := PS.imp ps_pass fun N σ H ⟨h, F0, H0, F, ρ, E, q⟩ => q F H σ (Le.refl _) E
def sBk : Env → T Fl := fun ρ => .ret (.bk ρ)
def sCt : Env → T Fl := fun ρ => .ret (.ct ρ)
theorem ds_break : DS X W (.Break pos) sBk := PS.imp ps_break fun N σ H ⟨h, F0, H0, F, ρ, E, q⟩ => q F H σ (Le.refl _) E
theorem ds_continue : DS X W (.Continue pos) sCt := PS.imp ps_continue fun N σ H ⟨h, F0, H0, F, ρ, E, q⟩ => q F H σ (Le.refl _) E
def sDrop (me : Env → T D) : Env → T Fl := fun ρ => (me ρ).bind fun _ => .ret (.nx ρ)
theorem ds_expr (he : DE X W e me) (hs : swapsWith e none pos.line X.env = pure false := by rfl) : DS X W (.Expr e pos) (sDrop me) :=
  PS.imp (ps_expr he hs) fun N σ H ⟨h, F0, H0, F, ρ, E, q⟩ => ⟨h, F, ρ, E.e, T.Al_mono (fun d p F' H' v s r => p F' H' σ s.f (E.step s)) (fun _ x => x.px E) (T.Al_bind q)⟩
def sIf (mc : Env → T Bool) (m n : Env → T Fl) : Env → T Fl := fun ρ => (mc ρ).bind fun k => if k = true then m ρ else n ρ
variable {mc : Env → T Bool}
theorem ds_if {xs ys : List Stmt} (hc : DB X W c mc) (ha : DSs X W xs m) (hb : DSs X W ys n) : DS X W (.If c xs ys pos) (sIf mc m n) :=
  PS.imp (ps_if hc ha hb) fun N σ H ⟨h, F0, H0, F, ρ, E, q⟩ => ⟨h, F, ρ, E.e, T.Al_mono (fun k p F' H' s => by
    cases k with
    | true =>
      rw [if_pos rfl] at p ⊢
      exact ⟨h, F0, H0, F', ρ, E.step s, T.Al_mono (fun _ => PFl.mono s.f) (fun _ x => x) p⟩
    | false =>
      rw [if_neg Bool.false_ne_true] at p ⊢
      exact ⟨h, F0, H0, F', ρ, E.step s, T.Al_mono (fun _ => PFl.mono s.f) (fun _ x => x) p⟩) (fun _ x => x.px E) (T.Al_bind q)⟩

/-! ### loops -/
def sForGo (g : D → Env → Option Env) (body : Env → T Fl) : List D → Env → T Fl
  | [], ρ => .ret (.nx ρ)
  | d :: ds, ρ => match g d ρ with
    | none => .bad
    | some ρ1 => (body ρ1).bind fun f => match f with
      | .nx ρ2 => sForGo g body ds ρ2
      | .ct ρ2 => sForGo g body ds ρ2
      | .bk ρ2 => .ret (.nx ρ2)
      | .rt r ρ2 => .ret (.rt r ρ2)
def sFor (mi : Env → T (List D)) (g : D → Env → Option Env) (body : Env → T Fl) : Env → T Fl := fun ρ => (mi ρ).bind fun ds => sForGo g body ds ρ
theorem ds_for {mi : Env → T (List D)} {g : D → Env → Option Env} {js : List Nat} {body : List Stmt} (hp : PassesOwn (model X.prog X.w) X.A X.env X.xe) (hc : X.calm = true) (hi : DI X W false tg iter mi) (hg : DG X tg js g) (hb : DSs X W body m) (hf : ∀ x, foldedSetIterable iter X.env x = pure x := by intro _; rfl) :
    DS X W (.For tg iter body [] pos) (sFor mi g m) :=
  PS.imp (ps_for hp hc hi hg hb hf) fun N σ H ⟨h, F0, H0, F, ρ, E, q⟩ => by
    refine ⟨h, F, ρ, E.e, T.Al_mono ?_ (fun _ x => x.px E) (T.Al_bind q)⟩
    intro ds p F1 H1 J G Y s1 w hG hY
    refine for_it w (D := N) (fun i σ2 H2 => ∃ F2 ρ2, EnvS (cn X) h F0 H0 F2 H2 σ2 ρ2 ∧ Le F1 F2 ∧ (sForGo g m (ds.drop i) ρ2).Al (PFl (cn X) h F0 H0 F2 N) (PXS (cn X) W h F0 H0))
      ⟨F1, ρ, E.step s1, Le.refl _, T.Al_mono (fun _ => PFl.mono s1.f) (fun _ x => x) (by simpa using p)⟩ (fun i σ2 H2 hi ⟨F2, ρ2, E2, l2, _⟩ => hG F2 H2 l2 E2.e.z (fun z => nomatch z)) ?_ ?_
    · intro i x σ2 H2 H3 hi ⟨F2, ρ2, E2, l2, pr⟩ hy
      obtain ⟨d, F3, ed, s3, r3⟩ := hY i F2 H2 x H3 hi l2 E2.e.z hy
      rw [List.drop_eq_getElem?_toList_append, ed] at pr
      have pr : (sForGo g m (d :: ds.drop (i + 1)) ρ2).Al _ _ := pr
      unfold sForGo at pr
      split at pr <;> first | exact pr.elim | skip
      rename_i ρ3 e3
      refine ⟨h, F3, ρ2, d, ρ3, E2.e.step s3, r3, e3, fun σ3 k3 E3 => ?_⟩
      refine ⟨h, F0, H0, F3, ρ3, (E2.step s3).kp k3 E3, T.Al_mono (fun f pf => ?_) (fun _ x => x) (T.Al_bind pr)⟩
      have l3 := s3.f
      cases f with
      | nx ρ4 => exact fun F4 H4 σ4 l4 E4 => ⟨F4, ρ4, E4, l2.trans (l3.trans l4), T.Al_mono (fun _ => PFl.mono (l3.trans l4)) (fun _ x => x) pf⟩
      | ct ρ4 => exact fun F4 H4 σ4 l4 E4 => ⟨F4, ρ4, E4, l2.trans (l3.trans l4), T.Al_mono (fun _ => PFl.mono (l3.trans l4)) (fun _ x => x) pf⟩
      | bk ρ4 => exact fun F4 H4 σ4 l4 E4 => pf F4 H4 σ4 (l3.trans l4) E4
      | rt r _ => exact PFl.mono (f := .rt r _) l3 pf
    · intro σ2 H2 ⟨F2, ρ2, E2, l2, pr⟩
      rw [List.drop_length] at pr
      exact pr F2 H2 σ2 (Le.refl _) E2
/-- while: at most so many turns -/
def sWhGo (c : Env → T Bool) (body : Env → T Fl) : Nat → Env → T Fl
  | 0, _ => .bad
  | n + 1, ρ => (c ρ).bind fun k => if k = true then (body ρ).bind fun f => match f with
      | .nx ρ2 => sWhGo c body n ρ2
      | .ct ρ2 => sWhGo c body n ρ2
      | .bk ρ2 => .ret (.nx ρ2)
      | .rt r ρ2 => .ret (.rt r ρ2)
    else .ret (.nx ρ)
theorem ds_while (w : Nat) {body : List Stmt} (hp : PassesOwn (model X.prog X.w) X.A X.env X.xe) (hc : DB X W c mc) (hb : DSs X W body m) : DS X W (.While c body [] pos) (sWhGo mc m w) :=
  PS.imp (ps_while hp hc hb) fun N σ H ⟨h, F0, H0, F, ρ, E, q⟩ => by
    refine ⟨fun w σ2 H2 => ∃ F2 ρ2, EnvS (cn X) h F0 H0 F2 H2 σ2 ρ2 ∧ Le F F2 ∧ (sWhGo mc m w ρ2).Al (PFl (cn X) h F0 H0 F2 N) (PXS (cn X) W h F0 H0), ⟨w, F, ρ, E, Le.refl _, q⟩, ?_⟩
    intro w σ2 H2 ⟨F2, ρ2, E2, l2, p⟩
    cases w with
    | zero => exact p.elim
    | succ w =>
    unfold sWhGo at p
    refine ⟨h, F2, ρ2, E2.e, T.Al_mono (fun k pk F3 H3 s3 => ?_) (fun _ x => x.px E2) (T.Al_bind p)⟩
    have l3 := s3.f
    cases k with
    | false =>
      rw [if_neg Bool.false_ne_true] at pk
      exact iteF (pk F3 H3 σ2 l3 (E2.step s3))
    | true =>
      rw [if_pos rfl] at pk
      refine iteT ⟨fun σ4 H4 => ∃ F4 ρ4, EnvS (cn X) h F0 H0 F4 H4 σ4 ρ4 ∧ Le F F4 ∧ (sWhGo mc m w ρ4).Al (PFl (cn X) h F0 H0 F4 N) (PXS (cn X) W h F0 H0), fun σ4 H4 q => ⟨w, Nat.lt_succ_self _, q⟩, h, F0, H0, F3, ρ2, E2.step s3, T.Al_mono (fun f pf => ?_) (fun _ x => x) (T.Al_bind pk)⟩
      cases f with
      | nx ρ4 => exact fun F4 H4 σ4 l4 E4 => ⟨F4, ρ4, E4, l2.trans (l3.trans l4), T.Al_mono (fun _ => PFl.mono (l3.trans l4)) (fun _ x => x) pf⟩
      | ct ρ4 => exact fun F4 H4 σ4 l4 E4 => ⟨F4, ρ4, E4, l2.trans (l3.trans l4), T.Al_mono (fun _ => PFl.mono (l3.trans l4)) (fun _ x => x) pf⟩
      | bk ρ4 => exact fun F4 H4 σ4 l4 E4 => pf F4 H4 σ4 (l3.trans l4) E4
      | rt r _ => exact PFl.mono (f := .rt r _) l3 pf

/-! ### lists of one's own, changed -/
def sApp (i : Nat) (me : Env → T D) : Env → T Fl := fun ρ => match ρ[i]? with
  | some (.own ds) => (me ρ).bind fun d => if ds.length < 16777216 then .ret (.nx (ρ.set i (.own (ds ++ [d])))) else .bad
  | _ => .bad
theorem mut_list {C : Cn} {h : Option Hd} {F0 H0 F H F' H' : Hp} {σ : L2.St} {ρ : Env} {a : Addr} {ds ds' : List D} {xs' : List V} (E : EnvS C h F0 H0 F H σ ρ) (e0 : ρ[i]? = some (.own ds)) (ea : σ[i]? = some (some (.ref a))) (s : Step C h F H F' H') (r : Reps C h F' xs' ds') :
    EnvS C h F0 H0 F' (upd H' a (.lst xs')) σ (ρ.set i (.own ds')) := by
  have E' := E.step s
  obtain ⟨fa, na, _⟩ := own_addr E'.e (by rw [e0]; rfl) ea
  exact E'.mutOwn e0 rfl ea ⟨a, ea, fa, na, xs', upd_same, r⟩ rfl
theorem ds_app (i : Nat) {px pa pc : Pos} (he : DE X W e me) (hN : X.N[i]? = some x := by rfl) (hv : Vis X.env.scope x := by first | exact Or.inl rfl | exact Or.inr (Or.inl rfl) | exact Or.inr (Or.inr rfl)) (hd : (x == ("__debug__" : Str)) = false := by decide)
    (hcd : (x == ("__classdict__" : Str)) = false := by decide) (hs : starEach [e] X.env = (false, eval e X.env) :: starEach [] X.env := by rfl) (hsw : swapsWith (.Call (.Attribute (.Name x px) "append" pa) [e] [] pc) none pos.line X.env = pure false := by rfl)
    (hline : (pa.endLine == pc.line) = true := by rfl) (hfew : ((backTo pc (starEach [e] X.env)).all (fun x => !x.1) && (backToKw pc (keywordEach [] X.env)).all (fun x => x.1.isSome) && decide ([e].length + ([] : List Keyword).length + (if ([] : List Keyword).isEmpty then 0 else 1) < 30)) = true := by rfl)
    (hbase : attributeBase (.Name x px) "append" X.env (eval (.Name x px) X.env) = eval (.Name x px) X.env := by rfl) :
    DS X W (.Expr (.Call (.Attribute (.Name x px) "append" pa) [e] [] pc) pos) (sApp i me) :=
  PS.imp (ps_expr (pe_bm PySem.F.plainAttrs_list PySem.F.slot_list_append PySem.F.type_list_append mt_append (pe_var (i := i) hN hv hd hcd) (pa_cons he pa_nil hs) hbase hfew hline (hs := hs)) hsw) fun N σ H ⟨h, F0, H0, F, ρ, E, q⟩ => by
    unfold sApp at q
    split at q <;> first | exact q.elim | skip
    rename_i ds e0
    obtain ⟨a, ea, fa, na, xs, h1, r1⟩ := E.e.slots i _ e0
    refine ⟨.ref a, ea, .inl ⟨rfl, xs, SqL.of h1⟩, h, F, ρ, E.e, T.Al_mono (fun d p F1 H1 v s r => ?_) (fun _ x => x.px E) (T.Al_bind q)⟩
    split at p <;> first | exact p.elim | skip
    have h2 := s.keep a _ na h1
    exact ⟨a, xs, v, rfl, rfl, h2, by rw [r1.length, sizeLine_eq]; assumption, p F1 _ σ s.f (mut_list E e0 ea s ((r1.mono s.f).append (.one r)))⟩
def sExt (i : Nat) (me : Env → T D) : Env → T Fl := fun ρ => match ρ[i]? with
  | some (.own ds) => (me ρ).bind fun d => match d with
    | .lst es => if ds.length + es.length ≤ 16777216 then .ret (.nx (ρ.set i (.own (ds ++ es)))) else .bad
    | _ => .bad
  | _ => .bad
theorem ds_ext (i : Nat) {px pa pc : Pos} (he : DP X W e me) (hN : X.N[i]? = some x := by rfl) (hv : Vis X.env.scope x := by first | exact Or.inl rfl | exact Or.inr (Or.inl rfl) | exact Or.inr (Or.inr rfl)) (hd : (x == ("__debug__" : Str)) = false := by decide)
    (hcd : (x == ("__classdict__" : Str)) = false := by decide) (hs : starEach [e] X.env = (false, eval e X.env) :: starEach [] X.env := by rfl) (hsw : swapsWith (.Call (.Attribute (.Name x px) "extend" pa) [e] [] pc) none pos.line X.env = pure false := by rfl)
    (hline : (pa.endLine == pc.line) = true := by rfl) (hfew : ((backTo pc (starEach [e] X.env)).all (fun x => !x.1) && (backToKw pc (keywordEach [] X.env)).all (fun x => x.1.isSome) && decide ([e].length + ([] : List Keyword).length + (if ([] : List Keyword).isEmpty then 0 else 1) < 30)) = true := by rfl)
    (hbase : attributeBase (.Name x px) "extend" X.env (eval (.Name x px) X.env) = eval (.Name x px) X.env := by rfl) :
    DS X W (.Expr (.Call (.Attribute (.Name x px) "extend" pa) [e] [] pc) pos) (sExt i me) :=
  PS.imp (ps_expr (pe_bm PySem.F.plainAttrs_list PySem.F.slot_list_extend PySem.F.type_list_extend mt_extend (pe_var (i := i) hN hv hd hcd) (pa_cons he pa_nil hs) hbase hfew hline (hs := hs)) hsw) fun N σ H ⟨h, F0, H0, F, ρ, E, q⟩ => by
    unfold sExt at q
    split at q <;> first | exact q.elim | skip
    rename_i ds e0
    obtain ⟨a, ea, fa, na, xs, h1, r1⟩ := E.e.slots i _ e0
    refine ⟨.ref a, ea, .inl ⟨rfl, xs, SqL.of h1⟩, h, F, ρ, E.e, T.Al_mono (fun d p F1 H1 v s r => ?_) (fun _ x => x.px E) (T.Al_bind q)⟩
    split at p <;> first | exact p.elim | skip
    split at p <;> first | exact p.elim | skip
    have h2 := s.keep a _ na h1
    obtain ⟨b, ys, rfl, e2, r2⟩ := r.lst s.z
    exact ⟨a, b, xs, ys, rfl, rfl, h2, e2, by rw [r1.length, r2.length, sizeLine_eq]; assumption, p F1 _ σ s.f (mut_list E e0 ea s ((r1.mono s.f).append r2))⟩
/-- name[j] = e -/
def sStI (i : Nat) (mj me : Env → T D) : Env → T Fl := fun ρ => (me ρ).bind fun d => match ρ[i]? with
  | some (.own ds) => (mj ρ).bind fun dj => (toI dj).bind fun j => match ixN ds.length j with
    | some k => .ret (.nx (ρ.set i (.own (ds.set k d))))
    | none => .bad
  | some (.pin ds) => (mj ρ).bind fun dj => (toI dj).bind fun j => match ixN ds.length j with
    | some k => .ret (.nx (ρ.set i (.pin (ds.set k d))))
    | none => .bad
  | _ => .bad
theorem ds_stI (i : Nat) {px pt : Pos} {mj : Env → T D} (he : DE X W e me) (hj : DE X W a mj) (hN : X.N[i]? = some x := by rfl) (hv : Vis X.env.scope x := by first | exact Or.inl rfl | exact Or.inr (Or.inl rfl) | exact Or.inr (Or.inr rfl)) (hd : (x == ("__debug__" : Str)) = false := by decide)
    (hcd : (x == ("__classdict__" : Str)) = false := by decide) (hpl : PlainIx a := by intro _ _; rfl) (hs : swapsWithSole [.Subscript (.Name x px) a pt] e pos.line X.env = pure false := by rfl) (hw : swappedStores [.Subscript (.Name x px) a pt] e X.env = pure none := by rfl)
    (hsb : ∀ v, assign (.Subscript (.Name x px) a pt) X.env v = (do let ov ← holding [v] (eval (.Name x px) X.env); let iv ← holding [v, ov] (eval a X.env); standAt pt; holding [v, ov, iv] (setItem ov iv v); release [v, ov, iv] []) := by intro _; rfl)
    (h1 : (assignEach [.Subscript (.Name x px) a pt] X.env).map (·.2) = [assign (.Subscript (.Name x px) a pt) X.env] := by rfl) : DS X W (.Assign [.Subscript (.Name x px) a pt] e pos) (sStI i mj me) :=
  PS.imp (ps_asg he (pg_sub (pe_var (i := i) hN hv hd hcd) hj set_list hsb) hs hw h1) fun N σ H ⟨h, F0, H0, F, ρ, E, q⟩ => by
    refine ⟨h, F, ρ, E.e, T.Al_mono (fun d p F1 H1 v s r => ?_) (fun _ x => x.px E) (T.Al_bind q)⟩
    split at p
    · rename_i ds e0
      have E1 := E.step s
      obtain ⟨l, ea, fa, na, xs, h1, r1⟩ := E1.e.slots i _ e0
      refine ⟨.ref l, ea, h, F1, ρ, E1.e, T.Al_mono (fun dj pj F2 H2 w s2 rj => ?_) (fun _ x => x.px E1) (T.Al_bind p)⟩
      obtain ⟨j, rfl, pk⟩ := Al_toI (T.Al_bind pj)
      split at pk <;> first | exact pk.elim | skip
      rename_i k ek
      exact ⟨l, xs, j, k, rfl, rj.int_inv, s2.keep l _ na h1, by rw [r1.length]; exact ek, pk F2 _ σ (s.f.trans s2.f) (mut_list E1 e0 ea s2 ((r1.mono s2.f).set (r.mono s2.f) k))⟩
    · rename_i ds e0
      have E1 := E.step s
      obtain ⟨l, eh, hl, ea, fa, na, xs, h1, r1⟩ := E1.e.slots i _ e0
      refine ⟨.ref l.a, ea, h, F1, ρ, E1.e, T.Al_mono (fun dj pj F2 H2 w s2 rj => ?_) (fun _ x => x.px E1) (T.Al_bind p)⟩
      obtain ⟨j, rfl, pk⟩ := Al_toI (T.Al_bind pj)
      split at pk <;> first | exact pk.elim | skip
      rename_i k ek
      have E2 := E1.step s2
      obtain ⟨fa2, _, _⟩ := own_addr E2.e (by rw [e0]; rfl) ea
      exact ⟨l.a, xs, j, k, rfl, rj.int_inv, s2.keep l.a _ na h1, by rw [r1.length]; exact ek, pk F2 _ σ (s.f.trans s2.f) (E2.mutOwn e0 rfl ea ⟨l, eh, hl, ea, fa2, na, _, upd_same, ((r1.mono s2.f).set (r.mono s2.f) k)⟩ rfl)⟩
    · exact p.elim
/-- target = name.pop() -/
def sPop (i : Nat) (g : D → Env → Option Env) : Env → T Fl := fun ρ => match ρ[i]? with
  | some (.own ds) => match ds[ds.length - 1]? with
    | some d => match g d (ρ.set i (.own ds.dropLast)) with
      | some ρ' => .ret (.nx ρ')
      | none => .bad
    | none => .bad
  | _ => .bad
theorem Reps.dropLast {C : Cn} {h : Option Hd} {F : Hp} : ∀ {xs : List V} {ds : List D}, Reps C h F xs ds → Reps C h F xs.dropLast ds.dropLast
  | _, _, .nil => .nil
  | _, _, .cons _ .nil => .nil
  | _, _, .cons r (.cons q t) => .cons r (Reps.dropLast (.cons q t))
theorem ds_pop (i : Nat) {px pa pc : Pos} {g : D → Env → Option Env} {js : List Nat} (hg : DG X tg js g) (hN : X.N[i]? = some x := by rfl) (hv : Vis X.env.scope x := by first | exact Or.inl rfl | exact Or.inr (Or.inl rfl) | exact Or.inr (Or.inr rfl)) (hd : (x == ("__debug__" : Str)) = false := by decide)
    (hcd : (x == ("__classdict__" : Str)) = false := by decide) (hline : (pa.endLine == pc.line) = true := by rfl) (hbase : attributeBase (.Name x px) "pop" X.env (eval (.Name x px) X.env) = eval (.Name x px) X.env := by rfl)
    (hs : swapsWithSole [tg] (.Call (.Attribute (.Name x px) "pop" pa) [] [] pc) pos.line X.env = pure false := by rfl) (hw : swappedStores [tg] (.Call (.Attribute (.Name x px) "pop" pa) [] [] pc) X.env = pure none := by rfl)
    (h1 : (assignEach [tg] X.env).map (·.2) = [assign tg X.env] := by rfl) : DS X W (.Assign [tg] (.Call (.Attribute (.Name x px) "pop" pa) [] [] pc) pos) (sPop i g) :=
  PS.imp (ps_asg (pe_bm0 PySem.F.plainAttrs_list PySem.F.slot_list_pop PySem.F.type_list_pop mt_pop (pe_var (i := i) hN hv hd hcd) hbase hline) hg hs hw h1) fun N σ H ⟨h, F0, H0, F, ρ, E, q⟩ => by
    unfold sPop at q
    split at q <;> first | exact q.elim | skip
    rename_i ds e0
    split at q <;> first | exact q.elim | skip
    rename_i d ed
    split at q <;> first | exact q.elim | skip
    rename_i ρ' eg
    obtain ⟨a, ea, fa, na, xs, h1, r1⟩ := E.e.slots i _ e0
    rw [← r1.length] at ed
    obtain ⟨v, ev, rv⟩ := r1.get ed
    have E1 := mut_list E e0 ea (Step.refl E.e.z) r1.dropLast
    exact ⟨.ref a, ea, .inl ⟨rfl, xs, SqL.of h1⟩, a, xs, v, rfl, rfl, h1, ev, h, F, _, d, ρ', E1.e, rv, eg, fun σ' k E' => q F _ σ' (Le.refl _) (E1.kp k E')⟩

/-! ### raise -/
/-- an own class of errors of the module -/
structure ErrCls (X : Cx) (x : Str) : Prop where
  ex : ∃ (C : Addr), X.mg x = some (.ref C) ∧ PySem.W.excIn X.K C [.type "ValueError", .type "Exception", .type "BaseException", .type "object"] "ValueError.__new__" = true ∧ PySem.W.keepIn X.K (.ref C) = true ∧
    PySem.W.subIn X.K (.ref C) (.type "BaseException") = some true ∧ PySem.W.typeIn X.K (.ref C) = some (.type "type")
theorem pmk_own0 {x : Str} {p pos : Pos} {C : Addr} {bmB : List Value} {B newId initId : String} (F : ExcBaseFacts B newId initId bmB) (q : PySem.W.excIn X.K C bmB newId = true) (gC : X.mg x = some (.ref C)) (kC : PySem.W.keepIn X.K (.ref C) = true) (r : Raises X (.ref C)) (hg : Gl X x)
    (hdb : (x == ("__debug__" : Str)) = false := by decide) : PMk X (.Call (.Name x p) [] [] pos) (fun _ H Q => Q (.ref C) none H) := by
  intro pins s σ H Q I h
  refine wpAny_Call_Name_kw (ld_glob I hg gC ?_ hdb)
  refine PySem.W.callWith_K0 I.kIn kC ?_
  show wpAny _ _ (call (.ref C) []) _ _ _
  obtain ⟨bm, N, nm, qn, bs, hdct, sn, sub, ab, col, dd, k0, k1, k2, k3, k5, mN, hC, hN, hni, T⟩ := exc_obj I.kIn q
  refine wpAny_call_exc_subT F T hC hN hni (fun h' e hm => ?_) (by show 0 ≤ sizeLine; omega)
  exact mk_of I hm r h (I.hok.gone hm.new)
def sErr (x : Str) : Env → T Fl := fun _ => .err ⟨x, none⟩
theorem ds_raise {p pc : Pos} (R : ErrCls X x) (hc : X.calm = true) (tk : Takes X W) (hg : Gl X x) (hdb : (x == ("__debug__" : Str)) = false := by decide) : DS X W (.Raise (some (.Call (.Name x p) [] [] pc)) none pos) (sErr x) := by
  obtain ⟨C, gC, q, kC, b1, t1⟩ := R.ex
  exact PS.imp (ps_raise hc tk (pmk_own0 PySem.F.excBase_ValueError q gC kC (raises_own b1 t1) hg hdb)) fun N σ H ⟨h, F0, H0, F, ρ, E, p⟩ => p F H σ E.st C gC
end

/-! ### defs -/
def ends : Fl → T Rv
  | .nx _ => .ret (.d .non)
  | .rt r _ => .ret r
  | _ => .bad
def runFn (n nl : Nat) (m : Env → T Fl) : List D → T Rv := fun ds => if ds.length = n then (m (ds.map Sl.d ++ List.replicate (nl - n) Sl.un)).bind ends else .bad
theorem runFn_len {n nl : Nat} {m : Env → T Fl} {ds : List D} {P : Rv → Prop} {R : Exn → Prop} (h : (runFn n nl m ds).Al P R) : ds.length = n := by
  unfold runFn at h
  split at h <;> first | exact h.elim | assumption
theorem start_env {C : Cn} {h : Option Hd} {F H : Hp} {N : List Str} {vs : List V} {ds : List D} (z : Fz C h F H) (r : Reps C h F vs ds) (hl : vs.length ≤ N.length) : EnvS C h F H F H (L2.start N vs) (ds.map Sl.d ++ List.replicate (N.length - ds.length) Sl.un) := by
  have noOwn : ∀ (i : Nat), isOwn (ds.map Sl.d ++ List.replicate (N.length - ds.length) Sl.un)[i]? = false := fun i => by
    cases q : (ds.map Sl.d ++ List.replicate (N.length - ds.length) Sl.un)[i]? with
    | none => rfl
    | some s =>
      have := List.mem_of_getElem? q
      rcases List.mem_append.mp this with m | m
      · obtain ⟨d, _, rfl⟩ := List.mem_map.mp m
        rfl
      · rw [(List.mem_replicate.mp m).2]
        rfl
  refine ⟨⟨z, fun i s e => ?_, ?_, fun i j a _ h1 => ?_⟩, Step.refl z, z, fun i a h1 => ?_⟩
  · by_cases hi : i < ds.length
    · rw [List.getElem?_append_left (by rw [List.length_map]; exact hi), List.getElem?_map, List.getElem?_eq_getElem hi] at e
      cases e
      obtain ⟨v, ev, rv⟩ := r.get (List.getElem?_eq_getElem hi)
      refine ⟨v, ?_, rv⟩
      unfold L2.start
      rw [List.getElem?_append_left (by rw [List.length_map, r.length]; exact hi), List.getElem?_map, ev]
      rfl
    · rw [List.getElem?_append_right (by rw [List.length_map]; omega), List.getElem?_replicate] at e
      split at e <;> cases e
      trivial
  · unfold L2.start
    rw [List.length_append, List.length_append, List.length_map, List.length_map, List.length_replicate, List.length_replicate, r.length]
  · rw [noOwn] at h1; cases h1
  · rw [noOwn] at h1; cases h1
/-- THE RULE for a def -/
theorem fnI_of {P : Program} {w : World} {K : PySem.W.Frag} {mg : Str → Option Value} {base : Heap} {x : Str} {st : Stmt} {f : Addr} {fd : FuncData} {N ps : List Str} {k : Nat} {m : Env → T Fl} (F : Fun K x x st f fd) (gm : mg x = some (.ref f)) (bd : Binds K fd ps []) (S : FnScope N ps (defScope st))
    (hb : ∀ (cdv : Value) (A : Around) (outer : List PySem.Env) (s : Shared) (H : Hp) (E : XK), Room k (A.deeper (envOfC x (defScope st) s.heap.objs.size f cdv)) →
      DSs (cxOf (L2.CX P w) P w K mg base N x (defScope st) f cdv A outer s H E) (fun c d _ H' => E c d H') (defBody st) m) : FnI ⟨P, w, K, mg⟩ base (k + 1) x (runFn ps.length N.length m) := by
  refine ⟨f, fd, ps, F.okX S (fun vs H Q E h => ?_) (fun cdv A outer s H vs Q E hr h => ?_), gm, F.kp, bd⟩
  · obtain ⟨h, F, ds, z, r, q⟩ := h
    rw [r.length]
    exact runFn_len q
  · obtain ⟨h, F, ds, z, r, q⟩ := h
    have hl := runFn_len q
    unfold runFn at q
    rw [if_pos hl] at q
    have hN : vs.length ≤ N.length := by
      have := congrArg List.length S.pre
      rw [List.length_take] at this
      rw [r.length, hl]
      omega
    refine ⟨_, hb cdv A outer s H E hr, h, F, H, F, _, start_env z r hN, ?_⟩
    rw [hl]
    refine T.Al_mono (fun f p => ?_) (fun x p => ?_) (T.Al_bind q)
    · cases f with
      | nx ρ' => exact fun F' H' σ' l E' => p F' H' .non E'.st .non
      | rt r ρ' => cases r with
        | d x => exact fun F' H' σ' v _ E' r => p F' H' v E'.st r
        | own x => exact fun F' H' σ' a _ E' n o => p F' H' a E'.st n o
        | ownD x => exact fun F' H' σ' a _ E' n o => p F' H' a E'.st n o
      | bk _ => exact p.elim
      | ct _ => exact p.elim
    · intro F' H' σ' s
      have := p F' H' s
      unfold ErrK at this ⊢
      exact this
end PL
/-! PL10: the hand of drawn numbers, the law's own def. -/
namespace PL
open PySem PySem.Spec PyProof.Rows L2

section
variable {X : Cx} {W : WX} {pos p2 px : Pos} {lo hi : Option Expr} {ml mh : Env → T (Option Int)}
/-- script[lo:hi] -/
def eScr (i : Nat) (lo hi : Env → T (Option Int)) : Env → T (List D) := fun ρ => match ρ[i]? with
  | some (.scr ns) => (lo ρ).bind fun l => (hi ρ).bind fun u => .ret ((cutL ns l u).map .int)
  | _ => .bad
theorem do_scr (i : Nat) {x : Str} (hl : DPt X W lo ml) (hh : DPt X W hi mh) (hN : X.N[i]? = some x := by rfl) (hv : Vis X.env.scope x := by first | exact Or.inl rfl | exact Or.inr (Or.inl rfl) | exact Or.inr (Or.inr rfl)) (hd : (x == ("__debug__" : Str)) = false := by decide)
    (hcd : (x == ("__classdict__" : Str)) = false := by decide) : DO X W (.Subscript (.Name x px) (.Slice lo hi none p2) pos) (eScr i ml mh) :=
  DO.of (pe_slice sl_list (pe_var (i := i) hN hv hd hcd) hl hh) fun h F H σ ρ Q E q => by
    unfold eScr at q
    split at q <;> first | exact q.elim | skip
    rename_i ns e0
    obtain ⟨a, ea, sa⟩ := E.slots i _ e0
    refine ⟨.ref a, ea, h, F, ρ, E, T.Al_mono ?_ (fun _ x => x) (T.Al_bind q)⟩
    intro l q2 F2 H2 s2
    refine ⟨h, F2, ρ, E.step s2, T.Al_mono ?_ (fun _ px => px.step E.z s2) (T.Al_bind q2)⟩
    intro u q3 F3 H3 s3
    have s13 := s2.trans E.z s3
    refine ⟨a, _, rfl, s13.z.le.sqL (s13.f.sqL sa), fun w n => ?_⟩
    have e : cutV (ns.map V.int) l u = (cutL ns l u).map V.int := by
      unfold cutV cutL
      rw [List.length_map, ← List.map_drop, ← List.map_take]
    rw [e]
    obtain ⟨s4, r4⟩ := Step.newO (ds := (cutL ns l u).map D.int) s13.z n Reps.ints
    exact q3 _ _ _ (s13.trans E.z s4) (s13.back E.z n) r4
end

/-- the promise of the def that makes the hand -/
def spHand (C : Cn) : Sp := fun vs H Q _ => ∃ (a : Addr) (ns : List Int), vs = [.ref a] ∧ SqL C.K H a (ns.map V.int) ∧ ns.length ≤ 63 ∧
  ∀ F' H' x, Fz C (some x) F' H' → x.live = true → Q (.ref x.a) H'
/-- the promise of the def that draws -/
def mDraw : List D → T Rv
  | [.hand, .int n] => .draw n fun i => .ret (.d (.int i))
  | _ => .bad
/-- the hand's state -/
def handD (cells : List Int) (i : Nat) (g y m : Int) : List D := [.lst (cells.map .int), .int i, .int g, .int y, .int m]
def HandMade (m : Env → T Fl) (nl : Nat) : Prop := ∀ ns : List Int, ns.length ≤ 63 → (m (.scr ns :: List.replicate nl .un)).Al (fun f => ∃ cells i g y mm ρ', f = .rt (.own (handD cells i g y mm)) ρ') (fun _ => False)
def Draws (m : Env → T Fl) (nl : Nat) : Prop := ∀ (cells : List Int) (i : Nat) (g y mm n : Int), 0 < n → n < 1073741824 →
  (m (.pin (handD cells i g y mm) :: .d (.int n) :: List.replicate nl .un)).Al (fun f => ∃ r ρ' i' g' y' m', f = .rt (.d (.int r)) ρ' ∧ ρ'[0]? = some (.pin (handD cells i' g' y' m')) ∧ 0 ≤ r ∧ r < n) (fun _ => False)
theorem only0 {s : Sl} {l : List Sl} (hl : ∀ x ∈ l, isOwn (some x) = false) {i : Nat} (h : isOwn (s :: l)[i]? = true) : i = 0 := by
  cases i with
  | zero => rfl
  | succ i =>
    rw [List.getElem?_cons_succ] at h
    cases q : l[i]? with
    | none => rw [q] at h; cases h
    | some x =>
      rw [q, hl x (List.mem_of_getElem? q)] at h
      cases h
section
variable {P : Program} {w : World} {K : PySem.W.Frag} {mg : Str → Option Value} {base : Heap} {x : Str} {st : Stmt} {f : Addr} {fd : FuncData} {N : List Str} {k : Nat} {m : Env → T Fl}
theorem start_at {vs : List V} {i : Nat} {v : V} (h : vs[i]? = some v) : (L2.start N vs)[i]? = some (some v) := by
  unfold L2.start
  have hi : i < vs.length := (List.getElem?_eq_some_iff.mp h).1
  rw [List.getElem?_append_left (by rw [List.length_map]; exact hi), List.getElem?_map, h]
  rfl
theorem start_len {vs : List V} (h : vs.length ≤ N.length) : (L2.start N vs).length = N.length := by
  unfold L2.start
  rw [List.length_append, List.length_map, List.length_replicate]
  omega
theorem hand_of {p0 : Str} {nl : Nat} (F : Fun K x x st f fd) (S : FnScope N [p0] (defScope st)) (hN : N.length = nl + 1) (hm : HandMade m nl)
    (hb : ∀ (cdv : Value) (A : Around) (outer : List PySem.Env) (s : Shared) (H : Hp) (E : XK), Room k (A.deeper (envOfC x (defScope st) s.heap.objs.size f cdv)) →
      DSs (cxOf (L2.CX P w) P w K mg base N x (defScope st) f cdv A outer s H E) (fun c d _ H' => E c d H') (defBody st) m) : FnOk P w K mg base (L2.CX P w) (k + 1) f fd [p0] (spHand ⟨P, w, K, mg⟩) := by
  refine F.okX S (fun vs H Q E h => ?_) (fun cdv A outer s H vs Q E hr h => ?_)
  · obtain ⟨a, ns, rfl, _⟩ := h
    rfl
  · obtain ⟨a, ns, rfl, hS, hl, q⟩ := h
    have z : Fz (⟨P, w, K, mg⟩ : Cn) none H H := ⟨Le.refl H, fun x hx => nomatch hx.1⟩
    have hun : ∀ x ∈ List.replicate nl Sl.un, isOwn (some x) = false := fun x hx => by rw [(List.mem_replicate.mp hx).2]; rfl
    have no : ∀ {i}, isOwn ((Sl.scr ns :: List.replicate nl Sl.un) : List Sl)[i]? = true → False := fun {i} h => by
      have := only0 hun h
      subst this
      cases h
    refine ⟨_, hb cdv A outer s H E hr, none, H, H, H, Sl.scr ns :: List.replicate nl .un, ⟨⟨z, fun i s e => ?_, ?_, fun i j a _ h1 => (no h1).elim⟩, Step.refl z, z, fun i a h1 => (no h1).elim⟩, T.Al_mono (fun f p => ?_) (fun _ x => x.elim) (hm ns hl)⟩
    · cases i with
      | zero => cases e; exact ⟨a, start_at rfl, hS⟩
      | succ i =>
        rw [List.getElem?_cons_succ, List.getElem?_replicate] at e
        split at e <;> cases e
        trivial
    · rw [start_len (by rw [hN]; simp), hN]
      simp
    · obtain ⟨cells, i, g, y, mm, ρ', rfl⟩ := p
      intro F' H' σ' b l E' n0 o
      obtain ⟨f1, n1, xs, h1, r1⟩ := o
      unfold handD at r1
      cases r1 with
      | cons r0 r1 =>
      cases r1 with
      | cons ra r1 =>
      cases r1 with
      | cons rb r1 =>
      cases r1 with
      | cons rc r1 =>
      cases r1 with
      | cons rd r1 =>
      cases r1
      cases r0 with
      | @lst c ys _ ec rc0 =>
      have ey : ys = cells.map V.int := by
        have : ∀ {ys : List V} {cs : List Int}, Reps (⟨P, w, K, mg⟩ : Cn) none F' ys (cs.map D.int) → ys = cs.map V.int := fun {ys cs} r => by
          induction cs generalizing ys with
          | nil => cases r; rfl
          | cons c cs ih =>
            cases r with
            | cons r t => rw [r.int_inv, ih t]; rfl
        exact this rc0
      subst ey
      have h1 : H' b = some (.lst [.ref c, .int i, .int g, .int y, .int mm]) := by rw [h1, ra.int_inv, rb.int_inv, rc.int_inv, rd.int_inv]
      exact q F' H' ⟨b, cells, true⟩ ⟨E'.e.z.le, fun x hx => by
        obtain ⟨hx, _⟩ := hx
        cases hx
        exact ⟨f1, c, ec, i, g, y, mm, h1⟩⟩ rfl
theorem draw_of {p0 p1 : Str} {nl : Nat} (F : Fun K x x st f fd) (gm : mg x = some (.ref f)) (bd : Binds K fd [p0, p1] []) (S : FnScope N [p0, p1] (defScope st)) (hN : N.length = nl + 2) (hm : Draws m nl)
    (hb : ∀ (cdv : Value) (A : Around) (outer : List PySem.Env) (s : Shared) (H : Hp) (E : XK), Room k (A.deeper (envOfC x (defScope st) s.heap.objs.size f cdv)) →
      DSs (cxOf (L2.CX P w) P w K mg base N x (defScope st) f cdv A outer s H E) (fun c d _ H' => E c d H') (defBody st) m) : FnI ⟨P, w, K, mg⟩ base (k + 1) x mDraw := by
  have inv : ∀ {ds : List D} {P' : Rv → Prop} {R : Exn → Prop}, (mDraw ds).Al P' R → ∃ n, ds = [.hand, .int n] := fun {ds P' R} h => by
    unfold mDraw at h
    split at h <;> first | exact h.elim | exact ⟨_, rfl⟩
  refine ⟨f, fd, _, F.okX S (fun vs H Q E h => ?_) (fun cdv A outer s H vs Q E hr h => ?_), gm, F.kp, bd⟩
  · obtain ⟨h, F, ds, z, r, q⟩ := h
    obtain ⟨n, rfl⟩ := inv q
    rw [r.length]
    rfl
  · obtain ⟨h, F0, ds, z, r, q⟩ := h
    obtain ⟨n, rfl⟩ := inv q
    obtain ⟨n0, n1, q⟩ := q
    cases r with
    | cons r0 r =>
    cases r with
    | cons rn r =>
    cases r
    cases rn.int_inv
    cases r0 with
    | @hand x lx =>
    obtain ⟨fx, c, fc, i, g, y, mm, hx⟩ := z.hand x lx
    obtain ⟨x1, h1, H0, eH0⟩ : ∃ (x1 : Hd) (h1 : Option Hd) (H0 : Hp), x1 = ⟨x.a, x.cells, false⟩ ∧ h1 = some x1 ∧ H0 = fun b => if b = x.a then none else H b := ⟨_, _, _, rfl, rfl, rfl⟩
    obtain ⟨rfl, rfl, rfl⟩ := eH0
    have dead : ∀ y, ¬ Live (some ⟨x.a, x.cells, false⟩) y := fun y hy => by
      obtain ⟨e, l⟩ := hy
      cases e
      cases l
    have nh : ∀ b, NotHand (some ⟨x.a, x.cells, false⟩) b := fun b y hy => (dead y hy).elim
    have z1 : Fz (⟨P, w, K, mg⟩ : Cn) (some ⟨x.a, x.cells, false⟩) F0 H := ⟨z.le, fun y hy => (dead y hy).elim⟩
    have z0 : Fz (⟨P, w, K, mg⟩ : Cn) (some ⟨x.a, x.cells, false⟩) F0 (fun b => if b = x.a then none else H b) := ⟨fun b o e => by
      have : b ≠ x.a := fun q => by rw [q, fx] at e; cases e
      show (if b = x.a then none else H b) = some o
      rw [if_neg this]
      exact z.le b o e, fun y hy => (dead y hy).elim⟩
    have st1 : Step (⟨P, w, K, mg⟩ : Cn) (some ⟨x.a, x.cells, false⟩) F0 (fun b => if b = x.a then none else H b) F0 H := ⟨Le.refl _, fun a e n => absurd e n, fun a o _ e => by
      have e : (if a = x.a then none else H a) = some o := e
      split at e <;> first | cases e | exact e, z1⟩
    have hun : ∀ y ∈ (Sl.d (.int n) :: List.replicate nl Sl.un), isOwn (some y) = false := fun y hy => by
      rcases List.mem_cons.mp hy with e | e
      · rw [e]; rfl
      · rw [(List.mem_replicate.mp e).2]; rfl
    refine ⟨_, hb cdv A outer s H E hr, some ⟨x.a, x.cells, false⟩, F0, (fun b => if b = x.a then none else H b), F0, .pin (handD x.cells i g y mm) :: .d (.int n) :: List.replicate nl .un, ⟨⟨z1, fun j s e => ?_, ?_, fun i j a hij h1 h2 => ?_⟩, st1, z0, fun j a h1 e1 => ?_⟩, T.Al_mono (fun f p => ?_) (fun _ x => x.elim) (hm x.cells i g y mm n n0 n1)⟩
    · match j with
      | 0 =>
        cases e
        exact ⟨_, rfl, rfl, start_at rfl, fx, nh _, _, hx, .cons (.lst fc Reps.ints) (.cons (.int _) (.cons (.int _) (.cons (.int _) (.cons (.int _) .nil))))⟩
      | 1 =>
        cases e
        exact ⟨.int n, start_at rfl, .int n⟩
      | j + 2 =>
        rw [List.getElem?_cons_succ, List.getElem?_cons_succ, List.getElem?_replicate] at e
        split at e <;> cases e
        trivial
    · rw [start_len (by rw [hN]; simp), hN]
      simp
    · exact (hij ((only0 hun h1).trans (only0 hun h2).symm)).elim
    · have := only0 hun h1
      subst this
      rw [start_at (v := .ref x.a) rfl] at e1
      cases e1
      show (if x.a = x.a then none else H x.a) = none
      rw [if_pos rfl]
    · obtain ⟨r, ρ', i', g', y', m', rfl, e0, r0, r1⟩ := p
      intro F' H' σ' v l E' rv
      obtain ⟨xp, exp, _, _, f1, _, xs, h1, rr⟩ := E'.e.slots 0 _ e0
      cases exp
      cases rv.int_inv
      refine q r r0 r1 F' H' _ ⟨l, fun b e1 e2 => ?_, fun b o nb e => ?_, E'.e.z.le, fun y hy => ?_⟩ (.int r)
      · have e3 := E'.st.new b e1 e2
        have e3 : (if b = x.a then none else H b) = none := e3
        split at e3
        · rename_i hb
          subst hb
          exact absurd f1 e2
        · exact e3
      · refine E'.st.keep b o (nh b) ?_
        show (if b = x.a then none else H b) = some o
        rw [if_neg (nb x lx)]
        exact e
      · obtain ⟨ey, _⟩ := hy
        obtain ⟨ex, _⟩ := lx
        rw [ex] at ey
        cases ey
        unfold handD at rr
        cases rr with
        | cons q0 rr =>
        cases rr with
        | cons q1 rr =>
        cases rr with
        | cons q2 rr =>
        cases rr with
        | cons q3 rr =>
        cases rr with
        | cons q4 rr =>
        cases rr
        cases q0 with
        | @lst c' ys _ ec rc0 =>
        have ey : ys = x.cells.map V.int := by
          have : ∀ {ys : List V} {cs : List Int}, Reps (⟨P, w, K, mg⟩ : Cn) (some ⟨x.a, x.cells, false⟩) F' ys (cs.map D.int) → ys = cs.map V.int := fun {ys cs} r => by
            induction cs generalizing ys with
            | nil => cases r; rfl
            | cons c cs ih =>
              cases r with
              | cons r t => rw [r.int_inv, ih t]; rfl
          exact this rc0
        subst ey
        exact ⟨f1, c', ec, i', g', y', m', by rw [h1, q1.int_inv, q2.int_inv, q3.int_inv, q4.int_inv]⟩
/-- the promise of the law: True, whatever the script -/
def spLaw (C : Cn) : Sp := fun vs H Q _ => ∃ (a : Addr) (ns : List Int), vs = [.ref a] ∧ SqL C.K H a (ns.map V.int) ∧ ns.length ≤ 63 ∧ ∀ H', Q (.bl true) H'
/-- what is left of the law behind the making of its hand always returns True -/
def LawTrue (m : Env → T Fl) (nl : Nat) : Prop := (m (.un :: .d .hand :: List.replicate nl .un)).Al (fun f => ∃ ρ', f = .rt (.d (.bl true)) ρ') (fun _ => False)
theorem ps_hand {X : Cx} {W : WX} {j k : Nat} {fh : Addr} {fdh : FuncData} {ps : List Str} {y z h : Str} {py pz ph pc pos : Pos} (FH : FnOk X.prog X.w X.K X.mg X.base (L2.CX X.prog X.w) j fh fdh ps (spHand (cn X))) (hr : Room k X.A) (hj : j ≤ k) (tk : Takes X W) (nd : X.N.Nodup)
    (hm : X.mg h = some (.ref fh)) (hk : PySem.W.keepIn X.K (.ref fh) = true) (hb : Binds X.K fdh ps []) (hg : Gl X h) (hdb : (h == ("__debug__" : Str)) = false := by decide) (hi0 : X.N[0]? = some y := by rfl) (hv : Vis X.env.scope y := by first | exact Or.inl rfl | exact Or.inr (Or.inl rfl) | exact Or.inr (Or.inr rfl))
    (hi : X.N[1]? = some z := by rfl) (hx : Loc X.env.scope z := by first | exact .inl rfl | exact .inr rfl) (hd : (y == ("__debug__" : Str)) = false := by decide) (hcd : (y == ("__classdict__" : Str)) = false := by decide)
    (hs : swapsWith (.Call (.Name h ph) [.Name y py] [] pc) (some (.Name z pz)) pos.line X.env = pure false := by rfl) (hf : X.fn z = true ∨ X.env.scope.names.lookup z = some .local := by first | exact .inl rfl | exact .inr rfl) (hst : starEach [.Name y py] X.env = (false, eval (.Name y py) X.env) :: starEach [] X.env := by rfl) :
    PS X (.Assign [.Name z pz] (.Call (.Name h ph) [.Name y py] [] pc) pos) (tAsg (tCallS (spHand (cn X)) (WE W) (tCons (tVar 0) tNil)) (gName 1)) :=
  ps_set nd hi hx (pe_callS FH (hr.mono hj) hg hm hk hb (passAt tk) (pa_cons (pe_var (i := 0) hi0 hv hd hcd) pa_nil hst) hdb hst) hs hf
theorem law_of {p0 : Str} {nl : Nat} {st1 : Stmt} {rest : List Stmt} (F : Fun K x x st f fd) (S : FnScope N [p0] (defScope st)) (hN : N.length = nl + 2) (hst : defBody st = st1 :: rest) (hm : LawTrue m nl)
    (h1 : ∀ (cdv : Value) (A : Around) (outer : List PySem.Env) (s : Shared) (H : Hp) (E : XK), Room k (A.deeper (envOfC x (defScope st) s.heap.objs.size f cdv)) →
      PS (cxOf (L2.CX P w) P w K mg base N x (defScope st) f cdv A outer s H E) st1 (tAsg (tCallS (spHand ⟨P, w, K, mg⟩) (WE (fun c d _ H' => E c d H')) (tCons (tVar 0) tNil)) (gName 1)))
    (hb : ∀ (cdv : Value) (A : Around) (outer : List PySem.Env) (s : Shared) (H : Hp) (E : XK), Room k (A.deeper (envOfC x (defScope st) s.heap.objs.size f cdv)) →
      DSs (cxOf (L2.CX P w) P w K mg base N x (defScope st) f cdv A outer s H E) (fun c d _ H' => E c d H') rest m) : FnOk P w K mg base (L2.CX P w) (k + 1) f fd [p0] (spLaw ⟨P, w, K, mg⟩) := by
  refine F.okX S (fun vs H Q E h => ?_) (fun cdv A outer s H vs Q E hr h => ?_)
  · obtain ⟨a, ns, rfl, _⟩ := h
    rfl
  · obtain ⟨a, ns, rfl, hS, hl, q⟩ := h
    rw [hst]
    refine ⟨_, pss_cons (h1 cdv A outer s H E hr) (hb cdv A outer s H E hr), .ref a, start_at rfl, a, ns, rfl, hS, hl, fun F' H' x z lv => ?_⟩
    have hun : ∀ y ∈ (Sl.d .hand :: List.replicate nl Sl.un), isOwn (some y) = false := fun y hy => by
      rcases List.mem_cons.mp hy with e | e
      · rw [e]; rfl
      · rw [(List.mem_replicate.mp e).2]; rfl
    have no : ∀ {i}, isOwn ((Sl.un :: Sl.d .hand :: List.replicate nl Sl.un) : List Sl)[i]? = true → False := fun {i} h => by
      have := only0 hun h
      subst this
      cases h
    have hlen : (L2.start N [V.ref a]).length = nl + 2 := by rw [start_len (by rw [hN]; simp), hN]
    refine ⟨some x, F', H', F', _, ⟨⟨z, fun j s e => ?_, ?_, fun i j a _ h1 => (no h1).elim⟩, Step.refl z, z, fun i a h1 => (no h1).elim⟩, T.Al_mono (fun f p => ?_) (fun _ x => x.elim) hm⟩
    · match j with
      | 0 => cases e; trivial
      | 1 =>
        cases e
        exact ⟨.ref x.a, List.getElem?_set_self (by rw [hlen]; omega), .hand ⟨rfl, lv⟩⟩
      | j + 2 =>
        rw [List.getElem?_cons_succ, List.getElem?_cons_succ, List.getElem?_replicate] at e
        split at e <;> cases e
        trivial
    · rw [List.length_set, hlen]
      simp
    · obtain ⟨ρ', rfl⟩ := p
      intro F2 H2 σ2 v l E2 rv
      cases rv
      exact q H2
end
end PL
/-! PL11: pairs stored at once, augmented assignments, recursion's start, general slices. -/
namespace PL
open PySem PySem.Spec PyProof.Rows L2

/-- a value for a slot -/
def PV (C : Cn) (h : Option Hd) (F H : Hp) (Q : VK) : Sl → Prop
  | .d x => PD C h F H Q x
  | .own ds => PO C h F H Q ds
  | .ownD ds => POD C h F H Q ds
  | _ => False
def tV (C : Cn) (W : WX) (m : Env → T Sl) : TE := fun σ H Q => ∃ h F ρ, EnvE C h F H σ ρ ∧ (m ρ).Al (PV C h F H Q) (PX C W h σ F H)
def DV (X : Cx) (W : WX) (e : Expr) (m : Env → T Sl) : Prop := PE X e (tV (cn X) W m)
def vD (m : Env → T D) : Env → T Sl := fun ρ => (m ρ).bind fun d => .ret (.d d)
def vO (m : Env → T (List D)) : Env → T Sl := fun ρ => (m ρ).bind fun d => .ret (.own d)
def vK (m : Env → T (List (D × D))) : Env → T Sl := fun ρ => (m ρ).bind fun d => .ret (.ownD d)
section
variable {X : Cx} {W : WX} {e a b c tg iter : Expr} {es : List Expr} {pos p2 px py pt : Pos} {m n : Env → T Sl} {me mb : Env → T D} {ml : Env → T (List D)} {mk : Env → T (List (D × D))} {i j : Nat} {x y : Str}
theorem DE.v (h : DE X W e me) : DV X W e (vD me) := ⟨fun pins s σ H Q I ⟨h', F, ρ, E, q⟩ => h.run pins s σ H Q I ⟨h', F, ρ, E, T.Al_bind q⟩⟩
theorem DO.v (h : DO X W e ml) : DV X W e (vO ml) := ⟨fun pins s σ H Q I ⟨h', F, ρ, E, q⟩ => h.run pins s σ H Q I ⟨h', F, ρ, E, T.Al_bind q⟩⟩
theorem DOD.v (h : DOD X W e mk) : DV X W e (vK mk) := ⟨fun pins s σ H Q I ⟨h', F, ρ, E, q⟩ => h.run pins s σ H Q I ⟨h', F, ρ, E, T.Al_bind q⟩⟩
theorem EnvS.setD {C : Cn} {h : Option Hd} {F0 H0 F H F' H' : Hp} {σ : L2.St} {ρ : Env} {v : V} {d : D} (E : EnvS C h F0 H0 F H σ ρ) (s : Step C h F H F' H') (r : Rep C h F' v d) : EnvS C h F0 H0 F' H' (σ.set i (some v)) (ρ.set i (.d d)) := by
  have E1 := E.step s
  obtain ⟨k, E2⟩ := E1.e.set (i := i) r
  exact E1.kp k E2
def okSl : Sl → Bool
  | .d _ => true
  | .own _ => true
  | .ownD _ => true
  | _ => false
/-- store a value -/
theorem PV.set {C : Cn} {h : Option Hd} {F0 H0 F H : Hp} {σ : L2.St} {ρ : Env} {sl : Sl} {Q : VK} (E : EnvS C h F0 H0 F H σ ρ) (i : Nat) (hs : okSl sl = true) (q : ∀ F' H' v, Le F F' → Step C h F H F' H' → EnvS C h F0 H0 F' H' (σ.set i (some v)) (ρ.set i sl) → Q v H') : PV C h F H Q sl := by
  cases sl with
  | un => cases hs
  | scr _ => cases hs
  | pin _ => cases hs
  | d x => exact fun F' H' v s r => q F' H' v s.f s (E.setD s r)
  | own ds => exact fun F' H' a s n o => q F' H' _ s.f s (E.setOwn (a := a) s n fun τ e => ⟨a, e, o⟩)
  | ownD ds => exact fun F' H' a s n o => q F' H' _ s.f s (E.setOwn (a := a) s n fun τ e => ⟨a, e, o⟩)
def sPar (i j : Nat) (m n : Env → T Sl) : Env → T Fl := fun ρ => (m ρ).bind fun s => if okSl s = true then (n ρ).bind fun s' => if okSl s' = true then .ret (.nx ((ρ.set i s).set j s')) else .bad else .bad
theorem par_reads {C : Cn} {N : Ends} {h : Option Hd} {F0 H0 F H : Hp} {σ : L2.St} {ρ : Env} {k : V → V → Hp → Prop} (E : EnvS C h F0 H0 F H σ ρ) (q : (sPar i j m n ρ).Al (PFl C h F0 H0 F N) (PXS C W h F0 H0))
    (hk : ∀ F' H' v w, Fz C h F' H' → (∀ F3 H3, Step C h F' H' F3 H3 → N.nx ((σ.set i (some v)).set j (some w)) H3) → k v w H') : tV C W m σ H fun v H1 => tV C W n σ H1 fun w H2 => k v w H2 := by
  refine ⟨h, F, ρ, E.e, T.Al_mono (fun s p => ?_) (fun _ x => x.px E) (T.Al_bind q)⟩
  split at p <;> first | exact p.elim | skip
  refine PV.set E i (by assumption) fun F1 H1 v l1 s1 E1 => ?_
  refine ⟨h, F1, ρ, (E.step s1).e, T.Al_mono (fun s' p2 => ?_) (fun _ x => x.px (E.step s1)) (T.Al_bind p)⟩
  split at p2 <;> first | exact p2.elim | skip
  refine PV.set E1 j (by assumption) fun F2 H2 w l2 s2 E2 => ?_
  exact hk F2 H2 v w s2.z fun F3 H3 s3 => p2 F3 H3 _ (l1.trans (l2.trans s3.f)) (E2.step s3)
/-- a, b = x, y with local names -/
theorem ds_par (i j : Nat) {kt k2 : Nat} {pt2 : Pos} (hc : X.calm = true) (hN : X.N.Nodup) (ha : DV X W a m) (hb : DV X W b n)
    (hw : swappedStores [.Tuple [.Name x px, .Name y py] kt pt] (.Tuple [a, b] k2 pt2) X.env = pure (some [x, y])) (hi : X.N[i]? = some x := by rfl) (hj : X.N[j]? = some y := by rfl) (hij : i ≠ j := by decide)
    (hx : X.env.scope.names.lookup x = some .local := by rfl) (hy : X.env.scope.names.lookup y = some .local := by rfl) (hs : swapsWithSole [.Tuple [.Name x px, .Name y py] kt pt] (.Tuple [a, b] k2 pt2) pos.line X.env = pure false := by rfl)
    (h1 : starEach [a, b] X.env = (false, eval a X.env) :: starEach [b] X.env := by rfl) (h2 : starEach [b] X.env = (false, eval b X.env) :: starEach [] X.env := by rfl) :
    DS X W (.Assign [.Tuple [.Name x px, .Name y py] kt pt] (.Tuple [a, b] k2 pt2) pos) (sPar i j m n) :=
  PS.imp (ps_par hc hN hi hj hij hx hy (pa_cons ha (pa_cons hb pa_nil h2) h1) hw hs) fun N σ H ⟨h, F0, H0, F, ρ, E, q⟩ =>
    par_reads E q fun F' H' v w z hk => ⟨v, w, rfl, hk F' H' (Step.refl z)⟩
/-- a, b = x, y by a pair -/
theorem ds_parT (i j : Nat) {kt k2 : Nat} {pt2 : Pos} (hc : X.calm = true) (hN : X.N.Nodup) (ha : DV X W a m) (hb : DV X W b n) (hi : X.N[i]? = some x := by rfl) (hj : X.N[j]? = some y := by rfl) (hx : Loc X.env.scope x := by first | exact .inl rfl | exact .inr rfl) (hy : Loc X.env.scope y := by first | exact .inl rfl | exact .inr rfl)
    (hfx : X.fn x = true ∨ X.env.scope.names.lookup x = some .local := by first | exact .inl rfl | exact .inr rfl) (hfy : X.fn y = true ∨ X.env.scope.names.lookup y = some .local := by first | exact .inl rfl | exact .inr rfl)
    (hs : swapsWithSole [.Tuple [.Name x px, .Name y py] kt pt] (.Tuple [a, b] k2 pt2) pos.line X.env = pure false := by rfl) (hw : swappedStores [.Tuple [.Name x px, .Name y py] kt pt] (.Tuple [a, b] k2 pt2) X.env = pure none := by rfl)
    (h1 : starEach [a, b] X.env = (false, eval a X.env) :: starEach [b] X.env := by rfl) (h2 : starEach [b] X.env = (false, eval b X.env) :: starEach [] X.env := by rfl) :
    DS X W (.Assign [.Tuple [.Name x px, .Name y py] kt pt] (.Tuple [a, b] k2 pt2) pos) (sPar i j m n) :=
  PS.imp (ps_asg (pe_tup (pa_cons ha (pa_cons hb pa_nil h2) h1)) (pg_tup hc (pgs_cons (pg_name (i := i) hN hi hx hfx) (pgs_cons (pg_name (i := j) hN hj hy hfy) pgs_nil))) hs hw) fun N σ H ⟨h, F0, H0, F, ρ, E, q⟩ =>
    par_reads E q fun F' H' v w z hk => ⟨by rw [sizeLine_eq]; show 2 ≤ 16777216; decide, fun p hp => ⟨p, [v, w], rfl, SqT.of upd_same, rfl, v, [w], rfl, w, [], rfl, rfl, hk _ _ (Step.made z hp)⟩⟩
/-! ### x op= e -/
def sAug (i : Nat) (f : D → D → Option D) (me : Env → T D) : Env → T Fl := fun ρ => (eV i ρ).bind fun d => (me ρ).bind fun d' => match f d d' with
  | some r => .ret (.nx (ρ.set i (.d r)))
  | none => .bad
theorem ds_augI (i : Nat) {op : Operator} {g : Int → Int → Int} (hN : X.N.Nodup) (ho : PIp X op (ipI g)) (f : D → D → Option D) (hf : ∀ x y r, f x y = some r → ∃ i j, x = .int i ∧ y = .int j ∧ r = .int (g i j)) (he : DE X W e me) (hi : X.N[i]? = some x := by rfl) (hx : Loc X.env.scope x := by first | exact .inl rfl | exact .inr rfl)
    (hfn : X.fn x = true ∨ X.env.scope.names.lookup x = some .local := by first | exact .inl rfl | exact .inr rfl) : DS X W (.AugAssign (.Name x px) op e pos) (sAug i f me) :=
  PS.imp (ps_aug hN hi hx he ho hfn) fun N σ H ⟨h, F0, H0, F, ρ, E, q⟩ => by
    unfold sAug eV at q
    split at q <;> first | exact q.elim | skip
    rename_i d e0
    obtain ⟨v, ev, rv⟩ := E.e.slots i _ e0
    have q := T.Al_bind (t := .ret d) q
    refine ⟨v, ev, h, F, ρ, E.e, T.Al_mono (fun d' p F1 H1 w s r => ?_) (fun _ x => x.px E) (T.Al_bind q)⟩
    split at p <;> first | exact p.elim | skip
    rename_i r' er
    obtain ⟨i1, j1, rfl, rfl, rfl⟩ := hf _ _ _ er
    exact ⟨i1, j1, rv.int_inv, r.int_inv, p F1 H1 _ s.f (E.setD s (.int _))⟩
theorem ds_augAdd (i : Nat) (hN : X.N.Nodup) (he : DE X W e me) (hi : X.N[i]? = some x := by rfl) (hx : Loc X.env.scope x := by first | exact .inl rfl | exact .inr rfl)
    (hfn : X.fn x = true ∨ X.env.scope.names.lookup x = some .local := by first | exact .inl rfl | exact .inr rfl) : DS X W (.AugAssign (.Name x px) .Add e pos) (sAug i dAddI me) :=
  ds_augI i hN ip_add dAddI (fun x y r e => by
    unfold dAddI at e
    split at e <;> first | cases e | skip
    exact ⟨_, _, rfl, rfl, rfl⟩) he hi hx hfn
/-! ### slices of anything -/
def dSlG : D → Option Int → Option Int → Option D
  | .tup ds, lo, hi => some (.tup (cutL ds lo hi))
  | .lst ds, lo, hi => some (.lst (cutL ds lo hi))
  | .str s, lo, hi => if s.length ≤ 16777216 then some (.str (cutS s lo hi)) else none
  | _, _, _ => none
def eSlG (m : Env → T D) (lo hi : Env → T (Option Int)) : Env → T D := fun ρ => (m ρ).bind fun d => (lo ρ).bind fun l => (hi ρ).bind fun u => .opt (dSlG d l u)
variable {lo hi : Option Expr} {mlo mhi : Env → T (Option Int)}
theorem de_slG (ha : DP X W e me) (hl : DPt X W lo mlo) (hh : DPt X W hi mhi) : DE X W (.Subscript e (.Slice lo hi none p2) pos) (eSlG me mlo mhi) :=
  DE.of (pe_slice (SlR.or (SlR.or sl_tupA sl_str) sl_list) ha hl hh) fun h F H σ ρ Q E q => by
    refine evP h F H σ ρ _ E (T.Al_mono ?_ (fun _ x => x) (T.Al_bind q))
    intro dx q1 F1 H1 x s1 rx
    refine ⟨h, F1, ρ, E.step s1, T.Al_mono ?_ (fun _ px => px.step E.z s1) (T.Al_bind q1)⟩
    intro l q2 F2 H2 s2
    have s12 := s1.trans E.z s2
    refine ⟨h, F2, ρ, E.step s12, T.Al_mono ?_ (fun _ px => px.step E.z s12) (T.Al_bind q2)⟩
    intro u q3 F3 H3 s3
    have s13 := s12.trans E.z s3
    obtain ⟨d, e, p⟩ := T.Al_opt q3
    have rx3 := (rx.step s2).step s3
    unfold dSlG at e
    split at e
    · cases e
      obtain ⟨k, xs, rfl, e1, f1, r1⟩ := rx3.tup s3.z
      refine .inl (.inl ⟨k, xs, rfl, e1, fun w => ?_, fun w n0 n => ?_⟩)
      · rw [r1.length] at w
        rw [sl_whole (C := cn X) (h := h) (F := F3) w] at p
        exact p F3 H3 _ s13 (.tup f1 r1)
      · obtain ⟨s4, r4⟩ := Step.newT s3.z n (cut_rep r1 l u)
        exact p _ _ _ (s13.trans E.z s4) r4
    · cases e
      obtain ⟨k, xs, rfl, e1, r1⟩ := rx3.lst s3.z
      refine .inr ⟨k, xs, rfl, SqL.of e1, fun w n => ?_⟩
      obtain ⟨s4, r4⟩ := Step.newL s3.z n (cut_rep r1 l u)
      exact p _ _ _ (s13.trans E.z s4) r4
    · split at e <;> first | cases e | skip
      cases rx3.str
      exact .inl (.inr ⟨_, rfl, by rw [sizeLine_eq]; assumption, p F3 H3 _ s13 (.str _)⟩)
    · cases e
end
/-- a def at depth 0: nothing is promised -/
theorem fnI_bad {P : Program} {w : World} {K : PySem.W.Frag} {mg : Str → Option Value} {base : Heap} {x : Str} {f : Addr} {fd : FuncData} {ps : List Str} {k : Nat} (gm : mg x = some (.ref f)) (kp : PySem.W.keepIn K (.ref f) = true) (bd : Binds K fd ps []) : FnI ⟨P, w, K, mg⟩ base k x (fun _ => .bad) :=
  ⟨f, fd, ps, ⟨fun vs H Q E ⟨_, _, _, _, _, q⟩ => q.elim, fun A outer s H args us vs Q E _ _ _ _ ⟨_, _, _, _, _, q⟩ => q.elim⟩, gm, kp, bd⟩
end PL
/-! PL12: facts of the module. -/
namespace PL
open PySem PySem.Spec PyProof.Rows L2
/-- a constant of the module -/
def GlobAt (K : PySem.W.Frag) (mg : Str → Option Value) (x : Str) (d : D) : Prop := ∃ u v, mg x = some u ∧ RelV v u ∧ ∀ (C : Cn), C.K = K → ∀ h F, Rep C h F v d
/-- an own class of errors -/
def ErrAt (K : PySem.W.Frag) (mg : Str → Option Value) (x : Str) : Prop := ∃ (C : Addr), mg x = some (.ref C) ∧ PySem.W.excIn K C [.type "ValueError", .type "Exception", .type "BaseException", .type "object"] "ValueError.__new__" = true ∧ PySem.W.keepIn K (.ref C) = true ∧
    PySem.W.subIn K (.ref C) (.type "BaseException") = some true ∧ PySem.W.typeIn K (.ref C) = some (.type "type")
theorem ErrAt.at {K : PySem.W.Frag} {mg : Str → Option Value} {x : Str} (e : ErrAt K mg x) {X : Cx} (h : X.K = K) (h' : X.mg = mg) : ErrCls X x := ⟨by subst h; subst h'; exact e⟩
theorem GlobAt.at {K : PySem.W.Frag} {mg : Str → Option Value} {x : Str} {d : D} (e : GlobAt K mg x d) {X : Cx} (h : X.K = K) (h' : X.mg = mg) : GlobIs (cn X) x d := by
  subst h
  subst h'
  obtain ⟨u, v, a, b, c⟩ := e
  exact ⟨⟨u, v, a, b, fun h F => c (cn X) rfl h F⟩⟩
theorem glob_int {K : PySem.W.Frag} {mg : Str → Option Value} {x : Str} {n : Int} {t : Tok} (e : mg x = some (.int n t)) : GlobAt K mg x (.int n) := ⟨_, .int n, e, ⟨_, rfl⟩, fun _ _ _ _ => .int n⟩
theorem glob_str {K : PySem.W.Frag} {mg : Str → Option Value} {x : Str} {n : Str} {t : Tok} (e : mg x = some (.str n t)) : GlobAt K mg x (.str n) := ⟨_, .str n, e, ⟨_, rfl⟩, fun _ _ _ _ => .str n⟩
/-- the law's promise by the written part -/
def spLawW (P : Program) (w : World) (K : PySem.W.Frag) : Sp := fun vs H Q _ => ∃ (a : Addr) (ns : List Int), vs = [.ref a] ∧ SqL K H a (ns.map V.int) ∧ ns.length ≤ 63 ∧ ∀ H', Q (.bl true) H'
/-- the end -/
theorem walk_pl {l : PySem.W.OpenLaw} {n k : Nat} {q : Program} {loose : List Str} {XP : (Str → Option Value) → Heap → Prop} {YP : World → Heap → Prop} {d : DefRec} {K : Params → PySem.W.Frag} {x : Str}
    (hn : l.most = some n) (hn2 : n ≤ 63) (hdf : d.params.defaults = []) (hr : Room k callerA)
    (hY : ∀ (w : World) (h : Heap), YP w h → (K w.params).In h)
    (F : ∀ (w : World) (mg : Str → Option Value) (fa : Addr) (h : Heap), (K w.params).In h → h.Ns mainGlobals mg → mg d.name = some (.ref fa) →
      ∃ fd : FuncData, (∀ (s : Shared) (u : Value), BindsTo s fd ⟨[u], []⟩ [(x, u)]) ∧
        ∀ base : Heap, (K w.params).In base → base.Ns mainGlobals mg → FnOk l.prog w (K w.params) mg base (L2.CX l.prog w) k fa fd [x] (spLawW l.prog w (K w.params))) :
    PySem.W.WalkO q loose XP YP l.row.toRowW d [] (fun f vs => PySem.call f vs) :=
  L2.walk_of (CX := fun w => L2.CX l.prog w) (sp := fun w => spLawW l.prog w (K w.params)) hn (Nat.le_trans hn2 (by decide)) hdf hr hY F
    (fun _ _ a ns hl _ hS => ⟨a, ns, rfl, hS, Nat.le_trans hl hn2, fun _ => rfl⟩) (fun w H s e s' h => by obtain ⟨_, _, _, _, _, _, _, _, _, _, _, _, z⟩ := h; exact z)
end PL
/-! PL13: the drawn hand, by shape. -/
namespace PL
open PySem PySem.Spec PyProof.Rows L2
theorem ixN_of {n : Nat} {i : Nat} (h : i < n) : ixN n (i : Int) = some i := by
  unfold ixN
  rw [if_pos (by omega), if_pos (by omega)]
  rfl
theorem atI_of {α : Type} {l : List α} {i : Nat} {a : α} (e : l[i]? = some a) : atI l (i : Int) = some a := by
  unfold atI
  rw [ixN_of (List.getElem?_eq_some_iff.mp e).1]
  exact e
theorem atI0 {α : Type} {a : α} {l : List α} : atI (a :: l) 0 = some a := atI_of (i := 0) rfl
theorem atI1 {α : Type} {a b : α} {l : List α} : atI (a :: b :: l) 1 = some b := atI_of (i := 1) rfl
theorem atI2 {α : Type} {a b c : α} {l : List α} : atI (a :: b :: c :: l) 2 = some c := atI_of (i := 2) rfl
theorem atI3 {α : Type} {a b c d : α} {l : List α} : atI (a :: b :: c :: d :: l) 3 = some d := atI_of (i := 3) rfl
theorem atI4 {α : Type} {a b c d e : α} {l : List α} : atI (a :: b :: c :: d :: e :: l) 4 = some e := atI_of (i := 4) rfl
theorem ixN_l0 : ixN 5 0 = some 0 := rfl
theorem ixN_l1 : ixN 5 1 = some 1 := rfl
theorem ixN_l2 : ixN 5 2 = some 2 := rfl
theorem ixN_l3 : ixN 5 3 = some 3 := rfl
theorem ixN_l4 : ixN 5 4 = some 4 := rfl
local macro_rules | `(tactic| walk_at "pl") => `(tactic| simp only [T.bind, T.opt, T.ne, T.Al, eV, eVp, eC, e2, e1, e2O, e1O, eCh, eT, eF, toB, toI, dTru, bNot, bAnd, bOr, bYes, eAnd, eOr, eNot, eIf, aN, aC, eTup, eLst, eL, eCall, eCallO, rvD, rvL, runFn, ends, sSeq, goOn, sIf, sAsg, sSetO, gN, gT, gsC, gsN,
  sRet, sRetO, sRetV, sRetN, sErr, sNx, sDrop, sFrz, frz, sPar, okSl, vD, vO, sStI, pN, pS, eSl, eSlG, dSlG, dAdd, dSub, dMod, dFdiv, dPow, dLt, dLe, dGt, dGe, dEq, dNe, PL.plain, PL.plains, D.eqv, D.eqvs, dNeg, dAt, dLen, dAbs, dInt, dTuple, dList, dMin2, dMax2, dIsB, dIsBs, isB, isBs, dIsN, dIsNotN, isNon,
  List.getElem?_cons_zero, List.getElem?_cons_succ, List.set_cons_zero, List.set_cons_succ, List.map_cons, List.map_nil, List.length_cons, List.length_nil, List.length_map, List.replicate_succ, List.replicate_zero, List.cons_append, List.nil_append, if_true, if_false, ite_true, ite_false, reduceIte, Option.map_some, Option.map_none, Bool.and_self, Bool.and_true, Bool.true_and, Bool.not_true, Bool.not_false, Bool.false_eq_true, Bool.and_false, Bool.false_and, reduceCtorEq, Nat.reduceAdd, atI0, atI1, atI2, atI3, atI4, ixN_l0, ixN_l1, ixN_l2, ixN_l3, ixN_l4, decide_true, decide_false, Int.reduceLT, Int.reduceLE, Int.reduceAdd, Int.reduceNeg, Int.reduceSub, Int.reduceMul])
theorem beq_int (i j : Int) : (i == j) = decide (i = j) := rfl
def drawG (me : PL.Env → T D) (ml : PL.Env → T Fl) (a b c d e f g h i z : Int) : PL.Env → T Fl :=
 sSeq (sIf (bAnd (eF (e2 dEq (e2 dAt (eVp 0) (eC (.int 2))) (eC (.int 0)))) (eF (e2 dLt (e2 dAt (eVp 0) (eC (.int 1))) (e1 dLen (e2 dAt (eVp 0) (eC (.int 0)))))))
 (sSeq (sAsg (gN 2) (e2 dAt (e2 dAt (eVp 0) (eC (.int 0))) (e2 dAt (eVp 0) (eC (.int 1)))))
 (sSeq (sStI 0 (eC (.int 1)) (e2 dAdd (e2 dAt (eVp 0) (eC (.int 1))) (eC (.int 1))))
 (sSeq (sStI 0 (eC (.int 3)) me)
 ml)))
 (sNx))
 (sSeq (sIf (eF (e2 dGt (e2 dAt (eVp 0) (eC (.int 2))) (eC (.int 0))))
 (sSeq (sAsg (gN 3) (e2 dMod (e1 dInt (e2 dAt (eVp 0) (eC (.int 2)))) (eVp 1)))
 (sSeq (sStI 0 (eC (.int 2)) (e2 dFdiv (e2 dAt (eVp 0) (eC (.int 2))) (eVp 1)))
 (sRetV 3)))
 (sNx))
 (sSeq (sStI 0 (eC (.int 4)) (e2 dAdd (e2 dAt (eVp 0) (eC (.int 4))) (eC (.int 1))))
 (sSeq (sAsg (gN 4) (e2 dMod (e1 dInt (e2 dMulI (e1 dInt (e2 dAdd (e2 dAt (eVp 0) (eC (.int 3))) (e2 dMulI (eC (.int a)) (e2 dAt (eVp 0) (eC (.int 4)))))) (eC (.int b)))) (eC (.int c))))
 (sSeq (sAsg (gN 4) (e2 dMod (e1 dInt (e2 dMulI (eVp 4) (e2 dAdd (e2 dFdiv (eVp 4) (eC (.int d))) (eC (.int e))))) (eC (.int f))))
 (sSeq (sAsg (gN 4) (e2 dMod (e1 dInt (e2 dMulI (eVp 4) (e2 dAdd (e2 dFdiv (eVp 4) (eC (.int g))) (eC (.int h))))) (eC (.int i))))
 (sRet (e2 dMod (e1 dInt (e2 dFdiv (eVp 4) (eC (.int z)))) (eVp 1))))))))
theorem mul_l {i j : Int} (h : -2 ^ 64 < i ∧ i < 2 ^ 64) : dMulI (.int i) (.int j) = some (.int (i * j)) := by
  show (if -2 ^ 64 < i ∧ i < 2 ^ 64 ∨ -2 ^ 64 < j ∧ j < 2 ^ 64 then some (D.int (i * j)) else none) = _
  rw [if_pos (.inl h)]
theorem mul_r {i j : Int} (h : -2 ^ 64 < j ∧ j < 2 ^ 64) : dMulI (.int i) (.int j) = some (.int (i * j)) := by
  show (if -2 ^ 64 < i ∧ i < 2 ^ 64 ∨ -2 ^ 64 < j ∧ j < 2 ^ 64 then some (D.int (i * j)) else none) = _
  rw [if_pos (.inr h)]
theorem mul_m {x c : Int} (h : 0 < c ∧ c < 2 ^ 64) (j : Int) : dMulI (.int (x % c)) (.int j) = some (.int (x % c * j)) :=
  have h1 := Int.emod_nonneg x (show c ≠ 0 by omega)
  have h2 := Int.emod_lt_of_pos x h.1
  mul_l ⟨by omega, by omega⟩
theorem cut_int {cells : List Int} {i : Nat} (h : i < cells.length) : ∃ c : Int, atI (cells.map D.int) i = some (.int c) :=
  ⟨cells[i], atI_of (by simp [h])⟩
theorem drawG_ok {me : PL.Env → T D} {ml : PL.Env → T Fl} {a b c d e f g h i z : Int} 
    (he : ∀ cells j u y mm n k, ∃ r, me [.pin (handD cells j u y mm), .d (.int n), .d (.int k), .un, .un] = .ret (.int r))
    (hl : ∀ cells j u y mm n k, ∃ u', ml [.pin (handD cells j u y mm), .d (.int n), .d (.int k), .un, .un] = .ret (.nx [.pin (handD cells j u' y mm), .d (.int n), .d (.int k), .un, .un]))
    (ha : -2 ^ 64 < a ∧ a < 2 ^ 64) (hb : -2 ^ 64 < b ∧ b < 2 ^ 64) (hc1 : 0 < c ∧ c < 2 ^ 64) (hf1 : 0 < f ∧ f < 2 ^ 64)
    (hc : 0 < c ∧ 0 < f ∧ 0 < i ∧ (0 < d ∧ d < 1073741824) ∧ (0 < g ∧ g < 1073741824) ∧ 0 < z ∧ z < 1073741824) : Draws (drawG me ml a b c d e f g h i z) 3 := by
  intro cells j u y mm n h0 h1
  have tail : ∀ u j y mm s2, (T.bind (.ret (Fl.nx [.pin (handD cells j u y mm), .d (.int n), s2, .un, .un])) (goOn (sSeq (sIf (eF (e2 dGt (e2 dAt (eVp 0) (eC (.int 2))) (eC (.int 0))))
 (sSeq (sAsg (gN 3) (e2 dMod (e1 dInt (e2 dAt (eVp 0) (eC (.int 2)))) (eVp 1)))
 (sSeq (sStI 0 (eC (.int 2)) (e2 dFdiv (e2 dAt (eVp 0) (eC (.int 2))) (eVp 1)))
 (sRetV 3)))
 (sNx))
 (sSeq (sStI 0 (eC (.int 4)) (e2 dAdd (e2 dAt (eVp 0) (eC (.int 4))) (eC (.int 1))))
 (sSeq (sAsg (gN 4) (e2 dMod (e1 dInt (e2 dMulI (e1 dInt (e2 dAdd (e2 dAt (eVp 0) (eC (.int 3))) (e2 dMulI (eC (.int a)) (e2 dAt (eVp 0) (eC (.int 4)))))) (eC (.int b)))) (eC (.int c))))
 (sSeq (sAsg (gN 4) (e2 dMod (e1 dInt (e2 dMulI (eVp 4) (e2 dAdd (e2 dFdiv (eVp 4) (eC (.int d))) (eC (.int e))))) (eC (.int f))))
 (sSeq (sAsg (gN 4) (e2 dMod (e1 dInt (e2 dMulI (eVp 4) (e2 dAdd (e2 dFdiv (eVp 4) (eC (.int g))) (eC (.int h))))) (eC (.int i))))
 (sRet (e2 dMod (e1 dInt (e2 dFdiv (eVp 4) (eC (.int z)))) (eVp 1)))))))))).Al (fun f => ∃ r ρ' i' g' y' m', f = .rt (.d (.int r)) ρ' ∧ ρ'[0]? = some (.pin (handD cells i' g' y' m')) ∧ 0 ≤ r ∧ r < n) (fun _ => False) := by
    intro u j y mm s2
    unfold handD
    by_cases hu : 0 < u
    · walk_at "pl"
      simp only [hu, h0, h1]
      walk_at "pl"
      simp only [h0, h1, and_self]
      walk_at "pl"
      exact ⟨_, _, _, _, _, _, rfl, rfl, Int.emod_nonneg _ (by omega), Int.emod_lt_of_pos _ h0⟩
    · repeat (first | walk_at "pl" | simp only [hu, h0, hc.1, hc.2.1, hc.2.2.1, hc.2.2.2.1, hc.2.2.2.2.1, hc.2.2.2.2.2, and_self, mul_l ha, mul_r hb, mul_m hc1, mul_m hf1])
      exact ⟨_, _, _, _, _, _, rfl, rfl, Int.emod_nonneg _ (by omega), Int.emod_lt_of_pos _ h0⟩
  unfold drawG
  rw [sSeq]
  by_cases hu : u = 0 ∧ j < cells.length
  · obtain ⟨hu, hj⟩ := hu
    obtain ⟨k, ek⟩ := cut_int hj
    subst hu
    have hj' : (j : Int) < (cells.length : Int) := by omega
    unfold handD
    walk_at "pl"
    simp only [beq_int, hj', decide_true]
    walk_at "pl"
    simp only [ek]
    walk_at "pl"
    obtain ⟨r, er⟩ := he cells (j + 1) 0 y mm n k
    obtain ⟨u', eu⟩ := hl cells (j + 1) 0 r mm n k
    unfold handD at er eu
    have ej : ((j + 1 : Nat) : Int) = (j : Int) + 1 := rfl
    rw [ej] at er eu
    rw [er]
    show T.Al _ _ (T.bind (ml _) (goOn _))
    rw [eu]
    exact tail u' (j + 1) r mm _
  · have e : (bAnd (eF (e2 dEq (e2 dAt (eVp 0) (eC (.int 2))) (eC (.int 0)))) (eF (e2 dLt (e2 dAt (eVp 0) (eC (.int 1))) (e1 dLen (e2 dAt (eVp 0) (eC (.int 0))))))) [.pin (handD cells j u y mm), .d (.int n), .un, .un, .un] = .ret false := by
      unfold handD
      walk_at "pl"
      by_cases hu1 : u = 0
      · have hj' : ¬ (j : Int) < (cells.length : Int) := by omega
        subst hu1
        simp only [beq_int, hj', decide_true]
        walk_at "pl"
      · simp only [beq_int, hu1, decide_false]
        walk_at "pl"
    have e1 : ∀ B : PL.Env → T Fl, (sIf (bAnd (eF (e2 dEq (e2 dAt (eVp 0) (eC (.int 2))) (eC (.int 0)))) (eF (e2 dLt (e2 dAt (eVp 0) (eC (.int 1))) (e1 dLen (e2 dAt (eVp 0) (eC (.int 0))))))) B sNx (.pin (handD cells j u y mm) :: .d (.int n) :: List.replicate 3 .un)) = .ret (.nx [.pin (handD cells j u y mm), .d (.int n), .un, .un, .un]) := fun B => by
      show T.bind ((bAnd (eF (e2 dEq (e2 dAt (eVp 0) (eC (.int 2))) (eC (.int 0)))) (eF (e2 dLt (e2 dAt (eVp 0) (eC (.int 1))) (e1 dLen (e2 dAt (eVp 0) (eC (.int 0))))))) [.pin (handD cells j u y mm), .d (.int n), .un, .un, .un]) _ = _
      rw [e]
      rfl
    rw [e1]
    exact tail u j y mm _

theorem drawG_last {cells : List Int} {j : Nat} {u y mm n k : Int} : ∃ u', (sIf (eF (e2 dGe (eVp 2) (e2 dPow (eC (.int 10)) (eC (.int 18))))) (sStI 0 (eC (.int 2)) (eV 2)) (sNx)) [.pin (handD cells j u y mm), .d (.int n), .d (.int k), .un, .un] = .ret (.nx [.pin (handD cells j u' y mm), .d (.int n), .d (.int k), .un, .un]) := by
  have e : dPow (.int 10) (.int 18) = some (.int (10 ^ 18)) := rfl
  by_cases h : (10 : Int) ^ 18 ≤ k
  · refine ⟨k, ?_⟩
    simp only [sIf, eF, e2, eVp, eC, T.bind, T.opt, toB, List.getElem?_cons_zero, List.getElem?_cons_succ, e, dGe]
    rw [decide_eq_true h]
    rfl
  · refine ⟨u, ?_⟩
    simp only [sIf, eF, e2, eVp, eC, T.bind, T.opt, toB, List.getElem?_cons_zero, List.getElem?_cons_succ, e, dGe]
    rw [decide_eq_false h]
    rfl
theorem drawG_lastE {cells : List Int} {j : Nat} {u y mm n k : Int} : ∃ u', (sStI 0 (eC (.int 2)) (eIf (eF (e2 dGe (eVp 2) (e2 dPow (eC (.int 10)) (eC (.int 18))))) (eV 2) (eC (.int 0)))) [.pin (handD cells j u y mm), .d (.int n), .d (.int k), .un, .un] = .ret (.nx [.pin (handD cells j u' y mm), .d (.int n), .d (.int k), .un, .un]) := by
  have e : dPow (.int 10) (.int 18) = some (.int (10 ^ 18)) := rfl
  by_cases h : (10 : Int) ^ 18 ≤ k
  · refine ⟨k, ?_⟩
    simp only [sStI, eIf, eF, e2, eVp, eC, T.bind, T.opt, toB, List.getElem?_cons_zero, List.getElem?_cons_succ, e, dGe]
    rw [decide_eq_true h]
    rfl
  · refine ⟨0, ?_⟩
    simp only [sStI, eIf, eF, e2, eVp, eC, T.bind, T.opt, toB, List.getElem?_cons_zero, List.getElem?_cons_succ, e, dGe]
    rw [decide_eq_false h]
    rfl
theorem drawG_me0 {b x c : Int} (hb : -2 ^ 64 < b ∧ b < 2 ^ 64) (hc : 0 < c) {cells : List Int} {j : Nat} {u y mm n k : Int} : ∃ r, (e2 dMod (e1 dInt (e2 dAdd (e2 dAdd (e2 dMulI (e2 dAt (eVp 0) (eC (.int 3))) (eC (.int b))) (eVp 2)) (eC (.int x)))) (eC (.int c))) [.pin (handD cells j u y mm), .d (.int n), .d (.int k), .un, .un] = .ret (.int r) := by
  unfold handD
  repeat (first | walk_at "pl" | simp only [mul_r hb, hc])
  exact ⟨_, rfl⟩
theorem drawG_me1 {b b' x c : Int} (hb : -2 ^ 64 < b ∧ b < 2 ^ 64) (hb' : -2 ^ 64 < b' ∧ b' < 2 ^ 64) (hc : 0 < c) {cells : List Int} {j : Nat} {u y mm n k : Int} : ∃ r, (e2 dMod (e1 dInt (e2 dAdd (e2 dAdd (e2 dMulI (e2 dAt (eVp 0) (eC (.int 3))) (eC (.int b))) (e2 dMulI (eVp 2) (eC (.int b')))) (eC (.int x)))) (eC (.int c))) [.pin (handD cells j u y mm), .d (.int n), .d (.int k), .un, .un] = .ret (.int r) := by
  unfold handD
  repeat (first | walk_at "pl" | simp only [mul_r hb, mul_r hb', hc])
  exact ⟨_, rfl⟩
/-- the first shape: the cell by itself -/
theorem draws0 {b x c a0 b0 c0 d0 e0 f0 g0 h0 i0 z0 : Int} (hb : -2 ^ 64 < b ∧ b < 2 ^ 64 := by decide) (hc : 0 < c := by decide) (ha : -2 ^ 64 < a0 ∧ a0 < 2 ^ 64 := by decide) (hb0 : -2 ^ 64 < b0 ∧ b0 < 2 ^ 64 := by decide) (hc1 : 0 < c0 ∧ c0 < 2 ^ 64 := by decide) (hf1 : 0 < f0 ∧ f0 < 2 ^ 64 := by decide)
    (hd : 0 < c0 ∧ 0 < f0 ∧ 0 < i0 ∧ (0 < d0 ∧ d0 < 1073741824) ∧ (0 < g0 ∧ g0 < 1073741824) ∧ 0 < z0 ∧ z0 < 1073741824 := by decide) :
    Draws (drawG (e2 dMod (e1 dInt (e2 dAdd (e2 dAdd (e2 dMulI (e2 dAt (eVp 0) (eC (.int 3))) (eC (.int b))) (eVp 2)) (eC (.int x)))) (eC (.int c))) (sIf (eF (e2 dGe (eVp 2) (e2 dPow (eC (.int 10)) (eC (.int 18))))) (sStI 0 (eC (.int 2)) (eV 2)) (sNx)) a0 b0 c0 d0 e0 f0 g0 h0 i0 z0) 3 :=
  drawG_ok (fun _ _ _ _ _ _ _ => drawG_me0 hb hc) (fun _ _ _ _ _ _ _ => drawG_last) ha hb0 hc1 hf1 hd
theorem draws1 {b b' x c a0 b0 c0 d0 e0 f0 g0 h0 i0 z0 : Int} (hb : -2 ^ 64 < b ∧ b < 2 ^ 64 := by decide) (hb' : -2 ^ 64 < b' ∧ b' < 2 ^ 64 := by decide) (hc : 0 < c := by decide) (ha : -2 ^ 64 < a0 ∧ a0 < 2 ^ 64 := by decide) (hb0 : -2 ^ 64 < b0 ∧ b0 < 2 ^ 64 := by decide) (hc1 : 0 < c0 ∧ c0 < 2 ^ 64 := by decide) (hf1 : 0 < f0 ∧ f0 < 2 ^ 64 := by decide)
    (hd : 0 < c0 ∧ 0 < f0 ∧ 0 < i0 ∧ (0 < d0 ∧ d0 < 1073741824) ∧ (0 < g0 ∧ g0 < 1073741824) ∧ 0 < z0 ∧ z0 < 1073741824 := by decide) :
    Draws (drawG (e2 dMod (e1 dInt (e2 dAdd (e2 dAdd (e2 dMulI (e2 dAt (eVp 0) (eC (.int 3))) (eC (.int b))) (e2 dMulI (eVp 2) (eC (.int b')))) (eC (.int x)))) (eC (.int c))) (sIf (eF (e2 dGe (eVp 2) (e2 dPow (eC (.int 10)) (eC (.int 18))))) (sStI 0 (eC (.int 2)) (eV 2)) (sNx)) a0 b0 c0 d0 e0 f0 g0 h0 i0 z0) 3 :=
  drawG_ok (fun _ _ _ _ _ _ _ => drawG_me1 hb hb' hc) (fun _ _ _ _ _ _ _ => drawG_last) ha hb0 hc1 hf1 hd
theorem draws2 {b b' x c a0 b0 c0 d0 e0 f0 g0 h0 i0 z0 : Int} (hb : -2 ^ 64 < b ∧ b < 2 ^ 64 := by decide) (hb' : -2 ^ 64 < b' ∧ b' < 2 ^ 64 := by decide) (hc : 0 < c := by decide) (ha : -2 ^ 64 < a0 ∧ a0 < 2 ^ 64 := by decide) (hb0 : -2 ^ 64 < b0 ∧ b0 < 2 ^ 64 := by decide) (hc1 : 0 < c0 ∧ c0 < 2 ^ 64 := by decide) (hf1 : 0 < f0 ∧ f0 < 2 ^ 64 := by decide)
    (hd : 0 < c0 ∧ 0 < f0 ∧ 0 < i0 ∧ (0 < d0 ∧ d0 < 1073741824) ∧ (0 < g0 ∧ g0 < 1073741824) ∧ 0 < z0 ∧ z0 < 1073741824 := by decide) :
    Draws (drawG (e2 dMod (e1 dInt (e2 dAdd (e2 dAdd (e2 dMulI (e2 dAt (eVp 0) (eC (.int 3))) (eC (.int b))) (e2 dMulI (eVp 2) (eC (.int b')))) (eC (.int x)))) (eC (.int c))) (sStI 0 (eC (.int 2)) (eIf (eF (e2 dGe (eVp 2) (e2 dPow (eC (.int 10)) (eC (.int 18))))) (eV 2) (eC (.int 0)))) a0 b0 c0 d0 e0 f0 g0 h0 i0 z0) 3 :=
  drawG_ok (fun _ _ _ _ _ _ _ => drawG_me1 hb hb' hc) (fun _ _ _ _ _ _ _ => drawG_lastE) ha hb0 hc1 hf1 hd
end PL
/-! PL14: the hand, made, by shape. -/
namespace PL
open PySem PySem.Spec PyProof.Rows L2
theorem lcGo_int {me : Env → T D} {ρ : Env} (he : ∀ i : Int, ∃ j : Int, me (ρ.set 2 (.d (.int i))) = .ret (.int j)) : ∀ ns : List Int, ∃ cs : List Int, cs.length = ns.length ∧ lcGo (gN 2) bYes me ρ (ns.map .int) = .ret (cs.map .int)
  | [] => ⟨[], rfl, rfl⟩
  | n :: ns => by
    obtain ⟨cs, hl, h⟩ := lcGo_int he ns
    obtain ⟨j, hj⟩ := he n
    refine ⟨j :: cs, by simp [hl], ?_⟩
    show ((bYes (ρ.set 2 (.d (.int n)))).ne.bind fun k => if k = true then (me (ρ.set 2 (.d (.int n)))).ne.bind fun y => (lcGo (gN 2) bYes me ρ (ns.map .int)).bind fun ys => .ret (y :: ys) else lcGo (gN 2) bYes me ρ (ns.map .int)) = _
    rw [hj, h]
    rfl
def handG (me mx : Env → T D) : Env → T Fl :=
 sSeq (sSetO 1 (eLc [2] (eScr 0 (pN) (pS (eC (.int 63)))) (gN 2) (bYes) me))
 (sFrz 1 (sRetO (eLst (aC (eV 1) (aC (eC (.int 0)) (aC (eC (.int 0)) (aC mx (aC (eC (.int 0)) (aN)))))))))
theorem handG_ok {me mx : Env → T D} (he : ∀ ns (i : Int), ∃ j : Int, me [.scr ns, .un, .d (.int i)] = .ret (.int j)) (hx : ∀ ns cs, cs.length ≤ 63 → ∃ j : Int, mx [.scr ns, .d (.lst cs), .un] = .ret (.int j)) : HandMade (handG me mx) 2 := by
  intro ns hn
  show ((sSetO 1 (eLc [2] (eScr 0 (pN) (pS (eC (.int 63)))) (gN 2) (bYes) me) [.scr ns, .un, .un]).bind _).Al _ _
  have hs : eScr 0 (pN) (pS (eC (.int 63))) [.scr ns, .un, .un] = .ret ((cutL ns none (some 63)).map .int) := rfl
  have hl : (cutL ns none (some 63)).length ≤ 63 := by
    unfold cutL
    rw [List.length_take, List.length_drop]
    omega
  obtain ⟨cs, e1, e2⟩ := lcGo_int (me := me) (ρ := wipeR [.scr ns, .un, .un] [2]) (fun i => he ns i) (cutL ns none (some 63))
  have e3 : eLc [2] (eScr 0 (pN) (pS (eC (.int 63)))) (gN 2) (bYes) me [.scr ns, .un, .un] = .ret (cs.map .int) := by
    unfold eLc
    rw [hs]
    show (if ((cutL ns none (some 63)).map D.int).length ≤ 16777216 then _ else _) = _
    rw [if_pos (by rw [List.length_map]; omega)]
    exact e2
  have e4 : sSetO 1 (eLc [2] (eScr 0 (pN) (pS (eC (.int 63)))) (gN 2) (bYes) me) [.scr ns, .un, .un] = .ret (.nx [.scr ns, .own (cs.map .int), .un]) := by
    unfold sSetO
    rw [e3]
    rfl
  rw [e4]
  obtain ⟨j, hj⟩ := hx ns (cs.map .int) (by rw [List.length_map]; omega)
  show (sRetO (eLst (aC (eV 1) (aC (eC (.int 0)) (aC (eC (.int 0)) (aC mx (aC (eC (.int 0)) (aN))))))) [.scr ns, .d (.lst (cs.map .int)), .un]).Al _ _
  have e5 : (aC (eV 1) (aC (eC (.int 0)) (aC (eC (.int 0)) (aC mx (aC (eC (.int 0)) (aN)))))) [.scr ns, .d (.lst (cs.map .int)), .un] = .ret [.lst (cs.map .int), .int 0, .int 0, .int j, .int 0] := by
    simp only [aC, aN, eV, eC, T.bind, List.getElem?_cons_zero, List.getElem?_cons_succ, hj]
  unfold sRetO eLst
  rw [e5]
  exact ⟨cs, 0, 0, j, 0, _, rfl⟩
theorem handMe0 (ns : List Int) (i : Int) : ∃ j : Int, (e1 dAbs (e1 dInt (eVp 2))) [.scr ns, .un, .d (.int i)] = .ret (.int j) := ⟨_, rfl⟩
theorem handMe1 (ns : List Int) (i : Int) : ∃ j : Int, (e2 dMod (e1 dInt (e1 dAbs (e1 dInt (eVp 2)))) (e2 dPow (eC (.int 10)) (eC (.int 36)))) [.scr ns, .un, .d (.int i)] = .ret (.int j) := ⟨_, rfl⟩
theorem handMx0 {a : Int} (ns : List Int) (cs : List D) (h : cs.length ≤ 63) : ∃ j : Int, (e2 dAdd (eC (.int a)) (e1 dLen (eVp 1))) [.scr ns, .d (.lst cs), .un] = .ret (.int j) := ⟨_, rfl⟩
theorem handMx1 {a b : Int} (hb : -2 ^ 64 < b ∧ b < 2 ^ 64) (ns : List Int) (cs : List D) (h : cs.length ≤ 63) : ∃ j : Int, (e2 dAdd (eC (.int a)) (e2 dMulI (eC (.int b)) (e1 dLen (eVp 1)))) [.scr ns, .d (.lst cs), .un] = .ret (.int j) := by
  refine ⟨a + b * cs.length, ?_⟩
  simp only [e2, e1, eC, eVp, dLen, T.bind, T.opt, List.getElem?_cons_zero, List.getElem?_cons_succ, mul_l hb, dAdd]
theorem handmade0 {a b : Int} (hb : -2 ^ 64 < b ∧ b < 2 ^ 64 := by decide) : HandMade (handG (e1 dAbs (e1 dInt (eVp 2))) (e2 dAdd (eC (.int a)) (e2 dMulI (eC (.int b)) (e1 dLen (eVp 1))))) 2 := handG_ok handMe0 (handMx1 hb)
theorem handmade1 {a b : Int} (hb : -2 ^ 64 < b ∧ b < 2 ^ 64 := by decide) : HandMade (handG (e2 dMod (e1 dInt (e1 dAbs (e1 dInt (eVp 2)))) (e2 dPow (eC (.int 10)) (eC (.int 36)))) (e2 dAdd (eC (.int a)) (e2 dMulI (eC (.int b)) (e1 dLen (eVp 1))))) 2 := handG_ok handMe1 (handMx1 hb)
theorem handmade2 {a : Int} : HandMade (handG (e1 dAbs (e1 dInt (eVp 2))) (e2 dAdd (eC (.int a)) (e1 dLen (eVp 1)))) 2 := handG_ok handMe0 handMx0
end PL
/-! PL15: what the runs come to: loops, ranges, items. -/
namespace PL
open PySem PySem.Spec PyProof.Rows L2
theorem ret_bind {α β : Type} (a : α) (f : α → T β) : (T.ret a).bind f = f a := rfl
theorem err_bind {α β : Type} (x : Exn) (f : α → T β) : (T.err x).bind f = .err x := rfl
theorem draw_bind {α β : Type} (n : Int) (k : Int → T α) (f : α → T β) : (T.draw n k).bind f = .draw n fun i => (k i).bind f := rfl
theorem al_draw {α : Type} {P : α → Prop} {R : Exn → Prop} {n : Int} {k : Int → T α} (h0 : 0 < n) (h1 : n < 1073741824) (h : ∀ i, 0 ≤ i → i < n → (k i).Al P R) : (T.draw n k).Al P R := ⟨h0, h1, h⟩
/-- where a turn leads -/
def FQ (I : Env → Prop) (Q : Fl → Prop) : Fl → Prop
  | .nx ρ => I ρ
  | .ct ρ => I ρ
  | .bk ρ => Q (.nx ρ)
  | .rt r ρ => Q (.rt r ρ)
theorem forGo_al {g : D → Env → Option Env} {body : Env → T Fl} {Q : Fl → Prop} {R : Exn → Prop} {I : List D → Env → Prop}
    (hs : ∀ d ds ρ, I (d :: ds) ρ → ∃ ρ1, g d ρ = some ρ1 ∧ (body ρ1).Al (FQ (I ds) Q) R) (hd : ∀ ρ, I [] ρ → Q (.nx ρ)) : ∀ ds ρ, I ds ρ → (sForGo g body ds ρ).Al Q R
  | [], ρ, h => hd ρ h
  | d :: ds, ρ, h => by
    obtain ⟨ρ1, e, a⟩ := hs d ds ρ h
    unfold sForGo
    rw [e]
    refine T.Al_of_bind (T.Al_mono (fun f p => ?_) (fun _ x => x) a)
    cases f with
    | nx ρ2 => exact forGo_al hs hd ds ρ2 p
    | ct ρ2 => exact forGo_al hs hd ds ρ2 p
    | bk ρ2 => exact p
    | rt r ρ2 => exact p
/-- a loop whose turns all do the same -/
theorem for_same {mi : Env → T (List D)} {g : D → Env → Option Env} {body : Env → T Fl} {Q : Fl → Prop} {R : Exn → Prop} (I : Env → Prop) {ρ : Env} {ds : List D} (hi : mi ρ = .ret ds) (h0 : I ρ)
    (hs : ∀ d ρ, d ∈ ds → I ρ → ∃ ρ1, g d ρ = some ρ1 ∧ (body ρ1).Al (FQ I Q) R) (hd : ∀ ρ, I ρ → Q (.nx ρ)) : (sFor mi g body ρ).Al Q R := by
  unfold sFor
  rw [hi]
  exact forGo_al (I := fun l ρ => (∀ d ∈ l, d ∈ ds) ∧ I ρ) (fun d l ρ h => by
    obtain ⟨ρ1, e, a⟩ := hs d ρ (h.1 d (List.mem_cons_self ..)) h.2
    refine ⟨ρ1, e, T.Al_mono (fun f p => ?_) (fun _ x => x) a⟩
    have hl : ∀ d ∈ l, d ∈ ds := fun d m => h.1 d (List.mem_cons_of_mem _ m)
    cases f with
    | nx ρ2 => exact ⟨hl, p⟩
    | ct ρ2 => exact ⟨hl, p⟩
    | bk ρ2 => exact p
    | rt r ρ2 => exact p) (fun ρ h => hd ρ h.2) ds ρ ⟨fun _ m => m, h0⟩
/-- a statement, then the rest -/
theorem al_seq {m n : Env → T Fl} {ρ : Env} {Q : Fl → Prop} {R : Exn → Prop} (h : (m ρ).Al (fun f => (goOn n f).Al Q R) R) : (sSeq m n ρ).Al Q R := T.Al_of_bind h
theorem rgL_succ {lo : Int} {n : Nat} : rgL lo (n + 1) = .int lo :: rgL (lo + 1) n := by
  unfold rgL
  rw [List.range_succ_eq_map]
  simp only [List.map_cons, List.map_map]
  congr 1
  · simp
  · refine List.map_congr_left fun i _ => ?_
    show D.int (lo + ((i + 1 : Nat) : Int)) = D.int (lo + 1 + i)
    congr 1
    omega
theorem rgL_zero {lo : Int} : rgL lo 0 = [] := rfl
theorem rgL_last {lo : Int} {n : Nat} : rgL lo (n + 1) = rgL lo n ++ [.int (lo + n)] := by
  unfold rgL
  rw [List.range_succ]
  simp
theorem mem_rgL {lo : Int} {n : Nat} {d : D} (h : d ∈ rgL lo n) : ∃ i : Nat, i < n ∧ d = .int (lo + i) := by
  unfold rgL at h
  obtain ⟨i, hi, e⟩ := List.mem_map.mp h
  exact ⟨i, List.mem_range.mp hi, e.symm⟩
theorem stL_succ {lo c : Int} {n : Nat} : stL lo c (n + 1) = .int lo :: stL (lo + c) c n := by
  unfold stL
  rw [List.range_succ_eq_map]
  simp only [List.map_cons, List.map_map]
  congr 1
  · simp
  · refine List.map_congr_left fun i _ => ?_
    show D.int (lo + ((i + 1 : Nat) : Int) * c) = D.int (lo + c + i * c)
    congr 1
    rw [show ((i + 1 : Nat) : Int) = (i : Int) + 1 from rfl, Int.add_mul]
    omega
theorem forGo_cons {g : D → Env → Option Env} {body : Env → T Fl} {d : D} {ds : List D} {ρ ρ1 ρ2 : Env} (e : g d ρ = some ρ1) (h : body ρ1 = .ret (.nx ρ2)) : sForGo g body (d :: ds) ρ = sForGo g body ds ρ2 := by
  rw [sForGo, e]
  show (body ρ1).bind _ = _
  rw [h]
  rfl
theorem forGo_nil {g : D → Env → Option Env} {body : Env → T Fl} {ρ : Env} : sForGo g body [] ρ = .ret (.nx ρ) := rfl
theorem lcGo_cons {g : D → Env → Option Env} {c : Env → T Bool} {me : Env → T D} {d y : D} {ds : List D} {ρ ρ1 : Env} {b : Bool} (e : g d ρ = some ρ1) (hc : c ρ1 = .ret b) (hy : b = true → me ρ1 = .ret y) : lcGo g c me ρ (d :: ds) = (lcGo g c me ρ ds).bind fun ys => .ret (if b = true then y :: ys else ys) := by
  rw [lcGo, e]
  show ((c ρ1).ne).bind _ = _
  rw [hc]
  cases b with
  | false =>
    show lcGo g c me ρ ds = _
    simp only [Bool.false_eq_true, if_false]
    exact T.bind_ret.symm
  | true =>
    show ((me ρ1).ne).bind _ = _
    rw [hy rfl]
    rfl
/-- a comprehension as a map -/
theorem lcGo_map {g : D → Env → Option Env} {c : Env → T Bool} {me : Env → T D} {ρ : Env} {f : D → D} : ∀ {ds : List D}, (∀ d ∈ ds, ∃ ρ1, g d ρ = some ρ1 ∧ c ρ1 = .ret true ∧ me ρ1 = .ret (f d)) → lcGo g c me ρ ds = .ret (ds.map f)
  | [], _ => rfl
  | d :: ds, h => by
    obtain ⟨ρ1, e, hc, hy⟩ := h d (List.mem_cons_self ..)
    rw [lcGo_cons e hc fun _ => hy, lcGo_map fun x m => h x (List.mem_cons_of_mem _ m)]
    rfl
/-- a comprehension as a filter and a map -/
theorem lcGo_fil {g : D → Env → Option Env} {c : Env → T Bool} {me : Env → T D} {ρ : Env} {p : D → Bool} {f : D → D} : ∀ {ds : List D}, (∀ d ∈ ds, ∃ ρ1, g d ρ = some ρ1 ∧ c ρ1 = .ret (p d) ∧ (p d = true → me ρ1 = .ret (f d))) → lcGo g c me ρ ds = .ret ((ds.filter p).map f)
  | [], _ => rfl
  | d :: ds, h => by
    obtain ⟨ρ1, e, hc, hy⟩ := h d (List.mem_cons_self ..)
    rw [lcGo_cons e hc hy, lcGo_fil fun x m => h x (List.mem_cons_of_mem _ m)]
    cases q : p d <;> simp [T.bind, List.filter_cons, q]
theorem whGo_true {c : Env → T Bool} {b : Env → T Fl} {n : Nat} {ρ ρ2 : Env} (hc : c ρ = .ret true) (hb : b ρ = .ret (.nx ρ2)) : sWhGo c b (n + 1) ρ = sWhGo c b n ρ2 := by
  rw [sWhGo, hc, ret_bind, if_pos rfl, hb, ret_bind]
theorem whGo_false {c : Env → T Bool} {b : Env → T Fl} {n : Nat} {ρ : Env} (hc : c ρ = .ret false) : sWhGo c b (n + 1) ρ = .ret (.nx ρ) := by
  rw [sWhGo, hc]
  rfl
theorem lim62 {i : Int} (h : -1000000 ≤ i) (h' : i ≤ 1000000) : -(2 ^ 62) ≤ i ∧ i < 2 ^ 62 := by
  have e : (2 : Int) ^ 62 = 4611686018427387904 := by decide
  rw [e]
  omega
theorem rg1_eq {m : Env → T D} {ρ : Env} {j : Int} (ha : m ρ = .ret (.int j)) (h : -1000000 ≤ j) (h' : j ≤ 1000000) : iRg1 m ρ = .ret (rgL 0 j.toNat) := by
  unfold iRg1
  rw [ha, ret_bind]
  show (if -(2 ^ 62) ≤ j ∧ j < 2 ^ 62 then _ else _) = _
  rw [if_pos (lim62 h h')]
theorem rg2_eq {m n : Env → T D} {ρ : Env} {i j : Int} (ha : m ρ = .ret (.int i)) (hb : n ρ = .ret (.int j)) (hi : -1000000 ≤ i ∧ i ≤ 1000000) (hj : -1000000 ≤ j ∧ j ≤ 1000000) : iRg2 m n ρ = .ret (rgL i (j - i).toNat) := by
  unfold iRg2
  rw [ha, ret_bind, hb, ret_bind]
  show (if -(2 ^ 62) ≤ i ∧ i < 2 ^ 62 ∧ -(2 ^ 62) ≤ j ∧ j < 2 ^ 62 then _ else _) = _
  have a := lim62 hi.1 hi.2
  have b := lim62 hj.1 hj.2
  rw [if_pos ⟨a.1, a.2, b.1, b.2⟩]
theorem rg3_eq {m n o : Env → T D} {ρ : Env} {i j : Int} (ha : m ρ = .ret (.int i)) (hb : n ρ = .ret (.int j)) (hc : o ρ = .ret (.int (-1))) (hi : -1000000 ≤ i ∧ i ≤ 1000000) (hj : -1000000 ≤ j ∧ j ≤ 1000000) : iRg3 m n o ρ = .ret (stL i (-1) (i - j).toNat) := by
  unfold iRg3
  rw [ha, ret_bind, hb, ret_bind, hc, ret_bind]
  show (if -(2 ^ 62) ≤ i ∧ i < 2 ^ 62 ∧ -(2 ^ 62) ≤ j ∧ j < 2 ^ 62 ∧ (-1 : Int) = -1 then _ else _) = _
  have a := lim62 hi.1 hi.2
  have b := lim62 hj.1 hj.2
  rw [if_pos ⟨a.1, a.2, b.1, b.2, rfl⟩]
theorem for_eq {mi : Env → T (List D)} {g : D → Env → Option Env} {body : Env → T Fl} {ρ : Env} {ds : List D} (h : mi ρ = .ret ds) : sFor mi g body ρ = sForGo g body ds ρ := by
  unfold sFor
  rw [h]
  rfl
theorem dRg_eq {i j : Int} (hi : -1000000 ≤ i ∧ i ≤ 1000000) (hj : -1000000 ≤ j ∧ j ≤ 1000000) : dRg i j = some (rgL i (j - i).toNat) := by
  have a := lim62 hi.1 hi.2
  have b := lim62 hj.1 hj.2
  unfold dRg
  rw [if_pos ⟨a.1, a.2, b.1, b.2, by omega⟩]
  rfl
theorem cut_to {α : Type} {xs : List α} {a : Nat} (h : a ≤ xs.length) : cutL xs none (some (a : Int)) = xs.take a := by
  unfold cutL
  rw [HT.sIx_none, HT.sIx_nat, Nat.min_eq_left h]
  rfl
theorem cut_from {α : Type} {xs : List α} {a : Nat} (h : a ≤ xs.length) : cutL xs (some (a : Int)) none = xs.drop a := by
  unfold cutL
  rw [HT.sIx_none, HT.sIx_nat, Nat.min_eq_left h]
  exact List.take_of_length_le (by simp)
theorem cut_mid {α : Type} {xs : List α} {a b : Nat} (h : a ≤ xs.length) (h' : b ≤ xs.length) : cutL xs (some (a : Int)) (some (b : Int)) = (xs.drop a).take (b - a) := by
  unfold cutL
  rw [HT.sIx_nat, HT.sIx_nat, Nat.min_eq_left h, Nat.min_eq_left h']
end PL
/-! PL16: a thing is itself, by the laws' own word. -/
namespace PL
open PySem PySem.Spec PyProof.Rows L2
local macro_rules | `(tactic| walk_at "pl") => `(tactic| simp -implicitDefEqProofs only [T.bind, T.opt, T.ne, T.Al, eV, eVp, eC, e2, e1, e2O, e1O, eCh, eT, eF, toB, toI, dTru, bNot, bAnd, bOr, bYes, eAnd, eOr, eNot, eIf, aN, aC, eTup, eLst, eL, eCall, eCallO, rvD, rvL, runFn, ends, sSeq, goOn, sIf, sAsg, sSetO, gN, gT, gsC, gsN,
  sRet, sRetO, sRetV, sRetN, sErr, sNx, sDrop, sFrz, frz, sPar, okSl, vD, vO, sStI, pN, pS, eSl, eSlG, dSlG, dAdd, dSub, dMod, dFdiv, dPow, dLt, dLe, dGt, dGe, dEq, dNe, PL.plain, PL.plains, D.eqv, D.eqvs, dNeg, dAt, dLen, dAbs, dInt, dTuple, dList, dMin2, dMax2, dIsB, dIsBs, isB, isBs, dIsN, dIsNotN, isNon, mDraw, wipeR,
  List.getElem?_cons_zero, List.getElem?_cons_succ, List.set_cons_zero, List.set_cons_succ, List.map_cons, List.map_nil, List.length_cons, List.length_nil, List.length_map, List.replicate_succ, List.replicate_zero, List.cons_append, List.nil_append, if_true, if_false, ite_true, ite_false, reduceIte, Option.map_some, Option.map_none, Bool.and_self, Bool.and_true, Bool.true_and, Bool.not_true, Bool.not_false, Bool.false_eq_true, Bool.and_false, Bool.false_and, reduceCtorEq, Nat.reduceAdd, atI0, atI1, atI2, atI3, atI4, ixN_l0, ixN_l1, ixN_l2, ixN_l3, ixN_l4, decide_true, decide_false, beq_self_eq_true, Bool.true_beq, Bool.false_beq, Int.reduceLT, Int.reduceLE, Int.reduceAdd, Int.reduceNeg, Int.reduceSub, Int.reduceMul])
def isADc (m : List D → T Rv) : PL.Env → T Fl := (sSeq (sIf (bOr (bNot (eT (e1 (dIsB .dict) (eVp 0)))) (eF (e2 dNe (e1 dLen (eVp 0)) (e1 dLen (eVp 1)))))
 (sRet (eC (.bl false)))
 (sNx))
 (sRet (e1 dAll (eL (eLc [2] (iIt (eVp 1)) (gN 2) (bYes) (eAnd (e2 dIn (eVp 2) (eVp 0)) (eCall m (aC (e2 dAt (eVp 0) (eVp 2)) (aC (e2 dAt (eVp 1) (eVp 2)) (aN))))))))))
def isA (Dc : PL.Env → T Fl) (m : List D → T Rv) : PL.Env → T Fl :=
 sSeq (sIf (eT (e1 (dIsBs [.tuple, .list]) (eVp 1)))
 (sSeq (sIf (bOr (eF (e2 dNe (e1 (dIsB .tuple) (eVp 0)) (e1 (dIsB .tuple) (eVp 1)))) (bNot (eT (e1 (dIsBs [.tuple, .list]) (eVp 0)))))
 (sRet (eC (.bl false)))
 (sNx))
 (sRet (eAnd (e2 dEq (e1 dLen (eVp 0)) (e1 dLen (eVp 1))) (e1 dAll (eL (eLc [3, 4] (iZp (aC (eV 0) (aC (eV 1) (aN)))) (gT 2 (gsC (gN 3) (gsC (gN 4) (gsN)))) (bYes) (eCall m (aC (eV 3) (aC (eV 4) (aN))))))))))
 (sNx))
 (sSeq (sIf (eT (e1 (dIsB .dict) (eVp 1)))
 Dc
 (sNx))
 (sSeq (sIf (bOr (eT (e1 (dIsB .str) (eVp 1))) (eF (e2 dIsN (eVp 1) (eC .non))))
 (sRet (eAnd (e2 dEq (e1 (dIsB .str) (eVp 0)) (e1 (dIsB .str) (eVp 1))) (e2 dEq (eVp 0) (eVp 1))))
 (sNx))
 (sRet (eAnd (e1 (dIsB .int) (eVp 0)) (eAnd (e2 dEq (e1 (dIsB .bool) (eVp 0)) (e1 (dIsB .bool) (eVp 1))) (e2 dEq (eVp 0) (eVp 1)))))))
def isBb (m : List D → T Rv) : PL.Env → T Fl :=
 sSeq (sIf (bOr (eT (e1 (dIsB .tuple) (eVp 1))) (eT (e1 (dIsB .list) (eVp 1))))
 (sSeq (sIf (bOr (eF (e2 dNe (e1 (dIsB .tuple) (eVp 0)) (e1 (dIsB .tuple) (eVp 1)))) (eF (e2 dNe (e1 (dIsB .list) (eVp 0)) (e1 (dIsB .list) (eVp 1)))))
 (sRet (eC (.bl false)))
 (sNx))
 (sRet (eAnd (e2 dEq (e1 dLen (eVp 0)) (e1 dLen (eVp 1))) (e1 dAll (eL (eLc [2, 3] (iZp (aC (eV 0) (aC (eV 1) (aN)))) (gT 2 (gsC (gN 2) (gsC (gN 3) (gsN)))) (bYes) (eCall m (aC (eV 2) (aC (eV 3) (aN))))))))))
 (sNx))
 (sSeq (sIf (bOr (eF (e2 dIsN (eVp 1) (eC .non))) (eF (e2 dIsN (eVp 0) (eC .non))))
 (sRet (eAnd (e2 dIsN (eVp 1) (eC .non)) (e2 dIsN (eVp 0) (eC .non))))
 (sNx))
 (sSeq (sIf (bOr (eF (e2 dNe (e1 (dIsB .bool) (eVp 0)) (e1 (dIsB .bool) (eVp 1)))) (eF (e2 dNe (e1 (dIsB .int) (eVp 0)) (e1 (dIsB .int) (eVp 1)))))
 (sRet (eC (.bl false)))
 (sNx))
 (sRet (eAnd (e2 dEq (e1 (dIsB .str) (eVp 0)) (e1 (dIsB .str) (eVp 1))) (e2 dEq (eVp 0) (eVp 1))))))
def isCc (m : List D → T Rv) : PL.Env → T Fl :=
 sSeq (sIf (bOr (eT (e1 (dIsB .tuple) (eVp 1))) (eT (e1 (dIsB .list) (eVp 1))))
 (sSeq (sIf (bOr (eF (e2 dNe (e1 (dIsB .tuple) (eVp 1)) (e1 (dIsB .tuple) (eVp 0)))) (eF (e2 dNe (e1 (dIsB .list) (eVp 1)) (e1 (dIsB .list) (eVp 0)))))
 (sRet (eC (.bl false)))
 (sNx))
 (sRet (eAnd (e2 dEq (e1 dLen (eVp 0)) (e1 dLen (eVp 1))) (e1 dAll (eL (eLc [2, 3] (iZp (aC (eV 0) (aC (eV 1) (aN)))) (gT 2 (gsC (gN 2) (gsC (gN 3) (gsN)))) (bYes) (eCall m (aC (eV 2) (aC (eV 3) (aN))))))))))
 (sNx))
 (sSeq (sIf (bOr (eT (e1 (dIsB .dict) (eVp 1))) (eT (e1 (dIsB .dict) (eVp 0))))
 (sRet (eAnd (e1 (dIsB .dict) (eVp 1)) (eAnd (e1 (dIsB .dict) (eVp 0)) (e2 dEq (eVp 0) (eVp 1)))))
 (sNx))
 (sSeq (sIf (bOr (eF (e2 dIsN (eVp 1) (eC .non))) (eF (e2 dIsN (eVp 0) (eC .non))))
 (sRet (eAnd (e2 dIsN (eVp 1) (eC .non)) (e2 dIsN (eVp 0) (eC .non))))
 (sNx))
 (sSeq (sIf (bOr (eT (e1 (dIsB .bool) (eVp 1))) (eT (e1 (dIsB .bool) (eVp 0))))
 (sRet (eAnd (e1 (dIsB .bool) (eVp 1)) (eAnd (e1 (dIsB .bool) (eVp 0)) (e2 dEq (eVp 0) (eVp 1)))))
 (sNx))
 (sSeq (sIf (bOr (eT (e1 (dIsB .str) (eVp 1))) (eT (e1 (dIsB .str) (eVp 0))))
 (sRet (eAnd (e1 (dIsB .str) (eVp 1)) (eAnd (e1 (dIsB .str) (eVp 0)) (e2 dEq (eVp 0) (eVp 1)))))
 (sNx))
 (sRet (eAnd (e1 (dIsB .int) (eVp 0)) (e2 dEq (eVp 0) (eVp 1))))))))
/-- plain data of at most this depth -/
def okD : Nat → D → Bool
  | _, .non => true
  | _, .bl _ => true
  | _, .int _ => true
  | _, .str s => PyData.strOk s
  | n + 1, .tup ds => decide (ds.length ≤ 16777216) && ds.all (okD n)
  | n + 1, .lst ds => decide (ds.length ≤ 16777216) && ds.all (okD n)
  | _, _ => false
theorem zipL_same : ∀ ds : List D, zipL ds ds = ds.map fun d => .tup [d, d]
  | [] => rfl
  | d :: ds => by rw [zipL, zipL_same ds]; rfl
theorem flags_true : ∀ ds : List D, dFlags (ds.map fun _ => .bl true) = some (ds.map fun _ => true)
  | [] => rfl
  | d :: ds => by rw [List.map_cons, dFlags, flags_true ds]; rfl
theorem all_true : ∀ ds : List D, (ds.map fun _ => true).all id = true
  | [] => rfl
  | d :: ds => by simp
theorem lc_same {vs : List Nat} {g : D → PL.Env → Option PL.Env} {me : PL.Env → T D} {ρ : PL.Env} {ms : PL.Env → T (List D)} {x y : D} {ds : List D} (hm : ms ρ = .ret [x, y]) (hz : dZip x y = some (zipL ds ds)) (hl : ds.length ≤ 16777216)
    (h : ∀ d ∈ ds, ∃ ρ1, g (.tup [d, d]) (wipeR ρ vs) = some ρ1 ∧ me ρ1 = .ret (.bl true)) : eLc vs (iZp ms) g bYes me ρ = .ret (ds.map fun _ => .bl true) := by
  have e0 : iZp ms ρ = .ret (zipL ds ds) := by
    unfold iZp
    rw [hm, ret_bind]
    show T.opt (dZip x y) = _
    rw [hz]
    rfl
  unfold eLc
  rw [e0, ret_bind, if_pos (by rw [zipL_len, Nat.min_self]; exact hl), zipL_same]
  have := lcGo_map (f := fun _ => .bl true) (g := g) (c := bYes) (me := me) (ρ := wipeR ρ vs) (ds := ds.map fun d => .tup [d, d]) fun d hd => by
    obtain ⟨d, hd', rfl⟩ := List.mem_map.mp hd
    obtain ⟨ρ1, h1, h2⟩ := h d hd'
    exact ⟨ρ1, h1, rfl, h2⟩
  rw [this, List.map_map]
  rfl
theorem all_flags (ds : List D) : dAll (.lst (ds.map fun _ => .bl true)) = some (.bl true) := by
  show (dFlags _).map _ = _
  rw [flags_true, Option.map_some, all_true]
theorem okT {n : Nat} {ds : List D} (h : okD (n + 1) (.tup ds) = true) : ds.length ≤ 16777216 ∧ ∀ d ∈ ds, okD n d = true := by
  unfold okD at h
  rw [Bool.and_eq_true] at h
  exact ⟨of_decide_eq_true h.1, List.all_eq_true.mp h.2⟩
theorem okL {n : Nat} {ds : List D} (h : okD (n + 1) (.lst ds) = true) : ds.length ≤ 16777216 ∧ ∀ d ∈ ds, okD n d = true := by
  unfold okD at h
  rw [Bool.and_eq_true] at h
  exact ⟨of_decide_eq_true h.1, List.all_eq_true.mp h.2⟩
theorem okS {n : Nat} {s : Str} (h : okD n (.str s) = true) : PyData.strOk s = true := by
  cases n <;> exact h
theorem isA_same {Dc : (List D → T Rv) → PL.Env → T Fl} {f : Nat → List D → T Rv} (hf : ∀ n, f (n + 1) = runFn 2 5 (isA (Dc (f n)) (f n))) : ∀ (n : Nat) (d : D), okD n d = true → f (n + 1) [d, d] = .ret (.d (.bl true)) := by
  intro n
  induction n with
  | zero =>
    intro d h
    rw [hf]
    cases d with
    | str s => unfold isA; walk_at "pl"; simp only [okS h]; walk_at "pl"
    | tup _ => cases h
    | lst _ => cases h
    | dct _ => cases h
    | hand => cases h
    | glob _ => cases h
    | _ => unfold isA; walk_at "pl"
  | succ n ih =>
    intro d h
    rw [hf]
    cases d with
    | str s => unfold isA; walk_at "pl"; simp only [okS h]; walk_at "pl"
    | tup ds =>
      have e := lc_same (vs := [3, 4]) (g := (gT 2 (gsC (gN 3) (gsC (gN 4) (gsN))))) (me := (eCall (f (n + 1)) (aC (eV 3) (aC (eV 4) (aN))))) (ρ := [.d (.tup ds), .d (.tup ds), .un, .un, .un]) (ms := (aC (eV 0) (aC (eV 1) (aN)))) (ds := ds) rfl rfl (okT h).1 fun d hd => ⟨_, rfl, by walk_at "pl"; rw [ih d ((okT h).2 d hd)]; rfl⟩
      unfold isA; walk_at "pl"; rw [e]; walk_at "pl"; rw [all_flags]; walk_at "pl"
    | lst ds =>
      have e := lc_same (vs := [3, 4]) (g := (gT 2 (gsC (gN 3) (gsC (gN 4) (gsN))))) (me := (eCall (f (n + 1)) (aC (eV 3) (aC (eV 4) (aN))))) (ρ := [.d (.lst ds), .d (.lst ds), .un, .un, .un]) (ms := (aC (eV 0) (aC (eV 1) (aN)))) (ds := ds) rfl rfl (okL h).1 fun d hd => ⟨_, rfl, by walk_at "pl"; rw [ih d ((okL h).2 d hd)]; rfl⟩
      unfold isA; walk_at "pl"; rw [e]; walk_at "pl"; rw [all_flags]; walk_at "pl"
    | dct _ => cases h
    | hand => cases h
    | glob _ => cases h
    | _ => unfold isA; walk_at "pl"
theorem isB_same {f : Nat → List D → T Rv} (hf : ∀ n, f (n + 1) = runFn 2 4 (isBb (f n))) : ∀ (n : Nat) (d : D), okD n d = true → f (n + 1) [d, d] = .ret (.d (.bl true)) := by
  intro n
  induction n with
  | zero =>
    intro d h
    rw [hf]
    cases d with
    | str s => unfold isBb; walk_at "pl"; simp only [okS h]; walk_at "pl"
    | tup _ => cases h
    | lst _ => cases h
    | dct _ => cases h
    | hand => cases h
    | glob _ => cases h
    | _ => unfold isBb; walk_at "pl"
  | succ n ih =>
    intro d h
    rw [hf]
    cases d with
    | str s => unfold isBb; walk_at "pl"; simp only [okS h]; walk_at "pl"
    | tup ds =>
      have e := lc_same (vs := [2, 3]) (g := (gT 2 (gsC (gN 2) (gsC (gN 3) (gsN))))) (me := (eCall (f (n + 1)) (aC (eV 2) (aC (eV 3) (aN))))) (ρ := [.d (.tup ds), .d (.tup ds), .un, .un]) (ms := (aC (eV 0) (aC (eV 1) (aN)))) (ds := ds) rfl rfl (okT h).1 fun d hd => ⟨_, rfl, by walk_at "pl"; rw [ih d ((okT h).2 d hd)]; rfl⟩
      unfold isBb; walk_at "pl"; rw [e]; walk_at "pl"; rw [all_flags]; walk_at "pl"
    | lst ds =>
      have e := lc_same (vs := [2, 3]) (g := (gT 2 (gsC (gN 2) (gsC (gN 3) (gsN))))) (me := (eCall (f (n + 1)) (aC (eV 2) (aC (eV 3) (aN))))) (ρ := [.d (.lst ds), .d (.lst ds), .un, .un]) (ms := (aC (eV 0) (aC (eV 1) (aN)))) (ds := ds) rfl rfl (okL h).1 fun d hd => ⟨_, rfl, by walk_at "pl"; rw [ih d ((okL h).2 d hd)]; rfl⟩
      unfold isBb; walk_at "pl"; rw [e]; walk_at "pl"; rw [all_flags]; walk_at "pl"
    | dct _ => cases h
    | hand => cases h
    | glob _ => cases h
    | _ => unfold isBb; walk_at "pl"
theorem isC_same {f : Nat → List D → T Rv} (hf : ∀ n, f (n + 1) = runFn 2 4 (isCc (f n))) : ∀ (n : Nat) (d : D), okD n d = true → f (n + 1) [d, d] = .ret (.d (.bl true)) := by
  intro n
  induction n with
  | zero =>
    intro d h
    rw [hf]
    cases d with
    | str s => unfold isCc; walk_at "pl"; simp only [okS h]; walk_at "pl"
    | tup _ => cases h
    | lst _ => cases h
    | dct _ => cases h
    | hand => cases h
    | glob _ => cases h
    | _ => unfold isCc; walk_at "pl"
  | succ n ih =>
    intro d h
    rw [hf]
    cases d with
    | str s => unfold isCc; walk_at "pl"; simp only [okS h]; walk_at "pl"
    | tup ds =>
      have e := lc_same (vs := [2, 3]) (g := (gT 2 (gsC (gN 2) (gsC (gN 3) (gsN))))) (me := (eCall (f (n + 1)) (aC (eV 2) (aC (eV 3) (aN))))) (ρ := [.d (.tup ds), .d (.tup ds), .un, .un]) (ms := (aC (eV 0) (aC (eV 1) (aN)))) (ds := ds) rfl rfl (okT h).1 fun d hd => ⟨_, rfl, by walk_at "pl"; rw [ih d ((okT h).2 d hd)]; rfl⟩
      unfold isCc; walk_at "pl"; rw [e]; walk_at "pl"; rw [all_flags]; walk_at "pl"
    | lst ds =>
      have e := lc_same (vs := [2, 3]) (g := (gT 2 (gsC (gN 2) (gsC (gN 3) (gsN))))) (me := (eCall (f (n + 1)) (aC (eV 2) (aC (eV 3) (aN))))) (ρ := [.d (.lst ds), .d (.lst ds), .un, .un]) (ms := (aC (eV 0) (aC (eV 1) (aN)))) (ds := ds) rfl rfl (okL h).1 fun d hd => ⟨_, rfl, by walk_at "pl"; rw [ih d ((okL h).2 d hd)]; rfl⟩
      unfold isCc; walk_at "pl"; rw [e]; walk_at "pl"; rw [all_flags]; walk_at "pl"
    | dct _ => cases h
    | hand => cases h
    | glob _ => cases h
    | _ => unfold isCc; walk_at "pl"
end PL
/-! PL17: the equations of the runs, to be used with their proofs. -/
namespace PL
open PySem PySem.Spec PyProof.Rows L2
theorem q_ret {α β : Type} {a : α} {f : α → T β} : (T.ret a).bind f = f a := id rfl
theorem q_err {α β : Type} {x : Exn} {f : α → T β} : (T.err x : T α).bind f = .err x := id rfl
theorem q_bad {α β : Type} {f : α → T β} : (T.bad : T α).bind f = .bad := id rfl
theorem q_draw {α β : Type} {n : Int} {k : Int → T α} {f : α → T β} : (T.draw n k).bind f = .draw n fun i => (k i).bind f := id rfl
theorem q_nx {n : Env → T Fl} {ρ : Env} : goOn n (.nx ρ) = n ρ := id rfl
theorem q_ct {n : Env → T Fl} {ρ : Env} : goOn n (.ct ρ) = .ret (.ct ρ) := id rfl
theorem q_bk {n : Env → T Fl} {ρ : Env} : goOn n (.bk ρ) = .ret (.bk ρ) := id rfl
theorem q_rt {n : Env → T Fl} {r : Rv} {ρ : Env} : goOn n (.rt r ρ) = .ret (.rt r ρ) := id rfl
theorem q_alret {α : Type} {P : α → Prop} {R : Exn → Prop} {a : α} : (T.ret a).Al P R = P a := id rfl
theorem q_aldraw {α : Type} {P : α → Prop} {R : Exn → Prop} {n : Int} {k : Int → T α} : (T.draw n k).Al P R = (0 < n ∧ n < 1073741824 ∧ ∀ i, 0 ≤ i → i < n → (k i).Al P R) := id rfl
theorem q_eV {i : Nat} {ρ : Env} : eV i ρ = match ρ[i]? with
  | some (.d x) => .ret x
  | _ => .bad := id rfl
theorem q_eVp {i : Nat} {ρ : Env} : eVp i ρ = match ρ[i]? with
  | some (.d x) => .ret x
  | some (.own ds) => .ret (.lst ds)
  | some (.ownD kvs) => .ret (.dct kvs)
  | some (.pin ds) => .ret (.lst ds)
  | _ => .bad := id rfl
theorem q_eC {d : D} {ρ : Env} : eC d ρ = .ret d := id rfl
theorem q_e2 {f : D → D → Option D} {ma mb : Env → T D} {ρ : Env} : e2 f ma mb ρ = (ma ρ).bind fun x => (mb ρ).bind fun y => .opt (f x y) := id rfl
theorem q_e1 {f : D → Option D} {ma : Env → T D} {ρ : Env} : e1 f ma ρ = (ma ρ).bind fun x => .opt (f x) := id rfl
theorem q_e2O {f : D → D → Option (List D)} {ma mb : Env → T D} {ρ : Env} : e2O f ma mb ρ = (ma ρ).bind fun x => (mb ρ).bind fun y => .opt (f x y) := id rfl
theorem q_e1O {f : D → Option (List D)} {ma : Env → T D} {ρ : Env} : e1O f ma ρ = (ma ρ).bind fun x => .opt (f x) := id rfl
theorem q_eCh {f g : D → D → Option D} {ma mb mc : Env → T D} {ρ : Env} : eCh f g ma mb mc ρ = (ma ρ).bind fun x => (mb ρ).bind fun y => (T.opt (f x y)).bind fun z => (toB z).bind fun k => if k = true then (mc ρ).bind fun w => .opt (g y w) else .ret (.bl false) := id rfl
theorem q_eT {m : Env → T D} {ρ : Env} : eT m ρ = (m ρ).bind fun d => .opt (dTru d) := id rfl
theorem q_eF {m : Env → T D} {ρ : Env} : eF m ρ = (m ρ).bind toB := id rfl
theorem q_bNot {m : Env → T Bool} {ρ : Env} : bNot m ρ = (m ρ).bind fun k => .ret (!k) := id rfl
theorem q_bAnd {m n : Env → T Bool} {ρ : Env} : bAnd m n ρ = (m ρ).bind fun k => if k = true then n ρ else .ret false := id rfl
theorem q_bOr {m n : Env → T Bool} {ρ : Env} : bOr m n ρ = (m ρ).bind fun k => if k = true then .ret true else n ρ := id rfl
theorem q_bYes  {ρ : Env} : bYes ρ = .ret true := id rfl
theorem q_eAnd {ma mb : Env → T D} {ρ : Env} : eAnd ma mb ρ = (ma ρ).bind fun x => (toB x).bind fun k => if k = true then mb ρ else .ret (.bl false) := id rfl
theorem q_eOr {ma mb : Env → T D} {ρ : Env} : eOr ma mb ρ = (ma ρ).bind fun x => (toB x).bind fun k => if k = true then .ret (.bl true) else mb ρ := id rfl
theorem q_eNot {ma : Env → T D} {ρ : Env} : eNot ma ρ = (ma ρ).bind fun x => (toB x).bind fun k => .ret (.bl (!k)) := id rfl
theorem q_eIf {n : Env → T Bool} {ma mb : Env → T D} {ρ : Env} : eIf n ma mb ρ = (n ρ).bind fun k => if k = true then ma ρ else mb ρ := id rfl
theorem q_aN  {ρ : Env} : aN ρ = .ret [] := id rfl
theorem q_aC {m : Env → T D} {ms : Env → T (List D)} {ρ : Env} : aC m ms ρ = (m ρ).bind fun d => (ms ρ).bind fun ds => .ret (d :: ds) := id rfl
theorem q_eTup {ms : Env → T (List D)} {ρ : Env} : eTup ms ρ = (ms ρ).bind fun ds => if ds.length ≤ 16777216 then .ret (.tup ds) else .bad := id rfl
theorem q_eLst {ms : Env → T (List D)} {ρ : Env} : eLst ms ρ = (ms ρ).bind fun ds => if ds.length ≤ 16777216 then .ret ds else .bad := id rfl
theorem q_eL {m : Env → T (List D)} {ρ : Env} : eL m ρ = (m ρ).bind fun ds => .ret (.lst ds) := id rfl
theorem q_eD {m : Env → T (List (D × D))} {ρ : Env} : eD m ρ = (m ρ).bind fun ds => .ret (.dct ds) := id rfl
theorem q_eCall {m : List D → T Rv} {ms : Env → T (List D)} {ρ : Env} : eCall m ms ρ = (ms ρ).bind fun ds => (m ds).bind rvD := id rfl
theorem q_eCallO {m : List D → T Rv} {ms : Env → T (List D)} {ρ : Env} : eCallO m ms ρ = (ms ρ).bind fun ds => (m ds).bind rvL := id rfl
theorem q_eCallK {m : List D → T Rv} {ms : Env → T (List D)} {ρ : Env} : eCallK m ms ρ = (ms ρ).bind fun ds => (m ds).bind rvK := id rfl
theorem q_runFn {n nl : Nat} {m : Env → T Fl} {ds : List D} : runFn n nl m ds = if ds.length = n then (m (ds.map Sl.d ++ List.replicate (nl - n) Sl.un)).bind ends else .bad := id rfl
theorem q_sSeq {m n : Env → T Fl} {ρ : Env} : sSeq m n ρ = (m ρ).bind (goOn n) := id rfl
theorem q_sIf {mc : Env → T Bool} {m n : Env → T Fl} {ρ : Env} : sIf mc m n ρ = (mc ρ).bind fun k => if k = true then m ρ else n ρ := id rfl
theorem q_sAsg {g : D → Env → Option Env} {me : Env → T D} {ρ : Env} : sAsg g me ρ = (me ρ).bind fun d => match g d ρ with
  | some ρ' => .ret (.nx ρ')
  | none => .bad := id rfl
theorem q_sSetO {i : Nat} {ml : Env → T (List D)} {ρ : Env} : sSetO i ml ρ = (ml ρ).bind fun ds => .ret (.nx (ρ.set i (.own ds))) := id rfl
theorem q_sSetK {i : Nat} {mk : Env → T (List (D × D))} {ρ : Env} : sSetK i mk ρ = (mk ρ).bind fun ds => .ret (.nx (ρ.set i (.ownD ds))) := id rfl
theorem q_sRet {me : Env → T D} {ρ : Env} : sRet me ρ = (me ρ).bind fun d => .ret (.rt (.d d) ρ) := id rfl
theorem q_sRetO {ml : Env → T (List D)} {ρ : Env} : sRetO ml ρ = (ml ρ).bind fun d => .ret (.rt (.own d) ρ) := id rfl
theorem q_sRetK {mk : Env → T (List (D × D))} {ρ : Env} : sRetK mk ρ = (mk ρ).bind fun d => .ret (.rt (.ownD d) ρ) := id rfl
theorem q_sRetV {i : Nat} {ρ : Env} : sRetV i ρ = match ρ[i]? with
  | some (.d d) => .ret (.rt (.d d) ρ)
  | some (.own ds) => .ret (.rt (.own ds) ρ)
  | some (.ownD ds) => .ret (.rt (.ownD ds) ρ)
  | _ => .bad := id rfl
theorem q_sRetN  {ρ : Env} : sRetN ρ = .ret (.rt (.d .non) ρ) := id rfl
theorem q_sErr {x : Str} {ρ : Env} : sErr x ρ = .err ⟨x, none⟩ := id rfl
theorem q_sBk  {ρ : Env} : sBk ρ = .ret (.bk ρ) := id rfl
theorem q_sCt  {ρ : Env} : sCt ρ = .ret (.ct ρ) := id rfl
theorem q_sNx  {ρ : Env} : sNx ρ = .ret (.nx ρ) := id rfl
theorem q_sDrop {me : Env → T D} {ρ : Env} : sDrop me ρ = (me ρ).bind fun _ => .ret (.nx ρ) := id rfl
theorem q_sFrz {i : Nat} {m : Env → T Fl} {ρ : Env} : sFrz i m ρ = m (frz i ρ) := id rfl
theorem q_sPar {i j : Nat} {m n : Env → T Sl} {ρ : Env} : sPar i j m n ρ = (m ρ).bind fun s => if okSl s = true then (n ρ).bind fun s' => if okSl s' = true then .ret (.nx ((ρ.set i s).set j s')) else .bad else .bad := id rfl
theorem q_vD {m : Env → T D} {ρ : Env} : vD m ρ = (m ρ).bind fun d => .ret (.d d) := id rfl
theorem q_vO {m : Env → T (List D)} {ρ : Env} : vO m ρ = (m ρ).bind fun d => .ret (.own d) := id rfl
theorem q_vK {m : Env → T (List (D × D))} {ρ : Env} : vK m ρ = (m ρ).bind fun d => .ret (.ownD d) := id rfl
theorem q_sStI {i : Nat} {mj me : Env → T D} {ρ : Env} : sStI i mj me ρ = (me ρ).bind fun d => match ρ[i]? with
  | some (.own ds) => (mj ρ).bind fun dj => (toI dj).bind fun j => match ixN ds.length j with
    | some k => .ret (.nx (ρ.set i (.own (ds.set k d))))
    | none => .bad
  | some (.pin ds) => (mj ρ).bind fun dj => (toI dj).bind fun j => match ixN ds.length j with
    | some k => .ret (.nx (ρ.set i (.pin (ds.set k d))))
    | none => .bad
  | _ => .bad := id rfl
theorem q_pN  {ρ : Env} : pN ρ = .ret none := id rfl
theorem q_pS {m : Env → T D} {ρ : Env} : pS m ρ = (m ρ).bind fun d => (toI d).bind fun i => .ret (some i) := id rfl
theorem q_eSl {m : Env → T D} {lo hi : Env → T (Option Int)} {ρ : Env} : eSl m lo hi ρ = (m ρ).bind fun d => (lo ρ).bind fun l => (hi ρ).bind fun u => .opt (dSl d l u) := id rfl
theorem q_eSlG {m : Env → T D} {lo hi : Env → T (Option Int)} {ρ : Env} : eSlG m lo hi ρ = (m ρ).bind fun d => (lo ρ).bind fun l => (hi ρ).bind fun u => .opt (dSlG d l u) := id rfl
theorem q_eLstRg {m : Env → T (Int × Int)} {ρ : Env} : eLstRg m ρ = (m ρ).bind fun o => .opt (dRg o.1 o.2) := id rfl
theorem q_eTupRg {m : Env → T (Int × Int)} {ρ : Env} : eTupRg m ρ = (m ρ).bind fun o => .opt ((dRg o.1 o.2).map .tup) := id rfl
theorem q_rR1 {m : Env → T D} {ρ : Env} : rR1 m ρ = (m ρ).bind fun d => (toI d).bind fun i => .ret (0, i) := id rfl
theorem q_rR2 {m n : Env → T D} {ρ : Env} : rR2 m n ρ = (m ρ).bind fun d => (n ρ).bind fun d' => (toI d).bind fun i => (toI d').bind fun j => .ret (i, j) := id rfl
theorem q_sApp {i : Nat} {me : Env → T D} {ρ : Env} : sApp i me ρ = match ρ[i]? with
  | some (.own ds) => (me ρ).bind fun d => if ds.length < 16777216 then .ret (.nx (ρ.set i (.own (ds ++ [d])))) else .bad
  | _ => .bad := id rfl
theorem q_sExt {i : Nat} {me : Env → T D} {ρ : Env} : sExt i me ρ = match ρ[i]? with
  | some (.own ds) => (me ρ).bind fun d => match d with
    | .lst es => if ds.length + es.length ≤ 16777216 then .ret (.nx (ρ.set i (.own (ds ++ es)))) else .bad
    | _ => .bad
  | _ => .bad := id rfl
theorem q_sPop {i : Nat} {g : D → Env → Option Env} {ρ : Env} : sPop i g ρ = match ρ[i]? with
  | some (.own ds) => match ds[ds.length - 1]? with
    | some d => match g d (ρ.set i (.own ds.dropLast)) with
      | some ρ' => .ret (.nx ρ')
      | none => .bad
    | none => .bad
  | _ => .bad := id rfl
theorem q_iIt {m : Env → T D} {ρ : Env} : iIt m ρ = (m ρ).bind fun d => .opt (dItems d) := id rfl
theorem q_iZp {ms : Env → T (List D)} {ρ : Env} : iZp ms ρ = (ms ρ).bind fun l => match l with
  | [x, y] => .opt (dZip x y)
  | _ => .bad := id rfl
theorem q_eScr {i : Nat} {lo hi : Env → T (Option Int)} {ρ : Env} : eScr i lo hi ρ = match ρ[i]? with
  | some (.scr ns) => (lo ρ).bind fun l => (hi ρ).bind fun u => .ret ((cutL ns l u).map .int)
  | _ => .bad := id rfl
end PL
namespace Gk95
open PySem PySem.Spec PyProof.Rows L2 PL
/-! ### the text -/
def topS (i : Nat) : Stmt := PySem.Challenge.pw_ballrooms_k95_whole_fixed_steps_and_roun.main.body.getD i (.Pass ⟨0, 0, 0, 0⟩)
abbrev c_MOST_FIXED : D := .int 60
abbrev c_MOST_ROUNDS : D := .int 7
abbrev c_MOST_SOUGHT : D := .int 20
abbrev c_MOST_STEPS : D := .int 9
abbrev c_MOST_TRIED : D := .int 200
/-! ### the runs -/
def b__law_hand : PL.Env → T Fl :=
 sSeq (sSetO 1 (eLc [2] (eScr 0 (pN) (pS (eC (.int 63)))) (gN 2) (bYes) (e1 dAbs (e1 dInt (eVp 2)))))
 (sFrz 1 (sRetO (eLst (aC (eV 1) (aC (eC (.int 0)) (aC (eC (.int 0)) (aC (e2 dAdd (eC (.int 97)) (e2 dMulI (eC (.int 5)) (e1 dLen (eVp 1)))) (aC (eC (.int 0)) (aN)))))))))
def b__law_draw : PL.Env → T Fl :=
 sSeq (sIf (bAnd (eF (e2 dEq (e2 dAt (eVp 0) (eC (.int 2))) (eC (.int 0)))) (eF (e2 dLt (e2 dAt (eVp 0) (eC (.int 1))) (e1 dLen (e2 dAt (eVp 0) (eC (.int 0)))))))
 (sSeq (sAsg (gN 2) (e2 dAt (e2 dAt (eVp 0) (eC (.int 0))) (e2 dAt (eVp 0) (eC (.int 1)))))
 (sSeq (sStI 0 (eC (.int 1)) (e2 dAdd (e2 dAt (eVp 0) (eC (.int 1))) (eC (.int 1))))
 (sSeq (sStI 0 (eC (.int 3)) (e2 dMod (e1 dInt (e2 dAdd (e2 dAdd (e2 dMulI (e2 dAt (eVp 0) (eC (.int 3))) (eC (.int 48271))) (eVp 2)) (eC (.int 31)))) (eC (.int 2147483647))))
 (sIf (eF (e2 dGe (eVp 2) (e2 dPow (eC (.int 10)) (eC (.int 18)))))
 (sStI 0 (eC (.int 2)) (eV 2))
 (sNx)))))
 (sNx))
 (sSeq (sIf (eF (e2 dGt (e2 dAt (eVp 0) (eC (.int 2))) (eC (.int 0))))
 (sSeq (sAsg (gN 3) (e2 dMod (e1 dInt (e2 dAt (eVp 0) (eC (.int 2)))) (eVp 1)))
 (sSeq (sStI 0 (eC (.int 2)) (e2 dFdiv (e2 dAt (eVp 0) (eC (.int 2))) (eVp 1)))
 (sRetV 3)))
 (sNx))
 (sSeq (sStI 0 (eC (.int 4)) (e2 dAdd (e2 dAt (eVp 0) (eC (.int 4))) (eC (.int 1))))
 (sSeq (sAsg (gN 4) (e2 dMod (e1 dInt (e2 dMulI (e1 dInt (e2 dAdd (e2 dAt (eVp 0) (eC (.int 3))) (e2 dMulI (eC (.int 6151)) (e2 dAt (eVp 0) (eC (.int 4)))))) (eC (.int 40692)))) (eC (.int 2147483399))))
 (sSeq (sAsg (gN 4) (e2 dMod (e1 dInt (e2 dMulI (eVp 4) (e2 dAdd (e2 dFdiv (eVp 4) (eC (.int 1223))) (eC (.int 52027))))) (eC (.int 2147483629))))
 (sSeq (sAsg (gN 4) (e2 dMod (e1 dInt (e2 dMulI (eVp 4) (e2 dAdd (e2 dFdiv (eVp 4) (eC (.int 2671))) (eC (.int 69621))))) (eC (.int 2147483647))))
 (sRet (e2 dMod (e1 dInt (e2 dFdiv (eVp 4) (eC (.int 32)))) (eVp 1))))))))
def b__law_game : PL.Env → T Fl :=
 sSeq (sAsg (gN 3) (eTup (aN)))
 (sSeq (sFor (iRg1 (e2 dAdd (eC (.int 1)) (eCall mDraw (aC (eV 0) (aC (eV 1) (aN)))))) (gN 4)
 (sSeq (sAsg (gN 5) (e2 dAdd (eC (.int 1)) (eCall mDraw (aC (eV 0) (aC (eC (.int 9)) (aN))))))
 (sAsg (gN 3) (e2 dAdd (eVp 3) (eTup (aC (eTup (aC (eV 5) (aC (e2 dMin2 (eC (.int 9)) (e2 dAdd (eVp 5) (eCall mDraw (aC (eV 0) (aC (eV 2) (aN)))))) (aN)))) (aN)))))))
 (sRetV 3))
def m__law_game : List D → T Rv := runFn 3 6 b__law_game
def b__law_is (m : List D → T Rv) : PL.Env → T Fl :=
 sSeq (sIf (eT (e1 (dIsBs [.tuple, .list]) (eVp 1)))
 (sSeq (sIf (bOr (eF (e2 dNe (e1 (dIsB .tuple) (eVp 0)) (e1 (dIsB .tuple) (eVp 1)))) (bNot (eT (e1 (dIsBs [.tuple, .list]) (eVp 0)))))
 (sRet (eC (.bl false)))
 (sNx))
 (sRet (eAnd (e2 dEq (e1 dLen (eVp 0)) (e1 dLen (eVp 1))) (e1 dAll (eL (eLc [3, 4] (iZp (aC (eV 0) (aC (eV 1) (aN)))) (gT 2 (gsC (gN 3) (gsC (gN 4) (gsN)))) (bYes) (eCall m (aC (eV 3) (aC (eV 4) (aN))))))))))
 (sNx))
 (sSeq (sIf (eT (e1 (dIsB .dict) (eVp 1)))
 (sSeq (sIf (bOr (bNot (eT (e1 (dIsB .dict) (eVp 0)))) (eF (e2 dNe (e1 dLen (eVp 0)) (e1 dLen (eVp 1)))))
 (sRet (eC (.bl false)))
 (sNx))
 (sRet (e1 dAll (eL (eLc [2] (iIt (eVp 1)) (gN 2) (bYes) (eAnd (e2 dIn (eVp 2) (eVp 0)) (eCall m (aC (e2 dAt (eVp 0) (eVp 2)) (aC (e2 dAt (eVp 1) (eVp 2)) (aN))))))))))
 (sNx))
 (sSeq (sIf (bOr (eT (e1 (dIsB .str) (eVp 1))) (eF (e2 dIsN (eVp 1) (eC .non))))
 (sRet (eAnd (e2 dEq (e1 (dIsB .str) (eVp 0)) (e1 (dIsB .str) (eVp 1))) (e2 dEq (eVp 0) (eVp 1))))
 (sNx))
 (sRet (eAnd (e1 (dIsB .int) (eVp 0)) (eAnd (e2 dEq (e1 (dIsB .bool) (eVp 0)) (e1 (dIsB .bool) (eVp 1))) (e2 dEq (eVp 0) (eVp 1)))))))
def m__law_is : Nat → List D → T Rv
  | 0 => fun _ => .bad
  | n + 1 => runFn 2 5 (b__law_is (m__law_is n))
def b_raw_fixed : PL.Env → T Fl :=
 sSeq (sAsg (gN 2) (eC (.int 0)))
 (sSeq (sFor (iRg2 (eC (.int 2)) (e2 dAdd (eVp 0) (eC (.int 1)))) (gN 3)
 (sAsg (gN 2) (e2 dMod (e2 dAdd (eVp 2) (eVp 1)) (eVp 3))))
 (sRetV 2))
def m_raw_fixed : List D → T Rv := runFn 2 4 b_raw_fixed
def b_is_integer : PL.Env → T Fl :=
 sRet (eAnd (e1 (dIsB .int) (eVp 0)) (eNot (e1 (dIsB .bool) (eVp 0))))
def m_is_integer : List D → T Rv := runFn 1 1 b_is_integer
def b_is_within : PL.Env → T Fl :=
 sRet (eAnd (eCall m_is_integer (aC (eV 0) (aN))) (eCh dLe dLe (eVp 1) (eVp 0) (eVp 2)))
def m_is_within : List D → T Rv := runFn 3 3 b_is_within
def b_fixed_winner : PL.Env → T Fl :=
 sSeq (sIf (bOr (bNot (eT (eCall m_is_within (aC (eV 0) (aC (eC (.int 1)) (aC (eC c_MOST_FIXED) (aN))))))) (bNot (eT (eCall m_is_within (aC (eV 1) (aC (eC (.int 1)) (aC (eC c_MOST_FIXED) (aN))))))))
 (sErr (Str.ofString "NoCount"))
 (sNx))
 (sRet (eCall m_raw_fixed (aC (eV 0) (aC (eV 1) (aN)))))
def m_fixed_winner : List D → T Rv := runFn 2 2 b_fixed_winner
def b__law_fixed : PL.Env → T Fl :=
 sSeq (sPar 2 3 (vD (eL (eLstRg (rR1 (eV 0))))) (vD (eC (.int 0))))
 (sSeq (sWhGo (eF (e2 dGt (e1 dLen (eVp 2)) (eC (.int 1))))
 (sSeq (sAsg (gN 3) (e2 dMod (e1 dInt (e2 dSub (e2 dAdd (eVp 3) (eVp 1)) (eC (.int 1)))) (e1 dLen (eVp 2))))
 (sSeq (sAsg (gN 2) (e2 dAdd (eSlG (eVp 2) (pN) (pS (eV 3))) (eSlG (eVp 2) (pS (e2 dAdd (eVp 3) (eC (.int 1)))) (pN))))
 (sAsg (gN 3) (e2 dMod (e1 dInt (eVp 3)) (e1 dLen (eVp 2)))))) 100000)
 (sRet (e2 dAt (eVp 2) (eC (.int 0)))))
def m__law_fixed : List D → T Rv := runFn 2 4 b__law_fixed
def b_steps_for : PL.Env → T Fl :=
 sSeq (sIf (bNot (eT (eCall m_is_within (aC (eV 0) (aC (eC (.int 1)) (aC (eC c_MOST_SOUGHT) (aN)))))))
 (sErr (Str.ofString "NoCount"))
 (sNx))
 (sSeq (sIf (bNot (eT (eCall m_is_within (aC (eV 1) (aC (eC (.int 0)) (aC (e2 dSub (eVp 0) (eC (.int 1))) (aN)))))))
 (sErr (Str.ofString "NoDancer"))
 (sNx))
 (sSeq (sSetO 2 (eLc [3] (iRg2 (eC (.int 1)) (e2 dAdd (eC c_MOST_TRIED) (eC (.int 1)))) (gN 3) (eF (e2 dEq (eCall m_raw_fixed (aC (eV 0) (aC (eV 3) (aN)))) (eVp 1))) (eV 3)))
 (sFrz 2 (sRet (eIf (eT (eVp 2)) (e2 dAt (eVp 2) (eC (.int 0))) (eC .non))))))
def m_steps_for : List D → T Rv := runFn 2 4 b_steps_for
def b_is_sized : PL.Env → T Fl :=
 sRet (eAnd (e1 (dIsB .tuple) (eVp 0)) (eCh dLe dLe (eVp 1) (e1 dLen (eVp 0)) (eVp 2)))
def m_is_sized : List D → T Rv := runFn 3 3 b_is_sized
def b_is_stop_round : PL.Env → T Fl :=
 sRet (eAnd (eCall m_is_sized (aC (eV 0) (aC (eC (.int 2)) (aC (eC (.int 2)) (aN))))) (eAnd (eCall m_is_within (aC (e2 dAt (eVp 0) (eC (.int 0))) (aC (eC (.int 1)) (aC (eC c_MOST_STEPS) (aN))))) (eCall m_is_within (aC (e2 dAt (eVp 0) (eC (.int 1))) (aC (e2 dAt (eVp 0) (eC (.int 0))) (aC (eC c_MOST_STEPS) (aN)))))))
def m_is_stop_round : List D → T Rv := runFn 1 1 b_is_stop_round
def b_is_chair_game : PL.Env → T Fl :=
 sRet (eAnd (eCall m_is_sized (aC (eV 0) (aC (eC (.int 1)) (aC (eC c_MOST_ROUNDS) (aN))))) (e1 dAll (eL (eLc [1] (iIt (eVp 0)) (gN 1) (bYes) (eCall m_is_stop_round (aC (eV 1) (aN)))))))
def m_is_chair_game : List D → T Rv := runFn 1 2 b_is_chair_game
def b_check_game : PL.Env → T Fl :=
 sIf (bNot (eT (eCall m_is_chair_game (aC (eV 0) (aN)))))
 (sErr (Str.ofString "NoGame"))
 (sNx)
def m_check_game : List D → T Rv := runFn 1 1 b_check_game
def b_with_round : PL.Env → T Fl :=
 sSeq (sDrop (eCall m_check_game (aC (eV 0) (aN))))
 (sSeq (sIf (bNot (eT (eCall m_is_stop_round (aC (eTup (aC (eV 1) (aC (eV 2) (aN)))) (aN)))))
 (sErr (Str.ofString "NoRound"))
 (sNx))
 (sSeq (sIf (eF (e2 dEq (e1 dLen (eVp 0)) (eC c_MOST_ROUNDS)))
 (sErr (Str.ofString "Full"))
 (sNx))
 (sRet (e2 dAdd (eTup (aC (eTup (aC (eV 1) (aC (eV 2) (aN)))) (aN))) (eVp 0)))))
def m_with_round : List D → T Rv := runFn 3 3 b_with_round
def b_without_round : PL.Env → T Fl :=
 sSeq (sDrop (eCall m_check_game (aC (eV 0) (aN))))
 (sSeq (sIf (eF (e2 dLt (e1 dLen (eVp 0)) (eC (.int 2))))
 (sErr (Str.ofString "TooFew"))
 (sNx))
 (sRet (eSlG (eVp 0) (pS (eC (.int 1))) (pN))))
def m_without_round : List D → T Rv := runFn 1 1 b_without_round
def b_law : PL.Env → T Fl :=
 sSeq (sFor (iRg1 (eC (.int 6))) (gN 2)
 (sSeq (sPar 3 4 (vD (e2 dAdd (eC (.int 1)) (eCall mDraw (aC (eV 1) (aC (eC (.int 60)) (aN)))))) (vD (e2 dAdd (eC (.int 1)) (eCall mDraw (aC (eV 1) (aC (eC (.int 60)) (aN)))))))
 (sSeq (sIf (bNot (eT (eCall (m__law_is 8) (aC (eCall m_fixed_winner (aC (eV 3) (aC (eV 4) (aN)))) (aC (eCall m__law_fixed (aC (eV 3) (aC (eV 4) (aN)))) (aN))))))
 (sRet (eC (.bl false)))
 (sNx))
 (sSeq (sAsg (gN 5) (e2 dAdd (eC (.int 1)) (eCall mDraw (aC (eV 1) (aC (eC (.int 12)) (aN))))))
 (sSeq (sPar 6 7 (vD (eCall mDraw (aC (eV 1) (aC (eV 5) (aN))))) (vD (eC .non)))
 (sSeq (sFor (iRg3 (eC (.int 200)) (eC (.int 0)) (e1 dNeg (eC (.int 1)))) (gN 8)
 (sAsg (gN 7) (eIf (eF (e2 dEq (eCall m__law_fixed (aC (eV 5) (aC (eV 8) (aN)))) (eVp 6))) (eV 8) (eV 7))))
 (sSeq (sIf (bNot (eT (eCall (m__law_is 8) (aC (eCall m_steps_for (aC (eV 5) (aC (eV 6) (aN)))) (aC (eV 7) (aN))))))
 (sRet (eC (.bl false)))
 (sNx))
 (sSeq (sAsg (gN 9) (eCall m__law_game (aC (eV 1) (aC (eC (.int 6)) (aC (eC (.int 4)) (aN))))))
 (sSeq (sAsg (gN 10) (e2 dAdd (eC (.int 1)) (eCall mDraw (aC (eV 1) (aC (eC (.int 9)) (aN))))))
 (sSeq (sAsg (gN 11) (eTup (aC (eV 10) (aC (e2 dMin2 (eC (.int 9)) (e2 dAdd (eVp 10) (eCall mDraw (aC (eV 1) (aC (eC (.int 5)) (aN)))))) (aN)))))
 (sSeq (sIf (bNot (eT (eCall (m__law_is 8) (aC (eCall m_with_round (aC (eV 9) (aC (e2 dAt (eVp 11) (eC (.int 0))) (aC (e2 dAt (eVp 11) (eC (.int 1))) (aN))))) (aC (e2 dAdd (eTup (aC (eV 11) (aN))) (eVp 9)) (aN))))))
 (sRet (eC (.bl false)))
 (sNx))
 (sIf (bAnd (eF (e2 dGt (e1 dLen (eVp 9)) (eC (.int 1)))) (bNot (eT (eCall (m__law_is 8) (aC (eCall m_without_round (aC (eV 9) (aN))) (aC (eSlG (eVp 9) (pS (eC (.int 1))) (pN)) (aN)))))))
 (sRet (eC (.bl false)))
 (sNx)))))))))))))
 (sRet (eC (.bl true)))
end Gk95
namespace Gk95
open PySem PySem.Spec PyProof.Rows L2 PL
local macro_rules | `(tactic| walk_at "pl") => `(tactic| simp only [q_ret, q_err, q_bad, q_draw, q_nx, q_ct, q_bk, q_rt, q_alret, q_eV, q_eVp, q_eC, q_e2, q_e1, q_e2O, q_e1O, q_eCh, q_eT, q_eF, q_bNot, q_bAnd, q_bOr, q_bYes, q_eAnd, q_eOr, q_eNot, q_eIf, q_aN, q_aC, q_eTup, q_eLst, q_eL, q_eD, q_eCall, q_eCallO, q_eCallK, q_runFn, q_sSeq, q_sIf, q_sAsg, q_sSetO, q_sSetK, q_sRet, q_sRetO, q_sRetK, q_sRetV, q_sRetN, q_sErr, q_sBk, q_sCt, q_sNx, q_sDrop, q_sFrz, q_sPar, q_vD, q_vO, q_vK, q_sStI, q_pN, q_pS, q_eSl, q_eSlG, q_eLstRg, q_eTupRg, q_rR1, q_rR2, q_sApp, q_sExt, q_sPop, q_iIt, q_iZp, T.opt, toB, toI, dTru, rvD, rvL, rvK, ends, gN, gT, gsC, gsN, frz, okSl, dSlG, dSl, dSlL, dAdd, dSub, dMod, dFdiv, dPow, dLt, dLe, dGt, dGe, dEq, dNe, PL.plain, PL.plains, D.eqv, D.eqvs, dNeg, dAt, dLen, dAbs, dInt, dTuple, dList, dMin2, dMax2, dIsB, dIsBs, isB, isBs, dIsN, dIsNotN, isNon, mDraw, wipeR, T.ne, List.getElem?_cons_zero, List.getElem?_cons_succ, List.set_cons_zero, List.set_cons_succ, List.map_cons, List.map_nil, List.length_cons, List.length_nil, List.length_map, List.replicate_succ, List.replicate_zero, List.cons_append, List.nil_append, if_true, if_false, ite_true, ite_false, reduceIte, Option.map_some, Option.map_none, Bool.and_self, Bool.and_true, Bool.true_and, Bool.not_true, Bool.not_false, Bool.false_eq_true, Bool.and_false, Bool.false_and, reduceCtorEq, Nat.reduceAdd, Nat.reduceSub, Nat.reduceLeDiff, atI0, atI1, atI2, atI3, atI4, ixN_l0, ixN_l1, ixN_l2, ixN_l3, ixN_l4, decide_true, decide_false, beq_self_eq_true, Bool.true_beq, Bool.false_beq, Int.reduceLT, Int.reduceLE, Int.reduceAdd, Int.reduceNeg, Int.reduceSub, Int.reduceMul])
theorem handmade : HandMade b__law_hand 2 := handmade0
theorem draws : Draws b__law_draw 3 := draws0
/-- the winner's place -/
def J (k : Int) : Nat → Int
  | 0 => 0
  | 1 => 0
  | n + 2 => (J k (n + 1) + k) % ((n : Int) + 2)
theorem J_lt {k : Int} : ∀ {n : Nat}, 1 ≤ n → 0 ≤ J k n ∧ J k n < n
  | 0, h => by omega
  | 1, _ => ⟨Int.le_refl _, Int.zero_lt_one⟩
  | n + 2, _ => ⟨Int.emod_nonneg _ (by omega), by have := Int.emod_lt_of_pos (J k (n + 1) + k) (show (0 : Int) < (n : Int) + 2 by omega); exact this⟩
theorem within (n lo hi : Int) : m_is_within [.int n, .int lo, .int hi] = .ret (.d (.bl (decide (lo ≤ n) && decide (n ≤ hi)))) := by
  unfold m_is_within b_is_within m_is_integer b_is_integer
  walk_at "pl"
  by_cases h : lo ≤ n
  · simp only [h]
    walk_at "pl"
  · simp only [h]
    walk_at "pl"
theorem raw_go (k : Int) : ∀ (m : Nat) (j : Nat) (x : Sl), 1 ≤ j → ∃ x', sForGo (gN 3) (sAsg (gN 2) (e2 dMod (e2 dAdd (eVp 2) (eVp 1)) (eVp 3))) (rgL ((j : Int) + 1) m) [.d (.int n), .d (.int k), .d (.int (J k j)), x] = .ret (.nx [.d (.int n), .d (.int k), .d (.int (J k (j + m))), x'])
  | 0, j, x, _ => ⟨x, rfl⟩
  | m + 1, j, x, hj => by
    obtain ⟨x', e⟩ := raw_go (n := n) k m (j + 1) (.d (.int ((j : Int) + 1))) (by omega)
    refine ⟨x', ?_⟩
    rw [rgL_succ, forGo_cons (ρ1 := [.d (.int n), .d (.int k), .d (.int (J k j)), .d (.int ((j : Int) + 1))]) (ρ2 := [.d (.int n), .d (.int k), .d (.int (J k (j + 1))), .d (.int ((j : Int) + 1))]) rfl ?_]
    · have e' : ((j + 1 : Nat) : Int) + 1 = (j : Int) + 1 + 1 := rfl
      rw [e', show j + 1 + m = j + (m + 1) by omega] at e
      exact e
    · walk_at "pl"
      rw [if_pos (by omega)]
      walk_at "pl"
      match j, hj with
      | j + 1, _ => rfl
theorem rf1 {n : Nat} (k : Int) (h : 1 ≤ n) (hn : n < 1000) : iRg2 (eC (D.int 2)) (e2 dAdd (eVp 0) (eC (D.int 1))) [.d (.int n), .d (.int k), .d (.int 0), .un] = .ret (rgL 2 ((n : Int) + 1 - 2).toNat) := rg2_eq rfl rfl (by decide) (by omega)
theorem rf2 {n : Nat} (k : Int) (h : 1 ≤ n) (hn : n < 1000) : ((n : Int) + 1 - 2).toNat = n - 1 := by omega
theorem rf3 {n : Nat} (k : Int) (h : 1 ≤ n) : ∃ x', sForGo (gN 3) (sAsg (gN 2) (e2 dMod (e2 dAdd (eVp 2) (eVp 1)) (eVp 3))) (rgL 2 (n - 1)) [.d (.int n), .d (.int k), .d (.int 0), .un] = .ret (.nx [.d (.int n), .d (.int k), .d (.int (J k n)), x']) := by
  obtain ⟨x', e⟩ := raw_go (n := n) k (n - 1) 1 .un (Nat.le_refl _)
  have e3 : 1 + (n - 1) = n := by omega
  rw [e3] at e
  exact ⟨x', e⟩
theorem raw_open {n k : Int} : m_raw_fixed [.int n, .int k] = ((sFor (iRg2 (eC (D.int 2)) (e2 dAdd (eVp 0) (eC (D.int 1)))) (gN 3) (sAsg (gN 2) (e2 dMod (e2 dAdd (eVp 2) (eVp 1)) (eVp 3))) [.d (.int n), .d (.int k), .d (.int 0), .un]).bind (goOn (sRetV 2))).bind ends := by
  unfold m_raw_fixed b_raw_fixed
  walk_at "pl"
theorem raw_fixed {n : Nat} (k : Int) (h : 1 ≤ n) (hn : n < 1000) : m_raw_fixed [.int n, .int k] = .ret (.d (.int (J k n))) := by
  obtain ⟨x', e⟩ := rf3 k h
  rw [raw_open, for_eq (rf1 k h hn), rf2 k h hn, e]
  rfl
theorem body_eq {n k t u l l' a : Int} {row row' : List D} (hl : (row.length : Int) = l) (hl0 : 0 < l) (ht : (a + k - 1) % l = t) (hs : ((row.take t.toNat ++ row.drop (t.toNat + 1)).length : Int) = l') (hl1 : 0 < l') (hu : t % l' = u) (ht0 : 0 ≤ t) (htl : t < l) (hb : row.length ≤ 1000) :
    (sSeq (sAsg (gN 3) (e2 dMod (e1 dInt (e2 dSub (e2 dAdd (eVp 3) (eVp 1)) (eC (.int 1)))) (e1 dLen (eVp 2))))
        (sSeq (sAsg (gN 2) (e2 dAdd (eSlG (eVp 2) (pN) (pS (eV 3))) (eSlG (eVp 2) (pS (e2 dAdd (eVp 3) (eC (.int 1)))) (pN))))
        (sAsg (gN 3) (e2 dMod (e1 dInt (eVp 3)) (e1 dLen (eVp 2)))))) [.d (.int n), .d (.int k), .d (.lst row), .d (.int a)] = .ret (.nx [.d (.int n), .d (.int k), .d (.lst (row.take t.toNat ++ row.drop (t.toNat + 1))), .d (.int u)]) := by
  have c1 : cutL row none (some t) = row.take t.toNat := by
    have := cut_to (xs := row) (a := t.toNat) (by omega)
    rwa [show ((t.toNat : Nat) : Int) = t by omega] at this
  have c2 : cutL row (some (t + 1)) none = row.drop (t.toNat + 1) := by
    have := cut_from (xs := row) (a := t.toNat + 1) (by omega)
    rwa [show ((t.toNat + 1 : Nat) : Int) = t + 1 by omega] at this
  walk_at "pl"
  simp only [hl, hl0, ht]
  walk_at "pl"
  simp only [c1, c2]
  rw [if_pos (by rw [List.length_take, List.length_drop]; omega)]
  walk_at "pl"
  simp only [hs, hl1, hu]
  walk_at "pl"
theorem mod_lo {x M : Int} (h : 0 ≤ x) (h' : x < M) : x % M = x := Int.emod_eq_of_lt h h'
theorem mod_hi {x M : Int} (h : M ≤ x) (h' : x < 2 * M) : x % M = x - M := by
  have e : x = (x - M) + M := by omega
  have e2 : (x - M + M) % M = (x - M) % M := Int.add_emod_right (x - M) M
  rw [← e] at e2
  rw [e2]
  exact Int.emod_eq_of_lt (by omega) (by omega)
theorem at_skip {row : List D} {t z : Nat} {x : D} (ht : t < row.length) (e : (row.take t ++ row.drop (t + 1))[z]? = some x) : row[if z < t then z else z + 1]? = some x := by
  by_cases h : z < t
  · rw [if_pos h]
    rw [List.getElem?_append_left (by rw [List.length_take]; omega), List.getElem?_take, if_pos h] at e
    exact e
  · rw [if_neg h]
    rw [List.getElem?_append_right (by rw [List.length_take]; omega), List.length_take, Nat.min_eq_left (by omega), List.getElem?_drop] at e
    rw [show t + 1 + (z - t) = z + 1 by omega] at e
    exact e
theorem place {a k y t u m : Int} (hm : 0 ≤ m) (ht : (a + k - 1) % (m + 2) = t) (hu : t % (m + 1) = u) (h0 : 0 ≤ t) (h1 : t < m + 2) (hy : 0 ≤ y) (hy1 : y < m + 1) :
    (a + (y + k) % (m + 2)) % (m + 2) = if (u + y) % (m + 1) < t then (u + y) % (m + 1) else (u + y) % (m + 1) + 1 := by
  have e1 : (a + (y + k) % (m + 2)) % (m + 2) = (t + (1 + y)) % (m + 2) := by
    rw [← ht, Int.emod_add_emod, Int.add_emod_emod]
    congr 1
    omega
  have e2 : (u + y) % (m + 1) = (t + y) % (m + 1) := by rw [← hu, Int.emod_add_emod]
  rw [e1, e2]
  by_cases h : t + y < m + 1
  · rw [mod_lo (x := t + y) (by omega) h, mod_lo (x := t + (1 + y)) (by omega) (by omega), if_neg (by omega)]
    omega
  · rw [mod_hi (x := t + y) (by omega) (by omega), mod_hi (x := t + (1 + y)) (by omega) (by omega), if_pos (by omega)]
    omega
theorem wh_go {n k : Int} : ∀ (m fuel : Nat) (row : List D) (a : Nat), row.length = m + 1 → row.length ≤ 1000 → a < m + 1 → m < fuel →
    ∃ (x : D) (a' : D), row[((a + J k (m + 1)) % (m + 1)).toNat]? = some x ∧
      sWhGo (eF (e2 dGt (e1 dLen (eVp 2)) (eC (.int 1))))
        (sSeq (sAsg (gN 3) (e2 dMod (e1 dInt (e2 dSub (e2 dAdd (eVp 3) (eVp 1)) (eC (.int 1)))) (e1 dLen (eVp 2))))
        (sSeq (sAsg (gN 2) (e2 dAdd (eSlG (eVp 2) (pN) (pS (eV 3))) (eSlG (eVp 2) (pS (e2 dAdd (eVp 3) (eC (.int 1)))) (pN))))
        (sAsg (gN 3) (e2 dMod (e1 dInt (eVp 3)) (e1 dLen (eVp 2)))))) fuel [.d (.int n), .d (.int k), .d (.lst row), .d (.int a)] =
      .ret (.nx [.d (.int n), .d (.int k), .d (.lst [x]), .d a'])
  | 0, f + 1, row, a, hl, hb, ha, _ => by
    match row, hl with
    | [x], _ =>
      refine ⟨x, .int a, ?_, ?_⟩
      · simp
      · exact whGo_false rfl
  | m + 1, f + 1, row, a, hl, hb, ha, hf => by
    have hp : (0 : Int) < (m : Int) + 2 := by omega
    obtain ⟨t, ht⟩ : ∃ t : Nat, ((a : Int) + k - 1) % ((m : Int) + 2) = t := ⟨(((a : Int) + k - 1) % ((m : Int) + 2)).toNat, by have := Int.emod_nonneg ((a : Int) + k - 1) (show (m : Int) + 2 ≠ 0 by omega); omega⟩
    have htl : t < m + 2 := by have := Int.emod_lt_of_pos ((a : Int) + k - 1) hp; omega
    obtain ⟨u, hu⟩ : ∃ u : Nat, (t : Int) % ((m : Int) + 1) = u := ⟨((t : Int) % ((m : Int) + 1)).toNat, by have := Int.emod_nonneg (t : Int) (show (m : Int) + 1 ≠ 0 by omega); omega⟩
    have hul : u < m + 1 := by have := Int.emod_lt_of_pos (t : Int) (show (0 : Int) < (m : Int) + 1 by omega); omega
    have hrow : (row.take t ++ row.drop (t + 1)).length = m + 1 := by rw [List.length_append, List.length_take, List.length_drop]; omega
    obtain ⟨x, a', e1, e2⟩ := wh_go m f (row.take t ++ row.drop (t + 1)) u hrow (by omega) hul (by omega)
    refine ⟨x, a', ?_, ?_⟩
    · have hy := J_lt (k := k) (n := m + 1) (by omega)
      have hpl := place (a := a) (k := k) (y := J k (m + 1)) (t := t) (u := u) (m := m) (by omega) ht hu (by omega) (by omega) hy.1 (by omega)
      have hz : 0 ≤ ((u : Int) + J k (m + 1)) % ((m : Int) + 1) := Int.emod_nonneg _ (by omega)
      have e3 := at_skip (by omega) e1
      have e4 : J k (m + 1 + 1) = (J k (m + 1) + k) % ((m : Int) + 2) := rfl
      have e5 : (((m + 1 : Nat) : Int) + 1) = (m : Int) + 2 := by omega
      rw [e4, e5, hpl]
      rw [← e3]
      generalize ((u : Int) + J k (m + 1)) % ((m : Int) + 1) = z at *
      congr 1
      split <;> split <;> omega
    · rw [whGo_true (ρ2 := [.d (.int n), .d (.int k), .d (.lst (row.take t ++ row.drop (t + 1))), .d (.int u)]) ?_ ?_]
      · exact e2
      · walk_at "pl"
        rw [hl, decide_eq_true (by omega)]
      · have := body_eq (n := n) (k := k) (t := t) (u := u) (l := (m : Int) + 2) (l' := (m : Int) + 1) (a := a) (row := row) (row' := row) (by omega) hp ht (by rw [Int.toNat_natCast, hrow]; rfl) (by omega) hu (by omega) (by omega) hb
        rwa [Int.toNat_natCast] at this
theorem fixed_open {n k : Int} : m__law_fixed [.int n, .int k] = ((T.opt ((dRg 0 n).map D.lst)).bind fun d => ((sSeq (sWhGo (eF (e2 dGt (e1 dLen (eVp 2)) (eC (.int 1))))
        (sSeq (sAsg (gN 3) (e2 dMod (e1 dInt (e2 dSub (e2 dAdd (eVp 3) (eVp 1)) (eC (.int 1)))) (e1 dLen (eVp 2))))
        (sSeq (sAsg (gN 2) (e2 dAdd (eSlG (eVp 2) (pN) (pS (eV 3))) (eSlG (eVp 2) (pS (e2 dAdd (eVp 3) (eC (.int 1)))) (pN))))
        (sAsg (gN 3) (e2 dMod (e1 dInt (eVp 3)) (e1 dLen (eVp 2)))))) 100000)
        (sRet (e2 dAt (eVp 2) (eC (.int 0))))) [.d (.int n), .d (.int k), .d d, .d (.int 0)]).bind ends) := by
  unfold m__law_fixed b__law_fixed
  walk_at "pl"
  cases dRg 0 n with
  | none => walk_at "pl"
  | some ds => walk_at "pl"
theorem law_fixed {n : Nat} (k : Int) (h : 1 ≤ n) (hn : n < 1000) : m__law_fixed [.int n, .int k] = .ret (.d (.int (J k n))) := by
  have hJ := J_lt (k := k) h
  have hl : (rgL 0 n).length = n - 1 + 1 := by rw [rgL_len]; omega
  obtain ⟨x, a', e1, e2⟩ := wh_go (n := n) (k := k) (n - 1) 100000 (rgL 0 n) 0 hl (by rw [rgL_len]; omega) (by omega) (by omega)
  have e3 : (((0 : Nat) : Int) + J k (n - 1 + 1)) % (((n - 1 : Nat) : Int) + 1) = J k n := by
    rw [show n - 1 + 1 = n by omega, show ((n - 1 : Nat) : Int) + 1 = n by omega, Int.emod_eq_of_lt (by omega) (by omega)]
    omega
  rw [e3, rgL_at (by omega)] at e1
  have e4 : x = .int (J k n) := by
    rw [← Option.some.inj e1]
    congr 1
    omega
  rw [fixed_open, dRg_eq (by decide) (by omega), show ((n : Int) - 0).toNat = n by omega]
  show T.bind (T.bind (sWhGo _ _ _ _) _) _ = _
  have e2' : sWhGo _ _ 100000 [.d (.int n), .d (.int k), .d (.lst (rgL 0 n)), .d (.int 0)] = _ := e2
  rw [e2', e4]
  rfl
theorem is_same (n : Nat) (d : D) (h : okD n d = true) : m__law_is (n + 1) [d, d] = .ret (.d (.bl true)) := isA_same (Dc := isADc) (f := m__law_is) (fun _ => rfl) n d h
theorem is_int (i : Int) : m__law_is 8 [.int i, .int i] = .ret (.d (.bl true)) := is_same 7 _ rfl
theorem fixed_winner {n : Nat} {k : Int} (h : 1 ≤ n) (hn : n ≤ 60) (hk : 1 ≤ k) (hk' : k ≤ 60) : m_fixed_winner [.int n, .int k] = .ret (.d (.int (J k n))) := by
  have r := raw_fixed (n := n) k h (by omega)
  have w1 := within n 1 60
  have w2 := within k 1 60
  rw [decide_eq_true (show (1 : Int) ≤ n by omega), decide_eq_true (show (n : Int) ≤ 60 by omega)] at w1
  rw [decide_eq_true hk, decide_eq_true hk'] at w2
  generalize (n : Int) = N at *
  unfold m_fixed_winner b_fixed_winner
  walk_at "pl"
  repeat (first | walk_at "pl" | simp only [w1, w2, r])
def okR (d : D) : Prop := ∃ a b : Int, d = .tup [.int a, .int b] ∧ 1 ≤ a ∧ a ≤ b ∧ b ≤ 9
theorem sized (ds : List D) (lo hi : Int) : m_is_sized [.tup ds, .int lo, .int hi] = .ret (.d (.bl (decide (lo ≤ ds.length) && decide ((ds.length : Int) ≤ hi)))) := by
  unfold m_is_sized b_is_sized
  walk_at "pl"
  by_cases h : lo ≤ ds.length
  · simp only [h]
    walk_at "pl"
  · simp only [h]
    walk_at "pl"
theorem stop_round {d : D} (h : okR d) : m_is_stop_round [d] = .ret (.d (.bl true)) := by
  obtain ⟨a, b, rfl, h1, h2, h3⟩ := h
  have s := sized [.int a, .int b] 2 2
  have w1 := within a 1 9
  have w2 := within b a 9
  rw [decide_eq_true h1, decide_eq_true (by omega)] at w1
  rw [decide_eq_true h2, decide_eq_true h3] at w2
  have s' : m_is_sized [.tup [.int a, .int b], .int 2, .int 2] = .ret (.d (.bl true)) := s
  unfold m_is_stop_round b_is_stop_round
  walk_at "pl"
  repeat (first | walk_at "pl" | simp only [s', w1, w2])
theorem chair_game {ds : List D} (h : ∀ d ∈ ds, okR d) (h1 : 1 ≤ ds.length) (h2 : ds.length ≤ 7) : m_is_chair_game [.tup ds] = .ret (.d (.bl true)) := by
  have s := sized ds 1 7
  rw [decide_eq_true (by omega), decide_eq_true (by omega)] at s
  have e : eLc [1] (iIt (eVp 0)) (gN 1) (bYes) (eCall m_is_stop_round (aC (eV 1) (aN))) [.d (.tup ds), .un] = .ret (ds.map fun _ => .bl true) := by
    unfold eLc
    show T.bind (.ret ds) _ = _
    rw [ret_bind, if_pos (by omega)]
    exact lcGo_map fun d hd => ⟨[.d (.tup ds), .d d], rfl, rfl, by walk_at "pl"; rw [stop_round (h d hd)]; rfl⟩
  unfold m_is_chair_game b_is_chair_game
  walk_at "pl"
  repeat (first | walk_at "pl" | simp only [s, e, all_flags])
theorem check_game {ds : List D} (h : ∀ d ∈ ds, okR d) (h1 : 1 ≤ ds.length) (h2 : ds.length ≤ 7) : m_check_game [.tup ds] = .ret (.d .non) := by
  unfold m_check_game b_check_game
  walk_at "pl"
  rw [chair_game h h1 h2]
  walk_at "pl"
theorem with_round {ds : List D} {a b : Int} (h : ∀ d ∈ ds, okR d) (h1 : 1 ≤ ds.length) (h2 : ds.length ≤ 6) (hr : 1 ≤ a ∧ a ≤ b ∧ b ≤ 9) : m_with_round [.tup ds, .int a, .int b] = .ret (.d (.tup (.tup [.int a, .int b] :: ds))) := by
  have c := check_game h h1 (by omega)
  have r : m_is_stop_round [.tup [.int a, .int b]] = .ret (.d (.bl true)) := stop_round ⟨a, b, rfl, hr⟩
  have n1 : ((ds.length : Int) = 7) = False := eq_false (by omega)
  have n2 : (1 + ds.length ≤ 16777216) = True := eq_true (by omega)
  unfold m_with_round b_with_round
  repeat (first | walk_at "pl" | simp only [c, r, beq_int, n1, n2, Nat.reduceLeDiff])
theorem without_round {d : D} {ds : List D} (h : ∀ x ∈ d :: ds, okR x) (h1 : 1 ≤ ds.length) (h2 : ds.length ≤ 6) : m_without_round [.tup (d :: ds)] = .ret (.d (.tup ds)) := by
  have c := check_game h (by simp) (by simp; omega)
  have n1 : (((ds.length + 1 : Nat) : Int) < 2) = False := eq_false (by omega)
  have n2 : cutL (d :: ds) (some 1) none = ds := cut_from (xs := d :: ds) (a := 1) (by simp)
  unfold m_without_round b_without_round
  repeat (first | walk_at "pl" | simp only [c, n1, n2])
theorem rawI {N k : Int} (h : 1 ≤ N) (hn : N < 1000) : m_raw_fixed [.int N, .int k] = .ret (.d (.int (J k N.toNat))) := by
  have := raw_fixed (n := N.toNat) k (by omega) (by omega)
  rwa [show ((N.toNat : Nat) : Int) = N by omega] at this
theorem lawI {N k : Int} (h : 1 ≤ N) (hn : N < 1000) : m__law_fixed [.int N, .int k] = .ret (.d (.int (J k N.toNat))) := by
  have := law_fixed (n := N.toNat) k (by omega) (by omega)
  rwa [show ((N.toNat : Nat) : Int) = N by omega] at this
theorem fixedI {N k : Int} (h : 1 ≤ N) (hn : N ≤ 60) (hk : 1 ≤ k) (hk' : k ≤ 60) : m_fixed_winner [.int N, .int k] = .ret (.d (.int (J k N.toNat))) := by
  have := fixed_winner (n := N.toNat) (k := k) (by omega) (by omega) hk hk'
  rwa [show ((N.toNat : Nat) : Int) = N by omega] at this
def pick (N x : Int) : D → Bool
  | .int k => J k N.toNat == x
  | _ => false
def least (N x : Int) (ks : List D) : D := ks.foldr (fun k r => if pick N x k = true then k else r) .non
theorem stL_rev : ∀ n : Nat, stL (n : Int) (-1) n = (rgL 1 n).reverse
  | 0 => rfl
  | n + 1 => by
    rw [stL_succ, rgL_last, List.reverse_append, ← stL_rev n]
    rw [show ((n + 1 : Nat) : Int) + -1 = n by omega, show ((n + 1 : Nat) : Int) = 1 + n by omega]
    rfl
theorem head_least {N x : Int} : ∀ ks : List D, (match (ks.filter (pick N x)) with | [] => D.non | d :: _ => d) = least N x ks
  | [] => rfl
  | k :: ks => by
    rw [List.filter_cons]
    unfold least
    rw [List.foldr_cons]
    cases q : pick N x k with
    | true => simp
    | false =>
      simp only [Bool.false_eq_true, if_false]
      exact head_least ks
theorem steps_for {N x : Int} (h : 1 ≤ N) (hn : N ≤ 12) (hx : 0 ≤ x) (hx' : x < N) : m_steps_for [.int N, .int x] = .ret (.d (least N x (rgL 1 200))) := by
  have w1 := within N 1 20
  have w2 := within x 0 (N - 1)
  rw [decide_eq_true h, decide_eq_true (by omega)] at w1
  rw [decide_eq_true hx, decide_eq_true (by omega)] at w2
  have e : eLc [3] (iRg2 (eC (.int 1)) (e2 dAdd (eC c_MOST_TRIED) (eC (.int 1)))) (gN 3) (eF (e2 dEq (eCall m_raw_fixed (aC (eV 0) (aC (eV 3) (aN)))) (eVp 1))) (eV 3) [.d (.int N), .d (.int x), .un, .un] = .ret ((rgL 1 200).filter (pick N x)) := by
    unfold eLc
    rw [rg2_eq (i := 1) (j := 201) rfl rfl (by decide) (by decide), ret_bind, if_pos (by rw [rgL_len]; decide)]
    have := lcGo_fil (f := fun d => d) (p := pick N x) (ds := rgL 1 200) (g := gN 3) (c := (eF (e2 dEq (eCall m_raw_fixed (aC (eV 0) (aC (eV 3) (aN)))) (eVp 1)))) (me := eV 3) (ρ := wipeR [.d (.int N), .d (.int x), .un, .un] [3]) fun d hd => by
      obtain ⟨i, _, rfl⟩ := mem_rgL hd
      generalize (1 + (i : Int)) = k
      refine ⟨[.d (.int N), .d (.int x), .un, .d (.int k)], rfl, ?_, fun _ => rfl⟩
      have r := rawI (N := N) (k := k) h (by omega)
      walk_at "pl"
      simp only [r]
      walk_at "pl"
      rfl
    rw [List.map_id'] at this
    exact this
  have hl := head_least (N := N) (x := x) (rgL 1 200)
  unfold m_steps_for b_steps_for
  repeat (first | walk_at "pl" | simp only [w1, w2, e])
  rw [← hl]
  cases (rgL 1 200).filter (pick N x) with
  | nil => rfl
  | cons d ds =>
    repeat (first | walk_at "pl" | simp only [List.isEmpty_cons])
def gameOk (n : Nat) (ds : List D) : Prop := (∀ d ∈ ds, okR d) ∧ ds.length = n
theorem law_game : (m__law_game [.hand, .int 6, .int 4]).Al (fun r => ∃ ds, r = .d (.tup ds) ∧ (∀ d ∈ ds, okR d) ∧ 1 ≤ ds.length ∧ ds.length ≤ 6) (fun _ => False) := by
  unfold m__law_game b__law_game
  walk_at "pl"
  unfold sFor iRg1
  walk_at "pl"
  refine al_draw (by decide) (by decide) fun i h0 h1 => ?_
  have li := lim62 (i := 1 + i) (by omega) (by omega)
  repeat (walk_at "pl")
  rw [if_pos li]
  walk_at "pl"
  simp only [T.bind_assoc]
  refine T.Al_of_bind (forGo_al (I := fun rem ρ => ∃ ds x y, ρ = [.d .hand, .d (.int 6), .d (.int 4), .d (.tup ds), x, y] ∧ (∀ d ∈ ds, okR d) ∧ ds.length + rem.length = (1 + i).toNat) ?_ ?_ _ _ ⟨[], .un, .un, rfl, by simp, by rw [rgL_len]; simp⟩)
  · rintro d rem ρ ⟨ds, x, y, rfl, hk, hl⟩
    refine ⟨_, rfl, ?_⟩
    walk_at "pl"
    refine al_draw (by decide) (by decide) fun a a0 a1 => ?_
    refine al_draw (by decide) (by decide) fun b b0 b1 => ?_
    have n1 : (ds.length ≤ 16777215) = True := eq_true (by simp at hl; omega)
    repeat (first | walk_at "pl" | simp only [n1, Nat.reduceLeDiff])
    refine ⟨_, _, _, rfl, ?_, by simp at hl ⊢; omega⟩
    intro d hd
    rcases List.mem_append.mp hd with hd | hd
    · exact hk d hd
    · cases List.mem_singleton.mp hd
      refine ⟨_, _, rfl, by omega, ?_, ?_⟩ <;> split <;> omega
  · rintro ρ ⟨ds, x, y, rfl, hk, hl⟩
    walk_at "pl"
    exact ⟨ds, rfl, hk, by simp at hl; omega, by simp at hl; omega⟩
theorem least_go {N x : Int} (h : 1 ≤ N) (hn : N ≤ 12) : ∀ (ks : List D) (r : D) (t a b c y z u v w : Sl), (∀ d ∈ ks, ∃ i : Int, d = .int i) → ∃ v', sForGo (gN 8) (sAsg (gN 7) (eIf (eF (e2 dEq (eCall m__law_fixed (aC (eV 5) (aC (eV 8) (aN)))) (eVp 6))) (eV 8) (eV 7))) ks [.un, .d .hand, t, a, b, .d (.int N), .d (.int x), .d r, v, u, w, z] =
    .ret (.nx [.un, .d .hand, t, a, b, .d (.int N), .d (.int x), .d (ks.foldl (fun r k => if pick N x k = true then k else r) r), v', u, w, z])
  | [], r, t, a, b, c, y, z, u, v, w, _ => ⟨v, rfl⟩
  | k :: ks, r, t, a, b, c, y, z, u, v, w, hk => by
    obtain ⟨i, rfl⟩ := hk _ (List.mem_cons_self ..)
    obtain ⟨v', e⟩ := least_go (x := x) h hn ks (if pick N x (.int i) = true then .int i else r) t a b c y z u (.d (.int i)) w fun d hd => hk d (List.mem_cons_of_mem _ hd)
    refine ⟨v', ?_⟩
    rw [List.foldl_cons, ← e]
    refine forGo_cons rfl ?_
    have l := lawI (N := N) (k := i) h (by omega)
    walk_at "pl"
    simp only [l]
    walk_at "pl"
    show T.bind (if (J i N.toNat == x) = true then _ else _) _ = T.ret (Fl.nx [_, _, _, _, _, _, _, .d (if (J i N.toNat == x) = true then _ else _), _, _, _, _])
    cases J i N.toNat == x with
    | true => rfl
    | false => rfl
theorem least_ok {N x : Int} : ∀ (ks : List D), (∀ d ∈ ks, ∃ i : Int, d = .int i) → okD 7 (least N x ks) = true
  | [], _ => rfl
  | k :: ks, h => by
    unfold least
    rw [List.foldr_cons]
    split
    · obtain ⟨i, rfl⟩ := h k (List.mem_cons_self ..)
      rfl
    · exact least_ok ks fun d hd => h d (List.mem_cons_of_mem _ hd)
theorem ints200 : ∀ d ∈ rgL 1 200, ∃ i : Int, d = .int i := fun d hd => by
  obtain ⟨i, _, rfl⟩ := mem_rgL hd
  exact ⟨_, rfl⟩
theorem ints200' : ∀ d ∈ (rgL 1 200).reverse, ∃ i : Int, d = .int i := fun d hd => ints200 d (List.mem_reverse.mp hd)
theorem okGame {ds : List D} (h : ∀ d ∈ ds, okR d) (hl : ds.length ≤ 7) : okD 7 (.tup ds) = true := by
  unfold okD
  rw [decide_eq_true (by omega), Bool.true_and, List.all_eq_true]
  intro d hd
  obtain ⟨a, b, rfl, _⟩ := h d hd
  rfl
theorem least_all {N x : Int} (h : 1 ≤ N) (hn : N ≤ 12) (x1 : 0 ≤ x) (x2 : x < N) (t a b s8 s9 s10 s11 : Sl) : ∃ (L : D) (v' : Sl), sFor (iRg3 (eC (.int 200)) (eC (.int 0)) (e1 dNeg (eC (.int 1)))) (gN 8) (sAsg (gN 7) (eIf (eF (e2 dEq (eCall m__law_fixed (aC (eV 5) (aC (eV 8) (aN)))) (eVp 6))) (eV 8) (eV 7))) [.un, .d .hand, t, a, b, .d (.int N), .d (.int x), .d .non, s8, s9, s10, s11] =
    .ret (.nx [.un, .d .hand, t, a, b, .d (.int N), .d (.int x), .d L, v', s9, s10, s11]) ∧ m_steps_for [.int N, .int x] = .ret (.d L) ∧ m__law_is 8 [L, L] = .ret (.d (.bl true)) := by
  obtain ⟨v', el⟩ := least_go (N := N) (x := x) h hn (rgL 1 200).reverse .non t a b .un .un s11 s9 s8 s10 ints200'
  rw [List.foldl_reverse] at el
  refine ⟨least N x (rgL 1 200), v', ?_, steps_for h hn x1 x2, is_same 7 _ (least_ok _ ints200)⟩
  rw [for_eq (rg3_eq (i := 200) (j := 0) rfl rfl rfl (by decide) (by decide)), show stL 200 (-1) (200 - 0 : Int).toNat = (rgL 1 200).reverse from stL_rev 200, el]
  rfl
theorem lawtrue : LawTrue b_law 10 := by
  unfold LawTrue b_law
  refine al_seq ?_
  refine for_same (ds := rgL 0 6) (fun ρ => ∃ a b c d e f g h i j, ρ = [.un, .d .hand, a, b, c, d, e, f, g, h, i, j]) (rg1_eq (j := 6) rfl (by decide) (by decide)) ⟨_, _, _, _, _, _, _, _, _, _, rfl⟩ ?_ ?_
  · rintro d ρ hd ⟨s2, s3, s4, s5, s6, s7, s8, s9, s10, s11, rfl⟩
    refine ⟨_, rfl, ?_⟩
    walk_at "pl"
    refine al_draw (by decide) (by decide) fun n0 n1 n2 => ?_
    refine al_draw (by decide) (by decide) fun k0 k1 k2 => ?_
    have e1 := fixedI (N := 1 + n0) (k := 1 + k0) (by omega) (by omega) (by omega) (by omega)
    have e2 := lawI (N := 1 + n0) (k := 1 + k0) (by omega) (by omega)
    repeat (first | walk_at "pl" | simp only [e1, e2, is_int])
    refine al_draw (by decide) (by decide) fun z0 z1 z2 => ?_
    refine al_draw (by omega) (by omega) fun x x1 x2 => ?_
    obtain ⟨L, v', el, es, ei⟩ := least_all (N := 1 + z0) (x := x) (by omega) (by omega) x1 x2 (.d d) (.d (.int (1 + n0))) (.d (.int (1 + k0))) s8 s9 s10 s11
    rw [el]
    repeat (first | walk_at "pl" | simp only [es, ei])
    simp only [T.bind_assoc]
    refine T.Al_of_bind (T.Al_mono ?_ (fun _ x => x.elim) law_game)
    rintro r ⟨ds, rfl, hk, h1, h6⟩
    repeat (walk_at "pl")
    refine al_draw (by decide) (by decide) fun a a1 a2 => ?_
    refine al_draw (by decide) (by decide) fun b b1 b2 => ?_
    have hb : (if 1 + a + b < 9 then 1 + a + b else 9) = (if 1 + a + b < 9 then 1 + a + b else 9) := rfl
    generalize hc : (if 1 + a + b < 9 then 1 + a + b else 9) = c
    have hr : 1 ≤ 1 + a ∧ 1 + a ≤ c ∧ c ≤ 9 := by
      rw [← hc]
      refine ⟨by omega, ?_, ?_⟩ <;> split <;> omega
    have ew := with_round (ds := ds) (a := 1 + a) (b := c) hk h1 h6 hr
    have hk2 : ∀ d ∈ D.tup [.int (1 + a), .int c] :: ds, okR d := fun d hd => by
      rcases List.mem_cons.mp hd with rfl | hd
      · exact ⟨_, _, rfl, hr⟩
      · exact hk d hd
    have ei2 := is_same 7 (.tup (.tup [.int (1 + a), .int c] :: ds)) (okGame hk2 (by simp; omega))
    have n1 : (1 + ds.length ≤ 16777216) = True := eq_true (by omega)
    repeat (first | walk_at "pl" | simp only [ew, ei2, n1])
    by_cases h2 : 1 < (ds.length : Int)
    · obtain ⟨d0, ds0, rfl⟩ : ∃ d0 ds0, ds = d0 :: ds0 := by
        cases ds with
        | nil => simp at h1
        | cons d0 ds0 => exact ⟨_, _, rfl⟩
      have eo := without_round (d := d0) (ds := ds0) hk (by simp at h2; omega) (by simp at h6; omega)
      have ei3 := is_same 7 (.tup ds0) (okGame (fun d hd => hk d (List.mem_cons_of_mem _ hd)) (by simp at h6; omega))
      have n2 : cutL (d0 :: ds0) (some 1) none = ds0 := cut_from (xs := d0 :: ds0) (a := 1) (by simp)
      have h2' : (((d0 :: ds0).length : Int) > 1) = True := eq_true h2
      rw [decide_eq_true h2]
      repeat (first | walk_at "pl" | simp only [eo, ei3, n2])
      exact ⟨_, _, _, _, _, _, _, _, _, _, rfl⟩
    · rw [decide_eq_false h2]
      repeat (walk_at "pl")
      exact ⟨_, _, _, _, _, _, _, _, _, _, rfl⟩
  · rintro ρ ⟨s2, s3, s4, s5, s6, s7, s8, s9, s10, s11, rfl⟩
    walk_at "pl"
    exact ⟨_, rfl⟩
end Gk95
namespace Gk95
open PySem PySem.Spec PyProof.Rows L2 PL
abbrev s__law_hand : Stmt := topS 27
abbrev N__law_hand : List Str := ["script", "cells", "cell"]
theorem sc__law_hand : FnScope N__law_hand ["script"] (defScope s__law_hand) := ⟨rfl, rfl, rfl, by decide +kernel, rfl, by decide +kernel, by decide +kernel⟩
abbrev s__law_draw : Stmt := topS 28
abbrev N__law_draw : List Str := ["hand", "many", "cell", "figure", "number"]
theorem sc__law_draw : FnScope N__law_draw ["hand", "many"] (defScope s__law_draw) := ⟨rfl, rfl, rfl, by decide +kernel, rfl, by decide +kernel, by decide +kernel⟩
abbrev s__law_game : Stmt := topS 29
abbrev N__law_game : List Str := ["hand", "rounds", "wide", "found", "turn", "low"]
theorem sc__law_game : FnScope N__law_game ["hand", "rounds", "wide"] (defScope s__law_game) := ⟨rfl, rfl, rfl, by decide +kernel, rfl, by decide +kernel, by decide +kernel⟩
abbrev s__law_is : Stmt := topS 30
abbrev N__law_is : List Str := ["told", "due", "key", "one", "two"]
theorem sc__law_is : FnScope N__law_is ["told", "due"] (defScope s__law_is) := ⟨rfl, rfl, rfl, by decide +kernel, rfl, by decide +kernel, by decide +kernel⟩
abbrev s_raw_fixed : Stmt := topS 21
abbrev N_raw_fixed : List Str := ["n", "k", "found", "many"]
theorem sc_raw_fixed : FnScope N_raw_fixed ["n", "k"] (defScope s_raw_fixed) := ⟨rfl, rfl, rfl, by decide +kernel, rfl, by decide +kernel, by decide +kernel⟩
abbrev s_is_integer : Stmt := topS 1
abbrev N_is_integer : List Str := ["thing"]
theorem sc_is_integer : FnScope N_is_integer ["thing"] (defScope s_is_integer) := ⟨rfl, rfl, rfl, by decide +kernel, rfl, by decide +kernel, by decide +kernel⟩
abbrev s_is_within : Stmt := topS 2
abbrev N_is_within : List Str := ["thing", "low", "high"]
theorem sc_is_within : FnScope N_is_within ["thing", "low", "high"] (defScope s_is_within) := ⟨rfl, rfl, rfl, by decide +kernel, rfl, by decide +kernel, by decide +kernel⟩
abbrev s_fixed_winner : Stmt := topS 22
abbrev N_fixed_winner : List Str := ["n", "k"]
theorem sc_fixed_winner : FnScope N_fixed_winner ["n", "k"] (defScope s_fixed_winner) := ⟨rfl, rfl, rfl, by decide +kernel, rfl, by decide +kernel, by decide +kernel⟩
abbrev s__law_fixed : Stmt := topS 31
abbrev N__law_fixed : List Str := ["n", "k", "left", "at"]
theorem sc__law_fixed : FnScope N__law_fixed ["n", "k"] (defScope s__law_fixed) := ⟨rfl, rfl, rfl, by decide +kernel, rfl, by decide +kernel, by decide +kernel⟩
abbrev s_steps_for : Stmt := topS 23
abbrev N_steps_for : List Str := ["n", "dancer", "some", "k"]
theorem sc_steps_for : FnScope N_steps_for ["n", "dancer"] (defScope s_steps_for) := ⟨rfl, rfl, rfl, by decide +kernel, rfl, by decide +kernel, by decide +kernel⟩
abbrev s_is_sized : Stmt := topS 3
abbrev N_is_sized : List Str := ["thing", "low", "high"]
theorem sc_is_sized : FnScope N_is_sized ["thing", "low", "high"] (defScope s_is_sized) := ⟨rfl, rfl, rfl, by decide +kernel, rfl, by decide +kernel, by decide +kernel⟩
abbrev s_is_stop_round : Stmt := topS 18
abbrev N_is_stop_round : List Str := ["thing"]
theorem sc_is_stop_round : FnScope N_is_stop_round ["thing"] (defScope s_is_stop_round) := ⟨rfl, rfl, rfl, by decide +kernel, rfl, by decide +kernel, by decide +kernel⟩
abbrev s_is_chair_game : Stmt := topS 19
abbrev N_is_chair_game : List Str := ["thing", "one"]
theorem sc_is_chair_game : FnScope N_is_chair_game ["thing"] (defScope s_is_chair_game) := ⟨rfl, rfl, rfl, by decide +kernel, rfl, by decide +kernel, by decide +kernel⟩
abbrev s_check_game : Stmt := topS 20
abbrev N_check_game : List Str := ["thing"]
theorem sc_check_game : FnScope N_check_game ["thing"] (defScope s_check_game) := ⟨rfl, rfl, rfl, by decide +kernel, rfl, by decide +kernel, by decide +kernel⟩
abbrev s_with_round : Stmt := topS 24
abbrev N_with_round : List Str := ["game", "low", "high"]
theorem sc_with_round : FnScope N_with_round ["game", "low", "high"] (defScope s_with_round) := ⟨rfl, rfl, rfl, by decide +kernel, rfl, by decide +kernel, by decide +kernel⟩
abbrev s_without_round : Stmt := topS 25
abbrev N_without_round : List Str := ["game"]
theorem sc_without_round : FnScope N_without_round ["game"] (defScope s_without_round) := ⟨rfl, rfl, rfl, by decide +kernel, rfl, by decide +kernel, by decide +kernel⟩
abbrev s_law : Stmt := topS 32
abbrev N_law : List Str := ["script", "hand", "turn", "n", "k", "size", "dancer", "least", "steps", "game", "low", "pair"]
theorem sc_law : FnScope N_law ["script"] (defScope s_law) := ⟨rfl, rfl, rfl, by decide +kernel, rfl, by decide +kernel, by decide +kernel⟩
/-- what the top has left -/
structure Txt (K : PySem.W.Frag) (mg : Str → Option Value) : Prop where
  f__law_hand : ∃ (f : Addr) (fd : FuncData), Fun K "_law_hand" "_law_hand" s__law_hand f fd ∧ mg "_law_hand" = some (.ref f) ∧ Binds K fd ["script"] []
  f__law_draw : ∃ (f : Addr) (fd : FuncData), Fun K "_law_draw" "_law_draw" s__law_draw f fd ∧ mg "_law_draw" = some (.ref f) ∧ Binds K fd ["hand", "many"] []
  f__law_game : ∃ (f : Addr) (fd : FuncData), Fun K "_law_game" "_law_game" s__law_game f fd ∧ mg "_law_game" = some (.ref f) ∧ Binds K fd ["hand", "rounds", "wide"] []
  f__law_is : ∃ (f : Addr) (fd : FuncData), Fun K "_law_is" "_law_is" s__law_is f fd ∧ mg "_law_is" = some (.ref f) ∧ Binds K fd ["told", "due"] []
  f_raw_fixed : ∃ (f : Addr) (fd : FuncData), Fun K "raw_fixed" "raw_fixed" s_raw_fixed f fd ∧ mg "raw_fixed" = some (.ref f) ∧ Binds K fd ["n", "k"] []
  f_is_integer : ∃ (f : Addr) (fd : FuncData), Fun K "is_integer" "is_integer" s_is_integer f fd ∧ mg "is_integer" = some (.ref f) ∧ Binds K fd ["thing"] []
  f_is_within : ∃ (f : Addr) (fd : FuncData), Fun K "is_within" "is_within" s_is_within f fd ∧ mg "is_within" = some (.ref f) ∧ Binds K fd ["thing", "low", "high"] []
  f_fixed_winner : ∃ (f : Addr) (fd : FuncData), Fun K "fixed_winner" "fixed_winner" s_fixed_winner f fd ∧ mg "fixed_winner" = some (.ref f) ∧ Binds K fd ["n", "k"] []
  f__law_fixed : ∃ (f : Addr) (fd : FuncData), Fun K "_law_fixed" "_law_fixed" s__law_fixed f fd ∧ mg "_law_fixed" = some (.ref f) ∧ Binds K fd ["n", "k"] []
  f_steps_for : ∃ (f : Addr) (fd : FuncData), Fun K "steps_for" "steps_for" s_steps_for f fd ∧ mg "steps_for" = some (.ref f) ∧ Binds K fd ["n", "dancer"] []
  f_is_sized : ∃ (f : Addr) (fd : FuncData), Fun K "is_sized" "is_sized" s_is_sized f fd ∧ mg "is_sized" = some (.ref f) ∧ Binds K fd ["thing", "low", "high"] []
  f_is_stop_round : ∃ (f : Addr) (fd : FuncData), Fun K "is_stop_round" "is_stop_round" s_is_stop_round f fd ∧ mg "is_stop_round" = some (.ref f) ∧ Binds K fd ["thing"] []
  f_is_chair_game : ∃ (f : Addr) (fd : FuncData), Fun K "is_chair_game" "is_chair_game" s_is_chair_game f fd ∧ mg "is_chair_game" = some (.ref f) ∧ Binds K fd ["thing"] []
  f_check_game : ∃ (f : Addr) (fd : FuncData), Fun K "check_game" "check_game" s_check_game f fd ∧ mg "check_game" = some (.ref f) ∧ Binds K fd ["thing"] []
  f_with_round : ∃ (f : Addr) (fd : FuncData), Fun K "with_round" "with_round" s_with_round f fd ∧ mg "with_round" = some (.ref f) ∧ Binds K fd ["game", "low", "high"] []
  f_without_round : ∃ (f : Addr) (fd : FuncData), Fun K "without_round" "without_round" s_without_round f fd ∧ mg "without_round" = some (.ref f) ∧ Binds K fd ["game"] []
  z_abs : mg "abs" = none
  z_all : mg "all" = none
  z_bool : mg "bool" = none
  z_dict : mg "dict" = none
  z_int : mg "int" = none
  z_isinstance : mg "isinstance" = none
  z_len : mg "len" = none
  z_list : mg "list" = none
  z_min : mg "min" = none
  z_range : mg "range" = none
  z_str : mg "str" = none
  z_tuple : mg "tuple" = none
  z_zip : mg "zip" = none
  c_MOST_FIXED : GlobAt K mg "MOST_FIXED" c_MOST_FIXED
  c_MOST_ROUNDS : GlobAt K mg "MOST_ROUNDS" c_MOST_ROUNDS
  c_MOST_SOUGHT : GlobAt K mg "MOST_SOUGHT" c_MOST_SOUGHT
  c_MOST_STEPS : GlobAt K mg "MOST_STEPS" c_MOST_STEPS
  c_MOST_TRIED : GlobAt K mg "MOST_TRIED" c_MOST_TRIED
  x_Full : ErrAt K mg "Full"
  x_NoCount : ErrAt K mg "NoCount"
  x_NoDancer : ErrAt K mg "NoDancer"
  x_NoGame : ErrAt K mg "NoGame"
  x_NoRound : ErrAt K mg "NoRound"
  x_TooFew : ErrAt K mg "TooFew"
section
variable {P : Program} {w : World} {K : PySem.W.Frag} {mg : Str → Option Value} {base : Heap}
theorem ok__law_hand (T : Txt K mg) {f : Addr} {fd : FuncData} (F : Fun K "_law_hand" "_law_hand" s__law_hand f fd) (hm : HandMade b__law_hand 2) : FnOk P w K mg base (L2.CX P w) 1 f fd ["script"] (spHand ⟨P, w, K, mg⟩) :=
  hand_of F sc__law_hand rfl hm (fun cdv A outer s H E hr => by
    have hu : (cxOf (L2.CX P w) P w K mg base N__law_hand "_law_hand" (defScope s__law_hand) f cdv A outer s H E).A.units + 64 < cLine := hr.units
    have hu65 : (cxOf (L2.CX P w) P w K mg base N__law_hand "_law_hand" (defScope s__law_hand) f cdv A outer s H E).A.units + 65 < cLine := by
      have := hr.un
      show (A.deeper _).units + 65 < cLine
      omega
    have tk : Takes (cxOf (L2.CX P w) P w K mg base N__law_hand "_law_hand" (defScope s__law_hand) f cdv A outer s H E) (fun c d _ H' => E c d H') := takes_of rfl rfl rfl rfl
    have nd : (N__law_hand).Nodup := sc__law_hand.nd
    exact (dss_cons (ds_setLc 1 (own := [("cell", 2)]) rfl nd (sw_true rfl rfl rfl (by decide +kernel)) (di_new (do_scr 0 dpt_none (dpt_some de_int))) (blkOk_by (N := N__law_hand) (sc := defScope s__law_hand) (own := [("cell", 2)]) (by decide +kernel)) (fun _ _ _ _ _ => (dg_name 2 nd)) (fun _ _ _ _ _ => dts_nil) (fun _ _ _ _ _ => (de_b1 k_abs (DE.p (de_t1 k_int (dp_var 2) rfl T.z_int (by decide +kernel))) rfl T.z_abs (by decide +kernel))))
 (dss_frz 1 (dss_one (ds_retO (do_lst (da_cons (de_var 1) (da_cons de_int (da_cons de_int (da_cons (de_bin b_add (DE.p de_int) (DE.p (de_bin b_mulI (DE.p de_int) (DE.p (de_b1 k_len (dp_var 1) rfl T.z_len PySem.boot_len))))) (da_cons de_int da_nil)))))))))))
theorem ok__law_draw_ (T : Txt K mg) (hm : Draws b__law_draw 3) : FnI ⟨P, w, K, mg⟩ base 1 "_law_draw" mDraw := by
  obtain ⟨f, fd, F, gm, bd⟩ := T.f__law_draw
  exact draw_of F gm bd sc__law_draw rfl hm (fun cdv A outer s H E hr => by
    have hu : (cxOf (L2.CX P w) P w K mg base N__law_draw "_law_draw" (defScope s__law_draw) f cdv A outer s H E).A.units + 64 < cLine := hr.units
    have hu65 : (cxOf (L2.CX P w) P w K mg base N__law_draw "_law_draw" (defScope s__law_draw) f cdv A outer s H E).A.units + 65 < cLine := by
      have := hr.un
      show (A.deeper _).units + 65 < cLine
      omega
    have tk : Takes (cxOf (L2.CX P w) P w K mg base N__law_draw "_law_draw" (defScope s__law_draw) f cdv A outer s H E) (fun c d _ H' => E c d H') := takes_of rfl rfl rfl rfl
    have nd : (N__law_draw).Nodup := sc__law_draw.nd
    exact (dss_cons (ds_if (db_bool (dw_and (db_cmp (c_eq hu) (DE.p (de_ix (dp_var 0) (DE.p de_int))) (DE.p de_int)) (dw_and1 (db_cmp c_lt (DE.p (de_ix (dp_var 0) (DE.p de_int))) (DE.p (de_b1 k_len (DE.p (de_ix (dp_var 0) (DE.p de_int))) rfl T.z_len PySem.boot_len))))))
 (dss_cons (ds_set 2 nd (de_ix (DE.p (de_ix (dp_var 0) (DE.p de_int))) (DE.p (de_ix (dp_var 0) (DE.p de_int)))))
 (dss_cons (ds_stI 0 (de_bin b_add (DE.p (de_ix (dp_var 0) (DE.p de_int))) (DE.p de_int)) de_int)
 (dss_cons (ds_stI 0 (de_bin b_mod (DE.p (de_t1 k_int (DE.p (de_bin b_add (DE.p (de_bin b_add (DE.p (de_bin b_mulI (DE.p (de_ix (dp_var 0) (DE.p de_int))) (DE.p de_int))) (dp_var 2))) (DE.p de_int))) rfl T.z_int (by decide +kernel))) (DE.p de_int)) de_int)
 (dss_one (ds_if (db_cmp c_ge (dp_var 2) (DE.p (de_bin b_pow (DE.p de_int) (DE.p de_int))))
 (dss_one (ds_stI 0 (de_var 2) de_int))
 dss_nil)))))
 dss_nil)
 (dss_cons (ds_if (db_cmp c_gt (DE.p (de_ix (dp_var 0) (DE.p de_int))) (DE.p de_int))
 (dss_cons (ds_set 3 nd (de_bin b_mod (DE.p (de_t1 k_int (DE.p (de_ix (dp_var 0) (DE.p de_int))) rfl T.z_int (by decide +kernel))) (dp_var 1)))
 (dss_cons (ds_stI 0 (de_bin b_fdiv (DE.p (de_ix (dp_var 0) (DE.p de_int))) (dp_var 1)) de_int)
 (dss_one (ds_retV 3))))
 dss_nil)
 (dss_cons (ds_stI 0 (de_bin b_add (DE.p (de_ix (dp_var 0) (DE.p de_int))) (DE.p de_int)) de_int)
 (dss_cons (ds_set 4 nd (de_bin b_mod (DE.p (de_t1 k_int (DE.p (de_bin b_mulI (DE.p (de_t1 k_int (DE.p (de_bin b_add (DE.p (de_ix (dp_var 0) (DE.p de_int))) (DE.p (de_bin b_mulI (DE.p de_int) (DE.p (de_ix (dp_var 0) (DE.p de_int))))))) rfl T.z_int (by decide +kernel))) (DE.p de_int))) rfl T.z_int (by decide +kernel))) (DE.p de_int)))
 (dss_cons (ds_set 4 nd (de_bin b_mod (DE.p (de_t1 k_int (DE.p (de_bin b_mulI (dp_var 4) (DE.p (de_bin b_add (DE.p (de_bin b_fdiv (dp_var 4) (DE.p de_int))) (DE.p de_int))))) rfl T.z_int (by decide +kernel))) (DE.p de_int)))
 (dss_cons (ds_set 4 nd (de_bin b_mod (DE.p (de_t1 k_int (DE.p (de_bin b_mulI (dp_var 4) (DE.p (de_bin b_add (DE.p (de_bin b_fdiv (dp_var 4) (DE.p de_int))) (DE.p de_int))))) rfl T.z_int (by decide +kernel))) (DE.p de_int)))
 (dss_one (ds_ret (de_bin b_mod (DE.p (de_t1 k_int (DE.p (de_bin b_fdiv (dp_var 4) (DE.p de_int))) rfl T.z_int (by decide +kernel))) (dp_var 1)))))))))))
theorem ok__law_draw (T : Txt K mg) : FnI ⟨P, w, K, mg⟩ base 1 "_law_draw" mDraw := ok__law_draw_ T draws
theorem ok__law_game (T : Txt K mg) : FnI ⟨P, w, K, mg⟩ base 2 "_law_game" m__law_game := by
  have I__law_draw := @ok__law_draw P w K mg base T
  obtain ⟨f, fd, F, gm, bd⟩ := T.f__law_game
  exact fnI_of F gm bd sc__law_game (fun cdv A outer s H E hr => by
    have hu : (cxOf (L2.CX P w) P w K mg base N__law_game "_law_game" (defScope s__law_game) f cdv A outer s H E).A.units + 64 < cLine := hr.units
    have hu65 : (cxOf (L2.CX P w) P w K mg base N__law_game "_law_game" (defScope s__law_game) f cdv A outer s H E).A.units + 65 < cLine := by
      have := hr.un
      show (A.deeper _).units + 65 < cLine
      omega
    have tk : Takes (cxOf (L2.CX P w) P w K mg base N__law_game "_law_game" (defScope s__law_game) f cdv A outer s H E) (fun c d _ H' => E c d H') := takes_of rfl rfl rfl rfl
    have nd : (N__law_game).Nodup := sc__law_game.nd
    exact (dss_cons (ds_set 3 nd (de_tup da_nil))
 (dss_cons (ds_for PassesOwn.leaving rfl (di_rg1 (de_bin b_add (DE.p de_int) (DE.p (de_call I__law_draw hr (by decide) tk (da_cons (de_var 0) (da_cons (de_var 1) da_nil)) rfl))) rfl T.z_range) (dg_name 4 nd)
 (dss_cons (ds_set 5 nd (de_bin b_add (DE.p de_int) (DE.p (de_call I__law_draw hr (by decide) tk (da_cons (de_var 0) (da_cons de_int da_nil)) rfl))))
 (dss_one (ds_set 3 nd (de_bin b_add (dp_var 3) (DE.p (de_tup (da_cons (de_tup (da_cons (de_var 5) (da_cons (de_b2 (k_min2 rfl) (DE.p de_int) (DE.p (de_bin b_add (dp_var 5) (DE.p (de_call I__law_draw hr (by decide) tk (da_cons (de_var 0) (da_cons (de_var 2) da_nil)) rfl)))) rfl T.z_min (by decide +kernel)) da_nil))) da_nil))))))))
 (dss_one (ds_retV 3)))))
theorem ok__law_is (T : Txt K mg) : ∀ n, FnI ⟨P, w, K, mg⟩ base (1 + n) "_law_is" (m__law_is n)
  | 0 => by
    obtain ⟨f, fd, F, gm, bd⟩ := T.f__law_is
    exact fnI_bad gm F.kp bd
  | n + 1 => by
    have ih := @ok__law_is T n
    obtain ⟨f, fd, F, gm, bd⟩ := T.f__law_is
    exact fnI_of (k := 1 + n) F gm bd sc__law_is (fun cdv A outer s H E hr => by
    have hu : (cxOf (L2.CX P w) P w K mg base N__law_is "_law_is" (defScope s__law_is) f cdv A outer s H E).A.units + 64 < cLine := hr.units
    have hu65 : (cxOf (L2.CX P w) P w K mg base N__law_is "_law_is" (defScope s__law_is) f cdv A outer s H E).A.units + 65 < cLine := by
      have := hr.un
      show (A.deeper _).units + 65 < cLine
      omega
    have tk : Takes (cxOf (L2.CX P w) P w K mg base N__law_is "_law_is" (defScope s__law_is) f cdv A outer s H E) (fun c d _ H' => E c d H') := takes_of rfl rfl rfl rfl
    have nd : (N__law_is).Nodup := sc__law_is.nd
    exact (dss_cons (ds_if (db_tru (DE.p (de_isN (tyn_cons .tuple rfl T.z_tuple (by decide +kernel) (tyn_cons .list rfl T.z_list (by decide +kernel) tyn_nil)) rfl (dp_var 1) rfl T.z_isinstance)))
 (dss_cons (ds_if (db_bool (dw_or (db_cmp (c_ne hu) (DE.p (de_is1 .tuple (dp_var 0) rfl T.z_isinstance rfl T.z_tuple (by decide +kernel))) (DE.p (de_is1 .tuple (dp_var 1) rfl T.z_isinstance rfl T.z_tuple (by decide +kernel)))) (dw_or1 (db_not (db_tru (DE.p (de_isN (tyn_cons .tuple rfl T.z_tuple (by decide +kernel) (tyn_cons .list rfl T.z_list (by decide +kernel) tyn_nil)) rfl (dp_var 0) rfl T.z_isinstance)))))))
 (dss_one (ds_ret de_bl))
 dss_nil)
 (dss_one (ds_ret (de_and (de_cmp (c_eq hu) (DE.p (de_b1 k_len (dp_var 0) rfl T.z_len PySem.boot_len)) (DE.p (de_b1 k_len (dp_var 1) rfl T.z_len PySem.boot_len))) (de_one (de_b1 (k_all rfl) (DE.p (DO.e (do_lc (own := [("one", 3), ("two", 4)]) rfl nd (di_zip (da_cons (de_var 0) (da_cons (de_var 1) da_nil)) rfl T.z_zip) (blkOk_by (N := N__law_is) (sc := defScope s__law_is) (own := [("one", 3), ("two", 4)]) (by decide +kernel)) (fun _ _ _ _ _ => (dg_tup rfl (dgs_cons (dg_name 3 nd) (dgs_cons (dg_name 4 nd) dgs_nil)))) (fun _ _ _ _ _ => dts_nil) (fun _ _ _ _ _ => (de_call ih hr (Nat.le_refl _) L2.takes0 (da_cons (de_var 3) (da_cons (de_var 4) da_nil)) rfl))))) rfl T.z_all (by decide +kernel)))))))
 dss_nil)
 (dss_cons (ds_if (db_tru (DE.p (de_is1 .dict (dp_var 1) rfl T.z_isinstance rfl T.z_dict (by decide +kernel))))
 (dss_cons (ds_if (db_bool (dw_or (db_not (db_tru (DE.p (de_is1 .dict (dp_var 0) rfl T.z_isinstance rfl T.z_dict (by decide +kernel))))) (dw_or1 (db_cmp (c_ne hu) (DE.p (de_b1 k_len (dp_var 0) rfl T.z_len PySem.boot_len)) (DE.p (de_b1 k_len (dp_var 1) rfl T.z_len PySem.boot_len))))))
 (dss_one (ds_ret de_bl))
 dss_nil)
 (dss_one (ds_ret (de_b1 (k_all rfl) (DE.p (DO.e (do_lc (own := [("key", 2)]) rfl nd (di_peek (dp_var 1)) (blkOk_by (N := N__law_is) (sc := defScope s__law_is) (own := [("key", 2)]) (by decide +kernel)) (fun _ _ _ _ _ => (dg_name 2 nd)) (fun _ _ _ _ _ => dts_nil) (fun _ _ _ _ _ => (de_and (de_cmp (c_inL hu65) (dp_var 2) (dp_var 0)) (de_one (de_call ih hr (Nat.le_refl _) L2.takes0 (da_cons (de_ix (dp_var 0) (dp_var 2)) (da_cons (de_ix (dp_var 1) (dp_var 2)) da_nil)) rfl))))))) rfl T.z_all (by decide +kernel)))))
 dss_nil)
 (dss_cons (ds_if (db_bool (dw_or (db_tru (DE.p (de_is1 .str (dp_var 1) rfl T.z_isinstance rfl T.z_str (by decide +kernel)))) (dw_or1 (db_cmp c_isN (dp_var 1) (DE.p de_non)))))
 (dss_one (ds_ret (de_and (de_cmp (c_eq hu) (DE.p (de_is1 .str (dp_var 0) rfl T.z_isinstance rfl T.z_str (by decide +kernel))) (DE.p (de_is1 .str (dp_var 1) rfl T.z_isinstance rfl T.z_str (by decide +kernel)))) (de_one (de_cmp (c_eq hu) (dp_var 0) (dp_var 1))))))
 dss_nil)
 (dss_one (ds_ret (de_and (de_is1 .int (dp_var 0) rfl T.z_isinstance rfl T.z_int (by decide +kernel)) (de_and (de_cmp (c_eq hu) (DE.p (de_is1 .bool (dp_var 0) rfl T.z_isinstance rfl T.z_bool (by decide +kernel))) (DE.p (de_is1 .bool (dp_var 1) rfl T.z_isinstance rfl T.z_bool (by decide +kernel)))) (de_one (de_cmp (c_eq hu) (dp_var 0) (dp_var 1)))))))))))
theorem ok_raw_fixed (T : Txt K mg) : FnI ⟨P, w, K, mg⟩ base 1 "raw_fixed" m_raw_fixed := by
  obtain ⟨f, fd, F, gm, bd⟩ := T.f_raw_fixed
  exact fnI_of F gm bd sc_raw_fixed (fun cdv A outer s H E hr => by
    have hu : (cxOf (L2.CX P w) P w K mg base N_raw_fixed "raw_fixed" (defScope s_raw_fixed) f cdv A outer s H E).A.units + 64 < cLine := hr.units
    have hu65 : (cxOf (L2.CX P w) P w K mg base N_raw_fixed "raw_fixed" (defScope s_raw_fixed) f cdv A outer s H E).A.units + 65 < cLine := by
      have := hr.un
      show (A.deeper _).units + 65 < cLine
      omega
    have tk : Takes (cxOf (L2.CX P w) P w K mg base N_raw_fixed "raw_fixed" (defScope s_raw_fixed) f cdv A outer s H E) (fun c d _ H' => E c d H') := takes_of rfl rfl rfl rfl
    have nd : (N_raw_fixed).Nodup := sc_raw_fixed.nd
    exact (dss_cons (ds_set 2 nd de_int)
 (dss_cons (ds_for PassesOwn.leaving rfl (di_rg2 de_int (de_bin b_add (dp_var 0) (DE.p de_int)) rfl T.z_range) (dg_name 3 nd)
 (dss_one (ds_set 2 nd (de_bin b_mod (DE.p (de_bin b_add (dp_var 2) (dp_var 1))) (dp_var 3)))))
 (dss_one (ds_retV 2)))))
theorem ok_is_integer (T : Txt K mg) : FnI ⟨P, w, K, mg⟩ base 1 "is_integer" m_is_integer := by
  obtain ⟨f, fd, F, gm, bd⟩ := T.f_is_integer
  exact fnI_of F gm bd sc_is_integer (fun cdv A outer s H E hr => by
    have hu : (cxOf (L2.CX P w) P w K mg base N_is_integer "is_integer" (defScope s_is_integer) f cdv A outer s H E).A.units + 64 < cLine := hr.units
    have hu65 : (cxOf (L2.CX P w) P w K mg base N_is_integer "is_integer" (defScope s_is_integer) f cdv A outer s H E).A.units + 65 < cLine := by
      have := hr.un
      show (A.deeper _).units + 65 < cLine
      omega
    have tk : Takes (cxOf (L2.CX P w) P w K mg base N_is_integer "is_integer" (defScope s_is_integer) f cdv A outer s H E) (fun c d _ H' => E c d H') := takes_of rfl rfl rfl rfl
    have nd : (N_is_integer).Nodup := sc_is_integer.nd
    exact (dss_one (ds_ret (de_and (de_is1 .int (dp_var 0) rfl T.z_isinstance rfl T.z_int (by decide +kernel)) (de_one (de_not (de_is1 .bool (dp_var 0) rfl T.z_isinstance rfl T.z_bool (by decide +kernel))))))))
theorem ok_is_within (T : Txt K mg) : FnI ⟨P, w, K, mg⟩ base 2 "is_within" m_is_within := by
  have I_is_integer := @ok_is_integer P w K mg base T
  obtain ⟨f, fd, F, gm, bd⟩ := T.f_is_within
  exact fnI_of F gm bd sc_is_within (fun cdv A outer s H E hr => by
    have hu : (cxOf (L2.CX P w) P w K mg base N_is_within "is_within" (defScope s_is_within) f cdv A outer s H E).A.units + 64 < cLine := hr.units
    have hu65 : (cxOf (L2.CX P w) P w K mg base N_is_within "is_within" (defScope s_is_within) f cdv A outer s H E).A.units + 65 < cLine := by
      have := hr.un
      show (A.deeper _).units + 65 < cLine
      omega
    have tk : Takes (cxOf (L2.CX P w) P w K mg base N_is_within "is_within" (defScope s_is_within) f cdv A outer s H E) (fun c d _ H' => E c d H') := takes_of rfl rfl rfl rfl
    have nd : (N_is_within).Nodup := sc_is_within.nd
    exact (dss_one (ds_ret (de_and (de_call I_is_integer hr (by decide) tk (da_cons (de_var 0) da_nil) rfl) (de_one (de_chain c_le c_le (dp_var 1) (dp_var 0) (dp_var 2)))))))
theorem ok_fixed_winner (T : Txt K mg) : FnI ⟨P, w, K, mg⟩ base 3 "fixed_winner" m_fixed_winner := by
  have I_raw_fixed := @ok_raw_fixed P w K mg base T
  have I_is_within := @ok_is_within P w K mg base T
  obtain ⟨f, fd, F, gm, bd⟩ := T.f_fixed_winner
  exact fnI_of F gm bd sc_fixed_winner (fun cdv A outer s H E hr => by
    have hu : (cxOf (L2.CX P w) P w K mg base N_fixed_winner "fixed_winner" (defScope s_fixed_winner) f cdv A outer s H E).A.units + 64 < cLine := hr.units
    have hu65 : (cxOf (L2.CX P w) P w K mg base N_fixed_winner "fixed_winner" (defScope s_fixed_winner) f cdv A outer s H E).A.units + 65 < cLine := by
      have := hr.un
      show (A.deeper _).units + 65 < cLine
      omega
    have tk : Takes (cxOf (L2.CX P w) P w K mg base N_fixed_winner "fixed_winner" (defScope s_fixed_winner) f cdv A outer s H E) (fun c d _ H' => E c d H') := takes_of rfl rfl rfl rfl
    have nd : (N_fixed_winner).Nodup := sc_fixed_winner.nd
    exact (dss_cons (ds_if (db_bool (dw_or (db_not (db_tru (DE.p (de_call I_is_within hr (by decide) tk (da_cons (de_var 0) (da_cons de_int (da_cons (de_glob (T.c_MOST_FIXED.at rfl rfl) rfl) da_nil))) rfl)))) (dw_or1 (db_not (db_tru (DE.p (de_call I_is_within hr (by decide) tk (da_cons (de_var 1) (da_cons de_int (da_cons (de_glob (T.c_MOST_FIXED.at rfl rfl) rfl) da_nil))) rfl)))))))
 (dss_one (ds_raise (T.x_NoCount.at rfl rfl) rfl tk rfl))
 dss_nil)
 (dss_one (ds_ret (de_call I_raw_fixed hr (by decide) tk (da_cons (de_var 0) (da_cons (de_var 1) da_nil)) rfl)))))
theorem ok__law_fixed (T : Txt K mg) : FnI ⟨P, w, K, mg⟩ base 1 "_law_fixed" m__law_fixed := by
  obtain ⟨f, fd, F, gm, bd⟩ := T.f__law_fixed
  exact fnI_of F gm bd sc__law_fixed (fun cdv A outer s H E hr => by
    have hu : (cxOf (L2.CX P w) P w K mg base N__law_fixed "_law_fixed" (defScope s__law_fixed) f cdv A outer s H E).A.units + 64 < cLine := hr.units
    have hu65 : (cxOf (L2.CX P w) P w K mg base N__law_fixed "_law_fixed" (defScope s__law_fixed) f cdv A outer s H E).A.units + 65 < cLine := by
      have := hr.un
      show (A.deeper _).units + 65 < cLine
      omega
    have tk : Takes (cxOf (L2.CX P w) P w K mg base N__law_fixed "_law_fixed" (defScope s__law_fixed) f cdv A outer s H E) (fun c d _ H' => E c d H') := takes_of rfl rfl rfl rfl
    have nd : (N__law_fixed).Nodup := sc__law_fixed.nd
    exact (dss_cons (ds_par 2 3 rfl nd (DE.v (DO.e (do_listRg rfl (dr_1 (de_var 0) rfl T.z_range) rfl T.z_list))) (DE.v de_int) rfl)
 (dss_cons (ds_while 100000 PassesOwn.leaving (db_cmp c_gt (DE.p (de_b1 k_len (dp_var 2) rfl T.z_len PySem.boot_len)) (DE.p de_int))
 (dss_cons (ds_set 3 nd (de_bin b_mod (DE.p (de_t1 k_int (DE.p (de_bin b_sub (DE.p (de_bin b_add (dp_var 3) (dp_var 1))) (DE.p de_int))) rfl T.z_int (by decide +kernel))) (DE.p (de_b1 k_len (dp_var 2) rfl T.z_len PySem.boot_len))))
 (dss_cons (ds_set 2 nd (de_bin b_add (DE.p (de_slG (dp_var 2) dpt_none (dpt_some (de_var 3)))) (DE.p (de_slG (dp_var 2) (dpt_some (de_bin b_add (dp_var 3) (DE.p de_int))) dpt_none))))
 (dss_one (ds_set 3 nd (de_bin b_mod (DE.p (de_t1 k_int (dp_var 3) rfl T.z_int (by decide +kernel))) (DE.p (de_b1 k_len (dp_var 2) rfl T.z_len PySem.boot_len))))))))
 (dss_one (ds_ret (de_ix (dp_var 2) (DE.p de_int)))))))
theorem ok_steps_for (T : Txt K mg) : FnI ⟨P, w, K, mg⟩ base 3 "steps_for" m_steps_for := by
  have I_is_within := @ok_is_within P w K mg base T
  have I_raw_fixed := @ok_raw_fixed P w K mg base T
  obtain ⟨f, fd, F, gm, bd⟩ := T.f_steps_for
  exact fnI_of F gm bd sc_steps_for (fun cdv A outer s H E hr => by
    have hu : (cxOf (L2.CX P w) P w K mg base N_steps_for "steps_for" (defScope s_steps_for) f cdv A outer s H E).A.units + 64 < cLine := hr.units
    have hu65 : (cxOf (L2.CX P w) P w K mg base N_steps_for "steps_for" (defScope s_steps_for) f cdv A outer s H E).A.units + 65 < cLine := by
      have := hr.un
      show (A.deeper _).units + 65 < cLine
      omega
    have tk : Takes (cxOf (L2.CX P w) P w K mg base N_steps_for "steps_for" (defScope s_steps_for) f cdv A outer s H E) (fun c d _ H' => E c d H') := takes_of rfl rfl rfl rfl
    have nd : (N_steps_for).Nodup := sc_steps_for.nd
    exact (dss_cons (ds_if (db_not (db_tru (DE.p (de_call I_is_within hr (by decide) tk (da_cons (de_var 0) (da_cons de_int (da_cons (de_glob (T.c_MOST_SOUGHT.at rfl rfl) rfl) da_nil))) rfl))))
 (dss_one (ds_raise (T.x_NoCount.at rfl rfl) rfl tk rfl))
 dss_nil)
 (dss_cons (ds_if (db_not (db_tru (DE.p (de_call I_is_within hr (by decide) tk (da_cons (de_var 1) (da_cons de_int (da_cons (de_bin b_sub (dp_var 0) (DE.p de_int)) da_nil))) rfl))))
 (dss_one (ds_raise (T.x_NoDancer.at rfl rfl) rfl tk rfl))
 dss_nil)
 (dss_cons (ds_setLc 2 (own := [("k", 3)]) rfl nd (sw_true rfl rfl rfl (by decide +kernel)) (di_rg2 de_int (de_bin b_add (DE.p (de_glob (T.c_MOST_TRIED.at rfl rfl) rfl)) (DE.p de_int)) rfl T.z_range) (blkOk_by (N := N_steps_for) (sc := defScope s_steps_for) (own := [("k", 3)]) (by decide +kernel)) (fun _ _ _ _ _ => (dg_name 3 nd)) (fun _ _ _ _ _ => (dts_one (db_cmp (c_eq hu) (DE.p (de_call I_raw_fixed hr (by decide) L2.takes0 (da_cons (de_var 0) (da_cons (de_var 3) da_nil)) rfl)) (dp_var 1)))) (fun _ _ _ _ _ => (de_var 3)))
 (dss_frz 2 (dss_one (ds_ret (de_if (db_tru (dp_var 2)) (de_ix (dp_var 2) (DE.p de_int)) de_non))))))))
theorem ok_is_sized (T : Txt K mg) : FnI ⟨P, w, K, mg⟩ base 1 "is_sized" m_is_sized := by
  obtain ⟨f, fd, F, gm, bd⟩ := T.f_is_sized
  exact fnI_of F gm bd sc_is_sized (fun cdv A outer s H E hr => by
    have hu : (cxOf (L2.CX P w) P w K mg base N_is_sized "is_sized" (defScope s_is_sized) f cdv A outer s H E).A.units + 64 < cLine := hr.units
    have hu65 : (cxOf (L2.CX P w) P w K mg base N_is_sized "is_sized" (defScope s_is_sized) f cdv A outer s H E).A.units + 65 < cLine := by
      have := hr.un
      show (A.deeper _).units + 65 < cLine
      omega
    have tk : Takes (cxOf (L2.CX P w) P w K mg base N_is_sized "is_sized" (defScope s_is_sized) f cdv A outer s H E) (fun c d _ H' => E c d H') := takes_of rfl rfl rfl rfl
    have nd : (N_is_sized).Nodup := sc_is_sized.nd
    exact (dss_one (ds_ret (de_and (de_is1 .tuple (dp_var 0) rfl T.z_isinstance rfl T.z_tuple (by decide +kernel)) (de_one (de_chain c_le c_le (dp_var 1) (DE.p (de_b1 k_len (dp_var 0) rfl T.z_len PySem.boot_len)) (dp_var 2)))))))
theorem ok_is_stop_round (T : Txt K mg) : FnI ⟨P, w, K, mg⟩ base 3 "is_stop_round" m_is_stop_round := by
  have I_is_sized := @ok_is_sized P w K mg base T
  have I_is_within := @ok_is_within P w K mg base T
  obtain ⟨f, fd, F, gm, bd⟩ := T.f_is_stop_round
  exact fnI_of F gm bd sc_is_stop_round (fun cdv A outer s H E hr => by
    have hu : (cxOf (L2.CX P w) P w K mg base N_is_stop_round "is_stop_round" (defScope s_is_stop_round) f cdv A outer s H E).A.units + 64 < cLine := hr.units
    have hu65 : (cxOf (L2.CX P w) P w K mg base N_is_stop_round "is_stop_round" (defScope s_is_stop_round) f cdv A outer s H E).A.units + 65 < cLine := by
      have := hr.un
      show (A.deeper _).units + 65 < cLine
      omega
    have tk : Takes (cxOf (L2.CX P w) P w K mg base N_is_stop_round "is_stop_round" (defScope s_is_stop_round) f cdv A outer s H E) (fun c d _ H' => E c d H') := takes_of rfl rfl rfl rfl
    have nd : (N_is_stop_round).Nodup := sc_is_stop_round.nd
    exact (dss_one (ds_ret (de_and (de_call I_is_sized hr (by decide) tk (da_cons (de_var 0) (da_cons de_int (da_cons de_int da_nil))) rfl) (de_and (de_call I_is_within hr (by decide) tk (da_cons (de_ix (dp_var 0) (DE.p de_int)) (da_cons de_int (da_cons (de_glob (T.c_MOST_STEPS.at rfl rfl) rfl) da_nil))) rfl) (de_one (de_call I_is_within hr (by decide) tk (da_cons (de_ix (dp_var 0) (DE.p de_int)) (da_cons (de_ix (dp_var 0) (DE.p de_int)) (da_cons (de_glob (T.c_MOST_STEPS.at rfl rfl) rfl) da_nil))) rfl)))))))
theorem ok_is_chair_game (T : Txt K mg) : FnI ⟨P, w, K, mg⟩ base 4 "is_chair_game" m_is_chair_game := by
  have I_is_sized := @ok_is_sized P w K mg base T
  have I_is_stop_round := @ok_is_stop_round P w K mg base T
  obtain ⟨f, fd, F, gm, bd⟩ := T.f_is_chair_game
  exact fnI_of F gm bd sc_is_chair_game (fun cdv A outer s H E hr => by
    have hu : (cxOf (L2.CX P w) P w K mg base N_is_chair_game "is_chair_game" (defScope s_is_chair_game) f cdv A outer s H E).A.units + 64 < cLine := hr.units
    have hu65 : (cxOf (L2.CX P w) P w K mg base N_is_chair_game "is_chair_game" (defScope s_is_chair_game) f cdv A outer s H E).A.units + 65 < cLine := by
      have := hr.un
      show (A.deeper _).units + 65 < cLine
      omega
    have tk : Takes (cxOf (L2.CX P w) P w K mg base N_is_chair_game "is_chair_game" (defScope s_is_chair_game) f cdv A outer s H E) (fun c d _ H' => E c d H') := takes_of rfl rfl rfl rfl
    have nd : (N_is_chair_game).Nodup := sc_is_chair_game.nd
    exact (dss_one (ds_ret (de_and (de_call I_is_sized hr (by decide) tk (da_cons (de_var 0) (da_cons de_int (da_cons (de_glob (T.c_MOST_ROUNDS.at rfl rfl) rfl) da_nil))) rfl) (de_one (de_b1 (k_all rfl) (DE.p (DO.e (do_lc (own := [("one", 1)]) rfl nd (di_peek (dp_var 0)) (blkOk_by (N := N_is_chair_game) (sc := defScope s_is_chair_game) (own := [("one", 1)]) (by decide +kernel)) (fun _ _ _ _ _ => (dg_name 1 nd)) (fun _ _ _ _ _ => dts_nil) (fun _ _ _ _ _ => (de_call I_is_stop_round hr (by decide) L2.takes0 (da_cons (de_var 1) da_nil) rfl))))) rfl T.z_all (by decide +kernel)))))))
theorem ok_check_game (T : Txt K mg) : FnI ⟨P, w, K, mg⟩ base 5 "check_game" m_check_game := by
  have I_is_chair_game := @ok_is_chair_game P w K mg base T
  obtain ⟨f, fd, F, gm, bd⟩ := T.f_check_game
  exact fnI_of F gm bd sc_check_game (fun cdv A outer s H E hr => by
    have hu : (cxOf (L2.CX P w) P w K mg base N_check_game "check_game" (defScope s_check_game) f cdv A outer s H E).A.units + 64 < cLine := hr.units
    have hu65 : (cxOf (L2.CX P w) P w K mg base N_check_game "check_game" (defScope s_check_game) f cdv A outer s H E).A.units + 65 < cLine := by
      have := hr.un
      show (A.deeper _).units + 65 < cLine
      omega
    have tk : Takes (cxOf (L2.CX P w) P w K mg base N_check_game "check_game" (defScope s_check_game) f cdv A outer s H E) (fun c d _ H' => E c d H') := takes_of rfl rfl rfl rfl
    have nd : (N_check_game).Nodup := sc_check_game.nd
    exact (dss_one (ds_if (db_not (db_tru (DE.p (de_call I_is_chair_game hr (by decide) tk (da_cons (de_var 0) da_nil) rfl))))
 (dss_one (ds_raise (T.x_NoGame.at rfl rfl) rfl tk rfl))
 dss_nil)))
theorem ok_with_round (T : Txt K mg) : FnI ⟨P, w, K, mg⟩ base 6 "with_round" m_with_round := by
  have I_check_game := @ok_check_game P w K mg base T
  have I_is_stop_round := @ok_is_stop_round P w K mg base T
  obtain ⟨f, fd, F, gm, bd⟩ := T.f_with_round
  exact fnI_of F gm bd sc_with_round (fun cdv A outer s H E hr => by
    have hu : (cxOf (L2.CX P w) P w K mg base N_with_round "with_round" (defScope s_with_round) f cdv A outer s H E).A.units + 64 < cLine := hr.units
    have hu65 : (cxOf (L2.CX P w) P w K mg base N_with_round "with_round" (defScope s_with_round) f cdv A outer s H E).A.units + 65 < cLine := by
      have := hr.un
      show (A.deeper _).units + 65 < cLine
      omega
    have tk : Takes (cxOf (L2.CX P w) P w K mg base N_with_round "with_round" (defScope s_with_round) f cdv A outer s H E) (fun c d _ H' => E c d H') := takes_of rfl rfl rfl rfl
    have nd : (N_with_round).Nodup := sc_with_round.nd
    exact (dss_cons (ds_expr (de_call I_check_game hr (by decide) tk (da_cons (de_var 0) da_nil) rfl))
 (dss_cons (ds_if (db_not (db_tru (DE.p (de_call I_is_stop_round hr (by decide) tk (da_cons (de_tup (da_cons (de_var 1) (da_cons (de_var 2) da_nil))) da_nil) rfl))))
 (dss_one (ds_raise (T.x_NoRound.at rfl rfl) rfl tk rfl))
 dss_nil)
 (dss_cons (ds_if (db_cmp (c_eq hu) (DE.p (de_b1 k_len (dp_var 0) rfl T.z_len PySem.boot_len)) (DE.p (de_glob (T.c_MOST_ROUNDS.at rfl rfl) rfl)))
 (dss_one (ds_raise (T.x_Full.at rfl rfl) rfl tk rfl))
 dss_nil)
 (dss_one (ds_ret (de_bin b_add (DE.p (de_tup (da_cons (de_tup (da_cons (de_var 1) (da_cons (de_var 2) da_nil))) da_nil))) (dp_var 0))))))))
theorem ok_without_round (T : Txt K mg) : FnI ⟨P, w, K, mg⟩ base 6 "without_round" m_without_round := by
  have I_check_game := @ok_check_game P w K mg base T
  obtain ⟨f, fd, F, gm, bd⟩ := T.f_without_round
  exact fnI_of F gm bd sc_without_round (fun cdv A outer s H E hr => by
    have hu : (cxOf (L2.CX P w) P w K mg base N_without_round "without_round" (defScope s_without_round) f cdv A outer s H E).A.units + 64 < cLine := hr.units
    have hu65 : (cxOf (L2.CX P w) P w K mg base N_without_round "without_round" (defScope s_without_round) f cdv A outer s H E).A.units + 65 < cLine := by
      have := hr.un
      show (A.deeper _).units + 65 < cLine
      omega
    have tk : Takes (cxOf (L2.CX P w) P w K mg base N_without_round "without_round" (defScope s_without_round) f cdv A outer s H E) (fun c d _ H' => E c d H') := takes_of rfl rfl rfl rfl
    have nd : (N_without_round).Nodup := sc_without_round.nd
    exact (dss_cons (ds_expr (de_call I_check_game hr (by decide) tk (da_cons (de_var 0) da_nil) rfl))
 (dss_cons (ds_if (db_cmp c_lt (DE.p (de_b1 k_len (dp_var 0) rfl T.z_len PySem.boot_len)) (DE.p de_int))
 (dss_one (ds_raise (T.x_TooFew.at rfl rfl) rfl tk rfl))
 dss_nil)
 (dss_one (ds_ret (de_slG (dp_var 0) (dpt_some de_int) dpt_none))))))
theorem ok_law (T : Txt K mg) {f : Addr} {fd : FuncData} (F : Fun K "law" "law" s_law f fd) (hm : LawTrue b_law 10) : FnOk P w K mg base (L2.CX P w) 10 f fd ["script"] (spLaw ⟨P, w, K, mg⟩) := by
  have I__law_game := @ok__law_game P w K mg base T
  have I__law_is := @ok__law_is P w K mg base T
  have I__law_draw := @ok__law_draw P w K mg base T
  have I_fixed_winner := @ok_fixed_winner P w K mg base T
  have I__law_fixed := @ok__law_fixed P w K mg base T
  have I_steps_for := @ok_steps_for P w K mg base T
  have I_with_round := @ok_with_round P w K mg base T
  have I_without_round := @ok_without_round P w K mg base T
  obtain ⟨fh, fdh, Fh, gh, bh⟩ := T.f__law_hand
  have FH := @ok__law_hand P w K mg base T fh fdh Fh handmade
  exact law_of F sc_law rfl rfl hm (fun cdv A outer s H E hr => by
    have hu : (cxOf (L2.CX P w) P w K mg base N_law "law" (defScope s_law) f cdv A outer s H E).A.units + 64 < cLine := hr.units
    have hu65 : (cxOf (L2.CX P w) P w K mg base N_law "law" (defScope s_law) f cdv A outer s H E).A.units + 65 < cLine := by
      have := hr.un
      show (A.deeper _).units + 65 < cLine
      omega
    have tk : Takes (cxOf (L2.CX P w) P w K mg base N_law "law" (defScope s_law) f cdv A outer s H E) (fun c d _ H' => E c d H') := takes_of rfl rfl rfl rfl
    have nd : (N_law).Nodup := sc_law.nd
    exact ps_hand FH hr (by decide) tk nd gh Fh.kp bh rfl) (fun cdv A outer s H E hr => by
    have hu : (cxOf (L2.CX P w) P w K mg base N_law "law" (defScope s_law) f cdv A outer s H E).A.units + 64 < cLine := hr.units
    have hu65 : (cxOf (L2.CX P w) P w K mg base N_law "law" (defScope s_law) f cdv A outer s H E).A.units + 65 < cLine := by
      have := hr.un
      show (A.deeper _).units + 65 < cLine
      omega
    have tk : Takes (cxOf (L2.CX P w) P w K mg base N_law "law" (defScope s_law) f cdv A outer s H E) (fun c d _ H' => E c d H') := takes_of rfl rfl rfl rfl
    have nd : (N_law).Nodup := sc_law.nd
    exact (dss_cons (ds_for PassesOwn.leaving rfl (di_rg1 de_int rfl T.z_range) (dg_name 2 nd)
 (dss_cons (ds_par 3 4 rfl nd (DE.v (de_bin b_add (DE.p de_int) (DE.p (de_call I__law_draw hr (by decide) tk (da_cons (de_var 1) (da_cons de_int da_nil)) rfl)))) (DE.v (de_bin b_add (DE.p de_int) (DE.p (de_call I__law_draw hr (by decide) tk (da_cons (de_var 1) (da_cons de_int da_nil)) rfl)))) rfl)
 (dss_cons (ds_if (db_not (db_tru (DE.p (de_call (I__law_is 8) hr (by decide) tk (da_cons (de_call I_fixed_winner hr (by decide) tk (da_cons (de_var 3) (da_cons (de_var 4) da_nil)) rfl) (da_cons (de_call I__law_fixed hr (by decide) tk (da_cons (de_var 3) (da_cons (de_var 4) da_nil)) rfl) da_nil)) rfl))))
 (dss_one (ds_ret de_bl))
 dss_nil)
 (dss_cons (ds_set 5 nd (de_bin b_add (DE.p de_int) (DE.p (de_call I__law_draw hr (by decide) tk (da_cons (de_var 1) (da_cons de_int da_nil)) rfl))))
 (dss_cons (ds_par 6 7 rfl nd (DE.v (de_call I__law_draw hr (by decide) tk (da_cons (de_var 1) (da_cons (de_var 5) da_nil)) rfl)) (DE.v de_non) rfl)
 (dss_cons (ds_for PassesOwn.leaving rfl (di_rg3 de_int de_int (de_un u_neg (DE.p de_int)) rfl T.z_range) (dg_name 8 nd)
 (dss_one (ds_set 7 nd (de_if (db_cmp (c_eq hu) (DE.p (de_call I__law_fixed hr (by decide) tk (da_cons (de_var 5) (da_cons (de_var 8) da_nil)) rfl)) (dp_var 6)) (de_var 8) (de_var 7)))))
 (dss_cons (ds_if (db_not (db_tru (DE.p (de_call (I__law_is 8) hr (by decide) tk (da_cons (de_call I_steps_for hr (by decide) tk (da_cons (de_var 5) (da_cons (de_var 6) da_nil)) rfl) (da_cons (de_var 7) da_nil)) rfl))))
 (dss_one (ds_ret de_bl))
 dss_nil)
 (dss_cons (ds_set 9 nd (de_call I__law_game hr (by decide) tk (da_cons (de_var 1) (da_cons de_int (da_cons de_int da_nil))) rfl))
 (dss_cons (ds_set 10 nd (de_bin b_add (DE.p de_int) (DE.p (de_call I__law_draw hr (by decide) tk (da_cons (de_var 1) (da_cons de_int da_nil)) rfl))))
 (dss_cons (ds_set 11 nd (de_tup (da_cons (de_var 10) (da_cons (de_b2 (k_min2 rfl) (DE.p de_int) (DE.p (de_bin b_add (dp_var 10) (DE.p (de_call I__law_draw hr (by decide) tk (da_cons (de_var 1) (da_cons de_int da_nil)) rfl)))) rfl T.z_min (by decide +kernel)) da_nil))))
 (dss_cons (ds_if (db_not (db_tru (DE.p (de_call (I__law_is 8) hr (by decide) tk (da_cons (de_call I_with_round hr (by decide) tk (da_cons (de_var 9) (da_cons (de_ix (dp_var 11) (DE.p de_int)) (da_cons (de_ix (dp_var 11) (DE.p de_int)) da_nil))) rfl) (da_cons (de_bin b_add (DE.p (de_tup (da_cons (de_var 11) da_nil))) (dp_var 9)) da_nil)) rfl))))
 (dss_one (ds_ret de_bl))
 dss_nil)
 (dss_one (ds_if (db_bool (dw_and (db_cmp c_gt (DE.p (de_b1 k_len (dp_var 9) rfl T.z_len PySem.boot_len)) (DE.p de_int)) (dw_and1 (db_not (db_tru (DE.p (de_call (I__law_is 8) hr (by decide) tk (da_cons (de_call I_without_round hr (by decide) tk (da_cons (de_var 9) da_nil) rfl) (da_cons (de_slG (dp_var 9) (dpt_some de_int) dpt_none) da_nil)) rfl)))))))
 (dss_one (ds_ret de_bl))
 dss_nil)))))))))))))
 (dss_one (ds_ret de_bl))))
end
end Gk95
namespace Gk95
open PySem PySem.Spec PyProof.Rows L2 PL
theorem all_mk {l : PySem.W.OpenLaw} {w : World} {K : PySem.W.Frag} {h : Heap} {mg : Str → Option Value} {fa : Addr} (hlaw : LawTrue b_law 10) (X : K.In h) (G : h.Ns mainGlobals mg) (hfa : mg "law" = some (.ref fa))
    {f0 : Addr} {od0 an0 : Option Addr} {sl0 : Array (Option Value)} {oc0 kV0 dc0 pm0 cd0 ct0 : Value} {f1 : Addr} {od1 an1 : Option Addr} {sl1 : Array (Option Value)} {oc1 kV1 dc1 pm1 cd1 ct1 : Value} {f2 : Addr} {od2 an2 : Option Addr} {sl2 : Array (Option Value)} {oc2 kV2 dc2 pm2 cd2 ct2 : Value} {f3 : Addr} {od3 an3 : Option Addr} {sl3 : Array (Option Value)} {oc3 kV3 dc3 pm3 cd3 ct3 : Value} {f4 : Addr} {od4 an4 : Option Addr} {sl4 : Array (Option Value)} {oc4 kV4 dc4 pm4 cd4 ct4 : Value} {f5 : Addr} {od5 an5 : Option Addr} {sl5 : Array (Option Value)} {oc5 kV5 dc5 pm5 cd5 ct5 : Value} {f6 : Addr} {od6 an6 : Option Addr} {sl6 : Array (Option Value)} {oc6 kV6 dc6 pm6 cd6 ct6 : Value} {f7 : Addr} {od7 an7 : Option Addr} {sl7 : Array (Option Value)} {oc7 kV7 dc7 pm7 cd7 ct7 : Value} {f8 : Addr} {od8 an8 : Option Addr} {sl8 : Array (Option Value)} {oc8 kV8 dc8 pm8 cd8 ct8 : Value} {f9 : Addr} {od9 an9 : Option Addr} {sl9 : Array (Option Value)} {oc9 kV9 dc9 pm9 cd9 ct9 : Value} {f10 : Addr} {od10 an10 : Option Addr} {sl10 : Array (Option Value)} {oc10 kV10 dc10 pm10 cd10 ct10 : Value} {f11 : Addr} {od11 an11 : Option Addr} {sl11 : Array (Option Value)} {oc11 kV11 dc11 pm11 cd11 ct11 : Value} {f12 : Addr} {od12 an12 : Option Addr} {sl12 : Array (Option Value)} {oc12 kV12 dc12 pm12 cd12 ct12 : Value} {f13 : Addr} {od13 an13 : Option Addr} {sl13 : Array (Option Value)} {oc13 kV13 dc13 pm13 cd13 ct13 : Value} {f14 : Addr} {od14 an14 : Option Addr} {sl14 : Array (Option Value)} {oc14 kV14 dc14 pm14 cd14 ct14 : Value} {f15 : Addr} {od15 an15 : Option Addr} {sl15 : Array (Option Value)} {oc15 kV15 dc15 pm15 cd15 ct15 : Value} {f16 : Addr} {od16 an16 : Option Addr} {sl16 : Array (Option Value)} {oc16 kV16 dc16 pm16 cd16 ct16 : Value}
    (a0 : PySem.W.nsIn K mainGlobals "_law_hand" = some (some (.ref f0))) (l0 : K.lookup f0 = some ⟨oc0, od0, .func (PySem.W.fnOf "_law_hand" "_law_hand" (defArgs s__law_hand) (defBody s__law_hand) (defScope s__law_hand) .none kV0 dc0 pm0 an0 cd0 ct0), sl0⟩) (c0 : PySem.W.codeIn K cd0 "_law_hand" = true) (k0 : PySem.W.keepIn K (.ref f0) = true)
    (a1 : PySem.W.nsIn K mainGlobals "_law_draw" = some (some (.ref f1))) (l1 : K.lookup f1 = some ⟨oc1, od1, .func (PySem.W.fnOf "_law_draw" "_law_draw" (defArgs s__law_draw) (defBody s__law_draw) (defScope s__law_draw) .none kV1 dc1 pm1 an1 cd1 ct1), sl1⟩) (c1 : PySem.W.codeIn K cd1 "_law_draw" = true) (k1 : PySem.W.keepIn K (.ref f1) = true)
    (a2 : PySem.W.nsIn K mainGlobals "_law_game" = some (some (.ref f2))) (l2 : K.lookup f2 = some ⟨oc2, od2, .func (PySem.W.fnOf "_law_game" "_law_game" (defArgs s__law_game) (defBody s__law_game) (defScope s__law_game) .none kV2 dc2 pm2 an2 cd2 ct2), sl2⟩) (c2 : PySem.W.codeIn K cd2 "_law_game" = true) (k2 : PySem.W.keepIn K (.ref f2) = true)
    (a3 : PySem.W.nsIn K mainGlobals "_law_is" = some (some (.ref f3))) (l3 : K.lookup f3 = some ⟨oc3, od3, .func (PySem.W.fnOf "_law_is" "_law_is" (defArgs s__law_is) (defBody s__law_is) (defScope s__law_is) .none kV3 dc3 pm3 an3 cd3 ct3), sl3⟩) (c3 : PySem.W.codeIn K cd3 "_law_is" = true) (k3 : PySem.W.keepIn K (.ref f3) = true)
    (a4 : PySem.W.nsIn K mainGlobals "raw_fixed" = some (some (.ref f4))) (l4 : K.lookup f4 = some ⟨oc4, od4, .func (PySem.W.fnOf "raw_fixed" "raw_fixed" (defArgs s_raw_fixed) (defBody s_raw_fixed) (defScope s_raw_fixed) .none kV4 dc4 pm4 an4 cd4 ct4), sl4⟩) (c4 : PySem.W.codeIn K cd4 "raw_fixed" = true) (k4 : PySem.W.keepIn K (.ref f4) = true)
    (a5 : PySem.W.nsIn K mainGlobals "is_integer" = some (some (.ref f5))) (l5 : K.lookup f5 = some ⟨oc5, od5, .func (PySem.W.fnOf "is_integer" "is_integer" (defArgs s_is_integer) (defBody s_is_integer) (defScope s_is_integer) .none kV5 dc5 pm5 an5 cd5 ct5), sl5⟩) (c5 : PySem.W.codeIn K cd5 "is_integer" = true) (k5 : PySem.W.keepIn K (.ref f5) = true)
    (a6 : PySem.W.nsIn K mainGlobals "is_within" = some (some (.ref f6))) (l6 : K.lookup f6 = some ⟨oc6, od6, .func (PySem.W.fnOf "is_within" "is_within" (defArgs s_is_within) (defBody s_is_within) (defScope s_is_within) .none kV6 dc6 pm6 an6 cd6 ct6), sl6⟩) (c6 : PySem.W.codeIn K cd6 "is_within" = true) (k6 : PySem.W.keepIn K (.ref f6) = true)
    (a7 : PySem.W.nsIn K mainGlobals "fixed_winner" = some (some (.ref f7))) (l7 : K.lookup f7 = some ⟨oc7, od7, .func (PySem.W.fnOf "fixed_winner" "fixed_winner" (defArgs s_fixed_winner) (defBody s_fixed_winner) (defScope s_fixed_winner) .none kV7 dc7 pm7 an7 cd7 ct7), sl7⟩) (c7 : PySem.W.codeIn K cd7 "fixed_winner" = true) (k7 : PySem.W.keepIn K (.ref f7) = true)
    (a8 : PySem.W.nsIn K mainGlobals "_law_fixed" = some (some (.ref f8))) (l8 : K.lookup f8 = some ⟨oc8, od8, .func (PySem.W.fnOf "_law_fixed" "_law_fixed" (defArgs s__law_fixed) (defBody s__law_fixed) (defScope s__law_fixed) .none kV8 dc8 pm8 an8 cd8 ct8), sl8⟩) (c8 : PySem.W.codeIn K cd8 "_law_fixed" = true) (k8 : PySem.W.keepIn K (.ref f8) = true)
    (a9 : PySem.W.nsIn K mainGlobals "steps_for" = some (some (.ref f9))) (l9 : K.lookup f9 = some ⟨oc9, od9, .func (PySem.W.fnOf "steps_for" "steps_for" (defArgs s_steps_for) (defBody s_steps_for) (defScope s_steps_for) .none kV9 dc9 pm9 an9 cd9 ct9), sl9⟩) (c9 : PySem.W.codeIn K cd9 "steps_for" = true) (k9 : PySem.W.keepIn K (.ref f9) = true)
    (a10 : PySem.W.nsIn K mainGlobals "is_sized" = some (some (.ref f10))) (l10 : K.lookup f10 = some ⟨oc10, od10, .func (PySem.W.fnOf "is_sized" "is_sized" (defArgs s_is_sized) (defBody s_is_sized) (defScope s_is_sized) .none kV10 dc10 pm10 an10 cd10 ct10), sl10⟩) (c10 : PySem.W.codeIn K cd10 "is_sized" = true) (k10 : PySem.W.keepIn K (.ref f10) = true)
    (a11 : PySem.W.nsIn K mainGlobals "is_stop_round" = some (some (.ref f11))) (l11 : K.lookup f11 = some ⟨oc11, od11, .func (PySem.W.fnOf "is_stop_round" "is_stop_round" (defArgs s_is_stop_round) (defBody s_is_stop_round) (defScope s_is_stop_round) .none kV11 dc11 pm11 an11 cd11 ct11), sl11⟩) (c11 : PySem.W.codeIn K cd11 "is_stop_round" = true) (k11 : PySem.W.keepIn K (.ref f11) = true)
    (a12 : PySem.W.nsIn K mainGlobals "is_chair_game" = some (some (.ref f12))) (l12 : K.lookup f12 = some ⟨oc12, od12, .func (PySem.W.fnOf "is_chair_game" "is_chair_game" (defArgs s_is_chair_game) (defBody s_is_chair_game) (defScope s_is_chair_game) .none kV12 dc12 pm12 an12 cd12 ct12), sl12⟩) (c12 : PySem.W.codeIn K cd12 "is_chair_game" = true) (k12 : PySem.W.keepIn K (.ref f12) = true)
    (a13 : PySem.W.nsIn K mainGlobals "check_game" = some (some (.ref f13))) (l13 : K.lookup f13 = some ⟨oc13, od13, .func (PySem.W.fnOf "check_game" "check_game" (defArgs s_check_game) (defBody s_check_game) (defScope s_check_game) .none kV13 dc13 pm13 an13 cd13 ct13), sl13⟩) (c13 : PySem.W.codeIn K cd13 "check_game" = true) (k13 : PySem.W.keepIn K (.ref f13) = true)
    (a14 : PySem.W.nsIn K mainGlobals "with_round" = some (some (.ref f14))) (l14 : K.lookup f14 = some ⟨oc14, od14, .func (PySem.W.fnOf "with_round" "with_round" (defArgs s_with_round) (defBody s_with_round) (defScope s_with_round) .none kV14 dc14 pm14 an14 cd14 ct14), sl14⟩) (c14 : PySem.W.codeIn K cd14 "with_round" = true) (k14 : PySem.W.keepIn K (.ref f14) = true)
    (a15 : PySem.W.nsIn K mainGlobals "without_round" = some (some (.ref f15))) (l15 : K.lookup f15 = some ⟨oc15, od15, .func (PySem.W.fnOf "without_round" "without_round" (defArgs s_without_round) (defBody s_without_round) (defScope s_without_round) .none kV15 dc15 pm15 an15 cd15 ct15), sl15⟩) (c15 : PySem.W.codeIn K cd15 "without_round" = true) (k15 : PySem.W.keepIn K (.ref f15) = true)
    (a16 : PySem.W.nsIn K mainGlobals "law" = some (some (.ref f16))) (l16 : K.lookup f16 = some ⟨oc16, od16, .func (PySem.W.fnOf "law" "law" (defArgs s_law) (defBody s_law) (defScope s_law) .none kV16 dc16 pm16 an16 cd16 ct16), sl16⟩) (c16 : PySem.W.codeIn K cd16 "law" = true) (k16 : PySem.W.keepIn K (.ref f16) = true)
    (z0 : PySem.W.nsIn K mainGlobals "abs" = some none)
    (z1 : PySem.W.nsIn K mainGlobals "all" = some none)
    (z2 : PySem.W.nsIn K mainGlobals "bool" = some none)
    (z3 : PySem.W.nsIn K mainGlobals "dict" = some none)
    (z4 : PySem.W.nsIn K mainGlobals "int" = some none)
    (z5 : PySem.W.nsIn K mainGlobals "isinstance" = some none)
    (z6 : PySem.W.nsIn K mainGlobals "len" = some none)
    (z7 : PySem.W.nsIn K mainGlobals "list" = some none)
    (z8 : PySem.W.nsIn K mainGlobals "min" = some none)
    (z9 : PySem.W.nsIn K mainGlobals "range" = some none)
    (z10 : PySem.W.nsIn K mainGlobals "str" = some none)
    (z11 : PySem.W.nsIn K mainGlobals "tuple" = some none)
    (z12 : PySem.W.nsIn K mainGlobals "zip" = some none)
    {u0 : Tok} (g0 : PySem.W.nsIn K mainGlobals "MOST_FIXED" = some (some (.int 60 u0)))
    {u1 : Tok} (g1 : PySem.W.nsIn K mainGlobals "MOST_ROUNDS" = some (some (.int 7 u1)))
    {u2 : Tok} (g2 : PySem.W.nsIn K mainGlobals "MOST_SOUGHT" = some (some (.int 20 u2)))
    {u3 : Tok} (g3 : PySem.W.nsIn K mainGlobals "MOST_STEPS" = some (some (.int 9 u3)))
    {u4 : Tok} (g4 : PySem.W.nsIn K mainGlobals "MOST_TRIED" = some (some (.int 200 u4)))
    {C0 : Addr} (x0a : PySem.W.nsIn K mainGlobals "Full" = some (some (.ref C0))) (x0b : PySem.W.excIn K C0 [.type "ValueError", .type "Exception", .type "BaseException", .type "object"] "ValueError.__new__" = true) (x0c : PySem.W.keepIn K (.ref C0) = true) (x0d : PySem.W.subIn K (.ref C0) (.type "BaseException") = some true) (x0e : PySem.W.typeIn K (.ref C0) = some (.type "type"))
    {C1 : Addr} (x1a : PySem.W.nsIn K mainGlobals "NoCount" = some (some (.ref C1))) (x1b : PySem.W.excIn K C1 [.type "ValueError", .type "Exception", .type "BaseException", .type "object"] "ValueError.__new__" = true) (x1c : PySem.W.keepIn K (.ref C1) = true) (x1d : PySem.W.subIn K (.ref C1) (.type "BaseException") = some true) (x1e : PySem.W.typeIn K (.ref C1) = some (.type "type"))
    {C2 : Addr} (x2a : PySem.W.nsIn K mainGlobals "NoDancer" = some (some (.ref C2))) (x2b : PySem.W.excIn K C2 [.type "ValueError", .type "Exception", .type "BaseException", .type "object"] "ValueError.__new__" = true) (x2c : PySem.W.keepIn K (.ref C2) = true) (x2d : PySem.W.subIn K (.ref C2) (.type "BaseException") = some true) (x2e : PySem.W.typeIn K (.ref C2) = some (.type "type"))
    {C3 : Addr} (x3a : PySem.W.nsIn K mainGlobals "NoGame" = some (some (.ref C3))) (x3b : PySem.W.excIn K C3 [.type "ValueError", .type "Exception", .type "BaseException", .type "object"] "ValueError.__new__" = true) (x3c : PySem.W.keepIn K (.ref C3) = true) (x3d : PySem.W.subIn K (.ref C3) (.type "BaseException") = some true) (x3e : PySem.W.typeIn K (.ref C3) = some (.type "type"))
    {C4 : Addr} (x4a : PySem.W.nsIn K mainGlobals "NoRound" = some (some (.ref C4))) (x4b : PySem.W.excIn K C4 [.type "ValueError", .type "Exception", .type "BaseException", .type "object"] "ValueError.__new__" = true) (x4c : PySem.W.keepIn K (.ref C4) = true) (x4d : PySem.W.subIn K (.ref C4) (.type "BaseException") = some true) (x4e : PySem.W.typeIn K (.ref C4) = some (.type "type"))
    {C5 : Addr} (x5a : PySem.W.nsIn K mainGlobals "TooFew" = some (some (.ref C5))) (x5b : PySem.W.excIn K C5 [.type "ValueError", .type "Exception", .type "BaseException", .type "object"] "ValueError.__new__" = true) (x5c : PySem.W.keepIn K (.ref C5) = true) (x5d : PySem.W.subIn K (.ref C5) (.type "BaseException") = some true) (x5e : PySem.W.typeIn K (.ref C5) = some (.type "type"))
    : ∃ fd : FuncData, (∀ (s : Shared) (v : Value), BindsTo s fd ⟨[v], []⟩ [("script", v)]) ∧ ∀ base : Heap, K.In base → base.Ns mainGlobals mg → FnOk l.prog w K mg base (L2.CX l.prog w) 10 fa fd ["script"] (spLawW l.prog w K) := by
  have e := hfa.symm.trans (PySem.W.mg_of X G a16)
  cases e
  have F0 := fun_mk (st := s__law_hand) l0 c0 k0
  have b0 := F0.binds (ps := ["script"]) fun _ _ _ _ _ _ us hl => match us, hl with | [_], _ => rfl
  have F1 := fun_mk (st := s__law_draw) l1 c1 k1
  have b1 := F1.binds (ps := ["hand", "many"]) fun _ _ _ _ _ _ us hl => match us, hl with | [_, _], _ => rfl
  have F2 := fun_mk (st := s__law_game) l2 c2 k2
  have b2 := F2.binds (ps := ["hand", "rounds", "wide"]) fun _ _ _ _ _ _ us hl => match us, hl with | [_, _, _], _ => rfl
  have F3 := fun_mk (st := s__law_is) l3 c3 k3
  have b3 := F3.binds (ps := ["told", "due"]) fun _ _ _ _ _ _ us hl => match us, hl with | [_, _], _ => rfl
  have F4 := fun_mk (st := s_raw_fixed) l4 c4 k4
  have b4 := F4.binds (ps := ["n", "k"]) fun _ _ _ _ _ _ us hl => match us, hl with | [_, _], _ => rfl
  have F5 := fun_mk (st := s_is_integer) l5 c5 k5
  have b5 := F5.binds (ps := ["thing"]) fun _ _ _ _ _ _ us hl => match us, hl with | [_], _ => rfl
  have F6 := fun_mk (st := s_is_within) l6 c6 k6
  have b6 := F6.binds (ps := ["thing", "low", "high"]) fun _ _ _ _ _ _ us hl => match us, hl with | [_, _, _], _ => rfl
  have F7 := fun_mk (st := s_fixed_winner) l7 c7 k7
  have b7 := F7.binds (ps := ["n", "k"]) fun _ _ _ _ _ _ us hl => match us, hl with | [_, _], _ => rfl
  have F8 := fun_mk (st := s__law_fixed) l8 c8 k8
  have b8 := F8.binds (ps := ["n", "k"]) fun _ _ _ _ _ _ us hl => match us, hl with | [_, _], _ => rfl
  have F9 := fun_mk (st := s_steps_for) l9 c9 k9
  have b9 := F9.binds (ps := ["n", "dancer"]) fun _ _ _ _ _ _ us hl => match us, hl with | [_, _], _ => rfl
  have F10 := fun_mk (st := s_is_sized) l10 c10 k10
  have b10 := F10.binds (ps := ["thing", "low", "high"]) fun _ _ _ _ _ _ us hl => match us, hl with | [_, _, _], _ => rfl
  have F11 := fun_mk (st := s_is_stop_round) l11 c11 k11
  have b11 := F11.binds (ps := ["thing"]) fun _ _ _ _ _ _ us hl => match us, hl with | [_], _ => rfl
  have F12 := fun_mk (st := s_is_chair_game) l12 c12 k12
  have b12 := F12.binds (ps := ["thing"]) fun _ _ _ _ _ _ us hl => match us, hl with | [_], _ => rfl
  have F13 := fun_mk (st := s_check_game) l13 c13 k13
  have b13 := F13.binds (ps := ["thing"]) fun _ _ _ _ _ _ us hl => match us, hl with | [_], _ => rfl
  have F14 := fun_mk (st := s_with_round) l14 c14 k14
  have b14 := F14.binds (ps := ["game", "low", "high"]) fun _ _ _ _ _ _ us hl => match us, hl with | [_, _, _], _ => rfl
  have F15 := fun_mk (st := s_without_round) l15 c15 k15
  have b15 := F15.binds (ps := ["game"]) fun _ _ _ _ _ _ us hl => match us, hl with | [_], _ => rfl
  have F16 := fun_mk (st := s_law) l16 c16 k16
  have T : Txt K mg := {
    f__law_hand := ⟨_, _, F0, PySem.W.mg_of X G a0, b0⟩,
    f__law_draw := ⟨_, _, F1, PySem.W.mg_of X G a1, b1⟩,
    f__law_game := ⟨_, _, F2, PySem.W.mg_of X G a2, b2⟩,
    f__law_is := ⟨_, _, F3, PySem.W.mg_of X G a3, b3⟩,
    f_raw_fixed := ⟨_, _, F4, PySem.W.mg_of X G a4, b4⟩,
    f_is_integer := ⟨_, _, F5, PySem.W.mg_of X G a5, b5⟩,
    f_is_within := ⟨_, _, F6, PySem.W.mg_of X G a6, b6⟩,
    f_fixed_winner := ⟨_, _, F7, PySem.W.mg_of X G a7, b7⟩,
    f__law_fixed := ⟨_, _, F8, PySem.W.mg_of X G a8, b8⟩,
    f_steps_for := ⟨_, _, F9, PySem.W.mg_of X G a9, b9⟩,
    f_is_sized := ⟨_, _, F10, PySem.W.mg_of X G a10, b10⟩,
    f_is_stop_round := ⟨_, _, F11, PySem.W.mg_of X G a11, b11⟩,
    f_is_chair_game := ⟨_, _, F12, PySem.W.mg_of X G a12, b12⟩,
    f_check_game := ⟨_, _, F13, PySem.W.mg_of X G a13, b13⟩,
    f_with_round := ⟨_, _, F14, PySem.W.mg_of X G a14, b14⟩,
    f_without_round := ⟨_, _, F15, PySem.W.mg_of X G a15, b15⟩,
    z_abs := PySem.W.mg_none_of X G z0,
    z_all := PySem.W.mg_none_of X G z1,
    z_bool := PySem.W.mg_none_of X G z2,
    z_dict := PySem.W.mg_none_of X G z3,
    z_int := PySem.W.mg_none_of X G z4,
    z_isinstance := PySem.W.mg_none_of X G z5,
    z_len := PySem.W.mg_none_of X G z6,
    z_list := PySem.W.mg_none_of X G z7,
    z_min := PySem.W.mg_none_of X G z8,
    z_range := PySem.W.mg_none_of X G z9,
    z_str := PySem.W.mg_none_of X G z10,
    z_tuple := PySem.W.mg_none_of X G z11,
    z_zip := PySem.W.mg_none_of X G z12,
    c_MOST_FIXED := glob_int (PySem.W.mg_of X G g0),
    c_MOST_ROUNDS := glob_int (PySem.W.mg_of X G g1),
    c_MOST_SOUGHT := glob_int (PySem.W.mg_of X G g2),
    c_MOST_STEPS := glob_int (PySem.W.mg_of X G g3),
    c_MOST_TRIED := glob_int (PySem.W.mg_of X G g4),
    x_Full := ⟨_, PySem.W.mg_of X G x0a, x0b, x0c, x0d, x0e⟩,
    x_NoCount := ⟨_, PySem.W.mg_of X G x1a, x1b, x1c, x1d, x1e⟩,
    x_NoDancer := ⟨_, PySem.W.mg_of X G x2a, x2b, x2c, x2d, x2e⟩,
    x_NoGame := ⟨_, PySem.W.mg_of X G x3a, x3b, x3c, x3d, x3e⟩,
    x_NoRound := ⟨_, PySem.W.mg_of X G x4a, x4b, x4c, x4d, x4e⟩,
    x_TooFew := ⟨_, PySem.W.mg_of X G x5a, x5b, x5c, x5d, x5e⟩ }
  exact ⟨PySem.W.fnOf "law" "law" (defArgs s_law) (defBody s_law) (defScope s_law) .none kV16 dc16 pm16 an16 cd16 ct16, fun s v => .of_eq rfl, fun base _ _ => ok_law (P := l.prog) (w := w) (base := base) T F16 hlaw⟩
end Gk95
open PySem PySem.W PyProof.Rows
set_option maxHeartbeats 0 in
theorem PySem.Challenge.cw_ballrooms_k95_whole_fixed_steps_and_roun_holds : PySem.Challenge.rw_ballrooms_k95_whole_fixed_steps_and_roun.Holds := by
  w_on; o_law; k_head; (case hw => w_witness2)
  k_fill
  refine PL.walk_pl (l := PySem.Challenge.rw_ballrooms_k95_whole_fixed_steps_and_roun) (n := 63) (k := 10) (x := "script") rfl (by decide) rfl ⟨rfl, by decide, by decide⟩ (fun w h Y => PySem.W.kIn_of Y) ?F
  case F =>
    intro w mg fa h KX G hmg
    refine' Gk95.all_mk Gk95.lawtrue KX G hmg ?pl_a0 ?pl_l0 ?pl_c0 ?pl_k0 ?pl_a1 ?pl_l1 ?pl_c1 ?pl_k1 ?pl_a2 ?pl_l2 ?pl_c2 ?pl_k2 ?pl_a3 ?pl_l3 ?pl_c3 ?pl_k3 ?pl_a4 ?pl_l4 ?pl_c4 ?pl_k4 ?pl_a5 ?pl_l5 ?pl_c5 ?pl_k5 ?pl_a6 ?pl_l6 ?pl_c6 ?pl_k6 ?pl_a7 ?pl_l7 ?pl_c7 ?pl_k7 ?pl_a8 ?pl_l8 ?pl_c8 ?pl_k8 ?pl_a9 ?pl_l9 ?pl_c9 ?pl_k9 ?pl_a10 ?pl_l10 ?pl_c10 ?pl_k10 ?pl_a11 ?pl_l11 ?pl_c11 ?pl_k11 ?pl_a12 ?pl_l12 ?pl_c12 ?pl_k12 ?pl_a13 ?pl_l13 ?pl_c13 ?pl_k13 ?pl_a14 ?pl_l14 ?pl_c14 ?pl_k14 ?pl_a15 ?pl_l15 ?pl_c15 ?pl_k15 ?pl_a16 ?pl_l16 ?pl_c16 ?pl_k16 ?pl_z0 ?pl_z1 ?pl_z2 ?pl_z3 ?pl_z4 ?pl_z5 ?pl_z6 ?pl_z7 ?pl_z8 ?pl_z9 ?pl_z10 ?pl_z11 ?pl_z12 ?pl_g0 ?pl_g1 ?pl_g2 ?pl_g3 ?pl_g4 ?pl_x0a ?pl_x0b ?pl_x0c ?pl_x0d ?pl_x0e ?pl_x1a ?pl_x1b ?pl_x1c ?pl_x1d ?pl_x1e ?pl_x2a ?pl_x2b ?pl_x2c ?pl_x2d ?pl_x2e ?pl_x3a ?pl_x3b ?pl_x3c ?pl_x3d ?pl_x3e ?pl_x4a ?pl_x4b ?pl_x4c ?pl_x4d ?pl_x4e ?pl_x5a ?pl_x5b ?pl_x5c ?pl_x5d ?pl_x5e
    (case pl_a0 => k_is); (case pl_l0 => k_is); (case pl_c0 => k_is); (case pl_k0 => k_is); (case pl_a1 => k_is); (case pl_l1 => k_is); (case pl_c1 => k_is); (case pl_k1 => k_is); (case pl_a2 => k_is); (case pl_l2 => k_is); (case pl_c2 => k_is); (case pl_k2 => k_is); (case pl_a3 => k_is); (case pl_l3 => k_is); (case pl_c3 => k_is); (case pl_k3 => k_is); (case pl_a4 => k_is); (case pl_l4 => k_is); (case pl_c4 => k_is); (case pl_k4 => k_is); (case pl_a5 => k_is); (case pl_l5 => k_is); (case pl_c5 => k_is); (case pl_k5 => k_is); (case pl_a6 => k_is); (case pl_l6 => k_is); (case pl_c6 => k_is); (case pl_k6 => k_is); (case pl_a7 => k_is); (case pl_l7 => k_is); (case pl_c7 => k_is); (case pl_k7 => k_is); (case pl_a8 => k_is); (case pl_l8 => k_is); (case pl_c8 => k_is); (case pl_k8 => k_is); (case pl_a9 => k_is); (case pl_l9 => k_is); (case pl_c9 => k_is); (case pl_k9 => k_is); (case pl_a10 => k_is); (case pl_l10 => k_is); (case pl_c10 => k_is); (case pl_k10 => k_is); (case pl_a11 => k_is); (case pl_l11 => k_is); (case pl_c11 => k_is); (case pl_k11 => k_is); (case pl_a12 => k_is); (case pl_l12 => k_is); (case pl_c12 => k_is); (case pl_k12 => k_is); (case pl_a13 => k_is); (case pl_l13 => k_is); (case pl_c13 => k_is); (case pl_k13 => k_is); (case pl_a14 => k_is); (case pl_l14 => k_is); (case pl_c14 => k_is); (case pl_k14 => k_is); (case pl_a15 => k_is); (case pl_l15 => k_is); (case pl_c15 => k_is); (case pl_k15 => k_is); (case pl_a16 => k_is); (case pl_l16 => k_is); (case pl_c16 => k_is); (case pl_k16 => k_is); (case pl_z0 => k_is); (case pl_z1 => k_is); (case pl_z2 => k_is); (case pl_z3 => k_is); (case pl_z4 => k_is); (case pl_z5 => k_is); (case pl_z6 => k_is); (case pl_z7 => k_is); (case pl_z8 => k_is); (case pl_z9 => k_is); (case pl_z10 => k_is); (case pl_z11 => k_is); (case pl_z12 => k_is); (case pl_g0 => k_is); (case pl_g1 => k_is); (case pl_g2 => k_is); (case pl_g3 => k_is); (case pl_g4 => k_is); (case pl_x0a => k_is); (case pl_x0b => k_exc); (case pl_x0c => k_is); (case pl_x0d => k_is); (case pl_x0e => k_is); (case pl_x1a => k_is); (case pl_x1b => k_exc); (case pl_x1c => k_is); (case pl_x1d => k_is); (case pl_x1e => k_is); (case pl_x2a => k_is); (case pl_x2b => k_exc); (case pl_x2c => k_is); (case pl_x2d => k_is); (case pl_x2e => k_is); (case pl_x3a => k_is); (case pl_x3b => k_exc); (case pl_x3c => k_is); (case pl_x3d => k_is); (case pl_x3e => k_is); (case pl_x4a => k_is); (case pl_x4b => k_exc); (case pl_x4c => k_is); (case pl_x4d => k_is); (case pl_x4e => k_is); (case pl_x5a => k_is); (case pl_x5b => k_exc); (case pl_x5c => k_is); (case pl_x5d => k_is); (case pl_x5e => k_is)
