import PyProof.Rows.All
import Wide.All
import OpenK.AllK
import Wide.FinOn
import HandS.ForMost
import HandS.Exc
import HandS.ExcOwn
import HandS.CallSlots
import HandS.Wide
import HandS.WideMore
import HandS.Style
import HandS.Flow
import HandS.IsInst
import HandS.Rev
import HandS.AnyAll
import HandS.EndTab
import HandS.ExcCtx
import HandS.TupAny
import HandS.RevTup
import HandS.Star
import PyProof.GenCompD
import HandS.HotCalls
import HandS.Hot
import HandS.ExcIs
import KE.GoesMore
import PyProof.EnumMake
import PyProof.Draws
import KE.KNestM
import HandS.Defaults
import HandS.Head0
import HandS.Head1
import HandS.Head2
import HandS.HeadHook4
import HandS.HeadWalk
import PySem.Challenge.RW_bitsoftrees_k83_whole_least_trees_turned
set_option Elab.async false
set_option linter.all false
set_option maxRecDepth 100000
/-! Nm: the program's names of attributes and classes, by number. -/
namespace Vi
open PySem
def anames : List String := ["__init__", "ahead", "ahead_of_block", "ahead_of_group", "all_leaves", "alphabet", "append", "ask", "asked", "at", "at_depth", "at_inside", "back", "backward", "before", "begin", "begins", "begun", "behind", "below", "below_at", "beside", "between", "bit", "bits", "block", "blocks", "borders", "both", "brackets", "by_level", "by_number", "by_post", "cells", "check", "check_less", "check_place", "check_stretch", "child", "child_at", "children", "classes", "climb", "closed", "codes", "common", "count", "deep", "degree", "delta", "depth", "different", "directory", "do", "document", "drop", "end", "ends", "ends_of", "entry", "extend", "fall", "file", "files", "find", "finds", "first", "first_below", "first_in", "firsts", "forward", "gamma", "gap", "get", "groups", "halves", "height", "height_of_grammar", "height_of_tree", "heights", "held", "high", "index", "inner", "inside", "is_above", "is_block", "items", "join", "jumps", "keep", "kept", "kids", "known", "last", "last_at", "last_in", "leaf", "leaf_number", "least", "least_from", "least_place", "leaves", "lengths", "less", "letter", "letters", "level", "level_first", "level_last", "levels", "load", "loaded", "loads", "long", "look", "looked", "low", "lows", "made_of", "many", "many_in", "marks", "most", "named", "names", "nearest", "next", "next_at", "next_named", "node_at", "nodes", "noughts_ahead", "number", "numbered", "often", "olds", "one", "one_of", "ones", "ones_ahead", "onward", "opened", "order", "own", "own_brackets", "pages", "parent", "parents", "piece", "pieces", "place", "places", "pop", "post", "post_order", "posts", "put", "ranked", "ranks", "rest", "rise", "rises", "room", "row", "rows", "rules", "setdefault", "shape", "shaped", "shared", "signs", "size", "sizes", "source", "standing", "standings", "start", "steps", "stretch", "stretch_of", "stride", "table", "take", "to", "tree", "undo", "up", "update", "upper", "values", "walk", "way", "ways", "whole", "wide", "width", "word", "word_of", "words", "written"]
def cnames : List String := ["BitsError", "Malformed", "NotThere", "OutOfRange", "Refused", "TooMuch", "AlphabetRow", "Asked", "Block", "BracketShape", "ChangedShape", "ClassRow", "DegreeShape", "DocumentFinds", "Finds", "Lazy", "LeastTree", "LevelRow", "LevelShape", "MovingRow", "NamedShape", "Order", "Pages", "Plain", "Reader", "Row", "RunRow", "Shared", "SparseRow", "Store", "Versions", "WordRow"]
/-- the module's defs that make generators -/
def gens : List String := ["is_row"]
def anm (i : Nat) : Str := Str.ofString (anames[i]?.getD "")
def cnm (i : Nat) : Str := Str.ofString (cnames[i]?.getD "")
/-- no name twice -/
def diff : List Str → Bool
  | [] => true
  | x :: r => !r.contains x && diff r
theorem diff_ix : ∀ {l : List Str} {i j : Nat} {x : Str}, diff l = true → l[i]? = some x → l[j]? = some x → i = j
  | [], _, _, _, _, h, _ => by simp at h
  | y :: l, 0, 0, _, _, _, _ => rfl
  | y :: l, 0, j + 1, x, hd, h1, h2 => by
    unfold diff at hd
    rw [Bool.and_eq_true, Bool.not_eq_true'] at hd
    have e : y = x := by simpa using h1
    have m : x ∈ l := List.mem_of_getElem? (by simpa using h2)
    rw [← e] at m
    have := hd.1
    rw [List.contains_eq_mem] at this
    simp [m] at this
  | y :: l, i + 1, 0, x, hd, h1, h2 => by
    unfold diff at hd
    rw [Bool.and_eq_true, Bool.not_eq_true'] at hd
    have e : y = x := by simpa using h2
    have m : x ∈ l := List.mem_of_getElem? (by simpa using h1)
    rw [← e] at m
    have := hd.1
    rw [List.contains_eq_mem] at this
    simp [m] at this
  | y :: l, i + 1, j + 1, x, hd, h1, h2 => by
    unfold diff at hd
    rw [Bool.and_eq_true] at hd
    exact congrArg (· + 1) (diff_ix hd.2 (by simpa using h1) (by simpa using h2))
theorem anames_diff : diff (anames.map Str.ofString) = true := by decide +kernel
theorem anm_inj {i j : Nat} (hi : i < anames.length) (hj : j < anames.length) (h : anm i = anm j) : i = j := by
  unfold anm at h
  rw [List.getElem?_eq_getElem hi, List.getElem?_eq_getElem hj] at h
  refine diff_ix (x := Str.ofString anames[i]) anames_diff ?_ ?_
  · rw [List.getElem?_map, List.getElem?_eq_getElem hi]; rfl
  · rw [List.getElem?_map, List.getElem?_eq_getElem hj]
    exact congrArg some h.symm
end Vi
set_option maxRecDepth 100000
set_option maxHeartbeats 2000000
/-! Vi0: pure data, stores, results; what stands for what; the judgements over meanings. -/
namespace Vi
open PySem PySem.Spec PyProof.Rows L2

inductive D where
  | non | bl (b : Bool) | int (i : Int) | str (x : Str) | ref (a : Addr) | ty (n : String)
  | loc (n : Nat) | tup (ds : List D) | rol (ds : List D)
  /-- an int that nobody looks at; a list that is no longer written; an instance whose fields are no longer written (but for its counter) -/
  | cnt | fl (ds : List D) | obj (x : Nat) (ns : List Nat) (ds : List D)

inductive O where
  | lst (ds : List D) | ins (x : Nat) (fs : List (Nat × D))
abbrev Sto := List O
abbrev Fr := List (Option D)

inductive Out (α : Type) where
  | ok (a : α) (st : Sto) | ex (c : Nat) (st : Sto) | no
inductive OutS where
  | nx (fr : Fr) (st : Sto) | rt (d : D) (st : Sto) | bk (fr : Fr) (st : Sto) | ct (fr : Fr) (st : Sto) | ex (c : Nat) (fr : Fr) (st : Sto) | no

def Out.bind {α β : Type} (x : Out α) (k : α → Sto → Out β) : Out β :=
  match x with
  | .ok a st => k a st
  | .ex c st => .ex c st
  | .no => .no
@[simp] theorem Out.bind_ok {α β : Type} (a : α) (st : Sto) (k : α → Sto → Out β) : (Out.ok a st).bind k = k a st := (rfl)
@[simp] theorem Out.bind_ex {α β : Type} (c : Nat) (st : Sto) (k : α → Sto → Out β) : (Out.ex c st : Out α).bind k = .ex c st := (rfl)
@[simp] theorem Out.bind_no {α β : Type} (k : α → Sto → Out β) : (Out.no : Out α).bind k = .no := (rfl)
/-- an expression's result goes on as a statement -/
def Out.then {α : Type} (x : Out α) (fr : Fr) (k : α → Sto → OutS) : OutS :=
  match x with
  | .ok a st => k a st
  | .ex c st => .ex c fr st
  | .no => .no
@[simp] theorem Out.then_ok {α : Type} (a : α) (st : Sto) (fr : Fr) (k : α → Sto → OutS) : (Out.ok a st).then fr k = k a st := (rfl)
@[simp] theorem Out.then_ex {α : Type} (c : Nat) (st : Sto) (fr : Fr) (k : α → Sto → OutS) : (Out.ex c st : Out α).then fr k = .ex c fr st := (rfl)
@[simp] theorem Out.then_no {α : Type} (fr : Fr) (k : α → Sto → OutS) : (Out.no : Out α).then fr k = .no := (rfl)

abbrev ME := Fr → Sto → Out D
abbrev MT := Fr → Sto → Out Bool
abbrev MA := Fr → Sto → Out (List D)
abbrev MS := Fr → Sto → OutS
abbrev MF := List D → Sto → Out D

/-! ### slots -/
def fget : Fr → Nat → Option D
  | [], _ => none
  | x :: _, 0 => x
  | _ :: r, n + 1 => fget r n
def fset : Fr → Nat → Option D → Fr
  | [], _, _ => []
  | _ :: r, 0, d => d :: r
  | x :: r, n + 1, d => x :: fset r n d
@[simp] theorem fget_zero (x : Option D) (r : Fr) : fget (x :: r) 0 = x := (rfl)
@[simp] theorem fget_succ (x : Option D) (r : Fr) (n : Nat) : fget (x :: r) (n + 1) = fget r n := (rfl)
@[simp] theorem fset_zero (x : Option D) (r : Fr) (d : Option D) : fset (x :: r) 0 d = d :: r := (rfl)
@[simp] theorem fset_succ (x : Option D) (r : Fr) (n : Nat) (d : Option D) : fset (x :: r) (n + 1) d = x :: fset r n d := (rfl)
theorem fset_length : ∀ (fr : Fr) (i : Nat) (d : Option D), (fset fr i d).length = fr.length
  | [], _, _ => rfl
  | _ :: r, 0, d => rfl
  | x :: r, n + 1, d => by
    show (fset r n d).length + 1 = r.length + 1
    rw [fset_length r n d]
theorem fget_eq : ∀ (fr : Fr) (i : Nat), fget fr i = (fr[i]?).getD none
  | [], _ => rfl
  | x :: r, 0 => rfl
  | x :: r, n + 1 => by
    show fget r n = _
    rw [fget_eq r n]
    simp
theorem fset_eq : ∀ (fr : Fr) (i : Nat) (d : Option D), fset fr i d = fr.set i d
  | [], _, _ => rfl
  | x :: r, 0, d => rfl
  | x :: r, n + 1, d => by
    show x :: fset r n d = _
    rw [fset_eq r n d]
    rfl

/-! ### a list that is never written: frozen, or one of the module's own -/
def SqF (K : PySem.W.Frag) (H : Hp) (a : Addr) (xs : List V) : Prop :=
  (∃ o, H a = some (.frz o (.lst xs))) ∨
    ∃ (o : Obj) (its : Array Value) (n : Nat), K.lookup a = some o ∧ o.cls = .type "list" ∧ o.dict = none ∧ o.data = .seq its n ∧ its.size ≤ sizeLine ∧ Vals xs its.toList
theorem SqF.sq {K : PySem.W.Frag} {H : Hp} {a : Addr} {xs : List V} (h : SqF K H a xs) : SqL K H a xs := by
  rcases h with ⟨o, h⟩ | h
  · exact .inl (.inr ⟨o, h⟩)
  · exact .inr h

/-! ### what is tracked: cells of the store; lists aside (a comprehension's own) -/
structure Tr where
  c : List Addr
  s : List Addr
def Tr.free (R : Tr) (a : Addr) : Prop := a ∉ R.c ∧ a ∉ R.s
def Tr.add (R : Tr) (a : Addr) : Tr := ⟨R.c ++ [a], R.s⟩
def Tr.put (R : Tr) (a : Addr) : Tr := ⟨R.c, a :: R.s⟩
def Tr.pop (R : Tr) (a : Addr) : Tr := ⟨R.c, R.s.filter fun b => b != a⟩
def Tr.take (R : Tr) (n : Nat) : Tr := ⟨R.c.take n, R.s⟩
theorem Tr.pop_mem {R : Tr} {a b : Addr} : b ∈ (R.pop a).s ↔ b ∈ R.s ∧ b ≠ a := by
  unfold Tr.pop
  rw [List.mem_filter, bne_iff_ne]
/-- the program's counter of steps -/
def kLooked : Nat := 116

/-! ### what stands for what -/
def clsAt (K : PySem.W.Frag) (x : Nat) (C : Addr) : Prop := PySem.W.nsIn K mainGlobals (cnm x) = some (some (.ref C))
theorem clsAt.inj {K : PySem.W.Frag} {x : Nat} {C D : Addr} (h : clsAt K x C) (h2 : clsAt K x D) : C = D := by
  unfold clsAt at h h2
  rw [h] at h2
  cases h2
  rfl
mutual
def RV (K : PySem.W.Frag) (H : Hp) (R : Tr) : D → V → Prop
  | .non, v => v = .non
  | .bl b, v => v = .bl b
  | .int i, v => v = .int i
  | .str x, v => v = .str x
  | .ref a, v => v = .ref a
  | .ty n, v => v = .ty n
  | .cnt, v => ∃ i, v = .int i
  | .loc n, v => ∃ a, R.c[n]? = some a ∧ v = .ref a
  | .tup ds, v => ∃ a vs, v = .ref a ∧ SqT K H a vs ∧ RVs K H R ds vs
  | .rol ds, v => ∃ a vs, v = .ref a ∧ SqF K H a vs ∧ RVs K H R ds vs
  | .fl ds, v => ∃ a vs, v = .ref a ∧ H a = some (.lst vs) ∧ R.free a ∧ RVs K H R ds vs
  | .obj x ns ds, v => ∃ a C dx gs, v = .ref a ∧ clsAt K x C ∧ H a = some (.ins C dx gs) ∧ R.free a ∧ ROb K H R ds ns gs
def RVs (K : PySem.W.Frag) (H : Hp) (R : Tr) : List D → List V → Prop
  | [], vs => vs = []
  | d :: ds, vs => ∃ v r, vs = v :: r ∧ RV K H R d v ∧ RVs K H R ds r
def ROb (K : PySem.W.Frag) (H : Hp) (R : Tr) : List D → List Nat → List (Str × V) → Prop
  | [], ns, gs => ns = [] ∧ gs = []
  | d :: ds, ns, gs => ∃ n r v gr, ns = n :: r ∧ gs = (anm n, v) :: gr ∧ n < anames.length ∧ (n = kLooked → d = .cnt) ∧ RV K H R d v ∧ ROb K H R ds r gr
end
def RFs (K : PySem.W.Frag) (H : Hp) (R : Tr) : List (Nat × D) → List (Str × V) → Prop
  | [], gs => gs = []
  | (f, d) :: r, gs => ∃ v gr, gs = (anm f, v) :: gr ∧ f < anames.length ∧ RV K H R d v ∧ RFs K H R r gr

/-- alike but for the counter -/
def LkF : List (Str × V) → List (Str × V) → Prop
  | [], gs => gs = []
  | (n, v) :: r, gs => ∃ v' r', gs = (n, v') :: r' ∧ (v' = v ∨ (n = anm kLooked ∧ ∃ i, v' = .int i)) ∧ LkF r r'
theorem LkF.refl : ∀ gs : List (Str × V), LkF gs gs
  | [] => rfl
  | (_, _) :: r => ⟨_, r, rfl, .inl rfl, LkF.refl r⟩
theorem LkF.trans : ∀ {a b c : List (Str × V)}, LkF a b → LkF b c → LkF a c
  | [], b, c, h, k => by subst h; exact k
  | (n, v) :: r, b, c, ⟨v1, r1, e1, q1, h1⟩, k => by
    subst e1
    obtain ⟨v2, r2, e2, q2, h2⟩ := k
    refine ⟨v2, r2, e2, ?_, LkF.trans h1 h2⟩
    rcases q2 with q2 | q2
    · rw [q2]; exact q1
    · exact .inr q2
theorem LkF.length : ∀ {a b : List (Str × V)}, LkF a b → b.length = a.length
  | [], b, h => by subst h; rfl
  | (n, v) :: r, b, ⟨_, _, e1, _, h1⟩ => by subst e1; simp [LkF.length h1]
def Lk (o o' : HO) : Prop := o' = o ∨ (∃ C dx gs gs', o = .ins C dx gs ∧ o' = .ins C dx gs' ∧ LkF gs gs') ∨ ∃ ps ps', o = .tbl ps ∧ o' = .tbl ps' ∧ TriplesOk ps'.toList
theorem Lk.refl (o : HO) : Lk o o := .inl rfl
theorem Lk.trans {a b c : HO} (h : Lk a b) (k : Lk b c) : Lk a c := by
  rcases h with rfl | ⟨C, dx, gs, gs', rfl, rfl, h⟩ | ⟨ps, ps', rfl, rfl, h⟩
  · exact k
  · rcases k with rfl | ⟨C2, dx2, hs, hs', e, rfl, k⟩ | ⟨_, _, e, _⟩
    · exact .inr (.inl ⟨C, dx, gs, gs', rfl, rfl, h⟩)
    · cases e
      exact .inr (.inl ⟨C, dx, gs, hs', rfl, rfl, h.trans k⟩)
    · cases e
  · rcases k with rfl | ⟨_, _, _, _, e, _⟩ | ⟨qs, qs', e, rfl, k⟩
    · exact .inr (.inr ⟨ps, ps', rfl, rfl, h⟩)
    · cases e
    · exact .inr (.inr ⟨ps, qs', rfl, rfl, k⟩)
theorem Lk.lst {xs : List V} {o : HO} (h : Lk (.lst xs) o) : o = .lst xs := by
  rcases h with h | ⟨C, dx, gs, gs', e, _⟩ | ⟨_, _, e, _⟩
  · exact h
  · cases e
  · cases e
theorem Lk.ins {C dx : Addr} {gs : List (Str × V)} {o : HO} (h : Lk (.ins C dx gs) o) : ∃ gs', o = .ins C dx gs' ∧ LkF gs gs' := by
  rcases h with h | ⟨C', dx', hs, hs', e, e2, k⟩ | ⟨_, _, e, _⟩
  · exact ⟨gs, h, LkF.refl gs⟩
  · cases e
    exact ⟨hs', e2, k⟩
  · cases e
theorem Lk.tbl {ps : Array Value} {o : HO} (h : Lk (.tbl ps) o) (ht : TriplesOk ps.toList) : ∃ ps', o = .tbl ps' ∧ TriplesOk ps'.toList := by
  rcases h with h | ⟨_, _, _, _, e, _⟩ | ⟨qs, qs', e, rfl, k⟩
  · exact ⟨ps, h, ht⟩
  · cases e
  · exact ⟨qs', rfl, k⟩
/-- the tables of the module's defs that make generators -/
def tabAt (K : PySem.W.Frag) (x : Str) (P : Addr) : Prop := ∃ (f : Addr) (oc : Value) (od : Option Addr) (fd : FuncData) (sl : Array (Option Value)) (c : Addr),
  PySem.W.nsIn K mainGlobals x = some (some (.ref f)) ∧ K.lookup f = some ⟨oc, od, .func fd, sl⟩ ∧ fd.code = .ref c ∧ PySem.W.codeHdIn K c P = true
def IsTab (K : PySem.W.Frag) (P : Addr) : Prop := ∃ x ∈ gens, tabAt K (Str.ofString x) P
def TabH (H : Hp) (P : Addr) : Prop := ∃ ps : Array Value, H P = some (.tbl ps) ∧ TriplesOk ps.toList

/-- what stays: all, but what is tracked -/
structure Ext0 (K : PySem.W.Frag) (H : Hp) (R : Tr) (H' : Hp) (R' : Tr) : Prop where
  pre : ∀ (i : Nat) (a : Addr), R.c[i]? = some a → R'.c[i]? = some a
  sk : ∀ a ∈ R.s, a ∈ R'.s
  sd : ∀ a ∈ R'.s, a ∈ R.s ∨ H a = none
  th : ∀ a, H' a = none → H a = none
  tup : ∀ a xs, SqT K H a xs → SqT K H' a xs
  frz : ∀ a xs, SqF K H a xs → SqF K H' a xs
  kf : ∀ a o, H a = some o → R.free a → (∃ o', H' a = some o' ∧ Lk o o') ∧ a ∉ R'.c
/-- .. and what is tracked aside stays, too -/
structure Ext (K : PySem.W.Frag) (H : Hp) (R : Tr) (H' : Hp) (R' : Tr) : Prop where
  pre : ∀ (i : Nat) (a : Addr), R.c[i]? = some a → R'.c[i]? = some a
  sk : ∀ a ∈ R.s, a ∈ R'.s
  sd : ∀ a ∈ R'.s, a ∈ R.s ∨ H a = none
  th : ∀ a, H' a = none → H a = none
  tup : ∀ a xs, SqT K H a xs → SqT K H' a xs
  frz : ∀ a xs, SqF K H a xs → SqF K H' a xs
  kp : ∀ a o, H a = some o → a ∉ R.c → (∃ o', H' a = some o' ∧ Lk o o') ∧ a ∉ R'.c
theorem Ext.refl {K : PySem.W.Frag} {H : Hp} {R : Tr} : Ext K H R H R := ⟨fun _ _ h => h, fun _ h => h, fun _ h => .inl h, fun _ h => h, fun _ _ h => h, fun _ _ h => h, fun _ o h n => ⟨⟨o, h, Lk.refl o⟩, n⟩⟩
theorem Ext.trans {K : PySem.W.Frag} {H H1 H2 : Hp} {R R1 R2 : Tr} (a : Ext K H R H1 R1) (b : Ext K H1 R1 H2 R2) : Ext K H R H2 R2 :=
  ⟨fun i x h => b.pre i x (a.pre i x h), fun x h => b.sk x (a.sk x h), fun x h => by
      rcases b.sd x h with z | z
      · exact a.sd x z
      · exact .inr (a.th x z),
    fun x h => a.th x (b.th x h), fun x ys h => b.tup x ys (a.tup x ys h), fun x ys h => b.frz x ys (a.frz x ys h), fun x o h n => by
      obtain ⟨⟨o1, h1, l1⟩, n1⟩ := a.kp x o h n
      obtain ⟨⟨o2, h2, l2⟩, n2⟩ := b.kp x o1 h1 n1
      exact ⟨⟨o2, h2, l1.trans l2⟩, n2⟩⟩
theorem Ext0.refl {K : PySem.W.Frag} {H : Hp} {R : Tr} : Ext0 K H R H R := ⟨fun _ _ h => h, fun _ h => h, fun _ h => .inl h, fun _ h => h, fun _ _ h => h, fun _ _ h => h, fun _ o h n => ⟨⟨o, h, Lk.refl o⟩, n.1⟩⟩
section
variable {K : PySem.W.Frag} {H H' : Hp} {R R' : Tr}
theorem Ext.e0 (e : Ext K H R H' R') : Ext0 K H R H' R' := ⟨e.pre, e.sk, e.sd, e.th, e.tup, e.frz, fun a o h n => e.kp a o h n.1⟩
theorem Ext0.free (e : Ext0 K H R H' R') {a : Addr} {o : HO} (h : H a = some o) (n : R.free a) : R'.free a := ⟨(e.kf a o h n).2, fun z => by
  rcases e.sd a z with z | z
  · exact n.2 z
  · rw [h] at z; cases z⟩
theorem Ext0.trans {H1 : Hp} {R1 : Tr} (a : Ext0 K H R H1 R1) (b : Ext0 K H1 R1 H' R') : Ext0 K H R H' R' :=
  ⟨fun i x h => b.pre i x (a.pre i x h), fun x h => b.sk x (a.sk x h), fun x h => by
      rcases b.sd x h with z | z
      · exact a.sd x z
      · exact .inr (a.th x z),
    fun x h => a.th x (b.th x h), fun x ys h => b.tup x ys (a.tup x ys h), fun x ys h => b.frz x ys (a.frz x ys h), fun x o h n => by
      obtain ⟨⟨o1, h1, l1⟩, n1⟩ := a.kf x o h n
      obtain ⟨⟨o2, h2, l2⟩, n2⟩ := b.kf x o1 h1 (a.free h n)
      exact ⟨⟨o2, h2, l1.trans l2⟩, n2⟩⟩
theorem Ext0.lst (e : Ext0 K H R H' R') {a : Addr} {xs : List V} (h : H a = some (.lst xs)) (n : R.free a) : H' a = some (.lst xs) ∧ R'.free a := by
  obtain ⟨⟨o, h1, h2⟩, _⟩ := e.kf a _ h n
  rw [h2.lst] at h1
  exact ⟨h1, e.free h n⟩
theorem Ext.lst' (e : Ext K H R H' R') {a : Addr} {xs : List V} (h : H a = some (.lst xs)) (n : a ∉ R.c) : H' a = some (.lst xs) ∧ a ∉ R'.c := by
  obtain ⟨⟨o, h1, h2⟩, n2⟩ := e.kp a _ h n
  rw [h2.lst] at h1
  exact ⟨h1, n2⟩
mutual
theorem RV.mono0 (e : Ext0 K H R H' R') : ∀ {d : D} {v : V}, RV K H R d v → RV K H' R' d v
  | .non, _, h => h
  | .bl _, _, h => h
  | .int _, _, h => h
  | .str _, _, h => h
  | .ref _, _, h => h
  | .ty _, _, h => h
  | .cnt, _, h => h
  | .loc _, _, ⟨a, h1, h2⟩ => ⟨a, e.pre _ _ h1, h2⟩
  | .tup _, _, ⟨a, vs, h1, h2, h3⟩ => ⟨a, vs, h1, e.tup _ _ h2, RVs.mono0 e h3⟩
  | .rol _, _, ⟨a, vs, h1, h2, h3⟩ => ⟨a, vs, h1, e.frz _ _ h2, RVs.mono0 e h3⟩
  | .fl _, _, ⟨a, vs, h1, h2, h3, h4⟩ => ⟨a, vs, h1, (e.lst h2 h3).1, (e.lst h2 h3).2, RVs.mono0 e h4⟩
  | .obj _ _ _, _, ⟨a, C, dx, gs, h1, h2, h3, h4, h5⟩ => by
    obtain ⟨⟨o, q1, q2⟩, _⟩ := e.kf a _ h3 h4
    obtain ⟨gs', rfl, q3⟩ := q2.ins
    exact ⟨a, C, dx, gs', h1, h2, q1, e.free h3 h4, ROb.mono0 e h5 q3⟩
theorem RVs.mono0 (e : Ext0 K H R H' R') : ∀ {ds : List D} {vs : List V}, RVs K H R ds vs → RVs K H' R' ds vs
  | [], _, h => h
  | _ :: _, _, ⟨v, r, h1, h2, h3⟩ => ⟨v, r, h1, RV.mono0 e h2, RVs.mono0 e h3⟩
theorem ROb.mono0 (e : Ext0 K H R H' R') : ∀ {ds : List D} {ns : List Nat} {gs gs' : List (Str × V)}, ROb K H R ds ns gs → LkF gs gs' → ROb K H' R' ds ns gs'
  | [], _, _, _, ⟨h1, h2⟩, k => by
    subst h2
    exact ⟨h1, k⟩
  | d :: ds, _, _, _, ⟨n, r, v, gr, h1, h2, h3, h4, h5, h6⟩, k => by
    subst h2
    obtain ⟨v', r', rfl, q, k2⟩ := k
    refine ⟨n, r, v', r', h1, rfl, h3, h4, ?_, ROb.mono0 e h6 k2⟩
    rcases q with q | ⟨q, i, q2⟩
    · rw [q]; exact RV.mono0 e h5
    · have hn : n = kLooked := anm_inj h3 (by decide) q
      rw [h4 hn]
      exact ⟨i, q2⟩
end
theorem RFs.mono0 (e : Ext0 K H R H' R') : ∀ {fs : List (Nat × D)} {gs : List (Str × V)}, RFs K H R fs gs → RFs K H' R' fs gs
  | [], _, h => h
  | (_, _) :: _, _, ⟨v, r, h1, hn, h2, h3⟩ => ⟨v, r, h1, hn, RV.mono0 e h2, RFs.mono0 e h3⟩
theorem RV.mono (e : Ext K H R H' R') {d : D} {v : V} (h : RV K H R d v) : RV K H' R' d v := h.mono0 e.e0
theorem RVs.mono (e : Ext K H R H' R') {ds : List D} {vs : List V} (h : RVs K H R ds vs) : RVs K H' R' ds vs := h.mono0 e.e0
theorem RFs.mono (e : Ext K H R H' R') {fs : List (Nat × D)} {gs : List (Str × V)} (h : RFs K H R fs gs) : RFs K H' R' fs gs := h.mono0 e.e0
/-- less is tracked -/
structure Less (R R' : Tr) : Prop where
  c : ∀ (i : Nat) (a : Addr), R.c[i]? = some a → R'.c[i]? = some a
  f : ∀ a, R.free a → R'.free a
mutual
theorem RV.less (e : Less R R') : ∀ {d : D} {v : V}, RV K H R d v → RV K H R' d v
  | .non, _, h => h
  | .bl _, _, h => h
  | .int _, _, h => h
  | .str _, _, h => h
  | .ref _, _, h => h
  | .ty _, _, h => h
  | .cnt, _, h => h
  | .loc _, _, ⟨a, h1, h2⟩ => ⟨a, e.c _ _ h1, h2⟩
  | .tup _, _, ⟨a, vs, h1, h2, h3⟩ => ⟨a, vs, h1, h2, RVs.less e h3⟩
  | .rol _, _, ⟨a, vs, h1, h2, h3⟩ => ⟨a, vs, h1, h2, RVs.less e h3⟩
  | .fl _, _, ⟨a, vs, h1, h2, h3, h4⟩ => ⟨a, vs, h1, h2, e.f a h3, RVs.less e h4⟩
  | .obj _ _ _, _, ⟨a, C, dx, gs, h1, h2, h3, h4, h5⟩ => ⟨a, C, dx, gs, h1, h2, h3, e.f a h4, ROb.less e h5⟩
theorem RVs.less (e : Less R R') : ∀ {ds : List D} {vs : List V}, RVs K H R ds vs → RVs K H R' ds vs
  | [], _, h => h
  | _ :: _, _, ⟨v, r, h1, h2, h3⟩ => ⟨v, r, h1, RV.less e h2, RVs.less e h3⟩
theorem ROb.less (e : Less R R') : ∀ {ds : List D} {ns : List Nat} {gs : List (Str × V)}, ROb K H R ds ns gs → ROb K H R' ds ns gs
  | [], _, _, h => h
  | _ :: _, _, _, ⟨n, r, v, gr, h1, h2, h3, h4, h5, h6⟩ => ⟨n, r, v, gr, h1, h2, h3, h4, RV.less e h5, ROb.less e h6⟩
end
theorem RFs.less (e : Less R R') : ∀ {fs : List (Nat × D)} {gs : List (Str × V)}, RFs K H R fs gs → RFs K H R' fs gs
  | [], _, h => h
  | (_, _) :: _, _, ⟨v, r, h1, hn, h2, h3⟩ => ⟨v, r, h1, hn, RV.less e h2, RFs.less e h3⟩

theorem RVs.length : ∀ {ds : List D} {vs : List V}, RVs K H R ds vs → vs.length = ds.length
  | [], _, h => by subst h; rfl
  | _ :: _, _, ⟨v, r, h1, h2, h3⟩ => by subst h1; simp [RVs.length h3]
theorem RVs.get : ∀ {ds : List D} {vs : List V} {i : Nat} {d : D}, RVs K H R ds vs → ds[i]? = some d → ∃ v, vs[i]? = some v ∧ RV K H R d v
  | [], _, _, _, _, e => by simp at e
  | x :: _, _, 0, d, ⟨v, r, h1, h2, h3⟩, e => by
    subst h1
    have e' : x = d := by simpa using e
    subst e'
    exact ⟨v, rfl, h2⟩
  | _ :: _, _, i + 1, d, ⟨v, r, h1, h2, h3⟩, e => by
    subst h1
    obtain ⟨u, e1, e2⟩ := RVs.get (i := i) (d := d) h3 (by simpa using e)
    exact ⟨u, by simpa using e1, e2⟩
theorem RVs.nil : RVs K H R [] [] := rfl
theorem RVs.cons {d : D} {ds : List D} {v : V} {vs : List V} (h : RV K H R d v) (r : RVs K H R ds vs) : RVs K H R (d :: ds) (v :: vs) := ⟨v, vs, rfl, h, r⟩
theorem RVs.append : ∀ {ds es : List D} {vs us : List V}, RVs K H R ds vs → RVs K H R es us → RVs K H R (ds ++ es) (vs ++ us)
  | [], _, _, _, h, r => by subst h; exact r
  | _ :: _, _, _, _, ⟨v, q, h1, h2, h3⟩, r => by subst h1; exact RVs.cons h2 (RVs.append h3 r)
theorem RVs.take : ∀ (n : Nat) {ds : List D} {vs : List V}, RVs K H R ds vs → RVs K H R (ds.take n) (vs.take n)
  | 0, _, _, _ => rfl
  | _ + 1, [], _, h => by subst h; rfl
  | n + 1, _ :: _, _, ⟨v, q, h1, h2, h3⟩ => by subst h1; exact RVs.cons h2 (RVs.take n h3)
theorem RVs.drop : ∀ (n : Nat) {ds : List D} {vs : List V}, RVs K H R ds vs → RVs K H R (ds.drop n) (vs.drop n)
  | 0, _, _, h => h
  | _ + 1, [], _, h => by subst h; rfl
  | n + 1, _ :: _, _, ⟨v, q, h1, h2, h3⟩ => by subst h1; exact RVs.drop n h3
theorem RVs.set : ∀ {ds : List D} {vs : List V} (i : Nat) {d : D} {v : V}, RVs K H R ds vs → RV K H R d v → RVs K H R (ds.set i d) (vs.set i v)
  | [], _, _, _, _, h, _ => by subst h; rfl
  | _ :: _, _, 0, _, _, ⟨v, q, h1, h2, h3⟩, r => by subst h1; exact RVs.cons r h3
  | _ :: _, _, i + 1, _, _, ⟨v, q, h1, h2, h3⟩, r => by subst h1; exact RVs.cons h2 (RVs.set i h3 r)
theorem RVs.reverse : ∀ {ds : List D} {vs : List V}, RVs K H R ds vs → RVs K H R ds.reverse vs.reverse
  | [], _, h => by subst h; rfl
  | _ :: _, _, ⟨v, q, h1, h2, h3⟩ => by
    subst h1
    rw [List.reverse_cons, List.reverse_cons]
    exact RVs.append (RVs.reverse h3) (RVs.cons h2 RVs.nil)
theorem RVs.dropLast {ds : List D} {vs : List V} (h : RVs K H R ds vs) : RVs K H R ds.dropLast vs.dropLast := by
  rw [List.dropLast_eq_take, List.dropLast_eq_take, h.length]
  exact h.take _
theorem RVs.ints : ∀ {ns : List Int} {vs : List V}, RVs K H R (ns.map D.int) vs → vs = ns.map V.int
  | [], _, h => h
  | _ :: _, _, ⟨v, q, h1, h2, h3⟩ => by
    subst h1
    have e : v = _ := h2
    rw [RVs.ints h3, e]
    rfl
theorem RVs.ofInts : ∀ (ns : List Int), RVs K H R (ns.map D.int) (ns.map V.int)
  | [] => rfl
  | _ :: r => RVs.cons rfl (RVs.ofInts r)
theorem RVs.replicate (n : Nat) {d : D} {v : V} (h : RV K H R d v) : RVs K H R (List.replicate n d) (List.replicate n v) := by
  induction n with
  | zero => rfl
  | succ n ih => exact RVs.cons h ih
end

/-! ### stores -/
def RO (K : PySem.W.Frag) (H : Hp) (R : Tr) : O → Addr → Prop
  | .lst ds, a => ∃ vs, H a = some (.lst vs) ∧ RVs K H R ds vs
  | .ins x fs, a => ∃ C dx gs, clsAt K x C ∧ H a = some (.ins C dx gs) ∧ RFs K H R fs gs
structure Rel (K : PySem.W.Frag) (H : Hp) (R : Tr) (st : Sto) : Prop where
  nd : (R.c ++ R.s).Nodup
  len : R.c.length = st.length
  ob : ∀ (i : Nat) (o : O), st[i]? = some o → ∃ a, R.c[i]? = some a ∧ RO K H R o a
  st : ∀ a ∈ R.s, ∃ xs, H a = some (.lst xs)
  tb : ∀ P, IsTab K P → TabH H P ∧ R.free P
structure RFr (K : PySem.W.Frag) (H : Hp) (R : Tr) (fr : Fr) (σ : L2.St) : Prop where
  len : fr.length = σ.length
  slot : ∀ (i : Nat) (d : D), fget fr i = some d → ∃ v, σ[i]? = some (some v) ∧ RV K H R d v
section
variable {K : PySem.W.Frag} {H H' : Hp} {R R' : Tr} {st : Sto} {fr : Fr} {σ : L2.St}
theorem RO.there {o : O} {a : Addr} (h : RO K H R o a) : ∃ u, H a = some u := by
  cases o with
  | lst ds => obtain ⟨vs, e, _⟩ := h; exact ⟨_, e⟩
  | ins C fs => obtain ⟨_, dx, gs, _, e, _⟩ := h; exact ⟨_, e⟩
theorem RFr.mono0 (h : RFr K H R fr σ) (e : Ext0 K H R H' R') : RFr K H' R' fr σ :=
  ⟨h.len, fun i d q => let ⟨v, h1, h2⟩ := h.slot i d q; ⟨v, h1, h2.mono0 e⟩⟩
theorem RFr.mono (h : RFr K H R fr σ) (e : Ext K H R H' R') : RFr K H' R' fr σ := h.mono0 e.e0
theorem RFr.less (h : RFr K H R fr σ) (e : Less R R') : RFr K H R' fr σ := ⟨h.len, fun i d q => let ⟨v, h1, h2⟩ := h.slot i d q; ⟨v, h1, h2.less e⟩⟩
theorem RFr.set {i : Nat} {d : D} {v : V} (h : RFr K H R fr σ) (r : RV K H R d v) : RFr K H R (fset fr i (some d)) (σ.set i (some v)) := by
  refine ⟨by rw [fset_length, List.length_set, h.len], fun j d' q => ?_⟩
  rw [fset_eq, fget_eq] at q
  by_cases hij : i = j
  · subst hij
    by_cases hi : i < fr.length
    · rw [List.getElem?_set_self hi] at q
      have e : d = d' := by simpa using q
      subst e
      exact ⟨v, by rw [List.getElem?_set_self (by rw [← h.len]; exact hi)], r⟩
    · rw [List.getElem?_eq_none (by rw [List.length_set]; omega)] at q
      cases q
  · rw [List.getElem?_set_ne hij] at q
    rw [List.getElem?_set_ne hij]
    exact h.slot j d' (by rw [fget_eq]; exact q)
theorem Rel.tb0 (h : Rel K H R st) (e : Ext0 K H R H' R') : ∀ P, IsTab K P → TabH H' P ∧ R'.free P := fun P hP => by
  obtain ⟨⟨ps, h1, h2⟩, h3⟩ := h.tb P hP
  obtain ⟨⟨o, q1, q2⟩, _⟩ := e.kf P _ h1 h3
  obtain ⟨ps', rfl, q3⟩ := q2.tbl h2
  exact ⟨⟨ps', q1, q3⟩, e.free h1 h3⟩
theorem Rel.ndc (h : Rel K H R st) : R.c.Nodup := (List.nodup_append.mp h.nd).1
theorem Rel.apart (h : Rel K H R st) {a : Addr} (h1 : a ∈ R.c) (h2 : a ∈ R.s) : False := (List.nodup_append.mp h.nd).2.2 a h1 a h2 rfl
theorem Rel.lt {i : Nat} {a : Addr} (h : Rel K H R st) (e : R.c[i]? = some a) : i < st.length := by
  rw [← h.len]
  exact (List.getElem?_eq_some_iff.mp e).1
theorem Rel.cell {i : Nat} {a : Addr} (h : Rel K H R st) (e : R.c[i]? = some a) : ∃ o, st[i]? = some o ∧ RO K H R o a := by
  have hi := h.lt e
  obtain ⟨a', e1, r⟩ := h.ob i st[i] (by simp [hi])
  rw [e] at e1
  cases e1
  exact ⟨_, by simp [hi], r⟩
theorem Rel.there {i : Nat} {a : Addr} (h : Rel K H R st) (e : R.c[i]? = some a) : ∃ u, H a = some u := let ⟨_, _, r⟩ := h.cell e; r.there
theorem Rel.notin {p : Addr} (h : Rel K H R st) (hp : H p = none) : p ∉ R.c := fun hm => by
  obtain ⟨i, hi, e⟩ := List.mem_iff_getElem.mp hm
  obtain ⟨u, q⟩ := h.there (i := i) (a := p) (by rw [List.getElem?_eq_getElem hi, e])
  rw [hp] at q
  cases q
theorem Rel.notins {p : Addr} (h : Rel K H R st) (hp : H p = none) : p ∉ R.s := fun hm => by
  obtain ⟨u, q⟩ := h.st p hm
  rw [hp] at q
  cases q
theorem Rel.fresh {p : Addr} (h : Rel K H R st) (hp : H p = none) : R.free p := ⟨h.notin hp, h.notins hp⟩

/-- what never changes stays where an object is laid or written -/
theorem sqT_upd {a b : Addr} {o : HO} {xs : List V} (hb : ∀ u, H b = some u → (∀ ys, u ≠ .tup ys) ∧ ∀ ob ys, u ≠ .frz ob ys) (h : SqT K H a xs) : SqT K (upd H b o) a xs := by
  rcases h with (h | ⟨ob, h⟩) | h
  · refine .inl (.inl ?_)
    rw [upd_ne (fun e => (hb _ (by rw [← e]; exact h)).1 xs rfl)]
    exact h
  · refine .inl (.inr ⟨ob, ?_⟩)
    rw [upd_ne (fun e => (hb _ (by rw [← e]; exact h)).2 ob _ rfl)]
    exact h
  · exact .inr h
theorem sqF_upd {a b : Addr} {o : HO} {xs : List V} (hb : ∀ u, H b = some u → (∀ ys, u ≠ .tup ys) ∧ ∀ ob ys, u ≠ .frz ob ys) (h : SqF K H a xs) : SqF K (upd H b o) a xs := by
  rcases h with ⟨ob, h⟩ | h
  · refine .inl ⟨ob, ?_⟩
    rw [upd_ne (fun e => (hb _ (by rw [← e]; exact h)).2 ob _ rfl)]
    exact h
  · exact .inr h
theorem upd_none {b : Addr} {o : HO} {a : Addr} (h : upd H b o a = none) : H a = none := by
  by_cases e : a = b
  · rw [e, upd_same] at h; cases h
  · rw [upd_ne e] at h; exact h
theorem Ext.new {p : Addr} {o : HO} (hp : H p = none) : Ext K H R (upd H p o) R :=
  ⟨fun _ _ h => h, fun _ h => h, fun _ h => .inl h, fun _ h => upd_none h, fun _ _ h => sqT_upd (fun u e => by rw [hp] at e; cases e) h, fun _ _ h => sqF_upd (fun u e => by rw [hp] at e; cases e) h,
    fun a u h n => ⟨⟨u, by rw [upd_ne (ne_of_none h hp)]; exact h, Lk.refl u⟩, n⟩⟩
theorem Ext.alloc {p : Addr} {o : HO} (hp : H p = none) : Ext K H R (upd H p o) (R.add p) :=
  ⟨fun i a h => by
      show (R.c ++ [p])[i]? = some a
      rw [List.getElem?_append_left (List.getElem?_eq_some_iff.mp h).1]; exact h, fun _ h => h, fun _ h => .inl h, fun _ h => upd_none h, (Ext.new (K := K) (R := R) hp).tup, (Ext.new (K := K) (R := R) hp).frz,
    fun a u h n => ⟨⟨u, by rw [upd_ne (ne_of_none h hp)]; exact h, Lk.refl u⟩, by
      show a ∉ R.c ++ [p]
      rw [List.mem_append, List.mem_singleton]
      rintro (z | z)
      · exact n z
      · exact ne_of_none h hp z⟩⟩
/-- a new list, tracked aside -/
theorem Ext.aside {p : Addr} {o : HO} (hp : H p = none) : Ext K H R (upd H p o) (R.put p) :=
  ⟨fun _ _ h => h, fun _ h => List.mem_cons_of_mem _ h, fun a h => by
      rcases List.mem_cons.mp h with rfl | h
      · exact .inr hp
      · exact .inl h, fun _ h => upd_none h, (Ext.new (K := K) (R := R) hp).tup, (Ext.new (K := K) (R := R) hp).frz, (Ext.new (K := K) (R := R) hp).kp⟩
theorem RO.mono0 (e : Ext0 K H R H' R') {o : O} {a : Addr} (h : RO K H R o a) (k : ∀ u, H a = some u → H' a = some u) : RO K H' R' o a := by
  cases o with
  | lst ds => obtain ⟨vs, q, r⟩ := h; exact ⟨vs, k _ q, r.mono0 e⟩
  | ins C fs => obtain ⟨c, dx, gs, z, q, r⟩ := h; exact ⟨c, dx, gs, z, k _ q, r.mono0 e⟩
theorem RO.mono (e : Ext K H R H' R') {o : O} {a : Addr} (h : RO K H R o a) (k : ∀ u, H a = some u → H' a = some u) : RO K H' R' o a := h.mono0 e.e0 k
theorem RO.less (e : Less R R') {o : O} {a : Addr} (h : RO K H R o a) : RO K H R' o a := by
  cases o with
  | lst ds => obtain ⟨vs, q, r⟩ := h; exact ⟨vs, q, r.less e⟩
  | ins C fs => obtain ⟨c, dx, gs, z, q, r⟩ := h; exact ⟨c, dx, gs, z, q, r.less e⟩
/-- an object that is no cell of the store is laid -/
theorem Rel.aside {p : Addr} {o : HO} (h : Rel K H R st) (hp : H p = none) : Rel K (upd H p o) R st :=
  ⟨h.nd, h.len, fun i u e => let ⟨a, h1, h2⟩ := h.ob i u e; ⟨a, h1, h2.mono (Ext.new hp) fun v q => by rw [upd_ne (ne_of_none q hp)]; exact q⟩,
    fun a ha => let ⟨xs, e⟩ := h.st a ha; ⟨xs, by rw [upd_ne (ne_of_none e hp)]; exact e⟩, h.tb0 (Ext.new hp).e0⟩
/-- .. a list, tracked aside -/
theorem Rel.put {p : Addr} {xs : List V} (h : Rel K H R st) (hp : H p = none) : Rel K (upd H p (.lst xs)) (R.put p) st :=
  ⟨by
    show (R.c ++ p :: R.s).Nodup
    have := h.nd
    rw [List.nodup_append] at this ⊢
    refine ⟨this.1, List.nodup_cons.mpr ⟨h.notins hp, this.2.1⟩, fun a ha b hb => ?_⟩
    rcases List.mem_cons.mp hb with rfl | hb
    · rintro rfl
      exact h.notin hp ha
    · exact this.2.2 a ha b hb,
  h.len, fun i u e => let ⟨a, h1, h2⟩ := h.ob i u e; ⟨a, h1, h2.mono (Ext.aside hp) fun v q => by rw [upd_ne (ne_of_none q hp)]; exact q⟩,
  fun a ha => by
    rcases List.mem_cons.mp ha with rfl | ha
    · exact ⟨xs, upd_same⟩
    · obtain ⟨ys, e⟩ := h.st a ha
      exact ⟨ys, by rw [upd_ne (ne_of_none e hp)]; exact e⟩, h.tb0 (Ext.aside hp).e0⟩
theorem Less.pop {p : Addr} : Less R (R.pop p) := ⟨fun _ _ h => h, fun _ h => ⟨h.1, fun z => h.2 (Tr.pop_mem.mp z).1⟩⟩
/-- .. no longer -/
theorem Rel.pop {p : Addr} (h : Rel K H R st) : Rel K H (R.pop p) st :=
  ⟨h.nd.sublist ((List.Sublist.refl _).append List.filter_sublist), h.len, fun i u e => let ⟨a, h1, h2⟩ := h.ob i u e; ⟨a, h1, h2.less Less.pop⟩, fun a ha => h.st a (Tr.pop_mem.mp ha).1, fun P hP => ⟨(h.tb P hP).1, Less.pop.f P (h.tb P hP).2⟩⟩
/-- a new cell -/
theorem Rel.alloc {p : Addr} {ho : HO} {o : O} (h : Rel K H R st) (hp : H p = none) (new : RO K (upd H p ho) (R.add p) o p) : Rel K (upd H p ho) (R.add p) (st ++ [o]) := by
  have e : Ext K H R (upd H p ho) (R.add p) := Ext.alloc hp
  refine ⟨?_, by show (R.c ++ [p]).length = _; rw [List.length_append, List.length_append, h.len]; rfl, fun i u q => ?_, fun a ha => ?_, h.tb0 e.e0⟩
  · show (R.c ++ [p] ++ R.s).Nodup
    have := h.nd
    rw [List.append_assoc, List.nodup_append]
    rw [List.nodup_append] at this
    refine ⟨this.1, ?_, fun a ha b hb => ?_⟩
    · exact List.nodup_cons.mpr ⟨h.notins hp, this.2.1⟩
    · rcases List.mem_cons.mp hb with rfl | hb
      · rintro rfl
        exact h.notin hp ha
      · exact this.2.2 a ha b hb
  · by_cases hi : i < st.length
    · rw [List.getElem?_append_left hi] at q
      obtain ⟨a, h1, h2⟩ := h.ob i u q
      exact ⟨a, e.pre _ _ h1, h2.mono e fun v z => by rw [upd_ne (ne_of_none z hp)]; exact z⟩
    · rw [List.getElem?_append_right (by omega)] at q
      have hi2 : i = st.length := by
        have := (List.getElem?_eq_some_iff.mp q).1
        simp at this
        omega
      subst hi2
      have e2 : o = u := by simpa using q
      subst e2
      exact ⟨p, by show (R.c ++ [p])[st.length]? = some p; rw [← h.len]; simp, new⟩
  · obtain ⟨xs, e⟩ := h.st a ha
    exact ⟨xs, by rw [upd_ne (ne_of_none e hp)]; exact e⟩
theorem Rel.add_ix {p : Addr} (h : Rel K H R st) : (R.add p).c[st.length]? = some p := by
  show (R.c ++ [p])[st.length]? = some p
  rw [← h.len]
  simp
theorem mem_of_ix {n : Nat} {a : Addr} (hn : R.c[n]? = some a) : a ∈ R.c := List.mem_of_getElem? hn
/-- a cell is written -/
theorem Rel.write {n : Nat} {a : Addr} {ho : HO} {o : O} (h : Rel K H R st) (hn : R.c[n]? = some a) (e : Ext K H R (upd H a ho) R) (new : RO K (upd H a ho) R o a) : Rel K (upd H a ho) R (st.set n o) := by
  refine ⟨h.nd, by rw [List.length_set]; exact h.len, fun i u q => ?_, fun b hb => ?_, h.tb0 e.e0⟩
  · by_cases hi : n = i
    · subst hi
      rw [List.getElem?_set_self (h.lt hn)] at q
      cases q
      exact ⟨a, hn, new⟩
    · rw [List.getElem?_set_ne hi] at q
      obtain ⟨b, h1, h2⟩ := h.ob i u q
      refine ⟨b, h1, h2.mono e fun v z => ?_⟩
      have nb : b ≠ a := by
        rintro rfl
        have l1 := (List.getElem?_eq_some_iff.mp h1)
        have l2 := (List.getElem?_eq_some_iff.mp hn)
        exact hi ((List.getElem_inj h.ndc).mp (l2.2.trans l1.2.symm))
      rw [upd_ne nb]
      exact z
  · obtain ⟨xs, e⟩ := h.st b hb
    exact ⟨xs, by rw [upd_ne (fun z => h.apart (by rw [z]; exact mem_of_ix hn) hb)]; exact e⟩
theorem Ext.wr {n : Nat} {a : Addr} {ho u : HO} (hn : R.c[n]? = some a) (e : H a = some u) (h1 : ∀ ys, u ≠ .tup ys) (h2 : ∀ ob ys, u ≠ .frz ob ys) : Ext K H R (upd H a ho) R :=
  ⟨fun _ _ h => h, fun _ h => h, fun _ h => .inl h, fun _ h => upd_none h, fun _ _ h => sqT_upd (fun u q => by rw [e] at q; cases q; exact ⟨h1, h2⟩) h, fun _ _ h => sqF_upd (fun u q => by rw [e] at q; cases q; exact ⟨h1, h2⟩) h,
    fun b o h n => ⟨⟨o, by rw [upd_ne (fun z => n (by rw [z]; exact mem_of_ix hn))]; exact h, Lk.refl o⟩, n⟩⟩
theorem Ext.lst {n : Nat} {a : Addr} {ho : HO} {vs : List V} (hn : R.c[n]? = some a) (e : H a = some (.lst vs)) : Ext K H R (upd H a ho) R :=
  Ext.wr hn e (fun _ z => nomatch z) (fun _ _ z => nomatch z)
theorem Ext.ins {n : Nat} {a C dx : Addr} {ho : HO} {gs : List (Str × V)} (hn : R.c[n]? = some a) (e : H a = some (.ins C dx gs)) : Ext K H R (upd H a ho) R :=
  Ext.wr hn e (fun _ z => nomatch z) (fun _ _ z => nomatch z)
theorem Rel.lst {n : Nat} {a : Addr} {ds : List D} (h : Rel K H R st) (hn : R.c[n]? = some a) (e : st[n]? = some (.lst ds)) : ∃ vs, H a = some (.lst vs) ∧ RVs K H R ds vs := by
  obtain ⟨o, q, r⟩ := h.cell hn
  rw [e] at q
  cases q
  exact r
theorem Rel.ins {n : Nat} {a : Addr} {x : Nat} {fs : List (Nat × D)} (h : Rel K H R st) (hn : R.c[n]? = some a) (e : st[n]? = some (.ins x fs)) : ∃ C dx gs, clsAt K x C ∧ H a = some (.ins C dx gs) ∧ RFs K H R fs gs := by
  obtain ⟨o, q, r⟩ := h.cell hn
  rw [e] at q
  cases q
  exact r
/-- a frozen instance's counter is written -/
theorem Ext.look {a C dx : Addr} {gs gs' : List (Str × V)} (h : H a = some (.ins C dx gs)) (k : LkF gs gs') : Ext K H R (upd H a (.ins C dx gs')) R :=
  ⟨fun _ _ h => h, fun _ h => h, fun _ h => .inl h, fun _ h => upd_none h, fun _ _ z => sqT_upd (fun u q => by rw [h] at q; cases q; exact ⟨fun _ z => (nomatch z), fun _ _ z => (nomatch z)⟩) z,
    fun _ _ z => sqF_upd (fun u q => by rw [h] at q; cases q; exact ⟨fun _ z => (nomatch z), fun _ _ z => (nomatch z)⟩) z,
    fun b o q n => by
      refine ⟨?_, n⟩
      by_cases e : b = a
      · subst e
        rw [h] at q
        cases q
        exact ⟨_, upd_same, .inr (.inl ⟨C, dx, gs, gs', rfl, rfl, k⟩)⟩
      · exact ⟨o, by rw [upd_ne e]; exact q, Lk.refl o⟩⟩
theorem Rel.look {a C dx : Addr} {gs gs' : List (Str × V)} (h : Rel K H R st) (hf : R.free a) (ha : H a = some (.ins C dx gs)) (k : LkF gs gs') : Rel K (upd H a (.ins C dx gs')) R st :=
  ⟨h.nd, h.len, fun i u e => let ⟨b, h1, h2⟩ := h.ob i u e; ⟨b, h1, h2.mono (Ext.look ha k) fun v q => by rw [upd_ne (fun z => hf.1 (by rw [← z]; exact mem_of_ix h1))]; exact q⟩,
    fun b hb => let ⟨xs, e⟩ := h.st b hb; ⟨xs, by rw [upd_ne (fun z => hf.2 (by rw [← z]; exact hb))]; exact e⟩, h.tb0 (Ext.look ha k).e0⟩
/-- a table grows -/
theorem Ext.tab {P : Addr} {ps ps' : Array Value} (h : H P = some (.tbl ps)) (k : TriplesOk ps'.toList) : Ext K H R (upd H P (.tbl ps')) R :=
  ⟨fun _ _ h => h, fun _ h => h, fun _ h => .inl h, fun _ h => upd_none h, fun _ _ z => sqT_upd (fun u q => by rw [h] at q; cases q; exact ⟨fun _ z => (nomatch z), fun _ _ z => (nomatch z)⟩) z,
    fun _ _ z => sqF_upd (fun u q => by rw [h] at q; cases q; exact ⟨fun _ z => (nomatch z), fun _ _ z => (nomatch z)⟩) z,
    fun b o q n => by
      refine ⟨?_, n⟩
      by_cases e : b = P
      · subst e
        rw [h] at q
        cases q
        exact ⟨_, upd_same, .inr (.inr ⟨ps, ps', rfl, rfl, k⟩)⟩
      · exact ⟨o, by rw [upd_ne e]; exact q, Lk.refl o⟩⟩
theorem Rel.tab {P : Addr} {ps ps' : Array Value} (h : Rel K H R st) (hf : R.free P) (hP : H P = some (.tbl ps)) (k : TriplesOk ps'.toList) : Rel K (upd H P (.tbl ps')) R st :=
  ⟨h.nd, h.len, fun i u e => let ⟨b, h1, h2⟩ := h.ob i u e; ⟨b, h1, h2.mono (Ext.tab hP k) fun v q => by rw [upd_ne (fun z => hf.1 (by rw [← z]; exact mem_of_ix h1))]; exact q⟩,
    fun b hb => let ⟨xs, e⟩ := h.st b hb; ⟨xs, by rw [upd_ne (fun z => hf.2 (by rw [← z]; exact hb))]; exact e⟩, h.tb0 (Ext.tab hP k).e0⟩
end

/-! ### what a result asks -/
section
variable {K : PySem.W.Frag}
def okG {α β : Type} (W : WX) (σ : L2.St) (H : Hp) (R : Tr) (rv : Hp → Tr → α → β → Prop) (K : PySem.W.Frag) (Q : β → Hp → Prop) : Out α → Prop
  | .ok a st' => ∀ H' R' b, Ext K H R H' R' → Rel K H' R' st' → rv H' R' a b → Q b H'
  | .ex c st' => ∀ H' R' C, clsAt K c C → Ext K H R H' R' → Rel K H' R' st' → W (.ref C) none σ H'
  | .no => False
theorem okG.ext {α β : Type} {W : WX} {σ : L2.St} {H H1 : Hp} {R R1 : Tr} {rv : Hp → Tr → α → β → Prop} {Q : β → Hp → Prop} {o : Out α} (h : okG W σ H R rv K Q o) (e : Ext K H R H1 R1) : okG W σ H1 R1 rv K Q o := by
  cases o with
  | ok a st => exact fun H' R' b e' r q => h H' R' b (e.trans e') r q
  | ex c st => exact fun H' R' C hC e' r => h H' R' C hC (e.trans e') r
  | no => exact h
theorem okG.bind {α β γ δ : Type} {W : WX} {σ : L2.St} {H : Hp} {R : Tr} {rv : Hp → Tr → α → β → Prop} {rv2 : Hp → Tr → γ → δ → Prop} {Q : δ → Hp → Prop} {x : Out α} {k : α → Sto → Out γ}
    (h : okG W σ H R rv2 K Q (x.bind k)) : okG W σ H R rv K (fun b H' => ∃ R' st' a, Ext K H R H' R' ∧ Rel K H' R' st' ∧ rv H' R' a b ∧ okG W σ H' R' rv2 K Q (k a st')) x := by
  cases x with
  | ok a st => exact fun H' R' b e r q => ⟨R', st, a, e, r, q, okG.ext h e⟩
  | ex c st => exact h
  | no => exact h
theorem okG.imp {α β : Type} {W : WX} {σ : L2.St} {H : Hp} {R : Tr} {rv : Hp → Tr → α → β → Prop} {Q Q' : β → Hp → Prop} {o : Out α} (h : okG W σ H R rv K Q o)
    (k : ∀ b H' R' a st', Ext K H R H' R' → Rel K H' R' st' → rv H' R' a b → o = .ok a st' → Q b H' → Q' b H') : okG W σ H R rv K Q' o := by
  cases o with
  | ok a st => exact fun H' R' b e r q => k b H' R' a st e r q rfl (h H' R' b e r q)
  | ex c st => exact h
  | no => exact h
end
/-- the reading of a meaning -/
def tG {α β : Type} (K : PySem.W.Frag) (W : WX) (rv : Hp → Tr → α → β → Prop) (f : Fr → Sto → Out α) : L2.St → Hp → (β → Hp → Prop) → Prop := fun σ H Q =>
  ∃ R st fr, Rel K H R st ∧ RFr K H R fr σ ∧ okG W σ H R rv K Q (f fr st)
abbrev rvB : Hp → Tr → Bool → Bool → Prop := fun _ _ a b => b = a
abbrev tE (K : PySem.W.Frag) (W : WX) (f : ME) : TE := tG K W (RV K) f
abbrev tT (K : PySem.W.Frag) (W : WX) (f : MT) : TT := tG K W rvB f
abbrev tA (K : PySem.W.Frag) (W : WX) (f : MA) : TA := tG K W (RVs K) f

structure IE (X : Cx) (W : WX) (e : Expr) (f : ME) : Prop where
  pe : PE X e (tE X.K W f)
structure IT (X : Cx) (W : WX) (e : Expr) (f : MT) : Prop where
  pt : PT X e (tT X.K W f)
structure IW (X : Cx) (W : WX) (e : Expr) (f : MT) : Prop where
  pw : PW X e (tT X.K W f)
structure IA (X : Cx) (W : WX) (es : List Expr) (f : MA) : Prop where
  pa : PA X es (tA X.K W f)

theorem PE.imp {X : Cx} {e : Expr} {t t' : TE} (h : PE X e t) (k : ∀ σ H Q, t' σ H Q → t σ H Q) : PE X e t' := ⟨fun pins s σ H Q I q => h.run pins s σ H Q I (k _ _ _ q)⟩
theorem PT.imp {X : Cx} {e : Expr} {t t' : TT} (h : PT X e t) (k : ∀ σ H Q, t' σ H Q → t σ H Q) : PT X e t' := ⟨fun pins s σ H Q I q => h.run pins s σ H Q I (k _ _ _ q)⟩
theorem PW.imp {X : Cx} {e : Expr} {t t' : TT} (h : PW X e t) (k : ∀ σ H Q, t' σ H Q → t σ H Q) : PW X e t' := ⟨fun wh pins s σ H Q I q => h.run wh pins s σ H Q I (k _ _ _ q)⟩
theorem PA.imp {X : Cx} {es : List Expr} {t t' : TA} (h : PA X es t) (k : ∀ σ H Q, t' σ H Q → t σ H Q) : PA X es t' := ⟨fun pos pins s σ H Q I q => h.run pos pins s σ H Q I (k _ _ _ q)⟩
theorem PS.imp {X : Cx} {st : Stmt} {t t' : TS} (h : PS X st t) (k : ∀ D σ H, t' D σ H → t D σ H) : PS X st t' := ⟨fun pins s σ H D I q => h.run pins s σ H D I (k _ _ _ q)⟩
theorem PSs.imp {X : Cx} {st : List Stmt} {t t' : TS} (h : PSs X st t) (k : ∀ D σ H, t' D σ H → t D σ H) : PSs X st t' := ⟨fun pins s σ H D I q => h.run pins s σ H D I (k _ _ _ q)⟩

/-- what a statement's result asks -/
def okS (K : PySem.W.Frag) (W : WX) (H : Hp) (R : Tr) (D : Ends) : OutS → Prop
  | .nx fr st => ∀ H' R' σ', Ext K H R H' R' → Rel K H' R' st → RFr K H' R' fr σ' → D.nx σ' H'
  | .bk fr st => ∀ H' R' σ', Ext K H R H' R' → Rel K H' R' st → RFr K H' R' fr σ' → D.bk σ' H'
  | .ct fr st => ∀ H' R' σ', Ext K H R H' R' → Rel K H' R' st → RFr K H' R' fr σ' → D.ct σ' H'
  | .rt d st => ∀ H' R' v, Ext K H R H' R' → Rel K H' R' st → RV K H' R' d v → D.rt v H'
  | .ex c fr st => ∀ H' R' σ' C, clsAt K c C → Ext K H R H' R' → Rel K H' R' st → RFr K H' R' fr σ' → W (.ref C) none σ' H'
  | .no => False
theorem okS.ext {K : PySem.W.Frag} {W : WX} {H H1 : Hp} {R R1 : Tr} {D : Ends} {o : OutS} (h : okS K W H R D o) (e : Ext K H R H1 R1) : okS K W H1 R1 D o := by
  cases o with
  | nx fr st => exact fun H' R' σ' e' r q => h H' R' σ' (e.trans e') r q
  | bk fr st => exact fun H' R' σ' e' r q => h H' R' σ' (e.trans e') r q
  | ct fr st => exact fun H' R' σ' e' r q => h H' R' σ' (e.trans e') r q
  | ex c fr st => exact fun H' R' σ' C hC e' r q => h H' R' σ' C hC (e.trans e') r q
  | rt d st => exact fun H' R' v e' r q => h H' R' v (e.trans e') r q
  | no => exact h
def tS (K : PySem.W.Frag) (W : WX) (f : MS) : TS := fun D σ H => ∃ R st fr, Rel K H R st ∧ RFr K H R fr σ ∧ okS K W H R D (f fr st)
structure IS (X : Cx) (W : WX) (s : Stmt) (f : MS) : Prop where
  ps : PS X s (tS X.K W f)
structure ISs (X : Cx) (W : WX) (ss : List Stmt) (f : MS) : Prop where
  pss : PSs X ss (tS X.K W f)
/-- from an expression's result to a statement's -/
theorem okS.then {K : PySem.W.Frag} {α β : Type} {W : WX} {σ : L2.St} {H : Hp} {R : Tr} {rv : Hp → Tr → α → β → Prop} {D : Ends} {x : Out α} {fr : Fr} {k : α → Sto → OutS}
    (rf : RFr K H R fr σ) (h : okS K W H R D (x.then fr k)) : okG W σ H R rv K (fun b H' => ∃ R' st' a, Ext K H R H' R' ∧ Rel K H' R' st' ∧ RFr K H' R' fr σ ∧ rv H' R' a b ∧ okS K W H' R' D (k a st')) x := by
  cases x with
  | ok a st => exact fun H' R' b e r q => ⟨R', st, a, e, r, rf.mono e, q, okS.ext h e⟩
  | ex c st => exact fun H' R' C hC e r => h H' R' σ C hC e r (rf.mono e)
  | no => exact h

/-- what a call may let out is taken -/
def Pas (X : Cx) (W : WX) : Prop := ∀ σ, PassesAt (L2N.CX X.prog X.w) X σ (WE W σ)
structure Ctx (X : Cx) (W : WX) : Prop where
  calm : X.calm = true
  nd : X.N.Nodup
  pas : Pas X W
  tk : L2N.Takes X W
/-- in a comprehension's block nothing is raised -/
abbrev W0 : WX := fun _ _ _ _ => False
theorem takes0 {X : Cx} : L2N.Takes X W0 := fun u s' ⟨_, _, _, _, _, _, _, _, _, _, _, _, _, _, _, _, z⟩ => z.elim
theorem pas0 {X : Cx} : Pas X W0 := fun σ pins H s e s' I h => by
  obtain ⟨a, B, H', cls, d, _, _, _, _, _, _, _, z⟩ := h
  exact z.elim
end Vi
set_option maxRecDepth 100000
set_option maxHeartbeats 2000000
/-! Vi1: the meanings of expressions. -/
namespace Vi
open PySem PySem.Spec PyProof.Rows L2
/-- nothing is raised within -/
def Out.nox {α : Type} (x : Out α) : Out α := match x with
  | .ok a st => .ok a st
  | _ => .no
@[simp] theorem Out.nox_ok {α : Type} (a : α) (st : Sto) : (Out.ok a st).nox = .ok a st := (rfl)
@[simp] theorem Out.nox_ex {α : Type} (c : Nat) (st : Sto) : (Out.ex c st : Out α).nox = .no := (rfl)
@[simp] theorem Out.nox_no {α : Type} : (Out.no : Out α).nox = .no := (rfl)
theorem Out.nox_bind {α β : Type} (x : Out α) (k : α → Sto → Out β) : (x.bind k).nox = x.nox.bind fun a st => (k a st).nox := by cases x <;> rfl
theorem Out.bind_assoc {α β γ : Type} (x : Out α) (k : α → Sto → Out β) (m : β → Sto → Out γ) : (x.bind k).bind m = x.bind fun a st => (k a st).bind m := by cases x <;> rfl
theorem okG.bindN {α β γ δ : Type} {K : PySem.W.Frag} {W : WX} {σ σ0 : L2.St} {H H1 : Hp} {R R1 : Tr} {rv : Hp → Tr → α → β → Prop} {rv2 : Hp → Tr → γ → δ → Prop} {Q : δ → Hp → Prop} {x : Out α} {k : α → Sto → Out γ}
    (h : okG W σ H1 R1 rv2 K Q (x.nox.bind k)) : okG W0 σ0 H R rv K (fun b H' => ∃ R' st' a, Ext K H R H' R' ∧ Rel K H' R' st' ∧ rv H' R' a b ∧ okG W σ H1 R1 rv2 K Q (k a st')) x := by
  cases x with
  | ok a st => exact fun H' R' b e r q => ⟨R', st, a, e, r, q, h⟩
  | ex c st => exact h.elim
  | no => exact h.elim
def tTrue (fr : Fr) (st : Sto) : Out Bool := .ok true st
section
variable {X : Cx} {W : WX} {pos : Pos}

/-! ### names, constants -/
def eVar (i : Nat) (fr : Fr) (st : Sto) : Out D := match fget fr i with
  | some d => .ok d st
  | none => .no
theorem e_var (i : Nat) {x : Str} (hN : X.N[i]? = some x := by rfl) (hv : Vis X.env.scope x := by first | exact Or.inl rfl | exact Or.inr (Or.inl rfl) | exact Or.inr (Or.inr rfl)) (hd : (x == ("__debug__" : Str)) = false := by decide)
    (hcd : (x == ("__classdict__" : Str)) = false := by decide) : IE X W (.Name x pos) (eVar i) := by
  refine ⟨PE.imp (pe_var hN hv hd hcd) fun σ H Q h => ?_⟩
  obtain ⟨R, st, fr, rel, rf, ok⟩ := h
  cases e : fget fr i with
  | none => simp only [eVar, e] at ok; exact ok.elim
  | some d =>
    simp only [eVar, e] at ok
    obtain ⟨v, h1, h2⟩ := rf.slot i d e
    exact ⟨v, h1, ok H R v Ext.refl rel h2⟩
def eC (d : D) (fr : Fr) (st : Sto) : Out D := .ok d st
theorem tC_of {v : V} {d : D} (h : ∀ H R, RV X.K H R d v) : ∀ σ H Q, tE X.K W (eC d) σ H Q → tC v σ H Q := fun σ H Q ⟨R, st, fr, rel, rf, ok⟩ => ok H R v Ext.refl rel (h H R)
theorem e_int {i : Int} {j : Nat} : IE X W (.Constant (.int i) j pos) (eC (.int i)) := ⟨PE.imp pe_int (tC_of fun _ _ => rfl)⟩
theorem e_bl {b : Bool} {j : Nat} : IE X W (.Constant (.bool b) j pos) (eC (.bl b)) := ⟨PE.imp pe_bl (tC_of fun _ _ => rfl)⟩
theorem e_non {j : Nat} : IE X W (.Constant .none j pos) (eC .non) := ⟨PE.imp pe_non (tC_of fun _ _ => rfl)⟩
theorem e_str {x : Str} {j : Nat} : IE X W (.Constant (.str x) j pos) (eC (.str x)) := ⟨PE.imp pe_str (tC_of fun _ _ => rfl)⟩
theorem e_glob {x : Str} {v : V} {d : D} {u : Value} (hg : Gl X x) (hm : X.mg x = some u) (r : RelV v u) (h : ∀ H R, RV X.K H R d v) (hd : (x == ("__debug__" : Str)) = false := by decide) : IE X W (.Name x pos) (eC d) := ⟨PE.imp (pe_glob hg hm r hd) (tC_of h)⟩
theorem e_globI {x : Str} {i : Int} {t : Tok} (hg : Gl X x) (hm : X.mg x = some (.int i t)) (hd : (x == ("__debug__" : Str)) = false := by decide) : IE X W (.Name x pos) (eC (.int i)) := e_glob (v := .int i) hg hm ⟨t, rfl⟩ (fun _ _ => rfl) hd
theorem e_ty {x : Str} {n : String} (hg : Gl X x) (hm : X.mg x = none) (hv : bootBuiltins x = some (.type n)) (hn : x ≠ "__name__" := by decide) (hd : (x == ("__debug__" : Str)) = false := by decide) : IE X W (.Name x pos) (eC (.ty n)) :=
  ⟨PE.imp (pe_bltn (v := .ty n) hg hm hv rfl hn hd) (tC_of fun _ _ => rfl)⟩

/-! ### operators -/
abbrev M2 := D → D → Sto → Out D
def tO (K : PySem.W.Frag) (o : M2) : R2 := fun x y H Q => ∃ R st dx dy, Rel K H R st ∧ RV K H R dx x ∧ RV K H R dy y ∧ okG W0 [] H R (RV K) K Q (o dx dy st)
structure OpI (X : Cx) (f : Value → Value → Sem Value) (o : M2) : Prop where
  op : OpR X f (tO X.K o)
theorem OpR.imp {f : Value → Value → Sem Value} {r r' : R2} (h : OpR X f r) (k : ∀ x y H Q, r' x y H Q → r x y H Q) : OpR X f r' := fun pins s σ H x y v u Q I rx ry q => h pins s σ H x y v u Q I rx ry (k _ _ _ _ q)
/-- an operator that hands back a pure value, the store as it was -/
def eBin (o : M2) (f g : ME) (fr : Fr) (st : Sto) : Out D := (f fr st).bind fun x st1 => (g fr st1).bind fun y st2 => o x y st2
/-- what an operator's result asks, whatever the wish -/
theorem okG.noex {α β : Type} {K : PySem.W.Frag} {W : WX} {σ : L2.St} {H : Hp} {R : Tr} {rv : Hp → Tr → α → β → Prop} {Q : β → Hp → Prop} {o : Out α} (h : okG W σ H R rv K Q o) (n : ∀ c st, o ≠ .ex c st) : okG W0 [] H R rv K Q o := by
  cases o with
  | ok a st => exact h
  | ex c st => exact absurd rfl (n c st)
  | no => exact h
def NoEx (o : M2) : Prop := ∀ x y st c st', o x y st ≠ .ex c st'
theorem e_bin {a b : Expr} {op : Operator} {o : M2} {f g : ME} (ho : OpI X (binaryOp op) o) (ne : NoEx o) (ha : IE X W a f) (hb : IE X W b g) : IE X W (.BinOp a op b pos) (eBin o f g) := by
  refine ⟨PE.imp (pe_op ho.op ha.pe hb.pe) fun σ H Q h => ?_⟩
  obtain ⟨R, st, fr, rel, rf, ok⟩ := h
  refine ⟨R, st, fr, rel, rf, okG.imp (okG.bind ok) fun x H1 R1 d st1 e1 rel1 r1 _ q => ?_⟩
  obtain ⟨R2, st2, d2, e2, rel2, r2, ok2⟩ := q
  refine ⟨R2, st2, fr, rel2, rf.mono e2, okG.imp (okG.bind ok2) fun y H3 R3 d3 st3 e3 rel3 r3 _ q3 => ?_⟩
  obtain ⟨R4, st4, d4, e4, rel4, r4, ok4⟩ := q3
  exact ⟨R4, st4, d2, d4, rel4, r2.mono e4, r4, ok4.noex fun c s => ne _ _ _ _ _⟩
theorem e_cmp {a b : Expr} {op : CmpOp} {o : M2} {f g : ME} (ho : OpI X (compareOp op) o) (ne : NoEx o) (ha : IE X W a f) (hb : IE X W b g) (hm : behindInMarks op b = false := by first | exact nomark _ | rfl) : IE X W (.Compare a [op] [b] pos) (eBin o f g) := by
  refine ⟨PE.imp (pe_cmpR ho.op ha.pe hb.pe hm) fun σ H Q h => ?_⟩
  obtain ⟨R, st, fr, rel, rf, ok⟩ := h
  refine ⟨R, st, fr, rel, rf, okG.imp (okG.bind ok) fun x H1 R1 d st1 e1 rel1 r1 _ q => ?_⟩
  obtain ⟨R2, st2, d2, e2, rel2, r2, ok2⟩ := q
  refine ⟨R2, st2, fr, rel2, rf.mono e2, okG.imp (okG.bind ok2) fun y H3 R3 d3 st3 e3 rel3 r3 _ q3 => ?_⟩
  obtain ⟨R4, st4, d4, e4, rel4, r4, ok4⟩ := q3
  exact ⟨R4, st4, d2, d4, rel4, r2.mono e4, r4, ok4.noex fun c s => ne _ _ _ _ _⟩

/-! ### tests -/
def asB (d : D) (st : Sto) : Out Bool := match d with
  | .bl b => .ok b st
  | _ => .no
@[simp] theorem asB_bl (b : Bool) (st : Sto) : asB (.bl b) st = .ok b st := (rfl)
def toB (f : ME) (fr : Fr) (st : Sto) : Out Bool := (f fr st).bind asB
theorem asB_ok {K : PySem.W.Frag} {W : WX} {σ : L2.St} {H1 : Hp} {R1 : Tr} {Q : Bool → Hp → Prop} {d : D} {st1 : Sto} {x : V} (rel : Rel K H1 R1 st1) (r : RV K H1 R1 d x) (ok : okG W σ H1 R1 rvB K Q (asB d st1)) : ∃ k, x = .bl k ∧ Q k H1 := by
  cases d with
  | bl b => exact ⟨b, r, ok H1 R1 b Ext.refl rel rfl⟩
  | _ => exact ok.elim
theorem it_cmp {a b : Expr} {op : CmpOp} {o : M2} {f g : ME} (ho : OpI X (compareOp op) o) (ne : NoEx o) (ha : IE X W a f) (hb : IE X W b g) (hm : behindInMarks op b = false := by first | exact nomark _ | rfl) : IT X W (.Compare a [op] [b] pos) (toB (eBin o f g)) := by
  refine ⟨PT.imp (pt_cmpR ho.op ha.pe hb.pe hm) fun σ H Q h => ?_⟩
  obtain ⟨R, st, fr, rel, rf, ok⟩ := h
  have ok' : okG W σ H R (RV X.K) X.K _ (eBin o f g fr st) := okG.bind (rv := RV X.K) ok
  refine ⟨R, st, fr, rel, rf, okG.imp (okG.bind (k := fun x st1 => (g fr st1).bind fun y st2 => o x y st2) ok') fun x H1 R1 d st1 e1 rel1 r1 _ q => ?_⟩
  obtain ⟨R2, st2, d2, e2, rel2, r2, ok2⟩ := q
  refine ⟨R2, st2, fr, rel2, rf.mono e2, okG.imp (okG.bind ok2) fun y H3 R3 d3 st3 e3 rel3 r3 _ q3 => ?_⟩
  obtain ⟨R4, st4, d4, e4, rel4, r4, ok4⟩ := q3
  refine ⟨R4, st4, d2, d4, rel4, r2.mono e4, r4, okG.imp (ok4.noex fun c s => ne _ _ _ _ _) fun z H5 R5 d5 st5 e5 rel5 r5 _ q5 => ?_⟩
  obtain ⟨R6, st6, d6, e6, rel6, r6, ok6⟩ := q5
  exact asB_ok rel6 r6 ok6
/-- an expression whose value is a bool, as a test -/
theorem it_val {e : Expr} {f : ME} (h : IE X W e f) (he : ∀ whole, isTrue e X.env whole = (do let v ← whole; standAt e.pos; holding [v] (truthy v)) := by intro _; rfl) : IT X W e (toB f) := by
  refine ⟨PT.imp (pt_val h.pe he) fun σ H Q h => ?_⟩
  obtain ⟨R, st, fr, rel, rf, ok⟩ := h
  refine ⟨R, st, fr, rel, rf, okG.imp (okG.bind ok) fun x H1 R1 d st1 e1 rel1 r1 _ q => ?_⟩
  obtain ⟨R2, st2, d2, e2, rel2, r2, ok2⟩ := q
  exact asB_ok rel2 r2 ok2
/-! chains -/
def eChain (o o' : M2) (f g h : ME) (fr : Fr) (st : Sto) : Out D := (f fr st).bind fun x st1 => (g fr st1).bind fun y st2 => (o x y st2).bind fun z st3 => (asB z st3).bind fun k st4 =>
  if k = true then (h fr st4).bind fun w st5 => o' y w st5 else .ok (.bl false) st4
theorem chain_ok {W : WX} {o o' : M2} {f g h : ME} (ne : NoEx o) (ne' : NoEx o') {σ : L2.St} {H : Hp} {Q : VK} {R : Tr} {st : Sto} {fr : Fr} (rel : Rel X.K H R st) (rf : RFr X.K H R fr σ) (ok : okG W σ H R (RV X.K) X.K Q (eChain o o' f g h fr st)) :
    tChain (tO X.K o) (tO X.K o') (tE X.K W f) (tE X.K W g) (tE X.K W h) σ H Q := by
  refine ⟨R, st, fr, rel, rf, okG.imp (okG.bind ok) fun x H1 R1 d st1 e1 rel1 r1 _ q => ?_⟩
  obtain ⟨R2, st2, d2, e2, rel2, r2, ok2⟩ := q
  refine ⟨R2, st2, fr, rel2, rf.mono e2, okG.imp (okG.bind ok2) fun y H3 R3 d3 st3 e3 rel3 r3 _ q3 => ?_⟩
  obtain ⟨R4, st4, d4, e4, rel4, r4, ok4⟩ := q3
  have rf4 := (rf.mono e2).mono (e4)
  refine ⟨R4, st4, d2, d4, rel4, r2.mono e4, r4, ?_⟩
  have ok5 := okG.bind (rv := RV X.K) ok4
  refine okG.imp (ok5.noex fun c s => ne _ _ _ _ _) fun z H5 R5 d5 st5 e5 rel5 r5 _ q5 => ?_
  obtain ⟨R6, st6, d6, e6, rel6, r6, ok6⟩ := q5
  cases d6 with
  | bl k =>
    refine ⟨k, r6, ?_⟩
    simp only [asB_bl, Out.bind_ok] at ok6
    cases k with
    | true =>
      rw [if_pos rfl] at ok6 ⊢
      refine ⟨R6, st6, fr, rel6, (rf4.mono (e6)), okG.imp (okG.bind ok6) fun y' H7 R7 d7 st7 e7 rel7 r7 _ q7 => ?_⟩
      obtain ⟨R8, st8, d8, e8, rel8, r8, ok8⟩ := q7
      exact ⟨R8, st8, d4, d8, rel8, (r4.mono e6).mono e8, r8, ok8.noex fun c s => ne' _ _ _ _ _⟩
    | false =>
      rw [if_neg Bool.false_ne_true] at ok6 ⊢
      exact ok6 H5 R6 (.bl false) Ext.refl rel6 rfl
  | _ => exact ok6.elim
theorem e_chain {a b c : Expr} {op op' : CmpOp} {o o' : M2} {f g h : ME} (ho : OpI X (compareOp op) o) (ho' : OpI X (compareOp op') o') (ne : NoEx o) (ne' : NoEx o') (ha : IE X W a f) (hb : IE X W b g) (hc : IE X W c h)
    (hm : lastMarks [op, op'] [b, c] = false := by with_unfolding_all rfl) : IE X W (.Compare a [op, op'] [b, c] pos) (eChain o o' f g h) :=
  ⟨PE.imp (pe_chain ho.op ho'.op ha.pe hb.pe hc.pe hm) fun σ H Q ⟨R, st, fr, rel, rf, ok⟩ => chain_ok ne ne' rel rf ok⟩
theorem it_chain {a b c : Expr} {op op' : CmpOp} {o o' : M2} {f g h : ME} (ho : OpI X (compareOp op) o) (ho' : OpI X (compareOp op') o') (ne : NoEx o) (ne' : NoEx o') (ha : IE X W a f) (hb : IE X W b g) (hc : IE X W c h)
    (hm : lastMarks [op, op'] [b, c] = false := by with_unfolding_all rfl) : IT X W (.Compare a [op, op'] [b, c] pos) (toB (eChain o o' f g h)) := by
  refine ⟨PT.imp (pt_chain ho.op ho'.op ha.pe hb.pe hc.pe hm) fun σ H Q ⟨R, st, fr, rel, rf, ok⟩ => chain_ok ne ne' rel rf (okG.imp (okG.bind ok) fun x H1 R1 d st1 e1 rel1 r1 _ q => ?_)⟩
  obtain ⟨R2, st2, d2, e2, rel2, r2, ok2⟩ := q
  exact asB_ok rel2 r2 ok2

def bAnd (f g : MT) (fr : Fr) (st : Sto) : Out Bool := (f fr st).bind fun k st1 => if k = true then g fr st1 else .ok false st1
def bOr (f g : MT) (fr : Fr) (st : Sto) : Out Bool := (f fr st).bind fun k st1 => if k = true then .ok true st1 else g fr st1
def bNot (f : MT) (fr : Fr) (st : Sto) : Out Bool := (f fr st).bind fun k st1 => .ok (!k) st1
section
variable {a b : Expr} {rest : List Expr} {f g : MT}
theorem iw_and1 (ha : IT X W a f) : IW X W (.BoolOp .And [a] pos) f := ⟨pw_and1 ha.pt⟩
theorem iw_or1 (ha : IT X W a f) : IW X W (.BoolOp .Or [a] pos) f := ⟨pw_or1 ha.pt⟩
theorem tand_ok {σ : L2.St} {H : Hp} {Q : Bool → Hp → Prop} (h : tT X.K W (bAnd f g) σ H Q) : tAnd (tT X.K W f) (tT X.K W g) σ H Q := by
  obtain ⟨R, st, fr, rel, rf, ok⟩ := h
  refine ⟨R, st, fr, rel, rf, okG.imp (okG.bind ok) fun x H1 R1 d st1 e1 rel1 r1 _ q => ?_⟩
  obtain ⟨R2, st2, d2, e2, rel2, r2, ok2⟩ := q
  obtain rfl : x = d2 := r2
  cases x with
  | true => exact ⟨R2, st2, fr, rel2, rf.mono e2, ok2⟩
  | false => exact ok2 H1 R2 false Ext.refl rel2 rfl
theorem tor_ok {σ : L2.St} {H : Hp} {Q : Bool → Hp → Prop} (h : tT X.K W (bOr f g) σ H Q) : tOr (tT X.K W f) (tT X.K W g) σ H Q := by
  obtain ⟨R, st, fr, rel, rf, ok⟩ := h
  refine ⟨R, st, fr, rel, rf, okG.imp (okG.bind ok) fun x H1 R1 d st1 e1 rel1 r1 _ q => ?_⟩
  obtain ⟨R2, st2, d2, e2, rel2, r2, ok2⟩ := q
  obtain rfl : x = d2 := r2
  cases x with
  | false => exact ⟨R2, st2, fr, rel2, rf.mono e2, ok2⟩
  | true => exact ok2 H1 R2 true Ext.refl rel2 rfl
theorem iw_and (ha : IT X W a f) (hb : IW X W (.BoolOp .And (b :: rest) pos) g) : IW X W (.BoolOp .And (a :: b :: rest) pos) (bAnd f g) := ⟨PW.imp (pw_and ha.pt hb.pw) fun _ _ _ h => tand_ok h⟩
theorem iw_or (ha : IT X W a f) (hb : IW X W (.BoolOp .Or (b :: rest) pos) g) : IW X W (.BoolOp .Or (a :: b :: rest) pos) (bOr f g) := ⟨PW.imp (pw_or ha.pt hb.pw) fun _ _ _ h => tor_ok h⟩
theorem IW.it {e : Expr} (h : IW X W e f) : IT X W e f := ⟨h.pw.pt⟩
theorem it_not (ha : IT X W a f) : IT X W (.UnaryOp .Not a pos) (bNot f) := by
  refine ⟨PT.imp (pt_not ha.pt) fun σ H Q h => ?_⟩
  obtain ⟨R, st, fr, rel, rf, ok⟩ := h
  refine ⟨R, st, fr, rel, rf, okG.imp (okG.bind ok) fun x H1 R1 d st1 e1 rel1 r1 _ q => ?_⟩
  obtain ⟨R2, st2, d2, e2, rel2, r2, ok2⟩ := q
  obtain rfl : x = d2 := r2
  exact ok2 H1 R2 (!x) Ext.refl rel2 rfl
end
/-! .. as values, of bools -/
def vAnd (f g : ME) (fr : Fr) (st : Sto) : Out D := (f fr st).bind fun d st0 => (asB d st0).bind fun k st1 => if k = true then g fr st1 else .ok (.bl false) st1
def vOr (f g : ME) (fr : Fr) (st : Sto) : Out D := (f fr st).bind fun d st0 => (asB d st0).bind fun k st1 => if k = true then .ok (.bl true) st1 else g fr st1
def vNot (f : ME) (fr : Fr) (st : Sto) : Out D := (f fr st).bind fun d st0 => (asB d st0).bind fun k st1 => .ok (.bl (!k)) st1
section
variable {a b : Expr} {rest : List Expr} {f g : ME}
theorem e_one {op : BoolOp} (h : IE X W a f) : IE X W (.BoolOp op [a] pos) f := ⟨pe_one h.pe⟩
theorem e_and (ha : IE X W a f) (hb : IE X W (.BoolOp .And (b :: rest) pos) g) : IE X W (.BoolOp .And (a :: b :: rest) pos) (vAnd f g) := by
  refine ⟨PE.imp (pe_and ha.pe hb.pe) fun σ H Q h => ?_⟩
  obtain ⟨R, st, fr, rel, rf, ok⟩ := h
  refine ⟨R, st, fr, rel, rf, okG.imp (okG.bind ok) fun x H1 R1 d st1 e1 rel1 r1 _ q => ?_⟩
  obtain ⟨R2, st2, d2, e2, rel2, r2, ok2⟩ := q
  cases d2 with
  | bl k =>
    refine ⟨k, r2, ?_⟩
    simp only [asB_bl, Out.bind_ok] at ok2
    cases k with
    | true => exact ⟨R2, st2, fr, rel2, rf.mono e2, ok2⟩
    | false => exact ok2 H1 R2 (.bl false) Ext.refl rel2 rfl
  | _ => exact ok2.elim
theorem e_or (ha : IE X W a f) (hb : IE X W (.BoolOp .Or (b :: rest) pos) g) : IE X W (.BoolOp .Or (a :: b :: rest) pos) (vOr f g) := by
  refine ⟨PE.imp (pe_or ha.pe hb.pe) fun σ H Q h => ?_⟩
  obtain ⟨R, st, fr, rel, rf, ok⟩ := h
  refine ⟨R, st, fr, rel, rf, okG.imp (okG.bind ok) fun x H1 R1 d st1 e1 rel1 r1 _ q => ?_⟩
  obtain ⟨R2, st2, d2, e2, rel2, r2, ok2⟩ := q
  cases d2 with
  | bl k =>
    refine ⟨k, r2, ?_⟩
    simp only [asB_bl, Out.bind_ok] at ok2
    cases k with
    | false => exact ⟨R2, st2, fr, rel2, rf.mono e2, ok2⟩
    | true => exact ok2 H1 R2 (.bl true) Ext.refl rel2 rfl
  | _ => exact ok2.elim
theorem e_not (ha : IE X W a f) : IE X W (.UnaryOp .Not a pos) (vNot f) := by
  refine ⟨PE.imp (pe_not ha.pe) fun σ H Q h => ?_⟩
  obtain ⟨R, st, fr, rel, rf, ok⟩ := h
  refine ⟨R, st, fr, rel, rf, okG.imp (okG.bind ok) fun x H1 R1 d st1 e1 rel1 r1 _ q => ?_⟩
  obtain ⟨R2, st2, d2, e2, rel2, r2, ok2⟩ := q
  cases d2 with
  | bl k => exact ⟨k, r2, ok2 H1 R2 (.bl (!k)) Ext.refl rel2 rfl⟩
  | _ => exact ok2.elim
/-- a if t else b -/
def eIf (t : MT) (f g : ME) (fr : Fr) (st : Sto) : Out D := (t fr st).bind fun k st1 => if k = true then f fr st1 else g fr st1
theorem e_if {c : Expr} {t : MT} (hc : IT X W c t) (ha : IE X W a f) (hb : IE X W b g) : IE X W (.IfExp c a b pos) (eIf t f g) := by
  refine ⟨PE.imp (pe_ifExp hc.pt ha.pe hb.pe) fun σ H Q h => ?_⟩
  obtain ⟨R, st, fr, rel, rf, ok⟩ := h
  refine ⟨R, st, fr, rel, rf, okG.imp (okG.bind ok) fun x H1 R1 d st1 e1 rel1 r1 _ q => ?_⟩
  obtain ⟨R2, st2, d2, e2, rel2, r2, ok2⟩ := q
  obtain rfl : x = d2 := r2
  cases x with
  | true => exact ⟨R2, st2, fr, rel2, rf.mono e2, ok2⟩
  | false => exact ⟨R2, st2, fr, rel2, rf.mono e2, ok2⟩
end

/-! ### argument lists, displays -/
def aNil (fr : Fr) (st : Sto) : Out (List D) := .ok [] st
def aCons (f : ME) (g : MA) (fr : Fr) (st : Sto) : Out (List D) := (f fr st).bind fun x st1 => (g fr st1).bind fun xs st2 => .ok (x :: xs) st2
theorem a_nil : IA X W [] aNil := ⟨PA.imp pa_nil fun σ H Q ⟨R, st, fr, rel, rf, ok⟩ => ok H R [] Ext.refl rel rfl⟩
theorem a_cons {e : Expr} {es : List Expr} {f : ME} {g : MA} (ha : IE X W e f) (hr : IA X W es g) (hs : starEach (e :: es) X.env = (false, eval e X.env) :: starEach es X.env := by rfl) : IA X W (e :: es) (aCons f g) := by
  refine ⟨PA.imp (pa_cons ha.pe hr.pa hs) fun σ H Q h => ?_⟩
  obtain ⟨R, st, fr, rel, rf, ok⟩ := h
  refine ⟨R, st, fr, rel, rf, okG.imp (okG.bind ok) fun x H1 R1 d st1 e1 rel1 r1 _ q => ?_⟩
  obtain ⟨R2, st2, d2, e2, rel2, r2, ok2⟩ := q
  refine ⟨R2, st2, fr, rel2, rf.mono e2, okG.imp (okG.bind ok2) fun xs H3 R3 d3 st3 e3 rel3 r3 _ q3 => ?_⟩
  obtain ⟨R4, st4, d4, e4, rel4, r4, ok4⟩ := q3
  exact ok4 H3 R4 _ Ext.refl rel4 (RVs.cons (r2.mono e4) r4)
/-- the greatest length that a list or a tuple made here has -/
def big : Nat := 16000000
theorem big_le {n : Nat} (h : n ≤ 16000000) : n ≤ sizeLine := Nat.le_trans h (by decide)
theorem big_lt {n : Nat} (h : n ≤ 16000000) : n < sizeLine := Nat.lt_of_le_of_lt h (by decide)
def mkTup (ds : List D) (st : Sto) : Out D := if ds.length ≤ 16000000 then .ok (.tup ds) st else .no
def mkLst (ds : List D) (st : Sto) : Out D := if ds.length ≤ 16000000 then .ok (.loc st.length) (st ++ [.lst ds]) else .no
def eTup (g : MA) (fr : Fr) (st : Sto) : Out D := (g fr st).bind mkTup
def eLst (mk : List D → Sto → Out D) (g : MA) (fr : Fr) (st : Sto) : Out D := (g fr st).bind mk
theorem mkTup_ok {K : PySem.W.Frag} {W : WX} {σ : L2.St} {H : Hp} {R : Tr} {st : Sto} {Q : VK} {ds : List D} {vs : List V} (rel : Rel K H R st) (r : RVs K H R ds vs) (ok : okG W σ H R (RV K) K Q (mkTup ds st)) :
    vs.length ≤ sizeLine ∧ ∀ p, H p = none → Q (.ref p) (upd H p (.tup vs)) := by
  unfold mkTup at ok
  split at ok
  · rename_i h
    refine ⟨by rw [r.length]; exact big_le h, fun p hp => ?_⟩
    have e : Ext K H R (upd H p (.tup vs)) R := Ext.new hp
    exact ok _ R _ e (rel.aside hp) ⟨p, vs, rfl, .inl (.inl upd_same), r.mono e⟩
  · exact ok.elim
theorem alloc_ok {K : PySem.W.Frag} {W : WX} {σ : L2.St} {H : Hp} {R : Tr} {st : Sto} {Q : VK} {ds : List D} {vs : List V} (rel : Rel K H R st) (r : RVs K H R ds vs)
    (ok : okG W σ H R (RV K) K Q (.ok (.loc st.length) (st ++ [.lst ds]))) : ∀ p, H p = none → Q (.ref p) (upd H p (.lst vs)) := fun p hp => by
  have e : Ext K H R (upd H p (.lst vs)) (R.add p) := Ext.alloc hp
  exact ok _ (R.add p) _ e (rel.alloc hp ⟨vs, upd_same, r.mono e⟩) ⟨p, rel.add_ix, rfl⟩
/-- .. no longer written -/
theorem froze_ok {K : PySem.W.Frag} {W : WX} {σ : L2.St} {H : Hp} {R : Tr} {st : Sto} {Q : VK} {ds : List D} {vs : List V} (rel : Rel K H R st) (r : RVs K H R ds vs)
    (ok : okG W σ H R (RV K) K Q (.ok (.fl ds) st)) : ∀ p, H p = none → Q (.ref p) (upd H p (.lst vs)) := fun p hp => by
  have e : Ext K H R (upd H p (.lst vs)) R := Ext.new hp
  exact ok _ R _ e (rel.aside hp) ⟨p, vs, rfl, upd_same, rel.fresh hp, r.mono e⟩
def mkFl (ds : List D) (st : Sto) : Out D := if ds.length ≤ 16000000 then .ok (.fl ds) st else .no
/-- a list is made: a cell, or one no longer written -/
inductive MkL : (List D → Sto → Out D) → Prop where
  | l : MkL mkLst
  | f : MkL mkFl
theorem MkL.len {mk : List D → Sto → Out D} (m : MkL mk) {K : PySem.W.Frag} {W : WX} {σ : L2.St} {H : Hp} {R : Tr} {st : Sto} {Q : VK} {ds : List D} (ok : okG W σ H R (RV K) K Q (mk ds st)) : ds.length ≤ 16000000 := by
  cases m with
  | l => unfold mkLst at ok; split at ok; assumption; exact ok.elim
  | f => unfold mkFl at ok; split at ok; assumption; exact ok.elim
theorem MkL.ok {mk : List D → Sto → Out D} (m : MkL mk) {K : PySem.W.Frag} {W : WX} {σ : L2.St} {H : Hp} {R : Tr} {st : Sto} {Q : VK} {ds : List D} {vs : List V} (rel : Rel K H R st) (r : RVs K H R ds vs) (ok : okG W σ H R (RV K) K Q (mk ds st)) :
    vs.length ≤ sizeLine ∧ ∀ p, H p = none → Q (.ref p) (upd H p (.lst vs)) := by
  have h := m.len ok
  refine ⟨by rw [r.length]; exact big_le h, ?_⟩
  cases m with
  | l => unfold mkLst at ok; rw [if_pos h] at ok; exact alloc_ok rel r ok
  | f => unfold mkFl at ok; rw [if_pos h] at ok; exact froze_ok rel r ok
theorem MkL.ne {mk : List D → Sto → Out D} (m : MkL mk) {ds : List D} {st : Sto} {c : Nat} {st' : Sto} : mk ds st ≠ .ex c st' := by
  cases m with
  | l => unfold mkLst; split <;> exact fun h => nomatch h
  | f => unfold mkFl; split <;> exact fun h => nomatch h
theorem e_tup {es : List Expr} {g : MA} {x1 : Nat} (h : IA X W es g) : IE X W (.Tuple es x1 pos) (eTup g) := by
  refine ⟨PE.imp (pe_tup h.pa) fun σ H Q h => ?_⟩
  obtain ⟨R, st, fr, rel, rf, ok⟩ := h
  refine ⟨R, st, fr, rel, rf, okG.imp (okG.bind ok) fun x H1 R1 d st1 e1 rel1 r1 _ q => ?_⟩
  obtain ⟨R2, st2, d2, e2, rel2, r2, ok2⟩ := q
  exact mkTup_ok rel2 r2 ok2
theorem e_lst {mk : List D → Sto → Out D} (m : MkL mk) {es : List Expr} {g : MA} (h : IA X W es g) : IE X W (.List es pos) (eLst mk g) := by
  refine ⟨PE.imp (pe_lst h.pa) fun σ H Q h => ?_⟩
  obtain ⟨R, st, fr, rel, rf, ok⟩ := h
  refine ⟨R, st, fr, rel, rf, okG.imp (okG.bind ok) fun x H1 R1 d st1 e1 rel1 r1 _ q => ?_⟩
  obtain ⟨R2, st2, d2, e2, rel2, r2, ok2⟩ := q
  exact m.ok rel2 r2 ok2

/-! ### built-in functions -/
structure CallI (X : Cx) (f : Value) (o : List D → Sto → Out D) : Prop where
  call : CallR X f (fun vs H Q => ∃ R st ds, Rel X.K H R st ∧ RVs X.K H R ds vs ∧ okG W0 [] H R (RV X.K) X.K Q (o ds st))
theorem CallR.imp {f : Value} {r r' : List V → Hp → VK → Prop} (h : CallR X f r) (k : ∀ x H Q, r' x H Q → r x H Q) : CallR X f r' := fun pins s σ H x v Q I rx q => h pins s σ H x v Q I rx (k _ _ _ q)
def eB (o : List D → Sto → Out D) (g : MA) (fr : Fr) (st : Sto) : Out D := (g fr st).bind o
def NoEx1 (o : List D → Sto → Out D) : Prop := ∀ x st c st', o x st ≠ .ex c st'
theorem tcb_ok {o : List D → Sto → Out D} {g : MA} (ne : NoEx1 o) {σ : L2.St} {H : Hp} {Q : VK} (h : tE X.K W (eB o g) σ H Q) :
    tCB (fun vs H Q => ∃ R st ds, Rel X.K H R st ∧ RVs X.K H R ds vs ∧ okG W0 [] H R (RV X.K) X.K Q (o ds st)) (tA X.K W g) σ H Q := by
  obtain ⟨R, st, fr, rel, rf, ok⟩ := h
  refine ⟨R, st, fr, rel, rf, okG.imp (okG.bind ok) fun x H1 R1 d st1 e1 rel1 r1 _ q => ?_⟩
  obtain ⟨R2, st2, d2, e2, rel2, r2, ok2⟩ := q
  exact ⟨R2, st2, d2, rel2, r2, ok2.noex fun c s => ne _ _ _ _⟩
section
variable {x : Str} {p : Pos} {e : Expr} {es : List Expr} {g : MA} {id T : String} {o : List D → Sto → Out D}
theorem e_callB (hc : CallI X (.builtin id) o) (ne : NoEx1 o) (hg : Gl X x) (hm : X.mg x = none) (hv : bootBuiltins x = some (.builtin id)) (ha : IA X W (e :: es) g) (hn : x ≠ "__name__" := by decide) (hdb : (x == ("__debug__" : Str)) = false := by decide)
    (he : starEach (e :: es) X.env = (false, eval e X.env) :: starEach es X.env := by rfl) (hpl : (backTo pos (starEach es X.env)).any (·.1) = false := by rfl) : IE X W (.Call (.Name x p) (e :: es) [] pos) (eB o g) :=
  ⟨PE.imp (pe_callB hc.call hg hm hv ha.pa hn hdb he hpl) fun _ _ _ h => tcb_ok ne h⟩
theorem e_callTy (hc : CallI X (.type T) o) (ne : NoEx1 o) (hg : Gl X x) (hm : X.mg x = none) (hv : bootBuiltins x = some (.type T)) (ha : IA X W (e :: es) g) (hn : x ≠ "__name__" := by decide) (hdb : (x == ("__debug__" : Str)) = false := by decide)
    (he : starEach (e :: es) X.env = (false, eval e X.env) :: starEach es X.env := by rfl) (hpl : (backTo pos (starEach es X.env)).any (·.1) = false := by rfl) : IE X W (.Call (.Name x p) (e :: es) [] pos) (eB o g) :=
  ⟨PE.imp (pe_callTy hc.call hg hm hv ha.pa hn hdb he hpl) fun _ _ _ h => tcb_ok ne h⟩
end
end
end Vi
set_option maxRecDepth 100000
set_option maxHeartbeats 2000000
/-! Vi2: operators and built-in functions. -/
namespace Vi
open PySem PySem.Spec PyProof.Rows L2
section
variable {X : Cx} {W : WX} {pos : Pos}

/-! ### toInts -/
def oI (C : Int → Int → Bool) (g : Int → Int → D) (x y : D) (st : Sto) : Out D := match x, y with
  | .int i, .int j => if C i j = true then .ok (g i j) st else .no
  | _, _ => .no
@[simp] theorem oI_int (C : Int → Int → Bool) (g : Int → Int → D) (i j : Int) (st : Sto) : oI C g (.int i) (.int j) st = if C i j = true then .ok (g i j) st else .no := (rfl)
def oI0 (g : Int → Int → D) (x y : D) (st : Sto) : Out D := match x, y with
  | .int i, .int j => .ok (g i j) st
  | _, _ => .no
@[simp] theorem oI0_int (g : Int → Int → D) (i j : Int) (st : Sto) : oI0 g (.int i) (.int j) st = .ok (g i j) st := (rfl)
theorem ne_oI {C : Int → Int → Bool} {g : Int → Int → D} : NoEx (oI C g) := fun x y st c st' => by
  unfold oI
  split
  · split <;> exact fun h => nomatch h
  · exact fun h => nomatch h
theorem ne_oI0 {g : Int → Int → D} : NoEx (oI0 g) := fun x y st c st' => by
  unfold oI0
  split <;> exact fun h => nomatch h
theorem opi {f : Value → Value → Sem Value} {P : Int → Int → Prop} {C : Int → Int → Bool} {g : Int → Int → D} {gv : Int → Int → V} (h : OpR X f (rI P gv)) (hC : ∀ i j, C i j = true → P i j) (hg : ∀ i j H R, RV X.K H R (g i j) (gv i j)) : OpI X f (oI C g) := by
  refine ⟨OpR.imp h fun x y H Q q => ?_⟩
  obtain ⟨R, st, dx, dy, rel, rx, ry, ok⟩ := q
  unfold oI at ok
  split at ok
  · split at ok
    · rename_i i j hc
      exact ⟨i, j, rx, ry, hC i j hc, ok H R _ Ext.refl rel (hg i j H R)⟩
    · exact ok.elim
  · exact ok.elim
theorem opi0 {f : Value → Value → Sem Value} {g : Int → Int → D} {gv : Int → Int → V} (h : OpR X f (rI0 gv)) (hg : ∀ i j H R, RV X.K H R (g i j) (gv i j)) : OpI X f (oI0 g) := by
  refine ⟨OpR.imp h fun x y H Q q => ?_⟩
  obtain ⟨R, st, dx, dy, rel, rx, ry, ok⟩ := q
  unfold oI0 at ok
  split at ok
  · rename_i i j
    exact ⟨i, j, rx, ry, ok H R _ Ext.refl rel (hg i j H R)⟩
  · exact ok.elim
def smallI (i : Int) : Bool := decide (-18446744073709551616 < i) && decide (i < 18446744073709551616)
def cMul (i j : Int) : Bool := smallI i || smallI j || decide (i.natAbs.log2 + j.natAbs.log2 < 1000000)
def cDiv (_ j : Int) : Bool := decide (0 < j) && (decide (j < 1073741824) || decide (j.natAbs.log2 < 9000))
def cMod (_ j : Int) : Bool := decide (0 < j)
def cShift (i j : Int) : Bool := decide (0 ≤ j) && decide (j ≤ 1000000) && smallI i
def cPow (i j : Int) : Bool := decide (0 ≤ j) && decide (j ≤ 1000000) && smallI i
def cShr (_ j : Int) : Bool := decide (0 ≤ j)
abbrev oAdd : M2 := oI0 fun i j => .int (i + j)
abbrev oSub : M2 := oI0 fun i j => .int (i - j)
abbrev oMul : M2 := oI cMul fun i j => .int (i * j)
abbrev oFdiv : M2 := oI cDiv fun i j => .int (i / j)
abbrev oMod : M2 := oI cMod fun i j => .int (i % j)
abbrev oShl : M2 := oI cShift fun i j => .int (i * 2 ^ j.toNat)
abbrev oShr : M2 := oI cShr fun i j => .int (i / 2 ^ j.toNat)
abbrev oPow : M2 := oI cPow fun i j => .int (i ^ j.toNat)
abbrev oLt : M2 := oI0 fun i j => .bl (decide (i < j))
abbrev oLe : M2 := oI0 fun i j => .bl (decide (i ≤ j))
abbrev oGt : M2 := oI0 fun i j => .bl (decide (j < i))
abbrev oGe : M2 := oI0 fun i j => .bl (decide (j ≤ i))
theorem smallI_ok {i : Int} (h : smallI i = true) : -(2 ^ 64) < i ∧ i < 2 ^ 64 := by
  unfold smallI at h
  rw [Bool.and_eq_true, decide_eq_true_eq, decide_eq_true_eq] at h
  omega
theorem smallI_abs {i : Int} (h : smallI i = true) : i.natAbs < 2 ^ 64 := by
  have := smallI_ok h
  omega
/-- * of toInts -/
theorem op_mulA : OpR X (binaryOp .Mult) (rI (fun i j => CMul i j ∨ CMulW i j) fun i j => .int (i * j)) := fun pins s σ H x y v u Q I rx ry q => by
  obtain ⟨i, j, ex, ey, hc, q⟩ := q
  rcases hc with hc | hc
  · exact op_mul pins s σ H x y v u Q I rx ry ⟨i, j, ex, ey, hc, q⟩
  · exact op_mulW pins s σ H x y v u Q I rx ry ⟨i, j, ex, ey, hc, q⟩
theorem op_fdivA : OpR X (binaryOp .FloorDiv) (rI (fun i j => CDiv i j ∨ CDivW i j) fun i j => .int (i / j)) := fun pins s σ H x y v u Q I rx ry q => by
  obtain ⟨i, j, ex, ey, hc, q⟩ := q
  rcases hc with hc | hc
  · exact op_fdiv pins s σ H x y v u Q I rx ry ⟨i, j, ex, ey, hc, q⟩
  · exact op_fdivW pins s σ H x y v u Q I rx ry ⟨i, j, ex, ey, hc, q⟩
theorem cMul_ok (i j : Int) (h : cMul i j = true) : CMul i j ∨ CMulW i j := by
  unfold cMul at h
  rw [Bool.or_eq_true, Bool.or_eq_true, decide_eq_true_eq] at h
  rcases h with (h | h) | h
  · exact .inl (.inl (smallI_ok h))
  · exact .inl (.inr (smallI_ok h))
  · exact .inr h
theorem cDiv_ok (i j : Int) (h : cDiv i j = true) : CDiv i j ∨ CDivW i j := by
  unfold cDiv at h
  rw [Bool.and_eq_true, Bool.or_eq_true, decide_eq_true_eq, decide_eq_true_eq, decide_eq_true_eq] at h
  obtain ⟨h0, h1 | h1⟩ := h
  · exact .inl ⟨h0, h1⟩
  · exact .inr ⟨h0, h1⟩
theorem cPow_ok (i j : Int) (h : cPow i j = true) : CPow i j := by
  unfold cPow at h
  rw [Bool.and_eq_true, Bool.and_eq_true, decide_eq_true_eq, decide_eq_true_eq] at h
  exact ⟨h.1.1, h.1.2, smallI_abs h.2⟩
theorem i_add : OpI X (binaryOp .Add) oAdd := opi0 op_add fun _ _ _ _ => rfl
theorem i_sub : OpI X (binaryOp .Sub) oSub := opi0 op_sub fun _ _ _ _ => rfl
theorem i_mul : OpI X (binaryOp .Mult) oMul := opi op_mulA cMul_ok fun _ _ _ _ => rfl
theorem i_fdiv : OpI X (binaryOp .FloorDiv) oFdiv := opi op_fdivA cDiv_ok fun _ _ _ _ => rfl
theorem i_mod : OpI X (binaryOp .Mod) oMod := opi op_mod (fun i j h => by unfold cMod at h; exact of_decide_eq_true h) fun _ _ _ _ => rfl
theorem i_shl : OpI X (binaryOp .LShift) oShl := opi op_shl cPow_ok fun _ _ _ _ => rfl
theorem i_pow : OpI X (binaryOp .Pow) oPow := opi op_pow cPow_ok fun _ _ _ _ => rfl
theorem i_shr : OpI X (binaryOp .RShift) oShr := opi op_shr (fun i j h => by unfold cShr at h; exact of_decide_eq_true h) fun _ _ _ _ => rfl
theorem i_lt : OpI X (compareOp .Lt) oLt := opi0 op_lt fun _ _ _ _ => rfl
theorem i_le : OpI X (compareOp .LtE) oLe := opi0 op_le fun _ _ _ _ => rfl
theorem i_gt : OpI X (compareOp .Gt) oGt := opi0 op_gt fun _ _ _ _ => rfl
theorem i_ge : OpI X (compareOp .GtE) oGe := opi0 op_ge fun _ _ _ _ => rfl
/-- in-place, of toInts -/
theorem ii_add : OpI X (inplaceOp .Add) oAdd := opi0 iop_add fun _ _ _ _ => rfl
theorem ii_sub : OpI X (inplaceOp .Sub) oSub := opi0 iop_sub fun _ _ _ _ => rfl
def cMulS (i j : Int) : Bool := smallI i || smallI j
theorem ii_mul : OpI X (inplaceOp .Mult) (oI cMulS fun i j => .int (i * j)) := opi iop_mul (fun i j h => by
  unfold cMulS at h
  rw [Bool.or_eq_true] at h
  exact h.imp smallI_ok smallI_ok) fun _ _ _ _ => rfl
theorem iop_fdivA : OpR X (inplaceOp .FloorDiv) (rI (fun i j => CDiv i j ∨ CDivW i j) fun i j => .int (i / j)) := fun pins s σ H x y v u Q I rx ry q => by
  obtain ⟨i, j, ex, ey, hc, q⟩ := q
  rcases hc with hc | hc
  · exact iop_fdiv pins s σ H x y v u Q I rx ry ⟨i, j, ex, ey, hc, q⟩
  · exact iop_fdivW pins s σ H x y v u Q I rx ry ⟨i, j, ex, ey, hc, q⟩
theorem ii_fdiv : OpI X (inplaceOp .FloorDiv) oFdiv := opi iop_fdivA cDiv_ok fun _ _ _ _ => rfl
/-- one sign -/
def eUn (g : Int → Int) (f : ME) (fr : Fr) (st : Sto) : Out D := (f fr st).bind fun d st1 => match d with
  | .int i => .ok (.int (g i)) st1
  | _ => .no
theorem e_neg {a : Expr} {f : ME} (ha : IE X W a f) : IE X W (.UnaryOp .USub a pos) (eUn (fun i => -i) f) := by
  refine ⟨PE.imp (pe_un un_neg ha.pe) fun σ H Q h => ?_⟩
  obtain ⟨R, st, fr, rel, rf, ok⟩ := h
  refine ⟨R, st, fr, rel, rf, okG.imp (okG.bind ok) fun x H1 R1 d st1 e1 rel1 r1 _ q => ?_⟩
  obtain ⟨R2, st2, d2, e2, rel2, r2, ok2⟩ := q
  cases d2 with
  | int i => exact ⟨i, r2, ok2 H1 R2 (.int (-i)) Ext.refl rel2 rfl⟩
  | _ => exact ok2.elim

/-! ### == and != -/
def optAll (f : D → Option PyData) : List D → Option (List PyData)
  | [] => some []
  | d :: ds => match f d, optAll f ds with
    | some x, some xs => some (x :: xs)
    | _, _ => none
/-- the data that a value bears -/
def toPD (st : Sto) : Nat → D → Option PyData
  | 0, _ => none
  | n + 1, d => match d with
    | .non => some .none
    | .bl b => some (.bool b)
    | .int i => some (.int i)
    | .str x => some (.str x)
    | .tup ds => (optAll (toPD st n) ds).map .tuple
    | .rol ds => (optAll (toPD st n) ds).map .list
    | .fl ds => (optAll (toPD st n) ds).map .list
    | .loc k => match st[k]? with
      | some (.lst ds) => (optAll (toPD st n) ds).map .list
      | _ => none
    | _ => none
theorem optAll_ok {K : PySem.W.Frag} {H : Hp} {R : Tr} {f : D → Option PyData} (hf : ∀ d v e, f d = some e → RV K H R d v → Dp K H v e) : ∀ (ds : List D) (vs : List V) (es : List PyData), optAll f ds = some es → RVs K H R ds vs → DpAll K H vs es
  | [], vs, es, h, r => by
    cases h
    cases (show vs = [] from r)
    exact .nil
  | d :: ds, vs, es, h, ⟨v, rr, h1, h2, h3⟩ => by
    subst h1
    unfold optAll at h
    split at h
    · rename_i x xs e1 e2
      cases h
      exact .cons (hf d v x e1 h2) (optAll_ok hf ds rr xs e2 h3)
    · cases h
theorem toPD_ok {K : PySem.W.Frag} {H : Hp} {R : Tr} {st : Sto} (rel : Rel K H R st) : ∀ (n : Nat) (d : D) (v : V) (e : PyData), toPD st n d = some e → RV K H R d v → Dp K H v e
  | 0, _, _, _, h, _ => by cases h
  | n + 1, d, v, e, h, r => by
    unfold toPD at h
    cases d with
    | non => cases h; cases (show v = _ from r); exact .non
    | bl b => cases h; cases (show v = _ from r); exact .bl b
    | int i => cases h; cases (show v = _ from r); exact .int i
    | str x => cases h; cases (show v = _ from r); exact .str x
    | tup ds =>
      obtain ⟨a, vs, rfl, hs, rr⟩ := r
      obtain ⟨es, e1, rfl⟩ := Option.map_eq_some_iff.mp h
      exact .tup hs (optAll_ok (fun d v e => toPD_ok rel n d v e) ds vs es e1 rr)
    | rol ds =>
      obtain ⟨a, vs, rfl, hs, rr⟩ := r
      obtain ⟨es, e1, rfl⟩ := Option.map_eq_some_iff.mp h
      exact .lst hs.sq (optAll_ok (fun d v e => toPD_ok rel n d v e) ds vs es e1 rr)
    | fl ds =>
      obtain ⟨a, vs, rfl, hs, _, rr⟩ := r
      obtain ⟨es, e1, rfl⟩ := Option.map_eq_some_iff.mp h
      exact .lst (.inl (.inl hs)) (optAll_ok (fun d v e => toPD_ok rel n d v e) ds vs es e1 rr)
    | loc k =>
      obtain ⟨a, ha, rfl⟩ := r
      dsimp only at h
      split at h
      · rename_i ds e0
        obtain ⟨vs, hv, rr⟩ := rel.lst ha e0
        obtain ⟨es, e1, rfl⟩ := Option.map_eq_some_iff.mp h
        exact .lst (.inl (.inl hv)) (optAll_ok (fun d v e => toPD_ok rel n d v e) ds vs es e1 rr)
      · cases h
    | _ => cases h
def deepEq (neg : Bool) (x y : D) (st : Sto) : Out D := match toPD st 60 x, toPD st 60 y with
  | some a, some b => if (SeqAt.shaped a && SeqAt.shaped b) = true then .ok (.bl (if neg then !PyData.eqv a b else PyData.eqv a b)) st else .no
  | _, _ => .no
def oEqN (neg : Bool) (x y : D) (st : Sto) : Out D := match x, y with
  | .int i, .int j => .ok (.bl (if neg then !decide (i = j) else decide (i = j))) st
  | .bl i, .bl j => .ok (.bl (if neg then !decide (i = j) else decide (i = j))) st
  | .str i, .str j => .ok (.bl (if neg then !decide (i = j) else decide (i = j))) st
  | .int _, .str _ => .ok (.bl neg) st
  | .str _, .int _ => .ok (.bl neg) st
  | x, y => deepEq neg x y st
abbrev oEq : M2 := oEqN false
abbrev oNe : M2 := oEqN true
@[simp] theorem oEqN_int (neg : Bool) (i j : Int) (st : Sto) : oEqN neg (.int i) (.int j) st = .ok (.bl (if neg then !decide (i = j) else decide (i = j))) st := (rfl)
@[simp] theorem oEqN_bl (neg : Bool) (i j : Bool) (st : Sto) : oEqN neg (.bl i) (.bl j) st = .ok (.bl (if neg then !decide (i = j) else decide (i = j))) st := (rfl)
@[simp] theorem oEqN_str (neg : Bool) (i j : Str) (st : Sto) : oEqN neg (.str i) (.str j) st = .ok (.bl (if neg then !decide (i = j) else decide (i = j))) st := (rfl)
@[simp] theorem oEqN_int_str (neg : Bool) (i : Int) (j : Str) (st : Sto) : oEqN neg (.int i) (.str j) st = .ok (.bl neg) st := (rfl)
@[simp] theorem oEqN_str_int (neg : Bool) (i : Str) (j : Int) (st : Sto) : oEqN neg (.str i) (.int j) st = .ok (.bl neg) st := (rfl)
@[simp] theorem oEqN_loc (neg : Bool) (i : Nat) (y : D) (st : Sto) : oEqN neg (.loc i) y st = deepEq neg (.loc i) y st := by cases y <;> rfl
@[simp] theorem oEqN_tup (neg : Bool) (i : List D) (y : D) (st : Sto) : oEqN neg (.tup i) y st = deepEq neg (.tup i) y st := by cases y <;> rfl
@[simp] theorem oEqN_fl (neg : Bool) (i : List D) (y : D) (st : Sto) : oEqN neg (.fl i) y st = deepEq neg (.fl i) y st := by cases y <;> rfl
@[simp] theorem oEqN_fl2 (neg : Bool) (i : List D) (y : D) (st : Sto) : oEqN neg y (.fl i) st = deepEq neg y (.fl i) st := by cases y <;> rfl
@[simp] theorem oEqN_non (neg : Bool) (y : D) (st : Sto) : oEqN neg .non y st = deepEq neg .non y st := by cases y <;> rfl
@[simp] theorem oEqN_non2 (neg : Bool) (y : D) (st : Sto) : oEqN neg y .non st = deepEq neg y .non st := by cases y <;> rfl
@[simp] theorem oEqN_loc2 (neg : Bool) (i : Nat) (y : D) (st : Sto) : oEqN neg y (.loc i) st = deepEq neg y (.loc i) st := by cases y <;> rfl
@[simp] theorem oEqN_tup2 (neg : Bool) (i : List D) (y : D) (st : Sto) : oEqN neg y (.tup i) st = deepEq neg y (.tup i) st := by cases y <;> rfl
theorem ne_deepEq {neg : Bool} {x y : D} {st : Sto} {c : Nat} {st' : Sto} : deepEq neg x y st ≠ .ex c st' := by
  unfold deepEq
  split
  · split <;> exact fun h => nomatch h
  · exact fun h => nomatch h
theorem ne_oEqN {neg : Bool} : NoEx (oEqN neg) := fun x y st c st' => by
  unfold oEqN
  split <;> first | exact ne_deepEq | exact fun h => nomatch h
theorem deepEq_ok {K : PySem.W.Frag} {neg : Bool} {H : Hp} {R : Tr} {st : Sto} {dx dy : D} {x y : V} {Q : VK} (rel : Rel K H R st) (rx : RV K H R dx x) (ry : RV K H R dy y) (ok : okG W0 [] H R (RV K) K Q (deepEq neg dx dy st)) :
    ∃ d e, Dp K H x d ∧ Dp K H y e ∧ SeqAt.shaped d = true ∧ SeqAt.shaped e = true ∧ Q (.bl (if neg then !PyData.eqv d e else PyData.eqv d e)) H := by
  unfold deepEq at ok
  split at ok
  · rename_i a b e1 e2
    split at ok
    · rename_i hs
      rw [Bool.and_eq_true] at hs
      exact ⟨a, b, toPD_ok rel _ _ _ _ e1 rx, toPD_ok rel _ _ _ _ e2 ry, hs.1, hs.2, ok H R _ Ext.refl rel rfl⟩
    · exact ok.elim
  · exact ok.elim
theorem OpR.or' {f : Value → Value → Sem Value} {r r' : R2} (h : OpR X f r) (h' : OpR X f r') : OpR X f (fun x y H Q => r x y H Q ∨ r' x y H Q) := h.or h'
theorem i_eq (hu : X.A.units + 64 < cLine) : OpI X (compareOp .Eq) oEq := by
  refine ⟨OpR.imp (op_eq.or (op_eqD hu)) fun x y H Q q => ?_⟩
  obtain ⟨R, st, dx, dy, rel, rx, ry, ok⟩ := q
  unfold oEq oEqN at ok
  split at ok
  case h_6 => exact .inr (deepEq_ok (neg := false) rel rx ry ok)
  all_goals
    cases (show x = _ from rx)
    cases (show y = _ from ry)
    refine .inl ⟨rfl, ?_⟩
    first
      | (rw [dec_int, Bool.beq_eq_decide_eq]; exact ok H R _ Ext.refl rel rfl)
      | (rw [dec_bl, Bool.beq_eq_decide_eq]; exact ok H R _ Ext.refl rel rfl)
      | (rw [dec_str, Bool.beq_eq_decide_eq]; exact ok H R _ Ext.refl rel rfl)
      | exact ok H R _ Ext.refl rel rfl
theorem i_ne (hu : X.A.units + 64 < cLine) : OpI X (compareOp .NotEq) oNe := by
  refine ⟨OpR.imp (op_ne.or (op_neD hu)) fun x y H Q q => ?_⟩
  obtain ⟨R, st, dx, dy, rel, rx, ry, ok⟩ := q
  unfold oNe oEqN at ok
  split at ok
  case h_6 => exact .inr (deepEq_ok (neg := true) rel rx ry ok)
  all_goals
    cases (show x = _ from rx)
    cases (show y = _ from ry)
    refine .inl ⟨rfl, ?_⟩
    first
      | (rw [dec_int, Bool.beq_eq_decide_eq]; exact ok H R _ Ext.refl rel rfl)
      | (rw [dec_bl, Bool.beq_eq_decide_eq]; exact ok H R _ Ext.refl rel rfl)
      | (rw [dec_str, Bool.beq_eq_decide_eq]; exact ok H R _ Ext.refl rel rfl)
      | exact ok H R _ Ext.refl rel rfl

/-! ### is None, is True .. -/
def isN : D → Bool
  | .non => true
  | _ => false
theorem isN_ok {K : PySem.W.Frag} {H : Hp} {R : Tr} {d : D} {x : V} (r : RV K H R d x) : decide (x = V.non) = isN d := by
  cases d with
  | non => cases (show x = _ from r); rfl
  | tup ds => obtain ⟨a, vs, rfl, _⟩ := r; rfl
  | rol ds => obtain ⟨a, vs, rfl, _⟩ := r; rfl
  | fl ds => obtain ⟨a, vs, rfl, _⟩ := r; rfl
  | obj x ns ds => obtain ⟨a, C, dx, gs, rfl, _⟩ := r; rfl
  | cnt => obtain ⟨i, rfl⟩ := r; rfl
  | loc n => obtain ⟨a, _, rfl⟩ := r; rfl
  | _ => cases (show x = _ from r); rfl
def oIsN (x y : D) (st : Sto) : Out D := match y with
  | .non => .ok (.bl (isN x)) st
  | _ => .no
def oNotN (x y : D) (st : Sto) : Out D := match y with
  | .non => .ok (.bl (!isN x)) st
  | _ => .no
@[simp] theorem oIsN_non (x : D) (st : Sto) : oIsN x .non st = .ok (.bl (isN x)) st := (rfl)
@[simp] theorem oNotN_non (x : D) (st : Sto) : oNotN x .non st = .ok (.bl (!isN x)) st := (rfl)
theorem ne_oIsN : NoEx oIsN := fun x y st c st' => by unfold oIsN; split <;> exact fun h => nomatch h
theorem ne_oNotN : NoEx oNotN := fun x y st c st' => by unfold oNotN; split <;> exact fun h => nomatch h
theorem i_isN : OpI X (compareOp .Is) oIsN := by
  refine ⟨OpR.imp op_isN fun x y H Q q => ?_⟩
  obtain ⟨R, st, dx, dy, rel, rx, ry, ok⟩ := q
  cases dy with
  | non => exact ⟨ry, by rw [isN_ok rx]; exact ok H R _ Ext.refl rel rfl⟩
  | _ => exact ok.elim
theorem i_notN : OpI X (compareOp .IsNot) oNotN := by
  refine ⟨OpR.imp op_notN fun x y H Q q => ?_⟩
  obtain ⟨R, st, dx, dy, rel, rx, ry, ok⟩ := q
  cases dy with
  | non => exact ⟨ry, by rw [isN_ok rx]; exact ok H R _ Ext.refl rel rfl⟩
  | _ => exact ok.elim

/-! ### sequences: what stands there -/
/-- the items of a list (a cell, or one never written) -/
def asL (st : Sto) : D → Option (List D)
  | .loc n => match st[n]? with
    | some (.lst ds) => some ds
    | _ => none
  | .rol ds => some ds
  | .fl ds => some ds
  | _ => none
/-- .. of a list or a tuple -/
def asQ (st : Sto) : D → Option (List D)
  | .loc n => match st[n]? with
    | some (.lst ds) => some ds
    | _ => none
  | .rol ds => some ds
  | .fl ds => some ds
  | .tup ds => some ds
  | _ => none
theorem asL_ok {K : PySem.W.Frag} {H : Hp} {R : Tr} {st : Sto} {d : D} {x : V} {ds : List D} (rel : Rel K H R st) (r : RV K H R d x) (h : asL st d = some ds) : ∃ a vs, x = .ref a ∧ SqL K H a vs ∧ RVs K H R ds vs := by
  unfold asL at h
  split at h
  · split at h
    · rename_i n ds' e
      cases h
      obtain ⟨a, ha, rfl⟩ := r
      obtain ⟨vs, hv, rr⟩ := rel.lst ha e
      exact ⟨a, vs, rfl, .inl (.inl hv), rr⟩
    · cases h
  · cases h
    obtain ⟨a, vs, rfl, hs, rr⟩ := r
    exact ⟨a, vs, rfl, hs.sq, rr⟩
  · cases h
    obtain ⟨a, vs, rfl, hs, _, rr⟩ := r
    exact ⟨a, vs, rfl, .inl (.inl hs), rr⟩
  · cases h
theorem asQ_ok {K : PySem.W.Frag} {H : Hp} {R : Tr} {st : Sto} {d : D} {x : V} {ds : List D} (rel : Rel K H R st) (r : RV K H R d x) (h : asQ st d = some ds) : ∃ a vs, x = .ref a ∧ (SqL K H a vs ∨ SqT K H a vs) ∧ RVs K H R ds vs := by
  unfold asQ at h
  split at h
  · split at h
    · rename_i n ds' e
      cases h
      obtain ⟨a, ha, rfl⟩ := r
      obtain ⟨vs, hv, rr⟩ := rel.lst ha e
      exact ⟨a, vs, rfl, .inl (.inl (.inl hv)), rr⟩
    · cases h
  · cases h
    obtain ⟨a, vs, rfl, hs, rr⟩ := r
    exact ⟨a, vs, rfl, .inl hs.sq, rr⟩
  · cases h
    obtain ⟨a, vs, rfl, hs, _, rr⟩ := r
    exact ⟨a, vs, rfl, .inl (.inl (.inl hs)), rr⟩
  · cases h
    obtain ⟨a, vs, rfl, hs, rr⟩ := r
    exact ⟨a, vs, rfl, .inr hs, rr⟩
  · cases h
@[simp] theorem asL_rol (st : Sto) (ds : List D) : asL st (.rol ds) = some ds := (rfl)
@[simp] theorem asQ_rol (st : Sto) (ds : List D) : asQ st (.rol ds) = some ds := (rfl)
@[simp] theorem asL_fl (st : Sto) (ds : List D) : asL st (.fl ds) = some ds := (rfl)
@[simp] theorem asQ_fl (st : Sto) (ds : List D) : asQ st (.fl ds) = some ds := (rfl)
@[simp] theorem asQ_tup (st : Sto) (ds : List D) : asQ st (.tup ds) = some ds := (rfl)
theorem asL_loc {st : Sto} {n : Nat} {ds : List D} (h : st[n]? = some (.lst ds)) : asL st (.loc n) = some ds := by simp only [asL, h]
theorem asQ_loc {st : Sto} {n : Nat} {ds : List D} (h : st[n]? = some (.lst ds)) : asQ st (.loc n) = some ds := by simp only [asQ, h]

/-! ### built-in functions of values -/
def NoEx1' (o : List D → Sto → Out D) : Prop := NoEx1 o
/-- len -/
def bLen (xs : List D) (st : Sto) : Out D := match xs with
  | [.str z] => if z.length ≤ 16000000 then .ok (.int z.length) st else .no
  | [d] => match asQ st d with
    | some ds => .ok (.int ds.length) st
    | none => .no
  | _ => .no
theorem ne_bLen : NoEx1 bLen := fun x st c st' => by
  unfold bLen
  split
  · split <;> exact fun h => nomatch h
  · split <;> exact fun h => nomatch h
  · exact fun h => nomatch h
theorem CallR.or {f : Value} {r r' : List V → Hp → VK → Prop} (h : CallR X f r) (h' : CallR X f r') : CallR X f (fun x H Q => r x H Q ∨ r' x H Q) := fun pins s σ H xs us Q I rx q => by
  rcases q with q | q
  · exact h pins s σ H xs us Q I rx q
  · exact h' pins s σ H xs us Q I rx q
theorem c_len : CallI X (.builtin "len") bLen := by
  refine ⟨CallR.imp (CallR.or call_len_str call_len_seq) fun vs H Q q => ?_⟩
  obtain ⟨R, st, ds, rel, r, ok⟩ := q
  unfold bLen at ok
  split at ok
  · split at ok
    · rename_i z hz
      obtain ⟨v, q, rfl, h1, h2⟩ := r
      cases (show v = _ from h1)
      cases (show q = [] from h2)
      exact .inl ⟨z, rfl, big_le hz, ok H R _ Ext.refl rel rfl⟩
    · exact ok.elim
  · split at ok
    · rename_i d _ ds' e
      obtain ⟨v, q, rfl, h1, h2⟩ := r
      cases (show q = [] from h2)
      obtain ⟨a, vs', rfl, hs, rr⟩ := asQ_ok rel h1 e
      exact .inr ⟨a, vs', rfl, hs, by rw [rr.length]; exact ok H R _ Ext.refl rel rfl⟩
    · exact ok.elim
  · exact ok.elim
/-- int(x) of an int or a bool -/
def bInt (xs : List D) (st : Sto) : Out D := match xs with
  | [.int i] => .ok (.int i) st
  | [.bl b] => .ok (.int (if b then 1 else 0)) st
  | _ => .no
theorem ne_bInt : NoEx1 bInt := fun x st c st' => by
  unfold bInt
  split <;> exact fun h => nomatch h
theorem c_int : CallI X (.type "int") bInt := by
  refine ⟨CallR.imp call_int1 fun vs H Q q => ?_⟩
  obtain ⟨R, st, ds, rel, r, ok⟩ := q
  unfold bInt at ok
  split at ok
  · rename_i i
    obtain ⟨v, q, rfl, h1, h2⟩ := r
    cases (show v = _ from h1)
    cases (show q = [] from h2)
    exact .inl ⟨i, rfl, ok H R _ Ext.refl rel rfl⟩
  · rename_i b
    obtain ⟨v, q, rfl, h1, h2⟩ := r
    cases (show v = _ from h1)
    cases (show q = [] from h2)
    exact .inr ⟨b, rfl, ok H R _ Ext.refl rel rfl⟩
  · exact ok.elim
/-- abs -/
def bAbs (xs : List D) (st : Sto) : Out D := match xs with
  | [.int i] => .ok (.int (if i < 0 then -i else i)) st
  | _ => .no
theorem ne_bAbs : NoEx1 bAbs := fun x st c st' => by
  unfold bAbs
  split <;> exact fun h => nomatch h
theorem c_abs : CallI X (.builtin "abs") bAbs := by
  refine ⟨CallR.imp call_abs fun vs H Q q => ?_⟩
  obtain ⟨R, st, ds, rel, r, ok⟩ := q
  unfold bAbs at ok
  split at ok
  · rename_i i
    obtain ⟨v, q, rfl, h1, h2⟩ := r
    cases (show v = _ from h1)
    cases (show q = [] from h2)
    exact ⟨i, rfl, ok H R _ Ext.refl rel rfl⟩
  · exact ok.elim
/-- min, max of two toInts -/
def bMin2 (xs : List D) (st : Sto) : Out D := match xs with
  | [.int i, .int j] => .ok (.int (if j < i then j else i)) st
  | _ => .no
def bMax2 (xs : List D) (st : Sto) : Out D := match xs with
  | [.int i, .int j] => .ok (.int (if j > i then j else i)) st
  | _ => .no
theorem ne_bMin2 : NoEx1 bMin2 := fun x st c st' => by
  unfold bMin2
  split <;> exact fun h => nomatch h
theorem ne_bMax2 : NoEx1 bMax2 := fun x st c st' => by
  unfold bMax2
  split <;> exact fun h => nomatch h
theorem rvs2 {K : PySem.W.Frag} {H : Hp} {R : Tr} {a b : D} {vs : List V} (r : RVs K H R [a, b] vs) : ∃ v u, vs = [v, u] ∧ RV K H R a v ∧ RV K H R b u := by
  obtain ⟨v, q, rfl, h1, u, q2, rfl, h3, h4⟩ := r
  cases (show q2 = [] from h4)
  exact ⟨v, u, rfl, h1, h3⟩
theorem rvs1 {K : PySem.W.Frag} {H : Hp} {R : Tr} {a : D} {vs : List V} (r : RVs K H R [a] vs) : ∃ v, vs = [v] ∧ RV K H R a v := by
  obtain ⟨v, q, rfl, h1, h2⟩ := r
  cases (show q = [] from h2)
  exact ⟨v, rfl, h1⟩
theorem c_min2 (hc : X.calm = true) : CallI X (.builtin "min") bMin2 := by
  refine ⟨CallR.imp (call_min2 hc) fun vs H Q q => ?_⟩
  obtain ⟨R, st, ds, rel, r, ok⟩ := q
  unfold bMin2 at ok
  split at ok
  · rename_i i j
    obtain ⟨v, u, rfl, h1, h2⟩ := rvs2 r
    cases (show v = _ from h1)
    cases (show u = _ from h2)
    exact ⟨i, j, rfl, ok H R _ Ext.refl rel rfl⟩
  · exact ok.elim
theorem c_max2 (hc : X.calm = true) : CallI X (.builtin "max") bMax2 := by
  refine ⟨CallR.imp (call_max2 hc) fun vs H Q q => ?_⟩
  obtain ⟨R, st, ds, rel, r, ok⟩ := q
  unfold bMax2 at ok
  split at ok
  · rename_i i j
    obtain ⟨v, u, rfl, h1, h2⟩ := rvs2 r
    cases (show v = _ from h1)
    cases (show u = _ from h2)
    exact ⟨i, j, rfl, ok H R _ Ext.refl rel rfl⟩
  · exact ok.elim
/-- all toInts -/
def toInts : List D → Option (List Int)
  | [] => some []
  | .int i :: r => (toInts r).map (i :: ·)
  | _ :: _ => none
theorem toInts_ok : ∀ {ds : List D} {ns : List Int}, toInts ds = some ns → ds = ns.map D.int
  | [], _, h => by cases h; rfl
  | .int i :: r, ns, h => by
    unfold toInts at h
    obtain ⟨m, e, rfl⟩ := Option.map_eq_some_iff.mp h
    rw [toInts_ok e]
    rfl
  | .non :: _, _, h | .bl _ :: _, _, h | .str _ :: _, _, h | .ref _ :: _, _, h | .ty _ :: _, _, h | .loc _ :: _, _, h | .tup _ :: _, _, h | .rol _ :: _, _, h | .cnt :: _, _, h | .fl _ :: _, _, h | .obj _ _ _ :: _, _, h => by cases h
@[simp] theorem toInts_map : ∀ (ns : List Int), toInts (ns.map D.int) = some ns
  | [] => rfl
  | i :: r => by
    show (toInts (r.map D.int)).map (i :: ·) = _
    rw [toInts_map r]
    rfl
/-- sum of a list of toInts -/
def bSum (xs : List D) (st : Sto) : Out D := match xs with
  | [d] => match (asL st d).bind toInts with
    | some ns => .ok (.int ns.sum) st
    | none => .no
  | _ => .no
theorem ne_bSum : NoEx1 bSum := fun x st c st' => by
  unfold bSum
  split
  · split <;> exact fun h => nomatch h
  · exact fun h => nomatch h
theorem c_sum (h : CallR X (.builtin "sum") (rSum X.K)) : CallI X (.builtin "sum") bSum := by
  refine ⟨CallR.imp h fun vs H Q q => ?_⟩
  obtain ⟨R, st, ds, rel, r, ok⟩ := q
  unfold bSum at ok
  split at ok
  · split at ok
    · rename_i d _ ns e
      obtain ⟨v, rfl, h1⟩ := rvs1 r
      obtain ⟨es, e1, e2⟩ := Option.bind_eq_some_iff.mp e
      obtain ⟨a, vs', rfl, hs, rr⟩ := asL_ok rel h1 e1
      rw [toInts_ok e2] at rr
      rw [rr.ints] at hs
      exact ⟨a, ns, rfl, hs, ok H R _ Ext.refl rel rfl⟩
    · exact ok.elim
  · exact ok.elim
/-- list(x), tuple(x) -/
def bList (mk : List D → Sto → Out D) (xs : List D) (st : Sto) : Out D := match xs with
  | [d] => match asQ st d with
    | some ds => mk ds st
    | none => .no
  | _ => .no
def bTuple (xs : List D) (st : Sto) : Out D := match xs with
  | [d] => match asQ st d with
    | some ds => .ok (.tup ds) st
    | none => .no
  | _ => .no
theorem ne_bList {mk : List D → Sto → Out D} (m : MkL mk) : NoEx1 (bList mk) := fun x st c st' => by
  unfold bList
  split
  · split
    · exact m.ne
    · exact fun h => nomatch h
  · exact fun h => nomatch h
theorem ne_bTuple : NoEx1 bTuple := fun x st c st' => by
  unfold bTuple
  split
  · split <;> exact fun h => nomatch h
  · exact fun h => nomatch h
theorem c_list {mk : List D → Sto → Out D} (m : MkL mk) : CallI X (.type "list") (bList mk) := by
  refine ⟨CallR.imp call_list_of fun vs H Q q => ?_⟩
  obtain ⟨R, st, ds, rel, r, ok⟩ := q
  unfold bList at ok
  split at ok
  · split at ok
    · rename_i d _ ds' e
      obtain ⟨v, rfl, h1⟩ := rvs1 r
      obtain ⟨a, vs', rfl, hs, rr⟩ := asQ_ok rel h1 e
      exact ⟨a, vs', rfl, hs, (m.ok rel rr ok).2⟩
    · exact ok.elim
  · exact ok.elim
theorem c_tuple : CallI X (.type "tuple") bTuple := by
  refine ⟨CallR.imp call_tuple_of fun vs H Q q => ?_⟩
  obtain ⟨R, st, ds, rel, r, ok⟩ := q
  unfold bTuple at ok
  split at ok
  · split at ok
    · rename_i d _ ds' e
      obtain ⟨v, rfl, h1⟩ := rvs1 r
      obtain ⟨a, vs', rfl, hs, rr⟩ := asQ_ok rel h1 e
      refine ⟨a, vs', rfl, ?_⟩
      rcases hs with hs | hs
      · exact .inl ⟨hs, fun l hl => ok _ R _ (Ext.new hl) (rel.aside hl) ⟨l, vs', rfl, .inl (.inl upd_same), rr.mono (Ext.new hl)⟩⟩
      · exact .inr ⟨hs, ok H R _ Ext.refl rel ⟨a, vs', rfl, hs, rr⟩⟩
    · exact ok.elim
  · exact ok.elim
/-- isinstance(x, T) of a built-in class T -/
def tyName (st : Sto) : D → Option String
  | .non => some "NoneType"
  | .bl _ => some "bool"
  | .int _ => some "int"
  | .str _ => some "str"
  | .tup _ => some "tuple"
  | .rol _ => some "list"
  | .fl _ => some "list"
  | .cnt => some "int"
  | .loc n => match st[n]? with
    | some (.lst _) => some "list"
    | _ => none
  | _ => none
def kitS (a b : String) : Option Bool :=
  if b = "int" then (if a = "int" ∨ a = "bool" then some true else if a = "NoneType" ∨ a = "str" ∨ a = "tuple" ∨ a = "list" then some false else none)
  else if b = "bool" then (if a = "bool" then some true else if a = "int" ∨ a = "NoneType" ∨ a = "str" ∨ a = "tuple" ∨ a = "list" then some false else none)
  else if b = "str" then (if a = "str" then some true else if a = "int" ∨ a = "bool" ∨ a = "NoneType" ∨ a = "tuple" ∨ a = "list" then some false else none)
  else if b = "tuple" then (if a = "tuple" then some true else if a = "int" ∨ a = "bool" ∨ a = "NoneType" ∨ a = "str" ∨ a = "list" then some false else none)
  else if b = "list" then (if a = "list" then some true else if a = "int" ∨ a = "bool" ∨ a = "NoneType" ∨ a = "str" ∨ a = "tuple" then some false else none)
  else none
def bIsi (xs : List D) (st : Sto) : Out D := match xs with
  | [d, .ty b] => match (tyName st d).bind fun a => kitS a b with
    | some k => .ok (.bl k) st
    | none => .no
  | _ => .no
theorem ne_bIsi : NoEx1 bIsi := fun x st c st' => by
  unfold bIsi
  split
  · split <;> exact fun h => nomatch h
  · exact fun h => nomatch h
end
end Vi
set_option maxRecDepth 100000
set_option maxHeartbeats 2000000
/-! Vi2b: isinstance, indices, slices, lists. -/
namespace Vi
open PySem PySem.Spec PyProof.Rows L2
section
variable {X : Cx} {W : WX} {pos : Pos}

theorem kitS_ok {a b : String} {k : Bool} (h : kitS a b = some k) : kitB a b = some k := by
  unfold kitS at h
  split at h
  · rename_i e
    subst e
    split at h
    · rename_i e
      cases h
      rcases e with rfl | rfl <;> decide +kernel
    · split at h
      · rename_i e
        cases h
        rcases e with rfl | rfl | rfl | rfl <;> decide +kernel
      · cases h
  · split at h
    · rename_i e
      subst e
      split at h
      · rename_i e
        cases h
        subst e
        decide +kernel
      · split at h
        · rename_i e
          cases h
          rcases e with rfl | rfl | rfl | rfl | rfl <;> decide +kernel
        · cases h
    · split at h
      · rename_i e
        subst e
        split at h
        · rename_i e
          cases h
          subst e
          decide +kernel
        · split at h
          · rename_i e
            cases h
            rcases e with rfl | rfl | rfl | rfl | rfl <;> decide +kernel
          · cases h
      · split at h
        · rename_i e
          subst e
          split at h
          · rename_i e
            cases h
            subst e
            decide +kernel
          · split at h
            · rename_i e
              cases h
              rcases e with rfl | rfl | rfl | rfl | rfl <;> decide +kernel
            · cases h
        · split at h
          · rename_i e
            subst e
            split at h
            · rename_i e
              cases h
              subst e
              decide +kernel
            · split at h
              · rename_i e
                cases h
                rcases e with rfl | rfl | rfl | rfl | rfl <;> decide +kernel
              · cases h
          · cases h
theorem tyName_ok {K : PySem.W.Frag} {H : Hp} {R : Tr} {st : Sto} {d : D} {x : V} {a : String} (rel : Rel K H R st) (r : RV K H R d x) (h : tyName st d = some a) : TyX K H x (.type a) := by
  cases d with
  | non => cases h; cases (show x = _ from r); exact .base .non
  | bl b => cases h; cases (show x = _ from r); exact .base (.bl b)
  | int i => cases h; cases (show x = _ from r); exact .base (.int i)
  | str z => cases h; cases (show x = _ from r); exact .base (.str z)
  | tup ds =>
    cases h
    obtain ⟨p, vs, rfl, hs, rr⟩ := r
    rcases hs with (hs | ⟨o, hs⟩) | ⟨o, its, n, hk, hc, _⟩
    · exact .base (.tup hs)
    · exact .fTuple hs
    · exact .kTuple hk hc
  | rol ds =>
    cases h
    obtain ⟨p, vs, rfl, hs, rr⟩ := r
    rcases hs with ⟨o, hs⟩ | ⟨o, its, n, hk, hc, _⟩
    · exact .base (.frz hs)
    · exact .kList hk hc
  | fl ds =>
    cases h
    obtain ⟨p, vs, rfl, hs, _, rr⟩ := r
    exact .base (.lst hs)
  | cnt =>
    cases h
    obtain ⟨i, rfl⟩ := r
    exact .base (.int i)
  | obj x ns ds => cases h
  | loc n =>
    obtain ⟨p, hp, rfl⟩ := r
    unfold tyName at h
    dsimp only at h
    split at h
    · rename_i ds e
      cases h
      obtain ⟨vs, hv, _⟩ := rel.lst hp e
      exact .base (.lst hv)
    · cases h
  | ref a => cases h
  | ty n => cases h
theorem c_isi : CallI X (.builtin "isinstance") bIsi := by
  refine ⟨CallR.imp call_isi fun vs H Q q => ?_⟩
  obtain ⟨R, st, ds, rel, r, ok⟩ := q
  unfold bIsi at ok
  split at ok
  · split at ok
    · rename_i d b _ k e
      obtain ⟨v, u, rfl, h1, h2⟩ := rvs2 r
      cases (show u = _ from h2)
      obtain ⟨a, e1, e2⟩ := Option.bind_eq_some_iff.mp e
      exact ⟨v, .ty b, .type a, .type b, k, rfl, .ty b, tyName_ok rel h1 e1, kit_ty (kitS_ok e2), ok H R _ Ext.refl rel rfl⟩
    · exact ok.elim
  · exact ok.elim

/-! ### xs[i] -/
def oIx (x y : D) (st : Sto) : Out D := match y with
  | .int i => match x with
    | .str z => if z.length ≤ 16000000 then (match atI z.cps.toList i with
      | some c => .ok (.str ⟨#[c]⟩) st
      | none => .no) else .no
    | x => match asQ st x with
      | some ds => match atI ds i with
        | some d => .ok d st
        | none => .no
      | none => .no
  | _ => .no
theorem ne_oIx : NoEx oIx := fun x y st c st' => by
  unfold oIx
  split
  · split
    · split
      · split <;> exact fun h => nomatch h
      · exact fun h => nomatch h
    · split
      · split <;> exact fun h => nomatch h
      · exact fun h => nomatch h
  · exact fun h => nomatch h
theorem atI_ok {K : PySem.W.Frag} {H : Hp} {R : Tr} {ds : List D} {vs : List V} {i : Int} {d : D} (r : RVs K H R ds vs) (h : atI ds i = some d) : ∃ v, atI vs i = some v ∧ RV K H R d v := by
  unfold atI at h ⊢
  rw [r.length]
  obtain ⟨j, e1, e2⟩ := Option.bind_eq_some_iff.mp h
  obtain ⟨v, e3, rv⟩ := r.get e2
  exact ⟨v, by rw [e1]; exact e3, rv⟩
theorem e_ix {a b : Expr} {f g : ME} (ha : IE X W a f) (hb : IE X W b g) (hs : PlainIx b := by exact fun _ _ => rfl) : IE X W (.Subscript a b pos) (eBin oIx f g) := by
  refine ⟨PE.imp (pe_ix ix_seq ha.pe hb.pe hs) fun σ H Q h => ?_⟩
  obtain ⟨R, st, fr, rel, rf, ok⟩ := h
  refine ⟨R, st, fr, rel, rf, okG.imp (okG.bind ok) fun x H1 R1 d st1 e1 rel1 r1 _ q => ?_⟩
  obtain ⟨R2, st2, d2, e2, rel2, r2, ok2⟩ := q
  refine ⟨R2, st2, fr, rel2, rf.mono e2, okG.imp (okG.bind ok2) fun y H3 R3 d3 st3 e3 rel3 r3 _ q3 => ?_⟩
  obtain ⟨R4, st4, d4, e4, rel4, r4, ok4⟩ := q3
  have r2' := r2.mono e4
  unfold oIx at ok4
  split at ok4
  · rename_i i
    cases (show y = _ from r4)
    split at ok4
    · rename_i z
      cases (show x = _ from r2')
      split at ok4
      · rename_i hz
        split at ok4
        · rename_i c e
          exact .inr (.inr ⟨z, i, c, rfl, rfl, big_le hz, e, ok4 H3 R4 _ Ext.refl rel4 rfl⟩)
        · exact ok4.elim
      · exact ok4.elim
    · split at ok4
      · rename_i ds e
        split at ok4
        · rename_i d' e'
          obtain ⟨p, vs, rfl, hs, rr⟩ := asQ_ok rel4 r2' e
          obtain ⟨v, hv, rv⟩ := atI_ok rr e'
          have q := ok4 H3 R4 v Ext.refl rel4 rv
          rcases hs with hs | hs
          · exact .inl ⟨p, vs, i, v, rfl, rfl, hs, hv, q⟩
          · exact .inr (.inl ⟨p, vs, i, v, rfl, rfl, hs, hv, q⟩)
        · exact ok4.elim
      · exact ok4.elim
  · exact ok4.elim

/-! ### xs[a:b] -/
/-- a part of a slice -/
abbrev MO := Fr → Sto → Out (Option Int)
def pNone (fr : Fr) (st : Sto) : Out (Option Int) := .ok none st
def pSome (f : ME) (fr : Fr) (st : Sto) : Out (Option Int) := (f fr st).bind fun d st1 => match d with
  | .int i => .ok (some i) st1
  | _ => .no
abbrev rvO : Hp → Tr → Option Int → Option Int → Prop := fun _ _ a b => b = a
structure IP (X : Cx) (W : WX) (e : Option Expr) (f : MO) : Prop where
  po : PO X e (tG X.K W rvO f)
theorem PO.imp {e : Option Expr} {t t' : TO} (h : PO X e t) (k : ∀ σ H Q, t' σ H Q → t σ H Q) : PO X e t' := ⟨fun pins s σ H Q I q => h.run pins s σ H Q I (k _ _ _ q)⟩
theorem p_none : IP X W none pNone := ⟨PO.imp po_none fun σ H Q ⟨R, st, fr, rel, rf, ok⟩ => ok H R none Ext.refl rel rfl⟩
theorem p_some {e : Expr} {f : ME} (h : IE X W e f) : IP X W (some e) (pSome f) := by
  refine ⟨PO.imp (po_some h.pe) fun σ H Q h => ?_⟩
  obtain ⟨R, st, fr, rel, rf, ok⟩ := h
  refine ⟨R, st, fr, rel, rf, okG.imp (okG.bind ok) fun x H1 R1 d st1 e1 rel1 r1 _ q => ?_⟩
  obtain ⟨R2, st2, d2, e2, rel2, r2, ok2⟩ := q
  cases d2 with
  | int i => exact ⟨i, r2, ok2 H1 R2 _ Ext.refl rel2 rfl⟩
  | _ => exact ok2.elim
/-- from lo to hi of a list -/
def cutL {α : Type} (xs : List α) (lo hi : Option Int) : List α := (xs.drop (HT.sIx xs.length 0 lo)).take (HT.sIx xs.length xs.length hi - HT.sIx xs.length 0 lo)
/-- what is cut: a list is a new one, a tuple is a tuple -/
def slD (mk : List D → Sto → Out D) (x : D) (lo hi : Option Int) (st : Sto) : Out D := match x with
  | .tup ds => .ok (.tup (cutL ds lo hi)) st
  | x => match asL st x with
    | some ds => mk (cutL ds lo hi) st
    | none => .no
def eSl (mk : List D → Sto → Out D) (f : ME) (l h : MO) (fr : Fr) (st : Sto) : Out D := (f fr st).bind fun x st1 => (l fr st1).bind fun lo st2 => (h fr st2).bind fun hi st3 => slD mk x lo hi st3
theorem RVs.cut {K : PySem.W.Frag} {H : Hp} {R : Tr} {ds : List D} {vs : List V} (r : RVs K H R ds vs) (lo hi : Option Int) : RVs K H R (cutL ds lo hi) (cutV vs lo hi) := by
  unfold cutL cutV
  rw [r.length]
  exact (r.drop _).take _
theorem slD_ne {mk : List D → Sto → Out D} (m : MkL mk) {x : D} {lo hi : Option Int} {st : Sto} {c : Nat} {st' : Sto} : slD mk x lo hi st ≠ .ex c st' := by
  unfold slD
  split
  · exact fun h => nomatch h
  · split
    · exact m.ne
    · exact fun h => nomatch h
theorem e_sl {mk : List D → Sto → Out D} (m : MkL mk) {e : Expr} {lo hi : Option Expr} {p2 : Pos} {f : ME} {l h : MO} (he : IE X W e f) (hl : IP X W lo l) (hh : IP X W hi h) : IE X W (.Subscript e (.Slice lo hi none p2) pos) (eSl mk f l h) := by
  refine ⟨PE.imp (pe_slice (sl_list.or sl_tupA) he.pe hl.po hh.po) fun σ H Q h => ?_⟩
  obtain ⟨R, st, fr, rel, rf, ok⟩ := h
  refine ⟨R, st, fr, rel, rf, okG.imp (okG.bind ok) fun x H1 R1 d st1 e1 rel1 r1 _ q => ?_⟩
  obtain ⟨R2, st2, d2, e2, rel2, r2, ok2⟩ := q
  have rf2 := rf.mono e2
  refine ⟨R2, st2, fr, rel2, rf2, okG.imp (okG.bind ok2) fun lo' H3 R3 d3 st3 e3 rel3 r3 _ q3 => ?_⟩
  obtain ⟨R4, st4, d4, e4, rel4, r4, ok4⟩ := q3
  obtain rfl : lo' = d4 := r4
  refine ⟨R4, st4, fr, rel4, rf2.mono e4, okG.imp (okG.bind ok4) fun hi' H5 R5 d5 st5 e5 rel5 r5 _ q5 => ?_⟩
  obtain ⟨R6, st6, d6, e6, rel6, r6, ok6⟩ := q5
  obtain rfl : hi' = d6 := r6
  have rx := (r2.mono e4).mono e6
  unfold slD at ok6
  split at ok6
  · rename_i ds
    obtain ⟨a, vs, rfl, hs, rr⟩ := rx
    refine .inr ⟨a, vs, rfl, hs, ?_⟩
    have whole : HT.sIx vs.length 0 lo' = 0 ∧ HT.sIx vs.length vs.length hi' = vs.length → Q (V.ref a) H5 := fun w => by
      refine ok6 H5 R6 _ Ext.refl rel6 ⟨a, vs, rfl, hs, ?_⟩
      have e : cutL ds lo' hi' = ds := by
        unfold cutL
        rw [← rr.length, w.1, w.2, List.drop_zero, Nat.sub_zero, List.take_of_length_le (by rw [rr.length]; exact Nat.le_refl _)]
      rw [e]
      exact rr
    have part : ∀ p, H5 p = none → Q (V.ref p) (upd H5 p (.tup (cutV vs lo' hi'))) := fun p hp =>
      ok6 _ R6 _ (Ext.new hp) (rel6.aside hp) ⟨p, _, rfl, .inl (.inl upd_same), (rr.cut lo' hi').mono (Ext.new hp)⟩
    first
      | exact ⟨whole, fun _ => part⟩
      | exact ⟨part, whole⟩
      | exact ⟨whole, part⟩
  · split at ok6
    · rename_i ds e
      obtain ⟨a, vs, rfl, hs, rr⟩ := asL_ok rel6 rx e
      exact .inl ⟨a, vs, rfl, hs, (m.ok rel6 (rr.cut lo' hi') ok6).2⟩
    · exact ok6.elim
/-- xs[::-1] of a list -/
def eRev (mk : List D → Sto → Out D) (f : ME) (fr : Fr) (st : Sto) : Out D := (f fr st).bind fun d st1 => match asL st1 d with
  | some ds => mk ds.reverse st1
  | none => .no
theorem e_revL {mk : List D → Sto → Out D} (m : MkL mk) {e : Expr} {k : Nat} {p1 p2 p3 : Pos} {f : ME} (he : IE X W e f) : IE X W (.Subscript e (.Slice none none (some (.UnaryOp .USub (.Constant (.int 1) k p1) p2)) p3) pos) (eRev mk f) := by
  refine ⟨PE.imp (pe_revL he.pe) fun σ H Q h => ?_⟩
  obtain ⟨R, st, fr, rel, rf, ok⟩ := h
  refine ⟨R, st, fr, rel, rf, okG.imp (okG.bind ok) fun x H1 R1 d st1 e1 rel1 r1 _ q => ?_⟩
  obtain ⟨R2, st2, d2, e2, rel2, r2, ok2⟩ := q
  split at ok2
  · rename_i ds e
    obtain ⟨a, vs, rfl, hs, rr⟩ := asL_ok rel2 r2 e
    exact ⟨a, vs, rfl, hs, (m.ok rel2 rr.reverse ok2).2⟩
  · exact ok2.elim

/-! ### + and * of lists and tuples (and of ints) -/
/-- the items of a list of the program's own making -/
def cellL (st : Sto) : D → Option (List D)
  | .loc n => match st[n]? with
    | some (.lst ds) => some ds
    | _ => none
  | .fl ds => some ds
  | _ => none
theorem cellL_ok {K : PySem.W.Frag} {H : Hp} {R : Tr} {st : Sto} {d : D} {x : V} {ds : List D} (rel : Rel K H R st) (r : RV K H R d x) (h : cellL st d = some ds) : ∃ a vs, x = .ref a ∧ H a = some (.lst vs) ∧ RVs K H R ds vs := by
  cases d with
  | loc n =>
    simp only [cellL] at h
    split at h
    · rename_i ds' e
      cases h
      obtain ⟨a, ha, rfl⟩ := r
      obtain ⟨vs, hv, rr⟩ := rel.lst ha e
      exact ⟨a, vs, rfl, hv, rr⟩
    · cases h
  | fl es =>
    cases h
    obtain ⟨a, vs, rfl, hv, _, rr⟩ := r
    exact ⟨a, vs, rfl, hv, rr⟩
  | _ => cases h
theorem cellL_loc {st : Sto} {n : Nat} {ds : List D} (h : st[n]? = some (.lst ds)) : cellL st (.loc n) = some ds := by simp only [cellL, h]
@[simp] theorem cellL_fl {st : Sto} {ds : List D} : cellL st (.fl ds) = some ds := (rfl)
def oAddG (mk : List D → Sto → Out D) (x y : D) (st : Sto) : Out D := match x, y with
  | .int i, .int j => .ok (.int (i + j)) st
  | .str i, .str j => if i.length + j.length ≤ 16000000 then .ok (.str (i ++ j)) st else .no
  | .tup ds, .tup es => if ds.length + es.length ≤ 16000000 then .ok (.tup (ds ++ es)) st else .no
  | x, y => match cellL st x, cellL st y with
    | some ds, some es => mk (ds ++ es) st
    | _, _ => .no
section
variable {mk : List D → Sto → Out D}
@[simp] theorem oAddG_int (i j : Int) (st : Sto) : oAddG mk (.int i) (.int j) st = .ok (.int (i + j)) st := (rfl)
@[simp] theorem oAddG_tup (ds es : List D) (st : Sto) : oAddG mk (.tup ds) (.tup es) st = if ds.length + es.length ≤ 16000000 then .ok (.tup (ds ++ es)) st else .no := (rfl)
@[simp] theorem oAddG_str (ds es : Str) (st : Sto) : oAddG mk (.str ds) (.str es) st = if ds.length + es.length ≤ 16000000 then .ok (.str (ds ++ es)) st else .no := (rfl)
@[simp] theorem oAddG_fl (ds es : List D) (st : Sto) : oAddG mk (.fl ds) (.fl es) st = mk (ds ++ es) st := (rfl)
theorem oAddG_loc {m n : Nat} {ds es : List D} {st : Sto} (h1 : st[m]? = some (.lst ds)) (h2 : st[n]? = some (.lst es)) : oAddG mk (.loc m) (.loc n) st = mk (ds ++ es) st := by
  simp only [oAddG, cellL, h1, h2]
theorem oAddG_locf {m : Nat} {ds es : List D} {st : Sto} (h1 : st[m]? = some (.lst ds)) : oAddG mk (.loc m) (.fl es) st = mk (ds ++ es) st := by
  simp only [oAddG, cellL, h1]
theorem ne_oAddG (m : MkL mk) : NoEx (oAddG mk) := fun x y st c st' => by
  unfold oAddG
  split
  · exact fun h => nomatch h
  · split <;> exact fun h => nomatch h
  · split <;> exact fun h => nomatch h
  · split
    · exact m.ne
    · exact fun h => nomatch h
end
theorem i_addG {mk : List D → Sto → Out D} (m : MkL mk) : OpI X (binaryOp .Add) (oAddG mk) := by
  refine ⟨OpR.imp (op_add.or (op_add_str.or (op_catA.or op_cat))) fun x y H Q q => ?_⟩
  obtain ⟨R, st, dx, dy, rel, rx, ry, ok⟩ := q
  unfold oAddG at ok
  split at ok
  · rename_i i j
    exact .inl ⟨i, j, rx, ry, ok H R _ Ext.refl rel rfl⟩
  · split at ok
    · rename_i i j hz
      exact .inr (.inl ⟨i, j, rx, ry, big_le hz, ok H R _ Ext.refl rel rfl⟩)
    · exact ok.elim
  · split at ok
    · rename_i ds es hz
      obtain ⟨a, vs, rfl, hs, rr⟩ := rx
      obtain ⟨b, us, rfl, hs2, rr2⟩ := ry
      refine .inr (.inr (.inl ⟨a, b, vs, us, rfl, rfl, hs, hs2, by rw [rr.length, rr2.length]; exact big_le hz, ?_⟩))
      have new : ∀ p, H p = none → Q (.ref p) (upd H p (.tup (vs ++ us))) := fun p hp => ok _ R _ (Ext.new hp) (rel.aside hp) ⟨p, _, rfl, .inl (.inl upd_same), (rr.append rr2).mono (Ext.new hp)⟩
      have c1 : vs = [] → Q (.ref b) H := fun e => ok H R _ Ext.refl rel ⟨b, us, rfl, hs2, by
        subst e
        have z : ds = [] := List.length_eq_zero_iff.mp rr.length.symm
        rw [z]
        exact rr2⟩
      have c2 : us = [] → Q (.ref a) H := fun e => ok H R _ Ext.refl rel ⟨a, vs, rfl, hs, by
        subst e
        have z : es = [] := List.length_eq_zero_iff.mp rr2.length.symm
        rw [z, List.append_nil]
        exact rr⟩
      first
        | exact ⟨c1, c2, new⟩
        | exact ⟨c1, new⟩
        | exact ⟨c1, fun _ => new⟩
        | exact ⟨c1, c2, fun _ _ => new⟩
        | exact ⟨c1, fun _ => c2, fun _ _ => new⟩
        | exact ⟨new, c1⟩
    · exact ok.elim
  · split at ok
    · rename_i ds es e1 e2
      obtain ⟨a, vs, rfl, h1, rr⟩ := cellL_ok rel rx e1
      obtain ⟨b, us, rfl, h2, rr2⟩ := cellL_ok rel ry e2
      obtain ⟨hl, q⟩ := m.ok rel (rr.append rr2) ok
      exact .inr (.inr (.inr ⟨a, b, vs, us, rfl, rfl, h1, h2, by rw [List.length_append] at hl; exact hl, q⟩))
    · exact ok.elim
def rep {α : Type} (n : Nat) (ds : List α) : List α := (List.replicate n ds).flatten
theorem RVs.rep {K : PySem.W.Frag} {H : Hp} {R : Tr} {ds : List D} {vs : List V} (r : RVs K H R ds vs) : ∀ n, RVs K H R (rep n ds) (List.replicate n vs).flatten
  | 0 => rfl
  | n + 1 => by
    show RVs K H R (List.replicate (n + 1) ds).flatten _
    rw [List.replicate_succ, List.replicate_succ, List.flatten_cons, List.flatten_cons]
    exact r.append (RVs.rep r n)
theorem rep_one {α : Type} (n : Nat) (d : α) : rep n [d] = List.replicate n d := by
  unfold rep
  induction n with
  | zero => rfl
  | succ n ih => rw [List.replicate_succ, List.flatten_cons, ih]; rfl
def cRep (k : Int) (n : Nat) : Bool := decide (-9223372036854775808 ≤ k) && decide (k < 9223372036854775808) && decide (n * k.toNat ≤ 16000000)
def oMulG (mk : List D → Sto → Out D) (x y : D) (st : Sto) : Out D := match x, y with
  | .int i, .int j => if cMul i j = true then .ok (.int (i * j)) st else .no
  | x, .int k => match cellL st x with
    | some ds => if cRep k ds.length = true then mk (rep k.toNat ds) st else .no
    | none => .no
  | _, _ => .no
section
variable {mk : List D → Sto → Out D}
@[simp] theorem oMulG_int (i j : Int) (st : Sto) : oMulG mk (.int i) (.int j) st = if cMul i j = true then .ok (.int (i * j)) st else .no := (rfl)
@[simp] theorem oMulG_fl (k : Int) (ds : List D) (st : Sto) : oMulG mk (.fl ds) (.int k) st = if cRep k ds.length = true then mk (rep k.toNat ds) st else .no := (rfl)
theorem oMulG_loc {n : Nat} {k : Int} {ds : List D} {st : Sto} (h : st[n]? = some (.lst ds)) : oMulG mk (.loc n) (.int k) st = if cRep k ds.length = true then mk (rep k.toNat ds) st else .no := by
  simp only [oMulG, cellL, h]
theorem ne_oMulG (m : MkL mk) : NoEx (oMulG mk) := fun x y st c st' => by
  unfold oMulG
  split
  · split <;> exact fun h => nomatch h
  · split
    · split
      · exact m.ne
      · exact fun h => nomatch h
    · exact fun h => nomatch h
  · exact fun h => nomatch h
theorem i_mulG (m : MkL mk) : OpI X (binaryOp .Mult) (oMulG mk) := by
  refine ⟨OpR.imp (op_mulA.or op_rep) fun x y H Q q => ?_⟩
  obtain ⟨R, st, dx, dy, rel, rx, ry, ok⟩ := q
  unfold oMulG at ok
  split at ok
  · split at ok
    · rename_i i j hc
      exact .inl ⟨i, j, rx, ry, cMul_ok i j hc, ok H R _ Ext.refl rel rfl⟩
    · exact ok.elim
  · split at ok
    · split at ok
      · rename_i k h0 _ ds e hc
        obtain ⟨a, vs, rfl, h1, rr⟩ := cellL_ok rel rx e
        unfold cRep at hc
        rw [Bool.and_eq_true, Bool.and_eq_true, decide_eq_true_eq, decide_eq_true_eq, decide_eq_true_eq] at hc
        exact .inr ⟨a, k, vs, rfl, ry, h1, by omega, by omega, by rw [rr.length]; exact big_le hc.2, (m.ok rel (rr.rep _) ok).2⟩
      · exact ok.elim
    · exact ok.elim
  · exact ok.elim
end
end
end Vi
set_option maxRecDepth 100000
set_option maxHeartbeats 2000000
/-! Vi2c: max, min, sorted of lists of ints; methods of lists. -/
namespace Vi
open PySem PySem.Spec PyProof.Rows L2
section
variable {X : Cx} {W : WX} {pos : Pos}
def maxL : List Int → Int
  | [] => 0
  | [x] => x
  | x :: r => max x (maxL r)
def minL : List Int → Int
  | [] => 0
  | [x] => x
  | x :: r => min x (minL r)
theorem maxL_spec : ∀ {ns : List Int}, 0 < ns.length → maxL ns ∈ ns ∧ ∀ y ∈ ns, y ≤ maxL ns
  | [], h => by simp at h
  | [x], _ => by simp [maxL]
  | x :: y :: r, _ => by
    obtain ⟨h1, h2⟩ := maxL_spec (ns := y :: r) (by simp)
    show max x (maxL (y :: r)) ∈ _ ∧ ∀ z ∈ x :: y :: r, z ≤ max x (maxL (y :: r))
    refine ⟨?_, fun z hz => ?_⟩
    · by_cases h : x ≤ maxL (y :: r)
      · rw [Int.max_eq_right h]
        exact List.mem_cons_of_mem _ h1
      · rw [Int.max_eq_left (by omega)]
        exact List.mem_cons_self
    · rcases List.mem_cons.mp hz with rfl | hz
      · omega
      · have := h2 z hz
        omega
theorem minL_spec : ∀ {ns : List Int}, 0 < ns.length → minL ns ∈ ns ∧ ∀ y ∈ ns, minL ns ≤ y
  | [], h => by simp at h
  | [x], _ => by simp [minL]
  | x :: y :: r, _ => by
    obtain ⟨h1, h2⟩ := minL_spec (ns := y :: r) (by simp)
    show min x (minL (y :: r)) ∈ _ ∧ ∀ z ∈ x :: y :: r, min x (minL (y :: r)) ≤ z
    refine ⟨?_, fun z hz => ?_⟩
    · by_cases h : minL (y :: r) ≤ x
      · rw [Int.min_eq_right h]
        exact List.mem_cons_of_mem _ h1
      · rw [Int.min_eq_left (by omega)]
        exact List.mem_cons_self
    · rcases List.mem_cons.mp hz with rfl | hz
      · omega
      · have := h2 z hz
        omega
def bMax (xs : List D) (st : Sto) : Out D := match xs with
  | [.int i, .int j] => .ok (.int (if j > i then j else i)) st
  | [d] => match (asL st d).bind toInts with
    | some ns => if ns.isEmpty then .no else .ok (.int (maxL ns)) st
    | none => .no
  | _ => .no
def bMin (xs : List D) (st : Sto) : Out D := match xs with
  | [.int i, .int j] => .ok (.int (if j < i then j else i)) st
  | [d] => match (asL st d).bind toInts with
    | some ns => if ns.isEmpty then .no else .ok (.int (minL ns)) st
    | none => .no
  | _ => .no
theorem ne_bMax : NoEx1 bMax := fun x st c st' => by
  unfold bMax
  split
  · exact fun h => nomatch h
  · split
    · split <;> exact fun h => nomatch h
    · exact fun h => nomatch h
  · exact fun h => nomatch h
theorem ne_bMin : NoEx1 bMin := fun x st c st' => by
  unfold bMin
  split
  · exact fun h => nomatch h
  · split
    · split <;> exact fun h => nomatch h
    · exact fun h => nomatch h
  · exact fun h => nomatch h
theorem asInts_ok {K : PySem.W.Frag} {H : Hp} {R : Tr} {st : Sto} {d : D} {x : V} {ns : List Int} (rel : Rel K H R st) (r : RV K H R d x) (h : (asL st d).bind toInts = some ns) : ∃ a, x = .ref a ∧ SqL K H a (ns.map V.int) := by
  obtain ⟨es, e1, e2⟩ := Option.bind_eq_some_iff.mp h
  obtain ⟨a, vs', rfl, hs, rr⟩ := asL_ok rel r e1
  rw [toInts_ok e2] at rr
  rw [rr.ints] at hs
  exact ⟨a, rfl, hs⟩
theorem pos_of {ns : List Int} (h : ¬ ns.isEmpty = true) : 0 < ns.length := by
  cases ns with
  | nil => exact absurd rfl h
  | cons x r => simp
theorem c_max (hc : X.calm = true) : CallI X (.builtin "max") bMax := by
  refine ⟨CallR.imp (CallR.or (call_max2 hc) (cr_max hc)) fun vs H Q q => ?_⟩
  obtain ⟨R, st, ds, rel, r, ok⟩ := q
  unfold bMax at ok
  split at ok
  · rename_i i j
    obtain ⟨v, u, rfl, h1, h2⟩ := rvs2 r
    cases (show v = _ from h1)
    cases (show u = _ from h2)
    exact .inl ⟨i, j, rfl, ok H R _ Ext.refl rel rfl⟩
  · split at ok
    · split at ok
      · exact ok.elim
      · rename_i ns e hne
        obtain ⟨v, rfl, h1⟩ := rvs1 r
        obtain ⟨a, rfl, hs⟩ := asInts_ok rel h1 e
        obtain ⟨m1, m2⟩ := maxL_spec (pos_of hne)
        refine .inr ⟨a, ns, rfl, hs, pos_of hne, fun m hm hy => ?_⟩
        have e1 : m = maxL ns := by have := m2 m hm; have := hy _ m1; omega
        rw [e1]
        exact ok H R _ Ext.refl rel rfl
    · exact ok.elim
  · exact ok.elim
theorem c_min (hc : X.calm = true) : CallI X (.builtin "min") bMin := by
  refine ⟨CallR.imp (CallR.or (call_min2 hc) (cr_min hc)) fun vs H Q q => ?_⟩
  obtain ⟨R, st, ds, rel, r, ok⟩ := q
  unfold bMin at ok
  split at ok
  · rename_i i j
    obtain ⟨v, u, rfl, h1, h2⟩ := rvs2 r
    cases (show v = _ from h1)
    cases (show u = _ from h2)
    exact .inl ⟨i, j, rfl, ok H R _ Ext.refl rel rfl⟩
  · split at ok
    · split at ok
      · exact ok.elim
      · rename_i ns e hne
        obtain ⟨v, rfl, h1⟩ := rvs1 r
        obtain ⟨a, rfl, hs⟩ := asInts_ok rel h1 e
        obtain ⟨m1, m2⟩ := minL_spec (pos_of hne)
        refine .inr ⟨a, ns, rfl, hs, pos_of hne, fun m hm hy => ?_⟩
        have e1 : m = minL ns := by have := m2 m hm; have := hy _ m1; omega
        rw [e1]
        exact ok H R _ Ext.refl rel rfl
    · exact ok.elim
  · exact ok.elim
theorem c_sum' (hc : X.calm = true) : CallI X (.builtin "sum") bSum := c_sum (cr_sum hc)

/-! ### methods of lists -/
def eMt (m : D → List D → Sto → Out D) (f : ME) (g : MA) (fr : Fr) (st : Sto) : Out D := (f fr st).bind fun x st1 => match asL st1 x with
  | some _ => (g fr st1).bind fun xs st2 => m x xs st2
  | none => .no
def eMt0 (m : D → List D → Sto → Out D) (f : ME) (fr : Fr) (st : Sto) : Out D := (f fr st).bind fun x st1 => match asL st1 x with
  | some _ => m x [] st1
  | none => .no
def NoExM (m : D → List D → Sto → Out D) : Prop := ∀ x xs st c st', m x xs st ≠ .ex c st'
structure MtI (X : Cx) (id : String) (m : D → List D → Sto → Out D) : Prop where
  mt : MtR X id (fun x xs H Q => ∃ R st d ds, Rel X.K H R st ∧ RV X.K H R d x ∧ RVs X.K H R ds xs ∧ okG W0 [] H R (RV X.K) X.K Q (m d ds st))
theorem MtR.imp {id : String} {r r' : V → List V → Hp → VK → Prop} (h : MtR X id r) (k : ∀ x xs H Q, r' x xs H Q → r x xs H Q) : MtR X id r' := fun pins s σ H x xs v us Q I rx rxs q => h pins s σ H x xs v us Q I rx rxs (k _ _ _ _ q)
theorem tyL_ok {K : PySem.W.Frag} {H : Hp} {R : Tr} {st : Sto} {d : D} {x : V} {ds : List D} (rel : Rel K H R st) (r : RV K H R d x) (h : asL st d = some ds) : tyV K "list" x H := by
  obtain ⟨a, vs, rfl, hs, _⟩ := asL_ok rel r h
  exact .inl ⟨rfl, vs, hs⟩
section
variable {o e : Expr} {es : List Expr} {name : Str} {apos cpos : Pos} {id : String} {m : D → List D → Sto → Out D} {f : ME} {g : MA}
theorem e_mt0 (slot : Slot "list" name id) (hty : typeOf (.builtin id) = pure (.type "method_descriptor")) (hm : MtI X id m) (ne : NoExM m) (ho : IE X W o f)
    (hbase : attributeBase o name X.env (eval o X.env) = eval o X.env := by rfl) (hline : (apos.endLine == cpos.line) = true := by rfl) : IE X W (.Call (.Attribute o name apos) [] [] cpos) (eMt0 m f) := by
  refine ⟨PE.imp (pe_bm0 PySem.F.plainAttrs_list slot hty hm.mt ho.pe hbase hline) fun σ H Q h => ?_⟩
  obtain ⟨R, st, fr, rel, rf, ok⟩ := h
  refine ⟨R, st, fr, rel, rf, okG.imp (okG.bind ok) fun x H1 R1 d st1 e1 rel1 r1 _ q => ?_⟩
  obtain ⟨R2, st2, d2, e2, rel2, r2, ok2⟩ := q
  split at ok2
  · rename_i ds e
    exact ⟨tyL_ok rel2 r2 e, R2, st2, d2, [], rel2, r2, rfl, ok2.noex fun c s => ne _ _ _ _ _⟩
  · exact ok2.elim
theorem e_mt (slot : Slot "list" name id) (hty : typeOf (.builtin id) = pure (.type "method_descriptor")) (hm : MtI X id m) (ne : NoExM m) (ho : IE X W o f) (ha : IA X W (e :: es) g)
    (hbase : attributeBase o name X.env (eval o X.env) = eval o X.env := by rfl)
    (hfew : ((backTo cpos (starEach (e :: es) X.env)).all (fun x => !x.1) && (backToKw cpos (keywordEach [] X.env)).all (fun x => x.1.isSome)
      && decide ((e :: es).length + ([] : List Keyword).length + (if ([] : List Keyword).isEmpty then 0 else 1) < 30)) = true := by rfl)
    (hline : (apos.endLine == cpos.line) = true := by rfl) (hs : starEach (e :: es) X.env = (false, eval e X.env) :: starEach es X.env := by rfl) (hplain : (backTo cpos (starEach es X.env)).any (·.1) = false := by rfl) :
    IE X W (.Call (.Attribute o name apos) (e :: es) [] cpos) (eMt m f g) := by
  refine ⟨PE.imp (pe_bm PySem.F.plainAttrs_list slot hty hm.mt ho.pe ha.pa hbase hfew hline hs hplain) fun σ H Q h => ?_⟩
  obtain ⟨R, st, fr, rel, rf, ok⟩ := h
  refine ⟨R, st, fr, rel, rf, okG.imp (okG.bind ok) fun x H1 R1 d st1 e1 rel1 r1 _ q => ?_⟩
  obtain ⟨R2, st2, d2, e2, rel2, r2, ok2⟩ := q
  split at ok2
  · rename_i ds e
    refine ⟨tyL_ok rel2 r2 e, R2, st2, fr, rel2, rf.mono e2, okG.imp (okG.bind ok2) fun xs H3 R3 d3 st3 e3 rel3 r3 _ q3 => ?_⟩
    obtain ⟨R4, st4, d4, e4, rel4, r4, ok4⟩ := q3
    exact ⟨R4, st4, d2, d4, rel4, r2.mono e4, r4, ok4.noex fun c s => ne _ _ _ _ _⟩
  · exact ok2.elim
end
def mAppend (x : D) (xs : List D) (st : Sto) : Out D := match x, xs with
  | .loc n, [y] => match st[n]? with
    | some (.lst ds) => if ds.length ≤ 16000000 then .ok .non (st.set n (.lst (ds ++ [y]))) else .no
    | _ => .no
  | _, _ => .no
def mPop (x : D) (xs : List D) (st : Sto) : Out D := match x, xs with
  | .loc n, [] => match st[n]? with
    | some (.lst ds) => match ds[ds.length - 1]? with
      | some y => .ok y (st.set n (.lst ds.dropLast))
      | none => .no
    | _ => .no
  | _, _ => .no
theorem ne_mAppend : NoExM mAppend := fun x xs st c st' => by
  unfold mAppend
  split
  · split
    · split <;> exact fun h => nomatch h
    · exact fun h => nomatch h
  · exact fun h => nomatch h
theorem ne_mPop : NoExM mPop := fun x xs st c st' => by
  unfold mPop
  split
  · split
    · split <;> exact fun h => nomatch h
    · exact fun h => nomatch h
  · exact fun h => nomatch h
theorem m_append : MtI X "list.append" mAppend := by
  refine ⟨MtR.imp mt_append fun x xs H Q q => ?_⟩
  obtain ⟨R, st, d, ds, rel, r, rr, ok⟩ := q
  unfold mAppend at ok
  split at ok
  · split at ok
    · split at ok
      · rename_i n y _ ds e hz
        obtain ⟨v, rfl, h1⟩ := rvs1 rr
        obtain ⟨a, ha, rfl⟩ := r
        obtain ⟨vs, hv, rv⟩ := rel.lst ha e
        have ex : Ext X.K H R (upd H a (.lst (vs ++ [v]))) R := Ext.lst ha hv
        refine ⟨a, vs, v, rfl, rfl, hv, by rw [rv.length]; exact big_lt hz, ok _ R _ ex (rel.write ha ex ⟨_, upd_same, (rv.append (RVs.cons h1 RVs.nil)).mono ex⟩) rfl⟩
      · exact ok.elim
    · exact ok.elim
  · exact ok.elim
theorem m_pop : MtI X "list.pop" mPop := by
  refine ⟨MtR.imp mt_pop fun x xs H Q q => ?_⟩
  obtain ⟨R, st, d, ds, rel, r, rr, ok⟩ := q
  unfold mPop at ok
  split at ok
  · split at ok
    · split at ok
      · rename_i n _ ds e _ y ey
        cases (show xs = [] from rr)
        obtain ⟨a, ha, rfl⟩ := r
        obtain ⟨vs, hv, rv⟩ := rel.lst ha e
        obtain ⟨v, hv2, rv2⟩ := rv.get ey
        rw [← rv.length] at hv2
        have ex : Ext X.K H R (upd H a (.lst vs.dropLast)) R := Ext.lst ha hv
        exact ⟨a, vs, v, rfl, rfl, hv, hv2, ok _ R _ ex (rel.write ha ex ⟨_, upd_same, rv.dropLast.mono ex⟩) (rv2.mono ex)⟩
      · exact ok.elim
    · exact ok.elim
  · exact ok.elim
section
variable {o e : Expr} {apos cpos : Pos} {f : ME} {g : MA}
theorem e_append (ho : IE X W o f) (ha : IA X W [e] g)
    (hbase : attributeBase o "append" X.env (eval o X.env) = eval o X.env := by rfl)
    (hfew : ((backTo cpos (starEach [e] X.env)).all (fun x => !x.1) && (backToKw cpos (keywordEach [] X.env)).all (fun x => x.1.isSome)
      && decide ([e].length + ([] : List Keyword).length + (if ([] : List Keyword).isEmpty then 0 else 1) < 30)) = true := by rfl)
    (hline : (apos.endLine == cpos.line) = true := by rfl) (hs : starEach [e] X.env = (false, eval e X.env) :: starEach [] X.env := by rfl) :
    IE X W (.Call (.Attribute o "append" apos) [e] [] cpos) (eMt mAppend f g) := e_mt PySem.F.slot_list_append PySem.F.type_list_append m_append ne_mAppend ho ha hbase hfew hline hs
theorem e_pop (ho : IE X W o f) (hbase : attributeBase o "pop" X.env (eval o X.env) = eval o X.env := by rfl) (hline : (apos.endLine == cpos.line) = true := by rfl) :
    IE X W (.Call (.Attribute o "pop" apos) [] [] cpos) (eMt0 mPop f) := e_mt0 PySem.F.slot_list_pop PySem.F.type_list_pop m_pop ne_mPop ho hbase hline
end
end
end Vi
set_option maxRecDepth 100000
set_option maxHeartbeats 2000000
/-! Vi3: statements, loops. -/
namespace Vi
open PySem PySem.Spec PyProof.Rows L2
section
variable {X : Cx} {W : WX} {pos : Pos}

theorem okG.w0 {α β : Type} {K : PySem.W.Frag} {σ σ' : L2.St} {H : Hp} {R : Tr} {rv : Hp → Tr → α → β → Prop} {Q : β → Hp → Prop} {o : Out α} (h : okG W0 σ H R rv K Q o) : okG W0 σ' H R rv K Q o := by
  cases o with
  | ok a st => exact h
  | ex c st => exact h
  | no => exact h

/-! ### targets -/
abbrev MG := D → Fr → Sto → Out Fr
abbrev MGs := List D → Fr → Sto → Out Fr
abbrev rvF (K : PySem.W.Frag) : Hp → Tr → Fr → L2.St → Prop := fun H R fr σ => RFr K H R fr σ
def tGt (K : PySem.W.Frag) (g : MG) : TG := fun v σ H Q => ∃ R st fr d, Rel K H R st ∧ RFr K H R fr σ ∧ RV K H R d v ∧ okG W0 [] H R (rvF K) K Q (g d fr st)
def tGts (K : PySem.W.Frag) (g : MGs) : TGs := fun vs σ H Q => ∃ R st fr ds, Rel K H R st ∧ RFr K H R fr σ ∧ RVs K H R ds vs ∧ okG W0 [] H R (rvF K) K Q (g ds fr st)
structure IG (X : Cx) (t : Expr) (g : MG) : Prop where
  pg : PG X t (tGt X.K g)
structure IGs (X : Cx) (t : List Expr) (g : MGs) : Prop where
  pgs : PGs X t (tGts X.K g)
theorem PG.imp {e : Expr} {t t' : TG} (h : PG X e t) (k : ∀ v σ H Q, t' v σ H Q → t v σ H Q) : PG X e t' := ⟨fun pins s σ H v u Q I r q => h.run pins s σ H v u Q I r (k _ _ _ _ q)⟩
theorem PGs.imp {e : List Expr} {t t' : TGs} (h : PGs X e t) (k : ∀ v σ H Q, t' v σ H Q → t v σ H Q) : PGs X e t' := ⟨fun pins s σ H v u Q I r q => h.run pins s σ H v u Q I r (k _ _ _ _ q)⟩
def gN (i : Nat) (d : D) (fr : Fr) (st : Sto) : Out Fr := .ok (fset fr i (some d)) st
theorem g_name (i : Nat) {x : Str} (hN : X.N.Nodup) (hi : X.N[i]? = some x := by rfl) (hx : Loc X.env.scope x := by first | exact .inl rfl | exact .inr rfl) (hf : X.fn x = true ∨ X.env.scope.names.lookup x = some .local := by first | exact .inl rfl | exact .inr rfl | assumption) : IG X (.Name x pos) (gN i) := by
  refine ⟨PG.imp (pg_name hN hi hx hf) fun v σ H Q h => ?_⟩
  obtain ⟨R, st, fr, d, rel, rf, r, ok⟩ := h
  exact ok H R _ Ext.refl rel (rf.set r)
def gsNil (ds : List D) (fr : Fr) (st : Sto) : Out Fr := match ds with
  | [] => .ok fr st
  | _ => .no
def gsCons (g : MG) (h : MGs) (ds : List D) (fr : Fr) (st : Sto) : Out Fr := match ds with
  | d :: r => (g d fr st).bind fun fr' st' => h r fr' st'
  | [] => .no
theorem gs_nil : IGs X [] gsNil := by
  refine ⟨PGs.imp pgs_nil fun vs σ H Q h => ?_⟩
  obtain ⟨R, st, fr, ds, rel, rf, r, ok⟩ := h
  cases ds with
  | nil => exact ⟨r, ok H R σ Ext.refl rel rf⟩
  | cons d ds => exact ok.elim
theorem gs_cons {e : Expr} {es : List Expr} {g : MG} {h : MGs} (h1 : IG X e g) (h2 : IGs X es h) (hs : (assignEach (e :: es) X.env).map (·.2) = assign e X.env :: (assignEach es X.env).map (·.2) := by rfl) : IGs X (e :: es) (gsCons g h) := by
  refine ⟨PGs.imp (pgs_cons h1.pg h2.pgs hs) fun vs σ H Q hq => ?_⟩
  obtain ⟨R, st, fr, ds, rel, rf, r, ok⟩ := hq
  cases ds with
  | nil => exact ok.elim
  | cons d ds =>
    obtain ⟨v, q, rfl, r1, r2⟩ := r
    refine ⟨v, q, rfl, R, st, fr, d, rel, rf, r1, okG.imp (okG.bind ok) fun σ1 H1 R1 fr1 st1 e1 rel1 rf1 _ q1 => ?_⟩
    obtain ⟨R2, st2, fr2, e2, rel2, rf2, ok2⟩ := q1
    exact ⟨R2, st2, fr2, ds, rel2, rf2, r2.mono e2, ok2⟩
def gT (n : Nat) (h : MGs) (d : D) (fr : Fr) (st : Sto) : Out Fr := match d with
  | .tup ds => if ds.length = n then h ds fr st else .no
  | _ => .no
theorem g_tup {es : List Expr} {k : Nat} {h : MGs} {n : Nat} (hc : X.calm = true) (hh : IGs X es h) (hn : (assignEach es X.env).length = n := by rfl) (hst : (assignEach es X.env).findIdx? (·.1) = none := by rfl) : IG X (.Tuple es k pos) (gT n h) := by
  refine ⟨PG.imp (pg_tup hc hh.pgs hn hst) fun v σ H Q hq => ?_⟩
  obtain ⟨R, st, fr, d, rel, rf, r, ok⟩ := hq
  cases d with
  | tup ds =>
    obtain ⟨a, vs, rfl, hs, rr⟩ := r
    unfold gT at ok
    dsimp only at ok
    split at ok
    · rename_i hl
      exact ⟨a, vs, rfl, hs, by rw [rr.length]; exact hl, R, st, fr, ds, rel, rf, rr, ok⟩
    · exact ok.elim
  | _ => exact ok.elim
/-- xs[i] = v -/
def setIx (o i v : D) (st : Sto) : Out Unit := match o, i with
  | .loc n, .int k => match st[n]? with
    | some (.lst ds) => match ixN ds.length k with
      | some j => .ok () (st.set n (.lst (ds.set j v)))
      | none => .no
    | _ => .no
  | _, _ => .no
def gSb (f g : ME) (d : D) (fr : Fr) (st : Sto) : Out Fr := (f fr st).nox.bind fun o st1 => (g fr st1).nox.bind fun i st2 => (setIx o i d st2).bind fun _ st3 => .ok fr st3
theorem setIx_ne {o i v : D} {st : Sto} {c : Nat} {st' : Sto} : setIx o i v st ≠ .ex c st' := by
  unfold setIx
  split
  · split
    · split <;> exact fun h => nomatch h
    · exact fun h => nomatch h
  · exact fun h => nomatch h
theorem setIx_ok {K : PySem.W.Frag} {H : Hp} {R : Tr} {st st' : Sto} {dO dI dV : D} {o i v : V} (rel : Rel K H R st) (ro : RV K H R dO o) (ri : RV K H R dI i) (rv : RV K H R dV v) (h : setIx dO dI dV st = .ok () st') :
    ∃ p xs k j, o = .ref p ∧ i = .int k ∧ H p = some (.lst xs) ∧ ixN xs.length k = some j ∧ Ext K H R (upd H p (.lst (xs.set j v))) R ∧ Rel K (upd H p (.lst (xs.set j v))) R st' := by
  unfold setIx at h
  split at h
  · split at h
    · split at h
      · rename_i n k _ ds e _ j ej
        cases h
        obtain ⟨a, ha, rfl⟩ := ro
        obtain ⟨vs, hv, rr⟩ := rel.lst ha e
        have ex : Ext K H R (upd H a (.lst (vs.set j v))) R := Ext.lst ha hv
        exact ⟨a, vs, k, j, rfl, ri, hv, by rw [rr.length]; exact ej, ex, rel.write ha ex ⟨_, upd_same, (rr.set j rv).mono ex⟩⟩
      · cases h
    · cases h
  · cases h
theorem g_sub {o i : Expr} {f g : ME} (ho : IE X W0 o f) (hi : IE X W0 i g)
    (ha : ∀ v, assign (.Subscript o i pos) X.env v = (do
      let ov ← holding [v] (eval o X.env)
      let iv ← holding [v, ov] (eval i X.env)
      standAt pos
      holding [v, ov, iv] (setItem ov iv v)
      release [v, ov, iv] []) := by intro _; rfl) : IG X (.Subscript o i pos) (gSb f g) := by
  refine ⟨PG.imp (pg_sub ho.pe hi.pe set_list ha) fun v σ H Q hq => ?_⟩
  obtain ⟨R, st, fr, d, rel, rf, r, ok⟩ := hq
  unfold gSb at ok
  refine ⟨R, st, fr, rel, rf, okG.imp (okG.bindN (okG.w0 (σ' := σ) ok)) fun x H1 R1 d1 st1 e1 rel1 r1 _ q1 => ?_⟩
  obtain ⟨R2, st2, d2, e2, rel2, r2, ok2⟩ := q1
  refine ⟨R2, st2, fr, rel2, rf.mono e2, okG.imp (okG.bindN ok2) fun y H3 R3 d3 st3 e3 rel3 r3 _ q3 => ?_⟩
  obtain ⟨R4, st4, d4, e4, rel4, r4, ok4⟩ := q3
  cases e : setIx d2 d4 d st4 with
  | ok u st5 =>
    rw [e] at ok4
    obtain ⟨p, xs, k, j, rfl, rfl, h1, h2, h3, h4⟩ := setIx_ok rel4 (r2.mono e4) r4 ((r.mono e2).mono e4) e
    exact ⟨p, xs, k, j, rfl, rfl, h1, h2, ok4 _ R4 σ ((e2.trans e4).trans h3) h4 (((rf.mono e2).mono e4).mono h3)⟩
  | ex c st5 => exact absurd e setIx_ne
  | no => rw [e] at ok4; exact ok4.elim

def NoExG (g : MG) : Prop := ∀ d fr st c st', g d fr st ≠ .ex c st'
def NoExGs (g : MGs) : Prop := ∀ d fr st c st', g d fr st ≠ .ex c st'
theorem ng_gN {i : Nat} : NoExG (gN i) := fun d fr st c st' h => nomatch h
theorem ngs_nil : NoExGs gsNil := fun d fr st c st' => by unfold gsNil; split <;> exact fun h => nomatch h
theorem ngs_cons {g : MG} {h : MGs} (a : NoExG g) (b : NoExGs h) : NoExGs (gsCons g h) := fun d fr st c st' => by
  unfold gsCons
  split
  · rename_i x r
    intro z
    cases e : g x fr st with
    | ok fr1 st1 => rw [e] at z; exact b _ _ _ _ _ z
    | ex c1 st1 => exact a _ _ _ _ _ e
    | no => rw [e] at z; cases z
  · exact fun h => nomatch h
theorem ng_gT {n : Nat} {h : MGs} (a : NoExGs h) : NoExG (gT n h) := fun d fr st c st' => by
  unfold gT
  split
  · split
    · exact a _ _ _ _ _
    · exact fun h => nomatch h
  · exact fun h => nomatch h
theorem ng_gSb {f g : ME} : NoExG (gSb f g) := fun d fr st c st' z => by
  unfold gSb at z
  cases e : f fr st with
  | ok x st1 =>
    rw [e, Out.nox_ok, Out.bind_ok] at z
    cases e2 : g fr st1 with
    | ok y st2 =>
      rw [e2, Out.nox_ok, Out.bind_ok] at z
      cases e3 : setIx x y d st2 with
      | ok u st3 => rw [e3] at z; cases z
      | ex c st3 => exact setIx_ne e3
      | no => rw [e3] at z; cases z
    | ex c st2 => rw [e2] at z; cases z
    | no => rw [e2] at z; cases z
  | ex c st1 => rw [e] at z; cases z
  | no => rw [e] at z; cases z

/-! ### assignments -/
def sAsg (f : ME) (g : MG) (fr : Fr) (st : Sto) : OutS := (f fr st).then fr fun d st1 => (g d fr st1).then fr fun fr' st2 => .nx fr' st2
def sSet (i : Nat) (f : ME) (fr : Fr) (st : Sto) : OutS := (f fr st).then fr fun d st1 => .nx (fset fr i (some d)) st1
theorem nx_ok {K : PySem.W.Frag} {H : Hp} {R : Tr} {D : Ends} {fr : Fr} {st : Sto} {σ : L2.St} (ok : okS K W H R D (.nx fr st)) (rel : Rel K H R st) (rf : RFr K H R fr σ) : D.nx σ H := ok H R σ Ext.refl rel rf
theorem s_asg {tg e : Expr} {f : ME} {g : MG} (he : IE X W e f) (hg : IG X tg g) (ng : NoExG g) (hs : swapsWithSole [tg] e pos.line X.env = pure false := by rfl) (hw : swappedStores [tg] e X.env = pure none := by rfl)
    (h1 : (assignEach [tg] X.env).map (·.2) = [assign tg X.env] := by rfl) : IS X W (.Assign [tg] e pos) (sAsg f g) := by
  refine ⟨PS.imp (ps_asg he.pe hg.pg hs hw h1) fun D σ H h => ?_⟩
  obtain ⟨R, st, fr, rel, rf, ok⟩ := h
  refine ⟨R, st, fr, rel, rf, okG.imp (okS.then rf ok) fun x H1 R1 d st1 e1 rel1 r1 _ q => ?_⟩
  obtain ⟨R2, st2, d2, e2, rel2, rf2, r2, ok2⟩ := q
  refine ⟨R2, st2, fr, d2, rel2, rf2, r2, ?_⟩
  cases e : g d2 fr st2 with
  | ok fr' st3 =>
    rw [e] at ok2
    exact fun H' R' σ' ex rl q => ok2 H' R' σ' ex rl q
  | ex c st3 => exact absurd e (ng _ _ _ _ _)
  | no => rw [e] at ok2; exact ok2
theorem s_set (i : Nat) {x : Str} {e : Expr} {f : ME} {pos' : Pos} (hN : X.N.Nodup) (he : IE X W e f) (hi : X.N[i]? = some x := by rfl) (hx : Loc X.env.scope x := by first | exact .inl rfl | exact .inr rfl) (hs : swapsWith e (some (.Name x pos')) pos.line X.env = pure false := by rfl)
    (hf : X.fn x = true ∨ X.env.scope.names.lookup x = some .local := by first | exact .inl rfl | exact .inr rfl | assumption) : IS X W (.Assign [.Name x pos'] e pos) (sSet i f) := by
  refine ⟨PS.imp (ps_set hN hi hx he.pe hs hf) fun D σ H h => ?_⟩
  obtain ⟨R, st, fr, rel, rf, ok⟩ := h
  refine ⟨R, st, fr, rel, rf, okG.imp (okS.then rf ok) fun x H1 R1 d st1 e1 rel1 r1 _ q => ?_⟩
  obtain ⟨R2, st2, d2, e2, rel2, rf2, r2, ok2⟩ := q
  exact nx_ok ok2 rel2 (rf2.set r2)
/-- a, b = x, y -/
def sPar2 (i j : Nat) (f : MA) (fr : Fr) (st : Sto) : OutS := (f fr st).then fr fun ds st1 => match ds with
  | [a, b] => .nx (fset (fset fr i (some a)) j (some b)) st1
  | _ => .no
theorem s_par2 (i j : Nat) {x y : Str} {a b : Expr} {f : MA} {px py pt : Pos} {kt k2 : Nat} {pt2 : Pos} (c : Ctx X W) (ha : IA X W [a, b] f) (hw : swappedStores [.Tuple [.Name x px, .Name y py] kt pt] (.Tuple [a, b] k2 pt2) X.env = pure (some [x, y]) := by rfl) (hi : X.N[i]? = some x := by rfl) (hj : X.N[j]? = some y := by rfl) (hij : i ≠ j := by decide)
    (hx : X.env.scope.names.lookup x = some .local := by rfl) (hy : X.env.scope.names.lookup y = some .local := by rfl)
    (hs : swapsWithSole [.Tuple [.Name x px, .Name y py] kt pt] (.Tuple [a, b] k2 pt2) pos.line X.env = pure false := by rfl) :
    IS X W (.Assign [.Tuple [.Name x px, .Name y py] kt pt] (.Tuple [a, b] k2 pt2) pos) (sPar2 i j f) := by
  refine ⟨PS.imp (ps_par c.calm c.nd hi hj hij hx hy ha.pa hw hs) fun D σ H h => ?_⟩
  obtain ⟨R, st, fr, rel, rf, ok⟩ := h
  refine ⟨R, st, fr, rel, rf, okG.imp (okS.then rf ok) fun x H1 R1 d st1 e1 rel1 r1 _ q => ?_⟩
  obtain ⟨R2, st2, d2, e2, rel2, rf2, r2, ok2⟩ := q
  split at ok2
  · obtain ⟨v, u, rfl, h1, h2⟩ := rvs2 r2
    exact ⟨v, u, rfl, nx_ok ok2 rel2 ((rf2.set h1).set h2)⟩
  · exact ok2.elim
/-- a, b, c = x, y, z -/
def sPar3 (i j l : Nat) (f : MA) (fr : Fr) (st : Sto) : OutS := (f fr st).then fr fun ds st1 => match ds with
  | [a, b, c] => .nx (fset (fset (fset fr i (some a)) j (some b)) l (some c)) st1
  | _ => .no
theorem s_par3 (i j l : Nat) {x y z : Str} {a b e : Expr} {f : MA} {px py pz pt : Pos} {kt k2 : Nat} {pt2 : Pos} (c : Ctx X W) (ha : IA X W [a, b, e] f) (hw : swappedStores [.Tuple [.Name x px, .Name y py, .Name z pz] kt pt] (.Tuple [a, b, e] k2 pt2) X.env = pure (some [x, y, z]) := by rfl) (hi : X.N[i]? = some x := by rfl) (hj : X.N[j]? = some y := by rfl) (hl : X.N[l]? = some z := by rfl)
    (hij : i ≠ j := by decide) (hil : i ≠ l := by decide) (hjl : j ≠ l := by decide)
    (hx : X.env.scope.names.lookup x = some .local := by rfl) (hy : X.env.scope.names.lookup y = some .local := by rfl) (hz : X.env.scope.names.lookup z = some .local := by rfl)
    (hs : swapsWithSole [.Tuple [.Name x px, .Name y py, .Name z pz] kt pt] (.Tuple [a, b, e] k2 pt2) pos.line X.env = pure false := by rfl) :
    IS X W (.Assign [.Tuple [.Name x px, .Name y py, .Name z pz] kt pt] (.Tuple [a, b, e] k2 pt2) pos) (sPar3 i j l f) := by
  refine ⟨PS.imp (ps_par3 c.calm c.nd hi hj hl hij hil hjl hx hy hz ha.pa hw hs) fun D σ H h => ?_⟩
  obtain ⟨R, st, fr, rel, rf, ok⟩ := h
  refine ⟨R, st, fr, rel, rf, okG.imp (okS.then rf ok) fun x H1 R1 d st1 e1 rel1 r1 _ q => ?_⟩
  obtain ⟨R2, st2, d2, e2, rel2, rf2, r2, ok2⟩ := q
  split at ok2
  · obtain ⟨v, q, rfl, h1, h2⟩ := r2
    obtain ⟨u, w, rfl, h3, h4⟩ := rvs2 h2
    exact ⟨v, u, w, rfl, nx_ok ok2 rel2 (((rf2.set h1).set h3).set h4)⟩
  · exact ok2.elim
/-- x op= e -/
def sAug (i : Nat) (o : M2) (f : ME) (fr : Fr) (st : Sto) : OutS := match fget fr i with
  | some x => (f fr st).then fr fun y st1 => (o x y st1).then fr fun z st2 => .nx (fset fr i (some z)) st2
  | none => .no
theorem s_aug (i : Nat) {x : Str} {e : Expr} {f : ME} {op : Operator} {o : M2} {pos' : Pos} (hN : X.N.Nodup) (ho : OpI X (inplaceOp op) o) (ne : NoEx o) (he : IE X W e f) (hi : X.N[i]? = some x := by rfl) (hx : Loc X.env.scope x := by first | exact .inl rfl | exact .inr rfl)
    (hf : X.fn x = true ∨ X.env.scope.names.lookup x = some .local := by first | exact .inl rfl | exact .inr rfl | assumption) : IS X W (.AugAssign (.Name x pos') op e pos) (sAug i o f) := by
  have hp : PIp X op (tO X.K o) := fun pins s σ H x y v u Q I rx ry q => augR ho.op I rx ry q
  refine ⟨PS.imp (ps_aug hN hi hx he.pe hp hf) fun D σ H h => ?_⟩
  obtain ⟨R, st, fr, rel, rf, ok⟩ := h
  unfold sAug at ok
  cases e : fget fr i with
  | none => rw [e] at ok; exact ok.elim
  | some d0 =>
    rw [e] at ok
    obtain ⟨v0, h1, h2⟩ := rf.slot i d0 e
    refine ⟨v0, h1, R, st, fr, rel, rf, okG.imp (okS.then rf ok) fun x H1 R1 d st1 e1 rel1 r1 _ q => ?_⟩
    obtain ⟨R2, st2, d2, e2, rel2, rf2, r2, ok2⟩ := q
    refine ⟨R2, st2, d0, d2, rel2, h2.mono e2, r2, ?_⟩
    cases e3 : o d0 d2 st2 with
    | ok z st3 =>
      rw [e3] at ok2
      intro H' R' v ex rl r
      exact ok2 H' R' _ ex rl ((rf2.mono ex).set r)
    | ex c st3 => exact absurd e3 (ne _ _ _ _ _)
    | no => rw [e3] at ok2; exact ok2

/-! ### the rest -/
def sExpr (f : ME) (fr : Fr) (st : Sto) : OutS := (f fr st).then fr fun _ st1 => .nx fr st1
theorem s_expr {e : Expr} {f : ME} (he : IE X W e f) (hs : swapsWith e none pos.line X.env = pure false := by rfl) : IS X W (.Expr e pos) (sExpr f) := by
  refine ⟨PS.imp (ps_expr he.pe hs) fun D σ H h => ?_⟩
  obtain ⟨R, st, fr, rel, rf, ok⟩ := h
  refine ⟨R, st, fr, rel, rf, okG.imp (okS.then rf ok) fun x H1 R1 d st1 e1 rel1 r1 _ q => ?_⟩
  obtain ⟨R2, st2, d2, e2, rel2, rf2, r2, ok2⟩ := q
  exact nx_ok ok2 rel2 rf2
def sRet (f : ME) (fr : Fr) (st : Sto) : OutS := (f fr st).then fr fun d st1 => .rt d st1
theorem s_ret {e : Expr} {f : ME} (he : IE X W e f) : IS X W (.Return (some e) pos) (sRet f) := by
  refine ⟨PS.imp (ps_ret he.pe) fun D σ H h => ?_⟩
  obtain ⟨R, st, fr, rel, rf, ok⟩ := h
  refine ⟨R, st, fr, rel, rf, okG.imp (okS.then rf ok) fun x H1 R1 d st1 e1 rel1 r1 _ q => ?_⟩
  obtain ⟨R2, st2, d2, e2, rel2, rf2, r2, ok2⟩ := q
  exact ok2 H1 R2 x Ext.refl rel2 r2
def sNop (fr : Fr) (st : Sto) : OutS := .nx fr st
def sBrk (fr : Fr) (st : Sto) : OutS := .bk fr st
def sCnt (fr : Fr) (st : Sto) : OutS := .ct fr st
/-- a raise that is never come to -/
def sNo (fr : Fr) (st : Sto) : OutS := .no
theorem s_pass : IS X W (.Pass pos) sNop := ⟨PS.imp ps_pass fun D σ H ⟨R, st, fr, rel, rf, ok⟩ => nx_ok ok rel rf⟩
theorem s_break : IS X W (.Break pos) sBrk := ⟨PS.imp ps_break fun D σ H ⟨R, st, fr, rel, rf, ok⟩ => ok H R σ Ext.refl rel rf⟩
theorem s_cont : IS X W (.Continue pos) sCnt := ⟨PS.imp ps_continue fun D σ H ⟨R, st, fr, rel, rf, ok⟩ => ok H R σ Ext.refl rel rf⟩
theorem s_never {s : Stmt} : IS X W s sNo := ⟨PS.imp ps_never fun D σ H ⟨R, st, fr, rel, rf, ok⟩ => ok⟩
/-! blocks -/
def sSeq (f g : MS) (fr : Fr) (st : Sto) : OutS := match f fr st with
  | .nx fr1 st1 => g fr1 st1
  | o => o
theorem ss_nil : ISs X W [] sNop := ⟨PSs.imp pss_nil fun D σ H ⟨R, st, fr, rel, rf, ok⟩ => nx_ok ok rel rf⟩
theorem ss_one {s : Stmt} {f : MS} (h : IS X W s f) : ISs X W [s] f := ⟨pss_one h.ps⟩
theorem seq_ok {K : PySem.W.Frag} {H : Hp} {R : Tr} {D : Ends} {g : MS} {o : OutS} (ok : okS K W H R D (match o with | .nx fr1 st1 => g fr1 st1 | o => o)) : okS K W H R { D with nx := fun σ H => tS K W g D σ H } o := by
  cases o with
  | nx fr st => exact fun H' R' σ' e r q => ⟨R', st, fr, r, q, okS.ext ok e⟩
  | rt d st => exact ok
  | bk fr st => exact ok
  | ct fr st => exact ok
  | ex c fr st => exact ok
  | no => exact ok
theorem ss_cons {s : Stmt} {rest : List Stmt} {f g : MS} (h1 : IS X W s f) (h2 : ISs X W rest g) : ISs X W (s :: rest) (sSeq f g) := by
  refine ⟨PSs.imp (pss_cons h1.ps h2.pss) fun D σ H h => ?_⟩
  obtain ⟨R, st, fr, rel, rf, ok⟩ := h
  exact ⟨R, st, fr, rel, rf, seq_ok ok⟩
def sIf (t : MT) (f g : MS) (fr : Fr) (st : Sto) : OutS := (t fr st).then fr fun k st1 => if k = true then f fr st1 else g fr st1
theorem s_if {c : Expr} {a b : List Stmt} {t : MT} {f g : MS} (hc : IT X W c t) (ha : ISs X W a f) (hb : ISs X W b g) : IS X W (.If c a b pos) (sIf t f g) := by
  refine ⟨PS.imp (ps_if hc.pt ha.pss hb.pss) fun D σ H h => ?_⟩
  obtain ⟨R, st, fr, rel, rf, ok⟩ := h
  refine ⟨R, st, fr, rel, rf, okG.imp (okS.then rf ok) fun x H1 R1 d st1 e1 rel1 r1 _ q => ?_⟩
  obtain ⟨R2, st2, d2, e2, rel2, rf2, r2, ok2⟩ := q
  obtain rfl : x = d2 := r2
  cases x with
  | true => exact ⟨R2, st2, fr, rel2, rf2, ok2⟩
  | false => exact ⟨R2, st2, fr, rel2, rf2, ok2⟩
/-! while -/
/-- what follows a turn -/
def loopNext (k : Fr → Sto → OutS) (o : OutS) : OutS := match o with
  | .nx fr st => k fr st
  | .ct fr st => k fr st
  | .bk fr st => .nx fr st
  | .rt d st => .rt d st
  | .ex c fr st => .ex c fr st
  | .no => .no
@[simp] theorem loopNext_nx (k : Fr → Sto → OutS) (fr : Fr) (st : Sto) : loopNext k (.nx fr st) = k fr st := (rfl)
@[simp] theorem loopNext_ct (k : Fr → Sto → OutS) (fr : Fr) (st : Sto) : loopNext k (.ct fr st) = k fr st := (rfl)
@[simp] theorem loopNext_bk (k : Fr → Sto → OutS) (fr : Fr) (st : Sto) : loopNext k (.bk fr st) = .nx fr st := (rfl)
@[simp] theorem loopNext_rt (k : Fr → Sto → OutS) (d : D) (st : Sto) : loopNext k (.rt d st) = .rt d st := (rfl)
def whileN (t : MT) (b : MS) : Nat → Fr → Sto → OutS
  | 0, _, _ => .no
  | n + 1, fr, st => (t fr st).then fr fun k st1 => if k = true then loopNext (whileN t b n) (b fr st1) else .nx fr st1
/-- the most turns of a while -/
def wMost : Nat := 1000000
def sWhile (t : MT) (b : MS) (fr : Fr) (st : Sto) : OutS := whileN t b wMost fr st
/-- a turn's end, from what follows -/
theorem loop_ok {K : PySem.W.Frag} {H : Hp} {R : Tr} {D : Ends} {k : Fr → Sto → OutS} {o : OutS} {N : L2.St → Hp → Prop} (hN : ∀ H' R' σ' fr st, Rel K H' R' st → RFr K H' R' fr σ' → Ext K H R H' R' → okS K W H' R' D (k fr st) → N σ' H') (ok : okS K W H R D (loopNext k o)) :
    okS K W H R { D with nx := N, ct := N, bk := D.nx } o := by
  cases o with
  | nx fr st => exact fun H' R' σ' e r q => hN H' R' σ' fr st r q e (okS.ext ok e)
  | ct fr st => exact fun H' R' σ' e r q => hN H' R' σ' fr st r q e (okS.ext ok e)
  | bk fr st => exact ok
  | rt d st => exact ok
  | ex c fr st => exact ok
  | no => exact ok
theorem s_while {c : Expr} {body : List Stmt} {t : MT} {b : MS} (hp : PassesOwn (model X.prog X.w) X.A X.env X.xe) (hc : IT X W c t) (hb : ISs X W body b) : IS X W (.While c body [] pos) (sWhile t b) := by
  refine ⟨PS.imp (ps_while hp hc.pt hb.pss) fun D σ H h => ?_⟩
  obtain ⟨R, st, fr, rel, rf, ok⟩ := h
  refine ⟨fun m σ H => ∃ R st fr, Rel X.K H R st ∧ RFr X.K H R fr σ ∧ okS X.K W H R D (whileN t b m fr st), ⟨wMost, R, st, fr, rel, rf, ok⟩, ?_⟩
  rintro m σ H ⟨R, st, fr, rel, rf, ok⟩
  cases m with
  | zero => exact ok.elim
  | succ m =>
    refine ⟨R, st, fr, rel, rf, okG.imp (okS.then rf ok) fun x H1 R1 d st1 e1 rel1 r1 _ q => ?_⟩
    obtain ⟨R2, st2, d2, e2, rel2, rf2, r2, ok2⟩ := q
    obtain rfl : x = d2 := r2
    cases x with
    | false =>
      rw [if_neg Bool.false_ne_true] at ok2 ⊢
      exact nx_ok ok2 rel2 rf2
    | true =>
      rw [if_pos rfl] at ok2 ⊢
      refine ⟨fun σ' H' => ∃ R st fr, Rel X.K H' R st ∧ RFr X.K H' R fr σ' ∧ okS X.K W H' R D (whileN t b m fr st), fun σ' H' ⟨R', st', fr', h1, h2, h3⟩ => ⟨m, Nat.lt_succ_self m, R', st', fr', h1, h2, h3⟩, R2, st2, fr, rel2, rf2, ?_⟩
      exact loop_ok (fun H' R' σ' fr' st' h1 h2 _ h3 => ⟨R', st', fr', h1, h2, h3⟩) ok2
end

/-! ### slots forgotten -/
def fwipe (fr : Fr) : List Nat → Fr
  | [] => fr
  | v :: vs => fset (fwipe fr vs) v none
theorem RFr.lose1 {K : PySem.W.Frag} {H : Hp} {R : Tr} {fr : Fr} {σ : L2.St} {i : Nat} (h : RFr K H R fr σ) : RFr K H R (fset fr i none) σ := by
  refine ⟨by rw [fset_length, h.len], fun j d' q => ?_⟩
  rw [fset_eq, fget_eq] at q
  by_cases hij : i = j
  · subst hij
    by_cases hi : i < fr.length
    · rw [List.getElem?_set_self hi] at q
      cases q
    · rw [List.getElem?_eq_none (by rw [List.length_set]; omega)] at q
      cases q
  · rw [List.getElem?_set_ne hij] at q
    exact h.slot j d' (by rw [fget_eq]; exact q)
theorem RFr.lose {K : PySem.W.Frag} {H : Hp} {R : Tr} {fr : Fr} {σ : L2.St} (h : RFr K H R fr σ) : ∀ vs, RFr K H R (fwipe fr vs) σ
  | [] => h
  | v :: vs => (RFr.lose h vs).lose1
def wOut (ws : List Nat) (o : OutS) : OutS := match o with
  | .nx fr st => .nx (fwipe fr ws) st
  | .ct fr st => .ct (fwipe fr ws) st
  | .bk fr st => .bk (fwipe fr ws) st
  | o => o
/-- slots forgotten behind, ahead -/
def wS (ws : List Nat) (f : MS) (fr : Fr) (st : Sto) : OutS := wOut ws (f fr st)
def sW (ws : List Nat) (f : MS) (fr : Fr) (st : Sto) : OutS := f (fwipe fr ws) st
theorem okS.wipe {K : PySem.W.Frag} {W : WX} {H : Hp} {R : Tr} {D : Ends} {ws : List Nat} {o : OutS} (h : okS K W H R D (wOut ws o)) : okS K W H R D o := by
  cases o with
  | nx fr st => exact fun H' R' σ' e r q => h H' R' σ' e r (q.lose ws)
  | ct fr st => exact fun H' R' σ' e r q => h H' R' σ' e r (q.lose ws)
  | bk fr st => exact fun H' R' σ' e r q => h H' R' σ' e r (q.lose ws)
  | rt d st => exact h
  | ex c fr st => exact h
  | no => exact h
section
variable {X : Cx} {W : WX}
theorem ss_wS (ws : List Nat) {ss : List Stmt} {f : MS} (h : ISs X W ss f) : ISs X W ss (wS ws f) :=
  ⟨PSs.imp h.pss fun D σ H ⟨R, st, fr, rel, rf, ok⟩ => ⟨R, st, fr, rel, rf, ok.wipe⟩⟩
theorem s_sW (ws : List Nat) {s : Stmt} {f : MS} (h : IS X W s f) : IS X W s (sW ws f) :=
  ⟨PS.imp h.ps fun D σ H ⟨R, st, fr, rel, rf, ok⟩ => ⟨R, st, fwipe fr ws, rel, rf.lose ws, ok⟩⟩
theorem s_wS (ws : List Nat) {s : Stmt} {f : MS} (h : IS X W s f) : IS X W s (wS ws f) :=
  ⟨PS.imp h.ps fun D σ H ⟨R, st, fr, rel, rf, ok⟩ => ⟨R, st, fr, rel, rf, ok.wipe⟩⟩
end
end Vi
set_option maxRecDepth 100000
set_option maxHeartbeats 2000000
/-! Vi4: for, comprehensions, calls, defs. -/
namespace Vi
open PySem PySem.Spec PyProof.Rows L2

/-! ### likeness of data -/
mutual
def dbeq : D → D → Bool
  | .non, .non => true
  | .bl a, .bl b => decide (a = b)
  | .int a, .int b => decide (a = b)
  | .str a, .str b => decide (a = b)
  | .ref a, .ref b => decide (a = b)
  | .ty a, .ty b => decide (a = b)
  | .loc a, .loc b => decide (a = b)
  | .tup a, .tup b => dbeqs a b
  | .rol a, .rol b => dbeqs a b
  | .cnt, .cnt => true
  | .fl a, .fl b => dbeqs a b
  | .obj x ns a, .obj y ms b => decide (x = y) && (decide (ns = ms) && dbeqs a b)
  | _, _ => false
def dbeqs : List D → List D → Bool
  | [], [] => true
  | a :: r, b :: s => dbeq a b && dbeqs r s
  | _, _ => false
end
mutual
theorem dbeq_refl : ∀ d : D, dbeq d d = true
  | .non => rfl
  | .bl _ => by simp [dbeq]
  | .int _ => by simp [dbeq]
  | .str _ => by simp [dbeq]
  | .ref _ => by simp [dbeq]
  | .ty _ => by simp [dbeq]
  | .loc _ => by simp [dbeq]
  | .tup ds => by rw [dbeq]; exact dbeqs_refl ds
  | .rol ds => by rw [dbeq]; exact dbeqs_refl ds
  | .cnt => rfl
  | .fl ds => by rw [dbeq]; exact dbeqs_refl ds
  | .obj x ns ds => by rw [dbeq, dbeqs_refl ds]; simp
theorem dbeqs_refl : ∀ ds : List D, dbeqs ds ds = true
  | [] => rfl
  | d :: r => by rw [dbeqs, dbeq_refl d, dbeqs_refl r]; rfl
end
mutual
theorem dbeq_eq : ∀ {a b : D}, dbeq a b = true → a = b
  | .non, b, h => by cases b <;> first | rfl | (simp [dbeq] at h)
  | .bl a, b, h => by cases b <;> first | (simp [dbeq] at h; rw [h]) | (simp [dbeq] at h)
  | .int a, b, h => by cases b <;> first | (simp [dbeq] at h; rw [h]) | (simp [dbeq] at h)
  | .str a, b, h => by cases b <;> first | (simp [dbeq] at h; rw [h]) | (simp [dbeq] at h)
  | .ref a, b, h => by cases b <;> first | (simp [dbeq] at h; rw [h]) | (simp [dbeq] at h)
  | .ty a, b, h => by cases b <;> first | (simp [dbeq] at h; rw [h]) | (simp [dbeq] at h)
  | .loc a, b, h => by cases b <;> first | (simp [dbeq] at h; rw [h]) | (simp [dbeq] at h)
  | .tup a, b, h => by
    cases b with
    | tup b => rw [dbeq] at h; rw [dbeqs_eq h]
    | _ => simp [dbeq] at h
  | .rol a, b, h => by
    cases b with
    | rol b => rw [dbeq] at h; rw [dbeqs_eq h]
    | _ => simp [dbeq] at h
  | .cnt, b, h => by cases b <;> first | rfl | (simp [dbeq] at h)
  | .fl a, b, h => by
    cases b with
    | fl b => rw [dbeq] at h; rw [dbeqs_eq h]
    | _ => simp [dbeq] at h
  | .obj x ns a, b, h => by
    cases b with
    | obj y ms b =>
      rw [dbeq, Bool.and_eq_true, Bool.and_eq_true, decide_eq_true_eq, decide_eq_true_eq] at h
      rw [dbeqs_eq h.2.2, h.1, h.2.1]
    | _ => simp [dbeq] at h
theorem dbeqs_eq : ∀ {a b : List D}, dbeqs a b = true → a = b
  | [], [], _ => rfl
  | [], _ :: _, h => by simp [dbeqs] at h
  | _ :: _, [], h => by simp [dbeqs] at h
  | x :: r, y :: s, h => by
    rw [dbeqs, Bool.and_eq_true] at h
    rw [dbeq_eq h.1, dbeqs_eq h.2]
end

/-! ### what is walked -/
inductive ItD where
  | seq (ds : List D) | cell (n : Nat) (ds : List D) | view (n : Nat) (ds is : List D)
def ItD.items : ItD → List D
  | .seq ds => ds
  | .cell _ ds => ds
  | .view _ _ is => is
@[simp] theorem ItD.items_view (n : Nat) (ds is : List D) : (ItD.view n ds is).items = is := (rfl)
@[simp] theorem ItD.items_seq (ds : List D) : (ItD.seq ds).items = ds := (rfl)
@[simp] theorem ItD.items_cell (n : Nat) (ds : List D) : (ItD.cell n ds).items = ds := (rfl)
def holdsB (it : ItD) (st : Sto) : Bool := match it with
  | .seq _ => true
  | .cell n ds => match st[n]? with
    | some (.lst es) => dbeqs es ds
    | _ => false
  | .view n ds _ => match st[n]? with
    | some (.lst es) => dbeqs es ds
    | _ => false
@[simp] theorem holdsB_seq (ds : List D) (st : Sto) : holdsB (.seq ds) st = true := (rfl)
theorem holdsB_cell {n : Nat} {ds : List D} {st : Sto} (h : st[n]? = some (.lst ds)) : holdsB (.cell n ds) st = true := by
  simp only [holdsB, h]
  exact dbeqs_refl ds
theorem holdsB_of {n : Nat} {ds : List D} {st : Sto} (h : holdsB (.cell n ds) st = true) : st[n]? = some (.lst ds) := by
  unfold holdsB at h
  split at h
  · rename_i e
    cases e
  · rename_i m es e
    cases e
    split at h
    · rename_i e2
      rw [e2, dbeqs_eq h]
    · cases h
  · rename_i e
    cases e
theorem holdsB_view {n : Nat} {ds is : List D} {st : Sto} (h : st[n]? = some (.lst ds)) : holdsB (.view n ds is) st = true := by
  simp only [holdsB, h]
  exact dbeqs_refl ds
theorem holdsB_vof {n : Nat} {ds is : List D} {st : Sto} (h : holdsB (.view n ds is) st = true) : st[n]? = some (.lst ds) := by
  simp only [holdsB] at h
  split at h
  · rename_i e2
    rw [e2, dbeqs_eq h]
  · cases h
structure Serves (K : PySem.W.Frag) (it : ItD) (J : It) (H : Hp) (R : Tr) : Prop where
  go : ∀ (i : Nat) (H2 : Hp) (R2 : Tr) (st2 : Sto), Ext0 K H R H2 R2 → Rel K H2 R2 st2 → holdsB it st2 = true → ∀ d, it.items[i]? = some d → J.go i H2 ∧ ∀ x H3, J.yld i H2 x H3 → Rel K H3 R2 st2 ∧ Ext K H2 R2 H3 R2 ∧ RV K H3 R2 d x
  stop : ∀ (i : Nat) (H2 : Hp) (R2 : Tr) (st2 : Sto), Ext0 K H R H2 R2 → Rel K H2 R2 st2 → holdsB it st2 = true → it.items.length ≤ i → J.stop i H2
abbrev MI := Fr → Sto → Out ItD
def okI (K : PySem.W.Frag) (W : WX) (σ : L2.St) (H : Hp) (R : Tr) (Q : It → Hp → Prop) : Out ItD → Prop
  | .ok it st' => ∀ H' R' J, Ext K H R H' R' → Rel K H' R' st' → Serves K it J H' R' → Q J H'
  | .ex c st' => ∀ H' R' C, clsAt K c C → Ext K H R H' R' → Rel K H' R' st' → W (.ref C) none σ H'
  | .no => False
theorem okI.bind {α β : Type} {K : PySem.W.Frag} {W : WX} {σ : L2.St} {H : Hp} {R : Tr} {rv : Hp → Tr → α → β → Prop} {Q : It → Hp → Prop} {x : Out α} {k : α → Sto → Out ItD} (h : okI K W σ H R Q (x.bind k)) :
    okG W σ H R rv K (fun b H' => ∃ R' st' a, Ext K H R H' R' ∧ Rel K H' R' st' ∧ rv H' R' a b ∧ okI K W σ H' R' Q (k a st')) x := by
  cases x with
  | ok a st =>
    refine fun H' R' b e r q => ⟨R', st, a, e, r, q, ?_⟩
    have h : okI K W σ H R Q (k a st) := h
    cases e2 : k a st with
    | ok it st2 => rw [e2] at h; exact fun H2 R2 J ex rl sv => h H2 R2 J (e.trans ex) rl sv
    | ex c st2 => rw [e2] at h; exact fun H2 R2 C hC ex rl => h H2 R2 C hC (e.trans ex) rl
    | no => rw [e2] at h; exact h
  | ex c st => exact h
  | no => exact h
def tIt (K : PySem.W.Frag) (W : WX) (f : MI) : TI := fun σ H Q => ∃ R st fr, Rel K H R st ∧ RFr K H R fr σ ∧ okI K W σ H R Q (f fr st)
structure II (X : Cx) (W : WX) (tg iter : Expr) (f : MI) : Prop where
  pi : PI X tg iter (tIt X.K W f)
theorem PI.imp {X : Cx} {tg e : Expr} {t t' : TI} (h : PI X tg e t) (k : ∀ σ H Q, t' σ H Q → t σ H Q) : PI X tg e t' := ⟨fun pins s σ H Q I q => h.run pins s σ H Q I (k _ _ _ q)⟩
section
variable {X : Cx} {W : WX} {pos : Pos}
def rng (lo : Int) (n : Nat) : List D := (List.range n).map fun (k : Nat) => D.int (lo + (k : Int))
def iRange1 (f : MA) (fr : Fr) (st : Sto) : Out ItD := (f fr st).bind fun ds st1 => match ds with
  | [.int j] => if (decide (-4611686018427387904 ≤ j) && decide (j < 4611686018427387904)) = true then .ok (.seq (rng 0 j.toNat)) st1 else .no
  | _ => .no
def iRange2 (f : MA) (fr : Fr) (st : Sto) : Out ItD := (f fr st).bind fun ds st1 => match ds with
  | [.int i, .int j] => if (decide (-4611686018427387904 ≤ i) && decide (i < 4611686018427387904) && (decide (-4611686018427387904 ≤ j) && decide (j < 4611686018427387904))) = true then .ok (.seq (rng i (j - i).toNat)) st1 else .no
  | _ => .no
theorem rng_get {lo : Int} {n i : Nat} {d : D} (h : (rng lo n)[i]? = some d) : i < n ∧ d = .int (lo + (i : Int)) := by
  unfold rng at h
  rw [List.getElem?_map] at h
  by_cases hi : i < n
  · simp [hi] at h
    exact ⟨hi, h.symm⟩
  · simp [hi] at h
theorem rng_len (lo : Int) (n : Nat) : (rng lo n).length = n := by simp [rng]
theorem serves_range {K : PySem.W.Frag} {H : Hp} {R : Tr} {lo : Int} {n : Nat} : Serves K (.seq (rng lo n)) (Itr lo n) H R where
  go := fun i H2 R2 st2 e rel _ d hd => by
    obtain ⟨hi, rfl⟩ := rng_get hd
    refine ⟨hi, fun x H3 y => ?_⟩
    obtain ⟨rfl, rfl⟩ := y
    exact ⟨rel, Ext.refl, rfl⟩
  stop := fun i H2 R2 st2 e rel _ h => by
    rw [ItD.items_seq, rng_len] at h
    exact h
theorem i_range1 {tg a : Expr} {f : MA} {p : Pos} (hg : Gl X "range") (hm : X.mg "range" = none) (ha : IA X W [a] f) (hs : starEach [a] X.env = [(false, eval a X.env)] := by rfl) : II X W tg (.Call (.Name "range" p) [a] [] pos) (iRange1 f) := by
  refine ⟨PI.imp (pi_range1 hg hm ha.pa hs) fun σ H Q h => ?_⟩
  obtain ⟨R, st, fr, rel, rf, ok⟩ := h
  refine ⟨R, st, fr, rel, rf, okG.imp (okI.bind ok) fun x H1 R1 d st1 e1 rel1 r1 _ q => ?_⟩
  obtain ⟨R2, st2, d2, e2, rel2, r2, ok2⟩ := q
  split at ok2
  · split at ok2
    · rename_i j hj
      obtain ⟨v, rfl, h1⟩ := rvs1 r2
      cases (show v = _ from h1)
      rw [Bool.and_eq_true, decide_eq_true_eq, decide_eq_true_eq] at hj
      exact ⟨j, rfl, by omega, by omega, ok2 H1 R2 _ Ext.refl rel2 serves_range⟩
    · exact ok2.elim
  · exact ok2.elim
theorem i_range2 {tg a b : Expr} {f : MA} {p : Pos} (hg : Gl X "range") (hm : X.mg "range" = none) (ha : IA X W [a, b] f) (hs : starEach [a, b] X.env = [(false, eval a X.env), (false, eval b X.env)] := by rfl) (hs2 : starEach [b] X.env = [(false, eval b X.env)] := by rfl) :
    II X W tg (.Call (.Name "range" p) [a, b] [] pos) (iRange2 f) := by
  refine ⟨PI.imp (pi_range2 hg hm ha.pa hs hs2) fun σ H Q h => ?_⟩
  obtain ⟨R, st, fr, rel, rf, ok⟩ := h
  refine ⟨R, st, fr, rel, rf, okG.imp (okI.bind ok) fun x H1 R1 d st1 e1 rel1 r1 _ q => ?_⟩
  obtain ⟨R2, st2, d2, e2, rel2, r2, ok2⟩ := q
  split at ok2
  · split at ok2
    · rename_i i j hj
      obtain ⟨v, u, rfl, h1, h2⟩ := rvs2 r2
      cases (show v = _ from h1)
      cases (show u = _ from h2)
      simp only [Bool.and_eq_true, decide_eq_true_eq] at hj
      exact ⟨i, j, rfl, ⟨by omega, by omega, by omega, by omega⟩, ok2 H1 R2 _ Ext.refl rel2 serves_range⟩
    · exact ok2.elim
  · exact ok2.elim
/-- a list or a tuple -/
def iSeq (f : ME) (fr : Fr) (st : Sto) : Out ItD := (f fr st).bind fun d st1 => match d with
  | .tup ds => .ok (.seq ds) st1
  | .rol ds => .ok (.seq ds) st1
  | .fl ds => .ok (.seq ds) st1
  | .loc n => match st1[n]? with
    | some (.lst ds) => .ok (.cell n ds) st1
    | _ => .no
  | _ => .no
theorem PI.or {tg e : Expr} {t t' : TI} (h : PI X tg e t) (h' : PI X tg e t') : PI X tg e (fun σ H Q => t σ H Q ∨ t' σ H Q) := ⟨fun pins s σ H Q I q => by
  rcases q with q | q
  · exact h.run pins s σ H Q I q
  · exact h'.run pins s σ H Q I q⟩
theorem serves_tup {K : PySem.W.Frag} {H : Hp} {R : Tr} {ds : List D} {a : Addr} {vs : List V} (hs : SqT K H a vs) (rr : RVs K H R ds vs) : Serves K (.seq ds) (Itt K a) H R where
  go := fun i H2 R2 st2 e rel _ d hd => by
    obtain ⟨v, hv, rv⟩ := rr.get hd
    refine ⟨⟨vs, v, e.tup _ _ hs, hv⟩, fun x H3 y => ?_⟩
    obtain ⟨rfl, y⟩ := y
    have := y vs (e.tup _ _ hs)
    rw [hv] at this
    cases this
    exact ⟨rel, Ext.refl, rv.mono0 e⟩
  stop := fun i H2 R2 st2 e rel _ h => ⟨vs, e.tup _ _ hs, by rw [rr.length]; exact h⟩
theorem serves_rol {K : PySem.W.Frag} {H : Hp} {R : Tr} {ds : List D} {a : Addr} {vs : List V} (hs : SqF K H a vs) (rr : RVs K H R ds vs) : Serves K (.seq ds) (Itl K a) H R where
  go := fun i H2 R2 st2 e rel _ d hd => by
    obtain ⟨v, hv, rv⟩ := rr.get hd
    refine ⟨⟨vs, v, (e.frz _ _ hs).sq, hv⟩, fun x H3 y => ?_⟩
    obtain ⟨rfl, y⟩ := y
    have := y vs (e.frz _ _ hs).sq
    rw [hv] at this
    cases this
    exact ⟨rel, Ext.refl, rv.mono0 e⟩
  stop := fun i H2 R2 st2 e rel _ h => ⟨vs, (e.frz _ _ hs).sq, by rw [rr.length]; exact h⟩
theorem serves_fl {K : PySem.W.Frag} {H : Hp} {R : Tr} {ds : List D} {a : Addr} {vs : List V} (hs : H a = some (.lst vs)) (hf : R.free a) (rr : RVs K H R ds vs) : Serves K (.seq ds) (Itl K a) H R where
  go := fun i H2 R2 st2 e rel _ d hd => by
    obtain ⟨v, hv, rv⟩ := rr.get hd
    have q : SqL K H2 a vs := .inl (.inl (e.lst hs hf).1)
    refine ⟨⟨vs, v, q, hv⟩, fun x H3 y => ?_⟩
    obtain ⟨rfl, y⟩ := y
    have := y vs q
    rw [hv] at this
    cases this
    exact ⟨rel, Ext.refl, rv.mono0 e⟩
  stop := fun i H2 R2 st2 e rel _ h => ⟨vs, .inl (.inl (e.lst hs hf).1), by rw [rr.length]; exact h⟩
theorem serves_cell {K : PySem.W.Frag} {H : Hp} {R : Tr} {n : Nat} {ds : List D} {a : Addr} (ha : R.c[n]? = some a) : Serves K (.cell n ds) (Itl K a) H R where
  go := fun i H2 R2 st2 e rel hb d hd => by
    obtain ⟨vs, hv, rr⟩ := rel.lst (e.pre _ _ ha) (holdsB_of hb)
    obtain ⟨v, hv2, rv⟩ := rr.get hd
    refine ⟨⟨vs, v, .inl (.inl hv), hv2⟩, fun x H3 y => ?_⟩
    obtain ⟨rfl, y⟩ := y
    have := y vs (.inl (.inl hv))
    rw [hv2] at this
    cases this
    exact ⟨rel, Ext.refl, rv⟩
  stop := fun i H2 R2 st2 e rel hb h => by
    obtain ⟨vs, hv, rr⟩ := rel.lst (e.pre _ _ ha) (holdsB_of hb)
    exact ⟨vs, .inl (.inl hv), by rw [rr.length]; exact h⟩
theorem i_seq {tg e : Expr} {f : ME} (he : IE X W e f) : II X W tg e (iSeq f) := by
  refine ⟨PI.imp (PI.or (pi_list he.pe) (pi_tup he.pe)) fun σ H Q h => ?_⟩
  obtain ⟨R, st, fr, rel, rf, ok⟩ := h
  unfold iSeq at ok
  cases ef : f fr st with
  | no => rw [ef] at ok; exact ok.elim
  | ex c st1 =>
    rw [ef] at ok
    exact .inl ⟨R, st, fr, rel, rf, by rw [ef]; exact fun H' R' C hC e r => ok H' R' C hC e r⟩
  | ok d st1 =>
    rw [ef] at ok
    rw [Out.bind_ok] at ok
    have go : ∀ {Qv : VK}, (∀ H' R' v, Ext X.K H R H' R' → Rel X.K H' R' st1 → RV X.K H' R' d v → Qv v H') → tE X.K W f σ H Qv := fun q => ⟨R, st, fr, rel, rf, by rw [ef]; exact q⟩
    split at ok
    · rename_i ds
      refine .inr (go fun H' R' v e r rv => ?_)
      obtain ⟨a, vs, rfl, hs, rr⟩ := rv
      exact ⟨a, rfl, ⟨vs, hs⟩, ok H' R' _ e r (serves_tup hs rr)⟩
    · rename_i ds
      refine .inl (go fun H' R' v e r rv => ?_)
      obtain ⟨a, vs, rfl, hs, rr⟩ := rv
      exact ⟨a, rfl, ⟨vs, hs.sq⟩, ok H' R' _ e r (serves_rol hs rr)⟩
    · rename_i ds
      refine .inl (go fun H' R' v e r rv => ?_)
      obtain ⟨a, vs, rfl, hs, hf, rr⟩ := rv
      exact ⟨a, rfl, ⟨vs, .inl (.inl hs)⟩, ok H' R' _ e r (serves_fl hs hf rr)⟩
    · split at ok
      · rename_i n _ ds e0
        refine .inl (go fun H' R' v e r rv => ?_)
        obtain ⟨a, ha, rfl⟩ := rv
        obtain ⟨vs, hv, rr⟩ := r.lst ha e0
        exact ⟨a, rfl, ⟨vs, .inl (.inl hv)⟩, ok H' R' _ e r (serves_cell ha)⟩
      · exact ok.elim
    · exact ok.elim

/-! ### for -/
def forN (it : ItD) (g : MG) (b : MS) : List D → Fr → Sto → OutS
  | [], fr, st => if holdsB it st = true then .nx fr st else .no
  | d :: ds, fr, st => if holdsB it st = true then (g d fr st).then fr fun fr1 st1 => loopNext (forN it g b ds) (b fr1 st1) else .no
def sFor (f : MI) (g : MG) (b : MS) (fr : Fr) (st : Sto) : OutS := (f fr st).then fr fun it st1 => forN it g b it.items fr st1
theorem s_for {tg iter : Expr} {body : List Stmt} {f : MI} {g : MG} {b : MS} (hp : PassesOwn (model X.prog X.w) X.A X.env X.xe) (hc : X.calm = true) (hi : II X W tg iter f) (hg : IG X tg g) (ng : NoExG g) (hb : ISs X W body b)
    (hs : ∀ x, foldedSetIterable iter X.env x = pure x := by intro _; rfl) : IS X W (.For tg iter body [] pos) (sFor f g b) := by
  refine ⟨PS.imp (ps_for hp hc hi.pi hg.pg hb.pss hs) fun D σ H h => ?_⟩
  obtain ⟨R, st, fr, rel, rf, ok⟩ := h
  unfold sFor at ok
  refine ⟨R, st, fr, rel, rf, ?_⟩
  cases ef : f fr st with
  | no => rw [ef] at ok; exact ok.elim
  | ex c st1 => rw [ef] at ok; exact fun H' R' C hC e r => ok H' R' σ C hC e r (rf.mono e)
  | ok it st1 =>
    rw [ef, Out.then_ok] at ok
    intro H1 R1 J e1 rel1 sv
    refine ⟨fun i m σ' H' => m + i = it.items.length ∧ ∃ R' st' fr', Ext X.K H1 R1 H' R' ∧ Rel X.K H' R' st' ∧ RFr X.K H' R' fr' σ' ∧ okS X.K W H' R' D (forN it g b (it.items.drop i) fr' st'), ⟨it.items.length, by omega, R1, st1, fr, Ext.refl, rel1, rf.mono e1, okS.ext ok e1⟩, ?_⟩
    rintro i m σ' H' ⟨em, R', st', fr', e', rel', rf', ok'⟩
    by_cases hi : i < it.items.length
    · rw [List.drop_eq_getElem_cons hi] at ok'
      unfold forN at ok'
      split at ok'
      · rename_i hb'
        have gd : it.items[i]? = some it.items[i] := List.getElem?_eq_getElem hi
        obtain ⟨g1, g2⟩ := sv.go i H' R' st' (e').e0 rel' hb' _ gd
        refine .inr ⟨g1, fun σ'' H'' => ∃ R' st' fr', Ext X.K H1 R1 H'' R' ∧ Rel X.K H'' R' st' ∧ RFr X.K H'' R' fr' σ'' ∧ okS X.K W H'' R' D (forN it g b (it.items.drop (i + 1)) fr' st'), fun σ'' H'' q => ⟨m - 1, by omega, by omega, q⟩, fun x H3 y => ?_⟩
        obtain ⟨rel3, e3, rv3⟩ := g2 x H3 y
        refine ⟨R', st', fr', _, rel3, rf'.mono e3, rv3, ?_⟩
        have ok3 := okS.ext ok' e3
        cases eg : g it.items[i] fr' st' with
        | no => rw [eg] at ok3; exact ok3.elim
        | ex c st4 => exact absurd eg (ng _ _ _ _ _)
        | ok fr4 st4 =>
          rw [eg, Out.then_ok] at ok3
          intro H5 R5 σ5 e5 rel5 rf5
          refine ⟨R5, st4, fr4, rel5, rf5, loop_ok (fun H6 R6 σ6 fr6 st6 r6 f6 x6 o6 => ⟨R6, st6, fr6, ((e'.trans e3).trans e5).trans x6, r6, f6, o6⟩) (okS.ext ok3 e5)⟩
      · exact ok'.elim
    · have ei : it.items.drop i = [] := List.drop_eq_nil_of_le (by omega)
      rw [ei] at ok'
      unfold forN at ok'
      split at ok'
      · rename_i hb'
        exact .inl ⟨sv.stop i H' R' st' (e').e0 rel' hb' (by omega), nx_ok ok' rel' rf'⟩
      · exact ok'.elim

/-! ### calls -/
def okF (K : PySem.W.Frag) (H : Hp) (R : Tr) (Q : VK) (E : XK) (o : Out D) : Prop := okG (fun c d _ H => E c d H) [] H R (RV K) K Q o
def spM (K : PySem.W.Frag) (F : MF) (n : Nat) : Sp := fun vs H Q E => vs.length = n ∧ ∃ R st ds, Rel K H R st ∧ RVs K H R ds vs ∧ okF K H R Q E (F ds st)
/-- a def of the module that does what F says -/
structure Def (P : Program) (w : World) (K : PySem.W.Frag) (mg : Str → Option Value) (base : Heap) (x : Str) (k : Nat) (ps : List Str) (F : MF) : Prop where
  ex : ∃ f fd, FnOk P w K mg base (L2N.CX P w) k f fd ps (spM K F ps.length) ∧ mg x = some (.ref f) ∧ PySem.W.keepIn K (.ref f) = true ∧ Binds K fd ps []
  ar : ∀ ds st, F ds st ≠ .no → ds.length = ps.length
def eCall (F : MF) (g : MA) (fr : Fr) (st : Sto) : Out D := (g fr st).bind F
theorem tcall_ok {F : MF} {g : MA} {n : Nat} (ar : ∀ ds st, F ds st ≠ .no → ds.length = n) {σ : L2.St} {H : Hp} {Q : VK} (h : tE X.K W (eCall F g) σ H Q) : tCallS (spM X.K F n) (WE W) (tA X.K W g) σ H Q := by
  obtain ⟨R, st, fr, rel, rf, ok⟩ := h
  refine ⟨R, st, fr, rel, rf, okG.imp (okG.bind ok) fun x H1 R1 d st1 e1 rel1 r1 _ q => ?_⟩
  obtain ⟨R2, st2, d2, e2, rel2, r2, ok2⟩ := q
  refine ⟨?_, R2, st2, d2, rel2, r2, ?_⟩
  · rw [r2.length]
    refine ar d2 st2 fun z => ?_
    rw [z] at ok2
    exact ok2
  · unfold okF
    cases e : F d2 st2 with
    | ok d st => rw [e] at ok2; exact ok2
    | ex c st => rw [e] at ok2; exact ok2
    | no => rw [e] at ok2; exact ok2
theorem e_call {x : Str} {k : Nat} {ps : List Str} {F : MF} {e : Expr} {es : List Expr} {g : MA} {p : Pos} (c : Ctx X W) (d : Def X.prog X.w X.K X.mg X.base x k ps F) (hr : Room k X.A) (ha : IA X W (e :: es) g) (hg : Gl X x := by rfl) (hdb : (x == ("__debug__" : Str)) = false := by decide)
    (he : starEach (e :: es) X.env = (false, eval e X.env) :: starEach es X.env := by rfl) (hpl : (backTo pos (starEach es X.env)).any (·.1) = false := by rfl) : IE X W (.Call (.Name x p) (e :: es) [] pos) (eCall F g) := by
  obtain ⟨f, fd, G, hm, hk, hb⟩ := d.ex
  exact ⟨PE.imp (pe_callS G hr hg hm hk hb c.pas ha.pa hdb he hpl) fun σ H Q h => tcall_ok d.ar h⟩
end

/-! ### defs -/
def mF (n len : Nat) (m : MS) (ds : List D) (st : Sto) : Out D := if ds.length = n then (match m (ds.map some ++ List.replicate (len - n) none) st with
  | .nx _ st' => .ok .non st'
  | .rt d st' => .ok d st'
  | .ex c _ st' => .ex c st'
  | _ => .no) else .no
theorem mF_ar {n len : Nat} {m : MS} (ds : List D) (st : Sto) (h : mF n len m ds st ≠ .no) : ds.length = n := by
  unfold mF at h
  split at h
  · assumption
  · exact absurd rfl h
theorem rfr_start {K : PySem.W.Frag} {H : Hp} {R : Tr} {N : List Str} {ds : List D} {vs : List V} (r : RVs K H R ds vs) : RFr K H R (ds.map some ++ List.replicate (N.length - ds.length) none) (L2.start N vs) := by
  refine ⟨by unfold L2.start; rw [List.length_append, List.length_append, List.length_map, List.length_map, List.length_replicate, List.length_replicate, r.length], fun i d h => ?_⟩
  rw [fget_eq] at h
  by_cases hi : i < ds.length
  · rw [List.getElem?_append_left (by simpa using hi), List.getElem?_map, List.getElem?_eq_getElem hi] at h
    have e : ds[i] = d := by simpa using h
    obtain ⟨v, hv, rv⟩ := r.get (i := i) (d := d) (by rw [List.getElem?_eq_getElem hi, e])
    refine ⟨v, ?_, rv⟩
    unfold L2.start
    rw [List.getElem?_append_left (by rw [List.length_map, r.length]; exact hi), List.getElem?_map, hv]
    rfl
  · rw [List.getElem?_append_right (by simpa using hi), List.getElem?_replicate] at h
    split at h <;> cases h
theorem def_of {P : Program} {w : World} {K : PySem.W.Frag} {mg : Str → Option Value} {base : Heap} {x qual : Str} {s : Stmt} {f : Addr} {fd : FuncData} {N ps : List Str} {k : Nat} {m : MS}
    (F : Fun K x qual s f fd) (S : FnScope N ps (defScope s)) (hm : mg x = some (.ref f)) (hb : Binds K fd ps [])
    (body : ∀ (cdv : Value) (A : Around) (outer : List Env) (s1 : Shared) (H : Hp) (E : XK), Room k (A.deeper (envOfC qual (defScope s) s1.heap.objs.size f cdv)) →
      Ctx (cxOf (L2N.CX P w) P w K mg base N qual (defScope s) f cdv A outer s1 H E) (fun c d _ H => E c d H) →
      PassesOwn (model P w) (A.deeper (envOfC qual (defScope s) s1.heap.objs.size f cdv)) (cxOf (L2N.CX P w) P w K mg base N qual (defScope s) f cdv A outer s1 H E).env (cxOf (L2N.CX P w) P w K mg base N qual (defScope s) f cdv A outer s1 H E).xe →
      ISs (cxOf (L2N.CX P w) P w K mg base N qual (defScope s) f cdv A outer s1 H E) (fun c d _ H => E c d H) (defBody s) m) :
    Def P w K mg base x (k + 1) ps (mF ps.length N.length m) := by
  refine ⟨⟨f, fd, ?_, hm, F.kp, hb⟩, fun ds st h => mF_ar ds st h⟩
  obtain ⟨oc, od, kV, doc, pm, an, cdv, ct, osl, rfl, lk, hcd⟩ := F.ex
  refine fn_of lk hcd S (fun vs H Q E h => h.1) fun A outer s1 H vs Q E hr hsp => ?_
  obtain ⟨hl, R, st, ds, rel, r, ok⟩ := hsp
  have tk : L2N.Takes (cxOf (L2N.CX P w) P w K mg base N qual (defScope s) f cdv A outer s1 H E) (fun c d _ H => E c d H) := L2N.takes_of rfl rfl rfl rfl
  have c : Ctx (cxOf (L2N.CX P w) P w K mg base N qual (defScope s) f cdv A outer s1 H E) (fun c d _ H => E c d H) := ⟨rfl, S.nd, fun σ => L2N.passAt tk σ, tk⟩
  refine ⟨_, (body cdv A outer s1 H E hr c (passes_of rfl)).pss, R, st, _, rel, rfr_start r, ?_⟩
  have hn : ds.length = ps.length := by rw [← r.length]; exact hl
  unfold mF okF at ok
  rw [if_pos hn, ← hn] at ok
  cases e : m (ds.map some ++ List.replicate (N.length - ds.length) none) st with
  | nx fr' st' => rw [e] at ok; exact fun H' R' σ' ex rl rf => ok H' R' _ ex rl rfl
  | rt d st' => rw [e] at ok; exact fun H' R' v ex rl rf => ok H' R' v ex rl rf
  | ex c fr' st' => rw [e] at ok; exact fun H' R' σ' C hC ex rl rf => ok H' R' C hC ex rl
  | bk fr' st' => rw [e] at ok; exact ok.elim
  | ct fr' st' => rw [e] at ok; exact ok.elim
  | no => rw [e] at ok; exact ok.elim
end Vi
set_option maxRecDepth 100000
set_option maxHeartbeats 2000000
/-! Vi5: comprehensions; what is forgotten behind a call. -/
namespace Vi
open PySem PySem.Spec PyProof.Rows L2
section
variable {K : PySem.W.Frag} {H H' H1 : Hp} {R R' R1 : Tr} {st : Sto} {fr : Fr} {σ : L2.St}

/-! ### a list that is tracked aside -/
theorem Ext0.side {a : Addr} {ys vs : List V} (na : a ∈ R.s) (hv : H a = some (.lst vs)) : Ext0 K H R (upd H a (.lst ys)) R :=
  ⟨fun _ _ z => z, fun _ z => z, fun _ z => .inl z, fun _ z => upd_none z, fun _ _ z => sqT_upd (fun u q => by rw [hv] at q; cases q; exact ⟨fun _ y => (nomatch y), fun _ _ y => (nomatch y)⟩) z,
    fun _ _ z => sqF_upd (fun u q => by rw [hv] at q; cases q; exact ⟨fun _ y => (nomatch y), fun _ _ y => (nomatch y)⟩) z,
    fun b o q n => ⟨⟨o, by rw [upd_ne (fun z => n.2 (by rw [z]; exact na))]; exact q, Lk.refl o⟩, n.1⟩⟩
theorem Rel.side {a : Addr} {ys vs : List V} (h : Rel K H R st) (na : a ∈ R.s) (hv : H a = some (.lst vs)) : Rel K (upd H a (.lst ys)) R st :=
  ⟨h.nd, h.len, fun i u e => let ⟨b, h1, h2⟩ := h.ob i u e; ⟨b, h1, h2.mono0 (Ext0.side na hv) fun v q => by rw [upd_ne (fun z => h.apart (by rw [← z]; exact mem_of_ix h1) na)]; exact q⟩,
    fun b hb => by
      by_cases e : b = a
      · rw [e]; exact ⟨ys, upd_same⟩
      · obtain ⟨xs, q⟩ := h.st b hb
        exact ⟨xs, by rw [upd_ne e]; exact q⟩, h.tb0 (Ext0.side na hv)⟩
/-- .. of which the beginning knew nothing -/
theorem Ext.side {a : Addr} {ys vs : List V} (e : Ext K H1 R1 H R) (n1 : H1 a = none) (hv : H a = some (.lst vs)) : Ext K H1 R1 (upd H a (.lst ys)) R :=
  ⟨e.pre, e.sk, e.sd, fun b z => e.th b (upd_none z), fun _ _ z => sqT_upd (fun u q => by rw [hv] at q; cases q; exact ⟨fun _ y => (nomatch y), fun _ _ y => (nomatch y)⟩) (e.tup _ _ z),
    fun _ _ z => sqF_upd (fun u q => by rw [hv] at q; cases q; exact ⟨fun _ y => (nomatch y), fun _ _ y => (nomatch y)⟩) (e.frz _ _ z),
    fun b o z n => let ⟨⟨o', q1, q2⟩, q3⟩ := e.kp b o z n; ⟨⟨o', by rw [upd_ne (ne_of_none z n1)]; exact q1, q2⟩, q3⟩⟩
/-- the end of what was tracked aside -/
theorem Ext.pop {a : Addr} (e : Ext K H1 R1 H R) (n1 : H1 a = none) (r1 : ∀ b ∈ R1.s, ∃ xs, H1 b = some (.lst xs)) : Ext K H1 R1 H (R.pop a) :=
  ⟨e.pre, fun b h => Tr.pop_mem.mpr ⟨e.sk b h, by
      obtain ⟨xs, q⟩ := r1 b h
      exact ne_of_none q n1⟩, fun b h => e.sd b (Tr.pop_mem.mp h).1, e.th, e.tup, e.frz, e.kp⟩
/-- .. becomes a cell -/
theorem Rel.adopt {a : Addr} {ds : List D} {vs : List V} (h : Rel K H R st) (na : a ∈ R.s) (hv : H a = some (.lst vs)) (r : RVs K H R ds vs) : Rel K H ((R.pop a).add a) (st ++ [.lst ds]) := by
  have l0 : Less R ((R.pop a).add a) := ⟨fun i b z => by
      show (R.c ++ [a])[i]? = some b
      rw [List.getElem?_append_left (List.getElem?_eq_some_iff.mp z).1]; exact z, fun b z => ⟨by
      show b ∉ R.c ++ [a]
      rw [List.mem_append, List.mem_singleton]
      rintro (y | y)
      · exact z.1 y
      · exact z.2 (by rw [y]; exact na), fun y => z.2 (Tr.pop_mem.mp y).1⟩⟩
  refine ⟨?_, by show (R.c ++ [a]).length = _; rw [List.length_append, List.length_append, h.len]; rfl, fun i u q => ?_, fun b hb => h.st b (Tr.pop_mem.mp hb).1, fun P hP => ⟨(h.tb P hP).1, l0.f P (h.tb P hP).2⟩⟩
  · show (R.c ++ [a] ++ (R.pop a).s).Nodup
    have := h.nd
    rw [List.append_assoc, List.nodup_append]
    rw [List.nodup_append] at this
    refine ⟨this.1, List.nodup_cons.mpr ⟨fun z => (Tr.pop_mem.mp z).2 rfl, this.2.1.sublist List.filter_sublist⟩, fun x hx y hy => ?_⟩
    rcases List.mem_cons.mp hy with rfl | hy
    · rintro rfl
      exact h.apart hx na
    · exact this.2.2 x hx y (Tr.pop_mem.mp hy).1
  · by_cases hi : i < st.length
    · rw [List.getElem?_append_left hi] at q
      obtain ⟨b, h1, h2⟩ := h.ob i u q
      exact ⟨b, l0.c _ _ h1, h2.less l0⟩
    · rw [List.getElem?_append_right (by omega)] at q
      have hi2 : i = st.length := by
        have := (List.getElem?_eq_some_iff.mp q).1
        simp at this
        omega
      subst hi2
      have e2 : O.lst ds = u := by simpa using q
      subst e2
      exact ⟨a, by show (R.c ++ [a])[st.length]? = some a; rw [← h.len]; simp, vs, hv, r.less l0⟩
theorem Ext.adopt {a : Addr} (e : Ext K H1 R1 H R) (n1 : H1 a = none) (r1 : ∀ b ∈ R1.s, ∃ xs, H1 b = some (.lst xs)) : Ext K H1 R1 H ((R.pop a).add a) :=
  let p := e.pop n1 r1
  ⟨fun i b z => by
      have z' := e.pre i b z
      show (R.c ++ [a])[i]? = some b
      rw [List.getElem?_append_left (List.getElem?_eq_some_iff.mp z').1]
      exact z', p.sk, p.sd, p.th, p.tup, p.frz,
    fun b o z n => let ⟨q1, q2⟩ := e.kp b o z n; ⟨q1, by
      show b ∉ R.c ++ [a]
      rw [List.mem_append, List.mem_singleton]
      rintro (y | y)
      · exact q2 y
      · exact ne_of_none z n1 y⟩⟩
/-- what a comprehension's list becomes -/
theorem MkL.end {mk : List D → Sto → Out D} (m : MkL mk) {W : WX} {σ : L2.St} {Q : VK} {a : Addr} {ds : List D} {vs : List V} (rel1 : ∀ b ∈ R1.s, ∃ xs, H1 b = some (.lst xs)) (e : Ext K H1 R1 H R) (n1 : H1 a = none) (rel : Rel K H R st) (na : a ∈ R.s)
    (hv : H a = some (.lst vs)) (r : RVs K H R ds vs) (ok : okG W σ H1 R1 (RV K) K Q (mk ds st)) : Q (.ref a) H := by
  have hl := m.len ok
  cases m with
  | l =>
    unfold mkLst at ok
    rw [if_pos hl] at ok
    exact ok H _ _ (e.adopt n1 rel1) (rel.adopt na hv r) ⟨a, by show (R.c ++ [a])[st.length]? = some a; rw [← rel.len]; simp, rfl⟩
  | f =>
    unfold mkFl at ok
    rw [if_pos hl] at ok
    exact ok H _ _ (e.pop n1 rel1) rel.pop ⟨a, vs, rfl, hv, ⟨fun z => rel.apart z na, fun z => (Tr.pop_mem.mp z).2 rfl⟩, r.less Less.pop⟩

/-! ### slots forgotten -/
theorem RFr.forget {i : Nat} (h : RFr K H R fr σ) : RFr K H R (fset fr i none) (σ.set i none) := by
  refine ⟨by rw [fset_length, List.length_set, h.len], fun j d' q => ?_⟩
  rw [fset_eq, fget_eq] at q
  by_cases hij : i = j
  · subst hij
    by_cases hi : i < fr.length
    · rw [List.getElem?_set_self hi] at q
      cases q
    · rw [List.getElem?_eq_none (by rw [List.length_set]; omega)] at q
      cases q
  · rw [List.getElem?_set_ne hij] at q
    rw [List.getElem?_set_ne hij]
    exact h.slot j d' (by rw [fget_eq]; exact q)
theorem RFr.wipe (h : RFr K H R fr σ) : ∀ vs, RFr K H R (fwipe fr vs) (L2.wipe σ vs)
  | [] => h
  | v :: vs => (RFr.wipe h vs).forget
end

/-! ### [e for x in it if t] -/
def lcN (it : ItD) (g : MG) (t : MT) (e : ME) : List D → Fr → Sto → Out (List D)
  | [], fr, st => if holdsB it st = true then .ok [] st else .no
  | d :: ds, fr, st => if holdsB it st = true then (g d fr st).bind fun fr1 st1 => (t fr1 st1).bind fun k st2 =>
      if k = true then (e fr1 st2).bind fun y st3 => (lcN it g t e ds fr st3).bind fun ys st4 => .ok (y :: ys) st4 else lcN it g t e ds fr st2 else .no
def eLc (mk : List D → Sto → Out D) (vs : List Nat) (f : MI) (g : MG) (t : MT) (e : ME) (fr : Fr) (st : Sto) : Out D := (f fr st).bind fun it st1 => (lcN it g t e it.items (fwipe fr vs) st1).nox.bind mk
section
variable {X : Cx} {W : WX} {pos : Pos}
/-- a target of a comprehension: it stores to the block's own slots alone -/
structure IGc (X : Cx) (t : Expr) (vs : List Nat) (g : MG) (g0 : TG) : Prop where
  pg : PG X t g0
  st : ∀ (v : V) (σ : L2.St) (H : Hp) (Q : L2.St → Hp → Prop) (R : Tr) (st : Sto) (fr : Fr) (d : D), Rel X.K H R st → RFr X.K H R fr σ → RV X.K H R d v →
    okG W0 [] H R (rvF X.K) X.K (fun σ' H' => L2.wipe σ' vs = L2.wipe σ vs → Q σ' H') (g d fr st) → g0 v σ H Q
theorem wipe_set {σ : L2.St} {i : Nat} {x : Option V} : ∀ {vs : List Nat}, i ∈ vs → L2.wipe (σ.set i x) vs = L2.wipe σ vs
  | [], h => by simp at h
  | v :: vs, h => by
    unfold L2.wipe
    by_cases hv : i ∈ vs
    · rw [wipe_set hv]
    · have e : i = v := by
        rcases List.mem_cons.mp h with e | e
        · exact e
        · exact absurd e hv
      subst e
      clear h
      have go : ∀ ws : List Nat, i ∉ ws → L2.wipe (σ.set i x) ws = (L2.wipe σ ws).set i x := by
        intro ws
        induction ws with
        | nil => intro _; rfl
        | cons w ws ih =>
          intro hw
          rw [List.mem_cons, not_or] at hw
          unfold L2.wipe
          rw [ih hw.2, List.set_comm _ _ hw.1]
      rw [go vs hv, List.set_set]
theorem gc_name (i : Nat) {vs : List Nat} {x : Str} (hN : X.N.Nodup) (hv : i ∈ vs := by decide) (hi : X.N[i]? = some x := by rfl) (hx : Loc X.env.scope x := by first | exact .inl rfl | exact .inr rfl) (hf : X.fn x = true ∨ X.env.scope.names.lookup x = some .local := by first | exact .inl rfl | exact .inr rfl | assumption) : IGc X (.Name x pos) vs (gN i) (gName i) := by
  refine ⟨pg_name hN hi hx hf, fun v σ H Q R st fr d rel rf r ok => ?_⟩
  exact ok H R _ Ext.refl rel (rf.set r) (wipe_set hv)
structure IGcs (X : Cx) (t : List Expr) (vs : List Nat) (g : MGs) (g0 : TGs) : Prop where
  pgs : PGs X t g0
  st : ∀ (us : List V) (σ : L2.St) (H : Hp) (Q : L2.St → Hp → Prop) (R : Tr) (st : Sto) (fr : Fr) (ds : List D), Rel X.K H R st → RFr X.K H R fr σ → RVs X.K H R ds us →
    okG W0 [] H R (rvF X.K) X.K (fun σ' H' => L2.wipe σ' vs = L2.wipe σ vs → Q σ' H') (g ds fr st) → g0 us σ H Q
theorem gcs_nil {vs : List Nat} : IGcs X [] vs gsNil gNil := by
  refine ⟨pgs_nil, fun us σ H Q R st fr ds rel rf r ok => ?_⟩
  cases ds with
  | nil => exact ⟨r, ok H R σ Ext.refl rel rf rfl⟩
  | cons d ds => exact ok.elim
theorem gcs_cons {e : Expr} {es : List Expr} {vs : List Nat} {g : MG} {h : MGs} {g0 : TG} {g1 : TGs} (h1 : IGc X e vs g g0) (h2 : IGcs X es vs h g1) (hs : (assignEach (e :: es) X.env).map (·.2) = assign e X.env :: (assignEach es X.env).map (·.2) := by rfl) : IGcs X (e :: es) vs (gsCons g h) (gCons g0 g1) := by
  obtain ⟨p0, q0⟩ := h1
  obtain ⟨p1, q1⟩ := h2
  refine ⟨pgs_cons p0 p1 hs, fun us σ H Q R st fr ds rel rf r ok => ?_⟩
  cases ds with
  | nil => exact ok.elim
  | cons d ds =>
    obtain ⟨v, q, rfl, r1, r2⟩ := r
    refine ⟨v, q, rfl, q0 v σ H _ R st fr d rel rf r1 (okG.imp (okG.bind ok) fun σ1 H1 R1 fr1 st1 e1 rel1 rf1 _ z1 => ?_)⟩
    obtain ⟨R2, st2, fr2, e2, rel2, rf2, ok2⟩ := z1
    intro hw
    exact q1 q σ1 H1 Q R2 st2 fr2 ds rel2 rf2 (r2.mono e2) (okG.imp ok2 fun σ3 H3 R3 fr3 st3 e3 rel3 rf3 _ z3 hw3 => z3 (hw3.trans hw))
theorem gc_tup {es : List Expr} {k : Nat} {vs : List Nat} {h : MGs} {g0 : TGs} {n : Nat} (hc : X.calm = true) (hh : IGcs X es vs h g0) (hn : (assignEach es X.env).length = n := by rfl) (hst : (assignEach es X.env).findIdx? (·.1) = none := by rfl) : IGc X (.Tuple es k pos) vs (gT n h) (gTup X.K n g0) := by
  obtain ⟨p0, q0⟩ := hh
  refine ⟨pg_tup hc p0 hn hst, fun v σ H Q R st fr d rel rf r ok => ?_⟩
  cases d with
  | tup ds =>
    obtain ⟨a, us, rfl, hs, rr⟩ := r
    unfold gT at ok
    dsimp only at ok
    split at ok
    · rename_i hl
      exact ⟨a, us, rfl, hs, by rw [rr.length]; exact hl, q0 us σ H Q R st fr ds rel rf rr ok⟩
    · exact ok.elim
  | _ => exact ok.elim
structure ITs (X : Cx) (ifs : List Expr) (t : MT) : Prop where
  pts : PTs X ifs (tT X.K W0 t)
theorem its_nil : ITs X [] tTrue := ⟨⟨fun pins s σ H Q I h => by
  obtain ⟨R, st, fr, rel, rf, ok⟩ := h
  exact pts_nil.run pins s σ H Q I (ok H R true Ext.refl rel rfl)⟩⟩
theorem its_one {c : Expr} {t : MT} (h : IT X W0 c t) : ITs X [c] t := ⟨pts_one h.pt⟩
theorem acc_len {mk : List D → Sto → Out D} (m : MkL mk) {K : PySem.W.Frag} {W : WX} {σ : L2.St} {H : Hp} {R : Tr} {Q : VK} {acc : List D} {x : Out (List D)} (h : okG W σ H R (RV K) K Q (x.nox.bind fun ys st2 => mk (acc ++ ys) st2)) : acc.length ≤ 16000000 := by
  cases x with
  | ok ys st =>
    have hz := m.len (ds := acc ++ ys) (st := st) h
    rw [List.length_append] at hz
    omega
  | ex c st => exact h.elim
  | no => exact h.elim
theorem lc_ok {mk : List D → Sto → Out D} (mm : MkL mk) {f : MI} {g : MG} {t : MT} {e : ME} {vs : List Nat} {g0 : TG}
    (hg0 : ∀ (v : V) (σ : L2.St) (H : Hp) (Q : L2.St → Hp → Prop) (R : Tr) (st : Sto) (fr : Fr) (d : D), Rel X.K H R st → RFr X.K H R fr σ → RV X.K H R d v →
      okG W0 [] H R (rvF X.K) X.K (fun σ' H' => L2.wipe σ' vs = L2.wipe σ vs → Q σ' H') (g d fr st) → g0 v σ H Q)
    (ww : ∀ σ : L2.St, L2.wipe (L2.wipe σ vs) vs = L2.wipe σ vs)
    {σ : L2.St} {H : Hp} {Q : VK} (h : tE X.K W (eLc mk vs f g t e) σ H Q) : tLc (tIt X.K W f) g0 (tT X.K W0 t) (tE X.K W0 e) vs σ H Q := by
  obtain ⟨R, st, fr, rel, rf, ok⟩ := h
  refine ⟨R, st, fr, rel, rf, ?_⟩
  unfold eLc at ok
  cases ef : f fr st with
  | no => rw [ef] at ok; exact ok.elim
  | ex c st1 => rw [ef] at ok; exact ok
  | ok it st1 =>
    rw [ef, Out.bind_ok] at ok
    intro H1 R1 J e1 rel1 sv D hD
    have ok1 := okG.ext ok e1
    have rf1 : RFr X.K H1 R1 (fwipe fr vs) (L2.wipe σ vs) := (rf.mono e1).wipe vs
    have side : Ext X.K H1 R1 (upd H1 D (.lst [])) (R1.put D) := Ext.aside hD
    refine ⟨fun i m H' => m + i = it.items.length ∧ ∃ R' st' acc accv, Ext X.K H1 R1 H' R' ∧ Rel X.K H' R' st' ∧ D ∈ R'.s ∧ H' D = some (.lst accv) ∧ RVs X.K H' R' acc accv ∧
        okG W σ H1 R1 (RV X.K) X.K Q ((lcN it g t e (it.items.drop i) (fwipe fr vs) st').nox.bind fun ys st2 => mk (acc ++ ys) st2),
      ⟨it.items.length, by omega, R1.put D, st1, [], [], side, rel1.put hD, List.mem_cons_self, upd_same, rfl, ok1⟩, ?_⟩
    rintro i m H' ⟨em, R', st', acc, accv, e', rel', nD, hDv, racc, ok'⟩
    by_cases hi : i < it.items.length
    · rw [List.drop_eq_getElem_cons hi] at ok'
      unfold lcN at ok'
      split at ok'
      · rename_i hb'
        obtain ⟨g1, g2⟩ := sv.go i H' R' st' (e').e0 rel' hb' _ (List.getElem?_eq_getElem hi)
        refine .inr ⟨g1, fun H'' => ∃ R' st' acc accv, Ext X.K H1 R1 H'' R' ∧ Rel X.K H'' R' st' ∧ D ∈ R'.s ∧ H'' D = some (.lst accv) ∧ RVs X.K H'' R' acc accv ∧
          okG W σ H1 R1 (RV X.K) X.K Q ((lcN it g t e (it.items.drop (i + 1)) (fwipe fr vs) st').nox.bind fun ys st2 => mk (acc ++ ys) st2), fun H'' q => ⟨m - 1, by omega, by omega, q⟩, fun x H3 y => ?_⟩
        obtain ⟨rel3, e3, rv3⟩ := g2 x H3 y
        have rf3 := ((rf1.mono e').mono e3)
        rw [Out.nox_bind, Out.bind_assoc] at ok'
        refine hg0 x (L2.wipe σ vs) H3 _ R' st' (fwipe fr vs) _ rel3 rf3 rv3 (okG.imp (okG.bindN ok') fun σ4 H4 R4 fr4 st4 e4 rel4 rf4 _ q4 hw => ?_)
        obtain ⟨R5, st5, fr5, e5, rel5, rf5, ok5⟩ := q4
        refine ⟨hw.trans (ww σ), R5, st5, fr5, rel5, rf5, ?_⟩
        rw [Out.nox_bind, Out.bind_assoc] at ok5
        refine okG.imp (okG.bindN ok5) fun b H6 R6 d6 st6 e6 rel6 r6 _ q6 => ?_
        obtain ⟨R7, st7, b7, e7, rel7, r7, ok7⟩ := q6
        obtain rfl : b = b7 := r7
        have e'7 : Ext X.K H1 R1 H6 R7 := ((e'.trans e3).trans e5).trans e7
        have kD : H6 D = some (.lst accv) ∧ D ∈ R7.s := by
          have ea := e3.trans (e5.trans e7)
          exact ⟨(ea.lst' hDv fun z => rel'.apart z nD).1, ea.sk D nD⟩
        cases b with
        | false =>
          rw [if_neg Bool.false_ne_true] at ok7 ⊢
          exact ⟨R7, st7, acc, accv, e'7, rel7, kD.2, kD.1, ((racc.mono e3).mono e5).mono e7, ok7⟩
        | true =>
          rw [if_pos rfl] at ok7 ⊢
          rw [Out.nox_bind, Out.bind_assoc] at ok7
          refine ⟨R7, st7, fr5, rel7, rf5.mono e7, okG.imp (okG.bindN ok7) fun y8 H8 R8 d8 st8 e8 rel8 r8 _ q8 => ?_⟩
          obtain ⟨R9, st9, d9, e9, rel9, r9, ok9⟩ := q8
          rw [Out.nox_bind, Out.bind_assoc] at ok9
          have ok9' : okG W σ H1 R1 (RV X.K) X.K Q ((lcN it g t e (it.items.drop (i + 1)) (fwipe fr vs) st9).nox.bind fun ys st2 => mk ((acc ++ [d9]) ++ ys) st2) := by
            have z : (fun (a : List Vi.D) st => ((Out.ok (d9 :: a) st : Out (List Vi.D)).nox).bind fun ys st2 => mk (acc ++ ys) st2) = fun ys st2 => mk ((acc ++ [d9]) ++ ys) st2 := by
              funext ys st2
              show mk (acc ++ d9 :: ys) st2 = _
              rw [List.append_assoc]
              rfl
            rw [← z]
            exact ok9
          have k9 : H8 D = some (.lst accv) ∧ D ∈ R9.s := ⟨(e9.lst' kD.1 fun z => rel7.apart z kD.2).1, e9.sk D kD.2⟩
          have hl := acc_len mm ok9'
          rw [List.length_append, List.length_singleton] at hl
          have racc9 : RVs X.K H8 R9 (acc ++ [d9]) (accv ++ [y8]) := RVs.append ((((racc.mono e3).mono e5).mono e7).mono e9) (RVs.cons r9 RVs.nil)
          exact ⟨accv, k9.1, by rw [racc.length]; exact big_lt (by omega), R9, st9, acc ++ [d9], accv ++ [y8], (e'7.trans e9).side hD k9.1, rel9.side k9.2 k9.1, k9.2, upd_same, racc9.mono0 (Ext0.side k9.2 k9.1), ok9'⟩
      · exact ok'.elim
    · have ei : it.items.drop i = [] := List.drop_eq_nil_of_le (by omega)
      rw [ei] at ok'
      unfold lcN at ok'
      split at ok'
      · rename_i hb'
        refine .inl ⟨sv.stop i H' R' st' (e').e0 rel' hb' (by omega), ?_⟩
        rw [Out.nox_ok, Out.bind_ok, List.append_nil] at ok'
        exact mm.end rel1.st e' hD rel' nD hDv racc ok'
      · exact ok'.elim
theorem wipe_twice : ∀ (σ : L2.St) (vs : List Nat), L2.wipe (L2.wipe σ vs) vs = L2.wipe σ vs := by
  have go : ∀ (vs : List Nat) (σ : L2.St) (i : Nat), L2.wipe (σ.set i none) vs = (L2.wipe σ vs).set i none := by
    intro vs
    induction vs with
    | nil => intro _ _; rfl
    | cons v vs ih =>
      intro σ i
      unfold L2.wipe
      rw [ih]
      by_cases h : i = v
      · subst h; rfl
      · rw [List.set_comm _ _ h]
  intro σ vs
  induction vs generalizing σ with
  | nil => rfl
  | cons v vs ih =>
    show (L2.wipe ((L2.wipe σ vs).set v none) vs).set v none = (L2.wipe σ vs).set v none
    rw [go, ih, List.set_set]
section
variable {elt tg iter : Expr} {ifs : List Expr} {scope : Scope} {own : List (Str × Nat)} {f : MI} {g : MG} {g0 : TG} {t : MT} {e : ME}
theorem ctx_blk {s : Shared} {H : Hp} {scope : Scope} {cenv : Env} {fp : List Addr} (hc : X.calm = true) (hN : X.N.Nodup) : Ctx (X.blk s H scope cenv fp) W0 := ⟨hc, hN, pas0, takes0⟩
theorem e_lc {mk : List D → Sto → Out D} (mm : MkL mk) (c : Ctx X W) (hi : II X W tg iter f) (ok : BlkOk X.N X.env.scope scope own)
    (hg : ∀ (s : Shared) (H : Hp) (C : Addr) (cl : List (Str × Addr)) (fp : List Addr), Ctx (X.blk s H scope (compEnvC scope cl C X.env) fp) W0 → IGc (X.blk s H scope (compEnvC scope cl C X.env) fp) tg (own.map (·.2)) g g0)
    (ht : ∀ (s : Shared) (H : Hp) (C : Addr) (cl : List (Str × Addr)) (fp : List Addr), Ctx (X.blk s H scope (compEnvC scope cl C X.env) fp) W0 → ITs (X.blk s H scope (compEnvC scope cl C X.env) fp) ifs t)
    (he : ∀ (s : Shared) (H : Hp) (C : Addr) (cl : List (Str × Addr)) (fp : List Addr), Ctx (X.blk s H scope (compEnvC scope cl C X.env) fp) W0 → IE (X.blk s H scope (compEnvC scope cl C X.env) fp) W0 elt e)
    (hs : ∀ x, foldedSetIterable iter X.env x = pure x := by intro _; rfl) : IE X W (.ListComp elt [⟨tg, iter, ifs, 0⟩] scope pos) (eLc mk (own.map (·.2)) f g t e) := by
  refine ⟨PE.imp (pe_lc (te := tE X.K W0 e) (tt := tT X.K W0 t) c.calm c.nd hi.pi ok (fun s H C cl fp => (hg s H C cl fp (ctx_blk c.calm c.nd)).pg) (fun s H C cl fp => (ht s H C cl fp (ctx_blk c.calm c.nd)).pts) (fun s H C cl fp => (he s H C cl fp (ctx_blk c.calm c.nd)).pe) hs) fun σ H Q h => ?_⟩
  exact lc_ok mm (fun v σ H Q R st fr d a b r o => (hg X.s_0 H 0 [] [] (ctx_blk c.calm c.nd)).st v σ H Q R st fr d a b r o) (fun σ => wipe_twice σ _) h
/-- name = [..] on one line, the name a local -/
theorem s_setLc {mk : List D → Sto → Out D} (mm : MkL mk) (i : Nat) {y : Str} {py spos : Pos} (c : Ctx X W) (hsw : swapsWith (.ListComp elt [⟨tg, iter, ifs, 0⟩] scope pos) (some (.Name y py)) spos.line X.env = pure true) (hi : II X W tg iter f) (ok : BlkOk X.N X.env.scope scope own)
    (hg : ∀ (s : Shared) (H : Hp) (C : Addr) (cl : List (Str × Addr)) (fp : List Addr), Ctx (X.blk s H scope (compEnvC scope cl C X.env) fp) W0 → IGc (X.blk s H scope (compEnvC scope cl C X.env) fp) tg (own.map (·.2)) g g0)
    (ht : ∀ (s : Shared) (H : Hp) (C : Addr) (cl : List (Str × Addr)) (fp : List Addr), Ctx (X.blk s H scope (compEnvC scope cl C X.env) fp) W0 → ITs (X.blk s H scope (compEnvC scope cl C X.env) fp) ifs t)
    (he : ∀ (s : Shared) (H : Hp) (C : Addr) (cl : List (Str × Addr)) (fp : List Addr), Ctx (X.blk s H scope (compEnvC scope cl C X.env) fp) W0 → IE (X.blk s H scope (compEnvC scope cl C X.env) fp) W0 elt e)
    (hy : X.N[i]? = some y := by rfl) (hyl : X.env.scope.names.lookup y = some .local := by rfl)
    (hs : ∀ x, foldedSetIterable iter X.env x = pure x := by intro _; rfl) : IS X W (.Assign [.Name y py] (.ListComp elt [⟨tg, iter, ifs, 0⟩] scope pos) spos) (sSet i (eLc mk (own.map (·.2)) f g t e)) := by
  refine ⟨PS.imp (ps_setLc (te := tE X.K W0 e) (tt := tT X.K W0 t) c.calm c.nd hy hyl hsw hi.pi ok (fun s H C cl fp => (hg s H C cl fp (ctx_blk c.calm c.nd)).pg) (fun s H C cl fp => (ht s H C cl fp (ctx_blk c.calm c.nd)).pts) (fun s H C cl fp => (he s H C cl fp (ctx_blk c.calm c.nd)).pe) hs) fun D σ H h => ?_⟩
  obtain ⟨R, st, fr, rel, rf, ok⟩ := h
  refine lc_ok mm (fun v σ H Q R st fr d a b r o => (hg X.s_0 H 0 [] [] (ctx_blk c.calm c.nd)).st v σ H Q R st fr d a b r o) (fun σ => wipe_twice σ _) (Q := fun x H1 => gName i x σ H1 D.nx) ⟨R, st, fr, rel, rf, okG.imp (okS.then rf ok) fun x H1 R1 d st1 e1 rel1 r1 _ q => ?_⟩
  obtain ⟨R2, st2, d2, e2, rel2, rf2, r2, ok2⟩ := q
  exact nx_ok ok2 rel2 (rf2.set r2)
end
end
end Vi
set_option maxRecDepth 100000
set_option maxHeartbeats 2000000
/-! Vi6: a def's meaning told otherwise; the law's end. -/
namespace Vi
open PySem PySem.Spec PyProof.Rows L2

mutual
def below (n : Nat) : D → Bool
  | .loc k => decide (k < n)
  | .tup ds => belows n ds
  | .rol ds => belows n ds
  | .fl ds => belows n ds
  | .obj _ _ ds => belows n ds
  | _ => true
def belows (n : Nat) : List D → Bool
  | [] => true
  | d :: ds => below n d && belows n ds
end
def belowO (n : Nat) : O → Bool
  | .lst ds => belows n ds
  | .ins _ fs => fs.all fun p => below n p.2
def Closed (n : Nat) (st : Sto) : Prop := ∀ o ∈ st, belowO n o = true
mutual
theorem below_mono {n m : Nat} (h : n ≤ m) : ∀ {d : D}, below n d = true → below m d = true
  | .non, _ | .bl _, _ | .int _, _ | .str _, _ | .ref _, _ | .ty _, _ | .cnt, _ => rfl
  | .loc k, e => by
    rw [below, decide_eq_true_eq] at e ⊢
    omega
  | .tup ds, e => by rw [below] at e ⊢; exact belows_mono h e
  | .rol ds, e => by rw [below] at e ⊢; exact belows_mono h e
  | .fl ds, e => by rw [below] at e ⊢; exact belows_mono h e
  | .obj _ _ ds, e => by rw [below] at e ⊢; exact belows_mono h e
theorem belows_mono {n m : Nat} (h : n ≤ m) : ∀ {ds : List D}, belows n ds = true → belows m ds = true
  | [], _ => rfl
  | d :: ds, e => by
    rw [belows, Bool.and_eq_true] at e ⊢
    exact ⟨below_mono h e.1, belows_mono h e.2⟩
end
theorem belowO_mono {n m : Nat} (h : n ≤ m) {o : O} (e : belowO n o = true) : belowO m o = true := by
  cases o with
  | lst ds => exact belows_mono h e
  | ins C fs =>
    unfold belowO at e ⊢
    rw [List.all_eq_true] at e ⊢
    exact fun p hp => below_mono h (e p hp)
theorem Closed.mono {n m : Nat} {st : Sto} (h : Closed n st) (l : n ≤ m) : Closed m st := fun o ho => belowO_mono l (h o ho)
section
variable {K : PySem.W.Frag} {H : Hp} {R : Tr} {st : Sto}
mutual
theorem RV.below : ∀ {d : D} {v : V}, RV K H R d v → below R.c.length d = true
  | .non, _, _ | .bl _, _, _ | .int _, _, _ | .str _, _, _ | .ref _, _, _ | .ty _, _, _ | .cnt, _, _ => rfl
  | .loc k, _, ⟨a, h, _⟩ => by
    rw [Vi.below, decide_eq_true_eq]
    exact (List.getElem?_eq_some_iff.mp h).1
  | .tup ds, _, ⟨_, vs, _, _, r⟩ => by rw [Vi.below]; exact RVs.below r
  | .rol ds, _, ⟨_, vs, _, _, r⟩ => by rw [Vi.below]; exact RVs.below r
  | .fl ds, _, ⟨_, vs, _, _, _, r⟩ => by rw [Vi.below]; exact RVs.below r
  | .obj _ _ ds, _, ⟨_, _, _, _, _, _, _, _, r⟩ => by rw [Vi.below]; exact ROb.below r
theorem RVs.below : ∀ {ds : List D} {vs : List V}, RVs K H R ds vs → belows R.c.length ds = true
  | [], _, _ => rfl
  | d :: ds, _, ⟨_, _, _, h, r⟩ => by rw [belows, RV.below h, RVs.below r]; rfl
theorem ROb.below : ∀ {ds : List D} {ns : List Nat} {gs : List (Str × V)}, ROb K H R ds ns gs → belows R.c.length ds = true
  | [], _, _, _ => rfl
  | d :: ds, _, _, ⟨_, _, _, _, _, _, _, _, h, r⟩ => by rw [belows, RV.below h, ROb.below r]; rfl
end
theorem RFs.below : ∀ {fs : List (Nat × D)} {gs : List (Str × V)}, RFs K H R fs gs → (fs.all fun p => Vi.below R.c.length p.2) = true
  | [], _, _ => rfl
  | (f, d) :: r, _, ⟨v, q, _, _, h, rr⟩ => by
    rw [List.all_cons, RFs.below rr]
    show (Vi.below R.c.length d && true) = true
    rw [h.below]
    rfl
theorem Rel.closed (h : Rel K H R st) : Closed st.length st := fun o ho => by
  obtain ⟨i, hi, e⟩ := List.mem_iff_getElem.mp ho
  obtain ⟨a, _, r⟩ := h.ob i o (by rw [List.getElem?_eq_getElem hi, e])
  rw [← h.len]
  cases o with
  | lst ds => obtain ⟨vs, _, rr⟩ := r; exact rr.below
  | ins C fs => obtain ⟨_, dx, gs, _, _, rr⟩ := r; exact rr.below
theorem Tr.free.take {n : Nat} {a : Addr} (h : R.free a) : (R.take n).free a := ⟨fun z => h.1 (List.mem_of_mem_take z), h.2⟩
mutual
theorem RV.take {n : Nat} : ∀ {d : D} {v : V}, RV K H R d v → Vi.below n d = true → RV K H (R.take n) d v
  | .non, _, h, _ => h
  | .bl _, _, h, _ => h
  | .int _, _, h, _ => h
  | .str _, _, h, _ => h
  | .ref _, _, h, _ => h
  | .ty _, _, h, _ => h
  | .cnt, _, h, _ => h
  | .loc k, _, ⟨a, h, e⟩, hb => by
    rw [Vi.below, decide_eq_true_eq] at hb
    exact ⟨a, by show (R.c.take n)[k]? = _; rw [List.getElem?_take_of_lt hb]; exact h, e⟩
  | .tup ds, _, ⟨a, vs, e, hs, r⟩, hb => by rw [Vi.below] at hb; exact ⟨a, vs, e, hs, RVs.take' r hb⟩
  | .rol ds, _, ⟨a, vs, e, hs, r⟩, hb => by rw [Vi.below] at hb; exact ⟨a, vs, e, hs, RVs.take' r hb⟩
  | .fl ds, _, ⟨a, vs, e, hs, hf, r⟩, hb => by rw [Vi.below] at hb; exact ⟨a, vs, e, hs, hf.take, RVs.take' r hb⟩
  | .obj _ _ ds, _, ⟨a, C, dx, gs, e, hc, hs, hf, r⟩, hb => by rw [Vi.below] at hb; exact ⟨a, C, dx, gs, e, hc, hs, hf.take, ROb.take r hb⟩
theorem RVs.take' {n : Nat} : ∀ {ds : List D} {vs : List V}, RVs K H R ds vs → belows n ds = true → RVs K H (R.take n) ds vs
  | [], _, h, _ => h
  | d :: ds, _, ⟨v, q, e, h, r⟩, hb => by
    rw [belows, Bool.and_eq_true] at hb
    exact ⟨v, q, e, RV.take h hb.1, RVs.take' r hb.2⟩
theorem ROb.take {n : Nat} : ∀ {ds : List D} {ns : List Nat} {gs : List (Str × V)}, ROb K H R ds ns gs → belows n ds = true → ROb K H (R.take n) ds ns gs
  | [], _, _, h, _ => h
  | d :: ds, _, _, ⟨m, q, v, gr, e1, e2, e3, e4, h, r⟩, hb => by
    rw [belows, Bool.and_eq_true] at hb
    exact ⟨m, q, v, gr, e1, e2, e3, e4, RV.take h hb.1, ROb.take r hb.2⟩
end
theorem RFs.take {n : Nat} : ∀ {fs : List (Nat × D)} {gs : List (Str × V)}, RFs K H R fs gs → (fs.all fun p => Vi.below n p.2) = true → RFs K H (R.take n) fs gs
  | [], _, h, _ => h
  | (f, d) :: r, _, ⟨v, q, e, hn, h, rr⟩, hb => by
    rw [List.all_cons, Bool.and_eq_true] at hb
    exact ⟨v, q, e, hn, h.take hb.1, RFs.take rr hb.2⟩
/-- cells that nothing leads to are let go -/
theorem Rel.drop {g : Sto} (h : Rel K H R (st ++ g)) (c : Closed st.length st) : Rel K H (R.take st.length) st := by
  refine ⟨h.nd.sublist ((List.take_sublist _ _).append (List.Sublist.refl _)), ?_, fun i o e => ?_, h.st, fun P hP => ⟨(h.tb P hP).1, (h.tb P hP).2.take⟩⟩
  · show (R.c.take st.length).length = _
    rw [List.length_take, h.len, List.length_append]
    omega
  · have hi := (List.getElem?_eq_some_iff.mp e).1
    obtain ⟨a, e1, r⟩ := h.ob i o (by rw [List.getElem?_append_left hi]; exact e)
    refine ⟨a, by show (R.c.take st.length)[i]? = _; rw [List.getElem?_take_of_lt hi]; exact e1, ?_⟩
    have hc := c o (List.mem_of_getElem? e)
    cases o with
    | lst ds => obtain ⟨vs, q, rr⟩ := r; exact ⟨vs, q, rr.take' hc⟩
    | ins C fs => obtain ⟨c, dx, gs, z, q, rr⟩ := r; exact ⟨c, dx, gs, z, q, rr.take hc⟩
theorem Ext.drop {H' : Hp} {R' : Tr} {n : Nat} (e : Ext K H R H' R') (hn : R.c.length ≤ n) : Ext K H R H' (R'.take n) :=
  ⟨fun i a h => by
    have hi := (List.getElem?_eq_some_iff.mp h).1
    show (R'.c.take n)[i]? = _
    rw [List.getElem?_take_of_lt (by omega)]
    exact e.pre i a h, e.sk, e.sd, e.th, e.tup, e.frz, fun a o h n => let ⟨q1, q2⟩ := e.kp a o h n; ⟨q1, fun z => q2 (List.mem_of_mem_take z)⟩⟩
end
/-! ### no longer written: what a call hands back -/
mutual
def noloc : D → Bool
  | .loc _ => false
  | .tup ds => nolocs ds
  | .rol ds => nolocs ds
  | .fl ds => nolocs ds
  | .obj _ _ ds => nolocs ds
  | _ => true
def nolocs : List D → Bool
  | [] => true
  | d :: ds => noloc d && nolocs ds
end
mutual
theorem below_of {n : Nat} : ∀ {d : D}, noloc d = true → below n d = true
  | .non, _ | .bl _, _ | .int _, _ | .str _, _ | .ref _, _ | .ty _, _ | .cnt, _ => rfl
  | .loc k, e => by cases e
  | .tup ds, e => by rw [noloc] at e; rw [below]; exact belows_of e
  | .rol ds, e => by rw [noloc] at e; rw [below]; exact belows_of e
  | .fl ds, e => by rw [noloc] at e; rw [below]; exact belows_of e
  | .obj _ _ ds, e => by rw [noloc] at e; rw [below]; exact belows_of e
theorem belows_of {n : Nat} : ∀ {ds : List D}, nolocs ds = true → belows n ds = true
  | [], _ => rfl
  | d :: ds, e => by
    rw [nolocs, Bool.and_eq_true] at e
    rw [belows, below_of e.1, belows_of e.2]
    rfl
end
def optMap (f : D → Option D) : List D → Option (List D)
  | [] => some []
  | d :: r => match f d, optMap f r with
    | some x, some xs => some (x :: xs)
    | _, _ => none
def cntOf : D → Option D
  | .int _ => some .cnt
  | .cnt => some .cnt
  | _ => none
def objFs (f : D → Option D) : List (Nat × D) → Option (List D)
  | [] => some []
  | (n, d) :: r => match (if n = kLooked then cntOf d else f d), objFs f r with
    | some x, some xs => some (x :: xs)
    | _, _ => none
def objDs (f : D → Option D) : List Nat → List D → Option (List D)
  | [], [] => some []
  | n :: ns, d :: r => match (if n = kLooked then cntOf d else f d), objDs f ns r with
    | some x, some xs => some (x :: xs)
    | _, _ => none
  | _, _ => none
/-- what was made behind the n-th cell is no longer written -/
def frzF (S : Sto) (n : Nat) : Nat → D → Option D
  | 0, _ => none
  | k + 1, d => if noloc d = true then some d else match d with
    | .loc m => if m < n then some (.loc m) else (match S[m]? with
      | some (.lst ds) => (optMap (frzF S n k) ds).map .fl
      | some (.ins x fs) => (objFs (frzF S n k) fs).map (.obj x (fs.map (·.1)))
      | none => none)
    | .tup ds => (optMap (frzF S n k) ds).map .tup
    | .rol ds => (optMap (frzF S n k) ds).map .rol
    | .fl ds => (optMap (frzF S n k) ds).map .fl
    | .obj x ns ds => (objDs (frzF S n k) ns ds).map (.obj x ns)
    | d => some d
section
variable {K : PySem.W.Frag} {H : Hp} {R : Tr} {S : Sto} {n : Nat}
theorem optMap_ok {f : D → Option D} (hf : ∀ d d' v, f d = some d' → RV K H R d v → RV K H (R.take n) d' v) : ∀ (ds ds' : List D) (vs : List V), optMap f ds = some ds' → RVs K H R ds vs → RVs K H (R.take n) ds' vs
  | [], ds', vs, h, r => by cases h; exact r
  | d :: ds, ds', vs, h, ⟨v, q, e, h1, h2⟩ => by
    unfold optMap at h
    split at h
    · rename_i x xs e1 e2
      cases h
      exact ⟨v, q, e, hf d x v e1 h1, optMap_ok hf ds xs q e2 h2⟩
    · cases h
theorem cntOf_ok {d d' : D} {v : V} (h : cntOf d = some d') (r : RV K H R d v) : d' = .cnt ∧ ∃ i, v = .int i := by
  cases d with
  | int i => cases h; exact ⟨rfl, i, r⟩
  | cnt => cases h; exact ⟨rfl, r⟩
  | _ => cases h
theorem objFs_ok {f : D → Option D} (hf : ∀ d d' v, f d = some d' → RV K H R d v → RV K H (R.take n) d' v) : ∀ (fs : List (Nat × D)) (ds' : List D) (gs : List (Str × V)), objFs f fs = some ds' → RFs K H R fs gs → ROb K H (R.take n) ds' (fs.map (·.1)) gs
  | [], ds', gs, h, r => by cases h; exact ⟨rfl, r⟩
  | (m, d) :: fs, ds', gs, h, ⟨v, q, e, hm, h1, h2⟩ => by
    unfold objFs at h
    split at h
    · rename_i x xs e1 e2
      cases h
      have ih := objFs_ok hf fs xs q e2 h2
      by_cases hk : m = kLooked
      · rw [if_pos hk] at e1
        obtain ⟨rfl, i, rfl⟩ := cntOf_ok e1 h1
        exact ⟨m, _, _, q, rfl, e, hm, fun _ => rfl, ⟨i, rfl⟩, ih⟩
      · rw [if_neg hk] at e1
        exact ⟨m, _, v, q, rfl, e, hm, fun z => absurd z hk, hf d x v e1 h1, ih⟩
    · cases h
theorem objDs_ok {f : D → Option D} (hf : ∀ d d' v, f d = some d' → RV K H R d v → RV K H (R.take n) d' v) : ∀ (ds ds' : List D) (ns : List Nat) (gs : List (Str × V)), objDs f ns ds = some ds' → ROb K H R ds ns gs → ROb K H (R.take n) ds' ns gs
  | [], ds', ns, gs, h, ⟨e1, e2⟩ => by subst e1; cases h; exact ⟨rfl, e2⟩
  | d :: ds, ds', ns, gs, h, ⟨m, q, v, gr, e1, e2, e3, e4, h1, h2⟩ => by
    subst e1
    unfold objDs at h
    split at h
    · rename_i x xs e5 e6
      cases h
      have ih := objDs_ok hf ds xs q gr e6 h2
      by_cases hk : m = kLooked
      · rw [if_pos hk] at e5
        obtain ⟨rfl, i, rfl⟩ := cntOf_ok e5 h1
        exact ⟨m, _, _, gr, rfl, e2, e3, fun _ => rfl, ⟨i, rfl⟩, ih⟩
      · rw [if_neg hk] at e5
        exact ⟨m, _, v, gr, rfl, e2, e3, fun z => absurd z hk, hf d x v e5 h1, ih⟩
    · cases h
theorem frzF_ok (rel : Rel K H R S) : ∀ (k : Nat) (d d' : D) (v : V), frzF S n k d = some d' → RV K H R d v → RV K H (R.take n) d' v
  | 0, _, _, _, h, _ => by cases h
  | k + 1, d, d', v, h, r => by
    have ih := frzF_ok rel k
    unfold frzF at h
    split at h
    · rename_i hn
      cases h
      exact r.take (below_of hn)
    · rename_i hnl
      cases d with
      | loc m =>
        obtain ⟨a, ha, rfl⟩ := r
        dsimp only at h
        split at h
        · rename_i hm
          cases h
          exact ⟨a, by show (R.c.take n)[m]? = _; rw [List.getElem?_take_of_lt hm]; exact ha, rfl⟩
        · rename_i hm
          have out : (R.take n).free a := by
            refine ⟨fun z => ?_, fun z => rel.apart (mem_of_ix ha) z⟩
            have z : a ∈ R.c.take n := z
            obtain ⟨j, hj, e⟩ := List.mem_iff_getElem.mp z
            have hj2 : j < n := Nat.lt_of_lt_of_le hj (List.length_take_le n R.c)
            have e2 : (R.c.take n)[j]? = some a := by rw [List.getElem?_eq_getElem hj, e]
            rw [List.getElem?_take_of_lt hj2] at e2
            have l1 := List.getElem?_eq_some_iff.mp e2
            have l2 := List.getElem?_eq_some_iff.mp ha
            have := (List.getElem_inj rel.ndc).mp (l1.2.trans l2.2.symm)
            omega
          split at h
          · rename_i ds e
            obtain ⟨es, e1, rfl⟩ := Option.map_eq_some_iff.mp h
            obtain ⟨vs, hv, rr⟩ := rel.lst ha e
            exact ⟨a, vs, rfl, hv, out, optMap_ok ih ds es vs e1 rr⟩
          · rename_i x fs e
            obtain ⟨es, e1, rfl⟩ := Option.map_eq_some_iff.mp h
            obtain ⟨C, dx, gs, hc, hv, rr⟩ := rel.ins ha e
            exact ⟨a, C, dx, gs, rfl, hc, hv, out, objFs_ok ih fs es gs e1 rr⟩
          · cases h
      | tup ds =>
        obtain ⟨a, vs, rfl, hs, rr⟩ := r
        obtain ⟨es, e1, rfl⟩ := Option.map_eq_some_iff.mp h
        exact ⟨a, vs, rfl, hs, optMap_ok ih ds es vs e1 rr⟩
      | rol ds =>
        obtain ⟨a, vs, rfl, hs, rr⟩ := r
        obtain ⟨es, e1, rfl⟩ := Option.map_eq_some_iff.mp h
        exact ⟨a, vs, rfl, hs, optMap_ok ih ds es vs e1 rr⟩
      | fl ds =>
        obtain ⟨a, vs, rfl, hs, hf, rr⟩ := r
        obtain ⟨es, e1, rfl⟩ := Option.map_eq_some_iff.mp h
        exact ⟨a, vs, rfl, hs, hf.take, optMap_ok ih ds es vs e1 rr⟩
      | obj x ns ds =>
        obtain ⟨a, C, dx, gs, rfl, hc, hs, hf, rr⟩ := r
        obtain ⟨es, e1, rfl⟩ := Option.map_eq_some_iff.mp h
        exact ⟨a, C, dx, gs, rfl, hc, hs, hf.take, objDs_ok ih ds es ns gs e1 rr⟩
      | _ => exact absurd rfl hnl
end
/-- o is what o' says, and cells that nothing leads to -/
def Fits (n : Nat) (o o' : Out D) : Prop := match o' with
  | .ok d st' => ∃ g d0, o = .ok d0 (st' ++ g) ∧ Closed st'.length st' ∧ frzF (st' ++ g) st'.length 20 d0 = some d ∧ n ≤ st'.length
  | .ex c st' => ∃ g, o = .ex c (st' ++ g) ∧ Closed st'.length st' ∧ n ≤ st'.length
  | .no => True
theorem okG.fits {K : PySem.W.Frag} {W : WX} {σ : L2.St} {H : Hp} {R : Tr} {Q : VK} {o o' : Out D} (ft : Fits R.c.length o o') (ok : okG W σ H R (RV K) K Q o') : okG W σ H R (RV K) K Q o := by
  cases o' with
  | no => exact ok.elim
  | ok d st' =>
    obtain ⟨g, d0, e1, c1, b1, l1⟩ := ft
    rw [e1]
    intro H' R' v ex rl rv
    exact ok H' (R'.take st'.length) v (ex.drop l1) (rl.drop c1) (frzF_ok rl 20 d0 d v b1 rv)
  | ex c st' =>
    obtain ⟨g, e1, c1, l1⟩ := ft
    rw [e1]
    intro H' R' C hC ex rl
    exact ok H' (R'.take st'.length) C hC (ex.drop l1) (rl.drop c1)
theorem okF.fits {K : PySem.W.Frag} {H : Hp} {R : Tr} {Q : VK} {E : XK} {o o' : Out D} (ft : Fits R.c.length o o') (ok : okF K H R Q E o') : okF K H R Q E o := okG.fits ft ok
theorem spM.fits {K : PySem.W.Frag} {F F' : MF} {n : Nat} (h : ∀ ds st, belows st.length ds = true → Closed st.length st → Fits st.length (F ds st) (F' ds st)) {vs : List V} {H : Hp} {Q : VK} {E : XK} (hs : spM K F' n vs H Q E) : spM K F n vs H Q E := by
  obtain ⟨hl, R, st, ds, rel, rr, ok⟩ := hs
  exact ⟨hl, R, st, ds, rel, rr, ok.fits (by rw [rel.len]; exact h ds st (by rw [← rel.len]; exact rr.below) rel.closed)⟩
theorem Def.refine {P : Program} {w : World} {K : PySem.W.Frag} {mg : Str → Option Value} {base : Heap} {x : Str} {k : Nat} {ps : List Str} {F F' : MF} (d : Def P w K mg base x k ps F)
    (h : ∀ ds st, belows st.length ds = true → Closed st.length st → Fits st.length (F ds st) (F' ds st)) (ar : ∀ ds st, F' ds st ≠ .no → ds.length = ps.length) : Def P w K mg base x k ps F' := by
  obtain ⟨f, fd, G, r⟩ := d.ex
  exact ⟨⟨f, fd, G.imp fun vs H Q E hs => spM.fits h hs, r⟩, ar⟩
/-! what was made within is let go at the end, what is handed back is no longer written -/
open Classical in
noncomputable def fzOut (st : Sto) (o : Out D) : Out D := match o with
  | .ok d S => match frzF S st.length 20 d with
    | some d' => if st.length ≤ S.length ∧ (Closed st.length st → Closed st.length (S.take st.length)) then .ok d' (S.take st.length) else .no
    | none => .no
  | .ex c S => if st.length ≤ S.length ∧ (Closed st.length st → Closed st.length (S.take st.length)) then .ex c (S.take st.length) else .no
  | .no => .no
theorem fzOut_fits {st : Sto} {o : Out D} (hc : Closed st.length st) : Fits st.length o (fzOut st o) := by
  unfold fzOut
  cases o with
  | no => trivial
  | ok d S =>
    dsimp only
    split
    · rename_i d' e
      split
      · rename_i h
        have hl : (S.take st.length).length = st.length := by rw [List.length_take]; omega
        refine ⟨S.drop st.length, d, by rw [List.take_append_drop], by rw [hl]; exact h.2 hc, by rw [List.take_append_drop, hl]; exact e, by rw [hl]; exact Nat.le_refl _⟩
      · trivial
    · trivial
  | ex c S =>
    dsimp only
    split
    · rename_i h
      have hl : (S.take st.length).length = st.length := by rw [List.length_take]; omega
      exact ⟨S.drop st.length, by rw [List.take_append_drop], by rw [hl]; exact h.2 hc, by rw [hl]; exact Nat.le_refl _⟩
    · trivial
theorem fzOut_ok {st g : Sto} {d d' : D} (h : frzF (st ++ g) st.length 20 d = some d') : fzOut st (.ok d (st ++ g)) = .ok d' st := by
  unfold fzOut
  simp [h]
theorem fzOut_set {st s1 g : Sto} {d d' : D} (hl : s1.length = st.length) (hc : Closed st.length st → Closed st.length s1) (h : frzF (s1 ++ g) st.length 20 d = some d') : fzOut st (.ok d (s1 ++ g)) = .ok d' s1 := by
  unfold fzOut
  have e : (s1 ++ g).take st.length = s1 := by rw [← hl]; simp
  dsimp only
  rw [h, e]
  dsimp only
  rw [if_pos ⟨by rw [List.length_append]; omega, hc⟩]
theorem fzOut_ex {st g : Sto} {c : Nat} : fzOut st (.ex c (st ++ g)) = .ex c st := by
  unfold fzOut
  simp
theorem fzOut_exs {st s1 g : Sto} {c : Nat} (hl : s1.length = st.length) (hc : Closed st.length st → Closed st.length s1) : fzOut st (.ex c (s1 ++ g)) = .ex c s1 := by
  unfold fzOut
  have e : (s1 ++ g).take st.length = s1 := by rw [← hl]; simp
  dsimp only
  rw [e, if_pos ⟨by rw [List.length_append]; omega, hc⟩]
noncomputable def mFz (F : MF) : MF := fun ds st => fzOut st (F ds st)
theorem mFz_fits {F : MF} (ds : List D) (st : Sto) (_ : belows st.length ds = true) (hc : Closed st.length st) : Fits st.length (F ds st) (mFz F ds st) := fzOut_fits hc
theorem mFz_ar {F : MF} {n : Nat} (ar : ∀ ds st, F ds st ≠ .no → ds.length = n) (ds : List D) (st : Sto) (h : mFz F ds st ≠ .no) : ds.length = n := ar ds st fun z => h (by unfold mFz; rw [z]; rfl)
theorem Def.fz {P : Program} {w : World} {K : PySem.W.Frag} {mg : Str → Option Value} {base : Heap} {x : Str} {k : Nat} {ps : List Str} {F : MF} (d : Def P w K mg base x k ps F) : Def P w K mg base x k ps (mFz F) := d.refine mFz_fits (mFz_ar d.ar)
theorem Def.mono {P : Program} {w : World} {K : PySem.W.Frag} {mg : Str → Option Value} {base : Heap} {x : Str} {j k : Nat} {ps : List Str} {F : MF} (d : Def P w K mg base x j ps F) (h : j ≤ k) : Def P w K mg base x k ps F := by
  obtain ⟨f, fd, G, r⟩ := d.ex
  exact ⟨⟨f, fd, G.mono h, r⟩, d.ar⟩

/-! ### the law -/
theorem only_sq {K : PySem.W.Frag} {H : Hp} {a : Addr} {xs : List V} (o : Only H) (h : SqL K H a xs) : SqF K H a xs := by
  rcases h with (h | ⟨ob, h⟩) | h
  · rcases o a with z | ⟨ob, ys, z⟩
    · rw [h] at z; cases z
    · rw [h] at z; cases z
  · exact .inl ⟨ob, h⟩
  · exact .inr h
theorem rol_ints {K : PySem.W.Frag} {H : Hp} {R : Tr} {a : Addr} {ns : List Int} (h : SqF K H a (ns.map V.int)) : RV K H R (.rol (ns.map D.int)) (.ref a) := ⟨a, _, rfl, h, RVs.ofInts ns⟩
theorem law_sp {F : MF} (h : ∀ ns : List Int, ns.length ≤ 63 → ∃ st', F [.rol (ns.map D.int)] [] = .ok (.bl true) st') (K : PySem.W.Frag) (H : Hp) (a : Addr) (ns : List Int) (hn : ns.length ≤ 63) (o : SqF K H a (ns.map V.int)) (hT : ∀ P, IsTab K P → H P = some (.tbl #[])) :
    spM K F 1 [.ref a] H (fun v _ => v = .bl true) fun _ _ _ => False := by
  obtain ⟨st', e⟩ := h ns hn
  refine ⟨rfl, ⟨[], []⟩, [], [.rol (ns.map D.int)], ⟨List.nodup_nil, rfl, fun i o e => by simp at e, fun a ha => (by cases ha), fun P hP => ⟨⟨#[], hT P hP, trivial⟩, ⟨List.not_mem_nil, List.not_mem_nil⟩⟩⟩, RVs.cons (rol_ints o) RVs.nil, ?_⟩
  unfold okF
  rw [e]
  exact fun H' R' v ex rl rv => rv
end Vi
set_option maxRecDepth 100000
set_option maxHeartbeats 2000000
/-! Vi7: list(reversed(a list)). -/
namespace Vi
open PySem PySem.Spec PyProof.Rows L2
section
variable {prog : Program} {w : World} {A : Around} {E : Value → Shared → Prop} {s : Shared}
theorem extend_rev {R : Result → Shared → Prop} {it l S c0 : Nat} {items : Array Value} {res : Value} (hh : A.handled = none) (hit : s.heap.IsRevIter it l ((items.size : Int) - 1)) (hl : s.heap.IsList l items) (hne : l ≠ it) (hn : items.size ≤ sizeLine)
    (hS : s.heap.get? S = some { cls := .type "list", data := .seq #[] c0 }) (hSi : S ≠ it) (hSl : S ≠ l)
    (hR : ∀ h' tk acc' c', (∀ b o, b ≠ S → b ≠ it → s.heap.get? b = some o → h'.get? b = some o) → h'.get? S = some { cls := .type "list", dict := none, data := .seq acc' c', slots := #[] } →
      ItemsOf (fun i v => items[items.size - 1 - i]? = some v) acc' items.size → R (.ok (.ret res)) { s with heap := h', toks := tk }) :
    wpAny (model prog w) A.in1 (Builtin.List.listExtendWith (.ref S) (.ref it) res)
      (fun fin s' => match fin with | .done f => R (.ok f) s' | .again c' => c'.quiet = true ∧ codeAny (model prog w) A c' R s') (fun e s' => R (.error e) s') s := by
  have W := (Walks.listRev (prog := prog) (w := w) (A := A.in1) hh it l hne items).toS
  have hSf : S ∉ [it, l] := by simp only [List.mem_cons, List.not_mem_nil, or_false, not_or]; exact ⟨hSi, hSl⟩
  have hT : s.TypeIs (.ref it) "list_reverseiterator" := Heap.IsRevIter.typeIs hit
  have h1 : Builtin.List.listSameRef (.ref S) (.ref it) = false := by simp [Builtin.List.listSameRef, hSi]
  unfold Builtin.List.listExtendWith
  refine wpAny_bind (wpAny_typeOf hT ?_)
  rw [if_neg (by rw [h1]; decide)]
  refine wpAny_bind (wpAny_pyIter_revIter hit ?_)
  refine wpAny_bind (wpAny_holding ?_)
  unfold Builtin.List.listLengthHint
  refine wpAny_bind (wpAny_specialOf hT RT.nolen_lri ?_)
  show wpAny _ A.in1 (specialOf (Value.ref it) (Str.ofString "__length_hint__") >>= _) _ _ _
  refine wpAny_bind (wpAny_specialOf hT RT.hint_lri ?_)
  generalize hid : ("list_reverseiterator.__length_hint__" : String) = id0
  wp_delta
  rw [show splitId id0 = some ("list_reverseiterator", "__length_hint__") from by subst hid; decide +kernel]
  subst hid
  refine wpAny_bind (wpAny_isInstance (b := true) hT (by rw [isSubtype_type]; kernel_rfl) ?_)
  refine wpAny_pure ?_
  rw [if_neg (by decide)]
  have e0 : ((items.size : Nat) : Int) - 1 - ((0 : Nat) : Int) = (items.size : Int) - 1 := by omega
  refine wpAny_pure ⟨plainId_quiet F.plain_extend_loop _, codeAny_extend_loopS W hn _ hSf _ items.size 0 _ _ _ rfl (Nat.zero_le _) ⟨Nat.zero_le _, by rw [e0]; exact hit, hl⟩ hS (ItemsOf.nil _) fun s' acc' c' hm hS' hacc => ?_⟩
  rw [Moved.eq_with hm]
  refine hR s'.heap s'.toks acc' c' (fun b o hb hi e => hm.heap b o (fun hmem => ?_) e) hS' hacc
  rcases List.mem_cons.mp hmem with e' | hmem
  · exact hb e'
  · exact hi (List.mem_singleton.mp hmem)
theorem call_list_rev {Q : Value → Shared → Prop} {it l : Addr} {items : Array Value} (hh : A.handled = none) (hit : s.heap.IsRevIter it l ((items.size : Int) - 1)) (hl : s.heap.IsList l items) (hne : l ≠ it) (hn : items.size ≤ sizeLine)
    (hQ : ∀ h' tk acc' c', (∀ b o, b ≠ it → s.heap.get? b = some o → h'.get? b = some o) →
      h'.get? s.heap.objs.size = some { cls := .type "list", dict := none, data := .seq acc' c', slots := #[] } → ItemsOf (fun i v => items[items.size - 1 - i]? = some v) acc' items.size → Q (.ref s.heap.objs.size) { s with heap := h', toks := tk }) :
    wpAny (model prog w) A (call (.type "list") [.ref it]) Q E s := by
  obtain ⟨oi, hoi, _⟩ := id hit
  obtain ⟨ol, hol, _⟩ := id hl
  have hSi : s.heap.objs.size ≠ it := Nat.ne_of_gt (Heap.lt_size hoi)
  have hSl : s.heap.objs.size ≠ l := Nat.ne_of_gt (Heap.lt_size hol)
  refine callType_codes (Q₁ := fun obj s₁ => obj = .ref s.heap.objs.size ∧ s₁ = { s with heap := s.heap.push { cls := .type "list", data := .seq #[] } }) F.called_list (F.typeCall_list_1 _) F.entry_list_init
    (code_list_new _ ⟨rfl, rfl⟩) fun obj s₁ h₁ => ?_
  obtain ⟨rfl, rfl⟩ := h₁
  have hS : (s.heap.push { cls := .type "list", data := .seq #[] }).get? s.heap.objs.size = some { cls := .type "list", data := .seq #[] } := Heap.get?_push_size _ rfl
  refine ⟨⟨_, hS, rfl⟩, F.args_list_init_2 _ _, ?_⟩
  show wpAny _ _ (do let old ← Builtin.List.listItems (.ref s.heap.objs.size); Builtin.List.listUpdate (.ref s.heap.objs.size) (fun _ => #[]); letGo old.toList.reverse; Builtin.List.listExtendWith (.ref s.heap.objs.size) (.ref it) .none) _ _ _
  refine wpAny_bind ?_
  unfold Builtin.List.listItems
  refine wpAny_bind (wpAny_seqItems hS rfl (wpAny_pure ?_))
  show wpAny _ _ (updateSeq s.heap.objs.size (fun _ => #[]) >>= fun _ => letGo (#[] : Array Value).toList.reverse >>= fun _ => Builtin.List.listExtendWith (.ref s.heap.objs.size) (.ref it) .none) _ _ _
  refine wpAny_bind (wpAny_updateSeq hS rfl ?_)
  have hS₂ := Heap.get?_update_self (Obj.mapSeq (fun _ => (#[] : Array Value))) hS rfl
  have oth : ∀ b o, b ≠ s.heap.objs.size → (s.heap.push { cls := .type "list", data := .seq #[] }).get? b = some o → ((s.heap.push { cls := .type "list", data := .seq #[] }).update s.heap.objs.size (Obj.mapSeq (fun _ => (#[] : Array Value)))).get? b = some o :=
    fun b o hb e => (Heap.get?_update_other _ _ (Ne.symm hb)).trans e
  refine wpAny_bind (wpAny_letGo ?_)
  refine extend_rev (A := A.in1) (s := { s with heap := (s.heap.push { cls := .type "list", data := .seq #[] }).update s.heap.objs.size (Obj.mapSeq (fun _ => (#[] : Array Value))) }) hh
    (hit.at fun o e => oth it o (Ne.symm hSi) (Heap.get?_push_of_some _ e)) ?_ hne hn hS₂ hSi hSl fun h' tk acc' c' hk hS' hacc => ?_
  · obtain ⟨o, ho, r⟩ := hl
    exact ⟨o, oth l o (Ne.symm hSl) (Heap.get?_push_of_some _ ho), r⟩
  · exact ⟨rfl, hQ h' tk acc' c' (fun b o hb e => hk b o (Nat.ne_of_lt (Heap.lt_size e)) hb (oth b o (Nat.ne_of_lt (Heap.lt_size e)) (Heap.get?_push_of_some _ e))) hS' hacc⟩
end
section
variable {X : Cx} {W : WX}
theorem pe_lstRev {e : Expr} {te : TE} {p p2 pos pos2 : Pos} (hc : X.calm = true) (hg : Gl X "list") (hm : X.mg "list" = none) (hg2 : Gl X "reversed") (hm2 : X.mg "reversed" = none) (he : PE X e te)
    (hs : starEach [e] X.env = (false, eval e X.env) :: starEach [] X.env := by rfl)
    (hs2 : starEach [.Call (.Name "reversed" p2) [e] [] pos2] X.env = (false, eval (.Call (.Name "reversed" p2) [e] [] pos2) X.env) :: starEach [] X.env := by rfl) :
    PE X (.Call (.Name "list" p) [.Call (.Name "reversed" p2) [e] [] pos2] [] pos) (fun σ H Q => te σ H fun v H1 => ∃ (a : Addr) (xs : List V), v = .ref a ∧ SqL X.K H1 a xs ∧ ∀ q, H1 q = none → Q (.ref q) (upd H1 q (.lst xs.reverse))) := by
  refine ⟨fun pins s σ H Q I h => ?_⟩
  refine Call_ (ld_blt I hg hm (show bootBuiltins "list" = some (.type "list") by decide +kernel) (PyProof.Rows.callWith_type1 (args_cons (Call_ (ld_blt I hg2 hm2 PyProof.Rows.boot_reversed (PyProof.Rows.callWith_type1 (args_cons (thn (he.run pins s σ H _ I h) fun u s1 ⟨v, H1, I1, r1, q1⟩ => args_nil ?_) hs) hs rfl))) hs2) hs2 rfl))
  obtain ⟨a, xs, ev, hq, q⟩ := q1
  subst ev
  obtain rfl : u = Value.ref a := r1
  obtain ⟨its, rv, p', hz⟩ := I1.list hq
  refine PySem.call_reversed_list p'.isList (args_nil ?_)
  have k0 : ∀ b o, s1.heap.get? b = some o → (s1.heap.push (revObj a ((its.toArray.size : Int) - 1))).get? b = some o := fun b o e => Heap.get?_push_of_some _ e
  have I2 : Inv X pins σ H1 { s1 with heap := s1.heap.push (revObj a ((its.toArray.size : Int) - 1)) } := I1.kept (t' := s1.toks) k0
  obtain ⟨f0, f1, f2, f3, f4, f5⟩ := I1.fpOk (H' := H1) (b := s1.heap.objs.size) (Nat.le_refl _) (I1.hok.fresh (Nat.le_refl _))
  have hl := p'.isList
  obtain ⟨ol, hol, _⟩ := id hl
  have hne : a ≠ s1.heap.objs.size := Nat.ne_of_lt (Heap.lt_size hol)
  have hn : its.toArray.size ≤ sizeLine := by rw [List.size_toArray, ← rv.length]; exact hz
  refine call_list_rev (s := { s1 with heap := s1.heap.push (revObj a ((its.toArray.size : Int) - 1)) }) (I1.ok.hd hc) ⟨_, Heap.get?_push_size _ rfl, rfl, rfl⟩ (hl.push _) hne hn fun h' tk acc c' hk hS hi => ?_
  generalize hp0 : (s1.heap.push (revObj a ((its.toArray.size : Int) - 1))).objs.size = p0 at hS ⊢
  have fr := I2.hok.fresh (a := p0) (Nat.le_of_eq hp0)
  obtain ⟨g0, g1, g2, g3, g4, g5⟩ := I2.fpOk (H' := H1) (b := p0) (Nat.le_of_eq hp0) fr
  have I3 : Inv X pins σ H1 { s1 with heap := h', toks := tk } := I2.turned (t' := tk) (fun b o hb e => hk b o hb e) f0 f1 f3 f4 f5
  have nb : ∀ b u, H1 b = some u → b ≠ p0 := fun b u e => ne_of_none e fr
  have new : ObjOk X.prog X.w (upd H1 p0 (.lst xs.reverse)) h' p0 (.lst xs.reverse) := ⟨by rw [List.length_reverse]; exact hz, acc.toList, c', RT.vals_rev rv hi, by rw [Array.toArray_toList]; exact hS⟩
  have hok : HOk X.prog X.w (upd H1 p0 (.lst xs.reverse)) h' := fun b u e => by
    by_cases hb : b = p0
    · subst hb
      rw [upd_same] at e
      cases e
      exact new
    · rw [upd_ne hb] at e
      exact (I3.hok b u e).stay (fun c v _ q => q) (fun c q => by rw [upd_ne (nb c _ q)]; exact q) fun c ys q => by rw [upd_ne (nb c _ q)]; exact q
  have I4 : Inv X pins σ (upd H1 p0 (.lst xs.reverse)) { s1 with heap := h', toks := tk } := by
    refine Inv.step (s := { s1 with heap := h', toks := tk }) I3 (g' := s1.gens) (t' := tk) (d' := s1.drawn) (h' := h') (ch := [p0]) (fun b hb => ?_) (fun b o _ _ hc e _ => e) (fun b o _ _ hc e _ => ⟨o.slots, e⟩) (fun b o hc e n => ?_) (fun b o hc e => ⟨o, e⟩)
      (fun b ys e => by rw [upd_ne (nb b _ e)]; exact e) (fun b o u e => by rw [upd_ne (nb b _ e)]; exact e) (fun b ps e => ⟨#[], by rw [upd_ne (nb b _ e), e]; simp⟩) (fun m hm => hm) hok I3.bare
    · have e : b = p0 := by simpa using hb
      subst e
      exact ⟨g3, g1, g4, g5⟩
    · rw [upd_ne (fun z => hc (by simp [z]))]
      exact n
  exact ⟨.ref p0, _, I4, rfl, q p0 fr⟩
/-- list(reversed(a list)) -/
def eLRev (mk : List D → Sto → Out D) (f : ME) (fr : Fr) (st : Sto) : Out D := (f fr st).bind fun d st1 => match asL st1 d with
  | some ds => mk ds.reverse st1
  | none => .no
theorem e_lrev {mk : List D → Sto → Out D} (m : MkL mk) {e : Expr} {f : ME} {p p2 pos pos2 : Pos} (c : Ctx X W) (hm : X.mg "list" = none) (hm2 : X.mg "reversed" = none) (he : IE X W e f) (hg : Gl X "list" := by rfl) (hg2 : Gl X "reversed" := by rfl)
    (hs : starEach [e] X.env = (false, eval e X.env) :: starEach [] X.env := by rfl)
    (hs2 : starEach [.Call (.Name "reversed" p2) [e] [] pos2] X.env = (false, eval (.Call (.Name "reversed" p2) [e] [] pos2) X.env) :: starEach [] X.env := by rfl) :
    IE X W (.Call (.Name "list" p) [.Call (.Name "reversed" p2) [e] [] pos2] [] pos) (eLRev mk f) := by
  refine ⟨PE.imp (pe_lstRev c.calm hg hm hg2 hm2 he.pe hs hs2) fun σ H Q h => ?_⟩
  obtain ⟨R, st, fr, rel, rf, ok⟩ := h
  refine ⟨R, st, fr, rel, rf, okG.imp (okG.bind ok) fun x H1 R1 d st1 e1 rel1 r1 _ q => ?_⟩
  obtain ⟨R2, st2, d2, e2, rel2, r2, ok2⟩ := q
  split at ok2
  · rename_i ds e
    obtain ⟨a, vs, rfl, hs, rr⟩ := asL_ok rel2 r2 e
    exact ⟨a, vs, rfl, hs, (m.ok rel2 rr.reverse ok2).2⟩
  · exact ok2.elim
end
end Vi
set_option maxRecDepth 100000
namespace Vi
open PySem PySem.Spec PyProof.Rows L2
/-- a def's promise, with its function object named -/
theorem fn_def_of {P : Program} {w : World} {K : PySem.W.Frag} {mg : Str → Option Value} {base : Heap} {x qual : Str} {s : Stmt} {f : Addr} {fd : FuncData} {N ps : List Str} {k : Nat} {m : MS}
    (F : Fun K x qual s f fd) (S : FnScope N ps (defScope s))
    (body : ∀ (cdv : Value) (A : Around) (outer : List Env) (s1 : Shared) (H : Hp) (E : XK), Room k (A.deeper (envOfC qual (defScope s) s1.heap.objs.size f cdv)) →
      Ctx (cxOf (L2N.CX P w) P w K mg base N qual (defScope s) f cdv A outer s1 H E) (fun c d _ H => E c d H) →
      PassesOwn (model P w) (A.deeper (envOfC qual (defScope s) s1.heap.objs.size f cdv)) (cxOf (L2N.CX P w) P w K mg base N qual (defScope s) f cdv A outer s1 H E).env (cxOf (L2N.CX P w) P w K mg base N qual (defScope s) f cdv A outer s1 H E).xe →
      ISs (cxOf (L2N.CX P w) P w K mg base N qual (defScope s) f cdv A outer s1 H E) (fun c d _ H => E c d H) (defBody s) m) :
    FnOk P w K mg base (L2N.CX P w) (k + 1) f fd ps (spM K (mF ps.length N.length m) ps.length) := by
  obtain ⟨oc, od, kV, doc, pm, an, cdv, ct, osl, rfl, lk, hcd⟩ := F.ex
  refine fn_of lk hcd S (fun vs H Q E h => h.1) fun A outer s1 H vs Q E hr hsp => ?_
  obtain ⟨hl, R, st, ds, rel, r, ok⟩ := hsp
  have tk : L2N.Takes (cxOf (L2N.CX P w) P w K mg base N qual (defScope s) f cdv A outer s1 H E) (fun c d _ H => E c d H) := L2N.takes_of rfl rfl rfl rfl
  have c : Ctx (cxOf (L2N.CX P w) P w K mg base N qual (defScope s) f cdv A outer s1 H E) (fun c d _ H => E c d H) := ⟨rfl, S.nd, fun σ => L2N.passAt tk σ, tk⟩
  refine ⟨_, (body cdv A outer s1 H E hr c (passes_of rfl)).pss, R, st, _, rel, rfr_start r, ?_⟩
  have hn : ds.length = ps.length := by rw [← r.length]; exact hl
  unfold mF okF at ok
  rw [if_pos hn, ← hn] at ok
  cases e : m (ds.map some ++ List.replicate (N.length - ds.length) none) st with
  | nx fr' st' => rw [e] at ok; exact fun H' R' σ' ex rl rf => ok H' R' _ ex rl rfl
  | rt d st' => rw [e] at ok; exact fun H' R' v ex rl rf => ok H' R' v ex rl rf
  | ex c fr' st' => rw [e] at ok; exact fun H' R' σ' C hC ex rl rf => ok H' R' C hC ex rl
  | bk fr' st' => rw [e] at ok; exact ok.elim
  | ct fr' st' => rw [e] at ok; exact ok.elim
  | no => rw [e] at ok; exact ok.elim
/-- a promise that is never asked for -/
theorem def_no {P : Program} {w : World} {K : PySem.W.Frag} {mg : Str → Option Value} {base : Heap} {x qual : Str} {s : Stmt} {f : Addr} {fd : FuncData} {ps : List Str} (F : Fun K x qual s f fd) (hm : mg x = some (.ref f)) (hb : Binds K fd ps []) :
    Def P w K mg base x 0 ps (fun _ _ => .no) := by
  refine ⟨⟨f, fd, ?_, hm, F.kp, hb⟩, fun ds st h => absurd rfl h⟩
  exact ⟨fun vs H Q E h => h.1, fun A outer s H args us vs Q E hr he hb hv hs => by
    obtain ⟨_, R, st, ds, rel, r, ok⟩ := hs
    exact False.elim ok⟩
end Vi
set_option maxRecDepth 100000
set_option maxHeartbeats 2000000
/-! Vi9: instances: fields, methods, new ones; errors raised and caught. -/
namespace Vi
open PySem PySem.Spec PyProof.Rows L2
/-! ### fields -/
def fldGet : List (Nat × D) → Nat → Option D
  | [], _ => none
  | (g, d) :: r, f => if g = f then some d else fldGet r f
def fldPut (f : Nat) (d : D) : List (Nat × D) → List (Nat × D)
  | [] => [(f, d)]
  | (g, x) :: r => if g = f then (g, d) :: r else (g, x) :: fldPut f d r
section
variable {K : PySem.W.Frag} {H : Hp} {R : Tr}
theorem RFs.get : ∀ {fs : List (Nat × D)} {gs : List (Str × V)} {f : Nat} {d : D}, RFs K H R fs gs → f < anames.length → fldGet fs f = some d → ∃ v, gs.lookup (anm f) = some v ∧ RV K H R d v
  | [], _, _, _, _, _, e => by cases e
  | (g, x) :: r, _, f, d, ⟨v, q, h1, hn, h2, h3⟩, hf, e => by
    subst h1
    unfold fldGet at e
    rw [List.lookup_cons]
    by_cases hg : g = f
    · rw [if_pos hg] at e
      cases e
      subst hg
      exact ⟨v, by simp, h2⟩
    · rw [if_neg hg] at e
      have hne : (anm f == anm g) = false := beq_eq_false_iff_ne.mpr fun z => hg (anm_inj hn hf z.symm)
      rw [hne]
      exact RFs.get h3 hf e
theorem RFs.no : ∀ {fs : List (Nat × D)} {gs : List (Str × V)} {f : Nat}, RFs K H R fs gs → f < anames.length → fldGet fs f = none → gs.lookup (anm f) = none
  | [], _, _, h, _, _ => by subst h; rfl
  | (g, x) :: r, _, f, ⟨v, q, h1, hn, h2, h3⟩, hf, e => by
    subst h1
    unfold fldGet at e
    rw [List.lookup_cons]
    by_cases hg : g = f
    · rw [if_pos hg] at e
      cases e
    · rw [if_neg hg] at e
      have hne : (anm f == anm g) = false := beq_eq_false_iff_ne.mpr fun z => hg (anm_inj hn hf z.symm)
      rw [hne]
      exact RFs.no h3 hf e
theorem RFs.put : ∀ {fs : List (Nat × D)} {gs : List (Str × V)} {f : Nat} {d : D} {v : V}, RFs K H R fs gs → f < anames.length → RV K H R d v → RFs K H R (fldPut f d fs) (putF (anm f) v gs)
  | [], _, _, _, _, h, hf, r => by subst h; exact ⟨_, _, rfl, hf, r, rfl⟩
  | (g, x) :: fs, _, f, d, v, ⟨u, q, h1, hn, h2, h3⟩, hf, r => by
    subst h1
    unfold fldPut putF
    by_cases hg : g = f
    · subst hg
      rw [if_pos rfl, if_pos rfl]
      exact ⟨_, _, rfl, hn, r, h3⟩
    · rw [if_neg hg, if_neg fun z => hg (anm_inj hn hf z)]
      exact ⟨_, _, rfl, hn, h2, RFs.put h3 hf r⟩
/-! a frozen instance's fields -/
def oGet : List Nat → List D → Nat → Option D
  | n :: ns, d :: ds, f => if n = f then some d else oGet ns ds f
  | _, _, _ => none
theorem ROb.get : ∀ {ds : List D} {ns : List Nat} {gs : List (Str × V)} {f : Nat} {d : D}, ROb K H R ds ns gs → f < anames.length → oGet ns ds f = some d → ∃ v, gs.lookup (anm f) = some v ∧ RV K H R d v
  | [], ns, _, _, _, _, _, e => by cases ns <;> cases e
  | x :: r, _, _, f, d, ⟨n, ns, v, gr, h1, h2, hn, _, h4, h5⟩, hf, e => by
    subst h1 h2
    unfold oGet at e
    rw [List.lookup_cons]
    by_cases hg : n = f
    · rw [if_pos hg] at e
      cases e
      subst hg
      exact ⟨v, by simp, h4⟩
    · rw [if_neg hg] at e
      have hne : (anm f == anm n) = false := beq_eq_false_iff_ne.mpr fun z => hg (anm_inj hn hf z.symm)
      rw [hne]
      exact ROb.get h5 hf e
theorem ROb.no : ∀ {ds : List D} {ns : List Nat} {gs : List (Str × V)} {f : Nat}, ROb K H R ds ns gs → f < anames.length → oGet ns ds f = none → gs.lookup (anm f) = none
  | [], _, _, _, ⟨_, h⟩, _, _ => by subst h; rfl
  | x :: r, _, _, f, ⟨n, ns, v, gr, h1, h2, hn, _, h4, h5⟩, hf, e => by
    subst h1 h2
    unfold oGet at e
    rw [List.lookup_cons]
    by_cases hg : n = f
    · rw [if_pos hg] at e
      cases e
    · rw [if_neg hg] at e
      have hne : (anm f == anm n) = false := beq_eq_false_iff_ne.mpr fun z => hg (anm_inj hn hf z.symm)
      rw [hne]
      exact ROb.no h5 hf e
theorem lkF_put : ∀ {gs : List (Str × V)} {v : V}, gs.lookup (anm kLooked) = some v → ∀ i : Int, LkF gs (putF (anm kLooked) (.int i) gs)
  | [], _, h, _ => by cases h
  | (n, w) :: r, v, h, i => by
    unfold putF
    by_cases hn : n = anm kLooked
    · rw [if_pos hn]
      exact ⟨_, r, rfl, .inr ⟨hn, i, rfl⟩, LkF.refl r⟩
    · rw [if_neg hn]
      rw [List.lookup_cons, beq_eq_false_iff_ne.mpr (Ne.symm hn)] at h
      exact ⟨_, _, rfl, .inl rfl, lkF_put h i⟩
theorem ROb.len : ∀ {ds : List D} {ns : List Nat} {gs : List (Str × V)}, ROb K H R ds ns gs → gs.length = ds.length
  | [], _, _, ⟨_, h⟩ => by subst h; rfl
  | _ :: _, _, _, ⟨_, _, _, _, _, h1, _, _, _, h3⟩ => by subst h1; simp [ROb.len h3]
theorem RFs.len : ∀ {fs : List (Nat × D)} {gs : List (Str × V)}, RFs K H R fs gs → gs.length = fs.length
  | [], _, h => by subst h; rfl
  | (_, _) :: _, _, ⟨_, _, h1, _, _, h3⟩ => by subst h1; simp [RFs.len h3]
end
/-- the classes in cs are plain, and none has an own thing of the name f -/
def Flds (K : PySem.W.Frag) (cs : List Nat) (f : Nat) : Prop := ∀ x ∈ cs, ∃ C, clsAt K x C ∧ Cls K C ∧ NoAttr K C (anm f)
theorem Flds.at {K : PySem.W.Frag} {cs : List Nat} {f x : Nat} {C : Addr} (h : Flds K cs f) (hx : cs.contains x = true) (hc : clsAt K x C) : Cls K C ∧ NoAttr K C (anm f) := by
  obtain ⟨C', h1, h2, h3⟩ := h x (by simpa using hx)
  cases hc.inj h1
  exact ⟨h2, h3⟩
def kFld (cs : List Nat) (f : Nat) (d : D) (st : Sto) : Out D := match d with
  | .loc n => match st[n]? with
    | some (.ins x fs) => if cs.contains x = true then (match fldGet fs f with
      | some v => .ok v st
      | none => .no) else .no
    | _ => .no
  | .obj x ns ds => if cs.contains x = true then (match oGet ns ds f with
    | some v => .ok v st
    | none => .no) else .no
  | _ => .no
def eFld (cs : List Nat) (f : Nat) (g : ME) (fr : Fr) (st : Sto) : Out D := (g fr st).bind (kFld cs f)
section
variable {X : Cx} {W : WX} {pos : Pos}
theorem e_fld {o : Expr} {cs : List Nat} {f : Nat} {g : ME} (ho : IE X W o g) (hF : Flds X.K cs f) (hf : f < anames.length) {nm : Str} (hn : nm = anm f) (hb : attributeBase o nm X.env (eval o X.env) = eval o X.env) : IE X W (.Attribute o nm pos) (eFld cs f g) := by
  subst hn
  refine ⟨PE.imp (pe_fld ho.pe hb) fun σ H Q h => ?_⟩
  obtain ⟨R, st, fr, rel, rf, ok⟩ := h
  refine ⟨R, st, fr, rel, rf, okG.imp (okG.bind ok) fun x H1 R1 d st1 e1 rel1 r1 _ q => ?_⟩
  obtain ⟨R2, st2, d2, e2, rel2, r2, ok2⟩ := q
  unfold kFld at ok2
  split at ok2
  · rename_i n
    split at ok2
    · rename_i x fs hs
      split at ok2
      · rename_i hx
        split at ok2
        · rename_i v hv
          obtain ⟨a, ha, rfl⟩ := r2
          obtain ⟨C, dx, gs, hc, hH, hfs⟩ := rel2.ins ha hs
          obtain ⟨hC, hN⟩ := hF.at hx hc
          obtain ⟨u, hu, ru⟩ := hfs.get hf hv
          exact ⟨a, C, dx, gs, u, rfl, hH, hC, hN, hu, ok2 _ _ _ Ext.refl rel2 ru⟩
        · exact ok2.elim
      · exact ok2.elim
    · exact ok2.elim
  · split at ok2
    · rename_i hx
      split at ok2
      · rename_i v hv
        obtain ⟨a, C, dx, gs, rfl, hc, hH, hfr, hfs⟩ := r2
        obtain ⟨hC, hN⟩ := hF.at hx hc
        obtain ⟨u, hu, ru⟩ := hfs.get hf hv
        exact ⟨a, C, dx, gs, u, rfl, hH, hC, hN, hu, ok2 _ _ _ Ext.refl rel2 ru⟩
      · exact ok2.elim
    · exact ok2.elim
  · exact ok2.elim
/-- o.f = v: v is reckoned first -/
def kPut (cs : List Nat) (f : Nat) (v : D) (d : D) (st : Sto) : Out Unit := match d with
  | .loc n => match st[n]? with
    | some (.ins x fs) => if cs.contains x = true ∧ fs.length < 1000 then .ok () (st.set n (.ins x (fldPut f v fs))) else .no
    | _ => .no
  | _ => .no
def sFldS (cs : List Nat) (f : Nat) (o v : ME) (fr : Fr) (st : Sto) : OutS := (v fr st).then fr fun y st1 => (o fr st1).then fr fun x st2 => (kPut cs f y x st2).then fr fun _ st3 => .nx fr st3
theorem kPut_ok {K : PySem.W.Frag} {H : Hp} {R : Tr} {cs : List Nat} {f : Nat} {y d : D} {st : Sto} {x v : V} {D : Ends} {fr : Fr} {σ : L2.St} (hF : Flds K cs f) (hf : f < anames.length) (rel : Rel K H R st) (rf : RFr K H R fr σ) (r : RV K H R d x) (ry : RV K H R y v)
    (ok : okS K W H R D ((kPut cs f y d st).then fr fun _ st3 => .nx fr st3)) :
    ∃ a C dx gs, x = .ref a ∧ H a = some (.ins C dx gs) ∧ Cls K C ∧ NoAttr K C (anm f) ∧ gs.length < 1000 ∧ D.nx σ (upd H a (.ins C dx (putF (anm f) v gs))) := by
  unfold kPut at ok
  split at ok
  · rename_i n
    split at ok
    · rename_i x fs hs
      split at ok
      · rename_i hx
        obtain ⟨a, ha, rfl⟩ := r
        obtain ⟨C, dx, gs, hc, hH, hfs⟩ := rel.ins ha hs
        obtain ⟨hC, hN⟩ := hF.at hx.1 hc
        have e : Ext K H R (upd H a (.ins C dx (putF (anm f) v gs))) R := Ext.ins ha hH
        refine ⟨a, C, dx, gs, rfl, hH, hC, hN, by rw [hfs.len]; exact hx.2, ?_⟩
        exact ok _ R σ e (rel.write ha e ⟨C, dx, _, hc, by rw [upd_same], (hfs.put hf ry).mono e⟩) (rf.mono e)
      · exact ok.elim
    · exact ok.elim
  · exact ok.elim
theorem s_fld {o value : Expr} {cs : List Nat} {f : Nat} {g v : ME} {pos' : Pos} (ho : IE X W o g) (hv : IE X W value v) (hF : Flds X.K cs f) (hf : f < anames.length) {nm : Str} (hn : nm = anm f) (hs : swapsWith value (some (.Attribute o nm pos')) pos.line X.env = pure false) :
    IS X W (.Assign [.Attribute o nm pos'] value pos) (sFldS cs f g v) := by
  subst hn
  refine ⟨PS.imp (ps_fld ho.pe hv.pe hs) fun D σ H h => ?_⟩
  obtain ⟨R, st, fr, rel, rf, ok⟩ := h
  refine ⟨R, st, fr, rel, rf, okG.imp (okS.then rf ok) fun y H1 R1 d1 st1 e1 rel1 r1 _ q => ?_⟩
  obtain ⟨R2, st2, d2, e2, rel2, rf2, r2, ok2⟩ := q
  refine ⟨R2, st2, fr, rel2, rf2, okG.imp (okS.then rf2 ok2) fun x H3 R3 d3 st3 e3 rel3 r3 _ q3 => ?_⟩
  obtain ⟨R4, st4, d4, e4, rel4, rf4, r4, ok4⟩ := q3
  exact kPut_ok hF hf rel4 rf4 r4 (r2.mono e4) ok4
/-- o.f op= v -/
def kPutX (n x f : Nat) (z : D) (st : Sto) : Out Unit := match st[n]? with
  | some (.ins y fs) => if y = x ∧ fs.length < 1000 then .ok () (st.set n (.ins x (fldPut f z fs))) else .no
  | _ => .no
def kFldA2 (n x f : Nat) (fr : Fr) (z : D) (st : Sto) : OutS := (kPutX n x f z st).then fr fun _ st3 => .nx fr st3
def kFldA1 (op : M2) (n x f : Nat) (u : D) (fr : Fr) (y : D) (st : Sto) : OutS := (op u y st).then fr (kFldA2 n x f fr)
def kFldA (cs : List Nat) (f : Nat) (op : M2) (v : ME) (fr : Fr) (d : D) (st : Sto) : OutS := match d with
  | .loc n => match st[n]? with
    | some (.ins x fs) => if cs.contains x = true then (match fldGet fs f with
      | some u => (v fr st).then fr (kFldA1 op n x f u fr)
      | none => .no) else .no
    | _ => .no
  | _ => .no
def sFldA (cs : List Nat) (f : Nat) (op : M2) (o v : ME) (fr : Fr) (st : Sto) : OutS := (o fr st).then fr (kFldA cs f op v fr)
theorem s_flda {o value : Expr} {cs : List Nat} {f : Nat} {g v : ME} {op : Operator} {m : M2} {tpos : Pos} (ho : IE X W o g) (hop : OpI X (inplaceOp op) m) (ne : NoEx m) (hv : IE X W value v) (hF : Flds X.K cs f) (hf : f < anames.length) {nm : Str} (hn : nm = anm f) :
    IS X W (.AugAssign (.Attribute o nm tpos) op value pos) (sFldA cs f m g v) := by
  subst hn
  have hp : InOp X op (tO X.K m) := fun pins s σ H x y u v Q I rx ry q => augR hop.op I rx ry q
  refine ⟨PS.imp (ps_fldaug ho.pe hv.pe hp) fun D σ H h => ?_⟩
  obtain ⟨R, st, fr, rel, rf, ok⟩ := h
  refine ⟨R, st, fr, rel, rf, okG.imp (okS.then rf ok) fun x H1 R1 d1 st1 e1 rel1 r1 _ q => ?_⟩
  obtain ⟨R2, st2, d2, e2, rel2, rf2, r2, ok2⟩ := q
  unfold kFldA at ok2
  split at ok2
  · rename_i n
    split at ok2
    · rename_i x fs hs
      split at ok2
      · rename_i hx
        split at ok2
        · rename_i u hu
          obtain ⟨a, ha, rfl⟩ := r2
          obtain ⟨C, dx, gs, hc, hH, hfs⟩ := rel2.ins ha hs
          obtain ⟨hC, hN⟩ := hF.at hx hc
          obtain ⟨uv, hu2, ru⟩ := hfs.get hf hu
          refine ⟨a, C, dx, gs, uv, rfl, hH, hC, hN, hu2, R2, st2, fr, rel2, rf2, okG.imp (okS.then rf2 ok2) fun y H3 R3 d3 st3 e3 rel3 r3 _ q3 => ?_⟩
          obtain ⟨R4, st4, d4, e4, rel4, rf4, r4, ok4⟩ := q3
          refine ⟨R4, st4, u, d4, rel4, ru.mono e4, r4, ?_⟩
          unfold kFldA1 at ok4
          cases e5 : m u d4 st4 with
          | ok z st5 =>
            rw [e5, Out.then_ok] at ok4
            intro H6 R6 zv e6 rel6 rz
            unfold kFldA2 kPutX at ok4
            split at ok4
            · rename_i y fs6 hs6
              split at ok4
              · rename_i hy
                obtain ⟨rfl, hl⟩ := hy
                have ha6 : R6.c[n]? = some a := e6.pre _ _ (e4.pre _ _ ha)
                obtain ⟨C6, dx6, gs6, hc6, hH6, hfs6⟩ := rel6.ins ha6 hs6
                cases hc6.inj hc
                have ex : Ext X.K H6 R6 (upd H6 a (.ins C dx6 (putF (anm f) zv gs6))) R6 := Ext.ins ha6 hH6
                exact ⟨dx6, gs6, hH6, by rw [hfs6.len]; exact hl, ok4 _ R6 σ (e6.trans ex) (rel6.write ha6 ex ⟨C, dx6, _, hc, by rw [upd_same], (hfs6.put hf rz).mono ex⟩) ((rf4.mono e6).mono ex)⟩
              · exact ok4.elim
            · exact ok4.elim
          | ex c st5 => exact absurd e5 (ne _ _ _ _ _)
          | no => rw [e5] at ok4; exact ok4
        · exact ok2.elim
      · exact ok2.elim
    · exact ok2.elim
  · exact ok2.elim
/-- an int that nobody looks at -/
def kCnt (d : D) (st : Sto) : Out D := match d with
  | .int _ => .ok .cnt st
  | .cnt => .ok .cnt st
  | _ => .no
def eCnt (f : ME) (fr : Fr) (st : Sto) : Out D := (f fr st).bind kCnt
theorem e_cnt {e : Expr} {f : ME} (h : IE X W e f) : IE X W e (eCnt f) := by
  refine ⟨PE.imp h.pe fun σ H Q h => ?_⟩
  obtain ⟨R, st, fr, rel, rf, ok⟩ := h
  refine ⟨R, st, fr, rel, rf, okG.imp (okG.bind ok) fun x H1 R1 d st1 e1 rel1 r1 _ q => ?_⟩
  obtain ⟨R2, st2, d2, e2, rel2, r2, ok2⟩ := q
  unfold kCnt at ok2
  split at ok2
  · exact ok2 H1 R2 x Ext.refl rel2 ⟨_, r2⟩
  · exact ok2 H1 R2 x Ext.refl rel2 r2
  · exact ok2.elim
/-- o.looked += v -/
def kLk2 (fr : Fr) (y : D) (st : Sto) : OutS := match y with
  | .int _ => .nx fr st
  | .cnt => .nx fr st
  | _ => .no
def kLk (cs : List Nat) (v : ME) (fr : Fr) (d : D) (st : Sto) : OutS := match d with
  | .loc n => match st[n]? with
    | some (.ins x fs) => if cs.contains x = true ∧ fs.length < 1000 then (match fldGet fs kLooked with
      | some .cnt => (v fr st).then fr fun y st1 => match st1[n]? with
        | some (.ins y' gs) => if y' = x ∧ gs.length < 1000 then (match fldGet gs kLooked with
          | some .cnt => kLk2 fr y st1
          | _ => .no) else .no
        | _ => .no
      | _ => .no) else .no
    | _ => .no
  | .obj x ns ds => if cs.contains x = true ∧ ds.length < 1000 then (match oGet ns ds kLooked with
    | some .cnt => (v fr st).then fr (kLk2 fr)
    | _ => .no) else .no
  | _ => .no
def sLk (cs : List Nat) (o v : ME) (fr : Fr) (st : Sto) : OutS := (o fr st).then fr (kLk cs v fr)
theorem fldPut_same : ∀ {fs : List (Nat × D)} {f : Nat} {d : D}, fldGet fs f = some d → fldPut f d fs = fs
  | [], _, _, h => by cases h
  | (g, x) :: r, f, d, h => by
    unfold fldGet at h
    unfold fldPut
    by_cases hg : g = f
    · rw [if_pos hg] at h ⊢
      cases h
      rfl
    · rw [if_neg hg] at h ⊢
      rw [fldPut_same h]
theorem set_same {st : Sto} {n : Nat} {o : O} (h : st[n]? = some o) : st.set n o = st := by
  apply List.ext_getElem?
  intro i
  by_cases hi : n = i
  · subst hi
    rw [List.getElem?_set_self (List.getElem?_eq_some_iff.mp h).1, h]
  · rw [List.getElem?_set_ne hi]
theorem kLk2_ok {K : PySem.W.Frag} {W : WX} {H : Hp} {R : Tr} {D : Ends} {fr : Fr} {y : Vi.D} {u : V} {st : Sto} (r : RV K H R y u) (ok : okS K W H R D (kLk2 fr y st)) : (∃ i, u = .int i) ∧ okS K W H R D (.nx fr st) := by
  cases y with
  | int i => exact ⟨⟨i, r⟩, ok⟩
  | cnt => exact ⟨r, ok⟩
  | _ => exact ok.elim
theorem s_lk {o value : Expr} {cs : List Nat} {g v : ME} {tpos : Pos} (ho : IE X W o g) (hv : IE X W value v) (hF : Flds X.K cs kLooked) {nm : Str} (hn : nm = anm kLooked) :
    IS X W (.AugAssign (.Attribute o nm tpos) .Add value pos) (sLk cs g v) := by
  subst hn
  have hp : InOp X .Add (rI0 fun i j => .int (i + j)) := fun pins s σ H x y u v Q I rx ry q => augR iop_add I rx ry q
  refine ⟨PS.imp (ps_fldaug ho.pe hv.pe hp) fun D σ H h => ?_⟩
  obtain ⟨R, st, fr, rel, rf, ok⟩ := h
  refine ⟨R, st, fr, rel, rf, okG.imp (okS.then rf ok) fun x H1 R1 d1 st1 e1 rel1 r1 _ q => ?_⟩
  obtain ⟨R2, st2, d2, e2, rel2, rf2, r2, ok2⟩ := q
  have hk : kLooked < anames.length := by decide
  unfold kLk at ok2
  split at ok2
  · rename_i n
    split at ok2
    · rename_i x fs hs
      split at ok2
      · rename_i hx
        split at ok2
        · rename_i hu
          obtain ⟨a, ha, rfl⟩ := r2
          obtain ⟨C, dx, gs, hc, hH, hfs⟩ := rel2.ins ha hs
          obtain ⟨hC, hN⟩ := hF.at hx.1 hc
          obtain ⟨uv, hu2, i, rfl⟩ := hfs.get hk hu
          refine ⟨a, C, dx, gs, .int i, rfl, hH, hC, hN, hu2, R2, st2, fr, rel2, rf2, okG.imp (okS.then rf2 ok2) fun y H3 R3 d3 st3 e3 rel3 r3 _ q3 => ?_⟩
          obtain ⟨R4, st4, d4, e4, rel4, rf4, r4, ok4⟩ := q3
          split at ok4
          · rename_i y' gs4 hs4
            split at ok4
            · rename_i hy
              split at ok4
              · rename_i hu4
                obtain ⟨⟨j, rfl⟩, ok5⟩ := kLk2_ok r4 ok4
                obtain ⟨rfl, hl⟩ := hy
                have ha4 : R4.c[n]? = some a := e4.pre _ _ ha
                obtain ⟨C6, dx6, gs6, hc6, hH6, hfs6⟩ := rel4.ins ha4 hs4
                cases hc6.inj hc
                have ex : Ext X.K H3 R4 (upd H3 a (.ins C dx6 (putF (anm kLooked) (.int (i + j)) gs6))) R4 := Ext.ins ha4 hH6
                refine ⟨i, j, rfl, rfl, dx6, gs6, hH6, by rw [hfs6.len]; exact hl, ?_⟩
                have w := rel4.write ha4 ex (o := .ins y' gs4) ⟨C, dx6, _, hc, by rw [upd_same], by
                  have := (hfs6.put hk (d := .cnt) (v := .int (i + j)) ⟨_, rfl⟩).mono ex
                  rw [fldPut_same hu4] at this
                  exact this⟩
                rw [set_same hs4] at w
                exact ok5 _ R4 σ ex w (rf4.mono ex)
              · exact ok4.elim
            · exact ok4.elim
          · exact ok4.elim
        · exact ok2.elim
      · exact ok2.elim
    · exact ok2.elim
  · rename_i x ns ds
    split at ok2
    · rename_i hx
      split at ok2
      · rename_i hu
        obtain ⟨a, C, dx, gs, rfl, hc, hH, hfr, hfs⟩ := r2
        obtain ⟨hC, hN⟩ := hF.at hx.1 hc
        obtain ⟨uv, hu2, i, rfl⟩ := hfs.get hk hu
        refine ⟨a, C, dx, gs, .int i, rfl, hH, hC, hN, hu2, R2, st2, fr, rel2, rf2, okG.imp (okS.then rf2 ok2) fun y H3 R3 d3 st3 e3 rel3 r3 _ q3 => ?_⟩
        obtain ⟨R4, st4, d4, e4, rel4, rf4, r4, ok4⟩ := q3
        obtain ⟨⟨j, rfl⟩, ok5⟩ := kLk2_ok r4 ok4
        obtain ⟨⟨o', q1, q2⟩, q3⟩ := e4.kp a _ hH hfr.1
        obtain ⟨gs', rfl, q5⟩ := q2.ins
        have fr4 := e4.e0.free hH hfr
        have hfs4 := hfs.mono0 e4.e0 q5
        obtain ⟨w4, hw4, _⟩ := hfs4.get hk hu
        have ll := lkF_put hw4 (i + j)
        exact ⟨i, j, rfl, rfl, dx, gs', q1, by rw [hfs4.len]; exact hx.2, ok5 _ R4 σ (Ext.look q1 ll) (rel4.look fr4 q1 ll) (rf4.mono (Ext.look q1 ll))⟩
      · exact ok2.elim
    · exact ok2.elim
  · exact ok2.elim
end
/-! ### methods -/
/-- the method m of the class x does what F says -/
structure Met (P : Program) (w : World) (K : PySem.W.Frag) (mg : Str → Option Value) (base : Heap) (x m k : Nat) (ps : List Str) (F : MF) : Prop where
  ex : ∃ C f fd, clsAt K x C ∧ Cls K C ∧ Meth K C (anm m) f ∧ FnOk P w K mg base (L2N.CX P w) k f fd ps (spM K F ps.length) ∧ Binds K fd ps []
  ar : ∀ ds st, F ds st ≠ .no → ds.length = ps.length
theorem Met.mono {P : Program} {w : World} {K : PySem.W.Frag} {mg : Str → Option Value} {base : Heap} {x m j k : Nat} {ps : List Str} {F : MF} (h : Met P w K mg base x m j ps F) (hk : j ≤ k) : Met P w K mg base x m k ps F := by
  obtain ⟨C, f, fd, h1, h2, h3, h4, h5⟩ := h.ex
  exact ⟨⟨C, f, fd, h1, h2, h3, h4.mono hk, h5⟩, h.ar⟩
abbrev MTab := List (Nat × MF)
def mtGet : MTab → Nat → Option MF
  | [], _ => none
  | (y, F) :: r, x => if y = x then some F else mtGet r x
/-- the classes of the table have the method m, each its own -/
def Mets (P : Program) (w : World) (K : PySem.W.Frag) (mg : Str → Option Value) (base : Heap) (m k : Nat) : MTab → Prop
  | [] => True
  | (x, F) :: r => (∃ ps, Met P w K mg base x m k ps F) ∧ Mets P w K mg base m k r
theorem Mets.get {P : Program} {w : World} {K : PySem.W.Frag} {mg : Str → Option Value} {base : Heap} {m k : Nat} : ∀ {T : MTab} {x : Nat} {F : MF}, Mets P w K mg base m k T → mtGet T x = some F → ∃ ps, Met P w K mg base x m k ps F
  | [], _, _, _, e => by cases e
  | (y, G) :: r, x, F, h, e => by
    unfold mtGet at e
    by_cases hy : y = x
    · rw [if_pos hy] at e
      cases e
      subst hy
      exact h.1
    · rw [if_neg hy] at e
      exact Mets.get h.2 e
theorem mets_nil {P : Program} {w : World} {K : PySem.W.Frag} {mg : Str → Option Value} {base : Heap} {m k : Nat} : Mets P w K mg base m k [] := trivial
theorem mets_cons {P : Program} {w : World} {K : PySem.W.Frag} {mg : Str → Option Value} {base : Heap} {m k x : Nat} {ps : List Str} {F : MF} {T : MTab} (h : Met P w K mg base x m k ps F) (t : Mets P w K mg base m k T) : Mets P w K mg base m k ((x, F) :: T) := ⟨⟨ps, h⟩, t⟩
def kMth2 (F : MF) (d : D) (ds : List D) (st : Sto) : Out D := F (d :: ds) st
/-- the class of an instance without a field m -/
def clsO (st : Sto) (m : Nat) : D → Option Nat
  | .loc n => match st[n]? with
    | some (.ins x fs) => match fldGet fs m with
      | none => some x
      | some _ => none
    | _ => none
  | .obj x ns ds => match oGet ns ds m with
    | none => some x
    | some _ => none
  | _ => none
def kMth (T : MTab) (m : Nat) (xs : MA) (fr : Fr) (d : D) (st : Sto) : Out D := match clsO st m d with
  | some x => match mtGet T x with
    | some F => (xs fr st).bind (kMth2 F d)
    | none => .no
  | none => .no
theorem clsO_ok {K : PySem.W.Frag} {H : Hp} {R : Tr} {st : Sto} {m x : Nat} {d : D} {v : V} (hm : m < anames.length) (rel : Rel K H R st) (r : RV K H R d v) (h : clsO st m d = some x) : ∃ a C dx gs, v = .ref a ∧ clsAt K x C ∧ H a = some (.ins C dx gs) ∧ gs.lookup (anm m) = none := by
  unfold clsO at h
  split at h
  · split at h
    · split at h
      · rename_i hs _ hn
        cases h
        obtain ⟨a, ha, rfl⟩ := r
        obtain ⟨C, dx, gs, hc, hH, hfs⟩ := rel.ins ha hs
        exact ⟨a, C, dx, gs, rfl, hc, hH, hfs.no hm hn⟩
      · cases h
    · cases h
  · split at h
    · rename_i hn
      cases h
      obtain ⟨a, C, dx, gs, rfl, hc, hH, hfr, hfs⟩ := r
      exact ⟨a, C, dx, gs, rfl, hc, hH, hfs.no hm hn⟩
    · cases h
  · cases h
def eMth (T : MTab) (m : Nat) (o : ME) (xs : MA) (fr : Fr) (st : Sto) : Out D := (o fr st).bind (kMth T m xs fr)
/-- o.m(..) of an instance, whatever its class -/
def tMethD (X : Cx) (W : WX) (m : Str) (ta : TE) (t : TA) : TE := fun σ H Q => ta σ H fun x H1 => ∃ a C dx fs f fd ps k sp, x = .ref a ∧ H1 a = some (.ins C dx fs) ∧ fs.lookup m = none ∧ Cls X.K C ∧ Meth X.K C m f ∧
  FnOk X.prog X.w X.K X.mg X.base (L2N.CX X.prog X.w) k f fd ps sp ∧ Room k X.A ∧ Binds X.K fd ps [] ∧ t σ H1 fun vs H2 => sp (x :: vs) H2 Q (WE W σ)
section
variable {X : Cx} {W : WX} {pos apos : Pos} {o e : Expr} {es : List Expr}
theorem pe_methD {m : Str} {ta : TE} {t : TA} {pl : Sem Bool} (he : PE X o ta) (hx : Pas X W) (ha : PA X (e :: es) t)
    (hst : starEach (e :: es) X.env = (false, eval e X.env) :: starEach es X.env := by rfl) (hpl : (backTo pos (starEach es X.env)).any (·.1) = false := by rfl)
    (ht : eval (.Call (.Attribute o m apos) (e :: es) [] pos) X.env = (do
      let ov ← eval o X.env
      standAt apos.atName
      let (f, first) ← holding [ov] (getMethod ov m pl)
      callWith pos f first (backTo pos (starEach (e :: es) X.env)) (backToKw pos (keywordEach [] X.env))) := by rfl) : PE X (.Call (.Attribute o m apos) (e :: es) [] pos) (tMethD X W m ta t) := by
  refine ⟨fun pins s σ H Q I h => ?_⟩
  refine PySem.W.methodCall_KW (pl := pl) (thn (he.run pins s σ H _ I h) fun u s1 ⟨x, H1, I1, rx, a, C, dx, fs, f, fd, ps, k, sp, ex, ea, l, c, hm, F, hr, hb, q⟩ => ?_) ht
  subst ex
  obtain rfl : u = Value.ref a := rx
  refine getmeth_ok I1 ea c hm l ?_
  refine PySem.W.callWith_K (first := [.ref a]) (h₀ := X.base) I.ok.mod.kin hm.kp (thn (ha.run pos pins s1 σ H1 _ I1 q) fun us s2 ⟨vs, H2, I2, r, q2⟩ => ⟨I2.kIn, ?_⟩) hst hpl
  exact run_fnS (us := .ref a :: us) (vs := .ref a :: vs) F hr hb (hx σ) I2 (.cons rfl r) q2
theorem pe_methD0 {m : Str} {ta : TE} {pl : Sem Bool} (he : PE X o ta) (hx : Pas X W)
    (ht : eval (.Call (.Attribute o m apos) [] [] pos) X.env = (do
      let ov ← eval o X.env
      standAt apos.atName
      let (f, first) ← holding [ov] (getMethod ov m pl)
      callWith pos f first (backTo pos (starEach [] X.env)) (backToKw pos (keywordEach [] X.env))) := by rfl) : PE X (.Call (.Attribute o m apos) [] [] pos) (tMethD X W m ta tNil) := by
  refine ⟨fun pins s σ H Q I h => ?_⟩
  refine PySem.W.methodCall_KW (pl := pl) (thn (he.run pins s σ H _ I h) fun u s1 ⟨x, H1, I1, rx, a, C, dx, fs, f, fd, ps, k, sp, ex, ea, l, c, hm, F, hr, hb, q⟩ => ?_) ht
  subst ex
  obtain rfl : u = Value.ref a := rx
  refine getmeth_ok I1 ea c hm l ?_
  exact PySem.W.callWith_K0 (first := [.ref a]) I1.kIn hm.kp (run_fnS (us := [.ref a]) (vs := [.ref a]) F hr hb (hx σ) I1 (.cons rfl .nil) q)
theorem tmeth_ok {T : MTab} {m k : Nat} {g : ME} {xs : MA} (hm : m < anames.length) (hT : Mets X.prog X.w X.K X.mg X.base m k T) (hr : Room k X.A) {σ : L2.St} {H : Hp} {Q : VK} (h : tE X.K W (eMth T m g xs) σ H Q) : tMethD X W (anm m) (tE X.K W g) (tA X.K W xs) σ H Q := by
  obtain ⟨R, st, fr, rel, rf, ok⟩ := h
  refine ⟨R, st, fr, rel, rf, okG.imp (okG.bind ok) fun x H1 R1 d st1 e1 rel1 r1 _ q => ?_⟩
  obtain ⟨R2, st2, d2, e2, rel2, r2, ok2⟩ := q
  unfold kMth at ok2
  split at ok2
  · rename_i x' h0
    split at ok2
    · rename_i F h1
      obtain ⟨a, C, dx, gs, rfl, hc, hH, hno⟩ := clsO_ok hm rel2 r2 h0
      obtain ⟨ps, ⟨⟨C', f, fd, hc', hC, hM, G, hB⟩, ar⟩⟩ := hT.get h1
      cases hc.inj hc'
      refine ⟨a, C, dx, gs, f, fd, ps, k, _, rfl, hH, hno, hC, hM, G, hr, hB, R2, st2, fr, rel2, rf.mono e2, okG.imp (okG.bind ok2) fun vs H3 R3 ds3 st3 e3 rel3 r3 _ q3 => ?_⟩
      obtain ⟨R4, st4, ds4, e4, rel4, r4, ok4⟩ := q3
      have r5 : RVs X.K H3 R4 (d2 :: ds4) (.ref a :: vs) := RVs.cons (r2.mono e4) r4
      unfold kMth2 at ok4
      refine ⟨?_, R4, st4, d2 :: ds4, rel4, r5, ?_⟩
      · rw [r5.length]
        refine ar _ st4 fun z => ?_
        rw [z] at ok4
        exact ok4
      · unfold okF
        cases e : F (d2 :: ds4) st4 with
        | ok d5 st5 => rw [e] at ok4; exact ok4
        | ex c st5 => rw [e] at ok4; exact ok4
        | no => rw [e] at ok4; exact ok4
    · exact ok2.elim
  · exact ok2.elim
theorem e_mth {T : MTab} {m k : Nat} {g : ME} {xs : MA} {pl : Sem Bool} (c : Ctx X W) (ho : IE X W o g) (hT : Mets X.prog X.w X.K X.mg X.base m k T) (hr : Room k X.A) (hm : m < anames.length) {nm : Str} (hn : nm = anm m) (ha : IA X W (e :: es) xs)
    (hst : starEach (e :: es) X.env = (false, eval e X.env) :: starEach es X.env := by rfl) (hpl : (backTo pos (starEach es X.env)).any (·.1) = false := by rfl)
    (ht : eval (.Call (.Attribute o nm apos) (e :: es) [] pos) X.env = (do
      let ov ← eval o X.env
      standAt apos.atName
      let (f, first) ← holding [ov] (getMethod ov nm pl)
      callWith pos f first (backTo pos (starEach (e :: es) X.env)) (backToKw pos (keywordEach [] X.env))) := by rfl) : IE X W (.Call (.Attribute o nm apos) (e :: es) [] pos) (eMth T m g xs) := by
  subst hn
  exact ⟨PE.imp (pe_methD (W := W) ho.pe c.pas ha.pa hst hpl ht) fun σ H Q h => tmeth_ok hm hT hr h⟩
theorem tmeth_ok0 {T : MTab} {m k : Nat} {g : ME} (hm : m < anames.length) (hT : Mets X.prog X.w X.K X.mg X.base m k T) (hr : Room k X.A) {σ : L2.St} {H : Hp} {Q : VK} (h : tE X.K W (eMth T m g aNil) σ H Q) : tMethD X W (anm m) (tE X.K W g) tNil σ H Q := by
  obtain ⟨R, st, fr, rel, rf, ok⟩ := h
  refine ⟨R, st, fr, rel, rf, okG.imp (okG.bind ok) fun x H1 R1 d st1 e1 rel1 r1 _ q => ?_⟩
  obtain ⟨R2, st2, d2, e2, rel2, r2, ok2⟩ := q
  unfold kMth at ok2
  split at ok2
  · rename_i x' h0
    split at ok2
    · rename_i F h1
      obtain ⟨a, C, dx, gs, rfl, hc, hH, hno⟩ := clsO_ok hm rel2 r2 h0
      obtain ⟨ps, ⟨⟨C', f, fd, hc', hC, hM, G, hB⟩, ar⟩⟩ := hT.get h1
      cases hc.inj hc'
      have ok4 : okG W σ H1 R2 (RV X.K) X.K Q (F [d2] st2) := ok2
      have r5 : RVs X.K H1 R2 [d2] [.ref a] := RVs.cons r2 RVs.nil
      refine ⟨a, C, dx, gs, f, fd, ps, k, _, rfl, hH, hno, hC, hM, G, hr, hB, ?_, R2, st2, [d2], rel2, r5, ?_⟩
      · rw [r5.length]
        refine ar _ st2 fun z => ?_
        rw [z] at ok4
        exact ok4
      · unfold okF
        cases e : F [d2] st2 with
        | ok d5 st5 => rw [e] at ok4; exact ok4
        | ex c st5 => rw [e] at ok4; exact ok4
        | no => rw [e] at ok4; exact ok4
    · exact ok2.elim
  · exact ok2.elim
theorem e_mth0 {T : MTab} {m k : Nat} {g : ME} {pl : Sem Bool} (c : Ctx X W) (ho : IE X W o g) (hT : Mets X.prog X.w X.K X.mg X.base m k T) (hr : Room k X.A) (hm : m < anames.length) {nm : Str} (hn : nm = anm m)
    (ht : eval (.Call (.Attribute o nm apos) [] [] pos) X.env = (do
      let ov ← eval o X.env
      standAt apos.atName
      let (f, first) ← holding [ov] (getMethod ov nm pl)
      callWith pos f first (backTo pos (starEach [] X.env)) (backToKw pos (keywordEach [] X.env))) := by rfl) : IE X W (.Call (.Attribute o nm apos) [] [] pos) (eMth T m g aNil) := by
  subst hn
  exact ⟨PE.imp (pe_methD0 (W := W) ho.pe c.pas ht) fun σ H Q h => tmeth_ok0 hm hT hr h⟩
end
end Vi
set_option maxRecDepth 100000
set_option maxHeartbeats 2000000
/-! Vi10: new instances; errors raised and caught. -/
namespace Vi
open PySem PySem.Spec PyProof.Rows L2
/-! ### a new instance -/
structure Mak (P : Program) (w : World) (K : PySem.W.Frag) (mg : Str → Option Value) (base : Heap) (x k : Nat) (ps : List Str) (F : MF) : Prop where
  ex : ∃ C f fd, clsAt K x C ∧ mg (cnm x) = some (.ref C) ∧ Mk K C f ∧ FnOk P w K mg base (L2N.CX P w) k f fd ps (spM K F ps.length) ∧ Binds K fd ps []
  ar : ∀ ds st, F ds st ≠ .no → ds.length = ps.length
theorem Mak.mono {P : Program} {w : World} {K : PySem.W.Frag} {mg : Str → Option Value} {base : Heap} {x j k : Nat} {ps : List Str} {F : MF} (h : Mak P w K mg base x j ps F) (hk : j ≤ k) : Mak P w K mg base x k ps F := by
  obtain ⟨C, f, fd, h1, h2, h3, h4, h5⟩ := h.ex
  exact ⟨⟨C, f, fd, h1, h2, h3, h4.mono hk, h5⟩, h.ar⟩
def kMk2 (n : Nat) (v : D) (st : Sto) : Out D := match v with
  | .non => .ok (.loc n) st
  | _ => .no
def kMk (x : Nat) (F : MF) (ds : List D) (st : Sto) : Out D := (F (.loc st.length :: ds) (st ++ [.ins x []])).bind (kMk2 st.length)
def eMk (x : Nat) (F : MF) (xs : MA) (fr : Fr) (st : Sto) : Out D := (xs fr st).bind (kMk x F)
section
variable {X : Cx} {W : WX} {pos : Pos} {e : Expr} {es : List Expr}
theorem run_makeS {CX : CXT} {k : Nat} {f C : Addr} {fd : FuncData} {ps : List Str} {sp : Sp} {E : L2.St → XK} {pins : List (Addr × Obj)} {σ : L2.St} {H : Hp} {s : Shared} {Q : VK} {us : List Value} {vs : List V} (M : Mk X.K C f)
    (F : FnOk X.prog X.w X.K X.mg X.base CX k f fd ps sp) (hr : Room (k + 1) X.A) (hb : Binds X.K fd ps []) (hx : PassesAt CX X σ (E σ)) (I : Inv X pins σ H s) (r : Vals vs us)
    (h : ∀ x dx, H x = none → H dx = none → dx ≠ x → sp (.ref x :: vs) (upd (upd H dx (.own x)) x (.ins C dx [])) (fun v H2 => v = .non ∧ Q (.ref x) H2) (E σ)) :
    wpAny (model X.prog X.w) X.A (call (.ref C) us) (EP X pins σ Q) X.xe s := by
  have hq := h (s.heap.objs.size + 1) s.heap.objs.size (I.hok.fresh (Nat.le_succ _)) (I.hok.fresh (Nat.le_refl _)) (Nat.ne_of_lt (Nat.lt_succ_self _))
  have I2 := Inv.made (C := C) I
  have r2 : Vals (V.ref (s.heap.objs.size + 1) :: vs) (Value.ref (s.heap.objs.size + 1) :: us) := .cons rfl r
  have hl : (Value.ref (s.heap.objs.size + 1) :: us).length = ps.length := by
    have e := r2.length
    rw [F.len _ _ _ _ hq] at e
    exact e.symm
  have b := hb _ (Value.ref (s.heap.objs.size + 1) :: us) I2.kIn (by rw [List.append_nil]; exact hl)
  rw [List.append_nil] at b
  refine wpAny_call (make_map (f := f) I.kIn M.makes M.init (beq_iff_eq.mp M.fn) (codeAny_mono (F.run _ X.stack _ _ ⟨Value.ref (s.heap.objs.size + 1) :: us, []⟩ (Value.ref (s.heap.objs.size + 1) :: us) _ _ (E σ) (hr.make C us [])
    (I2.env0.make C us []) b r2 hq) fun r s' hq' => ?_))
  cases r with
  | error e => exact hx pins _ _ e s' I2 hq'
  | ok fl =>
    cases fl with
    | ret u =>
      obtain ⟨v, H', I3, rv, ev, q3⟩ := I2.after hq'
      subst ev
      exact ⟨rv, ⟨V.ref (s.heap.objs.size + 1), H', I3, rfl, q3⟩⟩
    | next => exact False.elim hq'
    | brk => exact False.elim hq'
    | cont => exact False.elim hq'
def tMakeS (C : Addr) (sp : Sp) (E : L2.St → XK) (t : TA) : TE := fun σ H Q => t σ H fun vs H1 => ∀ x dx, H1 x = none → H1 dx = none → dx ≠ x → sp (.ref x :: vs) (upd (upd H1 dx (.own x)) x (.ins C dx [])) (fun v H2 => v = .non ∧ Q (.ref x) H2) (E σ)
theorem pe_makeS {CX : CXT} {k : Nat} {f C : Addr} {fd : FuncData} {ps : List Str} {sp : Sp} {E : L2.St → XK} {x : Str} {p : Pos} {t : TA} (M : Mk X.K C f) (F : FnOk X.prog X.w X.K X.mg X.base CX k f fd ps sp) (hr : Room (k + 1) X.A) (hg : Gl X x) (hm : X.mg x = some (.ref C)) (hb : Binds X.K fd ps []) (hx : ∀ σ, PassesAt CX X σ (E σ))
    (ha : PA X (e :: es) t) (hdb : (x == ("__debug__" : Str)) = false := by decide) (he : starEach (e :: es) X.env = (false, eval e X.env) :: starEach es X.env := by rfl) (hpl : (backTo pos (starEach es X.env)).any (·.1) = false := by rfl) :
    PE X (.Call (.Name x p) (e :: es) [] pos) (tMakeS C sp E t) := by
  refine ⟨fun pins s σ H Q I h => ?_⟩
  refine wpAny_Call_Name_kw (ld_glob I hg hm ?_ hdb)
  refine PySem.W.callWith_K (h₀ := X.base) I.ok.mod.kin M.kp (thn (ha.run pos pins s σ H _ I h) fun us s1 ⟨vs, H1, I1, r, q⟩ => ⟨I1.kIn, ?_⟩) he hpl
  exact run_makeS M F hr hb (hx σ) I1 r q
theorem pe_makeS0 {CX : CXT} {k : Nat} {f C : Addr} {fd : FuncData} {ps : List Str} {sp : Sp} {E : L2.St → XK} {x : Str} {p : Pos} (M : Mk X.K C f) (F : FnOk X.prog X.w X.K X.mg X.base CX k f fd ps sp) (hr : Room (k + 1) X.A) (hg : Gl X x) (hm : X.mg x = some (.ref C)) (hb : Binds X.K fd ps []) (hx : ∀ σ, PassesAt CX X σ (E σ))
    (hdb : (x == ("__debug__" : Str)) = false := by decide) : PE X (.Call (.Name x p) [] [] pos) (tMakeS C sp E tNil) := by
  refine ⟨fun pins s σ H Q I h => ?_⟩
  refine wpAny_Call_Name_kw (ld_glob I hg hm ?_ hdb)
  exact PySem.W.callWith_K0 I.kIn M.kp (run_makeS (us := []) M F hr hb (hx σ) I .nil h)
theorem make_sp {K : PySem.W.Frag} {W : WX} {σ : L2.St} {x : Nat} {F : MF} {ps : List Str} {C : Addr} (hc : clsAt K x C) (ar : ∀ ds st, F ds st ≠ .no → ds.length = ps.length) {H : Hp} {R : Tr} {st : Sto} {ds : List D} {vs : List V} {Q : VK} (rel : Rel K H R st) (r : RVs K H R ds vs)
    (ok : okG W σ H R (RV K) K Q (kMk x F ds st)) (y dx : Addr) (hy : H y = none) (hd : H dx = none) (hne : dx ≠ y) : spM K F ps.length (.ref y :: vs) (upd (upd H dx (.own y)) y (.ins C dx [])) (fun v H2 => v = .non ∧ Q (.ref y) H2) (WE W σ) := by
  have hy2 : (upd H dx (.own y)) y = none := by rw [upd_ne (Ne.symm hne)]; exact hy
  have e1 : Ext K H R (upd H dx (.own y)) R := Ext.new hd
  have e2 : Ext K (upd H dx (.own y)) R (upd (upd H dx (.own y)) y (.ins C dx [])) (R.add y) := Ext.alloc hy2
  have rel1 : Rel K (upd H dx (.own y)) R st := rel.aside hd
  have rel2 : Rel K (upd (upd H dx (.own y)) y (.ins C dx [])) (R.add y) (st ++ [.ins x []]) := rel1.alloc hy2 ⟨C, dx, [], hc, by rw [upd_same], rfl⟩
  have hyR : (R.add y).c[st.length]? = some y := rel.add_ix
  have r2 : RVs K (upd (upd H dx (.own y)) y (.ins C dx [])) (R.add y) (.loc st.length :: ds) (.ref y :: vs) := RVs.cons ⟨y, hyR, rfl⟩ ((r.mono e1).mono e2)
  unfold kMk at ok
  refine ⟨?_, R.add y, st ++ [.ins x []], _, rel2, r2, ?_⟩
  · rw [r2.length]
    refine ar _ (st ++ [.ins x []]) fun z => ?_
    rw [z] at ok
    exact ok
  · unfold okF
    cases e : F (.loc st.length :: ds) (st ++ [.ins x []]) with
    | ok d5 st5 =>
      rw [e, Out.bind_ok] at ok
      intro H' R' b ex rl rb
      cases d5 with
      | non => exact ⟨rb, ok H' R' (.ref y) ((e1.trans e2).trans ex) rl ⟨y, ex.pre _ _ hyR, rfl⟩⟩
      | _ => exact ok.elim
    | ex c st5 =>
      rw [e, Out.bind_ex] at ok
      exact fun H' R' C' hC' ex rl => ok H' R' C' hC' ((e1.trans e2).trans ex) rl
    | no => rw [e] at ok; exact ok
/-- .. an instance whose fields are no longer written -/
noncomputable def kMkF (x : Nat) (F : MF) (ds : List D) (st : Sto) : Out D := fzOut st (kMk x F ds st)
noncomputable def eMkF (x : Nat) (F : MF) (xs : MA) (fr : Fr) (st : Sto) : Out D := (xs fr st).bind (kMkF x F)
theorem kMkF_ok {K : PySem.W.Frag} {W : WX} {σ : L2.St} {x : Nat} {F : MF} {H : Hp} {R : Tr} {st : Sto} {ds : List D} {Q : VK} (rel : Rel K H R st) (ok : okG W σ H R (RV K) K Q (kMkF x F ds st)) : okG W σ H R (RV K) K Q (kMk x F ds st) :=
  okG.fits (by rw [rel.len]; exact fzOut_fits rel.closed) ok
theorem e_mk {x k : Nat} {ps : List Str} {F : MF} {xs : MA} {p : Pos} (c : Ctx X W) (d : Mak X.prog X.w X.K X.mg X.base x k ps F) (hr : Room (k + 1) X.A) {nm : Str} (hn : nm = cnm x) (ha : IA X W (e :: es) xs) (hg : Gl X nm := by rfl) (hdb : (nm == ("__debug__" : Str)) = false := by decide)
    (he : starEach (e :: es) X.env = (false, eval e X.env) :: starEach es X.env := by rfl) (hpl : (backTo pos (starEach es X.env)).any (·.1) = false := by rfl) : IE X W (.Call (.Name nm p) (e :: es) [] pos) (eMk x F xs) := by
  obtain ⟨C, f, fd, h1, h2, h3, h4, h5⟩ := d.ex
  subst hn
  refine ⟨PE.imp (pe_makeS h3 h4 hr hg h2 h5 c.pas ha.pa hdb he hpl) fun σ H Q h => ?_⟩
  obtain ⟨R, st, fr, rel, rf, ok⟩ := h
  refine ⟨R, st, fr, rel, rf, okG.imp (okG.bind ok) fun vs H1 R1 ds st1 e1 rel1 r1 _ q => ?_⟩
  obtain ⟨R2, st2, d2, e2, rel2, r2, ok2⟩ := q
  exact make_sp h1 d.ar rel2 r2 ok2
theorem e_mk0 {x k : Nat} {ps : List Str} {F : MF} {p : Pos} (c : Ctx X W) (d : Mak X.prog X.w X.K X.mg X.base x k ps F) (hr : Room (k + 1) X.A) {nm : Str} (hn : nm = cnm x) (hg : Gl X nm := by rfl) (hdb : (nm == ("__debug__" : Str)) = false := by decide) : IE X W (.Call (.Name nm p) [] [] pos) (eMk x F aNil) := by
  obtain ⟨C, f, fd, h1, h2, h3, h4, h5⟩ := d.ex
  subst hn
  refine ⟨PE.imp (pe_makeS0 h3 h4 hr hg h2 h5 c.pas hdb) fun σ H Q h => ?_⟩
  obtain ⟨R, st, fr, rel, rf, ok⟩ := h
  exact make_sp h1 d.ar rel RVs.nil ok
theorem e_mkF {x k : Nat} {ps : List Str} {F : MF} {xs : MA} {p : Pos} (c : Ctx X W) (d : Mak X.prog X.w X.K X.mg X.base x k ps F) (hr : Room (k + 1) X.A) {nm : Str} (hn : nm = cnm x) (ha : IA X W (e :: es) xs) (hg : Gl X nm := by rfl) (hdb : (nm == ("__debug__" : Str)) = false := by decide)
    (he : starEach (e :: es) X.env = (false, eval e X.env) :: starEach es X.env := by rfl) (hpl : (backTo pos (starEach es X.env)).any (·.1) = false := by rfl) : IE X W (.Call (.Name nm p) (e :: es) [] pos) (eMkF x F xs) := by
  obtain ⟨C, f, fd, h1, h2, h3, h4, h5⟩ := d.ex
  subst hn
  refine ⟨PE.imp (pe_makeS h3 h4 hr hg h2 h5 c.pas ha.pa hdb he hpl) fun σ H Q h => ?_⟩
  obtain ⟨R, st, fr, rel, rf, ok⟩ := h
  refine ⟨R, st, fr, rel, rf, okG.imp (okG.bind ok) fun vs H1 R1 ds st1 e1 rel1 r1 _ q => ?_⟩
  obtain ⟨R2, st2, d2, e2, rel2, r2, ok2⟩ := q
  exact make_sp h1 d.ar rel2 r2 (kMkF_ok rel2 ok2)
/-! ### raise X('..') -/
/-- an error class of the module over ValueError, without a text of its own -/
structure ErrC (K : PySem.W.Frag) (mg : Str → Option Value) (x : Nat) : Prop where
  ex : ∃ C, clsAt K x C ∧ mg (cnm x) = some (.ref C) ∧ PySem.W.excIn K C [.type "ValueError", .type "Exception", .type "BaseException", .type "object"] "ValueError.__new__" = true ∧ PySem.W.keepIn K (.ref C) = true ∧
    PySem.W.subIn K (.ref C) (.type "BaseException") = some true ∧ PySem.W.typeIn K (.ref C) = some (.type "type")
def sRs (x : Nat) (fr : Fr) (st : Sto) : OutS := .ex x fr st
@[simp] theorem sRs_s (x : Nat) (fr : Fr) (st : Sto) : sRs x fr st = .ex x fr st := (rfl)
theorem s_rs {x : Nat} {m : Str} {j : Nat} {p p2 pos' : Pos} (c : Ctx X W) (E : ErrC X.K X.mg x) {nm : Str} (hn : nm = cnm x) (hg : Gl X nm := by rfl) (hdb : (nm == ("__debug__" : Str)) = false := by decide) :
    IS X W (.Raise (some (.Call (.Name nm p) [.Constant (.str m) j p2] [] pos')) none pos) (sRs x) := by
  obtain ⟨C, h1, h2, h3, h4, h5, h6⟩ := E.ex
  subst hn
  refine ⟨PS.imp (L2N.ps_raise c.calm c.tk (L2N.pmk_own PySem.F.excBase_ValueError h3 h2 h4 (raises_own h5 h6) hg hdb)) fun D σ H h => ?_⟩
  obtain ⟨R, st, fr, rel, rf, ok⟩ := h
  exact ok H R σ C h1 Ext.refl rel rf
end
end Vi
set_option maxRecDepth 100000
set_option maxHeartbeats 2000000
/-! Vi11: try. -/
namespace Vi
open PySem PySem.Spec PyProof.Rows L2
/-- .. and no error leaves it -/
def noS (o : OutS) : OutS := match o with
  | .ex _ _ _ => .no
  | o => o
@[simp] theorem noS_nx (fr : Fr) (st : Sto) : noS (.nx fr st) = .nx fr st := (rfl)
@[simp] theorem noS_rt (d : D) (st : Sto) : noS (.rt d st) = .rt d st := (rfl)
@[simp] theorem noS_bk (fr : Fr) (st : Sto) : noS (.bk fr st) = .bk fr st := (rfl)
@[simp] theorem noS_ct (fr : Fr) (st : Sto) : noS (.ct fr st) = .ct fr st := (rfl)
theorem okS.noS {K : PySem.W.Frag} {W W' : WX} {H : Hp} {R : Tr} {D : Ends} {o : OutS} (h : okS K W H R D (noS o)) : okS K W' H R D o := by
  cases o with
  | nx fr st => exact h
  | rt d st => exact h
  | bk fr st => exact h
  | ct fr st => exact h
  | ex c fr st => exact h.elim
  | no => exact h
/-- which error classes the clause's class takes -/
abbrev STab := List (Nat × Bool)
def stGet : STab → Nat → Option Bool
  | [], _ => none
  | (y, b) :: r, x => if y = x then some b else stGet r x
def Subs (K : PySem.W.Frag) (c : Value) : STab → Prop
  | [] => True
  | (x, b) :: r => (∃ C, clsAt K x C ∧ PySem.W.exmOne K (.ref C) c = some b) ∧ Subs K c r
theorem Subs.get {K : PySem.W.Frag} {c : Value} : ∀ {T : STab} {x : Nat} {b : Bool}, Subs K c T → stGet T x = some b → ∃ C, clsAt K x C ∧ PySem.W.exmOne K (.ref C) c = some b
  | [], _, _, _, e => by cases e
  | (y, d) :: r, x, b, h, e => by
    unfold stGet at e
    by_cases hy : y = x
    · rw [if_pos hy] at e
      cases e
      subst hy
      exact h.1
    · rw [if_neg hy] at e
      exact Subs.get h.2 e
theorem subs_nil {K : PySem.W.Frag} {c : Value} : Subs K c [] := trivial
theorem subs_cons {K : PySem.W.Frag} {c : Value} {x : Nat} {b : Bool} {T : STab} {C : Addr} (h : clsAt K x C) (e : PySem.W.exmOne K (.ref C) c = some b) (t : Subs K c T) : Subs K c ((x, b) :: T) := ⟨⟨C, h, e⟩, t⟩
def kTry (T : STab) (suite : MS) (o : OutS) : OutS := match o with
  | .ex x fr st => match stGet T x with
    | some true => noS (suite fr st)
    | some false => .ex x fr st
    | none => .no
  | o => o
def sTry (T : STab) (body suite : MS) (fr : Fr) (st : Sto) : OutS := kTry T suite (body fr st)
@[simp] theorem sTry_s (T : STab) (body suite : MS) (fr : Fr) (st : Sto) : sTry T body suite fr st = kTry T suite (body fr st) := (rfl)
@[simp] theorem kTry_nx (T : STab) (suite : MS) (fr : Fr) (st : Sto) : kTry T suite (.nx fr st) = .nx fr st := (rfl)
@[simp] theorem kTry_rt (T : STab) (suite : MS) (d : D) (st : Sto) : kTry T suite (.rt d st) = .rt d st := (rfl)
@[simp] theorem kTry_bk (T : STab) (suite : MS) (fr : Fr) (st : Sto) : kTry T suite (.bk fr st) = .bk fr st := (rfl)
@[simp] theorem kTry_ct (T : STab) (suite : MS) (fr : Fr) (st : Sto) : kTry T suite (.ct fr st) = .ct fr st := (rfl)
section
variable {X : Cx} {W : WX} {pos : Pos}
theorem s_try {x : Str} {c : Value} {T : STab} {body suite : List Stmt} {b₀ : Stmt} {np pos' : Pos} {mb ms : MS} (cx : Ctx X W) (hs : X.stack = X.env :: X.outer) (hf : X.env.frame = some X.env.locals) (hc : Names X x c) (hT : Subs X.K c T)
    (hb : ∀ (W' : WX) (pn : List (Addr × Obj)) (xe : Value → Shared → Prop), Ctx (X.tr pn xe) W' → PassesOwn (model X.prog X.w) X.A X.env xe → ISs (X.tr pn xe) W' body mb)
    (hsu : ∀ (a : Addr) (pn : List (Addr × Obj)), ISs (X.suite a pn) W0 (b₀ :: suite) ms) :
    IS X W (.Try body [.ExceptHandler (some (.Name x np)) none (b₀ :: suite) pos'] [] [] pos) (sTry T mb ms) := by
  refine ⟨PS.imp (L2N.ps_try_many (tb := fun W' => tS X.K W' mb) hs hf cx.tk (fun W' pn xe tk hp => (hb W' pn xe ⟨cx.calm, cx.nd, fun σ => L2N.passAt tk σ, tk⟩ hp).pss) (.cons (ts := fun _ _ _ => tS X.K W0 ms) hc (fun a oe cls d pn _ _ => (hsu a _).pss) .nil)) fun D σ H h => ?_⟩
  obtain ⟨R, st, fr, rel, rf, ok⟩ := h
  refine ⟨R, st, fr, rel, rf, ?_⟩
  unfold sTry at ok
  cases e : mb fr st with
  | nx fr1 st1 => rw [e] at ok; exact ok
  | rt d1 st1 => rw [e] at ok; exact ok
  | bk fr1 st1 => rw [e] at ok; exact ok
  | ct fr1 st1 => rw [e] at ok; exact ok
  | no => rw [e] at ok; exact ok
  | ex x1 fr1 st1 =>
    rw [e] at ok
    intro H1 R1 σ1 C hC e1 rel1 rf1
    unfold kTry at ok
    simp only at ok
    split at ok
    · rename_i h1
      obtain ⟨C', hC', hx⟩ := hT.get h1
      cases hC.inj hC'
      exact ⟨true, hx, fun _ a na => ⟨R1, st1, fr1, rel1, rf1, (okS.ext ok e1).noS⟩, fun z => (nomatch z)⟩
    · rename_i h1
      obtain ⟨C', hC', hx⟩ := hT.get h1
      cases hC.inj hC'
      exact ⟨false, hx, (fun z => (nomatch z)), fun _ => ok H1 R1 σ1 C hC e1 rel1 rf1⟩
    · exact ok.elim
def sThru (body : MS) (fr : Fr) (st : Sto) : OutS := noS (body fr st)
@[simp] theorem sThru_s (body : MS) (fr : Fr) (st : Sto) : sThru body fr st = noS (body fr st) := (rfl)
/-- a try whose body lets nothing out -/
theorem s_thru {body : List Stmt} {h₀ : ExceptHandler} {hs : List ExceptHandler} {mb : MS} (cx : Ctx X W) (hb : Ctx X.nox W0 → ISs X.nox W0 body mb) : IS X W (.Try body (h₀ :: hs) [] [] pos) (sThru mb) := by
  refine ⟨PS.imp (ps_try_thru0 (hb ⟨cx.calm, cx.nd, pas0, takes0⟩).pss) fun D σ H h => ?_⟩
  obtain ⟨R, st, fr, rel, rf, ok⟩ := h
  exact ⟨R, st, fr, rel, rf, ok.noS⟩
end
end Vi
set_option maxRecDepth 100000
set_option maxHeartbeats 2000000
/-! Vi12: starred items, range with a step. -/
namespace Vi
open PySem PySem.Spec PyProof.Rows L2
section
variable {X : Cx} {W : WX} {pos p : Pos} {e : Expr} {es : List Expr}
def kStar2 (ds es : List D) (st : Sto) : Out (List D) := .ok (ds ++ es) st
def kStar (g : MA) (fr : Fr) (d : D) (st : Sto) : Out (List D) := match asQ st d with
  | some ds => (g fr st).bind (kStar2 ds)
  | none => .no
def aStar (f : ME) (g : MA) (fr : Fr) (st : Sto) : Out (List D) := (f fr st).bind (kStar g fr)
@[simp] theorem aStar_s (f : ME) (g : MA) (fr : Fr) (st : Sto) : aStar f g fr st = (f fr st).bind (kStar g fr) := (rfl)
@[simp] theorem kStar_t (g : MA) (fr : Fr) (ds : List D) (st : Sto) : kStar g fr (.tup ds) st = (g fr st).bind (kStar2 ds) := (rfl)
theorem kStar_l {g : MA} {fr : Fr} {n : Nat} {ds : List D} {st : Sto} (h : st[n]? = some (.lst ds)) : kStar g fr (.loc n) st = (g fr st).bind (kStar2 ds) := by simp only [kStar, asQ, h]
@[simp] theorem kStar_f (g : MA) (fr : Fr) (ds : List D) (st : Sto) : kStar g fr (.fl ds) st = (g fr st).bind (kStar2 ds) := (rfl)
@[simp] theorem kStar2_s (ds es : List D) (st : Sto) : kStar2 ds es st = .ok (ds ++ es) st := (rfl)
theorem a_star {f : ME} {g : MA} (he : IE X W e f) (hr : IA X W es g) (hs : starEach (.Starred e p :: es) X.env = (true, eval e X.env) :: starEach es X.env := by rfl) : IA X W (.Starred e p :: es) (aStar f g) := by
  refine ⟨PA.imp (StX.pa_star he.pe hr.pa hs) fun σ H Q h => ?_⟩
  obtain ⟨R, st, fr, rel, rf, ok⟩ := h
  refine ⟨R, st, fr, rel, rf, okG.imp (okG.bind ok) fun x H1 R1 d st1 e1 rel1 r1 _ q => ?_⟩
  obtain ⟨R2, st2, d2, e2, rel2, r2, ok2⟩ := q
  unfold kStar at ok2
  split at ok2
  · rename_i ds hd
    have key : ∃ a vs, x = .ref a ∧ (SqT X.K H1 a vs ∨ SqL X.K H1 a vs) ∧ RVs X.K H1 R2 ds vs := by
      cases d2 with
      | tup es =>
        simp only [asQ, Option.some.injEq] at hd
        subst hd
        obtain ⟨a, vs, rfl, hs, rr⟩ := r2
        exact ⟨a, vs, rfl, .inl hs, rr⟩
      | rol es =>
        simp only [asQ, Option.some.injEq] at hd
        subst hd
        obtain ⟨a, vs, rfl, hs, rr⟩ := r2
        exact ⟨a, vs, rfl, .inr hs.sq, rr⟩
      | fl es =>
        simp only [asQ, Option.some.injEq] at hd
        subst hd
        obtain ⟨a, vs, rfl, hs, _, rr⟩ := r2
        exact ⟨a, vs, rfl, .inr (.inl (.inl hs)), rr⟩
      | loc n =>
        simp only [asQ] at hd
        split at hd
        · rename_i hs
          cases hd
          obtain ⟨a, ha, rfl⟩ := r2
          obtain ⟨vs, hv, rr⟩ := rel2.lst ha hs
          exact ⟨a, vs, rfl, .inr (.inl (.inl hv)), rr⟩
        · cases hd
      | _ => simp [asQ] at hd
    obtain ⟨a, vs, rfl, hsq, rr⟩ := key
    refine ⟨a, vs, rfl, hsq, R2, st2, fr, rel2, rf.mono e2, okG.imp (okG.bind ok2) fun ys H3 R3 ds3 st3 e3 rel3 r3 _ q3 => ?_⟩
    obtain ⟨R4, st4, ds4, e4, rel4, r4, ok4⟩ := q3
    exact ok4 H3 R4 _ Ext.refl rel4 ((rr.mono e4).append r4)
  · exact ok2.elim
/-! ### range(i, j, c) -/
def rngC (lo c : Int) (n : Nat) : List D := (List.range n).map fun (k : Nat) => D.int (lo + (k : Int) * c)
theorem rngC_get {lo c : Int} {n i : Nat} {d : D} (h : (rngC lo c n)[i]? = some d) : i < n ∧ d = .int (lo + (i : Int) * c) := by
  unfold rngC at h
  rw [List.getElem?_map] at h
  by_cases hi : i < n
  · simp [hi] at h
    exact ⟨hi, h.symm⟩
  · simp [hi] at h
theorem rngC_len (lo c : Int) (n : Nat) : (rngC lo c n).length = n := by simp [rngC]
theorem serves_rangeC {K : PySem.W.Frag} {H : Hp} {R : Tr} {lo c : Int} {n : Nat} : Serves K (.seq (rngC lo c n)) (Itc lo c n) H R where
  go := fun i H2 R2 st2 e rel _ d hd => by
    obtain ⟨hi, rfl⟩ := rngC_get hd
    refine ⟨hi, fun x H3 y => ?_⟩
    obtain ⟨rfl, rfl⟩ := y
    exact ⟨rel, Ext.refl, rfl⟩
  stop := fun i H2 R2 st2 e rel _ h => by
    rw [ItD.items_seq, rngC_len] at h
    exact h
/-- how many -/
def rngN (i j c : Int) : Nat := (Builtin.Range.rangeSize i j c).toNat
def kR3 (ds : List D) (st : Sto) : Out ItD := match ds with
  | [.int i, .int j, .int c] => if (decide (c ≠ 0) && decide (c.natAbs < 1073741824) && Builtin.Range.small i j c && decide (0 ≤ Builtin.Range.rangeSize i j c)) = true then .ok (.seq (rngC i c (rngN i j c))) st else .no
  | _ => .no
def iRange3 (f : MA) (fr : Fr) (st : Sto) : Out ItD := (f fr st).bind kR3
@[simp] theorem iRange3_s (f : MA) (fr : Fr) (st : Sto) : iRange3 f fr st = (f fr st).bind kR3 := (rfl)
theorem i_range3 {tg a b c : Expr} {f : MA} {q : Pos} (hg : Gl X "range") (hm : X.mg "range" = none) (ha : IA X W [a, b, c] f)
    (hs : starEach [a, b, c] X.env = (false, eval a X.env) :: starEach [b, c] X.env := by rfl) (hpl : (backTo pos (starEach [b, c] X.env)).any (·.1) = false := by rfl) : II X W tg (.Call (.Name "range" q) [a, b, c] [] pos) (iRange3 f) := by
  refine ⟨PI.imp (pi_range3 hg hm ha.pa hs hpl) fun σ H Q h => ?_⟩
  obtain ⟨R, st, fr, rel, rf, ok⟩ := h
  refine ⟨R, st, fr, rel, rf, okG.imp (okI.bind ok) fun x H1 R1 d st1 e1 rel1 r1 _ q => ?_⟩
  obtain ⟨R2, st2, d2, e2, rel2, r2, ok2⟩ := q
  unfold kR3 at ok2
  split at ok2
  · split at ok2
    · rename_i i j k hj
      obtain ⟨v, r, rfl, h1, v2, r', rfl, h2, v3, r'', rfl, h3, h4⟩ := r2
      subst h4
      cases (show v = _ from h1)
      cases (show v2 = _ from h2)
      cases (show v3 = _ from h3)
      simp only [Bool.and_eq_true, decide_eq_true_eq] at hj
      obtain ⟨⟨⟨c1, c2⟩, c3⟩, c4⟩ := hj
      exact ⟨i, j, k, rngN i j k, rfl, ⟨c1, c2, c3, by unfold rngN; omega⟩, ok2 H1 R2 _ Ext.refl rel2 serves_rangeC⟩
    · exact ok2.elim
  · exact ok2.elim
/-! ### enumerate(list) -/
def enumd : Nat → List D → List D
  | _, [] => []
  | i, d :: r => .tup [.int (i : Int), d] :: enumd (i + 1) r
theorem enumd_get : ∀ {ds : List D} {k i : Nat} {d : D}, (enumd k ds)[i]? = some d → ∃ x, ds[i]? = some x ∧ d = .tup [.int ((k + i : Nat) : Int), x]
  | [], _, _, _, h => by simp [enumd] at h
  | y :: r, k, 0, d, h => by
    simp [enumd] at h
    exact ⟨y, rfl, h.symm⟩
  | y :: r, k, i + 1, d, h => by
    obtain ⟨x, h1, h2⟩ := enumd_get (ds := r) (k := k + 1) (i := i) (by simpa [enumd] using h)
    exact ⟨x, by simpa using h1, by rw [h2, show k + 1 + i = k + (i + 1) by omega]⟩
theorem enumd_len : ∀ (ds : List D) (k : Nat), (enumd k ds).length = ds.length
  | [], _ => rfl
  | _ :: r, k => by simp [enumd, enumd_len r]
theorem serves_enum {K : PySem.W.Frag} {H : Hp} {R : Tr} {n : Nat} {ds : List D} {a : Addr} (ha : R.c[n]? = some a) : Serves K (.view n ds (enumd 0 ds)) (Ite K a) H R where
  go := fun i H2 R2 st2 e rel hb d hd => by
    obtain ⟨vs, hv, rr⟩ := rel.lst (e.pre _ _ ha) (holdsB_vof hb)
    obtain ⟨x, hx, rfl⟩ := enumd_get hd
    obtain ⟨v, hv2, rv⟩ := rr.get hx
    refine ⟨⟨vs, v, .inl (.inl hv), hv2⟩, fun y H3 q => ?_⟩
    obtain ⟨T, z, rfl, hT, rfl, q⟩ := q
    have := q vs (.inl (.inl hv))
    rw [hv2] at this
    cases this
    have ex : Ext K H2 R2 (upd H2 T (.tup [.int (i : Nat), v])) R2 := Ext.new hT
    refine ⟨rel.aside hT, ex, T, [.int (i : Nat), v], rfl, .inl (.inl (by rw [upd_same])), RVs.cons ?_ (RVs.cons (rv.mono ex) RVs.nil)⟩
    show V.int _ = V.int _
    rw [Nat.zero_add]
  stop := fun i H2 R2 st2 e rel hb h => by
    obtain ⟨vs, hv, rr⟩ := rel.lst (e.pre _ _ ha) (holdsB_vof hb)
    rw [ItD.items_view, enumd_len] at h
    exact ⟨vs, .inl (.inl hv), by rw [rr.length]; exact h⟩
theorem serves_enumF {K : PySem.W.Frag} {H : Hp} {R : Tr} {ds : List D} {a : Addr} {vs : List V} (hs : ∀ H2 R2, Ext0 K H R H2 R2 → SqL K H2 a vs) (rr : RVs K H R ds vs) : Serves K (.seq (enumd 0 ds)) (Ite K a) H R where
  go := fun i H2 R2 st2 e rel hb d hd => by
    obtain ⟨x, hx, rfl⟩ := enumd_get hd
    obtain ⟨v, hv2, rv⟩ := rr.get hx
    refine ⟨⟨vs, v, hs _ _ e, hv2⟩, fun y H3 q => ?_⟩
    obtain ⟨T, z, rfl, hT, rfl, q⟩ := q
    have := q vs (hs _ _ e)
    rw [hv2] at this
    cases this
    have ex : Ext K H2 R2 (upd H2 T (.tup [.int (i : Nat), v])) R2 := Ext.new hT
    refine ⟨rel.aside hT, ex, T, [.int (i : Nat), v], rfl, .inl (.inl (by rw [upd_same])), RVs.cons ?_ (RVs.cons ((rv.mono0 e).mono ex) RVs.nil)⟩
    show V.int _ = V.int _
    rw [Nat.zero_add]
  stop := fun i H2 R2 st2 e rel hb h => by
    rw [ItD.items_seq, enumd_len] at h
    exact ⟨vs, hs _ _ e, by rw [rr.length]; exact h⟩
def kEnumL (ds : List D) (st : Sto) : Out ItD := match ds with
  | [.loc n] => match st[n]? with
    | some (.lst es) => .ok (.view n es (enumd 0 es)) st
    | _ => .no
  | [.fl es] => .ok (.seq (enumd 0 es)) st
  | [.rol es] => .ok (.seq (enumd 0 es)) st
  | _ => .no
theorem kEnumL_l {n : Nat} {es : List D} {st : Sto} (h : st[n]? = some (.lst es)) : kEnumL [.loc n] st = .ok (.view n es (enumd 0 es)) st := by simp only [kEnumL, h]
@[simp] theorem kEnumL_f {es : List D} {st : Sto} : kEnumL [.fl es] st = .ok (.seq (enumd 0 es)) st := (rfl)
def iEnumL (f : MA) (fr : Fr) (st : Sto) : Out ItD := (f fr st).bind kEnumL
@[simp] theorem iEnumL_s (f : MA) (fr : Fr) (st : Sto) : iEnumL f fr st = (f fr st).bind kEnumL := (rfl)
theorem i_enumL {a : Expr} {f : MA} {q tpos : Pos} {elts : List Expr} {kk : Nat} (hg : Gl X "enumerate") (hm : X.mg "enumerate" = none) (ha : IA X W [a] f) (hs : starEach [a] X.env = [(false, eval a X.env)] := by rfl) :
    II X W (.Tuple elts kk tpos) (.Call (.Name "enumerate" q) [a] [] pos) (iEnumL f) := by
  refine ⟨PI.imp (pi_enum hg hm ha.pa hs) fun σ H Q h => ?_⟩
  obtain ⟨R, st, fr, rel, rf, ok⟩ := h
  refine ⟨R, st, fr, rel, rf, okG.imp (okI.bind ok) fun x H1 R1 d st1 e1 rel1 r1 _ q => ?_⟩
  obtain ⟨R2, st2, d2, e2, rel2, r2, ok2⟩ := q
  unfold kEnumL at ok2
  split at ok2
  · rename_i n
    split at ok2
    · rename_i es hs2
      obtain ⟨v, rfl, h1⟩ := rvs1 r2
      obtain ⟨b, hb, rfl⟩ := h1
      obtain ⟨vs, hv, rr⟩ := rel2.lst hb hs2
      exact ⟨b, vs, rfl, .inl (.inl hv), ok2 H1 R2 _ Ext.refl rel2 (serves_enum hb)⟩
    · exact ok2.elim
  · rename_i es
    obtain ⟨v, rfl, h1⟩ := rvs1 r2
    obtain ⟨b, vs, rfl, hv, hf, rr⟩ := h1
    exact ⟨b, vs, rfl, .inl (.inl hv), ok2 H1 R2 _ Ext.refl rel2 (serves_enumF (fun _ _ e => .inl (.inl (e.lst hv hf).1)) rr)⟩
  · rename_i es
    obtain ⟨v, rfl, h1⟩ := rvs1 r2
    obtain ⟨b, vs, rfl, hv, rr⟩ := h1
    exact ⟨b, vs, rfl, hv.sq, ok2 H1 R2 _ Ext.refl rel2 (serves_enumF (fun _ _ e => (e.frz _ _ hv).sq) rr)⟩
  · exact ok2.elim
end
end Vi
set_option maxRecDepth 100000
set_option maxHeartbeats 2000000
/-! Vi13: comprehensions of two generators. -/
namespace Vi
open PySem PySem.Spec PyProof.Rows L2
/-- outer turns, each with a row of items -/
def lcB (it : ItD) (g : MG) (t : MT) (inn : MA) : List D → Fr → Sto → Out (List D)
  | [], fr, st => if holdsB it st = true then .ok [] st else .no
  | d :: ds, fr, st => if holdsB it st = true then (g d fr st).bind fun fr1 st1 => (t fr1 st1).bind fun k st2 =>
      if k = true then (inn fr1 st2).bind fun ys st3 => (lcB it g t inn ds fr st3).bind fun zs st4 => .ok (ys ++ zs) st4 else lcB it g t inn ds fr st2 else .no
def kInn (vs1 : List Nat) (g1 : MG) (t1 : MT) (e : ME) (fr : Fr) (it : ItD) (st : Sto) : Out (List D) := lcN it g1 t1 e it.items (fwipe fr vs1) st
def lcI (vs1 : List Nat) (f1 : MI) (g1 : MG) (t1 : MT) (e : ME) (fr : Fr) (st : Sto) : Out (List D) := (f1 fr st).bind (kInn vs1 g1 t1 e fr)
def kLc2 (mk : List D → Sto → Out D) (vs : List Nat) (g : MG) (t : MT) (inn : MA) (fr : Fr) (it : ItD) (st : Sto) : Out D := (lcB it g t inn it.items (fwipe fr vs) st).nox.bind mk
def eLc2 (mk : List D → Sto → Out D) (vs : List Nat) (f : MI) (g : MG) (t : MT) (inn : MA) (fr : Fr) (st : Sto) : Out D := (f fr st).bind (kLc2 mk vs g t inn fr)
@[simp] theorem eLc2_s (mk : List D → Sto → Out D) (vs : List Nat) (f : MI) (g : MG) (t : MT) (inn : MA) (fr : Fr) (st : Sto) : eLc2 mk vs f g t inn fr st = (f fr st).bind (kLc2 mk vs g t inn fr) := (rfl)
@[simp] theorem kLc2_s (mk : List D → Sto → Out D) (vs : List Nat) (g : MG) (t : MT) (inn : MA) (fr : Fr) (it : ItD) (st : Sto) : kLc2 mk vs g t inn fr it st = (lcB it g t inn it.items (fwipe fr vs) st).nox.bind mk := (rfl)
@[simp] theorem lcI_s (vs1 : List Nat) (f1 : MI) (g1 : MG) (t1 : MT) (e : ME) (fr : Fr) (st : Sto) : lcI vs1 f1 g1 t1 e fr st = (f1 fr st).bind (kInn vs1 g1 t1 e fr) := (rfl)
@[simp] theorem kInn_s (vs1 : List Nat) (g1 : MG) (t1 : MT) (e : ME) (fr : Fr) (it : ItD) (st : Sto) : kInn vs1 g1 t1 e fr it st = lcN it g1 t1 e it.items (fwipe fr vs1) st := (rfl)
section
variable {X : Cx} {W : WX} {pos : Pos}
theorem okI.bindN {α β : Type} {K : PySem.W.Frag} {W : WX} {σ σ' : L2.St} {H0 H : Hp} {R0 R : Tr} {rv : Hp → Tr → α → β → Prop} {Q : β → Hp → Prop} {x : Out ItD} {k : ItD → Sto → Out α} (h : okG W σ H0 R0 rv K Q (x.nox.bind k)) :
    okI K W0 σ' H R (fun J H' => ∃ R' st' it, Ext K H R H' R' ∧ Rel K H' R' st' ∧ Serves K it J H' R' ∧ okG W σ H0 R0 rv K Q (k it st')) x := by
  cases x with
  | ok it st => exact fun H' R' J e r sv => ⟨R', st, it, e, r, sv, h⟩
  | ex c st => exact h.elim
  | no => exact h
theorem acc_lenK {K : PySem.W.Frag} {W : WX} {σ : L2.St} {H : Hp} {R : Tr} {Q : VK} {acc : List D} {x : Out (List D)} {kk : List D → Sto → Out D} (hk : ∀ acc st, okG W σ H R (RV K) K Q (kk acc st) → acc.length ≤ 16000000)
    (h : okG W σ H R (RV K) K Q (x.nox.bind fun ys st2 => kk (acc ++ ys) st2)) : acc.length ≤ 16000000 := by
  cases x with
  | ok ys st =>
    have := hk _ _ (show okG W σ H R (RV K) K Q (kk (acc ++ ys) st) from h)
    rw [List.length_append] at this
    omega
  | ex c st => exact h.elim
  | no => exact h.elim
/-- a state of the walk: the list D, tracked aside, holds acc -/
def Mid (K : PySem.W.Frag) (H1 : Hp) (R1 : Tr) (D : Addr) (P : List Vi.D → Sto → Prop) (H' : Hp) : Prop :=
  ∃ R' st' acc accv, Ext K H1 R1 H' R' ∧ Rel K H' R' st' ∧ D ∈ R'.s ∧ H' D = some (.lst accv) ∧ RVs K H' R' acc accv ∧ P acc st'
theorem inner_ok {f1 : MI} {g1 : MG} {t1 : MT} {e : ME} {vs1 : List Nat} {g10 : TG}
    (hg1 : ∀ (v : V) (σ : L2.St) (H : Hp) (Q : L2.St → Hp → Prop) (R : Tr) (st : Sto) (fr : Fr) (d : D), Rel X.K H R st → RFr X.K H R fr σ → RV X.K H R d v →
      okG W0 [] H R (rvF X.K) X.K (fun σ' H' => L2.wipe σ' vs1 = L2.wipe σ vs1 → Q σ' H') (g1 d fr st) → g10 v σ H Q)
    (ww : ∀ σ : L2.St, L2.wipe (L2.wipe σ vs1) vs1 = L2.wipe σ vs1)
    {σ σ2 : L2.St} {H1 H3 : Hp} {R1 R3 : Tr} {Q : VK} {D : Addr} {kk : List Vi.D → Sto → Out Vi.D} {acc : List Vi.D} {accv : List V} {st3 : Sto} {fr3 : Fr} (hD : H1 D = none)
    (hk : ∀ acc st, okG W σ H1 R1 (RV X.K) X.K Q (kk acc st) → acc.length ≤ 16000000)
    (e3 : Ext X.K H1 R1 H3 R3) (rel3 : Rel X.K H3 R3 st3) (rf3 : RFr X.K H3 R3 fr3 σ2) (nD : D ∈ R3.s) (hDv : H3 D = some (.lst accv)) (racc : RVs X.K H3 R3 acc accv)
    (ok : okG W σ H1 R1 (RV X.K) X.K Q ((lcI vs1 f1 g1 t1 e fr3 st3).nox.bind fun ys st => kk (acc ++ ys) st)) :
    tIt X.K W0 f1 σ2 H3 fun J1 H4 => ∃ W1 : Nat → Nat → Hp → Prop, (∃ m, W1 0 m H4) ∧ ∀ j k H, W1 j k H →
      (J1.stop j H ∧ Mid X.K H1 R1 D (fun acc st => okG W σ H1 R1 (RV X.K) X.K Q (kk acc st)) H) ∨ (J1.go j H ∧ ∃ Nx1 : Hp → Prop, (∀ H', Nx1 H' → ∃ k', k' < k ∧ W1 (j + 1) k' H') ∧ ∀ x H', J1.yld j H x H' →
        g10 x (L2.wipe σ2 vs1) H' fun σ3 H5 => L2.wipe σ3 vs1 = L2.wipe σ2 vs1 ∧ tT X.K W0 t1 σ3 H5 fun b H6 =>
          if b = true then tE X.K W0 e σ3 H6 fun y H7 => ∃ acc, H7 D = some (.lst acc) ∧ acc.length < sizeLine ∧ Nx1 (upd H7 D (.lst (acc ++ [y]))) else Nx1 H6) := by
  refine ⟨R3, st3, fr3, rel3, rf3, ?_⟩
  unfold lcI at ok
  rw [Out.nox_bind, Out.bind_assoc] at ok
  cases ef : f1 fr3 st3 with
  | no => rw [ef] at ok; exact ok.elim
  | ex c st1 => rw [ef] at ok; exact ok.elim
  | ok it st4 =>
    rw [ef, Out.nox_ok, Out.bind_ok] at ok
    intro H4 R4 J e4 rel4 sv
    have kD := (e4.lst' hDv fun z => rel3.apart z nD).1
    have nD4 := e4.sk D nD
    have rf4 : RFr X.K H4 R4 (fwipe fr3 vs1) (L2.wipe σ2 vs1) := (rf3.mono e4).wipe vs1
    refine ⟨fun j k H' => k + j = it.items.length ∧ ∃ R' st' acc accv, Ext X.K H1 R1 H' R' ∧ Ext0 X.K H4 R4 H' R' ∧ Rel X.K H' R' st' ∧ D ∈ R'.s ∧ H' D = some (.lst accv) ∧ RVs X.K H' R' acc accv ∧
        okG W σ H1 R1 (RV X.K) X.K Q ((lcN it g1 t1 e (it.items.drop j) (fwipe fr3 vs1) st').nox.bind fun ys st2 => kk (acc ++ ys) st2),
      ⟨it.items.length, by omega, R4, st4, acc, accv, e3.trans e4, Ext.refl.e0, rel4, nD4, kD, racc.mono e4, ok⟩, ?_⟩
    rintro j k H' ⟨em, R', st', acc, accv, e', e0', rel', nD', hDv', racc', ok'⟩
    by_cases hj : j < it.items.length
    · rw [List.drop_eq_getElem_cons hj] at ok'
      unfold lcN at ok'
      split at ok'
      · rename_i hb'
        obtain ⟨q1, q2⟩ := sv.go j H' R' st' e0' rel' hb' _ (List.getElem?_eq_getElem hj)
        refine .inr ⟨q1, fun H'' => ∃ R' st' acc accv, Ext X.K H1 R1 H'' R' ∧ Ext0 X.K H4 R4 H'' R' ∧ Rel X.K H'' R' st' ∧ D ∈ R'.s ∧ H'' D = some (.lst accv) ∧ RVs X.K H'' R' acc accv ∧
          okG W σ H1 R1 (RV X.K) X.K Q ((lcN it g1 t1 e (it.items.drop (j + 1)) (fwipe fr3 vs1) st').nox.bind fun ys st2 => kk (acc ++ ys) st2), fun H'' q => ⟨k - 1, by omega, by omega, q⟩, fun x H5 y => ?_⟩
        obtain ⟨rel5, e5, rv5⟩ := q2 x H5 y
        have rf5 := (rf4.mono0 e0').mono e5
        rw [Out.nox_bind, Out.bind_assoc] at ok'
        refine hg1 x (L2.wipe σ2 vs1) H5 _ R' st' (fwipe fr3 vs1) _ rel5 rf5 rv5 (okG.imp (okG.bindN ok') fun σ6 H6 R6 fr6 st6 e6 rel6 rf6 _ q6 hw => ?_)
        obtain ⟨R7, st7, fr7, e7, rel7, rf7, ok7⟩ := q6
        refine ⟨hw.trans (ww σ2), R7, st7, fr7, rel7, rf7, ?_⟩
        rw [Out.nox_bind, Out.bind_assoc] at ok7
        refine okG.imp (okG.bindN ok7) fun b H8 R8 d8 st8 e8 rel8 r8 _ q8 => ?_
        obtain ⟨R9, st9, b9, e9, rel9, r9, ok9⟩ := q8
        obtain rfl : b = b9 := r9
        have ea : Ext X.K H' R' H8 R9 := (e5.trans e7).trans e9
        have eb : Ext X.K H1 R1 H8 R9 := e'.trans ea
        have ec : Ext0 X.K H4 R4 H8 R9 := e0'.trans ea.e0
        have kD8 : H8 D = some (.lst accv) ∧ D ∈ R9.s := ⟨(ea.lst' hDv' fun z => rel'.apart z nD').1, ea.sk D nD'⟩
        cases b with
        | false =>
          rw [if_neg Bool.false_ne_true] at ok9 ⊢
          exact ⟨R9, st9, acc, accv, eb, ec, rel9, kD8.2, kD8.1, racc'.mono ea, ok9⟩
        | true =>
          rw [if_pos rfl] at ok9 ⊢
          rw [Out.nox_bind, Out.bind_assoc] at ok9
          refine ⟨R9, st9, fr7, rel9, rf7.mono e9, okG.imp (okG.bindN ok9) fun y10 H10 R10 d10 st10 e10 rel10 r10 _ q10 => ?_⟩
          obtain ⟨R11, st11, d11, e11, rel11, r11, ok11⟩ := q10
          rw [Out.nox_bind, Out.bind_assoc] at ok11
          have ok12 : okG W σ H1 R1 (RV X.K) X.K Q ((lcN it g1 t1 e (it.items.drop (j + 1)) (fwipe fr3 vs1) st11).nox.bind fun ys st2 => kk ((acc ++ [d11]) ++ ys) st2) := by
            have z : (fun (a : List Vi.D) st => ((Out.ok (d11 :: a) st : Out (List Vi.D)).nox).bind fun ys st2 => kk (acc ++ ys) st2) = fun ys st2 => kk ((acc ++ [d11]) ++ ys) st2 := by
              funext ys st2
              show kk (acc ++ d11 :: ys) st2 = _
              rw [List.append_assoc]
              rfl
            rw [← z]
            exact ok11
          have k11 : H10 D = some (.lst accv) ∧ D ∈ R11.s := ⟨(e11.lst' kD8.1 fun z => rel9.apart z kD8.2).1, e11.sk D kD8.2⟩
          have hl := acc_lenK hk ok12
          rw [List.length_append, List.length_singleton] at hl
          have racc11 : RVs X.K H10 R11 (acc ++ [d11]) (accv ++ [y10]) := RVs.append ((racc'.mono ea).mono e11) (RVs.cons r11 RVs.nil)
          exact ⟨accv, k11.1, by rw [racc'.length]; exact big_lt (by omega), R11, st11, acc ++ [d11], accv ++ [y10], (eb.trans e11).side hD k11.1, (ec.trans e11.e0).trans (Ext0.side k11.2 k11.1), rel11.side k11.2 k11.1, k11.2, upd_same, racc11.mono0 (Ext0.side k11.2 k11.1), ok12⟩
      · exact ok'.elim
    · have ei : it.items.drop j = [] := List.drop_eq_nil_of_le (by omega)
      rw [ei] at ok'
      unfold lcN at ok'
      split at ok'
      · rename_i hb'
        refine .inl ⟨sv.stop j H' R' st' e0' rel' hb' (by omega), R', st', acc, accv, e', rel', nD', hDv', racc', ?_⟩
        rw [Out.nox_ok, Out.bind_ok, List.append_nil] at ok'
        exact ok'
      · exact ok'.elim
end
end Vi
set_option maxRecDepth 100000
set_option maxHeartbeats 2000000
/-! Vi14: the rule for comprehensions of two generators. -/
namespace Vi
open PySem PySem.Spec PyProof.Rows L2
section
variable {X : Cx} {W : WX} {pos : Pos}
/-- what the outer walk does from its i-th item on -/
def kOut (mk : List D → Sto → Out D) (it : ItD) (g : MG) (t : MT) (inn : MA) (fr : Fr) (vs : List Nat) (i : Nat) (acc : List D) (st : Sto) : Out D := (lcB it g t inn (it.items.drop i) (fwipe fr vs) st).nox.bind fun zs st2 => mk (acc ++ zs) st2
theorem lc2_ok {mk : List D → Sto → Out D} (mm : MkL mk) {f : MI} {g : MG} {t : MT} {f1 : MI} {g1 : MG} {t1 : MT} {e : ME} {vs vs1 : List Nat} {g0 g10 : TG}
    (hg0 : ∀ (v : V) (σ : L2.St) (H : Hp) (Q : L2.St → Hp → Prop) (R : Tr) (st : Sto) (fr : Fr) (d : D), Rel X.K H R st → RFr X.K H R fr σ → RV X.K H R d v →
      okG W0 [] H R (rvF X.K) X.K (fun σ' H' => L2.wipe σ' vs = L2.wipe σ vs → Q σ' H') (g d fr st) → g0 v σ H Q)
    (hg1 : ∀ (v : V) (σ : L2.St) (H : Hp) (Q : L2.St → Hp → Prop) (R : Tr) (st : Sto) (fr : Fr) (d : D), Rel X.K H R st → RFr X.K H R fr σ → RV X.K H R d v →
      okG W0 [] H R (rvF X.K) X.K (fun σ' H' => L2.wipe σ' vs1 = L2.wipe σ vs1 → Q σ' H') (g1 d fr st) → g10 v σ H Q)
    {σ : L2.St} {H : Hp} {Q : VK} (h : tE X.K W (eLc2 mk vs f g t (lcI vs1 f1 g1 t1 e)) σ H Q) : tLc2 (tIt X.K W f) g0 (tT X.K W0 t) (tIt X.K W0 f1) g10 (tT X.K W0 t1) (tE X.K W0 e) vs vs1 σ H Q := by
  obtain ⟨R, st, fr, rel, rf, ok⟩ := h
  refine ⟨R, st, fr, rel, rf, ?_⟩
  unfold eLc2 at ok
  cases ef : f fr st with
  | no => rw [ef] at ok; exact ok.elim
  | ex c st1 => rw [ef] at ok; exact ok
  | ok it st1 =>
    rw [ef, Out.bind_ok] at ok
    intro H1 R1 J e1 rel1 sv D hD
    have ok1 := okG.ext ok e1
    have rf1 : RFr X.K H1 R1 (fwipe fr vs) (L2.wipe σ vs) := (rf.mono e1).wipe vs
    have side : Ext X.K H1 R1 (upd H1 D (.lst [])) (R1.put D) := Ext.aside hD
    have hk : ∀ i acc st, okG W σ H1 R1 (RV X.K) X.K Q (kOut mk it g t (lcI vs1 f1 g1 t1 e) fr vs i acc st) → acc.length ≤ 16000000 := fun i acc st h => acc_len mm h
    refine ⟨fun i m H' => m + i = it.items.length ∧ Mid X.K H1 R1 D (fun acc st => okG W σ H1 R1 (RV X.K) X.K Q (kOut mk it g t (lcI vs1 f1 g1 t1 e) fr vs i acc st)) H',
      ⟨it.items.length, by omega, R1.put D, st1, [], [], side, rel1.put hD, List.mem_cons_self, upd_same, rfl, ok1⟩, ?_⟩
    rintro i m H' ⟨em, R', st', acc, accv, e', rel', nD, hDv, racc, ok'⟩
    by_cases hi : i < it.items.length
    · unfold kOut at ok'
      rw [List.drop_eq_getElem_cons hi] at ok'
      unfold lcB at ok'
      split at ok'
      · rename_i hb'
        obtain ⟨q1, q2⟩ := sv.go i H' R' st' e'.e0 rel' hb' _ (List.getElem?_eq_getElem hi)
        refine .inr ⟨q1, Mid X.K H1 R1 D (fun acc st => okG W σ H1 R1 (RV X.K) X.K Q (kOut mk it g t (lcI vs1 f1 g1 t1 e) fr vs (i + 1) acc st)), fun H'' q => ⟨m - 1, by omega, by omega, q⟩, fun x H3 y => ?_⟩
        obtain ⟨rel3, e3, rv3⟩ := q2 x H3 y
        have rf3 := ((rf1.mono e').mono e3)
        rw [Out.nox_bind, Out.bind_assoc] at ok'
        refine hg0 x (L2.wipe σ vs) H3 _ R' st' (fwipe fr vs) _ rel3 rf3 rv3 (okG.imp (okG.bindN ok') fun σ4 H4 R4 fr4 st4 e4 rel4 rf4 _ q4 hw => ?_)
        obtain ⟨R5, st5, fr5, e5, rel5, rf5, ok5⟩ := q4
        refine ⟨hw.trans (wipe_twice σ vs), R5, st5, fr5, rel5, rf5, ?_⟩
        rw [Out.nox_bind, Out.bind_assoc] at ok5
        refine okG.imp (okG.bindN ok5) fun b H6 R6 d6 st6 e6 rel6 r6 _ q6 => ?_
        obtain ⟨R7, st7, b7, e7, rel7, r7, ok7⟩ := q6
        obtain rfl : b = b7 := r7
        have ea : Ext X.K H' R' H6 R7 := (e3.trans e5).trans e7
        have e'7 : Ext X.K H1 R1 H6 R7 := e'.trans ea
        have kD : H6 D = some (.lst accv) ∧ D ∈ R7.s := ⟨(ea.lst' hDv fun z => rel'.apart z nD).1, ea.sk D nD⟩
        cases b with
        | false =>
          rw [if_neg Bool.false_ne_true] at ok7 ⊢
          exact ⟨R7, st7, acc, accv, e'7, rel7, kD.2, kD.1, racc.mono ea, ok7⟩
        | true =>
          rw [if_pos rfl] at ok7 ⊢
          rw [Out.nox_bind, Out.bind_assoc] at ok7
          have ok8 : okG W σ H1 R1 (RV X.K) X.K Q ((lcI vs1 f1 g1 t1 e fr5 st7).nox.bind fun ys st => kOut mk it g t (lcI vs1 f1 g1 t1 e) fr vs (i + 1) (acc ++ ys) st) := by
            have z : (fun (ys : List Vi.D) (st3 : Sto) => ((lcB it g t (lcI vs1 f1 g1 t1 e) (it.items.drop (i + 1)) (fwipe fr vs) st3).bind fun zs st4 => (Out.ok (ys ++ zs) st4 : Out (List Vi.D))).nox.bind fun ws st => mk (acc ++ ws) st) =
                fun ys st => kOut mk it g t (lcI vs1 f1 g1 t1 e) fr vs (i + 1) (acc ++ ys) st := by
              funext ys st3
              unfold kOut
              rw [Out.nox_bind, Out.bind_assoc]
              congr 1
              funext zs st4
              show mk (acc ++ (ys ++ zs)) st4 = _
              rw [List.append_assoc]
            rw [← z]
            exact ok7
          exact inner_ok hg1 (fun σ => wipe_twice σ vs1) hD (hk (i + 1)) e'7 rel7 (rf5.mono e7) kD.2 kD.1 (racc.mono ea) ok8
      · exact ok'.elim
    · have ei : it.items.drop i = [] := List.drop_eq_nil_of_le (by omega)
      unfold kOut at ok'
      rw [ei] at ok'
      unfold lcB at ok'
      split at ok'
      · rename_i hb'
        refine .inl ⟨sv.stop i H' R' st' e'.e0 rel' hb' (by omega), ?_⟩
        rw [Out.nox_ok, Out.bind_ok, List.append_nil] at ok'
        exact mm.end rel1.st e' hD rel' nD hDv racc ok'
      · exact ok'.elim
variable {elt tg iter tg1 iter1 : Expr} {ifs ifs1 : List Expr} {scope : Scope} {own : List (Str × Nat)} {vs1 : List Nat} {f f1 : MI} {g g1 : MG} {g0 g10 : TG} {t t1 : MT} {e : ME}
theorem e_lc2 {mk : List D → Sto → Out D} (mm : MkL mk) (c : Ctx X W) (hi : II X W tg iter f) (ok : BlkOk X.N X.env.scope scope own) (hv : ∀ i ∈ vs1, i ∈ own.map (·.2))
    (hg : ∀ (s : Shared) (H : Hp) (C : Addr) (cl : List (Str × Addr)) (fp : List Addr), Ctx (X.blk s H scope (compEnvC scope cl C X.env) fp) W0 → IGc (X.blk s H scope (compEnvC scope cl C X.env) fp) tg (own.map (·.2)) g g0)
    (ht : ∀ (s : Shared) (H : Hp) (C : Addr) (cl : List (Str × Addr)) (fp : List Addr), Ctx (X.blk s H scope (compEnvC scope cl C X.env) fp) W0 → ITs (X.blk s H scope (compEnvC scope cl C X.env) fp) ifs t)
    (hi1 : ∀ (s : Shared) (H : Hp) (C : Addr) (cl : List (Str × Addr)) (fp : List Addr), Ctx (X.blk s H scope (compEnvC scope cl C X.env) fp) W0 → II (X.blk s H scope (compEnvC scope cl C X.env) fp) W0 tg1 iter1 f1)
    (hg1 : ∀ (s : Shared) (H : Hp) (C : Addr) (cl : List (Str × Addr)) (fp : List Addr), Ctx (X.blk s H scope (compEnvC scope cl C X.env) fp) W0 → IGc (X.blk s H scope (compEnvC scope cl C X.env) fp) tg1 vs1 g1 g10)
    (ht1 : ∀ (s : Shared) (H : Hp) (C : Addr) (cl : List (Str × Addr)) (fp : List Addr), Ctx (X.blk s H scope (compEnvC scope cl C X.env) fp) W0 → ITs (X.blk s H scope (compEnvC scope cl C X.env) fp) ifs1 t1)
    (he : ∀ (s : Shared) (H : Hp) (C : Addr) (cl : List (Str × Addr)) (fp : List Addr), Ctx (X.blk s H scope (compEnvC scope cl C X.env) fp) W0 → IE (X.blk s H scope (compEnvC scope cl C X.env) fp) W0 elt e)
    (hs : ∀ x, foldedSetIterable iter X.env x = pure x := by intro _; rfl) (hs1 : ∀ env x, foldedSetIterable iter1 env x = pure x := by intro _ _; rfl) :
    IE X W (.ListComp elt [⟨tg, iter, ifs, 0⟩, ⟨tg1, iter1, ifs1, 0⟩] scope pos) (eLc2 mk (own.map (·.2)) f g t (lcI vs1 f1 g1 t1 e)) := by
  refine ⟨PE.imp (pe_lc2 (te := tE X.K W0 e) (tt := tT X.K W0 t) (tt1 := tT X.K W0 t1) (wi1 := tIt X.K W0 f1) (vs1 := vs1) c.calm c.nd hi.pi ok hv (fun s H C cl fp => (hg s H C cl fp (ctx_blk c.calm c.nd)).pg) (fun s H C cl fp => (ht s H C cl fp (ctx_blk c.calm c.nd)).pts)
    (fun s H C cl fp => (hi1 s H C cl fp (ctx_blk c.calm c.nd)).pi) (fun s H C cl fp => (hg1 s H C cl fp (ctx_blk c.calm c.nd)).pg) (fun s H C cl fp => (ht1 s H C cl fp (ctx_blk c.calm c.nd)).pts) (fun s H C cl fp => (he s H C cl fp (ctx_blk c.calm c.nd)).pe) hs hs1) fun σ H Q h => ?_⟩
  exact lc2_ok mm (fun v σ H Q R st fr d a b r o => (hg X.s_0 H 0 [] [] (ctx_blk c.calm c.nd)).st v σ H Q R st fr d a b r o) (fun v σ H Q R st fr d a b r o => (hg1 X.s_0 H 0 [] [] (ctx_blk c.calm c.nd)).st v σ H Q R st fr d a b r o) h
end
end Vi
set_option maxRecDepth 100000
set_option maxHeartbeats 2000000
/-! Vi15: sum of a tuple. -/
namespace Vi
open PySem PySem.Spec PyProof.Rows L2
theorem preSum_ints (ns : List Int) : ∀ n, n ≤ ns.length → preSum (fun i => ns[i]?.getD 0) n = (ns.take n).sum
  | 0, _ => by simp [preSum]
  | n + 1, h => by
    have hx : ns[n]? = some ns[n] := List.getElem?_eq_getElem h
    show preSum _ n + (ns[n]?.getD 0) = _
    rw [preSum_ints ns n (by omega), List.take_succ, hx, List.sum_append_int]
    simp
section
variable {X : Cx}
theorem sum_tup {prog : Program} {w : World} {A : Around} {E : Value → Shared → Prop} {s : Shared} {Q : Value → Shared → Prop} {a : Addr} {its : List Value} {ns : List Int} (hh : A.handled = none) (ht : s.heap.IsTuple a its.toArray) (rv : Vals (ns.map V.int) its)
    (hQ : ∀ h' tk t', (∀ b o, s.heap.get? b = some o → h'.get? b = some o) → Q (.int ns.sum t') { s with heap := h', toks := tk }) : wpAny (model prog w) A (call (.builtin "sum") [.ref a]) Q E s := by
  have hlt : a < s.heap.objs.size := by
    obtain ⟨_, e, _⟩ := id ht
    exact Heap.lt_size e
  have hlen : its.length = ns.length := by rw [← rv.length, List.length_map]
  refine call_sum_walkG (wpAny_pyIter_tuple ht ?_)
  refine ⟨s.heap.objs.size, [s.heap.objs.size, a], [s.heap.objs.size], its.toArray.size, (fun i v => its.toArray[i]? = some v), (fun i h => h.IsTupleIter s.heap.objs.size a i ∧ h.IsTuple a its.toArray), (fun i => ns[i]?.getD 0), rfl,
    Walks.tuple (A := A.in1) hh _ a (Nat.ne_of_lt hlt) its.toArray, ⟨⟨_, Heap.get?_push_size _ rfl, rfl, rfl⟩, ?_⟩, ?_, ?_, fun h' tk t' hk => ?_⟩
  · obtain ⟨o, e, r⟩ := id ht
    exact ⟨o, Heap.get?_push_of_some _ e, r⟩
  · intro b hb
    show b < (s.heap.push _).objs.size
    rw [Heap.size_push]
    rcases List.mem_cons.mp hb with z | z
    · rw [z]
      exact Nat.lt_succ_self _
    · have : b = a := by simpa using z
      rw [this]
      exact Nat.lt_succ_of_lt hlt
  · intro i v hv
    have hv2 : its[i]? = some v := by simpa using hv
    have hi : i < ns.length := by
      have := (List.getElem?_eq_some_iff.mp hv2).1
      omega
    have hb : (ns.map V.int)[i]? = some (V.int ns[i]) := by rw [List.getElem?_map, List.getElem?_eq_getElem hi]; rfl
    obtain ⟨u, hu, ru⟩ := rv.get hb
    rw [hv2] at hu
    cases hu
    obtain ⟨t, e⟩ := (show ∃ t, v = Value.int _ t from ru)
    exact ⟨t, by rw [e]; show Value.int _ t = Value.int (ns[i]?.getD 0) t; rw [List.getElem?_eq_getElem hi]; rfl⟩
  · have hs : preSum (fun i => ns[i]?.getD 0) its.toArray.size = ns.sum := by
      rw [List.size_toArray, hlen, preSum_ints ns _ (Nat.le_refl _), List.take_length]
    rw [hs]
    refine hQ h' tk t' fun b o e => hk b o ?_ (Heap.get?_push_of_some _ e)
    intro z
    have : b = s.heap.objs.size := by simpa using z
    have hb := Heap.lt_size e
    rw [this] at hb
    exact Nat.lt_irrefl _ hb
def rSumT (K : PySem.W.Frag) : List V → Hp → VK → Prop := fun vs H Q => ∃ (a : Addr) (ns : List Int), vs = [V.ref a] ∧ SqT K H a (ns.map V.int) ∧ Q (.int ns.sum) H
theorem cr_sumT (hc : X.calm = true) : CallR X (.builtin "sum") (rSumT X.K) := by
  intro pins s σ H vs us Q I r h
  obtain ⟨a, ns, rfl, hs, q⟩ := h
  obtain ⟨its, rv, ht, _⟩ := I.tuple hs
  rw [Vals.ref1 r]
  exact sum_tup (I.ok.hd hc) ht rv fun h' tk t' hk => ⟨.int _, H, I.kept hk, ⟨_, rfl⟩, q⟩
/-- sum of a list or a tuple of ints -/
def bSumA (xs : List D) (st : Sto) : Out D := match xs with
  | [d] => match (asQ st d).bind toInts with
    | some ns => .ok (.int ns.sum) st
    | none => .no
  | _ => .no
theorem ne_bSumA : NoEx1 bSumA := fun x st c st' => by
  unfold bSumA
  split
  · split <;> exact fun h => nomatch h
  · exact fun h => nomatch h
theorem bSumA_t (ns : List Int) (st : Sto) : bSumA [.tup (ns.map .int)] st = .ok (.int ns.sum) st := by simp only [bSumA, asQ, Option.bind_some, toInts_map]
theorem bSumA_f (ns : List Int) (st : Sto) : bSumA [.fl (ns.map .int)] st = .ok (.int ns.sum) st := by simp only [bSumA, asQ, Option.bind_some, toInts_map]
theorem bSumA_l {n : Nat} {ns : List Int} {st : Sto} (e : st[n]? = some (.lst (ns.map .int))) : bSumA [.loc n] st = .ok (.int ns.sum) st := by simp only [bSumA, asQ, e, Option.bind_some, toInts_map]
theorem c_sumA (hc : X.calm = true) : CallI X (.builtin "sum") bSumA := by
  refine ⟨fun pins s σ H vs us Q I r q => ?_⟩
  obtain ⟨R, st, ds, rel, rr, ok⟩ := q
  unfold bSumA at ok
  split at ok
  · split at ok
    · rename_i d _ ns e
      obtain ⟨v, rfl, h1⟩ := rvs1 rr
      obtain ⟨es, e1, e2⟩ := Option.bind_eq_some_iff.mp e
      have he := toInts_ok e2
      subst he
      cases d with
      | tup fs =>
        simp only [asQ, Option.some.injEq] at e1
        subst e1
        obtain ⟨a, ws, rfl, hs, r2⟩ := h1
        rw [r2.ints] at hs
        exact cr_sumT hc pins s σ H _ us Q I r ⟨a, ns, rfl, hs, ok H R _ Ext.refl rel rfl⟩
      | rol fs =>
        simp only [asQ, Option.some.injEq] at e1
        subst e1
        obtain ⟨a, ws, rfl, hs, r2⟩ := h1
        rw [r2.ints] at hs
        exact cr_sum hc pins s σ H _ us Q I r ⟨a, ns, rfl, hs.sq, ok H R _ Ext.refl rel rfl⟩
      | fl fs =>
        simp only [asQ, Option.some.injEq] at e1
        subst e1
        obtain ⟨a, ws, rfl, hs, _, r2⟩ := h1
        rw [r2.ints] at hs
        exact cr_sum hc pins s σ H _ us Q I r ⟨a, ns, rfl, .inl (.inl hs), ok H R _ Ext.refl rel rfl⟩
      | loc n =>
        simp only [asQ] at e1
        split at e1
        · rename_i hs
          cases e1
          obtain ⟨a, ha, rfl⟩ := h1
          obtain ⟨ws, hv, r2⟩ := rel.lst ha hs
          rw [r2.ints] at hv
          exact cr_sum hc pins s σ H _ us Q I r ⟨a, ns, rfl, .inl (.inl hv), ok H R _ Ext.refl rel rfl⟩
        · cases e1
      | _ => simp [asQ] at e1
    · exact ok.elim
  · exact ok.elim
end
end Vi
set_option maxRecDepth 100000
/-! ViS: meanings evaluated from the head: what follows is a named continuation, not looked into before its turn. -/
namespace Vi
open PySem PySem.Spec PyProof.Rows L2
section
variable {fr fr' : Fr} {st st' : Sto} {o o' : M2} {f g h : ME} {t u : MT} {a b : MS} {xs : MA} {d x y z : D} {mk : List D → Sto → Out D}
/-! expressions -/
def oD (q : Option D) (st : Sto) : Out D := match q with
  | some d => .ok d st
  | none => .no
@[simp] theorem oD_some : oD (some d) st = .ok d st := (rfl)
@[simp] theorem eVar_s (i : Nat) : eVar i fr st = oD (fget fr i) st := by unfold eVar oD; cases fget fr i <;> rfl
@[simp] theorem eC_s : eC d fr st = .ok d st := (rfl)
def kBin (o : M2) (g : ME) (fr : Fr) (x : D) (st : Sto) : Out D := (g fr st).bind (o x)
@[simp] theorem eBin_s : eBin o f g fr st = (f fr st).bind (kBin o g fr) := (rfl)
@[simp] theorem kBin_s : kBin o g fr x st = (g fr st).bind (o x) := (rfl)
@[simp] theorem toB_s : toB f fr st = (f fr st).bind asB := (rfl)
def kCh1 (o o' : M2) (g h : ME) (fr : Fr) (x : D) (st : Sto) : Out D := (g fr st).bind fun y st2 => (o x y st2).bind fun z st3 => (asB z st3).bind fun k st4 => if k = true then (h fr st4).bind fun w st5 => o' y w st5 else .ok (.bl false) st4
def kCh2 (o o' : M2) (h : ME) (fr : Fr) (x y : D) (st : Sto) : Out D := (o x y st).bind fun z st3 => (asB z st3).bind fun k st4 => if k = true then (h fr st4).bind fun w st5 => o' y w st5 else .ok (.bl false) st4
def kCh3 (o' : M2) (h : ME) (fr : Fr) (y z : D) (st : Sto) : Out D := (asB z st).bind fun k st4 => if k = true then (h fr st4).bind fun w st5 => o' y w st5 else .ok (.bl false) st4
def kCh4 (o' : M2) (h : ME) (fr : Fr) (y : D) (k : Bool) (st : Sto) : Out D := if k = true then (h fr st).bind fun w st5 => o' y w st5 else .ok (.bl false) st
@[simp] theorem eChain_s : eChain o o' f g h fr st = (f fr st).bind (kCh1 o o' g h fr) := (rfl)
@[simp] theorem kCh1_s : kCh1 o o' g h fr x st = (g fr st).bind (kCh2 o o' h fr x) := (rfl)
@[simp] theorem kCh2_s : kCh2 o o' h fr x y st = (o x y st).bind (kCh3 o' h fr y) := (rfl)
@[simp] theorem kCh3_s : kCh3 o' h fr y z st = (asB z st).bind (kCh4 o' h fr y) := (rfl)
@[simp] theorem kCh4_t : kCh4 o' h fr y true st = (h fr st).bind (o' y) := (rfl)
@[simp] theorem kCh4_f : kCh4 o' h fr y false st = .ok (.bl false) st := (rfl)
theorem kCh4_d (p : Prop) [Decidable p] : kCh4 o' h fr y (decide p) st = if p then (h fr st).bind (o' y) else .ok (.bl false) st := by
  by_cases hp : p
  · simp [hp]
  · simp [hp]
def kAnd (u : MT) (fr : Fr) (k : Bool) (st : Sto) : Out Bool := if k = true then u fr st else .ok false st
def kOr (u : MT) (fr : Fr) (k : Bool) (st : Sto) : Out Bool := if k = true then .ok true st else u fr st
def kNot (k : Bool) (st : Sto) : Out Bool := .ok (!k) st
@[simp] theorem bAnd_s : bAnd t u fr st = (t fr st).bind (kAnd u fr) := (rfl)
@[simp] theorem bOr_s : bOr t u fr st = (t fr st).bind (kOr u fr) := (rfl)
@[simp] theorem bNot_s : bNot t fr st = (t fr st).bind kNot := (rfl)
@[simp] theorem kAnd_t : kAnd u fr true st = u fr st := (rfl)
@[simp] theorem kAnd_f : kAnd u fr false st = .ok false st := (rfl)
@[simp] theorem kOr_t : kOr u fr true st = .ok true st := (rfl)
@[simp] theorem kOr_f : kOr u fr false st = u fr st := (rfl)
@[simp] theorem kNot_s (k : Bool) : kNot k st = .ok (!k) st := (rfl)
def kVAnd (g : ME) (fr : Fr) (k : Bool) (st : Sto) : Out D := if k = true then g fr st else .ok (.bl false) st
def kVOr (g : ME) (fr : Fr) (k : Bool) (st : Sto) : Out D := if k = true then .ok (.bl true) st else g fr st
def kVNot (k : Bool) (st : Sto) : Out D := .ok (.bl (!k)) st
@[simp] theorem vAnd_s : vAnd f g fr st = ((f fr st).bind asB).bind (kVAnd g fr) := by unfold vAnd; rw [Out.bind_assoc]; rfl
@[simp] theorem vOr_s : vOr f g fr st = ((f fr st).bind asB).bind (kVOr g fr) := by unfold vOr; rw [Out.bind_assoc]; rfl
@[simp] theorem vNot_s : vNot f fr st = ((f fr st).bind asB).bind kVNot := by unfold vNot; rw [Out.bind_assoc]; rfl
@[simp] theorem kVAnd_t : kVAnd g fr true st = g fr st := (rfl)
@[simp] theorem kVAnd_f : kVAnd g fr false st = .ok (.bl false) st := (rfl)
@[simp] theorem kVOr_t : kVOr g fr true st = .ok (.bl true) st := (rfl)
@[simp] theorem kVOr_f : kVOr g fr false st = g fr st := (rfl)
@[simp] theorem kVNot_s (k : Bool) : kVNot k st = .ok (.bl (!k)) st := (rfl)
def kIf (f g : ME) (fr : Fr) (k : Bool) (st : Sto) : Out D := if k = true then f fr st else g fr st
@[simp] theorem eIf_s : eIf t f g fr st = (t fr st).bind (kIf f g fr) := (rfl)
@[simp] theorem kIf_t : kIf f g fr true st = f fr st := (rfl)
@[simp] theorem kIf_f : kIf f g fr false st = g fr st := (rfl)
theorem kIf_d (p : Prop) [Decidable p] : kIf f g fr (decide p) st = if p then f fr st else g fr st := by by_cases hp : p <;> simp [hp]
def kCons (xs : MA) (fr : Fr) (x : D) (st : Sto) : Out (List D) := (xs fr st).bind fun r st2 => .ok (x :: r) st2
def kCons2 (x : D) (r : List D) (st : Sto) : Out (List D) := .ok (x :: r) st
@[simp] theorem aNil_s : aNil fr st = .ok [] st := (rfl)
@[simp] theorem aCons_s : aCons f xs fr st = (f fr st).bind (kCons xs fr) := (rfl)
@[simp] theorem kCons_s : kCons xs fr x st = (xs fr st).bind (kCons2 x) := (rfl)
@[simp] theorem kCons2_s (r : List D) : kCons2 x r st = .ok (x :: r) st := (rfl)
@[simp] theorem eTup_s : eTup xs fr st = (xs fr st).bind mkTup := (rfl)
@[simp] theorem eLst_s : eLst mk xs fr st = (xs fr st).bind mk := (rfl)
theorem mkTup_s {ds : List D} (h : ds.length ≤ 16000000) : mkTup ds st = .ok (.tup ds) st := if_pos h
theorem mkLst_s {ds : List D} (h : ds.length ≤ 16000000) : mkLst ds st = .ok (.loc st.length) (st ++ [.lst ds]) := if_pos h
@[simp] theorem mkTup0 : mkTup [] st = .ok (.tup []) st := (rfl)
@[simp] theorem mkTup1 {a : D} : mkTup [a] st = .ok (.tup [a]) st := if_pos (Nat.le_of_ble_eq_true rfl)
@[simp] theorem mkTup2 {a b : D} : mkTup [a, b] st = .ok (.tup [a, b]) st := if_pos (Nat.le_of_ble_eq_true rfl)
@[simp] theorem mkTup3 {a b c : D} : mkTup [a, b, c] st = .ok (.tup [a, b, c]) st := if_pos (Nat.le_of_ble_eq_true rfl)
@[simp] theorem mkTup4 {a b c d : D} : mkTup [a, b, c, d] st = .ok (.tup [a, b, c, d]) st := if_pos (Nat.le_of_ble_eq_true rfl)
@[simp] theorem mkLst0 : mkLst [] st = .ok (.loc st.length) (st ++ [.lst []]) := (rfl)
@[simp] theorem mkLst1 {a : D} : mkLst [a] st = .ok (.loc st.length) (st ++ [.lst [a]]) := if_pos (Nat.le_of_ble_eq_true rfl)
@[simp] theorem mkLst2 {a b : D} : mkLst [a, b] st = .ok (.loc st.length) (st ++ [.lst [a, b]]) := if_pos (Nat.le_of_ble_eq_true rfl)
@[simp] theorem mkLst3 {a b c : D} : mkLst [a, b, c] st = .ok (.loc st.length) (st ++ [.lst [a, b, c]]) := if_pos (Nat.le_of_ble_eq_true rfl)
@[simp] theorem mkLst4 {a b c d : D} : mkLst [a, b, c, d] st = .ok (.loc st.length) (st ++ [.lst [a, b, c, d]]) := if_pos (Nat.le_of_ble_eq_true rfl)
@[simp] theorem mkLst5 {a b c d e : D} : mkLst [a, b, c, d, e] st = .ok (.loc st.length) (st ++ [.lst [a, b, c, d, e]]) := if_pos (Nat.le_of_ble_eq_true rfl)
theorem mkFl_s {ds : List D} (h : ds.length ≤ 16000000) : mkFl ds st = .ok (.fl ds) st := if_pos h
@[simp] theorem mkFl0 : mkFl [] st = .ok (.fl []) st := (rfl)
@[simp] theorem mkFl1 {a : D} : mkFl [a] st = .ok (.fl [a]) st := if_pos (Nat.le_of_ble_eq_true rfl)
@[simp] theorem mkFl2 {a b : D} : mkFl [a, b] st = .ok (.fl [a, b]) st := if_pos (Nat.le_of_ble_eq_true rfl)
@[simp] theorem mkFl3 {a b c : D} : mkFl [a, b, c] st = .ok (.fl [a, b, c]) st := if_pos (Nat.le_of_ble_eq_true rfl)
@[simp] theorem mkFl4 {a b c d : D} : mkFl [a, b, c, d] st = .ok (.fl [a, b, c, d]) st := if_pos (Nat.le_of_ble_eq_true rfl)
@[simp] theorem mkFl5 {a b c d e : D} : mkFl [a, b, c, d, e] st = .ok (.fl [a, b, c, d, e]) st := if_pos (Nat.le_of_ble_eq_true rfl)
@[simp] theorem mkFl6 {a b c d e f : D} : mkFl [a, b, c, d, e, f] st = .ok (.fl [a, b, c, d, e, f]) st := if_pos (Nat.le_of_ble_eq_true rfl)
@[simp] theorem eB_s (q : List D → Sto → Out D) : eB q xs fr st = (xs fr st).bind q := (rfl)
@[simp] theorem eCall_s (F : MF) : eCall F xs fr st = (xs fr st).bind F := (rfl)
def kUn (q : Int → Int) (d : D) (st : Sto) : Out D := match d with
  | .int i => .ok (.int (q i)) st
  | _ => .no
@[simp] theorem eUn_s (q : Int → Int) : eUn q f fr st = (f fr st).bind (kUn q) := (rfl)
@[simp] theorem kUn_s (q : Int → Int) (i : Int) : kUn q (.int i) st = .ok (.int (q i)) st := (rfl)
/-! built-in functions of scalars -/
@[simp] theorem bInt_i (i : Int) : bInt [.int i] st = .ok (.int i) st := (rfl)
@[simp] theorem bInt_b (k : Bool) : bInt [.bl k] st = .ok (.int (if k then 1 else 0)) st := (rfl)
@[simp] theorem bAbs_i (i : Int) : bAbs [.int i] st = .ok (.int (if i < 0 then -i else i)) st := (rfl)
@[simp] theorem bMin_i (i j : Int) : bMin [.int i, .int j] st = .ok (.int (if j < i then j else i)) st := (rfl)
@[simp] theorem bMax_i (i j : Int) : bMax [.int i, .int j] st = .ok (.int (if j > i then j else i)) st := (rfl)
@[simp] theorem bLen_t (ds : List D) : bLen [.tup ds] st = .ok (.int ds.length) st := (rfl)
@[simp] theorem bLen_f (ds : List D) : bLen [.fl ds] st = .ok (.int ds.length) st := (rfl)
@[simp] theorem bLen_r (ds : List D) : bLen [.rol ds] st = .ok (.int ds.length) st := (rfl)
theorem bLen_l {n : Nat} {ds : List D} (e : st[n]? = some (.lst ds)) : bLen [.loc n] st = .ok (.int ds.length) st := by simp only [bLen, asQ, e]
@[simp] theorem bTuple_t (ds : List D) : bTuple [.tup ds] st = .ok (.tup ds) st := (rfl)
theorem bTuple_l {n : Nat} {ds : List D} (e : st[n]? = some (.lst ds)) : bTuple [.loc n] st = .ok (.tup ds) st := by simp only [bTuple, asQ, e]
@[simp] theorem bTuple_f (ds : List D) : bTuple [.fl ds] st = .ok (.tup ds) st := (rfl)
@[simp] theorem bList_t (ds : List D) : bList mk [.tup ds] st = mk ds st := (rfl)
@[simp] theorem bList_f (ds : List D) : bList mk [.fl ds] st = mk ds st := (rfl)
theorem bList_l {n : Nat} {ds : List D} (e : st[n]? = some (.lst ds)) : bList mk [.loc n] st = mk ds st := by simp only [bList, asQ, e]
theorem bSum_l {n : Nat} {ns : List Int} (e : st[n]? = some (.lst (ns.map .int))) : bSum [.loc n] st = .ok (.int ns.sum) st := by simp only [bSum, asL, e, Option.bind_some, toInts_map]
/-! isinstance -/
@[simp] theorem isi_i_int (i : Int) : bIsi [.int i, .ty "int"] st = .ok (.bl true) st := (rfl)
@[simp] theorem isi_i_bool (i : Int) : bIsi [.int i, .ty "bool"] st = .ok (.bl false) st := (rfl)
@[simp] theorem isi_i_str (i : Int) : bIsi [.int i, .ty "str"] st = .ok (.bl false) st := (rfl)
@[simp] theorem isi_i_list (i : Int) : bIsi [.int i, .ty "list"] st = .ok (.bl false) st := (rfl)
@[simp] theorem isi_i_tuple (i : Int) : bIsi [.int i, .ty "tuple"] st = .ok (.bl false) st := (rfl)
@[simp] theorem isi_b_int (i : Bool) : bIsi [.bl i, .ty "int"] st = .ok (.bl true) st := (rfl)
@[simp] theorem isi_b_bool (i : Bool) : bIsi [.bl i, .ty "bool"] st = .ok (.bl true) st := (rfl)
@[simp] theorem isi_b_str (i : Bool) : bIsi [.bl i, .ty "str"] st = .ok (.bl false) st := (rfl)
@[simp] theorem isi_b_list (i : Bool) : bIsi [.bl i, .ty "list"] st = .ok (.bl false) st := (rfl)
@[simp] theorem isi_b_tuple (i : Bool) : bIsi [.bl i, .ty "tuple"] st = .ok (.bl false) st := (rfl)
@[simp] theorem isi_n_int : bIsi [.non, .ty "int"] st = .ok (.bl false) st := (rfl)
@[simp] theorem isi_n_bool : bIsi [.non, .ty "bool"] st = .ok (.bl false) st := (rfl)
@[simp] theorem isi_n_str : bIsi [.non, .ty "str"] st = .ok (.bl false) st := (rfl)
@[simp] theorem isi_n_list : bIsi [.non, .ty "list"] st = .ok (.bl false) st := (rfl)
@[simp] theorem isi_n_tuple : bIsi [.non, .ty "tuple"] st = .ok (.bl false) st := (rfl)
@[simp] theorem isi_s_int (i : Str) : bIsi [.str i, .ty "int"] st = .ok (.bl false) st := (rfl)
@[simp] theorem isi_s_bool (i : Str) : bIsi [.str i, .ty "bool"] st = .ok (.bl false) st := (rfl)
@[simp] theorem isi_s_str (i : Str) : bIsi [.str i, .ty "str"] st = .ok (.bl true) st := (rfl)
@[simp] theorem isi_s_list (i : Str) : bIsi [.str i, .ty "list"] st = .ok (.bl false) st := (rfl)
@[simp] theorem isi_s_tuple (i : Str) : bIsi [.str i, .ty "tuple"] st = .ok (.bl false) st := (rfl)
@[simp] theorem isi_t_int (i : List D) : bIsi [.tup i, .ty "int"] st = .ok (.bl false) st := (rfl)
@[simp] theorem isi_t_bool (i : List D) : bIsi [.tup i, .ty "bool"] st = .ok (.bl false) st := (rfl)
@[simp] theorem isi_t_str (i : List D) : bIsi [.tup i, .ty "str"] st = .ok (.bl false) st := (rfl)
@[simp] theorem isi_t_list (i : List D) : bIsi [.tup i, .ty "list"] st = .ok (.bl false) st := (rfl)
@[simp] theorem isi_t_tuple (i : List D) : bIsi [.tup i, .ty "tuple"] st = .ok (.bl true) st := (rfl)
@[simp] theorem isi_f_int (i : List D) : bIsi [.fl i, .ty "int"] st = .ok (.bl false) st := (rfl)
@[simp] theorem isi_f_bool (i : List D) : bIsi [.fl i, .ty "bool"] st = .ok (.bl false) st := (rfl)
@[simp] theorem isi_f_str (i : List D) : bIsi [.fl i, .ty "str"] st = .ok (.bl false) st := (rfl)
@[simp] theorem isi_f_list (i : List D) : bIsi [.fl i, .ty "list"] st = .ok (.bl true) st := (rfl)
@[simp] theorem isi_f_tuple (i : List D) : bIsi [.fl i, .ty "tuple"] st = .ok (.bl false) st := (rfl)
theorem isi_l {n : Nat} {ds : List D} (e : st[n]? = some (.lst ds)) {b : String} {k : Bool} (hk : kitS "list" b = some k := by rfl) : bIsi [.loc n, .ty b] st = .ok (.bl k) st := by
  simp only [bIsi, tyName, e, Option.bind_some, hk]
theorem isi_l_int {n : Nat} {ds : List D} (e : st[n]? = some (.lst ds)) : bIsi [.loc n, .ty "int"] st = .ok (.bl false) st := isi_l e
theorem isi_l_bool {n : Nat} {ds : List D} (e : st[n]? = some (.lst ds)) : bIsi [.loc n, .ty "bool"] st = .ok (.bl false) st := isi_l e
theorem isi_l_list {n : Nat} {ds : List D} (e : st[n]? = some (.lst ds)) : bIsi [.loc n, .ty "list"] st = .ok (.bl true) st := isi_l e
theorem isi_l_tuple {n : Nat} {ds : List D} (e : st[n]? = some (.lst ds)) : bIsi [.loc n, .ty "tuple"] st = .ok (.bl false) st := isi_l e
/-! indices, slices -/
theorem oIx_t {ds : List D} {i : Int} {d : D} (e : atI ds i = some d) : oIx (.tup ds) (.int i) st = .ok d st := by simp only [oIx, asQ, e]
theorem oIx_f {ds : List D} {i : Int} {d : D} (e : atI ds i = some d) : oIx (.fl ds) (.int i) st = .ok d st := by simp only [oIx, asQ, e]
theorem oIx_r {ds : List D} {i : Int} {d : D} (e : atI ds i = some d) : oIx (.rol ds) (.int i) st = .ok d st := by simp only [oIx, asQ, e]
theorem oIx_l {n : Nat} {ds : List D} {i : Int} {d : D} (e0 : st[n]? = some (.lst ds)) (e : atI ds i = some d) : oIx (.loc n) (.int i) st = .ok d st := by simp only [oIx, asQ, e0, e]
def kSome (d : D) (st : Sto) : Out (Option Int) := match d with
  | .int i => .ok (some i) st
  | _ => .no
@[simp] theorem pNone_s : pNone fr st = .ok none st := (rfl)
@[simp] theorem pSome_s : pSome f fr st = (f fr st).bind kSome := (rfl)
@[simp] theorem kSome_s (i : Int) : kSome (.int i) st = .ok (some i) st := (rfl)
def kSl1 (mk : List D → Sto → Out D) (l m : MO) (fr : Fr) (x : D) (st : Sto) : Out D := (l fr st).bind fun lo st2 => (m fr st2).bind fun hi st3 => slD mk x lo hi st3
def kSl2 (mk : List D → Sto → Out D) (m : MO) (fr : Fr) (x : D) (lo : Option Int) (st : Sto) : Out D := (m fr st).bind fun hi st3 => slD mk x lo hi st3
@[simp] theorem eSl_s (l m : MO) : eSl mk f l m fr st = (f fr st).bind (kSl1 mk l m fr) := (rfl)
@[simp] theorem kSl1_s (l m : MO) : kSl1 mk l m fr x st = (l fr st).bind (kSl2 mk m fr x) := (rfl)
@[simp] theorem kSl2_s (m : MO) (lo : Option Int) : kSl2 mk m fr x lo st = (m fr st).bind (slD mk x lo) := (rfl)
@[simp] theorem slD_t (ds : List D) (lo hi : Option Int) : slD mk (.tup ds) lo hi st = .ok (.tup (cutL ds lo hi)) st := (rfl)
@[simp] theorem slD_f (ds : List D) (lo hi : Option Int) : slD mk (.fl ds) lo hi st = mk (cutL ds lo hi) st := (rfl)
theorem slD_l {n : Nat} {ds : List D} {lo hi : Option Int} (e : st[n]? = some (.lst ds)) : slD mk (.loc n) lo hi st = mk (cutL ds lo hi) st := by simp only [slD, asL, e]
def kRev (mk : List D → Sto → Out D) (d : D) (st : Sto) : Out D := match asL st d with
  | some ds => mk ds.reverse st
  | none => .no
@[simp] theorem eRev_s : eRev mk f fr st = (f fr st).bind (kRev mk) := (rfl)
@[simp] theorem eLRev_s : eLRev mk f fr st = (f fr st).bind (kRev mk) := (rfl)
theorem kRev_l {n : Nat} {ds : List D} (e : st[n]? = some (.lst ds)) : kRev mk (.loc n) st = mk ds.reverse st := by simp only [kRev, asL, e]
@[simp] theorem kRev_f {ds : List D} : kRev mk (.fl ds) st = mk ds.reverse st := (rfl)
/-! methods -/
def kMt (m : D → List D → Sto → Out D) (xs : MA) (fr : Fr) (x : D) (st : Sto) : Out D := match asL st x with
  | some _ => (xs fr st).bind fun ys st2 => m x ys st2
  | none => .no
def kMt0 (m : D → List D → Sto → Out D) (x : D) (st : Sto) : Out D := match asL st x with
  | some _ => m x [] st
  | none => .no
@[simp] theorem eMt_s (m : D → List D → Sto → Out D) : eMt m f xs fr st = (f fr st).bind (kMt m xs fr) := (rfl)
@[simp] theorem eMt0_s (m : D → List D → Sto → Out D) : eMt0 m f fr st = (f fr st).bind (kMt0 m) := (rfl)
theorem kMt_l {m : D → List D → Sto → Out D} {n : Nat} {ds : List D} (e : st[n]? = some (.lst ds)) : kMt m xs fr (.loc n) st = (xs fr st).bind (m (.loc n)) := by simp only [kMt, asL, e]
theorem kMt0_l {m : D → List D → Sto → Out D} {n : Nat} {ds : List D} (e : st[n]? = some (.lst ds)) : kMt0 m (.loc n) st = m (.loc n) [] st := by simp only [kMt0, asL, e]
theorem mAppend_l {n : Nat} {ds : List D} (e : st[n]? = some (.lst ds)) (h : ds.length ≤ 16000000) : mAppend (.loc n) [d] st = .ok .non (st.set n (.lst (ds ++ [d]))) := by simp only [mAppend, e, if_pos h]
theorem mPop_l {n : Nat} {ds : List D} (e : st[n]? = some (.lst ds)) (h : ds.getLast? = some d) : mPop (.loc n) [] st = .ok d (st.set n (.lst ds.dropLast)) := by
  rw [List.getLast?_eq_getElem?] at h
  simp only [mPop, e, h]
/-! statements -/
def kSet (i : Nat) (fr : Fr) (d : D) (st : Sto) : OutS := .nx (fset fr i (some d)) st
@[simp] theorem sSet_s (i : Nat) : sSet i f fr st = (f fr st).then fr (kSet i fr) := (rfl)
@[simp] theorem kSet_s (i : Nat) : kSet i fr d st = .nx (fset fr i (some d)) st := (rfl)
def kAsg (q : MG) (fr : Fr) (d : D) (st : Sto) : OutS := (q d fr st).then fr fun fr' st2 => .nx fr' st2
def kAsg2 (fr' : Fr) (st : Sto) : OutS := .nx fr' st
@[simp] theorem sAsg_s (q : MG) : sAsg f q fr st = (f fr st).then fr (kAsg q fr) := (rfl)
@[simp] theorem kAsg_s (q : MG) : kAsg q fr d st = (q d fr st).then fr kAsg2 := (rfl)
@[simp] theorem kAsg2_s : kAsg2 fr st = .nx fr st := (rfl)
@[simp] theorem gN_s (i : Nat) : gN i d fr st = .ok (fset fr i (some d)) st := (rfl)
@[simp] theorem gsNil_s : gsNil [] fr st = .ok fr st := (rfl)
@[simp] theorem gsCons_s (q : MG) (r : MGs) (ds : List D) : gsCons q r (d :: ds) fr st = (q d fr st).bind (r ds) := (rfl)
theorem gT_s (n : Nat) (r : MGs) (ds : List D) (h : ds.length = n) : gT n r (.tup ds) fr st = r ds fr st := if_pos h
@[simp] theorem gT2_s (r : MGs) (a b : D) : gT 2 r (.tup [a, b]) fr st = r [a, b] fr st := (rfl)
@[simp] theorem gT3_s (r : MGs) (a b c : D) : gT 3 r (.tup [a, b, c]) fr st = r [a, b, c] fr st := (rfl)
def kSb (g : ME) (d : D) (fr : Fr) (o : D) (st : Sto) : Out Fr := (g fr st).nox.bind fun i st2 => (setIx o i d st2).bind fun _ st3 => .ok fr st3
def kSb2 (d : D) (fr : Fr) (o : D) (i : D) (st : Sto) : Out Fr := (setIx o i d st).bind fun _ st3 => .ok fr st3
def kSb3 (fr : Fr) (u : Unit) (st : Sto) : Out Fr := .ok fr st
@[simp] theorem gSb_s : gSb f g d fr st = (f fr st).nox.bind (kSb g d fr) := (rfl)
@[simp] theorem kSb_s : kSb g d fr x st = (g fr st).nox.bind (kSb2 d fr x) := (rfl)
@[simp] theorem kSb2_s : kSb2 d fr x y st = (setIx x y d st).bind (kSb3 fr) := (rfl)
@[simp] theorem kSb3_s (u : Unit) : kSb3 fr u st = .ok fr st := (rfl)
theorem setIx_l {n j : Nat} {k : Int} {ds : List D} (e : st[n]? = some (.lst ds)) (h : ixN ds.length k = some j) : setIx (.loc n) (.int k) d st = .ok () (st.set n (.lst (ds.set j d))) := by simp only [setIx, e, h]
def kPar2 (i j : Nat) (fr : Fr) (ds : List D) (st : Sto) : OutS := match ds with
  | [a, b] => .nx (fset (fset fr i (some a)) j (some b)) st
  | _ => .no
def kPar3 (i j l : Nat) (fr : Fr) (ds : List D) (st : Sto) : OutS := match ds with
  | [a, b, c] => .nx (fset (fset (fset fr i (some a)) j (some b)) l (some c)) st
  | _ => .no
@[simp] theorem sPar2_s (i j : Nat) : sPar2 i j xs fr st = (xs fr st).then fr (kPar2 i j fr) := (rfl)
@[simp] theorem sPar3_s (i j l : Nat) : sPar3 i j l xs fr st = (xs fr st).then fr (kPar3 i j l fr) := (rfl)
@[simp] theorem kPar2_s (i j : Nat) (a b : D) : kPar2 i j fr [a, b] st = .nx (fset (fset fr i (some a)) j (some b)) st := (rfl)
@[simp] theorem kPar3_s (i j l : Nat) (a b c : D) : kPar3 i j l fr [a, b, c] st = .nx (fset (fset (fset fr i (some a)) j (some b)) l (some c)) st := (rfl)
def kAug (i : Nat) (o : M2) (f : ME) (fr : Fr) (x : D) (st : Sto) : OutS := (f fr st).then fr fun y st1 => (o x y st1).then fr fun z st2 => .nx (fset fr i (some z)) st2
def kAug2 (i : Nat) (o : M2) (fr : Fr) (x y : D) (st : Sto) : OutS := (o x y st).then fr fun z st2 => .nx (fset fr i (some z)) st2
@[simp] theorem sAug_s (i : Nat) : sAug i o f fr st = (oD (fget fr i) st).then fr (kAug i o f fr) := by
  unfold sAug oD
  cases fget fr i <;> rfl
@[simp] theorem kAug_s (i : Nat) : kAug i o f fr x st = (f fr st).then fr (kAug2 i o fr x) := (rfl)
@[simp] theorem kAug2_s (i : Nat) : kAug2 i o fr x y st = (o x y st).then fr (kSet i fr) := (rfl)
def kExpr (fr : Fr) (d : D) (st : Sto) : OutS := .nx fr st
@[simp] theorem sExpr_s : sExpr f fr st = (f fr st).then fr (kExpr fr) := (rfl)
@[simp] theorem kExpr_s : kExpr fr d st = .nx fr st := (rfl)
def kRet (d : D) (st : Sto) : OutS := .rt d st
@[simp] theorem sRet_s : sRet f fr st = (f fr st).then fr kRet := (rfl)
@[simp] theorem kRet_s : kRet d st = .rt d st := (rfl)
@[simp] theorem sNop_s : sNop fr st = .nx fr st := (rfl)
@[simp] theorem sBrk_s : sBrk fr st = .bk fr st := (rfl)
@[simp] theorem sCnt_s : sCnt fr st = .ct fr st := (rfl)
@[simp] theorem sNo_s : sNo fr st = .no := (rfl)
/-- what follows a statement -/
def OutS.seq (q : OutS) (b : MS) : OutS := match q with
  | .nx fr st => b fr st
  | q => q
@[simp] theorem seq_nx : (OutS.nx fr st).seq b = b fr st := (rfl)
@[simp] theorem seq_rt : (OutS.rt d st).seq b = .rt d st := (rfl)
@[simp] theorem seq_bk : (OutS.bk fr st).seq b = .bk fr st := (rfl)
@[simp] theorem seq_ct : (OutS.ct fr st).seq b = .ct fr st := (rfl)
@[simp] theorem seq_ex (c : Nat) : (OutS.ex c fr st).seq b = .ex c fr st := (rfl)
@[simp] theorem seq_no : (OutS.no).seq b = .no := (rfl)
@[simp] theorem sSeq_s : sSeq a b fr st = (a fr st).seq b := (rfl)
def kIfS (a b : MS) (fr : Fr) (k : Bool) (st : Sto) : OutS := if k = true then a fr st else b fr st
@[simp] theorem sIf_s : sIf t a b fr st = (t fr st).then fr (kIfS a b fr) := (rfl)
@[simp] theorem kIfS_t : kIfS a b fr true st = a fr st := (rfl)
@[simp] theorem kIfS_f : kIfS a b fr false st = b fr st := (rfl)
theorem kIfS_d (p : Prop) [Decidable p] : kIfS a b fr (decide p) st = if p then a fr st else b fr st := by by_cases hp : p <;> simp [hp]
def kFor (q : MG) (b : MS) (fr : Fr) (it : ItD) (st : Sto) : OutS := forN it q b it.items fr st
@[simp] theorem sFor_s (i : MI) (q : MG) : sFor i q b fr st = (i fr st).then fr (kFor q b fr) := (rfl)
@[simp] theorem kFor_s (q : MG) (it : ItD) : kFor q b fr it st = forN it q b it.items fr st := (rfl)
@[simp] theorem sWhile_s : sWhile t b fr st = whileN t b wMost fr st := (rfl)
def kR1 (ds : List D) (st : Sto) : Out ItD := match ds with
  | [.int j] => if (decide (-4611686018427387904 ≤ j) && decide (j < 4611686018427387904)) = true then .ok (.seq (rng 0 j.toNat)) st else .no
  | _ => .no
def kR2 (ds : List D) (st : Sto) : Out ItD := match ds with
  | [.int i, .int j] => if (decide (-4611686018427387904 ≤ i) && decide (i < 4611686018427387904) && (decide (-4611686018427387904 ≤ j) && decide (j < 4611686018427387904))) = true then .ok (.seq (rng i (j - i).toNat)) st else .no
  | _ => .no
@[simp] theorem iRange1_s : iRange1 xs fr st = (xs fr st).bind kR1 := (rfl)
@[simp] theorem iRange2_s : iRange2 xs fr st = (xs fr st).bind kR2 := (rfl)
theorem kR1_s {j : Int} (h1 : -4611686018427387904 ≤ j) (h2 : j < 4611686018427387904) : kR1 [.int j] st = .ok (.seq (rng 0 j.toNat)) st := if_pos (by simp [h1, h2])
theorem kR2_s {i j : Int} (h1 : -4611686018427387904 ≤ i) (h2 : i < 4611686018427387904) (h3 : -4611686018427387904 ≤ j) (h4 : j < 4611686018427387904) : kR2 [.int i, .int j] st = .ok (.seq (rng i (j - i).toNat)) st := if_pos (by simp [h1, h2, h3, h4])
def kSeq (d : D) (st : Sto) : Out ItD := match d with
  | .tup ds => .ok (.seq ds) st
  | .rol ds => .ok (.seq ds) st
  | .fl ds => .ok (.seq ds) st
  | .loc n => match st[n]? with
    | some (.lst ds) => .ok (.cell n ds) st
    | _ => .no
  | _ => .no
@[simp] theorem iSeq_s : iSeq f fr st = (f fr st).bind kSeq := (rfl)
@[simp] theorem kSeq_t (ds : List D) : kSeq (.tup ds) st = .ok (.seq ds) st := (rfl)
@[simp] theorem kSeq_r (ds : List D) : kSeq (.rol ds) st = .ok (.seq ds) st := (rfl)
@[simp] theorem kSeq_f (ds : List D) : kSeq (.fl ds) st = .ok (.seq ds) st := (rfl)
theorem kSeq_l {n : Nat} {ds : List D} (e : st[n]? = some (.lst ds)) : kSeq (.loc n) st = .ok (.cell n ds) st := by simp only [kSeq, e]
@[simp] theorem fwipe_nil : fwipe fr [] = fr := (rfl)
@[simp] theorem fwipe_cons (v : Nat) (vs : List Nat) : fwipe fr (v :: vs) = fset (fwipe fr vs) v none := (rfl)
def kLc (mk : List D → Sto → Out D) (vs : List Nat) (q : MG) (t : MT) (e : ME) (fr : Fr) (it : ItD) (st : Sto) : Out D := (lcN it q t e it.items (fwipe fr vs) st).nox.bind mk
@[simp] theorem eLc_s (vs : List Nat) (i : MI) (q : MG) : eLc mk vs i q t f fr st = (i fr st).bind (kLc mk vs q t f fr) := (rfl)
@[simp] theorem kLc_s (vs : List Nat) (it : ItD) (q : MG) : kLc mk vs q t f fr it st = (lcN it q t f it.items (fwipe fr vs) st).nox.bind mk := (rfl)
@[simp] theorem sW_s (ws : List Nat) : sW ws a fr st = a (fwipe fr ws) st := (rfl)
@[simp] theorem wS_s (ws : List Nat) : wS ws a fr st = wOut ws (a fr st) := (rfl)
@[simp] theorem wOut_nx (ws : List Nat) : wOut ws (.nx fr st) = .nx (fwipe fr ws) st := (rfl)
@[simp] theorem wOut_ct (ws : List Nat) : wOut ws (.ct fr st) = .ct (fwipe fr ws) st := (rfl)
@[simp] theorem wOut_bk (ws : List Nat) : wOut ws (.bk fr st) = .bk (fwipe fr ws) st := (rfl)
@[simp] theorem wOut_rt (ws : List Nat) : wOut ws (.rt d st) = .rt d st := (rfl)
@[simp] theorem wOut_ex (ws : List Nat) (c : Nat) : wOut ws (.ex c fr st) = .ex c fr st := (rfl)
@[simp] theorem wOut_no (ws : List Nat) : wOut ws .no = .no := (rfl)
@[simp] theorem tTrue_s : tTrue fr st = .ok true st := (rfl)
/-- a def's end -/
def fin (q : OutS) : Out D := match q with
  | .nx _ st' => .ok .non st'
  | .rt d st' => .ok d st'
  | .ex c _ st' => .ex c st'
  | _ => .no
@[simp] theorem fin_nx : fin (.nx fr st) = .ok .non st := (rfl)
@[simp] theorem fin_rt : fin (.rt d st) = .ok d st := (rfl)
@[simp] theorem fin_ex (c : Nat) : fin (.ex c fr st) = .ex c st := (rfl)
@[simp] theorem fin_no : fin .no = .no := (rfl)
theorem mF_s {n len : Nat} {ds : List D} (h : ds.length = n) : mF n len a ds st = fin (a (ds.map some ++ List.replicate (len - n) none) st) := if_pos h
theorem mF1 {len : Nat} : mF 1 len a [x] st = fin (a (some x :: List.replicate (len - 1) none) st) := (rfl)
theorem mF2 {len : Nat} : mF 2 len a [x, y] st = fin (a (some x :: some y :: List.replicate (len - 2) none) st) := (rfl)
theorem mF3 {len : Nat} : mF 3 len a [x, y, z] st = fin (a (some x :: some y :: some z :: List.replicate (len - 3) none) st) := (rfl)
theorem mF0 {len : Nat} : mF 0 len a [] st = fin (a (List.replicate len none) st) := (rfl)
theorem mF5 {len : Nat} {w q : D} : mF 5 len a [x, y, z, w, q] st = fin (a (some x :: some y :: some z :: some w :: some q :: List.replicate (len - 5) none) st) := (rfl)
theorem mF4 {len : Nat} {w : D} : mF 4 len a [x, y, z, w] st = fin (a (some x :: some y :: some z :: some w :: List.replicate (len - 4) none) st) := (rfl)
end
end Vi
set_option maxRecDepth 100000
/-! ViT: instances, evaluated from the head (as ViS). -/
namespace Vi
open PySem PySem.Spec PyProof.Rows L2
section
variable {fr : Fr} {v' : D} {st : Sto} {n x f m : Nat} {cs : List Nat} {fs : List (Nat × D)} {g o v : ME} {xs : MA} {d y u z : D} {ds : List D} {T : MTab} {F : MF} {op : M2}
@[simp] theorem fldGet_hit : fldGet ((f, d) :: fs) f = some d := if_pos rfl
theorem fldGet_miss {k : Nat} (h : k ≠ f) : fldGet ((k, d) :: fs) f = fldGet fs f := if_neg h
@[simp] theorem eFld_s : eFld cs f g fr st = (g fr st).bind (kFld cs f) := (rfl)
theorem kFld_l (h : st[n]? = some (.ins x fs)) (hf : fldGet fs f = some v') (hx : cs.contains x = true := by rfl) : kFld cs f (.loc n) st = .ok v' st := by simp only [kFld, h, hx, if_true, hf]
@[simp] theorem eMth_s : eMth T m o xs fr st = (o fr st).bind (kMth T m xs fr) := (rfl)
@[simp] theorem oGet_hit {ns : List Nat} : oGet (f :: ns) (d :: ds) f = some d := if_pos rfl
theorem oGet_miss {k : Nat} {ns : List Nat} (h : k ≠ f) : oGet (k :: ns) (d :: ds) f = oGet ns ds f := if_neg h
@[simp] theorem oGet_nil : oGet [] ds f = none := by cases ds <;> rfl
@[simp] theorem oGet_cons {k : Nat} {ns : List Nat} : oGet (k :: ns) (d :: ds) f = if k = f then some d else oGet ns ds f := (rfl)
@[simp] theorem fldGet_nil : fldGet [] f = none := (rfl)
@[simp] theorem fldGet_cons {k : Nat} : fldGet ((k, d) :: fs) f = if k = f then some d else fldGet fs f := (rfl)
@[simp] theorem fldPut_nil : fldPut f d [] = [(f, d)] := (rfl)
@[simp] theorem fldPut_cons {k : Nat} : fldPut f d ((k, u) :: fs) = if k = f then (k, d) :: fs else (k, u) :: fldPut f d fs := (rfl)
theorem kFld_o {ns : List Nat} (hf : oGet ns ds f = some v') (hx : cs.contains x = true := by rfl) : kFld cs f (.obj x ns ds) st = .ok v' st := by simp only [kFld, hx, if_true, hf]
theorem clsO_l (h : st[n]? = some (.ins x fs)) (hf : fldGet fs m = none) : clsO st m (.loc n) = some x := by simp only [clsO, h, hf]
theorem clsO_o {ns : List Nat} (hf : oGet ns ds m = none) : clsO st m (.obj x ns ds) = some x := by simp only [clsO, hf]
theorem kMth_c (hc : clsO st m d = some x) (hT : mtGet T x = some F) : kMth T m xs fr d st = (xs fr st).bind (kMth2 F d) := by simp only [kMth, hc, hT]
@[simp] theorem mtGet_cons {k : Nat} : mtGet ((k, F) :: T) x = if k = x then some F else mtGet T x := (rfl)
@[simp] theorem mtGet_nil : mtGet [] x = none := (rfl)
@[simp] theorem kMth2_s : kMth2 F d ds st = F (d :: ds) st := (rfl)
@[simp] theorem eMkF_s : eMkF x F xs fr st = (xs fr st).bind (kMkF x F) := (rfl)
theorem kMkF_s : kMkF x F ds st = fzOut st (kMk x F ds st) := (rfl)
@[simp] theorem eCnt_s : eCnt g fr st = (g fr st).bind kCnt := (rfl)
@[simp] theorem kCnt_i (i : Int) : kCnt (.int i) st = .ok .cnt st := (rfl)
@[simp] theorem kCnt_c : kCnt .cnt st = .ok .cnt st := (rfl)
@[simp] theorem sLk_s : sLk cs o v fr st = (o fr st).then fr (kLk cs v fr) := (rfl)
@[simp] theorem kLk2_i (i : Int) : kLk2 fr (.int i) st = .nx fr st := (rfl)
@[simp] theorem kLk2_c : kLk2 fr .cnt st = .nx fr st := (rfl)
theorem kLk_o {ns : List Nat} (hf : oGet ns ds kLooked = some .cnt) (hl : ds.length < 1000) (hx : cs.contains x = true := by rfl) : kLk cs v fr (.obj x ns ds) st = (v fr st).then fr (kLk2 fr) := by
  simp only [kLk, hx, hl, and_self, if_true, hf]
def kLk1 (n x : Nat) (fr : Fr) (y : D) (st : Sto) : OutS := match st[n]? with
        | some (.ins y' gs) => if y' = x ∧ gs.length < 1000 then (match fldGet gs kLooked with
          | some .cnt => kLk2 fr y st
          | _ => .no) else .no
        | _ => .no
theorem kLk_l (h : st[n]? = some (.ins x fs)) (hf : fldGet fs kLooked = some .cnt) (hl : fs.length < 1000) (hx : cs.contains x = true := by rfl) : kLk cs v fr (.loc n) st = (v fr st).then fr (kLk1 n x fr) := by
  simp only [kLk, h, hx, hl, and_self, if_true, hf]
  rfl
theorem kLk1_l (h : st[n]? = some (.ins x fs)) (hf : fldGet fs kLooked = some .cnt) (hl : fs.length < 1000) : kLk1 n x fr y st = kLk2 fr y st := by
  simp only [kLk1, h, hl, and_self, if_true, hf]
@[simp] theorem eMk_s : eMk x F xs fr st = (xs fr st).bind (kMk x F) := (rfl)
@[simp] theorem kMk_s : kMk x F ds st = (F (.loc st.length :: ds) (st ++ [.ins x []])).bind (kMk2 st.length) := (rfl)
@[simp] theorem kMk2_s : kMk2 n .non st = .ok (.loc n) st := (rfl)
def kNx (fr : Fr) (_ : Unit) (st : Sto) : OutS := .nx fr st
def kFS2 (cs : List Nat) (f : Nat) (y : D) (fr : Fr) (d : D) (st : Sto) : OutS := (kPut cs f y d st).then fr (kNx fr)
def kFS1 (cs : List Nat) (f : Nat) (o : ME) (fr : Fr) (y : D) (st : Sto) : OutS := (o fr st).then fr (kFS2 cs f y fr)
@[simp] theorem sFldS_s : sFldS cs f o v fr st = (v fr st).then fr (kFS1 cs f o fr) := (rfl)
@[simp] theorem kFS1_s : kFS1 cs f o fr y st = (o fr st).then fr (kFS2 cs f y fr) := (rfl)
@[simp] theorem kFS2_s : kFS2 cs f y fr d st = (kPut cs f y d st).then fr (kNx fr) := (rfl)
@[simp] theorem kNx_s (q : Unit) : kNx fr q st = .nx fr st := (rfl)
theorem kPut_l (h : st[n]? = some (.ins x fs)) (hl : fs.length < 1000) (hx : cs.contains x = true := by rfl) : kPut cs f y (.loc n) st = .ok () (st.set n (.ins x (fldPut f y fs))) := by simp only [kPut, h, hx, hl, and_self, if_true]
@[simp] theorem sFldA_s : sFldA cs f op o v fr st = (o fr st).then fr (kFldA cs f op v fr) := (rfl)
theorem kFldA_l (h : st[n]? = some (.ins x fs)) (hf : fldGet fs f = some u) (hx : cs.contains x = true := by rfl) : kFldA cs f op v fr (.loc n) st = (v fr st).then fr (kFldA1 op n x f u fr) := by simp only [kFldA, h, hx, if_true, hf]
@[simp] theorem kFldA1_s : kFldA1 op n x f u fr y st = (op u y st).then fr (kFldA2 n x f fr) := (rfl)
@[simp] theorem kFldA2_s : kFldA2 n x f fr z st = (kPutX n x f z st).then fr (kNx fr) := (rfl)
theorem kPutX_l (h : st[n]? = some (.ins x fs)) (hl : fs.length < 1000) : kPutX n x f z st = .ok () (st.set n (.ins x (fldPut f z fs))) := by simp only [kPutX, h, hl, and_self, if_true]
end
end Vi
set_option maxRecDepth 100000
/-! Vi16: methods and makers from their texts; their specs. -/
namespace Vi
open PySem PySem.Spec PyProof.Rows L2
section
variable {P : Program} {w : World} {K : PySem.W.Frag} {mg : Str → Option Value} {base : Heap}
theorem fnok_refine {k n : Nat} {f : Addr} {fd : FuncData} {ps : List Str} {F F' : MF} (G : FnOk P w K mg base (L2N.CX P w) k f fd ps (spM K F n))
    (h : ∀ ds st, belows st.length ds = true → Closed st.length st → Fits st.length (F ds st) (F' ds st)) : FnOk P w K mg base (L2N.CX P w) k f fd ps (spM K F' n) := G.imp fun vs H Q E hs => spM.fits h hs
theorem Met.fz {x m k : Nat} {ps : List Str} {F : MF} (d : Met P w K mg base x m k ps F) : Met P w K mg base x m k ps (mFz F) := by
  obtain ⟨C, f, fd, h1, h2, h3, h4, h5⟩ := d.ex
  exact ⟨⟨C, f, fd, h1, h2, h3, fnok_refine h4 mFz_fits, h5⟩, mFz_ar d.ar⟩
theorem Met.refine {x m k : Nat} {ps : List Str} {F F' : MF} (d : Met P w K mg base x m k ps F) (h : ∀ ds st, belows st.length ds = true → Closed st.length st → Fits st.length (F ds st) (F' ds st))
    (ar : ∀ ds st, F' ds st ≠ .no → ds.length = ps.length) : Met P w K mg base x m k ps F' := by
  obtain ⟨C, f, fd, h1, h2, h3, h4, h5⟩ := d.ex
  exact ⟨⟨C, f, fd, h1, h2, h3, fnok_refine h4 h, h5⟩, ar⟩
theorem Mak.refine {x k : Nat} {ps : List Str} {F F' : MF} (d : Mak P w K mg base x k ps F) (h : ∀ ds st, belows st.length ds = true → Closed st.length st → Fits st.length (F ds st) (F' ds st))
    (ar : ∀ ds st, F' ds st ≠ .no → ds.length = ps.length) : Mak P w K mg base x k ps F' := by
  obtain ⟨C, f, fd, h1, h2, h3, h4, h5⟩ := d.ex
  exact ⟨⟨C, f, fd, h1, h2, h3, fnok_refine h4 h, h5⟩, ar⟩
theorem met_of {nm qual : Str} {s : Stmt} {f C : Addr} {fd : FuncData} {N ps : List Str} {k x m : Nat} {mm : MS} (F : Fun K nm qual s f fd) (S : FnScope N ps (defScope s)) (hc : clsAt K x C) (hC : Cls K C) (hM : Meth K C (anm m) f) (hb : Binds K fd ps [])
    (body : ∀ (cdv : Value) (A : Around) (outer : List Env) (s1 : Shared) (H : Hp) (E : XK), Room k (A.deeper (envOfC qual (defScope s) s1.heap.objs.size f cdv)) →
      Ctx (cxOf (L2N.CX P w) P w K mg base N qual (defScope s) f cdv A outer s1 H E) (fun c d _ H => E c d H) →
      PassesOwn (model P w) (A.deeper (envOfC qual (defScope s) s1.heap.objs.size f cdv)) (cxOf (L2N.CX P w) P w K mg base N qual (defScope s) f cdv A outer s1 H E).env (cxOf (L2N.CX P w) P w K mg base N qual (defScope s) f cdv A outer s1 H E).xe →
      ISs (cxOf (L2N.CX P w) P w K mg base N qual (defScope s) f cdv A outer s1 H E) (fun c d _ H => E c d H) (defBody s) mm) : Met P w K mg base x m (k + 1) ps (mF ps.length N.length mm) :=
  ⟨⟨C, f, fd, hc, hC, hM, fn_def_of F S body, hb⟩, fun ds st h => mF_ar ds st h⟩
theorem mak_of {nm qual : Str} {s : Stmt} {f C : Addr} {fd : FuncData} {N ps : List Str} {k x : Nat} {mm : MS} (F : Fun K nm qual s f fd) (S : FnScope N ps (defScope s)) (hc : clsAt K x C) (hg : mg (cnm x) = some (.ref C)) (hM : Mk K C f) (hb : Binds K fd ps [])
    (body : ∀ (cdv : Value) (A : Around) (outer : List Env) (s1 : Shared) (H : Hp) (E : XK), Room k (A.deeper (envOfC qual (defScope s) s1.heap.objs.size f cdv)) →
      Ctx (cxOf (L2N.CX P w) P w K mg base N qual (defScope s) f cdv A outer s1 H E) (fun c d _ H => E c d H) →
      PassesOwn (model P w) (A.deeper (envOfC qual (defScope s) s1.heap.objs.size f cdv)) (cxOf (L2N.CX P w) P w K mg base N qual (defScope s) f cdv A outer s1 H E).env (cxOf (L2N.CX P w) P w K mg base N qual (defScope s) f cdv A outer s1 H E).xe →
      ISs (cxOf (L2N.CX P w) P w K mg base N qual (defScope s) f cdv A outer s1 H E) (fun c d _ H => E c d H) (defBody s) mm) : Mak P w K mg base x (k + 1) ps (mF ps.length N.length mm) :=
  ⟨⟨C, f, fd, hc, hg, hM, fn_def_of F S body, hb⟩, fun ds st h => mF_ar ds st h⟩
end
end Vi
set_option maxRecDepth 100000
set_option maxHeartbeats 2000000
/-! Vi17: quiet expressions: what is asked of a generator's element, which runs where frames are not told. -/
namespace Vi
open PySem PySem.Spec PyProof.Rows L2
structure Kp (s s' : Shared) : Prop where
  ex : Keeps s s'
theorem Kp.rfl' (s : Shared) : Kp s s := ⟨⟨s.heap, s.toks, rfl, fun _ _ e => e⟩⟩
theorem Kp.tok {s0 s : Shared} (h : Kp s0 s) (k : Nat) : Kp s0 { s with toks := k } := by
  obtain ⟨h', tk, rfl, q⟩ := h.ex
  exact ⟨⟨h', k, rfl, q⟩⟩
theorem Kp.more {s0 s s' : Shared} (h : Kp s0 s) (k : Kp s s') : Kp s0 s' := by
  obtain ⟨h1, t1, rfl, q1⟩ := h.ex
  obtain ⟨h2, t2, rfl, q2⟩ := k.ex
  exact ⟨⟨h2, t2, rfl, fun b o e => q2 b o (q1 b o e)⟩⟩
theorem Kp.at {s0 s : Shared} (h : Kp s0 s) {b : Addr} {o : Obj} (e : s0.heap.get? b = some o) : s.heap.get? b = some o := by
  obtain ⟨h1, t1, rfl, q1⟩ := h.ex
  exact q1 b o e
/-- room where frames are not told -/
structure RoomQ (d u : Nat) (A : Around) : Prop where
  hd : A.handled = none
  dp : A.depth + d < recursionLimit
  un : A.units + u < cLine
structure QEnv (K : PySem.W.Frag) (mg : Str → Option Value) (base : Heap) (env : Env) (s0 : Shared) : Prop where
  mod : Mod K mg base
  kind : env.scope.kind = .function
  glob : env.globals = mainGlobals
  blt : env.builtins = builtinsNs
  bk : ∀ b o, base.get? b = some o → s0.heap.get? b = some o
def QE (prog : Program) (w : World) (A : Around) (env : Env) (s0 : Shared) (e : Expr) (v : V) : Prop :=
  ∀ (s : Shared) (E : Value → Shared → Prop), Kp s0 s → wpAny (model prog w) A (eval e env) (fun y s3 => RelV v y ∧ Kp s0 s3) E s
section
variable {prog : Program} {w : World} {K : PySem.W.Frag} {mg : Str → Option Value} {base : Heap} {A : Around} {env : Env} {s0 : Shared} {pos : Pos}
theorem QE.lift {s1 : Shared} {e : Expr} {v : V} (h : QE prog w A env s0 e v) (k : Kp s0 s1) {s : Shared} {E : Value → Shared → Prop} (q : Kp s1 s) : wpAny (model prog w) A (eval e env) (fun y s3 => RelV v y ∧ Kp s0 s3) E s := h s E (k.more q)
theorem q_int {i : Int} {j : Nat} : QE prog w A env s0 (.Constant (.int i) j pos) (.int i) := fun s E k => wpAny_Constant_int ⟨⟨_, rfl⟩, k.tok _⟩
theorem q_bl {b : Bool} {j : Nat} : QE prog w A env s0 (.Constant (.bool b) j pos) (.bl b) := fun s E k => Constant_bool ⟨rfl, k⟩
theorem q_non {j : Nat} : QE prog w A env s0 (.Constant .none j pos) .non := fun s E k => Constant_none ⟨rfl, k⟩
theorem q_str {x : Str} {j : Nat} : QE prog w A env s0 (.Constant (.str x) j pos) (.str x) := fun s E k => Calls.Constant_str ⟨⟨_, rfl⟩, k.tok _⟩
theorem q_loc {x : Str} {m : Str → Option Value} {u : Value} {v : V} (q : QEnv K mg base env s0) (hl : env.scope.names.lookup x = some .local) (hn : s0.heap.Ns env.locals m) (hm : m x = some u) (r : RelV v u) (hd : (x == ("__debug__" : Str)) = false) :
    QE prog w A env s0 (.Name x pos) v := fun s E k => wpAny_Name (wpAny_loadName_local q.kind hl (hn.keeps fun b o e => k.at e) hm ⟨r, k⟩) hd
theorem q_free {x : Str} {c : Addr} {u : Value} {v : V} (q : QEnv K mg base env s0) (hl : env.scope.names.lookup x = some .free) (hc : env.cells.lookup x = some c) (hv : s0.heap.IsCell c (some u)) (r : RelV v u) (hd : (x == ("__debug__" : Str)) = false)
    (hcd : (x == ("__classdict__" : Str)) = false) : QE prog w A env s0 (.Name x pos) v := fun s E k => by
  refine wpAny_Name (wpAny_loadName_free q.kind hl hc (v := u) ?_ ⟨r, k⟩ hcd) hd
  obtain ⟨o, h1, h2⟩ := hv
  exact ⟨o, k.at h1, h2⟩
theorem q_glob {x : Str} {u : Value} {Q : Value → Shared → Prop} {s : Shared} {E : Value → Shared → Prop} (q : QEnv K mg base env s0) (k : Kp s0 s) (hg : env.scope.names.lookup x = some .globalImplicit) (hm : mg x = some u) (hd : (x == ("__debug__" : Str)) = false) (h : Q u s) :
    wpAny (model prog w) A (eval (.Name x pos) env) Q E s :=
  Calls.Name_function_global q.kind hg (Calls.loadGlobal_global (by rw [q.glob]; exact q.mod.glob.keeps fun b o e => k.at (q.bk b o e)) hm h) hd
theorem q_blt {x : Str} {u : Value} {Q : Value → Shared → Prop} {s : Shared} {E : Value → Shared → Prop} (q : QEnv K mg base env s0) (k : Kp s0 s) (hg : env.scope.names.lookup x = some .globalImplicit) (hm : mg x = none) (hv : bootBuiltins x = some u) (hn : x ≠ "__name__") (hd : (x == ("__debug__" : Str)) = false) (h : Q u s) :
    wpAny (model prog w) A (eval (.Name x pos) env) Q E s := by
  obtain ⟨mb, h1, h2⟩ := q.mod.blt
  exact Calls.Name_function_global q.kind hg (Calls.loadGlobal_builtin (by rw [q.glob]; exact q.mod.glob.keeps fun b o e => k.at (q.bk b o e)) hm (by rw [q.blt]; exact h1.keeps fun b o e => k.at (q.bk b o e)) ((h2 x hn).trans hv) h) hd
theorem q_globI {x : Str} {i : Int} {t : Tok} (q : QEnv K mg base env s0) (hg : env.scope.names.lookup x = some .globalImplicit) (hm : mg x = some (.int i t)) (hd : (x == ("__debug__" : Str)) = false) : QE prog w A env s0 (.Name x pos) (.int i) := fun s E k => q_glob q k hg hm hd ⟨⟨t, rfl⟩, k⟩
theorem q_ty {x : Str} {n : String} (q : QEnv K mg base env s0) (hg : env.scope.names.lookup x = some .globalImplicit) (hm : mg x = none) (hv : bootBuiltins x = some (.type n)) (hn : x ≠ "__name__") (hd : (x == ("__debug__" : Str)) = false) : QE prog w A env s0 (.Name x pos) (.ty n) :=
  fun s E k => q_blt q k hg hm hv hn hd ⟨rfl, k⟩
theorem q_sub {a b : Expr} {i j : Int} (ha : QE prog w A env s0 a (.int i)) (hb : QE prog w A env s0 b (.int j)) : QE prog w A env s0 (.BinOp a .Sub b pos) (.int (i - j)) := fun s E k => by
  refine wpAny_BinOp (thn (ha s E k) fun v s1 ⟨r1, k1⟩ => thn (hb s1 E k1) fun u s2 ⟨r2, k2⟩ => ?_)
  obtain ⟨t, rfl⟩ := r1
  obtain ⟨t', rfl⟩ := r2
  exact sub_int ⟨⟨_, rfl⟩, k2.tok _⟩
theorem q_add {a b : Expr} {i j : Int} (ha : QE prog w A env s0 a (.int i)) (hb : QE prog w A env s0 b (.int j)) : QE prog w A env s0 (.BinOp a .Add b pos) (.int (i + j)) := fun s E k => by
  refine wpAny_BinOp (thn (ha s E k) fun v s1 ⟨r1, k1⟩ => thn (hb s1 E k1) fun u s2 ⟨r2, k2⟩ => ?_)
  obtain ⟨t, rfl⟩ := r1
  obtain ⟨t', rfl⟩ := r2
  exact add_int ⟨⟨_, rfl⟩, k2.tok _⟩
theorem q_one {op : BoolOp} {a : Expr} {v : V} (ha : QE prog w A env s0 a v) : QE prog w A env s0 (.BoolOp op [a] pos) v := fun s E k => BoolOp_one (ha s E k)
theorem q_and {a b : Expr} {r : List Expr} {x y : Bool} (ha : QE prog w A env s0 a (.bl x)) (hb : x = true → QE prog w A env s0 (.BoolOp .And (b :: r) pos) (.bl y)) : QE prog w A env s0 (.BoolOp .And (a :: b :: r) pos) (.bl (x && y)) := fun s E k => by
  refine BoolOp_and (thn (ha s E k) fun v s1 ⟨r1, k1⟩ => ?_)
  cases r1
  refine wpAny_truthy_bool ?_
  cases x with
  | true => exact hb rfl s1 E k1
  | false => exact ⟨rfl, k1⟩
theorem q_not {a : Expr} {x : Bool} (ha : QE prog w A env s0 a (.bl x)) : QE prog w A env s0 (.UnaryOp .Not a pos) (.bl (!x)) := fun s E k => by
  refine UnaryOp_ (thn (ha s E k) fun v s1 ⟨r1, k1⟩ => ?_)
  cases r1
  exact not_of (wpAny_truthy_bool ⟨rfl, k1⟩)
theorem q_cmp {op : CmpOp} {p : Int → Int → Bool} {a b : Expr} {i j : Int} (rule : ∀ (i j : Int) (t u : Tok) (Q : Value → Shared → Prop) (E : Value → Shared → Prop) (s : Shared), Q (.bool (p i j)) s → wpAny (model prog w) A (compareOp op (.int i t) (.int j u)) Q E s)
    (ha : QE prog w A env s0 a (.int i)) (hb : QE prog w A env s0 b (.int j)) (h1 : behindInMarks op b = false) : QE prog w A env s0 (.Compare a [op] [b] pos) (.bl (p i j)) := fun s E k => by
  refine wpAny_Compare1 (thn (ha s E k) fun v s1 ⟨r1, k1⟩ => thn (hb s1 E k1) fun u s2 ⟨r2, k2⟩ => ?_) h1
  obtain ⟨t, rfl⟩ := r1
  obtain ⟨t', rfl⟩ := r2
  exact rule i j t t' _ _ s2 ⟨rfl, k2⟩
/-- a <= b <= c -/
theorem q_between {a b c : Expr} {i j l : Int} (ha : QE prog w A env s0 a (.int i)) (hb : QE prog w A env s0 b (.int j)) (hc : QE prog w A env s0 c (.int l)) (hm : lastMarks [.LtE, .LtE] [b, c] = false) :
    QE prog w A env s0 (.Compare a [.LtE, .LtE] [b, c] pos) (.bl (decide (i ≤ j) && decide (j ≤ l))) := fun s E k => by
  refine Compare_chain (thn (ha s E k) fun v s1 ⟨r1, k1⟩ => chain_link (thn (hb s1 E k1) fun u s2 ⟨r2, k2⟩ => ?_)) hm
  obtain ⟨t, rfl⟩ := r1
  obtain ⟨t', rfl⟩ := r2
  refine le_int (wpAny_truthy_bool ?_)
  by_cases h : i ≤ j
  · rw [decide_eq_true h]
    refine ite_tt (chain_last (thn (hc s2 E k2) fun x s3 ⟨r3, k3⟩ => ?_))
    obtain ⟨t3, rfl⟩ := r3
    exact le_int ⟨rfl, k3⟩
  · rw [decide_eq_false h]
    exact ite_ff ⟨rfl, k2⟩
/-- isinstance(e, T), of an int -/
theorem q_isiI {e T : Expr} {p : Pos} {i : Int} {n : String} {b : Bool} (q : QEnv K mg base env s0) (hg : env.scope.names.lookup ("isinstance" : Str) = some .globalImplicit) (hm : mg "isinstance" = none) (he : QE prog w A env s0 e (.int i)) (hT : QE prog w A env s0 T (.ty n)) (hk : kitB "int" n = some b)
    (hs : starEach [e, T] env = (false, eval e env) :: starEach [T] env) (hs2 : starEach [T] env = (false, eval T env) :: starEach [] env) (hpl : (backTo pos (starEach [T] env)).any (·.1) = false) : QE prog w A env s0 (.Call (.Name "isinstance" p) [e, T] [] pos) (.bl b) := fun s E k => by
  refine wpAny_Call_Name_kw (q_blt q k hg hm (u := .builtin "isinstance") (by decide +kernel) (by decide) (by decide) ?_)
  refine PyProof.Rows.callWith_builtin1 ?_ hs hpl
  rw [hs, hs2]
  show wpAny _ _ (spliced ((false, eval e env) :: (false, eval T env) :: backTo pos (starEach [] env))) _ _ s
  refine Calls.spliced_cons (thn (he s E k) fun v s1 ⟨r1, k1⟩ => Calls.spliced_cons (thn (hT s1 E k1) fun u s2 ⟨r2, k2⟩ => Calls.spliced_nil ?_))
  obtain ⟨t, rfl⟩ := r1
  cases r2
  exact PySem.W.kia_one PySem.W.kitx_int (q.mod.kin.keeps fun b o e => k2.at (q.bk b o e)) True.intro (kit_ty hk) (fun z => nomatch z) fun tk => ⟨rfl, k2.tok tk⟩
/-! argument lists -/
def QA (prog : Program) (w : World) (A : Around) (env : Env) (s0 : Shared) (es : List Expr) (vs : List V) : Prop :=
  ∀ (pos : Pos) (s : Shared) (E : Value → Shared → Prop), Kp s0 s → wpAny (model prog w) A (spliced (backTo pos (starEach es env))) (fun us s3 => Vals vs us ∧ Kp s0 s3) E s
theorem qa_nil : QA prog w A env s0 [] [] := fun pos s E k => Calls.spliced_nil ⟨.nil, k⟩
theorem qa_cons {e : Expr} {es : List Expr} {v : V} {vs : List V} (he : QE prog w A env s0 e v) (hr : QA prog w A env s0 es vs) (hs : starEach (e :: es) env = (false, eval e env) :: starEach es env) : QA prog w A env s0 (e :: es) (v :: vs) := fun pos s E k => by
  rw [hs]
  show wpAny _ _ (spliced ((false, eval e env) :: backTo pos (starEach es env))) _ _ s
  exact Calls.spliced_cons (thn (he s E k) fun u s1 ⟨r1, k1⟩ => thn (hr pos s1 E k1) fun us s2 ⟨r2, k2⟩ => ⟨.cons r1 r2, k2⟩)
/-- what a def with a body of one return gives -/
theorem q_call {x y qual : Str} {st : Stmt} {f : Addr} {fd : FuncData} {N ps : List Str} {e e0 : Expr} {es : List Expr} {p pr : Pos} {vs : List V} {r : V} {d u : Nat} (q : QEnv K mg base env s0) (hr : RoomQ (d + 1) (u + 3) A) (F : Fun K y qual st f fd) (hb : Binds K fd ps []) (S : FnScope N ps (defScope st)) (hcells : ∀ z ∈ (defScope st).names, z.2 ≠ .cell)
    (hl : ∀ z ∈ ps, (defScope st).names.lookup z = some .local) (hn : vs.length = ps.length) (hg : env.scope.names.lookup x = some .globalImplicit) (hm : mg x = some (.ref f)) (hd : (x == ("__debug__" : Str)) = false)
    (ha : QA prog w A env s0 (e0 :: es) vs) (hs : starEach (e0 :: es) env = (false, eval e0 env) :: starEach es env) (hpl : (backTo pos (starEach es env)).any (·.1) = false) (hbody : defBody st = [.Return (some e) pr])
    (body : ∀ (A' : Around) (env' : Env) (s1 : Shared) (us : List Value), RoomQ d u A' → QEnv K mg base env' s1 → env'.scope = defScope st → Vals vs us → s1.heap.Ns env'.locals (fun z => (ps.zip us).reverse.lookup z) → Kp s0 s1 → QE prog w A' env' s1 e r) :
    QE prog w A env s0 (.Call (.Name x p) (e0 :: es) [] pos) r := fun s E k => by
  refine wpAny_Call_Name_kw (q_glob q k hg hm hd ?_)
  refine PySem.W.callWith_K (K := K) (h₀ := base) q.mod.kin F.kp (thn (ha pos s E k) fun us s1 ⟨r1, k1⟩ => ?_) hs hpl
  have kin1 : K.In s1.heap := q.mod.kin.keeps fun b o e => k1.at (q.bk b o e)
  refine ⟨kin1, ?_⟩
  obtain ⟨oc, od, kV, doc, pm, an, cdv, ct, osl, rfl, lk, hcd⟩ := F.ex
  have hlen : (us ++ []).length = ps.length := by rw [List.append_nil, ← r1.length]; exact hn
  have bt := hb s1 us kin1 hlen
  rw [List.append_nil] at bt
  refine wpAny_call ?_
  refine codeAny_call_function (by have := hr.dp; omega) (kin1 _ _ lk) rfl S.co S.gen rfl (PySem.W.codeRec_of kin1 hcd) (bt _ _ _ _ ?_)
  refine wpAny_newFunctionEnv (fun z hz => hcells z hz) (fun z hz => hl z.1 (List.of_mem_zip hz).1) (fun h' hns hsb => ?_) S.kind
  have kk : ∀ b o, s1.heap.get? b = some o → h'.get? b = some o := fun b o e => hsb.extBut b o (Nat.ne_of_lt (Heap.lt_size e)) (Heap.get?_push_of_some _ e)
  refine ⟨(q.mod.nolimit.keeps fun b o e => k1.at (q.bk b o e)).keeps kk, codeAny_func ?_⟩
  show wpAny _ _ (execs (defBody st) _) _ _ _
  rw [hbody]
  generalize hev : newEnv (defScope st) s1.heap.objs.size _ _ _ _ _ _ _ = env'
  have q1 : QEnv K mg base env' { s1 with heap := h', toks := s1.toks + (ps.zip us).length } := by
    subst hev
    exact ⟨q.mod, S.kind, rfl, rfl, fun b o e => kk b o (k1.at (q.bk b o e))⟩
  have hr' : RoomQ d u (A.deeper env') := ⟨hr.hd, by have := hr.dp; show A.depth + 1 + d < _; omega, by have := hr.un; show A.units + 3 + u < _; omega⟩
  have kk1 : Kp s1 { s1 with heap := h', toks := s1.toks + (ps.zip us).length } := ⟨⟨h', _, rfl, kk⟩⟩
  have hb1 := body (A.deeper env') env' _ us hr' q1 (by subst hev; rfl) r1 (by subst hev; exact hns) (k1.more kk1)
  refine wpAny_execs_cons (wpAny_Return_some (thn (hb1 _ _ (Kp.rfl' _)) fun y s3 ⟨r3, k3⟩ => ?_))
  exact ⟨r3, (k1.more kk1).more k3⟩
end
end Vi
set_option maxRecDepth 100000
set_option maxHeartbeats 2000000
/-! Vi18: all(..), any(..) of a generator over a list or a tuple. -/
namespace Vi
open PySem PySem.Spec PyProof.Rows L2
/-! ### quiet meanings -/
def QV (s0 : Shared) : D → V → Prop
  | .int i, v => v = .int i
  | .bl b, v => v = .bl b
  | .non, v => v = .non
  | .str x, v => v = .str x
  | .ty n, v => v = .ty n
  | .tup ds, v => ∃ a its, v = .ref a ∧ s0.heap.IsTuple a its ∧ its.size = ds.length
  | _, _ => False
def qok : D → Bool
  | .int _ | .bl _ | .non | .str _ | .ty _ | .tup _ => true
  | _ => false
theorem QV.keep {s0 s1 : Shared} (k : Kp s0 s1) {d : D} {v : V} (h : QV s0 d v) : QV s1 d v := by
  cases d with
  | tup ds =>
    obtain ⟨a, its, e, ht, hl⟩ := h
    refine ⟨a, its, e, ?_, hl⟩
    obtain ⟨o, h1, h2⟩ := ht
    exact ⟨o, k.at h1, h2⟩
  | _ => exact h
theorem QV.of {X : Cx} {pins : List (Addr × Obj)} {σ : L2.St} {H : Hp} {s : Shared} {R : Tr} {d : D} {v : V} (I : Inv X pins σ H s) (r : RV X.K H R d v) (h : qok d = true) : QV s d v := by
  cases d with
  | tup ds =>
    obtain ⟨a, vs, rfl, hs, rr⟩ := r
    obtain ⟨its, rv, ht, _⟩ := I.tuple hs
    exact ⟨a, _, rfl, ht, by rw [List.size_toArray, ← rv.length, rr.length]⟩
  | int _ => exact r
  | bl _ => exact r
  | non => exact r
  | str _ => exact r
  | ty _ => exact r
  | _ => cases h
section
variable {prog : Program} {w : World} {K : PySem.W.Frag} {mg : Str → Option Value} {base : Heap} {N : List Str} {sc : Scope} {dd uu : Nat} {pos : Pos}
def QFr (prog : Program) (w : World) (N : List Str) (A : Around) (env : Env) (s0 : Shared) (fr : Fr) : Prop :=
  ∀ (i : Nat) (x : Str) (d : D), N[i]? = some x → fget fr i = some d → qok d = true → env.scope.names.lookup x = some .local ∨ env.scope.names.lookup x = some .free → (x == ("__debug__" : Str)) = false → (x == ("__classdict__" : Str)) = false →
    ∃ v, QV s0 d v ∧ ∀ pos, QE prog w A env s0 (.Name x pos) v
structure IQ (prog : Program) (w : World) (K : PySem.W.Frag) (mg : Str → Option Value) (base : Heap) (N : List Str) (sc : Scope) (dd uu : Nat) (e : Expr) (f : ME) : Prop where
  pu : ∀ fr st r st', f fr st = .ok r st' → st' = st
  q : ∀ (A : Around) (env : Env) (s0 : Shared) (fr : Fr) (st : Sto), RoomQ dd uu A → QEnv K mg base env s0 → env.scope = sc → QFr prog w N A env s0 fr → ∀ r, f fr st = .ok r st → ∃ v, QV s0 r v ∧ QE prog w A env s0 e v
def eVarQ (i : Nat) (fr : Fr) (st : Sto) : Out D := match fget fr i with
  | some d => if qok d = true then .ok d st else .no
  | none => .no
theorem iq_var (i : Nat) {x : Str} (hN : N[i]? = some x := by rfl) (hv : sc.names.lookup x = some .local ∨ sc.names.lookup x = some .free := by first | exact .inl rfl | exact .inr rfl) (hd : (x == ("__debug__" : Str)) = false := by decide)
    (hcd : (x == ("__classdict__" : Str)) = false := by decide) : IQ prog w K mg base N sc dd uu (.Name x pos) (eVarQ i) where
  pu := fun fr st r st' h => by
    unfold eVarQ at h
    split at h
    · split at h
      · cases h; rfl
      · cases h
    · cases h
  q := fun A env s0 fr st _ q hs hf r h => by
    unfold eVarQ at h
    split at h
    · split at h
      · rename_i d e hq
        cases h
        obtain ⟨v, h1, h2⟩ := hf i x _ hN e hq (by rw [hs]; exact hv) hd hcd
        exact ⟨v, h1, h2 pos⟩
      · cases h
    · cases h
theorem iq_c {d : D} {e : Expr} {v : V} (hq : ∀ s, QV s d v) (h : ∀ A env s0, QEnv K mg base env s0 → env.scope = sc → QE prog w A env s0 e v) : IQ prog w K mg base N sc dd uu e (eC d) where
  pu := fun fr st r st' h => by cases h; rfl
  q := fun A env s0 fr st _ q hs hf r h' => by
    cases h'
    exact ⟨v, hq s0, h A env s0 q hs⟩
theorem iq_int {i : Int} {j : Nat} : IQ prog w K mg base N sc dd uu (.Constant (.int i) j pos) (eC (.int i)) := iq_c (v := .int i) (fun _ => rfl) fun _ _ _ _ _ => q_int
theorem iq_bl {i : Bool} {j : Nat} : IQ prog w K mg base N sc dd uu (.Constant (.bool i) j pos) (eC (.bl i)) := iq_c (v := .bl i) (fun _ => rfl) fun _ _ _ _ _ => q_bl
theorem iq_str {i : Str} {j : Nat} : IQ prog w K mg base N sc dd uu (.Constant (.str i) j pos) (eC (.str i)) := iq_c (v := .str i) (fun _ => rfl) fun _ _ _ _ _ => q_str
theorem iq_globI {x : Str} {i : Int} {t : Tok} (hm : mg x = some (.int i t)) (hg : sc.names.lookup x = some .globalImplicit := by rfl) (hd : (x == ("__debug__" : Str)) = false := by decide) : IQ prog w K mg base N sc dd uu (.Name x pos) (eC (.int i)) :=
  iq_c (v := .int i) (fun _ => rfl) fun _ _ _ q hs => q_globI q (by rw [hs]; exact hg) hm hd
theorem iq_ty {x : Str} {n : String} (hm : mg x = none) (hv : bootBuiltins x = some (.type n)) (hg : sc.names.lookup x = some .globalImplicit := by rfl) (hn : x ≠ "__name__" := by decide) (hd : (x == ("__debug__" : Str)) = false := by decide) : IQ prog w K mg base N sc dd uu (.Name x pos) (eC (.ty n)) :=
  iq_c (v := .ty n) (fun _ => rfl) fun _ _ _ q hs => q_ty q (by rw [hs]; exact hg) hm hv hn hd
theorem bind_ok {α β : Type} {x : Out α} {k : α → Sto → Out β} {r : β} {st' : Sto} (h : x.bind k = .ok r st') : ∃ a st1, x = .ok a st1 ∧ k a st1 = .ok r st' := by
  cases x with
  | ok a st1 => exact ⟨a, st1, rfl, h⟩
  | ex c s => cases h
  | no => cases h
theorem bin_ok {o : M2} {f g : ME} {fr : Fr} {st st' : Sto} {r : D} (h : eBin o f g fr st = .ok r st') : ∃ x st1 y st2, f fr st = .ok x st1 ∧ g fr st1 = .ok y st2 ∧ o x y st2 = .ok r st' := by
  unfold eBin at h
  obtain ⟨x, st1, e1, h⟩ := bind_ok h
  obtain ⟨y, st2, e2, h⟩ := bind_ok h
  exact ⟨x, st1, y, st2, e1, e2, h⟩
theorem oI0_ok {g : Int → Int → D} {x y r : D} {st st' : Sto} (h : oI0 g x y st = .ok r st') : ∃ i j, x = .int i ∧ y = .int j ∧ r = g i j ∧ st' = st := by
  unfold oI0 at h
  split at h
  · cases h; exact ⟨_, _, rfl, rfl, rfl, rfl⟩
  · cases h
theorem iq_int2 {g : Int → Int → D} {gv : Int → Int → V} {a b e : Expr} {f1 f2 : ME} (hg : ∀ s i j, QV s (g i j) (gv i j)) (rule : ∀ A env s0 i j, QE prog w A env s0 a (.int i) → QE prog w A env s0 b (.int j) → QE prog w A env s0 e (gv i j))
    (ha : IQ prog w K mg base N sc dd uu a f1) (hb : IQ prog w K mg base N sc dd uu b f2) : IQ prog w K mg base N sc dd uu e (eBin (oI0 g) f1 f2) where
  pu := fun fr st r st' h => by
    obtain ⟨x, st1, y, st2, e1, e2, e3⟩ := bin_ok h
    obtain ⟨i, j, rfl, rfl, rfl, rfl⟩ := oI0_ok e3
    exact (hb.pu _ _ _ _ e2).trans (ha.pu _ _ _ _ e1)
  q := fun A env s0 fr st hr q hs hf r h => by
    obtain ⟨x, st1, y, st2, e1, e2, e3⟩ := bin_ok h
    have := ha.pu _ _ _ _ e1
    subst this
    have := hb.pu _ _ _ _ e2
    subst this
    obtain ⟨i, j, rfl, rfl, rfl, _⟩ := oI0_ok e3
    obtain ⟨v1, r1, q1⟩ := ha.q A env s0 fr _ hr q hs hf _ e1
    obtain ⟨v2, r2, q2⟩ := hb.q A env s0 fr _ hr q hs hf _ e2
    cases r1; cases r2
    exact ⟨_, hg s0 i j, rule A env s0 i j q1 q2⟩
theorem iq_sub {a b : Expr} {f g : ME} (ha : IQ prog w K mg base N sc dd uu a f) (hb : IQ prog w K mg base N sc dd uu b g) : IQ prog w K mg base N sc dd uu (.BinOp a .Sub b pos) (eBin oSub f g) := iq_int2 (gv := fun i j => .int (i - j)) (fun _ _ _ => rfl) (fun _ _ _ _ _ => q_sub) ha hb
theorem iq_cmp {op : CmpOp} {p : Int → Int → Bool} {a b : Expr} {f g : ME} (rule : ∀ (prog : Program) (w : World) (A : Around) (i j : Int) (t u : Tok) (Q : Value → Shared → Prop) (E : Value → Shared → Prop) (s : Shared), Q (.bool (p i j)) s → wpAny (model prog w) A (compareOp op (.int i t) (.int j u)) Q E s)
    (ha : IQ prog w K mg base N sc dd uu a f) (hb : IQ prog w K mg base N sc dd uu b g) (h1 : behindInMarks op b = false := by first | exact nomark _ | rfl) : IQ prog w K mg base N sc dd uu (.Compare a [op] [b] pos) (eBin (oI0 fun i j => .bl (p i j)) f g) :=
  iq_int2 (gv := fun i j => .bl (p i j)) (fun _ _ _ => rfl) (fun _ _ _ _ _ q1 q2 => q_cmp (fun i j t u Q E s z => rule prog w _ i j t u Q E s z) q1 q2 h1) ha hb
def oBtw (x y z : D) (st : Sto) : Out D := match x, y, z with
  | .int i, .int j, .int l => .ok (.bl (decide (i ≤ j) && decide (j ≤ l))) st
  | _, _, _ => .no
/-- a <= b <= c, all three asked -/
def eBtw (f g h : ME) (fr : Fr) (st : Sto) : Out D := (f fr st).bind fun x st1 => (g fr st1).bind fun y st2 => (h fr st2).bind fun z st3 => oBtw x y z st3
theorem btw_ok {f g h : ME} {fr : Fr} {st st' : Sto} {r : D} (hh : eBtw f g h fr st = .ok r st') : ∃ i j l st1 st2, f fr st = .ok (.int i) st1 ∧ g fr st1 = .ok (.int j) st2 ∧ h fr st2 = .ok (.int l) st' ∧ r = .bl (decide (i ≤ j) && decide (j ≤ l)) := by
  unfold eBtw at hh
  obtain ⟨x, st1, e1, hh⟩ := bind_ok hh
  obtain ⟨y, st2, e2, hh⟩ := bind_ok hh
  obtain ⟨z, st3, e3, hh⟩ := bind_ok hh
  unfold oBtw at hh
  split at hh
  · cases hh
    exact ⟨_, _, _, st1, st2, e1, e2, e3, rfl⟩
  · cases hh
theorem iq_btw {a b c : Expr} {f g h : ME} (ha : IQ prog w K mg base N sc dd uu a f) (hb : IQ prog w K mg base N sc dd uu b g) (hc : IQ prog w K mg base N sc dd uu c h) (hm : lastMarks [.LtE, .LtE] [b, c] = false := by with_unfolding_all rfl) :
    IQ prog w K mg base N sc dd uu (.Compare a [.LtE, .LtE] [b, c] pos) (eBtw f g h) where
  pu := fun fr st r st' hh => by
    obtain ⟨i, j, l, st1, st2, e1, e2, e3, rfl⟩ := btw_ok hh
    exact (hc.pu _ _ _ _ e3).trans ((hb.pu _ _ _ _ e2).trans (ha.pu _ _ _ _ e1))
  q := fun A env s0 fr st hr q hs hf r hh => by
    obtain ⟨i, j, l, st1, st2, e1, e2, e3, rfl⟩ := btw_ok hh
    have := ha.pu _ _ _ _ e1
    subst this
    have := hb.pu _ _ _ _ e2
    subst this
    obtain ⟨v1, r1, q1⟩ := ha.q A env s0 fr _ hr q hs hf _ e1
    obtain ⟨v2, r2, q2⟩ := hb.q A env s0 fr _ hr q hs hf _ e2
    obtain ⟨v3, r3, q3⟩ := hc.q A env s0 fr _ hr q hs hf _ e3
    cases r1; cases r2; cases r3
    exact ⟨_, rfl, q_between q1 q2 q3 hm⟩
theorem iq_one {op : BoolOp} {a : Expr} {f : ME} (ha : IQ prog w K mg base N sc dd uu a f) : IQ prog w K mg base N sc dd uu (.BoolOp op [a] pos) f := ⟨ha.pu, fun A env s0 fr st hr q hs hf r h => by
  obtain ⟨v, r1, q1⟩ := ha.q A env s0 fr st hr q hs hf r h
  exact ⟨v, r1, q_one q1⟩⟩
def asBl (d : D) (st : Sto) : Out D := match d with
  | .bl b => .ok (.bl b) st
  | _ => .no
theorem asBl_ok {d r : D} {st st' : Sto} (h : asBl d st = .ok r st') : ∃ b, d = .bl b ∧ r = .bl b ∧ st' = st := by
  unfold asBl at h
  split at h
  · cases h; exact ⟨_, rfl, rfl, rfl⟩
  · cases h
/-- a and b, of bools -/
def kAndQ (g : ME) (fr : Fr) (d : D) (st : Sto) : Out D := match d with
  | .bl true => (g fr st).bind asBl
  | .bl false => .ok (.bl false) st
  | _ => .no
def vAndQ (f g : ME) (fr : Fr) (st : Sto) : Out D := (f fr st).bind (kAndQ g fr)
theorem iq_and {a b : Expr} {rest : List Expr} {f g : ME} (ha : IQ prog w K mg base N sc dd uu a f) (hb : IQ prog w K mg base N sc dd uu (.BoolOp .And (b :: rest) pos) g) : IQ prog w K mg base N sc dd uu (.BoolOp .And (a :: b :: rest) pos) (vAndQ f g) where
  pu := fun fr st r st' h => by
    obtain ⟨x, st1, e1, h⟩ := bind_ok h
    unfold kAndQ at h
    split at h
    · obtain ⟨y, st2, e2, h⟩ := bind_ok h
      obtain ⟨_, _, _, rfl⟩ := asBl_ok h
      exact (hb.pu _ _ _ _ e2).trans (ha.pu _ _ _ _ e1)
    · cases h
      exact ha.pu _ _ _ _ e1
    · cases h
  q := fun A env s0 fr st hr q hs hf r h => by
    obtain ⟨x, st1, e1, h⟩ := bind_ok h
    have e1' := ha.pu _ _ _ _ e1
    subst e1'
    unfold kAndQ at h
    split at h
    · obtain ⟨v1, r1, q1⟩ := ha.q A env s0 fr _ hr q hs hf _ e1
      cases r1
      obtain ⟨y, st2, e2, h⟩ := bind_ok h
      have e2' := hb.pu _ _ _ _ e2
      subst e2'
      obtain ⟨b', rfl, rfl, _⟩ := asBl_ok h
      obtain ⟨v2, r2, q2⟩ := hb.q A env s0 fr _ hr q hs hf _ e2
      cases r2
      have := q_and (pos := pos) q1 (y := b') fun _ => q2
      exact ⟨.bl b', rfl, by simpa using this⟩
    · obtain ⟨v1, r1, q1⟩ := ha.q A env s0 fr _ hr q hs hf _ e1
      cases r1
      cases h
      have := q_and (pos := pos) (b := b) (r := rest) q1 (y := true) fun z => by cases z
      exact ⟨.bl false, rfl, by simpa using this⟩
    · cases h
def kNotQ (d : D) (st : Sto) : Out D := match d with
  | .bl b => .ok (.bl (!b)) st
  | _ => .no
def vNotQ (f : ME) (fr : Fr) (st : Sto) : Out D := (f fr st).bind kNotQ
theorem kNotQ_ok {d r : D} {st st' : Sto} (h : kNotQ d st = .ok r st') : ∃ b, d = .bl b ∧ r = .bl (!b) ∧ st' = st := by
  unfold kNotQ at h
  split at h
  · cases h; exact ⟨_, rfl, rfl, rfl⟩
  · cases h
theorem iq_not {a : Expr} {f : ME} (ha : IQ prog w K mg base N sc dd uu a f) : IQ prog w K mg base N sc dd uu (.UnaryOp .Not a pos) (vNotQ f) where
  pu := fun fr st r st' h => by
    obtain ⟨x, st1, e1, h⟩ := bind_ok h
    obtain ⟨b, rfl, rfl, rfl⟩ := kNotQ_ok h
    exact ha.pu _ _ _ _ e1
  q := fun A env s0 fr st hr q hs hf r h => by
    obtain ⟨x, st1, e1, h⟩ := bind_ok h
    have e1' := ha.pu _ _ _ _ e1
    subst e1'
    obtain ⟨b, rfl, rfl, _⟩ := kNotQ_ok h
    obtain ⟨v1, r1, q1⟩ := ha.q A env s0 fr _ hr q hs hf _ e1
    cases r1
    exact ⟨_, rfl, q_not q1⟩
/-- isinstance(e, T) of an int -/
def bIsiI (n : String) (d : D) (st : Sto) : Out D := match d with
  | .int _ => match kitS "int" n with
    | some b => .ok (.bl b) st
    | none => .no
  | _ => .no
theorem bIsiI_ok {n : String} {d r : D} {st st' : Sto} (h : bIsiI n d st = .ok r st') : ∃ i b, d = .int i ∧ kitS "int" n = some b ∧ r = .bl b ∧ st' = st := by
  unfold bIsiI at h
  split at h
  · split at h
    · rename_i b hk
      cases h
      exact ⟨_, b, rfl, hk, rfl, rfl⟩
    · cases h
  · cases h
def eIsiI (n : String) (f : ME) (fr : Fr) (st : Sto) : Out D := (f fr st).bind (bIsiI n)
theorem iq_isiI {e : Expr} {p p2 : Pos} {T : Str} {n : String} {f : ME} (hm : mg "isinstance" = none) (hm2 : mg T = none) (hv : bootBuiltins T = some (.type n)) (he : IQ prog w K mg base N sc dd uu e f) (hg : sc.names.lookup ("isinstance" : Str) = some .globalImplicit := by rfl)
    (hg2 : sc.names.lookup T = some .globalImplicit := by rfl) (hn : T ≠ "__name__" := by decide) (hd : (T == ("__debug__" : Str)) = false := by decide)
    (hs : ∀ env, starEach [e, .Name T p2] env = (false, eval e env) :: starEach [.Name T p2] env := by intro _; rfl) (hs2 : ∀ env, starEach [.Name T p2] env = (false, eval (.Name T p2) env) :: starEach [] env := by intro _; rfl) (hpl : ∀ env, (backTo pos (starEach [.Name T p2] env)).any (·.1) = false := by intro _; rfl) :
    IQ prog w K mg base N sc dd uu (.Call (.Name "isinstance" p) [e, .Name T p2] [] pos) (eIsiI n f) where
  pu := fun fr st r st' h => by
    obtain ⟨x, st1, e1, h⟩ := bind_ok h
    obtain ⟨i, b, rfl, _, rfl, rfl⟩ := bIsiI_ok h
    exact he.pu _ _ _ _ e1
  q := fun A env s0 fr st hr q hsc hf r h => by
    obtain ⟨x, st1, e1, h⟩ := bind_ok h
    have e1' := he.pu _ _ _ _ e1
    subst e1'
    obtain ⟨i, b, rfl, hk, rfl, _⟩ := bIsiI_ok h
    obtain ⟨v1, r1, q1⟩ := he.q A env s0 fr _ hr q hsc hf _ e1
    cases r1
    exact ⟨.bl b, rfl, q_isiI q (by rw [hsc]; exact hg) hm q1 (q_ty q (by rw [hsc]; exact hg2) hm2 hv hn hd) (kitS_ok hk) (hs env) (hs2 env) (hpl env)⟩
/-! argument lists -/
def QVs (s0 : Shared) : List D → List V → Prop
  | [], vs => vs = []
  | d :: ds, vs => ∃ v r, vs = v :: r ∧ QV s0 d v ∧ QVs s0 ds r
theorem QVs.length {s0 : Shared} : ∀ {ds : List D} {vs : List V}, QVs s0 ds vs → vs.length = ds.length
  | [], _, h => by subst h; rfl
  | _ :: _, _, ⟨v, r, h1, h2, h3⟩ => by subst h1; simp [QVs.length h3]
theorem QVs.get {s0 : Shared} : ∀ {ds : List D} {vs : List V} {i : Nat} {d : D}, QVs s0 ds vs → ds[i]? = some d → ∃ v, vs[i]? = some v ∧ QV s0 d v
  | [], _, _, _, _, e => by simp at e
  | x :: _, _, 0, d, ⟨v, r, h1, h2, h3⟩, e => by
    subst h1
    have e' : x = d := by simpa using e
    subst e'
    exact ⟨v, rfl, h2⟩
  | _ :: _, _, i + 1, d, ⟨v, r, h1, h2, h3⟩, e => by
    subst h1
    obtain ⟨u, e1, e2⟩ := QVs.get (i := i) (d := d) h3 (by simpa using e)
    exact ⟨u, by simpa using e1, e2⟩
structure IQA (prog : Program) (w : World) (K : PySem.W.Frag) (mg : Str → Option Value) (base : Heap) (N : List Str) (sc : Scope) (dd uu : Nat) (es : List Expr) (f : MA) : Prop where
  pu : ∀ fr st r st', f fr st = .ok r st' → st' = st
  q : ∀ (A : Around) (env : Env) (s0 : Shared) (fr : Fr) (st : Sto), RoomQ dd uu A → QEnv K mg base env s0 → env.scope = sc → QFr prog w N A env s0 fr → ∀ r, f fr st = .ok r st → ∃ vs, QVs s0 r vs ∧ QA prog w A env s0 es vs
theorem iqa_nil : IQA prog w K mg base N sc dd uu [] aNil where
  pu := fun fr st r st' h => by cases h; rfl
  q := fun A env s0 fr st hr q hs hf r h => by
    cases h
    exact ⟨[], rfl, qa_nil⟩
theorem iqa_cons {e : Expr} {es : List Expr} {f : ME} {g : MA} (ha : IQ prog w K mg base N sc dd uu e f) (hb : IQA prog w K mg base N sc dd uu es g) (hs : ∀ env, starEach (e :: es) env = (false, eval e env) :: starEach es env := by intro _; rfl) : IQA prog w K mg base N sc dd uu (e :: es) (aCons f g) where
  pu := fun fr st r st' h => by
    unfold aCons at h
    obtain ⟨x, st1, e1, h⟩ := bind_ok h
    obtain ⟨xs, st2, e2, h⟩ := bind_ok h
    cases h
    exact (hb.pu _ _ _ _ e2).trans (ha.pu _ _ _ _ e1)
  q := fun A env s0 fr st hr q hsc hf r h => by
    unfold aCons at h
    obtain ⟨x, st1, e1, h⟩ := bind_ok h
    obtain ⟨xs, st2, e2, h⟩ := bind_ok h
    have e1' := ha.pu _ _ _ _ e1
    subst e1'
    have e2' := hb.pu _ _ _ _ e2
    subst e2'
    cases h
    obtain ⟨v1, r1, q1⟩ := ha.q A env s0 fr _ hr q hsc hf _ e1
    obtain ⟨v2, r2, q2⟩ := hb.q A env s0 fr _ hr q hsc hf _ e2
    exact ⟨v1 :: v2, ⟨v1, v2, rfl, r1, r2⟩, qa_cons q1 q2 (hs env)⟩
/-- a def that a generator's element may call: it tells a bool -/
structure DefQ (prog : Program) (w : World) (K : PySem.W.Frag) (mg : Str → Option Value) (base : Heap) (x : Str) (dd uu : Nat) (F : MF) : Prop where
  pu : ∀ ds st r st', F ds st = .ok r st' → st' = st
  q : ∀ (A : Around) (env : Env) (s0 : Shared) (ds : List D) (vs : List V) (e0 : Expr) (es : List Expr) (p pos : Pos) (st : Sto) (b : Bool), RoomQ dd uu A → QEnv K mg base env s0 → env.scope.names.lookup x = some .globalImplicit → QVs s0 ds vs → QA prog w A env s0 (e0 :: es) vs →
    starEach (e0 :: es) env = (false, eval e0 env) :: starEach es env → (backTo pos (starEach es env)).any (·.1) = false → F ds st = .ok (.bl b) st → QE prog w A env s0 (.Call (.Name x p) (e0 :: es) [] pos) (.bl b)
def kCallQ (F : MF) (ds : List D) (st : Sto) : Out D := (F ds st).bind asBl
def eCallQ (F : MF) (f : MA) (fr : Fr) (st : Sto) : Out D := (f fr st).bind (kCallQ F)
theorem iq_call {x : Str} {F : MF} {e0 : Expr} {es : List Expr} {p : Pos} {f : MA} (d : DefQ prog w K mg base x dd uu F) (ha : IQA prog w K mg base N sc dd uu (e0 :: es) f) (hg : sc.names.lookup x = some .globalImplicit := by rfl)
    (hs : ∀ env, starEach (e0 :: es) env = (false, eval e0 env) :: starEach es env := by intro _; rfl) (hpl : ∀ env, (backTo pos (starEach es env)).any (·.1) = false := by intro _; rfl) : IQ prog w K mg base N sc dd uu (.Call (.Name x p) (e0 :: es) [] pos) (eCallQ F f) where
  pu := fun fr st r st' h => by
    obtain ⟨ds, st1, e1, h⟩ := bind_ok h
    obtain ⟨y, st2, e2, h⟩ := bind_ok h
    obtain ⟨_, _, _, rfl⟩ := asBl_ok h
    exact (d.pu _ _ _ _ e2).trans (ha.pu _ _ _ _ e1)
  q := fun A env s0 fr st hr q hsc hf r h => by
    obtain ⟨ds, st1, e1, h⟩ := bind_ok h
    obtain ⟨y, st2, e2, h⟩ := bind_ok h
    have e1' := ha.pu _ _ _ _ e1
    subst e1'
    have e2' := d.pu _ _ _ _ e2
    subst e2'
    obtain ⟨b, rfl, rfl, _⟩ := asBl_ok h
    obtain ⟨vs, r1, q1⟩ := ha.q A env s0 fr _ hr q hsc hf _ e1
    exact ⟨.bl b, rfl, d.q A env s0 ds vs e0 es p pos _ b hr q (by rw [hsc]; exact hg) r1 q1 (hs env) (hpl env) e2⟩
theorem lookup_rev_zip : ∀ {ps : List Str} {us : List Value} {i : Nat} {x : Str} {u : Value}, ps.Nodup → ps[i]? = some x → us[i]? = some u → (ps.zip us).reverse.lookup x = some u := by
  have out : ∀ {ps : List Str} {us : List Value} {x : Str}, x ∉ ps → (ps.zip us).reverse.lookup x = none := by
    intro ps us x hx
    rw [List.lookup_eq_none_iff]
    intro q hq
    rw [List.mem_reverse] at hq
    have := (List.of_mem_zip hq).1
    rw [bne_iff_ne]
    rintro rfl
    exact hx this
  intro ps
  induction ps with
  | nil => intro us i x u _ h; simp at h
  | cons p ps ih =>
    intro us i x u nd h1 h2
    cases us with
    | nil => simp at h2
    | cons v us =>
      rw [List.zip_cons_cons, List.reverse_cons, List.lookup_append]
      cases i with
      | zero =>
        simp at h1 h2
        subst h1 h2
        rw [out (List.nodup_cons.mp nd).1]
        simp
      | succ i =>
        rw [ih (List.nodup_cons.mp nd).2 (by simpa using h1) (by simpa using h2)]
        rfl
theorem defq_of {x qual : Str} {st : Stmt} {f : Addr} {fd : FuncData} {N ps : List Str} {e : Expr} {pr : Pos} {m : ME} {d u : Nat} (F : Fun K x qual st f fd) (hm : mg x = some (.ref f)) (hb : Binds K fd ps []) (S : FnScope N ps (defScope st)) (hcells : ∀ z ∈ (defScope st).names, z.2 ≠ .cell)
    (hl : ∀ z ∈ ps, (defScope st).names.lookup z = some .local) (hbody : defBody st = [.Return (some e) pr]) (hN : N = ps) (hd : (x == ("__debug__" : Str)) = false) (h : IQ prog w K mg base N (defScope st) d u e m) : DefQ prog w K mg base x (d + 1) (u + 3) (mF ps.length N.length (sRet m)) := by
  subst hN
  have key : ∀ ds sto r st', mF N.length N.length (sRet m) ds sto = .ok r st' → ds.length = N.length ∧ m (ds.map some) sto = .ok r st' := by
    intro ds sto r st' hF
    have hn : ds.length = N.length := by
      unfold mF at hF
      split at hF
      · assumption
      · cases hF
    refine ⟨hn, ?_⟩
    rw [mF_s hn, Nat.sub_self, List.replicate_zero, List.append_nil, sRet_s] at hF
    cases em : m (ds.map some) sto with
    | ok d1 st1 => rw [em] at hF; cases hF; rfl
    | ex c1 st1 => rw [em] at hF; cases hF
    | no => rw [em] at hF; cases hF
  refine ⟨fun ds sto r st' hF => h.pu _ _ _ _ (key ds sto r st' hF).2, fun A env s0 ds vs e0 es p pos sto b hr q hg hq ha hs hpl hF => ?_⟩
  obtain ⟨hn, hm2⟩ := key _ _ _ _ hF
  have hvn : vs.length = N.length := by rw [hq.length, hn]
  refine q_call q hr F hb S hcells hl hvn hg hm hd ha hs hpl hbody fun A' env' s1 us hr' q' hsc rv hns kp => ?_
  obtain ⟨v, qv, qe⟩ := h.q A' env' s1 (ds.map some) sto hr' q' hsc (fun i y d' hy hfd _ hvis hdb hcd => by
    rw [fget_eq] at hfd
    have hi : i < ds.length := by rw [hn]; exact (List.getElem?_eq_some_iff.mp hy).1
    rw [List.getElem?_map, List.getElem?_eq_getElem hi] at hfd
    have ed : ds[i] = d' := by simpa using hfd
    obtain ⟨v, hv, qv⟩ := hq.get (i := i) (d := d') (by rw [List.getElem?_eq_getElem hi, ed])
    obtain ⟨uv, hu, ruv⟩ := rv.get hv
    exact ⟨v, qv.keep kp, fun pos => q_loc q' (by rw [hsc]; exact hl y (List.mem_of_getElem? hy)) hns (lookup_rev_zip S.nd hy hu) ruv hdb⟩) _ hm2
  cases qv
  exact qe
end
end Vi
set_option maxRecDepth 100000
set_option maxHeartbeats 2000000
/-! Vi19: the walk of a generator over a tuple or a list, and what all(..), any(..) make of it. -/
namespace Vi
open PySem PySem.Spec PyProof.Rows L2
section
variable {X : Cx} {pins : List (Addr × Obj)} {σ : L2.St}
/-- the generator's env -/
abbrev gEnv (X : Cx) (scope : Scope) (C : Addr) (code : Value) : Env := genEnv scope (cloFrom X.env.cells scope.names []) C code builtinsNs X.env
/-- what is known where the walked thing was reckoned -/
structure GenAt0 (X : Cx) (pins : List (Addr × Obj)) (σ : L2.St) (H1 : Hp) (P : Addr) (ps : Array Value) (a : Addr) (its : Array Value) (scope : Scope) (x : Str) (elt : Expr) (pb : Nat → Bool) (s1 : Shared) : Prop where
  inv : Inv X pins σ H1 s1
  tab : H1 P = some (.tbl ps)
  tri : TriplesOk ps.toList
  seq : s1.heap.IsTuple a its ∨ s1.heap.IsList a its
  el : ∀ (C : Addr) (code : Value) (A' : Around) (E' : Value → Shared → Prop) (j : Nat) (v : Value) (s₂ : Shared) (m₂ : Str → Option Value), A'.handled = none → A'.depth ≤ X.A.depth + 1 → A'.units ≤ X.A.units + 8 → its[j]? = some v → s₂.heap.Ns C m₂ → m₂ x = some v →
    (∀ b o, b ≠ P → s1.heap.get? b = some o → s₂.heap.get? b = some o) → wpAny (model X.prog X.w) A' (eval elt (gEnv X scope C code)) (fun y s₃ => y = .bool (pb j) ∧ Keeps s₂ s₃) E' s₂
/-- the generator is ready to be walked -/
def GenReady (X : Cx) (pins : List (Addr × Obj)) (σ : L2.St) (H1 : Hp) (P : Addr) (n : Nat) (pb : Nat → Bool) (g : Addr) (s5 : Shared) : Prop :=
  ∃ (fp wr : List Addr) (G : Array GenState → Array GenState → Prop) (F : Nat → Value → Prop) (St : Nat → Shared → Prop), WalksS X.prog X.w X.A.in1 g fp wr G n F St ∧ St 0 s5 ∧ TruthOf X.prog X.w X.A.in1 F pb ∧
    ∀ s', Moved wr G s5 s' → ∃ ps', TriplesOk ps'.toList ∧ Inv X pins σ (upd H1 P (.tbl ps')) s'
theorem gen_seq {c P : Addr} {elt iter : Expr} {x : Str} {px gpos : Pos} {scope : Scope} {k : Nat} {s : Shared} {Q' : Value → Shared → Prop} (hr : Room k X.A) (TB : LamX.TabB X.base X.mg c P) (hcode : X.env.code = .ref c) (S : GxR.GenS X.env scope x) (hs : ∀ v, genFold iter X.env v = pure v)
    (hi : wpAny (model X.prog X.w) X.A (eval iter X.env) (fun xv s1 => ∃ H1 ps a its pb, xv = .ref a ∧ GenAt0 X pins σ H1 P ps a its scope x elt pb s1 ∧ ∀ g s5, GenReady X pins σ H1 P its.size pb g s5 → Q' (.ref g) s5) X.xe s) :
    wpAny (model X.prog X.w) X.A (eval (.GeneratorExp elt [⟨.Name x px, iter, [], 0⟩] scope gpos) X.env) Q' X.xe s := by
  refine wpAny_GeneratorExp_walksQD hr.hd S.co (closure_ok S.free) S.cell S.dot S.loc S.kind (by have := hr.dp; omega) (thn hi fun xv s1 ⟨H1, ps, a, its, pb, hxv, GA, fin⟩ => ?_) hs
  subst hxv
  have I1 := GA.inv
  generalize hI : s1.heap.objs.size = I
  have hPs : s1.heap.get? P = some { cls := .none, data := .fields ps } := I1.hok P _ GA.tab
  have hPI : P ≠ I := by rw [← hI]; exact Nat.ne_of_lt (Heap.lt_size hPs)
  have haI : a < I := by
    rw [← hI]
    rcases GA.seq with h | h
    · obtain ⟨_, e, _⟩ := h; exact Heap.lt_size e
    · obtain ⟨_, e, _⟩ := h; exact Heap.lt_size e
  have haP : a ≠ P := by
    rintro rfl
    rcases GA.seq with ⟨o, e, h1, h2⟩ | ⟨o, e, h1, h2, h3⟩
    · rw [hPs] at e; cases e; cases h1
    · rw [hPs] at e; cases e; cases h1
  -- the iterator, either kind
  have it : ∃ (oi : Obj) (St₀ : Nat → Heap → Prop), (∀ (A' : Around), A'.handled = none → Walks X.prog X.w A' I [I, a] [I] its.size (fun i v => its[i]? = some v) St₀) ∧
      (∀ (Q : Value → Shared → Prop), Q (.ref I) { s1 with heap := s1.heap.push oi } → wpAny (model X.prog X.w) X.A (pyIter (.ref a)) Q X.xe s1) ∧
      ∀ h3 : Heap, (∀ b u, b ≠ P → (s1.heap.push oi).get? b = some u → h3.get? b = some u) → St₀ 0 h3 := by
    have new : ∀ o : Obj, o.isFreed = false → (s1.heap.push o).get? I = some o := fun o ho => by rw [← hI]; exact Heap.get?_push_size _ ho
    rcases GA.seq with h | h
    · refine ⟨_, _, fun A' hA => Walks.tuple hA I a (Nat.ne_of_lt haI) its, fun Q q => wpAny_pyIter_tuple h (by rw [hI]; exact q), fun h3 hk => ⟨⟨_, hk I _ (Ne.symm hPI) (new _ rfl), rfl, rfl⟩, ?_⟩⟩
      obtain ⟨o, e, r⟩ := h
      exact ⟨o, hk a o haP (Heap.get?_push_of_some _ e), r⟩
    · refine ⟨_, _, fun A' hA => Walks.list hA I a (Nat.ne_of_lt haI) its, fun Q q => wpAny_pyIter_list h (by rw [hI]; exact q), fun h3 hk => ⟨⟨_, hk I _ (Ne.symm hPI) (new _ rfl), rfl, rfl⟩, ?_⟩⟩
      obtain ⟨o, e, r⟩ := h
      exact ⟨o, hk a o haP (Heap.get?_push_of_some _ e), r⟩
  obtain ⟨oi, St₀, Wk, hpy, hSt⟩ := it
  refine hpy _ ⟨I1.nolimit.push oi, ?_⟩
  have hP2 : (s1.heap.push oi).get? P = some { cls := .none, data := .fields ps } := Heap.get?_push_of_some _ hPs
  have cd : PySem.W.CodeHd (s1.heap.push oi) c P := TB.code.keeps fun b u e => Heap.get?_push_of_some _ (I1.bk b u e)
  have sz : (s1.heap.push oi).objs.size = I + 1 := by rw [Heap.size_push, hI]
  have hcs : cStatics < I ∧ cStatics ≠ P := by
    obtain ⟨_, hns, _⟩ := I1.nolimit
    refine ⟨by rw [← hI]; exact hns.lt, ?_⟩
    rintro e
    obtain ⟨o', es, ep, ho, hd, _⟩ := hns
    rw [e, hPs] at ho
    cases ho
    cases hd
  suffices go : ∀ (code : Value) (h3 : Heap) (tk : Nat) (ps' : Array Value), (∀ b u, b ≠ P → (s1.heap.push oi).get? b = some u → h3.get? b = some u) → Heap.ExtBut P (s1.heap.push oi) h3 → I + 1 ≤ h3.objs.size → h3.get? P = some { cls := .none, data := .fields ps' } → (∃ more, ps' = ps ++ more) → TriplesOk ps'.toList →
      wpAny (model X.prog X.w) X.A (builtinsFor X.env.globals X.env.builtins) _ X.xe { s1 with heap := h3, toks := tk } by
    cases hf : codeAmong gpos ps.toList with
    | some cv => exact wpAny_genexprCode_hit hcode (cd.code hP2 GA.tri) hf (go cv (s1.heap.push oi) s1.toks ps (fun _ _ _ e => e) (Heap.ExtBut.refl _ _) (Nat.le_of_eq sz.symm) hP2 ⟨#[], by simp⟩ GA.tri)
    | none =>
      refine wpAny_genexprCodeX hcode (cd.code hP2 GA.tri) (cd.tab hP2) hf fun c' h' tk hx hge hlt hco' _ htab' _ => ?_
      have htri := hco'
      obtain ⟨_, _, _, _, _, _, _, _, _, _, _, _, _, _, _, _, _, _, _, htr, _⟩ := htri
      exact go _ h' tk _ (fun b u hb e => hx b u hb e) hx (by have h0 : (s1.heap.push oi).objs.size ≤ c' := hge; omega) htab'.2 ⟨_, rfl⟩ htr
  intro code h3 tk ps' hk3 hx3 hsz3 hP3 hmore htri
  obtain ⟨bm, ob, e1, e2, e3, e4, e5, e6, e7, e8⟩ := TB.bm
  have hk1 : ∀ b u, b ≠ P → s1.heap.get? b = some u → h3.get? b = some u := fun b u hb e => hk3 b u hb (Heap.get?_push_of_some _ e)
  refine wpAny_builtinsFor (m := X.mg) (by rw [I1.ok.glob]; exact ((I1.mod.glob.keeps I1.bk).push oi).extBut hx3 TB.gP) e1 e2 (hk1 _ _ e4 (I1.bk _ _ e5)) e6 e7 e8 ?_
  refine ⟨I, [I, a], [I], its.size, (fun i v => its[i]? = some v), St₀, (fun _ => true), (fun i y => y = .bool (pb i)), rfl, Wk, hSt h3 hk3, ?_, (I1.nolimit.push oi).extBut hx3 hcs.2, ?_, ?_, ?_⟩
  · intro b hb
    show b < h3.objs.size
    have hI3 : (I : Nat) < h3.objs.size := by
      have hz : (I : Nat) + 1 ≤ h3.objs.size := hsz3
      omega
    rcases List.mem_cons.mp hb with z | z
    · rw [z]; exact hI3
    · rw [List.mem_singleton.mp z]
      exact Nat.lt_trans haI hI3
  · rw [List.mem_singleton]
    exact Nat.ne_of_lt hcs.1
  · intro href hh
    refine ⟨fun A' E' i v s₂ m₂ hA _ _ hPv hn hm hk => ?_, fun A' E' i v s₂ m₂ hA hd hu hPv _ hn hm hk => ?_⟩
    · simp only [List.forIn_nil]
      exact wpAny_pure ⟨rfl, GxR.keeps_refl _⟩
    · refine GA.el _ _ A' E' i v s₂ m₂ hA hd hu hPv hn hm fun b o hb e => ?_
      have hb3 := hk1 b o hb e
      refine hk b (List.mem_range.mpr (Heap.lt_size hb3)) ?_ o (hh b o hb3)
      rw [List.mem_singleton]
      rintro rfl
      have h9 := Heap.lt_size e
      rw [hI] at h9
      exact Nat.lt_irrefl _ h9
  · intro g h5 tk5 gs hgb hag hsz5 hk5 W5 hat
    simp only [GxR.passing_true, List.length_range] at W5
    refine fin g _ ⟨_, _, _, _, _, W5.in4_1, hat, ?_, fun s' hm => ?_⟩
    · rintro j y sj Qj Ej ⟨i, hij, rfl⟩ hQj
      obtain ⟨hj, ej⟩ := List.getElem?_eq_some_iff.mp hij
      rw [List.getElem_range] at ej
      subst ej
      exact wpAny_truthy_bool hQj
    · obtain ⟨more, rfl⟩ := hmore
      have nw : ∀ b u, s1.heap.get? b = some u → b ∉ h3.objs.size :: [I] := fun b u e hb => by
        have h9 := Heap.lt_size e
        rw [hI] at h9
        rcases List.mem_cons.mp hb with z | z
        · have hz : (I : Nat) + 1 ≤ h3.objs.size := hsz3
          rw [z] at h9
          have h10 : (h3.objs.size : Nat) < I := h9
          omega
        · rw [List.mem_singleton.mp z] at h9
          exact Nat.lt_irrefl _ h9
      have J := GxR.inv_tab (more := more) (h' := s'.heap) (g' := s'.gens) (d' := s'.drawn) (t' := s'.toks) I1 GA.tab (fun b u hb e => hm.heap b u (nw b u e) (hk5 b u (hk1 b u hb e))) (hm.heap P _ (nw P _ hPs) (hk5 P _ hP3)) (AllBare.movedS (I1.bare.push hgb) hm)
      rw [GxR.sh_eta s1 s' hm.os] at J
      exact ⟨ps ++ more, htri, J⟩
end
end Vi
set_option maxRecDepth 100000
set_option maxHeartbeats 2000000
/-! Vi20: all(e for x in it), any(e for x in it). -/
namespace Vi
open PySem PySem.Spec PyProof.Rows L2
def allN (i : Nat) (e : ME) (fr : Fr) : List D → Sto → Out (List Bool)
  | [], st => .ok [] st
  | d :: ds, st => match e (fset fr i (some d)) st with
    | .ok (.bl b) st1 => (allN i e fr ds st1).bind fun bs st2 => .ok (b :: bs) st2
    | _ => .no
def kAllG (any : Bool) (i : Nat) (e : ME) (fr : Fr) (d : D) (st : Sto) : Out D := match asQ st d with
  | some ds => (allN i e fr ds st).bind fun bs st2 => .ok (.bl (if any = true then bs.any id else bs.all id)) st2
  | none => .no
def eAllG (any : Bool) (i : Nat) (f e : ME) (fr : Fr) (st : Sto) : Out D := (f fr st).bind (kAllG any i e fr)
theorem allN_ok {i : Nat} {e : ME} {fr : Fr} (pu : ∀ fr st r st', e fr st = .ok r st' → st' = st) : ∀ {ds : List D} {st st' : Sto} {bs : List Bool}, allN i e fr ds st = .ok bs st' → st' = st ∧ bs.length = ds.length ∧ ∀ (j : Nat) (d : D) (b : Bool), ds[j]? = some d → bs[j]? = some b → e (fset fr i (some d)) st = .ok (.bl b) st
  | [], st, st', bs, h => by
    cases h
    exact ⟨rfl, rfl, fun j d b hd => by simp at hd⟩
  | d :: ds, st, st', bs, h => by
    unfold allN at h
    split at h
    · rename_i b st1 e1
      have := pu _ _ _ _ e1
      subst this
      obtain ⟨cs, st2, e2, h⟩ := bind_ok h
      cases h
      obtain ⟨h1, h2, h3⟩ := allN_ok pu e2
      refine ⟨h1, by simp [h2], fun j d' b' hd hb => ?_⟩
      cases j with
      | zero =>
        have e3 : d = d' := by simpa using hd
        have e4 : b = b' := by simpa using hb
        subst e3 e4
        exact e1
      | succ j => exact h3 j d' b' (by simpa using hd) (by simpa using hb)
    · cases h
theorem allN_ne {i : Nat} {e : ME} {fr : Fr} : ∀ {ds : List D} {st st' : Sto} {c : Nat}, allN i e fr ds st = .ex c st' → False
  | [], _, _, _, h => by cases h
  | d :: ds, st, st', c, h => by
    unfold allN at h
    split at h
    · rename_i b st1 _
      cases h9 : allN i e fr ds st1 with
      | ok y st4 => rw [h9] at h; cases h
      | ex c2 s2 => exact allN_ne h9
      | no => rw [h9] at h; cases h
    · cases h
theorem QV.keepB {s0 s1 : Shared} {P : Addr} {ps : Array Value} (hP : s0.heap.get? P = some { cls := .none, data := .fields ps }) (k : ∀ b o, b ≠ P → s0.heap.get? b = some o → s1.heap.get? b = some o) {d : D} {v : V} (h : QV s0 d v) : QV s1 d v := by
  cases d with
  | tup ds =>
    obtain ⟨a, its, e, ht, hl⟩ := h
    refine ⟨a, its, e, ?_, hl⟩
    obtain ⟨o, h1, h2⟩ := ht
    refine ⟨o, k a o ?_ h1, h2⟩
    rintro rfl
    rw [hP] at h1
    cases h1
    cases h2.1
  | _ => exact h
theorem any_range (bs : List Bool) : (List.range bs.length).any (fun j => bs[j]?.getD false) = bs.any id := by
  rw [Bool.eq_iff_iff, List.any_eq_true, List.any_eq_true]
  constructor
  · rintro ⟨j, hj, h⟩
    rw [List.mem_range] at hj
    rw [List.getElem?_eq_getElem hj] at h
    exact ⟨bs[j], List.getElem_mem hj, h⟩
  · rintro ⟨b, hb, h⟩
    obtain ⟨j, hj, e⟩ := List.getElem_of_mem hb
    exact ⟨j, List.mem_range.mpr hj, by rw [List.getElem?_eq_getElem hj, e]; exact h⟩
theorem all_range (bs : List Bool) : (List.range bs.length).all (fun j => bs[j]?.getD false) = bs.all id := by
  rw [Bool.eq_iff_iff, List.all_eq_true, List.all_eq_true]
  constructor
  · intro h b hb
    obtain ⟨j, hj, e⟩ := List.getElem_of_mem hb
    have := h j (List.mem_range.mpr hj)
    rw [List.getElem?_eq_getElem hj, e] at this
    exact this
  · intro h j hj
    rw [List.mem_range] at hj
    rw [List.getElem?_eq_getElem hj]
    exact h _ (List.getElem_mem hj)
section
variable {X : Cx} {W : WX} {pos : Pos}
/-- what is asked of a generator's own scope -/
structure GenSc (scope : Scope) (x : Str) : Prop where
  co : scope.isCoroutine = false
  cell : ∀ y ∈ scope.names, y.2 ≠ .cell
  dot : scope.names.lookup (".0" : Str) = some NameKind.local
  loc : scope.names.lookup x = some .local
theorem genF {scope : Scope} {x : Str} {i : Nat} {pins : List (Addr × Obj)} {σ : L2.St} {H1 : Hp} {s1 : Shared} (I : Inv X pins σ H1 s1) (ok : BlkOk X.N X.env.scope scope [(x, i)]) : ∀ y ∈ scope.names, y.2 = .free → ∃ c, X.env.cells.lookup y.1 = some c := fun y hy e =>
  I.ok.has y.1 (ok.free y hy e)
theorem gen_el {P : Addr} {ps : Array Value} {scope : Scope} {x : Str} {i : Nat} {elt : Expr} {e : ME} {pins : List (Addr × Obj)} {σ : L2.St} {H1 : Hp} {s1 : Shared} {R : Tr} {st : Sto} {fr : Fr} {k : Nat} {ds : List D} {vs : List V} {its : List Value} {bs : List Bool} (hr : Room k X.A) (I : Inv X pins σ H1 s1) (rel : Rel X.K H1 R st) (rf : RFr X.K H1 R fr σ)
    (rr : RVs X.K H1 R ds vs) (rv : Vals vs its) (hP : H1 P = some (.tbl ps)) (ok : BlkOk X.N X.env.scope scope [(x, i)]) (S : GenSc scope x) (nd : X.N.Nodup) (hx : X.N[i]? = some x) (he : IQ X.prog X.w X.K X.mg X.base X.N scope 3 180 elt e) (hbs : bs.length = ds.length)
    (hall : ∀ (j : Nat) (d : D) (b : Bool), ds[j]? = some d → bs[j]? = some b → e (fset fr i (some d)) st = .ok (.bl b) st) :
    ∀ (C : Addr) (code : Value) (A' : Around) (E' : Value → Shared → Prop) (j : Nat) (v : Value) (s₂ : Shared) (m₂ : Str → Option Value), A'.handled = none → A'.depth ≤ X.A.depth + 1 → A'.units ≤ X.A.units + 8 → its.toArray[j]? = some v → s₂.heap.Ns C m₂ → m₂ x = some v →
      (∀ b o, b ≠ P → s1.heap.get? b = some o → s₂.heap.get? b = some o) → wpAny (model X.prog X.w) A' (eval elt (gEnv X scope C code)) (fun y s₃ => y = .bool (bs[j]?.getD false) ∧ Keeps s₂ s₃) E' s₂ := by
  intro C code A' E' j v s₂ m₂ hA hd hu hv hn hm hk
  have hPs : s1.heap.get? P = some { cls := .none, data := .fields ps } := I.hok P _ hP
  have hv2 : its[j]? = some v := by simpa using hv
  have hj : j < its.length := (List.getElem?_eq_some_iff.mp hv2).1
  have hjv : j < vs.length := by rw [rv.length]; exact hj
  have hjd : j < ds.length := by rw [← rr.length]; exact hjv
  obtain ⟨vj, e1, r1⟩ := rr.get (i := j) (d := ds[j]) (List.getElem?_eq_getElem hjd)
  obtain ⟨uj, e2, r2⟩ := rv.get e1
  rw [hv2] at e2
  cases e2
  have eb : bs[j]? = some bs[j] := List.getElem?_eq_getElem (by omega)
  have ev := hall j ds[j] bs[j] (List.getElem?_eq_getElem hjd) eb
  have room : RoomQ 3 180 A' := ⟨hA, by have := hr.dp; omega, by have := hr.un; omega⟩
  have hPn : X.base.get? P = none := by
    cases hb : X.base.get? P with
    | none => rfl
    | some o =>
      have := (I.bs P o hb).2
      rw [hP] at this
      cases this
  have q : QEnv X.K X.mg X.base (gEnv X scope C code) s₂ := ⟨I.mod, ok.kind, I.ok.glob, rfl, fun b o hb => hk b o (by rintro rfl; rw [hPn] at hb; cases hb) (I.bk b o hb)⟩
  have qfr : QFr X.prog X.w X.N A' (gEnv X scope C code) s₂ (fset fr i (some ds[j])) := by
    intro i' y d hy hfd hqd hvis hdb hcd
    have hvis : scope.names.lookup y = some .local ∨ scope.names.lookup y = some .free := hvis
    by_cases hi : i' = i
    · subst hi
      have exy : x = y := by rw [hx] at hy; exact Option.some.inj hy
      subst exy
      have ed : d = ds[j] := by
        rw [fset_eq, fget_eq] at hfd
        by_cases hl : i' < fr.length
        · rw [List.getElem?_set_self hl] at hfd
          have : ds[j] = d := by simpa using hfd
          exact this.symm
        · rw [List.getElem?_eq_none (by rw [List.length_set]; omega)] at hfd
          cases hfd
      subst ed
      exact ⟨vj, (QV.of I r1 hqd).keepB hPs hk, fun pos => q_loc q S.loc hn hm r2 hdb⟩
    · have hfd2 : fget fr i' = some d := by
        rw [fset_eq, fget_eq, List.getElem?_set_ne (Ne.symm hi)] at hfd
        rw [fget_eq]
        exact hfd
      obtain ⟨v', hs, r'⟩ := rf.slot i' d hfd2
      have yx : y ≠ x := by
        rintro rfl
        apply hi
        have l1 := List.getElem?_eq_some_iff.mp hy
        have l2 := List.getElem?_eq_some_iff.mp hx
        exact (List.getElem_inj nd).mp (l1.2.trans l2.2.symm)
      rcases hvis with hvis | hvis
      · exfalso
        rcases ok.own (y, .local) (PySem.mem_of_lookup hvis) (.inl rfl) with z | z
        · have : y = x := by simpa using z
          exact yx this
        · exact z (List.mem_of_getElem? hy)
      · have hmem := PySem.mem_of_lookup hvis
        have hsc := ok.free (y, .free) hmem rfl
        obtain ⟨m, hns, hlk⟩ := I.loc
        have hV : Vis X.env.scope y := by
          rcases hsc with z | z
          · exact .inr (.inl z)
          · exact .inr (.inr z)
        obtain ⟨u, ru, look⟩ := hlk i' y v' hy hs hV
        rcases look with ⟨hkind, _⟩ | ⟨_, cc, hcl, hcell⟩
        · exfalso
          have hkind : X.env.scope.names.lookup y = some .local := hkind
          rcases hsc with z | z
          · rw [hkind] at z; cases z
          · rw [hkind] at z; cases z
        · obtain ⟨c', hc'⟩ := mem_lookup (cloFrom_has (cells := X.env.cells) (names := scope.names) (acc := []) hmem)
          have hc2 : c' = cc := by
            rcases cloFrom_mem (PySem.mem_of_lookup hc') with z | ⟨_, z⟩
            · simp at z
            · rw [z, hcl]; rfl
          subst hc2
          refine ⟨v', (QV.of I r' hqd).keepB hPs hk, fun pos => q_free q hvis hc' ?_ ru hdb hcd⟩
          obtain ⟨o, h1, h2⟩ := hcell
          refine ⟨o, hk _ o ?_ h1, h2⟩
          rintro rfl
          rw [hPs] at h1
          cases h1
          cases h2
  obtain ⟨vr, qvr, qe⟩ := he.q A' (gEnv X scope C code) s₂ _ st room q rfl qfr _ ev
  cases qvr
  refine thn (qe s₂ E' (Kp.rfl' s₂)) fun y s3 ⟨ry, kp⟩ => ?_
  cases ry
  rw [eb]
  exact ⟨rfl, kp.ex⟩
theorem e_allG {any : Bool} {nm : Str} {id : String} {scope : Scope} {x : Str} {i k : Nat} {c P : Addr} {elt iter : Expr} {f e : ME} {px p gpos : Pos} (hn : (any, nm, id) = (true, ("any" : Str), "any") ∨ (any, nm, id) = (false, ("all" : Str), "all")) (cx : Ctx X W) (hr : Room k X.A) (TB : LamX.TabB X.base X.mg c P) (hcode : X.env.code = .ref c) (hIT : IsTab X.K P)
    (hm : X.mg nm = none) (hi : IE X W iter f) (ok : BlkOk X.N X.env.scope scope [(x, i)]) (S : GenSc scope x) (he : IQ X.prog X.w X.K X.mg X.base X.N scope 3 180 elt e) (hx : X.N[i]? = some x := by rfl) (hg : Gl X nm := by rfl) (hs : ∀ v, genFold iter X.env v = pure v := by intro _; rfl)
    (hst : starEach [.GeneratorExp elt [⟨.Name x px, iter, [], 0⟩] scope gpos] X.env = (false, eval (.GeneratorExp elt [⟨.Name x px, iter, [], 0⟩] scope gpos) X.env) :: starEach [] X.env := by rfl) :
    IE X W (.Call (.Name nm p) [.GeneratorExp elt [⟨.Name x px, iter, [], 0⟩] scope gpos] [] pos) (eAllG any i f e) := by
  have hbt : bootBuiltins nm = some (.builtin id) := by
    rcases hn with hn | hn
    · cases hn; exact boot_any
    · cases hn; decide +kernel
  have hne : nm ≠ "__name__" := by
    rcases hn with hn | hn
    · cases hn; decide
    · cases hn; decide
  have hnd : (nm == ("__debug__" : Str)) = false := by
    rcases hn with hn | hn
    · cases hn; decide
    · cases hn; decide
  refine ⟨⟨fun pins s σ H Q I h => ?_⟩⟩
  obtain ⟨R, st, fr, rel, rf, okQ⟩ := h
  refine wpAny_Call_Name_kw (ld_blt I hg hm hbt ?_ hne hnd)
  refine PyProof.Rows.callWith_builtin1 ?_ hst rfl
  rw [hst]
  show wpAny _ _ (spliced ((false, eval (.GeneratorExp elt [⟨.Name x px, iter, [], 0⟩] scope gpos) X.env) :: backTo pos (starEach [] X.env))) _ _ s
  refine Calls.spliced_cons (gen_seq (pins := pins) (σ := σ) hr TB hcode ⟨ok.kind, S.co, S.cell, S.dot, S.loc, genF I ok⟩ hs ?_)
  have hrun := hi.pe.run pins s σ H (fun v H1 => ∃ R2 st2 d2, Ext X.K H R H1 R2 ∧ Rel X.K H1 R2 st2 ∧ RV X.K H1 R2 d2 v ∧ okG W σ H1 R2 (RV X.K) X.K Q (kAllG any i e fr d2 st2)) I
    ⟨R, st, fr, rel, rf, okG.imp (okG.bind okQ) fun v H1 R1 d st1 e1 rel1 r1 _ q => q⟩
  refine thn hrun fun xv s1 ⟨v, H1, I1, r1, R2, st2, d2, e2, rel2, r2, ok2⟩ => ?_
  unfold kAllG at ok2
  split at ok2
  · rename_i ds hds
    obtain ⟨a, vs, rfl, hsq, rr⟩ := asQ_ok rel2 r2 hds
    cases hal : allN i e fr ds st2 with
    | ex c' s' => exact (allN_ne hal).elim
    | no => rw [hal] at ok2; exact ok2.elim
    | ok bs st3 =>
      rw [hal, Out.bind_ok] at ok2
      obtain ⟨rfl, hlen, hall⟩ := allN_ok he.pu hal
      obtain ⟨⟨ps, hP, ht⟩, hfree⟩ := rel2.tb P hIT
      obtain rfl : xv = Value.ref a := r1
      have items : ∃ its : List Value, Vals vs its ∧ (s1.heap.IsTuple a its.toArray ∨ s1.heap.IsList a its.toArray) := by
        rcases hsq with hsq | hsq
        · obtain ⟨its, rv, pl, _⟩ := I1.list hsq
          exact ⟨its, rv, .inr pl.isList⟩
        · obtain ⟨its, rv, pt, _⟩ := I1.tuple hsq
          exact ⟨its, rv, .inl pt⟩
      obtain ⟨its, rv, hseq⟩ := items
      have hsz : its.toArray.size = bs.length := by rw [List.size_toArray, ← rv.length, rr.length, hlen]
      refine ⟨H1, ps, a, its.toArray, fun j => bs[j]?.getD false, rfl, ⟨I1, hP, ht, hseq, gen_el hr I1 rel2 (rf.mono e2) rr rv hP ok S cx.nd hx he hlen hall⟩, fun g s5 hG => ?_⟩
      obtain ⟨fp, wr, G, F, St, Wk, hst0, htr, hI⟩ := hG
      refine Calls.spliced_nil ?_
      have fin : ∀ s' (b : Bool), b = (if any = true then bs.any _root_.id else bs.all _root_.id) → (∃ ps', TriplesOk ps'.toList ∧ Inv X pins σ (upd H1 P (.tbl ps')) s') → EP X pins σ Q (.bool b) s' := by
        rintro s' b rfl ⟨ps', ht', J⟩
        exact ⟨.bl _, _, J, rfl, ok2 _ R2 _ (Ext.tab hP ht') (rel2.tab hfree hP ht') rfl⟩
      rcases hn with hn | hn
      · cases hn
        refine call_any_walkS (Wk.self 0 _ _ _ hst0 ⟨g, fp, wr, G, _, F, St, _, rfl, Wk, hst0, htr, fun s' hmv => fin s' _ ?_ (hI s' hmv)⟩)
        rw [hsz, any_range, if_pos rfl]
      · cases hn
        refine call_all_walkS (Wk.self 0 _ _ _ hst0 ⟨g, fp, wr, G, _, F, St, _, rfl, Wk, hst0, htr, fun s' hmv => fin s' _ ?_ (hI s' hmv)⟩)
        rw [hsz, all_range, if_neg Bool.false_ne_true]
  · exact ok2.elim
end
end Vi
set_option maxRecDepth 100000
set_option maxHeartbeats 2000000
/-! Vi21: a list comprehension over a list while an error is handled. -/
namespace Vi
open PySem PySem.Spec PyProof.Rows L2
section
variable {prog : Program} {w : World} {A : Around} {E : Value → Shared → Prop} {s : Shared}
theorem listEnd_hot {it l x1 : Addr} {i : Nat} {its : Array Value} {Q : Option Value → Shared → Prop} (hot : HotX.HotAt A x1 s.heap) (hx1 : x1 ≠ it) (hi : s.heap.IsListIter it l i) (hl : s.heap.IsList l its) (hx : its[i]? = none)
    (hQ : ∀ h', Heap.ExtBut it s.heap h' → Q none { s with heap := h' }) : wpAny (model prog w) A (pyNext (.ref it)) Q E s := by
  obtain ⟨oi, hoi, hci, hdi⟩ := id hi
  obtain ⟨ol, hol, _, nl, hdl⟩ := hl
  obtain ⟨hh, o1, vs1, h1, d1, c1⟩ := hot
  unfold pyNext
  refine wpAny_bind (wpAny_attempt (wpAny_callSpecial?_slot (name := Str.ofString "__next__") hi.typeIs slot_listiter_next (wpAny_call_entry slot_listiter_next hi.typeIs entry_listiter_next ?_ (args_listiter_next _))))
  show wpAny _ _ (field (.ref it) 0 >>= _) _ _ s
  refine wpAny_bind (wpAny_field hoi hdi (x := .ref l) rfl ?_)
  show wpAny _ _ (if (Value.ref l == Value.none) = true then _ else _) _ _ s
  rw [if_neg (by intro z; cases z)]
  show wpAny _ _ (field (.ref it) 1 >>= _) _ _ s
  refine wpAny_bind (wpAny_field hoi hdi (x := .int i 0) rfl ?_)
  show wpAny _ _ (seqItems? (.ref l) >>= _) _ _ s
  refine wpAny_bind (wpAny_seqItems hol hdl ?_)
  simp only [Int.toNat_natCast, hx]
  refine wpAny_bind (wpAny_rule (wpAny_bind (wpAny_setField hoi hdi (by simp) ?_)))
  have old : ∀ (f : Obj → Obj) (b : Addr) (o : Obj), b ≠ it → s.heap.get? b = some o → (s.heap.update it f).get? b = some o := fun f b o hb e => by rw [Heap.get?_update_other _ _ (Ne.symm hb)]; exact e
  show wpAny _ _ (newExc (.type "StopIteration") [] >>= _) _ _ _
  refine wpAny_bind ?_
  simp only [newExc, newTuple]
  refine wpAny_bind (wpAny_newObj_type ?_ (by size_fits))
  refine wpAny_bind (m := firstArgMember _ _) (wpAny_of_eq (a := Value.none) (by first | rfl | (simp only [firstArgMember]; rfl)) ?_)
  refine wpAny_newObj_type ?_ (by size_fits)
  have q1 := Heap.get?_push_of_some ({ cls := .type "tuple", data := .seq ([] : List Value).toArray } : Obj) (old (Obj.mapFields (·.setIfInBounds 0 .none)) x1 o1 hx1 h1)
  refine HotX.raiseNew_hot ⟨hh, o1, vs1, Heap.get?_push_of_some _ q1, d1, c1⟩ (Nat.ne_of_lt (Heap.lt_size q1)) (Heap.get?_push_size _ rfl) rfl (by first | (simp; done) | (simp; omega) | (simp only [Array.size_append]; simp; omega)) ?_
  refine wpAny_bind (wpAny_isInstance (T := "StopIteration") (b := true) ⟨_, Heap.get?_update_self _ (Heap.get?_push_size _ rfl) rfl, rfl⟩ isSubtype_stop ?_)
  refine wpAny_pure (hQ _ fun b o hb e => ?_)
  have q2 := Heap.get?_push_of_some ({ cls := .type "tuple", data := .seq ([] : List Value).toArray } : Obj) (old (Obj.mapFields (·.setIfInBounds 0 .none)) b o hb e)
  rw [Heap.get?_update_other _ _ (Nat.ne_of_gt (Heap.lt_size q2))]
  exact Heap.get?_push_of_some _ q2
end
section
variable {X : Cx} {elt tg e0 : Expr} {ifs : List Expr} {scope : Scope} {own : List (Str × Nat)} {pos : Pos} {te0 te : TE} {g : TG} {tt : TT}
theorem pe_lcH (hot : L2H.HotC X) (hN : X.N.Nodup) (h0 : PE X e0 te0) (ok : BlkOk X.N X.env.scope scope own)
    (hg : ∀ (s : Shared) (H : Hp) (C : Addr) (cl : List (Str × Addr)) (fp : List Addr), PG (X.blk s H scope (compEnvC scope cl C X.env) fp) tg g) (ht : ∀ (s : Shared) (H : Hp) (C : Addr) (cl : List (Str × Addr)) (fp : List Addr), PTs (X.blk s H scope (compEnvC scope cl C X.env) fp) ifs tt)
    (he : ∀ (s : Shared) (H : Hp) (C : Addr) (cl : List (Str × Addr)) (fp : List Addr), PE (X.blk s H scope (compEnvC scope cl C X.env) fp) elt te) (hs : ∀ x, foldedSetIterable e0 X.env x = pure x := by intro _; rfl) :
    PE X (.ListComp elt [⟨tg, e0, ifs, 0⟩] scope pos) (tLc (iList X.K te0) g tt te (own.map (·.2))) := by
  refine ⟨fun pins s σ H Q I h => ?_⟩
  rw [eval_ListComp]
  have cap : ∀ y ∈ scope.names, y.2 = .free → ∃ c, X.env.cells.lookup y.1 = some c := fun y hy e => I.ok.has _ (ok.free y hy e)
  refine wpAny_comprehension_free (use := none) rfl hs (closure_ok cap) ok.kind (fun y hy e => by rw [ok.uniq y hy, e]) (thn (h0.run pins s σ H _ I h) fun v s1 ⟨xv, H1, I1, r1, a, hv, ⟨xs, hq⟩, q1⟩ => ?_)
  subst hv
  obtain rfl : v = Value.ref a := r1
  obtain ⟨its, rv, pl, hz⟩ := I1.list hq
  refine wpAny_pyIter_list pl.isList ?_
  generalize hit : s1.heap.objs.size = it
  have hiN : H1 it = none := I1.hok.fresh (Nat.le_of_eq hit)
  generalize hs2 : ({ s1 with heap := s1.heap.push { cls := .type "list_iterator", data := .fields #[.ref a, .int 0 0] } } : Shared) = s2
  have h2 : s2.heap = s1.heap.push { cls := .type "list_iterator", data := .fields #[.ref a, .int 0 0] } := by rw [← hs2]
  have I2 : Inv X pins σ H1 s2 := by rw [← hs2]; exact I1.kept (t' := s1.toks) fun b o e => Heap.get?_push_of_some _ e
  have iter2 : s2.heap.IsListIter it a 0 := by rw [h2, ← hit]; exact ⟨_, Heap.get?_push_size _ rfl, rfl, rfl⟩
  have fpI : FpOk X pins H1 it := I1.fpOk (Nat.le_of_eq hit) hiN
  refine wpAny_newObj_type (newEnv_comp ?_) (by show 0 ≤ sizeLine; decide)
  generalize hD : s2.heap.objs.size = D
  have hDn : H1 D = none := I2.hok.fresh (Nat.le_of_eq hD)
  have hiD : it < D := by rw [← hD, h2, Heap.size_push, hit]; exact Nat.lt_succ_self _
  obtain ⟨W, ⟨m0, w0⟩, turn⟩ := q1 D hDn
  generalize hs3 : ({ s2 with heap := s2.heap.push { cls := .type "list", data := .seq ([] : List Value).toArray } } : Shared) = s3
  have h3 : s3.heap = s2.heap.push { cls := .type "list", data := .seq ([] : List Value).toArray } := by rw [← hs3]
  generalize hH3 : upd H1 D (.lst []) = H3 at w0
  have I3 : Inv X pins σ H3 s3 := by
    rw [← hs3, ← hH3]
    refine I2.laid (t' := s2.toks) (fun b o e => Heap.get?_push_of_some _ e) (Nat.le_of_eq hD) ⟨Nat.zero_le _, [], 0, .nil, ?_⟩
    rw [← hD]
    exact Heap.get?_push_size _ rfl
  have fp3 : ∀ b ∈ [it], FpOk X pins H3 b ∧ b < s3.heap.objs.size := fun b hb => by
    rw [List.mem_singleton.mp hb]
    refine ⟨⟨?_, fpI.2⟩, ?_⟩
    · rw [← hH3, upd_ne (Nat.ne_of_lt hiD)]; exact hiN
    · rw [h3, Heap.size_push, hD]; exact Nat.lt_succ_of_lt hiD
  have iter3 : s3.heap.IsListIter it a 0 := iter2.at fun o e => by rw [h3]; exact Heap.get?_push_of_some _ e
  have I4 := block_start I3 ok hN fp3
  have pg := hg s3 H3 s3.heap.objs.size (cellsFrom (s3.heap.objs.size + 1) scope.names (cloFrom X.env.cells scope.names [])) [it]
  have pt := ht s3 H3 s3.heap.objs.size (cellsFrom (s3.heap.objs.size + 1) scope.names (cloFrom X.env.cells scope.names [])) [it]
  have pe := he s3 H3 s3.heap.objs.size (cellsFrom (s3.heap.objs.size + 1) scope.names (cloFrom X.env.cells scope.names [])) [it]
  show codeAny _ _ (.compStart (.ListComp elt [⟨tg, e0, ifs, 0⟩] scope pos) 0 (.ref it) (.ref D) (compEnvC scope (cellsFrom (s3.heap.objs.size + 1) scope.names (cloFrom X.env.cells scope.names [])) s3.heap.objs.size X.env)) (compPost (model X.prog X.w) X.A X.xe none (EP X pins σ Q) (.ref D) s3.heap.objs.size) { s3 with heap := pushCells (s3.heap.push { cls := .type "dict", data := .dict #[] }) scope.names }
  generalize hce : compEnvC scope (cellsFrom (s3.heap.objs.size + 1) scope.names (cloFrom X.env.cells scope.names [])) s3.heap.objs.size X.env = ce at I4 pg pt pe ⊢
  have cL : ce.locals = s3.heap.objs.size := by subst hce; rfl
  generalize hs4 : ({ s3 with heap := pushCells (s3.heap.push { cls := .type "dict", data := .dict #[] }) scope.names } : Shared) = s4 at I4 ⊢
  have iter4 : s4.heap.IsListIter it a 0 := iter3.at fun o e => by rw [← hs4]; exact pushCells_keeps _ _ _ _ (Heap.get?_push_of_some _ e)
  -- the iterator's place in the block
  have place : ∀ {σ' : L2.St} {H' : Hp} {s' : Shared}, Inv (X.blk s3 H3 scope ce [it]) [] σ' H' s' → H' it = none → ∀ b ∈ [it], FpOk (X.blk s3 H3 scope ce [it]) [] H' b := fun {σ' H' s'} I' hn b hb => by
    rw [List.mem_singleton.mp hb]
    have m1 : it ∈ (X.blk s3 H3 scope ce [it]).ex := List.mem_singleton.mpr rfl
    exact ⟨hn, (I'.ok.exf it m1).1, I'.ok.exfs it m1, .inl m1, fun x c e => (I'.ok.exf it m1).2 x c e, fun p hp => by cases hp⟩
  -- the handled error stays
  have still : ∀ {σ' : L2.St} {H' : Hp} {s' : Shared}, Inv (X.blk s3 H3 scope ce [it]) [] σ' H' s' → ∃ x1, HotX.HotAt X.A x1 s'.heap ∧ x1 ≠ it := fun {σ' H' s'} I' => by
    obtain ⟨p, ⟨hh, vs, e1, c1⟩, hp⟩ := hot
    obtain ⟨g1, g2, g3, g4, _⟩ := I3.pin p (List.mem_append_left _ hp)
    have gi : p.1 ≠ it := fpI.2.2.2.2.2 p (List.mem_append_left _ hp)
    have nfs : p.1 ∉ (X.blk s3 H3 scope ce [it]).fs := fun hm => (List.mem_cons.mp (I3.stkSub p.1 hm)).elim g3 g4
    exact ⟨p.1, ⟨hh, p.2, vs, I'.base.keep p.1 p.2 g1 g2 nfs (fun z => gi (List.mem_singleton.mp z)), e1, c1⟩, gi⟩
  have loop : codeAny (model X.prog X.w) X.A (.compLoop (.ListComp elt [⟨tg, e0, ifs, 0⟩] scope pos) 0 (.ref it) (.ref D) ce) (compPost (model X.prog X.w) X.A X.xe none (EP X pins σ Q) (.ref D) s3.heap.objs.size) s4 := by
    refine compLoop_any (fun n s' => ∃ i H', Inv (X.blk s3 H3 scope ce [it]) [] (L2.wipe σ (own.map (·.2))) H' s' ∧ s'.heap.IsListIter it a i ∧ H' it = none ∧ W i n H') ?_ m0 ⟨0, H3, I4, iter4, (fp3 it (List.mem_singleton.mpr rfl)).1.1, w0⟩
    rintro n s5 ⟨i, H5, I5, it5, n5, w5⟩
    obtain ⟨f0, f1, f2, f3, f4, f5⟩ := place I5 n5 it (List.mem_singleton.mpr rfl)
    rcases turn i n H5 w5 with ⟨⟨ys, hys, hle⟩, qq⟩ | ⟨⟨ys, y, hys, hy⟩, Nx, hNx, step⟩
    · obtain ⟨its5, rv5, pl5, _⟩ := I5.list hys
      obtain ⟨x1, ha, hx1⟩ := still I5
      have hl5 := rv5.length
      refine listEnd_hot ha hx1 it5 pl5.isList (by simp; omega) fun h' eb => ?_
      have I6 : Inv (X.blk s3 H3 scope ce [it]) [] (L2.wipe σ (own.map (·.2))) H5 { s5 with heap := h' } := I5.turned (t' := s5.toks) (fun b o hb e => eb b o hb e) f0 f1 f3 f4 f5
      have I7 : Inv X pins σ H5 { s5 with heap := h' } := I3.call' (ch := [it]) I6.os I6.base I6.hok I6.bare fun b hb => by
        rw [List.mem_singleton.mp hb]
        exact ⟨fpI.2.2.2.1, fpI.2.1, fpI.2.2.2.2.1, fpI.2.2.2.2.2⟩
      have nC : H5 s3.heap.objs.size = none := by rw [← cL]; exact I6.free
      obtain ⟨m, hn, _⟩ := I6.loc
      have hn : Heap.Ns h' s3.heap.objs.size m := by rw [← cL]; exact hn
      obtain ⟨c0, c1, c2, c3, c4, c5⟩ := I3.fpOk (Nat.le_refl _) nC
      exact ⟨m, hn, fun h'' sb => ⟨.ref D, H5, I7.turned (t' := s5.toks) (fun b o hb e => (sb.2 b hb).trans e) c0 c1 c3 c4 c5, rfl, qq⟩⟩
    · obtain ⟨its5, rv5, pl5, _⟩ := I5.list hys
      obtain ⟨u, hu, ru⟩ := rv5.get hy
      refine wpAny_pyNext_list_item it5 pl5.isList (x := u) (by simpa using hu) fun h' st' sb => ?_
      have I6 : Inv (X.blk s3 H3 scope ce [it]) [] (L2.wipe σ (own.map (·.2))) H5 { s5 with heap := h' } := I5.turned (t' := s5.toks) (fun b o hb e => (sb.2 b hb).trans e) f0 f1 f3 f4 f5
      obtain ⟨oi, ei, ci, di⟩ := id st'
      refine go_of (s := { s5 with heap := h' }) ei ci di (by decide) ?_
      have I7 := I6.pinned (place I6 n5) (fun b hb => by rw [List.mem_singleton.mp hb]; exact ⟨oi, ei, fun v z => by rw [di] at z; cases z⟩)
      refine thnF (pg.run _ { s5 with heap := h' } _ H5 y u _ I7 ru (step y H5 ⟨rfl, fun zs hzs => by rw [I6.list_inj hzs hys]; exact hy⟩)) fun _ s8 ⟨σ8, H8, I8, hw8, q8⟩ => ?_
      refine thnF (pt.run _ s8 σ8 H8 _ I8 q8) fun b s9 ⟨H9, I9, q9⟩ => ?_
      have next : ∀ {s' : Shared} {H' : Hp}, Inv (X.blk s3 H3 scope ce [it]) ([] ++ pinsAt [it] h') σ8 H' s' → Nx H' → ∃ m, m < n ∧ ∃ i H', Inv (X.blk s3 H3 scope ce [it]) [] (L2.wipe σ (own.map (·.2))) H' s' ∧ s'.heap.IsListIter it a i ∧ H' it = none ∧ W i m H' := fun {s' H'} I' nx => by
        obtain ⟨m', hm, w'⟩ := hNx H' nx
        have pin := I'.pin (it, oi) (List.mem_append_right _ (List.mem_append_right _ (mem_pinsAt (List.mem_singleton.mpr rfl) ei)))
        refine ⟨m', hm, i + 1, H', (I'.unpinned (pins := [])).weak (by rw [← hw8, L2.wipe_length]) (fun j v e => ?_), st'.at fun o e => ?_, pin.2.1, w'⟩
        · rw [← hw8] at e
          exact (L2.wipe_some e).1
        · have e' : h'.get? it = some o := e
          rw [ei] at e'
          cases e'
          exact pin.1
      cases b with
      | false =>
        simp only [Bool.false_eq_true, if_false] at q9 ⊢
        exact next I9 q9
      | true =>
        simp only [if_true] at q9 ⊢
        refine thnF (pe.run _ s9 σ8 H9 _ I9 q9) fun z s10 ⟨yv, H10, I10, r10, acc, hD10, hz10, nx⟩ => ?_
        exact app_ok (X := X.blk s3 H3 scope ce [it]) I10 hD10 hz10 r10 fun s11 I11 => next I11 nx
  exact codeAny_compStart_list loop (wpAny_pyIter_listiter iter4 loop)
end
end Vi
set_option maxRecDepth 100000
set_option maxHeartbeats 2000000
/-! Vi22: `except X as e: return word(e)`, the word told by isinstance of e. -/
namespace Vi
open PySem PySem.Spec PyProof.Rows L2
/-! ### isinstance of the error -/
def bIsE (a c : Addr) (b : Bool) (ds : List D) (st : Sto) : Out D := match ds with
  | [.ref x, .ref y] => if x = a ∧ y = c then .ok (.bl b) st else .no
  | _ => .no
theorem ne_bIsE {a c : Addr} {b : Bool} : NoEx1 (bIsE a c b) := fun ds st z st' => by
  unfold bIsE
  split
  · split <;> exact fun h => nomatch h
  · exact fun h => nomatch h
section
variable {X : Cx} {W : WX} {pos : Pos}
theorem c_isE {a C c : Addr} {oe : Obj} {b : Bool} (hp : (a, oe) ∈ X.pn) (ec : L2.ExcC X.K C) (hz : Zc (.ref C) none oe) (hf : ∃ vs, oe.data = .fields vs) (hk : PySem.W.kitOne X.K (.ref C) (.ref c) = some b) : CallI X (.builtin "isinstance") (bIsE a c b) := by
  refine ⟨fun pins s σ H xs us Q I r q => ?_⟩
  obtain ⟨R, st, ds, rel, rr, ok⟩ := q
  unfold bIsE at ok
  split at ok
  · rename_i x y
    split at ok
    · rename_i hxy
      obtain ⟨rfl, rfl⟩ := hxy
      obtain ⟨v1, r1, rfl, h1, v2, r2, rfl, h2, h3⟩ := rr
      obtain rfl : r2 = [] := h3
      obtain rfl : v1 = V.ref x := h1
      obtain rfl : v2 = V.ref y := h2
      cases r with
      | cons rx rr =>
        cases rr with
        | cons ry rr =>
          cases rr
          cases rx
          cases ry
          have here := (I.pin (x, oe) (List.mem_append_left _ hp)).1
          obtain ⟨vs, hv⟩ := hf
          have inst : PySem.W.InstAt s.heap x oe C none := by
            obtain ⟨oc, od, oda, osl⟩ := oe
            obtain ⟨z1, z2⟩ := hz
            dsimp only at z1 z2 hv
            subst z1 z2 hv
            exact ⟨here, rfl, rfl, trivial⟩
          exact PySem.W.kia_one (PySem.W.handS_kitx_exc ec.hg ec.hk ec.hs ec.hd ec.ha ec.hn ec.ht ec.hm) I.kIn inst hk (fun z => nomatch z) fun tk => ⟨.bl b, H, I.kept (t' := tk) fun _ _ z => z, rfl, ok H R _ Ext.refl rel rfl⟩
    · exact ok.elim
  · exact ok.elim

/-! ### list.index of a bool in a list of bools -/
def asBs : List D → Option (List Bool)
  | [] => some []
  | .bl b :: r => (asBs r).map (b :: ·)
  | _ => none
theorem asBs_eq : ∀ {ds : List D} {bs : List Bool}, asBs ds = some bs → ds = bs.map .bl
  | [], bs, h => by cases h; rfl
  | .bl b :: r, bs, h => by
    unfold asBs at h
    cases e : asBs r with
    | none => rw [e] at h; cases h
    | some cs =>
      rw [e] at h
      cases h
      rw [asBs_eq e]
      rfl
  | .non :: _, _, h => nomatch h
  | .int _ :: _, _, h => nomatch h
  | .str _ :: _, _, h => nomatch h
  | .ref _ :: _, _, h => nomatch h
  | .ty _ :: _, _, h => nomatch h
  | .loc _ :: _, _, h => nomatch h
  | .tup _ :: _, _, h => nomatch h
  | .rol _ :: _, _, h => nomatch h
  | .cnt :: _, _, h => nomatch h
  | .fl _ :: _, _, h => nomatch h
  | .obj _ _ _ :: _, _, h => nomatch h
theorem rvs_bls {K : PySem.W.Frag} {H : Hp} {R : Tr} : ∀ {bs : List Bool} {vs : List V}, RVs K H R (bs.map .bl) vs → vs = bs.map .bl
  | [], _, h => h
  | _ :: _, _, ⟨_, _, rfl, h1, h2⟩ => by rw [rvs_bls h2, show _ = V.bl _ from h1]; rfl
def mIndexB (x : D) (xs : List D) (st : Sto) : Out D := match asL st x, xs with
  | some ds, [.bl b] => match asBs ds with
    | some bs => match bs.findIdx? (fun z => z == b) with
      | some j => .ok (.int (j : Nat)) st
      | none => .no
    | none => .no
  | _, _ => .no
theorem ne_mIndexB : NoExM mIndexB := fun x xs st c st' => by
  unfold mIndexB
  split
  · split
    · split <;> exact fun h => nomatch h
    · exact fun h => nomatch h
  · exact fun h => nomatch h
theorem m_indexB : MtI X "list.index" mIndexB := by
  refine ⟨MtR.imp mt_index fun x xs H Q q => ?_⟩
  obtain ⟨R, st, d, ds, rel, r, rr, ok⟩ := q
  unfold mIndexB at ok
  split at ok
  · rename_i ds' b hd
    split at ok
    · rename_i bs hbs
      split at ok
      · rename_i j hj
        obtain ⟨v, rfl, h1⟩ := rvs1 rr
        obtain rfl : v = V.bl b := h1
        obtain ⟨a, vs, rfl, hs, hv⟩ := asL_ok rel r hd
        rw [asBs_eq hbs] at hv
        have ev := rvs_bls hv
        subst ev
        obtain ⟨hl, h2, h3⟩ := List.findIdx?_eq_some_iff_getElem.mp hj
        refine ⟨a, _, .bl b, j, .bl bs[j], rfl, rfl, hs, rfl, ?_, ?_, ?_, fun m z hm hz => ?_, ok H R _ Ext.refl rel rfl⟩
        · simp [flatV]
        · rw [List.getElem?_map, List.getElem?_eq_getElem hl]
          rfl
        · exact h2
        · rw [List.getElem?_map, List.getElem?_eq_getElem (Nat.lt_trans hm hl)] at hz
          cases hz
          have := h3 m hm
          show (bs[m] == b) = false
          cases e : (bs[m] == b) with
          | false => rfl
          | true => exact absurd e this
      · exact ok.elim
    · exact ok.elim
  · exact ok.elim
theorem e_indexB {o e : Expr} {apos cpos : Pos} {f : ME} {g : MA} (ho : IE X W o f) (ha : IA X W [e] g)
    (hbase : attributeBase o "index" X.env (eval o X.env) = eval o X.env := by rfl)
    (hfew : ((backTo cpos (starEach [e] X.env)).all (fun x => !x.1) && (backToKw cpos (keywordEach [] X.env)).all (fun x => x.1.isSome)
      && decide ([e].length + ([] : List Keyword).length + (if ([] : List Keyword).isEmpty then 0 else 1) < 30)) = true := by rfl)
    (hline : (apos.endLine == cpos.line) = true := by rfl) (hs : starEach [e] X.env = (false, eval e X.env) :: starEach [] X.env := by rfl) :
    IE X W (.Call (.Attribute o "index" apos) [e] [] cpos) (eMt mIndexB f g) := e_mt PySem.F.slot_list_index (by rfl) m_indexB ne_mIndexB ho ha hbase hfew hline hs

/-! ### a comprehension there -/
def iHot (f : ME) (fr : Fr) (st : Sto) : Out ItD := (f fr st).bind fun d st1 => match d with
  | .fl ds => .ok (.seq ds) st1
  | .loc n => match st1[n]? with
    | some (.lst ds) => .ok (.cell n ds) st1
    | _ => .no
  | _ => .no
theorem hot_ok {f : ME} {σ : L2.St} {H : Hp} {Q : It → Hp → Prop} (h : tIt X.K W (iHot f) σ H Q) : iList X.K (tE X.K W f) σ H Q := by
  obtain ⟨R, st, fr, rel, rf, ok⟩ := h
  refine ⟨R, st, fr, rel, rf, ?_⟩
  unfold iHot at ok
  cases ef : f fr st with
  | no => rw [ef] at ok; exact ok.elim
  | ex c st1 => rw [ef] at ok; exact fun H' R' C hC e r => ok H' R' C hC e r
  | ok d st1 =>
    rw [ef, Out.bind_ok] at ok
    intro H' R' v e r rv
    split at ok
    · obtain ⟨a, vs, rfl, hs, hf, rr⟩ := rv
      exact ⟨a, rfl, ⟨vs, .inl (.inl hs)⟩, ok H' R' _ e r (serves_fl hs hf rr)⟩
    · split at ok
      · rename_i n _ ds e0
        obtain ⟨a, ha, rfl⟩ := rv
        obtain ⟨vs, hv, rr⟩ := r.lst ha e0
        exact ⟨a, rfl, ⟨vs, .inl (.inl hv)⟩, ok H' R' _ e r (serves_cell ha)⟩
      · exact ok.elim
    · exact ok.elim
section
variable {elt tg e0 : Expr} {ifs : List Expr} {scope : Scope} {own : List (Str × Nat)} {f e : ME} {g : MG} {g0 : TG} {t : MT}
theorem e_lcH {mk : List D → Sto → Out D} (mm : MkL mk) (hot : L2H.HotC X) (hN : X.N.Nodup) (h0 : IE X W e0 f) (ok : BlkOk X.N X.env.scope scope own)
    (hg : ∀ (s : Shared) (H : Hp) (C : Addr) (cl : List (Str × Addr)) (fp : List Addr), IGc (X.blk s H scope (compEnvC scope cl C X.env) fp) tg (own.map (·.2)) g g0)
    (ht : ∀ (s : Shared) (H : Hp) (C : Addr) (cl : List (Str × Addr)) (fp : List Addr), ITs (X.blk s H scope (compEnvC scope cl C X.env) fp) ifs t)
    (he : ∀ (s : Shared) (H : Hp) (C : Addr) (cl : List (Str × Addr)) (fp : List Addr), IE (X.blk s H scope (compEnvC scope cl C X.env) fp) W0 elt e)
    (hs : ∀ x, foldedSetIterable e0 X.env x = pure x := by intro _; rfl) : IE X W (.ListComp elt [⟨tg, e0, ifs, 0⟩] scope pos) (eLc mk (own.map (·.2)) (iHot f) g t e) := by
  refine ⟨PE.imp (pe_lcH (te := tE X.K W0 e) (tt := tT X.K W0 t) hot hN h0.pe ok (fun s H C cl fp => (hg s H C cl fp).pg) (fun s H C cl fp => (ht s H C cl fp).pts) (fun s H C cl fp => (he s H C cl fp).pe) hs) fun σ H Q h => ?_⟩
  have h1 := lc_ok mm (fun v σ H Q R st fr d a b r o => (hg X.s_0 H 0 [] []).st v σ H Q R st fr d a b r o) (fun σ => wipe_twice σ _) h
  exact hot_ok h1
end

/-! ### the def that tells the word -/
def wGet : List (Nat × Str) → Nat → Option Str
  | [], _ => none
  | (y, b) :: r, x => if y = x then some b else wGet r x
/-- what is known of an error of the class number c, and what isinstance says of it for the classes ws -/
def KitT (K : PySem.W.Frag) (mg : Str → Option Value) (C : Addr) : STab → Prop
  | [] => True
  | (y, b) :: r => (∃ c, mg (cnm y) = some (.ref c) ∧ PySem.W.kitOne K (.ref C) (.ref c) = some b) ∧ KitT K mg C r
def WordRun (P : Program) (w : World) (K : PySem.W.Frag) (mg : Str → Option Value) (base : Heap) (k : Nat) (f : Addr) (fd : FuncData) (wt : List (Nat × Str)) : Prop :=
  ∀ (c : Nat) (ws : Str) (C : Addr) (A : Around) (outer : List Env) (s : Shared) (H : Hp) (args : Args) (p : Addr × Obj) (Q : VK) (E : XK), wGet wt c = some ws → clsAt K c C → Zc (.ref C) none p.2 → (∃ vs, p.2.data = .fields vs) → L2H.RoomH k A → L2H.Hot1 A p → L2H.PinOk outer H s p →
    Env0 P w K mg base A outer s H → BindsTo s fd args ([("e" : Str)].zip [Value.ref p.1]) → (∃ R st, Rel K H R st ∧ ∀ H' R', Ext K H R H' R' → Rel K H' R' st → Q (.str ws) H') → codeAny (model P w) A (.call (.ref f) args) (CR (L2N.CX P w) outer P w H s Q E) s
structure WordD (P : Program) (w : World) (K : PySem.W.Frag) (mg : Str → Option Value) (base : Heap) (x : Str) (k : Nat) (wt : List (Nat × Str)) : Prop where
  ex : ∃ f fd, mg x = some (.ref f) ∧ PySem.W.keepIn K (.ref f) = true ∧ Binds K fd [("e" : Str)] [] ∧ WordRun P w K mg base k f fd wt
theorem roomH_units {k : Nat} {A : Around} (r : L2H.RoomH k A) : A.units + 64 < cLine := by
  have := r.un
  omega
theorem WordD.mono {P : Program} {w : World} {K : PySem.W.Frag} {mg : Str → Option Value} {base : Heap} {x : Str} {j k : Nat} {wt : List (Nat × Str)} (h : WordD P w K mg base x j wt) (hk : j ≤ k) : WordD P w K mg base x k wt := by
  obtain ⟨f, fd, h1, h2, h3, h4⟩ := h.ex
  exact ⟨f, fd, h1, h2, h3, fun c ws C A outer s H args p Q E a1 a2 a3 a4 a5 => h4 c ws C A outer s H args p Q E a1 a2 a3 a4 (a5.mono hk)⟩
theorem word_of {P : Program} {w : World} {K : PySem.W.Frag} {mg : Str → Option Value} {base : Heap} {x qual : Str} {st : Stmt} {f : Addr} {fd : FuncData} {N : List Str} {k : Nat} {wt : List (Nat × Str)} {m : Addr → Nat → MS}
    (F : Fun K x qual st f fd) (S : FnScope N [("e" : Str)] (defScope st)) (hm : mg x = some (.ref f)) (hb : Binds K fd [("e" : Str)] [])
    (body : ∀ (cdv : Value) (A : Around) (outer : List Env) (s : Shared) (H : Hp) (E : XK) (p : Addr × Obj) (C : Addr) (c : Nat) (ws : Str), wGet wt c = some ws → clsAt K c C → Zc (.ref C) none p.2 → (∃ vs, p.2.data = .fields vs) → L2H.Hot1 A p → L2H.RoomH k (A.deeper (envOfC qual (defScope st) s.heap.objs.size f cdv)) →
      ISs (L2H.cxH (L2N.CX P w) P w K mg base N qual (defScope st) f cdv A outer s H E p) W0 (defBody st) (m p.1 c))
    (told : ∀ (a : Addr) (c : Nat) (ws : Str) (sto : Sto), wGet wt c = some ws → m a c (some (.ref a) :: List.replicate (N.length - 1) none) sto = .rt (.str ws) sto) : WordD P w K mg base x (k + 1) wt := by
  refine ⟨f, fd, hm, F.kp, hb, fun c ws C A outer s H args p Q E hw hC hz hf hr hot hpin e0 hbt hq => ?_⟩
  obtain ⟨oc, od, kV, doc, pm, an, cdv, ct, osl, rfl, lk, hcd⟩ := F.ex
  have inK : K.In s.heap := e0.mod.kin.keeps fun b o e => (e0.bs b o e).1
  have noLim : s.heap.NoLimit := e0.mod.nolimit.keeps fun b o e => (e0.bs b o e).1
  have kinds : ∀ y ∈ [("e" : Str)].zip [Value.ref p.1], (defScope st).names.lookup y.1 = some .local ∨ ((defScope st).names.lookup y.1 = some .cell ∧ ((cellsFrom (s.heap.objs.size + 1) (defScope st).names []).lookup y.1).isSome = true) := fun ⟨n, v⟩ hy =>
    (S.par n (List.of_mem_zip hy).1).elim .inl fun q => .inr ⟨q, PySem.W.cellsFrom_some _ _ _ (.inl q)⟩
  refine codeAny_call_function hr.depth (inK _ _ lk) rfl S.co S.gen rfl (PySem.W.codeRec_of inK hcd) (hbt _ _ _ _ ?_)
  refine wpAny_newFunctionEnv_cells S.kind kinds fun env he s1 x1 => ?_
  subst he
  refine ⟨noLim.keeps x1.toInCall.keep, codeAny_func ?_⟩
  have I := L2H.inv_startH (CX := L2N.CX P w) (E := E) (vs := [V.ref p.1]) S hpin e0 rfl (.cons rfl .nil) x1
  obtain ⟨R, sto, rel, q⟩ := hq
  have go := (body cdv A outer s H E p C c ws hw hC hz hf hot (hr.deeper _)).pss.run [] s1 (L2.start N [V.ref p.1]) H { nx := fun _ _ => False, rt := Q } I
  have goal : tS K W0 (m p.1 c) { nx := fun _ _ => False, rt := Q } (L2.start N [V.ref p.1]) H := by
    have rs := rfr_start (K := K) (H := H) (R := R) (N := N) (ds := [.ref p.1]) (vs := [V.ref p.1]) ⟨_, _, rfl, rfl, rfl⟩
    refine ⟨R, sto, _, rel, rs, ?_⟩
    have e := told p.1 c ws sto hw
    have e2 : (List.map some [D.ref p.1] ++ List.replicate (N.length - [D.ref p.1].length) none : Fr) = some (.ref p.1) :: List.replicate (N.length - 1) none := rfl
    rw [e2, e]
    exact fun H' R' v ex rl rv => by
      obtain rfl : v = V.str ws := rv
      exact q H' R' ex rl
  refine wpAny_mono (go goal) (fun fl s' hs => ?_) fun e s' hs => hs
  cases fl with
  | ret u =>
    obtain ⟨v, σ', H', J, rv, q⟩ := hs
    exact ⟨v, H', J.os, J.bare, J.base, J.hok, rv, q⟩
  | next =>
    obtain ⟨_, _, _, q⟩ := hs
    exact q.elim
  | brk =>
    obtain ⟨_, _, _, q⟩ := hs
    exact q.elim
  | cont =>
    obtain ⟨_, _, _, q⟩ := hs
    exact q.elim

/-! ### its call -/
def eWord (a : Addr) (i : Nat) (ws : Str) (fr : Fr) (st : Sto) : Out D := match fget fr i with
  | some (.ref x) => if x = a then .ok (.str ws) st else .no
  | _ => .no
theorem e_word {x n : Str} {a C : Addr} {oe : Obj} {c i k : Nat} {ws : Str} {wt : List (Nat × Str)} {q qe : Pos} (D0 : WordD X.prog X.w X.K X.mg X.base x k wt) (hw : wGet wt c = some ws) (hC : clsAt X.K c C) (hz : Zc (.ref C) none oe) (hf : ∃ vs, oe.data = .fields vs)
    (hp : (a, oe) ∈ X.pn) (hot : L2H.Hot1 X.A (a, oe)) (hr : L2H.RoomH k X.A) (hi : X.N[i]? = some n) (hv : Vis X.env.scope n) (hd : (n == ("__debug__" : Str)) = false) (hcd : (n == ("__classdict__" : Str)) = false) (hg : Gl X x) (hdb : (x == ("__debug__" : Str)) = false := by decide)
    (he : starEach [.Name n qe] X.env = (false, eval (.Name n qe) X.env) :: starEach [] X.env := by rfl) (hpl : (backTo pos (starEach [] X.env)).any (·.1) = false := by rfl) : IE X W (.Call (.Name x q) [.Name n qe] [] pos) (eWord a i ws) := by
  obtain ⟨f, fd, hm, hk, hb, run⟩ := D0.ex
  refine ⟨⟨fun pins s σ H Q I h => ?_⟩⟩
  obtain ⟨R, st, fr, rel, rf, ok⟩ := h
  unfold eWord at ok
  split at ok
  · rename_i y hy
    split at ok
    · rename_i hya
      subst hya
      have e1 : IE X W0 (.Name n qe) (eVar i) := e_var i hi hv hd hcd
      have ha : IA X W0 [.Name n qe] (aCons (eVar i) aNil) := a_cons e1 a_nil he
      refine wpAny_Call_Name_kw (ld_glob I hg hm ?_ hdb)
      have arg : tA X.K W0 (aCons (eVar i) aNil) σ H (fun vs H1 => vs = [V.ref y] ∧ ∃ R1 st1, Rel X.K H1 R1 st1 ∧ okG W0 σ H1 R1 (RV X.K) X.K Q (.ok (.str ws) st1)) := by
        refine ⟨R, st, fr, rel, rf, ?_⟩
        have ev : aCons (eVar i) aNil fr st = .ok [.ref y] st := by
          unfold aCons eVar aNil
          rw [hy]
          rfl
        rw [ev]
        intro H' R' b ex rl rv
        obtain ⟨v, r, rfl, h1, h2⟩ := rv
        obtain rfl : r = [] := h2
        obtain rfl : v = V.ref y := h1
        exact ⟨rfl, R', st, rl, fun H2 R2 b2 e2 r2 q2 => ok H2 R2 b2 (ex.trans e2) r2 q2⟩
      refine PySem.W.callWith_K (h₀ := X.base) I.ok.mod.kin hk (thn (ha.pa.run pos pins s σ H _ I arg) fun us s1 ⟨vs, H1, I1, r, ev, R1, st1, rel1, ok1⟩ => ⟨I1.kIn, ?_⟩) he hpl
      subst ev
      cases r with
      | cons ry rr =>
        cases rr
        cases ry
        have b := hb s1 [.ref y] I1.kIn rfl
        rw [List.append_nil] at b
        have pin := I1.pin (y, oe) (List.mem_append_left _ hp)
        have pok : L2H.PinOk X.stack H1 s1 (y, oe) := ⟨pin.1, pin.2.1, fun hm => (List.mem_cons.mp (I1.stkSub y hm)).elim pin.2.2.1 pin.2.2.2.1, pin.2.2.2.2⟩
        refine wpAny_call (codeAny_mono (run c ws C X.A X.stack s1 H1 ⟨[.ref y], []⟩ (y, oe) Q (fun _ _ _ => False) hw hC hz hf hr hot pok I1.env0 b ⟨R1, st1, rel1, fun H' R' e' r' => ok1 H' R' _ e' r' rfl⟩) fun r s' hq => ?_)
        cases r with
        | error e =>
          obtain ⟨_, _, _, _, _, _, _, _, _, _, _, _, z⟩ := hq
          exact z.elim
        | ok fl =>
          cases fl with
          | ret u => exact I1.after hq
          | next => exact False.elim hq
          | brk => exact False.elim hq
          | cont => exact False.elim hq
    · exact ok.elim
  · exact ok.elim

/-! ### the statement -/
def kTryW (T : STab) (wt : List (Nat × Str)) (o : OutS) : OutS := match o with
  | .ex x fr st => match stGet T x with
    | some true => match wGet wt x with
      | some ws => .rt (.str ws) st
      | none => .no
    | some false => .ex x fr st
    | none => .no
  | o => o
def sTryW (T : STab) (wt : List (Nat × Str)) (body : MS) (fr : Fr) (st : Sto) : OutS := kTryW T wt (body fr st)
theorem s_tryW {x n wd : Str} {c : Value} {T : STab} {wt : List (Nat × Str)} {i k : Nat} {body : List Stmt} {np pos' p1 p2 p3 p4 : Pos} {mb : MS} (cx : Ctx X W) (hs : X.stack = X.env :: X.outer) (hf : X.env.frame = some X.env.locals) (hc : Names X x c) (hT : Subs X.K c T)
    (D0 : WordD X.prog X.w X.K X.mg X.base wd k wt) (hr : Room k X.A)
    (hb : ∀ (W' : WX) (pn : List (Addr × Obj)) (xe : Value → Shared → Prop), Ctx (X.tr pn xe) W' → PassesOwn (model X.prog X.w) X.A X.env xe → ISs (X.tr pn xe) W' body mb)
    (hi : X.N[i]? = some n := by rfl) (hln : X.env.kindOf n = some .local := by rfl) (hg : Gl X wd := by rfl) (hd : (n == ("__debug__" : Str)) = false := by decide) (hcd : (n == ("__classdict__" : Str)) = false := by decide) (hdb : (wd == ("__debug__" : Str)) = false := by decide)
    (he : ∀ (a : Addr) (pn : List (Addr × Obj)), starEach [.Name n p4] (X.suite a pn).env = (false, eval (.Name n p4) (X.suite a pn).env) :: starEach [] (X.suite a pn).env := by intro _ _; rfl)
    (hpl : ∀ (a : Addr) (pn : List (Addr × Obj)), (backTo p2 (starEach [] (X.suite a pn).env)).any (·.1) = false := by intro _ _; rfl) :
    IS X W (.Try body [.ExceptHandler (some (.Name x np)) (some n) [.Return (some (.Call (.Name wd p3) [.Name n p4] [] p2)) p1] pos'] [] [] pos) (sTryW T wt mb) := by
  refine ⟨PS.imp (L2N.ps_try_as (tb := fun W' => tS X.K W' mb) (ts := fun a cls d D σ H => ∃ C cn ws, cls = .ref C ∧ d = none ∧ clsAt X.K cn C ∧ wGet wt cn = some ws ∧ ∃ R st fr1 σ1, σ = σ1.set i (some (.ref a)) ∧ Rel X.K H R st ∧ RFr X.K H R fr1 σ1 ∧ okS X.K W0 H R D (.rt (.str ws) st)) hs hf cx.nd hi hln hc cx.tk (fun W' pn xe tk hp => (hb W' pn xe ⟨cx.calm, cx.nd, fun σ => L2N.passAt tk σ, tk⟩ hp).pss) fun a oe cls d pn hz hfl => ?_) fun D σ H h => ?_⟩
  · refine ⟨fun pins s σ H D I h => ?_⟩
    obtain ⟨C, cn, ws, rfl, rfl, hC, hw, R, st, fr1, σ1, rfl, rel, rf, ok⟩ := h
    have il : i < fr1.length := by
      rw [rf.len]
      have := I.len
      rw [List.length_set] at this
      rw [this]
      exact (List.getElem?_eq_some_iff.mp hi).1
    have hot : L2H.Hot1 (X.suite a ((a, oe) :: pn)).A (a, oe) := by
      obtain ⟨vs, hv⟩ := hfl
      exact ⟨rfl, vs, hv, hz.2.2 vs hv⟩
    have e1 : IE (X.suite a ((a, oe) :: pn)) W0 (.Call (.Name wd p3) [.Name n p4] [] p2) (eWord a i ws) := e_word (X := X.suite a ((a, oe) :: pn)) D0 hw hC hz.zc hfl List.mem_cons_self hot ⟨hr.dp, hr.un⟩ hi (.inl hln) hd hcd hg hdb (he _ _) (hpl _ _)
    refine (ss_one (s_ret e1)).pss.run pins s _ H D I ⟨R, st, fset fr1 i (some (.ref a)), rel, rf.set (show RV X.K H R (.ref a) (.ref a) from rfl), ?_⟩
    have ev : sRet (eWord a i ws) (fset fr1 i (some (.ref a))) st = .rt (.str ws) st := by
      unfold sRet eWord
      rw [fget_eq, fset_eq, List.getElem?_set_self il]
      show Out.then (if a = a then _ else _) _ _ = _
      rw [if_pos rfl]
      rfl
    rw [ev]
    exact ok
  obtain ⟨R, st, fr, rel, rf, ok⟩ := h
  refine ⟨R, st, fr, rel, rf, ?_⟩
  unfold sTryW at ok
  cases e : mb fr st with
  | nx fr1 st1 => rw [e] at ok; exact ok
  | rt d1 st1 => rw [e] at ok; exact ok
  | bk fr1 st1 => rw [e] at ok; exact ok
  | ct fr1 st1 => rw [e] at ok; exact ok
  | no => rw [e] at ok; exact ok
  | ex x1 fr1 st1 =>
    rw [e] at ok
    intro H1 R1 σ1 C hC e1 rel1 rf1
    unfold kTryW at ok
    simp only at ok
    split at ok
    · rename_i h1
      obtain ⟨C', hC', hx⟩ := hT.get h1
      cases hC.inj hC'
      split at ok
      · rename_i ws hws
        exact ⟨true, hx, fun _ a na => ⟨C, x1, ws, rfl, rfl, hC, hws, R1, st1, fr1, σ1, rfl, rel1, rf1, okS.ext ok e1⟩, fun z => (nomatch z)⟩
      · exact ok.elim
    · rename_i h1
      obtain ⟨C', hC', hx⟩ := hT.get h1
      cases hC.inj hC'
      exact ⟨false, hx, (fun z => (nomatch z)), fun _ => ok H1 R1 σ1 C hC e1 rel1 rf1⟩
    · exact ok.elim
end
end Vi
set_option maxRecDepth 100000
set_option maxHeartbeats 2000000
/-! Vi23: enumerate of a tuple; defs with generators; the law's promise. -/
namespace Vi
open PySem PySem.Spec PyProof.Rows L2
open PySem.Sem (wp)
open AutoSeq1 (wpAny_loadPart')
theorem enumT_new (l : Addr) (items : Array Value) (n : Nat) (dct : Option Addr) (sl : Array (Option Value)) :
    Meets (Builtin.«enumerate.__new__» ⟨[.type "enumerate", .ref l], []⟩) (fun _ R s => s.heap.get? l = some { cls := .type "tuple", dict := dct, data := .seq items n, slots := sl } ∧
      R (.ok (.ret (.ref (s.heap.push { cls := .type "tuple_iterator", data := .fields #[.ref l, .int 0 0] }).objs.size)))
        { s with heap := (s.heap.push { cls := .type "tuple_iterator", data := .fields #[.ref l, .int 0 0] }).push { cls := .type "enumerate", data := .fields #[.none, .bool false, .ref s.heap.objs.size, rawInt 0, .none, .none] } }) :=
  .of_wp fun prog w A R s h => by
    obtain ⟨hp, g, d, tk, os⟩ := s
    obtain ⟨hl, h⟩ := h
    have hsub := sub_enumerate
    have tup : Heap.IsTuple (Shared.heap ⟨hp, g, d, tk, os⟩) l items := ⟨_, hl, rfl, n, rfl⟩
    wp_walk using wpAny_loadPart' hl
    refine wpAny_stack_any fun st => wpAny_pure ?_
    split
    · rename_i c _ _ _ _ _
      cases (c == Value.type "enumerate")
      · wp_walk using wpAny_loadPart' hl, wpAny_pyIter_tuple tup
        exact ⟨_, rfl, h⟩
      · wp_walk using wpAny_loadPart' hl, wpAny_pyIter_tuple tup
        exact ⟨_, rfl, h⟩
    · wp_walk using wpAny_loadPart' hl, wpAny_pyIter_tuple tup
      exact ⟨_, rfl, h⟩
theorem enumT_call {prog : Program} {w : World} {A : Around} {E : Value → Shared → Prop} {s : Shared} {l : Addr} {items : Array Value} {Q : Value → Shared → Prop} (tup : s.heap.IsTuple l items)
    (h : ∀ h', IsEnum h' (s.heap.objs.size + 1) s.heap.objs.size 0 .none → h'.IsTupleIter s.heap.objs.size l 0 → (∀ b o, s.heap.get? b = some o → h'.get? b = some o) → Q (.ref (s.heap.objs.size + 1)) { s with heap := h' }) :
    wpAny (model prog w) A (call (.type "enumerate") [.ref l]) Q E s := by
  obtain ⟨⟨c, dct, dt, sl⟩, hl, hc, n, hd⟩ := tup
  replace hc : c = .type "tuple" := hc
  replace hd : dt = .seq items n := hd
  subst hc hd
  refine callType_new F.called_enumerate (by decide) (F.typeCall_enumerate_1 _) (F.newCall_enumerate_1 _) (fun obj => F.args_object_init_2 obj _) F.entry_enumerate_new (enumT_new l items n dct sl) ⟨hl, ?_⟩
  have hz : (s.heap.push { cls := .type "tuple_iterator", data := .fields #[.ref l, .int 0 0] }).objs.size = s.heap.objs.size + 1 := Heap.size_push ..
  show _ ∧ _
  rw [hz]
  have he : IsEnum ((s.heap.push { cls := .type "tuple_iterator", data := .fields #[.ref l, .int 0 0] }).push
      { cls := .type "enumerate", data := .fields #[.none, .bool false, .ref s.heap.objs.size, rawInt 0, .none, .none] }) (s.heap.objs.size + 1) s.heap.objs.size 0 .none := by
    have q := Heap.get?_push_size (s.heap.push { cls := .type "tuple_iterator", data := .fields #[.ref l, .int 0 0] }) (o := { cls := .type "enumerate", data := .fields #[.none, .bool false, .ref s.heap.objs.size, rawInt 0, .none, .none] }) rfl
    rw [hz] at q
    exact q
  exact ⟨⟨_, he, rfl⟩, h _ he ⟨_, Heap.get?_push_of_some _ (Heap.get?_push_size _ rfl), rfl, rfl⟩ fun b o x => Heap.get?_push_of_some _ (Heap.get?_push_of_some _ x)⟩
theorem enumT_end {prog : Program} {w : World} {A : Around} {E : Value → Shared → Prop} {s : Shared} {e it l : Addr} {i : Nat} {items : Array Value} {old : Value} {Q : Option Value → Shared → Prop} (quiet : A.handled = none)
    (isE : IsEnum s.heap e it i old) (isT : s.heap.IsTupleIter it l i) (tup : s.heap.IsTuple l items) (out : items[i]? = none) (q : ∀ h', Heap.ExtBut it s.heap h' → Q none { s with heap := h' }) : wpAny (model prog w) A (pyNext (.ref e)) Q E s := by
  have ty : s.TypeIs (.ref e) "enumerate" := ⟨_, isE, rfl⟩
  unfold pyNext
  refine wpAny_bind (wpAny_attempt (wpAny_callSpecial?_slot (name := Str.ofString "__next__") ty F.slot_enumerate_next (wpAny_call_entry F.slot_enumerate_next ty F.entry_enumerate_next ?_ (F.args_enumerate_next_1 _))))
  show wpAny _ _ (field (.ref e) 2 >>= _) _ _ _
  refine wpAny_bind (wpAny_field isE rfl (x := .ref it) rfl (wpAny_bind (wpAny_nextOf_tuple_end quiet isT tup out fun h' x kept isStop => ?_)))
  obtain ⟨o, there, stop⟩ := isStop
  exact wpAny_bind (wpAny_isInstance (T := "StopIteration") (b := true) ⟨o, there, stop⟩ isSubtype_stop (wpAny_pure (q _ kept)))
/-- the tuple at a, each item in a new pair -/
def IteT (K : PySem.W.Frag) (a : Addr) : It :=
  ⟨fun i H => ∃ (xs : List V) (x : V), SqT K H a xs ∧ xs[i]? = some x, fun i H v H' => ∃ T x, v = .ref T ∧ H T = none ∧ H' = upd H T (.tup [.int (i : Nat), x]) ∧ ∀ xs, SqT K H a xs → xs[i]? = some x, fun i H => ∃ xs : List V, SqT K H a xs ∧ xs.length ≤ i⟩
theorem turn_enumT {P : Program} {w : World} {K : PySem.W.Frag} {elts : List Expr} {kk : Nat} {tpos : Pos} (a e it : Addr) :
    Turn P w K (.Tuple elts kk tpos) (IteT K a) [e, it] e (fun i h => (∃ old, IsEnum h e it ((i : Nat) : Int) old) ∧ h.IsTupleIter it a i ∧ e ≠ it) where
  mem := by simp
  obj := fun i h st b hb => by
    obtain ⟨⟨old, he⟩, ⟨o, ho, hc, hd⟩, _⟩ := st
    rcases (show b = e ∨ b = it by simpa using hb) with z | z
    · rw [z]; exact ⟨_, he, fun v q => nomatch q⟩
    · rw [z]; exact ⟨o, ho, fun v q => by rw [hd] at q; cases q⟩
  keep := fun i h h' st k => let ⟨⟨old, he⟩, hi, hne⟩ := st; ⟨⟨old, k e (by simp) _ he⟩, hi.at fun o q => k it (by simp) o q, hne⟩
  item := by
    intro X hP hw hK hc i pins s σ H E I hf st hg
    subst hP hw hK
    obtain ⟨⟨old, he⟩, hit, hne⟩ := st
    obtain ⟨xs, x, hq, hx⟩ := hg
    obtain ⟨its, rv, p, hz⟩ := I.tuple hq
    obtain ⟨u, hu, ru⟩ := rv.get hx
    have tup : s.heap.IsTuple a its.toArray := p
    have hel : e < s.heap.objs.size := Heap.lt_size he
    have hil : it < s.heap.objs.size := by obtain ⟨_, q, _⟩ := hit; exact Heap.lt_size q
    have hlt : i < its.toArray.size := by
      have := (List.getElem?_eq_some_iff.mp hu).1
      simpa using this
    have hai : a ≠ it := fun z => by
      obtain ⟨o, o1, o2, _⟩ := hit
      obtain ⟨p1, p2, p3, _⟩ := tup
      rw [z, o1] at p2
      cases p2
      rw [o2] at p3
      exact absurd (Value.type.inj p3) (by decide)
    have hea : e ≠ a := fun z => by
      obtain ⟨p1, p2, p3, _⟩ := tup
      have q : s.heap.get? e = some _ := he
      rw [z, p2] at q
      cases q
      exact absurd (Value.type.inj (show Value.type _ = Value.type _ from p3)) (by decide)
    refine wpAny_pyNext_enum_itemD (Draws.tuple (A := X.A.in1) (I.ok.hd hc) it a hai its.toArray) he ⟨hit, tup⟩ hlt hne (by simp [hne, hea]) fun x' h' tk hx' ho hst hT hsz hk => ?_
    have exu : x' = u := by
      have z : its.toArray[i]? = some x' := hx'
      rw [List.getElem?_toArray, hu] at z
      exact (Option.some.inj z).symm
    subst exu
    refine ⟨_, rfl, wpAny_letOwnedTupleGo_enum (s := { s with heap := h', toks := tk + 1 }) ho fun h'' he' sb => ?_⟩
    have hT2 : h''.get? s.heap.objs.size = some { cls := .type "tuple", data := .seq #[.int i tk, x'] } := (sb.2 _ (Nat.ne_of_gt hel)).trans hT
    have new : ObjOk X.prog X.w (upd H s.heap.objs.size (.tup [.int (i : Nat), x])) h'' s.heap.objs.size (.tup [.int (i : Nat), x]) :=
      ⟨by show 2 ≤ sizeLine; decide, [.int i tk, x'], .cons ⟨_, rfl⟩ (.cons ru .nil), ⟨_, hT2, rfl, _, rfl⟩⟩
    have I1 : Inv X pins σ (upd H s.heap.objs.size (.tup [.int (i : Nat), x])) { s with heap := h'', toks := tk + 1 } :=
      I.turnedNew (ch := [e, it]) (fun b ob hb q => (sb.2 b (fun z => hb (by simp [z]))).trans (hk b ob (fun z => hb (by simp [z])) (fun z => hb (by simp [z])) q)) hf (Nat.le_refl _) new
    refine ⟨.ref s.heap.objs.size, _, I1, rfl, ⟨_, x, rfl, I.hok.fresh (Nat.le_refl _), rfl, fun ys hy => by rw [I.tuple_inj hy hq]; exact hx⟩, ⟨⟨x', ?_⟩, hst.1.at fun o q => (sb.2 it (Ne.symm hne)).trans q, hne⟩, fun b hb => ?_⟩
    · rw [show ((i + 1 : Nat) : Int) = (i : Int) + 1 by omega]
      exact he'
    · have hb' : b < s.heap.objs.size := by
        rcases (show b = e ∨ b = it by simpa using hb) with z | z
        · rw [z]; exact hel
        · rw [z]; exact hil
      rw [upd_ne (Nat.ne_of_lt hb')]
      exact (hf b hb).1
  done := by
    intro X hP hw hK hc i pins s σ H E I hf st hg
    subst hP hw hK
    obtain ⟨⟨old, he⟩, hit, hne⟩ := st
    obtain ⟨xs, hq, hx⟩ := hg
    obtain ⟨its, rv, p, hz⟩ := I.tuple hq
    have tup : s.heap.IsTuple a its.toArray := p
    obtain ⟨f0, f1, f2, f3, f4, f5⟩ := hf it (by simp)
    have hl := rv.length
    have none : its.toArray[i]? = none := by simp; omega
    refine enumT_end (I.ok.hd hc) he hit tup none fun h' eb => ⟨rfl, I.turned (t' := s.toks) (fun b o hb q => eb b o hb q) f0 f1 f3 f4 f5⟩
  self := fun A i s Q E st h => let ⟨⟨_, he⟩, _⟩ := st; wpAny_pyIter_enum he h
def iEnumTp (K : PySem.W.Frag) (ta : TA) : TI := fun σ H R => ta σ H fun vs H1 => ∃ a xs, vs = [.ref a] ∧ SqT K H1 a xs ∧ R (IteT K a) H1
section
variable {X : Cx} {W : WX} {pos : Pos}
theorem pi_enumT {e : Expr} {ta : TA} {p tpos : Pos} {elts : List Expr} {kk : Nat} (hg : Gl X "enumerate") (hm : X.mg "enumerate" = none) (ha : PA X [e] ta) (hs : starEach [e] X.env = [(false, eval e X.env)] := by rfl) :
    PI X (.Tuple elts kk tpos) (.Call (.Name "enumerate" p) [e] [] pos) (iEnumTp X.K ta) := by
  refine ⟨fun pins s σ H R I h => ?_⟩
  refine Call_ (ld_blt I hg hm boot_enumerate (PyProof.Rows.callWith_type1 (thn (ha.run pos pins s σ H _ I h) fun us s1 ⟨vs, H1, I1, r1, q1⟩ => ?_) hs rfl))
  obtain ⟨a, xs, rfl, hq, q⟩ := q1
  cases r1 with
  | cons r rr =>
    cases rr
    cases r
    obtain ⟨its, rv, p', hz⟩ := I1.tuple hq
    have tup : s1.heap.IsTuple a its.toArray := p'
    refine enumT_call tup fun h' he hit hk => wpAny_pyIter_enum he ?_
    have I2 : Inv X pins σ H1 { s1 with heap := h' } := I1.kept (t' := s1.toks) hk
    refine ⟨s1.heap.objs.size + 1, [s1.heap.objs.size + 1, s1.heap.objs.size], _, _, H1, rfl, I2, turn_enumT a (s1.heap.objs.size + 1) s1.heap.objs.size, ⟨⟨.none, he⟩, hit, Nat.succ_ne_self _⟩, fun b hb => ?_, q⟩
    have new : s1.heap.objs.size ≤ b := by
      rcases (show b = s1.heap.objs.size + 1 ∨ b = s1.heap.objs.size by simpa using hb) with z | z
      · rw [z]; exact Nat.le_add_right _ _
      · rw [z]; exact Nat.le_refl _
    exact I1.fpOk new (I1.hok.fresh new)
theorem serves_enumT {K : PySem.W.Frag} {H : Hp} {R : Tr} {ds : List D} {a : Addr} {vs : List V} (hs : SqT K H a vs) (rr : RVs K H R ds vs) : Serves K (.seq (enumd 0 ds)) (IteT K a) H R where
  go := fun i H2 R2 st2 e rel hb d hd => by
    obtain ⟨x, hx, rfl⟩ := enumd_get hd
    obtain ⟨v, hv2, rv⟩ := rr.get hx
    refine ⟨⟨vs, v, e.tup _ _ hs, hv2⟩, fun y H3 q => ?_⟩
    obtain ⟨T, z, rfl, hT, rfl, q⟩ := q
    have := q vs (e.tup _ _ hs)
    rw [hv2] at this
    cases this
    have ex : Ext K H2 R2 (upd H2 T (.tup [.int (i : Nat), v])) R2 := Ext.new hT
    refine ⟨rel.aside hT, ex, T, [.int (i : Nat), v], rfl, .inl (.inl (by rw [upd_same])), RVs.cons ?_ (RVs.cons ((rv.mono0 e).mono ex) RVs.nil)⟩
    show V.int _ = V.int _
    rw [Nat.zero_add]
  stop := fun i H2 R2 st2 e rel hb h => by
    rw [ItD.items_seq, enumd_len] at h
    exact ⟨vs, e.tup _ _ hs, by rw [rr.length]; exact h⟩
def kEnumT (ds : List D) (st : Sto) : Out ItD := match ds with
  | [.tup es] => .ok (.seq (enumd 0 es)) st
  | _ => .no
/-- of a tuple; of a list -/
def iEnumT (f : MA) (fr : Fr) (st : Sto) : Out ItD := (f fr st).bind kEnumT
theorem i_enumT {a : Expr} {f : MA} {q tpos : Pos} {elts : List Expr} {kk : Nat} (hg : Gl X "enumerate") (hm : X.mg "enumerate" = none) (ha : IA X W [a] f) (hs : starEach [a] X.env = [(false, eval a X.env)] := by rfl) :
    II X W (.Tuple elts kk tpos) (.Call (.Name "enumerate" q) [a] [] pos) (iEnumT f) := by
  refine ⟨PI.imp (pi_enumT hg hm ha.pa hs) fun σ H Q h => ?_⟩
  obtain ⟨R, st, fr, rel, rf, ok⟩ := h
  refine ⟨R, st, fr, rel, rf, okG.imp (okI.bind ok) fun x H1 R1 d st1 e1 rel1 r1 _ q => ?_⟩
  obtain ⟨R2, st2, d2, e2, rel2, r2, ok2⟩ := q
  unfold kEnumT at ok2
  split at ok2
  · rename_i es
    obtain ⟨v, rfl, h1⟩ := rvs1 r2
    obtain ⟨b, vs, rfl, hv, rr⟩ := h1
    exact ⟨b, vs, rfl, hv, ok2 H1 R2 _ Ext.refl rel2 (serves_enumT hv rr)⟩
  · exact ok2.elim
/-- either -/
def kEnum (ds : List D) (st : Sto) : Out ItD := match ds with
  | [.tup es] => .ok (.seq (enumd 0 es)) st
  | ds => kEnumL ds st
def iEnum (f : MA) (fr : Fr) (st : Sto) : Out ItD := (f fr st).bind kEnum
theorem II.either {tg iter : Expr} {f g h : MI} (a : II X W tg iter f) (b : II X W tg iter g) (k : ∀ fr st, h fr st = f fr st ∨ h fr st = g fr st) : II X W tg iter h := by
  refine ⟨PI.imp (PI.or a.pi b.pi) fun σ H Q q => ?_⟩
  obtain ⟨R, st, fr, rel, rf, ok⟩ := q
  rcases k fr st with e | e
  · rw [e] at ok; exact .inl ⟨R, st, fr, rel, rf, ok⟩
  · rw [e] at ok; exact .inr ⟨R, st, fr, rel, rf, ok⟩
theorem i_enum {a : Expr} {f : MA} {q tpos : Pos} {elts : List Expr} {kk : Nat} (hg : Gl X "enumerate") (hm : X.mg "enumerate" = none) (ha : IA X W [a] f) (hs : starEach [a] X.env = [(false, eval a X.env)] := by rfl) :
    II X W (.Tuple elts kk tpos) (.Call (.Name "enumerate" q) [a] [] pos) (iEnum f) := by
  refine II.either (i_enumT hg hm ha hs) (i_enumL hg hm ha hs) fun fr st => ?_
  unfold iEnum iEnumT iEnumL
  cases f fr st with
  | no => exact .inl rfl
  | ex c st1 => exact .inl rfl
  | ok ds st1 =>
    show kEnum ds st1 = kEnumT ds st1 ∨ kEnum ds st1 = kEnumL ds st1
    unfold kEnum
    split
    · exact .inl rfl
    · exact .inr rfl
end
/-! ### a def that makes generators -/
theorem def_ofT {P : Program} {w : World} {K : PySem.W.Frag} {mg : Str → Option Value} {base : Heap} {x qual : Str} {s : Stmt} {f c : Addr} {fd : FuncData} {N ps : List Str} {k : Nat} {m : MS}
    (F : Fun K x qual s f fd) (hcode : fd.code = .ref c) (S : FnScope N ps (defScope s)) (hm : mg x = some (.ref f)) (hb : Binds K fd ps [])
    (body : ∀ (A : Around) (outer : List Env) (s1 : Shared) (H : Hp) (E : XK), Room k (A.deeper (envOfC qual (defScope s) s1.heap.objs.size f (.ref c))) →
      Ctx (cxOf (L2N.CX P w) P w K mg base N qual (defScope s) f (.ref c) A outer s1 H E) (fun c d _ H => E c d H) →
      PassesOwn (model P w) (A.deeper (envOfC qual (defScope s) s1.heap.objs.size f (.ref c))) (cxOf (L2N.CX P w) P w K mg base N qual (defScope s) f (.ref c) A outer s1 H E).env (cxOf (L2N.CX P w) P w K mg base N qual (defScope s) f (.ref c) A outer s1 H E).xe →
      ISs (cxOf (L2N.CX P w) P w K mg base N qual (defScope s) f (.ref c) A outer s1 H E) (fun c d _ H => E c d H) (defBody s) m) :
    Def P w K mg base x (k + 1) ps (mF ps.length N.length m) := by
  refine ⟨⟨f, fd, ?_, hm, F.kp, hb⟩, fun ds st h => mF_ar ds st h⟩
  obtain ⟨oc, od, kV, doc, pm, an, cdv, ct, osl, rfl, lk, hcd⟩ := F.ex
  obtain rfl : cdv = .ref c := hcode
  refine fn_of lk hcd S (fun vs H Q E h => h.1) fun A outer s1 H vs Q E hr hsp => ?_
  obtain ⟨hl, R, st, ds, rel, r, ok⟩ := hsp
  have tk : L2N.Takes (cxOf (L2N.CX P w) P w K mg base N qual (defScope s) f (.ref c) A outer s1 H E) (fun c d _ H => E c d H) := L2N.takes_of rfl rfl rfl rfl
  have cx : Ctx (cxOf (L2N.CX P w) P w K mg base N qual (defScope s) f (.ref c) A outer s1 H E) (fun c d _ H => E c d H) := ⟨rfl, S.nd, fun σ => L2N.passAt tk σ, tk⟩
  refine ⟨_, (body A outer s1 H E hr cx (passes_of rfl)).pss, R, st, _, rel, rfr_start r, ?_⟩
  have hn : ds.length = ps.length := by rw [← r.length]; exact hl
  unfold mF okF at ok
  rw [if_pos hn, ← hn] at ok
  cases e : m (ds.map some ++ List.replicate (N.length - ds.length) none) st with
  | nx fr' st' => rw [e] at ok; exact fun H' R' σ' ex rl rf => ok H' R' _ ex rl rfl
  | rt d st' => rw [e] at ok; exact fun H' R' v ex rl rf => ok H' R' v ex rl rf
  | ex c fr' st' => rw [e] at ok; exact fun H' R' σ' C hC ex rl rf => ok H' R' C hC ex rl
  | bk fr' st' => rw [e] at ok; exact ok.elim
  | ct fr' st' => rw [e] at ok; exact ok.elim
  | no => rw [e] at ok; exact ok.elim
/-! ### the law's promise, the script a list -/
theorem law_spL {F : MF} (h : ∀ ns : List Int, ns.length ≤ 63 → ∀ d, (d = .rol (ns.map D.int) ∨ d = .fl (ns.map D.int)) → ∃ st', F [d] [] = .ok (.bl true) st') (K : PySem.W.Frag) (H : Hp) (a : Addr) (ns : List Int) (hn : ns.length ≤ 63) (o : SqL K H a (ns.map V.int)) (hT : ∀ P, IsTab K P → H P = some (.tbl #[])) :
    spM K F 1 [.ref a] H (fun v _ => v = .bl true) fun _ _ _ => False := by
  have key : ∀ d, (d = .rol (ns.map D.int) ∨ d = .fl (ns.map D.int)) → RV K H ⟨[], []⟩ d (.ref a) → spM K F 1 [.ref a] H (fun v _ => v = .bl true) fun _ _ _ => False := fun d hd rv => by
    obtain ⟨st', e⟩ := h ns hn d hd
    refine ⟨rfl, ⟨[], []⟩, [], [d], ⟨List.nodup_nil, rfl, fun i o e => by simp at e, fun a ha => (by cases ha), fun P hP => ⟨⟨#[], hT P hP, trivial⟩, ⟨List.not_mem_nil, List.not_mem_nil⟩⟩⟩, RVs.cons rv RVs.nil, ?_⟩
    unfold okF
    rw [e]
    exact fun H' R' v ex rl rv => rv
  rcases o with (o | o) | o
  · exact key _ (.inr rfl) ⟨a, _, rfl, o, ⟨List.not_mem_nil, List.not_mem_nil⟩, RVs.ofInts ns⟩
  · exact key _ (.inl rfl) ⟨a, _, rfl, .inl o, RVs.ofInts ns⟩
  · exact key _ (.inl rfl) ⟨a, _, rfl, .inr o, RVs.ofInts ns⟩
end Vi
set_option maxRecDepth 100000
set_option maxHeartbeats 2000000
/-! Vi24: the word of an error; meanings of Vi20, Vi22, Vi23 evaluated from the head. -/
namespace Vi
open PySem PySem.Spec PyProof.Rows L2
section
variable {fr : Fr} {st : Sto} {f e : ME} {xs : MA} {b : MS} {ds : List D} {d : D} {mk : List D → Sto → Out D}
theorem bIsE_s {a c : Addr} {k : Bool} : bIsE a c k [.ref a, .ref c] st = .ok (.bl k) st := if_pos ⟨rfl, rfl⟩
def kHot (d : D) (st : Sto) : Out ItD := match d with
  | .fl ds => .ok (.seq ds) st
  | .loc n => match st[n]? with
    | some (.lst ds) => .ok (.cell n ds) st
    | _ => .no
  | _ => .no
@[simp] theorem iHot_s : iHot f fr st = (f fr st).bind kHot := (rfl)
@[simp] theorem kHot_f : kHot (.fl ds) st = .ok (.seq ds) st := (rfl)
@[simp] theorem sTryW_s {T : STab} {wt : List (Nat × Str)} : sTryW T wt b fr st = kTryW T wt (b fr st) := (rfl)
@[simp] theorem kTryW_nx {T : STab} {wt : List (Nat × Str)} : kTryW T wt (.nx fr st) = .nx fr st := (rfl)
@[simp] theorem kTryW_rt {T : STab} {wt : List (Nat × Str)} : kTryW T wt (.rt d st) = .rt d st := (rfl)
@[simp] theorem kTryW_bk {T : STab} {wt : List (Nat × Str)} : kTryW T wt (.bk fr st) = .bk fr st := (rfl)
@[simp] theorem kTryW_ct {T : STab} {wt : List (Nat × Str)} : kTryW T wt (.ct fr st) = .ct fr st := (rfl)
theorem kTryW_ex {T : STab} {wt : List (Nat × Str)} {x : Nat} {w : Str} (h : stGet T x = some true) (hw : wGet wt x = some w) : kTryW T wt (.ex x fr st) = .rt (.str w) st := by simp only [kTryW, h, hw]
@[simp] theorem iEnum_s : iEnum xs fr st = (xs fr st).bind kEnum := (rfl)
@[simp] theorem kEnum_t : kEnum [.tup ds] st = .ok (.seq (enumd 0 ds)) st := (rfl)
@[simp] theorem kEnum_f : kEnum [.fl ds] st = .ok (.seq (enumd 0 ds)) st := (rfl)
@[simp] theorem kEnum_r : kEnum [.rol ds] st = .ok (.seq (enumd 0 ds)) st := (rfl)
theorem kEnum_l {n : Nat} (h : st[n]? = some (.lst ds)) : kEnum [.loc n] st = .ok (.view n ds (enumd 0 ds)) st := kEnumL_l h
@[simp] theorem eAllG_s {any : Bool} {i : Nat} : eAllG any i f e fr st = (f fr st).bind (kAllG any i e fr) := (rfl)
end
/-! ### the word of an error -/
def wordT : List (Nat × Str) := [(3, "range"), (1, "form"), (2, "none"), (4, "refused"), (5, "much"), (0, "many")]
theorem wordT_lt {x : Nat} {w : Str} (h : wGet wordT x = some w) : x < 6 := by
  unfold wordT at h
  simp only [wGet] at h
  repeat' split at h
  all_goals first | omega | (cases h)
/-- what is told of the errors' classes -/
structure ErrsK (K : PySem.W.Frag) : Prop where
  exc : ∀ (x : Nat) (C : Addr), x < 6 → clsAt K x C → L2.ExcC K C
  kit : ∀ (x y : Nat) (C D : Addr), x < 6 → 0 < y → y < 6 → clsAt K x C → clsAt K y D → PySem.W.kitOne K (.ref C) (.ref D) = some (x == y)
def mIsE (a : Addr) (c : Addr) (x y : Nat) : ME := eB (bIsE a c (x == y)) (aCons (eVar 0) (aCons (eC (.ref c)) aNil))
def m__law_word (a c3 c1 c2 c4 c5 : Addr) (x : Nat) : MS := sSeq (sSet 1 (eLst mkFl (aCons (mIsE a c3 x 3) (aCons (mIsE a c1 x 1) (aCons (mIsE a c2 x 2) (aCons (mIsE a c4 x 4) (aCons (mIsE a c5 x 5) aNil)))))))
  (sSeq (sIf (toB (eBin oNe (eB bLen (aCons (eLc mkFl [2] (iHot (eVar 1)) (gN 2) (toB (eVar 2)) (eVar 2)) aNil)) (eC (.int 1)))) (sRet (eC (.str "many"))) sNop)
    (sRet (eBin oIx (eLst mkFl (aCons (eC (.str "range")) (aCons (eC (.str "form")) (aCons (eC (.str "none")) (aCons (eC (.str "refused")) (aCons (eC (.str "much")) aNil)))))) (eMt mIndexB (eVar 1) (aCons (eC (.bl true)) aNil)))))
@[simp] theorem mIsE_s {a c : Addr} {x y : Nat} {fr : Fr} {st : Sto} : mIsE a c x y (some (.ref a) :: fr) st = .ok (.bl (x == y)) st := by
  unfold mIsE
  simp [bIsE_s]
theorem told_word {c3 c1 c2 c4 c5 : Addr} (a : Addr) (x : Nat) (w : Str) (st : Sto) (h : wGet wordT x = some w) : m__law_word a c3 c1 c2 c4 c5 x (some (.ref a) :: List.replicate (3 - 1) none) st = .rt (.str w) st := by
  have hx := wordT_lt h
  have hc : x = 0 ∨ x = 1 ∨ x = 2 ∨ x = 3 ∨ x = 4 ∨ x = 5 := by omega
  rcases hc with rfl | rfl | rfl | rfl | rfl | rfl <;> (simp [wGet, wordT] at h; subst h; simp [m__law_word, lcN, holdsB, mIndexB, asL, asBs, oNe, oEqN, kMt, oIx, asQ, atI, ixN, List.findIdx?_cons])
end Vi
set_option maxRecDepth 100000
set_option maxHeartbeats 2000000
/-! Vi25: what a module's top has written, told of classes and tables; the head of a law whose defs make generators. -/
namespace Vi
open PySem PySem.Spec PyProof.Rows L2
section
variable {K : PySem.W.Frag}
theorem flds_nil {f : Nat} : Flds K [] f := fun _ h => nomatch h
theorem flds_cons {x f : Nat} {C : Addr} {cs : List Nat} (a : clsAt K x C) (c : Cls K C) (n : PySem.W.findIn K (.ref C) (anm f) = some none) (r : Flds K cs f) : Flds K (x :: cs) f := fun y hy => by
  rcases List.mem_cons.mp hy with rfl | hy
  · exact ⟨C, a, c, n⟩
  · exact r y hy
/-! ### errors -/
def excB (K : PySem.W.Frag) (D : Addr) : Bool :=
  (PySem.W.findIn K (.ref D) "__getattribute__" == some (some (.builtin "BaseException.__getattribute__"))) && (PySem.W.findIn K (.ref D) "__getattr__" == some none) && (PySem.W.subIn K (.ref D) (.type "BaseException") == some true) && PySem.W.hasDictIn K D &&
    (PySem.W.findIn K (.ref D) "__class__" == some (some (.builtin "object.__class__"))) && (PySem.W.specialIn K (.builtin "object.__class__") "__get__" == some (some (.builtin "getset_descriptor.__get__"))) && (PySem.W.takesIn K (.builtin "object.__class__") == some true) && (PySem.W.mroIn K D (.type "object") == some true)
theorem excB_ok {D : Addr} (h : excB K D = true) : L2.ExcC K D := by
  unfold excB at h
  simp only [Bool.and_eq_true] at h
  obtain ⟨⟨⟨⟨⟨⟨⟨h1, h2⟩, h3⟩, h4⟩, h5⟩, h6⟩, h7⟩, h8⟩ := h
  exact ⟨beq_iff_eq.mp h1, beq_iff_eq.mp h2, beq_iff_eq.mp h3, h4, beq_iff_eq.mp h5, beq_iff_eq.mp h6, beq_iff_eq.mp h7, beq_iff_eq.mp h8⟩
def kitsB (K : PySem.W.Frag) (C : Addr) (x : Nat) : List (Nat × Addr) → Bool
  | [] => true
  | (y, D) :: r => (PySem.W.kitOne K (.ref C) (.ref D) == some (x == y)) && kitsB K C x r
theorem kitsB_at {C : Addr} {x : Nat} : ∀ {l : List (Nat × Addr)} {y : Nat} {D : Addr}, kitsB K C x l = true → (y, D) ∈ l → PySem.W.kitOne K (.ref C) (.ref D) = some (x == y)
  | (z, E) :: r, y, D, h, m => by
    unfold kitsB at h
    rw [Bool.and_eq_true] at h
    rcases List.mem_cons.mp m with e | m
    · cases e
      exact beq_iff_eq.mp h.1
    · exact kitsB_at h.2 m
def errsB (K : PySem.W.Frag) (l : List (Nat × Addr)) (ys : List (Nat × Addr)) : Bool := l.all fun p => excB K p.2 && kitsB K p.2 p.1 ys
theorem errs_of {C0 C1 C2 C3 C4 C5 : Addr} (a0 : clsAt K 0 C0) (a1 : clsAt K 1 C1) (a2 : clsAt K 2 C2) (a3 : clsAt K 3 C3) (a4 : clsAt K 4 C4) (a5 : clsAt K 5 C5)
    (h : errsB K [(0, C0), (1, C1), (2, C2), (3, C3), (4, C4), (5, C5)] [(1, C1), (2, C2), (3, C3), (4, C4), (5, C5)] = true) : ErrsK K := by
  have pick : ∀ (x : Nat) (C : Addr), x < 6 → clsAt K x C → (x, C) ∈ [(0, C0), (1, C1), (2, C2), (3, C3), (4, C4), (5, C5)] := fun x C hx hC => by
    have hc : x = 0 ∨ x = 1 ∨ x = 2 ∨ x = 3 ∨ x = 4 ∨ x = 5 := by omega
    rcases hc with rfl | rfl | rfl | rfl | rfl | rfl
    · rw [hC.inj a0]; simp
    · rw [hC.inj a1]; simp
    · rw [hC.inj a2]; simp
    · rw [hC.inj a3]; simp
    · rw [hC.inj a4]; simp
    · rw [hC.inj a5]; simp
  have all := List.all_eq_true.mp h
  refine ⟨fun x C hx hC => ?_, fun x y C D hx hy hy2 hC hD => ?_⟩
  · have := all (x, C) (pick x C hx hC)
    rw [Bool.and_eq_true] at this
    exact excB_ok this.1
  · have := all (x, C) (pick x C hx hC)
    rw [Bool.and_eq_true] at this
    have m := pick y D hy2 hD
    refine kitsB_at this.2 ?_
    rcases List.mem_cons.mp m with e | m
    · cases e
      exact absurd hy (by decide)
    · exact m
/-! ### a def, by a head's facts -/
theorem fun_of_D {x qual : Str} {st : Stmt} {f : Addr} {fd : FuncData} (F : FunD K x qual (defArgs st) (defBody st) (defScope st) [] [] f fd) : Fun K x qual st f fd := by
  obtain ⟨⟨oc, od, dV, kV, doc, pm, an, cdv, ct, osl, h1, h2, h3, h4, h5⟩, kp⟩ := F
  rcases h4 with ⟨_, rfl⟩ | ⟨h4, _⟩
  · exact ⟨⟨oc, od, kV, doc, pm, an, cdv, ct, osl, h1, h2, h3⟩, kp⟩
  · exact absurd rfl h4
def codeB (K : PySem.W.Frag) (p : Str × Option Str) : Bool := match K.lookup (He.fAd K p) with
  | some ⟨_, _, .func fd, _⟩ => fd.code == .ref (He.codeOf K p)
  | _ => false
theorem codeB_ok {p : Str × Option Str} {oc : Value} {od : Option Addr} {fd : FuncData} {sl : Array (Option Value)} (l : K.lookup (He.fAd K p) = some ⟨oc, od, .func fd, sl⟩) (h : codeB K p = true) : fd.code = .ref (He.codeOf K p) := by
  unfold codeB at h
  rw [l] at h
  exact beq_iff_eq.mp h
/-! ### tables -/
theorem codeHd_one {c P P' : Addr} (h : PySem.W.codeHdIn K c P = true) (h' : PySem.W.codeHdIn K c P' = true) : P = P' := by
  unfold PySem.W.codeHdIn at h h'
  split at h
  · rename_i vs _ hk
    rw [hk] at h'
    simp only [Bool.and_eq_true] at h h'
    obtain ⟨⟨⟨⟨⟨e1, _⟩, _⟩, _⟩, _⟩, _⟩ := h
    obtain ⟨⟨⟨⟨⟨e2, _⟩, _⟩, _⟩, _⟩, _⟩ := h'
    split at e1
    · rename_i P1 h11
      rw [h11] at e2
      rw [← beq_iff_eq.mp e1]
      exact beq_iff_eq.mp e2
    · cases e1
  · cases h
theorem isTab_of {x : String} {f c P : Addr} {oc : Value} {od : Option Addr} {fd : FuncData} {sl : Array (Option Value)} (hx : x ∈ gens) (a : PySem.W.nsIn K mainGlobals (Str.ofString x) = some (some (.ref f))) (l : K.lookup f = some ⟨oc, od, .func fd, sl⟩) (hc : fd.code = .ref c) (hd : PySem.W.codeHdIn K c P = true) : IsTab K P :=
  ⟨x, hx, f, oc, od, fd, sl, c, a, l, hc, hd⟩
theorem isTab_row {f c P Q : Addr} {oc : Value} {od : Option Addr} {fd : FuncData} {sl : Array (Option Value)} (hg : gens = ["is_row"]) (a : PySem.W.nsIn K mainGlobals "is_row" = some (some (.ref f))) (l : K.lookup f = some ⟨oc, od, .func fd, sl⟩) (hc : fd.code = .ref c) (hd : PySem.W.codeHdIn K c P = true) (h : IsTab K Q) : Q = P := by
  obtain ⟨x, hx, f', oc', od', fd', sl', c', a', l', hc', hd'⟩ := h
  rw [hg, List.mem_singleton] at hx
  subst hx
  have e1 := a.symm.trans a'
  cases e1
  have e2 := l.symm.trans l'
  cases e2
  have e3 := hc.symm.trans hc'
  cases e3
  exact codeHd_one hd' hd
end
end Vi
set_option maxRecDepth 100000
set_option maxHeartbeats 2000000
/-! Vi26: t[::-1] of a tuple. -/
namespace Vi
open PySem PySem.Spec PyProof.Rows L2
theorem adjR (n : Nat) : Builtin.Slice.sliceAdjust none none (-1) (n : Int) = ((n : Int) - 1, -1) := (rfl)
theorem plcR (n : Nat) : Builtin.Slice.slicePlaces ((n : Int) - 1) (-1) (-1) = n := by
  unfold Builtin.Slice.slicePlaces
  have h1 : ¬ ((-1 : Int) > 0) := by omega
  simp only [h1, if_false]
  split
  · have e : (-(-1 : Int)) = 1 := (rfl)
    rw [e, Int.ediv_one]
    omega
  · omega
theorem pickR (xs : Array Value) : ((List.range xs.size).filterMap fun (m : Nat) => xs[((xs.size : Int) - 1 + (m : Int) * (-1)).toNat]?).toArray = xs.toList.reverse.toArray := by
  have e : ((List.range xs.size).filterMap fun (m : Nat) => xs[((xs.size : Int) - 1 + (m : Int) * (-1)).toNat]?) = (List.range xs.size).filterMap fun (m : Nat) => xs[xs.size - 1 - m]? := by
    congr 1
    funext m
    have : ((xs.size : Int) - 1 + (m : Int) * (-1)).toNat = xs.size - 1 - m := by omega
    rw [this]
  rw [e]
  have h2 := PySem.W.krv_all xs
  have h3 := PySem.W.krv_range xs.size
  have h4 : ((List.range xs.size).filterMap fun (m : Nat) => xs[xs.size - 1 - m]?) = ((List.range xs.size).map fun k => xs.size - 1 - k).filterMap (xs[·]?) := by
    rw [List.filterMap_map]
    rfl
  rw [h4, h3, List.filterMap_reverse, h2]
section
variable {prog : Program} {w : World} {A : Around} {E : Value → Shared → Prop} {s : Shared}
theorem slApR {sl : Addr} {vs : Value} {n : Nat} {Q : Int × Int × Nat → Shared → Prop} (sd : s.heap.IsSliceOf sl .none .none vs) (pt : IsPart vs (some (-1))) (k : Q ((n : Int) - 1, -1, n) s) :
    wpAny (model prog w) A (Builtin.Slice.sliceApplied (.ref sl) (pure (n : Int))) Q E s := by
  obtain ⟨ob, at_, _, fs⟩ := id sd
  unfold Builtin.Slice.sliceApplied Builtin.Slice.sliceFields
  refine wpAny_bind (wpAny_bind (wpAny_field at_ fs (x := .none) rfl (wpAny_bind (wpAny_field at_ fs (x := .none) rfl (wpAny_bind (wpAny_field at_ fs (x := vs) rfl (wpAny_pure ?_)))))))
  refine wpAny_bind (HT.slicePart_ pt ?_)
  show wpAny _ _ (if ((-1 : Int) == 0) = true then _ else _) _ _ s
  rw [if_neg (by decide)]
  refine wpAny_bind (HT.slicePart_ .none (wpAny_bind (HT.slicePart_ .none (wpAny_bind (wpAny_pure ?_)))))
  show wpAny _ _ (match Builtin.Slice.sliceAdjust none none (-1) (n : Int) with | (lo, hi) => pure (lo, (-1 : Int), Builtin.Slice.slicePlaces lo hi (-1))) _ _ s
  rw [adjR n]
  show wpAny _ _ (pure ((n : Int) - 1, (-1 : Int), Builtin.Slice.slicePlaces ((n : Int) - 1) (-1) (-1))) _ _ s
  rw [plcR]
  exact wpAny_pure k
theorem getTupR {t sl : Addr} {xs : Array Value} {vs : Value} {Q : Value → Shared → Prop} (tt : IsTup s.heap t xs) (sd : s.heap.IsSliceOf sl .none .none vs) (pt : IsPart vs (some (-1)))
    (k : Q (.ref s.heap.objs.size) { s with heap := s.heap.push { cls := .type "tuple", data := .seq xs.toList.reverse.toArray } }) (fit : xs.size ≤ sizeLine) : wpAny (model prog w) A (getItem (.ref t) (.ref sl)) Q E s := by
  have small : sizeOk (.seq xs.toList.reverse.toArray) := by
    show xs.toList.reverse.toArray.size ≤ sizeLine
    rw [List.size_toArray, List.length_reverse, Array.length_toList]
    exact fit
  obtain ⟨ob, at_, cl, fs⟩ := id sd
  have ty : s.TypeIs (.ref sl) "slice" := ⟨ob, at_, cl⟩
  unfold getItem
  try with_reducible refine wpAny_holding ?_
  first | refine wpAny_bind (wpAny_pure ?_) | skip
  refine wpAny_bind (wpAny_sequenceKey tt.typeIs (by decide) ?_)
  refine wpAny_bind (wpAny_callSpecial?_slot (name := Str.ofString "__getitem__") tt.typeIs PyProof.Rows.slot_tuple_getitem
    (wpAny_call_entry PyProof.Rows.slot_tuple_getitem tt.typeIs PyProof.Rows.entry_tuple_getitem ?_ (PyProof.Rows.args_tuple_getitem _ _)))
  show wpAny _ _ (Builtin.Tuple.tupleItemsOf (.ref t) >>= _) _ _ s
  refine wpAny_bind (PyProof.Rows.tupleItemsOf_ tt ?_)
  refine wpAny_bind (wpAny_typeOf ty ?_)
  rw [if_pos (by decide)]
  refine wpAny_bind (slApR sd pt ?_)
  have hno : ¬ ((((xs.size : Int) - 1 == 0 && (-1 : Int) == 1 && xs.size == xs.size) = true)) := by
    intro q
    rw [Bool.and_eq_true, Bool.and_eq_true] at q
    exact absurd q.1.2 (by decide)
  show wpAny _ _ (if ((xs.size : Int) - 1 == 0 && (-1 : Int) == 1 && xs.size == xs.size) = true then _ else _) _ _ s
  rw [if_neg hno, pickR]
  first
    | exact wpAny_bind (m := Builtin.Tuple.tupleExact _) (wpAny_newObj_type (wpAny_pure ⟨_, rfl, wpAny_pure k⟩) small)
    | exact wpAny_bind (m := Builtin.Tuple.tupleExact _) (wpAny_newObj_type (wpAny_bind (wpAny_pure (wpAny_pure ⟨_, rfl, wpAny_pure k⟩))) small)
    | exact wpAny_bind (wpAny_bind (m := Builtin.Tuple.tupleExact _) (wpAny_newObj_type (wpAny_pure (wpAny_pure ⟨_, rfl, wpAny_pure k⟩)) small))
    | exact wpAny_bind (wpAny_bind (m := Builtin.Tuple.tupleExact _) (wpAny_newObj_type (wpAny_pure ⟨_, rfl, wpAny_pure k⟩) small))
end
section
variable {X : Cx} {W : WX} {pos : Pos}
def tRevA (K : PySem.W.Frag) (te : TE) : TE := fun σ H Q => te σ H fun x H1 =>
  (∃ a xs, x = .ref a ∧ SqL K H1 a xs ∧ ∀ p, H1 p = none → Q (.ref p) (upd H1 p (.lst xs.reverse))) ∨
  (∃ a xs, x = .ref a ∧ SqT K H1 a xs ∧ ∀ p, H1 p = none → Q (.ref p) (upd H1 p (.tup xs.reverse)))
theorem pe_revA {e : Expr} {te : TE} {k : Nat} {p1 p2 p3 : Pos} (he : PE X e te) : PE X (.Subscript e (.Slice none none (some (.UnaryOp .USub (.Constant (.int 1) k p1) p2)) p3) pos) (tRevA X.K te) := by
  refine ⟨fun pins s σ H Q I h => ?_⟩
  refine Subscript_ (thn (he.run pins s σ H _ I h) fun v s1 ⟨x, H1, I1, r1, q1⟩ => ?_)
  have hst : PO X (some (.UnaryOp .USub (.Constant (.int 1) k p1) p2)) (tPart (tUn (rU fun i => .int (-i)) (tC (.int 1)))) := po_some (pe_un un_neg pe_int)
  refine wpAny_Slice (thn (po_none.run pins s1 σ H1 (fun o H2 => o = none ∧ H2 = H1) I1 ⟨rfl, rfl⟩) fun vl s2 ⟨l, H2, I2, pl, el, e2⟩ => ?_)
  subst el e2
  refine thn (po_none.run pins s2 σ H2 (fun o H3 => o = none ∧ H3 = H2) I2 ⟨rfl, rfl⟩) fun vu s3 ⟨u, H3, I3, pu, eu, e3⟩ => ?_
  subst eu e3
  refine thn (hst.run pins s3 σ H3 (fun o H4 => o = some (-1) ∧ H4 = H3) I3 ⟨1, rfl, -1, rfl, rfl, rfl⟩) fun vs s4 ⟨o, H4, I4, ps, eo, e4⟩ => ?_
  subst eo e4
  have I5 : Inv X pins σ H4 { s4 with heap := s4.heap.push { cls := .type "slice", data := .fields #[vl, vu, vs] } } := I4.kept (t' := s4.toks) fun b ob q => Heap.get?_push_of_some _ q
  rcases q1 with ⟨a, xs, ex, hx, q⟩ | ⟨a, xs, ex, hx, q⟩
  · subst ex
    cases r1
    obtain ⟨its, r, ht, hz⟩ := I5.list hx
    show wpAny (model X.prog X.w) X.A (subscriptTail e (.Slice none none (some (.UnaryOp .USub (.Constant (.int 1) k p1) p2)) p3) (.ref a) (.ref s4.heap.objs.size)) (EP X pins σ Q) X.xe { s4 with heap := s4.heap.push { cls := .type "slice", data := .fields #[vl, vu, vs] } }
    have hlen := r.length
    refine tail_any (ops := [.ref a, .ref s4.heap.objs.size]) ht.isList.typeIs (PySem.slot_list_getitem.lookup) ?_ (by with_unfolding_all rfl)
    refine wpAny_getItem_list_slice ht.isList (Heap.IsSliceOf.new _ vl vu vs) pl pu ps (by decide) ?_ (by rw [List.size_toArray]; omega)
    rw [PySem.W.krv_pick]
    refine ⟨.ref _, _, I5.laid (t' := s4.toks) (o := .lst xs.reverse) (fun b ob q => Heap.get?_push_of_some _ q) (Nat.le_refl _) ?_, rfl, q _ (I5.hok.fresh (Nat.le_refl _))⟩
    exact ⟨by rw [List.length_reverse]; exact hz, _, 0, r.reverse, Heap.get?_push_size _ rfl⟩
  · subst ex
    cases r1
    cases pl
    cases pu
    obtain ⟨its, r, ht, hz⟩ := I5.tuple hx
    have hlen : its.toArray.size = xs.length := by rw [List.size_toArray]; exact r.length.symm
    show wpAny (model X.prog X.w) X.A (subscriptTail e (.Slice none none (some (.UnaryOp .USub (.Constant (.int 1) k p1) p2)) p3) (.ref a) (.ref s4.heap.objs.size)) (EP X pins σ Q) X.xe { s4 with heap := s4.heap.push { cls := .type "slice", data := .fields #[.none, .none, vs] } }
    refine tail_any (ops := [.ref a, .ref s4.heap.objs.size]) ht.typeIs PyProof.Rows.slot_tuple_getitem.lookup ?_ (by with_unfolding_all rfl)
    refine getTupR ht (Heap.IsSliceOf.new _ .none .none vs) ps ?_ (by rw [hlen]; exact hz)
    refine ⟨.ref _, _, I5.laid (t' := s4.toks) (o := .tup xs.reverse) (fun b ob q => Heap.get?_push_of_some _ q) (Nat.le_refl _) ?_, rfl, q _ (I5.hok.fresh (Nat.le_refl _))⟩
    exact ⟨by rw [List.length_reverse]; exact hz, _, r.reverse, IsTup.new _ _⟩
def kRevA (mk : List D → Sto → Out D) (d : D) (st : Sto) : Out D := match d with
  | .tup ds => .ok (.tup ds.reverse) st
  | d => match asL st d with
    | some ds => mk ds.reverse st
    | none => .no
/-- xs[::-1] of a list or a tuple -/
def eRevA (mk : List D → Sto → Out D) (f : ME) (fr : Fr) (st : Sto) : Out D := (f fr st).bind (kRevA mk)
theorem e_revA {mk : List D → Sto → Out D} (m : MkL mk) {e : Expr} {k : Nat} {p1 p2 p3 : Pos} {f : ME} (he : IE X W e f) : IE X W (.Subscript e (.Slice none none (some (.UnaryOp .USub (.Constant (.int 1) k p1) p2)) p3) pos) (eRevA mk f) := by
  refine ⟨PE.imp (pe_revA he.pe) fun σ H Q h => ?_⟩
  obtain ⟨R, st, fr, rel, rf, ok⟩ := h
  refine ⟨R, st, fr, rel, rf, okG.imp (okG.bind ok) fun x H1 R1 d st1 e1 rel1 r1 _ q => ?_⟩
  obtain ⟨R2, st2, d2, e2, rel2, r2, ok2⟩ := q
  unfold kRevA at ok2
  split at ok2
  · rename_i ds
    obtain ⟨a, vs, rfl, hs, rr⟩ := r2
    refine .inr ⟨a, vs, rfl, hs, fun p hp => ?_⟩
    exact ok2 _ R2 _ (Ext.new hp) (rel2.aside hp) ⟨p, _, rfl, .inl (.inl upd_same), rr.reverse.mono (Ext.new hp)⟩
  · split at ok2
    · rename_i ds e
      obtain ⟨a, vs, rfl, hs, rr⟩ := asL_ok rel2 r2 e
      exact .inl ⟨a, vs, rfl, hs, (m.ok rel2 rr.reverse ok2).2⟩
    · exact ok2.elim
@[simp] theorem eRevA_s {mk : List D → Sto → Out D} {f : ME} {fr : Fr} {st : Sto} : eRevA mk f fr st = (f fr st).bind (kRevA mk) := (rfl)
@[simp] theorem kRevA_t {mk : List D → Sto → Out D} {ds : List D} {st : Sto} : kRevA mk (.tup ds) st = .ok (.tup ds.reverse) st := (rfl)
@[simp] theorem kRevA_f {mk : List D → Sto → Out D} {ds : List D} {st : Sto} : kRevA mk (.fl ds) st = mk ds.reverse st := (rfl)
theorem kRevA_l {mk : List D → Sto → Out D} {n : Nat} {ds : List D} {st : Sto} (e : st[n]? = some (.lst ds)) : kRevA mk (.loc n) st = mk ds.reverse st := by simp only [kRevA, asL, e]
end
end Vi
set_option maxRecDepth 100000
namespace Pg
open PySem PySem.Spec PyProof.Rows L2 Vi
noncomputable section
/-! _law_draws(script): slots 0:script 1:draws 2:cell 3:number 4:first 5:k 6:seed -/
def m__law_draws_b2 : MS := (wS [0, 2, 3, 4, 5] (sSeq (sSet 6 (eBin oMod (eB bInt (aCons (eBin (oAddG mkFl) (eBin (oMulG mkFl) (eVar 6) (eC (.int 48271))) (eC (.int 69621))) aNil)) (eC (.int 2147483647))))
    (sExpr (eMt mAppend (eVar 1) (aCons (eBin oFdiv (eVar 6) (eC (.int 5))) aNil)))))
def m__law_draws_b1 : MS := (wS [2, 4, 5, 6] (sIf (toB (eBin oGt (eVar 3) (eC (.int 0)))) (sSeq (sExpr (eMt mAppend (eVar 1) (aCons (eBin oMod (eB bInt (aCons (eVar 3) aNil)) (eC (.int 997))) aNil)))
    (sSet 3 (eBin oFdiv (eVar 3) (eC (.int 997))))) sNop))
def m__law_draws_b0 : MS := (wS [2, 3, 4, 5, 6] (sSeq (sSet 3 (eB bAbs (aCons (eVar 2) aNil)))
    (sSeq (sIf (toB (eBin oLt (eVar 3) (eBin oPow (eC (.int 10)) (eC (.int 18))))) (sSeq (sSet 4 (eBin oMod (eB bInt (aCons (eBin (oAddG mkFl) (eBin (oMulG mkFl) (eVar 3) (eC (.int 48271))) (eC (.int 11))) aNil)) (eC (.int 2147483647))))
    (sSeq (sExpr (eMt mAppend (eVar 1) (aCons (eBin oMod (eB bInt (aCons (eBin (oAddG mkFl) (eBin (oMulG mkFl) (eVar 4) (eC (.int 69621))) (eVar 3)) aNil)) (eC (.int 2147483629))) aNil)))
    (sSeq (sExpr (eMt mAppend (eVar 1) (aCons (eBin oMod (eB bInt (aCons (eBin (oAddG mkFl) (eVar 4) (eBin oFdiv (eVar 3) (eC (.int 7)))) aNil)) (eC (.int 1000003))) aNil)))
    (sSet 3 (eC (.int 0)))))) sNop)
    (wS [2, 3, 4, 5, 6] (sW [2, 4, 5, 6] (sFor (iRange1 (aCons (eC (.int 60)) aNil)) (gN 5) m__law_draws_b1))))))
def m__law_draws : MS := (sSeq (sSet 1 (eLst mkLst aNil))
    (sSeq (wS [2, 3, 4, 5, 6] (sW [2, 3, 4, 5, 6] (sFor (iSeq (eVar 0)) (gN 2) m__law_draws_b0)))
    (sSeq (sSet 6 (eC (.int 1)))
    (sSeq (sIf (toB (eBin oGt (eB bLen (aCons (eVar 0) aNil)) (eC (.int 0)))) (sSet 6 (eBin (oAddG mkFl) (eC (.int 1)) (eB bAbs (aCons (eBin oIx (eVar 0) (eC (.int 0))) aNil)))) sNop)
    (sSeq (wS [0, 2, 3, 4, 5, 6] (sW [0, 2, 3, 4, 5] (sFor (iRange1 (aCons (eC (.int 900)) aNil)) (gN 5) m__law_draws_b2)))
    (sRet (eLRev mkLst (eVar 1))))))))
def f__law_draws : MF := (mF 1 7 m__law_draws)
/-! _law_take(draws, bound): slots 0:draws 1:bound -/
def m__law_take : MS := (sSeq (sIf (toB (eBin oEq (eB bLen (aCons (eVar 0) aNil)) (eC (.int 0)))) (sRet (eC (.int 0))) sNop)
    (sRet (eBin oMod (eB bInt (aCons (eMt0 mPop (eVar 0)) aNil)) (eVar 1))))
def f__law_take : MF := mFz (mF 2 2 m__law_take)
/-! _law_row(draws): slots 0:draws 1:kind 2:found 3:k 4:bit -/
def m__law_row_b0 : MS := (wS [3, 4] (sSeq (sSet 4 (eBin oIx (eLst mkFl (aCons (eCall f__law_take (aCons (eVar 0) (aCons (eC (.int 2)) aNil))) (aCons (eB bInt (aCons (eBin oEq (eCall f__law_take (aCons (eVar 0) (aCons (eC (.int 12)) aNil))) (eC (.int 0))) aNil)) (aCons (eB bInt (aCons (eBin oGt (eCall f__law_take (aCons (eVar 0) (aCons (eC (.int 12)) aNil))) (eC (.int 0))) aNil)) (aCons (eC (.int 0)) aNil))))) (eVar 1)))
    (sSeq (sIf (toB (eBin oEq (eVar 1) (eC (.int 3)))) (sSet 4 (eIf (bAnd (toB (eBin oNe (eVar 2) (eLst mkFl aNil))) (toB (eBin oGt (eCall f__law_take (aCons (eVar 0) (aCons (eC (.int 6)) aNil))) (eC (.int 0))))) (eBin oIx (eVar 2) (eUn (fun i => -i) (eC (.int 1)))) (eCall f__law_take (aCons (eVar 0) (aCons (eC (.int 2)) aNil))))) sNop)
    (sExpr (eMt mAppend (eVar 2) (aCons (eVar 4) aNil))))))
def m__law_row : MS := (sSeq (sPar2 1 2 (aCons (eCall f__law_take (aCons (eVar 0) (aCons (eC (.int 4)) aNil))) (aCons (eLst mkLst aNil) aNil)))
    (sSeq (wS [0, 1, 3, 4] (sW [3, 4] (sFor (iRange1 (aCons (eBin (oAddG mkFl) (eC (.int 1)) (eCall f__law_take (aCons (eVar 0) (aCons (eC (.int 59)) aNil)))) aNil)) (gN 3) m__law_row_b0)))
    (sRet (eB bTuple (aCons (eVar 2) aNil)))))
def f__law_row : MF := mFz (mF 1 5 m__law_row)
/-! has_goal(begin, turns, goal): slots 0:begin 1:turns 2:goal -/
def m_has_goal : MS := (sRet (eChain oLe oLe (eBin (oAddG mkFl) (eVar 0) (eBin oIx (eVar 1) (eC (.int 1)))) (eVar 2) (eBin (oAddG mkFl) (eVar 0) (eBin oIx (eVar 1) (eC (.int 2))))))
def f_has_goal : MF := mFz (mF 3 3 m_has_goal)
/-! is_number(value, least, most): slots 0:value 1:least 2:most -/
def m_is_number : MS := (sRet (vAnd (eB bIsi (aCons (eVar 0) (aCons (eC (.ty "int")) aNil))) (vAnd (vNot (eB bIsi (aCons (eVar 0) (aCons (eC (.ty "bool")) aNil)))) (eChain oLe oLe (eVar 1) (eVar 0) (eVar 2)))))
def f_is_number : MF := mFz (mF 3 3 m_is_number)
def fq_is_number : MF := mF 3 3 (sRet (vAndQ (eIsiI "int" (eVarQ 0)) (vAndQ (vNotQ (eIsiI "bool" (eVarQ 0))) (eBtw (eVarQ 1) (eVarQ 0) (eVarQ 2)))))
/-! LeastTree.check(self, place): slots 0:self 1:place -/
def m_LeastTree_check : MS := (sIf (bNot (toB (eCall f_is_number (aCons (eVar 1) (aCons (eC (.int 0)) (aCons (eFld [16] 114 (eVar 0)) aNil)))))) (sRs 2) sNop)
def f_LeastTree_check : MF := mFz (mF 2 2 m_LeastTree_check)
/-! Row.check(self, place, most): slots 0:self 1:place 2:most -/
def m_Row_check : MS := (sIf (bNot (toB (eCall f_is_number (aCons (eVar 1) (aCons (eC (.int 0)) (aCons (eVar 2) aNil)))))) (sRs 2) sNop)
def f_Row_check : MF := mFz (mF 3 3 m_Row_check)
/-! Row.ones_ahead(self, place): slots 0:self 1:place 2:block 3:inner -/
def m_Row_ones_ahead : MS := (sSeq (sLk [25, 16] (eVar 0) (eC (.int 3)))
    (sSeq (sSet 2 (eBin oFdiv (eVar 1) (eC (.int 8))))
    (sSeq (sSet 3 (eB bSumA (aCons (eSl mkFl (eFld [25, 16] 24 (eVar 0)) (pSome (eBin (oMulG mkFl) (eVar 2) (eC (.int 8)))) (pSome (eVar 1))) aNil)))
    (sRet (eBin (oAddG mkFl) (eBin (oAddG mkFl) (eBin oIx (eFld [25] 74 (eVar 0)) (eBin oFdiv (eVar 2) (eC (.int 8)))) (eBin oIx (eFld [25] 26 (eVar 0)) (eVar 2))) (eVar 3))))))
def f_Row_ones_ahead : MF := mFz (mF 2 4 m_Row_ones_ahead)
/-! Row.count(self, bit, place): slots 0:self 1:bit 2:place 3:ones -/
def m_Row_count : MS := (sSeq (sExpr (eMth [(25, f_Row_check)] 34 (eVar 0) (aCons (eVar 2) (aCons (eB bLen (aCons (eFld [25, 16] 24 (eVar 0)) aNil)) aNil))))
    (sSeq (sSet 3 (eMth [(25, f_Row_ones_ahead)] 140 (eVar 0) (aCons (eVar 2) aNil)))
    (sRet (eIf (toB (eBin oEq (eVar 1) (eC (.int 1)))) (eVar 3) (eBin oSub (eVar 2) (eVar 3))))))
def f_Row_count : MF := mFz (mF 3 4 m_Row_count)
/-! LeastTree.rise(self, place): slots 0:self 1:place -/
def m_LeastTree_rise : MS := (sSeq (sExpr (eMth [(16, f_LeastTree_check)] 34 (eVar 0) (aCons (eVar 1) aNil)))
    (sRet (eBin oSub (eBin (oMulG mkFl) (eC (.int 2)) (eMth [(25, f_Row_count)] 46 (eFld [16] 164 (eVar 0)) (aCons (eC (.int 1)) (aCons (eVar 1) aNil)))) (eVar 1))))
def f_LeastTree_rise : MF := mFz (mF 2 2 m_LeastTree_rise)
/-! turns_of(bits): slots 0:bits 1:rise 2:least 3:most 4:often 5:place 6:bit -/
def m_turns_of_b0 : MS := (wS [5, 6] (sSeq (sAug 1 oAdd (eIf (toB (eBin oEq (eVar 6) (eC (.int 1)))) (eC (.int 1)) (eUn (fun i => -i) (eC (.int 1)))))
    (sSeq (sIf (bOr (toB (eBin oEq (eVar 5) (eC (.int 0)))) (toB (eBin oLt (eVar 1) (eVar 2)))) (sPar2 2 4 (aCons (eVar 1) (aCons (eC (.int 0)) aNil))) sNop)
    (sSeq (sAug 4 oAdd (eIf (toB (eBin oEq (eVar 1) (eVar 2))) (eC (.int 1)) (eC (.int 0))))
    (sSet 3 (eIf (toB (eBin oEq (eVar 5) (eC (.int 0)))) (eVar 1) (eB bMax (aCons (eVar 3) (aCons (eVar 1) aNil)))))))))
def m_turns_of : MS := (sSeq (sAsg (eTup (aCons (eC (.int 0)) (aCons (eC (.int 1)) (aCons (eUn (fun i => -i) (eC (.int 1))) (aCons (eC (.int 0)) aNil))))) (gT 4 (gsCons (gN 1) (gsCons (gN 2) (gsCons (gN 3) (gsCons (gN 4) gsNil))))))
    (sSeq (wS [0, 5, 6] (sW [5, 6] (sFor (iEnum (aCons (eVar 0) aNil)) (gT 2 (gsCons (gN 5) (gsCons (gN 6) gsNil))) m_turns_of_b0)))
    (sRet (eTup (aCons (eVar 1) (aCons (eVar 2) (aCons (eVar 3) (aCons (eVar 4) aNil))))))))
def f_turns_of : MF := mFz (mF 1 7 m_turns_of)
/-! LeastTree.look(self, piece): slots 0:self 1:piece 2:first 3:behind 4:node -/
def m_LeastTree_look : MS := (sSeq (sLk [25, 16] (eVar 0) (eC (.int 1)))
    (sSeq (sAsg (eVar 1) (gT 3 (gsCons (gN 2) (gsCons (gN 3) (gsCons (gN 4) gsNil)))))
    (sRet (eIf (toB (eBin oIsN (eVar 4) (eC .non))) (eCall f_turns_of (aCons (eSl mkFl (eFld [25, 16] 24 (eVar 0)) (pSome (eVar 2)) (pSome (eVar 3))) aNil)) (eBin oIx (eFld [16] 131 (eVar 0)) (eVar 4))))))
def f_LeastTree_look : MF := mFz (mF 2 5 m_LeastTree_look)
/-! LeastTree.halves(self, piece): slots 0:self 1:piece 2:first 3:behind 4:node 5:middle -/
def m_LeastTree_halves : MS := (sSeq (sAsg (eVar 1) (gT 3 (gsCons (gN 2) (gsCons (gN 3) (gsCons (gN 4) gsNil)))))
    (sSeq (sSet 5 (eBin oFdiv (eBin (oAddG mkFl) (eVar 2) (eVar 3)) (eC (.int 2))))
    (sRet (eTup (aCons (eTup (aCons (eVar 2) (aCons (eVar 5) (aCons (eBin (oMulG mkFl) (eC (.int 2)) (eVar 4)) aNil)))) (aCons (eTup (aCons (eVar 5) (aCons (eVar 3) (aCons (eBin (oAddG mkFl) (eBin (oMulG mkFl) (eC (.int 2)) (eVar 4)) (eC (.int 1))) aNil)))) aNil))))))
def f_LeastTree_halves : MF := mFz (mF 2 6 m_LeastTree_halves)
/-! LeastTree.is_block(self, piece): slots 0:self 1:piece -/
def m_LeastTree_is_block : MS := (sRet (eBin oLe (eBin oSub (eBin oIx (eVar 1) (eC (.int 1))) (eBin oIx (eVar 1) (eC (.int 0)))) (eC (.int 8))))
def f_LeastTree_is_block : MF := mFz (mF 2 2 m_LeastTree_is_block)
/-! LeastTree.first_in(self, piece, now, goal): slots 0:self 1:piece 2:now 3:goal 4:left 5:right 6:turns 7:place -/
def m_LeastTree_first_in_b1 : MS := (wS [4, 5, 6] (sSeq (sAug 2 oAdd (eIf (toB (eBin oEq (eBin oIx (eFld [25, 16] 24 (eVar 0)) (eVar 7)) (eC (.int 1)))) (eC (.int 1)) (eUn (fun i => -i) (eC (.int 1)))))
    (sAug 7 oAdd (eC (.int 1)))))
def m_LeastTree_first_in_b0 : MS := (wS [4, 5, 6, 7] (sSeq (sAsg (eMth [(16, f_LeastTree_halves)] 75 (eVar 0) (aCons (eVar 1) aNil)) (gT 2 (gsCons (gN 4) (gsCons (gN 5) gsNil))))
    (sSeq (sSet 6 (eMth [(16, f_LeastTree_look)] 115 (eVar 0) (aCons (eVar 4) aNil)))
    (sIf (toB (eCall f_has_goal (aCons (eVar 2) (aCons (eVar 6) (aCons (eVar 3) aNil))))) (sSet 1 (eVar 4)) (sPar2 2 1 (aCons (eBin (oAddG mkFl) (eVar 2) (eBin oIx (eVar 6) (eC (.int 0)))) (aCons (eVar 5) aNil)))))))
def m_LeastTree_first_in : MS := (sSeq (wS [4, 5, 6, 7] (sW [4, 5, 6, 7] (sWhile (bNot (toB (eMth [(16, f_LeastTree_is_block)] 86 (eVar 0) (aCons (eVar 1) aNil)))) m_LeastTree_first_in_b0)))
    (sSeq (sLk [25, 16] (eVar 0) (eC (.int 1)))
    (sSeq (sSet 7 (eBin oIx (eVar 1) (eC (.int 0))))
    (sSeq (wS [0, 1, 2, 3, 4, 5, 6] (sW [4, 5, 6] (sWhile (bOr (toB (eBin oEq (eVar 7) (eBin oIx (eVar 1) (eC (.int 0))))) (toB (eBin oNe (eVar 2) (eVar 3)))) m_LeastTree_first_in_b1)))
    (sRet (eVar 7))))))
def f_LeastTree_first_in : MF := mFz (mF 4 8 m_LeastTree_first_in)
/-! LeastTree.pieces(self, begin, end): slots 0:self 1:begin 2:end 3:found 4:place 5:behind 6:node 7:size -/
def m_LeastTree_pieces_b1 : MS := (wS [1, 5] (sPar2 6 7 (aCons (eBin oFdiv (eVar 6) (eC (.int 2))) (aCons (eBin (oMulG mkFl) (eC (.int 2)) (eVar 7)) aNil))))
def m_LeastTree_pieces_b0 : MS := (wS [1, 5, 6, 7] (sSeq (sIf (bOr (toB (eBin oNe (eBin oMod (eVar 4) (eC (.int 8))) (eC (.int 0)))) (toB (eBin oGt (eBin (oAddG mkFl) (eVar 4) (eC (.int 8))) (eVar 2)))) (sSeq (sSet 5 (eB bMin (aCons (eVar 2) (aCons (eBin (oAddG mkFl) (eBin (oMulG mkFl) (eBin oFdiv (eVar 4) (eC (.int 8))) (eC (.int 8))) (eC (.int 8))) aNil))))
    (sExpr (eMt mAppend (eVar 3) (aCons (eTup (aCons (eVar 4) (aCons (eVar 5) (aCons (eC .non) aNil)))) aNil)))) (sSeq (sPar2 6 7 (aCons (eBin (oAddG mkFl) (eBin oShl (eC (.int 1)) (eFld [16] 81 (eVar 0))) (eBin oFdiv (eVar 4) (eC (.int 8)))) (aCons (eC (.int 8)) aNil)))
    (sSeq (wS [1, 5] (sW [1, 5] (sWhile (bAnd (toB (eBin oEq (eBin oMod (eVar 6) (eC (.int 2))) (eC (.int 0)))) (toB (eBin oLe (eBin (oAddG mkFl) (eVar 4) (eBin (oMulG mkFl) (eC (.int 2)) (eVar 7))) (eVar 2)))) m_LeastTree_pieces_b1)))
    (sSeq (sSet 5 (eBin (oAddG mkFl) (eVar 4) (eVar 7)))
    (sExpr (eMt mAppend (eVar 3) (aCons (eTup (aCons (eVar 4) (aCons (eVar 5) (aCons (eVar 6) aNil)))) aNil)))))))
    (sSet 4 (eVar 5))))
def m_LeastTree_pieces : MS := (sSeq (sPar2 3 4 (aCons (eLst mkLst aNil) (aCons (eVar 1) aNil)))
    (sSeq (wS [0, 1, 2, 4, 5, 6, 7] (sW [1, 5, 6, 7] (sWhile (toB (eBin oLt (eVar 4) (eVar 2))) m_LeastTree_pieces_b0)))
    (sRet (eVar 3))))
def f_LeastTree_pieces : MF := mFz (mF 3 8 m_LeastTree_pieces)
/-! LeastTree.forward(self, place, goal): slots 0:self 1:place 2:goal 3:now 4:piece 5:turns -/
def m_LeastTree_forward_b0 : MS := (wS [4, 5] (sSeq (sSet 5 (eMth [(16, f_LeastTree_look)] 115 (eVar 0) (aCons (eVar 4) aNil)))
    (sSeq (sIf (toB (eCall f_has_goal (aCons (eVar 3) (aCons (eVar 5) (aCons (eVar 2) aNil))))) (sRet (eMth [(16, f_LeastTree_first_in)] 68 (eVar 0) (aCons (eVar 4) (aCons (eVar 3) (aCons (eVar 2) aNil))))) sNop)
    (sAug 3 oAdd (eBin oIx (eVar 5) (eC (.int 0)))))))
def m_LeastTree_forward : MS := (sSeq (sSet 3 (eMth [(16, f_LeastTree_rise)] 161 (eVar 0) (aCons (eVar 1) aNil)))
    (sSeq (wS [0, 1, 2, 3, 4, 5] (sW [4, 5] (sFor (iSeq (eMth [(16, f_LeastTree_pieces)] 150 (eVar 0) (aCons (eVar 1) (aCons (eFld [16] 114 (eVar 0)) aNil)))) (gN 4) m_LeastTree_forward_b0)))
    (sRs 2)))
def f_LeastTree_forward : MF := mFz (mF 3 6 m_LeastTree_forward)
/-! LeastTree.last_in(self, piece, now, goal): slots 0:self 1:piece 2:now 3:goal 4:left 5:right 6:turns 7:place -/
def m_LeastTree_last_in_b1 : MS := (wS [1, 4, 5, 6] (sSeq (sAug 7 oSub (eC (.int 1)))
    (sAug 2 oSub (eIf (toB (eBin oEq (eBin oIx (eFld [25, 16] 24 (eVar 0)) (eVar 7)) (eC (.int 1)))) (eC (.int 1)) (eUn (fun i => -i) (eC (.int 1)))))))
def m_LeastTree_last_in_b0 : MS := (wS [4, 5, 6, 7] (sSeq (sAsg (eMth [(16, f_LeastTree_halves)] 75 (eVar 0) (aCons (eVar 1) aNil)) (gT 2 (gsCons (gN 4) (gsCons (gN 5) gsNil))))
    (sSeq (sSet 6 (eMth [(16, f_LeastTree_look)] 115 (eVar 0) (aCons (eVar 5) aNil)))
    (sIf (toB (eCall f_has_goal (aCons (eBin oSub (eVar 2) (eBin oIx (eVar 6) (eC (.int 0)))) (aCons (eVar 6) (aCons (eVar 3) aNil))))) (sSet 1 (eVar 5)) (sPar2 2 1 (aCons (eBin oSub (eVar 2) (eBin oIx (eVar 6) (eC (.int 0)))) (aCons (eVar 4) aNil)))))))
def m_LeastTree_last_in : MS := (sSeq (wS [4, 5, 6, 7] (sW [4, 5, 6, 7] (sWhile (bNot (toB (eMth [(16, f_LeastTree_is_block)] 86 (eVar 0) (aCons (eVar 1) aNil)))) m_LeastTree_last_in_b0)))
    (sSeq (sLk [25, 16] (eVar 0) (eC (.int 1)))
    (sSeq (sSet 7 (eBin oIx (eVar 1) (eC (.int 1))))
    (sSeq (wS [0, 1, 2, 3, 4, 5, 6] (sW [1, 4, 5, 6] (sWhile (toB (eBin oNe (eVar 2) (eVar 3))) m_LeastTree_last_in_b1)))
    (sRet (eVar 7))))))
def f_LeastTree_last_in : MF := mFz (mF 4 8 m_LeastTree_last_in)
/-! LeastTree.backward(self, place, goal): slots 0:self 1:place 2:goal 3:now 4:piece 5:turns -/
def m_LeastTree_backward_b0 : MS := (wS [4, 5] (sSeq (sSet 5 (eMth [(16, f_LeastTree_look)] 115 (eVar 0) (aCons (eVar 4) aNil)))
    (sSeq (sIf (toB (eCall f_has_goal (aCons (eBin oSub (eVar 3) (eBin oIx (eVar 5) (eC (.int 0)))) (aCons (eVar 5) (aCons (eVar 2) aNil))))) (sRet (eMth [(16, f_LeastTree_last_in)] 96 (eVar 0) (aCons (eVar 4) (aCons (eVar 3) (aCons (eVar 2) aNil))))) sNop)
    (sAug 3 oSub (eBin oIx (eVar 5) (eC (.int 0)))))))
def m_LeastTree_backward : MS := (sSeq (sExpr (eMth [(16, f_LeastTree_check)] 34 (eVar 0) (aCons (eVar 1) aNil)))
    (sSeq (sIf (toB (eBin oEq (eVar 1) (eC (.int 0)))) (sRs 2) sNop)
    (sSeq (sSet 3 (eMth [(16, f_LeastTree_rise)] 161 (eVar 0) (aCons (eBin oSub (eVar 1) (eC (.int 1))) aNil)))
    (sSeq (wS [0, 1, 3, 4, 5] (sW [4, 5] (sFor (iSeq (eRevA mkFl (eMth [(16, f_LeastTree_pieces)] 150 (eVar 0) (aCons (eC (.int 0)) (aCons (eBin oSub (eVar 1) (eC (.int 1))) aNil))))) (gN 4) m_LeastTree_backward_b0)))
    (sSeq (sIf (toB (eBin oNe (eVar 2) (eC (.int 0)))) (sRs 2) sNop)
    (sRet (eC (.int 0))))))))
def f_LeastTree_backward : MF := mFz (mF 3 6 m_LeastTree_backward)
/-! _law_search(tree, which, place, goal): slots 0:tree 1:which 2:place 3:goal 4:e -/
def m__law_search : MS := (sTryW [(0, true), (3, true), (1, true), (2, true), (4, true), (5, true)] wordT (sRet (eIf (toB (eBin oEq (eVar 1) (eC (.int 0)))) (eMth [(16, f_LeastTree_forward)] 70 (eVar 0) (aCons (eVar 2) (aCons (eVar 3) aNil))) (eMth [(16, f_LeastTree_backward)] 13 (eVar 0) (aCons (eVar 2) (aCons (eVar 3) aNil))))))
def f__law_search : MF := mFz (mF 4 5 m__law_search)
/-! is_row(value): slots 0:value 1:bit -/
def m_is_row : MS := (sRet (vAnd (eB bIsi (aCons (eVar 0) (aCons (eC (.ty "tuple")) aNil))) (vAnd (eBin oLe (eB bLen (aCons (eVar 0) aNil)) (eC (.int 4000))) (eAllG false 1 (eVar 0) (eCallQ fq_is_number (aCons (eVarQ 1) (aCons (eC (.int 0)) (aCons (eC (.int 1)) aNil))))))))
def f_is_row : MF := mFz (mF 1 2 m_is_row)
/-! put_together(one, other): slots 0:one 1:other 2:low 3:high 4:often -/
def m_put_together : MS := (sSeq (sIf (bOr (toB (eBin oIsN (eVar 0) (eC .non))) (toB (eBin oIsN (eVar 1) (eC .non)))) (sRet (eIf (toB (eBin oIsN (eVar 1) (eC .non))) (eVar 0) (eVar 1))) sNop)
    (sSeq (sPar2 2 3 (aCons (eBin (oAddG mkFl) (eBin oIx (eVar 0) (eC (.int 0))) (eBin oIx (eVar 1) (eC (.int 1)))) (aCons (eBin (oAddG mkFl) (eBin oIx (eVar 0) (eC (.int 0))) (eBin oIx (eVar 1) (eC (.int 2)))) aNil)))
    (sSeq (sSet 4 (eBin (oAddG mkFl) (eIf (toB (eBin oLe (eBin oIx (eVar 0) (eC (.int 1))) (eVar 2))) (eBin oIx (eVar 0) (eC (.int 3))) (eC (.int 0))) (eIf (toB (eBin oLe (eVar 2) (eBin oIx (eVar 0) (eC (.int 1))))) (eBin oIx (eVar 1) (eC (.int 3))) (eC (.int 0)))))
    (sRet (eTup (aCons (eBin (oAddG mkFl) (eBin oIx (eVar 0) (eC (.int 0))) (eBin oIx (eVar 1) (eC (.int 0)))) (aCons (eB bMin (aCons (eBin oIx (eVar 0) (eC (.int 1))) (aCons (eVar 2) aNil))) (aCons (eB bMax (aCons (eBin oIx (eVar 0) (eC (.int 2))) (aCons (eVar 3) aNil))) (aCons (eVar 4) aNil)))))))))
def f_put_together : MF := mFz (mF 2 5 m_put_together)
/-! Row.__init__(self, bits): slots 0:self 1:bits 2:total 3:place -/
def m_Row_init_b0 : MS := (wS [3] (sSeq (sIf (bAnd (toB (eBin oGt (eVar 3) (eC (.int 0)))) (toB (eBin oEq (eBin oMod (eVar 3) (eBin (oMulG mkFl) (eC (.int 8)) (eC (.int 8)))) (eC (.int 0))))) (sExpr (eMt mAppend (eFld [25] 74 (eVar 0)) (aCons (eVar 2) aNil))) sNop)
    (sSeq (sExpr (eMt mAppend (eFld [25] 26 (eVar 0)) (aCons (eBin oSub (eVar 2) (eBin oIx (eFld [25] 74 (eVar 0)) (eUn (fun i => -i) (eC (.int 1))))) aNil)))
    (sAug 2 oAdd (eB bSumA (aCons (eSl mkFl (eVar 1) (pSome (eVar 3)) (pSome (eBin (oAddG mkFl) (eVar 3) (eC (.int 8))))) aNil))))))
def m_Row_init : MS := (sSeq (sIf (bNot (toB (eCall f_is_row (aCons (eVar 1) aNil)))) (sRs 1) sNop)
    (sSeq (sFldS [25, 16] 24 (eVar 0) (eVar 1))
    (sSeq (sFldS [25] 74 (eVar 0) (eLst mkLst (aCons (eC (.int 0)) aNil)))
    (sSeq (sFldS [25] 26 (eVar 0) (eLst mkLst aNil))
    (sSeq (sFldS [25, 16] 116 (eVar 0) (eCnt (eC (.int 0))))
    (sSeq (sSet 2 (eC (.int 0)))
    (sSeq (wS [1, 3] (sW [3] (sFor (iRange3 (aCons (eC (.int 0)) (aCons (eBin (oAddG mkFl) (eB bLen (aCons (eVar 1) aNil)) (eC (.int 1))) (aCons (eC (.int 8)) aNil)))) (gN 3) m_Row_init_b0)))
    (sFldS [25] 139 (eVar 0) (eVar 2)))))))))
def f_Row_init : MF := (mF 2 4 m_Row_init)
/-! LeastTree.__init__(self, bits): slots 0:self 1:bits 2:many 3:block 4:inner 5:node -/
def m_LeastTree_init_b2 : MS := (wS [1, 3, 4, 5] (sAsg (eCall f_put_together (aCons (eBin oIx (eFld [16] 131 (eVar 0)) (eBin (oMulG mkFl) (eC (.int 2)) (eVar 5))) (aCons (eBin oIx (eFld [16] 131 (eVar 0)) (eBin (oAddG mkFl) (eBin (oMulG mkFl) (eC (.int 2)) (eVar 5)) (eC (.int 1)))) aNil))) (gSb (eFld [16] 131 (eVar 0)) (eVar 5))))
def m_LeastTree_init_b1 : MS := (wS [3, 4, 5] (sSeq (sSet 4 (eSl mkFl (eVar 1) (pSome (eBin (oMulG mkFl) (eVar 3) (eC (.int 8)))) (pSome (eBin (oAddG mkFl) (eBin (oMulG mkFl) (eVar 3) (eC (.int 8))) (eC (.int 8))))))
    (sAsg (eIf (toB (eBin oGt (eB bLen (aCons (eVar 4) aNil)) (eC (.int 0)))) (eCall f_turns_of (aCons (eVar 4) aNil)) (eC .non)) (gSb (eFld [16] 131 (eVar 0)) (eBin (oAddG mkFl) (eVar 2) (eVar 3))))))
def m_LeastTree_init_b0 : MS := (wS [2, 3, 4, 5] (sFldA [16] 81 oAdd (eVar 0) (eC (.int 1))))
def m_LeastTree_init : MS := (sSeq (sIf (bOr (bNot (toB (eCall f_is_row (aCons (eVar 1) aNil)))) (toB (eBin oEq (eB bLen (aCons (eVar 1) aNil)) (eC (.int 0))))) (sRs 1) sNop)
    (sSeq (sFldS [16] 164 (eVar 0) (eMkF 25 f_Row_init (aCons (eVar 1) aNil)))
    (sSeq (sFldS [25, 16] 24 (eVar 0) (eVar 1))
    (sSeq (sFldS [16] 114 (eVar 0) (eB bLen (aCons (eVar 1) aNil)))
    (sSeq (sFldS [16] 81 (eVar 0) (eC (.int 0)))
    (sSeq (wS [2, 3, 4, 5] (sW [2, 3, 4, 5] (sWhile (toB (eBin oLt (eBin oShl (eC (.int 8)) (eFld [16] 81 (eVar 0))) (eFld [16] 114 (eVar 0)))) m_LeastTree_init_b0)))
    (sSeq (sSet 2 (eBin oShl (eC (.int 1)) (eFld [16] 81 (eVar 0))))
    (sSeq (sFldS [16] 131 (eVar 0) (eBin (oMulG mkLst) (eLst mkFl (aCons (eC .non) aNil)) (eBin (oMulG mkFl) (eC (.int 2)) (eVar 2))))
    (sSeq (wS [1, 3, 4, 5] (sW [3, 4, 5] (sFor (iRange1 (aCons (eVar 2) aNil)) (gN 3) m_LeastTree_init_b1)))
    (sSeq (wS [1, 2, 3, 4, 5] (sW [1, 3, 4, 5] (sFor (iRange3 (aCons (eBin oSub (eVar 2) (eC (.int 1))) (aCons (eC (.int 0)) (aCons (eUn (fun i => -i) (eC (.int 1))) aNil)))) (gN 5) m_LeastTree_init_b2)))
    (sFldS [25, 16] 116 (eVar 0) (eCnt (eC (.int 0))))))))))))))
def f_LeastTree_init : MF := (mF 2 6 m_LeastTree_init)
/-! LeastTree.between(self, begin, end): slots 0:self 1:begin 2:end 3:found 4:piece -/
def m_LeastTree_between_b0 : MS := (wS [4] (sSet 3 (eCall f_put_together (aCons (eVar 3) (aCons (eMth [(16, f_LeastTree_look)] 115 (eVar 0) (aCons (eVar 4) aNil)) aNil)))))
def m_LeastTree_between : MS := (sSeq (sExpr (eMth [(16, f_LeastTree_check)] 34 (eVar 0) (aCons (eVar 1) aNil)))
    (sSeq (sExpr (eMth [(16, f_LeastTree_check)] 34 (eVar 0) (aCons (eVar 2) aNil)))
    (sSeq (sIf (toB (eBin oGe (eVar 1) (eVar 2))) (sRs 2) sNop)
    (sSeq (sSet 3 (eC .non))
    (sSeq (wS [0, 1, 2, 4] (sW [4] (sFor (iSeq (eMth [(16, f_LeastTree_pieces)] 150 (eVar 0) (aCons (eVar 1) (aCons (eVar 2) aNil)))) (gN 4) m_LeastTree_between_b0)))
    (sRet (eVar 3)))))))
def f_LeastTree_between : MF := mFz (mF 3 5 m_LeastTree_between)
/-! LeastTree.often(self, begin, end): slots 0:self 1:begin 2:end -/
def m_LeastTree_often : MS := (sRet (eBin oIx (eMth [(16, f_LeastTree_between)] 22 (eVar 0) (aCons (eVar 1) (aCons (eVar 2) aNil))) (eC (.int 3))))
def f_LeastTree_often : MF := mFz (mF 3 3 m_LeastTree_often)
/-! LeastTree.most(self, begin, end): slots 0:self 1:begin 2:end 3:turns -/
def m_LeastTree_most : MS := (sSeq (sSet 3 (eMth [(16, f_LeastTree_between)] 22 (eVar 0) (aCons (eVar 1) (aCons (eVar 2) aNil))))
    (sRet (eBin (oAddG mkFl) (eMth [(16, f_LeastTree_rise)] 161 (eVar 0) (aCons (eVar 1) aNil)) (eBin oIx (eVar 3) (eC (.int 2))))))
def f_LeastTree_most : MF := mFz (mF 3 4 m_LeastTree_most)
/-! LeastTree.least(self, begin, end): slots 0:self 1:begin 2:end 3:turns -/
def m_LeastTree_least : MS := (sSeq (sSet 3 (eMth [(16, f_LeastTree_between)] 22 (eVar 0) (aCons (eVar 1) (aCons (eVar 2) aNil))))
    (sRet (eBin (oAddG mkFl) (eMth [(16, f_LeastTree_rise)] 161 (eVar 0) (aCons (eVar 1) aNil)) (eBin oIx (eVar 3) (eC (.int 1))))))
def f_LeastTree_least : MF := mFz (mF 3 4 m_LeastTree_least)
/-! LeastTree.numbered(self, piece, now, goal, number): slots 0:self 1:piece 2:now 3:goal 4:number 5:left 6:right 7:turns 8:many 9:place -/
def m_LeastTree_numbered_b1 : MS := (wS [5, 6, 7, 8, 9] (sSeq (sAug 2 oAdd (eIf (toB (eBin oEq (eBin oIx (eFld [25, 16] 24 (eVar 0)) (eVar 9)) (eC (.int 1)))) (eC (.int 1)) (eUn (fun i => -i) (eC (.int 1)))))
    (sIf (toB (eBin oEq (eVar 2) (eVar 3))) (sSeq (sIf (toB (eBin oEq (eVar 4) (eC (.int 0)))) (sRet (eBin (oAddG mkFl) (eVar 9) (eC (.int 1)))) sNop)
    (sAug 4 oSub (eC (.int 1)))) sNop)))
def m_LeastTree_numbered_b0 : MS := (wS [5, 6, 7, 8, 9] (sSeq (sAsg (eMth [(16, f_LeastTree_halves)] 75 (eVar 0) (aCons (eVar 1) aNil)) (gT 2 (gsCons (gN 5) (gsCons (gN 6) gsNil))))
    (sSeq (sSet 7 (eMth [(16, f_LeastTree_look)] 115 (eVar 0) (aCons (eVar 5) aNil)))
    (sSeq (sSet 8 (eIf (toB (eBin oEq (eBin (oAddG mkFl) (eVar 2) (eBin oIx (eVar 7) (eC (.int 1)))) (eVar 3))) (eBin oIx (eVar 7) (eC (.int 3))) (eC (.int 0))))
    (sIf (toB (eBin oLt (eVar 4) (eVar 8))) (sSet 1 (eVar 5)) (sPar3 2 4 1 (aCons (eBin (oAddG mkFl) (eVar 2) (eBin oIx (eVar 7) (eC (.int 0)))) (aCons (eBin oSub (eVar 4) (eVar 8)) (aCons (eVar 6) aNil)))))))))
def m_LeastTree_numbered : MS := (sSeq (wS [5, 6, 7, 8, 9] (sW [5, 6, 7, 8, 9] (sWhile (bNot (toB (eMth [(16, f_LeastTree_is_block)] 86 (eVar 0) (aCons (eVar 1) aNil)))) m_LeastTree_numbered_b0)))
    (sSeq (sLk [25, 16] (eVar 0) (eC (.int 1)))
    (sSeq (wS [0, 1, 2, 3, 4, 5, 6, 7, 8, 9] (sW [5, 6, 7, 8, 9] (sFor (iRange2 (aCons (eBin oIx (eVar 1) (eC (.int 0))) (aCons (eBin oIx (eVar 1) (eC (.int 1))) aNil))) (gN 9) m_LeastTree_numbered_b1)))
    (sRet (eC .non)))))
def f_LeastTree_numbered : MF := mFz (mF 5 10 m_LeastTree_numbered)
/-! LeastTree.least_place(self, begin, end, number): slots 0:self 1:begin 2:end 3:number 4:turns 5:now 6:goal 7:piece 8:many -/
def m_LeastTree_least_place_b0 : MS := (wS [4, 7, 8] (sSeq (sSet 4 (eMth [(16, f_LeastTree_look)] 115 (eVar 0) (aCons (eVar 7) aNil)))
    (sSeq (sSet 8 (eIf (toB (eBin oEq (eBin (oAddG mkFl) (eVar 5) (eBin oIx (eVar 4) (eC (.int 1)))) (eVar 6))) (eBin oIx (eVar 4) (eC (.int 3))) (eC (.int 0))))
    (sSeq (sIf (toB (eBin oLt (eVar 3) (eVar 8))) (sRet (eMth [(16, f_LeastTree_numbered)] 134 (eVar 0) (aCons (eVar 7) (aCons (eVar 5) (aCons (eVar 6) (aCons (eVar 3) aNil)))))) sNop)
    (sPar2 5 3 (aCons (eBin (oAddG mkFl) (eVar 5) (eBin oIx (eVar 4) (eC (.int 0)))) (aCons (eBin oSub (eVar 3) (eVar 8)) aNil)))))))
def m_LeastTree_least_place : MS := (sSeq (sSet 4 (eMth [(16, f_LeastTree_between)] 22 (eVar 0) (aCons (eVar 1) (aCons (eVar 2) aNil))))
    (sSeq (sIf (bNot (toB (eCall f_is_number (aCons (eVar 3) (aCons (eC (.int 0)) (aCons (eBin oSub (eBin oIx (eVar 4) (eC (.int 3))) (eC (.int 1))) aNil)))))) (sRs 2) sNop)
    (sSeq (sPar2 5 6 (aCons (eC (.int 0)) (aCons (eBin oIx (eVar 4) (eC (.int 1))) aNil)))
    (sSeq (wS [0, 1, 2, 3, 4, 5, 6, 7, 8] (sW [4, 7, 8] (sFor (iSeq (eMth [(16, f_LeastTree_pieces)] 150 (eVar 0) (aCons (eVar 1) (aCons (eVar 2) aNil)))) (gN 7) m_LeastTree_least_place_b0)))
    (sRet (eC .non))))))
def f_LeastTree_least_place : MF := mFz (mF 4 9 m_LeastTree_least_place)
/-! law(script): slots 0:script 1:draws 2:turn 3:row 4:many 5:ahead 6:tree 7:back 8:less 9:moved 10:rises 11:start 12:bit 13:step 14:begin 15:end 16:part 17:least 18:most 19:often 20:places 21:place 22:goal 23:forward 24:backward 25:later 26:earlier 27:turned_so 28:number 29:one 30:rise -/
def m_law_b2 : MS := (wS [0, 2, 3, 12, 13, 14, 15, 16, 17, 18, 19, 20, 21, 22, 23, 24, 25, 26, 27] (sSeq (sSet 14 (eCall f__law_take (aCons (eVar 1) (aCons (eVar 4) aNil))))
    (sSeq (sSet 15 (eBin (oAddG mkFl) (eBin (oAddG mkFl) (eVar 14) (eC (.int 1))) (eCall f__law_take (aCons (eVar 1) (aCons (eBin oSub (eVar 4) (eVar 14)) aNil)))))
    (sSeq (sSet 16 (eSl mkFl (eVar 10) (pSome (eBin (oAddG mkFl) (eVar 14) (eC (.int 1)))) (pSome (eBin (oAddG mkFl) (eVar 15) (eC (.int 1))))))
    (sSeq (sAsg (eTup (aCons (eMth [(16, f_LeastTree_least)] 99 (eVar 6) (aCons (eVar 14) (aCons (eVar 15) aNil))) (aCons (eMth [(16, f_LeastTree_most)] 123 (eVar 6) (aCons (eVar 14) (aCons (eVar 15) aNil))) (aCons (eMth [(16, f_LeastTree_often)] 135 (eVar 6) (aCons (eVar 14) (aCons (eVar 15) aNil))) aNil)))) (gT 3 (gsCons (gN 17) (gsCons (gN 18) (gsCons (gN 19) gsNil)))))
    (sSeq (sIf (bOr (toB (eBin oNe (eLst mkFl (aCons (eVar 17) (aCons (eVar 18) (aCons (eVar 19) aNil)))) (eLst mkFl (aCons (eB bMin (aCons (eVar 16) aNil)) (aCons (eB bMax (aCons (eVar 16) aNil)) (aCons (eB bLen (aCons (eLc mkFl [29] (iSeq (eVar 16)) (gN 29) (toB (eBin oEq (eVar 29) (eB bMin (aCons (eVar 16) aNil)))) (eVar 29)) aNil)) aNil)))))) (toB (eBin oNe (eLst mkFl (aCons (eMth [(16, f_LeastTree_most)] 123 (eVar 8) (aCons (eVar 14) (aCons (eVar 15) aNil))) (aCons (eMth [(16, f_LeastTree_least)] 99 (eVar 8) (aCons (eVar 14) (aCons (eVar 15) aNil))) aNil))) (eLst mkFl (aCons (eBin oSub (eC (.int 0)) (eVar 17)) (aCons (eBin oSub (eC (.int 0)) (eVar 18)) aNil)))))) (sRet (eC (.bl false))) sNop)
    (sSeq (sIf (toB (eBin oNe (eLst mkFl (aCons (eMth [(16, f_LeastTree_least)] 99 (eVar 9) (aCons (eBin (oAddG mkFl) (eB bLen (aCons (eVar 5) aNil)) (eVar 14)) (aCons (eBin (oAddG mkFl) (eB bLen (aCons (eVar 5) aNil)) (eVar 15)) aNil))) (aCons (eMth [(16, f_LeastTree_most)] 123 (eVar 9) (aCons (eBin (oAddG mkFl) (eB bLen (aCons (eVar 5) aNil)) (eVar 14)) (aCons (eBin (oAddG mkFl) (eB bLen (aCons (eVar 5) aNil)) (eVar 15)) aNil))) (aCons (eMth [(16, f_LeastTree_often)] 135 (eVar 9) (aCons (eBin (oAddG mkFl) (eB bLen (aCons (eVar 5) aNil)) (eVar 14)) (aCons (eBin (oAddG mkFl) (eB bLen (aCons (eVar 5) aNil)) (eVar 15)) aNil))) aNil)))) (eLst mkFl (aCons (eBin (oAddG mkFl) (eVar 11) (eVar 17)) (aCons (eBin (oAddG mkFl) (eVar 11) (eVar 18)) (aCons (eVar 19) aNil)))))) (sRet (eC (.bl false))) sNop)
    (sSeq (sSet 20 (eLc mkFl [28] (iRange1 (aCons (eVar 19) aNil)) (gN 28) tTrue (eMth [(16, f_LeastTree_least_place)] 101 (eVar 6) (aCons (eVar 14) (aCons (eVar 15) (aCons (eVar 28) aNil))))))
    (sSeq (sIf (bOr (toB (eBin oNe (eVar 20) (eLc mkFl [21] (iRange2 (aCons (eBin (oAddG mkFl) (eVar 14) (eC (.int 1))) (aCons (eBin (oAddG mkFl) (eVar 15) (eC (.int 1))) aNil))) (gN 21) (toB (eBin oEq (eBin oIx (eVar 10) (eVar 21)) (eVar 17))) (eVar 21)))) (toB (eBin oNe (eMth [(16, f_LeastTree_least_place)] 101 (eVar 9) (aCons (eBin (oAddG mkFl) (eB bLen (aCons (eVar 5) aNil)) (eVar 14)) (aCons (eBin (oAddG mkFl) (eB bLen (aCons (eVar 5) aNil)) (eVar 15)) (aCons (eBin oSub (eVar 19) (eC (.int 1))) aNil)))) (eBin (oAddG mkFl) (eB bLen (aCons (eVar 5) aNil)) (eBin oIx (eVar 20) (eUn (fun i => -i) (eC (.int 1)))))))) (sRet (eC (.bl false))) sNop)
    (sSeq (sIf (bAnd (toB (eBin oLt (eVar 15) (eVar 4))) (toB (eBin oGt (eVar 14) (eC (.int 0))))) (sIf (toB (eBin oNe (eMth [(16, f_LeastTree_least)] 99 (eVar 7) (aCons (eBin oSub (eBin oSub (eVar 4) (eVar 15)) (eC (.int 1))) (aCons (eBin oSub (eBin oSub (eVar 4) (eVar 14)) (eC (.int 1))) aNil))) (eBin oSub (eBin oIx (eVar 10) (eUn (fun i => -i) (eC (.int 1)))) (eB bMax (aCons (eSl mkFl (eVar 10) (pSome (eBin (oAddG mkFl) (eVar 14) (eC (.int 1)))) (pSome (eBin (oAddG mkFl) (eVar 15) (eC (.int 1))))) aNil))))) (sRet (eC (.bl false))) sNop) sNop)
    (sSeq (sAsg (eTup (aCons (eCall f__law_take (aCons (eVar 1) (aCons (eBin (oAddG mkFl) (eVar 4) (eC (.int 1))) aNil))) (aCons (eBin oSub (eBin (oAddG mkFl) (eBin oIx (eVar 10) (eCall f__law_take (aCons (eVar 1) (aCons (eBin (oAddG mkFl) (eVar 4) (eC (.int 1))) aNil)))) (eCall f__law_take (aCons (eVar 1) (aCons (eC (.int 3)) aNil)))) (eC (.int 1))) aNil))) (gT 2 (gsCons (gN 21) (gsCons (gN 22) gsNil))))
    (sSeq (sPar2 23 24 (aCons (eCall f__law_search (aCons (eVar 6) (aCons (eC (.int 0)) (aCons (eVar 21) (aCons (eVar 22) aNil))))) (aCons (eCall f__law_search (aCons (eVar 6) (aCons (eC (.int 1)) (aCons (eVar 21) (aCons (eVar 22) aNil))))) aNil)))
    (sSeq (sPar2 25 26 (aCons (eLc mkFl [29] (iRange2 (aCons (eBin (oAddG mkFl) (eVar 21) (eC (.int 1))) (aCons (eBin (oAddG mkFl) (eVar 4) (eC (.int 1))) aNil))) (gN 29) (toB (eBin oEq (eBin oIx (eVar 10) (eVar 29)) (eVar 22))) (eVar 29)) (aCons (eLc mkFl [29] (iRange1 (aCons (eVar 21) aNil)) (gN 29) (toB (eBin oEq (eBin oIx (eVar 10) (eVar 29)) (eVar 22))) (eVar 29)) aNil)))
    (sSeq (sIf (bOr (toB (eBin oNe (eVar 23) (eIf (toB (eBin oNe (eVar 25) (eLst mkFl aNil))) (eBin oIx (eVar 25) (eC (.int 0))) (eC (.str "none"))))) (toB (eBin oNe (eVar 24) (eIf (toB (eBin oNe (eVar 26) (eLst mkFl aNil))) (eBin oIx (eVar 26) (eUn (fun i => -i) (eC (.int 1)))) (eC (.str "none")))))) (sRet (eC (.bl false))) sNop)
    (sSeq (sIf (toB (eBin oNe (eLst mkFl (aCons (eCall f__law_search (aCons (eVar 8) (aCons (eC (.int 0)) (aCons (eVar 21) (aCons (eBin oSub (eC (.int 0)) (eVar 22)) aNil))))) (aCons (eCall f__law_search (aCons (eVar 8) (aCons (eC (.int 1)) (aCons (eVar 21) (aCons (eBin oSub (eC (.int 0)) (eVar 22)) aNil))))) aNil))) (eLst mkFl (aCons (eVar 23) (aCons (eVar 24) aNil))))) (sRet (eC (.bl false))) sNop)
    (sSeq (sSet 27 (eLst mkFl (aCons (eCall f__law_search (aCons (eVar 7) (aCons (eC (.int 1)) (aCons (eBin oSub (eVar 4) (eVar 21)) (aCons (eBin oSub (eBin oIx (eVar 10) (eUn (fun i => -i) (eC (.int 1)))) (eVar 22)) aNil))))) (aCons (eCall f__law_search (aCons (eVar 7) (aCons (eC (.int 0)) (aCons (eBin oSub (eVar 4) (eVar 21)) (aCons (eBin oSub (eBin oIx (eVar 10) (eUn (fun i => -i) (eC (.int 1)))) (eVar 22)) aNil))))) aNil))))
    (sSeq (sIf (toB (eBin oNe (eVar 27) (eLc mkFl [29] (iSeq (eLst mkFl (aCons (eVar 23) (aCons (eVar 24) aNil)))) (gN 29) tTrue (eIf (toB (eBin oEq (eVar 29) (eC (.str "none")))) (eVar 29) (eBin oSub (eVar 4) (eVar 29)))))) (sRet (eC (.bl false))) sNop)
    (sSeq (sIf (bOr (toB (eBin oNe (eCall f__law_search (aCons (eVar 9) (aCons (eC (.int 0)) (aCons (eBin (oAddG mkFl) (eB bLen (aCons (eVar 5) aNil)) (eVar 21)) (aCons (eBin (oAddG mkFl) (eVar 11) (eVar 22)) aNil))))) (eIf (toB (eBin oEq (eVar 23) (eC (.str "none")))) (eVar 23) (eBin (oAddG mkFl) (eB bLen (aCons (eVar 5) aNil)) (eVar 23))))) (bAnd (toB (eBin oNe (eVar 24) (eC (.str "none")))) (toB (eBin oNe (eCall f__law_search (aCons (eVar 9) (aCons (eC (.int 1)) (aCons (eBin (oAddG mkFl) (eB bLen (aCons (eVar 5) aNil)) (eVar 21)) (aCons (eBin (oAddG mkFl) (eVar 11) (eVar 22)) aNil))))) (eBin (oAddG mkFl) (eB bLen (aCons (eVar 5) aNil)) (eVar 24)))))) (sRet (eC (.bl false))) sNop)
    (sIf (bAnd (toB (eBin oNe (eVar 23) (eC (.str "none")))) (toB (eBin oGt (eB bAbs (aCons (eBin oSub (eBin oIx (eVar 10) (eVar 21)) (eVar 22)) aNil)) (eBin oSub (eVar 23) (eVar 21))))) (sRet (eC (.bl false))) sNop)))))))))))))))))))
def m_law_b1 : MS := (wS [0, 2, 12, 13, 14, 15, 16, 17, 18, 19, 20, 21, 22, 23, 24, 25, 26, 27] (sExpr (eMt mAppend (eVar 10) (aCons (eBin oSub (eBin (oAddG mkFl) (eBin oIx (eVar 10) (eUn (fun i => -i) (eC (.int 1)))) (eBin (oMulG mkFl) (eC (.int 2)) (eVar 12))) (eC (.int 1))) aNil))))
def m_law_b0 : MS := (wS [0, 2, 3, 4, 5, 6, 7, 8, 9, 10, 11, 12, 13, 14, 15, 16, 17, 18, 19, 20, 21, 22, 23, 24, 25, 26, 27] (sSeq (sSet 3 (eCall f__law_row (aCons (eVar 1) aNil)))
    (sSeq (sAsg (eTup (aCons (eB bLen (aCons (eVar 3) aNil)) (aCons (eSl mkFl (eCall f__law_row (aCons (eVar 1) aNil)) pNone (pSome (eC (.int 20)))) aNil))) (gT 2 (gsCons (gN 4) (gsCons (gN 5) gsNil))))
    (sSeq (sAsg (eTup (aCons (eMkF 16 f_LeastTree_init (aCons (eVar 3) aNil)) (aCons (eMkF 16 f_LeastTree_init (aCons (eRevA mkFl (eVar 3)) aNil)) (aCons (eMkF 16 f_LeastTree_init (aCons (eB bTuple (aCons (eLc mkFl [12] (iSeq (eVar 3)) (gN 12) tTrue (eBin oSub (eC (.int 1)) (eVar 12))) aNil)) aNil)) (aCons (eMkF 16 f_LeastTree_init (aCons (eBin (oAddG mkFl) (eVar 5) (eVar 3)) aNil)) aNil))))) (gT 4 (gsCons (gN 6) (gsCons (gN 7) (gsCons (gN 8) (gsCons (gN 9) gsNil))))))
    (sSeq (sAsg (eTup (aCons (eLst mkLst (aCons (eC (.int 0)) aNil)) (aCons (eBin oSub (eBin (oMulG mkFl) (eC (.int 2)) (eB bSumA (aCons (eVar 5) aNil))) (eB bLen (aCons (eVar 5) aNil))) aNil))) (gT 2 (gsCons (gN 10) (gsCons (gN 11) gsNil))))
    (sSeq (wS [0, 2, 3, 12, 13, 14, 15, 16, 17, 18, 19, 20, 21, 22, 23, 24, 25, 26, 27] (sW [0, 2, 12, 13, 14, 15, 16, 17, 18, 19, 20, 21, 22, 23, 24, 25, 26, 27] (sFor (iSeq (eVar 3)) (gN 12) m_law_b1)))
    (sSeq (sIf (bOr (toB (eBin oNe (eLc mkFl [21] (iRange1 (aCons (eBin (oAddG mkFl) (eVar 4) (eC (.int 1))) aNil)) (gN 21) tTrue (eMth [(16, f_LeastTree_rise)] 161 (eVar 6) (aCons (eVar 21) aNil))) (eVar 10))) (toB (eBin oNe (eLc mkFl [21] (iRange1 (aCons (eBin (oAddG mkFl) (eVar 4) (eC (.int 1))) aNil)) (gN 21) tTrue (eMth [(16, f_LeastTree_rise)] 161 (eVar 8) (aCons (eVar 21) aNil))) (eLc mkFl [30] (iSeq (eVar 10)) (gN 30) tTrue (eBin oSub (eC (.int 0)) (eVar 30)))))) (sRet (eC (.bl false))) sNop)
    (sSeq (sIf (toB (eBin oNe (eLc mkFl [21] (iRange1 (aCons (eBin (oAddG mkFl) (eVar 4) (eC (.int 1))) aNil)) (gN 21) tTrue (eMth [(16, f_LeastTree_rise)] 161 (eVar 7) (aCons (eVar 21) aNil))) (eLc mkFl [30] (iSeq (eRevA mkFl (eVar 10))) (gN 30) tTrue (eBin oSub (eBin oIx (eVar 10) (eUn (fun i => -i) (eC (.int 1)))) (eVar 30))))) (sRet (eC (.bl false))) sNop)
    (sSeq (sIf (toB (eBin oNe (eLc mkFl [21] (iRange1 (aCons (eBin (oAddG mkFl) (eVar 4) (eC (.int 1))) aNil)) (gN 21) tTrue (eMth [(16, f_LeastTree_rise)] 161 (eVar 9) (aCons (eBin (oAddG mkFl) (eB bLen (aCons (eVar 5) aNil)) (eVar 21)) aNil))) (eLc mkFl [30] (iSeq (eVar 10)) (gN 30) tTrue (eBin (oAddG mkFl) (eVar 11) (eVar 30))))) (sRet (eC (.bl false))) sNop)
    (wS [0, 2, 3, 4, 5, 6, 7, 8, 9, 10, 11, 12, 13, 14, 15, 16, 17, 18, 19, 20, 21, 22, 23, 24, 25, 26, 27] (sW [0, 2, 3, 12, 13, 14, 15, 16, 17, 18, 19, 20, 21, 22, 23, 24, 25, 26, 27] (sFor (iRange1 (aCons (eC (.int 8)) aNil)) (gN 13) m_law_b2))))))))))))
def m_law : MS := (sSeq (sSet 1 (eCall f__law_draws (aCons (eVar 0) aNil)))
    (sSeq (wS [0, 1, 2, 3, 4, 5, 6, 7, 8, 9, 10, 11, 12, 13, 14, 15, 16, 17, 18, 19, 20, 21, 22, 23, 24, 25, 26, 27] (sW [0, 2, 3, 4, 5, 6, 7, 8, 9, 10, 11, 12, 13, 14, 15, 16, 17, 18, 19, 20, 21, 22, 23, 24, 25, 26, 27] (sFor (iRange1 (aCons (eC (.int 4)) aNil)) (gN 2) m_law_b0)))
    (sRet (eC (.bl true)))))
def f_law : MF := (mF 1 31 m_law)
end
end Pg
set_option maxRecDepth 100000
/-! loop heads by name -/
namespace Pg
open PySem PySem.Spec PyProof.Rows L2 Vi
noncomputable section
/-! _law_draws, loop 0 -/
abbrev fr__law_draws_b0 (script draws : D) : Fr := [some script, some draws, none, none, none, none, none]
abbrev lg__law_draws_b0 : MG := (gN 2)
abbrev lp__law_draws_b0 (it : ItD) (ds : List D) : MS := forN it lg__law_draws_b0 m__law_draws_b0 ds
/-! _law_draws, loop 1 -/
abbrev fr__law_draws_b1 (script draws number : D) : Fr := [some script, some draws, none, some number, none, none, none]
abbrev lg__law_draws_b1 : MG := (gN 5)
abbrev lp__law_draws_b1 (it : ItD) (ds : List D) : MS := forN it lg__law_draws_b1 m__law_draws_b1 ds
/-! _law_draws, loop 2 -/
abbrev fr__law_draws_b2 (draws seed : D) : Fr := [none, some draws, none, none, none, none, some seed]
abbrev lg__law_draws_b2 : MG := (gN 5)
abbrev lp__law_draws_b2 (it : ItD) (ds : List D) : MS := forN it lg__law_draws_b2 m__law_draws_b2 ds
/-! _law_row, loop 0 -/
abbrev fr__law_row_b0 (draws kind found : D) : Fr := [some draws, some kind, some found, none, none]
abbrev lg__law_row_b0 : MG := (gN 3)
abbrev lp__law_row_b0 (it : ItD) (ds : List D) : MS := forN it lg__law_row_b0 m__law_row_b0 ds
/-! turns_of, loop 0 -/
abbrev fr_turns_of_b0 (bits rise least most often : D) : Fr := [some bits, some rise, some least, some most, some often, none, none]
abbrev lg_turns_of_b0 : MG := (gT 2 (gsCons (gN 5) (gsCons (gN 6) gsNil)))
abbrev lp_turns_of_b0 (it : ItD) (ds : List D) : MS := forN it lg_turns_of_b0 m_turns_of_b0 ds
/-! LeastTree.first_in, loop 0 -/
abbrev fr_LeastTree_first_in_b0 (self piece now goal : D) : Fr := [some self, some piece, some now, some goal, none, none, none, none]
abbrev lt_LeastTree_first_in_b0 : MT := (bNot (toB (eMth [(16, f_LeastTree_is_block)] 86 (eVar 0) (aCons (eVar 1) aNil))))
abbrev lp_LeastTree_first_in_b0 : MS := whileN lt_LeastTree_first_in_b0 m_LeastTree_first_in_b0 wMost
/-! LeastTree.first_in, loop 1 -/
abbrev fr_LeastTree_first_in_b1 (self piece now goal place : D) : Fr := [some self, some piece, some now, some goal, none, none, none, some place]
abbrev lt_LeastTree_first_in_b1 : MT := (bOr (toB (eBin oEq (eVar 7) (eBin oIx (eVar 1) (eC (.int 0))))) (toB (eBin oNe (eVar 2) (eVar 3))))
abbrev lp_LeastTree_first_in_b1 : MS := whileN lt_LeastTree_first_in_b1 m_LeastTree_first_in_b1 wMost
/-! LeastTree.pieces, loop 0 -/
abbrev fr_LeastTree_pieces_b0 (self end_ found place : D) : Fr := [some self, none, some end_, some found, some place, none, none, none]
abbrev lt_LeastTree_pieces_b0 : MT := (toB (eBin oLt (eVar 4) (eVar 2)))
abbrev lp_LeastTree_pieces_b0 : MS := whileN lt_LeastTree_pieces_b0 m_LeastTree_pieces_b0 wMost
/-! LeastTree.pieces, loop 1 -/
abbrev fr_LeastTree_pieces_b1 (self end_ found place node size : D) : Fr := [some self, none, some end_, some found, some place, none, some node, some size]
abbrev lt_LeastTree_pieces_b1 : MT := (bAnd (toB (eBin oEq (eBin oMod (eVar 6) (eC (.int 2))) (eC (.int 0)))) (toB (eBin oLe (eBin (oAddG mkFl) (eVar 4) (eBin (oMulG mkFl) (eC (.int 2)) (eVar 7))) (eVar 2))))
abbrev lp_LeastTree_pieces_b1 : MS := whileN lt_LeastTree_pieces_b1 m_LeastTree_pieces_b1 wMost
/-! LeastTree.forward, loop 0 -/
abbrev fr_LeastTree_forward_b0 (self place goal now : D) : Fr := [some self, some place, some goal, some now, none, none]
abbrev lg_LeastTree_forward_b0 : MG := (gN 4)
abbrev lp_LeastTree_forward_b0 (it : ItD) (ds : List D) : MS := forN it lg_LeastTree_forward_b0 m_LeastTree_forward_b0 ds
/-! LeastTree.last_in, loop 0 -/
abbrev fr_LeastTree_last_in_b0 (self piece now goal : D) : Fr := [some self, some piece, some now, some goal, none, none, none, none]
abbrev lt_LeastTree_last_in_b0 : MT := (bNot (toB (eMth [(16, f_LeastTree_is_block)] 86 (eVar 0) (aCons (eVar 1) aNil))))
abbrev lp_LeastTree_last_in_b0 : MS := whileN lt_LeastTree_last_in_b0 m_LeastTree_last_in_b0 wMost
/-! LeastTree.last_in, loop 1 -/
abbrev fr_LeastTree_last_in_b1 (self now goal place : D) : Fr := [some self, none, some now, some goal, none, none, none, some place]
abbrev lt_LeastTree_last_in_b1 : MT := (toB (eBin oNe (eVar 2) (eVar 3)))
abbrev lp_LeastTree_last_in_b1 : MS := whileN lt_LeastTree_last_in_b1 m_LeastTree_last_in_b1 wMost
/-! LeastTree.backward, loop 0 -/
abbrev fr_LeastTree_backward_b0 (self place goal now : D) : Fr := [some self, some place, some goal, some now, none, none]
abbrev lg_LeastTree_backward_b0 : MG := (gN 4)
abbrev lp_LeastTree_backward_b0 (it : ItD) (ds : List D) : MS := forN it lg_LeastTree_backward_b0 m_LeastTree_backward_b0 ds
/-! Row.__init__, loop 0 -/
abbrev fr_Row_init_b0 (self bits total : D) : Fr := [some self, some bits, some total, none]
abbrev lg_Row_init_b0 : MG := (gN 3)
abbrev lp_Row_init_b0 (it : ItD) (ds : List D) : MS := forN it lg_Row_init_b0 m_Row_init_b0 ds
/-! LeastTree.__init__, loop 0 -/
abbrev fr_LeastTree_init_b0 (self bits : D) : Fr := [some self, some bits, none, none, none, none]
abbrev lt_LeastTree_init_b0 : MT := (toB (eBin oLt (eBin oShl (eC (.int 8)) (eFld [16] 81 (eVar 0))) (eFld [16] 114 (eVar 0))))
abbrev lp_LeastTree_init_b0 : MS := whileN lt_LeastTree_init_b0 m_LeastTree_init_b0 wMost
/-! LeastTree.__init__, loop 1 -/
abbrev fr_LeastTree_init_b1 (self bits many : D) : Fr := [some self, some bits, some many, none, none, none]
abbrev lg_LeastTree_init_b1 : MG := (gN 3)
abbrev lp_LeastTree_init_b1 (it : ItD) (ds : List D) : MS := forN it lg_LeastTree_init_b1 m_LeastTree_init_b1 ds
/-! LeastTree.__init__, loop 2 -/
abbrev fr_LeastTree_init_b2 (self many : D) : Fr := [some self, none, some many, none, none, none]
abbrev lg_LeastTree_init_b2 : MG := (gN 5)
abbrev lp_LeastTree_init_b2 (it : ItD) (ds : List D) : MS := forN it lg_LeastTree_init_b2 m_LeastTree_init_b2 ds
/-! LeastTree.between, loop 0 -/
abbrev fr_LeastTree_between_b0 (self begin end_ found : D) : Fr := [some self, some begin, some end_, some found, none]
abbrev lg_LeastTree_between_b0 : MG := (gN 4)
abbrev lp_LeastTree_between_b0 (it : ItD) (ds : List D) : MS := forN it lg_LeastTree_between_b0 m_LeastTree_between_b0 ds
/-! LeastTree.numbered, loop 0 -/
abbrev fr_LeastTree_numbered_b0 (self piece now goal number : D) : Fr := [some self, some piece, some now, some goal, some number, none, none, none, none, none]
abbrev lt_LeastTree_numbered_b0 : MT := (bNot (toB (eMth [(16, f_LeastTree_is_block)] 86 (eVar 0) (aCons (eVar 1) aNil))))
abbrev lp_LeastTree_numbered_b0 : MS := whileN lt_LeastTree_numbered_b0 m_LeastTree_numbered_b0 wMost
/-! LeastTree.numbered, loop 1 -/
abbrev fr_LeastTree_numbered_b1 (self piece now goal number : D) : Fr := [some self, some piece, some now, some goal, some number, none, none, none, none, none]
abbrev lg_LeastTree_numbered_b1 : MG := (gN 9)
abbrev lp_LeastTree_numbered_b1 (it : ItD) (ds : List D) : MS := forN it lg_LeastTree_numbered_b1 m_LeastTree_numbered_b1 ds
/-! LeastTree.least_place, loop 0 -/
abbrev fr_LeastTree_least_place_b0 (self begin end_ number now goal : D) : Fr := [some self, some begin, some end_, some number, none, some now, some goal, none, none]
abbrev lg_LeastTree_least_place_b0 : MG := (gN 7)
abbrev lp_LeastTree_least_place_b0 (it : ItD) (ds : List D) : MS := forN it lg_LeastTree_least_place_b0 m_LeastTree_least_place_b0 ds
/-! law, loop 0 -/
abbrev fr_law_b0 (draws : D) : Fr := [none, some draws, none, none, none, none, none, none, none, none, none, none, none, none, none, none, none, none, none, none, none, none, none, none, none, none, none, none, none, none, none]
abbrev lg_law_b0 : MG := (gN 2)
abbrev lp_law_b0 (it : ItD) (ds : List D) : MS := forN it lg_law_b0 m_law_b0 ds
/-! law, loop 1 -/
abbrev fr_law_b1 (draws row many ahead tree back less moved rises start : D) : Fr := [none, some draws, none, some row, some many, some ahead, some tree, some back, some less, some moved, some rises, some start, none, none, none, none, none, none, none, none, none, none, none, none, none, none, none, none, none, none, none]
abbrev lg_law_b1 : MG := (gN 12)
abbrev lp_law_b1 (it : ItD) (ds : List D) : MS := forN it lg_law_b1 m_law_b1 ds
/-! law, loop 2 -/
abbrev fr_law_b2 (draws many ahead tree back less moved rises start : D) : Fr := [none, some draws, none, none, some many, some ahead, some tree, some back, some less, some moved, some rises, some start, none, none, none, none, none, none, none, none, none, none, none, none, none, none, none, none, none, none, none]
abbrev lg_law_b2 : MG := (gN 13)
abbrev lp_law_b2 (it : ItD) (ds : List D) : MS := forN it lg_law_b2 m_law_b2 ds
end
end Pg
set_option maxRecDepth 100000
set_option maxHeartbeats 1000000
/-! Lib2: how loops, rows of bits, what is handed back are reasoned about. -/
namespace Vi
open PySem PySem.Spec PyProof.Rows L2
theorem rng_zero (lo : Int) : rng lo 0 = [] := rfl
theorem rng_succ (lo : Int) (n : Nat) : rng lo (n + 1) = .int lo :: rng (lo + 1) n := by
  unfold rng
  rw [List.range_succ_eq_map, List.map_cons, List.map_map]
  congr 1
  · simp
  · apply List.map_congr_left
    intro k _
    simp only [Function.comp]
    congr 1
    omega
/-- over any items, by an invariant over the turn's number: nothing but going on -/
theorem for_inv {it : ItD} {g : MG} {b : MS} (J : Nat → Fr → Sto → Prop) : ∀ (ds : List D) (m : Nat) (fr : Fr) (st : Sto), J m fr st →
    (∀ i fr st, J i fr st → holdsB it st = true) →
    (∀ i fr st d, ds[i]? = some d → J (m + i) fr st → ∃ fr1 st1, g d fr st = .ok fr1 st1 ∧ ∃ fr' st', (b fr1 st1 = .nx fr' st' ∨ b fr1 st1 = .ct fr' st') ∧ J (m + i + 1) fr' st') →
    ∃ fr' st', forN it g b ds fr st = .nx fr' st' ∧ J (m + ds.length) fr' st'
  | [], m, fr, st, h0, hh, hs => ⟨fr, st, by simp [forN, hh _ _ _ h0], h0⟩
  | d :: ds, m, fr, st, h0, hh, hs => by
    obtain ⟨fr1, st1, e1, fr2, st2, e2, h2⟩ := hs 0 fr st d rfl h0
    obtain ⟨fr3, st3, e3, h3⟩ := for_inv J ds (m + 1) fr2 st2 h2 hh fun i fr st d hd hj => by
      have e : m + 1 + i = m + (i + 1) := by omega
      rw [e] at hj ⊢
      exact hs (i + 1) fr st d (by simpa using hd) hj
    refine ⟨fr3, st3, ?_, by rw [List.length_cons, show m + (ds.length + 1) = m + 1 + ds.length by omega]; exact h3⟩
    unfold forN
    rw [if_pos (hh _ _ _ h0), e1, Out.then_ok]
    rcases e2 with e2 | e2 <;> (rw [e2]; exact e3)
/-- over a range -/
theorem for_rng {g : MG} {b : MS} {lo : Int} {n : Nat} {fr : Fr} {st : Sto} (J : Nat → Fr → Sto → Prop) (h0 : J 0 fr st)
    (hs : ∀ i fr st, i < n → J i fr st → ∃ fr1 st1, g (.int (lo + i)) fr st = .ok fr1 st1 ∧ ∃ fr' st', (b fr1 st1 = .nx fr' st' ∨ b fr1 st1 = .ct fr' st') ∧ J (i + 1) fr' st') :
    ∃ fr' st', forN (.seq (rng lo n)) g b (rng lo n) fr st = .nx fr' st' ∧ J n fr' st' := by
  obtain ⟨fr', st', e, h⟩ := for_inv (it := .seq (rng lo n)) J (rng lo n) 0 fr st h0 (fun _ _ _ _ => rfl) fun i fr st d hd hj => by
    obtain ⟨hi, rfl⟩ := rng_get hd
    rw [Nat.zero_add] at hj ⊢
    exact hs i fr st hi hj
  rw [rng_len, Nat.zero_add] at h
  exact ⟨fr', st', e, h⟩
/-- .. or it hands something back -/
theorem for_ret {it : ItD} {g : MG} {b : MS} (J : Nat → Fr → Sto → Prop) (R : D → Sto → Prop) : ∀ (ds : List D) (m : Nat) (fr : Fr) (st : Sto), J m fr st →
    (∀ i fr st, J i fr st → holdsB it st = true) →
    (∀ i fr st d, ds[i]? = some d → J (m + i) fr st → ∃ fr1 st1, g d fr st = .ok fr1 st1 ∧ ((∃ fr' st', (b fr1 st1 = .nx fr' st' ∨ b fr1 st1 = .ct fr' st') ∧ J (m + i + 1) fr' st') ∨ ∃ x s', b fr1 st1 = .rt x s' ∧ R x s')) →
    (∃ fr' st', forN it g b ds fr st = .nx fr' st' ∧ J (m + ds.length) fr' st') ∨ ∃ x s', forN it g b ds fr st = .rt x s' ∧ R x s'
  | [], m, fr, st, h0, hh, hs => .inl ⟨fr, st, by simp [forN, hh _ _ _ h0], h0⟩
  | d :: ds, m, fr, st, h0, hh, hs => by
    obtain ⟨fr1, st1, e1, q⟩ := hs 0 fr st d rfl h0
    have start : forN it g b (d :: ds) fr st = loopNext (forN it g b ds) (b fr1 st1) := by
      conv => lhs; unfold forN
      rw [if_pos (hh _ _ _ h0), e1, Out.then_ok]
    rw [start]
    rcases q with ⟨fr2, st2, e2, h2⟩ | ⟨x, s', e2, h2⟩
    · have step : loopNext (forN it g b ds) (b fr1 st1) = forN it g b ds fr2 st2 := by rcases e2 with e2 | e2 <;> rw [e2] <;> rfl
      rw [step]
      rcases for_ret J R ds (m + 1) fr2 st2 h2 hh fun i fr st d hd hj => by
        have e : m + 1 + i = m + (i + 1) := by omega
        rw [e] at hj ⊢
        exact hs (i + 1) fr st d (by simpa using hd) hj with ⟨fr3, st3, e3, h3⟩ | h
      · exact .inl ⟨fr3, st3, e3, by rw [List.length_cons, show m + (ds.length + 1) = m + 1 + ds.length by omega]; exact h3⟩
      · exact .inr h
    · rw [e2]
      exact .inr ⟨x, s', rfl, h2⟩
/-- while, by a measure -/
theorem while_inv {t : MT} {b : MS} (J : Nat → Fr → Sto → Prop) (E : Fr → Sto → Prop) (hs : ∀ m fr st, J m fr st → (t fr st = .ok false st ∧ E fr st) ∨ ∃ st1, t fr st = .ok true st1 ∧ ∃ fr' st' m', (b fr st1 = .nx fr' st' ∨ b fr st1 = .ct fr' st') ∧ m' < m ∧ J m' fr' st') :
    ∀ n m fr st, m < n → J m fr st → ∃ fr' st', whileN t b n fr st = .nx fr' st' ∧ E fr' st'
  | 0, m, fr, st, h, _ => absurd h (Nat.not_lt_zero _)
  | n + 1, m, fr, st, h, hj => by
    rcases hs m fr st hj with ⟨e, he⟩ | ⟨st1, e, fr2, st2, m2, e2, hm, h2⟩
    · refine ⟨fr, st, ?_, he⟩
      unfold whileN
      rw [e]
      rfl
    · obtain ⟨fr3, st3, e3, h3⟩ := while_inv J E hs n m2 fr2 st2 (by omega) h2
      refine ⟨fr3, st3, ?_, h3⟩
      unfold whileN
      rw [e, Out.then_ok, if_pos rfl]
      rcases e2 with e2 | e2 <;> (rw [e2]; exact e3)
/-- over a range with a step -/
theorem for_rngC {g : MG} {b : MS} {lo c : Int} {n : Nat} {fr : Fr} {st : Sto} (J : Nat → Fr → Sto → Prop) (h0 : J 0 fr st)
    (hs : ∀ i fr st, i < n → J i fr st → ∃ fr1 st1, g (.int (lo + (i : Int) * c)) fr st = .ok fr1 st1 ∧ ∃ fr' st', (b fr1 st1 = .nx fr' st' ∨ b fr1 st1 = .ct fr' st') ∧ J (i + 1) fr' st') :
    ∃ fr' st', forN (.seq (rngC lo c n)) g b (rngC lo c n) fr st = .nx fr' st' ∧ J n fr' st' := by
  obtain ⟨fr', st', e, h⟩ := for_inv (it := .seq (rngC lo c n)) J (rngC lo c n) 0 fr st h0 (fun _ _ _ _ => rfl) fun i fr st d hd hj => by
    obtain ⟨hi, rfl⟩ := rngC_get hd
    rw [Nat.zero_add] at hj ⊢
    exact hs i fr st hi hj
  rw [rngC_len, Nat.zero_add] at h
  exact ⟨fr', st', e, h⟩
theorem rangeSize_up {m c : Nat} (hc : 0 < c) : Builtin.Range.rangeSize 0 (m : Int) (c : Int) = (((m + c - 1) / c : Nat) : Int) := by
  unfold Builtin.Range.rangeSize
  rw [if_pos (by omega)]
  by_cases hm : 0 < m
  · rw [if_pos (by omega), show (m : Int) - 0 - 1 = ((m - 1 : Nat) : Int) by omega, show m + c - 1 = m - 1 + c by omega, Nat.add_div_right _ hc]
    simp
  · rw [if_neg (by omega), show m = 0 by omega, Nat.zero_add, Nat.div_eq_of_lt (by omega)]
    rfl
theorem rngN_up {m c : Nat} (hc : 0 < c) : rngN 0 (m : Int) (c : Int) = (m + c - 1) / c := by
  unfold rngN
  rw [rangeSize_up hc, Int.toNat_natCast]
theorem kR3_up {st : Sto} {m c : Nat} (hc : 0 < c) (hm : m < 1000000000) (hc2 : c < 1000000000) : kR3 [.int 0, .int (m : Int), .int (c : Int)] st = .ok (.seq (rngC 0 c ((m + c - 1) / c))) st := by
  have hq : (m + c - 1) / c ≤ m + c - 1 := Nat.div_le_self _ _
  have hr := rangeSize_up (m := m) hc
  have hn := rngN_up (m := m) hc
  generalize (m + c - 1) / c = q at hq hr hn ⊢
  have fit : ∀ x : Int, -(2 ^ 60) < x → x < 2 ^ 60 → Builtin.Range.rangeFitsLong x = true := fun x h1 h2 => by
    unfold Builtin.Range.rangeFitsLong
    simp
    omega
  have hs : Builtin.Range.small 0 (m : Int) (c : Int) = true := by
    unfold Builtin.Range.small
    rw [hr, fit 0 (by omega) (by omega), fit m (by omega) (by omega), fit c (by omega) (by omega), fit _ (by omega) (by omega), if_pos (by omega), fit _ (by omega) (by omega)]
    simp
  unfold kR3
  simp only
  rw [if_pos, hn]
  rw [hs, hr]
  simp
  omega
theorem getElem?_last {α : Type} (xs : List α) : xs[xs.length - 1]? = xs.getLast? := by rw [List.getLast?_eq_getElem?]
theorem closed_set {st : Sto} {n : Nat} {u : O} (h : belowO st.length u = true) (hc : Closed st.length st) : Closed st.length (st.set n u) := fun o ho => by
  rcases List.mem_or_eq_of_mem_set ho with h1 | h1
  · exact hc o h1
  · rw [h1]; exact h
theorem belows_ints (n : Nat) : ∀ xs : List Int, belows n (xs.map D.int) = true
  | [] => rfl
  | _ :: r => by rw [List.map_cons, belows, belows_ints n r]; rfl

/-! ### stores that grow -/
theorem get_app {st g : Sto} {n : Nat} {o : O} (h : st[n]? = some o) : (st ++ g)[n]? = some o := by rw [List.getElem?_append_left (List.getElem?_eq_some_iff.mp h).1]; exact h
@[simp] theorem get_new (st g : Sto) (o : O) : (st ++ o :: g)[st.length]? = some o := by simp
@[simp] theorem get_new1 (st g : Sto) (o1 o : O) : (st ++ o1 :: o :: g)[st.length + 1]? = some o := by
  rw [List.getElem?_append_right (by omega), show st.length + 1 - st.length = 1 by omega]
  rfl
@[simp] theorem get_new2 (st g : Sto) (o1 o2 o : O) : (st ++ o1 :: o2 :: o :: g)[st.length + 2]? = some o := by
  rw [List.getElem?_append_right (by omega), show st.length + 2 - st.length = 2 by omega]
  rfl
theorem set_app {st g : Sto} {n : Nat} {o : O} (h : st.length ≤ n) : (st ++ g).set n o = st ++ g.set (n - st.length) o := by rw [List.set_append_right _ _ h]
theorem set_new {st g : Sto} {o u : O} : (st ++ o :: g).set st.length u = st ++ u :: g := by simp
theorem set_new1 {st g : Sto} {o1 o u : O} : (st ++ o1 :: o :: g).set (st.length + 1) u = st ++ o1 :: u :: g := by
  rw [List.set_append_right _ _ (by omega), show st.length + 1 - st.length = 1 by omega]
  rfl
theorem set_new2 {st g : Sto} {o1 o2 o u : O} : (st ++ o1 :: o2 :: o :: g).set (st.length + 2) u = st ++ o1 :: o2 :: u :: g := by
  rw [List.set_append_right _ _ (by omega), show st.length + 2 - st.length = 2 by omega]
  rfl
/-! a cell of an old store, a new cell behind it -/
theorem gs1 {st : Sto} {n : Nat} {o : O} {g : Sto} (h : n < st.length) : (st.set n o ++ g)[n]? = some o := by
  rw [List.getElem?_append_left (by rw [List.length_set]; exact h), List.getElem?_set_self h]
theorem gs2 {st : Sto} {n : Nat} {o c : O} {g : Sto} : (st.set n o ++ c :: g)[st.length]? = some c := by
  rw [List.getElem?_append_right (by rw [List.length_set]; exact Nat.le_refl _), List.length_set, Nat.sub_self]
  rfl
theorem gs3 {st : Sto} {n : Nat} {o o' : O} {g : Sto} (h : n < st.length) : (st.set n o ++ g).set n o' = st.set n o' ++ g := by
  rw [List.set_append_left _ _ (by rw [List.length_set]; exact h), List.set_set]
theorem gs4 {st : Sto} {n : Nat} {o c c' : O} {g : Sto} : (st.set n o ++ c :: g).set st.length c' = st.set n o ++ c' :: g := by
  rw [List.set_append_right _ _ (by rw [List.length_set]; exact Nat.le_refl _), List.length_set, Nat.sub_self]
  rfl
theorem set_id {st : Sto} {n : Nat} {o : O} (h : st[n]? = some o) : st.set n o = st := by
  obtain ⟨hl, he⟩ := List.getElem?_eq_some_iff.mp h
  rw [← he, List.set_getElem_self]
/-! ### lists of ints compared -/
theorem optAll_ints (st : Sto) (n : Nat) : ∀ xs : List Int, optAll (toPD st (n + 1)) (xs.map D.int) = some (xs.map PyData.int)
  | [] => rfl
  | x :: r => by
    rw [List.map_cons, optAll, optAll_ints st n r]
    rfl
theorem toPD_ints {st : Sto} {k : Nat} {xs : List Int} (h : st[k]? = some (.lst (xs.map D.int))) (n : Nat) : toPD st (n + 2) (.loc k) = some (.list (xs.map PyData.int)) := by
  rw [toPD]
  simp only [h]
  rw [optAll_ints]
  rfl
theorem canLay_ints : ∀ xs : List Int, PyData.canLayAll0 (xs.map PyData.int) = true
  | [] => rfl
  | x :: r => by
    rw [List.map_cons, PyData.canLayAll0, canLay_ints r]
    rfl
theorem eqv_ints : ∀ xs ys : List Int, PyData.eqvAll (xs.map PyData.int) (ys.map PyData.int) = decide (xs = ys)
  | [], [] => by simp [PyData.eqvAll]
  | [], _ :: _ => by simp [PyData.eqvAll]
  | _ :: _, [] => by simp [PyData.eqvAll]
  | x :: r, y :: s => by
    rw [List.map_cons, List.map_cons, PyData.eqvAll, eqv_ints r s, PyData.eqv]
    by_cases h : x = y <;> by_cases h2 : r = s <;> simp [h, h2]
theorem dep_ints : ∀ xs : List Int, PyData.depthAll (xs.map PyData.int) = 0
  | [] => rfl
  | x :: r => by
    rw [List.map_cons, PyData.depthAll, dep_ints r, PyData.depth]
    rfl
theorem shaped_ints (xs : List Int) : SeqAt.shaped (.list (xs.map PyData.int)) = true := by
  unfold SeqAt.shaped
  rw [PyData.canLay0, canLay_ints, PyData.depth, dep_ints]
  decide
theorem shapedT_ints (xs : List Int) : SeqAt.shaped (.tuple (xs.map PyData.int)) = true := by
  unfold SeqAt.shaped
  rw [PyData.canLay0, canLay_ints, PyData.depth, dep_ints]
  decide
theorem deepEq_ints {neg : Bool} {st : Sto} {m n : Nat} {xs ys : List Int} (h1 : st[m]? = some (.lst (xs.map D.int))) (h2 : st[n]? = some (.lst (ys.map D.int))) :
    deepEq neg (.loc m) (.loc n) st = .ok (.bl (if neg then !decide (xs = ys) else decide (xs = ys))) st := by
  unfold deepEq
  rw [toPD_ints h1 58, toPD_ints h2 58]
  simp only [shaped_ints, Bool.and_self, if_true, PyData.eqv, eqv_ints]
theorem toPD_tints {st : Sto} {xs : List Int} (n : Nat) : toPD st (n + 2) (.tup (xs.map D.int)) = some (.tuple (xs.map PyData.int)) := by
  rw [toPD]
  simp only [optAll_ints]
  rfl
theorem deepEq_tints {neg : Bool} {st : Sto} {xs ys : List Int} :
    deepEq neg (.tup (xs.map D.int)) (.tup (ys.map D.int)) st = .ok (.bl (if neg then !decide (xs = ys) else decide (xs = ys))) st := by
  unfold deepEq
  rw [toPD_tints 58, toPD_tints 58]
  simp only [shapedT_ints, Bool.and_self, if_true, PyData.eqv, eqv_ints]

theorem toPD_fints {st : Sto} {xs : List Int} (n : Nat) : toPD st (n + 2) (.fl (xs.map D.int)) = some (.list (xs.map PyData.int)) := by
  rw [toPD]
  simp only [optAll_ints]
  rfl
theorem deepEq_fints {neg : Bool} {st : Sto} {xs ys : List Int} :
    deepEq neg (.fl (xs.map D.int)) (.fl (ys.map D.int)) st = .ok (.bl (if neg then !decide (xs = ys) else decide (xs = ys))) st := by
  unfold deepEq
  rw [toPD_fints 58, toPD_fints 58]
  simp only [shaped_ints, Bool.and_self, if_true, PyData.eqv, eqv_ints]
theorem deepEq_lf {neg : Bool} {st : Sto} {m : Nat} {xs ys : List Int} (h1 : st[m]? = some (.lst (xs.map D.int))) :
    deepEq neg (.loc m) (.fl (ys.map D.int)) st = .ok (.bl (if neg then !decide (xs = ys) else decide (xs = ys))) st := by
  unfold deepEq
  rw [toPD_ints h1 58, toPD_fints 58]
  simp only [shaped_ints, Bool.and_self, if_true, PyData.eqv, eqv_ints]

/-! ### comprehensions -/
/-- items made without a change of the store -/
theorem lc_pure {it : ItD} {g : MG} {t : MT} {e : ME} {fr : Fr} {st : Sto} (f : D → D) : ∀ (ds : List D), holdsB it st = true →
    (∀ d ∈ ds, ∃ fr1, g d fr st = .ok fr1 st ∧ t fr1 st = .ok true st ∧ e fr1 st = .ok (f d) st) → lcN it g t e ds fr st = .ok (ds.map f) st
  | [], hh, _ => by simp [lcN, hh]
  | d :: ds, hh, h => by
    obtain ⟨fr1, e1, e2, e3⟩ := h d List.mem_cons_self
    unfold lcN
    rw [if_pos hh, e1]
    simp only [Out.bind_ok, e2, e3, if_true]
    rw [lc_pure f ds hh fun x hx => h x (List.mem_cons_of_mem _ hx)]
    rfl
/-- .. of a range, ints -/
theorem lc_rng {g : MG} {t : MT} {e : ME} {fr : Fr} {st : Sto} {lo : Int} {n : Nat} (f : Nat → Int)
    (h : ∀ k : Nat, k < n → ∃ fr1, g (.int (lo + k)) fr st = .ok fr1 st ∧ t fr1 st = .ok true st ∧ e fr1 st = .ok (.int (f k)) st) : lcN (.seq (rng lo n)) g t e (rng lo n) fr st = .ok (((List.range n).map f).map D.int) st := by
  have key : lcN (.seq (rng lo n)) g t e (rng lo n) fr st = .ok ((rng lo n).map fun d => match d with | .int i => .int (f (i - lo).toNat) | d => d) st := by
    refine lc_pure _ _ rfl fun d hd => ?_
    obtain ⟨i, hi, hd⟩ := List.mem_iff_getElem.mp hd
    have hd' : (rng lo n)[i]? = some d := by rw [List.getElem?_eq_getElem hi, hd]
    obtain ⟨h1, rfl⟩ := rng_get hd'
    obtain ⟨fr1, e1, e2, e3⟩ := h i h1
    refine ⟨fr1, e1, e2, ?_⟩
    rw [e3]
    simp only
    rw [show (lo + (i : Int) - lo).toNat = i by omega]
  rw [key]
  congr 1
  unfold rng
  rw [List.map_map, List.map_map]
  apply List.map_congr_left
  intro k _
  simp only [Function.comp]
  rw [show (lo + (k : Int) - lo).toNat = k by omega]
theorem lc_filter {it : ItD} {g : MG} {t : MT} {e : ME} {fr : Fr} {st : Sto} (p : D → Bool) (f : D → D) : ∀ (ds : List D), holdsB it st = true →
    (∀ d ∈ ds, ∃ fr1, g d fr st = .ok fr1 st ∧ t fr1 st = .ok (p d) st ∧ (p d = true → e fr1 st = .ok (f d) st)) → lcN it g t e ds fr st = .ok ((ds.filter p).map f) st
  | [], hh, _ => by simp [lcN, hh]
  | d :: ds, hh, h => by
    obtain ⟨fr1, e1, e2, e3⟩ := h d List.mem_cons_self
    have ih := lc_filter p f ds hh fun x hx => h x (List.mem_cons_of_mem _ hx)
    unfold lcN
    rw [if_pos hh, e1]
    simp only [Out.bind_ok, e2]
    by_cases hp : p d = true
    · rw [if_pos hp, e3 hp, List.filter_cons_of_pos hp]
      simp only [Out.bind_ok, ih]
      rfl
    · rw [if_neg hp, List.filter_cons_of_neg hp]
      exact ih
/-- .. of a range: the ints that pass -/
theorem lc_rngF {g : MG} {t : MT} {e : ME} {fr : Fr} {st : Sto} {lo : Int} {n : Nat} (p : Nat → Bool) (f : Nat → Int)
    (h : ∀ k : Nat, k < n → ∃ fr1, g (.int (lo + k)) fr st = .ok fr1 st ∧ t fr1 st = .ok (p k) st ∧ (p k = true → e fr1 st = .ok (.int (f k)) st)) :
    lcN (.seq (rng lo n)) g t e (rng lo n) fr st = .ok ((((List.range n).filter p).map f).map D.int) st := by
  have key : lcN (.seq (rng lo n)) g t e (rng lo n) fr st = .ok (((rng lo n).filter fun d => match d with | .int i => p (i - lo).toNat | _ => false).map fun d => match d with | .int i => .int (f (i - lo).toNat) | d => d) st := by
    refine lc_filter _ _ _ rfl fun d hd => ?_
    obtain ⟨i, hi, hd⟩ := List.mem_iff_getElem.mp hd
    have hd' : (rng lo n)[i]? = some d := by rw [List.getElem?_eq_getElem hi, hd]
    obtain ⟨h1, rfl⟩ := rng_get hd'
    obtain ⟨fr1, e1, e2, e3⟩ := h i h1
    have ei : (lo + (i : Int) - lo).toNat = i := by omega
    refine ⟨fr1, e1, ?_, fun hp => ?_⟩
    · simp only [ei]
      exact e2
    · simp only [ei] at hp ⊢
      exact e3 hp
  rw [key]
  congr 1
  unfold rng
  rw [List.filter_map, List.map_map, List.map_map]
  have e1 : ((fun d => match d with | D.int i => p (i - lo).toNat | _ => false) ∘ fun (k : Nat) => D.int (lo + (k : Int))) = p := by
    funext k
    simp only [Function.comp]
    rw [show (lo + (k : Int) - lo).toNat = k by omega]
  rw [e1]
  apply List.map_congr_left
  intro k _
  simp only [Function.comp]
  rw [show (lo + (k : Int) - lo).toNat = k by omega]
theorem atI_nat {α : Type} {xs : List α} {i : Nat} : atI xs (i : Int) = xs[i]? := by
  unfold atI ixN
  rw [if_pos (Int.natCast_nonneg i)]
  by_cases h : i < xs.length
  · rw [if_pos (by omega)]
    simp
  · rw [if_neg (by omega)]
    simp [List.getElem?_eq_none (by omega : xs.length ≤ i)]

@[simp] theorem atI_last {α : Type} {xs : List α} {x : α} : atI (xs ++ [x]) (-1) = some x := by
  have e : ixN (xs ++ [x]).length (-1) = some xs.length := by
    unfold ixN
    rw [if_neg (by decide), if_pos (by simp; omega)]
    simp
    omega
  unfold atI
  rw [e]
  simp
/-! ### quiet expressions -/
section
variable {fr : Fr} {st : Sto} {f g h : ME} {xs : MA} {d : D}
def qD (q : Option D) (st : Sto) : Out D := match q with
  | some d => if qok d = true then .ok d st else .no
  | none => .no
@[simp] theorem eVarQ_s (i : Nat) : eVarQ i fr st = qD (fget fr i) st := by
  unfold eVarQ qD
  cases fget fr i <;> rfl
@[simp] theorem qD_i (i : Int) : qD (some (.int i)) st = .ok (.int i) st := (rfl)
@[simp] theorem qD_b (i : Bool) : qD (some (.bl i)) st = .ok (.bl i) st := (rfl)
@[simp] theorem eIsiI_s (n : String) : eIsiI n f fr st = (f fr st).bind (bIsiI n) := (rfl)
@[simp] theorem bIsiI_int (i : Int) : bIsiI "int" (.int i) st = .ok (.bl true) st := (rfl)
@[simp] theorem bIsiI_bool (i : Int) : bIsiI "bool" (.int i) st = .ok (.bl false) st := (rfl)
@[simp] theorem vAndQ_s : vAndQ f g fr st = (f fr st).bind (kAndQ g fr) := (rfl)
@[simp] theorem kAndQ_t : kAndQ g fr (.bl true) st = (g fr st).bind asBl := (rfl)
@[simp] theorem kAndQ_f : kAndQ g fr (.bl false) st = .ok (.bl false) st := (rfl)
@[simp] theorem asBl_s (b : Bool) : asBl (.bl b) st = .ok (.bl b) st := (rfl)
@[simp] theorem vNotQ_s : vNotQ f fr st = (f fr st).bind kNotQ := (rfl)
@[simp] theorem kNotQ_s (b : Bool) : kNotQ (.bl b) st = .ok (.bl (!b)) st := (rfl)
def kBtw2 (x y z : D) (st : Sto) : Out D := oBtw x y z st
def kBtw1 (h : ME) (fr : Fr) (x y : D) (st : Sto) : Out D := (h fr st).bind (kBtw2 x y)
def kBtw0 (g h : ME) (fr : Fr) (x : D) (st : Sto) : Out D := (g fr st).bind (kBtw1 h fr x)
@[simp] theorem eBtw_s : eBtw f g h fr st = (f fr st).bind (kBtw0 g h fr) := (rfl)
@[simp] theorem kBtw0_s (x : D) : kBtw0 g h fr x st = (g fr st).bind (kBtw1 h fr x) := (rfl)
@[simp] theorem kBtw1_s (x y : D) : kBtw1 h fr x y st = (h fr st).bind (kBtw2 x y) := (rfl)
@[simp] theorem kBtw2_s (i j k : Int) : kBtw2 (.int i) (.int j) (.int k) st = .ok (.bl (decide (i ≤ j) && decide (j ≤ k))) st := (rfl)
@[simp] theorem eCallQ_s (F : MF) : eCallQ F xs fr st = (xs fr st).bind (kCallQ F) := (rfl)
@[simp] theorem kCallQ_s (F : MF) (ds : List D) : kCallQ F ds st = (F ds st).bind asBl := (rfl)
def kAll2 (any : Bool) (bs : List Bool) (st : Sto) : Out D := .ok (.bl (if any = true then bs.any id else bs.all id)) st
@[simp] theorem kAllG_t (any : Bool) (i : Nat) (ds : List D) : kAllG any i f fr (.tup ds) st = (allN i f fr ds st).bind (kAll2 any) := (rfl)
@[simp] theorem kAllG_f (any : Bool) (i : Nat) (ds : List D) : kAllG any i f fr (.fl ds) st = (allN i f fr ds st).bind (kAll2 any) := (rfl)
@[simp] theorem kAll2_s (any : Bool) (bs : List Bool) : kAll2 any bs st = .ok (.bl (if any = true then bs.any id else bs.all id)) st := (rfl)
theorem allN_map {α : Type} {i : Nat} {e : ME} {fr : Fr} {st : Sto} (c : α → D) (p : α → Bool) : ∀ l : List α, (∀ x ∈ l, e (fset fr i (some (c x))) st = .ok (.bl (p x)) st) → allN i e fr (l.map c) st = .ok (l.map p) st
  | [], _ => rfl
  | x :: r, hh => by
    rw [List.map_cons, allN, hh x List.mem_cons_self]
    simp only
    rw [allN_map c p r fun y hy => hh y (List.mem_cons_of_mem _ hy)]
    rfl
end
/-! ### comprehensions over mapped items -/
theorem lc_map {α : Type} {it : ItD} {g : MG} {t : MT} {e : ME} {fr : Fr} {st : Sto} (c f : α → D) : ∀ l : List α, holdsB it st = true →
    (∀ x ∈ l, ∃ fr1, g (c x) fr st = .ok fr1 st ∧ t fr1 st = .ok true st ∧ e fr1 st = .ok (f x) st) → lcN it g t e (l.map c) fr st = .ok (l.map f) st
  | [], hh, _ => by simp [lcN, hh]
  | x :: r, hh, h => by
    obtain ⟨fr1, e1, e2, e3⟩ := h x List.mem_cons_self
    rw [List.map_cons, lcN, if_pos hh, e1]
    simp only [Out.bind_ok, e2, e3, if_true]
    rw [lc_map c f r hh fun y hy => h y (List.mem_cons_of_mem _ hy)]
    rfl
theorem lc_filt {α : Type} {it : ItD} {g : MG} {t : MT} {e : ME} {fr : Fr} {st : Sto} (c f : α → D) (p : α → Bool) : ∀ l : List α, holdsB it st = true →
    (∀ x ∈ l, ∃ fr1, g (c x) fr st = .ok fr1 st ∧ t fr1 st = .ok (p x) st ∧ (p x = true → e fr1 st = .ok (f x) st)) → lcN it g t e (l.map c) fr st = .ok ((l.filter p).map f) st
  | [], hh, _ => by simp [lcN, hh]
  | x :: r, hh, h => by
    obtain ⟨fr1, e1, e2, e3⟩ := h x List.mem_cons_self
    have ih := lc_filt c f p r hh fun y hy => h y (List.mem_cons_of_mem _ hy)
    rw [List.map_cons, lcN, if_pos hh, e1]
    simp only [Out.bind_ok, e2]
    by_cases hp : p x = true
    · rw [if_pos hp, e3 hp, List.filter_cons_of_pos hp]
      simp only [Out.bind_ok, ih]
      rfl
    · rw [if_neg hp, List.filter_cons_of_neg hp]
      exact ih
theorem lcB_map {α : Type} {it : ItD} {g : MG} {t : MT} {inn : MA} {fr : Fr} {st : Sto} (c : α → D) (f : α → List D) : ∀ l : List α, holdsB it st = true →
    (∀ x ∈ l, ∃ fr1, g (c x) fr st = .ok fr1 st ∧ t fr1 st = .ok true st ∧ inn fr1 st = .ok (f x) st) → lcB it g t inn (l.map c) fr st = .ok (l.flatMap f) st
  | [], hh, _ => by simp [lcB, hh]
  | x :: r, hh, h => by
    obtain ⟨fr1, e1, e2, e3⟩ := h x List.mem_cons_self
    rw [List.map_cons, lcB, if_pos hh, e1]
    simp only [Out.bind_ok, e2, e3, if_true]
    rw [lcB_map c f r hh fun y hy => h y (List.mem_cons_of_mem _ hy)]
    rfl
/-! ### what a def hands back -/
theorem mFz_s {F : MF} {ds : List D} {st : Sto} : mFz F ds st = fzOut st (F ds st) := (rfl)
theorem frz_pure {S : Sto} {n k : Nat} {d : D} (h : noloc d = true) : frzF S n (k + 1) d = some d := by
  show (if noloc d = true then some d else _) = _
  exact if_pos h
theorem fz_pure {st : Sto} {d : D} (h : noloc d = true) : fzOut st (.ok d st) = .ok d st := by
  have := fzOut_ok (st := st) (g := []) (d := d) (d' := d) (frz_pure h)
  rwa [List.append_nil] at this
@[simp] theorem fz_int {st : Sto} {i : Int} : fzOut st (.ok (.int i) st) = .ok (.int i) st := fz_pure rfl
@[simp] theorem fz_bl {st : Sto} {i : Bool} : fzOut st (.ok (.bl i) st) = .ok (.bl i) st := fz_pure rfl
@[simp] theorem fz_str {st : Sto} {i : Str} : fzOut st (.ok (.str i) st) = .ok (.str i) st := fz_pure rfl
@[simp] theorem fz_non {st : Sto} : fzOut st (.ok .non st) = .ok .non st := fz_pure rfl
@[simp] theorem fz_no {st : Sto} : fzOut st .no = .no := (rfl)
@[simp] theorem fz_ex {st : Sto} {c : Nat} : fzOut st (.ex c st) = .ex c st := by
  have := fzOut_ex (st := st) (g := []) (c := c)
  rwa [List.append_nil] at this
/-- .. a cell written -/
theorem fz_set {st : Sto} {n : Nat} {u : O} {d : D} (h : noloc d = true) (hu : belowO st.length u = true) : fzOut st (.ok d (st.set n u)) = .ok d (st.set n u) := by
  have := fzOut_set (st := st) (s1 := st.set n u) (g := []) (d := d) (d' := d) (List.length_set ..) (closed_set hu) (frz_pure h)
  rwa [List.append_nil] at this
theorem fz_exset {st : Sto} {n : Nat} {u : O} {c : Nat} (hu : belowO st.length u = true) : fzOut st (.ex c (st.set n u)) = .ex c (st.set n u) := by
  have := fzOut_exs (st := st) (s1 := st.set n u) (g := []) (c := c) (List.length_set ..) (closed_set hu)
  rwa [List.append_nil] at this
theorem frz_ins {S : Sto} {n k m x : Nat} {fs : List (Nat × D)} (h : S[m]? = some (.ins x fs)) (hm : n ≤ m) : frzF S n (k + 1) (.loc m) = (objFs (frzF S n k) fs).map (.obj x (fs.map (·.1))) := by
  show (if noloc (.loc m) = true then _ else if m < n then _ else _) = _
  rw [if_neg (by simp [noloc]), if_neg (by omega), h]
theorem frz_lst {S : Sto} {n k m : Nat} {ds : List D} (h : S[m]? = some (.lst ds)) (hm : n ≤ m) : frzF S n (k + 1) (.loc m) = (optMap (frzF S n k) ds).map .fl := by
  show (if noloc (.loc m) = true then _ else if m < n then _ else _) = _
  rw [if_neg (by simp [noloc]), if_neg (by omega), h]
theorem frz_map {S : Sto} {n k : Nat} : ∀ {ds : List D}, nolocs ds = true → optMap (frzF S n (k + 1)) ds = some ds
  | [], _ => rfl
  | d :: r, h => by
    rw [nolocs, Bool.and_eq_true] at h
    rw [optMap, frz_pure h.1, frz_map h.2]
@[simp] theorem objFs_nil {f : D → Option D} : objFs f [] = some [] := (rfl)
theorem objFs_step {f : D → Option D} {n : Nat} {d x : D} {r : List (Nat × D)} {xs : List D} (h : (if n = kLooked then cntOf d else f d) = some x) (hr : objFs f r = some xs) : objFs f ((n, d) :: r) = some (x :: xs) := by
  rw [objFs, h, hr]
theorem objFs_fld {f : D → Option D} {n : Nat} {d x : D} {r : List (Nat × D)} {xs : List D} (hn : n ≠ kLooked) (h : f d = some x) (hr : objFs f r = some xs) : objFs f ((n, d) :: r) = some (x :: xs) := objFs_step (by rw [if_neg hn]; exact h) hr
theorem objFs_cnt {f : D → Option D} {r : List (Nat × D)} {xs : List D} (hr : objFs f r = some xs) : objFs f ((116, .cnt) :: r) = some (.cnt :: xs) := objFs_step rfl hr
theorem nolocs_append : ∀ {a b : List D}, nolocs (a ++ b) = (nolocs a && nolocs b)
  | [], b => by simp [nolocs]
  | x :: r, b => by simp [nolocs, nolocs_append (a := r), Bool.and_assoc]
theorem nolocs_map {α : Type} (f : α → D) (h : ∀ x, noloc (f x) = true) : ∀ l : List α, nolocs (l.map f) = true
  | [] => rfl
  | x :: r => by simp [nolocs, h x, nolocs_map f h r]
@[simp] theorem nolocs_ints (l : List Int) : nolocs (l.map D.int) = true := nolocs_map _ (fun _ => rfl) l
theorem belows_map {α : Type} (n : Nat) (f : α → D) (h : ∀ x, below n (f x) = true) : ∀ l : List α, belows n (l.map f) = true
  | [] => rfl
  | x :: r => by simp [belows, h x, belows_map n f h r]
/-! ### slices -/
theorem cut_lo {α : Type} {xs : List α} {i : Nat} : cutL xs (some (i : Int)) none = xs.drop i := by
  unfold cutL
  rw [HT.sIx_nat, HT.sIx_none]
  by_cases h : i ≤ xs.length
  · rw [Nat.min_eq_left h, List.take_of_length_le (by rw [List.length_drop]; exact Nat.le_refl _)]
  · rw [Nat.min_eq_right (by omega), List.drop_of_length_le (Nat.le_refl _), List.drop_of_length_le (by omega)]
    simp
theorem cut_hi {α : Type} {xs : List α} {j : Nat} : cutL xs none (some (j : Int)) = xs.take j := by
  unfold cutL
  rw [HT.sIx_nat, HT.sIx_none, List.drop_zero, Nat.sub_zero]
  by_cases h : j ≤ xs.length
  · rw [Nat.min_eq_left h]
  · rw [Nat.min_eq_right (by omega), List.take_of_length_le (Nat.le_refl _), List.take_of_length_le (by omega)]
theorem cut_lh {α : Type} {xs : List α} {i j : Nat} : cutL xs (some (i : Int)) (some (j : Int)) = (xs.take j).drop i := by
  unfold cutL
  rw [HT.sIx_nat, HT.sIx_nat, List.drop_take]
  by_cases h : i ≤ xs.length
  · rw [Nat.min_eq_left h]
    by_cases h2 : j ≤ xs.length
    · rw [Nat.min_eq_left h2]
    · rw [Nat.min_eq_right (by omega), List.take_of_length_le (by rw [List.length_drop]; exact Nat.le_refl _), List.take_of_length_le (by rw [List.length_drop]; omega)]
  · rw [Nat.min_eq_right (by omega : xs.length ≤ i), List.drop_of_length_le (Nat.le_refl _), List.drop_of_length_le (by omega : xs.length ≤ i)]
    simp
theorem cut_nn {α : Type} {xs : List α} : cutL xs none none = xs := by
  unfold cutL
  rw [HT.sIx_none, HT.sIx_none]
  simp
theorem cut_last {α : Type} {xs : List α} : cutL xs none (some (-1)) = xs.dropLast := by
  unfold cutL HT.sIx
  simp only [List.drop_zero]
  rw [if_pos (by decide), List.dropLast_eq_take]
  congr 1
  omega
theorem cut_map {α β : Type} {f : α → β} {xs : List α} {lo hi : Option Int} : cutL (xs.map f) lo hi = (cutL xs lo hi).map f := by
  unfold cutL
  simp
/-! ### rows of bits -/
def bI (b : Bool) : Int := if b then 1 else 0
def bD (b : Bool) : D := .int (bI b)
abbrev rowD (bs : List Bool) : D := .tup (bs.map bD)
def ones (bs : List Bool) : Nat := bs.count true
/-- how many of the kind -/
def howm (b : Bool) (bs : List Bool) : Nat := bs.count b
theorem bI_t : bI true = 1 := rfl
theorem bI_f : bI false = 0 := rfl
theorem bI_cases (b : Bool) : bI b = 0 ∨ bI b = 1 := by cases b <;> simp [bI]
theorem row_ints (bs : List Bool) : bs.map bD = (bs.map bI).map D.int := by rw [List.map_map]; rfl
theorem sum_bI (bs : List Bool) : (bs.map bI).sum = (ones bs : Int) := by
  induction bs with
  | nil => rfl
  | cons b r ih =>
    rw [List.map_cons, List.sum_cons, ih]
    unfold ones
    cases b <;> simp [bI, List.count_cons] <;> omega
theorem toInts_map' (ns : List Int) : toInts (ns.map D.int) = some ns := toInts_map ns
theorem sum_row {st : Sto} (bs : List Bool) : bSumA [rowD bs] st = .ok (.int (ones bs)) st := by
  unfold bSumA
  simp only [asQ, Option.bind_some, row_ints, toInts_map, sum_bI]
theorem sum_fl {st : Sto} (ns : List Int) : bSumA [.fl (ns.map D.int)] st = .ok (.int ns.sum) st := by
  unfold bSumA
  simp only [asQ, Option.bind_some, toInts_map]
theorem sum_tp {st : Sto} (ns : List Int) : bSumA [.tup (ns.map D.int)] st = .ok (.int ns.sum) st := by
  unfold bSumA
  simp only [asQ, Option.bind_some, toInts_map]
@[simp] theorem len_row {st : Sto} (bs : List Bool) : bLen [rowD bs] st = .ok (.int bs.length) st := by
  rw [bLen_t, List.length_map]
@[simp] theorem noloc_bD (b : Bool) : noloc (bD b) = true := rfl
@[simp] theorem nolocs_row (bs : List Bool) : nolocs (bs.map bD) = true := nolocs_map _ (fun _ => rfl) bs
@[simp] theorem noloc_row (bs : List Bool) : noloc (rowD bs) = true := nolocs_row bs
theorem sl_row {mk : List D → Sto → Out D} {st : Sto} {bs : List Bool} {lo hi : Option Int} : slD mk (rowD bs) lo hi st = .ok (rowD (cutL bs lo hi)) st := by
  show Out.ok (D.tup (cutL (bs.map bD) lo hi)) st = _
  rw [cut_map]
theorem ix_row {st : Sto} {bs : List Bool} {i : Nat} {b : Bool} (h : bs[i]? = some b) : oIx (rowD bs) (.int (i : Int)) st = .ok (.int (bI b)) st := oIx_t (by rw [atI_nat, List.getElem?_map, h]; rfl)
theorem eq_row {neg : Bool} {st : Sto} {xs ys : List Bool} : deepEq neg (rowD xs) (rowD ys) st = .ok (.bl (if neg then !decide (xs = ys) else decide (xs = ys))) st := by
  show deepEq neg (.tup (xs.map bD)) (.tup (ys.map bD)) st = _
  rw [row_ints, row_ints, deepEq_tints]
  have e : (xs.map bI = ys.map bI) ↔ xs = ys := by
    refine ⟨fun h => ?_, fun h => by rw [h]⟩
    exact (List.map_inj_right (fun a b h => by cases a <;> cases b <;> simp [bI] at h ⊢)).mp h
  simp only [e]
end Vi
set_option maxRecDepth 100000
set_option maxHeartbeats 1000000
/-! Lib3: methods of instances looked up by simp. -/
namespace Vi
open PySem PySem.Spec PyProof.Rows L2
section
variable {fr : Fr} {st : Sto} {x k : Nat} {xs : MA} {d : D} {T : MTab} {F : MF}
def kMthC (T : MTab) (o : Option Nat) (xs : MA) (fr : Fr) (d : D) (st : Sto) : Out D := match o with
  | some x => match mtGet T x with
    | some F => (xs fr st).bind (kMth2 F d)
    | none => .no
  | none => .no
theorem kMth_o (m : Nat) : kMth T m xs fr d st = kMthC T (clsO st m d) xs fr d st := (rfl)
@[simp] theorem kMthC_cons : kMthC ((k, F) :: T) (some x) xs fr d st = if k = x then (xs fr st).bind (kMth2 F d) else kMthC T (some x) xs fr d st := by
  unfold kMthC
  by_cases h : k = x <;> simp [h]
theorem kR3_down {n : Nat} (hn : n < 1000000000) : kR3 [.int (n : Int), .int 0, .int (-1)] st = .ok (.seq (rngC n (-1) n)) st := by
  have fit : ∀ x : Int, -(2 ^ 60) < x → x < 2 ^ 60 → Builtin.Range.rangeFitsLong x = true := fun x h1 h2 => by
    unfold Builtin.Range.rangeFitsLong
    simp
    omega
  have hr : Builtin.Range.rangeSize (n : Int) 0 (-1) = n := by
    unfold Builtin.Range.rangeSize
    rw [if_neg (by omega)]
    by_cases h : (n : Int) > 0
    · rw [if_pos h]; simp
    · rw [if_neg h]; omega
  have hs : Builtin.Range.small (n : Int) 0 (-1) = true := by
    unfold Builtin.Range.small
    rw [hr, fit n (by omega) (by omega), fit 0 (by omega) (by omega), fit (-1) (by omega) (by omega), if_neg (by omega), fit (0 + (-1 + 1)) (by omega) (by omega)]
    simp
  unfold kR3 rngN
  simp only
  rw [hs, hr, if_pos (by simp)]
  simp
@[simp] theorem gT4_s (r : MGs) (a b c d : D) : gT 4 r (.tup [a, b, c, d]) fr st = r [a, b, c, d] fr st := (rfl)
@[simp] theorem gT5_s (r : MGs) (a b c d e : D) : gT 5 r (.tup [a, b, c, d, e]) fr st = r [a, b, c, d, e] fr st := (rfl)
@[simp] theorem gT6_s (r : MGs) (a b c d e f : D) : gT 6 r (.tup [a, b, c, d, e, f]) fr st = r [a, b, c, d, e, f] fr st := (rfl)
@[simp] theorem mkTup5 {a b c d e : D} : mkTup [a, b, c, d, e] st = .ok (.tup [a, b, c, d, e]) st := if_pos (Nat.le_of_ble_eq_true rfl)
@[simp] theorem mkTup6 {a b c d e f : D} : mkTup [a, b, c, d, e, f] st = .ok (.tup [a, b, c, d, e, f]) st := if_pos (Nat.le_of_ble_eq_true rfl)
@[simp] theorem mkFl7 {a b c d e f g : D} : mkFl [a, b, c, d, e, f, g] st = .ok (.fl [a, b, c, d, e, f, g]) st := if_pos (Nat.le_of_ble_eq_true rfl)
@[simp] theorem mkFl8 {a b c d e f g h : D} : mkFl [a, b, c, d, e, f, g, h] st = .ok (.fl [a, b, c, d, e, f, g, h]) st := if_pos (Nat.le_of_ble_eq_true rfl)
/-! slots of any frame -/
theorem fset_len (i : Nat) (v : Option D) : (fset fr i v).length = fr.length := by rw [fset_eq]; simp
theorem fget_ne {i j : Nat} {v : Option D} (h : i ≠ j) : fget (fset fr j v) i = fget fr i := by
  rw [fget_eq, fget_eq, fset_eq, List.getElem?_set_ne (Ne.symm h)]
theorem fget_self {i : Nat} {v : Option D} (h : i < fr.length) : fget (fset fr i v) i = v := by
  rw [fget_eq, fset_eq, List.getElem?_set_self h]
  rfl
end
end Vi
set_option maxRecDepth 100000
set_option maxHeartbeats 1000000
/-! R1: is_number, is_row, the plain row. -/
namespace Pg
open PySem PySem.Spec PyProof.Rows L2 Vi
theorem is_number_s {st : Sto} {v a b : Int} : f_is_number [.int v, .int a, .int b] st = .ok (.bl (decide (a ≤ v) && decide (v ≤ b))) st := by
  unfold f_is_number m_is_number
  rw [mFz_s, mF3]
  simp
  by_cases h : a ≤ v <;> simp [h]
theorem fq_is_number_s {st : Sto} {v a b : Int} : fq_is_number [.int v, .int a, .int b] st = .ok (.bl (decide (a ≤ v) && decide (v ≤ b))) st := by
  unfold fq_is_number
  rw [mF3]
  simp
theorem is_row_s {st : Sto} {bs : List Bool} : f_is_row [rowD bs] st = .ok (.bl (decide (bs.length ≤ 4000))) st := by
  unfold f_is_row m_is_row
  rw [mFz_s, mF1]
  simp
  by_cases h : bs.length ≤ 4000
  · have e : allN 1 (eCallQ fq_is_number (aCons (eVarQ 1) (aCons (eC (.int 0)) (aCons (eC (.int 1)) aNil)))) [some (rowD bs), none] (bs.map bD) st = .ok (bs.map fun _ => true) st := allN_map bD (fun _ => true) bs fun b _ => by
      cases b <;> simp [bD, bI, fq_is_number_s]
    have e2 : ((bs.length : Int) ≤ 4000) := by omega
    simp [h, e, e2]
  · have e2 : ¬ ((bs.length : Int) ≤ 4000) := by omega
    simp [h, e2]
end Pg
set_option maxRecDepth 100000
set_option maxHeartbeats 1000000
/-! R2: the plain row's making. -/
namespace Pg
open PySem PySem.Spec PyProof.Rows L2 Vi
/-- ones ahead of a place -/
def tk (bs : List Bool) (p : Nat) : Int := (ones (bs.take p) : Int)
def grp (bs : List Bool) (n : Nat) : List Int := (List.range n).map fun k => tk bs (64 * k)
def blk (bs : List Bool) (n : Nat) : List Int := (List.range n).map fun j => tk bs (8 * j) - tk bs (64 * (j / 8))
abbrev rowFs (bs : List Bool) (g b : D) : List (Nat × D) := [(24, rowD bs), (74, g), (26, b), (116, .cnt)]
/-- a plain row -/
def rowO (bs : List Bool) : D := .obj 25 [24, 74, 26, 116, 139] [rowD bs, .fl ((grp bs (bs.length / 64 + 1)).map D.int), .fl ((blk bs (bs.length / 8 + 1)).map D.int), .cnt, .int (tk bs bs.length)]
theorem tk_step (bs : List Bool) (p q : Nat) (h : p ≤ q) : tk bs p + (ones ((bs.take q).drop p) : Int) = tk bs q := by
  unfold tk ones
  have e : bs.take q = bs.take p ++ (bs.take q).drop p := by
    conv => lhs; rw [← List.take_append_drop p (bs.take q)]
    rw [List.take_take, Nat.min_eq_left h]
  have e2 : (bs.take q).count true = (bs.take p).count true + ((bs.take q).drop p).count true := by
    conv => lhs; rw [e]
    rw [List.count_append]
  omega
theorem grp_succ (bs : List Bool) (n : Nat) : grp bs (n + 1) = grp bs n ++ [tk bs (64 * n)] := by
  unfold grp
  rw [List.range_succ, List.map_append]
  rfl
theorem blk_succ (bs : List Bool) (n : Nat) : blk bs (n + 1) = blk bs n ++ [tk bs (8 * n) - tk bs (64 * (n / 8))] := by
  unfold blk
  rw [List.range_succ, List.map_append]
  rfl
theorem grp_len (bs : List Bool) (n : Nat) : (grp bs n).length = n := by simp [grp]
theorem blk_len (bs : List Bool) (n : Nat) : (blk bs n).length = n := by simp [blk]
theorem row_loop {bs : List Bool} (hl : bs.length ≤ 4000) (st : Sto) (n : Nat) (hn : n ≤ 501) :
    ∃ fr' st', forN (.seq (rngC 0 8 n)) (gN 3) m_Row_init_b0 (rngC 0 8 n) [some (.loc st.length), some (rowD bs), some (.int 0), none] (st ++ [.ins 25 (rowFs bs (.loc (st.length + 1)) (.loc (st.length + 2))), .lst [.int 0], .lst []]) = .nx fr' st' ∧
      fr' = [some (.loc st.length), some (rowD bs), some (.int (tk bs (8 * n))), none] ∧ st' = st ++ [.ins 25 (rowFs bs (.loc (st.length + 1)) (.loc (st.length + 2))), .lst ((grp bs (1 + (n - 1) / 8)).map .int), .lst ((blk bs n).map .int)] := by
  refine for_rngC (fun i fr s => fr = [some (.loc st.length), some (rowD bs), some (.int (tk bs (8 * i))), none] ∧ s = st ++ [.ins 25 (rowFs bs (.loc (st.length + 1)) (.loc (st.length + 2))), .lst ((grp bs (1 + (i - 1) / 8)).map .int), .lst ((blk bs i).map .int)]) ⟨?_, ?_⟩ fun i fr s hi hj => ?_
  · simp [tk, ones]
  · simp [grp, blk, tk, ones]
  · obtain ⟨rfl, rfl⟩ := hj
    refine ⟨_, _, rfl, _, _, .inl ?_, rfl, rfl⟩
    obtain ⟨p, hp⟩ : ∃ p, p = 8 * i := ⟨_, rfl⟩
    have c1 : (0 + (i : Int) * 8) = ((p : Nat) : Int) := by omega
    have hlen : 1 + (i - 1) / 8 ≤ 16000000 := by omega
    have hlen2 : i ≤ 16000000 := by omega
    have c8 : (p : Int) + 8 = ((p + 8 : Nat) : Int) := by omega
    have cut : cutL bs (some ((p : Nat) : Int)) (some ((p : Int) + 8)) = (bs.take (p + 8)).drop p := by
      rw [c8]
      exact cut_lh
    have ts := tk_step bs p (p + 8) (by omega)
    rw [c1, ← hp, show 8 * (i + 1) = p + 8 by omega]
    unfold m_Row_init_b0
    by_cases h0 : 0 < i ∧ i % 8 = 0
    · have e1 : 0 < p := by omega
      have e2 : (p : Int) % 64 = 0 := by omega
      have g1 : (i - 1) / 8 + 1 = i / 8 := by omega
      have ge : grp bs (1 + (i + 1 - 1) / 8) = grp bs (1 + (i - 1) / 8) ++ [tk bs p] := by
        rw [show 1 + (i + 1 - 1) / 8 = 1 + (i - 1) / 8 + 1 by omega, grp_succ, show 64 * (1 + (i - 1) / 8) = p by omega]
      simp [e1, e2, kFld, mAppend, asL, hlen, hlen2, grp_len, blk_len, set_new1, set_new2, kMt, cMul, smallI, cMod, oIx, asQ, slD, cut_map, cut, -List.map_take, -List.map_drop, sum_row, ts]
      rw [show 1 + i / 8 = 1 + (i + 1 - 1) / 8 by omega, ge, blk_succ, show 64 * (i / 8) = p by omega, ← hp]
      simp
    · have e3 : ¬ (0 < p ∧ (p : Int) % 64 = 0) := by omega
      have ge : 1 + (i + 1 - 1) / 8 = 1 + (i - 1) / 8 := by omega
      have gl : (i - 1) / 8 = i / 8 := by omega
      have last : grp bs (1 + i / 8) = grp bs (i / 8) ++ [tk bs (64 * (i / 8))] := by
        rw [Nat.add_comm, grp_succ]
      by_cases e1 : 0 < p
      · have e2 : ¬ ((p : Int) % 64 = 0) := by omega
        simp [e1, e2, gl, kFld, mAppend, asL, hlen, hlen2, grp_len, blk_len, set_new1, set_new2, kMt, cMul, smallI, cMod, oIx, asQ, slD, cut_map, cut, -List.map_take, -List.map_drop, sum_row, ts, last]
        rw [blk_succ, ← hp]
        simp
      · simp [e1, gl, kFld, mAppend, asL, hlen, hlen2, grp_len, blk_len, set_new1, set_new2, kMt, cMul, smallI, cMod, oIx, asQ, slD, cut_map, cut, -List.map_take, -List.map_drop, sum_row, ts, last]
        rw [blk_succ, ← hp]
        simp
theorem row_mk {bs : List Bool} (hl : bs.length ≤ 4000) (st : Sto) : kMkF 25 f_Row_init [rowD bs] st = .ok (rowO bs) st := by
  obtain ⟨fr', st', e, rfl, rfl⟩ := row_loop hl st (bs.length / 8 + 1) (by omega)
  have k3 : ∀ s : Sto, kR3 [.int 0, .int ((bs.length : Int) + 1), .int 8] s = .ok (.seq (rngC 0 8 (bs.length / 8 + 1))) s := fun s => by
    have := kR3_up (st := s) (m := bs.length + 1) (c := 8) (by omega) (by omega) (by omega)
    rw [show (bs.length + 1 + 8 - 1) / 8 = bs.length / 8 + 1 by omega] at this
    exact this
  have t8 : tk bs (8 * (bs.length / 8 + 1)) = tk bs bs.length := by
    unfold tk
    rw [List.take_of_length_le (by omega), List.take_of_length_le (Nat.le_refl _)]
  rw [kMkF_s]
  simp [f_Row_init, m_Row_init, mF2, is_row_s, hl, kPut, set_new, set_new1, k3, e, t8]
  refine fzOut_ok ?_
  rw [frz_ins (x := 25) (fs := rowFs bs (.loc (st.length + 1)) (.loc (st.length + 2)) ++ [(139, .int (tk bs bs.length))]) (by simp) (Nat.le_refl _)]
  rw [List.cons_append, objFs_fld (x := rowD bs) (xs := [.fl ((grp bs (bs.length / 64 + 1)).map D.int), .fl ((blk bs (bs.length / 8 + 1)).map D.int), .cnt, .int (tk bs bs.length)]) (by decide)]
  · rfl
  · exact frz_pure (noloc_row bs)
  · refine objFs_fld (by decide) ?_ (objFs_fld (by decide) ?_ (objFs_cnt (objFs_fld (x := .int (tk bs bs.length)) (xs := []) (by decide) ?_ rfl)))
    · show frzF _ _ (18 + 1) _ = _
      rw [frz_lst (ds := (grp bs (1 + bs.length / 8 / 8)).map .int) (by simp) (by omega), frz_map (nolocs_ints _)]
      rw [show 1 + bs.length / 8 / 8 = bs.length / 64 + 1 by omega]
      rfl
    · show frzF _ _ (18 + 1) _ = _
      rw [frz_lst (ds := (blk bs (bs.length / 8 + 1)).map .int) (by simp) (by omega), frz_map (nolocs_ints _)]
      rfl
    · show frzF _ _ (18 + 1) _ = _
      exact frz_pure rfl
end Pg
set_option maxRecDepth 100000
set_option maxHeartbeats 1000000
/-! R3: what a plain row tells. -/
namespace Pg
open PySem PySem.Spec PyProof.Rows L2 Vi
/-- how many bits of a kind stand ahead of a place -/
def cb (b : Bool) (bs : List Bool) (p : Nat) : Nat := (bs.take p).count b
theorem cb_all {b : Bool} {bs : List Bool} {p : Nat} (h : bs.length ≤ p) : cb b bs p = bs.count b := by
  unfold cb
  rw [List.take_of_length_le h]
theorem two_count (bs : List Bool) : bs.count true + bs.count false = bs.length := by
  induction bs with
  | nil => rfl
  | cons b r ih => cases b <;> simp [List.count_cons] <;> omega
theorem cb_two (bs : List Bool) {p : Nat} (h : p ≤ bs.length) : cb true bs p + cb false bs p = p := by
  unfold cb
  rw [two_count, List.length_take]
  omega
theorem tk_cb (bs : List Bool) (p : Nat) : tk bs p = (cb true bs p : Int) := rfl
theorem cb_if (b : Bool) (bs : List Bool) {p : Nat} (h : p ≤ bs.length) : (if bI b = 1 then tk bs p else (p : Int) - tk bs p) = (cb b bs p : Int) := by
  have := cb_two bs h
  rw [tk_cb]
  cases b
  · rw [if_neg (by decide)]
    omega
  · exact if_pos rfl
theorem cb_step {b : Bool} {bs : List Bool} {p : Nat} {x : Bool} (h : bs[p]? = some x) : cb b bs (p + 1) = cb b bs p + if x = b then 1 else 0 := by
  unfold cb
  rw [List.take_add_one, h, List.count_append]
  cases x <;> cases b <;> rfl
theorem cb_mono {b : Bool} {bs : List Bool} {p q : Nat} (h : p ≤ q) : cb b bs p ≤ cb b bs q := by
  unfold cb
  exact List.Sublist.count_le b (List.take_sublist_take_left h)
theorem cb_le {b : Bool} {bs : List Bool} {p : Nat} : cb b bs p ≤ p := by
  unfold cb
  exact Nat.le_trans List.count_le_length (by rw [List.length_take]; omega)
/-- the place of the n-th bit of a kind -/
def Is (b : Bool) (bs : List Bool) (n p : Nat) : Prop := bs[p]? = some b ∧ cb b bs p = n
theorem Is.uniq {b : Bool} {bs : List Bool} {n p q : Nat} (h : Is b bs n p) (k : Is b bs n q) : p = q := by
  have key : ∀ {p q : Nat}, Is b bs n p → Is b bs n q → ¬ p < q := fun {p q} h k hlt => by
    have e := cb_step (b := b) h.1
    have m := cb_mono (b := b) (bs := bs) (show p + 1 ≤ q from hlt)
    rw [if_pos rfl] at e
    rw [h.2] at e
    rw [k.2] at m
    omega
  have h1 := key h k
  have h2 := key k h
  omega
section
variable {st : Sto} {bs : List Bool} {b : Bool}
theorem row_check {p m : Int} : f_Row_check [rowO bs, .int p, .int m] st = if 0 ≤ p ∧ p ≤ m then .ok .non st else .ex 2 st := by
  unfold f_Row_check m_Row_check
  rw [mFz_s, mF3]
  by_cases h : 0 ≤ p
  · by_cases h2 : p ≤ m <;> simp [is_number_s, h, h2]
  · simp [is_number_s, h]
theorem grp_at {k n : Nat} (h : k < n) : (grp bs n)[k]? = some (tk bs (64 * k)) := by
  unfold grp
  rw [List.getElem?_map, List.getElem?_range h]
  rfl
theorem blk_at {k n : Nat} (h : k < n) : (blk bs n)[k]? = some (tk bs (8 * k) - tk bs (64 * (k / 8))) := by
  unfold blk
  rw [List.getElem?_map, List.getElem?_range h]
  rfl
/-- the counts of a block -/
theorem row_g {k : Nat} (h : k ≤ bs.length / 8) : atI ((grp bs (bs.length / 64 + 1)).map D.int) ((k / 8 : Nat) : Int) = some (.int (tk bs (64 * (k / 8)))) := by
  rw [Vi.atI_nat, List.getElem?_map, grp_at (by omega)]
  rfl
theorem row_b {k : Nat} (h : k ≤ bs.length / 8) : atI ((blk bs (bs.length / 8 + 1)).map D.int) (k : Int) = some (.int (tk bs (8 * k) - tk bs (64 * (k / 8)))) := by
  rw [Vi.atI_nat, List.getElem?_map, blk_at (by omega)]
  rfl
theorem row_ahead {p : Nat} (h : p ≤ bs.length) : f_Row_ones_ahead [rowO bs, .int p] st = .ok (.int (tk bs p)) st := by
  obtain ⟨k, hk⟩ : ∃ k, k = p / 8 := ⟨_, rfl⟩
  have d1 : (p : Int) / 8 = (k : Int) := by omega
  have d2 : (k : Int) / 8 = ((k / 8 : Nat) : Int) := by omega
  have g := row_g (bs := bs) (k := k) (by omega)
  rw [← d2] at g
  have b := row_b (bs := bs) (k := k) (by omega)
  have cut : cutL bs (some ((k : Int) * 8)) (some (p : Int)) = (bs.take p).drop (8 * k) := by
    rw [show (k : Int) * 8 = ((8 * k : Nat) : Int) by omega]
    exact cut_lh
  have ts := tk_step bs (8 * k) p (by omega)
  unfold f_Row_ones_ahead m_Row_ones_ahead
  rw [mFz_s, mF2]
  simp [rowO, kFld, kLk, kLooked, cDiv, d1, cMul, smallI, slD, cut_map, cut, -List.map_take, -List.map_drop, sum_row, oIx, asQ, g, b]
  omega
theorem row_count {p : Nat} (h : p ≤ bs.length) : f_Row_count [rowO bs, .int (bI b), .int p] st = .ok (.int (cb b bs p)) st := by
  have e := cb_if b bs h
  unfold f_Row_count m_Row_count
  rw [mFz_s, mF3]
  have h1 : (p : Int) ≤ (bs.length : Int) := by omega
  have hr : rowO bs = .obj 25 [24, 74, 26, 116, 139] [rowD bs, .fl ((grp bs (bs.length / 64 + 1)).map D.int), .fl ((blk bs (bs.length / 8 + 1)).map D.int), .cnt, .int (tk bs bs.length)] := rfl
  have c1 : clsO st 34 (rowO bs) = some 25 := rfl
  have c2 : clsO st 140 (rowO bs) = some 25 := rfl
  have f1 : kFld [25, 16] 24 (rowO bs) st = .ok (rowD bs) st := rfl
  have m1 := kMth_c (T := [(25, f_Row_check)]) (xs := aCons (eVar 2) (aCons (eB bLen (aCons (eFld [25, 16] 24 (eVar 0)) aNil)) aNil)) (fr := [some (rowO bs), some (.int (bI b)), some (.int (p : Int)), none]) c1 (F := f_Row_check) rfl
  have m2 := kMth_c (T := [(25, f_Row_ones_ahead)]) (xs := aCons (eVar 2) aNil) (fr := [some (rowO bs), some (.int (bI b)), some (.int (p : Int)), none]) c2 (F := f_Row_ones_ahead) rfl
  simp [m1, m2, f1, row_check, h1, row_ahead h]
  cases b
  · simp [bI] at e ⊢
    exact e
  · simp [bI] at e ⊢
    exact e
end
end Pg
set_option maxRecDepth 100000
set_option maxHeartbeats 1000000
/-! R10: the deeds of a moving row. -/
namespace Pg
open PySem PySem.Spec PyProof.Rows L2 Vi
/-- cell o holds a moving row with these bits -/
def DO (o : O) : Prop := ∃ xs : List Int, o = .lst (xs.map D.int)
theorem DO.below {o : O} (h : DO o) (n : Nat) : belowO n o = true := by
  obtain ⟨xs, rfl⟩ := h
  exact belows_ints n xs
theorem take_s {st : Sto} {n : Nat} {o : O} {m : Nat} (h : st[n]? = some o) (ho : DO o) (hm : 0 < m) : ∃ v o', v < m ∧ DO o' ∧ f__law_take [.loc n, .int m] st = .ok (.int (v : Nat)) (st.set n o') := by
  obtain ⟨xs, rfl⟩ := ho
  have ln : ∀ (ys : List Int), (ys.map D.int).length = ys.length := fun ys => by simp
  rcases List.eq_nil_or_concat xs with rfl | ⟨ys, x, rfl⟩
  · refine ⟨0, .lst [], hm, ⟨[], rfl⟩, ?_⟩
    have e : st.set n (.lst []) = st := by
      obtain ⟨hl, he⟩ := List.getElem?_eq_some_iff.mp h
      rw [← show st[n] = .lst [] from he, List.set_getElem_self]
    rw [e]
    unfold f__law_take m__law_take
    rw [mFz_s, mF2]
    simp [bLen, asQ, h]
  · obtain ⟨v, hv⟩ : ∃ v : Nat, x % (m : Int) = (v : Int) := ⟨(x % (m : Int)).toNat, by have := Int.emod_nonneg x (show (m : Int) ≠ 0 by omega); omega⟩
    have hlt := Int.emod_lt_of_pos x (show (0 : Int) < (m : Int) by omega)
    refine ⟨v, .lst (ys.map D.int), by omega, ⟨ys, rfl⟩, ?_⟩
    have n0 : ¬ ((ys.length : Int) + 1 = 0) := by omega
    have m0 : (0 : Int) < (m : Int) := by omega
    have fz : fzOut st (.ok (.int (v : Nat)) (st.set n (.lst (ys.map D.int)))) = .ok (.int (v : Nat)) (st.set n (.lst (ys.map D.int))) := fz_set rfl (belows_ints _ _)
    unfold f__law_take m__law_take
    rw [mFz_s, mF2]
    simp [bLen, asQ, h, n0, mPop, asL, kMt0, cMod, hm, hv, fz]
end Pg
set_option maxRecDepth 100000
set_option maxHeartbeats 1000000
/-! R11: drawn rows. -/
namespace Pg
open PySem PySem.Spec PyProof.Rows L2 Vi
section
variable {st : Sto} {n : Nat} {o : O}
theorem row_bit {l : List Bool} {kind : Nat} {k : Option D} (hn : n < st.length) (ho : DO o) (hk : kind < 4) (hl : l.length ≤ 16000000) :
    ∃ b o', DO o' ∧ m__law_row_b0 [some (.loc n), some (.int kind), some (.loc st.length), k, none] (st.set n o ++ [.lst (l.map bD)]) = .nx [some (.loc n), some (.int kind), some (.loc st.length), none, none] (st.set n o' ++ [.lst ((l ++ [b]).map bD)]) := by
  have tk : ∀ (o : O) (m : Nat), DO o → 0 < m → ∃ v o', v < m ∧ DO o' ∧ f__law_take [.loc n, .int m] (st.set n o ++ [.lst (l.map bD)]) = .ok (.int (v : Nat)) (st.set n o' ++ [.lst (l.map bD)]) := fun o m ho hm => by
    obtain ⟨v, o', h1, h2, h3⟩ := take_s (st := st.set n o ++ [.lst (l.map bD)]) (gs1 hn) ho hm
    rw [gs3 hn] at h3
    exact ⟨v, o', h1, h2, h3⟩
  obtain ⟨v1, o1, hv1, d1, e1⟩ := tk o 2 ho (by omega)
  obtain ⟨v2, o2, hv2, d2, e2⟩ := tk o1 12 d1 (by omega)
  obtain ⟨v3, o3, hv3, d3, e3⟩ := tk o2 12 d2 (by omega)
  have g2 : ∀ o : O, (st.set n o ++ [.lst (l.map bD)])[st.length]? = some (.lst (l.map bD)) := fun o => gs2
  have ap : ∀ (o : O) (b : Bool), mAppend (.loc st.length) [.int (bI b)] (st.set n o ++ [.lst (l.map bD)]) = .ok .non (st.set n o ++ [.lst ((l ++ [b]).map bD)]) := fun o b => by
    have hl2 : (l.map bD).length ≤ 16000000 := by rw [List.length_map]; exact hl
    unfold mAppend
    simp only [g2, if_pos hl2, gs4]
    rw [List.map_append]
    rfl
  have two : ∀ v : Nat, v < 2 → ∃ b, D.int (v : Nat) = .int (bI b) := fun v hv => by
    have : v = 0 ∨ v = 1 := by omega
    rcases this with rfl | rfl
    · exact ⟨false, rfl⟩
    · exact ⟨true, rfl⟩
  have e1' : f__law_take [.loc n, .int 2] (st.set n o ++ [.lst (l.map bD)]) = .ok (.int (v1 : Nat)) (st.set n o1 ++ [.lst (l.map bD)]) := e1
  have e2' : f__law_take [.loc n, .int 12] (st.set n o1 ++ [.lst (l.map bD)]) = .ok (.int (v2 : Nat)) (st.set n o2 ++ [.lst (l.map bD)]) := e2
  have e3' : f__law_take [.loc n, .int 12] (st.set n o2 ++ [.lst (l.map bD)]) = .ok (.int (v3 : Nat)) (st.set n o3 ++ [.lst (l.map bD)]) := e3
  clear e1 e2 e3
  have ml : ∀ (m : D → List D → Sto → Out D) (g : MA) (fr : Fr) (o : O), kMt m g fr (.loc st.length) (st.set n o ++ [.lst (l.map bD)]) = (g fr (st.set n o ++ [.lst (l.map bD)])).bind fun xs st2 => m (.loc st.length) xs st2 := fun m g fr o => by
    simp only [kMt, asL, g2]
  unfold m__law_row_b0
  have kc : kind = 0 ∨ kind = 1 ∨ kind = 2 ∨ kind = 3 := by omega
  rcases kc with rfl | rfl | rfl | rfl
  · obtain ⟨b, hb⟩ := two v1 hv1
    refine ⟨b, o3, d3, ?_⟩
    simp [e1', e2', e3', oIx, asQ, atI, ixN, hb, ml, ap]
  · refine ⟨decide (v2 = 0), o3, d3, ?_⟩
    have hb : (if v2 = 0 then (1 : Int) else 0) = bI (decide (v2 = 0)) := by by_cases h : v2 = 0 <;> simp [h, bI]
    simp [e1', e2', e3', oIx, asQ, atI, ixN, hb, ml, ap]
  · refine ⟨decide (0 < v3), o3, d3, ?_⟩
    have hb : (if 0 < v3 then (1 : Int) else 0) = bI (decide (0 < v3)) := by by_cases h : 0 < v3 <;> simp [h, bI]
    simp [e1', e2', e3', oIx, asQ, atI, ixN, hb, ml, ap]
  · have tail : ∀ o : O, DO o → ∃ v o', v < 2 ∧ DO o' ∧ f__law_take [.loc n, .int 2] (st.set n o ++ [.lst (l.map bD)]) = .ok (.int (v : Nat)) (st.set n o' ++ [.lst (l.map bD)]) := fun o ho => tk o 2 ho (by omega)
    have neq : ∀ o : O, deepEq true (.loc st.length) (.fl []) (st.set n o ++ [.lst (l.map bD)]) = .ok (.bl (!decide (l = []))) (st.set n o ++ [.lst (l.map bD)]) := fun o => by
      have := deepEq_lf (neg := true) (st := st.set n o ++ [.lst (l.map bD)]) (m := st.length) (xs := l.map bI) (ys := []) (by rw [g2, row_ints])
      rw [List.map_nil] at this
      rw [this]
      simp
    have ix3 : ∀ (a b c d : D) (s : Sto), oIx (.fl [a, b, c, d]) (.int 3) s = .ok d s := fun _ _ _ _ _ => rfl
    by_cases hne : l = []
    · obtain ⟨v, o4, hv, d4, e4⟩ := tail o3 d3
      obtain ⟨b, hb⟩ := two v hv
      refine ⟨b, o4, d4, ?_⟩
      have nq : ∀ o : O, deepEq true (.loc st.length) (.fl []) (st.set n o ++ [.lst (l.map bD)]) = .ok (.bl false) (st.set n o ++ [.lst (l.map bD)]) := fun o => by
        rw [neq]
        simp [hne]
      have ap' := ap o4 b
      obtain ⟨R, hR⟩ : ∃ R, R = O.lst ((l ++ [b]).map bD) := ⟨_, rfl⟩
      rw [← hR] at ap' ⊢
      generalize l.map bD = L at e1' e2' e3' e4 ml nq ap'
      simp [e1', e2', e3', ix3, oNe, oEqN, nq, e4, hb, ml, ap']
    · obtain ⟨l', x, hx⟩ : ∃ l' x, l = l' ++ [x] := ⟨l.dropLast, l.getLast hne, (List.dropLast_concat_getLast hne).symm⟩
      obtain ⟨v4, o4, hv4, d4, e4⟩ := tk o3 6 d3 (by omega)
      have e4' : f__law_take [.loc n, .int 6] (st.set n o3 ++ [.lst (l.map bD)]) = .ok (.int (v4 : Nat)) (st.set n o4 ++ [.lst (l.map bD)]) := e4
      have last : ∀ o : O, oIx (.loc st.length) (.int (-1)) (st.set n o ++ [.lst (l.map bD)]) = .ok (.int (bI x)) (st.set n o ++ [.lst (l.map bD)]) := fun o => oIx_l (g2 o) (by rw [hx, List.map_append]; exact atI_last)
      have nq : ∀ o : O, deepEq true (.loc st.length) (.fl []) (st.set n o ++ [.lst (l.map bD)]) = .ok (.bl true) (st.set n o ++ [.lst (l.map bD)]) := fun o => by
        rw [neq]
        simp [hne]
      by_cases h4 : 0 < v4
      · refine ⟨x, o4, d4, ?_⟩
        have ap' := ap o4 x
        obtain ⟨R, hR⟩ : ∃ R, R = O.lst ((l ++ [x]).map bD) := ⟨_, rfl⟩
        rw [← hR] at ap' ⊢
        generalize l.map bD = L at e1' e2' e3' e4' ml nq ap' last
        simp [e1', e2', e3', ix3, oNe, oEqN, nq, e4', h4, last, ml, ap']
      · obtain ⟨v, o5, hv, d5, e5⟩ := tail o4 d4
        obtain ⟨b, hb⟩ := two v hv
        refine ⟨b, o5, d5, ?_⟩
        have ap' := ap o5 b
        obtain ⟨R, hR⟩ : ∃ R, R = O.lst ((l ++ [b]).map bD) := ⟨_, rfl⟩
        rw [← hR] at ap' ⊢
        generalize l.map bD = L at e1' e2' e3' e4' ml nq ap' last e5
        simp [e1', e2', e3', ix3, oNe, oEqN, nq, e4', h4, e5, hb, ml, ap']
theorem row_s (h : st[n]? = some o) (ho : DO o) : ∃ row o', DO o' ∧ 1 ≤ row.length ∧ row.length ≤ 59 ∧ f__law_row [.loc n] st = .ok (rowD row) (st.set n o') := by
  have hn := (List.getElem?_eq_some_iff.mp h).1
  obtain ⟨kind, o1, hk, d1, e1⟩ := take_s (m := 4) h ho (by omega)
  have e1' : f__law_take [.loc n, .int 4] st = .ok (.int (kind : Nat)) (st.set n o1) := e1
  obtain ⟨v, o2, hv, d2, e2⟩ := take_s (m := 59) (st := st.set n o1 ++ [.lst []]) (gs1 hn) d1 (by omega)
  have e2' : f__law_take [.loc n, .int 59] (st.set n o1 ++ [.lst []]) = .ok (.int (v : Nat)) (st.set n o2 ++ [.lst []]) := by
    rw [gs3 hn] at e2
    exact e2
  obtain ⟨fr', s', e3, row, o3, d3, hl, rfl, rfl⟩ := for_rng (lo := 0) (n := v + 1) (g := gN 3) (b := m__law_row_b0) (fr := [some (.loc n), some (.int kind), some (.loc st.length), none, none]) (st := st.set n o2 ++ [.lst []])
    (fun i fr s => ∃ (l : List Bool) (o : O), DO o ∧ l.length = i ∧ fr = [some (.loc n), some (.int kind), some (.loc st.length), none, none] ∧ s = st.set n o ++ [.lst (l.map bD)]) ⟨[], o2, d2, rfl, rfl, rfl⟩ fun i fr s hi ⟨l, o, ho, hl, hfr, hs⟩ => by
      subst hfr hs
      obtain ⟨b, o', d', e⟩ := row_bit (k := some (.int (0 + (i : Int)))) hn ho hk (show l.length ≤ 16000000 by omega)
      exact ⟨_, _, rfl, _, _, .inl e, l ++ [b], o', d', by simp [hl], rfl, rfl⟩
  refine ⟨row, o3, d3, by omega, by omega, ?_⟩
  have k1 : ∀ s : Sto, kR1 [.int (1 + (v : Int))] s = .ok (.seq (rng 0 (v + 1))) s := fun s => by
    rw [kR1_s (by omega) (by omega), show (1 + (v : Int)).toNat = v + 1 by omega]
  have bt : bTuple [.loc st.length] (st.set n o3 ++ [.lst (row.map bD)]) = .ok (rowD row) (st.set n o3 ++ [.lst (row.map bD)]) := bTuple_l gs2
  have fz : fzOut st (.ok (rowD row) (st.set n o3 ++ [.lst (row.map bD)])) = .ok (rowD row) (st.set n o3) := fzOut_set (List.length_set ..) (closed_set (d3.below _)) (frz_pure (noloc_row _))
  generalize hR : O.lst (row.map bD) = R at e3 bt fz
  unfold f__law_row m__law_row
  rw [mFz_s, mF1]
  simp [e1', e2', k1, e3, bt, fz]
end
end Pg
set_option maxRecDepth 100000
set_option maxHeartbeats 1000000
/-! R13: the draws. -/
namespace Pg
open PySem PySem.Spec PyProof.Rows L2 Vi
section
variable {d : D}
theorem dr_app {xs : List Int} {v : Int} {s : Sto} (hs : s = [.lst (xs.map D.int)]) (h : xs.length ≤ 16000000) (g : MA) (fr : Fr) (hg : g fr s = .ok [.int v] s) : kMt mAppend g fr (.loc 0) s = .ok .non [.lst ((xs ++ [v]).map D.int)] := by
  subst hs
  have hl : (xs.map D.int).length ≤ 16000000 := by rw [List.length_map]; exact h
  simp only [kMt, asL, List.getElem?_cons_zero, hg, Out.bind_ok, mAppend, if_pos hl, List.map_append]
  rfl
theorem dr_b1 {xs : List Int} {num : Int} {m : Nat} (hx : xs.length ≤ m) (hm : m ≤ 1000000) :
    ∃ fr' s', forN (.seq (rng 0 60)) (gN 5) m__law_draws_b1 (rng 0 60) [some d, some (.loc 0), none, some (.int num), none, none, none] [.lst (xs.map D.int)] = .nx fr' s' ∧ ∃ (num' : Int) (ys : List Int), fr' = [some d, some (.loc 0), none, some (.int num'), none, none, none] ∧ s' = [.lst (ys.map D.int)] ∧ ys.length ≤ m + 60 := by
  refine for_rng (fun i fr s => ∃ (num' : Int) (ys : List Int), fr = [some d, some (.loc 0), none, some (.int num'), none, none, none] ∧ s = [.lst (ys.map D.int)] ∧ ys.length ≤ m + i) ⟨num, xs, rfl, rfl, hx⟩ fun i fr s hi hj => ?_
  obtain ⟨nu, ys, rfl, rfl, hy⟩ := hj
  refine ⟨_, _, rfl, ?_⟩
  by_cases h0 : 0 < nu
  · have ap := dr_app (s := [.lst (ys.map D.int)]) (v := nu % 997) rfl (by omega) (aCons (eBin oMod (eB bInt (aCons (eVar 3) aNil)) (eC (.int 997))) aNil) [some d, some (.loc 0), none, some (.int nu), none, some (.int (0 + (i : Int))), none] (by simp [cMod])
    refine ⟨[some d, some (.loc 0), none, some (.int (nu / 997)), none, none, none], [.lst ((ys ++ [nu % 997]).map D.int)], .inl ?_, nu / 997, ys ++ [nu % 997], rfl, rfl, by simp; omega⟩
    generalize O.lst ((ys ++ [nu % 997]).map D.int) = R at ap ⊢
    unfold m__law_draws_b1
    try simp at ap
    simp [h0, ap, cDiv]
  · refine ⟨[some d, some (.loc 0), none, some (.int nu), none, none, none], [.lst (ys.map D.int)], .inl ?_, nu, ys, rfl, rfl, by omega⟩
    unfold m__law_draws_b1
    simp [h0]
theorem dr_b0 {xs : List Int} {c : Int} (hx : xs.length ≤ 900000) : ∃ ys : List Int, ys.length ≤ xs.length + 62 ∧
    m__law_draws_b0 [some d, some (.loc 0), some (.int c), none, none, none, none] [.lst (xs.map D.int)] = .nx [some d, some (.loc 0), none, none, none, none, none] [.lst (ys.map D.int)] := by
  obtain ⟨nu, hnu⟩ : ∃ nu, nu = (if c < 0 then -c else c) := ⟨_, rfl⟩
  have k60 : ∀ s : Sto, kR1 [.int 60] s = .ok (.seq (rng 0 60)) s := fun s => rfl
  by_cases hlt : nu < 1000000000000000000
  · obtain ⟨fst, hf⟩ : ∃ f, f = (nu * 48271 + 11) % 2147483647 := ⟨_, rfl⟩
    obtain ⟨v1, hv1⟩ : ∃ f, f = (fst * 69621 + nu) % 2147483629 := ⟨_, rfl⟩
    obtain ⟨v2, hv2⟩ : ∃ f, f = (fst + nu / 7) % 1000003 := ⟨_, rfl⟩
    have a1 := dr_app (s := [.lst (xs.map D.int)]) (v := v1) rfl (by omega) (aCons (eBin oMod (eB bInt (aCons (eBin (oAddG mkFl) (eBin (oMulG mkFl) (eVar 4) (eC (.int 69621))) (eVar 3)) aNil)) (eC (.int 2147483629))) aNil) [some d, some (.loc 0), some (.int c), some (.int nu), some (.int fst), none, none] (by simp [cMod, cMul, smallI, hv1])
    have a2 := dr_app (s := [.lst ((xs ++ [v1]).map D.int)]) (v := v2) rfl (by simp; omega) (aCons (eBin oMod (eB bInt (aCons (eBin (oAddG mkFl) (eVar 4) (eBin oFdiv (eVar 3) (eC (.int 7)))) aNil)) (eC (.int 1000003))) aNil) [some d, some (.loc 0), some (.int c), some (.int nu), some (.int fst), none, none] (by simp [cMod, cDiv, hv2])
    obtain ⟨fr', s', e, num', ys, rfl, rfl, hy⟩ := dr_b1 (d := d) (xs := xs ++ [v1] ++ [v2]) (num := 0) (m := xs.length + 2) (by simp) (by omega)
    refine ⟨ys, by omega, ?_⟩
    generalize O.lst ((xs ++ [v1] ++ [v2]).map D.int) = R2 at a2 e
    generalize O.lst ((xs ++ [v1]).map D.int) = R1 at a1 a2
    generalize O.lst (xs.map D.int) = R0 at a1 ⊢
    unfold m__law_draws_b0
    try simp at a1
    try simp at a2
    simp [← hnu, cPow, smallI, hlt, cMul, cMod, ← hf, a1, a2, k60, e]
  · obtain ⟨fr', s', e, num', ys, rfl, rfl, hy⟩ := dr_b1 (d := d) (xs := xs) (num := nu) (m := xs.length) (by omega) (by omega)
    refine ⟨ys, by omega, ?_⟩
    unfold m__law_draws_b0
    simp [← hnu, cPow, smallI, hlt, k60, e]
theorem draws_s {ns : List Int} (hn : ns.length ≤ 63) (hd : d = .rol (ns.map D.int) ∨ d = .fl (ns.map D.int)) : ∃ o0 o1, DO o1 ∧ f__law_draws [d] [] = .ok (.loc 1) [o0, o1] := by
  have key := for_inv (it := .seq (ns.map D.int)) (g := gN 2) (b := m__law_draws_b0) (fun i fr s => ∃ xs : List Int, fr = [some d, some (.loc 0), none, none, none, none, none] ∧ s = [.lst (xs.map D.int)] ∧ xs.length ≤ 62 * i) (ns.map D.int) 0 [some d, some (.loc 0), none, none, none, none, none] [.lst []] ⟨[], rfl, rfl, Nat.le_refl _⟩ (fun _ _ _ _ => rfl) fun i fr s c hc hj => by
    obtain ⟨xs, rfl, rfl, hx⟩ := hj
    rw [Nat.zero_add] at hx ⊢
    have hi : i < ns.length := by
      have := (List.getElem?_eq_some_iff.mp hc).1
      simpa using this
    obtain ⟨v, rfl⟩ : ∃ v, c = .int v := by
      rw [List.getElem?_map] at hc
      cases e : ns[i]? with
      | none => rw [e] at hc; cases hc
      | some v => rw [e] at hc; cases hc; exact ⟨v, rfl⟩
    obtain ⟨ys, hy, e⟩ := dr_b0 (d := d) (xs := xs) (c := v) (by omega)
    exact ⟨_, _, rfl, _, _, .inl e, ys, rfl, rfl, by omega⟩
  obtain ⟨fr', s', e1, xs, rfl, rfl, hx⟩ := key
  rw [List.length_map, Nat.zero_add] at hx
  -- the seed
  have seed : ∃ sd : Int, sIf (toB (eBin oGt (eB bLen (aCons (eVar 0) aNil)) (eC (.int 0)))) (sSet 6 (eBin (oAddG mkFl) (eC (.int 1)) (eB bAbs (aCons (eBin oIx (eVar 0) (eC (.int 0))) aNil)))) sNop [some d, some (.loc 0), none, none, none, none, some (.int 1)] [.lst (xs.map D.int)] = .nx [some d, some (.loc 0), none, none, none, none, some (.int sd)] [.lst (xs.map D.int)] := by
    generalize O.lst (xs.map D.int) = R0
    cases ns with
    | nil => rcases hd with rfl | rfl <;> exact ⟨1, by simp⟩
    | cons v r =>
      have p : (0 : Int) < (r.length : Int) + 1 := by omega
      have ix1 : oIx (.rol (D.int v :: r.map D.int)) (.int 0) [R0] = .ok (.int v) [R0] := oIx_r (i := ((0 : Nat) : Int)) (by rw [Vi.atI_nat]; rfl)
      have ix2 : oIx (.fl (D.int v :: r.map D.int)) (.int 0) [R0] = .ok (.int v) [R0] := oIx_f (i := ((0 : Nat) : Int)) (by rw [Vi.atI_nat]; rfl)
      rcases hd with rfl | rfl
      · exact ⟨1 + (if v < 0 then -v else v), by simp [p, ix1]⟩
      · exact ⟨1 + (if v < 0 then -v else v), by simp [p, ix2]⟩
  obtain ⟨sd, e2⟩ := seed
  obtain ⟨fr', s', e3, sd', ys, rfl, rfl, hy⟩ := for_rng (lo := 0) (n := 900) (g := gN 5) (b := m__law_draws_b2) (fr := [none, some (.loc 0), none, none, none, none, some (.int sd)]) (st := [.lst (xs.map D.int)])
    (fun i fr s => ∃ (sd : Int) (ys : List Int), fr = [none, some (.loc 0), none, none, none, none, some (.int sd)] ∧ s = [.lst (ys.map D.int)] ∧ ys.length ≤ 4000 + i) ⟨sd, xs, rfl, rfl, by omega⟩ fun i fr s hi hj => by
      obtain ⟨sd, ys, rfl, rfl, hy⟩ := hj
      obtain ⟨s2, hs2⟩ : ∃ s2, s2 = (sd * 48271 + 69621) % 2147483647 := ⟨_, rfl⟩
      have a1 := dr_app (s := [.lst (ys.map D.int)]) (v := s2 / 5) rfl (by omega) (aCons (eBin oFdiv (eVar 6) (eC (.int 5))) aNil) [none, some (.loc 0), none, none, none, some (.int (0 + (i : Int))), some (.int s2)] (by simp [cDiv])
      refine ⟨_, _, rfl, [none, some (.loc 0), none, none, none, none, some (.int s2)], [.lst ((ys ++ [s2 / 5]).map D.int)], .inl ?_, s2, ys ++ [s2 / 5], rfl, rfl, by simp; omega⟩
      generalize O.lst ((ys ++ [s2 / 5]).map D.int) = R1 at a1 ⊢
      generalize O.lst (ys.map D.int) = R0 at a1 ⊢
      unfold m__law_draws_b2
      try simp at a1
      simp [cMul, smallI, cMod, ← hs2, a1]
  have k900 : ∀ s : Sto, kR1 [.int 900] s = .ok (.seq (rng 0 900)) s := fun s => rfl
  have sq : kSeq d [.lst []] = .ok (.seq (ns.map D.int)) [.lst []] := by rcases hd with rfl | rfl <;> rfl
  have rv' : kRev mkLst (.loc 0) [.lst (ys.map D.int)] = .ok (.loc 1) [.lst (ys.map D.int), .lst (ys.reverse.map D.int)] := by
    have hl : (ys.map D.int).reverse.length ≤ 16000000 := by simp; omega
    show mkLst (ys.map D.int).reverse [.lst (ys.map D.int)] = _
    rw [mkLst_s hl, List.map_reverse]
    rfl
  refine ⟨.lst (ys.map D.int), .lst (ys.reverse.map D.int), ⟨ys.reverse, rfl⟩, ?_⟩
  unfold f__law_draws m__law_draws
  rw [mF1]
  generalize O.lst (ys.reverse.map D.int) = R3 at rv' ⊢
  generalize O.lst (ys.map D.int) = R2 at rv' e3 ⊢
  generalize O.lst (xs.map D.int) = R1 at e1 e2 e3
  rw [sSeq_s, sSet_s]
  simp at e2
  simp [sq, e1, e2, k900, e3, rv']
end
end Pg
set_option maxRecDepth 100000
set_option maxHeartbeats 2000000
/-! T7: the turns of a stretch, in plain Lean. -/
namespace Pg
/-- the places r, p < r ≤ q, where f is v -/
def cnt (f : Nat → Int) (p q : Nat) (v : Int) : Nat := ((List.range (q - p)).filter fun i => decide (f (p + 1 + i) = v)).length
theorem cnt_add (f : Nat → Int) {p m q : Nat} (h1 : p ≤ m) (h2 : m ≤ q) (v : Int) : cnt f p m v + cnt f m q v = cnt f p q v := by
  unfold cnt
  have e : q - p = (m - p) + (q - m) := by omega
  rw [e, List.range_add, List.filter_append, List.length_append]
  congr 1
  rw [List.filter_map, List.length_map]
  congr 1
  apply List.filter_congr
  intro i _
  show decide (f (m + 1 + i) = v) = decide (f (p + 1 + ((m - p) + i)) = v)
  have : p + 1 + ((m - p) + i) = m + 1 + i := by omega
  rw [this]
theorem cnt_one (f : Nat → Int) (p : Nat) (v : Int) : cnt f p (p + 1) v = if f (p + 1) = v then 1 else 0 := by
  unfold cnt
  have e : p + 1 - p = 1 := by omega
  rw [e]
  by_cases h : f (p + 1) = v
  · simp [h]
  · simp [h]
theorem cnt_no (f : Nat → Int) {p q : Nat} {v : Int} (h : ∀ r, p < r → r ≤ q → f r ≠ v) : cnt f p q v = 0 := by
  unfold cnt
  rw [List.length_eq_zero_iff, List.filter_eq_nil_iff]
  intro i hi
  have := List.mem_range.mp hi
  simpa using h (p + 1 + i) (by omega) (by omega)
theorem cnt_le (f : Nat → Int) (p q : Nat) (v : Int) : cnt f p q v ≤ q - p := by
  unfold cnt
  have := List.length_filter_le (fun i => decide (f (p + 1 + i) = v)) (List.range (q - p))
  simpa using this
theorem cnt_pos {f : Nat → Int} {p q : Nat} {v : Int} (r : Nat) (h1 : p < r) (h2 : r ≤ q) (h : f r = v) : 0 < cnt f p q v := by
  have a1 := cnt_add f (p := p) (m := r - 1) (q := q) (by omega) (by omega) v
  have a2 := cnt_add f (p := r - 1) (m := r - 1 + 1) (q := q) (by omega) (by omega) v
  have a3 := cnt_one f (r - 1) v
  have e : r - 1 + 1 = r := by omega
  rw [e] at a3 a2
  rw [if_pos h] at a3
  omega
structure TT where
  ris : Int
  lea : Int
  mos : Int
  oft : Int
/-- what turns_of tells of the stretch p .. q -/
structure TS (f : Nat → Int) (p q : Nat) (t : TT) : Prop where
  lt : p < q
  ris : t.ris = f q - f p
  lea1 : ∀ r, p < r → r ≤ q → f p + t.lea ≤ f r
  lea2 : ∃ r, p < r ∧ r ≤ q ∧ f r = f p + t.lea
  mos1 : ∀ r, p < r → r ≤ q → f r ≤ f p + t.mos
  mos2 : ∃ r, p < r ∧ r ≤ q ∧ f r = f p + t.mos
  oft : t.oft = (cnt f p q (f p + t.lea) : Nat)
theorem TS.uniq {f : Nat → Int} {p q : Nat} {t u : TT} (a : TS f p q t) (b : TS f p q u) : t = u := by
  have h1 : t.lea = u.lea := by
    obtain ⟨r, r1, r2, r3⟩ := a.lea2
    obtain ⟨k, k1, k2, k3⟩ := b.lea2
    have := a.lea1 k k1 k2
    have := b.lea1 r r1 r2
    omega
  have h2 : t.mos = u.mos := by
    obtain ⟨r, r1, r2, r3⟩ := a.mos2
    obtain ⟨k, k1, k2, k3⟩ := b.mos2
    have := a.mos1 k k1 k2
    have := b.mos1 r r1 r2
    omega
  have h3 : t.oft = u.oft := by rw [a.oft, b.oft, h1]
  have h0 : t.ris = u.ris := by rw [a.ris, b.ris]
  cases t
  cases u
  simp_all
def comb (a b : TT) : TT := ⟨a.ris + b.ris, min a.lea (a.ris + b.lea), max a.mos (a.ris + b.mos), (if a.lea ≤ a.ris + b.lea then a.oft else 0) + (if a.ris + b.lea ≤ a.lea then b.oft else 0)⟩
theorem TS.comb {f : Nat → Int} {p m q : Nat} {a b : TT} (ha : TS f p m a) (hb : TS f m q b) : TS f p q (comb a b) := by
  have e0 := ha.ris
  have l1 := ha.lt
  have l2 := hb.lt
  have lo : ∀ r, p < r → r ≤ q → f p + min a.lea (a.ris + b.lea) ≤ f r := by
    intro r r1 r2
    by_cases h : r ≤ m
    · have := ha.lea1 r r1 h
      omega
    · have := hb.lea1 r (by omega) r2
      omega
  refine ⟨by omega, ?_, lo, ?_, ?_, ?_, ?_⟩
  · show a.ris + b.ris = f q - f p
    have := hb.ris
    omega
  · obtain ⟨r, r1, r2, r3⟩ := ha.lea2
    obtain ⟨k, k1, k2, k3⟩ := hb.lea2
    show ∃ r, p < r ∧ r ≤ q ∧ f r = f p + min a.lea (a.ris + b.lea)
    by_cases h : a.lea ≤ a.ris + b.lea
    · exact ⟨r, r1, by omega, by omega⟩
    · exact ⟨k, by omega, k2, by omega⟩
  · intro r r1 r2
    show f r ≤ f p + max a.mos (a.ris + b.mos)
    by_cases h : r ≤ m
    · have := ha.mos1 r r1 h
      omega
    · have := hb.mos1 r (by omega) r2
      omega
  · obtain ⟨r, r1, r2, r3⟩ := ha.mos2
    obtain ⟨k, k1, k2, k3⟩ := hb.mos2
    show ∃ r, p < r ∧ r ≤ q ∧ f r = f p + max a.mos (a.ris + b.mos)
    by_cases h : a.ris + b.mos ≤ a.mos
    · exact ⟨r, r1, by omega, by omega⟩
    · exact ⟨k, by omega, k2, by omega⟩
  · show (if a.lea ≤ a.ris + b.lea then a.oft else 0) + (if a.ris + b.lea ≤ a.lea then b.oft else 0) = ((cnt f p q (f p + min a.lea (a.ris + b.lea)) : Nat) : Int)
    rw [← cnt_add f (p := p) (m := m) (q := q) (by omega) (by omega), ha.oft, hb.oft]
    have n1 : ¬ a.lea ≤ a.ris + b.lea → cnt f p m (f p + min a.lea (a.ris + b.lea)) = 0 := fun h => cnt_no f fun r r1 r2 h2 => by
      have := ha.lea1 r r1 r2
      omega
    have n2 : ¬ a.ris + b.lea ≤ a.lea → cnt f m q (f p + min a.lea (a.ris + b.lea)) = 0 := fun h => cnt_no f fun r r1 r2 h2 => by
      have := hb.lea1 r r1 r2
      omega
    have y1 : a.lea ≤ a.ris + b.lea → f p + min a.lea (a.ris + b.lea) = f p + a.lea := fun h => by omega
    have y2 : a.ris + b.lea ≤ a.lea → f p + min a.lea (a.ris + b.lea) = f m + b.lea := fun h => by omega
    by_cases h1 : a.lea ≤ a.ris + b.lea
    · by_cases h2 : a.ris + b.lea ≤ a.lea
      · rw [if_pos h1, if_pos h2]
        have z1 := y1 h1
        have z2 := y2 h2
        rw [← z1, ← z2]
        omega
      · rw [if_pos h1, if_neg h2, n2 h2, y1 h1]
        omega
    · have h2 : a.ris + b.lea ≤ a.lea := by omega
      rw [if_neg h1, if_pos h2, n1 h1, y2 h2]
      omega
/-- one step -/
theorem TS.one {f : Nat → Int} {p : Nat} {s : Int} (h : f (p + 1) = f p + s) : TS f p (p + 1) ⟨s, s, s, 1⟩ := by
  refine ⟨by omega, by show s = _; omega, fun r r1 r2 => ?_, ⟨p + 1, by omega, by omega, h⟩, fun r r1 r2 => ?_, ⟨p + 1, by omega, by omega, h⟩, ?_⟩
  · have : r = p + 1 := by omega
    subst this
    show f p + s ≤ _
    omega
  · have : r = p + 1 := by omega
    subst this
    show _ ≤ f p + s
    omega
  · show (1 : Int) = (cnt f p (p + 1) (f p + s) : Nat)
    rw [cnt_one, if_pos h]
    rfl
/-- the rise goes by single steps, so every height between the least and the most is met -/
theorem TS.meets {f : Nat → Int} {p q : Nat} {t : TT} (a : TS f p q t) (st : ∀ r, p ≤ r → r < q → f (r + 1) = f r + 1 ∨ f (r + 1) = f r - 1) {g : Int} (h1 : f p + t.lea ≤ g) (h2 : g ≤ f p + t.mos) : ∃ r, p < r ∧ r ≤ q ∧ f r = g := by
  obtain ⟨i, i1, i2, i3⟩ := a.lea2
  obtain ⟨j, j1, j2, j3⟩ := a.mos2
  have up : ∀ n i, p < i → i + n ≤ q → f i ≤ g → g ≤ f (i + n) → ∃ r, p < r ∧ r ≤ q ∧ f r = g := by
    intro n
    induction n with
    | zero => intro i k1 k2 k3 k4; exact ⟨i, k1, by omega, by simp at k4; omega⟩
    | succ n ih =>
      intro i k1 k2 k3 k4
      by_cases e : f i = g
      · exact ⟨i, k1, by omega, e⟩
      · have z : i + 1 + n = i + (n + 1) := by omega
        refine ih (i + 1) (by omega) (by omega) ?_ (by rw [z]; exact k4)
        rcases st i (by omega) (by omega) with x | x <;> omega
  have dn : ∀ n i, p < i → i + n ≤ q → g ≤ f i → f (i + n) ≤ g → ∃ r, p < r ∧ r ≤ q ∧ f r = g := by
    intro n
    induction n with
    | zero => intro i k1 k2 k3 k4; exact ⟨i, k1, by omega, by simp at k4; omega⟩
    | succ n ih =>
      intro i k1 k2 k3 k4
      by_cases e : f i = g
      · exact ⟨i, k1, by omega, e⟩
      · have z : i + 1 + n = i + (n + 1) := by omega
        refine ih (i + 1) (by omega) (by omega) ?_ (by rw [z]; exact k4)
        rcases st i (by omega) (by omega) with x | x <;> omega
  by_cases c : i ≤ j
  · have z : i + (j - i) = j := by omega
    exact up (j - i) i i1 (by omega) (by omega) (by rw [z]; omega)
  · have z : j + (i - j) = i := by omega
    exact dn (i - j) j j1 (by omega) (by omega) (by rw [z]; omega)
theorem TS.goal {f : Nat → Int} {p q : Nat} {t : TT} (a : TS f p q t) (st : ∀ r, p ≤ r → r < q → f (r + 1) = f r + 1 ∨ f (r + 1) = f r - 1) (g : Int) : (f p + t.lea ≤ g ∧ g ≤ f p + t.mos) ↔ ∃ r, p < r ∧ r ≤ q ∧ f r = g :=
  ⟨fun h => a.meets st h.1 h.2, fun ⟨r, r1, r2, r3⟩ => ⟨r3 ▸ a.lea1 r r1 r2, r3 ▸ a.mos1 r r1 r2⟩⟩
end Pg
set_option maxRecDepth 100000
set_option maxHeartbeats 2000000
/-! T8: turns_of. -/
namespace Pg
open PySem PySem.Spec PyProof.Rows L2 Vi
/-- the rise ahead of place p -/
def rise (bs : List Bool) (p : Nat) : Int := 2 * tk bs p - p
def stp (b : Bool) : Int := if b then 1 else -1
theorem tk_succ {bs : List Bool} {p : Nat} {x : Bool} (h : bs[p]? = some x) : tk bs (p + 1) = tk bs p + bI x := by
  have := cb_step (b := true) h
  rw [tk_cb, tk_cb, this]
  cases x <;> simp [bI]
theorem rise_succ {bs : List Bool} {p : Nat} {x : Bool} (h : bs[p]? = some x) : rise bs (p + 1) = rise bs p + stp x := by
  unfold rise stp
  rw [tk_succ h]
  cases x <;> simp [bI] <;> omega
theorem rise_zero (bs : List Bool) : rise bs 0 = 0 := by simp [rise, tk, ones]
theorem rise_steps (bs : List Bool) (r : Nat) (h : r < bs.length) : rise bs (r + 1) = rise bs r + 1 ∨ rise bs (r + 1) = rise bs r - 1 := by
  have := rise_succ (List.getElem?_eq_getElem h)
  rw [this]
  cases bs[r] <;> simp [stp] <;> omega
def tD (t : TT) : D := .tup [.int t.ris, .int t.lea, .int t.mos, .int t.oft]
def TO (bs : List Bool) (k : Nat) (t : TT) : Prop := (k = 0 ∧ t = ⟨0, 1, -1, 0⟩) ∨ (0 < k ∧ TS (rise bs) 0 k t)
theorem to_step {bs : List Bool} {k : Nat} {x : Bool} {t : TT} (h : bs[k]? = some x) (ht : TO bs k t) :
    TO bs (k + 1) (if k = 0 then ⟨stp x, stp x, stp x, 1⟩ else comb t ⟨stp x, stp x, stp x, 1⟩) := by
  have e := rise_succ h
  rcases ht with ⟨rfl, rfl⟩ | ⟨h0, hs⟩
  · exact .inr ⟨by omega, TS.one e⟩
  · rw [if_neg (by omega)]
    exact .inr ⟨by omega, hs.comb (TS.one e)⟩
abbrev toF (bs : List Bool) (t : TT) : Fr := [some (rowD bs), some (.int t.ris), some (.int t.lea), some (.int t.mos), some (.int t.oft), none, none]
theorem to_body {bs : List Bool} {k : Nat} {x : Bool} {t : TT} {st : Sto} (ht : TO bs k t) :
    m_turns_of_b0 [some (rowD bs), some (.int t.ris), some (.int t.lea), some (.int t.mos), some (.int t.oft), some (.int k), some (.int (bI x))] st = .nx (toF bs (if k = 0 then ⟨stp x, stp x, stp x, 1⟩ else comb t ⟨stp x, stp x, stp x, 1⟩)) st := by
  have e1 : (if bI x = 1 then (1 : Int) else -1) = stp x := by cases x <;> simp [bI, stp]
  unfold m_turns_of_b0
  rcases ht with ⟨rfl, rfl⟩ | ⟨h0, hs⟩
  · cases x <;> simp [bI, stp]
  · have k0 : ¬ ((k : Int) = 0) := by omega
    have k1 : ¬ (k = 0) := by omega
    rw [if_neg k1]
    obtain ⟨r, l, m, o⟩ := t
    obtain ⟨q, hq⟩ : ∃ q, q = r + stp x := ⟨_, rfl⟩
    have hr : r + (if bI x = 1 then (1 : Int) else -1) = q := by rw [e1, hq]
    have cm : comb ⟨r, l, m, o⟩ ⟨stp x, stp x, stp x, 1⟩ = ⟨q, min l q, max m q, (if l ≤ q then o else 0) + (if q ≤ l then 1 else 0)⟩ := by
      rw [hq]
      rfl
    rw [cm]
    have mx : (if m < q then q else m) = max m q := by
      by_cases h : m < q
      · rw [if_pos h]; omega
      · rw [if_neg h]; omega
    have bx : (if bI x = 1 then (Out.ok (.int 1) st : Out D) else .ok (.int (-1)) st) = .ok (.int (stp x)) st := by cases x <;> rfl
    rcases Int.lt_trichotomy q l with c | c | c
    · have c2 : min l q = q := by omega
      have c3 : ¬ l ≤ q := by omega
      have c4 : q ≤ l := by omega
      rw [c2, if_neg c3, if_pos c4]
      cases x <;> simp [bI, stp] at hq ⊢ <;> simp [← hq, k1, c, mx]
    · have c1 : ¬ q < l := by omega
      have c2 : min l q = q := by omega
      have c3 : l ≤ q := by omega
      have c4 : q ≤ l := by omega
      rw [c2, if_pos c3, if_pos c4]
      subst c
      cases x <;> simp [bI, stp] at hq ⊢ <;> simp [← hq, k1, mx]
    · have c1 : ¬ q < l := by omega
      have c2 : min l q = l := by omega
      have c3 : l ≤ q := by omega
      have c4 : ¬ q ≤ l := by omega
      have c5 : ¬ q = l := by omega
      rw [c2, if_pos c3, if_neg c4]
      cases x <;> simp [bI, stp] at hq ⊢ <;> simp [← hq, k1, c1, c5, mx]
theorem turns_raw {bs : List Bool} (h : bs ≠ []) (st : Sto) : ∃ t, TS (rise bs) 0 bs.length t ∧ f_turns_of [rowD bs] st = .ok (tD t) st := by
  have key := for_inv (it := .seq (enumd 0 (bs.map bD))) (g := gT 2 (gsCons (gN 5) (gsCons (gN 6) gsNil))) (b := m_turns_of_b0) (fun i fr s => ∃ t, TO bs i t ∧ fr = toF bs t ∧ s = st) (enumd 0 (bs.map bD)) 0 (toF bs ⟨0, 1, -1, 0⟩) st ⟨_, .inl ⟨rfl, rfl⟩, rfl, rfl⟩ (fun _ _ _ _ => rfl) ?_
  · obtain ⟨fr', st', e, t, ht, rfl, rfl⟩ := key
    rw [enumd_len, List.length_map, Nat.zero_add] at ht
    have hl : bs.length ≠ 0 := fun z => h (List.length_eq_zero_iff.mp z)
    rcases ht with ⟨z, _⟩ | ⟨_, ht⟩
    · exact absurd z hl
    · refine ⟨t, ht, ?_⟩
      have rd : rowD bs = .tup (bs.map bD) := rfl
      have en : kEnum [rowD bs] st' = .ok (.seq (enumd 0 (bs.map bD))) st' := rfl
      generalize hR : rowD bs = R at *
      unfold f_turns_of m_turns_of
      rw [mFz_s, mF1]
      have g4 : gT 4 (gsCons (gN 1) (gsCons (gN 2) (gsCons (gN 3) (gsCons (gN 4) gsNil)))) (.tup [.int 0, .int 1, .int (-1), .int 0]) [some R, none, none, none, none, none, none] st' = .ok [some R, some (.int 0), some (.int 1), some (.int (-1)), some (.int 0), none, none] st' := rfl
      have e2 : forN (.seq (enumd 0 (bs.map bD))) (gT 2 (gsCons (gN 5) (gsCons (gN 6) gsNil))) m_turns_of_b0 (enumd 0 (bs.map bD)) [some R, some (.int 0), some (.int 1), some (.int (-1)), some (.int 0), none, none] st' = .nx [some R, some (.int t.ris), some (.int t.lea), some (.int t.mos), some (.int t.oft), none, none] st' := by
        rw [← hR]
        exact e
      have fz : fzOut st' (.ok (tD t) st') = .ok (tD t) st' := fz_pure rfl
      have td : (.tup [.int t.ris, .int t.lea, .int t.mos, .int t.oft] : D) = tD t := rfl
      simp [g4, en, e2, td, fz]
  · rintro i fr s d hd ⟨t, ht, rfl, rfl⟩
    obtain ⟨y, hy, rfl⟩ := enumd_get hd
    rw [Nat.zero_add] at ht ⊢
    obtain ⟨x, hx, rfl⟩ : ∃ x, bs[i]? = some x ∧ bD x = y := by simpa using hy
    exact ⟨_, _, rfl, _, _, .inl (to_body ht), _, to_step hx ht, rfl, rfl⟩
end Pg
set_option maxRecDepth 100000
set_option maxHeartbeats 2000000
/-! T9: turns of a slice, put_together, has_goal, halves, is_block. -/
namespace Pg
open PySem PySem.Spec PyProof.Rows L2 Vi
theorem cnt_shift {f g : Nat → Int} {p n : Nat} {c v : Int} (h : ∀ i, i ≤ n → f (p + i) = g i + c) : cnt f p (p + n) (v + c) = cnt g 0 n v := by
  unfold cnt
  rw [Nat.add_sub_cancel_left, Nat.sub_zero]
  congr 1
  apply List.filter_congr
  intro i hi
  have := List.mem_range.mp hi
  have e := h (1 + i) (by omega)
  rw [← Nat.add_assoc] at e
  rw [Nat.zero_add, e]
  by_cases z : g (1 + i) = v
  · simp [z]
  · have z2 : ¬ g (1 + i) + c = v + c := by omega
    simp [z, z2]
theorem TS.shift {f g : Nat → Int} {p n : Nat} {c : Int} {t : TT} (a : TS g 0 n t) (h : ∀ i, i ≤ n → f (p + i) = g i + c) : TS f p (p + n) t := by
  have h0 := h 0 (Nat.zero_le _)
  rw [Nat.add_zero] at h0
  refine ⟨by have := a.lt; omega, ?_, ?_, ?_, ?_, ?_, ?_⟩
  · rw [a.ris, h n (Nat.le_refl _), h0]
    omega
  · intro r r1 r2
    have := a.lea1 (r - p) (by omega) (by omega)
    have e := h (r - p) (by omega)
    rw [show p + (r - p) = r by omega] at e
    omega
  · obtain ⟨r, r1, r2, r3⟩ := a.lea2
    exact ⟨p + r, by omega, by omega, by rw [h r r2, h0]; omega⟩
  · intro r r1 r2
    have := a.mos1 (r - p) (by omega) (by omega)
    have e := h (r - p) (by omega)
    rw [show p + (r - p) = r by omega] at e
    omega
  · obtain ⟨r, r1, r2, r3⟩ := a.mos2
    exact ⟨p + r, by omega, by omega, by rw [h r r2, h0]; omega⟩
  · rw [a.oft, h0, show g 0 + c + t.lea = g 0 + t.lea + c by omega, cnt_shift h]
theorem rise_slice {bs : List Bool} {p q : Nat} (h : p ≤ q) (hq : q ≤ bs.length) : ∀ i, i ≤ q - p → rise bs (p + i) = rise ((bs.take q).drop p) i + rise bs p := by
  intro i hi
  have e := tk_step bs p (p + i) (by omega)
  have e2 : tk ((bs.take q).drop p) i = (ones ((bs.take (p + i)).drop p) : Int) := by
    unfold tk
    congr 2
    rw [List.take_drop, List.take_take, Nat.min_eq_left (by omega)]
  unfold rise
  rw [e2, ← e]
  omega
theorem turns_s {bs : List Bool} {p q : Nat} (h : p < q) (hq : q ≤ bs.length) (st : Sto) : ∃ t, TS (rise bs) p q t ∧ f_turns_of [rowD ((bs.take q).drop p)] st = .ok (tD t) st := by
  have len : ((bs.take q).drop p).length = q - p := by
    rw [List.length_drop, List.length_take]
    omega
  obtain ⟨t, ht, e⟩ := turns_raw (bs := (bs.take q).drop p) (fun z => by rw [z] at len; simp at len; omega) st
  rw [len] at ht
  have := ht.shift (rise_slice (by omega) hq)
  rw [show p + (q - p) = q by omega] at this
  exact ⟨t, this, e⟩
section
variable {st : Sto} {a b t : TT}
theorem tD_at0 : oIx (tD t) (.int 0) st = .ok (.int t.ris) st := rfl
theorem tD_at1 : oIx (tD t) (.int 1) st = .ok (.int t.lea) st := rfl
theorem tD_at2 : oIx (tD t) (.int 2) st = .ok (.int t.mos) st := rfl
theorem tD_at3 : oIx (tD t) (.int 3) st = .ok (.int t.oft) st := rfl
@[simp] theorem fz_tD : fzOut st (.ok (tD t) st) = .ok (tD t) st := fz_pure rfl
theorem goal_s {g c : Int} : f_has_goal [.int c, tD t, .int g] st = .ok (.bl (decide (c + t.lea ≤ g ∧ g ≤ c + t.mos))) st := by
  unfold f_has_goal m_has_goal
  rw [mFz_s, mF3]
  by_cases h : c + t.lea ≤ g
  · simp [tD_at1, tD_at2, h]
  · simp [tD_at1, tD_at2, h]
theorem put_ss : f_put_together [tD a, tD b] st = .ok (tD (comb a b)) st := by
  have na : oIsN (tD a) .non st = .ok (.bl false) st := rfl
  have nb : oIsN (tD b) .non st = .ok (.bl false) st := rfl
  have mn : ∀ x y : Int, (if y < x then y else x) = min x y := fun x y => by
    by_cases h : y < x
    · rw [if_pos h]; omega
    · rw [if_neg h]; omega
  have mx : ∀ x y : Int, (if x < y then y else x) = max x y := fun x y => by
    by_cases h : x < y
    · rw [if_pos h]; omega
    · rw [if_neg h]; omega
  obtain ⟨o, ho⟩ : ∃ o, o = (if a.lea ≤ a.ris + b.lea then a.oft else 0) + (if a.ris + b.lea ≤ a.lea then b.oft else 0) := ⟨_, rfl⟩
  have td : (.tup [.int (a.ris + b.ris), .int (min a.lea (a.ris + b.lea)), .int (max a.mos (a.ris + b.mos)), .int o] : D) = tD (comb a b) := by
    rw [ho]
    rfl
  unfold f_put_together m_put_together
  rw [mFz_s, mF2]
  by_cases h1 : a.lea ≤ a.ris + b.lea
  · by_cases h2 : a.ris + b.lea ≤ a.lea
    · rw [if_pos h1, if_pos h2] at ho
      simp [na, nb, tD_at0, tD_at1, tD_at2, tD_at3, h1, h2, mn, mx, ← ho, td]
    · rw [if_pos h1, if_neg h2, Int.add_zero] at ho
      simp [na, nb, tD_at0, tD_at1, tD_at2, tD_at3, h1, h2, mn, mx, ← ho, td]
  · have h2 : a.ris + b.lea ≤ a.lea := by omega
    rw [if_neg h1, if_pos h2, Int.zero_add] at ho
    simp [na, nb, tD_at0, tD_at1, tD_at2, tD_at3, h1, h2, mn, mx, ← ho, td]
theorem isN_n : isN .non = true := rfl
theorem put_ns : f_put_together [.non, tD b] st = .ok (tD b) st := by
  have nb : oIsN (tD b) .non st = .ok (.bl false) st := rfl
  unfold f_put_together m_put_together
  rw [mFz_s, mF2]
  simp [nb, isN_n]
theorem put_sn : f_put_together [tD a, .non] st = .ok (tD a) st := by
  have nb : oIsN (tD a) .non st = .ok (.bl false) st := rfl
  unfold f_put_together m_put_together
  rw [mFz_s, mF2]
  simp [nb, isN_n]
theorem put_nn : f_put_together [.non, .non] st = .ok .non st := by
  unfold f_put_together m_put_together
  rw [mFz_s, mF2]
  simp [isN_n]
end
end Pg
set_option maxRecDepth 100000
set_option maxHeartbeats 2000000
/-! T10: the tree, told; check, rise, look, halves, is_block. -/
namespace Pg
open PySem PySem.Spec PyProof.Rows L2 Vi
/-- what a node's cell holds of the stretch p .. q (q cut at the end) -/
def NO (bs : List Bool) (p q : Nat) (d : D) : Prop := if p < bs.length then ∃ t, d = tD t ∧ TS (rise bs) p (min q bs.length) t else d = .non
structure Tree (bs : List Bool) (h : Nat) (nds : List D) : Prop where
  big : bs.length ≤ 8 * 2 ^ h
  sml : h ≤ 9
  node : ∀ j k, j ≤ h → k < 2 ^ (h - j) → ∃ d, nds[2 ^ (h - j) + k]? = some d ∧ NO bs (8 * 2 ^ j * k) (8 * 2 ^ j * (k + 1)) d
def treeO (bs : List Bool) (h : Nat) (nds : List D) : D := .obj 16 [164, 24, 114, 81, 131, 116] [rowO bs, rowD bs, .int bs.length, .int h, .fl nds, .cnt]
/-- a piece: a stretch within a block, or a whole node's -/
def pcD (p q : Nat) (nd : D) : D := .tup [.int p, .int q, nd]
def PC (bs : List Bool) (h : Nat) (p q : Nat) (nd : D) : Prop := p < q ∧ q ≤ bs.length ∧
  ((nd = .non ∧ q ≤ p + 8) ∨ ∃ j k, j ≤ h ∧ k < 2 ^ (h - j) ∧ nd = .int ((2 ^ (h - j) + k : Nat) : Int) ∧ p = 8 * 2 ^ j * k ∧ q = 8 * 2 ^ j * (k + 1))
section
variable {st : Sto} {bs : List Bool} {h : Nat} {nds : List D}
theorem tr_check {p : Int} : f_LeastTree_check [treeO bs h nds, .int p] st = if 0 ≤ p ∧ p ≤ bs.length then .ok .non st else .ex 2 st := by
  have f1 : kFld [16] 114 (treeO bs h nds) st = .ok (.int bs.length) st := rfl
  unfold f_LeastTree_check m_LeastTree_check
  rw [mFz_s, mF2]
  by_cases h0 : 0 ≤ p
  · by_cases h1 : p ≤ bs.length
    · simp [f1, is_number_s, h0, h1]
    · simp [f1, is_number_s, h0, h1]
  · simp [f1, is_number_s, h0]
theorem tr_rise {p : Nat} (hp : p ≤ bs.length) : f_LeastTree_rise [treeO bs h nds, .int p] st = .ok (.int (rise bs p)) st := by
  have c1 := tr_check (st := st) (bs := bs) (h := h) (nds := nds) (p := p)
  rw [if_pos ⟨by omega, by omega⟩] at c1
  have c2 := row_count (st := st) (b := true) hp
  rw [show bI true = 1 from rfl] at c2
  have f1 : kFld [16] 164 (treeO bs h nds) st = .ok (rowO bs) st := rfl
  have k1 : clsO st 34 (treeO bs h nds) = some 16 := rfl
  have k2 : clsO st 46 (rowO bs) = some 25 := rfl
  have m1 := kMth_c (T := [(16, f_LeastTree_check)]) (xs := aCons (eVar 1) aNil) (fr := [some (treeO bs h nds), some (.int (p : Int))]) k1 (F := f_LeastTree_check) rfl
  have m2 := kMth_c (T := [(25, f_Row_count)]) (xs := aCons (eC (.int 1)) (aCons (eVar 1) aNil)) (fr := [some (treeO bs h nds), some (.int (p : Int))]) k2 (F := f_Row_count) rfl
  have rs : rise bs p = 2 * (cb true bs p : Int) - p := rfl
  unfold f_LeastTree_rise m_LeastTree_rise
  rw [mFz_s, mF2]
  simp [m1, c1, f1, m2, c2, rs, cMul, smallI]
end
end Pg
set_option maxRecDepth 100000
set_option maxHeartbeats 2000000
/-! T11: look, halves, is_block. -/
namespace Pg
open PySem PySem.Spec PyProof.Rows L2 Vi
section
variable {st : Sto} {bs : List Bool} {h : Nat} {nds : List D}
theorem pow_le {j h : Nat} (H : h ≤ 9) (hj : j ≤ h) : 2 ^ j ≤ 512 := by
  have := Nat.pow_le_pow_right (n := 2) (by omega) (show j ≤ 9 by omega)
  simpa using this
theorem tr_look {p q : Nat} {nd : D} (T : Tree bs h nds) (P : PC bs h p q nd) : ∃ t, TS (rise bs) p q t ∧ f_LeastTree_look [treeO bs h nds, pcD p q nd] st = .ok (tD t) st := by
  obtain ⟨h1, h2, P⟩ := P
  have g3 : ∀ s : Sto, gT 3 (gsCons (gN 2) (gsCons (gN 3) (gsCons (gN 4) gsNil))) (pcD p q nd) [some (treeO bs h nds), some (pcD p q nd), none, none, none] s = .ok [some (treeO bs h nds), some (pcD p q nd), some (.int p), some (.int q), some nd] s := fun _ => rfl
  have lk : ∀ (s : Sto) (fr : Fr), kLk [25, 16] (eC (.int 1)) fr (treeO bs h nds) s = .nx fr s := fun _ _ => rfl
  have f1 : ∀ s : Sto, kFld [25, 16] 24 (treeO bs h nds) s = .ok (rowD bs) s := fun _ => rfl
  have f2 : ∀ s : Sto, kFld [16] 131 (treeO bs h nds) s = .ok (.fl nds) s := fun _ => rfl
  rcases P with ⟨rfl, h3⟩ | ⟨j, k, h3, h4, rfl, h5, h6⟩
  · obtain ⟨t, ht, e⟩ := turns_s h1 h2 st
    refine ⟨t, ht, ?_⟩
    have cut : slD mkFl (rowD bs) (some (p : Int)) (some (q : Int)) st = .ok (rowD ((bs.take q).drop p)) st := by
      have : cutL bs (some (p : Int)) (some (q : Int)) = (bs.take q).drop p := cut_lh
      simp [slD, rowD, cut_map, this, -List.map_take, -List.map_drop]
    unfold f_LeastTree_look m_LeastTree_look
    rw [mFz_s, mF2]
    generalize (bs.take q).drop p = S at *
    simp [lk, g3, f1, cut, e, isN_n]
  · obtain ⟨d, hd, hn⟩ := T.node j k h3 h4
    unfold NO at hn
    rw [if_pos (by omega), ← h6, ← h5, Nat.min_eq_left h2] at hn
    obtain ⟨t, rfl, ht⟩ := hn
    refine ⟨t, ht, ?_⟩
    have ix : ∀ s : Sto, oIx (.fl nds) (.int ((2 ^ (h - j) + k : Nat) : Int)) s = .ok (tD t) s := fun s => by
      have : atI nds ((2 ^ (h - j) + k : Nat) : Int) = some (tD t) := by
        rw [Vi.atI_nat]
        exact hd
      simp only [oIx, asQ, this]
    have nn : isN (.int ((2 ^ (h - j) + k : Nat) : Int)) = false := rfl
    generalize ((2 ^ (h - j) + k : Nat) : Int) = v at *
    unfold f_LeastTree_look m_LeastTree_look
    rw [mFz_s, mF2]
    simp [lk, g3, f2, ix, nn]
theorem tr_halves {p q v : Nat} : f_LeastTree_halves [treeO bs h nds, pcD p q (.int v)] st = .ok (.tup [pcD p ((p + q) / 2) (.int (2 * v : Nat)), pcD ((p + q) / 2) q (.int (2 * v + 1 : Nat))]) st := by
  have g3 : ∀ s : Sto, gT 3 (gsCons (gN 2) (gsCons (gN 3) (gsCons (gN 4) gsNil))) (pcD p q (.int v)) [some (treeO bs h nds), some (pcD p q (.int v)), none, none, none, none] s = .ok [some (treeO bs h nds), some (pcD p q (.int v)), some (.int p), some (.int q), some (.int v), none] s := fun _ => rfl
  have e : ((p : Int) + q) / 2 = (((p + q) / 2 : Nat) : Int) := by omega
  have fz : fzOut st (.ok (.tup [pcD p ((p + q) / 2) (.int (2 * v : Nat)), pcD ((p + q) / 2) q (.int (2 * v + 1 : Nat))]) st) = .ok (.tup [pcD p ((p + q) / 2) (.int (2 * v : Nat)), pcD ((p + q) / 2) q (.int (2 * v + 1 : Nat))]) st := fz_pure rfl
  unfold f_LeastTree_halves m_LeastTree_halves
  rw [mFz_s, mF2]
  unfold pcD at *
  simp [g3, cMul, smallI, cDiv] at fz ⊢
  simp [fz]
theorem tr_isb {p q : Nat} {nd : D} : f_LeastTree_is_block [treeO bs h nds, pcD p q nd] st = .ok (.bl (decide (q ≤ p + 8))) st := by
  have a0 : oIx (pcD p q nd) (.int 0) st = .ok (.int p) st := rfl
  have a1 : oIx (pcD p q nd) (.int 1) st = .ok (.int q) st := rfl
  have e : (decide ((q : Int) - p ≤ 8)) = decide (q ≤ p + 8) := by
    by_cases c : q ≤ p + 8
    · rw [decide_eq_true c, decide_eq_true (by omega)]
    · rw [decide_eq_false c, decide_eq_false (by omega)]
  unfold f_LeastTree_is_block m_LeastTree_is_block
  rw [mFz_s, mF2]
  simp [a0, a1, e]
end
end Pg
set_option maxRecDepth 100000
set_option maxHeartbeats 2000000
/-! T12: pieces. -/
namespace Pg
open PySem PySem.Spec PyProof.Rows L2 Vi
section
variable {st : Sto} {bs : List Bool} {h : Nat} {nds : List D}
abbrev pF (bs : List Bool) (h : Nat) (nds : List D) (e n p : Nat) (nd sz : Option D) : Fr := [some (treeO bs h nds), none, some (.int e), some (.loc n), some (.int p), none, nd, sz]
def Whole (h p e j k : Nat) : Prop := j ≤ h ∧ k < 2 ^ (h - j) ∧ p = 8 * 2 ^ j * k ∧ 8 * 2 ^ j * (k + 1) ≤ e
theorem climb {e n p : Nat} (H : h ≤ 9) (h0 : p % 8 = 0) (h1 : p + 8 ≤ e) (h2 : e ≤ bs.length) (h3 : bs.length ≤ 8 * 2 ^ h) :
    ∃ j k, Whole h p e j k ∧ whileN (bAnd (toB (eBin oEq (eBin oMod (eVar 6) (eC (.int 2))) (eC (.int 0)))) (toB (eBin oLe (eBin (oAddG mkFl) (eVar 4) (eBin (oMulG mkFl) (eC (.int 2)) (eVar 7))) (eVar 2)))) m_LeastTree_pieces_b1 wMost
      (pF bs h nds e n p (some (.int ((2 ^ h + p / 8 : Nat) : Int))) (some (.int 8))) st = .nx (pF bs h nds e n p (some (.int ((2 ^ (h - j) + k : Nat) : Int))) (some (.int ((8 * 2 ^ j : Nat) : Int)))) st := by
  have key := while_inv (t := bAnd (toB (eBin oEq (eBin oMod (eVar 6) (eC (.int 2))) (eC (.int 0)))) (toB (eBin oLe (eBin (oAddG mkFl) (eVar 4) (eBin (oMulG mkFl) (eC (.int 2)) (eVar 7))) (eVar 2)))) (b := m_LeastTree_pieces_b1)
    (fun m fr s => ∃ j k, Whole h p e j k ∧ m = h - j ∧ fr = pF bs h nds e n p (some (.int ((2 ^ (h - j) + k : Nat) : Int))) (some (.int ((8 * 2 ^ j : Nat) : Int))) ∧ s = st)
    (fun fr s => ∃ j k, Whole h p e j k ∧ fr = pF bs h nds e n p (some (.int ((2 ^ (h - j) + k : Nat) : Int))) (some (.int ((8 * 2 ^ j : Nat) : Int))) ∧ s = st) ?_ wMost h (pF bs h nds e n p (some (.int ((2 ^ h + p / 8 : Nat) : Int))) (some (.int 8))) st (by unfold wMost; omega)
      ⟨0, p / 8, ⟨Nat.zero_le _, by rw [Nat.sub_zero]; omega, by rw [Nat.pow_zero]; omega, by rw [Nat.pow_zero]; omega⟩, rfl, rfl, rfl⟩
  · obtain ⟨fr', st', e1, ⟨j, k, hw, rfl, rfl⟩⟩ := key
    exact ⟨j, k, hw, e1⟩
  · rintro m fr s ⟨j, k, ⟨w1, w2, w3, w4⟩, rfl, rfl, rfl⟩
    obtain ⟨v, hv⟩ : ∃ v, v = 2 ^ (h - j) + k := ⟨_, rfl⟩
    obtain ⟨z, hz⟩ : ∃ z, z = 8 * 2 ^ j := ⟨_, rfl⟩
    rw [← hv, ← hz]
    rw [← hz] at w3 w4
    have d2 : cMod (v : Int) 2 = true := by simp [cMod]
    have zb : z ≤ 4096 := by
      have := pow_le H w1
      omega
    by_cases c : v % 2 = 0 ∧ p + 2 * z ≤ e
    · obtain ⟨c1, c2⟩ := c
      have jl : j < h := by
        rcases Nat.lt_or_ge j h with y | y
        · exact y
        · have : h - j = 0 := by omega
          rw [this, Nat.pow_zero] at hv w2
          omega
      have pw : 2 ^ (h - j) = 2 * 2 ^ (h - (j + 1)) := by
        rw [show h - j = (h - (j + 1)) + 1 by omega, Nat.pow_succ]
        omega
      have pz : 8 * 2 ^ (j + 1) = 2 * z := by
        rw [Nat.pow_succ, hz]
        omega
      have kk : k = 2 * (k / 2) := by omega
      refine .inr ⟨s, ?_, pF bs h nds e n p (some (.int ((2 ^ (h - (j + 1)) + k / 2 : Nat) : Int))) (some (.int ((8 * 2 ^ (j + 1) : Nat) : Int))), s, h - (j + 1), .inl ?_, by omega, j + 1, k / 2, ⟨by omega, by omega, ?_, ?_⟩, rfl, rfl, rfl⟩
      · have q1 : (v : Int) % 2 = 0 := by omega
        have q2 : (p : Int) + 2 * z ≤ e := by omega
        simp [d2, q1, q2, cMul, smallI]
      · have q1 : ((2 ^ (h - (j + 1)) + k / 2 : Nat) : Int) = (v : Int) / 2 := by omega
        have q2 : ((8 * 2 ^ (j + 1) : Nat) : Int) = 2 * (z : Int) := by omega
        rw [q1, q2]
        unfold m_LeastTree_pieces_b1
        simp [cDiv, cMul, smallI]
      · rw [pz, show 2 * z * (k / 2) = z * (2 * (k / 2)) by rw [Nat.mul_comm 2 z, Nat.mul_assoc], ← kk]
        exact w3
      · rw [pz, show 2 * z * (k / 2 + 1) = z * (2 * (k / 2)) + 2 * z by rw [Nat.mul_add, Nat.mul_comm 2 z, Nat.mul_assoc, Nat.mul_one], ← kk, ← w3]
        exact c2
    · refine .inl ⟨?_, j, k, ⟨w1, w2, by rw [← hz]; exact w3, by rw [← hz]; exact w4⟩, by rw [hv, hz], rfl⟩
      by_cases c1 : v % 2 = 0
      · have c2 : ¬ p + 2 * z ≤ e := fun y => c ⟨c1, y⟩
        have q1 : (v : Int) % 2 = 0 := by omega
        have q2 : ¬ ((p : Int) + 2 * z ≤ e) := by omega
        simp [d2, q1, q2, cMul, smallI]
      · have q1 : ¬ ((v : Int) % 2 = 0) := by omega
        simp [d2, q1]
end
end Pg
set_option maxRecDepth 100000
set_option maxHeartbeats 2000000
/-! T13: pieces, the whole. -/
namespace Pg
open PySem PySem.Spec PyProof.Rows L2 Vi
/-- pieces put end to end, from a to b -/
def PCs (bs : List Bool) (h : Nat) : Nat → Nat → List D → Prop
  | a, b, [] => a = b
  | a, b, d :: ds => ∃ q nd, d = pcD a q nd ∧ PC bs h a q nd ∧ PCs bs h q b ds
theorem PC.nl {bs : List Bool} {h p q : Nat} {nd : D} (P : PC bs h p q nd) : noloc (pcD p q nd) = true := by
  obtain ⟨_, _, ⟨rfl, _⟩ | ⟨j, k, _, _, rfl, _⟩⟩ := P <;> rfl
theorem PCs.snoc {bs : List Bool} {h : Nat} : ∀ {ds : List D} {a p q : Nat} {nd : D}, PCs bs h a p ds → PC bs h p q nd → PCs bs h a q (ds ++ [pcD p q nd])
  | [], a, p, q, nd, e, P => by
    cases e
    exact ⟨q, nd, rfl, P, rfl⟩
  | d :: ds, a, p, q, nd, ⟨q1, n1, e, P1, r⟩, P => ⟨q1, n1, e, P1, PCs.snoc r P⟩
theorem PCs.nl {bs : List Bool} {h : Nat} : ∀ {ds : List D} {a b : Nat}, PCs bs h a b ds → nolocs ds = true
  | [], _, _, _ => rfl
  | d :: ds, a, b, ⟨q1, n1, e, P1, r⟩ => by
    rw [nolocs, e, P1.nl, PCs.nl r]
    rfl
theorem PCs.len {bs : List Bool} {h : Nat} : ∀ {ds : List D} {a b : Nat}, PCs bs h a b ds → a + ds.length ≤ b
  | [], a, b, e => by cases e; simp
  | d :: ds, a, b, ⟨q1, n1, e, P1, r⟩ => by
    have := PCs.len r
    have := P1.1
    simp
    omega
section
variable {st : Sto} {bs : List Bool} {h : Nat} {nds : List D}
theorem pcs_body {e p : Nat} {ds : List D} (T : Tree bs h nds) (h1 : p < e) (h2 : e ≤ bs.length) (hl : ds.length ≤ 16000000) :
    ∃ q nd, PC bs h p q nd ∧ q ≤ e ∧ m_LeastTree_pieces_b0 (pF bs h nds e st.length p none none) (st ++ [.lst ds]) = .nx (pF bs h nds e st.length q none none) (st ++ [.lst (ds ++ [pcD p q nd])]) := by
  have dv : cMod (p : Int) 8 = true := by simp [cMod]
  by_cases c : p % 8 = 0 ∧ p + 8 ≤ e
  · obtain ⟨c1, c2⟩ := c
    obtain ⟨j, k, ⟨w1, w2, w3, w4⟩, cl⟩ := climb (st := st ++ [.lst ds]) (n := st.length) (nds := nds) T.sml c1 c2 h2 T.big
    have w5 : 8 * 2 ^ j * (k + 1) = p + 8 * 2 ^ j := by rw [Nat.mul_add, ← w3, Nat.mul_one]
    refine ⟨8 * 2 ^ j * (k + 1), .int ((2 ^ (h - j) + k : Nat) : Int), ⟨?_, by omega, .inr ⟨j, k, w1, w2, rfl, w3, rfl⟩⟩, w4, ?_⟩
    · have := Nat.pos_of_ne_zero (n := 2 ^ j) (by simp)
      omega
    · have q1 : (p : Int) % 8 = 0 := by omega
      have q2 : ¬ ((p : Int) + 8 > e) := by omega
      have f1 : ∀ s : Sto, kFld [16] 81 (treeO bs h nds) s = .ok (.int h) s := fun _ => rfl
      have csh : ∀ h : Nat, h < 10 → cShift 1 (h : Int) = true := by decide +kernel
      have sh : ∀ s : Sto, oShl (.int 1) (.int (h : Int)) s = .ok (.int (2 ^ h)) s := fun s => by
        unfold oShl
        simp [csh h (by have := T.sml; omega)]
      have v1 : (2 : Int) ^ h + (p : Int) / 8 = ((2 ^ h + p / 8 : Nat) : Int) := by simp
      obtain ⟨q, hq⟩ : ∃ q, q = 8 * 2 ^ j * (k + 1) := ⟨_, rfl⟩
      have q6 : (p : Int) + ((8 * 2 ^ j : Nat) : Int) = (q : Int) := by omega
      rw [← hq]
      generalize ((2 ^ (h - j) + k : Nat) : Int) = v at *
      generalize ((8 * 2 ^ j : Nat) : Int) = z at *
      generalize ((2 ^ h + p / 8 : Nat) : Int) = V0 at *
      unfold pcD
      unfold m_LeastTree_pieces_b0
      simp [dv, q1, q2, f1, sh, v1, cDiv, cl, q6, kMt, asL, mAppend, hl, set_new]
  · obtain ⟨q, hq⟩ : ∃ q, q = min e (p / 8 * 8 + 8) := ⟨_, rfl⟩
    have q1 : p < q := by omega
    have q2 : q ≤ e := by omega
    refine ⟨q, .non, ⟨q1, by omega, .inl ⟨rfl, by omega⟩⟩, q2, ?_⟩
    have mn : (if (p : Int) / 8 * 8 + 8 < (e : Int) then (p : Int) / 8 * 8 + 8 else (e : Int)) = (q : Int) := by
      by_cases y : (p : Int) / 8 * 8 + 8 < (e : Int)
      · rw [if_pos y]; omega
      · rw [if_neg y]; omega
    unfold pcD
    unfold m_LeastTree_pieces_b0
    by_cases c1 : p % 8 = 0
    · have c2 : (p : Int) + 8 > e := by omega
      have c3 : (p : Int) % 8 = 0 := by omega
      simp [dv, c2, c3, cDiv, cMul, smallI, mn, kMt, asL, mAppend, hl, set_new]
    · have c3 : ¬ ((p : Int) % 8 = 0) := by omega
      simp [dv, c3, cDiv, cMul, smallI, mn, kMt, asL, mAppend, hl, set_new]
end
end Pg
set_option maxRecDepth 100000
set_option maxHeartbeats 2000000
/-! T14: pieces, told. -/
namespace Pg
open PySem PySem.Spec PyProof.Rows L2 Vi
section
variable {st : Sto} {bs : List Bool} {h : Nat} {nds : List D}
theorem pieces_s {a e : Nat} (T : Tree bs h nds) (hb : bs.length ≤ 4000) (h1 : a ≤ e) (h2 : e ≤ bs.length) :
    ∃ ds, PCs bs h a e ds ∧ f_LeastTree_pieces [treeO bs h nds, .int a, .int e] st = .ok (.fl ds) st := by
  have key := while_inv (t := toB (eBin oLt (eVar 4) (eVar 2))) (b := m_LeastTree_pieces_b0)
    (fun m fr s => ∃ p ds, PCs bs h a p ds ∧ p ≤ e ∧ m = e - p ∧ fr = pF bs h nds e st.length p none none ∧ s = st ++ [.lst ds])
    (fun fr s => ∃ ds, PCs bs h a e ds ∧ fr = pF bs h nds e st.length e none none ∧ s = st ++ [.lst ds]) ?_ wMost (e - a) (pF bs h nds e st.length a none none) (st ++ [.lst []]) (by unfold wMost; omega)
    ⟨a, [], rfl, h1, rfl, rfl, rfl⟩
  · obtain ⟨fr', st', e1, ds, hd, rfl, rfl⟩ := key
    refine ⟨ds, hd, ?_⟩
    have fz : fzOut st (.ok (.loc st.length) (st ++ [.lst ds])) = .ok (.fl ds) st := by
      refine fzOut_ok ?_
      rw [frz_lst (ds := ds) (by simp) (Nat.le_refl _), frz_map hd.nl]
      rfl
    unfold f_LeastTree_pieces m_LeastTree_pieces
    rw [mFz_s, mF3]
    simp [e1, fz]
  · rintro m fr s ⟨p, ds, hd, hp, rfl, rfl, rfl⟩
    by_cases c : p < e
    · have hl := hd.len
      obtain ⟨q, nd, P, hq, b⟩ := pcs_body (st := st) (ds := ds) T c h2 (by omega)
      have := P.1
      exact .inr ⟨_, by simp [c], _, _, e - q, .inl b, by omega, q, _, hd.snoc P, hq, rfl, rfl, rfl⟩
    · have : p = e := by omega
      subst this
      exact .inl ⟨by simp, ds, hd, rfl, rfl⟩
end
end Pg
set_option maxRecDepth 100000
set_option maxHeartbeats 2000000
/-! T15: between. -/
namespace Pg
open PySem PySem.Spec PyProof.Rows L2 Vi
theorem PCs.at {bs : List Bool} {h : Nat} {i : Nat} {ds : List D} {p e : Nat} {d : D} (hd : ds[i]? = some d) (P : PCs bs h p e (ds.drop i)) : ∃ q nd, d = pcD p q nd ∧ PC bs h p q nd ∧ PCs bs h q e (ds.drop (i + 1)) := by
  obtain ⟨hi, rfl⟩ := List.getElem?_eq_some_iff.mp hd
  rw [List.drop_eq_getElem_cons hi] at P
  exact P
theorem PCs.end {bs : List Bool} {h : Nat} {ds : List D} {p e : Nat} (P : PCs bs h p e (ds.drop ds.length)) : p = e := by
  rw [List.drop_length] at P
  exact P
/-- what was found of the stretch a .. p -/
def FO (bs : List Bool) (a p : Nat) (d : D) : Prop := (a = p ∧ d = .non) ∨ ∃ t, d = tD t ∧ TS (rise bs) a p t
section
variable {st : Sto} {bs : List Bool} {h : Nat} {nds : List D}
theorem fo_step {a p q : Nat} {d : D} {t : TT} (F : FO bs a p d) (ht : TS (rise bs) p q t) : ∃ u, TS (rise bs) a q u ∧ f_put_together [d, tD t] st = .ok (tD u) st := by
  rcases F with ⟨rfl, rfl⟩ | ⟨u, rfl, hu⟩
  · exact ⟨t, ht, put_ns⟩
  · exact ⟨_, hu.comb ht, put_ss⟩
theorem between_s {a e : Nat} (T : Tree bs h nds) (hb : bs.length ≤ 4000) (h1 : a < e) (h2 : e ≤ bs.length) :
    ∃ t, TS (rise bs) a e t ∧ f_LeastTree_between [treeO bs h nds, .int a, .int e] st = .ok (tD t) st := by
  obtain ⟨ds, hp, pe⟩ := pieces_s (st := st) T hb (Nat.le_of_lt h1) h2
  have key := for_inv (it := .seq ds) (g := gN 4) (b := m_LeastTree_between_b0)
    (fun i fr s => ∃ p d, PCs bs h p e (ds.drop i) ∧ FO bs a p d ∧ fr = [some (treeO bs h nds), some (.int (a : Int)), some (.int (e : Int)), some d, none] ∧ s = st) ds 0 [some (treeO bs h nds), some (.int (a : Int)), some (.int (e : Int)), some .non, none] st ⟨a, .non, hp, .inl ⟨rfl, rfl⟩, rfl, rfl⟩ (fun _ _ _ _ => rfl) ?_
  · obtain ⟨fr', st', e1, p, d, P, F, rfl, rfl⟩ := key
    rw [Nat.zero_add] at P
    have := P.end
    subst this
    rcases F with ⟨rfl, _⟩ | ⟨t, rfl, ht⟩
    · omega
    · refine ⟨t, ht, ?_⟩
      have k1 : clsO st' 34 (treeO bs h nds) = some 16 := rfl
      have k2 : clsO st' 150 (treeO bs h nds) = some 16 := rfl
      have c1 := tr_check (st := st') (bs := bs) (h := h) (nds := nds) (p := a)
      rw [if_pos ⟨by omega, by omega⟩] at c1
      have c2 := tr_check (st := st') (bs := bs) (h := h) (nds := nds) (p := p)
      rw [if_pos ⟨by omega, by omega⟩] at c2
      have m1 := kMth_c (T := [(16, f_LeastTree_check)]) (xs := aCons (eVar 1) aNil) (fr := [some (treeO bs h nds), some (.int (a : Int)), some (.int (p : Int)), none, none]) k1 (F := f_LeastTree_check) rfl
      have m2 := kMth_c (T := [(16, f_LeastTree_check)]) (xs := aCons (eVar 2) aNil) (fr := [some (treeO bs h nds), some (.int (a : Int)), some (.int (p : Int)), none, none]) k1 (F := f_LeastTree_check) rfl
      have m3 := kMth_c (T := [(16, f_LeastTree_pieces)]) (xs := aCons (eVar 1) (aCons (eVar 2) aNil)) (fr := [some (treeO bs h nds), some (.int (a : Int)), some (.int (p : Int)), some .non, none]) k2 (F := f_LeastTree_pieces) rfl
      have lt : ¬ ((p : Int) ≤ a) := by omega
      unfold f_LeastTree_between m_LeastTree_between
      rw [mFz_s, mF3]
      simp [m1, c1, m2, c2, m3, pe, lt, e1]
  · rintro i fr s d hd ⟨p, f, P, F, rfl, rfl⟩
    rw [Nat.zero_add] at P ⊢
    obtain ⟨q, nd, rfl, pc, P2⟩ := PCs.at hd P
    obtain ⟨t, ht, lk⟩ := tr_look (st := s) T pc
    obtain ⟨u, hu, pt⟩ := fo_step (st := s) F ht
    have k3 : clsO s 115 (treeO bs h nds) = some 16 := rfl
    have m4 := kMth_c (T := [(16, f_LeastTree_look)]) (xs := aCons (eVar 4) aNil) (fr := [some (treeO bs h nds), some (.int (a : Int)), some (.int (e : Int)), some f, some (pcD p q nd)]) k3 (F := f_LeastTree_look) rfl
    refine ⟨_, _, rfl, [some (treeO bs h nds), some (.int (a : Int)), some (.int (e : Int)), some (tD u), none], s, .inl ?_, q, tD u, P2, .inr ⟨u, rfl, hu⟩, rfl, rfl⟩
    unfold m_LeastTree_between_b0
    simp [m4, lk, pt]
end
end Pg
set_option maxRecDepth 100000
set_option maxHeartbeats 2000000
/-! T16: often, most, least. -/
namespace Pg
open PySem PySem.Spec PyProof.Rows L2 Vi
section
variable {st : Sto} {bs : List Bool} {h : Nat} {nds : List D}
theorem often_s {a e : Nat} (T : Tree bs h nds) (hb : bs.length ≤ 4000) (h1 : a < e) (h2 : e ≤ bs.length) {t : TT} (ht : TS (rise bs) a e t) :
    f_LeastTree_often [treeO bs h nds, .int a, .int e] st = .ok (.int t.oft) st := by
  obtain ⟨u, hu, b⟩ := between_s (st := st) T hb h1 h2
  cases hu.uniq ht
  have k1 : clsO st 22 (treeO bs h nds) = some 16 := rfl
  have m1 := kMth_c (T := [(16, f_LeastTree_between)]) (xs := aCons (eVar 1) (aCons (eVar 2) aNil)) (fr := [some (treeO bs h nds), some (.int (a : Int)), some (.int (e : Int))]) k1 (F := f_LeastTree_between) rfl
  unfold f_LeastTree_often m_LeastTree_often
  rw [mFz_s, mF3]
  simp [m1, b, tD_at3]
theorem most_s {a e : Nat} (T : Tree bs h nds) (hb : bs.length ≤ 4000) (h1 : a < e) (h2 : e ≤ bs.length) {t : TT} (ht : TS (rise bs) a e t) :
    f_LeastTree_most [treeO bs h nds, .int a, .int e] st = .ok (.int (rise bs a + t.mos)) st := by
  obtain ⟨u, hu, b⟩ := between_s (st := st) T hb h1 h2
  cases hu.uniq ht
  have r := tr_rise (st := st) (h := h) (nds := nds) (show a ≤ bs.length by omega)
  have k1 : clsO st 22 (treeO bs h nds) = some 16 := rfl
  have k2 : clsO st 161 (treeO bs h nds) = some 16 := rfl
  have m1 := kMth_c (T := [(16, f_LeastTree_between)]) (xs := aCons (eVar 1) (aCons (eVar 2) aNil)) (fr := [some (treeO bs h nds), some (.int (a : Int)), some (.int (e : Int)), none]) k1 (F := f_LeastTree_between) rfl
  have m2 := kMth_c (T := [(16, f_LeastTree_rise)]) (xs := aCons (eVar 1) aNil) (fr := [some (treeO bs h nds), some (.int (a : Int)), some (.int (e : Int)), some (tD t)]) k2 (F := f_LeastTree_rise) rfl
  unfold f_LeastTree_most m_LeastTree_most
  rw [mFz_s, mF3]
  simp [m1, b, m2, r, tD_at2]
theorem least_s {a e : Nat} (T : Tree bs h nds) (hb : bs.length ≤ 4000) (h1 : a < e) (h2 : e ≤ bs.length) {t : TT} (ht : TS (rise bs) a e t) :
    f_LeastTree_least [treeO bs h nds, .int a, .int e] st = .ok (.int (rise bs a + t.lea)) st := by
  obtain ⟨u, hu, b⟩ := between_s (st := st) T hb h1 h2
  cases hu.uniq ht
  have r := tr_rise (st := st) (h := h) (nds := nds) (show a ≤ bs.length by omega)
  have k1 : clsO st 22 (treeO bs h nds) = some 16 := rfl
  have k2 : clsO st 161 (treeO bs h nds) = some 16 := rfl
  have m1 := kMth_c (T := [(16, f_LeastTree_between)]) (xs := aCons (eVar 1) (aCons (eVar 2) aNil)) (fr := [some (treeO bs h nds), some (.int (a : Int)), some (.int (e : Int)), none]) k1 (F := f_LeastTree_between) rfl
  have m2 := kMth_c (T := [(16, f_LeastTree_rise)]) (xs := aCons (eVar 1) aNil) (fr := [some (treeO bs h nds), some (.int (a : Int)), some (.int (e : Int)), some (tD t)]) k2 (F := f_LeastTree_rise) rfl
  unfold f_LeastTree_least m_LeastTree_least
  rw [mFz_s, mF3]
  simp [m1, b, m2, r, tD_at1]
end
end Pg
set_option maxRecDepth 100000
set_option maxHeartbeats 2000000
/-! T17: halves of a piece; first_in. -/
namespace Pg
open PySem PySem.Spec PyProof.Rows L2 Vi
theorem PC.half {bs : List Bool} {h p q : Nat} {nd : D} (P : PC bs h p q nd) (c : ¬ q ≤ p + 8) : ∃ v : Nat, nd = .int v ∧ PC bs h p ((p + q) / 2) (.int (2 * v : Nat)) ∧ PC bs h ((p + q) / 2) q (.int (2 * v + 1 : Nat)) := by
  obtain ⟨h1, h2, ⟨_, h3⟩ | ⟨j, k, h3, h4, rfl, h5, h6⟩⟩ := P
  · exact absurd h3 c
  · cases j with
    | zero =>
      rw [Nat.pow_zero] at h5 h6
      omega
    | succ j =>
      refine ⟨2 ^ (h - (j + 1)) + k, rfl, ?_⟩
      obtain ⟨z, hz⟩ : ∃ z, z = 8 * 2 ^ j := ⟨_, rfl⟩
      have pz : 8 * 2 ^ (j + 1) = z * 2 := by
        rw [Nat.pow_succ, hz, Nat.mul_assoc]
      have pw : 2 ^ (h - j) = 2 * 2 ^ (h - (j + 1)) := by
        rw [show h - j = (h - (j + 1)) + 1 by omega, Nat.pow_succ]
        omega
      have z0 : 0 < z := by
        have := Nat.pos_of_ne_zero (n := 2 ^ j) (by simp)
        omega
      rw [pz, Nat.mul_assoc] at h5 h6
      have e1 : z * (2 * (k + 1)) = z * (2 * k) + z + z := by
        rw [show 2 * (k + 1) = 2 * k + 1 + 1 by omega, Nat.mul_add, Nat.mul_add, Nat.mul_one]
      have e2 : z * (2 * k + 1) = z * (2 * k) + z := by rw [Nat.mul_add, Nat.mul_one]
      have m : (p + q) / 2 = z * (2 * k + 1) := by omega
      rw [m]
      refine ⟨⟨by omega, by omega, .inr ⟨j, 2 * k, by omega, by omega, ?_, ?_, ?_⟩⟩, ⟨by omega, h2, .inr ⟨j, 2 * k + 1, by omega, by omega, ?_, ?_, ?_⟩⟩⟩
      · congr 2
        omega
      · rw [← hz]; exact h5
      · rw [← hz]
      · congr 2
        omega
      · rw [← hz]
      · rw [← hz, show 2 * k + 1 + 1 = 2 * (k + 1) by omega]; exact h6
end Pg
set_option maxRecDepth 100000
set_option maxHeartbeats 2000000
/-! T18: first_in's descent. -/
namespace Pg
open PySem PySem.Spec PyProof.Rows L2 Vi
section
variable {st : Sto} {bs : List Bool} {h : Nat} {nds : List D}
abbrev fiF (bs : List Bool) (h : Nat) (nds : List D) (p q : Nat) (nd : D) (g : Int) : Fr := [some (treeO bs h nds), some (pcD p q nd), some (.int (rise bs p)), some (.int g), none, none, none, none]
/-- the first place past a with that rise lies in the piece p .. q -/
def FI (bs : List Bool) (h : Nat) (a : Nat) (g : Int) (p q : Nat) (nd : D) : Prop := PC bs h p q nd ∧ a ≤ p ∧ (∃ r, p < r ∧ r ≤ q ∧ rise bs r = g) ∧ ∀ r, a < r → r ≤ p → rise bs r ≠ g
theorem fi_body {a p q : Nat} {nd : D} {g : Int} (T : Tree bs h nds) (F : FI bs h a g p q nd) (c : ¬ q ≤ p + 8) :
    ∃ p' q' nd', FI bs h a g p' q' nd' ∧ q' - p' < q - p ∧ m_LeastTree_first_in_b0 (fiF bs h nds p q nd g) st = .nx (fiF bs h nds p' q' nd' g) st := by
  obtain ⟨P, h1, ⟨r, r1, r2, r3⟩, no⟩ := F
  obtain ⟨v, rfl, L, R⟩ := P.half c
  obtain ⟨m, hm⟩ : ∃ m, m = (p + q) / 2 := ⟨_, rfl⟩
  have hv := tr_halves (st := st) (bs := bs) (h := h) (nds := nds) (p := p) (q := q) (v := v)
  rw [← hm] at L R hv
  obtain ⟨t, ht, lk⟩ := tr_look (st := st) T L
  have gl := ht.goal (fun r x y => rise_steps bs r (by have := R.2.1; have := R.1; omega)) g
  have gs := goal_s (st := st) (t := t) (g := g) (c := rise bs p)
  have k1 : clsO st 75 (treeO bs h nds) = some 16 := rfl
  have k2 : clsO st 115 (treeO bs h nds) = some 16 := rfl
  obtain ⟨nl, hnl⟩ : ∃ nl : D, nl = .int (2 * v : Nat) := ⟨_, rfl⟩
  obtain ⟨nr, hnr⟩ : ∃ nr : D, nr = .int (2 * v + 1 : Nat) := ⟨_, rfl⟩
  rw [← hnl] at L hv lk
  rw [← hnr] at R hv
  have m1 := kMth_c (T := [(16, f_LeastTree_halves)]) (xs := aCons (eVar 1) aNil) (fr := fiF bs h nds p q (.int v) g) k1 (F := f_LeastTree_halves) rfl
  have m2 := kMth_c (T := [(16, f_LeastTree_look)]) (xs := aCons (eVar 4) aNil) (fr := [some (treeO bs h nds), some (pcD p q (.int v)), some (.int (rise bs p)), some (.int g), some (pcD p m nl), some (pcD m q nr), none, none]) k2 (F := f_LeastTree_look) rfl
  have g2 : gT 2 (gsCons (gN 4) (gsCons (gN 5) gsNil)) (.tup [pcD p m nl, pcD m q nr]) (fiF bs h nds p q (.int v) g) st = .ok [some (treeO bs h nds), some (pcD p q (.int v)), some (.int (rise bs p)), some (.int g), some (pcD p m nl), some (pcD m q nr), none, none] st := rfl
  have rr : rise bs p + t.ris = rise bs m := by rw [ht.ris]; omega
  have q1 := L.1
  have q2 := R.1
  by_cases y : rise bs p + t.lea ≤ g ∧ g ≤ rise bs p + t.mos
  · refine ⟨p, m, nl, ⟨L, h1, gl.mp y, no⟩, by omega, ?_⟩
    rw [decide_eq_true y] at gs
    unfold m_LeastTree_first_in_b0
    simp [m1, hv, g2, m2, lk, gs]
  · have no2 : ∀ r, p < r → r ≤ m → rise bs r ≠ g := fun r x1 x2 x3 => y (gl.mpr ⟨r, x1, x2, x3⟩)
    refine ⟨m, q, nr, ⟨R, by omega, ⟨r, ?_, r2, r3⟩, fun r x1 x2 => ?_⟩, by omega, ?_⟩
    · rcases Nat.lt_or_ge m r with z | z
      · exact z
      · exact absurd r3 (no2 r r1 z)
    · by_cases z : r ≤ p
      · exact no r x1 z
      · exact no2 r (by omega) x2
    · rw [decide_eq_false y] at gs
      unfold m_LeastTree_first_in_b0
      simp [m1, hv, g2, m2, lk, gs, tD_at0, rr]
end
end Pg
set_option maxRecDepth 100000
set_option maxHeartbeats 2000000
/-! T19: first_in's descent, the loop. -/
namespace Pg
open PySem PySem.Spec PyProof.Rows L2 Vi
section
variable {st : Sto} {bs : List Bool} {h : Nat} {nds : List D}
theorem fi_walk {a p q : Nat} {nd : D} {g : Int} (T : Tree bs h nds) (hb : bs.length ≤ 4000) (F : FI bs h a g p q nd) :
    ∃ p' q' nd', FI bs h a g p' q' nd' ∧ q' ≤ p' + 8 ∧ whileN (bNot (toB (eMth [(16, f_LeastTree_is_block)] 86 (eVar 0) (aCons (eVar 1) aNil)))) m_LeastTree_first_in_b0 wMost (fiF bs h nds p q nd g) st = .nx (fiF bs h nds p' q' nd' g) st := by
  have key := while_inv (t := bNot (toB (eMth [(16, f_LeastTree_is_block)] 86 (eVar 0) (aCons (eVar 1) aNil)))) (b := m_LeastTree_first_in_b0)
    (fun m fr s => ∃ p q nd, FI bs h a g p q nd ∧ m = q - p ∧ fr = fiF bs h nds p q nd g ∧ s = st)
    (fun fr s => ∃ p q nd, FI bs h a g p q nd ∧ q ≤ p + 8 ∧ fr = fiF bs h nds p q nd g ∧ s = st) ?_ wMost (q - p) (fiF bs h nds p q nd g) st (by have := F.1.2.1; unfold wMost; omega) ⟨p, q, nd, F, rfl, rfl, rfl⟩
  · obtain ⟨fr', st', e, p', q', nd', F', c, rfl, rfl⟩ := key
    exact ⟨p', q', nd', F', c, e⟩
  · rintro m fr s ⟨p, q, nd, F, rfl, rfl, rfl⟩
    have ib := tr_isb (st := s) (bs := bs) (h := h) (nds := nds) (p := p) (q := q) (nd := nd)
    have k1 : clsO s 86 (treeO bs h nds) = some 16 := rfl
    have m1 := kMth_c (T := [(16, f_LeastTree_is_block)]) (xs := aCons (eVar 1) aNil) (fr := fiF bs h nds p q nd g) k1 (F := f_LeastTree_is_block) rfl
    by_cases c : q ≤ p + 8
    · rw [decide_eq_true c] at ib
      exact .inl ⟨by simp [m1, ib], p, q, nd, F, c, rfl, rfl⟩
    · rw [decide_eq_false c] at ib
      obtain ⟨p', q', nd', F', lt, b⟩ := fi_body (st := s) T F c
      exact .inr ⟨s, by simp [m1, ib], _, _, q' - p', .inl b, lt, p', q', nd', F', rfl, rfl, rfl⟩
end
end Pg
set_option maxRecDepth 100000
set_option maxHeartbeats 2000000
/-! T20: first_in's scan. -/
namespace Pg
open PySem PySem.Spec PyProof.Rows L2 Vi
section
variable {st : Sto} {bs : List Bool} {h : Nat} {nds : List D}
abbrev fsF (bs : List Bool) (h : Nat) (nds : List D) (p q : Nat) (nd : D) (g : Int) (r : Nat) : Fr := [some (treeO bs h nds), some (pcD p q nd), some (.int (rise bs r)), some (.int g), none, none, none, some (.int r)]
theorem fi_scan {a p q : Nat} {nd : D} {g : Int} (hb : bs.length ≤ 4000) (F : FI bs h a g p q nd) :
    ∃ r, p < r ∧ r ≤ q ∧ rise bs r = g ∧ (∀ x, p < x → x < r → rise bs x ≠ g) ∧ whileN (bOr (toB (eBin oEq (eVar 7) (eBin oIx (eVar 1) (eC (.int 0))))) (toB (eBin oNe (eVar 2) (eVar 3)))) m_LeastTree_first_in_b1 wMost (fsF bs h nds p q nd g p) st = .nx (fsF bs h nds p q nd g r) st := by
  obtain ⟨P, h1, ⟨r0, r1, r2, r3⟩, no⟩ := F
  have key := while_inv (t := bOr (toB (eBin oEq (eVar 7) (eBin oIx (eVar 1) (eC (.int 0))))) (toB (eBin oNe (eVar 2) (eVar 3)))) (b := m_LeastTree_first_in_b1)
    (fun m fr s => ∃ r, p ≤ r ∧ r ≤ r0 ∧ m = q - r ∧ (∀ x, p < x → x < r → rise bs x ≠ g) ∧ fr = fsF bs h nds p q nd g r ∧ s = st)
    (fun fr s => ∃ r, p < r ∧ r ≤ r0 ∧ rise bs r = g ∧ (∀ x, p < x → x < r → rise bs x ≠ g) ∧ fr = fsF bs h nds p q nd g r ∧ s = st) ?_ wMost (q - p) (fsF bs h nds p q nd g p) st (by have := P.2.1; unfold wMost; omega) ⟨p, Nat.le_refl _, by omega, rfl, fun x _ _ => by omega, rfl, rfl⟩
  · obtain ⟨fr', st', e, r, x1, x2, x3, x4, rfl, rfl⟩ := key
    exact ⟨r, x1, by omega, x3, x4, e⟩
  · rintro m fr s ⟨r, x1, x2, rfl, x4, rfl, rfl⟩
    have a0 : oIx (pcD p q nd) (.int 0) s = .ok (.int p) s := rfl
    by_cases c : r = p ∨ rise bs r ≠ g
    · have lt : r < r0 := by
        rcases c with c | c
        · omega
        · rcases Nat.lt_or_ge r r0 with z | z
          · exact z
          · exact absurd r3 (by rw [show r0 = r by omega]; exact c)
      obtain ⟨x, hx⟩ : ∃ x, bs[r]? = some x := ⟨bs[r]'(by have := P.2.1; omega), List.getElem?_eq_getElem (by have := P.2.1; omega)⟩
      have rs := rise_succ hx
      have f1 : kFld [25, 16] 24 (treeO bs h nds) s = .ok (rowD bs) s := rfl
      have ix := ix_row (st := s) hx
      refine .inr ⟨s, ?_, fsF bs h nds p q nd g (r + 1), s, q - (r + 1), .inl ?_, by omega, r + 1, by omega, by omega, rfl, fun y y1 y2 => ?_, rfl, rfl⟩
      · rcases c with c | c
        · simp [a0, c]
        · by_cases c2 : r = p
          · simp [a0, c2]
          · have c3 : ¬ ((r : Int) = p) := by omega
            simp [a0, c2, c3, c]
      · unfold m_LeastTree_first_in_b1
        cases x <;> simp [f1, ix, bI, stp] at rs ⊢ <;> simp [f1, ix, bI, rs]
      · by_cases z : y < r
        · exact x4 y y1 z
        · have : y = r := by omega
          subst this
          rcases c with c | c
          · omega
          · exact c
    · have c1 : r ≠ p := fun z => c (.inl z)
      have c2 : rise bs r = g := Classical.byContradiction fun z => c (.inr z)
      refine .inl ⟨?_, r, by omega, x2, c2, x4, rfl, rfl⟩
      have c3 : ¬ ((r : Int) = (p : Int)) := by omega
      have c4 : decide ((r : Int) = (p : Int)) = false := decide_eq_false c3
      simp [a0, c1, c2, c3, c4]
end
end Pg
set_option maxRecDepth 100000
set_option maxHeartbeats 2000000
/-! T21: first_in. -/
namespace Pg
open PySem PySem.Spec PyProof.Rows L2 Vi
section
variable {st : Sto} {bs : List Bool} {h : Nat} {nds : List D}
theorem first_in_s {a p q : Nat} {nd : D} {g : Int} (T : Tree bs h nds) (hb : bs.length ≤ 4000) (F : FI bs h a g p q nd) :
    ∃ r, a < r ∧ r ≤ bs.length ∧ rise bs r = g ∧ (∀ x, a < x → x < r → rise bs x ≠ g) ∧ f_LeastTree_first_in [treeO bs h nds, pcD p q nd, .int (rise bs p), .int g] st = .ok (.int r) st := by
  obtain ⟨p1, q1, nd1, F1, c, w⟩ := fi_walk (st := st) T hb F
  obtain ⟨r, r1, r2, r3, r4, s⟩ := fi_scan (st := st) (nds := nds) hb F1
  have lk : ∀ (s : Sto) (fr : Fr), kLk [25, 16] (eC (.int 1)) fr (treeO bs h nds) s = .nx fr s := fun _ _ => rfl
  have a0 : oIx (pcD p1 q1 nd1) (.int 0) st = .ok (.int p1) st := rfl
  obtain ⟨P1, b1, _, b3⟩ := F1
  refine ⟨r, by omega, by have := P1.2.1; omega, r3, fun x x1 x2 => ?_, ?_⟩
  · by_cases z : x ≤ p1
    · exact b3 x x1 z
    · exact r4 x (by omega) x2
  · unfold f_LeastTree_first_in m_LeastTree_first_in
    rw [mFz_s, mF4]
    simp [w, lk, a0, s]
end
end Pg
set_option maxRecDepth 100000
set_option maxHeartbeats 2000000
/-! T22: forward. -/
namespace Pg
open PySem PySem.Spec PyProof.Rows L2 Vi
section
variable {st : Sto} {bs : List Bool} {h : Nat} {nds : List D}
/-- r is the first place past a with that rise -/
def First (bs : List Bool) (a : Nat) (g : Int) (r : Nat) : Prop := a < r ∧ r ≤ bs.length ∧ rise bs r = g ∧ ∀ x, a < x → x < r → rise bs x ≠ g
theorem forward_s {a : Nat} {g : Int} (T : Tree bs h nds) (hb : bs.length ≤ 4000) (ha : a ≤ bs.length) :
    (∃ r, First bs a g r ∧ f_LeastTree_forward [treeO bs h nds, .int a, .int g] st = .ok (.int (r : Nat)) st) ∨ ((∀ r, a < r → r ≤ bs.length → rise bs r ≠ g) ∧ f_LeastTree_forward [treeO bs h nds, .int a, .int g] st = .ex 2 st) := by
  obtain ⟨ds, hp, pe⟩ := pieces_s (st := st) T hb ha (Nat.le_refl _)
  have rz := tr_rise (st := st) (h := h) (nds := nds) ha
  have k1 : clsO st 161 (treeO bs h nds) = some 16 := rfl
  have k2 : clsO st 150 (treeO bs h nds) = some 16 := rfl
  have f1 : kFld [16] 114 (treeO bs h nds) st = .ok (.int bs.length) st := rfl
  have m1 := kMth_c (T := [(16, f_LeastTree_rise)]) (xs := aCons (eVar 1) aNil) (fr := [some (treeO bs h nds), some (.int (a : Int)), some (.int g), none, none, none]) k1 (F := f_LeastTree_rise) rfl
  have m2 := kMth_c (T := [(16, f_LeastTree_pieces)]) (xs := aCons (eVar 1) (aCons (eFld [16] 114 (eVar 0)) aNil)) (fr := [some (treeO bs h nds), some (.int (a : Int)), some (.int g), some (.int (rise bs a)), none, none]) k2 (F := f_LeastTree_pieces) rfl
  have key := for_ret (it := .seq ds) (g := gN 4) (b := m_LeastTree_forward_b0)
    (fun i fr s => ∃ p, PCs bs h p bs.length (ds.drop i) ∧ a ≤ p ∧ (∀ r, a < r → r ≤ p → rise bs r ≠ g) ∧ fr = [some (treeO bs h nds), some (.int (a : Int)), some (.int g), some (.int (rise bs p)), none, none] ∧ s = st)
    (fun d s => ∃ r : Nat, d = .int r ∧ s = st ∧ First bs a g r) ds 0 [some (treeO bs h nds), some (.int (a : Int)), some (.int g), some (.int (rise bs a)), none, none] st ⟨a, hp, Nat.le_refl _, fun r _ _ => by omega, rfl, rfl⟩ (fun _ _ _ _ => rfl) ?_
  · rcases key with ⟨fr', st', e, p, P, p1, no, rfl, rfl⟩ | ⟨x, s', e, r, rfl, rfl, hf⟩
    · rw [Nat.zero_add] at P
      have := P.end
      subst this
      refine .inr ⟨no, ?_⟩
      unfold f_LeastTree_forward m_LeastTree_forward
      rw [mFz_s, mF3]
      simp [m1, rz, m2, f1, pe, e]
    · refine .inl ⟨r, hf, ?_⟩
      unfold f_LeastTree_forward m_LeastTree_forward
      rw [mFz_s, mF3]
      simp [m1, rz, m2, f1, pe, e]
  · rintro i fr s d hd ⟨p, P, p1, no, rfl, rfl⟩
    rw [Nat.zero_add] at P ⊢
    obtain ⟨q, nd, rfl, pc, P2⟩ := PCs.at hd P
    obtain ⟨t, ht, lk⟩ := tr_look (st := s) T pc
    have gl := ht.goal (fun r x y => rise_steps bs r (by have := pc.2.1; omega)) g
    have gs := goal_s (st := s) (t := t) (g := g) (c := rise bs p)
    have k3 : clsO s 115 (treeO bs h nds) = some 16 := rfl
    have k4 : clsO s 68 (treeO bs h nds) = some 16 := rfl
    have m3 := kMth_c (T := [(16, f_LeastTree_look)]) (xs := aCons (eVar 4) aNil) (fr := [some (treeO bs h nds), some (.int (a : Int)), some (.int g), some (.int (rise bs p)), some (pcD p q nd), none]) k3 (F := f_LeastTree_look) rfl
    have m4 := kMth_c (T := [(16, f_LeastTree_first_in)]) (xs := aCons (eVar 4) (aCons (eVar 3) (aCons (eVar 2) aNil))) (fr := [some (treeO bs h nds), some (.int (a : Int)), some (.int g), some (.int (rise bs p)), some (pcD p q nd), some (tD t)]) k4 (F := f_LeastTree_first_in) rfl
    have rr : rise bs p + t.ris = rise bs q := by rw [ht.ris]; omega
    refine ⟨_, _, rfl, ?_⟩
    by_cases y : rise bs p + t.lea ≤ g ∧ g ≤ rise bs p + t.mos
    · obtain ⟨r, x1, x2, x3, x4, fe⟩ := first_in_s (st := s) T hb (a := a) (g := g) ⟨pc, p1, gl.mp y, no⟩
      rw [decide_eq_true y] at gs
      refine .inr ⟨.int r, s, ?_, r, rfl, rfl, x1, x2, x3, x4⟩
      unfold m_LeastTree_forward_b0
      simp [m3, lk, gs, m4, fe]
    · rw [decide_eq_false y] at gs
      refine .inl ⟨[some (treeO bs h nds), some (.int (a : Int)), some (.int g), some (.int (rise bs q)), none, none], s, .inl ?_, q, P2, by have := pc.1; omega, fun r x1 x2 => ?_, rfl, rfl⟩
      · unfold m_LeastTree_forward_b0
        simp [m3, lk, gs, tD_at0, rr]
      · by_cases z : r ≤ p
        · exact no r x1 z
        · exact fun x3 => y (gl.mpr ⟨r, by omega, x2, x3⟩)
end
end Pg
set_option maxRecDepth 100000
set_option maxHeartbeats 2000000
/-! T23: last_in's descent, one step. -/
namespace Pg
open PySem PySem.Spec PyProof.Rows L2 Vi
section
variable {st : Sto} {bs : List Bool} {h : Nat} {nds : List D}
abbrev liF (bs : List Bool) (h : Nat) (nds : List D) (p q : Nat) (nd : D) (g : Int) : Fr := [some (treeO bs h nds), some (pcD p q nd), some (.int (rise bs q)), some (.int g), none, none, none, none]
/-- the last place up to a with that rise lies in the piece p .. q -/
def LI (bs : List Bool) (h : Nat) (a : Nat) (g : Int) (p q : Nat) (nd : D) : Prop := PC bs h p q nd ∧ q ≤ a ∧ (∃ r, p < r ∧ r ≤ q ∧ rise bs r = g) ∧ ∀ r, q < r → r ≤ a → rise bs r ≠ g
theorem li_body {a p q : Nat} {nd : D} {g : Int} (T : Tree bs h nds) (F : LI bs h a g p q nd) (c : ¬ q ≤ p + 8) :
    ∃ p' q' nd', LI bs h a g p' q' nd' ∧ q' - p' < q - p ∧ m_LeastTree_last_in_b0 (liF bs h nds p q nd g) st = .nx (liF bs h nds p' q' nd' g) st := by
  obtain ⟨P, h1, ⟨r, r1, r2, r3⟩, no⟩ := F
  obtain ⟨v, rfl, L, R⟩ := P.half c
  obtain ⟨m, hm⟩ : ∃ m, m = (p + q) / 2 := ⟨_, rfl⟩
  have hv := tr_halves (st := st) (bs := bs) (h := h) (nds := nds) (p := p) (q := q) (v := v)
  rw [← hm] at L R hv
  obtain ⟨t, ht, lk⟩ := tr_look (st := st) T R
  have gl := ht.goal (fun r x y => rise_steps bs r (by have := R.2.1; omega)) g
  have rr : rise bs q - t.ris = rise bs m := by rw [ht.ris]; omega
  have gs := goal_s (st := st) (t := t) (g := g) (c := rise bs m)
  have k1 : clsO st 75 (treeO bs h nds) = some 16 := rfl
  have k2 : clsO st 115 (treeO bs h nds) = some 16 := rfl
  obtain ⟨nl, hnl⟩ : ∃ nl : D, nl = .int (2 * v : Nat) := ⟨_, rfl⟩
  obtain ⟨nr, hnr⟩ : ∃ nr : D, nr = .int (2 * v + 1 : Nat) := ⟨_, rfl⟩
  rw [← hnl] at L hv
  rw [← hnr] at R hv lk
  have m1 := kMth_c (T := [(16, f_LeastTree_halves)]) (xs := aCons (eVar 1) aNil) (fr := liF bs h nds p q (.int v) g) k1 (F := f_LeastTree_halves) rfl
  have m2 := kMth_c (T := [(16, f_LeastTree_look)]) (xs := aCons (eVar 5) aNil) (fr := [some (treeO bs h nds), some (pcD p q (.int v)), some (.int (rise bs q)), some (.int g), some (pcD p m nl), some (pcD m q nr), none, none]) k2 (F := f_LeastTree_look) rfl
  have g2 : gT 2 (gsCons (gN 4) (gsCons (gN 5) gsNil)) (.tup [pcD p m nl, pcD m q nr]) (liF bs h nds p q (.int v) g) st = .ok [some (treeO bs h nds), some (pcD p q (.int v)), some (.int (rise bs q)), some (.int g), some (pcD p m nl), some (pcD m q nr), none, none] st := rfl
  have q1 := L.1
  have q2 := R.1
  by_cases y : rise bs m + t.lea ≤ g ∧ g ≤ rise bs m + t.mos
  · refine ⟨m, q, nr, ⟨R, h1, gl.mp y, no⟩, by omega, ?_⟩
    rw [decide_eq_true y] at gs
    unfold m_LeastTree_last_in_b0
    simp [m1, hv, g2, m2, lk, gs, tD_at0, rr]
  · have no2 : ∀ r, m < r → r ≤ q → rise bs r ≠ g := fun r x1 x2 x3 => y (gl.mpr ⟨r, x1, x2, x3⟩)
    refine ⟨p, m, nl, ⟨L, by omega, ⟨r, r1, ?_, r3⟩, fun r x1 x2 => ?_⟩, by omega, ?_⟩
    · rcases Nat.lt_or_ge m r with z | z
      · exact absurd r3 (no2 r z r2)
      · exact z
    · by_cases z : r ≤ q
      · exact no2 r x1 z
      · exact no r (by omega) x2
    · rw [decide_eq_false y] at gs
      unfold m_LeastTree_last_in_b0
      simp [m1, hv, g2, m2, lk, gs, tD_at0, rr]
end
end Pg
set_option maxRecDepth 100000
set_option maxHeartbeats 2000000
/-! T24: last_in. -/
namespace Pg
open PySem PySem.Spec PyProof.Rows L2 Vi
section
variable {st : Sto} {bs : List Bool} {h : Nat} {nds : List D}
theorem li_walk {a p q : Nat} {nd : D} {g : Int} (T : Tree bs h nds) (hb : bs.length ≤ 4000) (F : LI bs h a g p q nd) :
    ∃ p' q' nd', LI bs h a g p' q' nd' ∧ whileN (bNot (toB (eMth [(16, f_LeastTree_is_block)] 86 (eVar 0) (aCons (eVar 1) aNil)))) m_LeastTree_last_in_b0 wMost (liF bs h nds p q nd g) st = .nx (liF bs h nds p' q' nd' g) st := by
  have key := while_inv (t := bNot (toB (eMth [(16, f_LeastTree_is_block)] 86 (eVar 0) (aCons (eVar 1) aNil)))) (b := m_LeastTree_last_in_b0)
    (fun m fr s => ∃ p q nd, LI bs h a g p q nd ∧ m = q - p ∧ fr = liF bs h nds p q nd g ∧ s = st)
    (fun fr s => ∃ p q nd, LI bs h a g p q nd ∧ fr = liF bs h nds p q nd g ∧ s = st) ?_ wMost (q - p) (liF bs h nds p q nd g) st (by have := F.1.2.1; unfold wMost; omega) ⟨p, q, nd, F, rfl, rfl, rfl⟩
  · obtain ⟨fr', st', e, p', q', nd', F', rfl, rfl⟩ := key
    exact ⟨p', q', nd', F', e⟩
  · rintro m fr s ⟨p, q, nd, F, rfl, rfl, rfl⟩
    have ib := tr_isb (st := s) (bs := bs) (h := h) (nds := nds) (p := p) (q := q) (nd := nd)
    have k1 : clsO s 86 (treeO bs h nds) = some 16 := rfl
    have m1 := kMth_c (T := [(16, f_LeastTree_is_block)]) (xs := aCons (eVar 1) aNil) (fr := liF bs h nds p q nd g) k1 (F := f_LeastTree_is_block) rfl
    by_cases c : q ≤ p + 8
    · rw [decide_eq_true c] at ib
      exact .inl ⟨by simp [m1, ib], p, q, nd, F, rfl, rfl⟩
    · rw [decide_eq_false c] at ib
      obtain ⟨p', q', nd', F', lt, b⟩ := li_body (st := s) T F c
      exact .inr ⟨s, by simp [m1, ib], _, _, q' - p', .inl b, lt, p', q', nd', F', rfl, rfl, rfl⟩
end
end Pg
set_option maxRecDepth 100000
set_option maxHeartbeats 2000000
/-! T25: last_in's scan, the whole. -/
namespace Pg
open PySem PySem.Spec PyProof.Rows L2 Vi
section
variable {st : Sto} {bs : List Bool} {h : Nat} {nds : List D}
abbrev lsF (bs : List Bool) (h : Nat) (nds : List D) (g : Int) (r : Nat) : Fr := [some (treeO bs h nds), none, some (.int (rise bs r)), some (.int g), none, none, none, some (.int r)]
theorem li_scan {a p q : Nat} {nd : D} {g : Int} (hb : bs.length ≤ 4000) (F : LI bs h a g p q nd) :
    ∃ r, p < r ∧ r ≤ q ∧ rise bs r = g ∧ (∀ x, r < x → x ≤ q → rise bs x ≠ g) ∧ whileN (toB (eBin oNe (eVar 2) (eVar 3))) m_LeastTree_last_in_b1 wMost (lsF bs h nds g q) st = .nx (lsF bs h nds g r) st := by
  obtain ⟨P, h1, ⟨r0, r1, r2, r3⟩, no⟩ := F
  have key := while_inv (t := toB (eBin oNe (eVar 2) (eVar 3))) (b := m_LeastTree_last_in_b1)
    (fun m fr s => ∃ r, r0 ≤ r ∧ r ≤ q ∧ m = r ∧ (∀ x, r < x → x ≤ q → rise bs x ≠ g) ∧ fr = lsF bs h nds g r ∧ s = st)
    (fun fr s => ∃ r, p < r ∧ r ≤ q ∧ rise bs r = g ∧ (∀ x, r < x → x ≤ q → rise bs x ≠ g) ∧ fr = lsF bs h nds g r ∧ s = st) ?_ wMost q (lsF bs h nds g q) st (by have := P.2.1; unfold wMost; omega) ⟨q, r2, Nat.le_refl _, rfl, fun x _ _ => by omega, rfl, rfl⟩
  · obtain ⟨fr', st', e, r, x1, x2, x3, x4, rfl, rfl⟩ := key
    exact ⟨r, x1, x2, x3, x4, e⟩
  · rintro m fr s ⟨r, x1, x2, rfl, x4, rfl, rfl⟩
    by_cases c : rise bs m = g
    · exact .inl ⟨by simp [c], m, by omega, x2, c, x4, rfl, rfl⟩
    · have lt : r0 < m := by
        rcases Nat.lt_or_ge r0 m with z | z
        · exact z
        · exact absurd r3 (by rw [show r0 = m by omega]; exact c)
      obtain ⟨k, rfl⟩ : ∃ k, m = k + 1 := ⟨m - 1, by omega⟩
      obtain ⟨x, hx⟩ : ∃ x, bs[k]? = some x := ⟨bs[k]'(by have := P.2.1; omega), List.getElem?_eq_getElem (by have := P.2.1; omega)⟩
      have rs := rise_succ hx
      have f1 : kFld [25, 16] 24 (treeO bs h nds) s = .ok (rowD bs) s := rfl
      have ix := ix_row (st := s) hx
      refine .inr ⟨s, by simp [c], lsF bs h nds g k, s, k, .inl ?_, by omega, k, by omega, by omega, rfl, fun y y1 y2 => ?_, rfl, rfl⟩
      · unfold m_LeastTree_last_in_b1
        cases x <;> simp [bI, stp] at rs ix ⊢ <;> simp [f1, ix, bI, rs] <;> omega
      · by_cases z : k + 1 < y
        · exact x4 y z y2
        · rw [show y = k + 1 by omega]; exact c
end
end Pg
set_option maxRecDepth 100000
set_option maxHeartbeats 2000000
/-! T26: last_in, told. -/
namespace Pg
open PySem PySem.Spec PyProof.Rows L2 Vi
section
variable {st : Sto} {bs : List Bool} {h : Nat} {nds : List D}
theorem last_in_s {a p q : Nat} {nd : D} {g : Int} (T : Tree bs h nds) (hb : bs.length ≤ 4000) (F : LI bs h a g p q nd) :
    ∃ r, 0 < r ∧ r ≤ a ∧ rise bs r = g ∧ (∀ x, r < x → x ≤ a → rise bs x ≠ g) ∧ f_LeastTree_last_in [treeO bs h nds, pcD p q nd, .int (rise bs q), .int g] st = .ok (.int r) st := by
  obtain ⟨p1, q1, nd1, F1, w⟩ := li_walk (st := st) T hb F
  obtain ⟨r, r1, r2, r3, r4, s⟩ := li_scan (st := st) (nds := nds) hb F1
  have lk : ∀ (s : Sto) (fr : Fr), kLk [25, 16] (eC (.int 1)) fr (treeO bs h nds) s = .nx fr s := fun _ _ => rfl
  have a1 : oIx (pcD p1 q1 nd1) (.int 1) st = .ok (.int q1) st := rfl
  obtain ⟨P1, b1, _, b3⟩ := F1
  refine ⟨r, by omega, by omega, r3, fun x x1 x2 => ?_, ?_⟩
  · by_cases z : x ≤ q1
    · exact r4 x x1 z
    · exact b3 x (by omega) x2
  · unfold f_LeastTree_last_in m_LeastTree_last_in
    rw [mFz_s, mF4]
    simp [w, lk, a1, s]
end
end Pg
set_option maxRecDepth 100000
set_option maxHeartbeats 2000000
/-! T27: pieces from behind. -/
namespace Pg
open PySem PySem.Spec PyProof.Rows L2 Vi
theorem PCs.last {bs : List Bool} {h : Nat} : ∀ {l : List D} {a q : Nat} {d : D}, PCs bs h a q (l ++ [d]) → ∃ p nd, d = pcD p q nd ∧ PC bs h p q nd ∧ PCs bs h a p l
  | [], a, q, d, ⟨q1, nd, e, P, r⟩ => by
    cases r
    exact ⟨a, nd, e, P, rfl⟩
  | x :: l, a, q, d, ⟨q1, nd, e, P, r⟩ => by
    obtain ⟨p, nd2, e2, P2, r2⟩ := PCs.last r
    exact ⟨p, nd2, e2, P2, q1, nd, e, P, r2⟩
theorem PCs.back {bs : List Bool} {h : Nat} {i : Nat} {ds : List D} {a q : Nat} {d : D} (hd : ds.reverse[i]? = some d) (P : PCs bs h a q (ds.reverse.drop i).reverse) : ∃ p nd, d = pcD p q nd ∧ PC bs h p q nd ∧ PCs bs h a p (ds.reverse.drop (i + 1)).reverse := by
  obtain ⟨hi, rfl⟩ := List.getElem?_eq_some_iff.mp hd
  rw [List.drop_eq_getElem_cons hi, List.reverse_cons] at P
  exact P.last
end Pg
set_option maxRecDepth 100000
set_option maxHeartbeats 2000000
/-! T28: backward. -/
namespace Pg
open PySem PySem.Spec PyProof.Rows L2 Vi
section
variable {st : Sto} {bs : List Bool} {h : Nat} {nds : List D}
/-- r is the last place ahead of a with that rise -/
def Last (bs : List Bool) (a : Nat) (g : Int) (r : Nat) : Prop := r < a ∧ rise bs r = g ∧ ∀ x, r < x → x < a → rise bs x ≠ g
theorem backward_s {a : Nat} {g : Int} (T : Tree bs h nds) (hb : bs.length ≤ 4000) (ha : a ≤ bs.length) :
    (∃ r, Last bs a g r ∧ f_LeastTree_backward [treeO bs h nds, .int a, .int g] st = .ok (.int (r : Nat)) st) ∨ ((∀ r, r < a → rise bs r ≠ g) ∧ f_LeastTree_backward [treeO bs h nds, .int a, .int g] st = .ex 2 st) := by
  have k0 : clsO st 34 (treeO bs h nds) = some 16 := rfl
  have c1 := tr_check (st := st) (bs := bs) (h := h) (nds := nds) (p := a)
  rw [if_pos ⟨by omega, by omega⟩] at c1
  have m0 := kMth_c (T := [(16, f_LeastTree_check)]) (xs := aCons (eVar 1) aNil) (fr := [some (treeO bs h nds), some (.int (a : Int)), some (.int g), none, none, none]) k0 (F := f_LeastTree_check) rfl
  by_cases a0 : a = 0
  · subst a0
    refine .inr ⟨fun r x => by omega, ?_⟩
    unfold f_LeastTree_backward m_LeastTree_backward
    rw [mFz_s, mF3]
    have z : (.int ((0 : Nat) : Int) : D) = .int 0 := rfl
    rw [z] at c1 m0 ⊢
    simp [m0, c1]
  · obtain ⟨b, rfl⟩ : ∃ b, a = b + 1 := ⟨a - 1, by omega⟩
    obtain ⟨ds, hp, pe⟩ := pieces_s (st := st) (a := 0) (e := b) T hb (Nat.zero_le _) (by omega)
    have rz := tr_rise (st := st) (h := h) (nds := nds) (show b ≤ bs.length by omega)
    have k1 : clsO st 161 (treeO bs h nds) = some 16 := rfl
    have k2 : clsO st 150 (treeO bs h nds) = some 16 := rfl
    have ab : ((b + 1 : Nat) : Int) - 1 = (b : Int) := by omega
    obtain ⟨A, hA⟩ : ∃ A : Int, A = ((b + 1 : Nat) : Int) := ⟨_, rfl⟩
    rw [← hA] at c1 m0 ab ⊢
    have an : ¬ A = 0 := by omega
    have m1 := kMth_c (T := [(16, f_LeastTree_rise)]) (xs := aCons (eBin oSub (eVar 1) (eC (.int 1))) aNil) (fr := [some (treeO bs h nds), some (.int A), some (.int g), none, none, none]) k1 (F := f_LeastTree_rise) rfl
    have m2 := kMth_c (T := [(16, f_LeastTree_pieces)]) (xs := aCons (eC (.int 0)) (aCons (eBin oSub (eVar 1) (eC (.int 1))) aNil)) (fr := [some (treeO bs h nds), some (.int A), some (.int g), some (.int (rise bs b)), none, none]) k2 (F := f_LeastTree_pieces) rfl
    have pe0 : f_LeastTree_pieces [treeO bs h nds, .int 0, .int (b : Int)] st = .ok (.fl ds) st := pe
    have mk : mkFl ds.reverse st = .ok (.fl ds.reverse) st := by
      have := hp.len
      unfold mkFl
      rw [if_pos (by rw [List.length_reverse]; omega)]
    have key := for_ret (it := .seq ds.reverse) (g := gN 4) (b := m_LeastTree_backward_b0)
      (fun i fr s => ∃ q, PCs bs h 0 q (ds.reverse.drop i).reverse ∧ q ≤ b ∧ (∀ r, q < r → r ≤ b → rise bs r ≠ g) ∧ fr = [some (treeO bs h nds), some (.int A), some (.int g), some (.int (rise bs q)), none, none] ∧ s = st)
      (fun d s => ∃ r : Nat, d = .int r ∧ s = st ∧ Last bs (b + 1) g r) ds.reverse 0 [some (treeO bs h nds), some (.int A), some (.int g), some (.int (rise bs b)), none, none] st ⟨b, by rw [List.drop_zero, List.reverse_reverse]; exact hp, Nat.le_refl _, fun r _ _ => by omega, rfl, rfl⟩ (fun _ _ _ _ => rfl) ?_
    · rcases key with ⟨fr', st', e, q, P, q1, no, rfl, rfl⟩ | ⟨x, s', e, r, rfl, rfl, hf⟩
      · rw [Nat.zero_add, List.drop_length] at P
        have : 0 = q := P
        subst this
        by_cases gz : g = 0
        · subst gz
          refine .inl ⟨0, ⟨by omega, rise_zero bs, fun x x1 x2 => no x x1 (by omega)⟩, ?_⟩
          unfold f_LeastTree_backward m_LeastTree_backward
          rw [mFz_s, mF3]
          simp [m0, c1, an, m1, ab, rz, m2, pe0, mk, e]
        · refine .inr ⟨fun r x1 x2 => ?_, ?_⟩
          · by_cases z : r = 0
            · subst z
              rw [rise_zero] at x2
              exact gz x2.symm
            · exact no r (by omega) (by omega) x2
          · unfold f_LeastTree_backward m_LeastTree_backward
            rw [mFz_s, mF3]
            simp [m0, c1, an, m1, ab, rz, m2, pe0, mk, e, gz]
      · refine .inl ⟨r, hf, ?_⟩
        unfold f_LeastTree_backward m_LeastTree_backward
        rw [mFz_s, mF3]
        simp [m0, c1, an, m1, ab, rz, m2, pe0, mk, e]
    · rintro i fr s d hd ⟨q, P, q1, no, rfl, rfl⟩
      rw [Nat.zero_add] at P ⊢
      obtain ⟨p, nd, rfl, pc, P2⟩ := PCs.back hd P
      obtain ⟨t, ht, lk⟩ := tr_look (st := s) T pc
      have gl := ht.goal (fun r x y => rise_steps bs r (by have := pc.2.1; omega)) g
      have gs := goal_s (st := s) (t := t) (g := g) (c := rise bs p)
      have k3 : clsO s 115 (treeO bs h nds) = some 16 := rfl
      have k4 : clsO s 96 (treeO bs h nds) = some 16 := rfl
      have m3 := kMth_c (T := [(16, f_LeastTree_look)]) (xs := aCons (eVar 4) aNil) (fr := [some (treeO bs h nds), some (.int A), some (.int g), some (.int (rise bs q)), some (pcD p q nd), none]) k3 (F := f_LeastTree_look) rfl
      have m4 := kMth_c (T := [(16, f_LeastTree_last_in)]) (xs := aCons (eVar 4) (aCons (eVar 3) (aCons (eVar 2) aNil))) (fr := [some (treeO bs h nds), some (.int A), some (.int g), some (.int (rise bs q)), some (pcD p q nd), some (tD t)]) k4 (F := f_LeastTree_last_in) rfl
      have rr : rise bs q - t.ris = rise bs p := by rw [ht.ris]; omega
      refine ⟨_, _, rfl, ?_⟩
      by_cases y : rise bs p + t.lea ≤ g ∧ g ≤ rise bs p + t.mos
      · obtain ⟨r, x1, x2, x3, x4, fe⟩ := last_in_s (st := s) T hb (a := b) (g := g) ⟨pc, q1, gl.mp y, no⟩
        rw [decide_eq_true y] at gs
        refine .inr ⟨.int r, s, ?_, r, rfl, rfl, by omega, x3, fun x z1 z2 => x4 x z1 (by omega)⟩
        unfold m_LeastTree_backward_b0
        simp [m3, lk, tD_at0, rr, gs, m4, fe]
      · rw [decide_eq_false y] at gs
        refine .inl ⟨[some (treeO bs h nds), some (.int A), some (.int g), some (.int (rise bs p)), none, none], s, .inl ?_, p, P2, by have := pc.1; omega, fun r x1 x2 => ?_, rfl, rfl⟩
        · unfold m_LeastTree_backward_b0
          simp [m3, lk, gs, tD_at0, rr]
        · by_cases z : r ≤ q
          · exact fun x3 => y (gl.mpr ⟨r, x1, z, x3⟩)
          · exact no r (by omega) x2
end
end Pg
set_option maxRecDepth 100000
set_option maxHeartbeats 2000000
/-! T29: _law_search. -/
namespace Pg
open PySem PySem.Spec PyProof.Rows L2 Vi
section
variable {st : Sto} {bs : List Bool} {h : Nat} {nds : List D}
def noneD : D := .str "none"
theorem search0 {a : Nat} {g : Int} (T : Tree bs h nds) (hb : bs.length ≤ 4000) (ha : a ≤ bs.length) :
    (∃ r, First bs a g r ∧ f__law_search [treeO bs h nds, .int 0, .int a, .int g] st = .ok (.int (r : Nat)) st) ∨ ((∀ r, a < r → r ≤ bs.length → rise bs r ≠ g) ∧ f__law_search [treeO bs h nds, .int 0, .int a, .int g] st = .ok noneD st) := by
  have k1 : clsO st 70 (treeO bs h nds) = some 16 := rfl
  have m1 := kMth_c (T := [(16, f_LeastTree_forward)]) (xs := aCons (eVar 2) (aCons (eVar 3) aNil)) (fr := [some (treeO bs h nds), some (.int 0), some (.int (a : Int)), some (.int g), none]) k1 (F := f_LeastTree_forward) rfl
  rcases forward_s (st := st) (g := g) T hb ha with ⟨r, hr, e⟩ | ⟨hn, e⟩
  · refine .inl ⟨r, hr, ?_⟩
    unfold f__law_search m__law_search
    rw [mFz_s, mF4]
    simp [m1, e]
  · refine .inr ⟨hn, ?_⟩
    have kw : ∀ fr : Fr, kTryW [(0, true), (3, true), (1, true), (2, true), (4, true), (5, true)] wordT (.ex 2 fr st) = .rt (.str "none") st := fun fr => kTryW_ex rfl rfl
    unfold f__law_search m__law_search
    rw [mFz_s, mF4]
    simp [m1, e, kw, noneD]
theorem search1 {a : Nat} {g : Int} (T : Tree bs h nds) (hb : bs.length ≤ 4000) (ha : a ≤ bs.length) :
    (∃ r, Last bs a g r ∧ f__law_search [treeO bs h nds, .int 1, .int a, .int g] st = .ok (.int (r : Nat)) st) ∨ ((∀ r, r < a → rise bs r ≠ g) ∧ f__law_search [treeO bs h nds, .int 1, .int a, .int g] st = .ok noneD st) := by
  have k1 : clsO st 13 (treeO bs h nds) = some 16 := rfl
  have m1 := kMth_c (T := [(16, f_LeastTree_backward)]) (xs := aCons (eVar 2) (aCons (eVar 3) aNil)) (fr := [some (treeO bs h nds), some (.int 1), some (.int (a : Int)), some (.int g), none]) k1 (F := f_LeastTree_backward) rfl
  rcases backward_s (st := st) (g := g) T hb ha with ⟨r, hr, e⟩ | ⟨hn, e⟩
  · refine .inl ⟨r, hr, ?_⟩
    unfold f__law_search m__law_search
    rw [mFz_s, mF4]
    simp [m1, e]
  · refine .inr ⟨hn, ?_⟩
    have kw : ∀ fr : Fr, kTryW [(0, true), (3, true), (1, true), (2, true), (4, true), (5, true)] wordT (.ex 2 fr st) = .rt (.str "none") st := fun fr => kTryW_ex rfl rfl
    unfold f__law_search m__law_search
    rw [mFz_s, mF4]
    simp [m1, e, kw, noneD]
end
end Pg
set_option maxRecDepth 100000
set_option maxHeartbeats 2000000
/-! T30: numbered. -/
namespace Pg
open PySem PySem.Spec PyProof.Rows L2 Vi
section
variable {st : Sto} {fr : Fr} {cs : List Nat} {bs : List Bool} {h : Nat} {nds : List D}
@[simp] theorem cls_treeO {m : Nat} : clsO st m (treeO bs h nds) = if m ∈ [164, 24, 114, 81, 131, 116] then none else some 16 := by
  unfold treeO
  by_cases h : m ∈ [164, 24, 114, 81, 131, 116]
  · rw [if_pos h]
    simp only [List.mem_cons, List.not_mem_nil, or_false] at h
    rcases h with rfl | rfl | rfl | rfl | rfl | rfl <;> rfl
  · rw [if_neg h]
    simp only [List.mem_cons, List.not_mem_nil, or_false, not_or] at h
    simp [clsO, Ne.symm, h, fun e : 164 = m => h.1 e.symm, fun e : 24 = m => h.2.1 e.symm, fun e : 114 = m => h.2.2.1 e.symm, fun e : 81 = m => h.2.2.2.1 e.symm, fun e : 131 = m => h.2.2.2.2.1 e.symm, fun e : 116 = m => h.2.2.2.2.2 e.symm]
@[simp] theorem fld_treeO_164 (hx : cs.contains 16 = true) : kFld cs 164 (treeO bs h nds) st = .ok (rowO bs) st := by
  unfold treeO
  exact kFld_o rfl hx
@[simp] theorem fld_treeO_24 (hx : cs.contains 16 = true) : kFld cs 24 (treeO bs h nds) st = .ok (rowD bs) st := by
  unfold treeO
  exact kFld_o rfl hx
@[simp] theorem fld_treeO_114 (hx : cs.contains 16 = true) : kFld cs 114 (treeO bs h nds) st = .ok (.int bs.length) st := by
  unfold treeO
  exact kFld_o rfl hx
@[simp] theorem fld_treeO_81 (hx : cs.contains 16 = true) : kFld cs 81 (treeO bs h nds) st = .ok (.int h) st := by
  unfold treeO
  exact kFld_o rfl hx
@[simp] theorem fld_treeO_131 (hx : cs.contains 16 = true) : kFld cs 131 (treeO bs h nds) st = .ok (.fl nds) st := by
  unfold treeO
  exact kFld_o rfl hx
@[simp] theorem lk_treeO {n : Int} (hx : cs.contains 16 = true) : kLk cs (eC (.int n)) fr (treeO bs h nds) st = .nx fr st := by
  unfold treeO
  rw [kLk_o rfl (by simp) hx]
  rfl
end
theorem cnt_least {f : Nat → Int} {p q : Nat} {t : TT} {v : Int} (ht : TS f p q t) (hv : ∀ r, p < r → r ≤ q → v ≤ f r) : (if f p + t.lea = v then t.oft else 0) = (cnt f p q v : Int) := by
  by_cases c : f p + t.lea = v
  · rw [if_pos c, ht.oft, c]
  · rw [if_neg c, cnt_no f fun r r1 r2 r3 => ?_]
    · rfl
    · obtain ⟨k, k1, k2, k3⟩ := ht.lea2
      have := hv k k1 k2
      have := ht.lea1 r r1 r2
      omega
/-- r is the place, past a, with the rise v, that has the number n -/
def Nth (bs : List Bool) (a : Nat) (v : Int) (n r : Nat) : Prop := a < r ∧ r ≤ bs.length ∧ rise bs r = v ∧ cnt (rise bs) a (r - 1) v = n
structure NI (bs : List Bool) (h a : Nat) (v : Int) (n p q : Nat) (nd : D) : Prop where
  pc : PC bs h p q nd
  ap : a ≤ p
  lo : ∀ r, p < r → r ≤ q → v ≤ rise bs r
  n1 : cnt (rise bs) a p v ≤ n
  n2 : n < cnt (rise bs) a q v
section
variable {st : Sto} {bs : List Bool} {h : Nat} {nds : List D} {a n p q : Nat} {v : Int} {nd : D}
abbrev nbF (bs : List Bool) (h : Nat) (nds : List D) (a : Nat) (v : Int) (n p q : Nat) (nd : D) : Fr := fr_LeastTree_numbered_b0 (treeO bs h nds) (pcD p q nd) (.int (rise bs p - rise bs a)) (.int (v - rise bs a)) (.int ((n : Int) - cnt (rise bs) a p v))
theorem nb_body (T : Tree bs h nds) (N : NI bs h a v n p q nd) (c : ¬ q ≤ p + 8) :
    ∃ p' q' nd', NI bs h a v n p' q' nd' ∧ q' - p' < q - p ∧ m_LeastTree_numbered_b0 (nbF bs h nds a v n p q nd) st = .nx (nbF bs h nds a v n p' q' nd') st := by
  obtain ⟨P, ap, lo, n1, n2⟩ := N
  obtain ⟨x, rfl, L, R⟩ := P.half c
  obtain ⟨m, hm⟩ : ∃ m, m = (p + q) / 2 := ⟨_, rfl⟩
  have hv := tr_halves (st := st) (bs := bs) (h := h) (nds := nds) (p := p) (q := q) (v := x)
  rw [← hm] at L R hv
  obtain ⟨t, ht, lk⟩ := tr_look (st := st) T L
  obtain ⟨nl, hnl⟩ : ∃ nl : D, nl = .int (2 * x : Nat) := ⟨_, rfl⟩
  obtain ⟨nr, hnr⟩ : ∃ nr : D, nr = .int (2 * x + 1 : Nat) := ⟨_, rfl⟩
  rw [← hnl] at L hv lk
  rw [← hnr] at R hv
  have q1 := L.1
  have q2 := R.1
  have cl := cnt_least (v := v) ht fun r r1 r2 => lo r r1 (by omega)
  have ca := cnt_add (rise bs) (p := a) (m := p) (q := m) ap (by omega) v
  have rr : rise bs p + t.ris = rise bs m := by rw [ht.ris]; omega
  have g2 : ∀ fr s, gT 2 (gsCons (gN 5) (gsCons (gN 6) gsNil)) (.tup [pcD p m nl, pcD m q nr]) fr s = .ok (fset (fset fr 5 (some (pcD p m nl))) 6 (some (pcD m q nr))) s := fun _ _ => rfl
  have cc : (rise bs p - rise bs a + t.lea = v - rise bs a) ↔ rise bs p + t.lea = v := by omega
  have mv : (if rise bs p + t.lea = v then (Out.ok (.int t.oft) st : Out D) else .ok (.int 0) st) = .ok (.int (cnt (rise bs) p m v : Int)) st := by
    rw [← cl]
    by_cases c : rise bs p + t.lea = v <;> simp [c]
  by_cases y : n < cnt (rise bs) a m v
  · refine ⟨p, m, nl, ⟨L, ap, fun r r1 r2 => lo r r1 (by omega), n1, y⟩, by omega, ?_⟩
    have y2 : (n : Int) - cnt (rise bs) a p v < cnt (rise bs) p m v := by omega
    unfold m_LeastTree_numbered_b0
    simp [kMth_o, hv, g2, lk, kIf_d, tD_at1, tD_at3, cc, mv, y2]
  · refine ⟨m, q, nr, ⟨R, by omega, fun r r1 r2 => lo r (by omega) r2, by omega, n2⟩, by omega, ?_⟩
    have y2 : ¬ (n : Int) - cnt (rise bs) a p v < cnt (rise bs) p m v := by omega
    have e1 : rise bs p - rise bs a + t.ris = rise bs m - rise bs a := by omega
    have e2 : (n : Int) - cnt (rise bs) a p v - cnt (rise bs) p m v = n - cnt (rise bs) a m v := by omega
    unfold m_LeastTree_numbered_b0
    simp [kMth_o, hv, g2, lk, kIf_d, tD_at0, tD_at1, tD_at3, cc, mv, y2, e1, e2]
theorem nb_walk (T : Tree bs h nds) (hb : bs.length ≤ 4000) (N : NI bs h a v n p q nd) :
    ∃ p' q' nd', NI bs h a v n p' q' nd' ∧ q' ≤ p' + 8 ∧ lp_LeastTree_numbered_b0 (nbF bs h nds a v n p q nd) st = .nx (nbF bs h nds a v n p' q' nd') st := by
  have key := while_inv (t := lt_LeastTree_numbered_b0) (b := m_LeastTree_numbered_b0)
    (fun m fr s => ∃ p q nd, NI bs h a v n p q nd ∧ m = q - p ∧ fr = nbF bs h nds a v n p q nd ∧ s = st)
    (fun fr s => ∃ p q nd, NI bs h a v n p q nd ∧ q ≤ p + 8 ∧ fr = nbF bs h nds a v n p q nd ∧ s = st) ?_ wMost (q - p) (nbF bs h nds a v n p q nd) st (by have := N.pc.2.1; unfold wMost; omega) ⟨p, q, nd, N, rfl, rfl, rfl⟩
  · obtain ⟨fr', st', e, p', q', nd', F', c, rfl, rfl⟩ := key
    exact ⟨p', q', nd', F', c, e⟩
  · rintro m fr s ⟨p, q, nd, F, rfl, rfl, rfl⟩
    have ib := tr_isb (st := s) (bs := bs) (h := h) (nds := nds) (p := p) (q := q) (nd := nd)
    by_cases c : q ≤ p + 8
    · rw [decide_eq_true c] at ib
      exact .inl ⟨by simp [kMth_o, ib], p, q, nd, F, c, rfl, rfl⟩
    · rw [decide_eq_false c] at ib
      obtain ⟨p', q', nd', F', lt, b⟩ := nb_body (st := s) T F c
      exact .inr ⟨s, by simp [kMth_o, ib], _, _, q' - p', .inl b, lt, p', q', nd', F', rfl, rfl, rfl⟩
end
end Pg
set_option maxRecDepth 100000
set_option maxHeartbeats 2000000
/-! T31: numbered, least_place. -/
namespace Pg
open PySem PySem.Spec PyProof.Rows L2 Vi
theorem PCs.le {bs : List Bool} {h : Nat} {ds : List D} {a b : Nat} (P : PCs bs h a b ds) : a ≤ b := by
  have := P.len
  omega
section
variable {st : Sto} {bs : List Bool} {h : Nat} {nds : List D} {a n p q : Nat} {v : Int} {nd : D}
theorem nb_scan (hb : bs.length ≤ 4000) (N : NI bs h a v n p q nd) :
    ∃ r, Nth bs a v n r ∧ lp_LeastTree_numbered_b1 (.seq (rng p (q - p))) (rng p (q - p)) (nbF bs h nds a v n p q nd) st = .rt (.int (r : Nat)) st := by
  obtain ⟨P, ap, lo, n1, n2⟩ := N
  have pq := P.1
  have qb := P.2.1
  have key := for_ret (it := .seq (rng p (q - p))) (g := lg_LeastTree_numbered_b1) (b := m_LeastTree_numbered_b1)
    (fun i fr s => cnt (rise bs) a (p + i) v ≤ n ∧ fr = fr_LeastTree_numbered_b1 (treeO bs h nds) (pcD p q nd) (.int (rise bs (p + i) - rise bs a)) (.int (v - rise bs a)) (.int ((n : Int) - cnt (rise bs) a (p + i) v)) ∧ s = st)
    (fun d s => ∃ r : Nat, d = .int r ∧ s = st ∧ Nth bs a v n r) (rng p (q - p)) 0 (nbF bs h nds a v n p q nd) st ⟨n1, rfl, rfl⟩ (fun _ _ _ _ => rfl) ?_
  · rcases key with ⟨fr', st', e, c, _, _⟩ | ⟨x, s', e, r, rfl, rfl, hr⟩
    · rw [rng_len, Nat.zero_add, show p + (q - p) = q by omega] at c
      omega
    · exact ⟨r, hr, e⟩
  · rintro i fr s d hd ⟨c, rfl, rfl⟩
    rw [Nat.zero_add] at c ⊢
    obtain ⟨hi, rfl⟩ := rng_get hd
    obtain ⟨x, hx⟩ : ∃ x, bs[p + i]? = some x := ⟨bs[p + i]'(by omega), List.getElem?_eq_getElem (by omega)⟩
    have rs := rise_succ hx
    have ix := ix_row (st := s) hx
    have ca := cnt_add (rise bs) (p := a) (m := p + i) (q := p + i + 1) (by omega) (by omega) v
    have c1 := cnt_one (rise bs) (p + i) v
    have pe : ((p : Int) + i) = ((p + i : Nat) : Int) := by omega
    have pe2 : p + (i + 1) = p + i + 1 := by omega
    refine ⟨_, _, rfl, ?_⟩
    rw [pe, pe2]
    generalize p + i = k at *
    have e0 : rise bs k - rise bs a + (if x then 1 else -1) = rise bs (k + 1) - rise bs a := by rw [rs]; unfold stp; omega
    by_cases y : rise bs (k + 1) = v
    · rw [if_pos y] at c1
      by_cases z : cnt (rise bs) a k v = n
      · refine .inr ⟨.int ((k + 1 : Nat) : Int), s, ?_, k + 1, rfl, rfl, by omega, by omega, y, by simpa using z⟩
        unfold m_LeastTree_numbered_b1
        cases x <;> simp [ix, bI] at e0 ⊢ <;> simp [e0, y, z]
      · refine .inl ⟨_, s, .inl ?_, by omega, rfl, rfl⟩
        have z2 : ¬ ((n : Int) - cnt (rise bs) a k v = 0) := by omega
        have z3 : (n : Int) - cnt (rise bs) a k v - 1 = n - cnt (rise bs) a (k + 1) v := by omega
        unfold m_LeastTree_numbered_b1
        cases x <;> simp [ix, bI] at e0 ⊢ <;> simp [e0, y, z2, z3]
    · rw [if_neg y] at c1
      refine .inl ⟨_, s, .inl ?_, by omega, rfl, rfl⟩
      have y2 : ¬ (rise bs (k + 1) - rise bs a = v - rise bs a) := by omega
      have c2 : cnt (rise bs) a (k + 1) v = cnt (rise bs) a k v := by omega
      unfold m_LeastTree_numbered_b1
      cases x <;> simp [ix, bI] at e0 ⊢ <;> simp [e0, y, y2, c2]
theorem numbered_s (T : Tree bs h nds) (hb : bs.length ≤ 4000) (N : NI bs h a v n p q nd) :
    ∃ r, Nth bs a v n r ∧ f_LeastTree_numbered [treeO bs h nds, pcD p q nd, .int (rise bs p - rise bs a), .int (v - rise bs a), .int ((n : Int) - cnt (rise bs) a p v)] st = .ok (.int (r : Nat)) st := by
  obtain ⟨p1, q1, nd1, N1, c, w⟩ := nb_walk (st := st) T hb N
  obtain ⟨r, hr, s⟩ := nb_scan (st := st) (nds := nds) hb N1
  have a0 : oIx (pcD p1 q1 nd1) (.int 0) st = .ok (.int p1) st := rfl
  have a1 : oIx (pcD p1 q1 nd1) (.int 1) st = .ok (.int q1) st := rfl
  have b1 := N1.pc.2.1
  have b2 := N1.pc.1
  have kr : kR2 [.int p1, .int q1] st = .ok (.seq (rng p1 (q1 - p1))) st := by
    rw [kR2_s (by omega) (by omega) (by omega) (by omega), show ((q1 : Int) - p1).toNat = q1 - p1 by omega]
  refine ⟨r, hr, ?_⟩
  unfold f_LeastTree_numbered m_LeastTree_numbered
  rw [mFz_s, mF5]
  simp [w, a0, a1, kr, s]
theorem least_place_s {e : Nat} {t : TT} (T : Tree bs h nds) (hb : bs.length ≤ 4000) (h1 : a < e) (h2 : e ≤ bs.length) (ht : TS (rise bs) a e t) (hn : (n : Int) < t.oft) :
    ∃ r, Nth bs a (rise bs a + t.lea) n r ∧ f_LeastTree_least_place [treeO bs h nds, .int a, .int e, .int n] st = .ok (.int (r : Nat)) st := by
  obtain ⟨ds, hp, pe⟩ := pieces_s (st := st) T hb (Nat.le_of_lt h1) h2
  obtain ⟨u, hu, be⟩ := between_s (st := st) T hb h1 h2
  cases ht.uniq hu
  obtain ⟨v, hv⟩ : ∃ v, v = rise bs a + t.lea := ⟨_, rfl⟩
  have go : t.lea = v - rise bs a := by omega
  rw [← hv]
  have key := for_ret (it := .seq ds) (g := lg_LeastTree_least_place_b0) (b := m_LeastTree_least_place_b0)
    (fun i fr s => ∃ p, PCs bs h p e (ds.drop i) ∧ a ≤ p ∧ cnt (rise bs) a p v ≤ n ∧ fr = fr_LeastTree_least_place_b0 (treeO bs h nds) (.int a) (.int e) (.int ((n : Int) - cnt (rise bs) a p v)) (.int (rise bs p - rise bs a)) (.int (v - rise bs a)) ∧ s = st)
    (fun d s => ∃ r : Nat, d = .int r ∧ s = st ∧ Nth bs a v n r) ds 0 (fr_LeastTree_least_place_b0 (treeO bs h nds) (.int a) (.int e) (.int ((n : Int) - cnt (rise bs) a a v)) (.int (rise bs a - rise bs a)) (.int (v - rise bs a))) st ⟨a, hp, Nat.le_refl _, by rw [cnt_no _ fun r _ _ => by omega]; omega, rfl, rfl⟩ (fun _ _ _ _ => rfl) ?_
  · rcases key with ⟨fr', st', e1, p, P, p1, c, rfl, rfl⟩ | ⟨x, s', e1, r, rfl, rfl, hr⟩
    · rw [Nat.zero_add] at P
      have := P.end
      subst this
      have := ht.oft
      rw [← hv] at this
      omega
    · refine ⟨r, hr, ?_⟩
      rw [cnt_no _ fun r _ _ => by omega] at e1
      simp at e1
      have le1 : (n : Int) ≤ t.oft - 1 := by omega
      unfold f_LeastTree_least_place m_LeastTree_least_place
      rw [mFz_s, mF4]
      simp [kMth_o, be, tD_at3, tD_at1, is_number_s, le1, pe, go, e1]
  · rintro i fr s d hd ⟨p, P, p1, c, rfl, rfl⟩
    rw [Nat.zero_add] at P ⊢
    obtain ⟨q, nd, rfl, pc, P2⟩ := PCs.at hd P
    obtain ⟨t2, ht2, lk⟩ := tr_look (st := s) T pc
    have lo : ∀ r, p < r → r ≤ q → v ≤ rise bs r := fun r r1 r2 => by
      have := ht.lea1 r (by omega) (by have := P2.le; omega)
      omega
    have cl := cnt_least (v := v) ht2 lo
    have ca := cnt_add (rise bs) (p := a) (m := p) (q := q) p1 (by have := pc.1; omega) v
    have rr : rise bs p + t2.ris = rise bs q := by rw [ht2.ris]; omega
    have cc : (rise bs p - rise bs a + t2.lea = v - rise bs a) ↔ rise bs p + t2.lea = v := by omega
    have mv : (if rise bs p + t2.lea = v then (Out.ok (.int t2.oft) s : Out D) else .ok (.int 0) s) = .ok (.int (cnt (rise bs) p q v : Int)) s := by
      rw [← cl]
      by_cases c : rise bs p + t2.lea = v <;> simp [c]
    refine ⟨_, _, rfl, ?_⟩
    by_cases y : n < cnt (rise bs) a q v
    · have y2 : (n : Int) - cnt (rise bs) a p v < cnt (rise bs) p q v := by omega
      obtain ⟨r, hr, ne⟩ := numbered_s (st := s) T hb (N := ⟨pc, p1, lo, c, y⟩)
      refine .inr ⟨.int r, s, ?_, r, rfl, rfl, hr⟩
      unfold m_LeastTree_least_place_b0
      simp [kMth_o, lk, kIf_d, tD_at1, tD_at3, cc, mv, y2, ne]
    · have y2 : ¬ (n : Int) - cnt (rise bs) a p v < cnt (rise bs) p q v := by omega
      have e1 : rise bs p - rise bs a + t2.ris = rise bs q - rise bs a := by omega
      have e2 : (n : Int) - cnt (rise bs) a p v - cnt (rise bs) p q v = n - cnt (rise bs) a q v := by omega
      refine .inl ⟨_, s, .inl ?_, q, P2, by have := pc.1; omega, by omega, rfl, rfl⟩
      unfold m_LeastTree_least_place_b0
      simp [kMth_o, lk, kIf_d, tD_at0, tD_at1, tD_at3, cc, mv, y2, e1, e2]
end
end Pg
set_option maxRecDepth 100000
set_option maxHeartbeats 2000000
/-! T32: the tree's making. -/
namespace Pg
open PySem PySem.Spec PyProof.Rows L2 Vi
theorem no_put {bs : List Bool} {p m q : Nat} {a b : D} {st : Sto} (h1 : p < m) (h2 : m < q) (ha : NO bs p m a) (hb : NO bs m q b) : ∃ d, f_put_together [a, b] st = .ok d st ∧ NO bs p q d := by
  unfold NO at *
  by_cases c1 : p < bs.length
  · rw [if_pos c1] at ha
    simp only [c1, if_true]
    obtain ⟨t, rfl, ht⟩ := ha
    by_cases c2 : m < bs.length
    · rw [if_pos c2] at hb
      obtain ⟨u, rfl, hu⟩ := hb
      rw [Nat.min_eq_left (Nat.le_of_lt c2)] at ht
      exact ⟨_, put_ss, _, rfl, ht.comb hu⟩
    · rw [if_neg c2] at hb
      subst hb
      rw [Nat.min_eq_right (by omega)] at ht
      exact ⟨_, put_sn, t, rfl, by rw [Nat.min_eq_right (by omega)]; exact ht⟩
  · rw [if_neg c1] at ha
    rw [if_neg (show ¬ m < bs.length by omega)] at hb
    subst ha hb
    exact ⟨_, put_nn, by simp only [c1, if_false]⟩
theorem NO.nl {bs : List Bool} {p q : Nat} {d : D} (h : NO bs p q d) : noloc d = true := by
  unfold NO at h
  by_cases c : p < bs.length
  · rw [if_pos c] at h
    obtain ⟨t, rfl, _⟩ := h
    rfl
  · rw [if_neg c] at h
    subst h
    rfl
theorem nolocs_set {d : D} (hd : noloc d = true) : ∀ {ds : List D} {x : Nat}, nolocs ds = true → nolocs (ds.set x d) = true
  | [], _, _ => rfl
  | a :: r, 0, h => by
    simp only [nolocs, Bool.and_eq_true] at h
    simp [nolocs, hd, h.2]
  | a :: r, x + 1, h => by
    simp only [nolocs, Bool.and_eq_true] at h
    simp [nolocs, h.1, nolocs_set hd (x := x) h.2]
theorem nolocs_rep : ∀ n : Nat, nolocs (List.replicate n D.non) = true
  | 0 => rfl
  | n + 1 => by
    rw [List.replicate_succ, nolocs, nolocs_rep n]
    rfl
def nodeOk (bs : List Bool) (h : Nat) (ds : List D) (x : Nat) : Prop := ∀ j k, j ≤ h → k < 2 ^ (h - j) → x = 2 ^ (h - j) + k → ∃ d, ds[x]? = some d ∧ NO bs (8 * 2 ^ j * k) (8 * 2 ^ j * (k + 1)) d
theorem rep_of {h x : Nat} (h0 : 0 < x) (h1 : x < 2 ^ h) : ∃ j k, j < h ∧ k < 2 ^ (h - (j + 1)) ∧ x = 2 ^ (h - (j + 1)) + k := by
  have l1 := Nat.log2_self_le (n := x) (by omega)
  have l2 := Nat.lt_log2_self (n := x)
  have l3 : x.log2 < h := by
    rcases Nat.lt_or_ge x.log2 h with y | y
    · exact y
    · have := Nat.pow_le_pow_right (n := 2) (by omega) y
      omega
  rw [Nat.pow_succ] at l2
  refine ⟨h - (x.log2 + 1), x - 2 ^ x.log2, by omega, ?_, ?_⟩
  · rw [show h - (h - (x.log2 + 1) + 1) = x.log2 by omega]
    omega
  · rw [show h - (h - (x.log2 + 1) + 1) = x.log2 by omega]
    omega
theorem kids_of {h x j k : Nat} (hj : j < h) (hk : k < 2 ^ (h - (j + 1))) (e : x = 2 ^ (h - (j + 1)) + k) : 2 * k + 1 < 2 ^ (h - j) ∧ 2 * x = 2 ^ (h - j) + 2 * k := by
  have : 2 ^ (h - j) = 2 * 2 ^ (h - (j + 1)) := by
    rw [show h - j = (h - (j + 1)) + 1 by omega, Nat.pow_succ]
    omega
  omega
theorem node_put {bs : List Bool} {h x : Nat} {ds : List D} {st : Sto} (h0 : 0 < x) (h1 : x < 2 ^ h) (a1 : nodeOk bs h ds (2 * x)) (a2 : nodeOk bs h ds (2 * x + 1)) :
    ∃ u w d, ds[2 * x]? = some u ∧ ds[2 * x + 1]? = some w ∧ f_put_together [u, w] st = .ok d st ∧ noloc d = true ∧ ∀ j k, j ≤ h → k < 2 ^ (h - j) → x = 2 ^ (h - j) + k → NO bs (8 * 2 ^ j * k) (8 * 2 ^ j * (k + 1)) d := by
  have key : ∀ j k, j < h → k < 2 ^ (h - (j + 1)) → x = 2 ^ (h - (j + 1)) + k → ∃ u w d, ds[2 * x]? = some u ∧ ds[2 * x + 1]? = some w ∧ f_put_together [u, w] st = .ok d st ∧ NO bs (8 * 2 ^ (j + 1) * k) (8 * 2 ^ (j + 1) * (k + 1)) d := by
    intro j k hj hk e
    obtain ⟨k1, k2⟩ := kids_of hj hk e
    obtain ⟨u, hu, nu⟩ := a1 j (2 * k) (by omega) (by omega) k2
    obtain ⟨w, hw, nw⟩ := a2 j (2 * k + 1) (by omega) k1 (by omega)
    obtain ⟨z, hz⟩ : ∃ z, z = 8 * 2 ^ j := ⟨_, rfl⟩
    have z0 : 0 < z := by
      have := Nat.pos_of_ne_zero (n := 2 ^ j) (by simp)
      omega
    have pz : 8 * 2 ^ (j + 1) = z * 2 := by rw [Nat.pow_succ, hz, Nat.mul_assoc]
    rw [← hz] at nu nw
    have e1 : z * (2 * (k + 1)) = z * (2 * k) + z + z := by rw [show 2 * (k + 1) = 2 * k + 1 + 1 by omega, Nat.mul_add, Nat.mul_add, Nat.mul_one]
    have e2 : z * (2 * k + 1) = z * (2 * k) + z := by rw [Nat.mul_add, Nat.mul_one]
    obtain ⟨d, d1, d2⟩ := no_put (st := st) (by omega) (by rw [show 2 * k + 1 + 1 = 2 * (k + 1) by omega]; omega) nu nw
    refine ⟨u, w, d, hu, hw, d1, ?_⟩
    rw [pz, Nat.mul_assoc, Nat.mul_assoc]
    exact d2
  obtain ⟨j, k, hj, hk, e⟩ := rep_of h0 h1
  obtain ⟨u, w, d, hu, hw, hd, hno⟩ := key j k hj hk e
  refine ⟨u, w, d, hu, hw, hd, hno.nl, fun j k hj hk e => ?_⟩
  cases j with
  | zero =>
    rw [Nat.sub_zero] at e
    omega
  | succ j =>
    obtain ⟨u', w', d', hu', hw', hd', hn⟩ := key j k (by omega) hk e
    rw [hu] at hu'
    rw [hw] at hw'
    cases hu'
    cases hw'
    rw [hd] at hd'
    cases hd'
    exact hn
abbrev trFs (bs : List Bool) (h : Nat) : List (Nat × D) := [(164, rowO bs), (24, rowD bs), (114, .int bs.length), (81, .int h)]
section
variable {st : Sto} {bs : List Bool} {h : Nat}
theorem csh : ∀ h : Nat, h < 11 → cShift 1 (h : Int) = true ∧ cShift 8 (h : Int) = true := by decide +kernel
theorem tr_high (hb : bs.length ≤ 4000) : ∃ h, h ≤ 9 ∧ bs.length ≤ 8 * 2 ^ h ∧ lp_LeastTree_init_b0 (fr_LeastTree_init_b0 (.loc st.length) (rowD bs)) (st ++ [.ins 16 (trFs bs 0)]) = .nx (fr_LeastTree_init_b0 (.loc st.length) (rowD bs)) (st ++ [.ins 16 (trFs bs h)]) := by
  have key := while_inv (t := lt_LeastTree_init_b0) (b := m_LeastTree_init_b0)
    (fun m fr s => ∃ h, h ≤ 9 ∧ m = 9 - h ∧ fr = fr_LeastTree_init_b0 (.loc st.length) (rowD bs) ∧ s = st ++ [.ins 16 (trFs bs h)])
    (fun fr s => ∃ h, h ≤ 9 ∧ bs.length ≤ 8 * 2 ^ h ∧ fr = fr_LeastTree_init_b0 (.loc st.length) (rowD bs) ∧ s = st ++ [.ins 16 (trFs bs h)]) ?_ wMost 9 (fr_LeastTree_init_b0 (.loc st.length) (rowD bs)) (st ++ [.ins 16 (trFs bs 0)]) (by unfold wMost; omega) ⟨0, by omega, rfl, rfl, rfl⟩
  · obtain ⟨fr', st', e, h, h1, h2, rfl, rfl⟩ := key
    exact ⟨h, h1, h2, e⟩
  · rintro m fr s ⟨h, h1, rfl, rfl, rfl⟩
    have c8 := (csh h (by omega)).2
    have e8 : ((8 * 2 ^ h : Nat) : Int) = 8 * 2 ^ h := by simp
    by_cases c : 8 * 2 ^ h < bs.length
    · have lt : h < 9 := by
        rcases Nat.lt_or_ge h 9 with y | y
        · exact y
        · have := Nat.pow_le_pow_right (n := 2) (by omega) y
          omega
      have c2 : (8 : Int) * 2 ^ h < bs.length := by omega
      refine .inr ⟨st ++ [.ins 16 (trFs bs h)], ?_, _, _, 9 - (h + 1), .inl ?_, by omega, h + 1, by omega, rfl, rfl, rfl⟩
      · simp [kFld, oShl, c8, c2]
      · unfold m_LeastTree_init_b0
        simp [kFldA, kPutX, set_new]
    · have c2 : ¬ (8 : Int) * 2 ^ h < bs.length := by omega
      exact .inl ⟨by simp [kFld, oShl, c8, c2], h, h1, by omega, rfl, rfl⟩
abbrev trS (st : Sto) (bs : List Bool) (h : Nat) (ds : List D) : Sto := st ++ [.ins 16 [(164, rowO bs), (24, rowD bs), (114, .int bs.length), (81, .int h), (131, .loc (st.length + 1))], .lst ds]
theorem tr_leaves (hb : bs.length ≤ 4000) (hh : h ≤ 9) : ∃ ds, nolocs ds = true ∧ ds.length = 2 * 2 ^ h ∧ (∀ x, 2 ^ h ≤ x → nodeOk bs h ds x) ∧ lp_LeastTree_init_b1 (.seq (rng 0 (2 ^ h))) (rng 0 (2 ^ h)) (fr_LeastTree_init_b1 (.loc st.length) (rowD bs) (.int (2 ^ h : Nat))) (trS st bs h (List.replicate (2 * 2 ^ h) .non)) = .nx (fr_LeastTree_init_b1 (.loc st.length) (rowD bs) (.int (2 ^ h : Nat))) (trS st bs h ds) := by
  obtain ⟨fr', st', e, ds, nl, h1, h2, rfl, rfl⟩ := for_rng (lo := 0) (n := 2 ^ h) (g := lg_LeastTree_init_b1) (b := m_LeastTree_init_b1) (fr := fr_LeastTree_init_b1 (.loc st.length) (rowD bs) (.int (2 ^ h : Nat))) (st := trS st bs h (List.replicate (2 * 2 ^ h) .non))
    (fun i fr s => ∃ ds, nolocs ds = true ∧ ds.length = 2 * 2 ^ h ∧ (∀ k, k < i → ∃ d, ds[2 ^ h + k]? = some d ∧ NO bs (8 * k) (8 * (k + 1)) d) ∧ fr = fr_LeastTree_init_b1 (.loc st.length) (rowD bs) (.int (2 ^ h : Nat)) ∧ s = trS st bs h ds)
    ⟨_, nolocs_rep _, by simp, fun k hk => by omega, rfl, rfl⟩ fun i fr s hi hj => by
      obtain ⟨ds, nl, h1, h2, rfl, rfl⟩ := hj
      refine ⟨_, _, rfl, ?_⟩
      have e0 : (0 : Int) + i = ((i : Nat) : Int) := by omega
      have cut : cutL bs (some ((i : Int) * 8)) (some ((i : Int) * 8 + 8)) = (bs.take (8 * i + 8)).drop (8 * i) := by
        rw [show (i : Int) * 8 + 8 = ((8 * i + 8 : Nat) : Int) by omega, show (i : Int) * 8 = ((8 * i : Nat) : Int) by omega]
        exact cut_lh
      have ixn : ixN (2 * 2 ^ h) (2 ^ h + (i : Int)) = some (2 ^ h + i) := by
        have : ((2 ^ h + i : Nat) : Int) = 2 ^ h + (i : Int) := by simp
        rw [← this]
        unfold ixN
        rw [if_pos (by omega), if_pos (by omega), Int.toNat_natCast]
      obtain ⟨d, hd, nd⟩ : ∃ d, (if 0 < ((bs.take (8 * i + 8)).drop (8 * i)).length then f_turns_of [rowD ((bs.take (8 * i + 8)).drop (8 * i))] (trS st bs h ds) else .ok .non (trS st bs h ds)) = .ok d (trS st bs h ds) ∧ NO bs (8 * i) (8 * (i + 1)) d := by
        have ln : ((bs.take (8 * i + 8)).drop (8 * i)).length = min (8 * i + 8) bs.length - 8 * i := by simp
        unfold NO
        by_cases c : 8 * i < bs.length
        · obtain ⟨t, ht, e⟩ := turns_s (bs := bs) (p := 8 * i) (q := min (8 * i + 8) bs.length) (by omega) (by omega) (trS st bs h ds)
          have tm : bs.take (min (8 * i + 8) bs.length) = bs.take (8 * i + 8) := by
            by_cases y : 8 * i + 8 ≤ bs.length
            · rw [Nat.min_eq_left y]
            · rw [Nat.min_eq_right (by omega), List.take_of_length_le (Nat.le_refl _), List.take_of_length_le (by omega)]
          rw [tm] at e
          exact ⟨tD t, by rw [if_pos (by omega), e], by rw [if_pos c]; exact ⟨t, rfl, by rw [show 8 * (i + 1) = 8 * i + 8 by omega]; exact ht⟩⟩
        · exact ⟨.non, by rw [if_neg (by omega)], by rw [if_neg c]⟩
      refine ⟨_, trS st bs h (ds.set (2 ^ h + i) d), .inl ?_, ds.set (2 ^ h + i) d, nolocs_set nd.nl nl, by simp [h1], fun k hk => ?_, rfl, rfl⟩
      · rw [e0]
        generalize (bs.take (8 * i + 8)).drop (8 * i) = X at *
        unfold m_LeastTree_init_b1
        by_cases c : 0 < X.length
        · have c2 : (0 : Int) < X.length := by omega
          rw [if_pos c] at hd
          simp [cMul, smallI, slD, cut_map, cut, -List.map_take, -List.map_drop, c, c2, hd, kFld, setIx, h1, ixn, set_new1]
        · have c2 : ¬ (0 : Int) < X.length := by omega
          rw [if_neg c] at hd
          cases hd
          simp [cMul, smallI, slD, cut_map, cut, -List.map_take, -List.map_drop, c, c2, kFld, setIx, h1, ixn, set_new1]
      · by_cases y : k = i
        · subst y
          exact ⟨d, by rw [List.getElem?_set_self (by omega)], nd⟩
        · obtain ⟨d', hd', nd'⟩ := h2 k (by omega)
          exact ⟨d', by rw [List.getElem?_set_ne (by omega)]; exact hd', nd'⟩
  refine ⟨ds, nl, h1, fun x hx j k hj hk ex => ?_, e⟩
  have j0 : j = 0 := by
    cases j with
    | zero => rfl
    | succ j =>
      have := Nat.pow_lt_pow_right (a := 2) (by omega) (show h - (j + 1) < h by omega)
      have p2 : 2 ^ (h - (j + 1)) * 2 ≤ 2 ^ h := by
        rw [← Nat.pow_succ]
        exact Nat.pow_le_pow_right (by omega) (by omega)
      omega
  subst j0
  rw [Nat.sub_zero] at hk ex
  obtain ⟨d, hd, nd⟩ := h2 k hk
  exact ⟨d, by rw [ex]; exact hd, by simpa using nd⟩
end
end Pg
set_option maxRecDepth 100000
set_option maxHeartbeats 2000000
/-! T33: the tree's making, the nodes above; whole. -/
namespace Pg
open PySem PySem.Spec PyProof.Rows L2 Vi
theorem nodeOk.set {bs : List Bool} {h x y : Nat} {ds : List D} {d : D} (h1 : nodeOk bs h ds x) (hy : y ≠ x) : nodeOk bs h (ds.set y d) x := fun j k hj hk e => by
  obtain ⟨u, hu, nu⟩ := h1 j k hj hk e
  exact ⟨u, by rw [List.getElem?_set_ne hy]; exact hu, nu⟩
section
variable {st : Sto} {bs : List Bool} {h : Nat}
theorem tr_inner {ds : List D} (nl : nolocs ds = true) (hh : h ≤ 9) (h1 : ds.length = 2 * 2 ^ h) (h2 : ∀ x, 2 ^ h ≤ x → nodeOk bs h ds x) : ∃ ds', nolocs ds' = true ∧ ds'.length = 2 * 2 ^ h ∧ (∀ x, 0 < x → nodeOk bs h ds' x) ∧ lp_LeastTree_init_b2 (.seq (rngC ((2 ^ h - 1 : Nat) : Int) (-1) (2 ^ h - 1))) (rngC ((2 ^ h - 1 : Nat) : Int) (-1) (2 ^ h - 1)) (fr_LeastTree_init_b2 (.loc st.length) (.int (2 ^ h : Nat))) (trS st bs h ds) = .nx (fr_LeastTree_init_b2 (.loc st.length) (.int (2 ^ h : Nat))) (trS st bs h ds') := by
  obtain ⟨fr', st', e, ds', nl', a1, a2, rfl, rfl⟩ := for_rngC (lo := ((2 ^ h - 1 : Nat) : Int)) (c := -1) (n := 2 ^ h - 1) (g := lg_LeastTree_init_b2) (b := m_LeastTree_init_b2) (fr := fr_LeastTree_init_b2 (.loc st.length) (.int (2 ^ h : Nat))) (st := trS st bs h ds)
    (fun i fr s => ∃ ds, nolocs ds = true ∧ ds.length = 2 * 2 ^ h ∧ (∀ x, 2 ^ h - i ≤ x → 0 < x → nodeOk bs h ds x) ∧ fr = fr_LeastTree_init_b2 (.loc st.length) (.int (2 ^ h : Nat)) ∧ s = trS st bs h ds)
    ⟨_, nl, h1, fun x hx _ => h2 x (by omega), rfl, rfl⟩ fun i fr s hi hj => by
      obtain ⟨ds, nl, h1, h2, rfl, rfl⟩ := hj
      refine ⟨_, _, rfl, ?_⟩
      obtain ⟨x, hx⟩ : ∃ x, x = 2 ^ h - 1 - i := ⟨_, rfl⟩
      have e0 : ((2 ^ h - 1 : Nat) : Int) + (i : Int) * -1 = (x : Int) := by omega
      obtain ⟨u, w, d, hu, hw, hd, hdn, hn⟩ := node_put (st := trS st bs h ds) (h := h) (bs := bs) (ds := ds) (x := x) (by omega) (by omega) (h2 _ (by omega) (by omega)) (h2 _ (by omega) (by omega))
      have ixn : ixN (2 * 2 ^ h) (x : Int) = some x := by
        unfold ixN
        rw [if_pos (by omega), if_pos (by omega), Int.toNat_natCast]
      have a1 : atI ds (2 * (x : Int)) = some u := by
        rw [show 2 * (x : Int) = ((2 * x : Nat) : Int) by omega, Vi.atI_nat]
        exact hu
      have a2 : atI ds (2 * (x : Int) + 1) = some w := by
        rw [show 2 * (x : Int) + 1 = ((2 * x + 1 : Nat) : Int) by omega, Vi.atI_nat]
        exact hw
      refine ⟨_, trS st bs h (ds.set x d), .inl ?_, ds.set x d, nolocs_set hdn nl, by simp [h1], fun y hy y0 => ?_, rfl, rfl⟩
      · rw [e0]
        generalize hX : (x : Int) = X at *
        unfold m_LeastTree_init_b2
        simp [kFld, cMul, smallI, oIx, asQ, a1, a2, hd, setIx, h1, ixn, set_new1]
      · by_cases c : y = x
        · subst c
          exact fun j k hj hk e => ⟨d, by rw [List.getElem?_set_self (by omega)], hn j k hj hk e⟩
        · exact (h2 y (by omega) y0).set fun e => c e.symm
  refine ⟨ds', nl', a1, fun x hx => ?_, e⟩
  by_cases c : 2 ^ h ≤ x
  · exact a2 x (by omega) hx
  · exact a2 x (by omega) hx
theorem tree_mk (h0 : bs ≠ []) (hb : bs.length ≤ 4000) (st : Sto) : ∃ h nds, Tree bs h nds ∧ kMkF 16 f_LeastTree_init [rowD bs] st = .ok (treeO bs h nds) st := by
  obtain ⟨h, hh, hl, w⟩ := tr_high (st := st) (bs := bs) hb
  obtain ⟨ds, l0, l1, l2, e1⟩ := tr_leaves (st := st) (bs := bs) (h := h) hb hh
  obtain ⟨nds, hall, hlen, n1, e2⟩ := tr_inner (st := st) (bs := bs) (h := h) l0 hh l1 l2
  have ln : 0 < bs.length := List.length_pos_iff.mpr h0
  have T : Tree bs h nds := ⟨hl, hh, fun j k hj hk => n1 _ (by have := Nat.pos_of_ne_zero (n := 2 ^ (h - j)) (by simp); omega) j k hj hk rfl⟩
  refine ⟨h, nds, T, ?_⟩
  have rm := fun s => row_mk hb s
  have c1 := (csh h (by omega)).1
  have p2 : ((2 ^ h : Nat) : Int) = 2 ^ h := by simp
  have b9 := Nat.pow_le_pow_right (n := 2) (by omega) hh
  have hp := Nat.pos_of_ne_zero (n := 2 ^ h) (by simp)
  have kr : ∀ s, kR1 [.int (2 ^ h)] s = .ok (.seq (rng 0 (2 ^ h))) s := fun s => by
    rw [← p2, kR1_s (by omega) (by omega), Int.toNat_natCast]
  have kd : ∀ s, kR3 [.int (2 ^ h - 1), .int 0, .int (-1)] s = .ok (.seq (rngC ((2 ^ h - 1 : Nat) : Int) (-1) (2 ^ h - 1))) s := fun s => by
    rw [← kR3_down (by omega)]
    congr 3
    omega
  have cr : cRep (2 * 2 ^ h) 1 = true := by
    unfold cRep
    rw [← p2]
    simp only [Bool.and_eq_true, decide_eq_true_eq]
    omega
  have rp : rep (2 * (2 : Int) ^ h).toNat [D.non] = List.replicate (2 * 2 ^ h) D.non := by
    rw [← p2, show (2 * ((2 ^ h : Nat) : Int)).toNat = 2 * 2 ^ h by omega]
    unfold rep
    simp
  have ml : ∀ s : Sto, mkLst (List.replicate (2 * 2 ^ h) D.non) s = .ok (.loc s.length) (s ++ [.lst (List.replicate (2 * 2 ^ h) D.non)]) := fun s => mkLst_s (by simp; omega)
  have rl : rowD bs ≠ .non := by unfold rowD; simp
  have l0b : ¬ bs.length = 0 := by omega
  have w : lp_LeastTree_init_b0 (fr_LeastTree_init_b0 (.loc st.length) (rowD bs)) (st ++ [.ins 16 [(164, rowO bs), (24, rowD bs), (114, .int bs.length), (81, .int 0)]]) = .nx (fr_LeastTree_init_b0 (.loc st.length) (rowD bs)) (st ++ [.ins 16 (trFs bs h)]) := w
  rw [p2] at e1 e2
  rw [kMkF_s]
  simp [f_LeastTree_init, m_LeastTree_init, mF2, is_row_s, hb, l0b, h0, kPut, rm, set_new, w, kFld, oShl, c1, cMul, smallI, cr, rp, ml, kr, kd, e1, e2]
  refine fzOut_ok ?_
  rw [frz_ins (x := 16) (fs := trFs bs h ++ [(131, .loc (st.length + 1)), (116, .cnt)]) (by simp) (Nat.le_refl _)]
  rw [List.cons_append, objFs_fld (x := rowO bs) (xs := [rowD bs, .int bs.length, .int h, .fl nds, .cnt]) (by decide)]
  · rfl
  · exact frz_pure (by unfold rowO; simp [noloc, nolocs])
  · refine objFs_fld (by decide) ?_ (objFs_fld (by decide) ?_ (objFs_fld (by decide) ?_ (objFs_fld (by decide) ?_ (objFs_cnt rfl))))
    · exact frz_pure (noloc_row bs)
    · exact frz_pure rfl
    · exact frz_pure rfl
    · show frzF _ _ (18 + 1) _ = _
      rw [frz_lst (ds := nds) (by simp) (by omega), frz_map hall]
      rfl
end
end Pg
set_option maxRecDepth 100000
set_option maxHeartbeats 2000000
/-! T34: rises of turned, exchanged, longer rows; what is found there. -/
namespace Pg
open PySem PySem.Spec PyProof.Rows L2 Vi
theorem rise_not {bs : List Bool} {i : Nat} (h : i ≤ bs.length) : rise (bs.map fun b => !b) i = 0 - rise bs i := by
  have e : cb true (bs.map fun b => !b) i = cb false bs i := by
    unfold cb
    rw [← List.map_take]
    generalize bs.take i = l
    induction l with
    | nil => rfl
    | cons b r ih => cases b <;> simp [List.count_cons, ih]
  have := cb_two bs h
  unfold rise
  rw [tk_cb, tk_cb, e]
  omega
theorem rise_rev {bs : List Bool} {i : Nat} (h : i ≤ bs.length) : rise bs.reverse i = rise bs bs.length - rise bs (bs.length - i) := by
  have e : cb true bs.reverse i + cb true bs (bs.length - i) = cb true bs bs.length := by
    unfold cb
    rw [List.take_reverse, List.count_reverse, Nat.add_comm, ← List.count_append, List.take_append_drop, List.take_of_length_le (Nat.le_refl _)]
  unfold rise
  rw [tk_cb, tk_cb, tk_cb]
  omega
theorem rise_app {as bs : List Bool} {i : Nat} : rise (as ++ bs) (as.length + i) = rise as as.length + rise bs i := by
  have e : cb true (as ++ bs) (as.length + i) = cb true as as.length + cb true bs i := by
    unfold cb
    rw [List.take_append, List.take_of_length_le (by omega), List.count_append, List.take_of_length_le (Nat.le_refl _), show as.length + i - as.length = i by omega]
  unfold rise
  rw [tk_cb, tk_cb, tk_cb, e]
  omega
theorem TS.least_eq {f : Nat → Int} {p q : Nat} {t : TT} {M : Int} (a : TS f p q t) (h1 : ∀ r, p < r → r ≤ q → M ≤ f r) (h2 : ∃ r, p < r ∧ r ≤ q ∧ f r = M) : f p + t.lea = M := by
  obtain ⟨r, r1, r2, r3⟩ := a.lea2
  obtain ⟨k, k1, k2, k3⟩ := h2
  have := h1 r r1 r2
  have := a.lea1 k k1 k2
  omega
theorem TS.most_eq {f : Nat → Int} {p q : Nat} {t : TT} {M : Int} (a : TS f p q t) (h1 : ∀ r, p < r → r ≤ q → f r ≤ M) (h2 : ∃ r, p < r ∧ r ≤ q ∧ f r = M) : f p + t.mos = M := by
  obtain ⟨r, r1, r2, r3⟩ := a.mos2
  obtain ⟨k, k1, k2, k3⟩ := h2
  have := h1 r r1 r2
  have := a.mos1 k k1 k2
  omega
theorem cnt_move {f g : Nat → Int} {a p q : Nat} {c v : Int} (h : ∀ r, p < r → r ≤ q → g (a + r) = f r + c) : cnt g (a + p) (a + q) (v + c) = cnt f p q v := by
  unfold cnt
  rw [show a + q - (a + p) = q - p by omega]
  congr 1
  apply List.filter_congr
  intro i hi
  have := List.mem_range.mp hi
  rw [show a + p + 1 + i = a + (p + 1 + i) by omega, h (p + 1 + i) (by omega) (by omega)]
  by_cases e : f (p + 1 + i) = v
  · rw [decide_eq_true e, decide_eq_true (by omega)]
  · rw [decide_eq_false e, decide_eq_false (by omega)]
theorem TS.move {f g : Nat → Int} {a p q : Nat} {c : Int} {t : TT} (x : TS f p q t) (h : ∀ r, p ≤ r → r ≤ q → g (a + r) = f r + c) : TS g (a + p) (a + q) t := by
  have hp := h p (Nat.le_refl _) (Nat.le_of_lt x.lt)
  have hq := h q (Nat.le_of_lt x.lt) (Nat.le_refl _)
  have lt := x.lt
  refine ⟨by omega, by rw [x.ris]; omega, fun r r1 r2 => ?_, ?_, fun r r1 r2 => ?_, ?_, ?_⟩
  · have := h (r - a) (by omega) (by omega)
    rw [show a + (r - a) = r by omega] at this
    have := x.lea1 (r - a) (by omega) (by omega)
    omega
  · obtain ⟨r, r1, r2, r3⟩ := x.lea2
    have := h r (by omega) r2
    exact ⟨a + r, by omega, by omega, by omega⟩
  · have := h (r - a) (by omega) (by omega)
    rw [show a + (r - a) = r by omega] at this
    have := x.mos1 (r - a) (by omega) (by omega)
    omega
  · obtain ⟨r, r1, r2, r3⟩ := x.mos2
    have := h r (by omega) r2
    exact ⟨a + r, by omega, by omega, by omega⟩
  · rw [x.oft, show g (a + p) + t.lea = f p + t.lea + c by omega, cnt_move fun r r1 r2 => h r (by omega) r2]
theorem filt_nth {p : Nat → Bool} {n i : Nat} (hi : i < n) (hp : p i = true) : ((List.range n).filter p)[((List.range i).filter p).length]? = some i := by
  have e : List.range n = List.range i ++ i :: (List.range (n - i - 1)).map (i + 1 + ·) := by
    conv => lhs; rw [show n = i + (1 + (n - i - 1)) by omega, List.range_add, List.range_add]
    simp [List.range_succ, Function.comp_def, Nat.add_assoc]
  rw [e, List.filter_append, List.getElem?_append_right (Nat.le_refl _), Nat.sub_self, List.filter_cons_of_pos hp]
  rfl
/-- places of a height past a, in order -/
def hits (f : Nat → Int) (a e : Nat) (v : Int) : List Nat := (List.range (e - a)).filter fun i => decide (f (a + 1 + i) = v)
theorem hits_len {f : Nat → Int} {a e : Nat} {v : Int} : (hits f a e v).length = cnt f a e v := rfl
theorem nth_hits {bs : List Bool} {a e n r : Nat} {v : Int} (h : Nth bs a v n r) (he : r ≤ e) : (hits (rise bs) a e v)[n]? = some (r - (a + 1)) := by
  obtain ⟨h1, h2, h3, h4⟩ := h
  have k := filt_nth (p := fun i => decide (rise bs (a + 1 + i) = v)) (n := e - a) (i := r - (a + 1)) (by omega) (by rw [show a + 1 + (r - (a + 1)) = r by omega]; exact decide_eq_true h3)
  unfold cnt at h4
  rw [show r - 1 - a = r - (a + 1) by omega] at h4
  rw [h4] at k
  exact k
theorem nth_le {bs : List Bool} {a e n r : Nat} {v : Int} (h : Nth bs a v n r) (hn : n < cnt (rise bs) a e v) : r ≤ e := by
  obtain ⟨h1, h2, h3, h4⟩ := h
  rcases Nat.lt_or_ge e r with y | y
  · have ca := cnt_add (rise bs) (p := a) (m := e) (q := r - 1) (by rcases Nat.lt_or_ge a e with z | z; exact Nat.le_of_lt z; (unfold cnt at hn; rw [show e - a = 0 by omega] at hn; simp at hn)) (by omega) v
    omega
  · exact y
/-- what _law_search may tell -/
def SF (bs : List Bool) (a : Nat) (g : Int) (d : D) : Prop := (∃ r : Nat, First bs a g r ∧ d = .int r) ∨ ((∀ r, a < r → r ≤ bs.length → rise bs r ≠ g) ∧ d = noneD)
def SB (bs : List Bool) (a : Nat) (g : Int) (d : D) : Prop := (∃ r : Nat, Last bs a g r ∧ d = .int r) ∨ ((∀ r, r < a → rise bs r ≠ g) ∧ d = noneD)
theorem SF.uniq {bs : List Bool} {a : Nat} {g : Int} {d e : D} (h : SF bs a g d) (k : SF bs a g e) : d = e := by
  rcases h with ⟨r, ⟨h1, h2, h3, h4⟩, rfl⟩ | ⟨h1, rfl⟩
  · rcases k with ⟨s, ⟨k1, k2, k3, k4⟩, rfl⟩ | ⟨k1, rfl⟩
    · have : r = s := by
        rcases Nat.lt_trichotomy r s with c | c | c
        · exact absurd h3 (k4 r h1 c)
        · exact c
        · exact absurd k3 (h4 s k1 c)
      rw [this]
    · exact absurd h3 (k1 r h1 h2)
  · rcases k with ⟨s, ⟨k1, k2, k3, k4⟩, rfl⟩ | ⟨k1, rfl⟩
    · exact absurd k3 (h1 s k1 k2)
    · rfl
end Pg
set_option maxRecDepth 100000
set_option maxHeartbeats 2000000
/-! T35: searches in turned, exchanged, longer rows. -/
namespace Pg
open PySem PySem.Spec PyProof.Rows L2 Vi
theorem SB.uniq {bs : List Bool} {a : Nat} {g : Int} {d e : D} (h : SB bs a g d) (k : SB bs a g e) : d = e := by
  rcases h with ⟨r, ⟨h1, h3, h4⟩, rfl⟩ | ⟨h1, rfl⟩
  · rcases k with ⟨s, ⟨k1, k3, k4⟩, rfl⟩ | ⟨k1, rfl⟩
    · have : r = s := by
        rcases Nat.lt_trichotomy r s with c | c | c
        · exact absurd k3 (h4 s c k1)
        · exact c
        · exact absurd h3 (k4 r c h1)
      rw [this]
    · exact absurd h3 (k1 r h1)
  · rcases k with ⟨s, ⟨k1, k3, k4⟩, rfl⟩ | ⟨k1, rfl⟩
    · exact absurd k3 (h1 s k1)
    · rfl
def mir (m : Nat) : D → D
  | .int x => .int (m - x)
  | d => d
def shf (m : Nat) : D → D
  | .int x => .int (m + x)
  | d => d
variable {bs as : List Bool} {a : Nat} {g : Int} {d : D}
theorem SF.not (ha : a ≤ bs.length) (h : SF (bs.map fun b => !b) a (0 - g) d) : SF bs a g d := by
  have key : ∀ r, r ≤ bs.length → (rise (bs.map fun b => !b) r = 0 - g ↔ rise bs r = g) := fun r hr => by rw [rise_not hr]; omega
  rcases h with ⟨r, ⟨h1, h2, h3, h4⟩, rfl⟩ | ⟨h1, rfl⟩
  · rw [List.length_map] at h2
    exact .inl ⟨r, ⟨h1, h2, (key r h2).mp h3, fun x x1 x2 x3 => h4 x x1 x2 ((key x (by omega)).mpr x3)⟩, rfl⟩
  · rw [List.length_map] at h1
    exact .inr ⟨fun r r1 r2 r3 => h1 r r1 r2 ((key r r2).mpr r3), rfl⟩
theorem SB.not (ha : a ≤ bs.length) (h : SB (bs.map fun b => !b) a (0 - g) d) : SB bs a g d := by
  have key : ∀ r, r ≤ bs.length → (rise (bs.map fun b => !b) r = 0 - g ↔ rise bs r = g) := fun r hr => by rw [rise_not hr]; omega
  rcases h with ⟨r, ⟨h1, h3, h4⟩, rfl⟩ | ⟨h1, rfl⟩
  · exact .inl ⟨r, ⟨h1, (key r (by omega)).mp h3, fun x x1 x2 x3 => h4 x x1 x2 ((key x (by omega)).mpr x3)⟩, rfl⟩
  · exact .inr ⟨fun r r1 r3 => h1 r r1 ((key r (by omega)).mpr r3), rfl⟩
theorem SB.rev (ha : a ≤ bs.length) (h : SB bs.reverse (bs.length - a) (rise bs bs.length - g) d) : SF bs a g (mir bs.length d) := by
  have key : ∀ r, r ≤ bs.length → (rise bs.reverse (bs.length - r) = rise bs bs.length - g ↔ rise bs r = g) := fun r hr => by
    rw [rise_rev (by omega), show bs.length - (bs.length - r) = r by omega]; omega
  rcases h with ⟨r, ⟨h1, h3, h4⟩, rfl⟩ | ⟨h1, rfl⟩
  · refine .inl ⟨bs.length - r, ⟨by omega, by omega, ?_, fun x x1 x2 x3 => ?_⟩, ?_⟩
    · exact (key (bs.length - r) (by omega)).mp (by rw [show bs.length - (bs.length - r) = r by omega]; exact h3)
    · exact h4 (bs.length - x) (by omega) (by omega) ((key x (by omega)).mpr x3)
    · show D.int _ = _
      congr 1
      omega
  · exact .inr ⟨fun r r1 r2 r3 => h1 (bs.length - r) (by omega) ((key r r2).mpr r3), rfl⟩
theorem SF.rev (ha : a ≤ bs.length) (h : SF bs.reverse (bs.length - a) (rise bs bs.length - g) d) : SB bs a g (mir bs.length d) := by
  have key : ∀ r, r ≤ bs.length → (rise bs.reverse (bs.length - r) = rise bs bs.length - g ↔ rise bs r = g) := fun r hr => by
    rw [rise_rev (by omega), show bs.length - (bs.length - r) = r by omega]; omega
  rcases h with ⟨r, ⟨h1, h2, h3, h4⟩, rfl⟩ | ⟨h1, rfl⟩
  · rw [List.length_reverse] at h2
    refine .inl ⟨bs.length - r, ⟨by omega, ?_, fun x x1 x2 x3 => ?_⟩, ?_⟩
    · exact (key (bs.length - r) (by omega)).mp (by rw [show bs.length - (bs.length - r) = r by omega]; exact h3)
    · exact h4 (bs.length - x) (by omega) (by omega) ((key x (by omega)).mpr x3)
    · show D.int _ = _
      congr 1
      omega
  · rw [List.length_reverse] at h1
    exact .inr ⟨fun r r1 r3 => h1 (bs.length - r) (by omega) (by omega) ((key r (by omega)).mpr r3), rfl⟩
theorem SF.app (h : SF bs a g d) : SF (as ++ bs) (as.length + a) (rise as as.length + g) (shf as.length d) := by
  have key : ∀ r, (rise (as ++ bs) (as.length + r) = rise as as.length + g ↔ rise bs r = g) := fun r => by rw [rise_app]; omega
  rcases h with ⟨r, ⟨h1, h2, h3, h4⟩, rfl⟩ | ⟨h1, rfl⟩
  · refine .inl ⟨as.length + r, ⟨by omega, by rw [List.length_append]; omega, (key r).mpr h3, fun x x1 x2 x3 => ?_⟩, ?_⟩
    · rw [show x = as.length + (x - as.length) by omega] at x3
      exact h4 (x - as.length) (by omega) (by omega) ((key _).mp x3)
    · show D.int _ = _
      congr 1
  · refine .inr ⟨fun x x1 x2 x3 => ?_, rfl⟩
    rw [List.length_append] at x2
    rw [show x = as.length + (x - as.length) by omega] at x3
    exact h1 (x - as.length) (by omega) (by omega) ((key _).mp x3)
theorem SB.app {r : Nat} (h : Last bs a g r) : SB (as ++ bs) (as.length + a) (rise as as.length + g) (.int ((as.length : Int) + r)) := by
  have key : ∀ r, (rise (as ++ bs) (as.length + r) = rise as as.length + g ↔ rise bs r = g) := fun r => by rw [rise_app]; omega
  obtain ⟨h1, h3, h4⟩ := h
  refine .inl ⟨as.length + r, ⟨by omega, (key r).mpr h3, fun x x1 x2 x3 => ?_⟩, by congr 1⟩
  rw [show x = as.length + (x - as.length) by omega] at x3
  exact h4 (x - as.length) (by omega) (by omega) ((key _).mp x3)
theorem SF.abs {r : Nat} (h : First bs a g r) : (if rise bs a - g < 0 then -(rise bs a - g) else rise bs a - g) ≤ (r : Int) - a := by
  obtain ⟨h1, h2, h3, h4⟩ := h
  have key : ∀ n, a + n ≤ bs.length → rise bs (a + n) ≤ rise bs a + n ∧ rise bs a - n ≤ rise bs (a + n) := by
    intro n
    induction n with
    | zero => intro _; simp
    | succ n ih =>
      intro hn
      have := ih (by omega)
      have := rise_steps bs (a + n) (by omega)
      rw [show a + (n + 1) = a + n + 1 by omega]
      omega
  have := key (r - a) (by omega)
  rw [show a + (r - a) = r by omega] at this
  split <;> omega
theorem filter_head {p : Nat → Bool} {n i : Nat} {l : List Nat} (h : (List.range n).filter p = i :: l) : i < n ∧ p i = true ∧ ∀ j, j < i → p j = false := by
  have hm : i ∈ (List.range n).filter p := by rw [h]; exact List.mem_cons_self
  have h1 := List.mem_range.mp (List.mem_filter.mp hm).1
  have h2 := (List.mem_filter.mp hm).2
  refine ⟨h1, h2, fun j hj => ?_⟩
  cases hp : p j with
  | false => rfl
  | true =>
    have k1 := filt_nth (n := n) h1 h2
    rw [h] at k1
    have k2 : j ∈ (List.range i).filter p := List.mem_filter.mpr ⟨List.mem_range.mpr hj, hp⟩
    have k3 := filt_nth (n := n) (i := j) (by omega) hp
    have k4 : ((List.range j).filter p).length < ((List.range i).filter p).length := by
      have k5 := filt_nth (n := i) hj hp
      exact (List.getElem?_eq_some_iff.mp k5).1
    have pw : List.Pairwise (· < ·) (i :: l) := by
      rw [← h]
      exact List.Pairwise.sublist List.filter_sublist List.pairwise_lt_range
    rw [h] at k3
    generalize ((List.range j).filter p).length = u at *
    cases u with
    | zero =>
      simp at k3
      omega
    | succ u =>
      have : j ∈ l := List.mem_of_getElem? (by simpa using k3)
      have := List.rel_of_pairwise_cons pw this
      omega
theorem filter_last {p : Nat → Bool} {n i : Nat} {l : List Nat} (h : (List.range n).filter p = l ++ [i]) : i < n ∧ p i = true ∧ ∀ j, i < j → j < n → p j = false := by
  have hm : i ∈ (List.range n).filter p := by rw [h]; simp
  have h1 := List.mem_range.mp (List.mem_filter.mp hm).1
  have h2 := (List.mem_filter.mp hm).2
  refine ⟨h1, h2, fun j hj hn => ?_⟩
  cases hp : p j with
  | false => rfl
  | true =>
    have pw : List.Pairwise (· < ·) (l ++ [i]) := by
      rw [← h]
      exact List.Pairwise.sublist List.filter_sublist List.pairwise_lt_range
    have hj2 : j ∈ (List.range n).filter p := List.mem_filter.mpr ⟨List.mem_range.mpr hn, hp⟩
    rw [h] at hj2
    rcases List.mem_append.mp hj2 with c | c
    · have := (List.pairwise_append.mp pw).2.2 j c i (by simp)
      omega
    · simp at c
      omega
theorem SF.later : SF bs a g (match hits (rise bs) a bs.length g with | [] => noneD | i :: _ => .int ((a + 1 + i : Nat) : Int)) := by
  unfold hits
  cases h : (List.range (bs.length - a)).filter (fun i => decide (rise bs (a + 1 + i) = g)) with
  | nil =>
    refine .inr ⟨fun r r1 r2 r3 => ?_, rfl⟩
    have := (List.filter_eq_nil_iff.mp h) (r - (a + 1)) (List.mem_range.mpr (by omega))
    rw [show a + 1 + (r - (a + 1)) = r by omega] at this
    simp [r3] at this
  | cons i l =>
    obtain ⟨h1, h2, h3⟩ := filter_head h
    refine .inl ⟨a + 1 + i, ⟨by omega, by omega, by simpa using h2, fun x x1 x2 x3 => ?_⟩, rfl⟩
    have := h3 (x - (a + 1)) (by omega)
    rw [show a + 1 + (x - (a + 1)) = x by omega] at this
    simp [x3] at this
theorem SB.earlier : SB bs a g (match ((List.range a).filter fun i => decide (rise bs i = g)).getLast? with | none => noneD | some i => .int (i : Nat)) := by
  rcases List.eq_nil_or_concat ((List.range a).filter fun i => decide (rise bs i = g)) with h | ⟨l, i, h⟩
  · rw [h]
    refine .inr ⟨fun r r1 r3 => ?_, rfl⟩
    have := (List.filter_eq_nil_iff.mp h) r (List.mem_range.mpr r1)
    simp [r3] at this
  · rw [List.concat_eq_append] at h
    obtain ⟨h1, h2, h3⟩ := filter_last h
    rw [h]
    simp only [List.getLast?_append, List.getLast?_singleton]
    refine .inl ⟨i, ⟨h1, by simpa using h2, fun x x1 x2 x3 => ?_⟩, rfl⟩
    have := h3 x x1 x2
    simp [x3] at this
end Pg
set_option maxRecDepth 100000
set_option maxHeartbeats 4000000
/-! T36: the law's steps. -/
namespace Pg
open PySem PySem.Spec PyProof.Rows L2 Vi
/-- the draws' cell; a store alike but for cell n -/
def DA (S : Sto) (n : Nat) : Prop := ∃ o, S[n]? = some o ∧ DO o
def Kp (n : Nat) (S S' : Sto) : Prop := S'.length = S.length ∧ ∀ i, i ≠ n → S'[i]? = S[i]?
theorem Kp.refl {n : Nat} {S : Sto} : Kp n S S := ⟨rfl, fun _ _ => rfl⟩
theorem Kp.trans {n : Nat} {S S' S'' : Sto} (h : Kp n S S') (k : Kp n S' S'') : Kp n S S'' := ⟨by rw [k.1, h.1], fun i hi => by rw [k.2 i hi, h.2 i hi]⟩
theorem Kp.set {n : Nat} {S : Sto} {o : O} : Kp n S (S.set n o) := ⟨by simp, fun i hi => by rw [List.getElem?_set_ne (Ne.symm hi)]⟩
theorem DA.lt {S : Sto} {n : Nat} (h : DA S n) : n < S.length := by
  obtain ⟨o, a, _⟩ := h
  exact (List.getElem?_eq_some_iff.mp a).1
theorem da_take {S : Sto} {n m : Nat} (h : DA S n) (hm : 0 < m) : ∃ v S', v < m ∧ DA S' n ∧ Kp n S S' ∧ f__law_take [.loc n, .int m] S = .ok (.int (v : Nat)) S' := by
  obtain ⟨o, a, b⟩ := h
  obtain ⟨v, o', h1, h2, h3⟩ := take_s a b hm
  exact ⟨v, _, h1, ⟨o', List.getElem?_set_self (List.getElem?_eq_some_iff.mp a).1, h2⟩, Kp.set, h3⟩
theorem da_row {S : Sto} {n : Nat} (h : DA S n) : ∃ row S', 1 ≤ row.length ∧ row.length ≤ 59 ∧ DA S' n ∧ Kp n S S' ∧ f__law_row [.loc n] S = .ok (rowD row) S' := by
  obtain ⟨o, a, b⟩ := h
  obtain ⟨row, o', h1, h2, h3, h4⟩ := row_s a b
  exact ⟨row, _, h2, h3, ⟨o', List.getElem?_set_self (List.getElem?_eq_some_iff.mp a).1, h1⟩, Kp.set, h4⟩
/-- what a search tells is a number or the word -/
def SD (d : D) : Prop := d = noneD ∨ ∃ r : Nat, d = .int r
theorem SF.sd {bs : List Bool} {a : Nat} {g : Int} {d : D} (h : SF bs a g d) : SD d := by
  rcases h with ⟨r, _, e⟩ | ⟨_, e⟩
  · exact .inr ⟨r, e⟩
  · exact .inl e
theorem SB.sd {bs : List Bool} {a : Nat} {g : Int} {d : D} (h : SB bs a g d) : SD d := by
  rcases h with ⟨r, _, e⟩ | ⟨_, e⟩
  · exact .inr ⟨r, e⟩
  · exact .inl e
theorem sd_ne {d : D} {st : Sto} (h : SD d) : oEqN true d d st = .ok (.bl false) st := by
  rcases h with rfl | ⟨r, rfl⟩
  · rfl
  · simp
theorem sok : PyData.strOk (Str.ofString "none") = true := by decide +kernel
theorem sd_list {c d : D} {st : Sto} (h : SD c) (k : SD d) : deepEq true (.fl [c, d]) (.fl [c, d]) st = .ok (.bl false) st := by
  rcases h with rfl | ⟨r, rfl⟩ <;> rcases k with rfl | ⟨s, rfl⟩ <;> simp [deepEq, toPD, optAll, noneD, SeqAt.shaped, PyData.canLay0, PyData.canLayAll0, PyData.depth, PyData.depthAll, PyData.eqv, PyData.eqvAll, sok]
section
variable {st : Sto} {bs : List Bool} {h : Nat} {nds : List D}
theorem search0' {a : Nat} {g : Int} (T : Tree bs h nds) (hb : bs.length ≤ 4000) (ha : a ≤ bs.length) : ∃ d, SF bs a g d ∧ ∀ st, f__law_search [treeO bs h nds, .int 0, .int a, .int g] st = .ok d st := by
  rcases search0 (st := []) (g := g) T hb ha with ⟨r, hr, _⟩ | ⟨hn, _⟩
  · refine ⟨.int r, .inl ⟨r, hr, rfl⟩, fun st => ?_⟩
    rcases search0 (st := st) (g := g) T hb ha with ⟨r', hr', e⟩ | ⟨hn', e⟩
    · have := SF.uniq (.inl ⟨r, hr, rfl⟩) (.inl ⟨r', hr', rfl⟩)
      rw [this]; exact e
    · exact absurd hr.2.2.1 (hn' r hr.1 hr.2.1)
  · refine ⟨noneD, .inr ⟨hn, rfl⟩, fun st => ?_⟩
    rcases search0 (st := st) (g := g) T hb ha with ⟨r', hr', e⟩ | ⟨hn', e⟩
    · exact absurd hr'.2.2.1 (hn r' hr'.1 hr'.2.1)
    · exact e
theorem search1' {a : Nat} {g : Int} (T : Tree bs h nds) (hb : bs.length ≤ 4000) (ha : a ≤ bs.length) : ∃ d, SB bs a g d ∧ ∀ st, f__law_search [treeO bs h nds, .int 1, .int a, .int g] st = .ok d st := by
  rcases search1 (st := []) (g := g) T hb ha with ⟨r, hr, _⟩ | ⟨hn, _⟩
  · refine ⟨.int r, .inl ⟨r, hr, rfl⟩, fun st => ?_⟩
    rcases search1 (st := st) (g := g) T hb ha with ⟨r', hr', e⟩ | ⟨hn', e⟩
    · have := SB.uniq (.inl ⟨r, hr, rfl⟩) (.inl ⟨r', hr', rfl⟩)
      rw [this]; exact e
    · exact absurd hr.2.1 (hn' r hr.1)
  · refine ⟨noneD, .inr ⟨hn, rfl⟩, fun st => ?_⟩
    rcases search1 (st := st) (g := g) T hb ha with ⟨r', hr', e⟩ | ⟨hn', e⟩
    · exact absurd hr'.2.1 (hn r' hr'.1)
    · exact e
end
/-- rises of a part -/
def part (f : Nat → Int) (b e : Nat) : List Int := (List.range (e - b)).map fun i => f (b + 1 + i)
theorem part_least {f : Nat → Int} {b e : Nat} {t : TT} (x : TS f b e t) : minL (part f b e) = f b + t.lea := by
  have lt := x.lt
  obtain ⟨h1, h2⟩ := minL_spec (ns := part f b e) (by simp [part]; omega)
  have e1 := x.least_eq (M := minL (part f b e)) (fun r r1 r2 => h2 _ (List.mem_map.mpr ⟨r - (b + 1), List.mem_range.mpr (by omega), by rw [show b + 1 + (r - (b + 1)) = r by omega]⟩)) (by
    obtain ⟨i, hi, e⟩ := List.mem_map.mp h1
    have := List.mem_range.mp hi
    exact ⟨b + 1 + i, by omega, by omega, e⟩)
  omega
theorem part_most {f : Nat → Int} {b e : Nat} {t : TT} (x : TS f b e t) : maxL (part f b e) = f b + t.mos := by
  have lt := x.lt
  obtain ⟨h1, h2⟩ := maxL_spec (ns := part f b e) (by simp [part]; omega)
  have e1 := x.most_eq (M := maxL (part f b e)) (fun r r1 r2 => h2 _ (List.mem_map.mpr ⟨r - (b + 1), List.mem_range.mpr (by omega), by rw [show b + 1 + (r - (b + 1)) = r by omega]⟩)) (by
    obtain ⟨i, hi, e⟩ := List.mem_map.mp h1
    have := List.mem_range.mp hi
    exact ⟨b + 1 + i, by omega, by omega, e⟩)
  omega
theorem part_often {f : Nat → Int} {b e : Nat} {t : TT} (x : TS f b e t) : (((part f b e).filter fun v => decide (v = minL (part f b e))).length : Int) = t.oft := by
  rw [part_least x, x.oft]
  unfold part cnt
  rw [List.filter_map, List.length_map]
  rfl
/-- rises as the law lists them -/
def rises (bs : List Bool) : List Int := (List.range (bs.length + 1)).map (rise bs)
theorem rises_at {bs : List Bool} {i : Nat} (h : i ≤ bs.length) : (rises bs)[i]? = some (rise bs i) := by
  unfold rises
  rw [List.getElem?_map, List.getElem?_range (by omega)]
  rfl
theorem rises_part {bs : List Bool} {b e : Nat} (h1 : b < e) (h2 : e ≤ bs.length) : ((rises bs).take (e + 1)).drop (b + 1) = part (rise bs) b e := by
  apply List.ext_getElem?
  intro i
  rw [List.getElem?_drop]
  unfold part
  rw [List.getElem?_map]
  by_cases c : i < e - b
  · rw [List.getElem?_take_of_lt (by omega), rises_at (by omega), List.getElem?_range c]
    rfl
  · rw [List.getElem?_eq_none (by simp; omega), List.getElem?_eq_none (by simp; omega)]
    rfl
theorem rises_last {bs : List Bool} : atI ((rises bs).map D.int) (-1) = some (.int (rise bs bs.length)) := by
  unfold rises
  rw [List.range_succ, List.map_append, List.map_append]
  exact atI_last
end Pg
set_option maxRecDepth 100000
set_option maxHeartbeats 4000000
/-! T37: the law's steps, their parts. -/
namespace Pg
open PySem PySem.Spec PyProof.Rows L2 Vi
theorem sok2 {r : Int} {st : Sto} {neg : Bool} : oEqN neg (.int r) (.str "none") st = .ok (.bl neg) st := rfl
section
variable {S : Sto} {fr : Fr} {bs : List Bool} {k : Nat}
theorem c1_s {P : List Int} {L : Int} (hm : bMin [.fl (P.map D.int)] S = .ok (.int L) S) (h16 : fget fr 16 = some (.fl (P.map D.int))) (hl : 29 < fr.length) :
    lcN (.seq (P.map D.int)) (gN 29) (toB (eBin oEq (eVar 29) (eB bMin (aCons (eVar 16) aNil)))) (eVar 29) (P.map D.int) fr S = .ok ((P.filter fun v => decide (v = L)).map D.int) S := by
  refine lc_filt D.int D.int _ P rfl fun x _ => ⟨_, rfl, ?_, fun _ => ?_⟩
  · simp [fget_self hl, fget_ne, h16, hm]
  · simp [fget_self hl]
theorem c3_s {b n : Nat} {L : Int} (hk : S[k]? = some (.lst ((rises bs).map D.int))) (hn : b + n ≤ bs.length) (h10 : fget fr 10 = some (.loc k)) (h17 : fget fr 17 = some (.int L)) (hl : 21 < fr.length) :
    lcN (.seq (rng ((b : Int) + 1) n)) (gN 21) (toB (eBin oEq (eBin oIx (eVar 10) (eVar 21)) (eVar 17))) (eVar 21) (rng ((b : Int) + 1) n) fr S = .ok ((((List.range n).filter fun i => decide (rise bs (b + 1 + i) = L)).map fun i => ((b + 1 + i : Nat) : Int)).map D.int) S := by
  refine lc_rngF _ _ fun i hi => ⟨_, rfl, ?_, fun _ => ?_⟩
  · have a := rises_at (bs := bs) (i := b + 1 + i) (by omega)
    have e : (b : Int) + 1 + i = ((b + 1 + i : Nat) : Int) := by omega
    have ix : oIx (.loc k) (.int ((b + 1 + i : Nat) : Int)) S = .ok (.int (rise bs (b + 1 + i))) S := by
      simp only [oIx, asQ, hk, Vi.atI_nat, List.getElem?_map, a]
      rfl
    rw [e]
    generalize ((b + 1 + i : Nat) : Int) = x at *
    simp [fget_self hl, fget_ne, h10, h17, ix]
  · have e : (b : Int) + 1 + i = ((b + 1 + i : Nat) : Int) := by omega
    rw [e]
    simp [fget_self hl]
theorem c4_s {b n : Nat} {L : Int} (hk : S[k]? = some (.lst ((rises bs).map D.int))) (hn : b + n ≤ bs.length) (h10 : fget fr 10 = some (.loc k)) (h17 : fget fr 22 = some (.int L)) (hl : 29 < fr.length) :
    lcN (.seq (rng ((b : Int) + 1) n)) (gN 29) (toB (eBin oEq (eBin oIx (eVar 10) (eVar 29)) (eVar 22))) (eVar 29) (rng ((b : Int) + 1) n) fr S = .ok ((((List.range n).filter fun i => decide (rise bs (b + 1 + i) = L)).map fun i => ((b + 1 + i : Nat) : Int)).map D.int) S := by
  refine lc_rngF _ _ fun i hi => ⟨_, rfl, ?_, fun _ => ?_⟩
  · have a := rises_at (bs := bs) (i := b + 1 + i) (by omega)
    have e : (b : Int) + 1 + i = ((b + 1 + i : Nat) : Int) := by omega
    have ix : oIx (.loc k) (.int ((b + 1 + i : Nat) : Int)) S = .ok (.int (rise bs (b + 1 + i))) S := by
      simp only [oIx, asQ, hk, Vi.atI_nat, List.getElem?_map, a]
      rfl
    rw [e]
    generalize ((b + 1 + i : Nat) : Int) = x at *
    simp [fget_self hl, fget_ne, h10, h17, ix]
  · have e : (b : Int) + 1 + i = ((b + 1 + i : Nat) : Int) := by omega
    rw [e]
    simp [fget_self hl]
theorem c5_s {n : Nat} {L : Int} (hk : S[k]? = some (.lst ((rises bs).map D.int))) (hn : n ≤ bs.length) (h10 : fget fr 10 = some (.loc k)) (h17 : fget fr 22 = some (.int L)) (hl : 29 < fr.length) :
    lcN (.seq (rng 0 n)) (gN 29) (toB (eBin oEq (eBin oIx (eVar 10) (eVar 29)) (eVar 22))) (eVar 29) (rng 0 n) fr S = .ok ((((List.range n).filter fun i => decide (rise bs i = L)).map fun (i : Nat) => (i : Int)).map D.int) S := by
  refine lc_rngF _ _ fun i hi => ⟨_, rfl, ?_, fun _ => ?_⟩
  · have a := rises_at (bs := bs) (i := i) (by omega)
    have ix : oIx (.loc k) (.int ((i : Nat) : Int)) S = .ok (.int (rise bs i)) S := by
      simp only [oIx, asQ, hk, Vi.atI_nat, List.getElem?_map, a]
      rfl
    simp [fget_self hl, fget_ne, h10, h17, ix]
  · simp [fget_self hl]
theorem i1_s {p : Nat} {g : Int} {df : D} (hd : SF bs p g df) (h25 : fget fr 25 = some (.fl (((hits (rise bs) p bs.length g).map fun i => ((p + 1 + i : Nat) : Int)).map D.int))) :
    eIf (toB (eBin oNe (eVar 25) (eLst mkFl aNil))) (eBin oIx (eVar 25) (eC (.int 0))) (eC (.str "none")) fr S = .ok df S := by
  have u := hd.uniq SF.later
  have dq := deepEq_fints (neg := true) (st := S) (xs := (hits (rise bs) p bs.length g).map fun i => ((p + 1 + i : Nat) : Int)) (ys := [])
  cases hh : hits (rise bs) p bs.length g with
  | nil =>
    rw [hh] at u h25 dq
    subst u
    simp at dq h25
    simp [h25, dq, noneD]
  | cons i l =>
    rw [hh] at u h25 dq
    subst u
    simp at dq
    have ix : oIx (.fl ((((i :: l).map fun i => ((p + 1 + i : Nat) : Int))).map D.int)) (.int 0) S = .ok (.int ((p + 1 + i : Nat) : Int)) S := by
      rw [show (0 : Int) = ((0 : Nat) : Int) from rfl]
      simp only [oIx, asQ, Vi.atI_nat, List.map_cons, List.getElem?_cons_zero]
    simp at ix h25
    simp [h25, dq, ix]
theorem i2_s {p : Nat} {g : Int} {db : D} (hd : SB bs p g db) (h26 : fget fr 26 = some (.fl ((((List.range p).filter fun i => decide (rise bs i = g)).map fun (i : Nat) => (i : Int)).map D.int))) :
    eIf (toB (eBin oNe (eVar 26) (eLst mkFl aNil))) (eBin oIx (eVar 26) (eUn (fun i => -i) (eC (.int 1)))) (eC (.str "none")) fr S = .ok db S := by
  have u := hd.uniq SB.earlier
  have dq := deepEq_fints (neg := true) (st := S) (xs := ((List.range p).filter fun i => decide (rise bs i = g)).map fun (i : Nat) => (i : Int)) (ys := [])
  generalize (List.range p).filter (fun i => decide (rise bs i = g)) = X at *
  rcases List.eq_nil_or_concat X with rfl | ⟨l, i, rfl⟩
  · subst u
    simp at dq h26
    simp [h26, dq, noneD]
  · rw [List.concat_eq_append] at *
    simp at dq u
    subst u
    have ix : oIx (.fl (((l ++ [i]).map fun (i : Nat) => (i : Int)).map D.int)) (.int (-1)) S = .ok (.int (i : Nat)) S := by
      simp only [oIx, asQ, List.map_append, List.map_cons, List.map_nil, Vi.atI_last]
    simp at ix h26
    simp [h26, dq, ix]
theorem i3_s {m : Nat} {df db : D} (h1 : SD df) (h2 : SD db) (h4 : fget fr 4 = some (.int m)) (hl : 29 < fr.length) :
    lcN (.seq [df, db]) (gN 29) tTrue (eIf (toB (eBin oEq (eVar 29) (eC (.str "none")))) (eVar 29) (eBin oSub (eVar 4) (eVar 29))) [df, db] fr S = .ok [mir m df, mir m db] S := by
  have key : ∀ d, SD d → eIf (toB (eBin oEq (eVar 29) (eC (.str "none")))) (eVar 29) (eBin oSub (eVar 4) (eVar 29)) (fset fr 29 (some d)) S = .ok (mir m d) S := by
    rintro d (rfl | ⟨r, rfl⟩)
    · have : oEqN false noneD (.str "none") S = .ok (.bl true) S := rfl
      simp [fget_self hl, this]
      rfl
    · simp [fget_self hl, fget_ne, h4]
      rfl
  exact lc_pure (mir m) [df, db] rfl fun d hd => ⟨_, rfl, rfl, key d (by simp at hd; rcases hd with rfl | rfl <;> assumption)⟩
theorem i4_s {A : Nat} {as : List Bool} {df : D} (h1 : SD df) (h23 : fget fr 23 = some df) (h5 : fget fr 5 = some (rowD as)) :
    eIf (toB (eBin oEq (eVar 23) (eC (.str "none")))) (eVar 23) (eBin (oAddG mkFl) (eB bLen (aCons (eVar 5) aNil)) (eVar 23)) fr S = .ok (shf as.length df) S := by
  rcases h1 with rfl | ⟨r, rfl⟩
  · have : oEqN false noneD (.str "none") S = .ok (.bl true) S := rfl
    simp [h23, this]
    rfl
  · simp [h23, h5]
    rfl
theorem i5_s {as : List Bool} {p : Nat} {G c0 : Int} {db mv : D} (h1 : SB bs p G db) (hs : ∀ r : Nat, db = .int r → f__law_search [mv, .int 1, .int ((as.length : Int) + p), .int (c0 + G)] S = .ok (.int ((as.length : Int) + r)) S)
    (h24 : fget fr 24 = some db) (h5 : fget fr 5 = some (rowD as)) (h9 : fget fr 9 = some mv) (h21 : fget fr 21 = some (.int p)) (h11 : fget fr 11 = some (.int c0)) (h22 : fget fr 22 = some (.int G)) :
    bAnd (toB (eBin oNe (eVar 24) (eC (.str "none")))) (toB (eBin oNe (eCall f__law_search (aCons (eVar 9) (aCons (eC (.int 1)) (aCons (eBin (oAddG mkFl) (eB bLen (aCons (eVar 5) aNil)) (eVar 21)) (aCons (eBin (oAddG mkFl) (eVar 11) (eVar 22)) aNil))))) (eBin (oAddG mkFl) (eB bLen (aCons (eVar 5) aNil)) (eVar 24)))) fr S = .ok false S := by
  rcases h1 with ⟨r, _, rfl⟩ | ⟨_, rfl⟩
  · simp [h24, h5, h9, h21, h11, h22, hs r rfl]
  · have : oEqN true noneD (.str "none") S = .ok (.bl false) S := rfl
    simp [h24, this]
theorem i6_s {p : Nat} {G : Int} {df : D} (h1 : SF bs p G df) (hk : S[k]? = some (.lst ((rises bs).map D.int))) (hp : p ≤ bs.length)
    (h23 : fget fr 23 = some df) (h10 : fget fr 10 = some (.loc k)) (h21 : fget fr 21 = some (.int p)) (h22 : fget fr 22 = some (.int G)) :
    bAnd (toB (eBin oNe (eVar 23) (eC (.str "none")))) (toB (eBin oGt (eB bAbs (aCons (eBin oSub (eBin oIx (eVar 10) (eVar 21)) (eVar 22)) aNil)) (eBin oSub (eVar 23) (eVar 21)))) fr S = .ok false S := by
  rcases h1 with ⟨r, hr, rfl⟩ | ⟨_, rfl⟩
  · have a := rises_at hp
    have ix : oIx (.loc k) (.int (p : Int)) S = .ok (.int (rise bs p)) S := by
      simp only [oIx, asQ, hk, Vi.atI_nat, List.getElem?_map, a]
      rfl
    have ab := SF.abs hr
    simp [h23, h10, h21, h22, ix]
    exact ab
  · have : oEqN true noneD (.str "none") S = .ok (.bl false) S := rfl
    simp [h23, this]
end
end Pg
set_option maxRecDepth 100000
set_option maxHeartbeats 8000000
/-! T38: one step of the law. -/
namespace Pg
open PySem PySem.Spec PyProof.Rows L2 Vi
theorem Nth.move {as bs : List Bool} {b n r : Nat} {v : Int} (h : Nth bs b v n r) : Nth (as ++ bs) (as.length + b) (rise as as.length + v) n (as.length + r) := by
  obtain ⟨h1, h2, h3, h4⟩ := h
  refine ⟨by omega, by rw [List.length_append]; omega, by rw [rise_app]; omega, ?_⟩
  rw [show as.length + r - 1 = as.length + (r - 1) by omega, Int.add_comm, cnt_move (f := rise bs) (g := rise (as ++ bs)) fun r _ _ => by rw [rise_app]; omega]
  exact h4
theorem Nth.uniq {bs : List Bool} {b n r s : Nat} {v : Int} (h : Nth bs b v n r) (k : Nth bs b v n s) : r = s := by
  have a1 := nth_hits (e := max r s) h (by omega)
  have a2 := nth_hits (e := max r s) k (by omega)
  rw [a1] at a2
  simp at a2
  have := h.1
  have := k.1
  omega
theorem ne2 {a b : Int} {st : Sto} : deepEq true (.fl [.int a, .int b]) (.fl [.int a, .int b]) st = .ok (.bl false) st := by
  have := deepEq_fints (neg := true) (st := st) (xs := [a, b]) (ys := [a, b])
  simpa using this
theorem ne3 {a b c : Int} {st : Sto} : deepEq true (.fl [.int a, .int b, .int c]) (.fl [.int a, .int b, .int c]) st = .ok (.bl false) st := by
  have := deepEq_fints (neg := true) (st := st) (xs := [a, b, c]) (ys := [a, b, c])
  simpa using this
theorem neI {xs : List Int} {st : Sto} : deepEq true (.fl (xs.map D.int)) (.fl (xs.map D.int)) st = .ok (.bl false) st := by
  have := deepEq_fints (neg := true) (st := st) (xs := xs) (ys := xs)
  simpa using this
structure Four (bs as : List Bool) (T B L M : D) : Prop where
  t : ∃ h nds, Tree bs h nds ∧ T = treeO bs h nds
  b : ∃ h nds, Tree bs.reverse h nds ∧ B = treeO bs.reverse h nds
  l : ∃ h nds, Tree (bs.map fun b => !b) h nds ∧ L = treeO (bs.map fun b => !b) h nds
  m : ∃ h nds, Tree (as ++ bs) h nds ∧ M = treeO (as ++ bs) h nds
theorem b2_s {S : Sto} {n k : Nat} {bs as : List Bool} {T B L M j : D} (F : Four bs as T B L M) (l1 : 1 ≤ bs.length) (l2 : bs.length ≤ 59) (l3 : as.length ≤ 20) (dn : DA S n) (nk : k ≠ n) (hk : S[k]? = some (.lst ((rises bs).map D.int))) :
    ∃ S', DA S' n ∧ Kp n S S' ∧ m_law_b2 [none, some (.loc n), none, none, some (.int bs.length), some (rowD as), some T, some B, some L, some M, some (.loc k), some (.int (rise as as.length)), none, some j, none, none, none, none, none, none, none, none, none, none, none, none, none, none, none, none, none] S =
      .nx (fr_law_b2 (.loc n) (.int bs.length) (rowD as) T B L M (.loc k) (.int (rise as as.length))) S' := by
  obtain ⟨⟨hT, nT, TT, rfl⟩, ⟨hB, nB, TB, rfl⟩, ⟨hL, nL, TL, rfl⟩, ⟨hM, nM, TM, rfl⟩⟩ := F
  have rl : bs.reverse.length = bs.length := List.length_reverse
  have ll : (bs.map fun b => !b).length = bs.length := List.length_map ..
  have ml : (as ++ bs).length = as.length + bs.length := List.length_append
  obtain ⟨b, S1, hb, d1, k1, t1⟩ := da_take (m := bs.length) dn (by omega)
  obtain ⟨c, S2, hc, d2, k2, t2⟩ := da_take (m := bs.length - b) d1 (by omega)
  obtain ⟨p, S3, hp, d3, k3, t3⟩ := da_take (m := bs.length + 1) d2 (by omega)
  obtain ⟨q, S4, hq, d4, k4, t4⟩ := da_take (m := bs.length + 1) d3 (by omega)
  obtain ⟨w, S5, hw, d5, k5, t5⟩ := da_take (m := 3) d4 (by omega)
  have hk1 := (k1.2 k nk).trans hk
  have hk2 := (k2.2 k nk).trans hk1
  have hk3 := (k3.2 k nk).trans hk2
  have hk4 := (k4.2 k nk).trans hk3
  have hk5 := (k5.2 k nk).trans hk4
  refine ⟨S5, d5, k1.trans (k2.trans (k3.trans (k4.trans k5))), ?_⟩
  obtain ⟨e, he⟩ : ∃ e, e = b + 1 + c := ⟨_, rfl⟩
  have ei : (b : Int) + 1 + c = (e : Int) := by omega
  have be : b < e := by omega
  have el : e ≤ bs.length := by omega
  have mb : (bs.length : Int) - b = ((bs.length - b : Nat) : Int) := by omega
  have m1 : (bs.length : Int) + 1 = ((bs.length + 1 : Nat) : Int) := by omega
  obtain ⟨t, ht, _⟩ := between_s (st := S) TT (by omega) be el
  -- what the trees tell
  have a1 := least_s (st := S2) TT (by omega) be el ht
  have a2 := most_s (st := S2) TT (by omega) be el ht
  have a3 := often_s (st := S2) TT (by omega) be el ht
  obtain ⟨u, hu, _⟩ := between_s (st := S) TL (by omega) be (by omega)
  have a4 : f_LeastTree_most [treeO (bs.map fun b => !b) hL nL, .int b, .int e] S2 = .ok (.int (0 - (rise bs b + t.lea))) S2 := by
    rw [most_s (st := S2) TL (by omega) be (by omega) hu, hu.most_eq (M := 0 - (rise bs b + t.lea)) (fun r r1 r2 => by
      rw [rise_not (by omega)]
      have := ht.lea1 r r1 r2
      omega) (by
      obtain ⟨r, r1, r2, r3⟩ := ht.lea2
      exact ⟨r, r1, r2, by rw [rise_not (by omega)]; omega⟩)]
  have a5 : f_LeastTree_least [treeO (bs.map fun b => !b) hL nL, .int b, .int e] S2 = .ok (.int (0 - (rise bs b + t.mos))) S2 := by
    rw [least_s (st := S2) TL (by omega) be (by omega) hu, hu.least_eq (M := 0 - (rise bs b + t.mos)) (fun r r1 r2 => by
      rw [rise_not (by omega)]
      have := ht.mos1 r r1 r2
      omega) (by
      obtain ⟨r, r1, r2, r3⟩ := ht.mos2
      exact ⟨r, r1, r2, by rw [rise_not (by omega)]; omega⟩)]
  have hm : TS (rise (as ++ bs)) (as.length + b) (as.length + e) t := ht.move (c := rise as as.length) fun r _ _ => by rw [rise_app]; omega
  have Ab : (as.length : Int) + b = ((as.length + b : Nat) : Int) := by omega
  have Ae : (as.length : Int) + e = ((as.length + e : Nat) : Int) := by omega
  have a6 : f_LeastTree_least [treeO (as ++ bs) hM nM, .int ((as.length : Int) + b), .int ((as.length : Int) + e)] S2 = .ok (.int (rise as as.length + (rise bs b + t.lea))) S2 := by
    rw [Ab, Ae, least_s (st := S2) TM (by omega) (by omega) (by omega) hm, rise_app, Int.add_assoc]
  have a7 : f_LeastTree_most [treeO (as ++ bs) hM nM, .int ((as.length : Int) + b), .int ((as.length : Int) + e)] S2 = .ok (.int (rise as as.length + (rise bs b + t.mos))) S2 := by
    rw [Ab, Ae, most_s (st := S2) TM (by omega) (by omega) (by omega) hm, rise_app, Int.add_assoc]
  have a8 : f_LeastTree_often [treeO (as ++ bs) hM nM, .int ((as.length : Int) + b), .int ((as.length : Int) + e)] S2 = .ok (.int t.oft) S2 := by
    rw [Ab, Ae, often_s (st := S2) TM (by omega) (by omega) (by omega) hm]
  -- the part
  have ob := ht.oft
  obtain ⟨Lv, hLv⟩ : ∃ Lv, Lv = rise bs b + t.lea := ⟨_, rfl⟩
  rw [← hLv] at ob a1 a4 a6
  obtain ⟨P, hP⟩ : ∃ P, P = part (rise bs) b e := ⟨_, rfl⟩
  have P0 : P ≠ [] := by rw [hP]; unfold part; simp; omega
  have pm : minL P = Lv := by rw [hP, hLv]; exact part_least ht
  have pM : maxL P = rise bs b + t.mos := by rw [hP]; exact part_most ht
  have po := part_often ht
  rw [← hP, pm] at po
  have sl : ∀ s : Sto, s[k]? = some (.lst ((rises bs).map D.int)) → slD mkFl (.loc k) (some ((b : Int) + 1)) (some ((e : Int) + 1)) s = .ok (.fl (P.map D.int)) s := fun s hs => by
    simp only [slD, asL, hs]
    rw [cut_map, show (b : Int) + 1 = ((b + 1 : Nat) : Int) by omega, show (e : Int) + 1 = ((e + 1 : Nat) : Int) by omega, cut_lh, rises_part be el, ← hP]
    unfold mkFl
    rw [if_pos]
    rw [hP]
    simp [part]
    omega
  have bm : ∀ s, bMin [.fl (P.map D.int)] s = .ok (.int Lv) s := fun s => by simp [bMin, P0, pm]
  have bM : ∀ s, bMax [.fl (P.map D.int)] s = .ok (.int (rise bs b + t.mos)) s := fun s => by simp [bMax, P0, pM]
  -- least places
  obtain ⟨o, ho⟩ : ∃ o, o = cnt (rise bs) b e Lv := ⟨_, rfl⟩
  rw [← ho] at ob
  rw [ob] at a3 a8 po
  have o0 : 0 < o := by
    obtain ⟨r, r1, r2, r3⟩ := ht.lea2
    rw [ho, hLv]
    exact cnt_pos r r1 r2 r3
  obtain ⟨Q, hQ⟩ : ∃ Q : List Int, Q = (hits (rise bs) b e Lv).map fun i => ((b + 1 + i : Nat) : Int) := ⟨_, rfl⟩
  have Ql : Q.length = o := by rw [hQ, List.length_map, hits_len, ho]
  have np : ∀ i, i < o → ∃ r, Nth bs b Lv i r ∧ Q[i]? = some (r : Int) ∧ f_LeastTree_least_place [treeO bs hT nT, .int b, .int e, .int i] S2 = .ok (.int (r : Nat)) S2 := fun i hi => by
    obtain ⟨r, hr, e1⟩ := least_place_s (st := S2) (n := i) TT (by omega) be el ht (by omega)
    rw [← hLv] at hr
    have r1 := nth_le (e := e) hr (by omega)
    refine ⟨r, hr, ?_, e1⟩
    have := hr.1
    rw [hQ, List.getElem?_map, nth_hits hr r1]
    simp
    omega
  have cq : ∀ fr : Fr, fget fr 6 = some (treeO bs hT nT) → fget fr 14 = some (.int b) → fget fr 15 = some (.int e) → 28 < fr.length →
      lcN (.seq (rng 0 o)) (gN 28) tTrue (eMth [(16, f_LeastTree_least_place)] 101 (eVar 6) (aCons (eVar 14) (aCons (eVar 15) (aCons (eVar 28) aNil)))) (rng 0 o) fr S2 = .ok (Q.map D.int) S2 := fun fr h6 h14 h15 hl => by
    have := lc_rng (g := gN 28) (t := tTrue) (e := eMth [(16, f_LeastTree_least_place)] 101 (eVar 6) (aCons (eVar 14) (aCons (eVar 15) (aCons (eVar 28) aNil)))) (fr := fr) (st := S2) (lo := 0) (n := o) (fun i => (Q[i]?).getD 0) fun i hi => by
      obtain ⟨r, hr, r1, r2⟩ := np i hi
      refine ⟨_, rfl, rfl, ?_⟩
      rw [r1]
      simp [fget_self hl, fget_ne, h6, h14, h15, kMth_o, r2]
    rw [this]
    congr 2
    apply List.ext_getElem?
    intro i
    by_cases c : i < o
    · obtain ⟨r, hr, r1, r2⟩ := np i c
      rw [List.getElem?_map, List.getElem?_range c, r1]
      simp [r1]
    · rw [List.getElem?_eq_none (by simp; omega), List.getElem?_eq_none (by omega)]
  have c3 : ∀ fr : Fr, fget fr 10 = some (.loc k) → fget fr 17 = some (.int Lv) → 21 < fr.length →
      lcN (.seq (rng ((b : Int) + 1) (e - b))) (gN 21) (toB (eBin oEq (eBin oIx (eVar 10) (eVar 21)) (eVar 17))) (eVar 21) (rng ((b : Int) + 1) (e - b)) fr S2 = .ok (Q.map D.int) S2 := fun fr h10 h17 hl => by
    rw [hQ]
    exact c3_s hk2 (by omega) h10 h17 hl
  obtain ⟨rl, hrl, rl1, _⟩ := np (o - 1) (by omega)
  have a9 : f_LeastTree_least_place [treeO (as ++ bs) hM nM, .int ((as.length : Int) + b), .int ((as.length : Int) + e), .int ((o : Int) - 1)] S2 = .ok (.int ((as.length : Int) + rl)) S2 := by
    obtain ⟨r, hr, e1⟩ := least_place_s (st := S2) (n := o - 1) TM (by omega) (by omega) (by omega) hm (by omega)
    have hr2 := hrl.move (as := as)
    rw [rise_app, Int.add_assoc, ← hLv] at hr
    have := hr.uniq hr2
    subst this
    rw [Ab, Ae, show (o : Int) - 1 = ((o - 1 : Nat) : Int) by omega, e1]
    congr 2
  have ixl : ∀ s, oIx (.fl (Q.map D.int)) (.int (-1)) s = .ok (.int rl) s := fun s => by
    rcases List.eq_nil_or_concat Q with h | ⟨l, x, h⟩
    · rw [h] at Ql
      simp at Ql
      omega
    · rw [List.concat_eq_append] at h
      rw [h] at rl1 Ql ⊢
      simp at Ql
      rw [show o - 1 = l.length by omega] at rl1
      simp at rl1
      simp only [oIx, asQ, List.map_append, List.map_cons, List.map_nil, Vi.atI_last, rl1]
  have a10 : e < bs.length → 0 < b → f_LeastTree_least [treeO bs.reverse hB nB, .int ((bs.length : Int) - e - 1), .int ((bs.length : Int) - b - 1)] S2 = .ok (.int (rise bs bs.length - (rise bs b + t.mos))) S2 := fun y1 y2 => by
    obtain ⟨v, hv, _⟩ := between_s (st := S) TB (by omega) (show bs.length - e - 1 < bs.length - b - 1 by omega) (by omega)
    rw [show (bs.length : Int) - e - 1 = ((bs.length - e - 1 : Nat) : Int) by omega, show (bs.length : Int) - b - 1 = ((bs.length - b - 1 : Nat) : Int) by omega,
      least_s (st := S2) TB (by omega) (by omega) (by omega) hv, hv.least_eq (M := rise bs bs.length - (rise bs b + t.mos)) (fun r r1 r2 => by
        rw [rise_rev (by omega)]
        have := ht.mos1 (bs.length - r) (by omega) (by omega)
        omega) (by
        obtain ⟨r, r1, r2, r3⟩ := ht.mos2
        exact ⟨bs.length - r, by omega, by omega, by rw [rise_rev (by omega), show bs.length - (bs.length - r) = r by omega]; omega⟩)]
  -- the searches
  obtain ⟨G, hG⟩ : ∃ G, G = rise bs q + w - 1 := ⟨_, rfl⟩
  obtain ⟨df, sf, f1⟩ := search0' (a := p) (g := G) TT (by omega) (by omega)
  obtain ⟨db, sb, f2⟩ := search1' (a := p) (g := G) TT (by omega) (by omega)
  have f3 : ∀ s, f__law_search [treeO (bs.map fun b => !b) hL nL, .int 0, .int p, .int (0 - G)] s = .ok df s := fun s => by
    obtain ⟨d, hd, e⟩ := search0' (a := p) (g := 0 - G) TL (by omega) (by omega)
    rw [e, (hd.not (by omega)).uniq sf]
  have f4 : ∀ s, f__law_search [treeO (bs.map fun b => !b) hL nL, .int 1, .int p, .int (0 - G)] s = .ok db s := fun s => by
    obtain ⟨d, hd, e⟩ := search1' (a := p) (g := 0 - G) TL (by omega) (by omega)
    rw [e, (hd.not (by omega)).uniq sb]
  have mm : ∀ d, SD d → mir bs.length (mir bs.length d) = d := by
    rintro d (rfl | ⟨r, rfl⟩)
    · rfl
    · show D.int _ = _
      congr 1
      omega
  have mp : (bs.length : Int) - p = ((bs.length - p : Nat) : Int) := by omega
  obtain ⟨g1, s1, f5⟩ := search1' (a := bs.length - p) (g := rise bs bs.length - G) TB (by omega) (by omega)
  obtain ⟨g2, s2, f6⟩ := search0' (a := bs.length - p) (g := rise bs bs.length - G) TB (by omega) (by omega)
  rw [← mp] at f5 f6
  have x1 := (s1.rev (by omega)).uniq sf
  have x2 := (s2.rev (by omega)).uniq sb
  have y1 : g1 = mir bs.length df := by rw [← x1, mm _ s1.sd]
  have y2 : g2 = mir bs.length db := by rw [← x2, mm _ s2.sd]
  have dl : ∀ s, deepEq true (.fl [g1, g2]) (.fl [mir bs.length df, mir bs.length db]) s = .ok (.bl false) s := fun s => by
    rw [← y1, ← y2]
    exact sd_list s1.sd s2.sd
  have dl2 : ∀ s, deepEq true (.fl [df, db]) (.fl [df, db]) s = .ok (.bl false) s := fun s => sd_list sf.sd sb.sd
  have Ap : (as.length : Int) + p = ((as.length + p : Nat) : Int) := by omega
  have f7 : ∀ s, f__law_search [treeO (as ++ bs) hM nM, .int 0, .int ((as.length : Int) + p), .int (rise as as.length + G)] s = .ok (shf as.length df) s := fun s => by
    obtain ⟨d, hd, e⟩ := search0' (a := as.length + p) (g := rise as as.length + G) TM (by omega) (by omega)
    rw [Ap, e, hd.uniq sf.app]
  have sh0 : SD (shf as.length df) := (sf.app (as := as)).sd
  have f8 : ∀ s, ∀ r : Nat, db = .int r → f__law_search [treeO (as ++ bs) hM nM, .int 1, .int ((as.length : Int) + p), .int (rise as as.length + G)] s = .ok (.int ((as.length : Int) + r)) s := fun s r hr => by
    obtain ⟨d, hd, e⟩ := search1' (a := as.length + p) (g := rise as as.length + G) TM (by omega) (by omega)
    rcases sb with ⟨r', hr', rfl⟩ | ⟨_, rfl⟩
    · cases hr
      rw [Ap, e, hd.uniq (SB.app hr')]
    · cases hr
  have ixr : ∀ s : Sto, s[k]? = some (.lst ((rises bs).map D.int)) → ∀ i : Nat, i ≤ bs.length → oIx (.loc k) (.int (i : Int)) s = .ok (.int (rise bs i)) s := fun s hs i hi => by
    simp only [oIx, asQ, hs, Vi.atI_nat, List.getElem?_map, rises_at hi]
    rfl
  have ixe : ∀ s : Sto, s[k]? = some (.lst ((rises bs).map D.int)) → oIx (.loc k) (.int (-1)) s = .ok (.int (rise bs bs.length)) s := fun s hs => by
    simp only [oIx, asQ, hs, rises_last]
  have kr1 : ∀ s, kR1 [.int (o : Int)] s = .ok (.seq (rng 0 o)) s := fun s => by
    have := cnt_le (rise bs) b e Lv
    rw [kR1_s (by omega) (by omega), Int.toNat_natCast]
  have kr2 : ∀ s, kR2 [.int ((b : Int) + 1), .int ((e : Int) + 1)] s = .ok (.seq (rng ((b : Int) + 1) (e - b))) s := fun s => by
    rw [kR2_s (by omega) (by omega) (by omega) (by omega), show ((e : Int) + 1 - (b + 1)).toNat = e - b by omega]
  have kr3 : ∀ s, kR2 [.int ((p : Int) + 1), .int ((bs.length : Int) + 1)] s = .ok (.seq (rng ((p : Int) + 1) (bs.length - p))) s := fun s => by
    rw [kR2_s (by omega) (by omega) (by omega) (by omega), show ((bs.length : Int) + 1 - (p + 1)).toNat = bs.length - p by omega]
  have kr4 : ∀ s, kR1 [.int (p : Int)] s = .ok (.seq (rng 0 p)) s := fun s => by
    rw [kR1_s (by omega) (by omega), Int.toNat_natCast]
  rw [← mb] at t2
  rw [← m1] at t3 t4
  have t5 : f__law_take [.loc n, .int 3] S4 = .ok (.int (w : Nat)) S5 := t5
  obtain ⟨F, hF⟩ : ∃ F, F = P.filter fun v => decide (v = Lv) := ⟨_, rfl⟩
  have Fl : F.length ≤ 4000 := by
    rw [hF]
    have := List.length_filter_le (fun v => decide (v = Lv)) P
    have : P.length = e - b := by rw [hP]; simp [part]
    omega
  have c1 := fun fr h1 h2 => c1_s (S := S2) (fr := fr) (P := P) (L := Lv) (bm S2) h1 h2
  rw [← hF] at c1 po
  have mkI : ∀ X : List Int, ∀ s, X.length ≤ 4000 → mkFl (X.map D.int) s = .ok (.fl (X.map D.int)) s := fun X s hx => by
    unfold mkFl
    rw [if_pos (by simp; omega)]
  obtain ⟨LT, hLT⟩ : ∃ X : List Int, X = (hits (rise bs) p bs.length G).map fun i => ((p + 1 + i : Nat) : Int) := ⟨_, rfl⟩
  obtain ⟨EA, hEA⟩ : ∃ X : List Int, X = ((List.range p).filter fun i => decide (rise bs i = G)).map fun (i : Nat) => (i : Int) := ⟨_, rfl⟩
  have LTl : LT.length ≤ 4000 := by
    rw [hLT, List.length_map, hits_len]
    have := cnt_le (rise bs) p bs.length G
    omega
  have EAl : EA.length ≤ 4000 := by
    rw [hEA, List.length_map]
    have := List.length_filter_le (fun i => decide (rise bs i = G)) (List.range p)
    rw [List.length_range] at this
    omega
  have c4 := fun fr h1 h2 h3 => c4_s (S := S5) (fr := fr) (bs := bs) (k := k) (b := p) (n := bs.length - p) (L := G) hk5 (by omega) h1 h2 h3
  have c5 := fun fr h1 h2 h3 => c5_s (S := S5) (fr := fr) (bs := bs) (k := k) (n := p) (L := G) hk5 (by omega) h1 h2 h3
  have i1 := fun fr h1 => i1_s (S := S5) (fr := fr) (p := p) (g := G) sf h1
  have i2 := fun fr h1 => i2_s (S := S5) (fr := fr) (p := p) (g := G) sb h1
  unfold hits at hLT i1
  rw [← hLT] at c4 i1
  rw [← hEA] at c5 i2
  have i3 := fun fr h1 h2 => i3_s (S := S5) (fr := fr) (m := bs.length) sf.sd sb.sd h1 h2
  have i4 := fun fr h1 h2 => i4_s (A := 0) (S := S5) (fr := fr) (as := as) sf.sd h1 h2
  have i5 := fun fr => i5_s (S := S5) (fr := fr) (as := as) (mv := treeO (as ++ bs) hM nM) sb (f8 S5)
  have i6 := fun fr => i6_s (S := S5) (fr := fr) (k := k) sf hk5 (show p ≤ bs.length by omega)
  have ib : ∀ fr : Fr, fget fr 15 = some (.int e) → fget fr 4 = some (.int bs.length) → fget fr 14 = some (.int b) → bAnd (toB (eBin oLt (eVar 15) (eVar 4))) (toB (eBin oGt (eVar 14) (eC (.int 0)))) fr S2 = .ok (decide (e < bs.length ∧ 0 < b)) S2 := fun fr h1 h2 h3 => by
    by_cases q1 : e < bs.length
    · by_cases q2 : 0 < b
      · have : (e : Int) < bs.length := by omega
        simp [h1, h2, h3, q1, q2]
      · simp [h1, h2, h3, q1, q2]
    · simp [h1, h2, h3, q1]
  have sl2 := sl S2 hk2
  have r1 := ixr S3 hk3 q (by omega)
  have r2 := ixr S4 hk4 q (by omega)
  have rm2 := ixe S2 hk2
  have rm5 := ixe S5 hk5
  have sd1 := fun s => sd_ne (st := s) sf.sd
  have sd2 := fun s => sd_ne (st := s) sb.sd
  have sd3 := fun s => sd_ne (st := s) sh0
  simp only [Int.zero_sub] at f3 f4
  have mk1 := fun s => mkI F s Fl
  have mk2 := fun s => mkI Q s (by have := cnt_le (rise bs) b e Lv; omega)
  have mk3 := fun s => mkI LT s LTl
  have mk4 := fun s => mkI EA s EAl
  by_cases y : e < bs.length ∧ 0 < b
  · have a10' := a10 y.1 y.2
    rw [decide_eq_true y] at ib
    unfold m_law_b2
    simp [-eIf_s, -bAnd_s, t1, t2, ei, sl2, kMth_o, a1, a2, a3, bm, c1, po, ne3, a4, a5, ne2, a6, a7, a8, kr1, cq, mk1, mk2, kr2, c3, neI, a9, ixl, ib, a10', rm2, bM,
      t3, t4, t5, r1, r2, ← hG, f1, f2, kr3, c4, mk3, kr4, c5, mk4, i1, sd1, i2, sd2, f3, f4, dl2, rm5, f5, f6, i3, dl, f7, i4, sd3, i5, i6]
  · rw [decide_eq_false y] at ib
    unfold m_law_b2
    simp [-eIf_s, -bAnd_s, t1, t2, ei, sl2, kMth_o, a1, a2, a3, bm, c1, po, ne3, a4, a5, ne2, a6, a7, a8, kr1, cq, mk1, mk2, kr2, c3, neI, a9, ixl, ib, rm2, bM,
      t3, t4, t5, r1, r2, ← hG, f1, f2, kr3, c4, mk3, kr4, c5, mk4, i1, sd1, i2, sd2, f3, f4, dl2, rm5, f5, f6, i3, dl, f7, i4, sd3, i5, i6]
end Pg
set_option maxRecDepth 100000
set_option maxHeartbeats 8000000
/-! T39: the law. -/
namespace Pg
open PySem PySem.Spec PyProof.Rows L2 Vi
section
variable {S : Sto} {n k : Nat} {bs as : List Bool} {T B L M : D}
theorem loop2 (F : Four bs as T B L M) (l1 : 1 ≤ bs.length) (l2 : bs.length ≤ 59) (l3 : as.length ≤ 20) (dn : DA S n) (nk : k ≠ n) (hk : S[k]? = some (.lst ((rises bs).map D.int))) :
    ∃ S', DA S' n ∧ Kp n S S' ∧ lp_law_b2 (.seq (rng 0 8)) (rng 0 8) (fr_law_b2 (.loc n) (.int bs.length) (rowD as) T B L M (.loc k) (.int (rise as as.length))) S = .nx (fr_law_b2 (.loc n) (.int bs.length) (rowD as) T B L M (.loc k) (.int (rise as as.length))) S' := by
  obtain ⟨fr', s', e, rfl, h1, h2⟩ := for_rng (lo := 0) (n := 8) (g := lg_law_b2) (b := m_law_b2) (fr := fr_law_b2 (.loc n) (.int bs.length) (rowD as) T B L M (.loc k) (.int (rise as as.length))) (st := S)
    (fun i fr s => fr = fr_law_b2 (.loc n) (.int bs.length) (rowD as) T B L M (.loc k) (.int (rise as as.length)) ∧ DA s n ∧ Kp n S s) ⟨rfl, dn, Kp.refl⟩ fun i fr s hi hj => by
      obtain ⟨rfl, h1, h2⟩ := hj
      obtain ⟨S', a1, a2, a3⟩ := b2_s (j := .int (0 + (i : Int))) F l1 l2 l3 h1 nk ((h2.2 k nk).trans hk)
      exact ⟨_, _, rfl, _, _, .inl a3, rfl, a1, h2.trans a2⟩
  exact ⟨s', h1, h2, e⟩
/-- the rises, listed -/
theorem loop1 {A : D} {c : Int} (hk : S[k]? = some (.lst [.int 0])) (hl : bs.length ≤ 59) :
    lp_law_b1 (.seq (bs.map bD)) (bs.map bD) (fr_law_b1 (.loc n) (rowD bs) (.int bs.length) A T B L M (.loc k) (.int c)) S = .nx (fr_law_b1 (.loc n) (rowD bs) (.int bs.length) A T B L M (.loc k) (.int c)) (S.set k (.lst ((rises bs).map D.int))) := by
  have lt := (List.getElem?_eq_some_iff.mp hk).1
  obtain ⟨fr', s', e, rfl, rfl⟩ := for_inv (it := .seq (bs.map bD)) (g := lg_law_b1) (b := m_law_b1)
    (fun i fr s => fr = fr_law_b1 (.loc n) (rowD bs) (.int bs.length) A T B L M (.loc k) (.int c) ∧ s = S.set k (.lst (((List.range (i + 1)).map (rise bs)).map D.int))) (bs.map bD) 0 (fr_law_b1 (.loc n) (rowD bs) (.int bs.length) A T B L M (.loc k) (.int c)) S
    ⟨rfl, by rw [show (List.range (0 + 1)).map (rise bs) = [0] by simp [rise_zero]]; exact (set_id hk).symm⟩ (fun _ _ _ _ => rfl) fun i fr s d hd hj => by
      obtain ⟨rfl, rfl⟩ := hj
      rw [Nat.zero_add]
      obtain ⟨x, hx, rfl⟩ : ∃ x, bs[i]? = some x ∧ bD x = d := by simpa using hd
      have hi := (List.getElem?_eq_some_iff.mp hx).1
      refine ⟨_, _, rfl, _, _, .inl ?_, rfl, rfl⟩
      have lk : (S.set k (.lst (((List.range (i + 1)).map (rise bs)).map D.int)))[k]? = some (.lst (((List.range (i + 1)).map (rise bs)).map D.int)) := List.getElem?_set_self lt
      have ix : oIx (.loc k) (.int (-1)) (S.set k (.lst (((List.range (i + 1)).map (rise bs)).map D.int))) = .ok (.int (rise bs i)) (S.set k (.lst (((List.range (i + 1)).map (rise bs)).map D.int))) := by
        simp only [oIx, asQ, lk]
        rw [List.range_succ, List.map_append, List.map_append]
        simp only [List.map_cons, List.map_nil, Vi.atI_last]
      have ss : ∀ u, (S.set k (.lst (((List.range (i + 1)).map (rise bs)).map D.int))).set k u = S.set k u := fun u => List.set_set ..
      have nx : rise bs i + 2 * bI x - 1 = rise bs (i + 1) := by
        rw [rise_succ hx]
        cases x <;> simp [bI, stp] <;> omega
      have gr : ((List.range (i + 1 + 1)).map (rise bs)).map D.int = ((List.range (i + 1)).map (rise bs)).map D.int ++ [.int (rise bs (i + 1))] := by
        rw [List.range_succ (n := i + 1), List.map_append, List.map_append]
        rfl
      have ll : (((List.range (i + 1)).map (rise bs)).map D.int).length ≤ 16000000 := by simp; omega
      rw [gr]
      generalize ((List.range (i + 1)).map (rise bs)).map D.int = X at *
      generalize S.set k (.lst X) = S1 at *
      unfold m_law_b1
      simp [bD, ix, cMul, smallI, nx, kMt, asL, lk, mAppend, ll, ss]
  rw [List.length_map, Nat.zero_add] at e
  exact e
theorem cr_s {f : Nat → Int} {m v : Nat} {TD : D} {fr : Fr} (hr : ∀ i, i ≤ m → f_LeastTree_rise [TD, .int (i : Nat)] S = .ok (.int (f i)) S) (hc : clsO S 161 TD = some 16) (hv : fget fr v = some TD) (v21 : v ≠ 21) (hl : 21 < fr.length) :
    lcN (.seq (rng 0 (m + 1))) (gN 21) tTrue (eMth [(16, f_LeastTree_rise)] 161 (eVar v) (aCons (eVar 21) aNil)) (rng 0 (m + 1)) fr S = .ok (((List.range (m + 1)).map f).map D.int) S := by
  refine lc_rng _ fun i hi => ⟨_, rfl, rfl, ?_⟩
  have := hr i (by omega)
  simp [fget_self hl, fget_ne v21, hv, kMth_o, hc, this]
theorem cr2_s {f : Nat → Int} {m : Nat} {TD : D} {fr : Fr} (hr : ∀ i : Nat, i ≤ m → f_LeastTree_rise [TD, .int ((as.length : Int) + i)] S = .ok (.int (f i)) S) (hc : clsO S 161 TD = some 16) (hv : fget fr 9 = some TD) (h5 : fget fr 5 = some (rowD as)) (hl : 21 < fr.length) :
    lcN (.seq (rng 0 (m + 1))) (gN 21) tTrue (eMth [(16, f_LeastTree_rise)] 161 (eVar 9) (aCons (eBin (oAddG mkFl) (eB bLen (aCons (eVar 5) aNil)) (eVar 21)) aNil)) (rng 0 (m + 1)) fr S = .ok (((List.range (m + 1)).map f).map D.int) S := by
  refine lc_rng _ fun i hi => ⟨_, rfl, rfl, ?_⟩
  have := hr i (by omega)
  simp [fget_self hl, fget_ne, hv, h5, kMth_o, hc, this]
theorem cs_s {it : ItD} {c : Int} {l : List Int} {fr : Fr} (hh : holdsB it S = true) (hl : 30 < fr.length) :
    lcN it (gN 30) tTrue (eBin oSub (eC (.int c)) (eVar 30)) (l.map D.int) fr S = .ok ((l.map fun x => c - x).map D.int) S := by
  rw [List.map_map]
  refine lc_map D.int _ l hh fun x _ => ⟨_, rfl, rfl, ?_⟩
  simp [fget_self hl]
theorem ca_s {it : ItD} {c : Int} {l : List Int} {fr : Fr} (hh : holdsB it S = true) (h11 : fget fr 11 = some (.int c)) (hl : 30 < fr.length) :
    lcN it (gN 30) tTrue (eBin (oAddG mkFl) (eVar 11) (eVar 30)) (l.map D.int) fr S = .ok ((l.map fun x => c + x).map D.int) S := by
  rw [List.map_map]
  refine lc_map D.int _ l hh fun x _ => ⟨_, rfl, rfl, ?_⟩
  simp [fget_self hl, fget_ne, h11]
theorem cb_s {it : ItD} {c : Int} {l : List Int} {fr : Fr} (hh : holdsB it S = true) (hk : oIx (.loc k) (.int (-1)) S = .ok (.int c) S) (h10 : fget fr 10 = some (.loc k)) (hl : 30 < fr.length) :
    lcN it (gN 30) tTrue (eBin oSub (eBin oIx (eVar 10) (eUn (fun i => -i) (eC (.int 1)))) (eVar 30)) (l.map D.int) fr S = .ok ((l.map fun x => c - x).map D.int) S := by
  rw [List.map_map]
  refine lc_map D.int _ l hh fun x _ => ⟨_, rfl, rfl, ?_⟩
  simp [fget_self hl, fget_ne, h10, hk]
theorem less_s {it : ItD} {l : List Bool} {fr : Fr} (hh : holdsB it S = true) (hl : 12 < fr.length) :
    lcN it (gN 12) tTrue (eBin oSub (eC (.int 1)) (eVar 12)) (l.map bD) fr S = .ok ((l.map fun b => !b).map bD) S := by
  rw [List.map_map]
  refine lc_map bD _ l hh fun x _ => ⟨_, rfl, rfl, ?_⟩
  cases x <;> simp [fget_self hl, bD, bI]
theorem deepEq_fl' {neg : Bool} {st : Sto} {m : Nat} {xs ys : List Int} (h1 : st[m]? = some (.lst (ys.map D.int))) :
    deepEq neg (.fl (xs.map D.int)) (.loc m) st = .ok (.bl (if neg then !decide (xs = ys) else decide (xs = ys))) st := by
  unfold deepEq
  rw [toPD_ints h1 58, toPD_fints 58]
  simp only [shaped_ints, Bool.and_self, if_true, PyData.eqv, eqv_ints]
theorem b0_s {j : D} (dn : DA S n) : ∃ S', DA S' n ∧ m_law_b0 [none, some (.loc n), some j, none, none, none, none, none, none, none, none, none, none, none, none, none, none, none, none, none, none, none, none, none, none, none, none, none, none, none, none] S = .nx (fr_law_b0 (.loc n)) S' := by
  obtain ⟨bs, S1, l1, l2, d1, k1, t1⟩ := da_row dn
  obtain ⟨aw, S2, l3, l4, d2, k2, t2⟩ := da_row d1
  obtain ⟨as, has⟩ : ∃ as, as = aw.take 20 := ⟨_, rfl⟩
  have al : as.length ≤ 20 := by rw [has]; simp; omega
  have b0 : bs ≠ [] := by intro h; rw [h] at l1; simp at l1
  obtain ⟨hT, nT, TT, mT⟩ := tree_mk b0 (by omega) S2
  obtain ⟨hB, nB, TB, mB⟩ := tree_mk (bs := bs.reverse) (by simpa using b0) (by simp; omega) S2
  obtain ⟨hL, nL, TL, mL⟩ := tree_mk (bs := bs.map fun b => !b) (by simpa using b0) (by simp; omega) S2
  obtain ⟨hM, nM, TM, mM⟩ := tree_mk (bs := as ++ bs) (by simp [b0]) (by simp; omega) S2
  have F : Four bs as (treeO bs hT nT) (treeO bs.reverse hB nB) (treeO (bs.map fun b => !b) hL nL) (treeO (as ++ bs) hM nM) := ⟨⟨_, _, TT, rfl⟩, ⟨_, _, TB, rfl⟩, ⟨_, _, TL, rfl⟩, ⟨_, _, TM, rfl⟩⟩
  obtain ⟨S3, hS3⟩ : ∃ S3, S3 = S2 ++ [O.lst [.int 0]] := ⟨_, rfl⟩
  obtain ⟨k, hk⟩ : ∃ k, k = S2.length := ⟨_, rfl⟩
  have nk : k ≠ n := by have := d2.lt; omega
  have k3 : S3[k]? = some (.lst [.int 0]) := by rw [hS3, hk]; simp
  have d3 : DA S3 n := by
    obtain ⟨o, a, b⟩ := d2
    exact ⟨o, by rw [hS3]; exact get_app a, b⟩
  have k3l := (List.getElem?_eq_some_iff.mp k3).1
  obtain ⟨S4, hS4⟩ : ∃ S4, S4 = S3.set k (.lst ((rises bs).map D.int)) := ⟨_, rfl⟩
  have k4 : S4[k]? = some (.lst ((rises bs).map D.int)) := by rw [hS4, List.getElem?_set_self k3l]
  have d4 : DA S4 n := by
    obtain ⟨o, a, b⟩ := d3
    exact ⟨o, by rw [hS4, List.getElem?_set_ne nk]; exact a, b⟩
  have lp1 := loop1 (n := n) (bs := bs) (T := treeO bs hT nT) (B := treeO bs.reverse hB nB) (L := treeO (bs.map fun b => !b) hL nL) (M := treeO (as ++ bs) hM nM) (A := rowD as) (c := rise as as.length) k3 l2
  obtain ⟨S5, d5, _, lp2⟩ := loop2 F l1 l2 al d4 nk k4
  refine ⟨S5, d5, ?_⟩
  have cutA : ∀ s, slD mkFl (rowD aw) none (some 20) s = .ok (rowD as) s := fun s => by
    rw [sl_row, has, show (20 : Int) = ((20 : Nat) : Int) from rfl, cut_hi]
  have st0 : 2 * (ones as : Int) - as.length = rise as as.length := by
    unfold rise tk
    rw [List.take_of_length_le (Nat.le_refl _)]
  have ap : ∀ s, oAddG mkFl (rowD as) (rowD bs) s = .ok (rowD (as ++ bs)) s := fun s => by
    rw [oAddG_tup, if_pos (by simp; omega), ← List.map_append]
  have rv : ∀ s, kRevA mkFl (rowD bs) s = .ok (rowD bs.reverse) s := fun s => by rw [kRevA_t, ← List.map_reverse]
  have q1 := fun fr h => cr_s (S := S4) (f := rise bs) (m := bs.length) (v := 6) (TD := treeO bs hT nT) (fr := fr) (fun i hi => tr_rise hi) (by simp) h (by omega)
  have q2 := fun fr h => cr_s (S := S4) (f := fun i => 0 - rise bs i) (m := bs.length) (v := 8) (TD := treeO (bs.map fun b => !b) hL nL) (fr := fr) (fun i hi => by rw [tr_rise (by simpa using hi), rise_not hi]) (by simp) h (by omega)
  have q3 := fun fr h => cr_s (S := S4) (f := fun i => rise bs bs.length - rise bs (bs.length - i)) (m := bs.length) (v := 7) (TD := treeO bs.reverse hB nB) (fr := fr) (fun i hi => by rw [tr_rise (by simpa using hi), rise_rev hi]) (by simp) h (by omega)
  have q4 := fun fr => cr2_s (as := as) (S := S4) (f := fun i => rise as as.length + rise bs i) (m := bs.length) (TD := treeO (as ++ bs) hM nM) (fr := fr) (fun i hi => by
    rw [show (as.length : Int) + i = ((as.length + i : Nat) : Int) by omega, tr_rise (by simp; omega), rise_app]) (by simp)
  have e2 : (rises bs).map (fun x => 0 - x) = (List.range (bs.length + 1)).map fun i => 0 - rise bs i := by unfold rises; rw [List.map_map]; rfl
  have e4 : (rises bs).map (fun x => rise as as.length + x) = (List.range (bs.length + 1)).map fun i => rise as as.length + rise bs i := by unfold rises; rw [List.map_map]; rfl
  have e3 : (rises bs).reverse.map (fun x => rise bs bs.length - x) = (List.range (bs.length + 1)).map fun i => rise bs bs.length - rise bs (bs.length - i) := by
    apply List.ext_getElem?
    intro i
    by_cases c : i < bs.length + 1
    · rw [List.getElem?_map, List.getElem?_map, List.getElem?_reverse (by simp [rises]; omega), List.getElem?_range c]
      rw [show (rises bs).length - 1 - i = bs.length - i by simp [rises], rises_at (by omega)]
      rfl
    · rw [List.getElem?_eq_none (by simp [rises]; omega), List.getElem?_eq_none (by simp; omega)]
  have rl0 : ∀ f : Nat → Int, ∀ s, mkFl (((List.range (bs.length + 1)).map f).map D.int) s = .ok (.fl (((List.range (bs.length + 1)).map f).map D.int)) s := fun f s => by
    unfold mkFl
    rw [if_pos (by simp; omega)]
  have hc4 : holdsB (.cell k ((rises bs).map D.int)) S4 = true := by simp [holdsB, k4, dbeqs_refl]
  have ks := kSeq_l k4
  have kv : kRevA mkFl (.loc k) S4 = .ok (.fl ((rises bs).reverse.map D.int)) S4 := by
    rw [kRevA_l k4, ← List.map_reverse]
    unfold mkFl
    rw [if_pos (by simp [rises]; omega)]
  have w1 := fun fr hl => cs_s (S := S4) (c := 0) (it := .cell k ((rises bs).map D.int)) (l := rises bs) (fr := fr) hc4 hl
  have w2 := fun fr => ca_s (S := S4) (c := rise as as.length) (it := .cell k ((rises bs).map D.int)) (l := rises bs) (fr := fr) hc4
  have w3 := fun fr => cb_s (S := S4) (c := rise bs bs.length) (k := k) (it := .seq ((rises bs).reverse.map D.int)) (l := (rises bs).reverse) (fr := fr) rfl (by simp only [oIx, asQ, k4, rises_last])
  rw [e2] at w1
  rw [e4] at w2
  rw [e3] at w3
  have w4 := fun fr hl => less_s (S := S2) (it := .seq (bs.map bD)) (l := bs) (fr := fr) rfl hl
  have mkb : ∀ s, mkFl ((bs.map fun b => !b).map bD) s = .ok (.fl ((bs.map fun b => !b).map bD)) s := fun s => by
    unfold mkFl
    rw [if_pos (by simp; omega)]
  have dr : deepEq true (.fl (((List.range (bs.length + 1)).map (rise bs)).map D.int)) (.loc k) S4 = .ok (.bl false) S4 := by
    rw [deepEq_fl' (ys := rises bs) k4]
    simp [rises]
  have kr : ∀ s, kR1 [.int ((bs.length : Int) + 1)] s = .ok (.seq (rng 0 (bs.length + 1))) s := fun s => by
    rw [kR1_s (by omega) (by omega), show ((bs.length : Int) + 1).toNat = bs.length + 1 by omega]
  have k8 : ∀ s, kR1 [.int 8] s = .ok (.seq (rng 0 8)) s := fun s => rfl
  have lst0 : mkLst [.int 0] S2 = .ok (.loc k) S3 := by rw [mkLst1, hk, hS3]
  rw [← hS4] at lp1
  have sr : ∀ s, bSumA [rowD as] s = .ok (.int (ones as)) s := fun s => sum_row as
  have rq : rowD bs = .tup (bs.map bD) := rfl
  have kq : ∀ s, kSeq (rowD bs) s = .ok (.seq (bs.map bD)) s := fun s => rfl
  have tp : ∀ s, bTuple [.fl ((bs.map fun b => !b).map bD)] s = .ok (rowD (bs.map fun b => !b)) s := fun s => rfl
  have lb : ∀ s, bLen [rowD bs] s = .ok (.int bs.length) s := fun s => len_row bs
  have la : ∀ s, bLen [rowD as] s = .ok (.int as.length) s := fun s => len_row as
  generalize rowD (bs.map fun b => !b) = R3 at *
  generalize rowD bs.reverse = R2 at *
  generalize rowD (as ++ bs) = R4 at *
  generalize rowD as = R5 at *
  generalize rowD bs = R1 at *
  generalize rowD aw = R6 at *
  generalize ((bs.map fun b => !b).map bD) = RX at *
  have hX1 := rl0 (rise bs)
  generalize (List.map (rise bs) (List.range (bs.length + 1))) = X1 at *
  have n1 : deepEq true (.fl (((List.range (bs.length + 1)).map fun i => 0 - rise bs i).map D.int)) (.fl (((List.range (bs.length + 1)).map fun i => 0 - rise bs i).map D.int)) S4 = .ok (.bl false) S4 := neI
  have n2 : deepEq true (.fl (((List.range (bs.length + 1)).map fun i => rise bs bs.length - rise bs (bs.length - i)).map D.int)) (.fl (((List.range (bs.length + 1)).map fun i => rise bs bs.length - rise bs (bs.length - i)).map D.int)) S4 = .ok (.bl false) S4 := neI
  have n3 : deepEq true (.fl (((List.range (bs.length + 1)).map fun i => rise as as.length + rise bs i).map D.int)) (.fl (((List.range (bs.length + 1)).map fun i => rise as as.length + rise bs i).map D.int)) S4 = .ok (.bl false) S4 := neI
  have rl1 := rl0 fun i => 0 - rise bs i
  have rl2 := rl0 fun i => rise bs bs.length - rise bs (bs.length - i)
  have rl3 := rl0 fun i => rise as as.length + rise bs i
  generalize ((List.range (bs.length + 1)).map fun i => 0 - rise bs i).map D.int = X2 at *
  generalize ((List.range (bs.length + 1)).map fun i => rise bs bs.length - rise bs (bs.length - i)).map D.int = X3 at *
  generalize ((List.range (bs.length + 1)).map fun i => rise as as.length + rise bs i).map D.int = X4 at *
  have rl4 : ∀ s, mkFl (X1.map D.int) s = .ok (.fl (X1.map D.int)) s := hX1
  unfold m_law_b0
  simp [-List.map_reverse, t1, t2, cutA, mM, mB, mT, mL, rv, w4, mkb, tp, ap, lst0, sr, cMul, smallI, lb, la, st0, kq, lp1, kr, q1, rl4, dr, q2, rl1, ks, w1, n1, q3, rl2, kv, w3, n2, q4, rl3, w2, n3, k8, lp2]
theorem loop0 (dn : DA S n) : ∃ S', lp_law_b0 (.seq (rng 0 4)) (rng 0 4) (fr_law_b0 (.loc n)) S = .nx (fr_law_b0 (.loc n)) S' := by
  obtain ⟨fr', s', e, rfl, h1⟩ := for_rng (lo := 0) (n := 4) (g := lg_law_b0) (b := m_law_b0) (fr := fr_law_b0 (.loc n)) (st := S)
    (fun i fr s => fr = fr_law_b0 (.loc n) ∧ DA s n) ⟨rfl, dn⟩ fun i fr s hi hj => by
      obtain ⟨rfl, h1⟩ := hj
      obtain ⟨S', a1, a2⟩ := b0_s (j := .int (0 + (i : Int))) h1
      exact ⟨_, _, rfl, _, _, .inl a2, rfl, a1⟩
  exact ⟨s', e⟩
end
theorem law_ok : ∀ ns : List Int, ns.length ≤ 63 → ∀ d, (d = .rol (ns.map D.int) ∨ d = .fl (ns.map D.int)) → ∃ st', f_law [d] [] = .ok (.bl true) st' := by
  intro ns hn d hd
  obtain ⟨o0, o1, ho, e⟩ := draws_s hn hd
  obtain ⟨S', e1⟩ := loop0 (S := [o0, o1]) (n := 1) ⟨o1, rfl, ho⟩
  refine ⟨S', ?_⟩
  have k4 : ∀ s, kR1 [.int 4] s = .ok (.seq (rng 0 4)) s := fun s => rfl
  unfold f_law m_law
  rw [mF1]
  simp [e, k4, e1]
end Pg
set_option maxRecDepth 100000
set_option maxHeartbeats 4000000
namespace Pg
open PySem PySem.Spec PyProof.Rows L2 Vi
def topS (i : Nat) : Stmt := PySem.Challenge.pw_bitsoftrees_k83_whole_least_trees_turned.main.body.getD i (.Pass ⟨0, 0, 0, 0⟩)
def bodyS : Stmt → List Stmt
  | .ClassDef _ _ _ b .. => b
  | _ => []
def inS (i j : Nat) : Stmt := (bodyS (topS i)).getD j (.Pass ⟨0, 0, 0, 0⟩)
theorem f_is {X : Cx} {W : WX} {ss : List Stmt} (m : MS) (h : ISs X W ss m) : ISs X W ss m := h
section
variable {P : Program} {w : World} {K : PySem.W.Frag} {mg : Str → Option Value} {base : Heap}

/-! _law_draws -/
abbrev s__law_draws : Stmt := topS 22
theorem sc__law_draws : FnScope ["script", "draws", "cell", "number", "first", "k", "seed"] ["script"] (defScope s__law_draws) := ⟨rfl, rfl, rfl, by decide +kernel, rfl, by decide +kernel, by decide +kernel⟩
theorem d__law_draws {f : Addr} {fd : FuncData} (F : Fun K "_law_draws" "_law_draws" s__law_draws f fd) (hm : mg "_law_draws" = some (.ref f)) {k : Nat} (m_abs : mg "abs" = none) (m_int : mg "int" = none) (m_range : mg "range" = none) (m_len : mg "len" = none) (m_list : mg "list" = none) (m_reversed : mg "reversed" = none) :
    Def P w K mg base "_law_draws" (k + 1) ["script"] f__law_draws := by
  show Def P w K mg base "_law_draws" (k + 1) ["script"] (mF ["script"].length ["script", "draws", "cell", "number", "first", "k", "seed"].length m__law_draws)
  refine def_of (N := ["script", "draws", "cell", "number", "first", "k", "seed"]) F sc__law_draws hm (F.binds fun _ _ _ _ _ _ us hl => match us, hl with | [_], _ => rfl) (m := m__law_draws) (fun cdv A outer s1 H E hr c hp => ?_)
  exact (ss_cons (s_set 1 c.nd (e_lst .l a_nil))
      (ss_cons (s_wS [2, 3, 4, 5, 6] (s_sW [2, 3, 4, 5, 6] (s_for hp c.calm (i_seq (e_var 0)) (g_name 2 c.nd) ng_gN (f_is m__law_draws_b0 (ss_wS [2, 3, 4, 5, 6] (ss_cons (s_set 3 c.nd (e_callB c_abs ne_bAbs (by rfl) m_abs (by decide +kernel) (a_cons (e_var 2) a_nil)))
      (ss_cons (s_if (it_cmp i_lt ne_oI0 (e_var 3) (e_bin i_pow ne_oI e_int e_int)) (ss_cons (s_set 4 c.nd (e_bin i_mod ne_oI (e_callTy c_int ne_bInt (by rfl) m_int (by decide +kernel) (a_cons (e_bin (i_addG .f) (ne_oAddG .f) (e_bin (i_mulG .f) (ne_oMulG .f) (e_var 3) e_int) e_int) a_nil)) e_int))
      (ss_cons (s_expr (e_append (e_var 1) (a_cons (e_bin i_mod ne_oI (e_callTy c_int ne_bInt (by rfl) m_int (by decide +kernel) (a_cons (e_bin (i_addG .f) (ne_oAddG .f) (e_bin (i_mulG .f) (ne_oMulG .f) (e_var 4) e_int) (e_var 3)) a_nil)) e_int) a_nil)))
      (ss_cons (s_expr (e_append (e_var 1) (a_cons (e_bin i_mod ne_oI (e_callTy c_int ne_bInt (by rfl) m_int (by decide +kernel) (a_cons (e_bin (i_addG .f) (ne_oAddG .f) (e_var 4) (e_bin i_fdiv ne_oI (e_var 3) e_int)) a_nil)) e_int) a_nil)))
      (ss_one (s_set 3 c.nd e_int))))) ss_nil)
      (ss_one (s_wS [2, 3, 4, 5, 6] (s_sW [2, 4, 5, 6] (s_for hp c.calm (i_range1 (by rfl) m_range (a_cons e_int a_nil)) (g_name 5 c.nd) ng_gN (f_is m__law_draws_b1 (ss_wS [2, 4, 5, 6] (ss_one (s_if (it_cmp i_gt ne_oI0 (e_var 3) e_int) (ss_cons (s_expr (e_append (e_var 1) (a_cons (e_bin i_mod ne_oI (e_callTy c_int ne_bInt (by rfl) m_int (by decide +kernel) (a_cons (e_var 3) a_nil)) e_int) a_nil)))
      (ss_one (s_set 3 c.nd (e_bin i_fdiv ne_oI (e_var 3) e_int)))) ss_nil)))))))))))))))
      (ss_cons (s_set 6 c.nd e_int)
      (ss_cons (s_if (it_cmp i_gt ne_oI0 (e_callB c_len ne_bLen (by rfl) m_len (by decide +kernel) (a_cons (e_var 0) a_nil)) e_int) (ss_one (s_set 6 c.nd (e_bin (i_addG .f) (ne_oAddG .f) e_int (e_callB c_abs ne_bAbs (by rfl) m_abs (by decide +kernel) (a_cons (e_ix (e_var 0) e_int) a_nil))))) ss_nil)
      (ss_cons (s_wS [0, 2, 3, 4, 5, 6] (s_sW [0, 2, 3, 4, 5] (s_for hp c.calm (i_range1 (by rfl) m_range (a_cons e_int a_nil)) (g_name 5 c.nd) ng_gN (f_is m__law_draws_b2 (ss_wS [0, 2, 3, 4, 5] (ss_cons (s_set 6 c.nd (e_bin i_mod ne_oI (e_callTy c_int ne_bInt (by rfl) m_int (by decide +kernel) (a_cons (e_bin (i_addG .f) (ne_oAddG .f) (e_bin (i_mulG .f) (ne_oMulG .f) (e_var 6) e_int) e_int) a_nil)) e_int))
      (ss_one (s_expr (e_append (e_var 1) (a_cons (e_bin i_fdiv ne_oI (e_var 6) e_int) a_nil))))))))))
      (ss_one (s_ret (e_lrev .l c m_list m_reversed (e_var 1)))))))))

/-! _law_take -/
abbrev s__law_take : Stmt := topS 23
theorem sc__law_take : FnScope ["draws", "bound"] ["draws", "bound"] (defScope s__law_take) := ⟨rfl, rfl, rfl, by decide +kernel, rfl, by decide +kernel, by decide +kernel⟩
theorem d__law_take {f : Addr} {fd : FuncData} (F : Fun K "_law_take" "_law_take" s__law_take f fd) (hm : mg "_law_take" = some (.ref f)) {k : Nat} (m_len : mg "len" = none) (m_int : mg "int" = none) :
    Def P w K mg base "_law_take" (k + 1) ["draws", "bound"] f__law_take := by
  refine (def_of (N := ["draws", "bound"]) F sc__law_take hm (F.binds fun _ _ _ _ _ _ us hl => match us, hl with | [_, _], _ => rfl) (m := m__law_take) (fun cdv A outer s1 H E hr c hp => ?_)).fz
  exact (ss_cons (s_if (it_cmp (i_eq hr.units) ne_oEqN (e_callB c_len ne_bLen (by rfl) m_len (by decide +kernel) (a_cons (e_var 0) a_nil)) e_int) (ss_one (s_ret e_int)) ss_nil)
      (ss_one (s_ret (e_bin i_mod ne_oI (e_callTy c_int ne_bInt (by rfl) m_int (by decide +kernel) (a_cons (e_pop (e_var 0)) a_nil)) (e_var 1)))))

/-! _law_row -/
abbrev s__law_row : Stmt := topS 25
theorem sc__law_row : FnScope ["draws", "kind", "found", "k", "bit"] ["draws"] (defScope s__law_row) := ⟨rfl, rfl, rfl, by decide +kernel, rfl, by decide +kernel, by decide +kernel⟩
theorem d__law_row {f : Addr} {fd : FuncData} (F : Fun K "_law_row" "_law_row" s__law_row f fd) (hm : mg "_law_row" = some (.ref f)) {k : Nat} (m_int : mg "int" = none) (m_range : mg "range" = none) (m_tuple : mg "tuple" = none) (h__law_take : Def P w K mg base "_law_take" k ["draws", "bound"] f__law_take) :
    Def P w K mg base "_law_row" (k + 1) ["draws"] f__law_row := by
  refine (def_of (N := ["draws", "kind", "found", "k", "bit"]) F sc__law_row hm (F.binds fun _ _ _ _ _ _ us hl => match us, hl with | [_], _ => rfl) (m := m__law_row) (fun cdv A outer s1 H E hr c hp => ?_)).fz
  exact (ss_cons (s_par2 1 2 c (a_cons (e_call c h__law_take hr (a_cons (e_var 0) (a_cons e_int a_nil))) (a_cons (e_lst .l a_nil) a_nil)))
      (ss_cons (s_wS [0, 1, 3, 4] (s_sW [3, 4] (s_for hp c.calm (i_range1 (by rfl) m_range (a_cons (e_bin (i_addG .f) (ne_oAddG .f) e_int (e_call c h__law_take hr (a_cons (e_var 0) (a_cons e_int a_nil)))) a_nil)) (g_name 3 c.nd) ng_gN (f_is m__law_row_b0 (ss_wS [3, 4] (ss_cons (s_set 4 c.nd (e_ix (e_lst .f (a_cons (e_call c h__law_take hr (a_cons (e_var 0) (a_cons e_int a_nil))) (a_cons (e_callTy c_int ne_bInt (by rfl) m_int (by decide +kernel) (a_cons (e_cmp (i_eq hr.units) ne_oEqN (e_call c h__law_take hr (a_cons (e_var 0) (a_cons e_int a_nil))) e_int) a_nil)) (a_cons (e_callTy c_int ne_bInt (by rfl) m_int (by decide +kernel) (a_cons (e_cmp i_gt ne_oI0 (e_call c h__law_take hr (a_cons (e_var 0) (a_cons e_int a_nil))) e_int) a_nil)) (a_cons e_int a_nil))))) (e_var 1)))
      (ss_cons (s_if (it_cmp (i_eq hr.units) ne_oEqN (e_var 1) e_int) (ss_one (s_set 4 c.nd (e_if (IW.it (iw_and (it_cmp (i_ne hr.units) ne_oEqN (e_var 2) (e_lst .f a_nil)) (iw_and1 (it_cmp i_gt ne_oI0 (e_call c h__law_take hr (a_cons (e_var 0) (a_cons e_int a_nil))) e_int)))) (e_ix (e_var 2) (e_neg e_int)) (e_call c h__law_take hr (a_cons (e_var 0) (a_cons e_int a_nil)))))) ss_nil)
      (ss_one (s_expr (e_append (e_var 2) (a_cons (e_var 4) a_nil)))))))))))
      (ss_one (s_ret (e_callTy c_tuple ne_bTuple (by rfl) m_tuple (by decide +kernel) (a_cons (e_var 2) a_nil))))))

/-! _law_word -/
abbrev s__law_word : Stmt := topS 24
theorem sc__law_word : FnScope ["e", "kinds", "one"] ["e"] (defScope s__law_word) := ⟨rfl, rfl, rfl, by decide +kernel, rfl, by decide +kernel, by decide +kernel⟩
theorem d__law_word {f : Addr} {fd : FuncData} (F : Fun K "_law_word" "_law_word" s__law_word f fd) (hm : mg "_law_word" = some (.ref f)) {k : Nat} (m_isinstance : mg "isinstance" = none) (m_len : mg "len" = none) {C_OutOfRange : Addr} (a_OutOfRange : clsAt K 3 C_OutOfRange) (g_OutOfRange : mg "OutOfRange" = some (.ref C_OutOfRange)) {C_Malformed : Addr} (a_Malformed : clsAt K 1 C_Malformed) (g_Malformed : mg "Malformed" = some (.ref C_Malformed)) {C_NotThere : Addr} (a_NotThere : clsAt K 2 C_NotThere) (g_NotThere : mg "NotThere" = some (.ref C_NotThere)) {C_Refused : Addr} (a_Refused : clsAt K 4 C_Refused) (g_Refused : mg "Refused" = some (.ref C_Refused)) {C_TooMuch : Addr} (a_TooMuch : clsAt K 5 C_TooMuch) (g_TooMuch : mg "TooMuch" = some (.ref C_TooMuch)) (X : ErrsK K) :
    WordD P w K mg base "_law_word" (k + 1) wordT := by
  refine word_of (m := fun a x => m__law_word a C_OutOfRange C_Malformed C_NotThere C_Refused C_TooMuch x) F sc__law_word hm (F.binds fun _ _ _ _ _ _ us hl => match us, hl with | [_], _ => rfl) (fun cdv A outer s H E p C x ws hw hC hz hf hot hr => ?_) told_word
  have ec := X.exc x C (wordT_lt hw) hC
  have hc : L2H.HotC (L2H.cxH (L2N.CX P w) P w K mg base ["e", "kinds", "one"] "_law_word" (defScope s__law_word) f cdv A outer s H E p) := ⟨p, hot, List.mem_singleton.mpr rfl⟩
  exact (ss_cons (s_set 1 sc__law_word.nd (e_lst .f (a_cons (e_callB (c_isE (List.mem_singleton.mpr rfl) ec hz hf (X.kit x 3 C C_OutOfRange (wordT_lt hw) (by decide) (by decide) hC a_OutOfRange)) ne_bIsE (by rfl) m_isinstance (by decide +kernel) (a_cons (e_var 0) (a_cons (e_glob (v := .ref C_OutOfRange) (by rfl) g_OutOfRange rfl (fun _ _ => rfl)) a_nil))) (a_cons (e_callB (c_isE (List.mem_singleton.mpr rfl) ec hz hf (X.kit x 1 C C_Malformed (wordT_lt hw) (by decide) (by decide) hC a_Malformed)) ne_bIsE (by rfl) m_isinstance (by decide +kernel) (a_cons (e_var 0) (a_cons (e_glob (v := .ref C_Malformed) (by rfl) g_Malformed rfl (fun _ _ => rfl)) a_nil))) (a_cons (e_callB (c_isE (List.mem_singleton.mpr rfl) ec hz hf (X.kit x 2 C C_NotThere (wordT_lt hw) (by decide) (by decide) hC a_NotThere)) ne_bIsE (by rfl) m_isinstance (by decide +kernel) (a_cons (e_var 0) (a_cons (e_glob (v := .ref C_NotThere) (by rfl) g_NotThere rfl (fun _ _ => rfl)) a_nil))) (a_cons (e_callB (c_isE (List.mem_singleton.mpr rfl) ec hz hf (X.kit x 4 C C_Refused (wordT_lt hw) (by decide) (by decide) hC a_Refused)) ne_bIsE (by rfl) m_isinstance (by decide +kernel) (a_cons (e_var 0) (a_cons (e_glob (v := .ref C_Refused) (by rfl) g_Refused rfl (fun _ _ => rfl)) a_nil))) (a_cons (e_callB (c_isE (List.mem_singleton.mpr rfl) ec hz hf (X.kit x 5 C C_TooMuch (wordT_lt hw) (by decide) (by decide) hC a_TooMuch)) ne_bIsE (by rfl) m_isinstance (by decide +kernel) (a_cons (e_var 0) (a_cons (e_glob (v := .ref C_TooMuch) (by rfl) g_TooMuch rfl (fun _ _ => rfl)) a_nil))) a_nil)))))))
      (ss_cons (s_if (it_cmp (i_ne (roomH_units hr)) ne_oEqN (e_callB c_len ne_bLen (by rfl) m_len (by decide +kernel) (a_cons (e_lcH (own := [("one", 2)]) (g0 := gName 2) .f hc sc__law_word.nd (e_var 1) (blkOk_by (by kernel_rfl)) (fun _ _ _ _ _ => gc_name (vs := [2]) 2 sc__law_word.nd) (fun _ _ _ _ _ => its_one (it_val (e_var 2))) (fun _ _ _ _ _ => e_var 2)) a_nil)) e_int) (ss_one (s_ret e_str)) ss_nil)
      (ss_one (s_ret (e_ix (e_lst .f (a_cons e_str (a_cons e_str (a_cons e_str (a_cons e_str (a_cons e_str a_nil)))))) (e_indexB (e_var 1) (a_cons e_bl a_nil)))))))

/-! has_goal -/
abbrev s_has_goal : Stmt := topS 19
theorem sc_has_goal : FnScope ["begin", "turns", "goal"] ["begin", "turns", "goal"] (defScope s_has_goal) := ⟨rfl, rfl, rfl, by decide +kernel, rfl, by decide +kernel, by decide +kernel⟩
theorem d_has_goal {f : Addr} {fd : FuncData} (F : Fun K "has_goal" "has_goal" s_has_goal f fd) (hm : mg "has_goal" = some (.ref f)) {k : Nat} :
    Def P w K mg base "has_goal" (k + 1) ["begin", "turns", "goal"] f_has_goal := by
  refine (def_of (N := ["begin", "turns", "goal"]) F sc_has_goal hm (F.binds fun _ _ _ _ _ _ us hl => match us, hl with | [_, _, _], _ => rfl) (m := m_has_goal) (fun cdv A outer s1 H E hr c hp => ?_)).fz
  exact (ss_one (s_ret (e_chain i_le i_le ne_oI0 ne_oI0 (e_bin (i_addG .f) (ne_oAddG .f) (e_var 0) (e_ix (e_var 1) e_int)) (e_var 2) (e_bin (i_addG .f) (ne_oAddG .f) (e_var 0) (e_ix (e_var 1) e_int)))))

/-! is_number -/
abbrev s_is_number : Stmt := topS 9
theorem sc_is_number : FnScope ["value", "least", "most"] ["value", "least", "most"] (defScope s_is_number) := ⟨rfl, rfl, rfl, by decide +kernel, rfl, by decide +kernel, by decide +kernel⟩
theorem d_is_number {f : Addr} {fd : FuncData} (F : Fun K "is_number" "is_number" s_is_number f fd) (hm : mg "is_number" = some (.ref f)) {k : Nat} (m_int : mg "int" = none) (m_isinstance : mg "isinstance" = none) (m_bool : mg "bool" = none) :
    Def P w K mg base "is_number" (k + 1) ["value", "least", "most"] f_is_number := by
  refine (def_of (N := ["value", "least", "most"]) F sc_is_number hm (F.binds fun _ _ _ _ _ _ us hl => match us, hl with | [_, _, _], _ => rfl) (m := m_is_number) (fun cdv A outer s1 H E hr c hp => ?_)).fz
  exact (ss_one (s_ret (e_and (e_callB c_isi ne_bIsi (by rfl) m_isinstance (by decide +kernel) (a_cons (e_var 0) (a_cons (e_ty (by rfl) m_int (by decide +kernel)) a_nil))) (e_and (e_not (e_callB c_isi ne_bIsi (by rfl) m_isinstance (by decide +kernel) (a_cons (e_var 0) (a_cons (e_ty (by rfl) m_bool (by decide +kernel)) a_nil)))) (e_one (e_chain i_le i_le ne_oI0 ne_oI0 (e_var 1) (e_var 0) (e_var 2)))))))
theorem dq_is_number {f : Addr} {fd : FuncData} (F : Fun K "is_number" "is_number" s_is_number f fd) (hm : mg "is_number" = some (.ref f)) (m_isinstance : mg "isinstance" = none) (m_int : mg "int" = none) (m_bool : mg "bool" = none) :
    DefQ P w K mg base "is_number" 3 180 fq_is_number := by
  refine defq_of (d := 2) (u := 177) F hm (F.binds fun _ _ _ _ _ _ us hl => match us, hl with | [_, _, _], _ => rfl) sc_is_number (by decide +kernel) (by decide +kernel) rfl rfl (by decide) ?_
  exact (iq_and (iq_isiI m_isinstance m_int (by decide +kernel) (iq_var 0)) (iq_and (iq_not (iq_isiI m_isinstance m_bool (by decide +kernel) (iq_var 0))) (iq_one (iq_btw (iq_var 1) (iq_var 0) (iq_var 2)))))

/-! LeastTree.check -/
abbrev s_LeastTree_check : Stmt := inS 20 4
theorem sc_LeastTree_check : FnScope ["self", "place"] ["self", "place"] (defScope s_LeastTree_check) := ⟨rfl, rfl, rfl, by decide +kernel, rfl, by decide +kernel, by decide +kernel⟩
theorem d_LeastTree_check {f : Addr} {fd : FuncData} (F : Fun K "check" "LeastTree.check" s_LeastTree_check f fd) {C : Addr} (hc : clsAt K 16 C) (hC : Cls K C) (hM : Meth K C (anm 34) f) {k : Nat} (k_long : Flds K [16] 114) (r_NotThere : ErrC K mg 2) (h_is_number : Def P w K mg base "is_number" k ["value", "least", "most"] f_is_number) :
    Met P w K mg base 16 34 (k + 1) ["self", "place"] f_LeastTree_check := by
  refine (met_of (N := ["self", "place"]) F sc_LeastTree_check hc hC hM (F.binds fun _ _ _ _ _ _ us hl => match us, hl with | [_, _], _ => rfl) (mm := m_LeastTree_check) (fun cdv A outer s1 H E hr c hp => ?_)).fz
  exact (ss_one (s_if (it_not (it_val (e_call c h_is_number hr (a_cons (e_var 1) (a_cons e_int (a_cons (e_fld (e_var 0) k_long (by decide) (by rfl) (by rfl)) a_nil)))))) (ss_one (s_rs c r_NotThere (by rfl))) ss_nil))

/-! Row.check -/
abbrev s_Row_check : Stmt := inS 15 5
theorem sc_Row_check : FnScope ["self", "place", "most"] ["self", "place", "most"] (defScope s_Row_check) := ⟨rfl, rfl, rfl, by decide +kernel, rfl, by decide +kernel, by decide +kernel⟩
theorem d_Row_check {f : Addr} {fd : FuncData} (F : Fun K "check" "Row.check" s_Row_check f fd) {C : Addr} (hc : clsAt K 25 C) (hC : Cls K C) (hM : Meth K C (anm 34) f) {k : Nat} (r_NotThere : ErrC K mg 2) (h_is_number : Def P w K mg base "is_number" k ["value", "least", "most"] f_is_number) :
    Met P w K mg base 25 34 (k + 1) ["self", "place", "most"] f_Row_check := by
  refine (met_of (N := ["self", "place", "most"]) F sc_Row_check hc hC hM (F.binds fun _ _ _ _ _ _ us hl => match us, hl with | [_, _, _], _ => rfl) (mm := m_Row_check) (fun cdv A outer s1 H E hr c hp => ?_)).fz
  exact (ss_one (s_if (it_not (it_val (e_call c h_is_number hr (a_cons (e_var 1) (a_cons e_int (a_cons (e_var 2) a_nil)))))) (ss_one (s_rs c r_NotThere (by rfl))) ss_nil))

/-! Row.ones_ahead -/
abbrev s_Row_ones_ahead : Stmt := inS 15 7
theorem sc_Row_ones_ahead : FnScope ["self", "place", "block", "inner"] ["self", "place"] (defScope s_Row_ones_ahead) := ⟨rfl, rfl, rfl, by decide +kernel, rfl, by decide +kernel, by decide +kernel⟩
theorem d_Row_ones_ahead {f : Addr} {fd : FuncData} (F : Fun K "ones_ahead" "Row.ones_ahead" s_Row_ones_ahead f fd) {C : Addr} (hc : clsAt K 25 C) (hC : Cls K C) (hM : Meth K C (anm 140) f) {k : Nat} (m_sum : mg "sum" = none) {t_BLOCK : Tok} (g_BLOCK : mg "BLOCK" = some (.int 8 t_BLOCK)) {t_GROUP : Tok} (g_GROUP : mg "GROUP" = some (.int 8 t_GROUP)) (k_looked : Flds K [25, 16] 116) (k_bits : Flds K [25, 16] 24) (k_groups : Flds K [25] 74) (k_blocks : Flds K [25] 26) :
    Met P w K mg base 25 140 (k + 1) ["self", "place"] f_Row_ones_ahead := by
  refine (met_of (N := ["self", "place", "block", "inner"]) F sc_Row_ones_ahead hc hC hM (F.binds fun _ _ _ _ _ _ us hl => match us, hl with | [_, _], _ => rfl) (mm := m_Row_ones_ahead) (fun cdv A outer s1 H E hr c hp => ?_)).fz
  exact (ss_cons (s_lk (e_var 0) e_int k_looked (by rfl))
      (ss_cons (s_set 2 c.nd (e_bin i_fdiv ne_oI (e_var 1) (e_globI (by rfl) g_BLOCK)))
      (ss_cons (s_set 3 c.nd (e_callB (c_sumA c.calm) ne_bSumA (by rfl) m_sum (by decide +kernel) (a_cons (e_sl .f (e_fld (e_var 0) k_bits (by decide) (by rfl) (by rfl)) (p_some (e_bin (i_mulG .f) (ne_oMulG .f) (e_var 2) (e_globI (by rfl) g_BLOCK))) (p_some (e_var 1))) a_nil)))
      (ss_one (s_ret (e_bin (i_addG .f) (ne_oAddG .f) (e_bin (i_addG .f) (ne_oAddG .f) (e_ix (e_fld (e_var 0) k_groups (by decide) (by rfl) (by rfl)) (e_bin i_fdiv ne_oI (e_var 2) (e_globI (by rfl) g_GROUP))) (e_ix (e_fld (e_var 0) k_blocks (by decide) (by rfl) (by rfl)) (e_var 2))) (e_var 3)))))))

/-! Row.count -/
abbrev s_Row_count : Stmt := inS 15 8
theorem sc_Row_count : FnScope ["self", "bit", "place", "ones"] ["self", "bit", "place"] (defScope s_Row_count) := ⟨rfl, rfl, rfl, by decide +kernel, rfl, by decide +kernel, by decide +kernel⟩
theorem d_Row_count {f : Addr} {fd : FuncData} (F : Fun K "count" "Row.count" s_Row_count f fd) {C : Addr} (hc : clsAt K 25 C) (hC : Cls K C) (hM : Meth K C (anm 46) f) {k : Nat} (m_len : mg "len" = none) (k_bits : Flds K [25, 16] 24) (t_check_0 : Mets P w K mg base 34 k [(25, f_Row_check)]) (t_ones_ahead_1 : Mets P w K mg base 140 k [(25, f_Row_ones_ahead)]) :
    Met P w K mg base 25 46 (k + 1) ["self", "bit", "place"] f_Row_count := by
  refine (met_of (N := ["self", "bit", "place", "ones"]) F sc_Row_count hc hC hM (F.binds fun _ _ _ _ _ _ us hl => match us, hl with | [_, _, _], _ => rfl) (mm := m_Row_count) (fun cdv A outer s1 H E hr c hp => ?_)).fz
  exact (ss_cons (s_expr (e_mth c (e_var 0) t_check_0 hr (by decide) (by rfl) (a_cons (e_var 2) (a_cons (e_callB c_len ne_bLen (by rfl) m_len (by decide +kernel) (a_cons (e_fld (e_var 0) k_bits (by decide) (by rfl) (by rfl)) a_nil)) a_nil))))
      (ss_cons (s_set 3 c.nd (e_mth c (e_var 0) t_ones_ahead_1 hr (by decide) (by rfl) (a_cons (e_var 2) a_nil)))
      (ss_one (s_ret (e_if (it_cmp (i_eq hr.units) ne_oEqN (e_var 1) e_int) (e_var 3) (e_bin i_sub ne_oI0 (e_var 2) (e_var 3)))))))

/-! LeastTree.rise -/
abbrev s_LeastTree_rise : Stmt := inS 20 5
theorem sc_LeastTree_rise : FnScope ["self", "place"] ["self", "place"] (defScope s_LeastTree_rise) := ⟨rfl, rfl, rfl, by decide +kernel, rfl, by decide +kernel, by decide +kernel⟩
theorem d_LeastTree_rise {f : Addr} {fd : FuncData} (F : Fun K "rise" "LeastTree.rise" s_LeastTree_rise f fd) {C : Addr} (hc : clsAt K 16 C) (hC : Cls K C) (hM : Meth K C (anm 161) f) {k : Nat} (k_row : Flds K [16] 164) (t_check_0 : Mets P w K mg base 34 k [(16, f_LeastTree_check)]) (t_count_1 : Mets P w K mg base 46 k [(25, f_Row_count)]) :
    Met P w K mg base 16 161 (k + 1) ["self", "place"] f_LeastTree_rise := by
  refine (met_of (N := ["self", "place"]) F sc_LeastTree_rise hc hC hM (F.binds fun _ _ _ _ _ _ us hl => match us, hl with | [_, _], _ => rfl) (mm := m_LeastTree_rise) (fun cdv A outer s1 H E hr c hp => ?_)).fz
  exact (ss_cons (s_expr (e_mth c (e_var 0) t_check_0 hr (by decide) (by rfl) (a_cons (e_var 1) a_nil)))
      (ss_one (s_ret (e_bin i_sub ne_oI0 (e_bin (i_mulG .f) (ne_oMulG .f) e_int (e_mth c (e_fld (e_var 0) k_row (by decide) (by rfl) (by rfl)) t_count_1 hr (by decide) (by rfl) (a_cons e_int (a_cons (e_var 1) a_nil)))) (e_var 1)))))

/-! turns_of -/
abbrev s_turns_of : Stmt := topS 17
theorem sc_turns_of : FnScope ["bits", "rise", "least", "most", "often", "place", "bit"] ["bits"] (defScope s_turns_of) := ⟨rfl, rfl, rfl, by decide +kernel, rfl, by decide +kernel, by decide +kernel⟩
theorem d_turns_of {f : Addr} {fd : FuncData} (F : Fun K "turns_of" "turns_of" s_turns_of f fd) (hm : mg "turns_of" = some (.ref f)) {k : Nat} (m_max : mg "max" = none) (m_enumerate : mg "enumerate" = none) :
    Def P w K mg base "turns_of" (k + 1) ["bits"] f_turns_of := by
  refine (def_of (N := ["bits", "rise", "least", "most", "often", "place", "bit"]) F sc_turns_of hm (F.binds fun _ _ _ _ _ _ us hl => match us, hl with | [_], _ => rfl) (m := m_turns_of) (fun cdv A outer s1 H E hr c hp => ?_)).fz
  exact (ss_cons (s_asg (e_tup (a_cons e_int (a_cons e_int (a_cons (e_neg e_int) (a_cons e_int a_nil))))) (g_tup (n := 4) c.calm (gs_cons (g_name 1 c.nd) (gs_cons (g_name 2 c.nd) (gs_cons (g_name 3 c.nd) (gs_cons (g_name 4 c.nd) gs_nil))))) (ng_gT (ngs_cons ng_gN (ngs_cons ng_gN (ngs_cons ng_gN (ngs_cons ng_gN ngs_nil))))))
      (ss_cons (s_wS [0, 5, 6] (s_sW [5, 6] (s_for hp c.calm (i_enum (by rfl) m_enumerate (a_cons (e_var 0) a_nil)) (g_tup (n := 2) c.calm (gs_cons (g_name 5 c.nd) (gs_cons (g_name 6 c.nd) gs_nil))) (ng_gT (ngs_cons ng_gN (ngs_cons ng_gN ngs_nil))) (f_is m_turns_of_b0 (ss_wS [5, 6] (ss_cons (s_aug 1 c.nd ii_add ne_oI0 (e_if (it_cmp (i_eq hr.units) ne_oEqN (e_var 6) e_int) e_int (e_neg e_int)))
      (ss_cons (s_if (IW.it (iw_or (it_cmp (i_eq hr.units) ne_oEqN (e_var 5) e_int) (iw_or1 (it_cmp i_lt ne_oI0 (e_var 1) (e_var 2))))) (ss_one (s_par2 2 4 c (a_cons (e_var 1) (a_cons e_int a_nil)))) ss_nil)
      (ss_cons (s_aug 4 c.nd ii_add ne_oI0 (e_if (it_cmp (i_eq hr.units) ne_oEqN (e_var 1) (e_var 2)) e_int e_int))
      (ss_one (s_set 3 c.nd (e_if (it_cmp (i_eq hr.units) ne_oEqN (e_var 5) e_int) (e_var 1) (e_callB (c_max c.calm) ne_bMax (by rfl) m_max (by decide +kernel) (a_cons (e_var 3) (a_cons (e_var 1) a_nil))))))))))))))
      (ss_one (s_ret (e_tup (a_cons (e_var 1) (a_cons (e_var 2) (a_cons (e_var 3) (a_cons (e_var 4) a_nil)))))))))

/-! LeastTree.look -/
abbrev s_LeastTree_look : Stmt := inS 20 7
theorem sc_LeastTree_look : FnScope ["self", "piece", "first", "behind", "node"] ["self", "piece"] (defScope s_LeastTree_look) := ⟨rfl, rfl, rfl, by decide +kernel, rfl, by decide +kernel, by decide +kernel⟩
theorem d_LeastTree_look {f : Addr} {fd : FuncData} (F : Fun K "look" "LeastTree.look" s_LeastTree_look f fd) {C : Addr} (hc : clsAt K 16 C) (hC : Cls K C) (hM : Meth K C (anm 115) f) {k : Nat} (k_looked : Flds K [25, 16] 116) (k_bits : Flds K [25, 16] 24) (k_nodes : Flds K [16] 131) (h_turns_of : Def P w K mg base "turns_of" k ["bits"] f_turns_of) :
    Met P w K mg base 16 115 (k + 1) ["self", "piece"] f_LeastTree_look := by
  refine (met_of (N := ["self", "piece", "first", "behind", "node"]) F sc_LeastTree_look hc hC hM (F.binds fun _ _ _ _ _ _ us hl => match us, hl with | [_, _], _ => rfl) (mm := m_LeastTree_look) (fun cdv A outer s1 H E hr c hp => ?_)).fz
  exact (ss_cons (s_lk (e_var 0) e_int k_looked (by rfl))
      (ss_cons (s_asg (e_var 1) (g_tup (n := 3) c.calm (gs_cons (g_name 2 c.nd) (gs_cons (g_name 3 c.nd) (gs_cons (g_name 4 c.nd) gs_nil)))) (ng_gT (ngs_cons ng_gN (ngs_cons ng_gN (ngs_cons ng_gN ngs_nil)))))
      (ss_one (s_ret (e_if (it_cmp i_isN ne_oIsN (e_var 4) e_non) (e_call c h_turns_of hr (a_cons (e_sl .f (e_fld (e_var 0) k_bits (by decide) (by rfl) (by rfl)) (p_some (e_var 2)) (p_some (e_var 3))) a_nil)) (e_ix (e_fld (e_var 0) k_nodes (by decide) (by rfl) (by rfl)) (e_var 4)))))))

/-! LeastTree.halves -/
abbrev s_LeastTree_halves : Stmt := inS 20 9
theorem sc_LeastTree_halves : FnScope ["self", "piece", "first", "behind", "node", "middle"] ["self", "piece"] (defScope s_LeastTree_halves) := ⟨rfl, rfl, rfl, by decide +kernel, rfl, by decide +kernel, by decide +kernel⟩
theorem d_LeastTree_halves {f : Addr} {fd : FuncData} (F : Fun K "halves" "LeastTree.halves" s_LeastTree_halves f fd) {C : Addr} (hc : clsAt K 16 C) (hC : Cls K C) (hM : Meth K C (anm 75) f) {k : Nat} :
    Met P w K mg base 16 75 (k + 1) ["self", "piece"] f_LeastTree_halves := by
  refine (met_of (N := ["self", "piece", "first", "behind", "node", "middle"]) F sc_LeastTree_halves hc hC hM (F.binds fun _ _ _ _ _ _ us hl => match us, hl with | [_, _], _ => rfl) (mm := m_LeastTree_halves) (fun cdv A outer s1 H E hr c hp => ?_)).fz
  exact (ss_cons (s_asg (e_var 1) (g_tup (n := 3) c.calm (gs_cons (g_name 2 c.nd) (gs_cons (g_name 3 c.nd) (gs_cons (g_name 4 c.nd) gs_nil)))) (ng_gT (ngs_cons ng_gN (ngs_cons ng_gN (ngs_cons ng_gN ngs_nil)))))
      (ss_cons (s_set 5 c.nd (e_bin i_fdiv ne_oI (e_bin (i_addG .f) (ne_oAddG .f) (e_var 2) (e_var 3)) e_int))
      (ss_one (s_ret (e_tup (a_cons (e_tup (a_cons (e_var 2) (a_cons (e_var 5) (a_cons (e_bin (i_mulG .f) (ne_oMulG .f) e_int (e_var 4)) a_nil)))) (a_cons (e_tup (a_cons (e_var 5) (a_cons (e_var 3) (a_cons (e_bin (i_addG .f) (ne_oAddG .f) (e_bin (i_mulG .f) (ne_oMulG .f) e_int (e_var 4)) e_int) a_nil)))) a_nil)))))))

/-! LeastTree.is_block -/
abbrev s_LeastTree_is_block : Stmt := inS 20 8
theorem sc_LeastTree_is_block : FnScope ["self", "piece"] ["self", "piece"] (defScope s_LeastTree_is_block) := ⟨rfl, rfl, rfl, by decide +kernel, rfl, by decide +kernel, by decide +kernel⟩
theorem d_LeastTree_is_block {f : Addr} {fd : FuncData} (F : Fun K "is_block" "LeastTree.is_block" s_LeastTree_is_block f fd) {C : Addr} (hc : clsAt K 16 C) (hC : Cls K C) (hM : Meth K C (anm 86) f) {k : Nat} {t_BLOCK : Tok} (g_BLOCK : mg "BLOCK" = some (.int 8 t_BLOCK)) :
    Met P w K mg base 16 86 (k + 1) ["self", "piece"] f_LeastTree_is_block := by
  refine (met_of (N := ["self", "piece"]) F sc_LeastTree_is_block hc hC hM (F.binds fun _ _ _ _ _ _ us hl => match us, hl with | [_, _], _ => rfl) (mm := m_LeastTree_is_block) (fun cdv A outer s1 H E hr c hp => ?_)).fz
  exact (ss_one (s_ret (e_cmp i_le ne_oI0 (e_bin i_sub ne_oI0 (e_ix (e_var 1) e_int) (e_ix (e_var 1) e_int)) (e_globI (by rfl) g_BLOCK))))

/-! LeastTree.first_in -/
abbrev s_LeastTree_first_in : Stmt := inS 20 11
theorem sc_LeastTree_first_in : FnScope ["self", "piece", "now", "goal", "left", "right", "turns", "place"] ["self", "piece", "now", "goal"] (defScope s_LeastTree_first_in) := ⟨rfl, rfl, rfl, by decide +kernel, rfl, by decide +kernel, by decide +kernel⟩
theorem d_LeastTree_first_in {f : Addr} {fd : FuncData} (F : Fun K "first_in" "LeastTree.first_in" s_LeastTree_first_in f fd) {C : Addr} (hc : clsAt K 16 C) (hC : Cls K C) (hM : Meth K C (anm 68) f) {k : Nat} (k_looked : Flds K [25, 16] 116) (k_bits : Flds K [25, 16] 24) (h_has_goal : Def P w K mg base "has_goal" k ["begin", "turns", "goal"] f_has_goal) (t_halves_0 : Mets P w K mg base 75 k [(16, f_LeastTree_halves)]) (t_look_1 : Mets P w K mg base 115 k [(16, f_LeastTree_look)]) (t_is_block_2 : Mets P w K mg base 86 k [(16, f_LeastTree_is_block)]) :
    Met P w K mg base 16 68 (k + 1) ["self", "piece", "now", "goal"] f_LeastTree_first_in := by
  refine (met_of (N := ["self", "piece", "now", "goal", "left", "right", "turns", "place"]) F sc_LeastTree_first_in hc hC hM (F.binds fun _ _ _ _ _ _ us hl => match us, hl with | [_, _, _, _], _ => rfl) (mm := m_LeastTree_first_in) (fun cdv A outer s1 H E hr c hp => ?_)).fz
  exact (ss_cons (s_wS [4, 5, 6, 7] (s_sW [4, 5, 6, 7] (s_while hp (it_not (it_val (e_mth c (e_var 0) t_is_block_2 hr (by decide) (by rfl) (a_cons (e_var 1) a_nil)))) (f_is m_LeastTree_first_in_b0 (ss_wS [4, 5, 6, 7] (ss_cons (s_asg (e_mth c (e_var 0) t_halves_0 hr (by decide) (by rfl) (a_cons (e_var 1) a_nil)) (g_tup (n := 2) c.calm (gs_cons (g_name 4 c.nd) (gs_cons (g_name 5 c.nd) gs_nil))) (ng_gT (ngs_cons ng_gN (ngs_cons ng_gN ngs_nil))))
      (ss_cons (s_set 6 c.nd (e_mth c (e_var 0) t_look_1 hr (by decide) (by rfl) (a_cons (e_var 4) a_nil)))
      (ss_one (s_if (it_val (e_call c h_has_goal hr (a_cons (e_var 2) (a_cons (e_var 6) (a_cons (e_var 3) a_nil))))) (ss_one (s_set 1 c.nd (e_var 4))) (ss_one (s_par2 2 1 c (a_cons (e_bin (i_addG .f) (ne_oAddG .f) (e_var 2) (e_ix (e_var 6) e_int)) (a_cons (e_var 5) a_nil)))))))))))))
      (ss_cons (s_lk (e_var 0) e_int k_looked (by rfl))
      (ss_cons (s_set 7 c.nd (e_ix (e_var 1) e_int))
      (ss_cons (s_wS [0, 1, 2, 3, 4, 5, 6] (s_sW [4, 5, 6] (s_while hp (IW.it (iw_or (it_cmp (i_eq hr.units) ne_oEqN (e_var 7) (e_ix (e_var 1) e_int)) (iw_or1 (it_cmp (i_ne hr.units) ne_oEqN (e_var 2) (e_var 3))))) (f_is m_LeastTree_first_in_b1 (ss_wS [4, 5, 6] (ss_cons (s_aug 2 c.nd ii_add ne_oI0 (e_if (it_cmp (i_eq hr.units) ne_oEqN (e_ix (e_fld (e_var 0) k_bits (by decide) (by rfl) (by rfl)) (e_var 7)) e_int) e_int (e_neg e_int)))
      (ss_one (s_aug 7 c.nd ii_add ne_oI0 e_int))))))))
      (ss_one (s_ret (e_var 7)))))))

/-! LeastTree.pieces -/
abbrev s_LeastTree_pieces : Stmt := inS 20 6
theorem sc_LeastTree_pieces : FnScope ["self", "begin", "end", "found", "place", "behind", "node", "size"] ["self", "begin", "end"] (defScope s_LeastTree_pieces) := ⟨rfl, rfl, rfl, by decide +kernel, rfl, by decide +kernel, by decide +kernel⟩
theorem d_LeastTree_pieces {f : Addr} {fd : FuncData} (F : Fun K "pieces" "LeastTree.pieces" s_LeastTree_pieces f fd) {C : Addr} (hc : clsAt K 16 C) (hC : Cls K C) (hM : Meth K C (anm 150) f) {k : Nat} (m_min : mg "min" = none) {t_BLOCK : Tok} (g_BLOCK : mg "BLOCK" = some (.int 8 t_BLOCK)) (k_high : Flds K [16] 81) :
    Met P w K mg base 16 150 (k + 1) ["self", "begin", "end"] f_LeastTree_pieces := by
  refine (met_of (N := ["self", "begin", "end", "found", "place", "behind", "node", "size"]) F sc_LeastTree_pieces hc hC hM (F.binds fun _ _ _ _ _ _ us hl => match us, hl with | [_, _, _], _ => rfl) (mm := m_LeastTree_pieces) (fun cdv A outer s1 H E hr c hp => ?_)).fz
  exact (ss_cons (s_par2 3 4 c (a_cons (e_lst .l a_nil) (a_cons (e_var 1) a_nil)))
      (ss_cons (s_wS [0, 1, 2, 4, 5, 6, 7] (s_sW [1, 5, 6, 7] (s_while hp (it_cmp i_lt ne_oI0 (e_var 4) (e_var 2)) (f_is m_LeastTree_pieces_b0 (ss_wS [1, 5, 6, 7] (ss_cons (s_if (IW.it (iw_or (it_cmp (i_ne hr.units) ne_oEqN (e_bin i_mod ne_oI (e_var 4) (e_globI (by rfl) g_BLOCK)) e_int) (iw_or1 (it_cmp i_gt ne_oI0 (e_bin (i_addG .f) (ne_oAddG .f) (e_var 4) (e_globI (by rfl) g_BLOCK)) (e_var 2))))) (ss_cons (s_set 5 c.nd (e_callB (c_min c.calm) ne_bMin (by rfl) m_min (by decide +kernel) (a_cons (e_var 2) (a_cons (e_bin (i_addG .f) (ne_oAddG .f) (e_bin (i_mulG .f) (ne_oMulG .f) (e_bin i_fdiv ne_oI (e_var 4) (e_globI (by rfl) g_BLOCK)) (e_globI (by rfl) g_BLOCK)) (e_globI (by rfl) g_BLOCK)) a_nil))))
      (ss_one (s_expr (e_append (e_var 3) (a_cons (e_tup (a_cons (e_var 4) (a_cons (e_var 5) (a_cons e_non a_nil)))) a_nil))))) (ss_cons (s_par2 6 7 c (a_cons (e_bin (i_addG .f) (ne_oAddG .f) (e_bin i_shl ne_oI e_int (e_fld (e_var 0) k_high (by decide) (by rfl) (by rfl))) (e_bin i_fdiv ne_oI (e_var 4) (e_globI (by rfl) g_BLOCK))) (a_cons (e_globI (by rfl) g_BLOCK) a_nil)))
      (ss_cons (s_wS [1, 5] (s_sW [1, 5] (s_while hp (IW.it (iw_and (it_cmp (i_eq hr.units) ne_oEqN (e_bin i_mod ne_oI (e_var 6) e_int) e_int) (iw_and1 (it_cmp i_le ne_oI0 (e_bin (i_addG .f) (ne_oAddG .f) (e_var 4) (e_bin (i_mulG .f) (ne_oMulG .f) e_int (e_var 7))) (e_var 2))))) (f_is m_LeastTree_pieces_b1 (ss_wS [1, 5] (ss_one (s_par2 6 7 c (a_cons (e_bin i_fdiv ne_oI (e_var 6) e_int) (a_cons (e_bin (i_mulG .f) (ne_oMulG .f) e_int (e_var 7)) a_nil)))))))))
      (ss_cons (s_set 5 c.nd (e_bin (i_addG .f) (ne_oAddG .f) (e_var 4) (e_var 7)))
      (ss_one (s_expr (e_append (e_var 3) (a_cons (e_tup (a_cons (e_var 4) (a_cons (e_var 5) (a_cons (e_var 6) a_nil)))) a_nil))))))))
      (ss_one (s_set 4 c.nd (e_var 5)))))))))
      (ss_one (s_ret (e_var 3)))))

/-! LeastTree.forward -/
abbrev s_LeastTree_forward : Stmt := inS 20 10
theorem sc_LeastTree_forward : FnScope ["self", "place", "goal", "now", "piece", "turns"] ["self", "place", "goal"] (defScope s_LeastTree_forward) := ⟨rfl, rfl, rfl, by decide +kernel, rfl, by decide +kernel, by decide +kernel⟩
theorem d_LeastTree_forward {f : Addr} {fd : FuncData} (F : Fun K "forward" "LeastTree.forward" s_LeastTree_forward f fd) {C : Addr} (hc : clsAt K 16 C) (hC : Cls K C) (hM : Meth K C (anm 70) f) {k : Nat} (k_long : Flds K [16] 114) (r_NotThere : ErrC K mg 2) (h_has_goal : Def P w K mg base "has_goal" k ["begin", "turns", "goal"] f_has_goal) (t_rise_0 : Mets P w K mg base 161 k [(16, f_LeastTree_rise)]) (t_look_1 : Mets P w K mg base 115 k [(16, f_LeastTree_look)]) (t_first_in_2 : Mets P w K mg base 68 k [(16, f_LeastTree_first_in)]) (t_pieces_3 : Mets P w K mg base 150 k [(16, f_LeastTree_pieces)]) :
    Met P w K mg base 16 70 (k + 1) ["self", "place", "goal"] f_LeastTree_forward := by
  refine (met_of (N := ["self", "place", "goal", "now", "piece", "turns"]) F sc_LeastTree_forward hc hC hM (F.binds fun _ _ _ _ _ _ us hl => match us, hl with | [_, _, _], _ => rfl) (mm := m_LeastTree_forward) (fun cdv A outer s1 H E hr c hp => ?_)).fz
  exact (ss_cons (s_set 3 c.nd (e_mth c (e_var 0) t_rise_0 hr (by decide) (by rfl) (a_cons (e_var 1) a_nil)))
      (ss_cons (s_wS [0, 1, 2, 3, 4, 5] (s_sW [4, 5] (s_for hp c.calm (i_seq (e_mth c (e_var 0) t_pieces_3 hr (by decide) (by rfl) (a_cons (e_var 1) (a_cons (e_fld (e_var 0) k_long (by decide) (by rfl) (by rfl)) a_nil)))) (g_name 4 c.nd) ng_gN (f_is m_LeastTree_forward_b0 (ss_wS [4, 5] (ss_cons (s_set 5 c.nd (e_mth c (e_var 0) t_look_1 hr (by decide) (by rfl) (a_cons (e_var 4) a_nil)))
      (ss_cons (s_if (it_val (e_call c h_has_goal hr (a_cons (e_var 3) (a_cons (e_var 5) (a_cons (e_var 2) a_nil))))) (ss_one (s_ret (e_mth c (e_var 0) t_first_in_2 hr (by decide) (by rfl) (a_cons (e_var 4) (a_cons (e_var 3) (a_cons (e_var 2) a_nil)))))) ss_nil)
      (ss_one (s_aug 3 c.nd ii_add ne_oI0 (e_ix (e_var 5) e_int))))))))))
      (ss_one (s_rs c r_NotThere (by rfl)))))

/-! LeastTree.last_in -/
abbrev s_LeastTree_last_in : Stmt := inS 20 13
theorem sc_LeastTree_last_in : FnScope ["self", "piece", "now", "goal", "left", "right", "turns", "place"] ["self", "piece", "now", "goal"] (defScope s_LeastTree_last_in) := ⟨rfl, rfl, rfl, by decide +kernel, rfl, by decide +kernel, by decide +kernel⟩
theorem d_LeastTree_last_in {f : Addr} {fd : FuncData} (F : Fun K "last_in" "LeastTree.last_in" s_LeastTree_last_in f fd) {C : Addr} (hc : clsAt K 16 C) (hC : Cls K C) (hM : Meth K C (anm 96) f) {k : Nat} (k_looked : Flds K [25, 16] 116) (k_bits : Flds K [25, 16] 24) (h_has_goal : Def P w K mg base "has_goal" k ["begin", "turns", "goal"] f_has_goal) (t_halves_0 : Mets P w K mg base 75 k [(16, f_LeastTree_halves)]) (t_look_1 : Mets P w K mg base 115 k [(16, f_LeastTree_look)]) (t_is_block_2 : Mets P w K mg base 86 k [(16, f_LeastTree_is_block)]) :
    Met P w K mg base 16 96 (k + 1) ["self", "piece", "now", "goal"] f_LeastTree_last_in := by
  refine (met_of (N := ["self", "piece", "now", "goal", "left", "right", "turns", "place"]) F sc_LeastTree_last_in hc hC hM (F.binds fun _ _ _ _ _ _ us hl => match us, hl with | [_, _, _, _], _ => rfl) (mm := m_LeastTree_last_in) (fun cdv A outer s1 H E hr c hp => ?_)).fz
  exact (ss_cons (s_wS [4, 5, 6, 7] (s_sW [4, 5, 6, 7] (s_while hp (it_not (it_val (e_mth c (e_var 0) t_is_block_2 hr (by decide) (by rfl) (a_cons (e_var 1) a_nil)))) (f_is m_LeastTree_last_in_b0 (ss_wS [4, 5, 6, 7] (ss_cons (s_asg (e_mth c (e_var 0) t_halves_0 hr (by decide) (by rfl) (a_cons (e_var 1) a_nil)) (g_tup (n := 2) c.calm (gs_cons (g_name 4 c.nd) (gs_cons (g_name 5 c.nd) gs_nil))) (ng_gT (ngs_cons ng_gN (ngs_cons ng_gN ngs_nil))))
      (ss_cons (s_set 6 c.nd (e_mth c (e_var 0) t_look_1 hr (by decide) (by rfl) (a_cons (e_var 5) a_nil)))
      (ss_one (s_if (it_val (e_call c h_has_goal hr (a_cons (e_bin i_sub ne_oI0 (e_var 2) (e_ix (e_var 6) e_int)) (a_cons (e_var 6) (a_cons (e_var 3) a_nil))))) (ss_one (s_set 1 c.nd (e_var 5))) (ss_one (s_par2 2 1 c (a_cons (e_bin i_sub ne_oI0 (e_var 2) (e_ix (e_var 6) e_int)) (a_cons (e_var 4) a_nil)))))))))))))
      (ss_cons (s_lk (e_var 0) e_int k_looked (by rfl))
      (ss_cons (s_set 7 c.nd (e_ix (e_var 1) e_int))
      (ss_cons (s_wS [0, 1, 2, 3, 4, 5, 6] (s_sW [1, 4, 5, 6] (s_while hp (it_cmp (i_ne hr.units) ne_oEqN (e_var 2) (e_var 3)) (f_is m_LeastTree_last_in_b1 (ss_wS [1, 4, 5, 6] (ss_cons (s_aug 7 c.nd ii_sub ne_oI0 e_int)
      (ss_one (s_aug 2 c.nd ii_sub ne_oI0 (e_if (it_cmp (i_eq hr.units) ne_oEqN (e_ix (e_fld (e_var 0) k_bits (by decide) (by rfl) (by rfl)) (e_var 7)) e_int) e_int (e_neg e_int))))))))))
      (ss_one (s_ret (e_var 7)))))))

/-! LeastTree.backward -/
abbrev s_LeastTree_backward : Stmt := inS 20 12
theorem sc_LeastTree_backward : FnScope ["self", "place", "goal", "now", "piece", "turns"] ["self", "place", "goal"] (defScope s_LeastTree_backward) := ⟨rfl, rfl, rfl, by decide +kernel, rfl, by decide +kernel, by decide +kernel⟩
theorem d_LeastTree_backward {f : Addr} {fd : FuncData} (F : Fun K "backward" "LeastTree.backward" s_LeastTree_backward f fd) {C : Addr} (hc : clsAt K 16 C) (hC : Cls K C) (hM : Meth K C (anm 13) f) {k : Nat} (r_NotThere : ErrC K mg 2) (h_has_goal : Def P w K mg base "has_goal" k ["begin", "turns", "goal"] f_has_goal) (t_check_0 : Mets P w K mg base 34 k [(16, f_LeastTree_check)]) (t_rise_1 : Mets P w K mg base 161 k [(16, f_LeastTree_rise)]) (t_look_2 : Mets P w K mg base 115 k [(16, f_LeastTree_look)]) (t_last_in_3 : Mets P w K mg base 96 k [(16, f_LeastTree_last_in)]) (t_pieces_4 : Mets P w K mg base 150 k [(16, f_LeastTree_pieces)]) :
    Met P w K mg base 16 13 (k + 1) ["self", "place", "goal"] f_LeastTree_backward := by
  refine (met_of (N := ["self", "place", "goal", "now", "piece", "turns"]) F sc_LeastTree_backward hc hC hM (F.binds fun _ _ _ _ _ _ us hl => match us, hl with | [_, _, _], _ => rfl) (mm := m_LeastTree_backward) (fun cdv A outer s1 H E hr c hp => ?_)).fz
  exact (ss_cons (s_expr (e_mth c (e_var 0) t_check_0 hr (by decide) (by rfl) (a_cons (e_var 1) a_nil)))
      (ss_cons (s_if (it_cmp (i_eq hr.units) ne_oEqN (e_var 1) e_int) (ss_one (s_rs c r_NotThere (by rfl))) ss_nil)
      (ss_cons (s_set 3 c.nd (e_mth c (e_var 0) t_rise_1 hr (by decide) (by rfl) (a_cons (e_bin i_sub ne_oI0 (e_var 1) e_int) a_nil)))
      (ss_cons (s_wS [0, 1, 3, 4, 5] (s_sW [4, 5] (s_for hp c.calm (i_seq (e_revA .f (e_mth c (e_var 0) t_pieces_4 hr (by decide) (by rfl) (a_cons e_int (a_cons (e_bin i_sub ne_oI0 (e_var 1) e_int) a_nil))))) (g_name 4 c.nd) ng_gN (f_is m_LeastTree_backward_b0 (ss_wS [4, 5] (ss_cons (s_set 5 c.nd (e_mth c (e_var 0) t_look_2 hr (by decide) (by rfl) (a_cons (e_var 4) a_nil)))
      (ss_cons (s_if (it_val (e_call c h_has_goal hr (a_cons (e_bin i_sub ne_oI0 (e_var 3) (e_ix (e_var 5) e_int)) (a_cons (e_var 5) (a_cons (e_var 2) a_nil))))) (ss_one (s_ret (e_mth c (e_var 0) t_last_in_3 hr (by decide) (by rfl) (a_cons (e_var 4) (a_cons (e_var 3) (a_cons (e_var 2) a_nil)))))) ss_nil)
      (ss_one (s_aug 3 c.nd ii_sub ne_oI0 (e_ix (e_var 5) e_int))))))))))
      (ss_cons (s_if (it_cmp (i_ne hr.units) ne_oEqN (e_var 2) e_int) (ss_one (s_rs c r_NotThere (by rfl))) ss_nil)
      (ss_one (s_ret e_int)))))))

/-! _law_search -/
abbrev s__law_search : Stmt := topS 26
theorem sc__law_search : FnScope ["tree", "which", "place", "goal", "e"] ["tree", "which", "place", "goal"] (defScope s__law_search) := ⟨rfl, rfl, rfl, by decide +kernel, rfl, by decide +kernel, by decide +kernel⟩
theorem d__law_search {f : Addr} {fd : FuncData} (F : Fun K "_law_search" "_law_search" s__law_search f fd) (hm : mg "_law_search" = some (.ref f)) {k : Nat} {C_BitsError : Addr} (g_BitsError : mg "BitsError" = some (.ref C_BitsError)) (T_BitsError : Subs K (.ref C_BitsError) [(0, true), (3, true), (1, true), (2, true), (4, true), (5, true)]) (w__law_word : WordD P w K mg base "_law_word" k wordT) (t_forward_0 : Mets P w K mg base 70 k [(16, f_LeastTree_forward)]) (t_backward_1 : Mets P w K mg base 13 k [(16, f_LeastTree_backward)]) :
    Def P w K mg base "_law_search" (k + 1) ["tree", "which", "place", "goal"] f__law_search := by
  refine (def_of (N := ["tree", "which", "place", "goal", "e"]) F sc__law_search hm (F.binds fun _ _ _ _ _ _ us hl => match us, hl with | [_, _, _, _], _ => rfl) (m := m__law_search) (fun cdv A outer s1 H E hr c hp => ?_)).fz
  exact (ss_one (s_tryW (i := 4) c rfl rfl ⟨by rfl, by decide, .inl g_BitsError⟩ T_BitsError w__law_word hr (fun _ _ _ c hp => (ss_one (s_ret (e_if (it_cmp (i_eq hr.units) ne_oEqN (e_var 1) e_int) (e_mth c (e_var 0) t_forward_0 hr (by decide) (by rfl) (a_cons (e_var 2) (a_cons (e_var 3) a_nil))) (e_mth c (e_var 0) t_backward_1 hr (by decide) (by rfl) (a_cons (e_var 2) (a_cons (e_var 3) a_nil)))))))))

/-! is_row -/
abbrev s_is_row : Stmt := topS 14
theorem sc_is_row : FnScope ["value", "bit"] ["value"] (defScope s_is_row) := ⟨rfl, rfl, rfl, by decide +kernel, rfl, by decide +kernel, by decide +kernel⟩
theorem d_is_row {f : Addr} {fd : FuncData} (F : Fun K "is_row" "is_row" s_is_row f fd) (hm : mg "is_row" = some (.ref f)) {c9 P9 : Addr} (hcode : fd.code = .ref c9) (TB : LamX.TabB base mg c9 P9) (hIT : IsTab K P9) {k : Nat} (m_tuple : mg "tuple" = none) (m_isinstance : mg "isinstance" = none) (m_len : mg "len" = none) (m_all : mg "all" = none) {t_MOST_BITS : Tok} (g_MOST_BITS : mg "MOST_BITS" = some (.int 4000 t_MOST_BITS)) (q_is_number : DefQ P w K mg base "is_number" 3 180 fq_is_number) :
    Def P w K mg base "is_row" (k + 1) ["value"] f_is_row := by
  refine (def_ofT (N := ["value", "bit"]) F hcode sc_is_row hm (F.binds fun _ _ _ _ _ _ us hl => match us, hl with | [_], _ => rfl) (m := m_is_row) (fun A outer s1 H E hr c hp => ?_)).fz
  exact (ss_one (s_ret (e_and (e_callB c_isi ne_bIsi (by rfl) m_isinstance (by decide +kernel) (a_cons (e_var 0) (a_cons (e_ty (by rfl) m_tuple (by decide +kernel)) a_nil))) (e_and (e_cmp i_le ne_oI0 (e_callB c_len ne_bLen (by rfl) m_len (by decide +kernel) (a_cons (e_var 0) a_nil)) (e_globI (by rfl) g_MOST_BITS)) (e_one (e_allG (x := "bit") (i := 1) (.inr rfl) c hr TB rfl hIT m_all (e_var 0) (blkOk_by (by kernel_rfl)) ⟨rfl, by decide +kernel, by decide +kernel, by decide +kernel⟩ (iq_call q_is_number (iqa_cons (iq_var 1) (iqa_cons iq_int (iqa_cons iq_int iqa_nil))))))))))

/-! put_together -/
abbrev s_put_together : Stmt := topS 18
theorem sc_put_together : FnScope ["one", "other", "low", "high", "often"] ["one", "other"] (defScope s_put_together) := ⟨rfl, rfl, rfl, by decide +kernel, rfl, by decide +kernel, by decide +kernel⟩
theorem d_put_together {f : Addr} {fd : FuncData} (F : Fun K "put_together" "put_together" s_put_together f fd) (hm : mg "put_together" = some (.ref f)) {k : Nat} (m_max : mg "max" = none) (m_min : mg "min" = none) :
    Def P w K mg base "put_together" (k + 1) ["one", "other"] f_put_together := by
  refine (def_of (N := ["one", "other", "low", "high", "often"]) F sc_put_together hm (F.binds fun _ _ _ _ _ _ us hl => match us, hl with | [_, _], _ => rfl) (m := m_put_together) (fun cdv A outer s1 H E hr c hp => ?_)).fz
  exact (ss_cons (s_if (IW.it (iw_or (it_cmp i_isN ne_oIsN (e_var 0) e_non) (iw_or1 (it_cmp i_isN ne_oIsN (e_var 1) e_non)))) (ss_one (s_ret (e_if (it_cmp i_isN ne_oIsN (e_var 1) e_non) (e_var 0) (e_var 1)))) ss_nil)
      (ss_cons (s_par2 2 3 c (a_cons (e_bin (i_addG .f) (ne_oAddG .f) (e_ix (e_var 0) e_int) (e_ix (e_var 1) e_int)) (a_cons (e_bin (i_addG .f) (ne_oAddG .f) (e_ix (e_var 0) e_int) (e_ix (e_var 1) e_int)) a_nil)))
      (ss_cons (s_set 4 c.nd (e_bin (i_addG .f) (ne_oAddG .f) (e_if (it_cmp i_le ne_oI0 (e_ix (e_var 0) e_int) (e_var 2)) (e_ix (e_var 0) e_int) e_int) (e_if (it_cmp i_le ne_oI0 (e_var 2) (e_ix (e_var 0) e_int)) (e_ix (e_var 1) e_int) e_int)))
      (ss_one (s_ret (e_tup (a_cons (e_bin (i_addG .f) (ne_oAddG .f) (e_ix (e_var 0) e_int) (e_ix (e_var 1) e_int)) (a_cons (e_callB (c_min c.calm) ne_bMin (by rfl) m_min (by decide +kernel) (a_cons (e_ix (e_var 0) e_int) (a_cons (e_var 2) a_nil))) (a_cons (e_callB (c_max c.calm) ne_bMax (by rfl) m_max (by decide +kernel) (a_cons (e_ix (e_var 0) e_int) (a_cons (e_var 3) a_nil))) (a_cons (e_var 4) a_nil))))))))))

/-! Row.__init__ -/
abbrev s_Row_init : Stmt := inS 15 0
theorem sc_Row_init : FnScope ["self", "bits", "total", "place"] ["self", "bits"] (defScope s_Row_init) := ⟨rfl, rfl, rfl, by decide +kernel, rfl, by decide +kernel, by decide +kernel⟩
theorem d_Row_init {f : Addr} {fd : FuncData} (F : Fun K "__init__" "Row.__init__" s_Row_init f fd) {C : Addr} (hc : clsAt K 25 C) (hC : mg (cnm 25) = some (.ref C)) (hM : Mk K C f) {k : Nat} (m_sum : mg "sum" = none) (m_len : mg "len" = none) (m_range : mg "range" = none) {t_BLOCK : Tok} (g_BLOCK : mg "BLOCK" = some (.int 8 t_BLOCK)) {t_GROUP : Tok} (g_GROUP : mg "GROUP" = some (.int 8 t_GROUP)) (k_bits : Flds K [25, 16] 24) (k_groups : Flds K [25] 74) (k_blocks : Flds K [25] 26) (k_looked : Flds K [25, 16] 116) (k_ones : Flds K [25] 139) (r_Malformed : ErrC K mg 1) (h_is_row : Def P w K mg base "is_row" k ["value"] f_is_row) :
    Mak P w K mg base 25 (k + 1) ["self", "bits"] f_Row_init := by
  show Mak P w K mg base 25 (k + 1) ["self", "bits"] (mF ["self", "bits"].length ["self", "bits", "total", "place"].length m_Row_init)
  refine mak_of (N := ["self", "bits", "total", "place"]) F sc_Row_init hc hC hM (F.binds fun _ _ _ _ _ _ us hl => match us, hl with | [_, _], _ => rfl) (mm := m_Row_init) (fun cdv A outer s1 H E hr c hp => ?_)
  exact (ss_cons (s_if (it_not (it_val (e_call c h_is_row hr (a_cons (e_var 1) a_nil)))) (ss_one (s_rs c r_Malformed (by rfl))) ss_nil)
      (ss_cons (s_fld (e_var 0) (e_var 1) k_bits (by decide) (by rfl) (by rfl))
      (ss_cons (s_fld (e_var 0) (e_lst .l (a_cons e_int a_nil)) k_groups (by decide) (by rfl) (by rfl))
      (ss_cons (s_fld (e_var 0) (e_lst .l a_nil) k_blocks (by decide) (by rfl) (by rfl))
      (ss_cons (s_fld (e_var 0) (e_cnt e_int) k_looked (by decide) (by rfl) (by rfl))
      (ss_cons (s_set 2 c.nd e_int)
      (ss_cons (s_wS [1, 3] (s_sW [3] (s_for hp c.calm (i_range3 (by rfl) m_range (a_cons e_int (a_cons (e_bin (i_addG .f) (ne_oAddG .f) (e_callB c_len ne_bLen (by rfl) m_len (by decide +kernel) (a_cons (e_var 1) a_nil)) e_int) (a_cons (e_globI (by rfl) g_BLOCK) a_nil)))) (g_name 3 c.nd) ng_gN (f_is m_Row_init_b0 (ss_wS [3] (ss_cons (s_if (IW.it (iw_and (it_cmp i_gt ne_oI0 (e_var 3) e_int) (iw_and1 (it_cmp (i_eq hr.units) ne_oEqN (e_bin i_mod ne_oI (e_var 3) (e_bin (i_mulG .f) (ne_oMulG .f) (e_globI (by rfl) g_BLOCK) (e_globI (by rfl) g_GROUP))) e_int)))) (ss_one (s_expr (e_append (e_fld (e_var 0) k_groups (by decide) (by rfl) (by rfl)) (a_cons (e_var 2) a_nil)))) ss_nil)
      (ss_cons (s_expr (e_append (e_fld (e_var 0) k_blocks (by decide) (by rfl) (by rfl)) (a_cons (e_bin i_sub ne_oI0 (e_var 2) (e_ix (e_fld (e_var 0) k_groups (by decide) (by rfl) (by rfl)) (e_neg e_int))) a_nil)))
      (ss_one (s_aug 2 c.nd ii_add ne_oI0 (e_callB (c_sumA c.calm) ne_bSumA (by rfl) m_sum (by decide +kernel) (a_cons (e_sl .f (e_var 1) (p_some (e_var 3)) (p_some (e_bin (i_addG .f) (ne_oAddG .f) (e_var 3) (e_globI (by rfl) g_BLOCK)))) a_nil)))))))))))
      (ss_one (s_fld (e_var 0) (e_var 2) k_ones (by decide) (by rfl) (by rfl))))))))))

/-! LeastTree.__init__ -/
abbrev s_LeastTree_init : Stmt := inS 20 0
theorem sc_LeastTree_init : FnScope ["self", "bits", "many", "block", "inner", "node"] ["self", "bits"] (defScope s_LeastTree_init) := ⟨rfl, rfl, rfl, by decide +kernel, rfl, by decide +kernel, by decide +kernel⟩
theorem d_LeastTree_init {f : Addr} {fd : FuncData} (F : Fun K "__init__" "LeastTree.__init__" s_LeastTree_init f fd) {C : Addr} (hc : clsAt K 16 C) (hC : mg (cnm 16) = some (.ref C)) (hM : Mk K C f) {k : Nat} (m_len : mg "len" = none) (m_range : mg "range" = none) {t_BLOCK : Tok} (g_BLOCK : mg "BLOCK" = some (.int 8 t_BLOCK)) (k_row : Flds K [16] 164) (k_bits : Flds K [25, 16] 24) (k_long : Flds K [16] 114) (k_high : Flds K [16] 81) (k_nodes : Flds K [16] 131) (k_looked : Flds K [25, 16] 116) (r_Malformed : ErrC K mg 1) (h_is_row : Def P w K mg base "is_row" k ["value"] f_is_row) (h_turns_of : Def P w K mg base "turns_of" k ["bits"] f_turns_of) (h_put_together : Def P w K mg base "put_together" k ["one", "other"] f_put_together) (x_Row : Mak P w K mg base 25 k ["self", "bits"] f_Row_init) :
    Mak P w K mg base 16 ((k + 1) + 1) ["self", "bits"] f_LeastTree_init := by
  show Mak P w K mg base 16 ((k + 1) + 1) ["self", "bits"] (mF ["self", "bits"].length ["self", "bits", "many", "block", "inner", "node"].length m_LeastTree_init)
  refine mak_of (N := ["self", "bits", "many", "block", "inner", "node"]) F sc_LeastTree_init hc hC hM (F.binds fun _ _ _ _ _ _ us hl => match us, hl with | [_, _], _ => rfl) (mm := m_LeastTree_init) (fun cdv A outer s1 H E hr c hp => ?_)
  exact (ss_cons (s_if (IW.it (iw_or (it_not (it_val (e_call c h_is_row (hr.mono (Nat.le_succ _)) (a_cons (e_var 1) a_nil)))) (iw_or1 (it_cmp (i_eq hr.units) ne_oEqN (e_callB c_len ne_bLen (by rfl) m_len (by decide +kernel) (a_cons (e_var 1) a_nil)) e_int)))) (ss_one (s_rs c r_Malformed (by rfl))) ss_nil)
      (ss_cons (s_fld (e_var 0) (e_mkF c x_Row hr (by rfl) (a_cons (e_var 1) a_nil)) k_row (by decide) (by rfl) (by rfl))
      (ss_cons (s_fld (e_var 0) (e_var 1) k_bits (by decide) (by rfl) (by rfl))
      (ss_cons (s_fld (e_var 0) (e_callB c_len ne_bLen (by rfl) m_len (by decide +kernel) (a_cons (e_var 1) a_nil)) k_long (by decide) (by rfl) (by rfl))
      (ss_cons (s_fld (e_var 0) e_int k_high (by decide) (by rfl) (by rfl))
      (ss_cons (s_wS [2, 3, 4, 5] (s_sW [2, 3, 4, 5] (s_while hp (it_cmp i_lt ne_oI0 (e_bin i_shl ne_oI (e_globI (by rfl) g_BLOCK) (e_fld (e_var 0) k_high (by decide) (by rfl) (by rfl))) (e_fld (e_var 0) k_long (by decide) (by rfl) (by rfl))) (f_is m_LeastTree_init_b0 (ss_wS [2, 3, 4, 5] (ss_one (s_flda (e_var 0) ii_add ne_oI0 e_int k_high (by decide) (by rfl))))))))
      (ss_cons (s_set 2 c.nd (e_bin i_shl ne_oI e_int (e_fld (e_var 0) k_high (by decide) (by rfl) (by rfl))))
      (ss_cons (s_fld (e_var 0) (e_bin (i_mulG .l) (ne_oMulG .l) (e_lst .f (a_cons e_non a_nil)) (e_bin (i_mulG .f) (ne_oMulG .f) e_int (e_var 2))) k_nodes (by decide) (by rfl) (by rfl))
      (ss_cons (s_wS [1, 3, 4, 5] (s_sW [3, 4, 5] (s_for hp c.calm (i_range1 (by rfl) m_range (a_cons (e_var 2) a_nil)) (g_name 3 c.nd) ng_gN (f_is m_LeastTree_init_b1 (ss_wS [3, 4, 5] (ss_cons (s_set 4 c.nd (e_sl .f (e_var 1) (p_some (e_bin (i_mulG .f) (ne_oMulG .f) (e_var 3) (e_globI (by rfl) g_BLOCK))) (p_some (e_bin (i_addG .f) (ne_oAddG .f) (e_bin (i_mulG .f) (ne_oMulG .f) (e_var 3) (e_globI (by rfl) g_BLOCK)) (e_globI (by rfl) g_BLOCK)))))
      (ss_one (s_asg (e_if (it_cmp i_gt ne_oI0 (e_callB c_len ne_bLen (by rfl) m_len (by decide +kernel) (a_cons (e_var 4) a_nil)) e_int) (e_call c h_turns_of (hr.mono (Nat.le_succ _)) (a_cons (e_var 4) a_nil)) e_non) (g_sub (e_fld (e_var 0) k_nodes (by decide) (by rfl) (by rfl)) (e_bin (i_addG .f) (ne_oAddG .f) (e_var 2) (e_var 3))) ng_gSb))))))))
      (ss_cons (s_wS [1, 2, 3, 4, 5] (s_sW [1, 3, 4, 5] (s_for hp c.calm (i_range3 (by rfl) m_range (a_cons (e_bin i_sub ne_oI0 (e_var 2) e_int) (a_cons e_int (a_cons (e_neg e_int) a_nil)))) (g_name 5 c.nd) ng_gN (f_is m_LeastTree_init_b2 (ss_wS [1, 3, 4, 5] (ss_one (s_asg (e_call c h_put_together (hr.mono (Nat.le_succ _)) (a_cons (e_ix (e_fld (e_var 0) k_nodes (by decide) (by rfl) (by rfl)) (e_bin (i_mulG .f) (ne_oMulG .f) e_int (e_var 5))) (a_cons (e_ix (e_fld (e_var 0) k_nodes (by decide) (by rfl) (by rfl)) (e_bin (i_addG .f) (ne_oAddG .f) (e_bin (i_mulG .f) (ne_oMulG .f) e_int (e_var 5)) e_int)) a_nil))) (g_sub (e_fld (e_var 0) k_nodes (by decide) (by rfl) (by rfl)) (e_var 5)) ng_gSb)))))))
      (ss_one (s_fld (e_var 0) (e_cnt e_int) k_looked (by decide) (by rfl) (by rfl)))))))))))))

/-! LeastTree.between -/
abbrev s_LeastTree_between : Stmt := inS 20 14
theorem sc_LeastTree_between : FnScope ["self", "begin", "end", "found", "piece"] ["self", "begin", "end"] (defScope s_LeastTree_between) := ⟨rfl, rfl, rfl, by decide +kernel, rfl, by decide +kernel, by decide +kernel⟩
theorem d_LeastTree_between {f : Addr} {fd : FuncData} (F : Fun K "between" "LeastTree.between" s_LeastTree_between f fd) {C : Addr} (hc : clsAt K 16 C) (hC : Cls K C) (hM : Meth K C (anm 22) f) {k : Nat} (r_NotThere : ErrC K mg 2) (h_put_together : Def P w K mg base "put_together" k ["one", "other"] f_put_together) (t_check_0 : Mets P w K mg base 34 k [(16, f_LeastTree_check)]) (t_look_1 : Mets P w K mg base 115 k [(16, f_LeastTree_look)]) (t_pieces_2 : Mets P w K mg base 150 k [(16, f_LeastTree_pieces)]) :
    Met P w K mg base 16 22 (k + 1) ["self", "begin", "end"] f_LeastTree_between := by
  refine (met_of (N := ["self", "begin", "end", "found", "piece"]) F sc_LeastTree_between hc hC hM (F.binds fun _ _ _ _ _ _ us hl => match us, hl with | [_, _, _], _ => rfl) (mm := m_LeastTree_between) (fun cdv A outer s1 H E hr c hp => ?_)).fz
  exact (ss_cons (s_expr (e_mth c (e_var 0) t_check_0 hr (by decide) (by rfl) (a_cons (e_var 1) a_nil)))
      (ss_cons (s_expr (e_mth c (e_var 0) t_check_0 hr (by decide) (by rfl) (a_cons (e_var 2) a_nil)))
      (ss_cons (s_if (it_cmp i_ge ne_oI0 (e_var 1) (e_var 2)) (ss_one (s_rs c r_NotThere (by rfl))) ss_nil)
      (ss_cons (s_set 3 c.nd e_non)
      (ss_cons (s_wS [0, 1, 2, 4] (s_sW [4] (s_for hp c.calm (i_seq (e_mth c (e_var 0) t_pieces_2 hr (by decide) (by rfl) (a_cons (e_var 1) (a_cons (e_var 2) a_nil)))) (g_name 4 c.nd) ng_gN (f_is m_LeastTree_between_b0 (ss_wS [4] (ss_one (s_set 3 c.nd (e_call c h_put_together hr (a_cons (e_var 3) (a_cons (e_mth c (e_var 0) t_look_1 hr (by decide) (by rfl) (a_cons (e_var 4) a_nil)) a_nil))))))))))
      (ss_one (s_ret (e_var 3))))))))

/-! LeastTree.often -/
abbrev s_LeastTree_often : Stmt := inS 20 17
theorem sc_LeastTree_often : FnScope ["self", "begin", "end"] ["self", "begin", "end"] (defScope s_LeastTree_often) := ⟨rfl, rfl, rfl, by decide +kernel, rfl, by decide +kernel, by decide +kernel⟩
theorem d_LeastTree_often {f : Addr} {fd : FuncData} (F : Fun K "often" "LeastTree.often" s_LeastTree_often f fd) {C : Addr} (hc : clsAt K 16 C) (hC : Cls K C) (hM : Meth K C (anm 135) f) {k : Nat} (t_between_0 : Mets P w K mg base 22 k [(16, f_LeastTree_between)]) :
    Met P w K mg base 16 135 (k + 1) ["self", "begin", "end"] f_LeastTree_often := by
  refine (met_of (N := ["self", "begin", "end"]) F sc_LeastTree_often hc hC hM (F.binds fun _ _ _ _ _ _ us hl => match us, hl with | [_, _, _], _ => rfl) (mm := m_LeastTree_often) (fun cdv A outer s1 H E hr c hp => ?_)).fz
  exact (ss_one (s_ret (e_ix (e_mth c (e_var 0) t_between_0 hr (by decide) (by rfl) (a_cons (e_var 1) (a_cons (e_var 2) a_nil))) e_int)))

/-! LeastTree.most -/
abbrev s_LeastTree_most : Stmt := inS 20 16
theorem sc_LeastTree_most : FnScope ["self", "begin", "end", "turns"] ["self", "begin", "end"] (defScope s_LeastTree_most) := ⟨rfl, rfl, rfl, by decide +kernel, rfl, by decide +kernel, by decide +kernel⟩
theorem d_LeastTree_most {f : Addr} {fd : FuncData} (F : Fun K "most" "LeastTree.most" s_LeastTree_most f fd) {C : Addr} (hc : clsAt K 16 C) (hC : Cls K C) (hM : Meth K C (anm 123) f) {k : Nat} (t_between_0 : Mets P w K mg base 22 k [(16, f_LeastTree_between)]) (t_rise_1 : Mets P w K mg base 161 k [(16, f_LeastTree_rise)]) :
    Met P w K mg base 16 123 (k + 1) ["self", "begin", "end"] f_LeastTree_most := by
  refine (met_of (N := ["self", "begin", "end", "turns"]) F sc_LeastTree_most hc hC hM (F.binds fun _ _ _ _ _ _ us hl => match us, hl with | [_, _, _], _ => rfl) (mm := m_LeastTree_most) (fun cdv A outer s1 H E hr c hp => ?_)).fz
  exact (ss_cons (s_set 3 c.nd (e_mth c (e_var 0) t_between_0 hr (by decide) (by rfl) (a_cons (e_var 1) (a_cons (e_var 2) a_nil))))
      (ss_one (s_ret (e_bin (i_addG .f) (ne_oAddG .f) (e_mth c (e_var 0) t_rise_1 hr (by decide) (by rfl) (a_cons (e_var 1) a_nil)) (e_ix (e_var 3) e_int)))))

/-! LeastTree.least -/
abbrev s_LeastTree_least : Stmt := inS 20 15
theorem sc_LeastTree_least : FnScope ["self", "begin", "end", "turns"] ["self", "begin", "end"] (defScope s_LeastTree_least) := ⟨rfl, rfl, rfl, by decide +kernel, rfl, by decide +kernel, by decide +kernel⟩
theorem d_LeastTree_least {f : Addr} {fd : FuncData} (F : Fun K "least" "LeastTree.least" s_LeastTree_least f fd) {C : Addr} (hc : clsAt K 16 C) (hC : Cls K C) (hM : Meth K C (anm 99) f) {k : Nat} (t_between_0 : Mets P w K mg base 22 k [(16, f_LeastTree_between)]) (t_rise_1 : Mets P w K mg base 161 k [(16, f_LeastTree_rise)]) :
    Met P w K mg base 16 99 (k + 1) ["self", "begin", "end"] f_LeastTree_least := by
  refine (met_of (N := ["self", "begin", "end", "turns"]) F sc_LeastTree_least hc hC hM (F.binds fun _ _ _ _ _ _ us hl => match us, hl with | [_, _, _], _ => rfl) (mm := m_LeastTree_least) (fun cdv A outer s1 H E hr c hp => ?_)).fz
  exact (ss_cons (s_set 3 c.nd (e_mth c (e_var 0) t_between_0 hr (by decide) (by rfl) (a_cons (e_var 1) (a_cons (e_var 2) a_nil))))
      (ss_one (s_ret (e_bin (i_addG .f) (ne_oAddG .f) (e_mth c (e_var 0) t_rise_1 hr (by decide) (by rfl) (a_cons (e_var 1) a_nil)) (e_ix (e_var 3) e_int)))))

/-! LeastTree.numbered -/
abbrev s_LeastTree_numbered : Stmt := inS 20 19
theorem sc_LeastTree_numbered : FnScope ["self", "piece", "now", "goal", "number", "left", "right", "turns", "many", "place"] ["self", "piece", "now", "goal", "number"] (defScope s_LeastTree_numbered) := ⟨rfl, rfl, rfl, by decide +kernel, rfl, by decide +kernel, by decide +kernel⟩
theorem d_LeastTree_numbered {f : Addr} {fd : FuncData} (F : Fun K "numbered" "LeastTree.numbered" s_LeastTree_numbered f fd) {C : Addr} (hc : clsAt K 16 C) (hC : Cls K C) (hM : Meth K C (anm 134) f) {k : Nat} (m_range : mg "range" = none) (k_looked : Flds K [25, 16] 116) (k_bits : Flds K [25, 16] 24) (t_halves_0 : Mets P w K mg base 75 k [(16, f_LeastTree_halves)]) (t_look_1 : Mets P w K mg base 115 k [(16, f_LeastTree_look)]) (t_is_block_2 : Mets P w K mg base 86 k [(16, f_LeastTree_is_block)]) :
    Met P w K mg base 16 134 (k + 1) ["self", "piece", "now", "goal", "number"] f_LeastTree_numbered := by
  refine (met_of (N := ["self", "piece", "now", "goal", "number", "left", "right", "turns", "many", "place"]) F sc_LeastTree_numbered hc hC hM (F.binds fun _ _ _ _ _ _ us hl => match us, hl with | [_, _, _, _, _], _ => rfl) (mm := m_LeastTree_numbered) (fun cdv A outer s1 H E hr c hp => ?_)).fz
  exact (ss_cons (s_wS [5, 6, 7, 8, 9] (s_sW [5, 6, 7, 8, 9] (s_while hp (it_not (it_val (e_mth c (e_var 0) t_is_block_2 hr (by decide) (by rfl) (a_cons (e_var 1) a_nil)))) (f_is m_LeastTree_numbered_b0 (ss_wS [5, 6, 7, 8, 9] (ss_cons (s_asg (e_mth c (e_var 0) t_halves_0 hr (by decide) (by rfl) (a_cons (e_var 1) a_nil)) (g_tup (n := 2) c.calm (gs_cons (g_name 5 c.nd) (gs_cons (g_name 6 c.nd) gs_nil))) (ng_gT (ngs_cons ng_gN (ngs_cons ng_gN ngs_nil))))
      (ss_cons (s_set 7 c.nd (e_mth c (e_var 0) t_look_1 hr (by decide) (by rfl) (a_cons (e_var 5) a_nil)))
      (ss_cons (s_set 8 c.nd (e_if (it_cmp (i_eq hr.units) ne_oEqN (e_bin (i_addG .f) (ne_oAddG .f) (e_var 2) (e_ix (e_var 7) e_int)) (e_var 3)) (e_ix (e_var 7) e_int) e_int))
      (ss_one (s_if (it_cmp i_lt ne_oI0 (e_var 4) (e_var 8)) (ss_one (s_set 1 c.nd (e_var 5))) (ss_one (s_par3 2 4 1 c (a_cons (e_bin (i_addG .f) (ne_oAddG .f) (e_var 2) (e_ix (e_var 7) e_int)) (a_cons (e_bin i_sub ne_oI0 (e_var 4) (e_var 8)) (a_cons (e_var 6) a_nil)))))))))))))))
      (ss_cons (s_lk (e_var 0) e_int k_looked (by rfl))
      (ss_cons (s_wS [0, 1, 2, 3, 4, 5, 6, 7, 8, 9] (s_sW [5, 6, 7, 8, 9] (s_for hp c.calm (i_range2 (by rfl) m_range (a_cons (e_ix (e_var 1) e_int) (a_cons (e_ix (e_var 1) e_int) a_nil))) (g_name 9 c.nd) ng_gN (f_is m_LeastTree_numbered_b1 (ss_wS [5, 6, 7, 8, 9] (ss_cons (s_aug 2 c.nd ii_add ne_oI0 (e_if (it_cmp (i_eq hr.units) ne_oEqN (e_ix (e_fld (e_var 0) k_bits (by decide) (by rfl) (by rfl)) (e_var 9)) e_int) e_int (e_neg e_int)))
      (ss_one (s_if (it_cmp (i_eq hr.units) ne_oEqN (e_var 2) (e_var 3)) (ss_cons (s_if (it_cmp (i_eq hr.units) ne_oEqN (e_var 4) e_int) (ss_one (s_ret (e_bin (i_addG .f) (ne_oAddG .f) (e_var 9) e_int))) ss_nil)
      (ss_one (s_aug 4 c.nd ii_sub ne_oI0 e_int))) ss_nil))))))))
      (ss_one (s_ret e_non)))))

/-! LeastTree.least_place -/
abbrev s_LeastTree_least_place : Stmt := inS 20 18
theorem sc_LeastTree_least_place : FnScope ["self", "begin", "end", "number", "turns", "now", "goal", "piece", "many"] ["self", "begin", "end", "number"] (defScope s_LeastTree_least_place) := ⟨rfl, rfl, rfl, by decide +kernel, rfl, by decide +kernel, by decide +kernel⟩
theorem d_LeastTree_least_place {f : Addr} {fd : FuncData} (F : Fun K "least_place" "LeastTree.least_place" s_LeastTree_least_place f fd) {C : Addr} (hc : clsAt K 16 C) (hC : Cls K C) (hM : Meth K C (anm 101) f) {k : Nat} (r_NotThere : ErrC K mg 2) (h_is_number : Def P w K mg base "is_number" k ["value", "least", "most"] f_is_number) (t_between_0 : Mets P w K mg base 22 k [(16, f_LeastTree_between)]) (t_look_1 : Mets P w K mg base 115 k [(16, f_LeastTree_look)]) (t_numbered_2 : Mets P w K mg base 134 k [(16, f_LeastTree_numbered)]) (t_pieces_3 : Mets P w K mg base 150 k [(16, f_LeastTree_pieces)]) :
    Met P w K mg base 16 101 (k + 1) ["self", "begin", "end", "number"] f_LeastTree_least_place := by
  refine (met_of (N := ["self", "begin", "end", "number", "turns", "now", "goal", "piece", "many"]) F sc_LeastTree_least_place hc hC hM (F.binds fun _ _ _ _ _ _ us hl => match us, hl with | [_, _, _, _], _ => rfl) (mm := m_LeastTree_least_place) (fun cdv A outer s1 H E hr c hp => ?_)).fz
  exact (ss_cons (s_set 4 c.nd (e_mth c (e_var 0) t_between_0 hr (by decide) (by rfl) (a_cons (e_var 1) (a_cons (e_var 2) a_nil))))
      (ss_cons (s_if (it_not (it_val (e_call c h_is_number hr (a_cons (e_var 3) (a_cons e_int (a_cons (e_bin i_sub ne_oI0 (e_ix (e_var 4) e_int) e_int) a_nil)))))) (ss_one (s_rs c r_NotThere (by rfl))) ss_nil)
      (ss_cons (s_par2 5 6 c (a_cons e_int (a_cons (e_ix (e_var 4) e_int) a_nil)))
      (ss_cons (s_wS [0, 1, 2, 3, 4, 5, 6, 7, 8] (s_sW [4, 7, 8] (s_for hp c.calm (i_seq (e_mth c (e_var 0) t_pieces_3 hr (by decide) (by rfl) (a_cons (e_var 1) (a_cons (e_var 2) a_nil)))) (g_name 7 c.nd) ng_gN (f_is m_LeastTree_least_place_b0 (ss_wS [4, 7, 8] (ss_cons (s_set 4 c.nd (e_mth c (e_var 0) t_look_1 hr (by decide) (by rfl) (a_cons (e_var 7) a_nil)))
      (ss_cons (s_set 8 c.nd (e_if (it_cmp (i_eq hr.units) ne_oEqN (e_bin (i_addG .f) (ne_oAddG .f) (e_var 5) (e_ix (e_var 4) e_int)) (e_var 6)) (e_ix (e_var 4) e_int) e_int))
      (ss_cons (s_if (it_cmp i_lt ne_oI0 (e_var 3) (e_var 8)) (ss_one (s_ret (e_mth c (e_var 0) t_numbered_2 hr (by decide) (by rfl) (a_cons (e_var 7) (a_cons (e_var 5) (a_cons (e_var 6) (a_cons (e_var 3) a_nil))))))) ss_nil)
      (ss_one (s_par2 5 3 c (a_cons (e_bin (i_addG .f) (ne_oAddG .f) (e_var 5) (e_ix (e_var 4) e_int)) (a_cons (e_bin i_sub ne_oI0 (e_var 3) (e_var 8)) a_nil))))))))))))
      (ss_one (s_ret e_non))))))

/-! law -/
abbrev s_law : Stmt := topS 27
theorem sc_law : FnScope ["script", "draws", "turn", "row", "many", "ahead", "tree", "back", "less", "moved", "rises", "start", "bit", "step", "begin", "end", "part", "least", "most", "often", "places", "place", "goal", "forward", "backward", "later", "earlier", "turned_so", "number", "one", "rise"] ["script"] (defScope s_law) := ⟨rfl, rfl, rfl, by decide +kernel, rfl, by decide +kernel, by decide +kernel⟩
theorem d_law {f : Addr} {fd : FuncData} (F : Fun K "law" "law" s_law f fd) {k : Nat} (m_len : mg "len" = none) (m_tuple : mg "tuple" = none) (m_sum : mg "sum" = none) (m_range : mg "range" = none) (m_min : mg "min" = none) (m_max : mg "max" = none) (m_abs : mg "abs" = none) (h__law_draws : Def P w K mg base "_law_draws" k ["script"] f__law_draws) (h__law_row : Def P w K mg base "_law_row" k ["draws"] f__law_row) (h__law_take : Def P w K mg base "_law_take" k ["draws", "bound"] f__law_take) (h__law_search : Def P w K mg base "_law_search" k ["tree", "which", "place", "goal"] f__law_search) (x_LeastTree : Mak P w K mg base 16 k ["self", "bits"] f_LeastTree_init) (t_rise_0 : Mets P w K mg base 161 k [(16, f_LeastTree_rise)]) (t_often_1 : Mets P w K mg base 135 k [(16, f_LeastTree_often)]) (t_most_2 : Mets P w K mg base 123 k [(16, f_LeastTree_most)]) (t_least_3 : Mets P w K mg base 99 k [(16, f_LeastTree_least)]) (t_least_place_4 : Mets P w K mg base 101 k [(16, f_LeastTree_least_place)]) :
    FnOk P w K mg base (L2N.CX P w) ((k + 1) + 1) f fd ["script"] (spM K f_law 1) := by
  show FnOk P w K mg base (L2N.CX P w) ((k + 1) + 1) f fd ["script"] (spM K (mF ["script"].length ["script", "draws", "turn", "row", "many", "ahead", "tree", "back", "less", "moved", "rises", "start", "bit", "step", "begin", "end", "part", "least", "most", "often", "places", "place", "goal", "forward", "backward", "later", "earlier", "turned_so", "number", "one", "rise"].length m_law) 1)
  refine fn_def_of (N := ["script", "draws", "turn", "row", "many", "ahead", "tree", "back", "less", "moved", "rises", "start", "bit", "step", "begin", "end", "part", "least", "most", "often", "places", "place", "goal", "forward", "backward", "later", "earlier", "turned_so", "number", "one", "rise"]) F sc_law (m := m_law) (fun cdv A outer s1 H E hr c hp => ?_)
  exact (ss_cons (s_set 1 c.nd (e_call c h__law_draws (hr.mono (Nat.le_succ _)) (a_cons (e_var 0) a_nil)))
      (ss_cons (s_wS [0, 1, 2, 3, 4, 5, 6, 7, 8, 9, 10, 11, 12, 13, 14, 15, 16, 17, 18, 19, 20, 21, 22, 23, 24, 25, 26, 27] (s_sW [0, 2, 3, 4, 5, 6, 7, 8, 9, 10, 11, 12, 13, 14, 15, 16, 17, 18, 19, 20, 21, 22, 23, 24, 25, 26, 27] (s_for hp c.calm (i_range1 (by rfl) m_range (a_cons e_int a_nil)) (g_name 2 c.nd) ng_gN (f_is m_law_b0 (ss_wS [0, 2, 3, 4, 5, 6, 7, 8, 9, 10, 11, 12, 13, 14, 15, 16, 17, 18, 19, 20, 21, 22, 23, 24, 25, 26, 27] (ss_cons (s_set 3 c.nd (e_call c h__law_row (hr.mono (Nat.le_succ _)) (a_cons (e_var 1) a_nil)))
      (ss_cons (s_asg (e_tup (a_cons (e_callB c_len ne_bLen (by rfl) m_len (by decide +kernel) (a_cons (e_var 3) a_nil)) (a_cons (e_sl .f (e_call c h__law_row (hr.mono (Nat.le_succ _)) (a_cons (e_var 1) a_nil)) p_none (p_some e_int)) a_nil))) (g_tup (n := 2) c.calm (gs_cons (g_name 4 c.nd) (gs_cons (g_name 5 c.nd) gs_nil))) (ng_gT (ngs_cons ng_gN (ngs_cons ng_gN ngs_nil))))
      (ss_cons (s_asg (e_tup (a_cons (e_mkF c x_LeastTree hr (by rfl) (a_cons (e_var 3) a_nil)) (a_cons (e_mkF c x_LeastTree hr (by rfl) (a_cons (e_revA .f (e_var 3)) a_nil)) (a_cons (e_mkF c x_LeastTree hr (by rfl) (a_cons (e_callTy c_tuple ne_bTuple (by rfl) m_tuple (by decide +kernel) (a_cons (e_lc .f c (own := [("bit", 12)]) (g0 := (gName 12)) (i_seq (e_var 3)) (blkOk_by (by kernel_rfl)) (fun _ _ _ _ _ c' => (gc_name (vs := [12]) 12 c'.nd)) (fun _ _ _ _ _ c' => its_nil) (fun _ _ _ _ _ c' => (e_bin i_sub ne_oI0 e_int (e_var 12)))) a_nil)) a_nil)) (a_cons (e_mkF c x_LeastTree hr (by rfl) (a_cons (e_bin (i_addG .f) (ne_oAddG .f) (e_var 5) (e_var 3)) a_nil)) a_nil))))) (g_tup (n := 4) c.calm (gs_cons (g_name 6 c.nd) (gs_cons (g_name 7 c.nd) (gs_cons (g_name 8 c.nd) (gs_cons (g_name 9 c.nd) gs_nil))))) (ng_gT (ngs_cons ng_gN (ngs_cons ng_gN (ngs_cons ng_gN (ngs_cons ng_gN ngs_nil))))))
      (ss_cons (s_asg (e_tup (a_cons (e_lst .l (a_cons e_int a_nil)) (a_cons (e_bin i_sub ne_oI0 (e_bin (i_mulG .f) (ne_oMulG .f) e_int (e_callB (c_sumA c.calm) ne_bSumA (by rfl) m_sum (by decide +kernel) (a_cons (e_var 5) a_nil))) (e_callB c_len ne_bLen (by rfl) m_len (by decide +kernel) (a_cons (e_var 5) a_nil))) a_nil))) (g_tup (n := 2) c.calm (gs_cons (g_name 10 c.nd) (gs_cons (g_name 11 c.nd) gs_nil))) (ng_gT (ngs_cons ng_gN (ngs_cons ng_gN ngs_nil))))
      (ss_cons (s_wS [0, 2, 3, 12, 13, 14, 15, 16, 17, 18, 19, 20, 21, 22, 23, 24, 25, 26, 27] (s_sW [0, 2, 12, 13, 14, 15, 16, 17, 18, 19, 20, 21, 22, 23, 24, 25, 26, 27] (s_for hp c.calm (i_seq (e_var 3)) (g_name 12 c.nd) ng_gN (f_is m_law_b1 (ss_wS [0, 2, 12, 13, 14, 15, 16, 17, 18, 19, 20, 21, 22, 23, 24, 25, 26, 27] (ss_one (s_expr (e_append (e_var 10) (a_cons (e_bin i_sub ne_oI0 (e_bin (i_addG .f) (ne_oAddG .f) (e_ix (e_var 10) (e_neg e_int)) (e_bin (i_mulG .f) (ne_oMulG .f) e_int (e_var 12))) e_int) a_nil)))))))))
      (ss_cons (s_if (IW.it (iw_or (it_cmp (i_ne hr.units) ne_oEqN (e_lc .f c (own := [("place", 21)]) (g0 := (gName 21)) (i_range1 (by rfl) m_range (a_cons (e_bin (i_addG .f) (ne_oAddG .f) (e_var 4) e_int) a_nil)) (blkOk_by (by kernel_rfl)) (fun _ _ _ _ _ c' => (gc_name (vs := [21]) 21 c'.nd)) (fun _ _ _ _ _ c' => its_nil) (fun _ _ _ _ _ c' => (e_mth c' (e_var 6) t_rise_0 (hr.mono (Nat.le_succ _)) (by decide) (by rfl) (a_cons (e_var 21) a_nil)))) (e_var 10)) (iw_or1 (it_cmp (i_ne hr.units) ne_oEqN (e_lc .f c (own := [("place", 21)]) (g0 := (gName 21)) (i_range1 (by rfl) m_range (a_cons (e_bin (i_addG .f) (ne_oAddG .f) (e_var 4) e_int) a_nil)) (blkOk_by (by kernel_rfl)) (fun _ _ _ _ _ c' => (gc_name (vs := [21]) 21 c'.nd)) (fun _ _ _ _ _ c' => its_nil) (fun _ _ _ _ _ c' => (e_mth c' (e_var 8) t_rise_0 (hr.mono (Nat.le_succ _)) (by decide) (by rfl) (a_cons (e_var 21) a_nil)))) (e_lc .f c (own := [("rise", 30)]) (g0 := (gName 30)) (i_seq (e_var 10)) (blkOk_by (by kernel_rfl)) (fun _ _ _ _ _ c' => (gc_name (vs := [30]) 30 c'.nd)) (fun _ _ _ _ _ c' => its_nil) (fun _ _ _ _ _ c' => (e_bin i_sub ne_oI0 e_int (e_var 30)))))))) (ss_one (s_ret e_bl)) ss_nil)
      (ss_cons (s_if (it_cmp (i_ne hr.units) ne_oEqN (e_lc .f c (own := [("place", 21)]) (g0 := (gName 21)) (i_range1 (by rfl) m_range (a_cons (e_bin (i_addG .f) (ne_oAddG .f) (e_var 4) e_int) a_nil)) (blkOk_by (by kernel_rfl)) (fun _ _ _ _ _ c' => (gc_name (vs := [21]) 21 c'.nd)) (fun _ _ _ _ _ c' => its_nil) (fun _ _ _ _ _ c' => (e_mth c' (e_var 7) t_rise_0 (hr.mono (Nat.le_succ _)) (by decide) (by rfl) (a_cons (e_var 21) a_nil)))) (e_lc .f c (own := [("rise", 30)]) (g0 := (gName 30)) (i_seq (e_revA .f (e_var 10))) (blkOk_by (by kernel_rfl)) (fun _ _ _ _ _ c' => (gc_name (vs := [30]) 30 c'.nd)) (fun _ _ _ _ _ c' => its_nil) (fun _ _ _ _ _ c' => (e_bin i_sub ne_oI0 (e_ix (e_var 10) (e_neg e_int)) (e_var 30))))) (ss_one (s_ret e_bl)) ss_nil)
      (ss_cons (s_if (it_cmp (i_ne hr.units) ne_oEqN (e_lc .f c (own := [("place", 21)]) (g0 := (gName 21)) (i_range1 (by rfl) m_range (a_cons (e_bin (i_addG .f) (ne_oAddG .f) (e_var 4) e_int) a_nil)) (blkOk_by (by kernel_rfl)) (fun _ _ _ _ _ c' => (gc_name (vs := [21]) 21 c'.nd)) (fun _ _ _ _ _ c' => its_nil) (fun _ _ _ _ _ c' => (e_mth c' (e_var 9) t_rise_0 (hr.mono (Nat.le_succ _)) (by decide) (by rfl) (a_cons (e_bin (i_addG .f) (ne_oAddG .f) (e_callB c_len ne_bLen (by rfl) m_len (by decide +kernel) (a_cons (e_var 5) a_nil)) (e_var 21)) a_nil)))) (e_lc .f c (own := [("rise", 30)]) (g0 := (gName 30)) (i_seq (e_var 10)) (blkOk_by (by kernel_rfl)) (fun _ _ _ _ _ c' => (gc_name (vs := [30]) 30 c'.nd)) (fun _ _ _ _ _ c' => its_nil) (fun _ _ _ _ _ c' => (e_bin (i_addG .f) (ne_oAddG .f) (e_var 11) (e_var 30))))) (ss_one (s_ret e_bl)) ss_nil)
      (ss_one (s_wS [0, 2, 3, 4, 5, 6, 7, 8, 9, 10, 11, 12, 13, 14, 15, 16, 17, 18, 19, 20, 21, 22, 23, 24, 25, 26, 27] (s_sW [0, 2, 3, 12, 13, 14, 15, 16, 17, 18, 19, 20, 21, 22, 23, 24, 25, 26, 27] (s_for hp c.calm (i_range1 (by rfl) m_range (a_cons e_int a_nil)) (g_name 13 c.nd) ng_gN (f_is m_law_b2 (ss_wS [0, 2, 3, 12, 13, 14, 15, 16, 17, 18, 19, 20, 21, 22, 23, 24, 25, 26, 27] (ss_cons (s_set 14 c.nd (e_call c h__law_take (hr.mono (Nat.le_succ _)) (a_cons (e_var 1) (a_cons (e_var 4) a_nil))))
      (ss_cons (s_set 15 c.nd (e_bin (i_addG .f) (ne_oAddG .f) (e_bin (i_addG .f) (ne_oAddG .f) (e_var 14) e_int) (e_call c h__law_take (hr.mono (Nat.le_succ _)) (a_cons (e_var 1) (a_cons (e_bin i_sub ne_oI0 (e_var 4) (e_var 14)) a_nil)))))
      (ss_cons (s_set 16 c.nd (e_sl .f (e_var 10) (p_some (e_bin (i_addG .f) (ne_oAddG .f) (e_var 14) e_int)) (p_some (e_bin (i_addG .f) (ne_oAddG .f) (e_var 15) e_int))))
      (ss_cons (s_asg (e_tup (a_cons (e_mth c (e_var 6) t_least_3 (hr.mono (Nat.le_succ _)) (by decide) (by rfl) (a_cons (e_var 14) (a_cons (e_var 15) a_nil))) (a_cons (e_mth c (e_var 6) t_most_2 (hr.mono (Nat.le_succ _)) (by decide) (by rfl) (a_cons (e_var 14) (a_cons (e_var 15) a_nil))) (a_cons (e_mth c (e_var 6) t_often_1 (hr.mono (Nat.le_succ _)) (by decide) (by rfl) (a_cons (e_var 14) (a_cons (e_var 15) a_nil))) a_nil)))) (g_tup (n := 3) c.calm (gs_cons (g_name 17 c.nd) (gs_cons (g_name 18 c.nd) (gs_cons (g_name 19 c.nd) gs_nil)))) (ng_gT (ngs_cons ng_gN (ngs_cons ng_gN (ngs_cons ng_gN ngs_nil)))))
      (ss_cons (s_if (IW.it (iw_or (it_cmp (i_ne hr.units) ne_oEqN (e_lst .f (a_cons (e_var 17) (a_cons (e_var 18) (a_cons (e_var 19) a_nil)))) (e_lst .f (a_cons (e_callB (c_min c.calm) ne_bMin (by rfl) m_min (by decide +kernel) (a_cons (e_var 16) a_nil)) (a_cons (e_callB (c_max c.calm) ne_bMax (by rfl) m_max (by decide +kernel) (a_cons (e_var 16) a_nil)) (a_cons (e_callB c_len ne_bLen (by rfl) m_len (by decide +kernel) (a_cons (e_lc .f c (own := [("one", 29)]) (g0 := (gName 29)) (i_seq (e_var 16)) (blkOk_by (by kernel_rfl)) (fun _ _ _ _ _ c' => (gc_name (vs := [29]) 29 c'.nd)) (fun _ _ _ _ _ c' => (its_one (it_cmp (i_eq hr.units) ne_oEqN (e_var 29) (e_callB (c_min c'.calm) ne_bMin (by rfl) m_min (by decide +kernel) (a_cons (e_var 16) a_nil))))) (fun _ _ _ _ _ c' => (e_var 29))) a_nil)) a_nil))))) (iw_or1 (it_cmp (i_ne hr.units) ne_oEqN (e_lst .f (a_cons (e_mth c (e_var 8) t_most_2 (hr.mono (Nat.le_succ _)) (by decide) (by rfl) (a_cons (e_var 14) (a_cons (e_var 15) a_nil))) (a_cons (e_mth c (e_var 8) t_least_3 (hr.mono (Nat.le_succ _)) (by decide) (by rfl) (a_cons (e_var 14) (a_cons (e_var 15) a_nil))) a_nil))) (e_lst .f (a_cons (e_bin i_sub ne_oI0 e_int (e_var 17)) (a_cons (e_bin i_sub ne_oI0 e_int (e_var 18)) a_nil))))))) (ss_one (s_ret e_bl)) ss_nil)
      (ss_cons (s_if (it_cmp (i_ne hr.units) ne_oEqN (e_lst .f (a_cons (e_mth c (e_var 9) t_least_3 (hr.mono (Nat.le_succ _)) (by decide) (by rfl) (a_cons (e_bin (i_addG .f) (ne_oAddG .f) (e_callB c_len ne_bLen (by rfl) m_len (by decide +kernel) (a_cons (e_var 5) a_nil)) (e_var 14)) (a_cons (e_bin (i_addG .f) (ne_oAddG .f) (e_callB c_len ne_bLen (by rfl) m_len (by decide +kernel) (a_cons (e_var 5) a_nil)) (e_var 15)) a_nil))) (a_cons (e_mth c (e_var 9) t_most_2 (hr.mono (Nat.le_succ _)) (by decide) (by rfl) (a_cons (e_bin (i_addG .f) (ne_oAddG .f) (e_callB c_len ne_bLen (by rfl) m_len (by decide +kernel) (a_cons (e_var 5) a_nil)) (e_var 14)) (a_cons (e_bin (i_addG .f) (ne_oAddG .f) (e_callB c_len ne_bLen (by rfl) m_len (by decide +kernel) (a_cons (e_var 5) a_nil)) (e_var 15)) a_nil))) (a_cons (e_mth c (e_var 9) t_often_1 (hr.mono (Nat.le_succ _)) (by decide) (by rfl) (a_cons (e_bin (i_addG .f) (ne_oAddG .f) (e_callB c_len ne_bLen (by rfl) m_len (by decide +kernel) (a_cons (e_var 5) a_nil)) (e_var 14)) (a_cons (e_bin (i_addG .f) (ne_oAddG .f) (e_callB c_len ne_bLen (by rfl) m_len (by decide +kernel) (a_cons (e_var 5) a_nil)) (e_var 15)) a_nil))) a_nil)))) (e_lst .f (a_cons (e_bin (i_addG .f) (ne_oAddG .f) (e_var 11) (e_var 17)) (a_cons (e_bin (i_addG .f) (ne_oAddG .f) (e_var 11) (e_var 18)) (a_cons (e_var 19) a_nil))))) (ss_one (s_ret e_bl)) ss_nil)
      (ss_cons (s_setLc .f 20 c (sw_true rfl rfl rfl (by decide +kernel)) (own := [("number", 28)]) (g0 := (gName 28)) (i_range1 (by rfl) m_range (a_cons (e_var 19) a_nil)) (blkOk_by (by kernel_rfl)) (fun _ _ _ _ _ c' => (gc_name (vs := [28]) 28 c'.nd)) (fun _ _ _ _ _ c' => its_nil) (fun _ _ _ _ _ c' => (e_mth c' (e_var 6) t_least_place_4 (hr.mono (Nat.le_succ _)) (by decide) (by rfl) (a_cons (e_var 14) (a_cons (e_var 15) (a_cons (e_var 28) a_nil))))))
      (ss_cons (s_if (IW.it (iw_or (it_cmp (i_ne hr.units) ne_oEqN (e_var 20) (e_lc .f c (own := [("place", 21)]) (g0 := (gName 21)) (i_range2 (by rfl) m_range (a_cons (e_bin (i_addG .f) (ne_oAddG .f) (e_var 14) e_int) (a_cons (e_bin (i_addG .f) (ne_oAddG .f) (e_var 15) e_int) a_nil))) (blkOk_by (by kernel_rfl)) (fun _ _ _ _ _ c' => (gc_name (vs := [21]) 21 c'.nd)) (fun _ _ _ _ _ c' => (its_one (it_cmp (i_eq hr.units) ne_oEqN (e_ix (e_var 10) (e_var 21)) (e_var 17)))) (fun _ _ _ _ _ c' => (e_var 21)))) (iw_or1 (it_cmp (i_ne hr.units) ne_oEqN (e_mth c (e_var 9) t_least_place_4 (hr.mono (Nat.le_succ _)) (by decide) (by rfl) (a_cons (e_bin (i_addG .f) (ne_oAddG .f) (e_callB c_len ne_bLen (by rfl) m_len (by decide +kernel) (a_cons (e_var 5) a_nil)) (e_var 14)) (a_cons (e_bin (i_addG .f) (ne_oAddG .f) (e_callB c_len ne_bLen (by rfl) m_len (by decide +kernel) (a_cons (e_var 5) a_nil)) (e_var 15)) (a_cons (e_bin i_sub ne_oI0 (e_var 19) e_int) a_nil)))) (e_bin (i_addG .f) (ne_oAddG .f) (e_callB c_len ne_bLen (by rfl) m_len (by decide +kernel) (a_cons (e_var 5) a_nil)) (e_ix (e_var 20) (e_neg e_int))))))) (ss_one (s_ret e_bl)) ss_nil)
      (ss_cons (s_if (IW.it (iw_and (it_cmp i_lt ne_oI0 (e_var 15) (e_var 4)) (iw_and1 (it_cmp i_gt ne_oI0 (e_var 14) e_int)))) (ss_one (s_if (it_cmp (i_ne hr.units) ne_oEqN (e_mth c (e_var 7) t_least_3 (hr.mono (Nat.le_succ _)) (by decide) (by rfl) (a_cons (e_bin i_sub ne_oI0 (e_bin i_sub ne_oI0 (e_var 4) (e_var 15)) e_int) (a_cons (e_bin i_sub ne_oI0 (e_bin i_sub ne_oI0 (e_var 4) (e_var 14)) e_int) a_nil))) (e_bin i_sub ne_oI0 (e_ix (e_var 10) (e_neg e_int)) (e_callB (c_max c.calm) ne_bMax (by rfl) m_max (by decide +kernel) (a_cons (e_sl .f (e_var 10) (p_some (e_bin (i_addG .f) (ne_oAddG .f) (e_var 14) e_int)) (p_some (e_bin (i_addG .f) (ne_oAddG .f) (e_var 15) e_int))) a_nil)))) (ss_one (s_ret e_bl)) ss_nil)) ss_nil)
      (ss_cons (s_asg (e_tup (a_cons (e_call c h__law_take (hr.mono (Nat.le_succ _)) (a_cons (e_var 1) (a_cons (e_bin (i_addG .f) (ne_oAddG .f) (e_var 4) e_int) a_nil))) (a_cons (e_bin i_sub ne_oI0 (e_bin (i_addG .f) (ne_oAddG .f) (e_ix (e_var 10) (e_call c h__law_take (hr.mono (Nat.le_succ _)) (a_cons (e_var 1) (a_cons (e_bin (i_addG .f) (ne_oAddG .f) (e_var 4) e_int) a_nil)))) (e_call c h__law_take (hr.mono (Nat.le_succ _)) (a_cons (e_var 1) (a_cons e_int a_nil)))) e_int) a_nil))) (g_tup (n := 2) c.calm (gs_cons (g_name 21 c.nd) (gs_cons (g_name 22 c.nd) gs_nil))) (ng_gT (ngs_cons ng_gN (ngs_cons ng_gN ngs_nil))))
      (ss_cons (s_par2 23 24 c (a_cons (e_call c h__law_search (hr.mono (Nat.le_succ _)) (a_cons (e_var 6) (a_cons e_int (a_cons (e_var 21) (a_cons (e_var 22) a_nil))))) (a_cons (e_call c h__law_search (hr.mono (Nat.le_succ _)) (a_cons (e_var 6) (a_cons e_int (a_cons (e_var 21) (a_cons (e_var 22) a_nil))))) a_nil)))
      (ss_cons (s_par2 25 26 c (a_cons (e_lc .f c (own := [("one", 29)]) (g0 := (gName 29)) (i_range2 (by rfl) m_range (a_cons (e_bin (i_addG .f) (ne_oAddG .f) (e_var 21) e_int) (a_cons (e_bin (i_addG .f) (ne_oAddG .f) (e_var 4) e_int) a_nil))) (blkOk_by (by kernel_rfl)) (fun _ _ _ _ _ c' => (gc_name (vs := [29]) 29 c'.nd)) (fun _ _ _ _ _ c' => (its_one (it_cmp (i_eq hr.units) ne_oEqN (e_ix (e_var 10) (e_var 29)) (e_var 22)))) (fun _ _ _ _ _ c' => (e_var 29))) (a_cons (e_lc .f c (own := [("one", 29)]) (g0 := (gName 29)) (i_range1 (by rfl) m_range (a_cons (e_var 21) a_nil)) (blkOk_by (by kernel_rfl)) (fun _ _ _ _ _ c' => (gc_name (vs := [29]) 29 c'.nd)) (fun _ _ _ _ _ c' => (its_one (it_cmp (i_eq hr.units) ne_oEqN (e_ix (e_var 10) (e_var 29)) (e_var 22)))) (fun _ _ _ _ _ c' => (e_var 29))) a_nil)))
      (ss_cons (s_if (IW.it (iw_or (it_cmp (i_ne hr.units) ne_oEqN (e_var 23) (e_if (it_cmp (i_ne hr.units) ne_oEqN (e_var 25) (e_lst .f a_nil)) (e_ix (e_var 25) e_int) e_str)) (iw_or1 (it_cmp (i_ne hr.units) ne_oEqN (e_var 24) (e_if (it_cmp (i_ne hr.units) ne_oEqN (e_var 26) (e_lst .f a_nil)) (e_ix (e_var 26) (e_neg e_int)) e_str))))) (ss_one (s_ret e_bl)) ss_nil)
      (ss_cons (s_if (it_cmp (i_ne hr.units) ne_oEqN (e_lst .f (a_cons (e_call c h__law_search (hr.mono (Nat.le_succ _)) (a_cons (e_var 8) (a_cons e_int (a_cons (e_var 21) (a_cons (e_bin i_sub ne_oI0 e_int (e_var 22)) a_nil))))) (a_cons (e_call c h__law_search (hr.mono (Nat.le_succ _)) (a_cons (e_var 8) (a_cons e_int (a_cons (e_var 21) (a_cons (e_bin i_sub ne_oI0 e_int (e_var 22)) a_nil))))) a_nil))) (e_lst .f (a_cons (e_var 23) (a_cons (e_var 24) a_nil)))) (ss_one (s_ret e_bl)) ss_nil)
      (ss_cons (s_set 27 c.nd (e_lst .f (a_cons (e_call c h__law_search (hr.mono (Nat.le_succ _)) (a_cons (e_var 7) (a_cons e_int (a_cons (e_bin i_sub ne_oI0 (e_var 4) (e_var 21)) (a_cons (e_bin i_sub ne_oI0 (e_ix (e_var 10) (e_neg e_int)) (e_var 22)) a_nil))))) (a_cons (e_call c h__law_search (hr.mono (Nat.le_succ _)) (a_cons (e_var 7) (a_cons e_int (a_cons (e_bin i_sub ne_oI0 (e_var 4) (e_var 21)) (a_cons (e_bin i_sub ne_oI0 (e_ix (e_var 10) (e_neg e_int)) (e_var 22)) a_nil))))) a_nil))))
      (ss_cons (s_if (it_cmp (i_ne hr.units) ne_oEqN (e_var 27) (e_lc .f c (own := [("one", 29)]) (g0 := (gName 29)) (i_seq (e_lst .f (a_cons (e_var 23) (a_cons (e_var 24) a_nil)))) (blkOk_by (by kernel_rfl)) (fun _ _ _ _ _ c' => (gc_name (vs := [29]) 29 c'.nd)) (fun _ _ _ _ _ c' => its_nil) (fun _ _ _ _ _ c' => (e_if (it_cmp (i_eq hr.units) ne_oEqN (e_var 29) e_str) (e_var 29) (e_bin i_sub ne_oI0 (e_var 4) (e_var 29)))))) (ss_one (s_ret e_bl)) ss_nil)
      (ss_cons (s_if (IW.it (iw_or (it_cmp (i_ne hr.units) ne_oEqN (e_call c h__law_search (hr.mono (Nat.le_succ _)) (a_cons (e_var 9) (a_cons e_int (a_cons (e_bin (i_addG .f) (ne_oAddG .f) (e_callB c_len ne_bLen (by rfl) m_len (by decide +kernel) (a_cons (e_var 5) a_nil)) (e_var 21)) (a_cons (e_bin (i_addG .f) (ne_oAddG .f) (e_var 11) (e_var 22)) a_nil))))) (e_if (it_cmp (i_eq hr.units) ne_oEqN (e_var 23) e_str) (e_var 23) (e_bin (i_addG .f) (ne_oAddG .f) (e_callB c_len ne_bLen (by rfl) m_len (by decide +kernel) (a_cons (e_var 5) a_nil)) (e_var 23)))) (iw_or1 (IW.it (iw_and (it_cmp (i_ne hr.units) ne_oEqN (e_var 24) e_str) (iw_and1 (it_cmp (i_ne hr.units) ne_oEqN (e_call c h__law_search (hr.mono (Nat.le_succ _)) (a_cons (e_var 9) (a_cons e_int (a_cons (e_bin (i_addG .f) (ne_oAddG .f) (e_callB c_len ne_bLen (by rfl) m_len (by decide +kernel) (a_cons (e_var 5) a_nil)) (e_var 21)) (a_cons (e_bin (i_addG .f) (ne_oAddG .f) (e_var 11) (e_var 22)) a_nil))))) (e_bin (i_addG .f) (ne_oAddG .f) (e_callB c_len ne_bLen (by rfl) m_len (by decide +kernel) (a_cons (e_var 5) a_nil)) (e_var 24))))))))) (ss_one (s_ret e_bl)) ss_nil)
      (ss_one (s_if (IW.it (iw_and (it_cmp (i_ne hr.units) ne_oEqN (e_var 23) e_str) (iw_and1 (it_cmp i_gt ne_oI0 (e_callB c_abs ne_bAbs (by rfl) m_abs (by decide +kernel) (a_cons (e_bin i_sub ne_oI0 (e_ix (e_var 10) (e_var 21)) (e_var 22)) a_nil)) (e_bin i_sub ne_oI0 (e_var 23) (e_var 21)))))) (ss_one (s_ret e_bl)) ss_nil))))))))))))))))))))))))))))))))))))))
      (ss_one (s_ret e_bl))))
end
end Pg
set_option maxRecDepth 100000
set_option maxHeartbeats 4000000
namespace Pg
open PySem PySem.Spec PyProof.Rows L2 Vi
namespace D
def _law_draws : He.DefD := ⟨("_law_draws", none), "_law_draws", "_law_draws", defArgs s__law_draws, defBody s__law_draws, defScope s__law_draws, [], []⟩
def _law_take : He.DefD := ⟨("_law_take", none), "_law_take", "_law_take", defArgs s__law_take, defBody s__law_take, defScope s__law_take, [], []⟩
def _law_row : He.DefD := ⟨("_law_row", none), "_law_row", "_law_row", defArgs s__law_row, defBody s__law_row, defScope s__law_row, [], []⟩
def _law_word : He.DefD := ⟨("_law_word", none), "_law_word", "_law_word", defArgs s__law_word, defBody s__law_word, defScope s__law_word, [], []⟩
def has_goal : He.DefD := ⟨("has_goal", none), "has_goal", "has_goal", defArgs s_has_goal, defBody s_has_goal, defScope s_has_goal, [], []⟩
def is_number : He.DefD := ⟨("is_number", none), "is_number", "is_number", defArgs s_is_number, defBody s_is_number, defScope s_is_number, [], []⟩
def LeastTree_check : He.DefD := ⟨("LeastTree", some "check"), "check", "LeastTree.check", defArgs s_LeastTree_check, defBody s_LeastTree_check, defScope s_LeastTree_check, [], []⟩
def Row_check : He.DefD := ⟨("Row", some "check"), "check", "Row.check", defArgs s_Row_check, defBody s_Row_check, defScope s_Row_check, [], []⟩
def Row_ones_ahead : He.DefD := ⟨("Row", some "ones_ahead"), "ones_ahead", "Row.ones_ahead", defArgs s_Row_ones_ahead, defBody s_Row_ones_ahead, defScope s_Row_ones_ahead, [], []⟩
def Row_count : He.DefD := ⟨("Row", some "count"), "count", "Row.count", defArgs s_Row_count, defBody s_Row_count, defScope s_Row_count, [], []⟩
def LeastTree_rise : He.DefD := ⟨("LeastTree", some "rise"), "rise", "LeastTree.rise", defArgs s_LeastTree_rise, defBody s_LeastTree_rise, defScope s_LeastTree_rise, [], []⟩
def turns_of : He.DefD := ⟨("turns_of", none), "turns_of", "turns_of", defArgs s_turns_of, defBody s_turns_of, defScope s_turns_of, [], []⟩
def LeastTree_look : He.DefD := ⟨("LeastTree", some "look"), "look", "LeastTree.look", defArgs s_LeastTree_look, defBody s_LeastTree_look, defScope s_LeastTree_look, [], []⟩
def LeastTree_halves : He.DefD := ⟨("LeastTree", some "halves"), "halves", "LeastTree.halves", defArgs s_LeastTree_halves, defBody s_LeastTree_halves, defScope s_LeastTree_halves, [], []⟩
def LeastTree_is_block : He.DefD := ⟨("LeastTree", some "is_block"), "is_block", "LeastTree.is_block", defArgs s_LeastTree_is_block, defBody s_LeastTree_is_block, defScope s_LeastTree_is_block, [], []⟩
def LeastTree_first_in : He.DefD := ⟨("LeastTree", some "first_in"), "first_in", "LeastTree.first_in", defArgs s_LeastTree_first_in, defBody s_LeastTree_first_in, defScope s_LeastTree_first_in, [], []⟩
def LeastTree_pieces : He.DefD := ⟨("LeastTree", some "pieces"), "pieces", "LeastTree.pieces", defArgs s_LeastTree_pieces, defBody s_LeastTree_pieces, defScope s_LeastTree_pieces, [], []⟩
def LeastTree_forward : He.DefD := ⟨("LeastTree", some "forward"), "forward", "LeastTree.forward", defArgs s_LeastTree_forward, defBody s_LeastTree_forward, defScope s_LeastTree_forward, [], []⟩
def LeastTree_last_in : He.DefD := ⟨("LeastTree", some "last_in"), "last_in", "LeastTree.last_in", defArgs s_LeastTree_last_in, defBody s_LeastTree_last_in, defScope s_LeastTree_last_in, [], []⟩
def LeastTree_backward : He.DefD := ⟨("LeastTree", some "backward"), "backward", "LeastTree.backward", defArgs s_LeastTree_backward, defBody s_LeastTree_backward, defScope s_LeastTree_backward, [], []⟩
def _law_search : He.DefD := ⟨("_law_search", none), "_law_search", "_law_search", defArgs s__law_search, defBody s__law_search, defScope s__law_search, [], []⟩
def is_row : He.DefD := ⟨("is_row", none), "is_row", "is_row", defArgs s_is_row, defBody s_is_row, defScope s_is_row, [], []⟩
def put_together : He.DefD := ⟨("put_together", none), "put_together", "put_together", defArgs s_put_together, defBody s_put_together, defScope s_put_together, [], []⟩
def Row_init : He.DefD := ⟨("Row", some "__init__"), "__init__", "Row.__init__", defArgs s_Row_init, defBody s_Row_init, defScope s_Row_init, [], []⟩
def LeastTree_init : He.DefD := ⟨("LeastTree", some "__init__"), "__init__", "LeastTree.__init__", defArgs s_LeastTree_init, defBody s_LeastTree_init, defScope s_LeastTree_init, [], []⟩
def LeastTree_between : He.DefD := ⟨("LeastTree", some "between"), "between", "LeastTree.between", defArgs s_LeastTree_between, defBody s_LeastTree_between, defScope s_LeastTree_between, [], []⟩
def LeastTree_often : He.DefD := ⟨("LeastTree", some "often"), "often", "LeastTree.often", defArgs s_LeastTree_often, defBody s_LeastTree_often, defScope s_LeastTree_often, [], []⟩
def LeastTree_most : He.DefD := ⟨("LeastTree", some "most"), "most", "LeastTree.most", defArgs s_LeastTree_most, defBody s_LeastTree_most, defScope s_LeastTree_most, [], []⟩
def LeastTree_least : He.DefD := ⟨("LeastTree", some "least"), "least", "LeastTree.least", defArgs s_LeastTree_least, defBody s_LeastTree_least, defScope s_LeastTree_least, [], []⟩
def LeastTree_numbered : He.DefD := ⟨("LeastTree", some "numbered"), "numbered", "LeastTree.numbered", defArgs s_LeastTree_numbered, defBody s_LeastTree_numbered, defScope s_LeastTree_numbered, [], []⟩
def LeastTree_least_place : He.DefD := ⟨("LeastTree", some "least_place"), "least_place", "LeastTree.least_place", defArgs s_LeastTree_least_place, defBody s_LeastTree_least_place, defScope s_LeastTree_least_place, [], []⟩
def law : He.DefD := ⟨("law", none), "law", "law", defArgs s_law, defBody s_law, defScope s_law, [], []⟩
end D
def fn : List He.DefD := [D._law_draws, D._law_take, D._law_row, D._law_word, D.has_goal, D.is_number, D.LeastTree_check, D.Row_check, D.Row_ones_ahead, D.Row_count, D.LeastTree_rise, D.turns_of, D.LeastTree_look, D.LeastTree_halves, D.LeastTree_is_block, D.LeastTree_first_in, D.LeastTree_pieces, D.LeastTree_forward, D.LeastTree_last_in, D.LeastTree_backward, D._law_search, D.is_row, D.put_together, D.Row_init, D.LeastTree_init, D.LeastTree_between, D.LeastTree_often, D.LeastTree_most, D.LeastTree_least, D.LeastTree_numbered, D.LeastTree_least_place, D.law]
def fa : List He.Fa := [.glo "law",
  .glo "LeastTree",
  .glo "Row",
  .glo "BitsError",
  .glo "Malformed",
  .glo "NotThere",
  .glo "OutOfRange",
  .glo "Refused",
  .glo "TooMuch",
  .glo "_law_draws",
  .glo "_law_take",
  .glo "_law_row",
  .glo "_law_word",
  .glo "has_goal",
  .glo "is_number",
  .glo "turns_of",
  .glo "_law_search",
  .glo "is_row",
  .glo "put_together",
  .free "abs",
  .free "all",
  .free "bool",
  .free "enumerate",
  .free "int",
  .free "isinstance",
  .free "len",
  .free "list",
  .free "max",
  .free "min",
  .free "range",
  .free "reversed",
  .free "sum",
  .free "tuple",
  .int "BLOCK" 8,
  .int "GROUP" 8,
  .int "MOST_BITS" 4000,
  .cls "LeastTree",
  .cls "Row",
  .noat "Row" "bits",
  .noat "LeastTree" "bits",
  .noat "Row" "blocks",
  .noat "Row" "groups",
  .noat "LeastTree" "high",
  .noat "LeastTree" "long",
  .noat "Row" "looked",
  .noat "LeastTree" "looked",
  .noat "LeastTree" "nodes",
  .noat "Row" "ones",
  .noat "LeastTree" "row",
  .exc "Malformed",
  .exc "NotThere",
  .exm "BitsError" "BitsError" true,
  .exm "OutOfRange" "BitsError" true,
  .exm "Malformed" "BitsError" true,
  .exm "NotThere" "BitsError" true,
  .exm "Refused" "BitsError" true,
  .exm "TooMuch" "BitsError" true,
  .meth "LeastTree" "check",
  .meth "Row" "check",
  .meth "Row" "ones_ahead",
  .meth "Row" "count",
  .meth "LeastTree" "rise",
  .meth "LeastTree" "look",
  .meth "LeastTree" "halves",
  .meth "LeastTree" "is_block",
  .meth "LeastTree" "first_in",
  .meth "LeastTree" "pieces",
  .meth "LeastTree" "forward",
  .meth "LeastTree" "last_in",
  .meth "LeastTree" "backward",
  .mkr "Row",
  .mkr "LeastTree",
  .meth "LeastTree" "between",
  .meth "LeastTree" "often",
  .meth "LeastTree" "most",
  .meth "LeastTree" "least",
  .meth "LeastTree" "numbered",
  .meth "LeastTree" "least_place"]
def ex (K : PySem.W.Frag) : Bool := errsB K [(0, He.ga K "BitsError"), (1, He.ga K "Malformed"), (2, He.ga K "NotThere"), (3, He.ga K "OutOfRange"), (4, He.ga K "Refused"), (5, He.ga K "TooMuch")] [(1, He.ga K "Malformed"), (2, He.ga K "NotThere"), (3, He.ga K "OutOfRange"), (4, He.ga K "Refused"), (5, He.ga K "TooMuch")] && codeB K ("is_row", none)
def tf : List He.Defn := [("is_row", none)]
abbrev RR : PySem.W.OpenRow := PySem.W.OpenLaw.row PySem.Challenge.rw_bitsoftrees_k83_whole_least_trees_turned
abbrev hk : PySem.W.Hook := He.hookX 6 fa fn [] tf ex
def ob (s : PySem.W.SharedT) : He.AlX := He.obsX 6 fa fn [] tf ex (HandSHeadRun.getT s)
theorem ob_eq (s : PySem.W.SharedT) : ob s = hk.obs s.abs := He.obsX_eq (HandSHeadRun.getT_eq s)
def loose : List Str := ["_wall", "BitsError", "OutOfRange", "Malformed", "NotThere", "Refused", "TooMuch", "is_number", "BLOCK", "GROUP", "MOST_BITS", "is_row", "Row", "turns_of", "put_together", "has_goal", "LeastTree", "_law_draws", "_law_take", "_law_word", "_law_row", "_law_search"]
set_option maxHeartbeats 0 in
theorem run (w : World) : HandSHeadRun.RunEq RR (PySem.W.view RR.prog [27]) hk ob 4000 ["_wall", "BitsError", "OutOfRange", "Malformed", "NotThere", "Refused", "TooMuch", "is_number", "BLOCK", "GROUP", "MOST_BITS", "is_row", "Row", "turns_of", "put_together", "has_goal", "LeastTree", "_law_draws", "_law_take", "_law_word", "_law_row", "_law_search"] w := by
  intro os
  kernel_rfl
theorem facts {l : PySem.W.OpenLaw} {w : World} {K : PySem.W.Frag} {h : Heap} {mg : Str → Option Value} {f : Addr} (X : K.In h) (G : h.Ns mainGlobals mg) (hfa : mg ("law" : Str) = some (.ref f)) (c : He.SaysX fa fn [] tf ex w h K) :
    LamX.LawAtS l w K (L2N.CX l.prog w) 8 63 "script" mg f h := by
  have e := hfa.symm.trans (He.glo_ok X G (c.t.d.fact 0 (f := .glo "law") rfl))
  cases e
  have a_LeastTree : PySem.W.nsIn K mainGlobals "LeastTree" = some (some (.ref (He.ga K "LeastTree"))) := He.eqO_ok (c.t.d.fact 1 (f := .glo "LeastTree") rfl)
  have g_LeastTree := PySem.W.mg_of X G a_LeastTree
  have a_Row : PySem.W.nsIn K mainGlobals "Row" = some (some (.ref (He.ga K "Row"))) := He.eqO_ok (c.t.d.fact 2 (f := .glo "Row") rfl)
  have g_Row := PySem.W.mg_of X G a_Row
  have a_BitsError : PySem.W.nsIn K mainGlobals "BitsError" = some (some (.ref (He.ga K "BitsError"))) := He.eqO_ok (c.t.d.fact 3 (f := .glo "BitsError") rfl)
  have g_BitsError := PySem.W.mg_of X G a_BitsError
  have a_Malformed : PySem.W.nsIn K mainGlobals "Malformed" = some (some (.ref (He.ga K "Malformed"))) := He.eqO_ok (c.t.d.fact 4 (f := .glo "Malformed") rfl)
  have g_Malformed := PySem.W.mg_of X G a_Malformed
  have a_NotThere : PySem.W.nsIn K mainGlobals "NotThere" = some (some (.ref (He.ga K "NotThere"))) := He.eqO_ok (c.t.d.fact 5 (f := .glo "NotThere") rfl)
  have g_NotThere := PySem.W.mg_of X G a_NotThere
  have a_OutOfRange : PySem.W.nsIn K mainGlobals "OutOfRange" = some (some (.ref (He.ga K "OutOfRange"))) := He.eqO_ok (c.t.d.fact 6 (f := .glo "OutOfRange") rfl)
  have g_OutOfRange := PySem.W.mg_of X G a_OutOfRange
  have a_Refused : PySem.W.nsIn K mainGlobals "Refused" = some (some (.ref (He.ga K "Refused"))) := He.eqO_ok (c.t.d.fact 7 (f := .glo "Refused") rfl)
  have g_Refused := PySem.W.mg_of X G a_Refused
  have a_TooMuch : PySem.W.nsIn K mainGlobals "TooMuch" = some (some (.ref (He.ga K "TooMuch"))) := He.eqO_ok (c.t.d.fact 8 (f := .glo "TooMuch") rfl)
  have g_TooMuch := PySem.W.mg_of X G a_TooMuch
  have a__law_draws : PySem.W.nsIn K mainGlobals "_law_draws" = some (some (.ref (He.ga K "_law_draws"))) := He.eqO_ok (c.t.d.fact 9 (f := .glo "_law_draws") rfl)
  have i__law_draws := PySem.W.mg_of X G a__law_draws
  have a__law_take : PySem.W.nsIn K mainGlobals "_law_take" = some (some (.ref (He.ga K "_law_take"))) := He.eqO_ok (c.t.d.fact 10 (f := .glo "_law_take") rfl)
  have i__law_take := PySem.W.mg_of X G a__law_take
  have a__law_row : PySem.W.nsIn K mainGlobals "_law_row" = some (some (.ref (He.ga K "_law_row"))) := He.eqO_ok (c.t.d.fact 11 (f := .glo "_law_row") rfl)
  have i__law_row := PySem.W.mg_of X G a__law_row
  have a__law_word : PySem.W.nsIn K mainGlobals "_law_word" = some (some (.ref (He.ga K "_law_word"))) := He.eqO_ok (c.t.d.fact 12 (f := .glo "_law_word") rfl)
  have i__law_word := PySem.W.mg_of X G a__law_word
  have a_has_goal : PySem.W.nsIn K mainGlobals "has_goal" = some (some (.ref (He.ga K "has_goal"))) := He.eqO_ok (c.t.d.fact 13 (f := .glo "has_goal") rfl)
  have i_has_goal := PySem.W.mg_of X G a_has_goal
  have a_is_number : PySem.W.nsIn K mainGlobals "is_number" = some (some (.ref (He.ga K "is_number"))) := He.eqO_ok (c.t.d.fact 14 (f := .glo "is_number") rfl)
  have i_is_number := PySem.W.mg_of X G a_is_number
  have a_turns_of : PySem.W.nsIn K mainGlobals "turns_of" = some (some (.ref (He.ga K "turns_of"))) := He.eqO_ok (c.t.d.fact 15 (f := .glo "turns_of") rfl)
  have i_turns_of := PySem.W.mg_of X G a_turns_of
  have a__law_search : PySem.W.nsIn K mainGlobals "_law_search" = some (some (.ref (He.ga K "_law_search"))) := He.eqO_ok (c.t.d.fact 16 (f := .glo "_law_search") rfl)
  have i__law_search := PySem.W.mg_of X G a__law_search
  have a_is_row : PySem.W.nsIn K mainGlobals "is_row" = some (some (.ref (He.ga K "is_row"))) := He.eqO_ok (c.t.d.fact 17 (f := .glo "is_row") rfl)
  have i_is_row := PySem.W.mg_of X G a_is_row
  have a_put_together : PySem.W.nsIn K mainGlobals "put_together" = some (some (.ref (He.ga K "put_together"))) := He.eqO_ok (c.t.d.fact 18 (f := .glo "put_together") rfl)
  have i_put_together := PySem.W.mg_of X G a_put_together
  have m_abs := He.free_ok X G (c.t.d.fact 19 (f := .free "abs") rfl)
  have m_all := He.free_ok X G (c.t.d.fact 20 (f := .free "all") rfl)
  have m_bool := He.free_ok X G (c.t.d.fact 21 (f := .free "bool") rfl)
  have m_enumerate := He.free_ok X G (c.t.d.fact 22 (f := .free "enumerate") rfl)
  have m_int := He.free_ok X G (c.t.d.fact 23 (f := .free "int") rfl)
  have m_isinstance := He.free_ok X G (c.t.d.fact 24 (f := .free "isinstance") rfl)
  have m_len := He.free_ok X G (c.t.d.fact 25 (f := .free "len") rfl)
  have m_list := He.free_ok X G (c.t.d.fact 26 (f := .free "list") rfl)
  have m_max := He.free_ok X G (c.t.d.fact 27 (f := .free "max") rfl)
  have m_min := He.free_ok X G (c.t.d.fact 28 (f := .free "min") rfl)
  have m_range := He.free_ok X G (c.t.d.fact 29 (f := .free "range") rfl)
  have m_reversed := He.free_ok X G (c.t.d.fact 30 (f := .free "reversed") rfl)
  have m_sum := He.free_ok X G (c.t.d.fact 31 (f := .free "sum") rfl)
  have m_tuple := He.free_ok X G (c.t.d.fact 32 (f := .free "tuple") rfl)
  obtain ⟨t_BLOCK, g_BLOCK⟩ := He.int_ok X G (c.t.d.fact 33 (f := .int "BLOCK" 8) rfl)
  obtain ⟨t_GROUP, g_GROUP⟩ := He.int_ok X G (c.t.d.fact 34 (f := .int "GROUP" 8) rfl)
  obtain ⟨t_MOST_BITS, g_MOST_BITS⟩ := He.int_ok X G (c.t.d.fact 35 (f := .int "MOST_BITS" 4000) rfl)
  have cl_LeastTree := He.cls_ok (c.t.d.fact 36 (f := .cls "LeastTree") rfl)
  have cl_Row := He.cls_ok (c.t.d.fact 37 (f := .cls "Row") rfl)
  have n_Row_bits := He.noat_ok (c.t.d.fact 38 (f := .noat "Row" "bits") rfl)
  have n_LeastTree_bits := He.noat_ok (c.t.d.fact 39 (f := .noat "LeastTree" "bits") rfl)
  have k_bits : Flds K [25, 16] 24 := (flds_cons (x := 25) a_Row cl_Row n_Row_bits (flds_cons (x := 16) a_LeastTree cl_LeastTree n_LeastTree_bits flds_nil))
  have n_Row_blocks := He.noat_ok (c.t.d.fact 40 (f := .noat "Row" "blocks") rfl)
  have k_blocks : Flds K [25] 26 := (flds_cons (x := 25) a_Row cl_Row n_Row_blocks flds_nil)
  have n_Row_groups := He.noat_ok (c.t.d.fact 41 (f := .noat "Row" "groups") rfl)
  have k_groups : Flds K [25] 74 := (flds_cons (x := 25) a_Row cl_Row n_Row_groups flds_nil)
  have n_LeastTree_high := He.noat_ok (c.t.d.fact 42 (f := .noat "LeastTree" "high") rfl)
  have k_high : Flds K [16] 81 := (flds_cons (x := 16) a_LeastTree cl_LeastTree n_LeastTree_high flds_nil)
  have n_LeastTree_long := He.noat_ok (c.t.d.fact 43 (f := .noat "LeastTree" "long") rfl)
  have k_long : Flds K [16] 114 := (flds_cons (x := 16) a_LeastTree cl_LeastTree n_LeastTree_long flds_nil)
  have n_Row_looked := He.noat_ok (c.t.d.fact 44 (f := .noat "Row" "looked") rfl)
  have n_LeastTree_looked := He.noat_ok (c.t.d.fact 45 (f := .noat "LeastTree" "looked") rfl)
  have k_looked : Flds K [25, 16] 116 := (flds_cons (x := 25) a_Row cl_Row n_Row_looked (flds_cons (x := 16) a_LeastTree cl_LeastTree n_LeastTree_looked flds_nil))
  have n_LeastTree_nodes := He.noat_ok (c.t.d.fact 46 (f := .noat "LeastTree" "nodes") rfl)
  have k_nodes : Flds K [16] 131 := (flds_cons (x := 16) a_LeastTree cl_LeastTree n_LeastTree_nodes flds_nil)
  have n_Row_ones := He.noat_ok (c.t.d.fact 47 (f := .noat "Row" "ones") rfl)
  have k_ones : Flds K [25] 139 := (flds_cons (x := 25) a_Row cl_Row n_Row_ones flds_nil)
  have n_LeastTree_row := He.noat_ok (c.t.d.fact 48 (f := .noat "LeastTree" "row") rfl)
  have k_row : Flds K [16] 164 := (flds_cons (x := 16) a_LeastTree cl_LeastTree n_LeastTree_row flds_nil)
  have x_Malformed := He.exc_ok (c.t.d.fact 49 (f := .exc "Malformed") rfl)
  have r_Malformed : ErrC K mg 1 := ⟨He.ga K "Malformed", a_Malformed, g_Malformed, x_Malformed.1, x_Malformed.2.1, x_Malformed.2.2.1, x_Malformed.2.2.2⟩
  have x_NotThere := He.exc_ok (c.t.d.fact 50 (f := .exc "NotThere") rfl)
  have r_NotThere : ErrC K mg 2 := ⟨He.ga K "NotThere", a_NotThere, g_NotThere, x_NotThere.1, x_NotThere.2.1, x_NotThere.2.2.1, x_NotThere.2.2.2⟩
  have y_BitsError_0 := He.exm_ok (c.t.d.fact 51 (f := .exm "BitsError" "BitsError" true) rfl)
  have y_BitsError_3 := He.exm_ok (c.t.d.fact 52 (f := .exm "OutOfRange" "BitsError" true) rfl)
  have y_BitsError_1 := He.exm_ok (c.t.d.fact 53 (f := .exm "Malformed" "BitsError" true) rfl)
  have y_BitsError_2 := He.exm_ok (c.t.d.fact 54 (f := .exm "NotThere" "BitsError" true) rfl)
  have y_BitsError_4 := He.exm_ok (c.t.d.fact 55 (f := .exm "Refused" "BitsError" true) rfl)
  have y_BitsError_5 := He.exm_ok (c.t.d.fact 56 (f := .exm "TooMuch" "BitsError" true) rfl)
  have T_BitsError : Subs K (.ref (He.ga K "BitsError")) [(0, true), (3, true), (1, true), (2, true), (4, true), (5, true)] := (subs_cons (x := 0) a_BitsError y_BitsError_0 (subs_cons (x := 3) a_OutOfRange y_BitsError_3 (subs_cons (x := 1) a_Malformed y_BitsError_1 (subs_cons (x := 2) a_NotThere y_BitsError_2 (subs_cons (x := 4) a_Refused y_BitsError_4 (subs_cons (x := 5) a_TooMuch y_BitsError_5 subs_nil))))))
  have em : (errsB K [(0, He.ga K "BitsError"), (1, He.ga K "Malformed"), (2, He.ga K "NotThere"), (3, He.ga K "OutOfRange"), (4, He.ga K "Refused"), (5, He.ga K "TooMuch")] [(1, He.ga K "Malformed"), (2, He.ga K "NotThere"), (3, He.ga K "OutOfRange"), (4, He.ga K "Refused"), (5, He.ga K "TooMuch")] && codeB K ("is_row", none)) = true := c.more
  simp only [Bool.and_eq_true] at em
  obtain ⟨em1, em2⟩ := em
  have ek : ErrsK K := errs_of a_BitsError a_Malformed a_NotThere a_OutOfRange a_Refused a_TooMuch em1
  obtain ⟨fd__law_draws, D__law_draws⟩ := c.t.d.def_ 0 (d := D._law_draws) rfl
  have N__law_draws : Fun K "_law_draws" "_law_draws" s__law_draws _ fd__law_draws := fun_of_D D__law_draws
  obtain ⟨fd__law_take, D__law_take⟩ := c.t.d.def_ 1 (d := D._law_take) rfl
  have N__law_take : Fun K "_law_take" "_law_take" s__law_take _ fd__law_take := fun_of_D D__law_take
  obtain ⟨fd__law_row, D__law_row⟩ := c.t.d.def_ 2 (d := D._law_row) rfl
  have N__law_row : Fun K "_law_row" "_law_row" s__law_row _ fd__law_row := fun_of_D D__law_row
  obtain ⟨fd__law_word, D__law_word⟩ := c.t.d.def_ 3 (d := D._law_word) rfl
  have N__law_word : Fun K "_law_word" "_law_word" s__law_word _ fd__law_word := fun_of_D D__law_word
  obtain ⟨fd_has_goal, D_has_goal⟩ := c.t.d.def_ 4 (d := D.has_goal) rfl
  have N_has_goal : Fun K "has_goal" "has_goal" s_has_goal _ fd_has_goal := fun_of_D D_has_goal
  obtain ⟨fd_is_number, D_is_number⟩ := c.t.d.def_ 5 (d := D.is_number) rfl
  have N_is_number : Fun K "is_number" "is_number" s_is_number _ fd_is_number := fun_of_D D_is_number
  obtain ⟨fd_LeastTree_check, D_LeastTree_check⟩ := c.t.d.def_ 6 (d := D.LeastTree_check) rfl
  have N_LeastTree_check : Fun K "check" "LeastTree.check" s_LeastTree_check _ fd_LeastTree_check := fun_of_D D_LeastTree_check
  have w_LeastTree_check := He.meth_ok (c.t.d.fact 57 (f := .meth "LeastTree" "check") rfl)
  obtain ⟨fd_Row_check, D_Row_check⟩ := c.t.d.def_ 7 (d := D.Row_check) rfl
  have N_Row_check : Fun K "check" "Row.check" s_Row_check _ fd_Row_check := fun_of_D D_Row_check
  have w_Row_check := He.meth_ok (c.t.d.fact 58 (f := .meth "Row" "check") rfl)
  obtain ⟨fd_Row_ones_ahead, D_Row_ones_ahead⟩ := c.t.d.def_ 8 (d := D.Row_ones_ahead) rfl
  have N_Row_ones_ahead : Fun K "ones_ahead" "Row.ones_ahead" s_Row_ones_ahead _ fd_Row_ones_ahead := fun_of_D D_Row_ones_ahead
  have w_Row_ones_ahead := He.meth_ok (c.t.d.fact 59 (f := .meth "Row" "ones_ahead") rfl)
  obtain ⟨fd_Row_count, D_Row_count⟩ := c.t.d.def_ 9 (d := D.Row_count) rfl
  have N_Row_count : Fun K "count" "Row.count" s_Row_count _ fd_Row_count := fun_of_D D_Row_count
  have w_Row_count := He.meth_ok (c.t.d.fact 60 (f := .meth "Row" "count") rfl)
  obtain ⟨fd_LeastTree_rise, D_LeastTree_rise⟩ := c.t.d.def_ 10 (d := D.LeastTree_rise) rfl
  have N_LeastTree_rise : Fun K "rise" "LeastTree.rise" s_LeastTree_rise _ fd_LeastTree_rise := fun_of_D D_LeastTree_rise
  have w_LeastTree_rise := He.meth_ok (c.t.d.fact 61 (f := .meth "LeastTree" "rise") rfl)
  obtain ⟨fd_turns_of, D_turns_of⟩ := c.t.d.def_ 11 (d := D.turns_of) rfl
  have N_turns_of : Fun K "turns_of" "turns_of" s_turns_of _ fd_turns_of := fun_of_D D_turns_of
  obtain ⟨fd_LeastTree_look, D_LeastTree_look⟩ := c.t.d.def_ 12 (d := D.LeastTree_look) rfl
  have N_LeastTree_look : Fun K "look" "LeastTree.look" s_LeastTree_look _ fd_LeastTree_look := fun_of_D D_LeastTree_look
  have w_LeastTree_look := He.meth_ok (c.t.d.fact 62 (f := .meth "LeastTree" "look") rfl)
  obtain ⟨fd_LeastTree_halves, D_LeastTree_halves⟩ := c.t.d.def_ 13 (d := D.LeastTree_halves) rfl
  have N_LeastTree_halves : Fun K "halves" "LeastTree.halves" s_LeastTree_halves _ fd_LeastTree_halves := fun_of_D D_LeastTree_halves
  have w_LeastTree_halves := He.meth_ok (c.t.d.fact 63 (f := .meth "LeastTree" "halves") rfl)
  obtain ⟨fd_LeastTree_is_block, D_LeastTree_is_block⟩ := c.t.d.def_ 14 (d := D.LeastTree_is_block) rfl
  have N_LeastTree_is_block : Fun K "is_block" "LeastTree.is_block" s_LeastTree_is_block _ fd_LeastTree_is_block := fun_of_D D_LeastTree_is_block
  have w_LeastTree_is_block := He.meth_ok (c.t.d.fact 64 (f := .meth "LeastTree" "is_block") rfl)
  obtain ⟨fd_LeastTree_first_in, D_LeastTree_first_in⟩ := c.t.d.def_ 15 (d := D.LeastTree_first_in) rfl
  have N_LeastTree_first_in : Fun K "first_in" "LeastTree.first_in" s_LeastTree_first_in _ fd_LeastTree_first_in := fun_of_D D_LeastTree_first_in
  have w_LeastTree_first_in := He.meth_ok (c.t.d.fact 65 (f := .meth "LeastTree" "first_in") rfl)
  obtain ⟨fd_LeastTree_pieces, D_LeastTree_pieces⟩ := c.t.d.def_ 16 (d := D.LeastTree_pieces) rfl
  have N_LeastTree_pieces : Fun K "pieces" "LeastTree.pieces" s_LeastTree_pieces _ fd_LeastTree_pieces := fun_of_D D_LeastTree_pieces
  have w_LeastTree_pieces := He.meth_ok (c.t.d.fact 66 (f := .meth "LeastTree" "pieces") rfl)
  obtain ⟨fd_LeastTree_forward, D_LeastTree_forward⟩ := c.t.d.def_ 17 (d := D.LeastTree_forward) rfl
  have N_LeastTree_forward : Fun K "forward" "LeastTree.forward" s_LeastTree_forward _ fd_LeastTree_forward := fun_of_D D_LeastTree_forward
  have w_LeastTree_forward := He.meth_ok (c.t.d.fact 67 (f := .meth "LeastTree" "forward") rfl)
  obtain ⟨fd_LeastTree_last_in, D_LeastTree_last_in⟩ := c.t.d.def_ 18 (d := D.LeastTree_last_in) rfl
  have N_LeastTree_last_in : Fun K "last_in" "LeastTree.last_in" s_LeastTree_last_in _ fd_LeastTree_last_in := fun_of_D D_LeastTree_last_in
  have w_LeastTree_last_in := He.meth_ok (c.t.d.fact 68 (f := .meth "LeastTree" "last_in") rfl)
  obtain ⟨fd_LeastTree_backward, D_LeastTree_backward⟩ := c.t.d.def_ 19 (d := D.LeastTree_backward) rfl
  have N_LeastTree_backward : Fun K "backward" "LeastTree.backward" s_LeastTree_backward _ fd_LeastTree_backward := fun_of_D D_LeastTree_backward
  have w_LeastTree_backward := He.meth_ok (c.t.d.fact 69 (f := .meth "LeastTree" "backward") rfl)
  obtain ⟨fd__law_search, D__law_search⟩ := c.t.d.def_ 20 (d := D._law_search) rfl
  have N__law_search : Fun K "_law_search" "_law_search" s__law_search _ fd__law_search := fun_of_D D__law_search
  obtain ⟨fd_is_row, D_is_row⟩ := c.t.d.def_ 21 (d := D.is_row) rfl
  have N_is_row : Fun K "is_row" "is_row" s_is_row _ fd_is_row := fun_of_D D_is_row
  obtain ⟨fd_put_together, D_put_together⟩ := c.t.d.def_ 22 (d := D.put_together) rfl
  have N_put_together : Fun K "put_together" "put_together" s_put_together _ fd_put_together := fun_of_D D_put_together
  obtain ⟨fd_Row_init, D_Row_init⟩ := c.t.d.def_ 23 (d := D.Row_init) rfl
  have N_Row_init : Fun K "__init__" "Row.__init__" s_Row_init _ fd_Row_init := fun_of_D D_Row_init
  have w_Row_init := He.mkr_ok (c.t.d.fact 70 (f := .mkr "Row") rfl)
  obtain ⟨fd_LeastTree_init, D_LeastTree_init⟩ := c.t.d.def_ 24 (d := D.LeastTree_init) rfl
  have N_LeastTree_init : Fun K "__init__" "LeastTree.__init__" s_LeastTree_init _ fd_LeastTree_init := fun_of_D D_LeastTree_init
  have w_LeastTree_init := He.mkr_ok (c.t.d.fact 71 (f := .mkr "LeastTree") rfl)
  obtain ⟨fd_LeastTree_between, D_LeastTree_between⟩ := c.t.d.def_ 25 (d := D.LeastTree_between) rfl
  have N_LeastTree_between : Fun K "between" "LeastTree.between" s_LeastTree_between _ fd_LeastTree_between := fun_of_D D_LeastTree_between
  have w_LeastTree_between := He.meth_ok (c.t.d.fact 72 (f := .meth "LeastTree" "between") rfl)
  obtain ⟨fd_LeastTree_often, D_LeastTree_often⟩ := c.t.d.def_ 26 (d := D.LeastTree_often) rfl
  have N_LeastTree_often : Fun K "often" "LeastTree.often" s_LeastTree_often _ fd_LeastTree_often := fun_of_D D_LeastTree_often
  have w_LeastTree_often := He.meth_ok (c.t.d.fact 73 (f := .meth "LeastTree" "often") rfl)
  obtain ⟨fd_LeastTree_most, D_LeastTree_most⟩ := c.t.d.def_ 27 (d := D.LeastTree_most) rfl
  have N_LeastTree_most : Fun K "most" "LeastTree.most" s_LeastTree_most _ fd_LeastTree_most := fun_of_D D_LeastTree_most
  have w_LeastTree_most := He.meth_ok (c.t.d.fact 74 (f := .meth "LeastTree" "most") rfl)
  obtain ⟨fd_LeastTree_least, D_LeastTree_least⟩ := c.t.d.def_ 28 (d := D.LeastTree_least) rfl
  have N_LeastTree_least : Fun K "least" "LeastTree.least" s_LeastTree_least _ fd_LeastTree_least := fun_of_D D_LeastTree_least
  have w_LeastTree_least := He.meth_ok (c.t.d.fact 75 (f := .meth "LeastTree" "least") rfl)
  obtain ⟨fd_LeastTree_numbered, D_LeastTree_numbered⟩ := c.t.d.def_ 29 (d := D.LeastTree_numbered) rfl
  have N_LeastTree_numbered : Fun K "numbered" "LeastTree.numbered" s_LeastTree_numbered _ fd_LeastTree_numbered := fun_of_D D_LeastTree_numbered
  have w_LeastTree_numbered := He.meth_ok (c.t.d.fact 76 (f := .meth "LeastTree" "numbered") rfl)
  obtain ⟨fd_LeastTree_least_place, D_LeastTree_least_place⟩ := c.t.d.def_ 30 (d := D.LeastTree_least_place) rfl
  have N_LeastTree_least_place : Fun K "least_place" "LeastTree.least_place" s_LeastTree_least_place _ fd_LeastTree_least_place := fun_of_D D_LeastTree_least_place
  have w_LeastTree_least_place := He.meth_ok (c.t.d.fact 77 (f := .meth "LeastTree" "least_place") rfl)
  obtain ⟨fd_law, D_law⟩ := c.t.d.def_ 31 (d := D.law) rfl
  have N_law : Fun K "law" "law" s_law _ fd_law := fun_of_D D_law
  have inT : (("is_row", none) : He.Defn) ∈ ([("is_row", none)] : List He.Defn) := List.mem_singleton.mpr rfl
  have hd0 := c.hd _ inT
  have out0 := c.out _ inT
  have emp0 := c.empty _ inT
  obtain ⟨oc0, od0, kV0, dc0, pm0, an0, cdv0, ct0, osl0, hf0, lk0, hc0⟩ := N_is_row.ex
  have co0 := codeB_ok (p := ("is_row", none)) lk0 em2
  have tab_is_row : IsTab K (He.cT K ("is_row", none)).2 := isTab_of (x := "is_row") (by decide) a_is_row lk0 co0 hd0
  have bl := FunD.bindsA (ps := ["script"]) D_law fun _ _ _ _ _ _ us hl => match us, hl with | [_], _ => rfl
  have TB0 : ∀ base : Heap, (∀ p ∈ ([((He.cT K ("is_row", none)).1, (He.cT K ("is_row", none)).2)] : List (Addr × Addr)), LamX.TabB base mg p.1 p.2) → LamX.TabB base mg (He.codeOf K ("is_row", none)) (He.cT K ("is_row", none)).2 := fun base TB => TB _ (List.mem_singleton.mpr rfl)
  refine ⟨fd_law, [((He.cT K ("is_row", none)).1, (He.cT K ("is_row", none)).2)], spM K f_law 1, fun p hp => ?_, fun p hp => ?_, fun p hp => ?_, fun s v => bl s [v] rfl, fun H a ns hn hb hT hs => law_spL law_ok K H a ns hn hs fun P hP => ?_, fun base _ _ TB => ?_⟩
  · rw [List.mem_singleton.mp hp]; exact emp0
  · rw [List.mem_singleton.mp hp]; exact out0
  · rw [List.mem_singleton.mp hp]; exact PySem.W.codeHd_of_K X hd0
  · rw [isTab_row rfl a_is_row lk0 co0 hd0 hP]
    exact hT _ (List.mem_singleton.mpr rfl)
  · have h__law_draws := d__law_draws (P := l.prog) (w := w) (mg := mg) (base := base) (k := 0) N__law_draws i__law_draws m_abs m_int m_range m_len m_list m_reversed
    have h__law_take := d__law_take (P := l.prog) (w := w) (mg := mg) (base := base) (k := 0) N__law_take i__law_take m_len m_int
    have h__law_row := d__law_row (P := l.prog) (w := w) (mg := mg) (base := base) (k := 1) N__law_row i__law_row m_int m_range m_tuple (h__law_take.mono (Nat.le_of_ble_eq_true rfl))
    have w__law_word := d__law_word (P := l.prog) (w := w) (mg := mg) (base := base) (k := 0) N__law_word i__law_word m_isinstance m_len a_OutOfRange g_OutOfRange a_Malformed g_Malformed a_NotThere g_NotThere a_Refused g_Refused a_TooMuch g_TooMuch ek
    have h_has_goal := d_has_goal (P := l.prog) (w := w) (mg := mg) (base := base) (k := 0) N_has_goal i_has_goal 
    have h_is_number := d_is_number (P := l.prog) (w := w) (mg := mg) (base := base) (k := 0) N_is_number i_is_number m_int m_isinstance m_bool
    have q_is_number := dq_is_number (P := l.prog) (w := w) (mg := mg) (base := base) N_is_number i_is_number m_isinstance m_int m_bool
    have h_LeastTree_check := d_LeastTree_check (P := l.prog) (w := w) (mg := mg) (base := base) (k := 1) N_LeastTree_check a_LeastTree cl_LeastTree w_LeastTree_check k_long r_NotThere (h_is_number.mono (Nat.le_of_ble_eq_true rfl))
    have h_Row_check := d_Row_check (P := l.prog) (w := w) (mg := mg) (base := base) (k := 1) N_Row_check a_Row cl_Row w_Row_check r_NotThere (h_is_number.mono (Nat.le_of_ble_eq_true rfl))
    have h_Row_ones_ahead := d_Row_ones_ahead (P := l.prog) (w := w) (mg := mg) (base := base) (k := 0) N_Row_ones_ahead a_Row cl_Row w_Row_ones_ahead m_sum g_BLOCK g_GROUP k_looked k_bits k_groups k_blocks
    have h_Row_count := d_Row_count (P := l.prog) (w := w) (mg := mg) (base := base) (k := 2) N_Row_count a_Row cl_Row w_Row_count m_len k_bits (mets_cons (x := 25) (h_Row_check.mono (Nat.le_of_ble_eq_true rfl)) mets_nil) (mets_cons (x := 25) (h_Row_ones_ahead.mono (Nat.le_of_ble_eq_true rfl)) mets_nil)
    have h_LeastTree_rise := d_LeastTree_rise (P := l.prog) (w := w) (mg := mg) (base := base) (k := 3) N_LeastTree_rise a_LeastTree cl_LeastTree w_LeastTree_rise k_row (mets_cons (x := 16) (h_LeastTree_check.mono (Nat.le_of_ble_eq_true rfl)) mets_nil) (mets_cons (x := 25) (h_Row_count.mono (Nat.le_of_ble_eq_true rfl)) mets_nil)
    have h_turns_of := d_turns_of (P := l.prog) (w := w) (mg := mg) (base := base) (k := 0) N_turns_of i_turns_of m_max m_enumerate
    have h_LeastTree_look := d_LeastTree_look (P := l.prog) (w := w) (mg := mg) (base := base) (k := 1) N_LeastTree_look a_LeastTree cl_LeastTree w_LeastTree_look k_looked k_bits k_nodes (h_turns_of.mono (Nat.le_of_ble_eq_true rfl))
    have h_LeastTree_halves := d_LeastTree_halves (P := l.prog) (w := w) (mg := mg) (base := base) (k := 0) N_LeastTree_halves a_LeastTree cl_LeastTree w_LeastTree_halves 
    have h_LeastTree_is_block := d_LeastTree_is_block (P := l.prog) (w := w) (mg := mg) (base := base) (k := 0) N_LeastTree_is_block a_LeastTree cl_LeastTree w_LeastTree_is_block g_BLOCK
    have h_LeastTree_first_in := d_LeastTree_first_in (P := l.prog) (w := w) (mg := mg) (base := base) (k := 2) N_LeastTree_first_in a_LeastTree cl_LeastTree w_LeastTree_first_in k_looked k_bits (h_has_goal.mono (Nat.le_of_ble_eq_true rfl)) (mets_cons (x := 16) (h_LeastTree_halves.mono (Nat.le_of_ble_eq_true rfl)) mets_nil) (mets_cons (x := 16) (h_LeastTree_look.mono (Nat.le_of_ble_eq_true rfl)) mets_nil) (mets_cons (x := 16) (h_LeastTree_is_block.mono (Nat.le_of_ble_eq_true rfl)) mets_nil)
    have h_LeastTree_pieces := d_LeastTree_pieces (P := l.prog) (w := w) (mg := mg) (base := base) (k := 0) N_LeastTree_pieces a_LeastTree cl_LeastTree w_LeastTree_pieces m_min g_BLOCK k_high
    have h_LeastTree_forward := d_LeastTree_forward (P := l.prog) (w := w) (mg := mg) (base := base) (k := 4) N_LeastTree_forward a_LeastTree cl_LeastTree w_LeastTree_forward k_long r_NotThere (h_has_goal.mono (Nat.le_of_ble_eq_true rfl)) (mets_cons (x := 16) (h_LeastTree_rise.mono (Nat.le_of_ble_eq_true rfl)) mets_nil) (mets_cons (x := 16) (h_LeastTree_look.mono (Nat.le_of_ble_eq_true rfl)) mets_nil) (mets_cons (x := 16) (h_LeastTree_first_in.mono (Nat.le_of_ble_eq_true rfl)) mets_nil) (mets_cons (x := 16) (h_LeastTree_pieces.mono (Nat.le_of_ble_eq_true rfl)) mets_nil)
    have h_LeastTree_last_in := d_LeastTree_last_in (P := l.prog) (w := w) (mg := mg) (base := base) (k := 2) N_LeastTree_last_in a_LeastTree cl_LeastTree w_LeastTree_last_in k_looked k_bits (h_has_goal.mono (Nat.le_of_ble_eq_true rfl)) (mets_cons (x := 16) (h_LeastTree_halves.mono (Nat.le_of_ble_eq_true rfl)) mets_nil) (mets_cons (x := 16) (h_LeastTree_look.mono (Nat.le_of_ble_eq_true rfl)) mets_nil) (mets_cons (x := 16) (h_LeastTree_is_block.mono (Nat.le_of_ble_eq_true rfl)) mets_nil)
    have h_LeastTree_backward := d_LeastTree_backward (P := l.prog) (w := w) (mg := mg) (base := base) (k := 4) N_LeastTree_backward a_LeastTree cl_LeastTree w_LeastTree_backward r_NotThere (h_has_goal.mono (Nat.le_of_ble_eq_true rfl)) (mets_cons (x := 16) (h_LeastTree_check.mono (Nat.le_of_ble_eq_true rfl)) mets_nil) (mets_cons (x := 16) (h_LeastTree_rise.mono (Nat.le_of_ble_eq_true rfl)) mets_nil) (mets_cons (x := 16) (h_LeastTree_look.mono (Nat.le_of_ble_eq_true rfl)) mets_nil) (mets_cons (x := 16) (h_LeastTree_last_in.mono (Nat.le_of_ble_eq_true rfl)) mets_nil) (mets_cons (x := 16) (h_LeastTree_pieces.mono (Nat.le_of_ble_eq_true rfl)) mets_nil)
    have h__law_search := d__law_search (P := l.prog) (w := w) (mg := mg) (base := base) (k := 5) N__law_search i__law_search g_BitsError T_BitsError (w__law_word.mono (Nat.le_of_ble_eq_true rfl)) (mets_cons (x := 16) (h_LeastTree_forward.mono (Nat.le_of_ble_eq_true rfl)) mets_nil) (mets_cons (x := 16) (h_LeastTree_backward.mono (Nat.le_of_ble_eq_true rfl)) mets_nil)
    have h_is_row := d_is_row (P := l.prog) (w := w) (mg := mg) (base := base) (k := 0) N_is_row i_is_row co0 (TB0 base TB) tab_is_row m_tuple m_isinstance m_len m_all g_MOST_BITS q_is_number
    have h_put_together := d_put_together (P := l.prog) (w := w) (mg := mg) (base := base) (k := 0) N_put_together i_put_together m_max m_min
    have h_Row_init := d_Row_init (P := l.prog) (w := w) (mg := mg) (base := base) (k := 1) N_Row_init a_Row g_Row w_Row_init m_sum m_len m_range g_BLOCK g_GROUP k_bits k_groups k_blocks k_looked k_ones r_Malformed (h_is_row.mono (Nat.le_of_ble_eq_true rfl))
    have h_LeastTree_init := d_LeastTree_init (P := l.prog) (w := w) (mg := mg) (base := base) (k := 2) N_LeastTree_init a_LeastTree g_LeastTree w_LeastTree_init m_len m_range g_BLOCK k_row k_bits k_long k_high k_nodes k_looked r_Malformed (h_is_row.mono (Nat.le_of_ble_eq_true rfl)) (h_turns_of.mono (Nat.le_of_ble_eq_true rfl)) (h_put_together.mono (Nat.le_of_ble_eq_true rfl)) (h_Row_init.mono (Nat.le_of_ble_eq_true rfl))
    have h_LeastTree_between := d_LeastTree_between (P := l.prog) (w := w) (mg := mg) (base := base) (k := 2) N_LeastTree_between a_LeastTree cl_LeastTree w_LeastTree_between r_NotThere (h_put_together.mono (Nat.le_of_ble_eq_true rfl)) (mets_cons (x := 16) (h_LeastTree_check.mono (Nat.le_of_ble_eq_true rfl)) mets_nil) (mets_cons (x := 16) (h_LeastTree_look.mono (Nat.le_of_ble_eq_true rfl)) mets_nil) (mets_cons (x := 16) (h_LeastTree_pieces.mono (Nat.le_of_ble_eq_true rfl)) mets_nil)
    have h_LeastTree_often := d_LeastTree_often (P := l.prog) (w := w) (mg := mg) (base := base) (k := 3) N_LeastTree_often a_LeastTree cl_LeastTree w_LeastTree_often (mets_cons (x := 16) (h_LeastTree_between.mono (Nat.le_of_ble_eq_true rfl)) mets_nil)
    have h_LeastTree_most := d_LeastTree_most (P := l.prog) (w := w) (mg := mg) (base := base) (k := 4) N_LeastTree_most a_LeastTree cl_LeastTree w_LeastTree_most (mets_cons (x := 16) (h_LeastTree_between.mono (Nat.le_of_ble_eq_true rfl)) mets_nil) (mets_cons (x := 16) (h_LeastTree_rise.mono (Nat.le_of_ble_eq_true rfl)) mets_nil)
    have h_LeastTree_least := d_LeastTree_least (P := l.prog) (w := w) (mg := mg) (base := base) (k := 4) N_LeastTree_least a_LeastTree cl_LeastTree w_LeastTree_least (mets_cons (x := 16) (h_LeastTree_between.mono (Nat.le_of_ble_eq_true rfl)) mets_nil) (mets_cons (x := 16) (h_LeastTree_rise.mono (Nat.le_of_ble_eq_true rfl)) mets_nil)
    have h_LeastTree_numbered := d_LeastTree_numbered (P := l.prog) (w := w) (mg := mg) (base := base) (k := 2) N_LeastTree_numbered a_LeastTree cl_LeastTree w_LeastTree_numbered m_range k_looked k_bits (mets_cons (x := 16) (h_LeastTree_halves.mono (Nat.le_of_ble_eq_true rfl)) mets_nil) (mets_cons (x := 16) (h_LeastTree_look.mono (Nat.le_of_ble_eq_true rfl)) mets_nil) (mets_cons (x := 16) (h_LeastTree_is_block.mono (Nat.le_of_ble_eq_true rfl)) mets_nil)
    have h_LeastTree_least_place := d_LeastTree_least_place (P := l.prog) (w := w) (mg := mg) (base := base) (k := 3) N_LeastTree_least_place a_LeastTree cl_LeastTree w_LeastTree_least_place r_NotThere (h_is_number.mono (Nat.le_of_ble_eq_true rfl)) (mets_cons (x := 16) (h_LeastTree_between.mono (Nat.le_of_ble_eq_true rfl)) mets_nil) (mets_cons (x := 16) (h_LeastTree_look.mono (Nat.le_of_ble_eq_true rfl)) mets_nil) (mets_cons (x := 16) (h_LeastTree_numbered.mono (Nat.le_of_ble_eq_true rfl)) mets_nil) (mets_cons (x := 16) (h_LeastTree_pieces.mono (Nat.le_of_ble_eq_true rfl)) mets_nil)
    exact d_law (P := l.prog) (w := w) (mg := mg) (base := base) (k := 6) N_law m_len m_tuple m_sum m_range m_min m_max m_abs (h__law_draws.mono (Nat.le_of_ble_eq_true rfl)) (h__law_row.mono (Nat.le_of_ble_eq_true rfl)) (h__law_take.mono (Nat.le_of_ble_eq_true rfl)) (h__law_search.mono (Nat.le_of_ble_eq_true rfl)) (h_LeastTree_init.mono (Nat.le_of_ble_eq_true rfl)) (mets_cons (x := 16) (h_LeastTree_rise.mono (Nat.le_of_ble_eq_true rfl)) mets_nil) (mets_cons (x := 16) (h_LeastTree_often.mono (Nat.le_of_ble_eq_true rfl)) mets_nil) (mets_cons (x := 16) (h_LeastTree_most.mono (Nat.le_of_ble_eq_true rfl)) mets_nil) (mets_cons (x := 16) (h_LeastTree_least.mono (Nat.le_of_ble_eq_true rfl)) mets_nil) (mets_cons (x := 16) (h_LeastTree_least_place.mono (Nat.le_of_ble_eq_true rfl)) mets_nil)
end Pg
open PySem PySem.W PySem.Calls PyProof.Rows in
set_option maxHeartbeats 0 in
theorem PySem.Challenge.cw_bitsoftrees_k83_whole_least_trees_turned_holds : PySem.Challenge.rw_bitsoftrees_k83_whole_least_trees_turned.Holds := by
  w_on; o_law
  refine HandSHeadRun.head_any (r := OpenLaw.row PySem.Challenge.rw_bitsoftrees_k83_whole_least_trees_turned) (q := view (OpenLaw.row PySem.Challenge.rw_bitsoftrees_k83_whole_least_trees_turned).prog [27]) (H := Pg.hk) (ob := Pg.ob) (M := 4000) (loose := ["_wall", "BitsError", "OutOfRange", "Malformed", "NotThere", "Refused", "TooMuch", "is_number", "BLOCK", "GROUP", "MOST_BITS", "is_row", "Row", "turns_of", "put_together", "has_goal", "LeastTree", "_law_draws", "_law_take", "_law_word", "_law_row", "_law_search"]) (d := HandSHeadRun.topDef (OpenLaw.row PySem.Challenge.rw_bitsoftrees_k83_whole_least_trees_turned).prog 27) (kwd := []) Pg.ob_eq
    (by kernel_rfl) (fun s => by kernel_rfl) Pg.run (by kernel_rfl) (by kernel_rfl) (by kernel_rfl) (by rfl) (by first | assumption | decide +kernel) (by decide +kernel) ⟨rfl, rfl, rfl, rfl, rfl, by decide +kernel⟩ ?hw ?hc
  case hw => w_witness2
  case hc =>
    refine LamX.walk_ofTsE (l := PySem.Challenge.rw_bitsoftrees_k83_whole_least_trees_turned) (n := 63) (k := 8) (x := "script") (CX := fun w => L2N.CX (PySem.Challenge.rw_bitsoftrees_k83_whole_least_trees_turned).prog w) rfl (by decide) (by kernel_rfl) ⟨rfl, by decide, by decide⟩ ?F ?X
    case X =>
      intro _ _ _ _ _ z
      obtain ⟨_, _, _, _, _, _, _, _, _, _, _, _, z⟩ := z
      exact z
    case F =>
      intro w mg fa h Y G hmg0
      obtain ⟨K, KX, c⟩ := Y
      have hmg : mg ("law" : PySem.Str) = some (.ref fa) := by
        have e : (HandSHeadRun.topDef (OpenLaw.row PySem.Challenge.rw_bitsoftrees_k83_whole_least_trees_turned).prog 27).name = ("law" : PySem.Str) := by kernel_rfl
        rw [← e]
        exact hmg0
      exact ⟨K, KX, Pg.facts KX G hmg c⟩
