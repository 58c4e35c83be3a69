import PyProof.Rows.All
import Wide.All
import OpenK.AllK
import Wide.FinOn
import HandS.ForMost
import HandS.Lambda
import HandS.HeadHook4
import HandS.HeadEnd
import KE.KExcInit
import HandS.ExcField
import HandS.Head0
import HandS.Head1
import HandS.Head2
import HandS.Style
import HandS.Conv
import HandS.TupAny
import HandS.IsInst
import HandS.Deep
import HandS.DictComp
import HandS.Steps
import HandS.Star
import HandS.Zip
import HandS.Defaults
import HandS.SortInts
import HandS.SortKw
import KE.SortKeyHeap
import KE.GoesZip
import KE.GoesMore
import KE.GoesEnum
import KE.KDictPairs
import KE.KDictZip
import KE.KTupSum
import HandS.ExcInit
import HandS.TryMany
import HandS.EndTab
import HandS.HeadWalk
import PySem.Challenge.RW_seatbuttons_k06_whole_joins_gone_through
set_option Elab.async false
set_option linter.all false
section
set_option maxRecDepth 100000
/-! XP: the text's defs, as data. -/
namespace XL
open PySem PySem.Spec PyProof.Rows L2
def top (i : Nat) : Stmt := PySem.Challenge.pw_seatbuttons_k06_whole_joins_gone_through.main.body.getD i (.Pass ⟨0, 0, 0, 0⟩)
def inCls (s : Stmt) (j : Nat) : Stmt := match s with
  | .ClassDef (body := b) .. => b.getD j (.Pass ⟨0, 0, 0, 0⟩)
  | _ => s
abbrev dT (x : Str) (i : Nat) : He.DefD := ⟨(x, none), x, x, defArgs (top i), defBody (top i), defScope (top i), [], []⟩
abbrev dM (c m q : Str) (i j : Nat) : He.DefD := ⟨(c, some m), m, q, defArgs (inCls (top i) j), defBody (inCls (top i) j), defScope (inCls (top i) j), [], []⟩
def fnL0 : List He.DefD := [dM "Barred" "__init__" "Barred.__init__" 7 0, dT "is_integer" 10, dT "is_between" 11, dT "check_number" 12, dT "ratio" 13, dT "common" 14, dT "factorial" 15, dT "is_turn" 17, dT "check_turn" 18, dT "check_turns" 19, dT "rings_of" 20, dT "falling" 21, dT "kind_for" 22, dT "after" 23, dT "from_rings" 24, dT "rings" 25, dT "kind_of" 26, dT "then" 27, dT "is_kind" 29, dT "check_kind" 30, dT "check_both" 31, dT "kinds_with" 32, dT "number_of_turns" 33, dT "all_kinds" 34, dT "how_many_turns" 35]
def fnL1 : List He.DefD := [dT "excess" 37, dT "barred_by" 38, dT "check_can" 39, dT "split" 40, dM "Tree" "__init__" "Tree.__init__" 41 0, dM "Tree" "grow" "Tree.grow" 41 1, dT "grown" 42, dT "three_turn" 43, dT "glued" 44, dT "pieces_at" 45, dT "all_glued" 46, dT "made" 47, dT "in_lengths" 48, dT "completed" 49, dT "can" 50, dT "bars" 51, dT "make" 52, dT "complete" 53, dT "fewest_rings" 54, dT "factors_of" 55, dT "chosen" 56, dT "count_of" 57, dT "how_many_joins" 58, dT "share" 59, dT "plane_joins" 60]
def fnL2 : List He.DefD := [dT "_law_cup" 62, dT "_law_sip" 63, dT "_law_of" 64, dT "_law_spin" 65, dT "_law_loops" 66, dT "_law_lens" 67, dT "_law_behind" 68, dT "_law_all" 69, dT "_law_caught" 70, dT "_law_of_kind" 71, dT "_law_ratio" 72, dT "_law_made_right" 73, dT "_law_completed_right" 74, dT "_law_right" 75, dT "law" 76]
def fnL : List He.DefD := fnL0 ++ fnL1 ++ fnL2
def faL0 : List He.Fa := [.glo "is_integer", .glo "is_between", .glo "check_number", .glo "ratio", .glo "common", .glo "factorial", .glo "is_turn", .glo "check_turn", .glo "check_turns", .glo "rings_of", .glo "falling", .glo "kind_for", .glo "after", .glo "from_rings", .glo "rings", .glo "kind_of", .glo "then", .glo "is_kind", .glo "check_kind", .glo "check_both", .glo "kinds_with", .glo "number_of_turns", .glo "all_kinds", .glo "how_many_turns", .glo "excess"]
def faL1 : List He.Fa := [.glo "barred_by", .glo "check_can", .glo "split", .glo "grown", .glo "three_turn", .glo "glued", .glo "pieces_at", .glo "all_glued", .glo "made", .glo "in_lengths", .glo "completed", .glo "can", .glo "bars", .glo "make", .glo "complete", .glo "fewest_rings", .glo "factors_of", .glo "chosen", .glo "count_of", .glo "how_many_joins", .glo "share", .glo "plane_joins", .glo "_law_cup", .glo "_law_sip", .glo "_law_of"]
def faL2 : List He.Fa := [.glo "_law_spin", .glo "_law_loops", .glo "_law_lens", .glo "_law_behind", .glo "_law_all", .glo "_law_caught", .glo "_law_of_kind", .glo "_law_ratio", .glo "_law_made_right", .glo "_law_completed_right", .glo "_law_right", .glo "law", .free "isinstance", .free "int", .free "bool", .free "tuple", .free "len", .free "abs", .free "all", .free "sorted", .free "list", .free "range", .free "zip", .free "enumerate", .free "sum"]
def faL3 : List He.Fa := [.free "min", .free "max", .free "dict", .free "divmod", .free "repr", .int "MOST_PLACES" 24, .glo "Tree", .cls "Tree", .meth "Tree" "grow", .mkr "Tree", .noat "Tree" "waiting", .noat "Tree" "corners", .noat "Tree" "places", .glo "InvalidTurn", .glo "InvalidKind", .glo "InvalidNumber", .glo "OtherSize", .glo "Barred", .noat "Barred" "by", .exm "Barred" "InvalidTurn" false, .exm "Barred" "InvalidKind" false, .exm "Barred" "InvalidNumber" false, .exm "Barred" "OtherSize" false, .exm "Barred" "Barred" true]
def faL : List He.Fa := faL0 ++ faL1 ++ faL2 ++ faL3
def tfL : List He.Defn := [("_law_made_right", none), ("_law_completed_right", none), ("_law_right", none)]
def aeBase : List Value := [.type "ArithmeticError", .type "Exception", .type "BaseException", .type "object"]
/-- what the written part says of the class Barred -/
def exB (K : PySem.W.Frag) : Bool := PySem.W.excInitIn K (He.ga K "Barred") aeBase "ArithmeticError.__new__" && (PySem.W.keepIn K (.ref (He.ga K "Barred")) && (decide (PySem.W.subIn K (.ref (He.ga K "Barred")) (.type "BaseException") = some true) && decide (PySem.W.typeIn K (.ref (He.ga K "Barred")) = some (.type "type"))))
end XL
end
section
set_option maxRecDepth 100000
set_option maxHeartbeats 4000000
/-! XX0: own exception classes over ArithmeticError, as a Bool (stands ahead of the head's run). -/
namespace XL
namespace AE
open PySem PySem.W PySem.Calls PyProof.Rows PySem.HandSPX
open Builtin Builtin.ObjectAttr

abbrev aeTail : List Value := [.type "ArithmeticError", .type "Exception", .type "BaseException", .type "object"]
/-- own classes ahead of ArithmeticError's line -/
def overAE : List Value → Bool
  | .ref _ :: rest => overAE rest
  | rest => rest == aeTail
end AE
open PySem PySem.Spec PyProof.Rows L2
def aexB (K : PySem.W.Frag) (C : Addr) : Bool := (match K.lookup C with
  | some ⟨.type "type", _, .cls cd, sl⟩ => (match cd.mro, sl.toList with
    | .ref C' :: bm, [_, _, _, _, some (.builtin n), _] => C' == C && (n == "ArithmeticError.__new__" && (!cd.hasDel && (cd.hasDict && AE.overAE bm)))
    | _, _ => false)
  | _ => false) && (decide (PySem.W.findIn K (.ref C) "__setattr__" = some (some (.builtin "object.__setattr__"))) && (decide (PySem.W.subIn K (.ref C) (.type "BaseException") = some true) && (decide (PySem.W.typeIn K (.ref C) = some (.type "type")) && PySem.W.keepIn K (.ref C))))
end XL
end
section
set_option maxRecDepth 100000
set_option maxHeartbeats 0
namespace XL
open PySem PySem.Spec PyProof.Rows L2
def lo0 : List Str := ["NotRight", "InvalidNumber", "InvalidTurn", "InvalidKind", "NotPossible", "OtherSize", "Barred", "MOST_PLACES", "is_integer", "is_between", "check_number", "ratio", "common", "factorial", "is_turn", "check_turn", "check_turns", "rings_of", "falling", "kind_for", "after", "from_rings", "rings", "kind_of", "then", "is_kind", "check_kind", "check_both", "kinds_with", "number_of_turns"]
def lo1 : List Str := ["all_kinds", "how_many_turns", "excess", "barred_by", "check_can", "split", "Tree", "grown", "three_turn", "glued", "pieces_at", "all_glued", "made", "in_lengths", "completed", "can", "bars", "make", "complete", "fewest_rings", "factors_of", "chosen", "count_of", "how_many_joins", "share", "plane_joins", "_law_cup", "_law_sip", "_law_of", "_law_spin"]
def lo2 : List Str := ["_law_loops", "_law_lens", "_law_behind", "_law_all", "_law_caught", "_law_of_kind", "_law_ratio", "_law_made_right", "_law_completed_right", "_law_right"]
def loose : List Str := lo0 ++ lo1 ++ lo2
def pM : He.Defn := ("_law_made_right", none)
def pC : He.Defn := ("_law_completed_right", none)
def pR : He.Defn := ("_law_right", none)
/-- what the written part says of Barred, of the tables -/
def exF (K : PySem.W.Frag) : Bool := aexB K (He.ga K "Barred") && (xfB K (He.ga K "Barred") && (decide (PySem.W.findIn K (.ref (He.ga K "Barred")) "__init__" = some (some (.ref (He.fAd K ("Barred", some "__init__"))))) && (decide (PySem.W.typeIn K (.ref (He.fAd K ("Barred", some "__init__"))) = some (.type "function")) &&
  (!Nat.beq (He.cT K pM).2 (He.cT K pC).2 && (!Nat.beq (He.cT K pM).2 (He.cT K pR).2 && !Nat.beq (He.cT K pC).2 (He.cT K pR).2)))))
abbrev RW : PySem.W.OpenRow := PySem.W.OpenLaw.row PySem.Challenge.rw_seatbuttons_k06_whole_joins_gone_through
abbrev hkX : PySem.W.Hook := He.hookX 5 faL fnL [] tfL exF
def obX (s : PySem.W.SharedT) : He.AlX := He.obsX 5 faL fnL [] tfL exF (HandSHeadRun.getT s)
theorem obX_eq (s : PySem.W.SharedT) : obX s = hkX.obs s.abs := He.obsX_eq (HandSHeadRun.getT_eq s)
theorem hdRun (w : World) : HandSHeadRun.RunEq RW (PySem.W.view RW.prog [76]) hkX obX 6000 loose w := by
  intro os
  kernel_rfl
end XL
end
section
set_option maxRecDepth 100000
/-! XA: an executable layer over HandS: deep values, cells, worlds, what they say of the abstract heap. -/
namespace XL
open PySem PySem.Spec PyProof.Rows L2

/-- deep values: tuples and frozen lists by value, mutable things by their cell's number -/
inductive D where
  | non | bl (b : Bool) | int (i : Int) | str (x : Str) | ty (n : String)
  | tup (xs : List D) | ftup (xs : List D) | lst (xs : List D) | ref (k : Nat)

inductive Cell where
  | lst (xs : List D) | fz (xs : List D) | dic (kvs : List (Int × D)) | ins (xs : List D) | dead

/-- tables of code objects that may grow; the class of instances, its fields -/
structure Tb where
  tb : List (Addr × Str)
  C : Addr
  nm : List Str
def T0 : Tb := ⟨[], 0, []⟩
abbrev Cs := List Cell
abbrev Sl := List (Option D)

def nth {α : Type} : List α → Nat → Option α
  | [], _ => none
  | a :: _, 0 => some a
  | _ :: l, n + 1 => nth l n
theorem nth_eq {α : Type} : ∀ (l : List α) (n : Nat), nth l n = l[n]?
  | [], n => by simp [nth]
  | a :: l, 0 => rfl
  | a :: l, n + 1 => by
    show nth l n = _
    rw [nth_eq l n, List.getElem?_cons_succ]
def setN {α : Type} : List α → Nat → α → List α
  | [], _, _ => []
  | _ :: l, 0, x => x :: l
  | a :: l, n + 1, x => a :: setN l n x
theorem setN_eq {α : Type} : ∀ (l : List α) (n : Nat) (x : α), setN l n x = l.set n x
  | [], _, _ => rfl
  | _ :: _, 0, _ => rfl
  | a :: l, n + 1, x => by
    show a :: setN l n x = a :: l.set n x
    rw [setN_eq l n x]

structure Wd where
  H0 : Hp
  B : Hp
  I : Hp
  al : List Addr
  C : Addr
  nm : List Str

/-- a tuple stands at a; its object is known, without a dict of its own -/
def FTup (I : Hp) (a : Addr) (vs : List V) : Prop := ∃ o : Obj, o.dict = none ∧ I a = some (.frz o (.tup vs))
def ATup (I : Hp) (a : Addr) (vs : List V) : Prop := I a = some (.tup vs) ∨ FTup I a vs
theorem FTup.up {I I' : Hp} {a : Addr} {vs : List V} (h : FTup I a vs) (s : Same I I') : FTup I' a vs := let ⟨o, h1, h2⟩ := h; ⟨o, h1, s _ _ h2⟩
theorem ATup.up {I I' : Hp} {a : Addr} {vs : List V} (h : ATup I a vs) (s : Same I I') : ATup I' a vs := h.elim (fun h => .inl (s _ _ h)) fun h => .inr (h.up s)
mutual
inductive Rep : Hp → List Addr → V → D → Prop
  | non {I : Hp} {al : List Addr} : Rep I al .non .non
  | bl {I : Hp} {al : List Addr} {b : Bool} : Rep I al (.bl b) (.bl b)
  | int {I : Hp} {al : List Addr} {i : Int} : Rep I al (.int i) (.int i)
  | str {I : Hp} {al : List Addr} {x : Str} : Rep I al (.str x) (.str x)
  | ty {I : Hp} {al : List Addr} {n : String} : Rep I al (.ty n) (.ty n)
  | tup {I : Hp} {al : List Addr} {a : Addr} {vs : List V} {ds : List D} : ATup I a vs → RepL I al vs ds → Rep I al (.ref a) (.tup ds)
  | ftup {I : Hp} {al : List Addr} {a : Addr} {vs : List V} {ds : List D} : FTup I a vs → RepL I al vs ds → Rep I al (.ref a) (.ftup ds)
  | lst {I : Hp} {al : List Addr} {a : Addr} {vs : List V} {ds : List D} : I a = some (.lst vs) → RepL I [] vs ds → Rep I al (.ref a) (.lst ds)
  | ref {I : Hp} {al : List Addr} {a : Addr} {k : Nat} : al[k]? = some a → Rep I al (.ref a) (.ref k)
inductive RepL : Hp → List Addr → List V → List D → Prop
  | nil {I : Hp} {al : List Addr} : RepL I al [] []
  | cons {I : Hp} {al : List Addr} {v : V} {d : D} {vs : List V} {ds : List D} : Rep I al v d → RepL I al vs ds → RepL I al (v :: vs) (d :: ds)
end

theorem RepL.length : ∀ {I : Hp} {al : List Addr} {vs : List V} {ds : List D}, RepL I al vs ds → vs.length = ds.length
  | _, _, [], _, h => by cases h; rfl
  | _, _, _ :: _, _, h => by
    cases h with
    | cons r t => rw [List.length_cons, List.length_cons, t.length]
theorem RepL.get : ∀ {I : Hp} {al : List Addr} {vs : List V} {ds : List D} {i : Nat} {d : D}, RepL I al vs ds → ds[i]? = some d → ∃ v, vs[i]? = some v ∧ Rep I al v d
  | _, _, [], _, i, d, h, e => by cases h; simp at e
  | _, _, _ :: _, _, 0, d, h, e => by
    cases h with
    | cons r t =>
      have e := Option.some.inj e
      subst e
      exact ⟨_, rfl, r⟩
  | _, _, _ :: _, _, i + 1, d, h, e => by
    cases h with
    | cons r t => exact t.get (i := i) e
theorem RepL.get' : ∀ {I : Hp} {al : List Addr} {vs : List V} {ds : List D} {i : Nat} {v : V}, RepL I al vs ds → vs[i]? = some v → ∃ d, ds[i]? = some d ∧ Rep I al v d
  | _, _, [], _, i, d, h, e => by simp at e
  | _, _, _ :: _, _, 0, d, h, e => by
    cases h with
    | cons r t =>
      have e := Option.some.inj e
      subst e
      exact ⟨_, rfl, r⟩
  | _, _, _ :: _, _, i + 1, d, h, e => by
    cases h with
    | cons r t => exact t.get' (i := i) e
theorem RepL.append : ∀ {I : Hp} {al : List Addr} {vs ws : List V} {ds es : List D}, RepL I al vs ds → RepL I al ws es → RepL I al (vs ++ ws) (ds ++ es)
  | _, _, [], _, _, _, h, t => by cases h; exact t
  | _, _, _ :: _, _, _, _, h, t => by
    cases h with
    | cons r q => exact .cons r (q.append t)
theorem RepL.take : ∀ {I : Hp} {al : List Addr} (n : Nat) {vs : List V} {ds : List D}, RepL I al vs ds → RepL I al (vs.take n) (ds.take n)
  | _, _, 0, _, _, _ => .nil
  | _, _, _ + 1, [], _, h => by cases h; exact .nil
  | _, _, n + 1, _ :: _, _, h => by
    cases h with
    | cons r t => exact .cons r (RepL.take n t)
theorem RepL.drop : ∀ {I : Hp} {al : List Addr} (n : Nat) {vs : List V} {ds : List D}, RepL I al vs ds → RepL I al (vs.drop n) (ds.drop n)
  | _, _, 0, _, _, h => h
  | _, _, _ + 1, [], _, h => by cases h; exact .nil
  | _, _, n + 1, _ :: _, _, h => by
    cases h with
    | cons r t => exact RepL.drop n t
theorem RepL.set : ∀ {I : Hp} {al : List Addr} {v : V} {d : D}, Rep I al v d → ∀ (n : Nat) {vs : List V} {ds : List D}, RepL I al vs ds → RepL I al (vs.set n v) (ds.set n d)
  | _, _, _, _, _, _, [], _, h => by cases h; exact .nil
  | _, _, _, _, r, 0, _ :: _, _, h => by
    cases h with
    | cons _ t => exact .cons r t
  | _, _, _, _, r, n + 1, _ :: _, _, h => by
    cases h with
    | cons q t => exact .cons q (RepL.set r n t)
theorem RepL.reverse {I : Hp} {al : List Addr} : ∀ {vs : List V} {ds : List D}, RepL I al vs ds → RepL I al vs.reverse ds.reverse
  | [], _, h => by cases h; exact .nil
  | v :: vs, _, h => by
    cases h with
    | cons r t =>
      rw [List.reverse_cons, List.reverse_cons]
      exact (RepL.reverse t).append (.cons r .nil)
theorem RepL.eraseIdx : ∀ {I : Hp} {al : List Addr} (n : Nat) {vs : List V} {ds : List D}, RepL I al vs ds → RepL I al (vs.eraseIdx n) (ds.eraseIdx n)
  | _, _, _, [], _, h => by cases h; exact .nil
  | _, _, 0, _ :: _, _, h => by
    cases h with
    | cons _ t => exact t
  | _, _, n + 1, _ :: _, _, h => by
    cases h with
    | cons q t => exact .cons q (RepL.eraseIdx n t)
theorem RepL.dropLast : ∀ {I : Hp} {al : List Addr} {vs : List V} {ds : List D}, RepL I al vs ds → RepL I al vs.dropLast ds.dropLast
  | _, _, [], _, h => by cases h; exact .nil
  | _, _, [_], _, h => by
    cases h with
    | cons _ t => cases t; exact .nil
  | _, _, v :: w :: vs, _, h => by
    cases h with
    | cons r t =>
      cases t with
      | cons r2 t2 => exact .cons r (RepL.dropLast (.cons r2 t2))

mutual
theorem Rep.up {I I' : Hp} (hI : Same I I') : ∀ (d : D) (al ext : List Addr) (v : V), Rep I al v d → Rep I' (al ++ ext) v d
  | .non, _, _, _, h => by cases h; exact .non
  | .bl _, _, _, _, h => by cases h; exact .bl
  | .int _, _, _, _, h => by cases h; exact .int
  | .str _, _, _, _, h => by cases h; exact .str
  | .ty _, _, _, _, h => by cases h; exact .ty
  | .tup ds, al, ext, _, h => by
    cases h with
    | tup e r => exact .tup (e.up hI) (RepL.up hI ds al ext _ r)
  | .ftup ds, al, ext, _, h => by
    cases h with
    | ftup e r => exact .ftup (e.up hI) (RepL.up hI ds al ext _ r)
  | .lst ds, al, ext, _, h => by
    cases h with
    | lst e r => exact .lst (hI _ _ e) (RepL.up hI ds [] [] _ r)
  | .ref k, al, ext, _, h => by
    cases h with
    | ref e =>
      refine .ref ?_
      rw [List.getElem?_append_left (List.getElem?_eq_some_iff.mp e).1]
      exact e
theorem RepL.up {I I' : Hp} (hI : Same I I') : ∀ (ds : List D) (al ext : List Addr) (vs : List V), RepL I al vs ds → RepL I' (al ++ ext) vs ds
  | [], _, _, _, h => by cases h; exact .nil
  | d :: ds, al, ext, _, h => by
    cases h with
    | cons r t => exact .cons (Rep.up hI d al ext _ r) (RepL.up hI ds al ext _ t)
end

/-- the later world -/
structure Le (W W' : Wd) : Prop where
  h0 : W'.H0 = W.H0
  b : W'.B = W.B
  c : W'.C = W.C
  n : W'.nm = W.nm
  i : Same W.I W'.I
  al : ∃ ext, W'.al = W.al ++ ext
theorem Le.refl (W : Wd) : Le W W := ⟨rfl, rfl, rfl, rfl, Same.refl _, [], by simp⟩
theorem Le.trans {W W1 W2 : Wd} (a : Le W W1) (b : Le W1 W2) : Le W W2 :=
  ⟨b.h0.trans a.h0, b.b.trans a.b, b.c.trans a.c, b.n.trans a.n, a.i.trans b.i, by
    obtain ⟨x, ex⟩ := a.al
    obtain ⟨y, ey⟩ := b.al
    exact ⟨x ++ y, by rw [ey, ex, List.append_assoc]⟩⟩
abbrev RepW (W : Wd) (v : V) (d : D) : Prop := Rep W.I W.al v d
abbrev RepLW (W : Wd) (vs : List V) (ds : List D) : Prop := RepL W.I W.al vs ds
theorem Rep.le {W W' : Wd} {v : V} {d : D} (h : RepW W v d) (l : Le W W') : RepW W' v d := by
  obtain ⟨ext, e⟩ := l.al
  show Rep W'.I W'.al v d
  rw [e]
  exact Rep.up l.i d _ ext v h
theorem RepL.le {W W' : Wd} {v : List V} {d : List D} (h : RepLW W v d) (l : Le W W') : RepLW W' v d := by
  obtain ⟨ext, e⟩ := l.al
  show RepL W'.I W'.al v d
  rw [e]
  exact RepL.up l.i d _ ext v h

def CellOk (W : Wd) (H : Hp) (a : Addr) : Cell → Prop
  | .lst xs => W.H0 a = none ∧ W.I a = none ∧ ∃ vs, H a = some (.lst vs) ∧ RepLW W vs xs
  | .fz xs => ∃ vs, W.I a = some (.lst vs) ∧ RepL W.I [] vs xs
  | .dic kvs => W.H0 a = none ∧ W.I a = none ∧ ∃ ps : List (Key × V), H a = some (.dK ps) ∧ ps.map (·.1) = kvs.map (fun p => Sum.inl p.1) ∧ RepLW W (ps.map (·.2)) (kvs.map (·.2))
  | .ins xs => W.H0 a = none ∧ W.I a = none ∧ ∃ dx fs, H a = some (.ins W.C dx fs) ∧ fs.map (·.1) = W.nm.take xs.length ∧ xs.length ≤ W.nm.length ∧ RepLW W (fs.map (·.2)) xs
  | .dead => ∃ o, W.I a = some o

structure Rel (T : Tb) (W : Wd) (cs : Cs) (H : Hp) : Prop where
  keep : Same W.H0 H
  imm : Same W.I H
  new : ∀ a o, W.I a = some o → W.B a = some o ∨ W.H0 a = none
  len : W.al.length = cs.length
  nd : W.al.Nodup
  cell : ∀ (k : Nat) (a : Addr) (c : Cell), W.al[k]? = some a → cs[k]? = some c → CellOk W H a c
  nt : ∀ a ps, W.I a ≠ some (.tbl ps)
  tabs : LamX.Tabs T.tb H
  h0t : T.tb ≠ [] → ∀ a ps, W.H0 a ≠ some (.tbl ps)
  wc : W.C = T.C
  wn : W.nm = T.nm
/-- a write outside the tables and their code objects -/
theorem tabs_put {T : List (Addr × Str)} {H : Hp} {a : Addr} {o : HO} (t : LamX.Tabs T H) (h1 : ∀ ps, H a ≠ some (.tbl ps)) (h2 : ∀ φ, H a ≠ some (.ext φ)) : LamX.Tabs T (upd H a o) := fun p hp => by
  obtain ⟨ps, e, ok, g⟩ := t p hp
  refine ⟨ps, ?_, ok, fun pos cv h => ?_⟩
  · rw [upd_ne (fun z => h1 ps (by rw [← z]; exact e))]
    exact e
  · obtain ⟨c, e1, e2⟩ := g pos cv h
    exact ⟨c, e1, by rw [upd_ne (fun z => h2 _ (by rw [← z]; exact e2))]; exact e2⟩
theorem tabs_new {T : List (Addr × Str)} {H : Hp} {a : Addr} {o : HO} (t : LamX.Tabs T H) (h : H a = none) : LamX.Tabs T (upd H a o) := tabs_put t (fun _ z => by rw [h] at z; cases z) fun _ z => by rw [h] at z; cases z
variable {T : Tb}

/-- the slots -/
structure RelS (W : Wd) (sl : Sl) (σ : L2.St) : Prop where
  len : sl.length = σ.length
  at_ : ∀ (i : Nat) (d : D), sl[i]? = some (some d) → ∃ v, σ[i]? = some (some v) ∧ RepW W v d
theorem RelS.le {W W' : Wd} {sl : Sl} {σ : L2.St} (h : RelS W sl σ) (l : Le W W') : RelS W' sl σ :=
  ⟨h.len, fun i d e => let ⟨v, e2, r⟩ := h.at_ i d e; ⟨v, e2, r.le l⟩⟩

theorem CellOk.le {W W' : Wd} {H H' : Hp} {a : Addr} {c : Cell} (ok : CellOk W H a c) (l : Le W W') (hH : H' a = H a) (hI : W.I a = none → W'.I a = none) : CellOk W' H' a c := by
  cases c with
  | lst xs =>
    obtain ⟨h1, h2, vs, h3, h4⟩ := ok
    exact ⟨by rw [l.h0]; exact h1, hI h2, vs, hH.trans h3, h4.le l⟩
  | fz xs =>
    obtain ⟨vs, h3, h4⟩ := ok
    exact ⟨vs, l.i _ _ h3, RepL.up l.i xs [] [] vs h4⟩
  | dic kvs =>
    obtain ⟨h1, h2, ps, h3, h4, h5⟩ := ok
    exact ⟨by rw [l.h0]; exact h1, hI h2, ps, hH.trans h3, h4, h5.le l⟩
  | ins xs =>
    obtain ⟨h1, h2, dx, fs, h3, h4, h6, h5⟩ := ok
    exact ⟨by rw [l.h0]; exact h1, hI h2, dx, fs, by rw [l.c]; exact hH.trans h3, by rw [l.n]; exact h4, by rw [l.n]; exact h6, h5.le l⟩
  | dead =>
    obtain ⟨o, h⟩ := ok
    exact ⟨o, l.i _ _ h⟩

/-- is it a cell that may change -/
def Cell.mut : Cell → Bool
  | .fz _ => false
  | .dead => false
  | _ => true
theorem CellOk.free {W : Wd} {H : Hp} {a : Addr} {c : Cell} (ok : CellOk W H a c) (m : c.mut = true) : W.H0 a = none ∧ W.I a = none ∧ ∃ o, H a = some o ∧ (∀ ps, o ≠ .tbl ps) ∧ ∀ φ, o ≠ .ext φ := by
  cases c with
  | lst xs => obtain ⟨h1, h2, vs, h3, _⟩ := ok; exact ⟨h1, h2, _, h3, fun _ z => (nomatch z), fun _ z => (nomatch z)⟩
  | fz xs => cases m
  | dead => cases m
  | dic kvs => obtain ⟨h1, h2, ps, h3, _⟩ := ok; exact ⟨h1, h2, _, h3, fun _ z => (nomatch z), fun _ z => (nomatch z)⟩
  | ins xs => obtain ⟨h1, h2, dx, fs, h3, _⟩ := ok; exact ⟨h1, h2, _, h3, fun _ z => (nomatch z), fun _ z => (nomatch z)⟩
theorem CellOk.there {W : Wd} {H : Hp} {a : Addr} {c : Cell} (ok : CellOk W H a c) (im : Same W.I H) : ∃ o, H a = some o := by
  cases c with
  | lst xs => obtain ⟨h1, h2, vs, h3, _⟩ := ok; exact ⟨_, h3⟩
  | fz xs => obtain ⟨vs, h3, _⟩ := ok; exact ⟨_, im _ _ h3⟩
  | dic kvs => obtain ⟨h1, h2, ps, h3, _⟩ := ok; exact ⟨_, h3⟩
  | ins xs => obtain ⟨h1, h2, dx, fs, h3, _⟩ := ok; exact ⟨_, h3⟩
  | dead => obtain ⟨o, h⟩ := ok; exact ⟨_, im _ _ h⟩
theorem Rel.at_ {W : Wd} {cs : Cs} {H : Hp} (R : Rel T W cs H) {k : Nat} {a : Addr} (h : W.al[k]? = some a) : ∃ c, cs[k]? = some c := by
  have h1 := (List.getElem?_eq_some_iff.mp h).1
  rw [R.len] at h1
  exact ⟨cs[k], List.getElem?_eq_getElem h1⟩
theorem Rel.addr {W : Wd} {cs : Cs} {H : Hp} (R : Rel T W cs H) {k : Nat} {c : Cell} (h : cs[k]? = some c) : ∃ a, W.al[k]? = some a := by
  have h1 := (List.getElem?_eq_some_iff.mp h).1
  rw [← R.len] at h1
  exact ⟨W.al[k], List.getElem?_eq_getElem h1⟩
theorem Rel.freshAl {W : Wd} {cs : Cs} {H : Hp} (R : Rel T W cs H) {p : Addr} (hp : H p = none) : p ∉ W.al := fun hm => by
  obtain ⟨k, hk, e⟩ := List.mem_iff_getElem.mp hm
  have e' : W.al[k]? = some p := by rw [List.getElem?_eq_getElem hk, e]
  obtain ⟨c, hc⟩ := R.at_ e'
  obtain ⟨o, ho⟩ := (R.cell k p c e' hc).there R.imm
  rw [hp] at ho
  cases ho
theorem same_new {H H' : Hp} (s : Same H H') {p : Addr} {o : HO} (hp : H' p = none) : Same H (upd H' p o) := fun b u e => by
  have e2 := s b u e
  rw [upd_ne (ne_of_none e2 hp)]
  exact e2
theorem nodup_at {l : List Addr} (nd : l.Nodup) {i j : Nat} {a : Addr} (hi : l[i]? = some a) (hj : l[j]? = some a) : i = j := by
  obtain ⟨h1, e1⟩ := List.getElem?_eq_some_iff.mp hi
  obtain ⟨h2, e2⟩ := List.getElem?_eq_some_iff.mp hj
  exact (List.getElem_inj nd).mp (e1.trans e2.symm)

/-- a new immutable object -/
theorem Rel.newI {W : Wd} {cs : Cs} {H : Hp} (R : Rel T W cs H) {p : Addr} {o : HO} (hp : H p = none) (ho : ∀ ps, o ≠ .tbl ps) :
    Le W { W with I := upd W.I p o } ∧ Rel T { W with I := upd W.I p o } cs (upd H p o) := by
  have hI : W.I p = none := R.imm.free hp
  have le : Le W { W with I := upd W.I p o } := ⟨rfl, rfl, rfl, rfl, same_new (Same.refl _) hI, [], by simp⟩
  refine ⟨le, ⟨same_new R.keep hp, fun b u e => ?_, fun b u e => ?_, R.len, R.nd, fun k a c h1 h2 => ?_, fun a ps e => ?_, tabs_new R.tabs hp, R.h0t, R.wc, R.wn⟩⟩
  · by_cases hb : b = p
    · subst hb
      rw [show ({ W with I := upd W.I b o } : Wd).I b = some o from upd_same] at e
      cases e
      exact upd_same
    · rw [show ({ W with I := upd W.I p o } : Wd).I b = W.I b from upd_ne hb] at e
      rw [upd_ne hb]
      exact R.imm b u e
  · by_cases hb : b = p
    · subst hb
      exact .inr (R.keep.free hp)
    · rw [show ({ W with I := upd W.I p o } : Wd).I b = W.I b from upd_ne hb] at e
      exact R.new b u e
  · have ok := R.cell k a c h1 h2
    obtain ⟨u, hu⟩ := ok.there R.imm
    have hne : a ≠ p := ne_of_none hu hp
    exact ok.le le (upd_ne hne) fun h => by
      show upd W.I p o a = none
      rw [upd_ne hne]
      exact h
  · by_cases hb : a = p
    · subst hb
      rw [show ({ W with I := upd W.I a o } : Wd).I a = some o from upd_same] at e
      exact ho ps (Option.some.inj e)
    · rw [show ({ W with I := upd W.I p o } : Wd).I a = W.I a from upd_ne hb] at e
      exact R.nt a ps e
theorem Rel.newTup {W : Wd} {cs : Cs} {H : Hp} (R : Rel T W cs H) {p : Addr} {vs : List V} {ds : List D} (hp : H p = none) (r : RepLW W vs ds) :
    ∃ W', Le W W' ∧ Rel T W' cs (upd H p (.tup vs)) ∧ RepW W' (.ref p) (.tup ds) := by
  obtain ⟨l, R'⟩ := R.newI (o := .tup vs) hp fun _ z => nomatch z
  exact ⟨_, l, R', .tup (.inl upd_same) (r.le l)⟩
theorem Rel.newFTup {W : Wd} {cs : Cs} {H : Hp} (R : Rel T W cs H) {p : Addr} {vs : List V} {ds : List D} {o : Obj} (hp : H p = none) (ho : o.dict = none) (r : RepLW W vs ds) :
    ∃ W', Le W W' ∧ Rel T W' cs (upd H p (.frz o (.tup vs))) ∧ RepW W' (.ref p) (.ftup ds) := by
  obtain ⟨l, R'⟩ := R.newI (o := .frz o (.tup vs)) hp fun _ z => nomatch z
  exact ⟨_, l, R', .ftup ⟨o, ho, upd_same⟩ (r.le l)⟩
/-- a new cell -/
theorem Rel.newCell {W : Wd} {cs : Cs} {H : Hp} (R : Rel T W cs H) {p : Addr} {o : HO} {c : Cell} (hp : H p = none) (ok : CellOk { W with al := W.al ++ [p] } (upd H p o) p c) :
    Le W { W with al := W.al ++ [p] } ∧ Rel T { W with al := W.al ++ [p] } (cs ++ [c]) (upd H p o) := by
  have le : Le W { W with al := W.al ++ [p] } := ⟨rfl, rfl, rfl, rfl, Same.refl _, [p], rfl⟩
  refine ⟨le, ⟨same_new R.keep hp, same_new R.imm hp, R.new, by simp [R.len], ?_, fun k a c' h1 h2 => ?_, R.nt, tabs_new R.tabs hp, R.h0t, R.wc, R.wn⟩⟩
  · show (W.al ++ [p]).Nodup
    rw [List.nodup_append]
    refine ⟨R.nd, by simp, fun a ha b hb => ?_⟩
    rw [List.mem_singleton] at hb
    subst hb
    intro e
    subst e
    exact R.freshAl hp ha
  · have h1 : (W.al ++ [p])[k]? = some a := h1
    by_cases hk : k < W.al.length
    · rw [List.getElem?_append_left hk] at h1
      rw [List.getElem?_append_left (by rw [← R.len]; exact hk)] at h2
      have ok' := R.cell k a c' h1 h2
      obtain ⟨u, hu⟩ := ok'.there R.imm
      exact ok'.le le (upd_ne (ne_of_none hu hp)) fun h => h
    · have hk2 : k = W.al.length := by
        have := (List.getElem?_eq_some_iff.mp h1).1
        rw [List.length_append, List.length_singleton] at this
        omega
      subst hk2
      rw [List.getElem?_append_right (Nat.le_refl _), Nat.sub_self] at h1
      rw [List.getElem?_append_right (by rw [R.len]; exact Nat.le_refl _), R.len, Nat.sub_self] at h2
      have h1 := Option.some.inj h1
      have h2 := Option.some.inj h2
      subst h1 h2
      exact ok
theorem al_last (l : List Addr) (p : Addr) : (l ++ [p])[l.length]? = some p := by
  rw [List.getElem?_append_right (Nat.le_refl _), Nat.sub_self]
  rfl
theorem Rel.newLst {W : Wd} {cs : Cs} {H : Hp} (R : Rel T W cs H) {p : Addr} {vs : List V} {ds : List D} (hp : H p = none) (r : RepLW W vs ds) :
    ∃ W', Le W W' ∧ Rel T W' (cs ++ [.lst ds]) (upd H p (.lst vs)) ∧ RepW W' (.ref p) (.ref cs.length) := by
  have le : Le W { W with al := W.al ++ [p] } := ⟨rfl, rfl, rfl, rfl, Same.refl _, [p], rfl⟩
  obtain ⟨l, R'⟩ := R.newCell (o := .lst vs) (c := .lst ds) hp ⟨R.keep.free hp, R.imm.free hp, vs, upd_same, r.le le⟩
  refine ⟨_, l, R', .ref ?_⟩
  rw [← R.len]
  exact al_last _ _
theorem Rel.newDic {W : Wd} {cs : Cs} {H : Hp} (R : Rel T W cs H) {p : Addr} (hp : H p = none) :
    ∃ W', Le W W' ∧ Rel T W' (cs ++ [.dic []]) (upd H p (.dK [])) ∧ RepW W' (.ref p) (.ref cs.length) := by
  obtain ⟨l, R'⟩ := R.newCell (o := .dK []) (c := .dic []) hp ⟨R.keep.free hp, R.imm.free hp, [], upd_same, rfl, .nil⟩
  refine ⟨_, l, R', .ref ?_⟩
  rw [← R.len]
  exact al_last _ _
/-- a cell is written -/
theorem Rel.put {W : Wd} {cs : Cs} {H : Hp} (R : Rel T W cs H) {k : Nat} {a : Addr} {c c' : Cell} {o : HO} (ha : W.al[k]? = some a) (hc : cs[k]? = some c) (m : c.mut = true) (ok : CellOk W (upd H a o) a c') :
    Rel T W (cs.set k c') (upd H a o) := by
  obtain ⟨f1, f2, ob, fo, f3, f4⟩ := (R.cell k a c ha hc).free m
  refine ⟨fun b u e => ?_, fun b u e => ?_, R.new, by rw [List.length_set]; exact R.len, R.nd, fun j b c2 h1 h2 => ?_, R.nt, tabs_put R.tabs (fun ps z => f3 ps (Option.some.inj (fo.symm.trans z))) (fun φ z => f4 φ (Option.some.inj (fo.symm.trans z))), R.h0t, R.wc, R.wn⟩
  · rw [upd_ne (ne_of_none e f1)]
    exact R.keep b u e
  · rw [upd_ne (ne_of_none e f2)]
    exact R.imm b u e
  · by_cases hj : k = j
    · subst hj
      have e : a = b := Option.some.inj (ha.symm.trans h1)
      subst e
      rw [List.getElem?_set_self (List.getElem?_eq_some_iff.mp hc).1] at h2
      have h2 := Option.some.inj h2
      subst h2
      exact ok
    · rw [List.getElem?_set_ne hj] at h2
      have hne : b ≠ a := fun e => by
        subst e
        exact hj (nodup_at R.nd ha h1)
      exact (R.cell j b c2 h1 h2).le (Le.refl W) (upd_ne hne) fun h => h
/-- reading a sequence: is it a tuple, its items -/
def seqD (cs : Cs) : D → Option (Bool × List D)
  | .tup xs => some (true, xs)
  | .ftup xs => some (true, xs)
  | .lst xs => some (false, xs)
  | .ref k => match nth cs k with
    | some (.lst xs) => some (false, xs)
    | some (.fz xs) => some (false, xs)
    | _ => none
  | _ => none
/-- what a sequence is on the heap -/
def SeqP (H : Hp) (a : Addr) (b : Bool) (vs : List V) : Prop := if b = true then ATup H a vs else H a = some (.lst vs)
theorem repL0 {I : Hp} {al : List Addr} {vs : List V} {ds : List D} (h : RepL I [] vs ds) : RepL I al vs ds := RepL.up (Same.refl I) ds [] al vs h
theorem Rel.seq {W : Wd} {cs : Cs} {H : Hp} (R : Rel T W cs H) {v : V} {d : D} {b : Bool} {xs : List D} (r : RepW W v d) (h : seqD cs d = some (b, xs)) :
    ∃ a vs, v = .ref a ∧ SeqP H a b vs ∧ RepLW W vs xs := by
  cases d with
  | tup ys =>
    cases h
    cases r with
    | tup e q => exact ⟨_, _, rfl, e.up R.imm, q⟩
  | ftup ys =>
    cases h
    cases r with
    | ftup e q => exact ⟨_, _, rfl, .inr (e.up R.imm), q⟩
  | lst ys =>
    cases h
    cases r with
    | lst e q => exact ⟨_, _, rfl, R.imm _ _ e, repL0 q⟩
  | ref k =>
    cases r with
    | ref e =>
      rename_i a
      obtain ⟨c, hc⟩ := R.at_ e
      have h : (match nth cs k with
        | some (.lst xs) => some (false, xs)
        | some (.fz xs) => some (false, xs)
        | _ => none) = some (b, xs) := h
      rw [nth_eq, hc] at h
      have ok := R.cell k a c e hc
      cases c with
      | lst ys =>
        cases h
        obtain ⟨_, _, vs, h3, h4⟩ := ok
        exact ⟨a, vs, rfl, h3, h4⟩
      | fz ys =>
        cases h
        obtain ⟨vs, h3, h4⟩ := ok
        exact ⟨a, vs, rfl, R.imm _ _ h3, repL0 h4⟩
      | dic _ => cases h
      | ins _ => cases h
      | dead => cases h
  | _ => cases h
theorem seqO_l {K : PySem.W.Frag} {H : Hp} {a : Addr} {vs : List V} (h : SeqP H a false vs) : SqL K H a vs := SqL.of h
theorem atup_t {K : PySem.W.Frag} {H : Hp} {a : Addr} {vs : List V} (h : ATup H a vs) : SqT K H a vs := .inl (h.elim .inl fun ⟨o, _, h⟩ => .inr ⟨o, h⟩)
theorem seqO_t {K : PySem.W.Frag} {H : Hp} {a : Addr} {vs : List V} (h : SeqP H a true vs) : SqT K H a vs := atup_t h
/-- a tuple of either make -/
theorem Rep.tupOf {I : Hp} {al : List Addr} {v : V} {ds : List D} (h : Rep I al v (.ftup ds)) : Rep I al v (.tup ds) := by
  cases h with
  | ftup e q => exact .tup (.inr e) q
end XL
end
section
set_option maxRecDepth 100000
/-! XB: combinators over deep values and their soundness: expressions, displays, calls, targets, statements, loops. -/
namespace XL
open PySem PySem.Spec PyProof.Rows L2
variable {T : Tb}

abbrev XE := Sl → Cs → Option (D × Cs)
abbrev XA := Sl → Cs → Option (List D × Cs)
abbrev XT := Sl → Cs → Option (Bool × Cs)
inductive Out where
  | nx (sl : Sl) (cs : Cs) | rt (d : D) (cs : Cs) | bk (sl : Sl) (cs : Cs) | ct (sl : Sl) (cs : Cs)
abbrev XS := Sl → Cs → Option Out
def bnd {α β : Type} (x : Option (α × Cs)) (f : α → Cs → Option β) : Option β := match x with
  | some (a, c) => f a c
  | none => none
theorem bnd_some {α β : Type} {x : Option (α × Cs)} {f : α → Cs → Option β} {b : β} (h : bnd x f = some b) : ∃ a c, x = some (a, c) ∧ f a c = some b := by
  cases x with
  | none => cases h
  | some p => exact ⟨p.1, p.2, rfl, h⟩

def tE (T : Tb) (x : XE) : TE := fun σ H Q => ∃ W sl cs d cs', RelS W sl σ ∧ Rel T W cs H ∧ x sl cs = some (d, cs') ∧ ∀ W' v H', Le W W' → Rel T W' cs' H' → RepW W' v d → Q v H'
def tA (T : Tb) (x : XA) : TA := fun σ H Q => ∃ W sl cs d cs', RelS W sl σ ∧ Rel T W cs H ∧ x sl cs = some (d, cs') ∧ ∀ W' v H', Le W W' → Rel T W' cs' H' → RepLW W' v d → Q v H'
def tT (T : Tb) (x : XT) : TT := fun σ H Q => ∃ W sl cs b cs', RelS W sl σ ∧ Rel T W cs H ∧ x sl cs = some (b, cs') ∧ ∀ W' H', Le W W' → Rel T W' cs' H' → Q b H'
def EndK (T : Tb) (W : Wd) (D : Ends) : Out → Prop
  | .nx sl cs => ∀ W' σ H, Le W W' → RelS W' sl σ → Rel T W' cs H → D.nx σ H
  | .bk sl cs => ∀ W' σ H, Le W W' → RelS W' sl σ → Rel T W' cs H → D.bk σ H
  | .ct sl cs => ∀ W' σ H, Le W W' → RelS W' sl σ → Rel T W' cs H → D.ct σ H
  | .rt d cs => ∀ W' v H, Le W W' → Rel T W' cs H → RepW W' v d → D.rt v H
theorem EndK.le {W W' : Wd} {D : Ends} {o : Out} (h : EndK T W D o) (l : Le W W') : EndK T W' D o := by
  cases o with
  | nx sl cs => exact fun W2 σ H l2 r s => h W2 σ H (l.trans l2) r s
  | bk sl cs => exact fun W2 σ H l2 r s => h W2 σ H (l.trans l2) r s
  | ct sl cs => exact fun W2 σ H l2 r s => h W2 σ H (l.trans l2) r s
  | rt d cs => exact fun W2 v H l2 r s => h W2 v H (l.trans l2) r s
def tS (T : Tb) (x : XS) : TS := fun D σ H => ∃ W sl cs o, RelS W sl σ ∧ Rel T W cs H ∧ x sl cs = some o ∧ EndK T W D o

section
variable {X : Cx}
theorem _root_.L2.PE.weak {e : Expr} {t t' : TE} (h : PE X e t) (k : ∀ σ H Q, t' σ H Q → t σ H Q) : PE X e t' := ⟨fun pins s σ H Q I q => h.run pins s σ H Q I (k σ H Q q)⟩
theorem _root_.L2.PT.weak {e : Expr} {t t' : TT} (h : PT X e t) (k : ∀ σ H Q, t' σ H Q → t σ H Q) : PT X e t' := ⟨fun pins s σ H Q I q => h.run pins s σ H Q I (k σ H Q q)⟩
theorem _root_.L2.PW.weak {e : Expr} {t t' : TT} (h : PW X e t) (k : ∀ σ H Q, t' σ H Q → t σ H Q) : PW X e t' := ⟨fun wh pins s σ H Q I q => h.run wh pins s σ H Q I (k σ H Q q)⟩
theorem _root_.L2.PA.weak {e : List Expr} {t t' : TA} (h : PA X e t) (k : ∀ σ H Q, t' σ H Q → t σ H Q) : PA X e t' := ⟨fun pos pins s σ H Q I q => h.run pos pins s σ H Q I (k σ H Q q)⟩
theorem _root_.L2.PS.weak {e : Stmt} {t t' : TS} (h : PS X e t) (k : ∀ D σ H, t' D σ H → t D σ H) : PS X e t' := ⟨fun pins s σ H D I q => h.run pins s σ H D I (k D σ H q)⟩
theorem _root_.L2.PSs.weak {e : List Stmt} {t t' : TS} (h : PSs X e t) (k : ∀ D σ H, t' D σ H → t D σ H) : PSs X e t' := ⟨fun pins s σ H D I q => h.run pins s σ H D I (k D σ H q)⟩
theorem _root_.L2.PG.weak {e : Expr} {t t' : TG} (h : PG X e t) (k : ∀ v σ H Q, t' v σ H Q → t v σ H Q) : PG X e t' := ⟨fun pins s σ H v u Q I r q => h.run pins s σ H v u Q I r (k v σ H Q q)⟩
theorem _root_.L2.PI.weak {tg e : Expr} {t t' : TI} (h : PI X tg e t) (k : ∀ σ H Q, t' σ H Q → t σ H Q) : PI X tg e t' := ⟨fun pins s σ H Q I q => h.run pins s σ H Q I (k σ H Q q)⟩
theorem _root_.L2.PI.or {tg e : Expr} {t t' : TI} (h : PI X tg e t) (h' : PI X tg e t') : PI X tg e (fun σ H R => t σ H R ∨ t' σ H R) := ⟨fun pins s σ H Q I q => by
  rcases q with q | q
  · exact h.run pins s σ H Q I q
  · exact h'.run pins s σ H Q I q⟩
end

/-! ### names, constants -/
def xVar (i : Nat) : XE := fun sl cs => match nth sl i with
  | some (some d) => some (d, cs)
  | _ => none
def xC (d : D) : XE := fun _ cs => some (d, cs)
section
variable {X : Cx} {pos : Pos}
theorem weak_var {i : Nat} {σ : L2.St} {H : Hp} {Q : VK} (h : tE T (xVar i) σ H Q) : tVar i σ H Q := by
  obtain ⟨W, sl, cs, d, cs', hs, hr, e, k⟩ := h
  unfold xVar at e
  rw [nth_eq] at e
  cases q : sl[i]? with
  | none => rw [q] at e; cases e
  | some o =>
    rw [q] at e
    cases o with
    | none => cases e
    | some d2 =>
      cases e
      obtain ⟨v, e2, r⟩ := hs.at_ i d q
      exact ⟨v, e2, k W v H (Le.refl W) hr r⟩
theorem xe_var (i : Nat) {x : Str} (hN : X.N[i]? = some x := by rfl) (hv : Vis X.env.scope x := by first | exact Or.inl rfl | exact Or.inr (Or.inl rfl) | exact Or.inr (Or.inr rfl)) (hd : (x == ("__debug__" : Str)) = false := by decide)
    (hcd : (x == ("__classdict__" : Str)) = false := by decide) : PE X (.Name x pos) (tE T (xVar i)) := (pe_var hN hv hd hcd).weak fun _ _ _ h => weak_var h
theorem xe_const {e : Expr} {v : V} {d : D} (h : PE X e (tC v)) (r : ∀ I al, Rep I al v d) : PE X e (tE T (xC d)) := h.weak fun σ H Q h => by
  obtain ⟨W, sl, cs, d', cs', hs, hr, e, k⟩ := h
  cases e
  exact k W v H (Le.refl W) hr (r _ _)
theorem xe_int {i : Int} {j} : PE X (.Constant (.int i) j pos) (tE T (xC (.int i))) := xe_const pe_int fun _ _ => .int
theorem xe_bl {b : Bool} {j} : PE X (.Constant (.bool b) j pos) (tE T (xC (.bl b))) := xe_const pe_bl fun _ _ => .bl
theorem xe_non {j} : PE X (.Constant .none j pos) (tE T (xC .non)) := xe_const pe_non fun _ _ => .non
theorem xe_str {x : Str} {j} : PE X (.Constant (.str x) j pos) (tE T (xC (.str x))) := xe_const pe_str fun _ _ => .str
/-- a module's int -/
theorem xe_globI {x : Str} {i : Int} {t : Tok} (hg : Gl X x) (hm : X.mg x = some (.int i t)) (hd : (x == ("__debug__" : Str)) = false := by decide) : PE X (.Name x pos) (tE T (xC (.int i))) :=
  xe_const (pe_glob hg hm (v := .int i) ⟨_, rfl⟩ hd) fun _ _ => .int
/-- a built-in type as a value -/
theorem xe_ty {x : Str} {n : String} (hg : Gl X x) (hm : X.mg x = none) (hv : bootBuiltins x = some (.type n)) (hn : x ≠ "__name__" := by decide) (hd : (x == ("__debug__" : Str)) = false := by decide) : PE X (.Name x pos) (tE T (xC (.ty n))) :=
  xe_const (pe_bltn hg hm hv (v := .ty n) rfl hn hd) fun _ _ => .ty
end

/-! ### operations on values -/
abbrev G2 := D → D → Cs → Option (D × Cs)
abbrev G1 := D → Cs → Option (D × Cs)
abbrev GL := List D → Cs → Option (D × Cs)
def Snd2 (r : R2) (g : G2) : Prop := ∀ (T : Tb) (W : Wd) (cs : Cs) (H : Hp) (x y : V) (dx dy d : D) (cs' : Cs) (Q : VK), Rel T W cs H → RepW W x dx → RepW W y dy → g dx dy cs = some (d, cs') →
  (∀ W' v H', Le W W' → Rel T W' cs' H' → RepW W' v d → Q v H') → r x y H Q
def Snd1 (r : V → Hp → VK → Prop) (g : G1) : Prop := ∀ (T : Tb) (W : Wd) (cs : Cs) (H : Hp) (x : V) (dx d : D) (cs' : Cs) (Q : VK), Rel T W cs H → RepW W x dx → g dx cs = some (d, cs') →
  (∀ W' v H', Le W W' → Rel T W' cs' H' → RepW W' v d → Q v H') → r x H Q
def SndL (r : List V → Hp → VK → Prop) (g : GL) : Prop := ∀ (T : Tb) (W : Wd) (cs : Cs) (H : Hp) (xs : List V) (ds : List D) (d : D) (cs' : Cs) (Q : VK), Rel T W cs H → RepLW W xs ds → g ds cs = some (d, cs') →
  (∀ W' v H', Le W W' → Rel T W' cs' H' → RepW W' v d → Q v H') → r xs H Q
def xOp (g : G2) (a b : XE) : XE := fun sl cs => bnd (a sl cs) fun x c => bnd (b sl c) fun y c2 => g x y c2
def xUn (g : G1) (a : XE) : XE := fun sl cs => bnd (a sl cs) fun x c => g x c
def xFn (g : GL) (a : XA) : XE := fun sl cs => bnd (a sl cs) fun x c => g x c
theorem weak_op {r : R2} {g : G2} {a b : XE} (s : Snd2 r g) {σ : L2.St} {H : Hp} {Q : VK} (h : tE T (xOp g a b) σ H Q) : tOp r (tE T a) (tE T b) σ H Q := by
  obtain ⟨W, sl, cs, d, cs', hs, hr, e, k⟩ := h
  obtain ⟨x, c1, ea, e⟩ := bnd_some e
  obtain ⟨y, c2, eb, e⟩ := bnd_some e
  exact ⟨W, sl, cs, x, c1, hs, hr, ea, fun W1 v1 H1 l1 r1 p1 => ⟨W1, sl, c1, y, c2, hs.le l1, r1, eb, fun W2 v2 H2 l2 r2 p2 =>
    s T W2 c2 H2 v1 v2 x y d cs' Q r2 (p1.le l2) p2 e fun W3 v3 H3 l3 r3 p3 => k W3 v3 H3 (l1.trans (l2.trans l3)) r3 p3⟩⟩
theorem weak_un {r : V → Hp → VK → Prop} {g : G1} {a : XE} (s : Snd1 r g) {σ : L2.St} {H : Hp} {Q : VK} (h : tE T (xUn g a) σ H Q) : tUn r (tE T a) σ H Q := by
  obtain ⟨W, sl, cs, d, cs', hs, hr, e, k⟩ := h
  obtain ⟨x, c1, ea, e⟩ := bnd_some e
  exact ⟨W, sl, cs, x, c1, hs, hr, ea, fun W1 v1 H1 l1 r1 p1 => s T W1 c1 H1 v1 x d cs' Q r1 p1 e fun W3 v3 H3 l3 r3 p3 => k W3 v3 H3 (l1.trans l3) r3 p3⟩
theorem weak_fn {r : List V → Hp → VK → Prop} {g : GL} {a : XA} (s : SndL r g) {σ : L2.St} {H : Hp} {Q : VK} (h : tE T (xFn g a) σ H Q) : tCB r (tA T a) σ H Q := by
  obtain ⟨W, sl, cs, d, cs', hs, hr, e, k⟩ := h
  obtain ⟨x, c1, ea, e⟩ := bnd_some e
  exact ⟨W, sl, cs, x, c1, hs, hr, ea, fun W1 v1 H1 l1 r1 p1 => s T W1 c1 H1 v1 x d cs' Q r1 p1 e fun W3 v3 H3 l3 r3 p3 => k W3 v3 H3 (l1.trans l3) r3 p3⟩
section
variable {X : Cx} {a b : Expr} {xa xb : XE} {pos : Pos}
theorem xe_op {op : Operator} {r : R2} {g : G2} (ho : OpR X (binaryOp op) r) (s : Snd2 r g) (ha : PE X a (tE T xa)) (hb : PE X b (tE T xb)) : PE X (.BinOp a op b pos) (tE T (xOp g xa xb)) := (pe_op ho ha hb).weak fun _ _ _ h => weak_op s h
theorem xe_cmp {op : CmpOp} {r : R2} {g : G2} (ho : OpR X (compareOp op) r) (s : Snd2 r g) (ha : PE X a (tE T xa)) (hb : PE X b (tE T xb)) (hm : behindInMarks op b = false) : PE X (.Compare a [op] [b] pos) (tE T (xOp g xa xb)) :=
  (pe_cmpR ho ha hb hm).weak fun _ _ _ h => weak_op s h
theorem xe_un {op : UnaryOp} {r : V → Hp → VK → Prop} {g : G1} (ho : UnR X (unaryOp op) r) (s : Snd1 r g) (ha : PE X a (tE T xa)) : PE X (.UnaryOp op a pos) (tE T (xUn g xa)) := (pe_un ho ha).weak fun _ _ _ h => weak_un s h
theorem xe_ix {r : R2} {g : G2} (hr : IxR X r) (s : Snd2 r g) (ha : PE X a (tE T xa)) (hb : PE X b (tE T xb)) (hs : PlainIx b) : PE X (.Subscript a b pos) (tE T (xOp g xa xb)) := (pe_ix hr ha hb hs).weak fun _ _ _ h => weak_op s h
end

/-! ### tests -/
/-- a bool as a test -/
def xTB (a : XE) : XT := fun sl cs => bnd (a sl cs) fun x c => match x with
  | .bl b => some (b, c)
  | _ => none
theorem weak_tb {a : XE} {σ : L2.St} {H : Hp} {Q : Bool → Hp → Prop} (h : tT T (xTB a) σ H Q) : tE T a σ H (fun x H' => ∃ k, x = .bl k ∧ Q k H') := by
  obtain ⟨W, sl, cs, b, cs', hs, hr, e, k⟩ := h
  obtain ⟨x, c1, ea, e⟩ := bnd_some e
  cases x with
  | bl b2 =>
    cases e
    exact ⟨W, sl, cs, _, _, hs, hr, ea, fun W1 v1 H1 l1 r1 p1 => by
      cases p1
      exact ⟨_, rfl, k W1 H1 l1 r1⟩⟩
  | _ => cases e
/-- a value's truth -/
def truD (cs : Cs) : D → Option Bool
  | .non => some false
  | .bl b => some b
  | .int i => some (i != 0)
  | d => match seqD cs d with
    | some (_, xs) => some (!xs.isEmpty)
    | none => none
def xTru (a : XE) : XT := fun sl cs => bnd (a sl cs) fun x c => match truD c x with
  | some b => some (b, c)
  | none => none
theorem tru_seq {K : PySem.W.Frag} {W : Wd} {cs : Cs} {H : Hp} {v : V} {d : D} {k : Bool} (R : Rel T W cs H) (r : RepW W v d) (h : (match seqD cs d with
    | some (_, xs) => some (!xs.isEmpty)
    | none => none) = some k) : TruV K v H k := by
  cases q : seqD cs d with
  | none => rw [q] at h; cases h
  | some p =>
    obtain ⟨b, xs⟩ := p
    rw [q] at h
    have hk : (!xs.isEmpty) = k := Option.some.inj h
    obtain ⟨a, vs, rfl, e, rl⟩ := R.seq r q
    have el : vs.isEmpty = xs.isEmpty := by
      have := rl.length
      cases vs <;> cases xs <;> simp_all
    rw [← el] at hk
    cases b with
    | false => exact .inl ⟨vs, seqO_l e, hk.symm⟩
    | true => exact .inr (.inl ⟨vs, seqO_t e, hk.symm⟩)
theorem truD_ok {K : PySem.W.Frag} {W : Wd} {cs : Cs} {H : Hp} {v : V} {d : D} {k : Bool} (R : Rel T W cs H) (r : RepW W v d) (h : truD cs d = some k) : TruV K v H k := by
  cases d with
  | non => cases r; cases h; rfl
  | bl b => cases r; cases h; rfl
  | int i => cases r; cases h; rfl
  | str x => cases h
  | ty n => cases h
  | tup xs => exact tru_seq (K := K) R r h
  | ftup xs => exact tru_seq (K := K) R r h
  | lst xs => exact tru_seq (K := K) R r h
  | ref k => exact tru_seq (K := K) R r h
def xAndT (a b : XT) : XT := fun sl cs => bnd (a sl cs) fun x c => match x with
  | true => b sl c
  | false => some (false, c)
def xOrT (a b : XT) : XT := fun sl cs => bnd (a sl cs) fun x c => match x with
  | true => some (true, c)
  | false => b sl c
def xNotT (a : XT) : XT := fun sl cs => bnd (a sl cs) fun x c => some (!x, c)
section
variable {X : Cx} {a b : Expr} {xa xb : XT} {ea eb ec : XE} {pos : Pos} {rest : List Expr}
theorem xt_cmp {op : CmpOp} {r : R2} {g : G2} (ho : OpR X (compareOp op) r) (s : Snd2 r g) (ha : PE X a (tE T ea)) (hb : PE X b (tE T eb)) (hm : behindInMarks op b = false) : PT X (.Compare a [op] [b] pos) (tT T (xTB (xOp g ea eb))) :=
  (pt_cmpR ho ha hb hm).weak fun _ _ _ h => weak_op s (weak_tb h)
/-- any expression by its value's truth -/
theorem xt_tru (ha : PE X a (tE T ea)) (he : ∀ whole, isTrue a X.env whole = (do let v ← whole; standAt a.pos; holding [v] (truthy v)) := by intro _; rfl) : PT X a (tT T (xTru ea)) := (pt_truth ha he).weak fun σ H Q h => by
  obtain ⟨W, sl, cs, b, cs', hs, hr, e, k⟩ := h
  obtain ⟨x, c1, ea, e⟩ := bnd_some e
  refine ⟨W, sl, cs, x, c1, hs, hr, ea, fun W1 v1 H1 l1 r1 p1 => ?_⟩
  cases q : truD c1 x with
  | none => rw [q] at e; cases e
  | some b2 =>
    rw [q] at e
    cases e
    exact ⟨b, truD_ok r1 p1 q, k W1 H1 l1 r1⟩
theorem weak_andT {σ : L2.St} {H : Hp} {Q : Bool → Hp → Prop} (h : tT T (xAndT xa xb) σ H Q) : tAnd (tT T xa) (tT T xb) σ H Q := by
  obtain ⟨W, sl, cs, b, cs', hs, hr, e, k⟩ := h
  obtain ⟨x, c1, ea, e⟩ := bnd_some e
  refine ⟨W, sl, cs, x, c1, hs, hr, ea, fun W1 H1 l1 r1 => ?_⟩
  cases x with
  | true => exact ⟨W1, sl, c1, b, cs', hs.le l1, r1, e, fun W2 H2 l2 r2 => k W2 H2 (l1.trans l2) r2⟩
  | false =>
    cases e
    exact k W1 H1 l1 r1
theorem weak_orT {σ : L2.St} {H : Hp} {Q : Bool → Hp → Prop} (h : tT T (xOrT xa xb) σ H Q) : tOr (tT T xa) (tT T xb) σ H Q := by
  obtain ⟨W, sl, cs, b, cs', hs, hr, e, k⟩ := h
  obtain ⟨x, c1, ea, e⟩ := bnd_some e
  refine ⟨W, sl, cs, x, c1, hs, hr, ea, fun W1 H1 l1 r1 => ?_⟩
  cases x with
  | false => exact ⟨W1, sl, c1, b, cs', hs.le l1, r1, e, fun W2 H2 l2 r2 => k W2 H2 (l1.trans l2) r2⟩
  | true =>
    cases e
    exact k W1 H1 l1 r1
theorem xw_and1 (ha : PT X a (tT T xa)) : PW X (.BoolOp .And [a] pos) (tT T xa) := pw_and1 ha
theorem xw_or1 (ha : PT X a (tT T xa)) : PW X (.BoolOp .Or [a] pos) (tT T xa) := pw_or1 ha
theorem xw_and (ha : PT X a (tT T xa)) (hb : PW X (.BoolOp .And (b :: rest) pos) (tT T xb)) : PW X (.BoolOp .And (a :: b :: rest) pos) (tT T (xAndT xa xb)) := (pw_and ha hb).weak fun _ _ _ h => weak_andT h
theorem xw_or (ha : PT X a (tT T xa)) (hb : PW X (.BoolOp .Or (b :: rest) pos) (tT T xb)) : PW X (.BoolOp .Or (a :: b :: rest) pos) (tT T (xOrT xa xb)) := (pw_or ha hb).weak fun _ _ _ h => weak_orT h
theorem xt_not (ha : PT X a (tT T xa)) : PT X (.UnaryOp .Not a pos) (tT T (xNotT xa)) := (pt_not ha).weak fun σ H Q h => by
  obtain ⟨W, sl, cs, b, cs', hs, hr, e, k⟩ := h
  obtain ⟨x, c1, ea, e⟩ := bnd_some e
  cases e
  exact ⟨W, sl, cs, x, _, hs, hr, ea, fun W1 H1 l1 r1 => k W1 H1 l1 r1⟩
end
/-- bools as values -/
def xAndV (a b : XE) : XE := fun sl cs => bnd (a sl cs) fun x c => match x with
  | .bl true => b sl c
  | .bl false => some (.bl false, c)
  | _ => none
def xOrV (a b : XE) : XE := fun sl cs => bnd (a sl cs) fun x c => match x with
  | .bl true => some (.bl true, c)
  | .bl false => b sl c
  | _ => none
def xNotV (a : XE) : XE := fun sl cs => bnd (a sl cs) fun x c => match x with
  | .bl b => some (.bl (!b), c)
  | _ => none
def xIf (t : XT) (a b : XE) : XE := fun sl cs => bnd (t sl cs) fun x c => match x with
  | true => a sl c
  | false => b sl c
section
variable {X : Cx} {a b c : Expr} {xt : XT} {ea eb ec : XE} {pos : Pos} {rest : List Expr} {op : BoolOp}
theorem xe_one (h : PE X a (tE T ea)) : PE X (.BoolOp op [a] pos) (tE T ea) := pe_one h
theorem xe_and (ha : PE X a (tE T ea)) (hb : PE X (.BoolOp .And (b :: rest) pos) (tE T eb)) : PE X (.BoolOp .And (a :: b :: rest) pos) (tE T (xAndV ea eb)) := (pe_and ha hb).weak fun σ H Q h => by
  obtain ⟨W, sl, cs, d, cs', hs, hr, e, k⟩ := h
  obtain ⟨x, c1, ea, e⟩ := bnd_some e
  refine ⟨W, sl, cs, x, c1, hs, hr, ea, fun W1 v1 H1 l1 r1 p1 => ?_⟩
  cases x with
  | bl z =>
    cases p1
    cases z with
    | true => exact ⟨true, rfl, W1, sl, c1, d, cs', hs.le l1, r1, e, fun W2 v H2 l2 r2 p2 => k W2 v H2 (l1.trans l2) r2 p2⟩
    | false =>
      cases e
      exact ⟨false, rfl, k W1 _ H1 l1 r1 .bl⟩
  | _ => cases e
theorem xe_or (ha : PE X a (tE T ea)) (hb : PE X (.BoolOp .Or (b :: rest) pos) (tE T eb)) : PE X (.BoolOp .Or (a :: b :: rest) pos) (tE T (xOrV ea eb)) := (pe_or ha hb).weak fun σ H Q h => by
  obtain ⟨W, sl, cs, d, cs', hs, hr, e, k⟩ := h
  obtain ⟨x, c1, ea, e⟩ := bnd_some e
  refine ⟨W, sl, cs, x, c1, hs, hr, ea, fun W1 v1 H1 l1 r1 p1 => ?_⟩
  cases x with
  | bl z =>
    cases p1
    cases z with
    | false => exact ⟨false, rfl, W1, sl, c1, d, cs', hs.le l1, r1, e, fun W2 v H2 l2 r2 p2 => k W2 v H2 (l1.trans l2) r2 p2⟩
    | true =>
      cases e
      exact ⟨true, rfl, k W1 _ H1 l1 r1 .bl⟩
  | _ => cases e
theorem xe_not (ha : PE X a (tE T ea)) : PE X (.UnaryOp .Not a pos) (tE T (xNotV ea)) := (pe_not ha).weak fun σ H Q h => by
  obtain ⟨W, sl, cs, d, cs', hs, hr, e, k⟩ := h
  obtain ⟨x, c1, ea, e⟩ := bnd_some e
  refine ⟨W, sl, cs, x, c1, hs, hr, ea, fun W1 v1 H1 l1 r1 p1 => ?_⟩
  cases x with
  | bl z =>
    cases p1
    cases e
    exact ⟨z, rfl, k W1 _ H1 l1 r1 .bl⟩
  | _ => cases e
theorem xe_if (hc : PT X c (tT T xt)) (ha : PE X a (tE T ea)) (hb : PE X b (tE T eb)) : PE X (.IfExp c a b pos) (tE T (xIf xt ea eb)) := (pe_ifExp hc ha hb).weak fun σ H Q h => by
  obtain ⟨W, sl, cs, d, cs', hs, hr, e, k⟩ := h
  obtain ⟨x, c1, ea, e⟩ := bnd_some e
  refine ⟨W, sl, cs, x, c1, hs, hr, ea, fun W1 H1 l1 r1 => ?_⟩
  cases x with
  | true => exact ⟨W1, sl, c1, d, cs', hs.le l1, r1, e, fun W2 v H2 l2 r2 p2 => k W2 v H2 (l1.trans l2) r2 p2⟩
  | false => exact ⟨W1, sl, c1, d, cs', hs.le l1, r1, e, fun W2 v H2 l2 r2 p2 => k W2 v H2 (l1.trans l2) r2 p2⟩
end
/-- a op1 b op2 c -/
def xChain (g g' : G2) (a b c : XE) : XE := fun sl cs => bnd (a sl cs) fun x c1 => bnd (b sl c1) fun y c2 => bnd (g x y c2) fun z c3 => match z with
  | .bl true => bnd (c sl c3) fun w c4 => g' y w c4
  | .bl false => some (.bl false, c3)
  | _ => none
theorem weak_chain {r r' : R2} {g g' : G2} {a b c : XE} (s : Snd2 r g) (s' : Snd2 r' g') {σ : L2.St} {H : Hp} {Q : VK} (h : tE T (xChain g g' a b c) σ H Q) : tChain r r' (tE T a) (tE T b) (tE T c) σ H Q := by
  obtain ⟨W, sl, cs, d, cs', hs, hr, e, k⟩ := h
  obtain ⟨x, c1, ea, e⟩ := bnd_some e
  obtain ⟨y, c2, eb, e⟩ := bnd_some e
  obtain ⟨z, c3, eg, e⟩ := bnd_some e
  refine ⟨W, sl, cs, x, c1, hs, hr, ea, fun W1 v1 H1 l1 r1 p1 => ⟨W1, sl, c1, y, c2, hs.le l1, r1, eb, fun W2 v2 H2 l2 r2 p2 => s T W2 c2 H2 v1 v2 x y z c3 _ r2 (p1.le l2) p2 eg fun W3 v3 H3 l3 r3 p3 => ?_⟩⟩
  cases z with
  | bl z =>
    cases p3
    cases z with
    | true =>
      obtain ⟨w, c4, ec, e⟩ := bnd_some e
      exact ⟨true, rfl, W3, sl, c3, w, c4, hs.le (l1.trans (l2.trans l3)), r3, ec, fun W4 v4 H4 l4 r4 p4 => s' T W4 c4 H4 v2 v4 y w d cs' Q r4 (p2.le (l3.trans l4)) p4 e fun W5 v5 H5 l5 r5 p5 =>
        k W5 v5 H5 (l1.trans (l2.trans (l3.trans (l4.trans l5)))) r5 p5⟩
    | false =>
      cases e
      exact ⟨false, rfl, k W3 _ H3 (l1.trans (l2.trans l3)) r3 .bl⟩
  | _ => cases e
section
variable {X : Cx} {a b c : Expr} {xa xb xc : XE} {pos : Pos}
theorem xe_chain {op op' : CmpOp} {r r' : R2} {g g' : G2} (ho : OpR X (compareOp op) r) (ho' : OpR X (compareOp op') r') (s : Snd2 r g) (s' : Snd2 r' g') (ha : PE X a (tE T xa)) (hb : PE X b (tE T xb)) (hc : PE X c (tE T xc))
    (hm : lastMarks [op, op'] [b, c] = false := by with_unfolding_all rfl) : PE X (.Compare a [op, op'] [b, c] pos) (tE T (xChain g g' xa xb xc)) := (pe_chain ho ho' ha hb hc hm).weak fun _ _ _ h => weak_chain s s' h
theorem xt_chain {op op' : CmpOp} {r r' : R2} {g g' : G2} (ho : OpR X (compareOp op) r) (ho' : OpR X (compareOp op') r') (s : Snd2 r g) (s' : Snd2 r' g') (ha : PE X a (tE T xa)) (hb : PE X b (tE T xb)) (hc : PE X c (tE T xc))
    (hm : lastMarks [op, op'] [b, c] = false := by with_unfolding_all rfl) : PT X (.Compare a [op, op'] [b, c] pos) (tT T (xTB (xChain g g' xa xb xc))) := (pt_chain ho ho' ha hb hc hm).weak fun _ _ _ h => weak_chain s s' (weak_tb h)
end

/-! ### argument lists, displays -/
def xaNil : XA := fun _ cs => some ([], cs)
def xaCons (a : XE) (r : XA) : XA := fun sl cs => bnd (a sl cs) fun x c => bnd (r sl c) fun xs c2 => some (x :: xs, c2)
def xaStar (a : XE) (r : XA) : XA := fun sl cs => bnd (a sl cs) fun x c => match seqD c x with
  | some (_, xs) => bnd (r sl c) fun ys c2 => some (xs ++ ys, c2)
  | none => none
def xTup (a : XA) : XE := fun sl cs => bnd (a sl cs) fun xs c => match Nat.ble xs.length 4096 with
  | true => some (.tup xs, c)
  | false => none
def xTupF (a : XA) : XE := fun sl cs => bnd (a sl cs) fun xs c => match Nat.ble xs.length 4096 with
  | true => some (.ftup xs, c)
  | false => none
def xLst (a : XA) : XE := fun sl cs => bnd (a sl cs) fun xs c => match Nat.ble xs.length 4096 with
  | true => some (.ref c.length, c ++ [.lst xs])
  | false => none
def xDnew : XE := fun _ cs => some (.ref cs.length, cs ++ [.dic []])
theorem line4096 {n : Nat} (h : Nat.ble n 4096 = true) : n ≤ sizeLine := by
  have := Nat.le_of_ble_eq_true h
  rw [sizeLine_eq]
  omega
section
variable {X : Cx} {e : Expr} {es : List Expr} {xe : XE} {xa : XA} {p pos : Pos}
theorem xa_nil : PA X [] (tA T xaNil) := pa_nil.weak fun σ H Q h => by
  obtain ⟨W, sl, cs, d, cs', hs, hr, e, k⟩ := h
  cases e
  exact k W [] H (Le.refl W) hr .nil
theorem xa_cons (ha : PE X e (tE T xe)) (hr : PA X es (tA T xa)) (hs : starEach (e :: es) X.env = (false, eval e X.env) :: starEach es X.env := by rfl) : PA X (e :: es) (tA T (xaCons xe xa)) := (pa_cons ha hr hs).weak fun σ H Q h => by
  obtain ⟨W, sl, cs, d, cs', hs, hr, e, k⟩ := h
  obtain ⟨x, c1, ea, e⟩ := bnd_some e
  obtain ⟨xs, c2, eb, e⟩ := bnd_some e
  cases e
  exact ⟨W, sl, cs, x, c1, hs, hr, ea, fun W1 v1 H1 l1 r1 p1 => ⟨W1, sl, c1, xs, _, hs.le l1, r1, eb, fun W2 v2 H2 l2 r2 p2 => k W2 _ H2 (l1.trans l2) r2 (.cons (p1.le l2) p2)⟩⟩
theorem xa_star (ha : PE X e (tE T xe)) (hr : PA X es (tA T xa)) (hs : starEach (.Starred e p :: es) X.env = (true, eval e X.env) :: starEach es X.env := by rfl) : PA X (.Starred e p :: es) (tA T (xaStar xe xa)) := (StX.pa_star ha hr hs).weak fun σ H Q h => by
  obtain ⟨W, sl, cs, d, cs', hs, hr, e, k⟩ := h
  obtain ⟨x, c1, ea, e⟩ := bnd_some e
  refine ⟨W, sl, cs, x, c1, hs, hr, ea, fun W1 v1 H1 l1 r1 p1 => ?_⟩
  cases q : seqD c1 x with
  | none => rw [q] at e; cases e
  | some pr =>
    obtain ⟨b, xs⟩ := pr
    rw [q] at e
    obtain ⟨ys, c2, eb, e⟩ := bnd_some e
    cases e
    obtain ⟨a, vs, rfl, ho, rl⟩ := r1.seq p1 q
    refine ⟨a, vs, rfl, ?_, W1, sl, c1, ys, _, hs.le l1, r1, eb, fun W2 v2 H2 l2 r2 p2 => k W2 _ H2 (l1.trans l2) r2 ((rl.le l2).append p2)⟩
    cases b with
    | true => exact .inl (seqO_t ho)
    | false => exact .inr (seqO_l ho)
theorem xe_tup {k} (h : PA X es (tA T xa)) : PE X (.Tuple es k pos) (tE T (xTup xa)) := (pe_tup h).weak fun σ H Q h => by
  obtain ⟨W, sl, cs, d, cs', hs, hr, e, k⟩ := h
  obtain ⟨xs, c1, ea, e⟩ := bnd_some e
  refine ⟨W, sl, cs, xs, c1, hs, hr, ea, fun W1 v1 H1 l1 r1 p1 => ?_⟩
  cases q : Nat.ble xs.length 4096 with
  | false => rw [q] at e; cases e
  | true =>
    rw [q] at e
    cases e
    refine ⟨by rw [p1.length]; exact line4096 q, fun p hp => ?_⟩
    obtain ⟨W2, l2, r2, p2⟩ := r1.newTup hp p1
    exact k W2 _ _ (l1.trans l2) r2 p2
/-- a tuple whose object is known (for its methods) -/
theorem xe_tupF {k} (h : PA X es (tA T xa)) : PE X (.Tuple es k pos) (tE T (xTupF xa)) := by
  have key : PE X (.Tuple es k pos) (fun σ H Q => tA T xa σ H fun xs H1 => xs.length ≤ sizeLine ∧ ∀ (p : Addr) (o : Obj), o.dict = none → H1 p = none → Q (.ref p) (upd H1 p (.frz o (.tup xs)))) := by
    refine ⟨fun pins s σ H Q I hq => ?_⟩
    refine wpAny_Tuple_spliced (thn (h.run pos pins s σ H _ I hq) fun us s1 ⟨xs, H1, I1, r, z, q⟩ => ⟨by rw [← r.length]; exact z, ?_⟩)
    have hf : H1 s1.heap.objs.size = none := I1.hok.fresh (Nat.le_refl _)
    refine ⟨.ref s1.heap.objs.size, upd H1 s1.heap.objs.size (.frz { cls := .type "tuple", data := .seq us.toArray } (.tup xs)), I1.laid (t' := s1.toks) (fun b u e => Heap.get?_push_of_some _ e) (Nat.le_refl _) ?_, rfl, q _ _ rfl hf⟩
    exact ⟨Heap.get?_push_size _ rfl, z, us, r, ⟨_, Heap.get?_push_size _ rfl, rfl, _, rfl⟩⟩
  refine key.weak fun σ H Q h => ?_
  obtain ⟨W, sl, cs, d, cs', hs, hr, e, k⟩ := h
  obtain ⟨xs, c1, ea, e⟩ := bnd_some e
  refine ⟨W, sl, cs, xs, c1, hs, hr, ea, fun W1 v1 H1 l1 r1 p1 => ?_⟩
  cases q : Nat.ble xs.length 4096 with
  | false => rw [q] at e; cases e
  | true =>
    rw [q] at e
    cases e
    refine ⟨by rw [p1.length]; exact line4096 q, fun p o ho hp => ?_⟩
    obtain ⟨W2, l2, r2, p2⟩ := r1.newFTup hp ho p1
    exact k W2 _ _ (l1.trans l2) r2 p2
theorem xe_lst (h : PA X es (tA T xa)) : PE X (.List es pos) (tE T (xLst xa)) := (pe_lst h).weak fun σ H Q h => by
  obtain ⟨W, sl, cs, d, cs', hs, hr, e, k⟩ := h
  obtain ⟨xs, c1, ea, e⟩ := bnd_some e
  refine ⟨W, sl, cs, xs, c1, hs, hr, ea, fun W1 v1 H1 l1 r1 p1 => ?_⟩
  cases q : Nat.ble xs.length 4096 with
  | false => rw [q] at e; cases e
  | true =>
    rw [q] at e
    cases e
    refine ⟨by rw [p1.length]; exact line4096 q, fun p hp => ?_⟩
    obtain ⟨W2, l2, r2, p2⟩ := r1.newLst hp p1
    exact k W2 _ _ (l1.trans l2) r2 p2
theorem xe_dnew : PE X (.Dict [] [] pos) (tE T xDnew) := pe_dnewK.weak fun σ H Q h => by
  obtain ⟨W, sl, cs, d, cs', hs, hr, e, k⟩ := h
  cases e
  intro p hp
  obtain ⟨W2, l2, r2, p2⟩ := hr.newDic hp
  exact k W2 _ _ l2 r2 p2
end
end XL
end
section
set_option maxRecDepth 100000
/-! XC: calls, targets, statements, loops, what is walked, comprehensions. -/
namespace XL
open PySem PySem.Spec PyProof.Rows L2
variable {T : Tb}

/-! ### freezing -/
def mapC (f : D → Cs → Option (D × Cs)) : List D → Cs → Option (List D × Cs)
  | [], c => some ([], c)
  | d :: ds, c => bnd (f d c) fun x c1 => bnd (mapC f ds c1) fun xs c2 => some (x :: xs, c2)
def pureD : Nat → D → Cs → Option (D × Cs)
  | 0, _, _ => none
  | n + 1, d, c => match d with
    | .tup xs => bnd (mapC (pureD n) xs c) fun ys c1 => some (.tup ys, c1)
    | .ftup xs => bnd (mapC (pureD n) xs c) fun ys c1 => some (.ftup ys, c1)
    | .ref k => (match nth c k with
      | some (.lst xs) => bnd (mapC (pureD n) xs c) fun ys c1 => (match nth c1 k with
        | some (.lst zs) => (match Nat.beq zs.length ys.length with
          | true => some (.lst ys, setN c1 k (.fz ys))
          | false => none)
        | _ => none)
      | some (.fz xs) => some (.lst xs, c)
      | _ => none)
    | d => some (d, c)
/-- what freezing shows -/
def PureOk (f : D → Cs → Option (D × Cs)) : Prop := ∀ (T : Tb) (W : Wd) (c : Cs) (H : Hp) (v : V) (d d' : D) (c' : Cs), Rel T W c H → RepW W v d → f d c = some (d', c') → ∃ W', Le W W' ∧ W'.al = W.al ∧ Rel T W' c' H ∧ Rep W'.I [] v d' ∧
  ∀ (k : Nat) (xs : List D), c'[k]? = some (Cell.lst xs) → c[k]? = some (Cell.lst xs)
theorem mapC_ok {f : D → Cs → Option (D × Cs)} (hf : PureOk f) : ∀ (ds : List D) (T : Tb) (W : Wd) (c : Cs) (H : Hp) (vs : List V) (ds' : List D) (c' : Cs), Rel T W c H → RepLW W vs ds → mapC f ds c = some (ds', c') →
    ∃ W', Le W W' ∧ W'.al = W.al ∧ Rel T W' c' H ∧ RepL W'.I [] vs ds' ∧ ∀ (k : Nat) (xs : List D), c'[k]? = some (Cell.lst xs) → c[k]? = some (Cell.lst xs)
  | [], T, W, c, H, vs, ds', c', R, r, e => by
    cases e
    cases r
    exact ⟨W, Le.refl W, rfl, R, .nil, fun _ _ h => h⟩
  | d :: ds, T, W, c, H, vs, ds', c', R, r, e => by
    obtain ⟨x, c1, e1, e⟩ := bnd_some e
    obtain ⟨xs, c2, e2, e⟩ := bnd_some e
    cases e
    cases r with
    | cons r t =>
      obtain ⟨W1, l1, a1, R1, p1, q1⟩ := hf T W c H _ d x c1 R r e1
      obtain ⟨W2, l2, a2, R2, p2, q2⟩ := mapC_ok hf ds T W1 c1 H _ xs _ R1 (t.le l1) e2
      exact ⟨W2, l1.trans l2, a2.trans a1, R2, .cons (Rep.up l2.i x [] [] _ p1) p2, fun k xs h => q1 k xs (q2 k xs h)⟩
theorem pureD_ok : ∀ n : Nat, PureOk (pureD n)
  | 0 => fun T W c H v d d' c' R r e => by cases e
  | n + 1 => fun T W c H v d d' c' R r e => by
    cases d with
    | tup xs =>
      obtain ⟨ys, c1, e1, e⟩ := bnd_some (show bnd (mapC (pureD n) xs c) (fun ys c1 => some (D.tup ys, c1)) = some (d', c') from e)
      cases e
      cases r with
      | tup ei q =>
        obtain ⟨W1, l1, a1, R1, p1, q1⟩ := mapC_ok (pureD_ok n) xs T W c H _ ys _ R q e1
        exact ⟨W1, l1, a1, R1, .tup (ei.up l1.i) p1, q1⟩
    | ftup xs =>
      obtain ⟨ys, c1, e1, e⟩ := bnd_some (show bnd (mapC (pureD n) xs c) (fun ys c1 => some (D.ftup ys, c1)) = some (d', c') from e)
      cases e
      cases r with
      | ftup ei q =>
        obtain ⟨W1, l1, a1, R1, p1, q1⟩ := mapC_ok (pureD_ok n) xs T W c H _ ys _ R q e1
        exact ⟨W1, l1, a1, R1, .ftup (ei.up l1.i) p1, q1⟩
    | ref k =>
      have e : (match nth c k with
        | some (.lst xs) => bnd (mapC (pureD n) xs c) fun ys c1 => (match nth c1 k with
          | some (.lst zs) => (match Nat.beq zs.length ys.length with
            | true => some (D.lst ys, setN c1 k (.fz ys))
            | false => none)
          | _ => none)
        | some (.fz xs) => some (.lst xs, c)
        | _ => none) = some (d', c') := e
      cases r with
      | ref ea =>
        rename_i a
        rw [nth_eq] at e
        cases hc : c[k]? with
        | none => rw [hc] at e; cases e
        | some cl =>
          rw [hc] at e
          cases cl with
          | fz xs =>
            cases e
            obtain ⟨vs, h1, h2⟩ := R.cell k a _ ea hc
            exact ⟨W, Le.refl W, rfl, R, .lst h1 h2, fun _ _ h => h⟩
          | lst xs =>
            obtain ⟨ys, c1, e1, e⟩ := bnd_some (show bnd (mapC (pureD n) xs c) (fun ys c1 => (match nth c1 k with
              | some (.lst zs) => (match Nat.beq zs.length ys.length with
                | true => some (D.lst ys, setN c1 k (.fz ys))
                | false => none)
              | _ => none)) = some (d', c') from e)
            obtain ⟨f1, f2, vs, h3, h4⟩ := R.cell k a _ ea hc
            obtain ⟨W1, l1, a1, R1, p1, q1⟩ := mapC_ok (pureD_ok n) xs T W c H vs ys c1 R h4 e1
            rw [nth_eq] at e
            cases hc1 : c1[k]? with
            | none => rw [hc1] at e; cases e
            | some cl1 =>
              rw [hc1] at e
              cases cl1 with
              | lst zs =>
                have ea1 : W1.al[k]? = some a := by rw [a1]; exact ea
                obtain ⟨g1, g2, vs2, h5, h6⟩ := R1.cell k a _ ea1 hc1
                have e : (match Nat.beq zs.length ys.length with
                  | true => some (D.lst ys, setN c1 k (.fz ys))
                  | false => none) = some (d', c') := e
                cases hb : Nat.beq zs.length ys.length with
                | false => rw [hb] at e; cases e
                | true =>
                  rw [hb] at e
                  cases e
                  rw [setN_eq]
                  have le : Le W1 { W1 with I := upd W1.I a (.lst vs) } := ⟨rfl, rfl, rfl, rfl, same_new (Same.refl _) g2, [], by simp⟩
                  have nI : ∀ b, b ≠ a → ({ W1 with I := upd W1.I a (.lst vs) } : Wd).I b = W1.I b := fun b hb => upd_ne hb
                  refine ⟨{ W1 with I := upd W1.I a (.lst vs) }, l1.trans le, a1, ⟨R1.keep, fun b u q => ?_, fun b u q => ?_, by rw [List.length_set]; exact R1.len, R1.nd, fun j b cl h1 h2 => ?_, fun b ps q => ?_, R1.tabs, R1.h0t, R1.wc, R1.wn⟩, .lst upd_same (RepL.up le.i ys [] [] _ p1), fun j zs2 h2 => ?_⟩
                  · by_cases hba : b = a
                    · subst hba
                      rw [show ({ W1 with I := upd W1.I b (.lst vs) } : Wd).I b = some (.lst vs) from upd_same] at q
                      cases q
                      exact h3
                    · rw [nI b hba] at q
                      exact R1.imm b u q
                  · by_cases hba : b = a
                    · subst hba
                      exact .inr g1
                    · rw [nI b hba] at q
                      exact R1.new b u q
                  · by_cases hj : k = j
                    · subst hj
                      have eab : a = b := Option.some.inj (ea1.symm.trans h1)
                      subst eab
                      rw [List.getElem?_set_self (List.getElem?_eq_some_iff.mp hc1).1] at h2
                      have h2 := Option.some.inj h2
                      subst h2
                      exact ⟨vs, upd_same, RepL.up le.i ys [] [] _ p1⟩
                    · rw [List.getElem?_set_ne hj] at h2
                      have hne : b ≠ a := fun z => by
                        subst z
                        exact hj (nodup_at R1.nd ea1 h1)
                      exact (R1.cell j b cl h1 h2).le le rfl fun z => (nI b hne).trans z
                  · by_cases hba : b = a
                    · subst hba
                      rw [show ({ W1 with I := upd W1.I b (.lst vs) } : Wd).I b = some (.lst vs) from upd_same] at q
                      cases q
                    · rw [nI b hba] at q
                      exact R1.nt b ps q
                  · by_cases hj : k = j
                    · subst hj
                      rw [List.getElem?_set_self (List.getElem?_eq_some_iff.mp hc1).1] at h2
                      cases h2
                    · rw [List.getElem?_set_ne hj] at h2
                      exact q1 j zs2 h2
              | fz _ => cases e
              | dic _ => cases e
              | ins _ => cases e
              | dead => cases e
          | dic _ => cases e
          | ins _ => cases e
          | dead => cases e
    | non => cases e; cases r; exact ⟨W, Le.refl W, rfl, R, .non, fun _ _ h => h⟩
    | bl b => cases e; cases r; exact ⟨W, Le.refl W, rfl, R, .bl, fun _ _ h => h⟩
    | int i => cases e; cases r; exact ⟨W, Le.refl W, rfl, R, .int, fun _ _ h => h⟩
    | str x => cases e; cases r; exact ⟨W, Le.refl W, rfl, R, .str, fun _ _ h => h⟩
    | ty x => cases e; cases r; exact ⟨W, Le.refl W, rfl, R, .ty, fun _ _ h => h⟩
    | lst xs =>
      cases e
      cases r with
      | lst ei q => exact ⟨W, Le.refl W, rfl, R, .lst ei q, fun _ _ h => h⟩
def fuelP : Nat := 12
def pureL (ds : List D) (c : Cs) : Option (List D × Cs) := mapC (pureD fuelP) ds c

/-! ### a def's promise: pure values in, a pure value out -/
def spC (f : List D → Option D) : Sp := fun vs H Q _ => ∃ (I : Hp) (ds : List D) (r : D), Same I H ∧ (∀ a ps, I a ≠ some (.tbl ps)) ∧ RepL I [] vs ds ∧ f ds = some r ∧
  ∀ (I' H' : Hp) (v : V), Same H H' → Same I I' → Same I' H' → (∀ a o, I' a = some o → I a = some o ∨ H a = none) → (∀ a ps, I' a ≠ some (.tbl ps)) → Rep I' [] v r → Q v H'
def fnX (n slots : Nat) (body : XS) : List D → Option D := fun ds => match Nat.beq ds.length n with
  | true => (match body (ds.map some ++ List.replicate (slots - n) none) [] with
    | some (.rt d c) => (match pureD fuelP d c with
      | some (r, _) => some r
      | none => none)
    | some (.nx _ _) => some .non
    | _ => none)
  | false => none
theorem fnX_len {n slots : Nat} {body : XS} {ds : List D} {r : D} (h : fnX n slots body ds = some r) : ds.length = n := by
  unfold fnX at h
  cases q : Nat.beq ds.length n with
  | false => rw [q] at h; cases h
  | true => exact Nat.eq_of_beq_eq_true q
/-- the body's reading, from the promise -/
theorem spC_body {T : Tb} (hT : T.tb = []) {n slots : Nat} {body : XS} {N : List Str} {vs : List V} {H : Hp} {Q : VK} {E : XK} (hN : N.length = slots) (h : spC (fnX n slots body) vs H Q E) : tS T body { nx := fun _ H' => Q .non H', rt := Q } (L2.start N vs) H := by
  obtain ⟨I, ds, r, sI, nI, rv, e, k⟩ := h
  have el := fnX_len e
  unfold fnX at e
  have hb : Nat.beq ds.length n = true := by rw [el]; exact Nat.beq_refl n
  rw [hb] at e
  have hlen : vs.length = n := rv.length.trans el
  have R0 : Rel T ⟨H, I, I, [], T.C, T.nm⟩ [] H := ⟨Same.refl H, sI, fun a o h => .inl h, rfl, List.nodup_nil, fun k a c h => by simp at h, nI, fun p hp => absurd hp (by rw [hT]; simp), fun h => absurd hT h, rfl, rfl⟩
  have S0 : RelS ⟨H, I, I, [], T.C, T.nm⟩ (ds.map some ++ List.replicate (slots - n) none) (L2.start N vs) := by
    refine ⟨?_, fun i d q => ?_⟩
    · unfold L2.start
      simp only [List.length_append, List.length_map, List.length_replicate]
      omega
    · by_cases hi : i < ds.length
      · rw [List.getElem?_append_left (by simpa using hi), List.getElem?_map] at q
        cases e2 : ds[i]? with
        | none => rw [e2] at q; cases q
        | some d2 =>
          rw [e2] at q
          have q := Option.some.inj (Option.some.inj q)
          subst q
          obtain ⟨v, hv, rp⟩ := rv.get e2
          refine ⟨v, ?_, rp⟩
          unfold L2.start
          rw [List.getElem?_append_left (by rw [List.length_map, hlen, ← el]; exact hi), List.getElem?_map, hv]
          rfl
      · rw [List.getElem?_append_right (by simpa using hi), List.getElem?_replicate] at q
        split at q <;> cases q
  cases q : body (ds.map some ++ List.replicate (slots - n) none) [] with
  | none => rw [q] at e; cases e
  | some o =>
    rw [q] at e
    refine ⟨_, _, _, o, S0, R0, q, ?_⟩
    cases o with
    | nx sl cs =>
      cases e
      intro W' σ H' l rs rl
      refine k W'.I H' .non ?_ l.i rl.imm (fun a o h => ?_) rl.nt .non
      · have := rl.keep
        rw [l.h0] at this
        exact this
      · have := rl.new a o h
        rw [l.b, l.h0] at this
        exact this
    | rt d cs =>
      intro W' v H' l rl rp
      have e : (match pureD fuelP d cs with
        | some (r, _) => some r
        | none => none) = some r := e
      cases q2 : pureD fuelP d cs with
      | none => rw [q2] at e; cases e
      | some p =>
        obtain ⟨r2, c2⟩ := p
        rw [q2] at e
        cases e
        obtain ⟨W2, l2, a2, R2, p2, _⟩ := pureD_ok fuelP T W' cs H' v d _ c2 rl rp q2
        have l3 := l.trans l2
        refine k W2.I H' v ?_ l3.i R2.imm (fun a o h => ?_) R2.nt p2
        · have := R2.keep
          rw [l3.h0] at this
          exact this
        · have := R2.new a o h
          rw [l3.b, l3.h0] at this
          exact this
    | bk sl cs => cases e
    | ct sl cs => cases e
theorem spC_len {f : List D → Option D} {n : Nat} (hf : ∀ ds r, f ds = some r → ds.length = n) : ∀ vs H Q E, spC f vs H Q E → vs.length = n := fun vs H Q E ⟨I, ds, r, _, _, rv, e, _⟩ => rv.length.trans (hf ds r e)
section
variable {P : Program} {w : World} {K : PySem.W.Frag} {mg : Str → Option Value} {base : Heap}
/-- THE RULE: a def whose body is the executable one keeps its promise -/
theorem ok_fnX {T : Tb} (hT : T.tb = []) {x qual : Str} {params : Arguments} {body : List Stmt} {scope : Scope} {dvs : List V} {kws : List (Str × V)} {f : Addr} {fd : FuncData} {N ps : List Str} {k n slots : Nat} {xb : XS} (F : FunD K x qual params body scope dvs kws f fd) (S : FnScope N ps scope)
    (hn : ps.length = n) (hN : N.length = slots)
    (hbody : ∀ (cdv : Value) (A : Around) (outer : List Env) (s : Shared) (H : Hp) (E : XK), Room k (A.deeper (envOfC qual scope s.heap.objs.size f cdv)) → PSs (cxOf CX0 P w K mg base N qual scope f cdv A outer s H E).nox body (tS T xb)) :
    FnOk P w K mg base CX0 (k + 1) f fd ps (spC (fnX n slots xb)) := by
  refine F.ok S (fun vs H Q E h => (spC_len (fun _ _ h => fnX_len h) vs H Q E h).trans hn.symm) (fun cdv A outer s H vs Q E hr h => ⟨tS T xb, (hbody cdv A outer s H E hr).nox, spC_body hT hN h⟩)
/-- another function in its place -/
theorem spC_imp {f g : List D → Option D} (h : ∀ ds r, g ds = some r → f ds = some r) : ∀ vs H Q E, spC g vs H Q E → spC f vs H Q E := fun vs H Q E ⟨I, ds, r, a, z, b, c, d⟩ => ⟨I, ds, r, a, z, b, h ds r c, d⟩
end
/-- f(..) -/
def xCall (f : List D → Option D) (a : XA) : XE := fun sl cs => bnd (a sl cs) fun ds c => bnd (pureL ds c) fun es c2 => match f es with
  | some r => some (r, c2)
  | none => none
/-- the world behind a call -/
theorem Rel.called {W : Wd} {cs : Cs} {H H' I' : Hp} (R : Rel T W cs H) (hH : Same H H') (hI : Same W.I I') (im : Same I' H') (nw : ∀ a o, I' a = some o → W.I a = some o ∨ H a = none) (nt : ∀ a ps, I' a ≠ some (.tbl ps)) : Le W { W with I := I' } ∧ Rel T { W with I := I' } cs H' := by
  have le : Le W { W with I := I' } := ⟨rfl, rfl, rfl, rfl, hI, [], by simp⟩
  refine ⟨le, ⟨R.keep.trans hH, im, fun a o h => ?_, R.len, R.nd, fun k a c h1 h2 => ?_, nt, R.tabs.ext hH, R.h0t, R.wc, R.wn⟩⟩
  · rcases nw a o h with h | h
    · exact R.new a o h
    · exact .inr (R.keep.free h)
  · have ok := R.cell k a c h1 h2
    obtain ⟨u, hu⟩ := ok.there R.imm
    refine ok.le le ((hH a u hu).trans hu.symm) fun h => ?_
    cases q : I' a with
    | none => exact q
    | some o =>
      rcases nw a o q with z | z
      · rw [h] at z; cases z
      · rw [hu] at z; cases z
theorem weak_call {f : List D → Option D} {a : XA} {σ : L2.St} {H : Hp} {Q : VK} {E : XK} (h : tE T (xCall f a) σ H Q) : tCall (spC f) [] E (tA T a) σ H Q := by
  obtain ⟨W, sl, cs, d, cs', hs, hr, e, k⟩ := h
  obtain ⟨ds, c1, ea, e⟩ := bnd_some e
  obtain ⟨es, c2, ep, e⟩ := bnd_some e
  refine ⟨W, sl, cs, ds, c1, hs, hr, ea, fun W1 vs H1 l1 r1 p1 => ?_⟩
  obtain ⟨W2, l2, a2, R2, p2, _⟩ := mapC_ok (pureD_ok fuelP) ds T W1 c1 H1 vs es c2 r1 p1 ep
  cases q : f es with
  | none => rw [q] at e; cases e
  | some r =>
    rw [q] at e
    cases e
    refine ⟨W2.I, es, d, R2.imm, R2.nt, by rw [List.append_nil]; exact p2, q, fun I' H' v s1 s2 s3 s4 s5 rp => ?_⟩
    obtain ⟨l3, R3⟩ := R2.called s1 s2 s3 s4 s5
    exact k _ v H' (l1.trans (l2.trans l3)) R3 (Rep.up (Same.refl _) d [] _ v rp)
section
variable {X : Cx} {x : Str} {p pos : Pos} {e : Expr} {es : List Expr} {xa : XA} {k : Nat} {f : Addr} {fd : FuncData} {ps : List Str} {g : List D → Option D} {id TN : String} {r : List V → Hp → VK → Prop} {gl : GL}
theorem xe_call (F : FnOk X.prog X.w X.K X.mg X.base CX0 k f fd ps (spC g)) (hr : Room k X.A) (hg : Gl X x) (hm : X.mg x = some (.ref f)) (hk : PySem.W.keepIn X.K (.ref f) = true) (hb : Binds X.K fd ps [])
    (ha : PA X (e :: es) (tA T xa)) (hdb : (x == ("__debug__" : Str)) = false := by decide) (he : starEach (e :: es) X.env = (false, eval e X.env) :: starEach es X.env := by rfl) (hpl : (backTo pos (starEach es X.env)).any (·.1) = false := by rfl) :
    PE X (.Call (.Name x p) (e :: es) [] pos) (tE T (xCall g xa)) := (pe_call F hr hg hm hk hb .nil (pass0 (X := X)) ha hdb he hpl).weak fun _ _ _ h => weak_call h
theorem xe_callB (hc : CallR X (.builtin id) r) (s : SndL r gl) (hg : Gl X x) (hm : X.mg x = none) (hv : bootBuiltins x = some (.builtin id)) (ha : PA X (e :: es) (tA T xa)) (hn : x ≠ "__name__" := by decide) (hdb : (x == ("__debug__" : Str)) = false := by decide)
    (he : starEach (e :: es) X.env = (false, eval e X.env) :: starEach es X.env := by rfl) (hpl : (backTo pos (starEach es X.env)).any (·.1) = false := by rfl) : PE X (.Call (.Name x p) (e :: es) [] pos) (tE T (xFn gl xa)) :=
  (pe_callB hc hg hm hv ha hn hdb he hpl).weak fun _ _ _ h => weak_fn s h
theorem xe_callTy (hc : CallR X (.type TN) r) (s : SndL r gl) (hg : Gl X x) (hm : X.mg x = none) (hv : bootBuiltins x = some (.type TN)) (ha : PA X (e :: es) (tA T xa)) (hn : x ≠ "__name__" := by decide) (hdb : (x == ("__debug__" : Str)) = false := by decide)
    (he : starEach (e :: es) X.env = (false, eval e X.env) :: starEach es X.env := by rfl) (hpl : (backTo pos (starEach es X.env)).any (·.1) = false := by rfl) : PE X (.Call (.Name x p) (e :: es) [] pos) (tE T (xFn gl xa)) :=
  (pe_callTy hc hg hm hv ha hn hdb he hpl).weak fun _ _ _ h => weak_fn s h
end

/-! ### targets -/
abbrev XG := D → Sl → Cs → Option Sl
def tG (T : Tb) (x : XG) (vs : List Nat) : TG := fun v σ H Q => ∃ W sl cs d sl', RelS W sl σ ∧ Rel T W cs H ∧ RepW W v d ∧ x d sl cs = some sl' ∧ ∀ W' σ', Le W W' → RelS W' sl' σ' → Rel T W' cs H → wipe σ' vs = wipe σ vs → Q σ' H
def xgName (i : Nat) : XG := fun d sl _ => some (setN sl i (some d))
def xgTup2 (i j : Nat) : XG := fun d sl cs => match d with
  | .tup [a, b] => some (setN (setN sl i (some a)) j (some b))
  | _ => none
theorem wipe_at (σ : L2.St) (j : Nat) : ∀ vs : List Nat, (wipe σ vs)[j]? = if j ∈ vs then (if j < σ.length then some none else none) else σ[j]?
  | [] => by simp [wipe]
  | v :: vs => by
    show ((wipe σ vs).set v none)[j]? = _
    by_cases hv : v = j
    · subst hv
      by_cases hl : v < σ.length
      · rw [List.getElem?_set_self (by rw [wipe_length]; exact hl)]
        simp [hl]
      · rw [List.getElem?_eq_none (by rw [List.length_set, wipe_length]; omega)]
        simp [hl]
    · rw [List.getElem?_set_ne hv, wipe_at σ j vs]
      have hne : ¬ j = v := fun e => hv e.symm
      simp [hne]
theorem wipe_set {σ : L2.St} {i : Nat} {o : Option V} {vs : List Nat} (h : i ∈ vs) : wipe (σ.set i o) vs = wipe σ vs := by
  apply List.ext_getElem?
  intro j
  rw [wipe_at, wipe_at, List.length_set]
  by_cases hj : j ∈ vs
  · rw [if_pos hj, if_pos hj]
  · rw [if_neg hj, if_neg hj]
    exact List.getElem?_set_ne (fun e => hj (by rw [← e]; exact h))
theorem RelS.set {W : Wd} {sl : Sl} {σ : L2.St} {v : V} {d : D} (i : Nat) (h : RelS W sl σ) (r : RepW W v d) : RelS W (sl.set i (some d)) (σ.set i (some v)) := by
  refine ⟨by rw [List.length_set, List.length_set]; exact h.len, fun j d2 e => ?_⟩
  by_cases hj : i = j
  · subst hj
    have hlt : i < sl.length := by
      have := (List.getElem?_eq_some_iff.mp e).1
      rwa [List.length_set] at this
    rw [List.getElem?_set_self hlt] at e
    have e := Option.some.inj (Option.some.inj e)
    subst e
    exact ⟨v, List.getElem?_set_self (by rw [← h.len]; exact hlt), r⟩
  · rw [List.getElem?_set_ne hj] at e
    obtain ⟨v2, e2, r2⟩ := h.at_ j d2 e
    exact ⟨v2, by rw [List.getElem?_set_ne hj]; exact e2, r2⟩
section
variable {X : Cx} {pos : Pos}
theorem xg_name (i : Nat) {x : Str} {vs : List Nat} (hN : X.N.Nodup) (hi : X.N[i]? = some x) (hx : Loc X.env.scope x) (hv : i ∈ vs) (hf : X.fn x = true ∨ X.env.scope.names.lookup x = some .local := by first | exact .inl rfl | exact .inr rfl | assumption) : PG X (.Name x pos) (tG T (xgName i) vs) :=
  (pg_name hN hi hx hf).weak fun v σ H Q h => by
    obtain ⟨W, sl, cs, d, sl', hs, hr, rp, e, k⟩ := h
    cases e
    rw [setN_eq] at k
    exact k W _ (Le.refl W) (hs.set i rp) hr (wipe_set hv)
theorem xg_tup2 (i j : Nat) {x y : Str} {px py : Pos} {n : Nat} {vs : List Nat} (hc : X.calm = true) (hN : X.N.Nodup) (hi : X.N[i]? = some x) (hj : X.N[j]? = some y) (hx : Loc X.env.scope x) (hy : Loc X.env.scope y) (hv : i ∈ vs) (hw : j ∈ vs)
    (hf : X.fn x = true ∨ X.env.scope.names.lookup x = some .local := by first | exact .inl rfl | exact .inr rfl | assumption) (hf2 : X.fn y = true ∨ X.env.scope.names.lookup y = some .local := by first | exact .inl rfl | exact .inr rfl | assumption) :
    PG X (.Tuple [.Name x px, .Name y py] n pos) (tG T (xgTup2 i j) vs) :=
  (pg_tup (n := 2) hc (pgs_cons (pg_name hN hi hx hf) (pgs_cons (pg_name hN hj hy hf2) pgs_nil))).weak fun v σ H Q h => by
    obtain ⟨W, sl, cs, d, sl', hs, hr, rp, e, k⟩ := h
    cases d with
    | tup ds =>
      match ds, e with
      | [a, b], e =>
        cases e
        cases rp with
        | tup ei q =>
          rename_i ad vs2
          cases q with
          | cons r1 q =>
            cases q with
            | cons r2 q =>
              cases q
              rw [setN_eq, setN_eq] at k
              refine ⟨ad, _, rfl, atup_t (ei.up hr.imm), rfl, _, _, rfl, _, _, rfl, rfl, ?_⟩
              exact k W _ (Le.refl W) ((hs.set i r1).set j r2) hr ((wipe_set hw).trans (wipe_set hv))
    | _ => cases e
end

/-! ### statements -/
def xNext : XS := fun sl cs => some (.nx sl cs)
def xSeq (a b : XS) : XS := fun sl cs => match a sl cs with
  | some (.nx s c) => b s c
  | o => o
def xDrop (a : XE) : XS := fun sl cs => bnd (a sl cs) fun _ c => some (.nx sl c)
def xRet (a : XE) : XS := fun sl cs => bnd (a sl cs) fun d c => some (.rt d c)
def xIfS (t : XT) (a b : XS) : XS := fun sl cs => bnd (t sl cs) fun x c => match x with
  | true => a sl c
  | false => b sl c
def xNever : XS := fun _ _ => none
def xAsg (a : XE) (g : XG) : XS := fun sl cs => bnd (a sl cs) fun d c => match g d sl c with
  | some s => some (.nx s c)
  | none => none
def xPar (i j : Nat) (a : XA) : XS := fun sl cs => bnd (a sl cs) fun ds c => match ds with
  | [x, y] => some (.nx (setN (setN sl i (some x)) j (some y)) c)
  | _ => none
section
variable {X : Cx} {st : Stmt} {sts rest : List Stmt} {e : Expr} {xe : XE} {xa xb : XS} {pos : Pos}
theorem xss_nil : PSs X [] (tS T xNext) := pss_nil.weak fun D σ H h => by
  obtain ⟨W, sl, cs, o, hs, hr, e, k⟩ := h
  cases e
  exact k W σ H (Le.refl W) hs hr
theorem xss_cons (h1 : PS X st (tS T xa)) (h2 : PSs X rest (tS T xb)) : PSs X (st :: rest) (tS T (xSeq xa xb)) := (pss_cons h1 h2).weak fun D σ H h => by
  obtain ⟨W, sl, cs, o, hs, hr, e, k⟩ := h
  unfold xSeq at e
  cases q : xa sl cs with
  | none => rw [q] at e; cases e
  | some o1 =>
    rw [q] at e
    refine ⟨W, sl, cs, o1, hs, hr, q, ?_⟩
    cases o1 with
    | nx s c => exact fun W' σ' H' l rs rl => ⟨W', s, c, o, rs, rl, e, k.le l⟩
    | rt d c =>
      cases e
      exact k
    | bk s c =>
      cases e
      exact k
    | ct s c =>
      cases e
      exact k
theorem xss_one (h1 : PS X st (tS T xa)) : PSs X [st] (tS T xa) := pss_one h1
theorem xs_never : PS X st (tS T xNever) := ps_never.weak fun D σ H h => by
  obtain ⟨W, sl, cs, o, hs, hr, e, k⟩ := h
  cases e
theorem xss_never : PSs X sts (tS T xNever) := pss_never.weak fun D σ H h => by
  obtain ⟨W, sl, cs, o, hs, hr, e, k⟩ := h
  cases e
theorem xs_expr (he : PE X e (tE T xe)) (hs : swapsWith e none pos.line X.env = pure false := by rfl) : PS X (.Expr e pos) (tS T (xDrop xe)) := (ps_expr he hs).weak fun D σ H h => by
  obtain ⟨W, sl, cs, o, hs, hr, e, k⟩ := h
  obtain ⟨d, c1, ea, e⟩ := bnd_some e
  cases e
  exact ⟨W, sl, cs, d, c1, hs, hr, ea, fun W1 v1 H1 l1 r1 p1 => k W1 σ H1 l1 (hs.le l1) r1⟩
theorem xs_ret (he : PE X e (tE T xe)) : PS X (.Return (some e) pos) (tS T (xRet xe)) := (ps_ret he).weak fun D σ H h => by
  obtain ⟨W, sl, cs, o, hs, hr, e, k⟩ := h
  obtain ⟨d, c1, ea, e⟩ := bnd_some e
  cases e
  exact ⟨W, sl, cs, d, c1, hs, hr, ea, fun W1 v1 H1 l1 r1 p1 => k W1 v1 H1 l1 r1 p1⟩
theorem xs_if {c : Expr} {a b : List Stmt} {xt : XT} (hc : PT X c (tT T xt)) (ha : PSs X a (tS T xa)) (hb : PSs X b (tS T xb)) : PS X (.If c a b pos) (tS T (xIfS xt xa xb)) := (ps_if hc ha hb).weak fun D σ H h => by
  obtain ⟨W, sl, cs, o, hs, hr, e, k⟩ := h
  obtain ⟨d, c1, ea, e⟩ := bnd_some e
  refine ⟨W, sl, cs, d, c1, hs, hr, ea, fun W1 H1 l1 r1 => ?_⟩
  cases d with
  | true => exact ⟨W1, sl, c1, o, hs.le l1, r1, e, k.le l1⟩
  | false => exact ⟨W1, sl, c1, o, hs.le l1, r1, e, k.le l1⟩
theorem weak_asg {xe : XE} {g : XG} {vs : List Nat} {D : Ends} {σ : L2.St} {H : Hp} (h : tS T (xAsg xe g) D σ H) : tAsg (tE T xe) (tG T g vs) D σ H := by
  obtain ⟨W, sl, cs, o, hs, hr, e, k⟩ := h
  obtain ⟨d, c1, ea, e⟩ := bnd_some e
  refine ⟨W, sl, cs, d, c1, hs, hr, ea, fun W1 v1 H1 l1 r1 p1 => ?_⟩
  cases q : g d sl c1 with
  | none => rw [q] at e; cases e
  | some s =>
    rw [q] at e
    cases e
    exact ⟨W1, sl, c1, d, s, hs.le l1, r1, p1, q, fun W2 σ2 l2 rs rl _ => k W2 σ2 H1 (l1.trans l2) rs rl⟩
theorem xs_asg {tg : Expr} {g : XG} {vs : List Nat} (he : PE X e (tE T xe)) (hg : PG X tg (tG T g vs)) (hs : swapsWithSole [tg] e pos.line X.env = pure false := by rfl) (hw : swappedStores [tg] e X.env = pure none := by rfl)
    (h1 : (assignEach [tg] X.env).map (·.2) = [assign tg X.env] := by rfl) : PS X (.Assign [tg] e pos) (tS T (xAsg xe g)) := (ps_asg he hg hs hw h1).weak fun D σ H h => weak_asg h
/-- name = value -/
theorem xs_set (i : Nat) {x : Str} {pos' : Pos} (hN : X.N.Nodup) (hi : X.N[i]? = some x) (hx : Loc X.env.scope x) (he : PE X e (tE T xe)) (hs : swapsWith e (some (.Name x pos')) pos.line X.env = pure false := by rfl) (hf : X.fn x = true ∨ X.env.scope.names.lookup x = some .local := by first | exact .inl rfl | exact .inr rfl | assumption) :
    PS X (.Assign [.Name x pos'] e pos) (tS T (xAsg xe (xgName i))) := (ps_set hN hi hx he hs hf).weak fun D σ H h => by
  obtain ⟨W, sl, cs, o, hs, hr, e, k⟩ := h
  obtain ⟨d, c1, ea, e⟩ := bnd_some e
  cases e
  refine ⟨W, sl, cs, d, c1, hs, hr, ea, fun W1 v1 H1 l1 r1 p1 => ?_⟩
  have k : ∀ W' σ H, Le W W' → RelS W' (setN sl i (some d)) σ → Rel T W' c1 H → D.nx σ H := k
  rw [setN_eq] at k
  exact k W1 _ H1 l1 ((hs.le l1).set i p1) r1
theorem xs_par (i j : Nat) {x y : Str} {a b : Expr} {ya : XA} {px py pt : Pos} {kt k2 pt2} (hc : X.calm = true) (hN : X.N.Nodup) (hi : X.N[i]? = some x) (hj : X.N[j]? = some y) (hij : i ≠ j)
    (hx : X.env.scope.names.lookup x = some .local) (hy : X.env.scope.names.lookup y = some .local) (ha : PA X [a, b] (tA T ya))
    (hw : swappedStores [.Tuple [.Name x px, .Name y py] kt pt] (.Tuple [a, b] k2 pt2) X.env = pure (some [x, y]))
    (hs : swapsWithSole [.Tuple [.Name x px, .Name y py] kt pt] (.Tuple [a, b] k2 pt2) pos.line X.env = pure false := by rfl) :
    PS X (.Assign [.Tuple [.Name x px, .Name y py] kt pt] (.Tuple [a, b] k2 pt2) pos) (tS T (xPar i j ya)) := (ps_par hc hN hi hj hij hx hy ha hw hs).weak fun D σ H h => by
  obtain ⟨W, sl, cs, o, hs, hr, e, k⟩ := h
  obtain ⟨ds, c1, ea, e⟩ := bnd_some e
  match ds, e with
  | [d1, d2], e =>
    cases e
    refine ⟨W, sl, cs, [d1, d2], c1, hs, hr, ea, fun W1 v1 H1 l1 r1 p1 => ?_⟩
    cases p1 with
    | cons q1 p1 =>
      cases p1 with
      | cons q2 p1 =>
        cases p1
        have k : ∀ W' σ H, Le W W' → RelS W' (setN (setN sl i (some d1)) j (some d2)) σ → Rel T W' c1 H → D.nx σ H := k
        rw [setN_eq, setN_eq] at k
        exact ⟨_, _, rfl, k W1 _ H1 l1 (((hs.le l1).set i q1).set j q2) r1⟩
end

/-! ### while -/
def xWhile (t : XT) (b : XS) : Nat → XS
  | 0 => fun _ _ => none
  | n + 1 => fun sl cs => bnd (t sl cs) fun x c => match x with
    | true => (match b sl c with
      | some (.nx s c2) => xWhile t b n s c2
      | some (.ct s c2) => xWhile t b n s c2
      | some (.bk s c2) => some (.nx s c2)
      | o => o)
    | false => some (.nx sl c)
theorem weak_while {t : XT} {b : XS} {n : Nat} {D : Ends} {σ : L2.St} {H : Hp} (h : tS T (xWhile t b n) D σ H) : tWhile (tT T t) (tS T b) D σ H := by
  refine ⟨fun m σ H => tS T (xWhile t b m) D σ H, ⟨n, h⟩, fun m σ H h => ?_⟩
  obtain ⟨W, sl, cs, o, hs, hr, e, k⟩ := h
  cases m with
  | zero => cases e
  | succ m =>
    obtain ⟨x, c1, ea, e⟩ := bnd_some e
    refine ⟨W, sl, cs, x, c1, hs, hr, ea, fun W1 H1 l1 r1 => ?_⟩
    cases x with
    | false =>
      cases e
      exact k W1 σ H1 l1 (hs.le l1) r1
    | true =>
      rw [if_pos rfl]
      refine ⟨fun σ' H' => tS T (xWhile t b m) D σ' H', fun σ' H' z => ⟨m, Nat.lt_succ_self m, z⟩, ?_⟩
      have e : (match b sl c1 with
        | some (.nx s c2) => xWhile t b m s c2
        | some (.ct s c2) => xWhile t b m s c2
        | some (.bk s c2) => some (.nx s c2)
        | o => o) = some o := e
      cases q : b sl c1 with
      | none => rw [q] at e; cases e
      | some o1 =>
        rw [q] at e
        refine ⟨W1, sl, c1, o1, hs.le l1, r1, q, ?_⟩
        cases o1 with
        | nx s c2 => exact fun W' σ' H' l rs rl => ⟨W', s, c2, o, rs, rl, e, k.le (l1.trans l)⟩
        | ct s c2 => exact fun W' σ' H' l rs rl => ⟨W', s, c2, o, rs, rl, e, k.le (l1.trans l)⟩
        | bk s c2 =>
          cases e
          exact fun W' σ' H' l rs rl => k W' σ' H' (l1.trans l) rs rl
        | rt d c2 =>
          cases e
          exact fun W' v H' l rl rp => k W' v H' (l1.trans l) rl rp
theorem xs_while {X : Cx} {c : Expr} {body : List Stmt} {t : XT} {b : XS} {pos : Pos} (n : Nat) (hp : PassesOwn (model X.prog X.w) X.A X.env X.xe) (hc : PT X c (tT T t)) (hb : PSs X body (tS T b)) : PS X (.While c body [] pos) (tS T (xWhile t b n)) :=
  (ps_while hp hc hb).weak fun D σ H h => weak_while h

/-! ### what is walked -/
abbrev Nx := Nat → Cs → Option (Option D)
def ItS (T : Tb) (W : Wd) (J : It) (nx : Nx) : Prop := ∀ (W' : Wd) (cs : Cs) (H : Hp) (i : Nat), Le W W' → Rel T W' cs H →
  (nx i cs = some none → J.stop i H) ∧ (∀ d, nx i cs = some (some d) → J.go i H ∧ ∀ x H', J.yld i H x H' → ∃ W2, Le W' W2 ∧ Rel T W2 cs H' ∧ RepW W2 x d)
theorem ItS.le {W W' : Wd} {J : It} {nx : Nx} (h : ItS T W J nx) (l : Le W W') : ItS T W' J nx := fun W2 cs H i l2 R => h W2 cs H i (l.trans l2) R
abbrev XI := Sl → Cs → Option (Nx × Cs)
def tI (T : Tb) (x : XI) : TI := fun σ H R => ∃ W sl cs nx cs', RelS W sl σ ∧ Rel T W cs H ∧ x sl cs = some (nx, cs') ∧ ∀ W' J H', Le W W' → Rel T W' cs' H' → ItS T W' J nx → R J H'
/-! ### for -/
def forLoop (nx : Nx) (g : XG) (b : XS) : Nat → Nat → XS
  | 0, _ => fun _ _ => none
  | n + 1, i => fun sl cs => match nx i cs with
    | some none => some (.nx sl cs)
    | some (some d) => (match g d sl cs with
      | some s1 => (match b s1 cs with
        | some (.nx s c2) => forLoop nx g b n (i + 1) s c2
        | some (.ct s c2) => forLoop nx g b n (i + 1) s c2
        | some (.bk s c2) => some (.nx s c2)
        | o => o)
      | none => none)
    | none => none
def xFor (n : Nat) (wi : XI) (g : XG) (b : XS) : XS := fun sl cs => bnd (wi sl cs) fun nx c => forLoop nx g b n 0 sl c
theorem weak_for {n : Nat} {wi : XI} {g : XG} {vs : List Nat} {b : XS} {D : Ends} {σ : L2.St} {H : Hp} (h : tS T (xFor n wi g b) D σ H) : tFor (tI T wi) (tG T g vs) (tS T b) D σ H := by
  obtain ⟨W, sl, cs, o, hs, hr, e, k⟩ := h
  obtain ⟨nx, c1, ea, e⟩ := bnd_some e
  refine ⟨W, sl, cs, nx, c1, hs, hr, ea, fun W1 J H1 l1 r1 it => ?_⟩
  refine ⟨fun i m σ H => ∃ W2 sl cs, Le W1 W2 ∧ RelS W2 sl σ ∧ Rel T W2 cs H ∧ forLoop nx g b m i sl cs = some o, ⟨n, W1, sl, c1, Le.refl W1, hs.le l1, r1, e⟩, fun i m σ H ⟨W2, sl2, cs2, l2, hs2, r2, e2⟩ => ?_⟩
  cases m with
  | zero => cases e2
  | succ m =>
    obtain ⟨it1, it2⟩ := it W2 cs2 H i l2 r2
    have e2 : (match nx i cs2 with
      | some none => some (Out.nx sl2 cs2)
      | some (some d) => (match g d sl2 cs2 with
        | some s1 => (match b s1 cs2 with
          | some (.nx s c2) => forLoop nx g b m (i + 1) s c2
          | some (.ct s c2) => forLoop nx g b m (i + 1) s c2
          | some (.bk s c2) => some (.nx s c2)
          | o => o)
        | none => none)
      | none => none) = some o := e2
    cases q : nx i cs2 with
    | none => rw [q] at e2; cases e2
    | some od =>
      rw [q] at e2
      cases od with
      | none =>
        cases e2
        exact .inl ⟨it1 q, k W2 σ H (l1.trans l2) hs2 r2⟩
      | some d =>
        obtain ⟨go, yl⟩ := it2 d q
        have e2 : (match g d sl2 cs2 with
          | some s1 => (match b s1 cs2 with
            | some (.nx s c2) => forLoop nx g b m (i + 1) s c2
            | some (.ct s c2) => forLoop nx g b m (i + 1) s c2
            | some (.bk s c2) => some (.nx s c2)
            | o => o)
          | none => none) = some o := e2
        cases q2 : g d sl2 cs2 with
        | none => rw [q2] at e2; cases e2
        | some s1 =>
          rw [q2] at e2
          have e2 : (match b s1 cs2 with
            | some (.nx s c2) => forLoop nx g b m (i + 1) s c2
            | some (.ct s c2) => forLoop nx g b m (i + 1) s c2
            | some (.bk s c2) => some (.nx s c2)
            | o => o) = some o := e2
          refine .inr ⟨go, fun σ' H' => ∃ W2 sl cs, Le W1 W2 ∧ RelS W2 sl σ' ∧ Rel T W2 cs H' ∧ forLoop nx g b m (i + 1) sl cs = some o, fun σ' H' z => ⟨m, Nat.lt_succ_self m, z⟩, fun x H' y => ?_⟩
          obtain ⟨W3, l3, r3, p3⟩ := yl x H' y
          refine ⟨W3, sl2, cs2, d, s1, hs2.le l3, r3, p3, q2, fun W4 σ4 l4 rs4 r4 _ => ?_⟩
          have l14 := l2.trans (l3.trans l4)
          cases q3 : b s1 cs2 with
          | none => rw [q3] at e2; cases e2
          | some o1 =>
            rw [q3] at e2
            refine ⟨W4, s1, cs2, o1, rs4, r4, q3, ?_⟩
            cases o1 with
            | nx s c2 => exact fun W' σ' H' l rs rl => ⟨W', s, c2, l14.trans l, rs, rl, e2⟩
            | ct s c2 => exact fun W' σ' H' l rs rl => ⟨W', s, c2, l14.trans l, rs, rl, e2⟩
            | bk s c2 =>
              cases e2
              exact fun W' σ' H' l rs rl => k W' σ' H' (l1.trans (l14.trans l)) rs rl
            | rt d c2 =>
              cases e2
              exact fun W' v H' l rl rp => k W' v H' (l1.trans (l14.trans l)) rl rp
theorem xs_for {X : Cx} {tg iter : Expr} {body : List Stmt} {wi : XI} {g : XG} {vs : List Nat} {b : XS} {pos : Pos} (n : Nat) (hp : PassesOwn (model X.prog X.w) X.A X.env X.xe) (hc : X.calm = true) (hi : PI X tg iter (tI T wi)) (hg : PG X tg (tG T g vs)) (hb : PSs X body (tS T b))
    (hs : ∀ x, foldedSetIterable iter X.env x = pure x := by intro _; rfl) : PS X (.For tg iter body [] pos) (tS T (xFor n wi g b)) := (ps_for hp hc hi hg hb hs).weak fun D σ H h => weak_for h
end XL
end
section
set_option maxRecDepth 100000
/-! XD: what is walked, comprehensions. -/
namespace XL
open PySem PySem.Spec PyProof.Rows L2
variable {T : Tb}

/-! ### sequences walked -/
def seqNx (d : D) : Nx := fun i cs => match seqD cs d with
  | some (_, xs) => some (nth xs i)
  | none => none
theorem its_seq {K : PySem.W.Frag} {W : Wd} {a : Addr} {d : D} {b : Bool} (r : RepW W (.ref a) d) (hb : ∀ cs x xs, seqD cs d = some (x, xs) → x = b) : ItS T W (if b = true then Itt K a else Itl K a) (seqNx d) := by
  intro W' cs H i l R
  have r' : RepW W' (.ref a) d := r.le l
  unfold seqNx
  cases q : seqD cs d with
  | none => exact ⟨fun h => (nomatch h), fun d h => (nomatch h)⟩
  | some p =>
    obtain ⟨x, xs⟩ := p
    have ex := hb cs x xs q
    subst ex
    obtain ⟨a2, vs, ea, e, rl⟩ := R.seq r' q
    have ea := V.ref.inj ea
    subst ea
    refine ⟨fun h => ?_, fun d2 h => ?_⟩
    · have h : nth xs i = none := Option.some.inj h
      rw [nth_eq] at h
      have hl : vs.length ≤ i := by rw [rl.length]; exact List.getElem?_eq_none_iff.mp h
      cases x with
      | false => exact ⟨vs, seqO_l e, hl⟩
      | true => exact ⟨vs, seqO_t e, hl⟩
    · have h : nth xs i = some d2 := Option.some.inj h
      rw [nth_eq] at h
      obtain ⟨v, hv, rv⟩ := rl.get h
      cases x with
      | false => exact ⟨⟨vs, v, seqO_l e, hv⟩, fun x H' ⟨eH, y⟩ => by
          subst eH
          have := y vs (seqO_l e)
          rw [hv] at this
          cases this
          exact ⟨W', Le.refl W', R, rv⟩⟩
      | true => exact ⟨⟨vs, v, seqO_t e, hv⟩, fun x H' ⟨eH, y⟩ => by
          subst eH
          have := y vs (seqO_t e)
          rw [hv] at this
          cases this
          exact ⟨W', Le.refl W', R, rv⟩⟩
theorem seqD_kind {d : D} {c : Cs} {b : Bool} {xs : List D} (h : seqD c d = some (b, xs)) : ∀ cs x ys, seqD cs d = some (x, ys) → x = b := by
  intro cs x ys h2
  cases d with
  | tup zs => cases h; cases h2; rfl
  | ftup zs => cases h; cases h2; rfl
  | lst zs => cases h; cases h2; rfl
  | ref k =>
    have key : ∀ {c : Cs} {b : Bool} {xs : List D}, seqD c (.ref k) = some (b, xs) → b = false := by
      intro c b xs h
      have h : (match nth c k with
        | some (.lst xs) => some (false, xs)
        | some (.fz xs) => some (false, xs)
        | _ => none) = some (b, xs) := h
      cases q : nth c k with
      | none => rw [q] at h; cases h
      | some cl =>
        rw [q] at h
        cases cl <;> cases h <;> rfl
    rw [key h, key h2]
  | _ => cases h
def xiSeq (a : XE) : XI := fun sl cs => bnd (a sl cs) fun d c => match seqD c d with
  | some _ => some (seqNx d, c)
  | none => none
def rgNx (lo : Int) (n : Nat) : Nx := fun i _ => match Nat.blt i n with
  | true => some (some (.int (lo + (i : Nat))))
  | false => some none
def rgNxC (lo c : Int) (n : Nat) : Nx := fun i _ => match Nat.blt i n with
  | true => some (some (.int (lo + (i : Nat) * c)))
  | false => some none
theorem its_rg {W : Wd} {lo : Int} {n : Nat} : ItS T W (Itr lo n) (rgNx lo n) := by
  intro W' cs H i l R
  unfold rgNx
  cases q : Nat.blt i n with
  | true =>
    have hi : i < n := Nat.le_of_ble_eq_true q
    refine ⟨fun h => (nomatch h), fun d h => ?_⟩
    cases h
    exact ⟨hi, fun x H' ⟨e1, e2⟩ => by
      subst e1
      subst e2
      exact ⟨W', Le.refl W', R, .int⟩⟩
  | false =>
    have hi : n ≤ i := by
      rcases Nat.lt_or_ge i n with h | h
      · rw [show Nat.blt i n = true from Nat.ble_eq_true_of_le h] at q
        cases q
      · exact h
    exact ⟨fun _ => hi, fun d h => (nomatch h)⟩
theorem its_rgC {W : Wd} {lo c : Int} {n : Nat} : ItS T W (Itc lo c n) (rgNxC lo c n) := by
  intro W' cs H i l R
  unfold rgNxC
  cases q : Nat.blt i n with
  | true =>
    have hi : i < n := Nat.le_of_ble_eq_true q
    refine ⟨fun h => (nomatch h), fun d h => ?_⟩
    cases h
    exact ⟨hi, fun x H' ⟨e1, e2⟩ => by
      subst e1
      subst e2
      exact ⟨W', Le.refl W', R, .int⟩⟩
  | false =>
    have hi : n ≤ i := by
      rcases Nat.lt_or_ge i n with h | h
      · rw [show Nat.blt i n = true from Nat.ble_eq_true_of_le h] at q
        cases q
      · exact h
    exact ⟨fun _ => hi, fun d h => (nomatch h)⟩
/-- an int within 2^40 -/
def okI (i : Int) : Bool := match i with
  | .ofNat n => Nat.ble n 1099511627776
  | .negSucc n => Nat.ble n 1099511627776
theorem okI_b {i : Int} (h : okI i = true) : -(2 ^ 62) ≤ i ∧ i < 2 ^ 62 := by
  cases i with
  | ofNat n =>
    have := Nat.le_of_ble_eq_true (show Nat.ble n 1099511627776 = true from h)
    show -(2 ^ 62) ≤ ((n : Nat) : Int) ∧ ((n : Nat) : Int) < 2 ^ 62
    omega
  | negSucc n =>
    have := Nat.le_of_ble_eq_true (show Nat.ble n 1099511627776 = true from h)
    rw [Int.negSucc_eq]
    omega
def xiRg1 (a : XA) : XI := fun sl cs => bnd (a sl cs) fun ds c => match ds with
  | [.int j] => (match okI j with
    | true => some (rgNx 0 j.toNat, c)
    | false => none)
  | _ => none
def xiRg2 (a : XA) : XI := fun sl cs => bnd (a sl cs) fun ds c => match ds with
  | [.int i, .int j] => (match okI i && okI j with
    | true => some (rgNx i (j - i).toNat, c)
    | false => none)
  | _ => none
def rgN (i j c : Int) : Option Nat := match okI i && okI j with
  | true => if c = -1 then some (i - j).toNat else (if c = 2 then some (((j - i + 1) / 2).toNat) else none)
  | false => none
def xiRg3 (a : XA) : XI := fun sl cs => bnd (a sl cs) fun ds c => match ds with
  | [.int i, .int j, .int k] => (match rgN i j k with
    | some n => some (rgNxC i k n, c)
    | none => none)
  | _ => none
def enumNx (d : D) : Nx := fun i cs => match seqD cs d with
  | some (false, xs) => (match nth xs i with
    | some x => some (some (.tup [.int (i : Nat), x]))
    | none => some none)
  | _ => none
def xiEnum (a : XA) : XI := fun sl cs => bnd (a sl cs) fun ds c => match ds with
  | [d] => (match seqD c d with
    | some (false, _) => some (enumNx d, c)
    | _ => none)
  | _ => none
def zipNx (d e : D) : Nx := fun i cs => match seqD cs d with
  | some (_, xs) => (match seqD cs e with
    | some (_, ys) => (match nth xs i with
      | some x => (match nth ys i with
        | some y => some (some (.tup [x, y]))
        | none => some none)
      | none => some none)
    | none => none)
  | none => none
def xiZip (a : XA) : XI := fun sl cs => bnd (a sl cs) fun ds c => match ds with
  | [d, e] => (match seqD c d with
    | some (b, _) => (match seqD c e with
      | some (b2, _) => (match b == b2 with
        | true => some (zipNx d e, c)
        | false => none)
      | none => none)
    | none => none)
  | _ => none
theorem its_enum {K : PySem.W.Frag} {W : Wd} {a : Addr} {d : D} (r : RepW W (.ref a) d) : ItS T W (Ite K a) (enumNx d) := by
  intro W' cs H i l R
  have r' : RepW W' (.ref a) d := r.le l
  unfold enumNx
  cases q : seqD cs d with
  | none => exact ⟨fun h => (nomatch h), fun d h => (nomatch h)⟩
  | some p =>
    obtain ⟨b, xs⟩ := p
    obtain ⟨a2, vs, ea, e, rl⟩ := R.seq r' q
    have ea := V.ref.inj ea
    subst ea
    cases b with
    | true => exact ⟨fun h => (nomatch h), fun d h => (nomatch h)⟩
    | false =>
      dsimp only
      cases q2 : nth xs i with
      | none =>
        rw [nth_eq] at q2
        have hl : vs.length ≤ i := by rw [rl.length]; exact List.getElem?_eq_none_iff.mp q2
        exact ⟨fun _ => ⟨vs, seqO_l e, hl⟩, fun d h => (nomatch h)⟩
      | some x =>
        rw [nth_eq] at q2
        obtain ⟨v, hv, rv⟩ := rl.get q2
        refine ⟨fun h => (nomatch h), fun d2 h => ?_⟩
        cases h
        refine ⟨⟨vs, v, seqO_l e, hv⟩, fun z H' ⟨T, w, ez, hT, eH, y⟩ => ?_⟩
        have := y vs (seqO_l e)
        rw [hv] at this
        cases this
        subst ez eH
        exact R.newTup hT (.cons .int (.cons rv .nil))
theorem its_zip {K : PySem.W.Frag} {W : Wd} {a b : Addr} {d e : D} {k : Bool} (r : RepW W (.ref a) d) (r2 : RepW W (.ref b) e) (hk : ∀ cs x xs, seqD cs d = some (x, xs) → x = k) (hk2 : ∀ cs x xs, seqD cs e = some (x, xs) → x = k) :
    ItS T W (if k = true then RZ.ItzT K a b else Itz K a b) (zipNx d e) := by
  intro W' cs H i l R
  have r' : RepW W' (.ref a) d := r.le l
  have r2' : RepW W' (.ref b) e := r2.le l
  unfold zipNx
  cases q : seqD cs d with
  | none => exact ⟨fun h => (nomatch h), fun d h => (nomatch h)⟩
  | some p =>
    obtain ⟨x, xs⟩ := p
    have ex := hk cs x xs q
    subst ex
    obtain ⟨a2, vs, ea, e1, rl⟩ := R.seq r' q
    have ea := V.ref.inj ea
    subst ea
    cases q2 : seqD cs e with
    | none => exact ⟨fun h => (nomatch h), fun d h => (nomatch h)⟩
    | some p =>
      obtain ⟨x2, ys⟩ := p
      have ex := hk2 cs x2 ys q2
      subst ex
      obtain ⟨b2, ws, ea, e2, rl2⟩ := R.seq r2' q2
      have ea := V.ref.inj ea
      subst ea
      have stop : (nth xs i = none ∨ nth ys i = none) → (if x2 = true then RZ.ItzT K a b else Itz K a b).stop i H := fun h => by
        have hl : vs.length ≤ i ∨ ws.length ≤ i := by
          rcases h with h | h
          · rw [nth_eq] at h
            exact .inl (by rw [rl.length]; exact List.getElem?_eq_none_iff.mp h)
          · rw [nth_eq] at h
            exact .inr (by rw [rl2.length]; exact List.getElem?_eq_none_iff.mp h)
        cases x2 with
        | false => exact ⟨vs, ws, seqO_l e1, seqO_l e2, hl⟩
        | true => exact ⟨vs, ws, seqO_t e1, seqO_t e2, hl⟩
      dsimp only
      cases q3 : nth xs i with
      | none => exact ⟨fun _ => stop (.inl q3), fun d h => (nomatch h)⟩
      | some x =>
        cases q4 : nth ys i with
        | none => exact ⟨fun _ => stop (.inr q4), fun d h => (nomatch h)⟩
        | some y =>
          rw [nth_eq] at q3 q4
          obtain ⟨v, hv, rv⟩ := rl.get q3
          obtain ⟨w, hw, rw'⟩ := rl2.get q4
          refine ⟨fun h => (nomatch h), fun d2 h => ?_⟩
          cases h
          cases x2 with
          | false =>
            refine ⟨⟨vs, ws, v, w, seqO_l e1, seqO_l e2, hv, hw⟩, fun z H' ⟨T, x', y', ez, hT, eH, y1, y2⟩ => ?_⟩
            have := y1 vs (seqO_l e1)
            rw [hv] at this
            cases this
            have := y2 ws (seqO_l e2)
            rw [hw] at this
            cases this
            subst ez eH
            exact R.newTup hT (.cons rv (.cons rw' .nil))
          | true =>
            refine ⟨⟨vs, ws, v, w, seqO_t e1, seqO_t e2, hv, hw⟩, fun z H' ⟨T, x', y', ez, hT, eH, y1, y2⟩ => ?_⟩
            have := y1 vs (seqO_t e1)
            rw [hv] at this
            cases this
            have := y2 ws (seqO_t e2)
            rw [hw] at this
            cases this
            subst ez eH
            exact R.newTup hT (.cons rv (.cons rw' .nil))
theorem repL1 {W : Wd} {vs : List V} {d : D} (h : RepLW W vs [d]) : ∃ v, vs = [v] ∧ RepW W v d := by
  cases h with
  | cons r t => cases t; exact ⟨_, rfl, r⟩
theorem repL2 {W : Wd} {vs : List V} {d e : D} (h : RepLW W vs [d, e]) : ∃ v w, vs = [v, w] ∧ RepW W v d ∧ RepW W w e := by
  cases h with
  | cons r t =>
    obtain ⟨w, rfl, r2⟩ := repL1 t
    exact ⟨_, w, rfl, r, r2⟩
theorem repL3 {W : Wd} {vs : List V} {d e f : D} (h : RepLW W vs [d, e, f]) : ∃ v w u, vs = [v, w, u] ∧ RepW W v d ∧ RepW W w e ∧ RepW W u f := by
  cases h with
  | cons r t =>
    obtain ⟨w, u, rfl, r2, r3⟩ := repL2 t
    exact ⟨_, w, u, rfl, r, r2, r3⟩
theorem rep_int {W : Wd} {v : V} {i : Int} (h : RepW W v (.int i)) : v = .int i := by
  cases h; rfl
theorem rangeSize_2 (i j : Int) : Builtin.Range.rangeSize i j 2 = if i < j then (j - i - 1) / 2 + 1 else 0 := by
  unfold Builtin.Range.rangeSize
  rw [if_pos (by decide)]
theorem rgC_2 {i j : Int} (hi : okI i = true) (hj : okI j = true) : RgC i j 2 (((j - i + 1) / 2).toNat) := by
  obtain ⟨a1, a2⟩ := okI_b hi
  obtain ⟨b1, b2⟩ := okI_b hj
  refine ⟨by decide, by decide, ?_, ?_⟩
  · unfold Builtin.Range.small
    rw [rangeSize_2]
    simp only [Builtin.Range.rangeFitsLong, Bool.and_eq_true, Bool.or_eq_true, decide_eq_true_eq, beq_iff_eq, show ((2 : Int) > 0) by decide, if_true]
    split <;> omega
  · rw [rangeSize_2]
    split <;> omega
section
variable {X : Cx} {tg e e2 : Expr} {xe : XE} {xa : XA} {p pos : Pos}
theorem xi_seq (h : PE X e (tE T xe)) : PI X tg e (tI T (xiSeq xe)) := ((pi_list h).or (pi_tup h)).weak fun σ H R h => by
  obtain ⟨W, sl, cs, nx, cs', hs, hr, e, k⟩ := h
  obtain ⟨d, c1, ea, e⟩ := bnd_some e
  cases q : seqD c1 d with
  | none => rw [q] at e; cases e
  | some p =>
    obtain ⟨b, xs⟩ := p
    rw [q] at e
    cases e
    cases b with
    | false =>
      refine .inl ⟨W, sl, cs, d, _, hs, hr, ea, fun W1 v1 H1 l1 r1 p1 => ?_⟩
      obtain ⟨a, vs, rfl, eo, rl⟩ := r1.seq p1 q
      exact ⟨a, rfl, ⟨vs, seqO_l eo⟩, k W1 _ H1 l1 r1 (its_seq (b := false) p1 (seqD_kind q))⟩
    | true =>
      refine .inr ⟨W, sl, cs, d, _, hs, hr, ea, fun W1 v1 H1 l1 r1 p1 => ?_⟩
      obtain ⟨a, vs, rfl, eo, rl⟩ := r1.seq p1 q
      exact ⟨a, rfl, ⟨vs, seqO_t eo⟩, k W1 _ H1 l1 r1 (its_seq (b := true) p1 (seqD_kind q))⟩
theorem xi_rg1 {a : Expr} (hg : Gl X "range") (hm : X.mg "range" = none) (ha : PA X [a] (tA T xa)) (hs : starEach [a] X.env = [(false, eval a X.env)] := by rfl) : PI X tg (.Call (.Name "range" p) [a] [] pos) (tI T (xiRg1 xa)) := (pi_range1 hg hm ha hs).weak fun σ H R h => by
  obtain ⟨W, sl, cs, nx, cs', hs, hr, e, k⟩ := h
  obtain ⟨ds, c1, ea, e⟩ := bnd_some e
  refine ⟨W, sl, cs, ds, c1, hs, hr, ea, fun W1 v1 H1 l1 r1 p1 => ?_⟩
  match ds, e with
  | [.int j], e =>
    obtain ⟨v, rfl, rv⟩ := repL1 p1
    obtain rfl := rep_int rv
    have e : (match okI j with
      | true => some (rgNx 0 j.toNat, c1)
      | false => none) = some (nx, cs') := e
    cases q : okI j with
    | false => rw [q] at e; cases e
    | true =>
      rw [q] at e
      cases e
      obtain ⟨b1, b2⟩ := okI_b q
      exact ⟨j, rfl, b1, b2, k W1 _ H1 l1 r1 its_rg⟩
theorem xi_rg2 {a b : Expr} (hg : Gl X "range") (hm : X.mg "range" = none) (ha : PA X [a, b] (tA T xa)) (hs : starEach [a, b] X.env = [(false, eval a X.env), (false, eval b X.env)] := by rfl) (hs2 : starEach [b] X.env = [(false, eval b X.env)] := by rfl) :
    PI X tg (.Call (.Name "range" p) [a, b] [] pos) (tI T (xiRg2 xa)) := (pi_range2 hg hm ha hs hs2).weak fun σ H R h => by
  obtain ⟨W, sl, cs, nx, cs', hs, hr, e, k⟩ := h
  obtain ⟨ds, c1, ea, e⟩ := bnd_some e
  refine ⟨W, sl, cs, ds, c1, hs, hr, ea, fun W1 v1 H1 l1 r1 p1 => ?_⟩
  match ds, e with
  | [.int i, .int j], e =>
    obtain ⟨v, w, rfl, rv, rw'⟩ := repL2 p1
    obtain rfl := rep_int rv
    obtain rfl := rep_int rw'
    have e : (match okI i && okI j with
      | true => some (rgNx i (j - i).toNat, c1)
      | false => none) = some (nx, cs') := e
    cases q : okI i && okI j with
    | false => rw [q] at e; cases e
    | true =>
      rw [q] at e
      cases e
      obtain ⟨q1, q2⟩ := Bool.and_eq_true_iff.mp q
      obtain ⟨b1, b2⟩ := okI_b q1
      obtain ⟨b3, b4⟩ := okI_b q2
      exact ⟨i, j, rfl, ⟨b1, b2, b3, b4⟩, k W1 _ H1 l1 r1 its_rg⟩
theorem xi_rg3 {a b c : Expr} (hg : Gl X "range") (hm : X.mg "range" = none) (ha : PA X [a, b, c] (tA T xa)) (hs : starEach [a, b, c] X.env = (false, eval a X.env) :: starEach [b, c] X.env := by rfl) (hpl : (backTo pos (starEach [b, c] X.env)).any (·.1) = false := by rfl) :
    PI X tg (.Call (.Name "range" p) [a, b, c] [] pos) (tI T (xiRg3 xa)) := (pi_range3 hg hm ha hs hpl).weak fun σ H R h => by
  obtain ⟨W, sl, cs, nx, cs', hs, hr, e, k⟩ := h
  obtain ⟨ds, c1, ea, e⟩ := bnd_some e
  refine ⟨W, sl, cs, ds, c1, hs, hr, ea, fun W1 v1 H1 l1 r1 p1 => ?_⟩
  match ds, e with
  | [.int i, .int j, .int z], e =>
    obtain ⟨v, w, u, rfl, rv, rw', ru⟩ := repL3 p1
    obtain rfl := rep_int rv
    obtain rfl := rep_int rw'
    obtain rfl := rep_int ru
    have e : (match rgN i j z with
      | some n => some (rgNxC i z n, c1)
      | none => none) = some (nx, cs') := e
    unfold rgN at e
    cases q : okI i && okI j with
    | false => rw [q] at e; cases e
    | true =>
      rw [q] at e
      obtain ⟨q1, q2⟩ := Bool.and_eq_true_iff.mp q
      obtain ⟨b1, b2⟩ := okI_b q1
      obtain ⟨b3, b4⟩ := okI_b q2
      by_cases h1 : z = -1
      · subst h1
        simp only [if_true] at e
        cases e
        exact ⟨i, j, -1, _, rfl, RgC.neg b1 b2 b3 b4, k W1 _ H1 l1 r1 its_rgC⟩
      · simp only [if_neg h1] at e
        by_cases h2 : z = 2
        · subst h2
          simp only [if_true] at e
          cases e
          exact ⟨i, j, 2, _, rfl, rgC_2 q1 q2, k W1 _ H1 l1 r1 its_rgC⟩
        · simp only [if_neg h2] at e
          cases e
theorem xi_enum {elts : List Expr} {kk : Nat} {tpos : Pos} (hg : Gl X "enumerate") (hm : X.mg "enumerate" = none) (ha : PA X [e] (tA T xa)) (hs : starEach [e] X.env = [(false, eval e X.env)] := by rfl) : PI X (.Tuple elts kk tpos) (.Call (.Name "enumerate" p) [e] [] pos) (tI T (xiEnum xa)) :=
  (pi_enum hg hm ha hs).weak fun σ H R h => by
  obtain ⟨W, sl, cs, nx, cs', hs, hr, e, k⟩ := h
  obtain ⟨ds, c1, ea, e⟩ := bnd_some e
  refine ⟨W, sl, cs, ds, c1, hs, hr, ea, fun W1 v1 H1 l1 r1 p1 => ?_⟩
  match ds, e with
  | [d], e =>
    obtain ⟨v, rfl, rv⟩ := repL1 p1
    have e : (match seqD c1 d with
      | some (false, _) => some (enumNx d, c1)
      | _ => none) = some (nx, cs') := e
    cases q : seqD c1 d with
    | none => rw [q] at e; cases e
    | some p =>
      obtain ⟨b, xs⟩ := p
      rw [q] at e
      cases b with
      | true => cases e
      | false =>
        cases e
        obtain ⟨a, vs, rfl, eo, rl⟩ := r1.seq rv q
        exact ⟨a, vs, rfl, seqO_l eo, k W1 _ H1 l1 r1 (its_enum rv)⟩
theorem xi_zip {elts : List Expr} {kk : Nat} {tpos : Pos} (hg : Gl X "zip") (hm : X.mg "zip" = none) (ha : PA X [e, e2] (tA T xa)) (hs : starEach [e, e2] X.env = (false, eval e X.env) :: starEach [e2] X.env := by rfl) (hpl : (backTo pos (starEach [e2] X.env)).any (·.1) = false := by rfl) :
    PI X (.Tuple elts kk tpos) (.Call (.Name "zip" p) [e, e2] [] pos) (tI T (xiZip xa)) := (RZ.pi_zipA hg hm ha hs hpl).weak fun σ H R h => by
  obtain ⟨W, sl, cs, nx, cs', hs, hr, e, k⟩ := h
  obtain ⟨ds, c1, ea, e⟩ := bnd_some e
  refine ⟨W, sl, cs, ds, c1, hs, hr, ea, fun W1 v1 H1 l1 r1 p1 => ?_⟩
  match ds, e with
  | [d, d2], e =>
    obtain ⟨v, w, rfl, rv, rw'⟩ := repL2 p1
    have e : (match seqD c1 d with
      | some (b, _) => (match seqD c1 d2 with
        | some (b2, _) => (match b == b2 with
          | true => some (zipNx d d2, c1)
          | false => none)
        | none => none)
      | none => none) = some (nx, cs') := e
    cases q : seqD c1 d with
    | none => rw [q] at e; cases e
    | some p =>
      obtain ⟨b, xs⟩ := p
      rw [q] at e
      have e : (match seqD c1 d2 with
        | some (b2, _) => (match b == b2 with
          | true => some (zipNx d d2, c1)
          | false => none)
        | none => none) = some (nx, cs') := e
      cases q2 : seqD c1 d2 with
      | none => rw [q2] at e; cases e
      | some p2 =>
        obtain ⟨b2, ys⟩ := p2
        rw [q2] at e
        have e : (match b == b2 with
          | true => some (zipNx d d2, c1)
          | false => none) = some (nx, cs') := e
        obtain ⟨a, vs, rfl, eo, rl⟩ := r1.seq rv q
        obtain ⟨a2, ws, rfl, eo2, rl2⟩ := r1.seq rw' q2
        cases b <;> cases b2 <;> cases e
        · exact ⟨a, a2, vs, ws, rfl, .inl ⟨seqO_l eo, seqO_l eo2, k W1 _ H1 l1 r1 (its_zip (k := false) rv rw' (seqD_kind q) (seqD_kind q2))⟩⟩
        · exact ⟨a, a2, vs, ws, rfl, .inr ⟨seqO_t eo, seqO_t eo2, k W1 _ H1 l1 r1 (its_zip (k := true) rv rw' (seqD_kind q) (seqD_kind q2))⟩⟩
end

/-! ### comprehensions -/
def wipeD (sl : Sl) : List Nat → Sl
  | [] => sl
  | v :: vs => setN (wipeD sl vs) v none
theorem wipeD_at (sl : Sl) (j : Nat) : ∀ vs : List Nat, (wipeD sl vs)[j]? = if j ∈ vs then (if j < sl.length then some none else none) else sl[j]? := by
  have hl : ∀ vs : List Nat, (wipeD sl vs).length = sl.length := by
    intro vs
    induction vs with
    | nil => rfl
    | cons v vs ih =>
      show (setN (wipeD sl vs) v none).length = _
      rw [setN_eq, List.length_set]
      exact ih
  intro vs
  induction vs with
  | nil => simp [wipeD]
  | cons v vs ih =>
    show (setN (wipeD sl vs) v none)[j]? = _
    rw [setN_eq]
    by_cases hv : v = j
    · subst hv
      by_cases h : v < sl.length
      · rw [List.getElem?_set_self (by rw [hl]; exact h)]
        simp [h]
      · rw [List.getElem?_eq_none (by rw [List.length_set, hl]; omega)]
        simp [h]
    · rw [List.getElem?_set_ne hv, ih]
      have hne : ¬ j = v := fun e => hv e.symm
      simp [hne]
theorem RelS.wipe {W : Wd} {sl : Sl} {σ : L2.St} (h : RelS W sl σ) (vs : List Nat) : RelS W (wipeD sl vs) (L2.wipe σ vs) := by
  refine ⟨?_, fun i d e => ?_⟩
  · rw [wipe_length]
    have hl : ∀ vs : List Nat, (wipeD sl vs).length = sl.length := by
      intro vs
      induction vs with
      | nil => rfl
      | cons v vs ih =>
        show (setN (wipeD sl vs) v none).length = _
        rw [setN_eq, List.length_set]
        exact ih
    rw [hl]
    exact h.len
  · rw [wipeD_at] at e
    rw [wipe_at]
    by_cases hi : i ∈ vs
    · rw [if_pos hi] at e
      split at e <;> cases e
    · rw [if_neg hi] at e
      rw [if_neg hi]
      exact h.at_ i d e
def lcLoop (nx : Nx) (g : XG) (t : XT) (x : XE) (k : Nat) (sl : Sl) : Nat → Nat → Cs → Option Cs
  | 0, _, _ => none
  | n + 1, i, cs => match nx i cs with
    | some none => some cs
    | some (some d) => (match g d sl cs with
      | some s1 => bnd (t s1 cs) fun b c2 => (match b with
        | true => bnd (x s1 c2) fun y c3 => (match nth c3 k with
          | some (.lst acc) => (match Nat.blt acc.length 4096 with
            | true => lcLoop nx g t x k sl n (i + 1) (setN c3 k (.lst (acc ++ [y])))
            | false => none)
          | _ => none)
        | false => lcLoop nx g t x k sl n (i + 1) c2)
      | none => none)
    | none => none
def xLc (n : Nat) (wi : XI) (g : XG) (t : XT) (x : XE) (vs : List Nat) : XE := fun sl cs => bnd (wi sl cs) fun nx c =>
  match lcLoop nx g t x c.length (wipeD sl vs) n 0 (c ++ [.lst []]) with
  | some c2 => some (.ref c.length, c2)
  | none => none
def xYes : XT := fun _ cs => some (true, cs)
section
variable {X : Cx}
theorem xts_nil : PTs X [] (tT T xYes) := ⟨fun pins s σ H Q I h => pts_nil.run pins s σ H Q I (by
  obtain ⟨W, sl, cs, b, cs', hs, hr, e, k⟩ := h
  cases e
  exact k W H (Le.refl W) hr)⟩
theorem xts_one {c : Expr} {t : XT} (h : PT X c (tT T t)) : PTs X [c] (tT T t) := pts_one h
end
theorem line4096' {n : Nat} (h : Nat.blt n 4096 = true) : n < sizeLine := by
  have : n < 4096 := Nat.le_of_ble_eq_true h
  rw [sizeLine_eq]
  omega
/-- one turn of a comprehension's loop, told for any loop of that form -/
theorem lc_turn {nx : Nx} {g : XG} {t : XT} {x : XE} {k : Nat} {sl : Sl} {vs : List Nat} {J : It} {W1 : Wd} {σ0 : L2.St} {Da : Addr} {cend : Cs} (it : ItS T W1 J nx) (hS : RelS W1 sl σ0) (hD : W1.al[k]? = some Da)
    {m i : Nat} {H : Hp} {Z : Hp → Prop} (hZ : ∀ W2 H', Le W1 W2 → Rel T W2 cend H' → Z H')
    (h : ∃ W2 cs, Le W1 W2 ∧ Rel T W2 cs H ∧ lcLoop nx g t x k sl m i cs = some cend) :
    (J.stop i H ∧ Z H) ∨ (J.go i H ∧ ∃ Nx : Hp → Prop, (∀ H', Nx H' → ∃ m', m' < m ∧ ∃ W2 cs, Le W1 W2 ∧ Rel T W2 cs H' ∧ lcLoop nx g t x k sl m' (i + 1) cs = some cend) ∧
      ∀ v H', J.yld i H v H' → tG T g vs v σ0 H' fun σ2 H2 => L2.wipe σ2 vs = L2.wipe σ0 vs ∧ tT T t σ2 H2 fun b H3 => if b = true then tE T x σ2 H3 fun y H4 => ∃ acc, H4 Da = some (.lst acc) ∧ acc.length < sizeLine ∧ Nx (upd H4 Da (.lst (acc ++ [y]))) else Nx H3) := by
  obtain ⟨W2, cs, l2, r2, e⟩ := h
  cases m with
  | zero => cases e
  | succ m =>
    obtain ⟨it1, it2⟩ := it W2 cs H i l2 r2
    have e : (match nx i cs with
      | some none => some cs
      | some (some d) => (match g d sl cs with
        | some s1 => bnd (t s1 cs) fun b c2 => (match b with
          | true => bnd (x s1 c2) fun y c3 => (match nth c3 k with
            | some (.lst acc) => (match Nat.blt acc.length 4096 with
              | true => lcLoop nx g t x k sl m (i + 1) (setN c3 k (.lst (acc ++ [y])))
              | false => none)
            | _ => none)
          | false => lcLoop nx g t x k sl m (i + 1) c2)
        | none => none)
      | none => none) = some cend := e
    cases q : nx i cs with
    | none => rw [q] at e; cases e
    | some od =>
      rw [q] at e
      cases od with
      | none =>
        cases e
        exact .inl ⟨it1 q, hZ W2 H l2 r2⟩
      | some d =>
        obtain ⟨go, yl⟩ := it2 d q
        have e : (match g d sl cs with
          | some s1 => bnd (t s1 cs) fun b c2 => (match b with
            | true => bnd (x s1 c2) fun y c3 => (match nth c3 k with
              | some (.lst acc) => (match Nat.blt acc.length 4096 with
                | true => lcLoop nx g t x k sl m (i + 1) (setN c3 k (.lst (acc ++ [y])))
                | false => none)
              | _ => none)
            | false => lcLoop nx g t x k sl m (i + 1) c2)
          | none => none) = some cend := e
        cases q2 : g d sl cs with
        | none => rw [q2] at e; cases e
        | some s1 =>
          rw [q2] at e
          obtain ⟨b, c2, et, e⟩ := bnd_some e
          refine .inr ⟨go, fun H' => ∃ W2 cs, Le W1 W2 ∧ Rel T W2 cs H' ∧ lcLoop nx g t x k sl m (i + 1) cs = some cend, fun H' z => ⟨m, Nat.lt_succ_self m, z⟩, fun v H' y => ?_⟩
          obtain ⟨W3, l3, r3, p3⟩ := yl v H' y
          refine ⟨W3, sl, cs, d, s1, hS.le (l2.trans l3), r3, p3, q2, fun W4 σ4 l4 rs4 r4 hw => ⟨hw, ?_⟩⟩
          refine ⟨W4, s1, cs, b, c2, rs4, r4, et, fun W5 H5 l5 r5 => ?_⟩
          have l25 := l2.trans (l3.trans (l4.trans l5))
          cases b with
          | false => exact ⟨W5, c2, l25, r5, e⟩
          | true =>
            obtain ⟨y, c3, ex, e⟩ := bnd_some e
            refine ⟨W5, s1, c2, y, c3, rs4.le l5, r5, ex, fun W6 v6 H6 l6 r6 p6 => ?_⟩
            rw [nth_eq] at e
            cases q3 : c3[k]? with
            | none => rw [q3] at e; cases e
            | some cl =>
              rw [q3] at e
              cases cl with
              | lst acc =>
                have e : (match Nat.blt acc.length 4096 with
                  | true => lcLoop nx g t x k sl m (i + 1) (setN c3 k (.lst (acc ++ [y])))
                  | false => none) = some cend := e
                cases q4 : Nat.blt acc.length 4096 with
                | false => rw [q4] at e; cases e
                | true =>
                  rw [q4] at e
                  have l26 := l25.trans l6
                  have hD6 : W6.al[k]? = some Da := by
                    obtain ⟨ext, ee⟩ := l26.al
                    rw [ee, List.getElem?_append_left (List.getElem?_eq_some_iff.mp hD).1]
                    exact hD
                  obtain ⟨f1, f2, ws, hw2, rl⟩ := r6.cell k Da _ hD6 q3
                  refine ⟨ws, hw2, by rw [rl.length]; exact line4096' q4, W6, c3.set k (.lst (acc ++ [y])), l26, ?_, ?_⟩
                  · exact r6.put hD6 q3 rfl ⟨f1, f2, ws ++ [v6], upd_same, rl.append (.cons p6 .nil)⟩
                  · rw [← setN_eq]
                    exact e
              | fz _ => cases e
              | dic _ => cases e
              | ins _ => cases e
              | dead => cases e
theorem weak_lc {n : Nat} {wi : XI} {g : XG} {t : XT} {x : XE} {vs : List Nat} {σ : L2.St} {H : Hp} {Q : VK} (h : tE T (xLc n wi g t x vs) σ H Q) : tLc (tI T wi) (tG T g vs) (tT T t) (tE T x) vs σ H Q := by
  obtain ⟨W, sl, cs, d, cs', hs, hr, e, k⟩ := h
  obtain ⟨nx, c1, ea, e⟩ := bnd_some e
  refine ⟨W, sl, cs, nx, c1, hs, hr, ea, fun W1 J H1 l1 r1 it Da hD => ?_⟩
  obtain ⟨W2, l2, r2, p2⟩ := r1.newLst (ds := []) hD .nil
  cases q : lcLoop nx g t x c1.length (wipeD sl vs) n 0 (c1 ++ [.lst []]) with
  | none => rw [q] at e; cases e
  | some cend =>
    rw [q] at e
    cases e
    have hD2 : W2.al[c1.length]? = some Da := by
      cases p2 with
      | ref e => exact e
    have hSw : RelS W2 (wipeD sl vs) (L2.wipe σ vs) := (hs.le (l1.trans l2)).wipe vs
    refine ⟨fun i m H => ∃ W3 cs, Le W2 W3 ∧ Rel T W3 cs H ∧ lcLoop nx g t x c1.length (wipeD sl vs) m i cs = some cs', ⟨n, W2, _, Le.refl W2, r2, q⟩, fun i m H3 hz => ?_⟩
    have ww : L2.wipe (L2.wipe σ vs) vs = L2.wipe σ vs := by
      apply List.ext_getElem?
      intro j
      rw [wipe_at, wipe_at, wipe_length]
      by_cases hj : j ∈ vs
      · rw [if_pos hj, if_pos hj]
      · rw [if_neg hj, if_neg hj]
    have key := lc_turn (vs := vs) (Z := fun H' => Q (.ref Da) H') (it.le l2) hSw hD2 (fun W3 H' l3 r3 => k W3 _ H' (l1.trans (l2.trans l3)) r3 (p2.le l3)) hz
    rw [ww] at key
    exact key
section
variable {X : Cx}
theorem xe_lc {elt tg iter : Expr} {ifs : List Expr} {scope : Scope} {own : List (Str × Nat)} {pos : Pos} {wi : XI} {g : XG} {t : XT} {x : XE} (n : Nat) (hc : X.calm = true) (hN : X.N.Nodup) (hi : PI X tg iter (tI T wi)) (ok : BlkOk X.N X.env.scope scope own)
    (hg : ∀ (s : Shared) (H : Hp) (C : Addr) (cl : List (Str × Addr)) (fp : List Addr), PG (X.blk s H scope (compEnvC scope cl C X.env) fp) tg (tG T g (own.map (·.2))))
    (ht : ∀ (s : Shared) (H : Hp) (C : Addr) (cl : List (Str × Addr)) (fp : List Addr), PTs (X.blk s H scope (compEnvC scope cl C X.env) fp) ifs (tT T t))
    (he : ∀ (s : Shared) (H : Hp) (C : Addr) (cl : List (Str × Addr)) (fp : List Addr), PE (X.blk s H scope (compEnvC scope cl C X.env) fp) elt (tE T x)) (hs : ∀ x, foldedSetIterable iter X.env x = pure x := by intro _; rfl) :
    PE X (.ListComp elt [⟨tg, iter, ifs, 0⟩] scope pos) (tE T (xLc n wi g t x (own.map (·.2)))) := (pe_lc hc hN hi ok hg ht he hs).weak fun _ _ _ h => weak_lc h
end
end XL
end
section
set_option maxRecDepth 100000
/-! XF: a comprehension that is stored, two clauses; operations on deep values. -/
namespace XL
open PySem PySem.Spec PyProof.Rows L2
variable {T : Tb}

theorem wipe_idem (σ : L2.St) (vs : List Nat) : L2.wipe (L2.wipe σ vs) vs = L2.wipe σ vs := by
  apply List.ext_getElem?
  intro j
  rw [wipe_at, wipe_at, wipe_length]
  by_cases hj : j ∈ vs
  · rw [if_pos hj, if_pos hj]
  · rw [if_neg hj, if_neg hj]
/-- behind an expression a name is set -/
theorem weak_setE {te : TE} {x : XE} {i : Nat} (hw : ∀ (σ : L2.St) (H : Hp) (Q : VK), tE T x σ H Q → te σ H Q) {D : Ends} {σ : L2.St} {H : Hp} (h : tS T (xAsg x (xgName i)) D σ H) : tAsg te (gName i) D σ H := by
  obtain ⟨W, sl, cs, o, hs, hr, e, k⟩ := h
  obtain ⟨d, c1, ea, e⟩ := bnd_some e
  cases e
  refine hw σ H _ ⟨W, sl, cs, d, c1, hs, hr, ea, fun W1 v1 H1 l1 r1 p1 => ?_⟩
  have k : ∀ W' σ H, Le W W' → RelS W' (setN sl i (some d)) σ → Rel T W' c1 H → D.nx σ H := k
  rw [setN_eq] at k
  exact k W1 _ H1 l1 ((hs.le l1).set i p1) r1
section
variable {X : Cx}
theorem xs_setLc (i : Nat) {y : Str} {py : Pos} {elt tg iter : Expr} {ifs : List Expr} {scope : Scope} {own : List (Str × Nat)} {pos spos : Pos} {wi : XI} {g : XG} {t : XT} {x : XE} (n : Nat) (hc : X.calm = true) (hN : X.N.Nodup) (hy : X.N[i]? = some y) (hyl : X.env.scope.names.lookup y = some .local)
    (hsw : swapsWith (.ListComp elt [⟨tg, iter, ifs, 0⟩] scope pos) (some (.Name y py)) spos.line X.env = pure true) (hi : PI X tg iter (tI T wi)) (ok : BlkOk X.N X.env.scope scope own)
    (hg : ∀ (s : Shared) (H : Hp) (C : Addr) (cl : List (Str × Addr)) (fp : List Addr), PG (X.blk s H scope (compEnvC scope cl C X.env) fp) tg (tG T g (own.map (·.2))))
    (ht : ∀ (s : Shared) (H : Hp) (C : Addr) (cl : List (Str × Addr)) (fp : List Addr), PTs (X.blk s H scope (compEnvC scope cl C X.env) fp) ifs (tT T t))
    (he : ∀ (s : Shared) (H : Hp) (C : Addr) (cl : List (Str × Addr)) (fp : List Addr), PE (X.blk s H scope (compEnvC scope cl C X.env) fp) elt (tE T x)) (hs : ∀ x, foldedSetIterable iter X.env x = pure x := by intro _; rfl) :
    PS X (.Assign [.Name y py] (.ListComp elt [⟨tg, iter, ifs, 0⟩] scope pos) spos) (tS T (xAsg (xLc n wi g t x (own.map (·.2))) (xgName i))) := (ps_setLc hc hN hy hyl hsw hi ok hg ht he hs).weak fun D σ H h => weak_setE (fun _ _ _ => weak_lc) h
end
def lc2Loop (nx : Nx) (g : XG) (t : XT) (w1 : XI) (g1 : XG) (t1 : XT) (x : XE) (k : Nat) (sl : Sl) (vs1 : List Nat) (n1 : Nat) : Nat → Nat → Cs → Option Cs
  | 0, _, _ => none
  | n + 1, i, cs => match nx i cs with
    | some none => some cs
    | some (some d) => (match g d sl cs with
      | some s1 => bnd (t s1 cs) fun b c2 => (match b with
        | true => bnd (w1 s1 c2) fun nx1 c3 => (match lcLoop nx1 g1 t1 x k (wipeD s1 vs1) n1 0 c3 with
          | some c4 => lc2Loop nx g t w1 g1 t1 x k sl vs1 n1 n (i + 1) c4
          | none => none)
        | false => lc2Loop nx g t w1 g1 t1 x k sl vs1 n1 n (i + 1) c2)
      | none => none)
    | none => none
def xLc2 (n n1 : Nat) (wi : XI) (g : XG) (t : XT) (w1 : XI) (g1 : XG) (t1 : XT) (x : XE) (vs vs1 : List Nat) : XE := fun sl cs => bnd (wi sl cs) fun nx c =>
  match lc2Loop nx g t w1 g1 t1 x c.length (wipeD sl vs) vs1 n1 n 0 (c ++ [.lst []]) with
  | some c2 => some (.ref c.length, c2)
  | none => none
theorem al_le {W W' : Wd} (l : Le W W') {k : Nat} {a : Addr} (h : W.al[k]? = some a) : W'.al[k]? = some a := by
  obtain ⟨ext, ee⟩ := l.al
  rw [ee, List.getElem?_append_left (List.getElem?_eq_some_iff.mp h).1]
  exact h
theorem weak_lc2 {n n1 : Nat} {wi : XI} {g : XG} {t : XT} {w1 : XI} {g1 : XG} {t1 : XT} {x : XE} {vs vs1 : List Nat} {σ : L2.St} {H : Hp} {Q : VK} (h : tE T (xLc2 n n1 wi g t w1 g1 t1 x vs vs1) σ H Q) :
    tLc2 (tI T wi) (tG T g vs) (tT T t) (tI T w1) (tG T g1 vs1) (tT T t1) (tE T x) vs vs1 σ H Q := by
  obtain ⟨W, sl, cs, d, cs', hs, hr, e, k⟩ := h
  obtain ⟨nx, c1, ea, e⟩ := bnd_some e
  refine ⟨W, sl, cs, nx, c1, hs, hr, ea, fun W1 J H1 l1 r1 it Da hD => ?_⟩
  obtain ⟨W2, l2, r2, p2⟩ := r1.newLst (ds := []) hD .nil
  cases q : lc2Loop nx g t w1 g1 t1 x c1.length (wipeD sl vs) vs1 n1 n 0 (c1 ++ [.lst []]) with
  | none => rw [q] at e; cases e
  | some cend =>
    rw [q] at e
    cases e
    have hD2 : W2.al[c1.length]? = some Da := by
      cases p2 with
      | ref e => exact e
    have hSw : RelS W2 (wipeD sl vs) (L2.wipe σ vs) := (hs.le (l1.trans l2)).wipe vs
    refine ⟨fun i m H => ∃ W3 cs, Le W2 W3 ∧ Rel T W3 cs H ∧ lc2Loop nx g t w1 g1 t1 x c1.length (wipeD sl vs) vs1 n1 m i cs = some cs', ⟨n, W2, _, Le.refl W2, r2, q⟩, fun i m H3 ⟨W3, cs3, l3, r3, e3⟩ => ?_⟩
    cases m with
    | zero => cases e3
    | succ m =>
      obtain ⟨it1, it2⟩ := it W3 cs3 H3 i (l2.trans l3) r3
      have e3 : (match nx i cs3 with
        | some none => some cs3
        | some (some d) => (match g d (wipeD sl vs) cs3 with
          | some s1 => bnd (t s1 cs3) fun b c2 => (match b with
            | true => bnd (w1 s1 c2) fun nx1 c3 => (match lcLoop nx1 g1 t1 x c1.length (wipeD s1 vs1) n1 0 c3 with
              | some c4 => lc2Loop nx g t w1 g1 t1 x c1.length (wipeD sl vs) vs1 n1 m (i + 1) c4
              | none => none)
            | false => lc2Loop nx g t w1 g1 t1 x c1.length (wipeD sl vs) vs1 n1 m (i + 1) c2)
          | none => none)
        | none => none) = some cs' := e3
      cases q1 : nx i cs3 with
      | none => rw [q1] at e3; cases e3
      | some od =>
        rw [q1] at e3
        cases od with
        | none =>
          cases e3
          exact .inl ⟨it1 q1, k W3 _ H3 (l1.trans (l2.trans l3)) r3 (p2.le l3)⟩
        | some d =>
          obtain ⟨go, yl⟩ := it2 d q1
          have e3 : (match g d (wipeD sl vs) cs3 with
            | some s1 => bnd (t s1 cs3) fun b c2 => (match b with
              | true => bnd (w1 s1 c2) fun nx1 c3 => (match lcLoop nx1 g1 t1 x c1.length (wipeD s1 vs1) n1 0 c3 with
                | some c4 => lc2Loop nx g t w1 g1 t1 x c1.length (wipeD sl vs) vs1 n1 m (i + 1) c4
                | none => none)
              | false => lc2Loop nx g t w1 g1 t1 x c1.length (wipeD sl vs) vs1 n1 m (i + 1) c2)
            | none => none) = some cs' := e3
          cases q2 : g d (wipeD sl vs) cs3 with
          | none => rw [q2] at e3; cases e3
          | some s1 =>
            rw [q2] at e3
            obtain ⟨b, c2, et, e3⟩ := bnd_some e3
            refine .inr ⟨go, fun H' => ∃ W3 cs, Le W2 W3 ∧ Rel T W3 cs H' ∧ lc2Loop nx g t w1 g1 t1 x c1.length (wipeD sl vs) vs1 n1 m (i + 1) cs = some cs', fun H' z => ⟨m, Nat.lt_succ_self m, z⟩, fun v H' y => ?_⟩
            obtain ⟨W4, l4, r4, p4⟩ := yl v H' y
            refine ⟨W4, wipeD sl vs, cs3, d, s1, hSw.le (l3.trans l4), r4, p4, q2, fun W5 σ5 l5 rs5 r5 hw => ⟨by rw [hw]; exact wipe_idem σ vs, ?_⟩⟩
            refine ⟨W5, s1, cs3, b, c2, rs5, r5, et, fun W6 H6 l6 r6 => ?_⟩
            have l26 := l3.trans (l4.trans (l5.trans l6))
            cases b with
            | false => exact ⟨W6, c2, l26, r6, e3⟩
            | true =>
              obtain ⟨nx1, c3, ex, e3⟩ := bnd_some e3
              refine ⟨W6, s1, c2, nx1, c3, rs5.le l6, r6, ex, fun W7 J1 H7 l7 r7 it7 => ?_⟩
              have l27 := l26.trans l7
              cases q5 : lcLoop nx1 g1 t1 x c1.length (wipeD s1 vs1) n1 0 c3 with
              | none => rw [q5] at e3; cases e3
              | some c4 =>
                rw [q5] at e3
                refine ⟨fun j mm H => ∃ W3 cs, Le W7 W3 ∧ Rel T W3 cs H ∧ lcLoop nx1 g1 t1 x c1.length (wipeD s1 vs1) mm j cs = some c4, ⟨n1, W7, c3, Le.refl W7, r7, q5⟩, fun j mm H8 hz => ?_⟩
                have key := lc_turn (vs := vs1) (Z := fun H' => ∃ W3 cs, Le W2 W3 ∧ Rel T W3 cs H' ∧ lc2Loop nx g t w1 g1 t1 x c1.length (wipeD sl vs) vs1 n1 m (i + 1) cs = some cs')
                  it7 ((rs5.le (l6.trans l7)).wipe vs1) (al_le l27 hD2) (fun W8 H' l8 r8 => ⟨W8, c4, l27.trans l8, r8, e3⟩) hz
                rw [wipe_idem] at key
                exact key
section
variable {X : Cx}
theorem xe_lc2 {elt tg iter tg1 iter1 : Expr} {ifs ifs1 : List Expr} {scope : Scope} {own : List (Str × Nat)} {vs1 : List Nat} {pos : Pos} {wi w1 : XI} {g g1 : XG} {t t1 : XT} {x : XE} (n n1 : Nat) (hc : X.calm = true) (hN : X.N.Nodup) (hi : PI X tg iter (tI T wi)) (ok : BlkOk X.N X.env.scope scope own) (hv : ∀ i ∈ vs1, i ∈ own.map (·.2))
    (hg : ∀ (s : Shared) (H : Hp) (C : Addr) (cl : List (Str × Addr)) (fp : List Addr), PG (X.blk s H scope (compEnvC scope cl C X.env) fp) tg (tG T g (own.map (·.2))))
    (ht : ∀ (s : Shared) (H : Hp) (C : Addr) (cl : List (Str × Addr)) (fp : List Addr), PTs (X.blk s H scope (compEnvC scope cl C X.env) fp) ifs (tT T t))
    (hi1 : ∀ (s : Shared) (H : Hp) (C : Addr) (cl : List (Str × Addr)) (fp : List Addr), PI (X.blk s H scope (compEnvC scope cl C X.env) fp) tg1 iter1 (tI T w1))
    (hg1 : ∀ (s : Shared) (H : Hp) (C : Addr) (cl : List (Str × Addr)) (fp : List Addr), PG (X.blk s H scope (compEnvC scope cl C X.env) fp) tg1 (tG T g1 vs1))
    (ht1 : ∀ (s : Shared) (H : Hp) (C : Addr) (cl : List (Str × Addr)) (fp : List Addr), PTs (X.blk s H scope (compEnvC scope cl C X.env) fp) ifs1 (tT T t1))
    (he : ∀ (s : Shared) (H : Hp) (C : Addr) (cl : List (Str × Addr)) (fp : List Addr), PE (X.blk s H scope (compEnvC scope cl C X.env) fp) elt (tE T x)) (hs : ∀ x, foldedSetIterable iter X.env x = pure x := by intro _; rfl) (hs1 : ∀ env x, foldedSetIterable iter1 env x = pure x := by intro _ _; rfl) :
    PE X (.ListComp elt [⟨tg, iter, ifs, 0⟩, ⟨tg1, iter1, ifs1, 0⟩] scope pos) (tE T (xLc2 n n1 wi g t w1 g1 t1 x (own.map (·.2)) vs1)) := (pe_lc2 hc hN hi ok hv hg ht hi1 hg1 ht1 he hs hs1).weak fun _ _ _ h => weak_lc2 h
end

/-! ### ints -/
def gI (f : Int → Int → D) : G2 := fun x y c => match x, y with
  | .int i, .int j => some (f i j, c)
  | _, _ => none
theorem gI_ok {f : Int → Int → D} {x y d : D} {c c' : Cs} (h : gI f x y c = some (d, c')) : ∃ i j, x = .int i ∧ y = .int j ∧ d = f i j ∧ c' = c := by
  cases x with
  | int i => cases y with
    | int j => cases h; exact ⟨i, j, rfl, rfl, rfl, rfl⟩
    | _ => cases h
  | _ => cases h
/-- a factor below 2^60 -/
def okF (i : Int) : Bool := match i with
  | .ofNat n => Nat.ble n 1152921504606846976
  | .negSucc n => Nat.ble n 1152921504606846976
theorem okF_b {i : Int} (h : okF i = true) : -(2 ^ 64) < i ∧ i < 2 ^ 64 := by
  cases i with
  | ofNat n =>
    have := Nat.le_of_ble_eq_true (show Nat.ble n 1152921504606846976 = true from h)
    show -(2 ^ 64) < ((n : Nat) : Int) ∧ ((n : Nat) : Int) < 2 ^ 64
    omega
  | negSucc n =>
    have := Nat.le_of_ble_eq_true (show Nat.ble n 1152921504606846976 = true from h)
    rw [Int.negSucc_eq]
    omega
def gMul : G2 := fun x y c => match x, y with
  | .int i, .int j => (match okF i with
    | true => some (.int (i * j), c)
    | false => none)
  | _, _ => none
/-- a positive divisor -/
def posI (i : Int) : Bool := match i with
  | .ofNat n => Nat.blt 0 n && Nat.blt n 1000000000
  | .negSucc _ => false
theorem posI_b {i : Int} (h : posI i = true) : 0 < i ∧ i < 1073741824 := by
  cases i with
  | ofNat n =>
    obtain ⟨h1, h2⟩ := Bool.and_eq_true_iff.mp (show (Nat.blt 0 n && Nat.blt n 1000000000) = true from h)
    have h1 : 0 < n := Nat.le_of_ble_eq_true h1
    have h2 : n < 1000000000 := Nat.le_of_ble_eq_true h2
    show 0 < ((n : Nat) : Int) ∧ ((n : Nat) : Int) < 1073741824
    omega
  | negSucc n => cases h
def gDiv : G2 := fun x y c => match x, y with
  | .int i, .int j => (match posI j with
    | true => some (.int (i / j), c)
    | false => none)
  | _, _ => none
def gMod : G2 := fun x y c => match x, y with
  | .int i, .int j => (match posI j with
    | true => some (.int (i % j), c)
    | false => none)
  | _, _ => none
theorem snd_sub : Snd2 (rI0 fun i j => .int (i - j)) (gI fun i j => .int (i - j)) := by
  intro T W cs H x y dx dy d cs' Q R r1 r2 e k
  obtain ⟨i, j, rfl, rfl, rfl, rfl⟩ := gI_ok e
  obtain rfl := rep_int r1
  obtain rfl := rep_int r2
  exact ⟨i, j, rfl, rfl, k W _ H (Le.refl W) R .int⟩
theorem snd_cmp {p : Int → Int → Bool} : Snd2 (rI0 fun i j => .bl (p i j)) (gI fun i j => .bl (p i j)) := by
  intro T W cs H x y dx dy d cs' Q R r1 r2 e k
  obtain ⟨i, j, rfl, rfl, rfl, rfl⟩ := gI_ok e
  obtain rfl := rep_int r1
  obtain rfl := rep_int r2
  exact ⟨i, j, rfl, rfl, k W _ H (Le.refl W) R .bl⟩
theorem snd_mul : Snd2 (rI CMul fun i j => .int (i * j)) gMul := by
  intro T W cs H x y dx dy d cs' Q R r1 r2 e k
  cases dx with
  | int i => cases dy with
    | int j =>
      have e : (match okF i with
        | true => some (D.int (i * j), cs)
        | false => none) = some (d, cs') := e
      cases q : okF i with
      | false => rw [q] at e; cases e
      | true =>
        rw [q] at e
        cases e
        obtain rfl := rep_int r1
        obtain rfl := rep_int r2
        exact ⟨i, j, rfl, rfl, .inl (okF_b q), k W _ H (Le.refl W) R .int⟩
    | _ => cases e
  | _ => cases e
theorem snd_div : Snd2 (rI CDiv fun i j => .int (i / j)) gDiv := by
  intro T W cs H x y dx dy d cs' Q R r1 r2 e k
  cases dx with
  | int i => cases dy with
    | int j =>
      have e : (match posI j with
        | true => some (D.int (i / j), cs)
        | false => none) = some (d, cs') := e
      cases q : posI j with
      | false => rw [q] at e; cases e
      | true =>
        rw [q] at e
        cases e
        obtain rfl := rep_int r1
        obtain rfl := rep_int r2
        exact ⟨i, j, rfl, rfl, posI_b q, k W _ H (Le.refl W) R .int⟩
    | _ => cases e
  | _ => cases e
theorem snd_mod : Snd2 (rI (fun _ j => 0 < j) fun i j => .int (i % j)) gMod := by
  intro T W cs H x y dx dy d cs' Q R r1 r2 e k
  cases dx with
  | int i => cases dy with
    | int j =>
      have e : (match posI j with
        | true => some (D.int (i % j), cs)
        | false => none) = some (d, cs') := e
      cases q : posI j with
      | false => rw [q] at e; cases e
      | true =>
        rw [q] at e
        cases e
        obtain rfl := rep_int r1
        obtain rfl := rep_int r2
        exact ⟨i, j, rfl, rfl, (posI_b q).1, k W _ H (Le.refl W) R .int⟩
    | _ => cases e
  | _ => cases e
def gNeg : G1 := fun x c => match x with
  | .int i => some (.int (-i), c)
  | _ => none
theorem snd_neg : Snd1 (rU fun i => .int (-i)) gNeg := by
  intro T W cs H x dx d cs' Q R r1 e k
  cases dx with
  | int i =>
    cases e
    obtain rfl := rep_int r1
    exact ⟨i, rfl, k W _ H (Le.refl W) R .int⟩
  | _ => cases e
theorem seqD_tup {c : Cs} {d : D} {xs : List D} (h : seqD c d = some (true, xs)) : d = .tup xs ∨ d = .ftup xs := by
  cases d with
  | tup zs => cases h; exact .inl rfl
  | ftup zs => cases h; exact .inr rfl
  | ref kk =>
    have h : (match nth c kk with
      | some (.lst xs) => some (false, xs)
      | some (.fz xs) => some (false, xs)
      | _ => none) = some (true, xs) := h
    cases qq : nth c kk with
    | none => rw [qq] at h; cases h
    | some cl => rw [qq] at h; cases cl <;> cases h
  | _ => cases h
/-! ### + -/
def gAdd : G2 := fun x y c => match x with
  | .int i => (match y with
    | .int j => some (.int (i + j), c)
    | _ => none)
  | x => (match seqD c x with
    | some (b, xs) => (match seqD c y with
      | some (b2, ys) => (match b && b2 with
        | true => (match Nat.ble (xs.length + ys.length) 4096 with
          | true => some (.tup (xs ++ ys), c)
          | false => none)
        | false => (match b || b2 with
          | true => none
          | false => (match Nat.ble (xs.length + ys.length) 4096 with
            | true => some (.ref c.length, c ++ [.lst (xs ++ ys)])
            | false => none)))
      | none => none)
    | none => none)
def rAddA (K : PySem.W.Frag) : R2 := fun x y H Q => (rI0 (fun i j => .int (i + j)) x y H Q ∨ rCat x y H Q) ∨ rCatA K x y H Q
theorem op_addA {X : Cx} : OpR X (binaryOp .Add) (rAddA X.K) := OpR.or (OpR.or op_add op_cat) op_catA
theorem snd_add {K : PySem.W.Frag} : Snd2 (rAddA K) gAdd := by
  intro T W cs H x y dx dy d cs' Q R r1 r2 e k
  have seqcase : (match seqD cs dx with
      | some (b, xs) => (match seqD cs dy with
        | some (b2, ys) => (match b && b2 with
          | true => (match Nat.ble (xs.length + ys.length) 4096 with
            | true => some (D.tup (xs ++ ys), cs)
            | false => none)
          | false => (match b || b2 with
            | true => none
            | false => (match Nat.ble (xs.length + ys.length) 4096 with
              | true => some (.ref cs.length, cs ++ [.lst (xs ++ ys)])
              | false => none)))
        | none => none)
      | none => none) = some (d, cs') → rAddA K x y H Q := by
    intro e
    cases q1 : seqD cs dx with
    | none => rw [q1] at e; cases e
    | some p1 =>
      obtain ⟨b, xs⟩ := p1
      rw [q1] at e
      cases q2 : seqD cs dy with
      | none => rw [q2] at e; cases e
      | some p2 =>
        obtain ⟨b2, ys⟩ := p2
        rw [q2] at e
        obtain ⟨a, vs, rfl, e1, l1⟩ := R.seq r1 q1
        obtain ⟨a2, ws, rfl, e2, l2⟩ := R.seq r2 q2
        have hz : ∀ {α : Type} {z w : α}, (match Nat.ble (xs.length + ys.length) 4096 with
          | true => some z
          | false => none) = some w → vs.length + ws.length ≤ sizeLine ∧ z = w := by
          intro α z w e
          cases q : Nat.ble (xs.length + ys.length) 4096 with
          | false => rw [q] at e; cases e
          | true =>
            rw [q] at e
            exact ⟨by rw [l1.length, l2.length]; exact line4096 q, Option.some.inj e⟩
        cases b with
        | true =>
          cases b2 with
          | true =>
            obtain ⟨z, ez⟩ := hz e
            cases ez
            have r1 : RepW W (.ref a) (.tup xs) := by
              rcases seqD_tup q1 with rfl | rfl
              · exact r1
              · exact r1.tupOf
            have r2 : RepW W (.ref a2) (.tup ys) := by
              rcases seqD_tup q2 with rfl | rfl
              · exact r2
              · exact r2.tupOf
            refine .inr ⟨a, a2, vs, ws, rfl, rfl, seqO_t e1, seqO_t e2, z, fun h => ?_, fun h1 h2 => ?_, fun _ _ p hp => ?_⟩
            · subst h
              cases l1
              exact k W _ H (Le.refl W) R r2
            · subst h2
              cases l2
              rw [List.append_nil] at k
              exact k W _ H (Le.refl W) R r1
            · obtain ⟨W2, le, R2, p2⟩ := R.newTup hp (l1.append l2)
              exact k W2 _ _ le R2 p2
          | false => cases e
        | false =>
          cases b2 with
          | true => cases e
          | false =>
            obtain ⟨z, ez⟩ := hz e
            cases ez
            refine .inl (.inr ⟨a, a2, vs, ws, rfl, rfl, e1, e2, z, fun p hp => ?_⟩)
            obtain ⟨W2, le, R2, p2⟩ := R.newLst hp (l1.append l2)
            exact k W2 _ _ le R2 p2
  cases dx with
  | int i => cases dy with
    | int j =>
      cases e
      obtain rfl := rep_int r1
      obtain rfl := rep_int r2
      exact .inl (.inl ⟨i, j, rfl, rfl, k W _ H (Le.refl W) R .int⟩)
    | _ => cases e
  | tup xs => exact seqcase e
  | ftup xs => exact seqcase e
  | lst xs => exact seqcase e
  | ref k => exact seqcase e
  | non => cases e
  | bl b => cases e
  | str b => cases e
  | ty b => cases e
end XL
end
section
set_option maxRecDepth 100000
/-! XR1: sorted of a tuple; sorted by key=len. -/
namespace XL
open PySem PySem.Spec PyProof.Rows L2

/-- a list or a tuple, by its object -/
def SeqOb (h : Heap) (a : Addr) (T : String) (vs : List Value) : Prop := (T = "list" ∨ T = "tuple") ∧ ∃ ob, h.get? a = some ob ∧ ob.cls = .type T ∧ ∃ m, ob.data = .seq vs.toArray m
section
variable {prog : Program} {w : World} {A : Around} {E : Value → Shared → Prop} {s : Shared} {src : Addr} {T : String} {vs : List Value}
/-- collect of a list or a tuple -/
theorem collectSeq {Q : List Value → Shared → Prop} (hl : SeqOb s.heap src T vs) (hz : vs.length ≤ sizeLine)
    (h : Q vs { s with heap := (s.heap.push (seqObj "list" #[] 0)).update s.heap.objs.size (Obj.mapSeq (· ++ vs.toArray)) }) : wpAny (model prog w) A (collect (.ref src)) Q E s := by
  obtain ⟨hT, ob, hg, hc, m, hdat⟩ := hl
  have hnew : ∀ {g : Heap}, (g.push (seqObj "list" #[] 0)).get? g.objs.size = some (seqObj "list" #[] 0) := fun {g} => Heap.get?_push_size _ rfl
  have hg' : (s.heap.push (seqObj "list" #[] 0)).get? src = some ob := Heap.get?_push_of_some _ hg
  unfold collect
  refine wpAny_bind (wpAny_runValue (codeAny_builtin entry_proto_collect' ?_))
  show wpAny _ _ (do again (.builtin "list.__iadd__" ⟨[← newList [], .ref src], []⟩)) _ _ s
  refine wpAny_bind (wpAny_newList (wpAny_pure ⟨Code.quiet_builtin _ (by decide +kernel), codeAny_builtin entry_list_iadd' ?_⟩))
  show wpAny _ _ (Builtin.List.listExtendWith (.ref s.heap.objs.size) (.ref src) (.ref s.heap.objs.size)) _ _ { s with heap := s.heap.push (seqObj "list" #[] 0) }
  unfold Builtin.List.listExtendWith
  refine wpAny_bind (wpAny_typeOf (T := T) ⟨ob, hg', hc⟩ ?_)
  rw [if_pos (by rcases hT with rfl | rfl <;> simp [show (Value.type "list" == Value.type "list") = true from rfl, show (Value.type "tuple" == Value.type "tuple") = true from rfl])]
  refine wpAny_bind (listItems_at hg' hdat (wpAny_bind (listItems_at (xs := #[]) (n := 0) hnew rfl ?_)))
  rw [if_neg (by simp)]
  refine wpAny_bind (listUpdate_at (xs := #[]) (n := 0) hnew rfl (wpAny_pure ?_) (Nat.zero_le _) ?_)
  · show wpAny (model prog w) A (do
        let ob ← load s.heap.objs.size
        match ob.data with
        | .seq xs _ => pure xs.toList
        | _ => unsupported "internal:collect") Q E { s with heap := (s.heap.push (seqObj "list" #[] 0)).update s.heap.objs.size (Obj.mapSeq (· ++ vs.toArray)) }
    refine wpAny_bind (wpAny_load (get?_update_seq hnew _) ?_)
    show wpAny _ _ (pure ((#[] : Array Value) ++ vs.toArray).toList) Q E _
    have e : ((#[] : Array Value) ++ vs.toArray).toList = vs := by simp
    rw [e]
    exact wpAny_pure h
  · show (#[] ++ vs.toArray).size ≤ sizeLine + 1
    simp only [Array.size_append, List.size_toArray, List.length_nil]
    omega
/-- sorted(xs, ..) of either is list.sort(..) on a new list -/
theorem sortedSeq {kw : List (Str × Value)} {Q : Value → Shared → Prop} (hl : SeqOb s.heap src T vs) (hz : vs.length ≤ sizeLine) (ha1 : argsOk "sorted" ⟨[.ref src], kw⟩) (ha2 : ∀ x, argsOk "list.sort" ⟨[.ref x], kw⟩)
    (body : ∀ E' : Value → Shared → Prop, wpAny (model prog w) A.in1.in1 (Builtin.«list.sort» ⟨[.ref (s.heap.objs.size + 1)], kw⟩) (fun f s' => f = .done (.ret .none) ∧ Q (.ref (s.heap.objs.size + 1)) s') E' { s with heap := PySem.W.copyHeap s.heap vs }) :
    wpAny (model prog w) A (call (.builtin "sorted") [.ref src] kw) Q E s := by
  refine PyProof.Rows.call_function_entry_kw kind_sorted plain_sorted entry_sorted ha1 ?_
  unfold Builtin.«sorted»
  refine wpAny_bind (m := checkCount "sorted" 1 1 _) (wpAny_pure (wpAny_bind (collectSeq hl hz (wpAny_bind (wpAny_newList ?_ hz)))))
  have e : ((s.heap.push (seqObj "list" #[] 0)).update s.heap.objs.size (Obj.mapSeq (· ++ vs.toArray))).objs.size = s.heap.objs.size + 1 := by rw [Heap.size_update, size_push']
  show wpAny _ _ _ _ _ { s with heap := PySem.W.copyHeap s.heap vs }
  rw [e]
  refine wpAny_bind (wpAny_holding (wpAny_call_entry_kw slot_list_sort ⟨_, PySem.W.copyHeap_at s.heap vs, rfl⟩ entry_list_sort (wpAny_mono (body _) (fun f s' hf => ?_) fun _ _ e => e) (ha2 _)))
  obtain ⟨rfl, hq⟩ := hf
  exact ⟨_, rfl, wpAny_pure ⟨_, rfl, hq⟩⟩
end
section
variable {X : Cx}
theorem seqOb_l {pins : List (Addr × Obj)} {σ : L2.St} {H : Hp} {s : Shared} {a : Addr} {xs : List V} (I : Inv X pins σ H s) (h : SqL X.K H a xs) : ∃ its : List Value, Vals xs its ∧ SeqOb s.heap a "list" its ∧ its.length ≤ sizeLine := by
  obtain ⟨its, rv, hl, z⟩ := I.list h
  refine ⟨its, rv, ⟨.inl rfl, ?_⟩, by rw [← rv.length]; exact z⟩
  obtain ⟨ob, m, e1, e2, _, e3⟩ := hl
  exact ⟨ob, e1, e2, m, e3⟩
theorem seqOb_t {pins : List (Addr × Obj)} {σ : L2.St} {H : Hp} {s : Shared} {a : Addr} {xs : List V} (I : Inv X pins σ H s) (h : SqT X.K H a xs) : ∃ its : List Value, Vals xs its ∧ SeqOb s.heap a "tuple" its ∧ its.length ≤ sizeLine := by
  obtain ⟨its, rv, hl, z⟩ := I.tuple h
  refine ⟨its, rv, ⟨.inr rfl, ?_⟩, by rw [← rv.length]; exact z⟩
  obtain ⟨ob, e1, e2, m, e3⟩ := hl
  exact ⟨ob, e1, e2, m, e3⟩
/-- sorted of ints, a list or a tuple -/
def rSortQ (K : PySem.W.Frag) : List V → Hp → VK → Prop := fun vs H Q => ∃ (a : Addr) (ns : List Int), vs = [V.ref a] ∧ (SqL K H a (ns.map V.int) ∨ SqT K H a (ns.map V.int)) ∧
  ∀ (ns' : List Int) (p : Addr), ns'.Perm ns → ns'.Pairwise (· ≤ ·) → H p = none → Q (.ref p) (upd H p (.lst (ns'.map V.int)))
theorem cr_sortQ : CallR X (.builtin "sorted") (rSortQ X.K) := by
  intro pins s σ H vs us Q I r h
  obtain ⟨a, ns, rfl, hs, q⟩ := h
  obtain ⟨T, its, rv, hl, hz⟩ : ∃ T its, Vals (ns.map V.int) its ∧ SeqOb s.heap a T its ∧ its.length ≤ sizeLine := by
    rcases hs with hs | hs
    · exact ⟨_, seqOb_l I hs⟩
    · exact ⟨_, seqOb_t I hs⟩
  rw [Vals.ref1 r]
  have hi := rv.ints
  refine sortedSeq hl hz (args_sorted1 _) (fun _ => args_list_sort _) fun E' => list_sort_treeAny (s := { s with heap := PySem.W.copyHeap s.heap its }) (PySem.W.copyHeap_at s.heap its) hi hz fun out ns' h1 h2 h3 => ⟨rfl, ?_⟩
  obtain ⟨ep, he'⟩ := PyProof.Rows.sortedAll_at s.heap its out
  have hlen : (ns'.map V.int).length ≤ sizeLine := by
    rw [List.length_map, h2.length_eq, ← hi.length]
    exact hz
  exact ⟨.ref _, upd H (s.heap.objs.size + 1) (.lst (ns'.map V.int)), I.laid (t' := s.toks) (fun _ _ => PyProof.Rows.sortedAll_old) (Nat.le_succ _) ⟨hlen, out.toList, ep, vals_of_ints h1, he'⟩, rfl, q ns' _ h2 h3 (I.hok.fresh (Nat.le_succ _))⟩
end

/-! ### sorted(xs, key=len), tuples in a tuple or a list -/
open PySem.W (EachIs dataLe KeyPure AllAlike Sortable sorted_key_data keyH_tree keyH_turns)
section
variable {prog : Program} {w : World} {A : Around} {E : Value → Shared → Prop} {s : Shared} {src : Addr} {T : String} {β : Type} {vs : List Value} {bs : List β} {R : Value → β → Prop}
theorem sortedSeqKey {f : Value} {kw : List (Str × Value)} {b : Bool} {Q : Value → Shared → Prop} (k : β → PyData) (hl : SeqOb s.heap src T vs) (e : EachIs R vs bs) (hal : AllAlike (bs.map k)) (hk : Sortable (bs.map k)) (hL : bs.length ≤ sizeLine)
    (hu : ∀ x, x ∈ bs → A.units + 2 + (k x).depth < cLine) (ha1 : argsOk "sorted" ⟨[.ref src], kw⟩) (ha2 : ∀ x, argsOk "list.sort" ⟨[.ref x], kw⟩) (ht : ∀ x, Builtin.«list.sort» ⟨[.ref x], kw⟩ = ksk_tree x f b)
    (turn : ∀ (v : Value) (x : β), R v x → x ∈ bs → ∀ (h : Heap) (tk : Nat), (∀ b o, s.heap.get? b = some o → h.get? b = some o) → wpAny (model prog w) A.in1.in1 (call f [v]) (KeyPure (k x) { s with heap := h, toks := tk }) (fun _ _ => False) { s with heap := h, toks := tk })
    (done : ∀ out c h' tk, (∀ b o, s.heap.get? b = some o → h'.get? b = some o) → s.heap.get? (s.heap.objs.size + 1) = none → h'.get? (s.heap.objs.size + 1) = some (seqObj "list" (List.toArray out) c) → out.length = bs.length → EachIs R out (bs.mergeSort (dataLe b k)) →
      Q (.ref (s.heap.objs.size + 1)) { s with heap := h', toks := tk }) : wpAny (model prog w) A (call (.builtin "sorted") [.ref src] kw) Q E s := by
  have up : ∀ {g : Heap}, PySem.W.KeepsBut (s.heap.objs.size + 1) (PySem.W.copyHeap s.heap vs) g → ∀ b o, s.heap.get? b = some o → g.get? b = some o := fun {g} kp b o q =>
    kp b o (Nat.ne_of_lt (Nat.lt_trans (Heap.lt_size q) (Nat.lt_succ_self _))) (PySem.W.copyHeap_old q)
  have z : vs.length ≤ sizeLine := Nat.le_trans (Nat.le_of_eq e.length) hL
  have el : (bs.map k).length = vs.length := by rw [List.length_map, e.length]
  refine sortedSeq hl z ha1 ha2 fun E' => ?_
  rw [ht]
  refine keyH_tree (kz := bs.map k) (s := { s with heap := PySem.W.copyHeap s.heap vs }) (PySem.W.copyHeap_at s.heap vs) el z hal hk (PySem.W.bound_map (A := A.in1.in1) hu)
    (keyH_turns (s := { s with heap := PySem.W.copyHeap s.heap vs }) e fun v x hR hx h tk kp => turn v x hR hx h tk (up kp)) fun h' tk out c kp hD ko => ⟨rfl, ?_⟩
  exact done out c h' tk (up kp) (Heap.get?_none_of_le (Nat.le_succ _)) hD ((ko.length el).trans e.length) (PySem.W.keyedOut_each k ko e)
end
theorem each_vals : ∀ {xs : List V} {us : List Value}, Vals xs us → EachIs (fun u x => RelV x u) us xs
  | _, _, .nil => .nil
  | _, _, .cons r t => .cons r (each_vals t)
theorem vals_each : ∀ {xs : List V} {us : List Value}, EachIs (fun u x => RelV x u) us xs → Vals xs us
  | _, _, .nil => .nil
  | _, _, .cons r t => .cons r (vals_each t)
/-- stable, by a key of ints -/
def leK {α : Type} (k : α → Int) (a b : α) : Bool := decide (k a ≤ k b)
theorem dataLe_int {β : Type} (k : β → Int) : dataLe false (fun x => PyData.int (k x)) = leK k := by
  funext a b
  show (!(PyProof.Rows.lexLt PyProof.Rows.itemOrd [Sum.inl (k b)] [Sum.inl (k a)])) = _
  show (!(decide (k b < k a) || (!decide (k a < k b) && false))) = decide (k a ≤ k b)
  rw [Bool.and_false, Bool.or_false]
  by_cases h : k b < k a
  · rw [decide_eq_true h, decide_eq_false (by omega)]
    rfl
  · rw [decide_eq_false h, decide_eq_true (by omega)]
    rfl
/-- by the lengths -/
def rSortLen (K : PySem.W.Frag) : V → Hp → VK → Prop := fun v H Q => ∃ (a : Addr) (xs : List V) (n : V → Nat), v = .ref a ∧ (SqL K H a xs ∨ SqT K H a xs) ∧ (∀ x ∈ xs, ∃ t ys, x = V.ref t ∧ SqT K H t ys ∧ n x = ys.length) ∧
  ∀ p, H p = none → Q (.ref p) (upd H p (.lst (xs.mergeSort (leK fun x => (n x : Int)))))
theorem reads_int {h : Heap} {i : Int} {t : Tok} : Reads h (.int i t) (.int i) [] := Reads.int i t
section
variable {X : Cx} {e : Expr} {te : TE} {p q kp pos : Pos}
theorem sortLen_run (hu : X.A.units + 64 < cLine) {pins : List (Addr × Obj)} {s : Shared} {σ : L2.St} {H : Hp} {Q : VK} {v : V} {u : Value} (I : Inv X pins σ H s) (ru : RelV v u) (h : rSortLen X.K v H Q) :
    wpAny (model X.prog X.w) X.A (call (.builtin "sorted") [u] [(Str.ofString "key", .builtin "len")]) (EP X pins σ Q) X.xe s := by
  obtain ⟨a, xs, n, rfl, hs, hx, q⟩ := h
  cases ru
  obtain ⟨T, its, rv, hl, hz⟩ : ∃ T its, Vals xs its ∧ SeqOb s.heap a T its ∧ its.length ≤ sizeLine := by
    rcases hs with hs | hs
    · exact ⟨_, seqOb_l I hs⟩
    · exact ⟨_, seqOb_t I hs⟩
  have hxz : xs.length ≤ sizeLine := Nat.le_trans (Nat.le_of_eq rv.length) hz
  have l63 := line63
  refine sortedSeqKey (bs := xs) (b := false) (f := .builtin "len") (fun x => .int (n x)) hl (each_vals rv) ?_ (.inr ?_) hxz (fun x _ => ?_) (ksk_s1 _ _) (fun _ => ksk_l1 _ _) (fun x => ksk_t4 "len" x) (fun u x hr hm h tk kp => ?_) fun out c h' tk keep fr ho hlen he => ?_
  · intro d hd d' hd'
    obtain ⟨x, _, rfl⟩ := List.mem_map.mp hd
    obtain ⟨y, _, rfl⟩ := List.mem_map.mp hd'
    rfl
  · intro d hd
    obtain ⟨x, _, rfl⟩ := List.mem_map.mp hd
    exact ⟨fun z => (nomatch z), fun _ z => (nomatch z)⟩
  · simp only [PyData.depth]
    omega
  · obtain ⟨t, ys, rfl, ht, hn⟩ := hx x hm
    cases hr
    obtain ⟨is, ri, pt, hz2⟩ := I.tuple ht
    have hsz : (is.toArray.size : Int) < 2 ^ 63 := by
      rw [List.size_toArray, ← ri.length]
      omega
    refine len_tuple (s := { s with heap := h, toks := tk }) (pt.keeps kp) hsz ⟨h, _, rfl, fun _ _ z => z, ?_⟩
    dsimp only
    rw [hn, List.size_toArray, ← ri.length]
    exact Reads.int _ _
  · have lxs : (xs.mergeSort (leK fun x => (n x : Int))).length = xs.length := List.length_mergeSort xs
    rw [dataLe_int fun x => (n x : Int)] at he
    refine ⟨.ref _, upd H (s.heap.objs.size + 1) (.lst (xs.mergeSort (leK fun x => (n x : Int)))), I.laid (t' := tk) keep (Nat.le_succ _) ⟨by rw [lxs]; exact hxz, out, c, vals_each he, ho⟩, rfl, q _ (I.hok.fresh (Nat.le_succ _))⟩

def rSortLen1 (K : PySem.W.Frag) : List V → Hp → VK → Prop := fun vs H Q => ∃ v, vs = [v] ∧ rSortLen K v H Q
theorem pe_sortLen {t : TA} (hu : X.A.units + 64 < cLine) (hg : Gl X "sorted") (hm : X.mg "sorted" = none) (hg2 : Gl X "len") (hm2 : X.mg "len" = none) (ha : PA X [e] t)
    (he : backTo pos (starEach [e] X.env) = (false, eval e X.env) :: backTo pos (starEach [] X.env) := by rfl) (hpl : (backTo pos (starEach [e] X.env)).any (·.1) = false := by rfl) :
    PE X (.Call (.Name "sorted" p) [e] [⟨some "key", .Name "len" q, kp⟩] pos) (tCB (rSortLen1 X.K) t) := by
  refine ⟨fun pins s σ H Q I h => ?_⟩
  refine wpAny_Call_Name_kw (ld_blt I hg hm rfl ?_)
  refine PyProof.Rows.callWith_kw (thn (ha.run pos pins s σ H _ I h) fun us s1 ⟨vs, H1, I1, r1, v, ev, q1⟩ => ?_) he hpl rfl rfl
  subst ev
  obtain ⟨u, rfl, ru⟩ := vals1 r1
  show wpAny _ _ (evalAll [(do let v ← eval (.Name "len" q) X.env; standAt pos; pure v)]) _ _ s1
  refine wpAny_evalAll_cons (wpAny_bind (ld_blt I1 hg2 hm2 rfl (wpAny_bind (wpAny_standAt (wpAny_pure (wpAny_evalAll_nil ?_))))))
  exact sortLen_run hu I1 ru q1
end
end XL
end
section
set_option maxRecDepth 100000
/-! XR2: t.count(x), sum(t), zip of a tuple and a list, a walk over a new dict, dict(zip(xs, ys)). -/
namespace XL
open PySem PySem.Spec PyProof.Rows L2

section
variable {X : Cx}
/-! ### t.count(k), ints; the tuple's object is known -/
def rCount : V → List V → Hp → VK → Prop := fun x us H Q => ∃ (p : Addr) (k : Int) (ns : List Int), x = .ref p ∧ us = [.int k] ∧ FTup H p (ns.map V.int) ∧ Q (.int ((ns.countP fun n => n == k : Nat) : Int)) H
theorem count_eqU {k : Int} : ∀ {ns : List Int} {us : List Value}, Vals (ns.map V.int) us → us.countP (eqU (.int k)) = ns.countP fun n => n == k
  | [], _, .nil => rfl
  | n :: ns, u :: us, .cons r t => by
    obtain ⟨t', rfl⟩ := r
    rw [List.countP_cons, List.countP_cons, count_eqU t]
    rfl
theorem mt_tcount : MtR X "tuple.count" rCount := by
  intro pins s σ H x xs v us Q I rx rs h
  obtain ⟨p, k, ns, rfl, rfl, ⟨ob, hd, hH⟩, q⟩ := h
  cases rx
  obtain ⟨u, rfl, t, rfl⟩ := vals1 rs
  obtain ⟨its, r, pl, hz⟩ := I.tuple (a := p) (atup_t (K := X.K) (.inr ⟨ob, hd, hH⟩))
  obtain ⟨⟨cls, dd, dt, sl⟩, ho, hc, n, hdt⟩ := pl
  simp only at hc hdt
  subst hc hdt
  refine call_meets PySem.F.slot_tuple_count ⟨_, ho, rfl⟩ PySem.F.entry_tuple_count (PySem.F.args_tuple_count_2 _ _) (PySem.SeqAt.tuple_countAt p its.toArray n dd sl (.int k t) (eqU (.int k)))
    ⟨ho, fun w hw => mem_eqAt (x := .int k) ⟨t, rfl⟩ rfl r (by simp [flatV]) w (by simpa using hw), ?_⟩
  have ec : its.toArray.toList.countP (eqU (.int k)) = ns.countP fun n => n == k := count_eqU r
  rw [ec]
  exact ⟨.int _, H, I.tok _, ⟨_, rfl⟩, q⟩
variable {o e : Expr} {es : List Expr} {to : TE} {t : TA} {apos cpos : Pos}
def tCount (to : TE) (t : TA) : TE := fun σ H Q => to σ H fun x H1 => (∃ p vs, x = V.ref p ∧ FTup H1 p vs) ∧ t σ H1 fun us H2 => rCount x us H2 Q
theorem pe_tcount (ho : PE X o to) (ha : PA X (e :: es) t) (hbase : attributeBase o "count" X.env (eval o X.env) = eval o X.env := by rfl)
    (hfew : ((backTo cpos (starEach (e :: es) X.env)).all (fun x => !x.1) && (backToKw cpos (keywordEach [] X.env)).all (fun x => x.1.isSome) && decide ((e :: es).length + ([] : List Keyword).length + (if ([] : List Keyword).isEmpty then 0 else 1) < 30)) = true := by rfl)
    (hline : (apos.endLine == cpos.line) = true := by rfl) (hs : starEach (e :: es) X.env = (false, eval e X.env) :: starEach es X.env := by rfl) (hplain : (backTo cpos (starEach es X.env)).any (·.1) = false := by rfl) :
    PE X (.Call (.Attribute o "count" apos) (e :: es) [] cpos) (tCount to t) := by
  refine ⟨fun pins s σ H Q I h => ?_⟩
  refine wpAny_Call_method_late hbase hfew hline rfl (thn (ho.run pins s σ H _ I h) fun v s1 ⟨x, H1, I1, r1, ty, q1⟩ => ?_)
  obtain ⟨p, vs, rfl, ob, hd, hH⟩ := ty
  cases r1
  obtain ⟨g, _, its, _, ob2, g2, hc, _⟩ := I1.hok p _ hH
  refine ⟨"tuple", "tuple.count", PySem.F.plainAttrs_tuple, PySem.F.slot_tuple_count, rfl, ⟨ob2, g2, hc⟩, fun a e => ?_, ?_⟩
  · cases e
    exact ⟨ob, g, hd⟩
  · have hA := ha.run cpos pins s1 σ H1 _ I1 q1
    rw [hs] at hA ⊢
    refine Calls.callWith_builtin (by show (false || (backTo cpos (starEach es X.env)).any (·.1)) = false; rw [hplain] <;> rfl) (Calls.evalArgs_plain (thn hA fun us s2 ⟨ws, H2, I2, r2, q2⟩ => mt_tcount pins s2 σ H2 (.ref p) ws _ us Q I2 rfl r2 q2))

/-! ### sum of a tuple of ints -/
def rSumT (K : PySem.W.Frag) : List V → Hp → VK → Prop := fun vs H Q => ∃ (a : Addr) (ns : List Int), vs = [V.ref a] ∧ SqT K H a (ns.map V.int) ∧ Q (.int ns.sum) H
theorem cr_sumT (hc : X.calm = true) : CallR X (.builtin "sum") (rSumT X.K) := by
  intro pins s σ H vs us Q I r h
  obtain ⟨a, ns, rfl, hs, q⟩ := h
  obtain ⟨its, rv, pt, _⟩ := I.tuple hs
  rw [Vals.ref1 r]
  have hi := rv.ints
  obtain ⟨xs, hx⟩ := hi.allInts.items
  have hn : numsOf (intItems xs).toList = ns := by rw [← hx]; exact hi.numsOf
  rw [nums_intItems] at hn
  have pt2 : s.heap.IsTuple a (intItems xs) := by rw [← hx]; exact pt
  refine PySem.W.ktm_sumG (I.ok.hd hc) pt2 fun h' tk t' hk => ⟨.int _, H, I.kept hk, ⟨_, rfl⟩, ?_⟩
  rw [preSum_eq, List.take_of_length_le (Nat.le_of_eq (by simp)), hn]
  exact q

/-! ### a walk over a dict just made -/
def iNewKeys (td : TE) : TI := fun σ H R => td σ H fun x H1 => ∃ d kvs, x = V.ref d ∧ H1 d = some (.dK kvs) ∧ ∀ od, R (Itk d od kvs) (upd H1 d (.frz od (.dK kvs)))
theorem pi_newKeys {tg e : Expr} {td : TE} (he : PE X e td) : PI X tg e (iNewKeys td) := by
  refine ⟨fun pins s σ H R I h => thn (he.run pins s σ H _ I h) fun u s1 ⟨x, H1, I0, rx, d, kvs, ex, hd0, q⟩ => ?_⟩
  subst ex
  obtain rfl : u = Value.ref d := rx
  obtain ⟨od, I1⟩ := I0.lock hd0 trivial
  have hd : upd H1 d (.frz od (.dK kvs)) d = some (.frz od (.dK kvs)) := upd_same
  obtain ⟨hs, hgd, hx, es, ep, vs, hdt, hsz, kv, hm⟩ := I1.frzK hd
  refine iter_keys hs hgd hx hdt (pi_one (tk := s1.toks) I1 _ (turn_keys _ hdt) ⟨_, Heap.get?_push_size _ rfl, rfl, ?_⟩ (q od))
  rw [hsz] <;> rfl
end

/-! ### zip of a tuple and a list -/
def ItzM (K : PySem.W.Frag) (a b : Addr) : It :=
  ⟨fun i H => ∃ (xs ys : List V) (x y : V), SqT K H a xs ∧ SqL K H b ys ∧ xs[i]? = some x ∧ ys[i]? = some y,
    fun i H v H' => ∃ T x y, v = .ref T ∧ H T = none ∧ H' = upd H T (.tup [x, y]) ∧ (∀ xs, SqT K H a xs → xs[i]? = some x) ∧ ∀ ys, SqL K H b ys → ys[i]? = some y,
    fun i H => ∃ xs ys : List V, SqT K H a xs ∧ SqL K H b ys ∧ (xs.length = i ∨ ys.length = i) ∧ i ≤ xs.length ∧ i ≤ ys.length⟩
theorem mem5 {c z TI TO i1 i2 : Addr} (h : c ∈ [z, TI, TO, i1, i2]) : c = z ∨ c = TI ∨ c = TO ∨ c = i1 ∨ c = i2 := by simpa using h
theorem turn_zipM {P : Program} {w : World} {K : PySem.W.Frag} {elts : List Expr} {kk : Nat} {tpos : Pos} {a b z TI TO i1 i2 : Addr} (S : PySem.ZipSep2 z TI TO i1 i2 [i1, a] [i2, b]) :
    Turn P w K (.Tuple elts kk tpos) (ItzM K a b) [z, TI, TO, i1, i2] z (fun i h => IsZip h z TI TO .none ∧ IsPair h TI (.ref i1) (.ref i2) ∧ (∃ x y, IsPair h TO x y) ∧ h.IsTupleIter i1 a i ∧ h.IsListIter i2 b i) := by
  have na : a ≠ i1 ∧ b ≠ i2 ∨ True := .inr trivial
  refine ⟨by simp, fun i h st c hc => ?_, fun i h h' st k => ?_, ?_, ?_, fun A i s Q E st h => wpAny_pyIter_zip st.1 h⟩
  · obtain ⟨hz, hTI, ⟨x, y, hTO⟩, ⟨o1, e1, _, d1⟩, ⟨o2, e2, _, d2⟩⟩ := st
    rcases mem5 hc with rfl | rfl | rfl | rfl | rfl
    · exact ⟨_, hz, fun v q => nomatch q⟩
    · exact ⟨_, hTI, fun v q => nomatch q⟩
    · exact ⟨_, hTO, fun v q => nomatch q⟩
    · exact ⟨o1, e1, fun v q => by rw [d1] at q; cases q⟩
    · exact ⟨o2, e2, fun v q => by rw [d2] at q; cases q⟩
  · obtain ⟨hz, hTI, ⟨x, y, hTO⟩, h1, h2⟩ := st
    exact ⟨k z (by simp) _ hz, k TI (by simp) _ hTI, ⟨x, y, k TO (by simp) _ hTO⟩, h1.at fun o q => k i1 (by simp) o q, h2.at fun o q => k i2 (by simp) o q⟩
  · intro X hP hw hK hc i pins s σ H E I hf st hg
    subst hP hw hK
    obtain ⟨hz, hTI, ⟨x0, y0, hTO⟩, h1, h2⟩ := st
    obtain ⟨xs, ys, x, y, hqx, hqy, hx, hy⟩ := hg
    obtain ⟨its, rv, p, _⟩ := I.tuple hqx
    obtain ⟨its2, rv2, p2, _⟩ := I.list hqy
    obtain ⟨u, hu, ru⟩ := rv.get hx
    obtain ⟨u2, hu2, ru2⟩ := rv2.get hy
    have ha1 : a ≠ i1 := fun e => by
      obtain ⟨o1, e1, c1, _⟩ := h1
      obtain ⟨o2, e2, c2, _⟩ := p
      rw [e, e1] at e2
      cases e2
      rw [c1] at c2
      exact absurd c2 (by decide)
    have hb2 : b ≠ i2 := fun e => by
      obtain ⟨o1, e1, c1, _⟩ := h2
      obtain ⟨o2, m, e2, c2, _⟩ := p2
      rw [e, e1] at e2
      cases e2
      rw [c1] at c2
      exact absurd c2 (by decide)
    have hzl : z < s.heap.objs.size := Heap.lt_size hz
    have hd := I.ok.hd hc
    refine PySem.wpAny_pyNext_zipD2_item S (Draws.tuple (by exact hd) i1 a ha1 its.toArray) (Draws.list (by exact hd) i2 b hb2 its2.toArray) hz hTI hTO ⟨h1, p⟩ ⟨h2, p2.isList⟩ (by simpa using (List.getElem?_eq_some_iff.mp hu).1) (by simpa using (List.getElem?_eq_some_iff.mp hu2).1)
      fun x1 x2 h' tk e1 e2 z' TO' st1' st2' hT hsz hk => ?_
    have e1 : x1 = u := by
      have e1 : its[i]? = some x1 := by simpa using e1
      rw [hu] at e1
      exact (Option.some.inj e1).symm
    have e2 : x2 = u2 := by
      have e2 : its2[i]? = some x2 := by simpa using e2
      rw [hu2] at e2
      exact (Option.some.inj e2).symm
    subst e1 e2
    refine ⟨_, rfl, wpAny_letOwnedTupleGo_zip (s := { s with heap := h', toks := tk }) z' fun h'' z'' sb => ?_⟩
    have hT2 : h''.get? s.heap.objs.size = some { cls := .type "tuple", data := .seq #[x1, x2] } := (sb.2 _ (Nat.ne_of_gt hzl)).trans hT
    have new : ObjOk X.prog X.w (upd H s.heap.objs.size (.tup [x, y])) h'' s.heap.objs.size (.tup [x, y]) := ⟨by show 2 ≤ sizeLine; decide, [x1, x2], .cons ru (.cons ru2 .nil), ⟨_, hT2, rfl, _, rfl⟩⟩
    have kept : ∀ c ob, c ∉ [z, TI, TO, i1, i2] → s.heap.get? c = some ob → h''.get? c = some ob := fun c ob hb q => by
      have hb : ¬ (c = z ∨ c = TI ∨ c = TO ∨ c = i1 ∨ c = i2) := by simpa using hb
      exact (sb.2 c (fun q' => hb (.inl q'))).trans (hk c ob (fun q' => hb (.inl q')) (fun q' => hb (.inr (.inr (.inl q')))) (fun q' => hb (.inr (.inr (.inr (.inl q'))))) (fun q' => hb (.inr (.inr (.inr (.inr q'))))) q)
    have I1 : Inv X pins σ (upd H s.heap.objs.size (.tup [x, y])) { s with heap := h'', toks := tk } := I.turnedNew (t' := tk) (ch := [z, TI, TO, i1, i2]) kept hf (Nat.le_refl _) new
    refine ⟨.ref s.heap.objs.size, _, I1, rfl, ⟨_, x, y, rfl, I.hok.fresh (Nat.le_refl _), rfl, fun l hl => by rw [I.tuple_inj hl hqx]; exact hx, fun l hl => by rw [I.list_inj hl hqy]; exact hy⟩, ⟨z'', ?_, ⟨x1, x2, ?_⟩, ?_, ?_⟩, fun c hcm => ?_⟩
    · exact (sb.2 _ S.TIz).trans (hk _ _ S.TIz S.TITO S.TIi1 S.TIi2 hTI)
    · exact (sb.2 _ S.TOz).trans TO'
    · exact st1'.1.at fun o q => (sb.2 _ (fun q' => S.zi1 q'.symm)).trans q
    · exact st2'.1.at fun o q => (sb.2 _ (fun q' => S.zi2 q'.symm)).trans q
    · have hlt : c < s.heap.objs.size := by
        rcases mem5 hcm with rfl | rfl | rfl | rfl | rfl
        · exact hzl
        · exact Heap.lt_size hTI
        · exact Heap.lt_size hTO
        · obtain ⟨_, e1, _⟩ := h1; exact Heap.lt_size e1
        · obtain ⟨_, e2, _⟩ := h2; exact Heap.lt_size e2
      rw [upd_ne (Nat.ne_of_lt hlt)]
      exact (hf c hcm).1
  · intro X hP hw hK hc i pins s σ H E I hf st hg
    subst hP hw hK
    obtain ⟨hz, hTI, ⟨x0, y0, hTO⟩, h1, h2⟩ := st
    obtain ⟨xs, ys, hqx, hqy, hend, hle1, hle2⟩ := hg
    obtain ⟨its, rv, p, _⟩ := I.tuple hqx
    obtain ⟨its2, rv2, p2, _⟩ := I.list hqy
    have ha1 : a ≠ i1 := fun e => by
      obtain ⟨o1, e1, c1, _⟩ := h1
      obtain ⟨o2, e2, c2, _⟩ := p
      rw [e, e1] at e2
      cases e2
      rw [c1] at c2
      exact absurd c2 (by decide)
    have hb2 : b ≠ i2 := fun e => by
      obtain ⟨o1, e1, c1, _⟩ := h2
      obtain ⟨o2, m, e2, c2, _⟩ := p2
      rw [e, e1] at e2
      cases e2
      rw [c1] at c2
      exact absurd c2 (by decide)
    have l1 : xs.length = its.toArray.size := by rw [List.size_toArray]; exact rv.length
    have l2 : ys.length = its2.toArray.size := by rw [List.size_toArray]; exact rv2.length
    have hd := I.ok.hd hc
    refine PySem.wpAny_pyNext_zipD2_end S (Draws.tuple (by exact hd) i1 a ha1 its.toArray) (Draws.list (by exact hd) i2 b hb2 its2.toArray) hz hTI hTO ⟨h1, p⟩ ⟨h2, p2.isList⟩ (by rw [← l1]; exact hle1) (by rw [← l2]; exact hle2) (by rw [← l1, ← l2]; exact hend.imp Eq.symm Eq.symm)
      fun h' tk hk => ⟨rfl, I.turnedL (t' := tk) (ch := [z, TI, TO, i1, i2]) (fun c ob hb q => ?_) hf⟩
    have hb : ¬ (c = z ∨ c = TI ∨ c = TO ∨ c = i1 ∨ c = i2) := by simpa using hb
    exact hk c ob (fun q' => hb (.inl q')) (fun q' => hb (.inr (.inr (.inl q')))) (fun q' => hb (.inr (.inr (.inr (.inl q'))))) (fun q' => hb (.inr (.inr (.inr (.inr q'))))) q
theorem fresh5 {X : Cx} {pins : List (Addr × Obj)} {σ : L2.St} {H : Hp} {s : Shared} (I : Inv X pins σ H s) : ∀ c, c ∈ [s.heap.objs.size + 4, s.heap.objs.size + 2, s.heap.objs.size + 3, s.heap.objs.size, s.heap.objs.size + 1] → FpOk X pins H c := fun c hcm => by
  have hle : s.heap.objs.size ≤ c := by
    rcases mem5 hcm with h | h | h | h | h <;> subst h
    · exact Nat.le_add_right _ _
    · exact Nat.le_add_right _ _
    · exact Nat.le_add_right _ _
    · exact Nat.le_refl _
    · exact Nat.le_add_right _ _
  exact I.fpOk hle (I.hok.fresh hle)
def iZipM (K : PySem.W.Frag) (ta : TA) : TI := fun σ H R => ta σ H fun vs H1 => ∃ a b xs ys, vs = [.ref a, .ref b] ∧ SqT K H1 a xs ∧ SqL K H1 b ys ∧ R (ItzM K a b) H1
theorem pi_zipM {X : Cx} {e e2 : Expr} {ta : TA} {p pos tpos : Pos} {elts : List Expr} {kk : Nat} (hg : Gl X "zip") (hm : X.mg "zip" = none) (ha : PA X [e, e2] ta)
    (hs : starEach [e, e2] X.env = (false, eval e X.env) :: starEach [e2] X.env := by rfl) (hpl : (backTo pos (starEach [e2] X.env)).any (·.1) = false := by rfl) :
    PI X (.Tuple elts kk tpos) (.Call (.Name "zip" p) [e, e2] [] pos) (iZipM X.K ta) := by
  refine ⟨fun pins s σ H R I h => Call_ (ld_blt I hg hm PyProof.Rows.boot_zip (PyProof.Rows.callWith_type1 (thn (ha.run pos pins s σ H _ I h) fun us s1 ⟨vs, H1, I1, r1, q1⟩ => ?_) hs hpl))⟩
  obtain ⟨a, b, xs, ys, rfl, hqx, hqy, q⟩ := q1
  obtain ⟨u1, u2, rfl, ru1, ru2⟩ := vals2 r1
  cases ru1
  cases ru2
  obtain ⟨its, rv, p1, _⟩ := I1.tuple hqx
  obtain ⟨its2, rv2, p2, _⟩ := I1.list hqy
  obtain ⟨o1, g1, _⟩ := id p1
  refine PySem.zip_begins2 (PySem.begins_tuple a its.toArray) (PySem.begins_list b its2.toArray) p1 p2.isList fun h' hz hTI hTO h1 h2 hsz hk => wpAny_pyIter_zip hz ?_
  have I2 : Inv X pins σ H1 { s1 with heap := h' } := I1.kept (t' := s1.toks) hk
  refine ⟨s1.heap.objs.size + 4, [s1.heap.objs.size + 4, s1.heap.objs.size + 2, s1.heap.objs.size + 3, s1.heap.objs.size, s1.heap.objs.size + 1], _, _, H1, rfl, I2, turn_zipM (PySem.zip_sep2 (fp1 := [a]) (fp2 := [b]) (fun c hc => ?_) (fun c hc => ?_)), ⟨hz, hTI, ⟨_, _, hTO⟩, ⟨_, h1, rfl, rfl⟩, ⟨_, h2, rfl, rfl⟩⟩, fresh5 I1, q⟩
  · rw [List.mem_singleton.mp hc]
    exact Heap.lt_size g1
  · rw [List.mem_singleton.mp hc]
    exact p2.lt

/-! ### dict(zip(xs, ys)), keys ints -/
def putAll (acc : List (L2.Key × V)) (ps : List (Int × V)) : List (L2.Key × V) := ps.foldl (fun acc p => putK acc (.inl p.1) p.2) acc
theorem kv_putAll : ∀ (ps : List (Int × V)) (qs : List (L2.Key × Value)) (acc : List (L2.Key × V)) (acc' : List (L2.Key × Value)), KV acc acc' → Paired (fun (p : Int × V) (q : L2.Key × Value) => q.1 = .inl p.1 ∧ RelV p.2 q.2) ps qs → KV (putAll acc ps) (PySem.merged acc' qs)
  | [], _, acc, acc', h, .nil => h
  | p :: ps, q :: qs, acc, acc', h, .cons r t => by
    have e : putAll acc (p :: ps) = putAll (putK acc (.inl p.1) p.2) ps := rfl
    have e' : PySem.merged acc' (q :: qs) = PySem.merged (PySem.stored acc' q.1 q.2) qs := rfl
    rw [e, e', r.1]
    exact kv_putAll ps qs _ _ (h.put _ r.2) t
theorem putAll_length : ∀ (ps : List (Int × V)) (acc : List (L2.Key × V)), (putAll acc ps).length ≤ acc.length + ps.length
  | [], acc => Nat.le_refl _
  | p :: ps, acc => by
    have e : putAll acc (p :: ps) = putAll (putK acc (.inl p.1) p.2) ps := rfl
    have h1 := putAll_length ps (putK acc (.inl p.1) p.2)
    have h2 := length_putK acc (.inl p.1) p.2
    rw [e, List.length_cons]
    omega
/-- the values that the pairs have -/
def keyed : List Int → List Value → List (L2.Key × Value)
  | n :: ns, u :: us => (.inl n, u) :: keyed ns us
  | _, _ => []
theorem keyed_pairs : ∀ {ns : List Int} {ys : List V} {us : List Value}, Vals ys us → Paired (fun (p : Int × V) (q : L2.Key × Value) => q.1 = .inl p.1 ∧ RelV p.2 q.2) (ns.zip ys) (keyed ns us)
  | [], _, _, _ => .nil
  | _ :: _, _, _, .nil => .nil
  | n :: ns, y :: ys, u :: us, .cons r t => .cons ⟨rfl, r⟩ (keyed_pairs t)
theorem keyed_length : ∀ (ns : List Int) (us : List Value), (keyed ns us).length = min ns.length us.length
  | [], us => by simp [keyed]
  | n :: ns, [] => by simp [keyed]
  | n :: ns, u :: us => by
    show (keyed ns us).length + 1 = _
    rw [keyed_length ns us, List.length_cons, List.length_cons]
    omega
theorem keyed_at : ∀ {ns : List Int} {us ks : List Value} {i : Nat} {k v : Value}, IntsAre ks ns → ks[i]? = some k → us[i]? = some v → ∃ n, (keyed ns us)[i]? = some (.inl n, v) ∧ keyIs (.inl n) k = true
  | [], _, _, i, k, v, h, hk, _ => by cases h; simp at hk
  | n :: ns, [], _, i, k, v, h, hk, hv => by simp at hv
  | n :: ns, u :: us, _, 0, k, v, .cons _ t r, hk, hv => by
    have hk := Option.some.inj hk
    have hv := Option.some.inj hv
    subst hk hv
    exact ⟨n, rfl, keyIs_int n t⟩
  | n :: ns, u :: us, _, i + 1, k, v, .cons _ t r, hk, hv => keyed_at (i := i) r hk hv
def rDictZip (K : PySem.W.Frag) : List V → Hp → VK → Prop := fun vs H Q => ∃ (a b : Addr) (ns : List Int) (ys : List V), vs = [.ref a, .ref b] ∧ SqL K H a (ns.map V.int) ∧ SqL K H b ys ∧
  ∀ p, H p = none → Q (.ref p) (upd H p (.dK (putAll [] (ns.zip ys))))
theorem pe_dictZip {X : Cx} {e e2 : Expr} {ta : TA} {p p2 q pos : Pos} (hc : X.calm = true) (hg : Gl X "dict") (hm : X.mg "dict" = none) (hg2 : Gl X "zip") (hm2 : X.mg "zip" = none) (ha : PA X [e, e2] ta)
    (hs : starEach [e, e2] X.env = (false, eval e X.env) :: starEach [e2] X.env := by rfl) (hpl : (backTo q (starEach [e2] X.env)).any (·.1) = false := by rfl)
    (na : starEach [.Call (.Name "zip" p2) [e, e2] [] q] X.env = (false, eval (.Call (.Name "zip" p2) [e, e2] [] q) X.env) :: starEach [] X.env := by rfl) :
    PE X (.Call (.Name "dict" p) [.Call (.Name "zip" p2) [e, e2] [] q] [] pos) (tCB (rDictZip X.K) ta) := by
  refine ⟨fun pins s σ H Q I h => ?_⟩
  refine Call_ (ld_blt I hg hm PyProof.Rows.boot_dict (PyProof.Rows.callWith_type1 (PyProof.Rows.args_cons ?_ na) na rfl))
  refine Call_ (ld_blt I hg2 hm2 PyProof.Rows.boot_zip (PyProof.Rows.callWith_type1 (thn (ha.run q pins s σ H _ I h) fun us s1 ⟨vs, H1, I1, r1, q1⟩ => ?_) hs hpl))
  obtain ⟨a, b, ns, ys, rfl, hqx, hqy, q2⟩ := q1
  obtain ⟨u1, u2, rfl, ru1, ru2⟩ := vals2 r1
  cases ru1
  cases ru2
  obtain ⟨its, rv, p1, z1⟩ := I1.list hqx
  obtain ⟨its2, rv2, p3, z2⟩ := I1.list hqy
  refine call_zip_2 p1.isList p3.isList fun h' hz hTI hTO h1 h2 hsz hk => PyProof.Rows.args_nil ?_
  have I2 : Inv X pins σ H1 { s1 with heap := h' } := I1.kept (t' := s1.toks) hk
  have hmin : (keyed ns its2).length = min its.toArray.size its2.toArray.size := by
    rw [keyed_length, List.size_toArray, List.size_toArray, ← rv.length, List.length_map]
  have hle : min its.toArray.size its2.toArray.size ≤ sizeLine := Nat.le_trans (Nat.min_le_right _ _) (by rw [List.size_toArray, ← rv2.length]; exact z2)
  refine call_dict_pairs (s := { s1 with heap := h' }) (knd := mixKind X.prog X.w) (kvs := keyed ns its2) (PySem.PairArg.zip (s1.heap.objs.size + 4) (s1.heap.objs.size + 2) (s1.heap.objs.size + 3) s1.heap.objs.size (s1.heap.objs.size + 1) a b (PySem.W.ktu_apart s1.heap.objs.size a b p1.lt p3.lt) its.toArray its2.toArray)
    (I1.ok.hd hc) ⟨hz, hTI, ⟨_, _, hTO⟩, h1, h2, p1.isList.at fun o z => hk _ o z, p3.isList.at fun o z => hk _ o z⟩ ⟨hmin, fun i k v hkv => ?_⟩ hle fun h'' tk hD hk2 => ?_
  · obtain ⟨n, e1, e2⟩ := keyed_at rv.ints (i := i) (k := k) (v := v) (us := its2) (by simpa using hkv.1) (by simpa using hkv.2)
    exact ⟨.inl n, e1, e2⟩
  · have fresh : H1 h'.objs.size = none := I2.hok.fresh (Nat.le_refl _)
    have keep : ∀ c ob, s1.heap.get? c = some ob → h''.get? c = some ob := fun c ob z => hk2 c ob (fun hm => absurd (Heap.lt_size z) ?_) (hk c ob z)
    · refine ⟨.ref h'.objs.size, upd H1 h'.objs.size (.dK (putAll [] (ns.zip ys))), I1.laid (t' := tk) keep (by rw [hsz]; exact Nat.le_add_right _ _) ⟨?_, ?_, _, kv_putAll _ _ _ _ .nil (keyed_pairs rv2), hD⟩, rfl, q2 _ fresh⟩
      · have := putAll_length (ns.zip ys) []
        have hz2 : (ns.zip ys).length ≤ ys.length := by rw [List.length_zip]; exact Nat.min_le_right _ _
        exact Nat.le_trans this (by simpa using Nat.le_trans hz2 z2)
      · exact beq_eq_false_iff_ne.mpr (Nat.ne_of_gt I2.big)
    · have e' : c = s1.heap.objs.size + 4 ∨ c = s1.heap.objs.size + 3 ∨ c = s1.heap.objs.size ∨ c = s1.heap.objs.size + 1 := by simpa using hm
      rcases e' with e | e | e | e <;> subst e
      · exact Nat.not_lt.mpr (Nat.le_add_right _ _)
      · exact Nat.not_lt.mpr (Nat.le_add_right _ _)
      · exact Nat.lt_irrefl _
      · exact Nat.not_lt.mpr (Nat.le_add_right _ _)
end XL
end
section
set_option maxRecDepth 100000
/-! XG: values' operations. -/
namespace XL
open PySem PySem.Spec PyProof.Rows L2
variable {T : Tb}

/-! ### lists of ints, of bools -/
def intsD : List D → Option (List Int)
  | [] => some []
  | .int i :: r => (match intsD r with
    | some l => some (i :: l)
    | none => none)
  | _ :: _ => none
def blsD : List D → Option (List Bool)
  | [] => some []
  | .bl i :: r => (match blsD r with
    | some l => some (i :: l)
    | none => none)
  | _ :: _ => none
theorem intsD_ok : ∀ {I : Hp} {al : List Addr} {ds : List D} {vs : List V} {ns : List Int}, RepL I al vs ds → intsD ds = some ns → vs = ns.map V.int
  | _, _, [], vs, ns, r, h => by cases r; cases h; rfl
  | _, _, d :: ds, vs, ns, r, h => by
    cases d with
    | int i =>
      cases r with
      | cons r t =>
        cases r
        have h : (match intsD ds with | some l => some (i :: l) | none => none) = some ns := h
        cases q : intsD ds with
        | none => rw [q] at h; cases h
        | some l =>
          rw [q] at h
          cases h
          rw [intsD_ok t q]
          rfl
    | _ => cases h
theorem blsD_ok : ∀ {I : Hp} {al : List Addr} {ds : List D} {vs : List V} {ns : List Bool}, RepL I al vs ds → blsD ds = some ns → vs = ns.map V.bl
  | _, _, [], vs, ns, r, h => by cases r; cases h; rfl
  | _, _, d :: ds, vs, ns, r, h => by
    cases d with
    | bl i =>
      cases r with
      | cons r t =>
        cases r
        have h : (match blsD ds with | some l => some (i :: l) | none => none) = some ns := h
        cases q : blsD ds with
        | none => rw [q] at h; cases h
        | some l =>
          rw [q] at h
          cases h
          rw [blsD_ok t q]
          rfl
    | _ => cases h
theorem rep_ints {I : Hp} {al : List Addr} : ∀ ns : List Int, RepL I al (ns.map V.int) (ns.map D.int)
  | [] => .nil
  | n :: ns => .cons .int (rep_ints ns)
theorem rep_bl {W : Wd} {v : V} {i : Bool} (h : RepW W v (.bl i)) : v = .bl i := by
  cases h; rfl

/-! ### sorting -/
def insK {α : Type} (k : α → Int) (x : α) : List α → List α
  | [] => [x]
  | y :: r => match leK k x y with
    | true => x :: y :: r
    | false => y :: insK k x r
def isortK {α : Type} (k : α → Int) : List α → List α
  | [] => []
  | x :: r => insK k x (isortK k r)
theorem leK_total {α : Type} (k : α → Int) : PySem.W.TotalLe (leK k) := by
  refine ⟨fun a b c h1 h2 => ?_, fun a b => ?_⟩
  · have h1 := of_decide_eq_true (p := k a ≤ k b) h1
    have h2 := of_decide_eq_true (p := k b ≤ k c) h2
    exact decide_eq_true (p := k a ≤ k c) (by omega)
  · by_cases h : k a ≤ k b
    · exact .inl (decide_eq_true h)
    · exact .inr (decide_eq_true (p := k b ≤ k a) (by omega))
theorem insK_mem {α : Type} {k : α → Int} {x z : α} : ∀ {l : List α}, z ∈ insK k x l → z = x ∨ z ∈ l
  | [], h => by
    have h : z ∈ [x] := h
    exact .inl (List.mem_singleton.mp h)
  | y :: r, h => by
    unfold insK at h
    split at h
    · rcases List.mem_cons.mp h with h | h
      · exact .inl h
      · exact .inr h
    · rcases List.mem_cons.mp h with h | h
      · exact .inr (List.mem_cons.mpr (.inl h))
      · rcases insK_mem h with h | h
        · exact .inl h
        · exact .inr (List.mem_cons_of_mem _ h)
theorem insK_sorted {α : Type} {k : α → Int} {x : α} : ∀ {l : List α}, l.Pairwise (fun a b => leK k a b = true) → (insK k x l).Pairwise (fun a b => leK k a b = true)
  | [], _ => List.pairwise_singleton _ _
  | y :: r, h => by
    have h2 := List.pairwise_cons.mp h
    unfold insK
    split
    · rename_i q
      refine List.pairwise_cons.mpr ⟨fun z hz => ?_, h⟩
      rcases List.mem_cons.mp hz with rfl | hz
      · exact q
      · exact (leK_total k).trans _ _ _ q (h2.1 z hz)
    · rename_i q
      refine List.pairwise_cons.mpr ⟨fun z hz => ?_, insK_sorted h2.2⟩
      rcases insK_mem hz with rfl | hz
      · rcases (leK_total k).total y z with z1 | z1
        · exact z1
        · rw [q] at z1; cases z1
      · exact h2.1 z hz
theorem isortK_sorted {α : Type} (k : α → Int) : ∀ l : List α, (isortK k l).Pairwise (fun a b => leK k a b = true)
  | [] => .nil
  | x :: r => insK_sorted (isortK_sorted k r)
theorem insK_filter {α : Type} {k : α → Int} {x c : α} : ∀ l : List α, (insK k x l).filter (PySem.W.sameRank (leK k) c) = (x :: l).filter (PySem.W.sameRank (leK k) c)
  | [] => rfl
  | y :: r => by
    unfold insK
    split
    · rfl
    · rename_i q
      have hne : PySem.W.sameRank (leK k) c x = true → PySem.W.sameRank (leK k) c y = true → False := fun h1 h2 => by
        obtain ⟨a1, a2⟩ := Bool.and_eq_true_iff.mp (show (leK k c x && leK k x c) = true from h1)
        obtain ⟨b1, b2⟩ := Bool.and_eq_true_iff.mp (show (leK k c y && leK k y c) = true from h2)
        have := (leK_total k).trans _ _ _ a2 b1
        rw [q] at this
        cases this
      rw [List.filter_cons, insK_filter r, List.filter_cons, List.filter_cons, List.filter_cons]
      cases h1 : PySem.W.sameRank (leK k) c x <;> cases h2 : PySem.W.sameRank (leK k) c y
      · rfl
      · rfl
      · rfl
      · exact (hne h1 h2).elim
theorem isortK_filter {α : Type} {k : α → Int} {c : α} : ∀ l : List α, (isortK k l).filter (PySem.W.sameRank (leK k) c) = l.filter (PySem.W.sameRank (leK k) c)
  | [] => rfl
  | x :: r => by
    show (insK k x (isortK k r)).filter _ = _
    rw [insK_filter, List.filter_cons, List.filter_cons, isortK_filter r]
theorem isortK_eq {α : Type} (k : α → Int) (l : List α) : isortK k l = l.mergeSort (leK k) := PySem.W.sort_unique (leK_total k) (isortK_sorted k l) fun c => isortK_filter l
theorem sorted_one : ∀ {l m : List Int}, l.Perm m → l.Pairwise (· ≤ ·) → m.Pairwise (· ≤ ·) → l = m
  | [], m, p, _, _ => (List.nil_perm.mp p).symm
  | x :: l, [], p, _, _ => absurd p.length_eq (by simp)
  | x :: l, y :: m, p, h1, h2 => by
    have q1 := List.pairwise_cons.mp h1
    have q2 := List.pairwise_cons.mp h2
    have e : x = y := by
      have m1 : x ∈ y :: m := p.mem_iff.mp List.mem_cons_self
      have m2 : y ∈ x :: l := p.mem_iff.mpr List.mem_cons_self
      rcases List.mem_cons.mp m1 with e | m1
      · exact e
      · rcases List.mem_cons.mp m2 with e | m2
        · exact e.symm
        · have a := q2.1 x m1
          have b := q1.1 y m2
          omega
    subst e
    rw [sorted_one ((List.perm_cons x).mp p) q1.2 q2.2]
theorem insK_perm {α : Type} {k : α → Int} {x : α} : ∀ l : List α, (insK k x l).Perm (x :: l)
  | [] => .refl _
  | y :: r => by
    unfold insK
    split
    · exact .refl _
    · exact ((insK_perm r).cons y).trans (List.Perm.swap x y r)
theorem isortK_perm {α : Type} (k : α → Int) : ∀ l : List α, (isortK k l).Perm l
  | [] => .refl _
  | x :: r => (insK_perm _).trans ((isortK_perm k r).cons x)
def isortI (l : List Int) : List Int := isortK (fun i => i) l
theorem isortI_is {l m : List Int} (p : m.Perm l) (h : m.Pairwise (· ≤ ·)) : m = isortI l :=
  sorted_one (p.trans (isortK_perm _ l).symm) h ((isortK_sorted (fun i : Int => i) l).imp fun {a b} q => of_decide_eq_true (p := a ≤ b) q)

/-! ### built-in functions -/
theorem seqLT {K : PySem.W.Frag} {W : Wd} {cs : Cs} {H : Hp} {v : V} {d : D} {b : Bool} {xs : List D} (R : Rel T W cs H) (r : RepW W v d) (h : seqD cs d = some (b, xs)) : ∃ a vs, v = .ref a ∧ (SqL K H a vs ∨ SqT K H a vs) ∧ RepLW W vs xs := by
  obtain ⟨a, vs, rfl, e, rl⟩ := R.seq r h
  cases b with
  | true => exact ⟨a, vs, rfl, .inr (seqO_t e), rl⟩
  | false => exact ⟨a, vs, rfl, .inl (seqO_l e), rl⟩
def gLen : GL := fun ds c => match ds with
  | [d] => (match seqD c d with
    | some (_, xs) => some (.int xs.length, c)
    | none => none)
  | _ => none
theorem sl_len {K : PySem.W.Frag} : SndL (fun xs H Q => ∃ x n, xs = [x] ∧ LenV K x H n ∧ Q (.int n) H) gLen := by
  intro T W cs H xs ds d cs' Q R rl e k
  match ds, e with
  | [x], e =>
    obtain ⟨v, rfl, rv⟩ := repL1 rl
    have e : (match seqD cs x with
      | some (_, xs) => some (D.int xs.length, cs)
      | none => none) = some (d, cs') := e
    cases q : seqD cs x with
    | none => rw [q] at e; cases e
    | some p =>
      rw [q] at e
      cases e
      obtain ⟨a, vs, rfl, hs, rr⟩ := seqLT (K := K) R rv q
      refine ⟨.ref a, vs.length, rfl, hs.imp (fun h => ⟨vs, h, rfl⟩) (fun h => ⟨vs, h, rfl⟩), ?_⟩
      rw [rr.length]
      exact k W _ H (Le.refl W) R .int
def gAbs : GL := fun ds c => match ds with
  | [.int i] => some (.int (if i < 0 then -i else i), c)
  | _ => none
theorem sl_abs : SndL (fun xs H Q => ∃ i, xs = [.int i] ∧ Q (.int (if i < 0 then -i else i)) H) gAbs := by
  intro T W cs H xs ds d cs' Q R rl e k
  match ds, e with
  | [.int i], e =>
    cases e
    obtain ⟨v, rfl, rv⟩ := repL1 rl
    obtain rfl := rep_int rv
    exact ⟨i, rfl, k W _ H (Le.refl W) R .int⟩
def gMin2 : GL := fun ds c => match ds with
  | [.int i, .int j] => some (.int (if j < i then j else i), c)
  | _ => none
theorem sl_min2 : SndL (fun xs H Q => ∃ i j, xs = [.int i, .int j] ∧ Q (.int (if j < i then j else i)) H) gMin2 := by
  intro T W cs H xs ds d cs' Q R rl e k
  match ds, e with
  | [.int i, .int j], e =>
    cases e
    obtain ⟨v, w, rfl, rv, rw'⟩ := repL2 rl
    obtain rfl := rep_int rv
    obtain rfl := rep_int rw'
    exact ⟨i, j, rfl, k W _ H (Le.refl W) R .int⟩
def gInt : GL := fun ds c => match ds with
  | [.int i] => some (.int i, c)
  | [.bl b] => some (.int (if b then 1 else 0), c)
  | _ => none
theorem sl_int : SndL (fun xs H Q => (∃ i, xs = [.int i] ∧ Q (.int i) H) ∨ ∃ k, xs = [.bl k] ∧ Q (.int (if k then 1 else 0)) H) gInt := by
  intro T W cs H xs ds d cs' Q R rl e k
  match ds, e with
  | [.int i], e =>
    cases e
    obtain ⟨v, rfl, rv⟩ := repL1 rl
    obtain rfl := rep_int rv
    exact .inl ⟨i, rfl, k W _ H (Le.refl W) R .int⟩
  | [.bl b], e =>
    cases e
    obtain ⟨v, rfl, rv⟩ := repL1 rl
    obtain rfl := rep_bl rv
    exact .inr ⟨b, rfl, k W _ H (Le.refl W) R .int⟩
def sumI : List Int → Int
  | [] => 0
  | x :: r => x + sumI r
theorem sumI_eq : ∀ l : List Int, sumI l = l.sum
  | [] => rfl
  | x :: r => by
    show x + sumI r = _
    rw [sumI_eq r, List.sum_cons]
def gSum : GL := fun ds c => match ds with
  | [d] => (match seqD c d with
    | some (_, xs) => (match intsD xs with
      | some ns => some (.int (sumI ns), c)
      | none => none)
    | none => none)
  | _ => none
def rSumQ (K : PySem.W.Frag) : List V → Hp → VK → Prop := fun xs H Q => rSum K xs H Q ∨ rSumT K xs H Q
theorem cr_sumQ {X : Cx} (hc : X.calm = true) : CallR X (.builtin "sum") (rSumQ X.K) := fun pins s σ H xs us Q I r h => h.elim (cr_sum hc pins s σ H xs us Q I r) (cr_sumT hc pins s σ H xs us Q I r)
theorem sl_sum {K : PySem.W.Frag} : SndL (rSumQ K) gSum := by
  intro T W cs H xs ds d cs' Q R rl e k
  match ds, e with
  | [x], e =>
    obtain ⟨v, rfl, rv⟩ := repL1 rl
    have e : (match seqD cs x with
      | some (_, xs) => (match intsD xs with
        | some ns => some (D.int (sumI ns), cs)
        | none => none)
      | none => none) = some (d, cs') := e
    cases q : seqD cs x with
    | none => rw [q] at e; cases e
    | some p =>
      obtain ⟨b, ys⟩ := p
      rw [q] at e
      have e : (match intsD ys with
        | some ns => some (D.int (sumI ns), cs)
        | none => none) = some (d, cs') := e
      cases q2 : intsD ys with
      | none => rw [q2] at e; cases e
      | some ns =>
        rw [q2] at e
        cases e
        rw [sumI_eq] at k
        obtain ⟨a, vs, rfl, hs, rr⟩ := seqLT (K := K) R rv q
        have ev := intsD_ok rr q2
        subst ev
        rcases hs with hs | hs
        · exact .inl ⟨a, ns, rfl, hs, k W _ H (Le.refl W) R .int⟩
        · exact .inr ⟨a, ns, rfl, hs, k W _ H (Le.refl W) R .int⟩
def allB : List Bool → Bool
  | [] => true
  | b :: r => b && allB r
theorem allB_eq : ∀ l : List Bool, allB l = l.all id
  | [] => rfl
  | x :: r => by
    show (x && allB r) = _
    rw [allB_eq r, List.all_cons]
    rfl
def gAll : GL := fun ds c => match ds with
  | [d] => (match seqD c d with
    | some (false, xs) => (match blsD xs with
      | some ns => some (.bl (allB ns), c)
      | none => none)
    | _ => none)
  | _ => none
theorem sl_all {K : PySem.W.Frag} : SndL (rAll K) gAll := by
  intro T W cs H xs ds d cs' Q R rl e k
  match ds, e with
  | [x], e =>
    obtain ⟨v, rfl, rv⟩ := repL1 rl
    have e : (match seqD cs x with
      | some (false, xs) => (match blsD xs with
        | some ns => some (D.bl (allB ns), cs)
        | none => none)
      | _ => none) = some (d, cs') := e
    cases q : seqD cs x with
    | none => rw [q] at e; cases e
    | some p =>
      obtain ⟨b, ys⟩ := p
      rw [q] at e
      cases b with
      | true => cases e
      | false =>
        have e : (match blsD ys with
          | some ns => some (D.bl (allB ns), cs)
          | none => none) = some (d, cs') := e
        cases q2 : blsD ys with
        | none => rw [q2] at e; cases e
        | some ns =>
          rw [q2] at e
          cases e
          rw [allB_eq] at k
          obtain ⟨a, vs, rfl, hs, rr⟩ := R.seq rv q
          have ev := blsD_ok rr q2
          subst ev
          exact ⟨a, ns, rfl, seqO_l hs, k W _ H (Le.refl W) R .bl⟩
/-- a new list of these, counted -/
def newL (c : Cs) (xs : List D) : Option (D × Cs) := some (.ref c.length, c ++ [.lst xs])
def gTuple : GL := fun ds c => match ds with
  | [d] => (match seqD c d with
    | some (true, _) => some (d, c)
    | some (false, xs) => some (.tup xs, c)
    | none => none)
  | _ => none
theorem sl_tuple {K : PySem.W.Frag} : SndL (fun xs H Q => ∃ p ys, xs = [.ref p] ∧ ((SqL K H p ys ∧ ∀ l, H l = none → Q (.ref l) (upd H l (.tup ys))) ∨ (SqT K H p ys ∧ Q (.ref p) H))) gTuple := by
  intro T W cs H xs ds d cs' Q R rl e k
  match ds, e with
  | [x], e =>
    obtain ⟨v, rfl, rv⟩ := repL1 rl
    have e : (match seqD cs x with
      | some (true, _) => some (x, cs)
      | some (false, xs) => some (D.tup xs, cs)
      | none => none) = some (d, cs') := e
    cases q : seqD cs x with
    | none => rw [q] at e; cases e
    | some p =>
      obtain ⟨b, ys⟩ := p
      rw [q] at e
      obtain ⟨a, vs, rfl, hs, rr⟩ := R.seq rv q
      cases b with
      | true =>
        cases e
        exact ⟨a, vs, rfl, .inr ⟨seqO_t hs, k W _ H (Le.refl W) R rv⟩⟩
      | false =>
        cases e
        refine ⟨a, vs, rfl, .inl ⟨seqO_l hs, fun p hp => ?_⟩⟩
        obtain ⟨W2, l, R2, r2⟩ := R.newTup hp rr
        exact k W2 _ _ l R2 r2
def gList : GL := fun ds c => match ds with
  | [d] => (match seqD c d with
    | some (_, xs) => newL c xs
    | none => none)
  | _ => none
theorem sl_list {K : PySem.W.Frag} : SndL (fun xs H Q => ∃ p ys, xs = [.ref p] ∧ (SqL K H p ys ∨ SqT K H p ys) ∧ ∀ l, H l = none → Q (.ref l) (upd H l (.lst ys))) gList := by
  intro T W cs H xs ds d cs' Q R rl e k
  match ds, e with
  | [x], e =>
    obtain ⟨v, rfl, rv⟩ := repL1 rl
    have e : (match seqD cs x with
      | some (_, xs) => newL cs xs
      | none => none) = some (d, cs') := e
    cases q : seqD cs x with
    | none => rw [q] at e; cases e
    | some p =>
      obtain ⟨b, ys⟩ := p
      rw [q] at e
      cases e
      obtain ⟨a, vs, rfl, hs, rr⟩ := seqLT (K := K) R rv q
      refine ⟨a, vs, rfl, hs, fun p hp => ?_⟩
      obtain ⟨W2, l, R2, r2⟩ := R.newLst hp rr
      exact k W2 _ _ l R2 r2
def gSorted : GL := fun ds c => match ds with
  | [d] => (match seqD c d with
    | some (_, xs) => (match intsD xs with
      | some ns => newL c ((isortI ns).map .int)
      | none => none)
    | none => none)
  | _ => none
theorem sl_sorted {K : PySem.W.Frag} : SndL (rSortQ K) gSorted := by
  intro T W cs H xs ds d cs' Q R rl e k
  match ds, e with
  | [x], e =>
    obtain ⟨v, rfl, rv⟩ := repL1 rl
    have e : (match seqD cs x with
      | some (_, xs) => (match intsD xs with
        | some ns => newL cs ((isortI ns).map .int)
        | none => none)
      | none => none) = some (d, cs') := e
    cases q : seqD cs x with
    | none => rw [q] at e; cases e
    | some p =>
      obtain ⟨b, ys⟩ := p
      rw [q] at e
      have e : (match intsD ys with
        | some ns => newL cs ((isortI ns).map .int)
        | none => none) = some (d, cs') := e
      cases q2 : intsD ys with
      | none => rw [q2] at e; cases e
      | some ns =>
        rw [q2] at e
        cases e
        obtain ⟨a, vs, rfl, hs, rr⟩ := seqLT (K := K) R rv q
        have ev := intsD_ok rr q2
        subst ev
        refine ⟨a, ns, rfl, hs, fun ns' p hp hw hf => ?_⟩
        rw [isortI_is hp hw]
        obtain ⟨W2, l, R2, r2⟩ := R.newLst hf (rep_ints (isortI ns))
        exact k W2 _ _ l R2 r2
/-- sorted(xs, key=len) -/
def lenT : D → Option Nat
  | .tup xs => some xs.length
  | .ftup xs => some xs.length
  | _ => none
def lenT0 (d : D) : Int := match lenT d with
  | some n => n
  | none => 0
def allTup : List D → Bool
  | [] => true
  | d :: r => (match lenT d with
    | some _ => allTup r
    | none => false)
def gSortLen : GL := fun ds c => match ds with
  | [d] => (match seqD c d with
    | some (_, xs) => (match allTup xs with
      | true => newL c (isortK lenT0 xs)
      | false => none)
    | none => none)
  | _ => none
def lenAtH (H : Hp) (v : V) : Nat := match v with
  | .ref t => (match H t with
    | some (.tup vs) => vs.length
    | some (.frz _ (.tup vs)) => vs.length
    | _ => 0)
  | _ => 0
theorem atup_len {H : Hp} {a : Addr} {vs : List V} (h : ATup H a vs) : lenAtH H (.ref a) = vs.length := by
  show (match H a with
    | some (.tup vs) => vs.length
    | some (.frz _ (.tup vs)) => vs.length
    | _ => 0) = _
  rcases h with h | ⟨o, _, h⟩
  · rw [h]
  · rw [h]
theorem repLenT {W : Wd} {H : Hp} (im : Same W.I H) {v : V} {d : D} (r : RepW W v d) (h : ∃ n, lenT d = some n) : ∃ t ys, v = .ref t ∧ ATup H t ys ∧ lenT0 d = (ys.length : Int) := by
  obtain ⟨n, h⟩ := h
  cases d with
  | tup xs =>
    cases r with
    | tup e q => exact ⟨_, _, rfl, e.up im, by show ((xs.length : Nat) : Int) = _; rw [q.length]⟩
  | ftup xs =>
    cases r with
    | ftup e q => exact ⟨_, _, rfl, .inr (e.up im), by show ((xs.length : Nat) : Int) = _; rw [q.length]⟩
  | _ => cases h
theorem each_rep {W : Wd} {H : Hp} (im : Same W.I H) : ∀ {vs : List V} {ds : List D}, RepLW W vs ds → allTup ds = true → PySem.W.EachIs (fun v d => RepW W v d ∧ ∃ t ys, v = V.ref t ∧ ATup H t ys ∧ lenT0 d = (ys.length : Int)) vs ds
  | [], ds, r, _ => by cases r; exact .nil
  | v :: vs, ds, r, h => by
    cases r with
    | cons r t =>
      rename_i d ds
      have h : (match lenT d with | some _ => allTup ds | none => false) = true := h
      cases q : lenT d with
      | none => rw [q] at h; cases h
      | some n =>
        rw [q] at h
        exact .cons ⟨r, repLenT im r ⟨n, q⟩⟩ (each_rep im t h)
theorem rep_each {W : Wd} {P : V → D → Prop} : ∀ {vs : List V} {ds : List D}, PySem.W.EachIs (fun v d => RepW W v d ∧ P v d) vs ds → RepLW W vs ds
  | _, _, .nil => .nil
  | _, _, .cons r t => .cons r.1 (rep_each t)
theorem sl_sortLen {K : PySem.W.Frag} : SndL (rSortLen1 K) gSortLen := by
  intro T W cs H xs ds d cs' Q R rl e k
  match ds, e with
  | [x], e =>
    obtain ⟨v, rfl, rv⟩ := repL1 rl
    have e : (match seqD cs x with
      | some (_, xs) => (match allTup xs with
        | true => newL cs (isortK lenT0 xs)
        | false => none)
      | none => none) = some (d, cs') := e
    cases q : seqD cs x with
    | none => rw [q] at e; cases e
    | some p =>
      obtain ⟨b, ys⟩ := p
      rw [q] at e
      have e : (match allTup ys with
        | true => newL cs (isortK lenT0 ys)
        | false => none) = some (d, cs') := e
      cases q2 : allTup ys with
      | false => rw [q2] at e; cases e
      | true =>
        rw [q2] at e
        cases e
        obtain ⟨a, vs, rfl, hs, rr⟩ := seqLT (K := K) R rv q
        have ea := each_rep R.imm rr q2
        refine ⟨_, rfl, a, vs, lenAtH H, rfl, hs, fun z hz => ?_, fun p hp => ?_⟩
        · obtain ⟨d2, _, _, t, zs, ez, at', _⟩ := ea.left z hz
          subst ez
          exact ⟨t, zs, rfl, atup_t at', atup_len at'⟩
        · have sr := PySem.W.sort_each (r := leK fun v => (lenAtH H v : Int)) (s := leK lenT0) ea fun p hp q hq => ?_
          · rw [isortK_eq] at k
            obtain ⟨W2, l, R2, r2⟩ := R.newLst hp (rep_each sr)
            exact k W2 _ _ l R2 r2
          · obtain ⟨_, t1, z1, e1, a1, l1⟩ := ea.zip p hp
            obtain ⟨_, t2, z2, e2, a2, l2⟩ := ea.zip q hq
            show decide ((lenAtH H p.1 : Int) ≤ (lenAtH H q.1 : Int)) = decide (lenT0 p.2 ≤ lenT0 q.2)
            rw [e1, e2, atup_len a1, atup_len a2, l1, l2]
/-! ### isinstance -/
def isiI (n : String) : Option Bool := if n = "int" then some true else if n = "bool" then some false else if n = "tuple" then some false else none
def isiT (n : String) : Option Bool := if n = "tuple" then some true else if n = "int" then some false else none
def isiD (d : D) (n : String) : Option Bool := match d with
  | .int _ => isiI n
  | .tup _ => isiT n
  | .ftup _ => isiT n
  | _ => none
def gIsi : GL := fun ds c => match ds with
  | [d, .ty n] => (match isiD d n with
    | some b => some (.bl b, c)
    | none => none)
  | _ => none
theorem isiD_ok {K : PySem.W.Frag} {W : Wd} {cs : Cs} {H : Hp} {v : V} {d : D} {n : String} {b : Bool} (R : Rel T W cs H) (r : RepW W v d) (h : isiD d n = some b) : ∃ t, TyX K H v t ∧ PySem.W.kitOne K t (.type n) = some b := by
  have tup : ∀ {xs : List D}, RepW W v (.tup xs) → isiT n = some b → ∃ t, TyX K H v t ∧ PySem.W.kitOne K t (.type n) = some b := by
    intro xs r h2
    have ht : TyX K H v (.type "tuple") := by
      cases r with
      | tup e q =>
        rcases e.up R.imm with e | ⟨o, _, e⟩
        · exact .base (.tup e)
        · exact .fTuple e
    refine ⟨.type "tuple", ht, ?_⟩
    clear h
    unfold isiT at h2
    split at h2
    · rename_i e; subst e; cases h2; kernel_rfl
    · split at h2
      · rename_i e; subst e; cases h2; kernel_rfl
      · cases h2
  cases d with
  | int i =>
    obtain rfl := rep_int r
    refine ⟨.type "int", .base (.int i), ?_⟩
    have h : isiI n = some b := h
    unfold isiI at h
    split at h
    · rename_i e; subst e; cases h; kernel_rfl
    · split at h
      · rename_i e; subst e; cases h; kernel_rfl
      · split at h
        · rename_i e; subst e; cases h; kernel_rfl
        · cases h
  | tup xs => exact tup r h
  | ftup xs => exact tup r.tupOf h
  | _ => cases h
theorem rep_ty {W : Wd} {v : V} {n : String} (h : RepW W v (.ty n)) : v = .ty n := by
  cases h; rfl
theorem sl_isi {K : PySem.W.Frag} : SndL (rIsi K) gIsi := by
  intro T W cs H xs ds d cs' Q R rl e k
  match ds, e with
  | [x, .ty n], e =>
    obtain ⟨v, w, rfl, rv, rw'⟩ := repL2 rl
    obtain rfl := rep_ty rw'
    have e : (match isiD x n with
      | some b => some (D.bl b, cs)
      | none => none) = some (d, cs') := e
    cases q : isiD x n with
    | none => rw [q] at e; cases e
    | some b =>
      rw [q] at e
      cases e
      obtain ⟨t, h1, h2⟩ := isiD_ok (K := K) R rv q
      exact ⟨v, .ty n, t, .type n, b, rfl, .ty n, h1, h2, k W _ H (Le.refl W) R .bl⟩
end XL
end
section
set_option maxRecDepth 100000
/-! XH: ==, in, is, subscripts, slices, dicts, methods of lists, stores. -/
namespace XL
open PySem PySem.Spec PyProof.Rows L2
variable {T : Tb}

/-! ### == and != -/
def mapO {α β : Type} (f : α → Option β) : List α → Option (List β)
  | [] => some []
  | x :: r => match f x with
    | some y => (match mapO f r with
      | some ys => some (y :: ys)
      | none => none)
    | none => none
def pyD : Nat → Cs → D → Option PyData
  | 0, _, _ => none
  | n + 1, c, d => match d with
    | .non => some .none
    | .bl b => some (.bool b)
    | .int i => some (.int i)
    | .str x => (match PyData.strOk x with
      | true => some (.str x)
      | false => none)
    | .ty _ => none
    | d => (match seqD c d with
      | some (b, xs) => (match mapO (pyD n c) xs with
        | some ps => some (cond b (.tuple ps) (.list ps))
        | none => none)
      | none => none)
def PyOk (K : PySem.W.Frag) (H : Hp) (n : Nat) (v : V) (p : PyData) : Prop := Dp K H v p ∧ p.canLay0 = true ∧ p.depth ≤ n
theorem mapO_py {K : PySem.W.Frag} {W : Wd} {cs : Cs} {H : Hp} {n : Nat} {f : D → Option PyData} (hf : ∀ v d p, RepW W v d → f d = some p → PyOk K H n v p) : ∀ {ds : List D} {vs : List V} {ps : List PyData}, RepLW W vs ds → mapO f ds = some ps → DpAll K H vs ps ∧ PyData.canLayAll0 ps = true ∧ PyData.depthAll ps ≤ n
  | [], vs, ps, r, h => by
    cases r
    cases h
    exact ⟨.nil, by simp [PyData.canLayAll0], by simp [PyData.depthAll]⟩
  | d :: ds, vs, ps, r, h => by
    cases r with
    | cons r t =>
      rw [mapO] at h
      cases q : f d with
      | none => rw [q] at h; cases h
      | some y =>
        rw [q] at h
        dsimp only at h
        cases q2 : mapO f ds with
        | none => rw [q2] at h; cases h
        | some ys =>
          rw [q2] at h
          cases h
          obtain ⟨a1, a2, a3⟩ := hf _ d y r q
          obtain ⟨b1, b2, b3⟩ := mapO_py (cs := cs) hf t q2
          refine ⟨.cons a1 b1, ?_, ?_⟩
          · simp only [PyData.canLayAll0, Bool.and_eq_true]
            exact ⟨a2, b2⟩
          · simp only [PyData.depthAll]
            omega
theorem pyD_ok {K : PySem.W.Frag} {W : Wd} {cs : Cs} {H : Hp} (R : Rel T W cs H) : ∀ (n : Nat) (v : V) (d : D) (p : PyData), RepW W v d → pyD n cs d = some p → PyOk K H n v p
  | 0, v, d, p, r, h => by cases h
  | n + 1, v, d, p, r, h => by
    have sq : (match seqD cs d with
      | some (b, xs) => (match mapO (pyD n cs) xs with
        | some ps => some (cond b (PyData.tuple ps) (.list ps))
        | none => none)
      | none => none) = some p → PyOk K H (n + 1) v p := by
      intro h
      cases q : seqD cs d with
      | none => rw [q] at h; cases h
      | some pr =>
        obtain ⟨b, xs⟩ := pr
        rw [q] at h
        have h : (match mapO (pyD n cs) xs with
          | some ps => some (cond b (PyData.tuple ps) (.list ps))
          | none => none) = some p := h
        obtain ⟨a, vs, rfl, hs, rr⟩ := R.seq r q
        cases q2 : mapO (pyD n cs) xs with
        | none => rw [q2] at h; cases h
        | some ps =>
          rw [q2] at h
          obtain ⟨b1, b2, b3⟩ := mapO_py (cs := cs) (fun v d p r h => pyD_ok R n v d p r h) rr q2
          cases b with
          | true =>
            cases h
            exact ⟨.tup (seqO_t hs) b1, by show PyData.canLay0 (.tuple ps) = true; simp only [PyData.canLay0]; exact b2, by show PyData.depth (.tuple ps) ≤ n + 1; simp only [PyData.depth]; omega⟩
          | false =>
            cases h
            exact ⟨.lst (seqO_l hs) b1, by show PyData.canLay0 (.list ps) = true; simp only [PyData.canLay0]; exact b2, by show PyData.depth (.list ps) ≤ n + 1; simp only [PyData.depth]; omega⟩
    cases d with
    | non => cases h; cases r; exact ⟨.non, by unfold PyData.canLay0; rfl, by unfold PyData.depth; exact Nat.zero_le _⟩
    | bl b => cases h; cases r; exact ⟨.bl b, by unfold PyData.canLay0; rfl, by unfold PyData.depth; exact Nat.zero_le _⟩
    | int b => cases h; cases r; exact ⟨.int b, by unfold PyData.canLay0; rfl, by unfold PyData.depth; exact Nat.zero_le _⟩
    | str x =>
      have h : (match PyData.strOk x with
        | true => some (PyData.str x)
        | false => none) = some p := h
      cases q : PyData.strOk x with
      | false => rw [q] at h; cases h
      | true =>
        rw [q] at h
        cases h
        cases r
        exact ⟨.str x, by simp only [PyData.canLay0]; exact q, by unfold PyData.depth; exact Nat.zero_le _⟩
    | ty b => cases h
    | tup xs => exact sq h
    | ftup xs => exact sq h
    | lst xs => exact sq h
    | ref k => exact sq h
theorem pyD_shaped {K : PySem.W.Frag} {H : Hp} {v : V} {p : PyData} (h : PyOk K H 12 v p) : SeqAt.shaped p = true := by
  unfold SeqAt.shaped
  rw [h.2.1, Bool.true_and]
  have := h.2.2
  exact decide_eq_true (by omega)
/-- == of data, by fuel -/
def eqPL (f : PyData → PyData → Bool) : List PyData → List PyData → Bool
  | [], [] => true
  | x :: xs, y :: ys => f x y && eqPL f xs ys
  | _, _ => false
def eqP : Nat → PyData → PyData → Bool
  | 0, _, _ => false
  | n + 1, p, q => match p, q with
    | .int i, .int j => i == j
    | .str x, .str y => x == y
    | .tuple xs, .tuple ys => eqPL (eqP n) xs ys
    | .list xs, .list ys => eqPL (eqP n) xs ys
    | .none, .none => true
    | .bool a, .bool b => a == b
    | .bool a, .int j => (if a then 1 else 0) == j
    | .int i, .bool b => i == (if b then 1 else 0)
    | _, _ => false
theorem eqPL_ok {n : Nat} (hf : ∀ p q, p.depth ≤ n → eqP (n + 1) p q = PyData.eqv p q) : ∀ xs ys : List PyData, PyData.depthAll xs ≤ n → eqPL (eqP (n + 1)) xs ys = PyData.eqvAll xs ys
  | [], [], _ => by simp [eqPL, PyData.eqvAll]
  | [], _ :: _, _ => by simp [eqPL, PyData.eqvAll]
  | _ :: _, [], _ => by simp [eqPL, PyData.eqvAll]
  | x :: xs, y :: ys, h => by
    simp only [PyData.depthAll] at h
    simp only [eqPL, PyData.eqvAll]
    rw [hf x y (by omega), eqPL_ok hf xs ys (by omega)]
theorem eqP_ok : ∀ (n : Nat) (p q : PyData), p.depth ≤ n → eqP (n + 1) p q = PyData.eqv p q
  | n, p, q, h => by
    cases n with
    | zero =>
      cases p with
      | tuple xs => simp only [PyData.depth] at h; omega
      | list xs => simp only [PyData.depth] at h; omega
      | dict xs => simp only [PyData.depth] at h; omega
      | _ => cases q <;> simp [eqP, PyData.eqv]
    | succ n =>
      cases p with
      | tuple xs =>
        cases q with
        | tuple ys =>
          simp only [PyData.depth] at h
          simp only [eqP, PyData.eqv]
          exact eqPL_ok (eqP_ok n) xs ys (by omega)
        | _ => simp [eqP, PyData.eqv]
      | list xs =>
        cases q with
        | list ys =>
          simp only [PyData.depth] at h
          simp only [eqP, PyData.eqv]
          exact eqPL_ok (eqP_ok n) xs ys (by omega)
        | _ => simp [eqP, PyData.eqv]
      | dict xs => cases q <;> simp [eqP, PyData.eqv]
      | _ => cases q <;> simp [eqP, PyData.eqv]
def gEq : G2 := fun x y c => match pyD 12 c x with
  | some p => (match pyD 12 c y with
    | some q => some (.bl (eqP 13 p q), c)
    | none => none)
  | none => none
def gNe : G2 := fun x y c => match pyD 12 c x with
  | some p => (match pyD 12 c y with
    | some q => some (.bl (!eqP 13 p q), c)
    | none => none)
  | none => none
theorem snd_eq {K : PySem.W.Frag} : Snd2 (rEqD K) gEq := by
  intro T W cs H x y dx dy d cs' Q R r1 r2 e k
  unfold gEq at e
  cases q1 : pyD 12 cs dx with
  | none => rw [q1] at e; cases e
  | some p =>
    cases q2 : pyD 12 cs dy with
    | none => rw [q1, q2] at e; cases e
    | some q =>
      rw [q1, q2] at e
      cases e
      have h1 := pyD_ok (K := K) R 12 x dx p r1 q1
      have h2 := pyD_ok (K := K) R 12 y dy q r2 q2
      rw [eqP_ok 12 p q h1.2.2] at k
      exact ⟨p, q, h1.1, h2.1, pyD_shaped h1, pyD_shaped h2, k W _ H (Le.refl W) R .bl⟩
theorem snd_ne {K : PySem.W.Frag} : Snd2 (rNeD K) gNe := by
  intro T W cs H x y dx dy d cs' Q R r1 r2 e k
  unfold gNe at e
  cases q1 : pyD 12 cs dx with
  | none => rw [q1] at e; cases e
  | some p =>
    cases q2 : pyD 12 cs dy with
    | none => rw [q1, q2] at e; cases e
    | some q =>
      rw [q1, q2] at e
      cases e
      have h1 := pyD_ok (K := K) R 12 x dx p r1 q1
      have h2 := pyD_ok (K := K) R 12 y dy q r2 q2
      rw [eqP_ok 12 p q h1.2.2] at k
      exact ⟨p, q, h1.1, h2.1, pyD_shaped h1, pyD_shaped h2, k W _ H (Le.refl W) R .bl⟩
/-! ### is None -/
def nonD : D → Bool
  | .non => true
  | _ => false
theorem nonD_ok {W : Wd} {v : V} {d : D} (r : RepW W v d) : decide (v = .non) = nonD d := by
  cases r <;> first | rfl | exact decide_eq_false (fun z => by cases z)
def gIsN : G2 := fun x y c => match y with
  | .non => some (.bl (nonD x), c)
  | _ => none
def gNotN : G2 := fun x y c => match y with
  | .non => some (.bl (!nonD x), c)
  | _ => none
theorem snd_isN : Snd2 (fun x y H Q => y = .non ∧ Q (.bl (decide (x = .non))) H) gIsN := by
  intro T W cs H x y dx dy d cs' Q R r1 r2 e k
  cases dy with
  | non =>
    cases e
    cases r2
    refine ⟨rfl, ?_⟩
    rw [nonD_ok r1]
    exact k W _ H (Le.refl W) R .bl
  | _ => cases e
theorem snd_notN : Snd2 (fun x y H Q => y = .non ∧ Q (.bl (!decide (x = .non))) H) gNotN := by
  intro T W cs H x y dx dy d cs' Q R r1 r2 e k
  cases dy with
  | non =>
    cases e
    cases r2
    refine ⟨rfl, ?_⟩
    rw [nonD_ok r1]
    exact k W _ H (Le.refl W) R .bl
  | _ => cases e
/-! ### in, not in: ints -/
def memI (i : Int) : List Int → Bool
  | [] => false
  | x :: r => x == i || memI i r
theorem memI_inV (i : Int) : ∀ ns : List Int, inV (.int i) (ns.map V.int) = memI i ns
  | [] => rfl
  | n :: r => by
    show ((n == i) || inV (.int i) (r.map V.int)) = _
    rw [memI_inV i r]
    rfl
theorem flat_ints : ∀ ns : List Int, (ns.map V.int).all flatV = true
  | [] => rfl
  | _ :: r => by
    rw [List.map_cons, List.all_cons, flat_ints r]
    rfl
def gIn (neg : Bool) : G2 := fun x y c => match x with
  | .int i => (match seqD c y with
    | some (_, xs) => (match intsD xs with
      | some ns => some (.bl (cond neg (!memI i ns) (memI i ns)), c)
      | none => none)
    | none => none)
  | _ => none
theorem snd_in {K : PySem.W.Frag} {neg : Bool} : Snd2 (rIn K neg) (gIn neg) := by
  intro T W cs H x y dx dy d cs' Q R r1 r2 e k
  cases dx with
  | int i =>
    obtain rfl := rep_int r1
    have e : (match seqD cs dy with
      | some (_, xs) => (match intsD xs with
        | some ns => some (D.bl (cond neg (!memI i ns) (memI i ns)), cs)
        | none => none)
      | none => none) = some (d, cs') := e
    cases q : seqD cs dy with
    | none => rw [q] at e; cases e
    | some p =>
      obtain ⟨b, xs⟩ := p
      rw [q] at e
      have e : (match intsD xs with
        | some ns => some (D.bl (cond neg (!memI i ns) (memI i ns)), cs)
        | none => none) = some (d, cs') := e
      cases q2 : intsD xs with
      | none => rw [q2] at e; cases e
      | some ns =>
        rw [q2] at e
        cases e
        obtain ⟨a, vs, rfl, hs, rr⟩ := seqLT (K := K) R r2 q
        have ev := intsD_ok rr q2
        subst ev
        refine ⟨a, _, rfl, hs, rfl, flat_ints ns, ?_⟩
        rw [memI_inV]
        cases neg with
        | true => exact k W _ H (Le.refl W) R .bl
        | false => exact k W _ H (Le.refl W) R .bl
  | _ => cases e
/-! ### in: data in a list -/
def anyP (q : PyData) : List PyData → Bool
  | [] => false
  | p :: r => eqP 13 p q || anyP q r
def gInD : G2 := fun x y c => match pyD 12 c x with
  | some p => (match pyD 12 c y with
    | some (.list qs) => some (.bl (anyP p qs), c)
    | _ => none)
  | none => none
theorem anyP_ok {p : PyData} : ∀ {qs : List PyData}, PyData.depthAll qs ≤ 12 → anyP p qs = qs.any fun z => PyData.eqv z p
  | [], _ => rfl
  | q :: r, h => by
    simp only [PyData.depthAll] at h
    show (eqP 13 q p || anyP p r) = _
    rw [eqP_ok 12 q p (by omega), anyP_ok (by omega), List.any_cons]
theorem snd_inD {K : PySem.W.Frag} : Snd2 (rInD K) gInD := by
  intro T W cs H x y dx dy d cs' Q R r1 r2 e k
  unfold gInD at e
  cases q1 : pyD 12 cs dx with
  | none => rw [q1] at e; cases e
  | some p =>
    cases q2 : pyD 12 cs dy with
    | none => rw [q1, q2] at e; cases e
    | some q =>
      rw [q1, q2] at e
      cases q with
      | list qs =>
        cases e
        have h1 := pyD_ok (K := K) R 12 x dx p r1 q1
        have h2 := pyD_ok (K := K) R 12 y dy _ r2 q2
        have hd : PyData.depthAll qs ≤ 12 := by
          have := h2.2.2
          simp only [PyData.depth] at this
          omega
        rw [anyP_ok hd] at k
        exact ⟨p, qs, h1.1, h2.1, pyD_shaped h1, pyD_shaped h2, k W _ H (Le.refl W) R .bl⟩
      | _ => cases e
/-! ### subscripts -/
def ixD (n : Nat) (i : Int) : Option Nat := match i with
  | .ofNat k => (match Nat.blt k n with
    | true => some k
    | false => none)
  | .negSucc k => (match Nat.blt k n with
    | true => some (n - (k + 1))
    | false => none)
theorem ixD_ok {n : Nat} {i : Int} {j : Nat} (h : ixD n i = some j) : ixN n i = some j := by
  unfold ixN
  cases i with
  | ofNat k =>
    have h : (match Nat.blt k n with | true => some k | false => none) = some j := h
    cases q : Nat.blt k n with
    | false => rw [q] at h; cases h
    | true =>
      rw [q] at h
      cases h
      have hk : j < n := Nat.le_of_ble_eq_true q
      rw [if_pos (by show (0 : Int) ≤ ((j : Nat) : Int); omega), if_pos (by show ((j : Nat) : Int) < _; omega)]
      rfl
  | negSucc k =>
    have h : (match Nat.blt k n with | true => some (n - (k + 1)) | false => none) = some j := h
    cases q : Nat.blt k n with
    | false => rw [q] at h; cases h
    | true =>
      rw [q] at h
      cases h
      have hk : k < n := Nat.le_of_ble_eq_true q
      rw [Int.negSucc_eq, if_neg (by omega), if_pos (by omega)]
      congr 1
      omega
def gIx : G2 := fun x y c => match y with
  | .int i => (match seqD c x with
    | some (_, xs) => (match ixD xs.length i with
      | some j => (match nth xs j with
        | some d => some (d, c)
        | none => none)
      | none => none)
    | none => none)
  | _ => none
theorem at_ok {W : Wd} {vs : List V} {xs : List D} (rr : RepLW W vs xs) {i : Int} {j : Nat} {d : D} (h1 : ixD xs.length i = some j) (h2 : nth xs j = some d) : ∃ v, atI vs i = some v ∧ RepW W v d := by
  rw [nth_eq] at h2
  obtain ⟨v, hv, rv⟩ := rr.get h2
  refine ⟨v, ?_, rv⟩
  unfold atI
  rw [rr.length, ixD_ok h1]
  exact hv
theorem snd_ix {K : PySem.W.Frag} : Snd2 (rIx K) gIx := by
  intro T W cs H x y dx dy d cs' Q R r1 r2 e k
  cases dy with
  | int i =>
    obtain rfl := rep_int r2
    have e : (match seqD cs dx with
      | some (_, xs) => (match ixD xs.length i with
        | some j => (match nth xs j with
          | some d => some (d, cs)
          | none => none)
        | none => none)
      | none => none) = some (d, cs') := e
    cases q : seqD cs dx with
    | none => rw [q] at e; cases e
    | some p =>
      obtain ⟨b, xs⟩ := p
      rw [q] at e
      have e : (match ixD xs.length i with
        | some j => (match nth xs j with
          | some d => some (d, cs)
          | none => none)
        | none => none) = some (d, cs') := e
      cases q2 : ixD xs.length i with
      | none => rw [q2] at e; cases e
      | some j =>
        rw [q2] at e
        have e : (match nth xs j with
          | some d => some (d, cs)
          | none => none) = some (d, cs') := e
        cases q3 : nth xs j with
        | none => rw [q3] at e; cases e
        | some d2 =>
          rw [q3] at e
          cases e
          obtain ⟨a, vs, rfl, hs, rr⟩ := seqLT (K := K) R r1 q
          obtain ⟨v, hv, rv⟩ := at_ok rr q2 q3
          rcases hs with hs | hs
          · exact .inl ⟨a, vs, i, v, rfl, rfl, hs, hv, k W _ H (Le.refl W) R rv⟩
          · exact .inr (.inl ⟨a, vs, i, v, rfl, rfl, hs, hv, k W _ H (Le.refl W) R rv⟩)
  | _ => cases e
/-! ### slices -/
abbrev XO := Sl → Cs → Option (Option Int × Cs)
def tO (T : Tb) (x : XO) : TO := fun σ H Q => ∃ W sl cs d cs', RelS W sl σ ∧ Rel T W cs H ∧ x sl cs = some (d, cs') ∧ ∀ W' H', Le W W' → Rel T W' cs' H' → Q d H'
def xoNone : XO := fun _ cs => some (none, cs)
def xoSome (a : XE) : XO := fun sl cs => bnd (a sl cs) fun d c => match d with
  | .int i => some (some i, c)
  | _ => none
section
variable {X : Cx} {e : Expr} {xe : XE} {lo hi : Option Expr} {xl xh : XO} {pos p2 : Pos}
theorem xo_none : PO X none (tO T xoNone) := ⟨fun pins s σ H Q I h => by
  obtain ⟨W, sl, cs, d, cs', hs, hr, e, k⟩ := h
  cases e
  exact po_none.run pins s σ H Q I (k W H (Le.refl W) hr)⟩
theorem xo_some (h : PE X e (tE T xe)) : PO X (some e) (tO T (xoSome xe)) := ⟨fun pins s σ H Q I h2 => by
  obtain ⟨W, sl, cs, d, cs', hs, hr, e, k⟩ := h2
  obtain ⟨x, c1, ea, e⟩ := bnd_some e
  refine (po_some h).run pins s σ H Q I ⟨W, sl, cs, x, c1, hs, hr, ea, fun W1 v1 H1 l1 r1 p1 => ?_⟩
  cases x with
  | int i =>
    cases e
    obtain rfl := rep_int p1
    exact ⟨i, rfl, k W1 H1 l1 r1⟩
  | _ => cases e⟩
def sIxD (n d : Nat) : Option Int → Nat
  | none => d
  | some (.ofNat k) => (match Nat.ble k n with
    | true => k
    | false => n)
  | some (.negSucc k) => n - (k + 1)
theorem sIxD_ok (n d : Nat) : ∀ o : Option Int, sIxD n d o = HT.sIx n d o
  | none => rfl
  | some (.ofNat k) => by
    have e : HT.sIx n d (some (Int.ofNat k)) = min k n := HT.sIx_nat n d k
    rw [e]
    show (match Nat.ble k n with | true => k | false => n) = min k n
    cases q : Nat.ble k n with
    | true =>
      have := Nat.le_of_ble_eq_true q
      show k = _
      omega
    | false =>
      have : ¬ k ≤ n := fun h => by rw [Nat.ble_eq_true_of_le h] at q; cases q
      show n = _
      omega
  | some (.negSucc k) => by
    have e : HT.sIx n d (some (Int.negSucc k)) = (Int.negSucc k + (n : Int)).toNat := if_pos (Int.negSucc_lt_zero k)
    rw [e, Int.negSucc_eq]
    show n - (k + 1) = _
    omega
def cutD (xs : List D) (lo hi : Option Int) : List D := (xs.drop (sIxD xs.length 0 lo)).take (sIxD xs.length xs.length hi - sIxD xs.length 0 lo)
theorem cut_rep {W : Wd} {vs : List V} {xs : List D} (rr : RepLW W vs xs) (lo hi : Option Int) : RepLW W (cutV vs lo hi) (cutD xs lo hi) := by
  unfold cutV cutD
  rw [sIxD_ok, sIxD_ok, rr.length]
  exact (rr.drop _).take _
def gSl (x : D) (lo hi : Option Int) (c : Cs) : Option (D × Cs) := match seqD c x with
  | some (false, xs) => newL c (cutD xs lo hi)
  | some (true, xs) => (match Nat.beq (sIxD xs.length 0 lo) 0 && Nat.beq (sIxD xs.length xs.length hi) xs.length with
    | true => some (x, c)
    | false => some (.tup (cutD xs lo hi), c))
  | none => none
def rSlQ (K : PySem.W.Frag) : V → Option Int → Option Int → Hp → VK → Prop := fun x lo hi H Q => rSlL K x lo hi H Q ∨ rSlA K x lo hi H Q
def xSl (a : XE) (l h : XO) : XE := fun sl cs => bnd (a sl cs) fun x c => bnd (l sl c) fun lo c1 => bnd (h sl c1) fun hi c2 => gSl x lo hi c2
theorem xe_sl (he : PE X e (tE T xe)) (hl : PO X lo (tO T xl)) (hu : PO X hi (tO T xh)) : PE X (.Subscript e (.Slice lo hi none p2) pos) (tE T (xSl xe xl xh)) := (pe_slice (r := rSlQ X.K) (SlR.or L2.sl_list sl_tupA) he hl hu).weak fun σ H Q h => by
  obtain ⟨W, sl, cs, d, cs', hs, hr, e, k⟩ := h
  obtain ⟨x, c1, ea, e⟩ := bnd_some e
  obtain ⟨lo, c2, el, e⟩ := bnd_some e
  obtain ⟨hi, c3, eh, e⟩ := bnd_some e
  refine ⟨W, sl, cs, x, c1, hs, hr, ea, fun W1 v1 H1 l1 r1 p1 => ⟨W1, sl, c1, lo, c2, hs.le l1, r1, el, fun W2 H2 l2 r2 => ⟨W2, sl, c2, hi, c3, hs.le (l1.trans l2), r2, eh, fun W3 H3 l3 r3 => ?_⟩⟩⟩
  have p3 := p1.le (l2.trans l3)
  have l13 := l1.trans (l2.trans l3)
  unfold gSl at e
  cases q : seqD c3 x with
  | none => rw [q] at e; cases e
  | some p =>
    obtain ⟨b, xs⟩ := p
    rw [q] at e
    obtain ⟨a, vs, rfl, hs2, rr⟩ := r3.seq p3 q
    cases b with
    | false =>
      cases e
      refine .inl ⟨a, vs, rfl, seqO_l hs2, fun p hp => ?_⟩
      obtain ⟨W4, l4, R4, rp⟩ := r3.newLst hp (cut_rep rr lo hi)
      exact k W4 _ _ (l13.trans l4) R4 rp
    | true =>
      have e : (match Nat.beq (sIxD xs.length 0 lo) 0 && Nat.beq (sIxD xs.length xs.length hi) xs.length with
        | true => some (x, c3)
        | false => some (D.tup (cutD xs lo hi), c3)) = some (d, cs') := e
      refine .inr ⟨a, vs, rfl, seqO_t hs2, fun hw => ?_, fun hw p hp => ?_⟩
      · have eq : (Nat.beq (sIxD xs.length 0 lo) 0 && Nat.beq (sIxD xs.length xs.length hi) xs.length) = true := by
          rw [sIxD_ok, sIxD_ok, ← rr.length, hw.1, hw.2, Nat.beq_refl, Nat.beq_refl]
          rfl
        rw [eq] at e
        cases e
        exact k W3 _ _ l13 r3 p3
      · have eq : (Nat.beq (sIxD xs.length 0 lo) 0 && Nat.beq (sIxD xs.length xs.length hi) xs.length) = false := by
          cases z : (Nat.beq (sIxD xs.length 0 lo) 0 && Nat.beq (sIxD xs.length xs.length hi) xs.length) with
          | false => rfl
          | true =>
            obtain ⟨z1, z2⟩ := Bool.and_eq_true_iff.mp z
            have z1 := Nat.eq_of_beq_eq_true z1
            have z2 := Nat.eq_of_beq_eq_true z2
            rw [sIxD_ok] at z1 z2
            rw [rr.length] at hw
            exact absurd ⟨z1, z2⟩ hw
        rw [eq] at e
        cases e
        obtain ⟨W4, l4, R4, rp⟩ := r3.newTup hp (cut_rep rr lo hi)
        exact k W4 _ _ (l13.trans l4) R4 rp
def xRev (a : XE) : XE := fun sl cs => bnd (a sl cs) fun x c => match seqD c x with
  | some (false, xs) => newL c xs.reverse
  | _ => none
theorem xe_rev {k : Nat} {p1 p3 : Pos} (he : PE X e (tE T xe)) : PE X (.Subscript e (.Slice none none (some (.UnaryOp .USub (.Constant (.int 1) k p1) p2)) p3) pos) (tE T (xRev xe)) := (pe_revL he).weak fun σ H Q h => by
  obtain ⟨W, sl, cs, d, cs', hs, hr, e, k⟩ := h
  obtain ⟨x, c1, ea, e⟩ := bnd_some e
  refine ⟨W, sl, cs, x, c1, hs, hr, ea, fun W1 v1 H1 l1 r1 p1 => ?_⟩
  cases q : seqD c1 x with
  | none => rw [q] at e; cases e
  | some p =>
    obtain ⟨b, xs⟩ := p
    rw [q] at e
    cases b with
    | true => cases e
    | false =>
      cases e
      obtain ⟨a, vs, rfl, hs2, rr⟩ := r1.seq p1 q
      refine ⟨a, vs, rfl, seqO_l hs2, fun p hp => ?_⟩
      obtain ⟨W4, l4, R4, rp⟩ := r1.newLst hp rr.reverse
      exact k W4 _ _ (l1.trans l4) R4 rp
end
/-! ### list(range(..)) -/
def rgL (lo : Int) : Nat → List D
  | 0 => []
  | n + 1 => .int lo :: rgL (lo + 1) n
theorem rgL_rep {I : Hp} {al : List Addr} : ∀ (n : Nat) (lo : Int), RepL I al ((List.range n).map fun i => V.int (lo + (i : Nat))) (rgL lo n)
  | 0, lo => .nil
  | n + 1, lo => by
    rw [List.range_succ_eq_map, List.map_cons, List.map_map]
    have e : (fun i : Nat => V.int (lo + (i : Nat))) ∘ Nat.succ = fun i : Nat => V.int (lo + 1 + (i : Nat)) := by
      funext i
      show V.int (lo + ((i + 1 : Nat) : Int)) = V.int (lo + 1 + (i : Nat))
      congr 1
      omega
    rw [e]
    have e2 : lo + ((0 : Nat) : Int) = lo := by omega
    show RepL I al (V.int (lo + ((0 : Nat) : Int)) :: _) (D.int lo :: rgL (lo + 1) n)
    rw [e2]
    exact .cons .int (rgL_rep n (lo + 1))
def smallR (n : Nat) : Bool := Nat.ble n 4096
def xRgL (a b : XE) : XE := fun sl cs => bnd (a sl cs) fun x c => bnd (b sl c) fun y c2 => match x, y with
  | .int i, .int j => (match okI i && okI j && smallR (j - i).toNat with
    | true => newL c2 (rgL i (j - i).toNat)
    | false => none)
  | _, _ => none
def xRgL1 (b : XE) : XE := fun sl cs => bnd (b sl cs) fun y c2 => match y with
  | .int j => (match okI j && smallR j.toNat with
    | true => newL c2 (rgL 0 j.toNat)
    | false => none)
  | _ => none
section
variable {X : Cx} {a b : Expr} {xa xb : XE} {p p2 pos pos2 : Pos}
theorem xe_rgL1 (hc : X.calm = true) (hl : Gl X "list") (ml : X.mg "list" = none) (hg : Gl X "range") (hm : X.mg "range" = none) (ha : PE X a (tE T xa)) (na : starEach [a] X.env = (false, eval a X.env) :: starEach [] X.env := by rfl)
    (n1 : starEach [.Call (.Name "range" p2) [a] [] pos2] X.env = (false, eval (.Call (.Name "range" p2) [a] [] pos2) X.env) :: starEach [] X.env := by rfl) :
    PE X (.Call (.Name "list" p) [.Call (.Name "range" p2) [a] [] pos2] [] pos) (tE T (xRgL1 xa)) := (pe_listRg hc hl ml (prg_1 hg hm ha na) n1).weak fun σ H Q h => by
  obtain ⟨W, sl, cs, d, cs', hs, hr, e, k⟩ := h
  obtain ⟨y, c1, ea, e⟩ := bnd_some e
  refine ⟨W, sl, cs, y, c1, hs, hr, ea, fun W1 v1 H1 l1 r1 p1 => ?_⟩
  cases y with
  | int j =>
    obtain rfl := rep_int p1
    have e : (match okI j && smallR j.toNat with
      | true => newL c1 (rgL 0 j.toNat)
      | false => none) = some (d, cs') := e
    cases q : (okI j && smallR j.toNat) with
    | false => rw [q] at e; cases e
    | true =>
      rw [q] at e
      cases e
      obtain ⟨q1, q2⟩ := Bool.and_eq_true_iff.mp q
      obtain ⟨b1, b2⟩ := okI_b q1
      have q2 := Nat.le_of_ble_eq_true (show Nat.ble j.toNat 4096 = true from q2)
      have ej : (j - 0).toNat = j.toNat := by rw [Int.sub_zero]
      refine ⟨j, rfl, ⟨by omega, by omega, b1, b2, by rw [ej]; omega⟩, fun p hp => ?_⟩
      obtain ⟨W4, l4, R4, rp⟩ := r1.newLst hp (rgL_rep (I := W1.I) (al := W1.al) j.toNat 0)
      unfold rgV
      rw [ej]
      exact k W4 _ _ (l1.trans l4) R4 rp
  | _ => cases e
theorem xe_rgL2 (hc : X.calm = true) (hl : Gl X "list") (ml : X.mg "list" = none) (hg : Gl X "range") (hm : X.mg "range" = none) (ha : PE X a (tE T xa)) (hb : PE X b (tE T xb)) (na : starEach [a, b] X.env = (false, eval a X.env) :: starEach [b] X.env := by rfl)
    (nb : starEach [b] X.env = (false, eval b X.env) :: starEach [] X.env := by rfl) (hp : (backTo pos2 (starEach [b] X.env)).any (·.1) = false := by rfl)
    (n1 : starEach [.Call (.Name "range" p2) [a, b] [] pos2] X.env = (false, eval (.Call (.Name "range" p2) [a, b] [] pos2) X.env) :: starEach [] X.env := by rfl) :
    PE X (.Call (.Name "list" p) [.Call (.Name "range" p2) [a, b] [] pos2] [] pos) (tE T (xRgL xa xb)) := (pe_listRg hc hl ml (prg_2 hg hm ha hb na nb hp) n1).weak fun σ H Q h => by
  obtain ⟨W, sl, cs, d, cs', hs, hr, e, k⟩ := h
  obtain ⟨x, c1, ea, e⟩ := bnd_some e
  obtain ⟨y, c2, eb, e⟩ := bnd_some e
  refine ⟨W, sl, cs, x, c1, hs, hr, ea, fun W1 v1 H1 l1 r1 p1 => ⟨W1, sl, c1, y, c2, hs.le l1, r1, eb, fun W2 v2 H2 l2 r2 p2 => ?_⟩⟩
  cases x with
  | int i =>
    cases y with
    | int j =>
      obtain rfl := rep_int p1
      obtain rfl := rep_int p2
      have e : (match okI i && okI j && smallR (j - i).toNat with
        | true => newL c2 (rgL i (j - i).toNat)
        | false => none) = some (d, cs') := e
      cases q : (okI i && okI j && smallR (j - i).toNat) with
      | false => rw [q] at e; cases e
      | true =>
        rw [q] at e
        cases e
        obtain ⟨q12, q3⟩ := Bool.and_eq_true_iff.mp q
        obtain ⟨q1, q2⟩ := Bool.and_eq_true_iff.mp q12
        obtain ⟨b1, b2⟩ := okI_b q1
        obtain ⟨b3, b4⟩ := okI_b q2
        have q3 := Nat.le_of_ble_eq_true (show Nat.ble (j - i).toNat 4096 = true from q3)
        refine ⟨i, j, rfl, rfl, ⟨b1, b2, b3, b4, by omega⟩, fun p hp => ?_⟩
        obtain ⟨W4, l4, R4, rp⟩ := r2.newLst hp (rgL_rep (I := W2.I) (al := W2.al) (j - i).toNat i)
        exact k W4 _ _ (l1.trans (l2.trans l4)) R4 rp
    | _ => cases e
  | _ => cases e
end
end XL
end
section
set_option maxRecDepth 100000
/-! XJ: dicts, methods of lists, stores, walks, calls of several kinds. -/
namespace XL
open PySem PySem.Spec PyProof.Rows L2
variable {T : Tb}

/-! ### dicts with ints as keys -/
def getD : List (Int × D) → Int → Option D
  | [], _ => none
  | (k, v) :: r, i => match k == i with
    | true => some v
    | false => getD r i
def hasD : List (Int × D) → Int → Bool
  | [], _ => false
  | (k, _) :: r, i => k == i || hasD r i
def updD : List (Int × D) → Int → D → List (Int × D)
  | [], _, _ => []
  | (k, v) :: r, i, d => (match k == i with
    | true => (k, d)
    | false => (k, v)) :: updD r i d
def putD (kvs : List (Int × D)) (i : Int) (d : D) : List (Int × D) := match hasD kvs i with
  | true => updD kvs i d
  | false => kvs ++ [(i, d)]
/-- the table at hand -/
inductive RepK (I : Hp) (al : List Addr) : List (L2.Key × V) → List (Int × D) → Prop
  | nil : RepK I al [] []
  | cons {k : Int} {v : V} {d : D} {ps : List (L2.Key × V)} {kvs : List (Int × D)} : Rep I al v d → RepK I al ps kvs → RepK I al ((.inl k, v) :: ps) ((k, d) :: kvs)
theorem RepK.of {I : Hp} {al : List Addr} : ∀ {ps : List (L2.Key × V)} {kvs : List (Int × D)}, ps.map (·.1) = kvs.map (fun p => Sum.inl p.1) → RepL I al (ps.map (·.2)) (kvs.map (·.2)) → RepK I al ps kvs
  | [], [], _, _ => .nil
  | [], _ :: _, h, _ => by cases h
  | _ :: _, [], h, _ => by cases h
  | (k, v) :: ps, (k2, d) :: kvs, h, r => by
    have h : k :: ps.map (·.1) = Sum.inl k2 :: kvs.map (fun p => Sum.inl p.1) := h
    injection h with h1 h2
    subst h1
    have r : RepL I al (v :: ps.map (·.2)) (d :: kvs.map (·.2)) := r
    cases r with
    | cons r t => exact .cons r (RepK.of h2 t)
theorem RepK.to {I : Hp} {al : List Addr} {ps : List (L2.Key × V)} {kvs : List (Int × D)} (h : RepK I al ps kvs) : ps.map (·.1) = kvs.map (fun p => Sum.inl p.1) ∧ RepL I al (ps.map (·.2)) (kvs.map (·.2)) := by
  induction h with
  | nil => exact ⟨rfl, .nil⟩
  | cons r t ih => exact ⟨congrArg (_ :: ·) ih.1, .cons r ih.2⟩
theorem RepK.length {I : Hp} {al : List Addr} {ps : List (L2.Key × V)} {kvs : List (Int × D)} (h : RepK I al ps kvs) : ps.length = kvs.length := by
  induction h with
  | nil => rfl
  | cons r t ih => rw [List.length_cons, List.length_cons, ih]
theorem keyEq {k i : Int} : decide ((Sum.inl k : L2.Key) = Sum.inl i) = (k == i) := key_ll k i
theorem RepK.get {I : Hp} {al : List Addr} {i : Int} : ∀ {ps : List (L2.Key × V)} {kvs : List (Int × D)}, RepK I al ps kvs → (∀ d, getD kvs i = some d → ∃ v, valV ps (.inl i) = some v ∧ Rep I al v d) ∧ (valV ps (.inl i)).isSome = hasD kvs i
  | _, _, .nil => ⟨fun d h => (by cases h), rfl⟩
  | _, _, .cons (k := k) (v := v) (d := d) (ps := ps) (kvs := kvs) r t => by
    obtain ⟨h1, h2⟩ := t.get (i := i)
    cases q : k == i with
    | true =>
      have e : (Sum.inl k : L2.Key) = Sum.inl i := by rw [beq_iff_eq.mp q]
      refine ⟨fun d2 h => ?_, ?_⟩
      · have h : (match k == i with | true => some d | false => getD kvs i) = some d2 := h
        rw [q] at h
        cases h
        exact ⟨v, valV_pos (p := (Sum.inl k, v)) e, r⟩
      · rw [valV_pos (p := (Sum.inl k, v)) e]
        show true = (k == i || hasD kvs i)
        rw [q]
        rfl
    | false =>
      have e : ¬ (Sum.inl k : L2.Key) = Sum.inl i := fun z => by
        have z : k = i := Sum.inl.inj z
        rw [z] at q
        simp at q
      refine ⟨fun d2 h => ?_, ?_⟩
      · have h : (match k == i with | true => some d | false => getD kvs i) = some d2 := h
        rw [q] at h
        rw [valV_neg (p := (Sum.inl k, v)) e]
        exact h1 d2 h
      · rw [valV_neg (p := (Sum.inl k, v)) e, h2]
        show _ = (k == i || hasD kvs i)
        rw [q]
        rfl
theorem RepK.any {I : Hp} {al : List Addr} {i : Int} : ∀ {ps : List (L2.Key × V)} {kvs : List (Int × D)}, RepK I al ps kvs → (ps.any fun kv => decide (kv.1 = Sum.inl i)) = hasD kvs i
  | _, _, .nil => rfl
  | _, _, .cons (k := k) (v := v) (d := d) (ps := ps) (kvs := kvs) r t => by
    rw [List.any_cons, t.any]
    show (decide ((Sum.inl k : L2.Key) = Sum.inl i) || hasD kvs i) = (k == i || hasD kvs i)
    rw [keyEq]
theorem RepK.upd {I : Hp} {al : List Addr} {i : Int} {v : V} {d : D} (rv : Rep I al v d) : ∀ {ps : List (L2.Key × V)} {kvs : List (Int × D)}, RepK I al ps kvs → RepK I al (ps.map fun kv => if kv.1 = Sum.inl i then (kv.1, v) else kv) (updD kvs i d)
  | _, _, .nil => .nil
  | _, _, .cons (k := k) (v := v2) (d := d2) (ps := ps) (kvs := kvs) r t => by
    have ih := RepK.upd (i := i) rv t
    show RepK I al ((if (Sum.inl k : L2.Key) = Sum.inl i then (Sum.inl k, v) else (Sum.inl k, v2)) :: _) ((match k == i with | true => (k, d) | false => (k, d2)) :: updD kvs i d)
    cases q : k == i with
    | true =>
      have e : (Sum.inl k : L2.Key) = Sum.inl i := by rw [beq_iff_eq.mp q]
      rw [if_pos e]
      exact .cons rv ih
    | false =>
      have e : ¬ (Sum.inl k : L2.Key) = Sum.inl i := fun z => by
        have z : k = i := Sum.inl.inj z
        rw [z] at q
        simp at q
      rw [if_neg e]
      exact .cons r ih
theorem RepK.app {I : Hp} {al : List Addr} {k : Int} {v : V} {d : D} (rv : Rep I al v d) : ∀ {ps : List (L2.Key × V)} {kvs : List (Int × D)}, RepK I al ps kvs → RepK I al (ps ++ [(.inl k, v)]) (kvs ++ [(k, d)])
  | _, _, .nil => .cons rv .nil
  | _, _, .cons r t => .cons r (RepK.app rv t)
theorem RepK.put {I : Hp} {al : List Addr} {i : Int} {v : V} {d : D} (rv : Rep I al v d) {ps : List (L2.Key × V)} {kvs : List (Int × D)} (h : RepK I al ps kvs) : RepK I al (putK ps (.inl i) v) (putD kvs i d) := by
  unfold putK putD
  cases q : hasD kvs i with
  | true =>
    rw [if_pos (by rw [h.any]; exact q)]
    exact h.upd rv
  | false =>
    rw [if_neg (by rw [h.any, q]; exact Bool.false_ne_true)]
    exact h.app rv
def dicAt (c : Cs) (d : D) : Option (Nat × List (Int × D)) := match d with
  | .ref k => (match nth c k with
    | some (.dic kvs) => some (k, kvs)
    | _ => none)
  | _ => none
theorem dicAt_ok {W : Wd} {cs : Cs} {H : Hp} {v : V} {d : D} {k : Nat} {kvs : List (Int × D)} (R : Rel T W cs H) (r : RepW W v d) (h : dicAt cs d = some (k, kvs)) :
    ∃ a ps, v = .ref a ∧ W.al[k]? = some a ∧ cs[k]? = some (.dic kvs) ∧ H a = some (.dK ps) ∧ RepK W.I W.al ps kvs ∧ W.H0 a = none ∧ W.I a = none := by
  cases d with
  | ref j =>
    have h : (match nth cs j with
      | some (.dic kvs) => some (j, kvs)
      | _ => none) = some (k, kvs) := h
    rw [nth_eq] at h
    cases r with
    | ref e =>
      rename_i a
      cases q : cs[j]? with
      | none => rw [q] at h; cases h
      | some cl =>
        rw [q] at h
        cases cl with
        | dic kv2 =>
          cases h
          obtain ⟨h1, h2, ps, h3, h4, h5⟩ := R.cell k a _ e q
          exact ⟨a, ps, rfl, e, q, h3, RepK.of h4 h5, h1, h2⟩
        | _ => cases h
  | _ => cases h
def gDIn (neg : Bool) : G2 := fun x y c => match x with
  | .int i => (match dicAt c y with
    | some (_, kvs) => some (.bl (cond neg (!hasD kvs i) (hasD kvs i)), c)
    | none => none)
  | _ => none
def gDGet : G2 := fun x y c => match y with
  | .int i => (match dicAt c x with
    | some (_, kvs) => (match getD kvs i with
      | some d => some (d, c)
      | none => none)
    | none => none)
  | _ => none
def xDPut (o i v : XE) : XS := fun sl cs => bnd (v sl cs) fun d c => bnd (o sl c) fun x c1 => bnd (i sl c1) fun y c2 => match y with
  | .int j => (match dicAt c2 x with
    | some (k, kvs) => (match Nat.blt kvs.length 4096 with
      | true => some (.nx sl (setN c2 k (.dic (putD kvs j d))))
      | false => none)
    | none => none)
  | _ => none
section
variable {X : Cx} {o i e : Expr} {xo xi xe : XE} {pos pos' : Pos}
theorem weak_din {neg : Bool} {σ : L2.St} {H : Hp} {Q : VK} (h : tE T (xOp (gDIn neg) xi xo) σ H Q) : (fun σ H Q => tE T xi σ H fun y H1 => tE T xo σ H1 fun x H2 => ∃ a o, x = .ref a ∧ DGet H2 a y o ∧ Q (.bl (cond neg (!o.isSome) o.isSome)) H2) σ H Q := by
  obtain ⟨W, sl, cs, d, cs', hs, hr, e, k⟩ := h
  obtain ⟨x, c1, ea, e⟩ := bnd_some e
  obtain ⟨y, c2, eb, e⟩ := bnd_some e
  refine ⟨W, sl, cs, x, c1, hs, hr, ea, fun W1 v1 H1 l1 r1 p1 => ⟨W1, sl, c1, y, c2, hs.le l1, r1, eb, fun W2 v2 H2 l2 r2 p2 => ?_⟩⟩
  cases x with
  | int i =>
    obtain rfl := rep_int p1
    have e : (match dicAt c2 y with
      | some (_, kvs) => some (D.bl (cond neg (!hasD kvs i) (hasD kvs i)), c2)
      | none => none) = some (d, cs') := e
    cases q : dicAt c2 y with
    | none => rw [q] at e; cases e
    | some p =>
      obtain ⟨kk, kvs⟩ := p
      rw [q] at e
      cases e
      obtain ⟨a, ps, rfl, _, _, hH, hK, _⟩ := dicAt_ok r2 p2 q
      refine ⟨a, valV ps (.inl i), rfl, DGet.k (k := .inl i) hH, ?_⟩
      rw [(hK.get (i := i)).2]
      exact k W2 _ H2 (l1.trans l2) r2 .bl
  | _ => cases e
theorem xt_dnotin (hu : X.A.units + 1 < cLine) (hi : PE X i (tE T xi)) (ho : PE X o (tE T xo)) (h1 : behindInMarks .NotIn o = false := by rfl) : PT X (.Compare i [.NotIn] [o] pos) (tT T (xTB (xOp (gDIn true) xi xo))) :=
  (pt_cmp (pc_dnotin hu hi ho) h1).weak fun σ H Q h => weak_din (neg := true) (weak_tb h)
theorem xe_dget (hu : X.A.units + 1 < cLine) (ho : PE X o (tE T xo)) (hi : PE X i (tE T xi)) (hs : NoSl i) : PE X (.Subscript o i pos) (tE T (xOp gDGet xo xi)) := (pe_dget hu ho hi hs).weak fun σ H Q h => by
  obtain ⟨W, sl, cs, d, cs', hs, hr, e, k⟩ := h
  obtain ⟨x, c1, ea, e⟩ := bnd_some e
  obtain ⟨y, c2, eb, e⟩ := bnd_some e
  refine ⟨W, sl, cs, x, c1, hs, hr, ea, fun W1 v1 H1 l1 r1 p1 => ⟨W1, sl, c1, y, c2, hs.le l1, r1, eb, fun W2 v2 H2 l2 r2 p2 => ?_⟩⟩
  cases y with
  | int i =>
    obtain rfl := rep_int p2
    have e : (match dicAt c2 x with
      | some (_, kvs) => (match getD kvs i with
        | some d => some (d, c2)
        | none => none)
      | none => none) = some (d, cs') := e
    cases q : dicAt c2 x with
    | none => rw [q] at e; cases e
    | some p =>
      obtain ⟨kk, kvs⟩ := p
      rw [q] at e
      have e : (match getD kvs i with
        | some d => some (d, c2)
        | none => none) = some (d, cs') := e
      cases q2 : getD kvs i with
      | none => rw [q2] at e; cases e
      | some d2 =>
        rw [q2] at e
        cases e
        obtain ⟨a, ps, rfl, _, _, hH, hK, _⟩ := dicAt_ok r2 (p1.le l2) q
        obtain ⟨v, hv, rv⟩ := (hK.get (i := i)).1 d q2
        refine ⟨a, v, rfl, ?_, k W2 _ H2 (l1.trans l2) r2 rv⟩
        rw [← hv]
        exact DGet.k (k := .inl i) hH
  | _ => cases e
theorem xs_dput (hu : X.A.units + 1 < cLine) (ho : PE X o (tE T xo)) (hi : PE X i (tE T xi)) (hv : PE X e (tE T xe)) (hs : swapsWith e (some (.Subscript o i pos')) pos.line X.env = pure false := by rfl) :
    PS X (.Assign [.Subscript o i pos'] e pos) (tS T (xDPut xo xi xe)) := (ps_dput hu ho hi hv hs).weak fun DD σ H h => by
  obtain ⟨W, sl, cs, ot, hs, hr, e, k⟩ := h
  obtain ⟨d, c0, e0, e⟩ := bnd_some e
  obtain ⟨x, c1, ea, e⟩ := bnd_some e
  obtain ⟨y, c2, eb, e⟩ := bnd_some e
  refine ⟨W, sl, cs, d, c0, hs, hr, e0, fun W0 v0 H0 l0 r0 p0 => ⟨W0, sl, c0, x, c1, hs.le l0, r0, ea, fun W1 v1 H1 l1 r1 p1 => ⟨W1, sl, c1, y, c2, hs.le (l0.trans l1), r1, eb, fun W2 v2 H2 l2 r2 p2 => ?_⟩⟩⟩
  cases y with
  | int j =>
    obtain rfl := rep_int p2
    have e : (match dicAt c2 x with
      | some (k, kvs) => (match Nat.blt kvs.length 4096 with
        | true => some (Out.nx sl (setN c2 k (.dic (putD kvs j d))))
        | false => none)
      | none => none) = some ot := e
    cases q : dicAt c2 x with
    | none => rw [q] at e; cases e
    | some p =>
      obtain ⟨kk, kvs⟩ := p
      rw [q] at e
      have e : (match Nat.blt kvs.length 4096 with
        | true => some (Out.nx sl (setN c2 kk (.dic (putD kvs j d))))
        | false => none) = some ot := e
      cases q2 : Nat.blt kvs.length 4096 with
      | false => rw [q2] at e; cases e
      | true =>
        rw [q2] at e
        cases e
        have l12 := l1.trans l2
        obtain ⟨a, ps, rfl, ha, hc, hH, hK, n0, nI⟩ := dicAt_ok r2 (p1.le l2) q
        refine ⟨a, _, rfl, DPut.k (k := .inl j) hH (by rw [hK.length]; exact line4096' q2), ?_⟩
        have hK2 := hK.put (i := j) (p0.le l12)
        have k : ∀ W' σ H, Le W W' → RelS W' sl σ → Rel T W' (setN c2 kk (.dic (putD kvs j d))) H → DD.nx σ H := k
        rw [setN_eq] at k
        exact k W2 σ _ (l0.trans l12) (hs.le (l0.trans l12)) (r2.put ha hc rfl ⟨n0, nI, _, upd_same, hK2.to.1, hK2.to.2⟩)
  | _ => cases e
end

/-! ### methods of lists -/
def lstAt (c : Cs) (d : D) : Option (Nat × List D) := match d with
  | .ref k => (match nth c k with
    | some (.lst xs) => some (k, xs)
    | _ => none)
  | _ => none
theorem lstAt_ok {W : Wd} {cs : Cs} {H : Hp} {v : V} {d : D} {k : Nat} {xs : List D} (R : Rel T W cs H) (r : RepW W v d) (h : lstAt cs d = some (k, xs)) :
    ∃ a vs, v = .ref a ∧ d = .ref k ∧ W.al[k]? = some a ∧ cs[k]? = some (.lst xs) ∧ H a = some (.lst vs) ∧ RepLW W vs xs ∧ W.H0 a = none ∧ W.I a = none := by
  cases d with
  | ref j =>
    have h : (match nth cs j with
      | some (.lst kvs) => some (j, kvs)
      | _ => none) = some (k, xs) := h
    rw [nth_eq] at h
    cases r with
    | ref e =>
      rename_i a
      cases q : cs[j]? with
      | none => rw [q] at h; cases h
      | some cl =>
        rw [q] at h
        cases cl with
        | lst kv2 =>
          cases h
          obtain ⟨h1, h2, vs, h3, h4⟩ := R.cell k a _ e q
          exact ⟨a, vs, rfl, rfl, e, q, h3, h4, h1, h2⟩
        | _ => cases h
  | _ => cases h
abbrev GM := D → List D → Cs → Option (D × Cs)
def SndM (r : V → List V → Hp → VK → Prop) (g : GM) : Prop := ∀ (T : Tb) (W : Wd) (cs : Cs) (H : Hp) (x : V) (dx : D) (xs : List V) (ds : List D) (d : D) (cs' : Cs) (Q : VK), Rel T W cs H → RepW W x dx → RepLW W xs ds → g dx ds cs = some (d, cs') →
  (∀ W' v H', Le W W' → Rel T W' cs' H' → RepW W' v d → Q v H') → r x xs H Q
def xMt (g : GM) (o : XE) (a : XA) : XE := fun sl cs => bnd (o sl cs) fun x c => match lstAt c x with
  | some _ => bnd (a sl c) fun ds c2 => g x ds c2
  | none => none
theorem weak_mt {K : PySem.W.Frag} {r : V → List V → Hp → VK → Prop} {g : GM} {o : XE} {a : XA} (s : SndM r g) {σ : L2.St} {H : Hp} {Q : VK} (h : tE T (xMt g o a) σ H Q) : tBM K "list" r (tE T o) (tA T a) σ H Q := by
  obtain ⟨W, sl, cs, d, cs', hs, hr, e, k⟩ := h
  obtain ⟨x, c1, ea, e⟩ := bnd_some e
  refine ⟨W, sl, cs, x, c1, hs, hr, ea, fun W1 v1 H1 l1 r1 p1 => ?_⟩
  cases q : lstAt c1 x with
  | none => rw [q] at e; cases e
  | some p =>
    obtain ⟨kk, xs⟩ := p
    rw [q] at e
    obtain ⟨ds, c2, eb, e⟩ := bnd_some e
    obtain ⟨a, vs, rfl, _, _, _, hH, _⟩ := lstAt_ok r1 p1 q
    exact ⟨.inl ⟨rfl, vs, SqL.of hH⟩, W1, sl, c1, ds, c2, hs.le l1, r1, eb, fun W2 us H2 l2 r2 p2 => s T W2 c2 H2 _ x us ds d cs' Q r2 (p1.le l2) p2 e fun W3 v3 H3 l3 r3 p3 => k W3 v3 H3 (l1.trans (l2.trans l3)) r3 p3⟩
theorem weak_mt0 {K : PySem.W.Frag} {r : V → List V → Hp → VK → Prop} {g : GM} {o : XE} (s : SndM r g) {σ : L2.St} {H : Hp} {Q : VK} (h : tE T (xMt g o xaNil) σ H Q) : tBM0 K "list" r (tE T o) σ H Q := by
  obtain ⟨W, sl, cs, d, cs', hs, hr, e, k⟩ := h
  obtain ⟨x, c1, ea, e⟩ := bnd_some e
  refine ⟨W, sl, cs, x, c1, hs, hr, ea, fun W1 v1 H1 l1 r1 p1 => ?_⟩
  cases q : lstAt c1 x with
  | none => rw [q] at e; cases e
  | some p =>
    obtain ⟨kk, xs⟩ := p
    rw [q] at e
    obtain ⟨a, vs, rfl, _, _, _, hH, _⟩ := lstAt_ok r1 p1 q
    exact ⟨.inl ⟨rfl, vs, SqL.of hH⟩, s T W1 c1 H1 _ x [] [] d cs' Q r1 p1 .nil e fun W3 v3 H3 l3 r3 p3 => k W3 v3 H3 (l1.trans l3) r3 p3⟩
def gAppend : GM := fun x ds c => match ds with
  | [d] => (match lstAt c x with
    | some (k, xs) => (match Nat.blt xs.length 4096 with
      | true => some (.non, setN c k (.lst (xs ++ [d])))
      | false => none)
    | none => none)
  | _ => none
theorem sm_append : SndM rAppend gAppend := by
  intro T W cs H x dx xs ds d cs' Q R r rl e k
  match ds, e with
  | [d2], e =>
    obtain ⟨v, rfl, rv⟩ := repL1 rl
    have e : (match lstAt cs dx with
      | some (k, xs) => (match Nat.blt xs.length 4096 with
        | true => some (D.non, setN cs k (.lst (xs ++ [d2])))
        | false => none)
      | none => none) = some (d, cs') := e
    cases q : lstAt cs dx with
    | none => rw [q] at e; cases e
    | some p =>
      obtain ⟨kk, ys⟩ := p
      rw [q] at e
      have e : (match Nat.blt ys.length 4096 with
        | true => some (D.non, setN cs kk (.lst (ys ++ [d2])))
        | false => none) = some (d, cs') := e
      cases q2 : Nat.blt ys.length 4096 with
      | false => rw [q2] at e; cases e
      | true =>
        rw [q2] at e
        cases e
        obtain ⟨a, vs, rfl, _, ha, hc, hH, rr, n0, nI⟩ := lstAt_ok R r q
        refine ⟨a, vs, v, rfl, rfl, hH, by rw [rr.length]; exact line4096' q2, ?_⟩
        rw [setN_eq] at k
        exact k W _ _ (Le.refl W) (R.put ha hc rfl ⟨n0, nI, _, upd_same, rr.append (.cons rv .nil)⟩) .non
def gExtend : GM := fun x ds c => match ds with
  | [d] => (match lstAt c x with
    | some (k, xs) => (match lstAt c d with
      | some (_, ys) => (match Nat.ble (xs.length + ys.length) 4096 with
        | true => some (.non, setN c k (.lst (xs ++ ys)))
        | false => none)
      | none => none)
    | none => none)
  | _ => none
theorem sm_extend : SndM rExtend gExtend := by
  intro T W cs H x dx xs ds d cs' Q R r rl e k
  match ds, e with
  | [d2], e =>
    obtain ⟨v, rfl, rv⟩ := repL1 rl
    have e : (match lstAt cs dx with
      | some (k, xs) => (match lstAt cs d2 with
        | some (_, ys) => (match Nat.ble (xs.length + ys.length) 4096 with
          | true => some (D.non, setN cs k (.lst (xs ++ ys)))
          | false => none)
        | none => none)
      | none => none) = some (d, cs') := e
    cases q : lstAt cs dx with
    | none => rw [q] at e; cases e
    | some p =>
      obtain ⟨kk, ys⟩ := p
      rw [q] at e
      have e : (match lstAt cs d2 with
        | some (_, zs) => (match Nat.ble (ys.length + zs.length) 4096 with
          | true => some (D.non, setN cs kk (.lst (ys ++ zs)))
          | false => none)
        | none => none) = some (d, cs') := e
      cases q1 : lstAt cs d2 with
      | none => rw [q1] at e; cases e
      | some p2 =>
        obtain ⟨k2, zs⟩ := p2
        rw [q1] at e
        have e : (match Nat.ble (ys.length + zs.length) 4096 with
          | true => some (D.non, setN cs kk (.lst (ys ++ zs)))
          | false => none) = some (d, cs') := e
        cases q2 : Nat.ble (ys.length + zs.length) 4096 with
        | false => rw [q2] at e; cases e
        | true =>
          rw [q2] at e
          cases e
          obtain ⟨a, vs, rfl, _, ha, hc, hH, rr, n0, nI⟩ := lstAt_ok R r q
          obtain ⟨b, ws, rfl, _, _, _, hH2, rr2, _⟩ := lstAt_ok R rv q1
          refine ⟨a, b, vs, ws, rfl, rfl, hH, hH2, by rw [rr.length, rr2.length]; exact line4096 q2, ?_⟩
          rw [setN_eq] at k
          exact k W _ _ (Le.refl W) (R.put ha hc rfl ⟨n0, nI, _, upd_same, rr.append rr2⟩) .non
def gPop : GM := fun x ds c => match ds with
  | [] => (match lstAt c x with
    | some (k, xs) => (match nth xs (xs.length - 1) with
      | some d => some (d, setN c k (.lst xs.dropLast))
      | none => none)
    | none => none)
  | _ => none
theorem sm_pop : SndM rPop gPop := by
  intro T W cs H x dx xs ds d cs' Q R r rl e k
  match ds, e with
  | [], e =>
    cases rl
    have e : (match lstAt cs dx with
      | some (k, xs) => (match nth xs (xs.length - 1) with
        | some d => some (d, setN cs k (.lst xs.dropLast))
        | none => none)
      | none => none) = some (d, cs') := e
    cases q : lstAt cs dx with
    | none => rw [q] at e; cases e
    | some p =>
      obtain ⟨kk, ys⟩ := p
      rw [q] at e
      have e : (match nth ys (ys.length - 1) with
        | some d => some (d, setN cs kk (.lst ys.dropLast))
        | none => none) = some (d, cs') := e
      cases q2 : nth ys (ys.length - 1) with
      | none => rw [q2] at e; cases e
      | some d2 =>
        rw [q2] at e
        cases e
        obtain ⟨a, vs, rfl, _, ha, hc, hH, rr, n0, nI⟩ := lstAt_ok R r q
        rw [nth_eq] at q2
        obtain ⟨v, hv, rv⟩ := rr.get q2
        refine ⟨a, vs, v, rfl, rfl, hH, by rw [rr.length]; exact hv, ?_⟩
        rw [setN_eq] at k
        exact k W _ _ (Le.refl W) (R.put ha hc rfl ⟨n0, nI, _, upd_same, rr.dropLast⟩) rv
def gPopAt : GM := fun x ds c => match ds with
  | [.int i] => (match lstAt c x with
    | some (k, xs) => (match ixD xs.length i with
      | some j => (match nth xs j with
        | some d => (match smallR xs.length with
          | true => some (d, setN c k (.lst (xs.eraseIdx j)))
          | false => none)
        | none => none)
      | none => none)
    | none => none)
  | _ => none
theorem sm_popAt : SndM rPopAt gPopAt := by
  intro T W cs H x dx xs ds d cs' Q R r rl e k
  match ds, e with
  | [.int i], e =>
    obtain ⟨v, rfl, rv⟩ := repL1 rl
    obtain rfl := rep_int rv
    have e : (match lstAt cs dx with
      | some (k, xs) => (match ixD xs.length i with
        | some j => (match nth xs j with
          | some d => (match smallR xs.length with
            | true => some (d, setN cs k (.lst (xs.eraseIdx j)))
            | false => none)
          | none => none)
        | none => none)
      | none => none) = some (d, cs') := e
    cases q : lstAt cs dx with
    | none => rw [q] at e; cases e
    | some p =>
      obtain ⟨kk, ys⟩ := p
      rw [q] at e
      have e : (match ixD ys.length i with
        | some j => (match nth ys j with
          | some d => (match smallR ys.length with
            | true => some (d, setN cs kk (.lst (ys.eraseIdx j)))
            | false => none)
          | none => none)
        | none => none) = some (d, cs') := e
      cases q1 : ixD ys.length i with
      | none => rw [q1] at e; cases e
      | some j =>
        rw [q1] at e
        have e : (match nth ys j with
          | some d => (match smallR ys.length with
            | true => some (d, setN cs kk (.lst (ys.eraseIdx j)))
            | false => none)
          | none => none) = some (d, cs') := e
        cases q2 : nth ys j with
        | none => rw [q2] at e; cases e
        | some d2 =>
          rw [q2] at e
          have e : (match smallR ys.length with
            | true => some (d2, setN cs kk (.lst (ys.eraseIdx j)))
            | false => none) = some (d, cs') := e
          cases q3 : smallR ys.length with
          | false => rw [q3] at e; cases e
          | true =>
            rw [q3] at e
            cases e
            obtain ⟨a, vs, rfl, _, ha, hc, hH, rr, n0, nI⟩ := lstAt_ok R r q
            rw [nth_eq] at q2
            obtain ⟨v, hv, rv2⟩ := rr.get q2
            have hz := Nat.le_of_ble_eq_true (show Nat.ble ys.length 4096 = true from q3)
            have hx := ixD_ok q1
            rw [← rr.length] at hx hz
            obtain ⟨s1, s2, s3, s4⟩ := ixN_seq hx
            refine ⟨a, vs, i, j, v, rfl, rfl, hH, by omega, by omega, s1, hv, ?_⟩
            rw [setN_eq] at k
            exact k W _ _ (Le.refl W) (R.put ha hc rfl ⟨n0, nI, _, upd_same, rr.eraseIdx j⟩) rv2
end XL
end
section
set_option maxRecDepth 100000
/-! XK: stores, walks of several kinds, dict comprehensions. -/
namespace XL
open PySem PySem.Spec PyProof.Rows L2
variable {T : Tb}

/-! ### methods of lists, the rules -/
section
variable {X : Cx} {o e : Expr} {es : List Expr} {xo : XE} {xa : XA} {apos cpos : Pos}
theorem xe_append (ho : PE X o (tE T xo)) (ha : PA X (e :: es) (tA T xa)) (hbase : attributeBase o "append" X.env (eval o X.env) = eval o X.env := by rfl)
    (hfew : ((backTo cpos (starEach (e :: es) X.env)).all (fun x => !x.1) && (backToKw cpos (keywordEach [] X.env)).all (fun x => x.1.isSome) && decide ((e :: es).length + ([] : List Keyword).length + (if ([] : List Keyword).isEmpty then 0 else 1) < 30)) = true := by rfl)
    (hline : (apos.endLine == cpos.line) = true := by rfl) (hs : starEach (e :: es) X.env = (false, eval e X.env) :: starEach es X.env := by rfl) (hplain : (backTo cpos (starEach es X.env)).any (·.1) = false := by rfl) :
    PE X (.Call (.Attribute o "append" apos) (e :: es) [] cpos) (tE T (xMt gAppend xo xa)) := (pe_bm PySem.F.plainAttrs_list PySem.F.slot_list_append PySem.F.type_list_append mt_append ho ha hbase hfew hline hs hplain).weak fun _ _ _ h => weak_mt sm_append h
theorem xe_extend (ho : PE X o (tE T xo)) (ha : PA X (e :: es) (tA T xa)) (hbase : attributeBase o "extend" X.env (eval o X.env) = eval o X.env := by rfl)
    (hfew : ((backTo cpos (starEach (e :: es) X.env)).all (fun x => !x.1) && (backToKw cpos (keywordEach [] X.env)).all (fun x => x.1.isSome) && decide ((e :: es).length + ([] : List Keyword).length + (if ([] : List Keyword).isEmpty then 0 else 1) < 30)) = true := by rfl)
    (hline : (apos.endLine == cpos.line) = true := by rfl) (hs : starEach (e :: es) X.env = (false, eval e X.env) :: starEach es X.env := by rfl) (hplain : (backTo cpos (starEach es X.env)).any (·.1) = false := by rfl) :
    PE X (.Call (.Attribute o "extend" apos) (e :: es) [] cpos) (tE T (xMt gExtend xo xa)) := (pe_bm PySem.F.plainAttrs_list PySem.F.slot_list_extend PySem.F.type_list_extend mt_extend ho ha hbase hfew hline hs hplain).weak fun _ _ _ h => weak_mt sm_extend h
theorem xe_popAt (ho : PE X o (tE T xo)) (ha : PA X (e :: es) (tA T xa)) (hbase : attributeBase o "pop" X.env (eval o X.env) = eval o X.env := by rfl)
    (hfew : ((backTo cpos (starEach (e :: es) X.env)).all (fun x => !x.1) && (backToKw cpos (keywordEach [] X.env)).all (fun x => x.1.isSome) && decide ((e :: es).length + ([] : List Keyword).length + (if ([] : List Keyword).isEmpty then 0 else 1) < 30)) = true := by rfl)
    (hline : (apos.endLine == cpos.line) = true := by rfl) (hs : starEach (e :: es) X.env = (false, eval e X.env) :: starEach es X.env := by rfl) (hplain : (backTo cpos (starEach es X.env)).any (·.1) = false := by rfl) :
    PE X (.Call (.Attribute o "pop" apos) (e :: es) [] cpos) (tE T (xMt gPopAt xo xa)) := (pe_bm PySem.F.plainAttrs_list PySem.F.slot_list_pop PySem.F.type_list_pop mt_popAt ho ha hbase hfew hline hs hplain).weak fun _ _ _ h => weak_mt sm_popAt h
theorem xe_pop (ho : PE X o (tE T xo)) (hbase : attributeBase o "pop" X.env (eval o X.env) = eval o X.env := by rfl) (hline : (apos.endLine == cpos.line) = true := by rfl) :
    PE X (.Call (.Attribute o "pop" apos) [] [] cpos) (tE T (xMt gPop xo xaNil)) := (pe_bm0 PySem.F.plainAttrs_list PySem.F.slot_list_pop PySem.F.type_list_pop mt_pop ho hbase hline).weak fun _ _ _ h => weak_mt0 sm_pop h
/-! ### t.count(k) -/
def cntI (k : Int) : List Int → Nat
  | [] => 0
  | n :: r => (match n == k with
    | true => cntI k r + 1
    | false => cntI k r)
theorem cntI_eq (k : Int) : ∀ ns : List Int, cntI k ns = ns.countP fun n => n == k
  | [] => rfl
  | n :: r => by
    show (match n == k with | true => cntI k r + 1 | false => cntI k r) = _
    rw [List.countP_cons, cntI_eq k r]
    cases n == k <;> rfl
def xCount (o : XE) (a : XA) : XE := fun sl cs => bnd (o sl cs) fun x c => match x with
  | .ftup xs => bnd (a sl c) fun ds c2 => (match ds with
    | [.int k] => (match intsD xs with
      | some ns => some (.int (cntI k ns), c2)
      | none => none)
    | _ => none)
  | _ => none
theorem xe_count (ho : PE X o (tE T xo)) (ha : PA X (e :: es) (tA T xa)) (hbase : attributeBase o "count" X.env (eval o X.env) = eval o X.env := by rfl)
    (hfew : ((backTo cpos (starEach (e :: es) X.env)).all (fun x => !x.1) && (backToKw cpos (keywordEach [] X.env)).all (fun x => x.1.isSome) && decide ((e :: es).length + ([] : List Keyword).length + (if ([] : List Keyword).isEmpty then 0 else 1) < 30)) = true := by rfl)
    (hline : (apos.endLine == cpos.line) = true := by rfl) (hs : starEach (e :: es) X.env = (false, eval e X.env) :: starEach es X.env := by rfl) (hplain : (backTo cpos (starEach es X.env)).any (·.1) = false := by rfl) :
    PE X (.Call (.Attribute o "count" apos) (e :: es) [] cpos) (tE T (xCount xo xa)) := (pe_tcount ho ha hbase hfew hline hs hplain).weak fun σ H Q h => by
  obtain ⟨W, sl, cs, d, cs', hs, hr, e, k⟩ := h
  obtain ⟨x, c1, ea, e⟩ := bnd_some e
  refine ⟨W, sl, cs, x, c1, hs, hr, ea, fun W1 v1 H1 l1 r1 p1 => ?_⟩
  cases x with
  | ftup xs =>
    obtain ⟨ds, c2, eb, e⟩ := bnd_some e
    cases p1 with
    | ftup ei q =>
      rename_i a vs
      refine ⟨⟨a, vs, rfl, ei.up r1.imm⟩, W1, sl, c1, ds, c2, hs.le l1, r1, eb, fun W2 us H2 l2 r2 p2 => ?_⟩
      match ds, e with
      | [.int kk], e =>
        obtain ⟨w, rfl, rw'⟩ := repL1 p2
        obtain rfl := rep_int rw'
        have e : (match intsD xs with
          | some ns => some (D.int (cntI kk ns), c2)
          | none => none) = some (d, cs') := e
        cases q2 : intsD xs with
        | none => rw [q2] at e; cases e
        | some ns =>
          rw [q2] at e
          cases e
          have ev := intsD_ok q q2
          subst ev
          refine ⟨a, kk, ns, rfl, rfl, (ei.up l2.i).up r2.imm, ?_⟩
          rw [← cntI_eq]
          exact k W2 _ H2 (l1.trans l2) r2 .int
  | _ => cases e
/-! ### sorted(x, key=len), dict(zip(x, y)) -/
theorem xe_sortLen {p q kp pos : Pos} (hu : X.A.units + 64 < cLine) (hg : Gl X "sorted") (hm : X.mg "sorted" = none) (hg2 : Gl X "len") (hm2 : X.mg "len" = none) (ha : PA X [e] (tA T xa))
    (he : backTo pos (starEach [e] X.env) = (false, eval e X.env) :: backTo pos (starEach [] X.env) := by rfl) (hpl : (backTo pos (starEach [e] X.env)).any (·.1) = false := by rfl) :
    PE X (.Call (.Name "sorted" p) [e] [⟨some "key", .Name "len" q, kp⟩] pos) (tE T (xFn gSortLen xa)) := (pe_sortLen hu hg hm hg2 hm2 ha he hpl).weak fun _ _ _ h => weak_fn sl_sortLen h
def putAllD (acc : List (Int × D)) : List Int → List D → List (Int × D)
  | n :: ns, d :: ds => putAllD (putD acc n d) ns ds
  | _, _ => acc
theorem RepK.all {I : Hp} {al : List Addr} : ∀ {ns : List Int} {vs : List V} {ds : List D} {acc : List (L2.Key × V)} {accD : List (Int × D)}, RepL I al vs ds → RepK I al acc accD → RepK I al (putAll acc (ns.zip vs)) (putAllD accD ns ds)
  | [], vs, ds, acc, accD, _, h => by
    cases ds <;> exact h
  | n :: ns, vs, ds, acc, accD, r, h => by
    cases r with
    | nil => exact h
    | cons r t => exact RepK.all (ns := ns) t (h.put r)
def gDictZip : GL := fun ds c => match ds with
  | [x, y] => (match seqD c x with
    | some (false, xs) => (match seqD c y with
      | some (false, ys) => (match intsD xs with
        | some ns => some (.ref c.length, c ++ [.dic (putAllD [] ns ys)])
        | none => none)
      | _ => none)
    | _ => none)
  | _ => none
theorem Rel.newDicOf {W : Wd} {cs : Cs} {H : Hp} (R : Rel T W cs H) {p : Addr} {ps : List (L2.Key × V)} {kvs : List (Int × D)} (hp : H p = none) (h : RepK W.I W.al ps kvs) :
    ∃ W', Le W W' ∧ Rel T W' (cs ++ [.dic kvs]) (upd H p (.dK ps)) ∧ RepW W' (.ref p) (.ref cs.length) := by
  have le : Le W { W with al := W.al ++ [p] } := ⟨rfl, rfl, rfl, rfl, Same.refl _, [p], rfl⟩
  obtain ⟨l, R'⟩ := R.newCell (o := .dK ps) (c := .dic kvs) hp ⟨R.keep.free hp, R.imm.free hp, ps, upd_same, h.to.1, h.to.2.le le⟩
  refine ⟨_, l, R', .ref ?_⟩
  rw [← R.len]
  exact al_last _ _
theorem sl_dictZip {K : PySem.W.Frag} : SndL (rDictZip K) gDictZip := by
  intro T W cs H xs ds d cs' Q R rl e k
  match ds, e with
  | [x, y], e =>
    obtain ⟨v, w, rfl, rv, rw'⟩ := repL2 rl
    have e : (match seqD cs x with
      | some (false, xs) => (match seqD cs y with
        | some (false, ys) => (match intsD xs with
          | some ns => some (D.ref cs.length, cs ++ [.dic (putAllD [] ns ys)])
          | none => none)
        | _ => none)
      | _ => none) = some (d, cs') := e
    cases q : seqD cs x with
    | none => rw [q] at e; cases e
    | some p =>
      obtain ⟨b, xs⟩ := p
      rw [q] at e
      cases b with
      | true => cases e
      | false =>
        have e : (match seqD cs y with
          | some (false, ys) => (match intsD xs with
            | some ns => some (D.ref cs.length, cs ++ [.dic (putAllD [] ns ys)])
            | none => none)
          | _ => none) = some (d, cs') := e
        cases q2 : seqD cs y with
        | none => rw [q2] at e; cases e
        | some p2 =>
          obtain ⟨b2, ys⟩ := p2
          rw [q2] at e
          cases b2 with
          | true => cases e
          | false =>
            have e : (match intsD xs with
              | some ns => some (D.ref cs.length, cs ++ [.dic (putAllD [] ns ys)])
              | none => none) = some (d, cs') := e
            cases q3 : intsD xs with
            | none => rw [q3] at e; cases e
            | some ns =>
              rw [q3] at e
              cases e
              obtain ⟨a, vs, rfl, hs, rr⟩ := R.seq rv q
              obtain ⟨a2, ws, rfl, hs2, rr2⟩ := R.seq rw' q2
              have ev := intsD_ok rr q3
              subst ev
              refine ⟨a, a2, ns, ws, rfl, seqO_l hs, seqO_l hs2, fun p hp => ?_⟩
              obtain ⟨W2, l, R2, r2⟩ := R.newDicOf hp (RepK.all (ns := ns) rr2 RepK.nil)
              exact k W2 _ _ l R2 r2
theorem xe_dictZip {e2 : Expr} {p p2 q pos : Pos} (hc : X.calm = true) (hg : Gl X "dict") (hm : X.mg "dict" = none) (hg2 : Gl X "zip") (hm2 : X.mg "zip" = none) (ha : PA X [e, e2] (tA T xa))
    (hs : starEach [e, e2] X.env = (false, eval e X.env) :: starEach [e2] X.env := by rfl) (hpl : (backTo q (starEach [e2] X.env)).any (·.1) = false := by rfl)
    (na : starEach [.Call (.Name "zip" p2) [e, e2] [] q] X.env = (false, eval (.Call (.Name "zip" p2) [e, e2] [] q) X.env) :: starEach [] X.env := by rfl) :
    PE X (.Call (.Name "dict" p) [.Call (.Name "zip" p2) [e, e2] [] q] [] pos) (tE T (xFn gDictZip xa)) := (pe_dictZip hc hg hm hg2 hm2 ha hs hpl na).weak fun _ _ _ h => weak_fn sl_dictZip h
end

/-! ### stores in lists -/
def putLst (c : Cs) (x : D) (i : Int) (d : D) : Option Cs := match lstAt c x with
  | some (k, xs) => (match ixD xs.length i with
    | some j => some (setN c k (.lst (setN xs j d)))
    | none => none)
  | none => none
theorem putLst_ok {W : Wd} {cs cs' : Cs} {H : Hp} {v z : V} {x d : D} {i : Int} (R : Rel T W cs H) (r : RepW W v x) (rz : RepW W z d) (h : putLst cs x i d = some cs') (P : Hp → Prop) (k : ∀ H', Rel T W cs' H' → P H') : rSetL v (.int i) z H P := by
  unfold putLst at h
  cases q : lstAt cs x with
  | none => rw [q] at h; cases h
  | some p =>
    obtain ⟨kk, xs⟩ := p
    rw [q] at h
    have h : (match ixD xs.length i with
      | some j => some (setN cs kk (.lst (setN xs j d)))
      | none => none) = some cs' := h
    cases q2 : ixD xs.length i with
    | none => rw [q2] at h; cases h
    | some j =>
      rw [q2] at h
      cases h
      obtain ⟨a, vs, rfl, _, ha, hc, hH, rr, n0, nI⟩ := lstAt_ok R r q
      refine ⟨a, vs, i, j, rfl, rfl, hH, by rw [rr.length]; exact ixD_ok q2, k _ ?_⟩
      rw [setN_eq, setN_eq]
      exact R.put ha hc rfl ⟨n0, nI, _, upd_same, rr.set rz j⟩
def xLSet (o i v : XE) : XS := fun sl cs => bnd (v sl cs) fun d c => bnd (o sl c) fun x c1 => bnd (i sl c1) fun y c2 => match y with
  | .int j => (match putLst c2 x j d with
    | some c3 => some (.nx sl c3)
    | none => none)
  | _ => none
section
variable {X : Cx} {o i e : Expr} {xo xi xe : XE} {pos pos' : Pos}
theorem xs_lset (ho : PE X o (tE T xo)) (hi : PE X i (tE T xi)) (hv : PE X e (tE T xe)) (hs : swapsWithSole [.Subscript o i pos'] e pos.line X.env = pure false := by rfl) (hw : swappedStores [.Subscript o i pos'] e X.env = pure none := by rfl)
    (h1 : (assignEach [.Subscript o i pos'] X.env).map (·.2) = [assign (.Subscript o i pos') X.env] := by rfl)
    (ha : ∀ v, assign (.Subscript o i pos') X.env v = (do
      let ov ← holding [v] (eval o X.env)
      let iv ← holding [v, ov] (eval i X.env)
      standAt pos'
      holding [v, ov, iv] (setItem ov iv v)
      release [v, ov, iv] []) := by intro _; rfl) :
    PS X (.Assign [.Subscript o i pos'] e pos) (tS T (xLSet xo xi xe)) := (ps_asg hv (pg_sub ho hi set_list ha) hs hw h1).weak fun DD σ H h => by
  obtain ⟨W, sl, cs, ot, hs, hr, e, k⟩ := h
  obtain ⟨d, c0, e0, e⟩ := bnd_some e
  obtain ⟨x, c1, ea, e⟩ := bnd_some e
  obtain ⟨y, c2, eb, e⟩ := bnd_some e
  refine ⟨W, sl, cs, d, c0, hs, hr, e0, fun W0 v0 H0 l0 r0 p0 => ⟨W0, sl, c0, x, c1, hs.le l0, r0, ea, fun W1 v1 H1 l1 r1 p1 => ⟨W1, sl, c1, y, c2, hs.le (l0.trans l1), r1, eb, fun W2 v2 H2 l2 r2 p2 => ?_⟩⟩⟩
  cases y with
  | int j =>
    obtain rfl := rep_int p2
    have e : (match putLst c2 x j d with
      | some c3 => some (Out.nx sl c3)
      | none => none) = some ot := e
    cases q : putLst c2 x j d with
    | none => rw [q] at e; cases e
    | some c3 =>
      rw [q] at e
      cases e
      have l12 := l1.trans l2
      exact putLst_ok r2 (p1.le l2) (p0.le l12) q _ fun H' R' => k W2 σ H' (l0.trans l12) (hs.le (l0.trans l12)) R'
  | _ => cases e
/-- o[i] += e, a list of ints -/
def rGetL (K : PySem.W.Frag) : V → V → Hp → VK → Prop := fun x y H Q => ∃ a xs i v, x = .ref a ∧ y = .int i ∧ 0 ≤ i ∧ SqL K H a xs ∧ atI xs i = some v ∧ Q v H
theorem pget_list : PGet X (rGetL X.K) := by
  intro pins s σ H x y v u Q I rx ry h
  obtain ⟨a, xs, i, z, rfl, rfl, h0, hq, he, q⟩ := h
  cases rx
  obtain ⟨t, rfl⟩ := ry
  obtain ⟨its, r, pl, hz⟩ := I.list hq
  obtain ⟨j, h1, h2, h3, h4, h5⟩ := atI_get he
  obtain ⟨w, ew, rw'⟩ := r.get h2
  have hn := line63
  have hj : i.toNat = j := by
    rw [seqIndex_of h0 h5] at h1
    exact Option.some.inj h1
  exact PyProof.Rows.getItem_listL pl.isList h0 (by omega) (by rw [hj]; exact ew) ⟨z, H, I, rw', q⟩
def xLAug (o i v : XE) : XS := fun sl cs => bnd (o sl cs) fun x c => bnd (i sl c) fun y c1 => match y with
  | .int (.ofNat j) => (match seqD c1 x with
    | some (false, xs) => (match nth xs j with
      | some (.int a) => bnd (v sl c1) fun z c2 => (match z with
        | .int b => (match putLst c2 x (.ofNat j) (.int (a + b)) with
          | some c3 => some (.nx sl c3)
          | none => none)
        | _ => none)
      | _ => none)
    | _ => none)
  | _ => none
theorem xs_laug (ho : PE X o (tE T xo)) (hi : PE X i (tE T xi)) (hv : PE X e (tE T xe))
    (ha : ∀ ov iv new, augStore i ov iv new = (do holding [new, ov, iv] (setItem ov iv new); release [new, ov, iv] []; pure .next) := by intros; rfl) :
    PS X (.AugAssign (.Subscript o i pos') .Add e pos) (tS T (xLAug xo xi xe)) := (ps_augS ho hi pget_list hv ip_add set_list ha).weak fun DD σ H h => by
  obtain ⟨W, sl, cs, ot, hs, hr, e, k⟩ := h
  obtain ⟨x, c0, e0, e⟩ := bnd_some e
  obtain ⟨y, c1, ea, e⟩ := bnd_some e
  refine ⟨W, sl, cs, x, c0, hs, hr, e0, fun W0 v0 H0 l0 r0 p0 => ⟨W0, sl, c0, y, c1, hs.le l0, r0, ea, fun W1 v1 H1 l1 r1 p1 => ?_⟩⟩
  match y, e with
  | .int (.ofNat j), e =>
    obtain rfl := rep_int p1
    have e : (match seqD c1 x with
      | some (false, xs) => (match nth xs j with
        | some (.int a) => bnd (xe sl c1) fun z c2 => (match z with
          | .int b => (match putLst c2 x (.ofNat j) (.int (a + b)) with
            | some c3 => some (Out.nx sl c3)
            | none => none)
          | _ => none)
        | _ => none)
      | _ => none) = some ot := e
    cases q : seqD c1 x with
    | none => rw [q] at e; cases e
    | some p =>
      obtain ⟨b, xs⟩ := p
      rw [q] at e
      cases b with
      | true => cases e
      | false =>
        have e : (match nth xs j with
          | some (.int a) => bnd (xe sl c1) fun z c2 => (match z with
            | .int b => (match putLst c2 x (.ofNat j) (.int (a + b)) with
              | some c3 => some (Out.nx sl c3)
              | none => none)
            | _ => none)
          | _ => none) = some ot := e
        have p01 := p0.le l1
        obtain ⟨a, vs, rfl, hH, rr⟩ := r1.seq p01 q
        cases q2 : nth xs j with
        | none => rw [q2] at e; cases e
        | some d =>
          rw [q2] at e
          cases d with
          | int ai =>
            obtain ⟨z, c2, eb, e⟩ := bnd_some (show bnd (xe sl c1) (fun z c2 => (match z with
              | .int b => (match putLst c2 x (.ofNat j) (.int (ai + b)) with
                | some c3 => some (Out.nx sl c3)
                | none => none)
              | _ => none)) = some ot from e)
            rw [nth_eq] at q2
            obtain ⟨v, hv, rv⟩ := rr.get q2
            obtain rfl := rep_int rv
            have l01 := l0.trans l1
            refine ⟨a, vs, Int.ofNat j, .int ai, rfl, rfl, Int.natCast_nonneg j, seqO_l hH, atI_nat hv, W1, sl, c1, z, c2, hs.le l01, r1, eb, fun W2 v2 H2 l2 r2 p2 => ?_⟩
            cases z with
            | int bi =>
              obtain rfl := rep_int p2
              have e : (match putLst c2 x (.ofNat j) (.int (ai + bi)) with
                | some c3 => some (Out.nx sl c3)
                | none => none) = some ot := e
              cases q3 : putLst c2 x (.ofNat j) (.int (ai + bi)) with
              | none => rw [q3] at e; cases e
              | some c3 =>
                rw [q3] at e
                cases e
                exact ⟨ai, bi, rfl, rfl, putLst_ok r2 (p01.le l2) .int q3 _ fun H' R' => k W2 σ H' (l01.trans l2) (hs.le (l01.trans l2)) R'⟩
            | _ => cases e
          | _ => cases e
end

/-! ### zip of a tuple and a list -/
def zipNxM (d e : D) : Nx := fun i cs => match seqD cs d with
  | some (_, xs) => (match seqD cs e with
    | some (_, ys) => (match Nat.ble i xs.length && Nat.ble i ys.length with
      | true => (match nth xs i with
        | some x => (match nth ys i with
          | some y => some (some (.tup [x, y]))
          | none => some none)
        | none => some none)
      | false => none)
    | none => none)
  | none => none
def xiZipM (a : XA) : XI := fun sl cs => bnd (a sl cs) fun ds c => match ds with
  | [d, e] => (match seqD c d with
    | some (true, _) => (match seqD c e with
      | some (false, _) => some (zipNxM d e, c)
      | _ => none)
    | _ => none)
  | _ => none
theorem its_zipM {K : PySem.W.Frag} {W : Wd} {a b : Addr} {d e : D} (r : RepW W (.ref a) d) (r2 : RepW W (.ref b) e) (hk : ∀ cs x xs, seqD cs d = some (x, xs) → x = true) (hk2 : ∀ cs x xs, seqD cs e = some (x, xs) → x = false) :
    ItS T W (ItzM K a b) (zipNxM d e) := by
  intro W' cs H i l R
  have r' : RepW W' (.ref a) d := r.le l
  have r2' : RepW W' (.ref b) e := r2.le l
  unfold zipNxM
  cases q : seqD cs d with
  | none => exact ⟨fun h => (nomatch h), fun d h => (nomatch h)⟩
  | some p =>
    obtain ⟨x, xs⟩ := p
    have ex := hk cs x xs q
    subst ex
    obtain ⟨a2, vs, ea, e1, rl⟩ := R.seq r' q
    have ea := V.ref.inj ea
    subst ea
    cases q2 : seqD cs e with
    | none => exact ⟨fun h => (nomatch h), fun d h => (nomatch h)⟩
    | some p =>
      obtain ⟨x2, ys⟩ := p
      have ex := hk2 cs x2 ys q2
      subst ex
      obtain ⟨b2, ws, ea, e2, rl2⟩ := R.seq r2' q2
      have ea := V.ref.inj ea
      subst ea
      dsimp only
      cases q0 : (Nat.ble i xs.length && Nat.ble i ys.length) with
      | false => exact ⟨fun h => (nomatch h), fun d h => (nomatch h)⟩
      | true =>
        obtain ⟨z1, z2⟩ := Bool.and_eq_true_iff.mp q0
        have z1 := Nat.le_of_ble_eq_true z1
        have z2 := Nat.le_of_ble_eq_true z2
        rw [← rl.length] at z1
        rw [← rl2.length] at z2
        dsimp only
        have stop : (nth xs i = none ∨ nth ys i = none) → (ItzM K a b).stop i H := fun h => by
          refine ⟨vs, ws, seqO_t e1, seqO_l e2, ?_, z1, z2⟩
          rcases h with h | h
          · rw [nth_eq] at h
            have := List.getElem?_eq_none_iff.mp h
            rw [← rl.length] at this
            exact .inl (by omega)
          · rw [nth_eq] at h
            have := List.getElem?_eq_none_iff.mp h
            rw [← rl2.length] at this
            exact .inr (by omega)
        cases q3 : nth xs i with
        | none => exact ⟨fun _ => stop (.inl q3), fun d h => (nomatch h)⟩
        | some x =>
          cases q4 : nth ys i with
          | none => exact ⟨fun _ => stop (.inr q4), fun d h => (nomatch h)⟩
          | some y =>
            rw [nth_eq] at q3 q4
            obtain ⟨v, hv, rv⟩ := rl.get q3
            obtain ⟨w, hw, rw'⟩ := rl2.get q4
            refine ⟨fun h => (nomatch h), fun d2 h => ?_⟩
            cases h
            refine ⟨⟨vs, ws, v, w, seqO_t e1, seqO_l e2, hv, hw⟩, fun z H' ⟨T', x', y', ez, hT, eH, y1, y2⟩ => ?_⟩
            have := y1 vs (seqO_t e1)
            rw [hv] at this
            cases this
            have := y2 ws (seqO_l e2)
            rw [hw] at this
            cases this
            subst ez eH
            exact R.newTup hT (.cons rv (.cons rw' .nil))
section
variable {X : Cx} {e e2 : Expr} {xa : XA} {p pos : Pos}
theorem xi_zipM {elts : List Expr} {kk : Nat} {tpos : Pos} (hg : Gl X "zip") (hm : X.mg "zip" = none) (ha : PA X [e, e2] (tA T xa)) (hs : starEach [e, e2] X.env = (false, eval e X.env) :: starEach [e2] X.env := by rfl) (hpl : (backTo pos (starEach [e2] X.env)).any (·.1) = false := by rfl) :
    PI X (.Tuple elts kk tpos) (.Call (.Name "zip" p) [e, e2] [] pos) (tI T (xiZipM xa)) := (pi_zipM hg hm ha hs hpl).weak fun σ H R h => by
  obtain ⟨W, sl, cs, nx, cs', hs, hr, e, k⟩ := h
  obtain ⟨ds, c1, ea, e⟩ := bnd_some e
  refine ⟨W, sl, cs, ds, c1, hs, hr, ea, fun W1 v1 H1 l1 r1 p1 => ?_⟩
  match ds, e with
  | [d, d2], e =>
    obtain ⟨v, w, rfl, rv, rw'⟩ := repL2 p1
    have e : (match seqD c1 d with
      | some (true, _) => (match seqD c1 d2 with
        | some (false, _) => some (zipNxM d d2, c1)
        | _ => none)
      | _ => none) = some (nx, cs') := e
    cases q : seqD c1 d with
    | none => rw [q] at e; cases e
    | some p =>
      obtain ⟨b, xs⟩ := p
      rw [q] at e
      cases b with
      | false => cases e
      | true =>
        have e : (match seqD c1 d2 with
          | some (false, _) => some (zipNxM d d2, c1)
          | _ => none) = some (nx, cs') := e
        cases q2 : seqD c1 d2 with
        | none => rw [q2] at e; cases e
        | some p2 =>
          obtain ⟨b2, ys⟩ := p2
          rw [q2] at e
          cases b2 with
          | true => cases e
          | false =>
            cases e
            obtain ⟨a, vs, rfl, eo, rl⟩ := r1.seq rv q
            obtain ⟨a2, ws, rfl, eo2, rl2⟩ := r1.seq rw' q2
            exact ⟨a, a2, vs, ws, rfl, seqO_t eo, seqO_l eo2, k W1 _ H1 l1 r1 (its_zipM rv rw' (seqD_kind q) (seqD_kind q2))⟩
end
/-! ### a walk over a new dict -/
def keyNx (ks : List Int) : Nx := fun i _ => match nth ks i with
  | some k => some (some (.int k))
  | none => some none
def keysD : List (Int × D) → List Int
  | [] => []
  | (k, _) :: r => k :: keysD r
theorem keysD_eq : ∀ kvs : List (Int × D), keysD kvs = kvs.map (·.1)
  | [] => rfl
  | (k, _) :: r => by
    show k :: keysD r = _
    rw [keysD_eq r]
    rfl
def xiKeys (a : XE) : XI := fun sl cs => bnd (a sl cs) fun d c => match dicAt c d with
  | some (k, kvs) => some (keyNx (keysD kvs), setN c k .dead)
  | none => none
theorem Rel.kill {W : Wd} {cs : Cs} {H : Hp} (R : Rel T W cs H) {k : Nat} {a : Addr} {c : Cell} {u o : HO} (ha : W.al[k]? = some a) (hc : cs[k]? = some c) (m : c.mut = true) (ho : ∀ ps, o ≠ .tbl ps) :
    ∃ W', Le W W' ∧ Rel T W' (cs.set k .dead) (upd H a o) ∧ W'.I a = some o := by
  obtain ⟨f1, f2, ob, fo, f3, f4⟩ := (R.cell k a c ha hc).free m
  have le : Le W { W with I := upd W.I a o } := ⟨rfl, rfl, rfl, rfl, same_new (Same.refl _) f2, [], by simp⟩
  have nI : ∀ b, b ≠ a → ({ W with I := upd W.I a o } : Wd).I b = W.I b := fun b hb => upd_ne hb
  have sI : ({ W with I := upd W.I a o } : Wd).I a = some o := upd_same
  refine ⟨_, le, ⟨fun b u e => ?_, fun b u e => ?_, fun b u e => ?_, by rw [List.length_set]; exact R.len, R.nd, fun j b c2 h1 h2 => ?_, fun b ps e => ?_, tabs_put R.tabs (fun ps z => f3 ps (Option.some.inj (fo.symm.trans z))) (fun φ z => f4 φ (Option.some.inj (fo.symm.trans z))), R.h0t, R.wc, R.wn⟩, sI⟩
  · rw [upd_ne (ne_of_none e f1)]
    exact R.keep b u e
  · by_cases hb : b = a
    · subst hb
      rw [sI] at e
      cases e
      exact upd_same
    · rw [nI b hb] at e
      rw [upd_ne hb]
      exact R.imm b u e
  · by_cases hb : b = a
    · subst hb
      exact .inr f1
    · rw [nI b hb] at e
      exact R.new b u e
  · by_cases hj : k = j
    · subst hj
      have eab : a = b := Option.some.inj (ha.symm.trans h1)
      subst eab
      rw [List.getElem?_set_self (List.getElem?_eq_some_iff.mp hc).1] at h2
      have h2 := Option.some.inj h2
      subst h2
      exact ⟨o, sI⟩
    · rw [List.getElem?_set_ne hj] at h2
      have hne : b ≠ a := fun z => by
        subst z
        exact hj (nodup_at R.nd ha h1)
      exact (R.cell j b c2 h1 h2).le le (upd_ne hne) fun z => (nI b hne).trans z
  · by_cases hb : b = a
    · subst hb
      rw [sI] at e
      exact ho ps (Option.some.inj e)
    · rw [nI b hb] at e
      exact R.nt b ps e
theorem RepK.at_ {I : Hp} {al : List Addr} : ∀ {ps : List (L2.Key × V)} {kvs : List (Int × D)} {i : Nat} {k : L2.Key} {v : V}, RepK I al ps kvs → ps[i]? = some (k, v) → ∃ n, k = .inl n ∧ (keysD kvs)[i]? = some n
  | _, _, i, k, v, .nil, h => by simp at h
  | _, _, 0, k, v, .cons r t, h => by
    have h := Option.some.inj h
    cases h
    exact ⟨_, rfl, rfl⟩
  | _, _, i + 1, k, v, .cons r t, h => RepK.at_ (i := i) t h
theorem keysD_length : ∀ kvs : List (Int × D), (keysD kvs).length = kvs.length
  | [] => rfl
  | (k, _) :: r => congrArg (· + 1) (keysD_length r)
section
variable {X : Cx} {tg e : Expr} {xe : XE}
theorem xi_keys (he : PE X e (tE T xe)) : PI X tg e (tI T (xiKeys xe)) := (pi_newKeys he).weak fun σ H R h => by
  obtain ⟨W, sl, cs, nx, cs', hs, hr, e, k⟩ := h
  obtain ⟨d, c1, ea, e⟩ := bnd_some e
  refine ⟨W, sl, cs, d, c1, hs, hr, ea, fun W1 v1 H1 l1 r1 p1 => ?_⟩
  cases q : dicAt c1 d with
  | none => rw [q] at e; cases e
  | some p =>
    obtain ⟨kk, kvs⟩ := p
    rw [q] at e
    cases e
    obtain ⟨a, ps, rfl, ha, hc, hH, hK, _⟩ := dicAt_ok r1 p1 q
    refine ⟨a, ps, rfl, hH, fun od => ?_⟩
    obtain ⟨W2, l2, R2, hI⟩ := r1.kill (u := .dK ps) (o := .frz od (.dK ps)) ha hc rfl (fun _ z => nomatch z)
    rw [setN_eq] at k
    refine k W2 _ _ (l1.trans l2) R2 fun W3 cs3 H3 i l3 R3 => ?_
    have hH3 : H3 a = some (.frz od (.dK ps)) := R3.imm _ _ (l3.i _ _ hI)
    have hlen : ps.length = (keysD kvs).length := by rw [hK.length, keysD_length]
    unfold keyNx
    cases q2 : nth (keysD kvs) i with
    | none =>
      rw [nth_eq] at q2
      have := List.getElem?_eq_none_iff.mp q2
      exact ⟨fun _ => ⟨hH3, by rw [hlen]; exact this⟩, fun d h => (nomatch h)⟩
    | some n =>
      rw [nth_eq] at q2
      have hi := (List.getElem?_eq_some_iff.mp q2).1
      refine ⟨fun h => (nomatch h), fun d h => ?_⟩
      cases h
      refine ⟨⟨hH3, by rw [hlen]; exact hi⟩, fun x H' ⟨eH, k2, v, e1, e2⟩ => ?_⟩
      subst eH
      obtain ⟨m, e3, e4⟩ := hK.at_ e1
      subst e3
      rw [q2] at e4
      cases e4
      subst e2
      exact ⟨W3, Le.refl W3, R3, .int⟩
end
/-! ### dict comprehensions -/
def dcLoop (nx : Nx) (g : XG) (t : XT) (x y : XE) (k : Nat) (sl : Sl) : Nat → Nat → Cs → Option Cs
  | 0, _, _ => none
  | n + 1, i, cs => match nx i cs with
    | some none => some cs
    | some (some d) => (match g d sl cs with
      | some s1 => bnd (t s1 cs) fun b c2 => (match b with
        | true => bnd (x s1 c2) fun z c3 => bnd (y s1 c3) fun w c4 => (match z with
          | .int j => (match nth c4 k with
            | some (.dic acc) => (match Nat.blt acc.length 4096 with
              | true => dcLoop nx g t x y k sl n (i + 1) (setN c4 k (.dic (putD acc j w)))
              | false => none)
            | _ => none)
          | _ => none)
        | false => dcLoop nx g t x y k sl n (i + 1) c2)
      | none => none)
    | none => none
def xDc (n : Nat) (wi : XI) (g : XG) (t : XT) (x y : XE) (vs : List Nat) : XE := fun sl cs => bnd (wi sl cs) fun nx c =>
  match dcLoop nx g t x y c.length (wipeD sl vs) n 0 (c ++ [.dic []]) with
  | some c2 => some (.ref c.length, c2)
  | none => none
theorem weak_dc {n : Nat} {wi : XI} {g : XG} {t : XT} {x y : XE} {vs : List Nat} {σ : L2.St} {H : Hp} {Q : VK} (h : tE T (xDc n wi g t x y vs) σ H Q) : tDc (tI T wi) (tG T g vs) (tT T t) (tE T x) (tE T y) vs σ H Q := by
  obtain ⟨W, sl, cs, d, cs', hs, hr, e, k⟩ := h
  obtain ⟨nx, c1, ea, e⟩ := bnd_some e
  refine ⟨W, sl, cs, nx, c1, hs, hr, ea, fun W1 J H1 l1 r1 it Da hD => ?_⟩
  obtain ⟨W2, l2, r2, p2⟩ := r1.newDic hD
  cases q : dcLoop nx g t x y c1.length (wipeD sl vs) n 0 (c1 ++ [.dic []]) with
  | none => rw [q] at e; cases e
  | some cend =>
    rw [q] at e
    cases e
    have hD2 : W2.al[c1.length]? = some Da := by
      cases p2 with
      | ref e => exact e
    have hSw : RelS W2 (wipeD sl vs) (L2.wipe σ vs) := (hs.le (l1.trans l2)).wipe vs
    refine ⟨fun i m H => ∃ W3 cs, Le W2 W3 ∧ Rel T W3 cs H ∧ dcLoop nx g t x y c1.length (wipeD sl vs) m i cs = some cs', ⟨n, W2, _, Le.refl W2, r2, q⟩, fun i m H3 hz => ?_⟩
    obtain ⟨W3, cs3, l3, r3, e3⟩ := hz
    cases m with
    | zero => cases e3
    | succ m =>
      obtain ⟨it1, it2⟩ := it W3 cs3 H3 i (l2.trans l3) r3
      rw [dcLoop] at e3
      cases q1 : nx i cs3 with
      | none => rw [q1] at e3; cases e3
      | some od =>
        rw [q1] at e3
        cases od with
        | none =>
          cases e3
          exact .inl ⟨it1 q1, k W3 _ H3 (l1.trans (l2.trans l3)) r3 (p2.le l3)⟩
        | some d =>
          obtain ⟨go, yl⟩ := it2 d q1
          dsimp only at e3
          cases q2 : g d (wipeD sl vs) cs3 with
          | none => rw [q2] at e3; cases e3
          | some s1 =>
            rw [q2] at e3
            obtain ⟨b, c2, et, e3⟩ := bnd_some e3
            refine .inr ⟨go, fun H' => ∃ W3 cs, Le W2 W3 ∧ Rel T W3 cs H' ∧ dcLoop nx g t x y c1.length (wipeD sl vs) m (i + 1) cs = some cs', fun H' z => ⟨m, Nat.lt_succ_self m, z⟩, fun v H' yy => ?_⟩
            obtain ⟨W4, l4, r4, p4⟩ := yl v H' yy
            refine ⟨W4, wipeD sl vs, cs3, d, s1, hSw.le (l3.trans l4), r4, p4, q2, fun W5 σ5 l5 rs5 r5 hw => ⟨by rw [hw]; exact wipe_idem σ vs, ?_⟩⟩
            refine ⟨W5, s1, cs3, b, c2, rs5, r5, et, fun W6 H6 l6 r6 => ?_⟩
            have l26 := l3.trans (l4.trans (l5.trans l6))
            cases b with
            | false => exact ⟨W6, c2, l26, r6, e3⟩
            | true =>
              obtain ⟨z, c3, ex, e3⟩ := bnd_some e3
              obtain ⟨w, c4, ey, e3⟩ := bnd_some e3
              refine ⟨W6, s1, c2, z, c3, rs5.le l6, r6, ex, fun W7 v7 H7 l7 r7 p7 => ⟨W7, s1, c3, w, c4, rs5.le (l6.trans l7), r7, ey, fun W8 v8 H8 l8 r8 p8 => ?_⟩⟩
              cases z with
              | int j =>
                obtain rfl := rep_int p7
                dsimp only at e3
                rw [nth_eq] at e3
                cases q3 : c4[c1.length]? with
                | none => rw [q3] at e3; cases e3
                | some cl =>
                  rw [q3] at e3
                  cases cl with
                  | dic acc =>
                    dsimp only at e3
                    cases q4 : Nat.blt acc.length 4096 with
                    | false => rw [q4] at e3; cases e3
                    | true =>
                      rw [q4] at e3
                      have l28 := l26.trans (l7.trans l8)
                      have hD8 := al_le l28 hD2
                      obtain ⟨f1, f2, ps, hp, e1, e2⟩ := r8.cell _ Da _ hD8 q3
                      have hK := RepK.of e1 e2
                      have hK2 := hK.put (i := j) p8
                      refine ⟨ps, .inl j, rfl, hp, by rw [hK.length]; exact line4096' q4, W8, c4.set c1.length (.dic (putD acc j w)), l28, ?_, ?_⟩
                      · exact r8.put hD8 q3 rfl ⟨f1, f2, _, upd_same, hK2.to.1, hK2.to.2⟩
                      · rw [← setN_eq]
                        exact e3
                  | _ => cases e3
              | _ => cases e3
section
variable {X : Cx}
theorem xe_dc {kx vx tg iter : Expr} {ifs : List Expr} {scope : Scope} {own : List (Str × Nat)} {pos : Pos} {wi : XI} {g : XG} {t : XT} {x y : XE} (n : Nat) (hc : X.calm = true) (hN : X.N.Nodup) (hi : PI X tg iter (tI T wi)) (ok : BlkOk X.N X.env.scope scope own)
    (hg : ∀ (s : Shared) (H : Hp) (C : Addr) (cl : List (Str × Addr)) (fp : List Addr), PG (X.blk s H scope (compEnvC scope cl C X.env) fp) tg (tG T g (own.map (·.2))))
    (ht : ∀ (s : Shared) (H : Hp) (C : Addr) (cl : List (Str × Addr)) (fp : List Addr), PTs (X.blk s H scope (compEnvC scope cl C X.env) fp) ifs (tT T t))
    (hk : ∀ (s : Shared) (H : Hp) (C : Addr) (cl : List (Str × Addr)) (fp : List Addr), PE (X.blk s H scope (compEnvC scope cl C X.env) fp) kx (tE T x))
    (he : ∀ (s : Shared) (H : Hp) (C : Addr) (cl : List (Str × Addr)) (fp : List Addr), PE (X.blk s H scope (compEnvC scope cl C X.env) fp) vx (tE T y)) (hs : ∀ x, foldedSetIterable iter X.env x = pure x := by intro _; rfl) :
    PE X (.DictComp kx vx [⟨tg, iter, ifs, 0⟩] scope pos) (tE T (xDc n wi g t x y (own.map (·.2)))) := (pe_dc hc hN hi ok hg ht hk he hs).weak fun _ _ _ h => weak_dc h
end
end XL
end
section
set_option maxRecDepth 100000
/-! XM: defs by their names; short names of operations. -/
namespace XL
open PySem PySem.Spec PyProof.Rows L2

/-- a def of the text, under its name -/
structure DefAt (K : PySem.W.Frag) (mg : Str → Option Value) (x : Str) (st : Stmt) : Prop where
  ex : ∃ f fd, FunD K x x (defArgs st) (defBody st) (defScope st) [] [] f fd ∧ mg x = some (.ref f)
/-- a def that keeps its promise, under its name -/
structure FA (P : Program) (w : World) (K : PySem.W.Frag) (mg : Str → Option Value) (base : Heap) (k : Nat) (x : Str) (ps : List Str) (sp : Sp) : Prop where
  ex : ∃ f fd, FnOk P w K mg base CX0 k f fd ps sp ∧ mg x = some (.ref f) ∧ PySem.W.keepIn K (.ref f) = true ∧ Binds K fd ps [] ∧ ∃ oc od osl, K.lookup f = some ⟨oc, od, .func fd, osl⟩
theorem funD_lk {K : PySem.W.Frag} {x qual : Str} {params : Arguments} {body : List Stmt} {scope : Scope} {dvs : List V} {kws : List (Str × V)} {f : Addr} {fd : FuncData} (F : FunD K x qual params body scope dvs kws f fd) : ∃ oc od osl, K.lookup f = some ⟨oc, od, .func fd, osl⟩ := by
  obtain ⟨oc, od, dV, kV, doc, pm, an, cdv, ct, osl, rfl, lk, _⟩ := F.ex
  exact ⟨oc, od, osl, lk⟩
/-- the built-in names that the text leaves alone -/
structure Blt (mg : Str → Option Value) : Prop where
  isinstance_ : mg "isinstance" = none
  int_ : mg "int" = none
  bool_ : mg "bool" = none
  tuple_ : mg "tuple" = none
  len_ : mg "len" = none
  abs_ : mg "abs" = none
  all_ : mg "all" = none
  sorted_ : mg "sorted" = none
  list_ : mg "list" = none
  range_ : mg "range" = none
  zip_ : mg "zip" = none
  enumerate_ : mg "enumerate" = none
  sum_ : mg "sum" = none
  min_ : mg "min" = none
  max_ : mg "max" = none
  dict_ : mg "dict" = none
  divmod_ : mg "divmod" = none
  repr_ : mg "repr" = none
  most : ∃ t, mg "MOST_PLACES" = some (.int 24 t)
section
variable {P : Program} {w : World} {K : PySem.W.Frag} {mg : Str → Option Value} {base : Heap} {x : Str} {st : Stmt} {ps N : List Str} {k j : Nat} {sp sp' : Sp}
theorem FA.imp (c : FA P w K mg base k x ps sp) (h : ∀ vs H Q E, sp' vs H Q E → sp vs H Q E) : FA P w K mg base k x ps sp' := by
  obtain ⟨f, fd, F, a, b, d⟩ := c.ex
  exact ⟨f, fd, F.imp h, a, b, d⟩
theorem FA.mono (c : FA P w K mg base j x ps sp) (h : j ≤ k) : FA P w K mg base k x ps sp := by
  obtain ⟨f, fd, F, a, b, d⟩ := c.ex
  exact ⟨f, fd, F.mono h, a, b, d⟩
/-- THE RULE of a def -/
theorem fa_ofT {T : Tb} (hT : T.tb = []) {n slots : Nat} {xb : XS} (D : DefAt K mg x st) (S : FnScope N ps (defScope st)) (hn : ps.length = n) (hN : N.length = slots)
    (hb : ∀ (kV doc pm : Value) (an : Option Addr) (cdv ct : Value) (us : List Value), us.length = ps.length → bindArgs (PySem.W.fnOf x x (defArgs st) (defBody st) (defScope st) .none kV doc pm an cdv ct) ⟨us, []⟩ = pure (ps.zip us))
    (hbody : ∀ (f : Addr) (cdv : Value) (A : Around) (outer : List Env) (s : Shared) (H : Hp) (E : XK), Room k (A.deeper (envOfC x (defScope st) s.heap.objs.size f cdv)) → PSs (cxOf CX0 P w K mg base N x (defScope st) f cdv A outer s H E).nox (defBody st) (tS T xb)) :
    FA P w K mg base (k + 1) x ps (spC (fnX n slots xb)) := by
  obtain ⟨f, fd, F, hm⟩ := D.ex
  exact ⟨f, fd, ok_fnX hT F S hn hN (hbody f), hm, F.kp, F.bindsN hb, funD_lk F⟩
theorem fa_of {n slots : Nat} {xb : XS} (D : DefAt K mg x st) (S : FnScope N ps (defScope st)) (hn : ps.length = n) (hN : N.length = slots)
    (hb : ∀ (kV doc pm : Value) (an : Option Addr) (cdv ct : Value) (us : List Value), us.length = ps.length → bindArgs (PySem.W.fnOf x x (defArgs st) (defBody st) (defScope st) .none kV doc pm an cdv ct) ⟨us, []⟩ = pure (ps.zip us))
    (hbody : ∀ (f : Addr) (cdv : Value) (A : Around) (outer : List Env) (s : Shared) (H : Hp) (E : XK), Room k (A.deeper (envOfC x (defScope st) s.heap.objs.size f cdv)) → PSs (cxOf CX0 P w K mg base N x (defScope st) f cdv A outer s H E).nox (defBody st) (tS T0 xb)) :
    FA P w K mg base (k + 1) x ps (spC (fnX n slots xb)) := fa_ofT rfl D S hn hN hb hbody
theorem fa_none (D : DefAt K mg x st) (hb : ∀ (kV doc pm : Value) (an : Option Addr) (cdv ct : Value) (us : List Value), us.length = ps.length → bindArgs (PySem.W.fnOf x x (defArgs st) (defBody st) (defScope st) .none kV doc pm an cdv ct) ⟨us, []⟩ = pure (ps.zip us)) :
    FA P w K mg base k x ps (spC fun _ => none) := by
  obtain ⟨f, fd, F, hm⟩ := D.ex
  refine ⟨f, fd, ⟨fun vs H Q E h => ?_, fun A outer s H args us vs Q E _ _ _ _ h => ?_⟩, hm, F.kp, F.bindsN hb, funD_lk F⟩
  · obtain ⟨_, _, _, _, _, _, e, _⟩ := h
    cases e
  · obtain ⟨_, _, _, _, _, _, e, _⟩ := h
    cases e
end
section
variable {T : Tb} {X : Cx} {x : Str} {ps : List Str} {p pos : Pos} {e : Expr} {es : List Expr} {xa : XA} {k j : Nat} {g : List D → Option D}
theorem xe_c (c : FA X.prog X.w X.K X.mg X.base k x ps (spC g)) (hr : Room j X.A) (hk : k ≤ j) (hg : Gl X x) (ha : PA X (e :: es) (tA T xa)) (hdb : (x == ("__debug__" : Str)) = false := by decide)
    (he : starEach (e :: es) X.env = (false, eval e X.env) :: starEach es X.env := by rfl) (hpl : (backTo pos (starEach es X.env)).any (·.1) = false := by rfl) :
    PE X (.Call (.Name x p) (e :: es) [] pos) (tE T (xCall g xa)) := by
  obtain ⟨f, fd, F, hm, hk2, hb, _⟩ := c.ex
  exact xe_call F (hr.mono hk) hg hm hk2 hb ha hdb he hpl
end
/-! ### short names -/
def gSub : G2 := gI fun i j => .int (i - j)
def gLt : G2 := gI fun i j => .bl (decide (i < j))
def gLe : G2 := gI fun i j => .bl (decide (i ≤ j))
def gGt : G2 := gI fun i j => .bl (decide (j < i))
def gGe : G2 := gI fun i j => .bl (decide (j ≤ i))
section
variable {T : Tb} {X : Cx} {a b : Expr} {xa xb : XE} {pos : Pos} {k : Nat}
theorem e_add (ha : PE X a (tE T xa)) (hb : PE X b (tE T xb)) : PE X (.BinOp a .Add b pos) (tE T (xOp gAdd xa xb)) := xe_op op_addA snd_add ha hb
theorem e_sub (ha : PE X a (tE T xa)) (hb : PE X b (tE T xb)) : PE X (.BinOp a .Sub b pos) (tE T (xOp gSub xa xb)) := xe_op op_sub snd_sub ha hb
theorem e_mul (ha : PE X a (tE T xa)) (hb : PE X b (tE T xb)) : PE X (.BinOp a .Mult b pos) (tE T (xOp gMul xa xb)) := xe_op op_mul snd_mul ha hb
theorem e_div (ha : PE X a (tE T xa)) (hb : PE X b (tE T xb)) : PE X (.BinOp a .FloorDiv b pos) (tE T (xOp gDiv xa xb)) := xe_op op_fdiv snd_div ha hb
theorem e_mod (ha : PE X a (tE T xa)) (hb : PE X b (tE T xb)) : PE X (.BinOp a .Mod b pos) (tE T (xOp gMod xa xb)) := xe_op op_mod snd_mod ha hb
theorem e_neg (ha : PE X a (tE T xa)) : PE X (.UnaryOp .USub a pos) (tE T (xUn gNeg xa)) := xe_un un_neg snd_neg ha
theorem e_ix (ha : PE X a (tE T xa)) (hb : PE X b (tE T xb)) (hs : PlainIx b := by exact fun _ _ => rfl) : PE X (.Subscript a b pos) (tE T (xOp gIx xa xb)) := xe_ix ix_seq snd_ix ha hb hs
theorem e_dget (hr : Room k X.A) (ha : PE X a (tE T xa)) (hb : PE X b (tE T xb)) (hs : NoSl b := by exact fun _ _ => rfl) : PE X (.Subscript a b pos) (tE T (xOp gDGet xa xb)) := xe_dget (by have := hr.un; omega) ha hb hs
theorem e_lt (ha : PE X a (tE T xa)) (hb : PE X b (tE T xb)) : PE X (.Compare a [.Lt] [b] pos) (tE T (xOp gLt xa xb)) := xe_cmp op_lt snd_cmp ha hb (nomark b)
theorem e_le (ha : PE X a (tE T xa)) (hb : PE X b (tE T xb)) : PE X (.Compare a [.LtE] [b] pos) (tE T (xOp gLe xa xb)) := xe_cmp op_le snd_cmp ha hb (nomark b)
theorem e_gt (ha : PE X a (tE T xa)) (hb : PE X b (tE T xb)) : PE X (.Compare a [.Gt] [b] pos) (tE T (xOp gGt xa xb)) := xe_cmp op_gt snd_cmp ha hb (nomark b)
theorem e_ge (ha : PE X a (tE T xa)) (hb : PE X b (tE T xb)) : PE X (.Compare a [.GtE] [b] pos) (tE T (xOp gGe xa xb)) := xe_cmp op_ge snd_cmp ha hb (nomark b)
theorem e_eq (hr : Room k X.A) (ha : PE X a (tE T xa)) (hb : PE X b (tE T xb)) : PE X (.Compare a [.Eq] [b] pos) (tE T (xOp gEq xa xb)) := xe_cmp (op_eqD hr.units) snd_eq ha hb (nomark b)
theorem e_ne (hr : Room k X.A) (ha : PE X a (tE T xa)) (hb : PE X b (tE T xb)) : PE X (.Compare a [.NotEq] [b] pos) (tE T (xOp gNe xa xb)) := xe_cmp (op_neD hr.units) snd_ne ha hb (nomark b)
theorem e_isN (ha : PE X a (tE T xa)) (hb : PE X b (tE T xb)) : PE X (.Compare a [.Is] [b] pos) (tE T (xOp gIsN xa xb)) := xe_cmp op_isN snd_isN ha hb (nomark b)
theorem e_notN (ha : PE X a (tE T xa)) (hb : PE X b (tE T xb)) : PE X (.Compare a [.IsNot] [b] pos) (tE T (xOp gNotN xa xb)) := xe_cmp op_notN snd_notN ha hb (nomark b)
theorem e_in (ha : PE X a (tE T xa)) (hb : PE X b (tE T xb)) (h : behindInMarks .In b = false := by rfl) : PE X (.Compare a [.In] [b] pos) (tE T (xOp (gIn false) xa xb)) := xe_cmp op_in_seq snd_in ha hb h
theorem e_notin (ha : PE X a (tE T xa)) (hb : PE X b (tE T xb)) (h : behindInMarks .NotIn b = false := by rfl) : PE X (.Compare a [.NotIn] [b] pos) (tE T (xOp (gIn true) xa xb)) := xe_cmp op_notIn_seq snd_in ha hb h
theorem e_inD (hr : Room k X.A) (ha : PE X a (tE T xa)) (hb : PE X b (tE T xb)) (h : behindInMarks .In b = false := by rfl) : PE X (.Compare a [.In] [b] pos) (tE T (xOp gInD xa xb)) := xe_cmp (op_inD (by have := hr.un; omega)) snd_inD ha hb h
theorem t_lt (ha : PE X a (tE T xa)) (hb : PE X b (tE T xb)) : PT X (.Compare a [.Lt] [b] pos) (tT T (xTB (xOp gLt xa xb))) := xt_cmp op_lt snd_cmp ha hb (nomark b)
theorem t_le (ha : PE X a (tE T xa)) (hb : PE X b (tE T xb)) : PT X (.Compare a [.LtE] [b] pos) (tT T (xTB (xOp gLe xa xb))) := xt_cmp op_le snd_cmp ha hb (nomark b)
theorem t_gt (ha : PE X a (tE T xa)) (hb : PE X b (tE T xb)) : PT X (.Compare a [.Gt] [b] pos) (tT T (xTB (xOp gGt xa xb))) := xt_cmp op_gt snd_cmp ha hb (nomark b)
theorem t_ge (ha : PE X a (tE T xa)) (hb : PE X b (tE T xb)) : PT X (.Compare a [.GtE] [b] pos) (tT T (xTB (xOp gGe xa xb))) := xt_cmp op_ge snd_cmp ha hb (nomark b)
theorem t_eq (hr : Room k X.A) (ha : PE X a (tE T xa)) (hb : PE X b (tE T xb)) : PT X (.Compare a [.Eq] [b] pos) (tT T (xTB (xOp gEq xa xb))) := xt_cmp (op_eqD hr.units) snd_eq ha hb (nomark b)
theorem t_ne (hr : Room k X.A) (ha : PE X a (tE T xa)) (hb : PE X b (tE T xb)) : PT X (.Compare a [.NotEq] [b] pos) (tT T (xTB (xOp gNe xa xb))) := xt_cmp (op_neD hr.units) snd_ne ha hb (nomark b)
theorem t_isN (ha : PE X a (tE T xa)) (hb : PE X b (tE T xb)) : PT X (.Compare a [.Is] [b] pos) (tT T (xTB (xOp gIsN xa xb))) := xt_cmp op_isN snd_isN ha hb (nomark b)
theorem t_notN (ha : PE X a (tE T xa)) (hb : PE X b (tE T xb)) : PT X (.Compare a [.IsNot] [b] pos) (tT T (xTB (xOp gNotN xa xb))) := xt_cmp op_notN snd_notN ha hb (nomark b)
theorem t_in (ha : PE X a (tE T xa)) (hb : PE X b (tE T xb)) (h : behindInMarks .In b = false := by rfl) : PT X (.Compare a [.In] [b] pos) (tT T (xTB (xOp (gIn false) xa xb))) := xt_cmp op_in_seq snd_in ha hb h
theorem t_notin (ha : PE X a (tE T xa)) (hb : PE X b (tE T xb)) (h : behindInMarks .NotIn b = false := by rfl) : PT X (.Compare a [.NotIn] [b] pos) (tT T (xTB (xOp (gIn true) xa xb))) := xt_cmp op_notIn_seq snd_in ha hb h
theorem t_inD (hr : Room k X.A) (ha : PE X a (tE T xa)) (hb : PE X b (tE T xb)) (h : behindInMarks .In b = false := by rfl) : PT X (.Compare a [.In] [b] pos) (tT T (xTB (xOp gInD xa xb))) := xt_cmp (op_inD (by have := hr.un; omega)) snd_inD ha hb h
theorem t_dnotin (hr : Room k X.A) (ha : PE X a (tE T xa)) (hb : PE X b (tE T xb)) (h : behindInMarks .NotIn b = false := by rfl) : PT X (.Compare a [.NotIn] [b] pos) (tT T (xTB (xOp (gDIn true) xa xb))) := xt_dnotin (by have := hr.un; omega) ha hb h
theorem s_dput {o i e : Expr} {xo xi xe : XE} {pos pos' : Pos} (hr : Room k X.A) (ho : PE X o (tE T xo)) (hi : PE X i (tE T xi)) (hv : PE X e (tE T xe)) (hs : swapsWith e (some (.Subscript o i pos')) pos.line X.env = pure false := by rfl) :
    PS X (.Assign [.Subscript o i pos'] e pos) (tS T (xDPut xo xi xe)) := xs_dput (by have := hr.un; omega) ho hi hv hs
variable {e e2 : Expr} {es : List Expr} {ya : XA} {p : Pos}
theorem c_len (B : Blt X.mg) (hg : Gl X "len") (ha : PA X [e] (tA T ya)) (he : starEach [e] X.env = (false, eval e X.env) :: starEach [] X.env := by rfl) : PE X (.Call (.Name "len" p) [e] [] pos) (tE T (xFn gLen ya)) := xe_callB call_len sl_len hg B.len_ boot_len ha (by decide) (by decide) he rfl
theorem c_abs (B : Blt X.mg) (hg : Gl X "abs") (ha : PA X [e] (tA T ya)) (he : starEach [e] X.env = (false, eval e X.env) :: starEach [] X.env := by rfl) : PE X (.Call (.Name "abs" p) [e] [] pos) (tE T (xFn gAbs ya)) := xe_callB call_abs sl_abs hg B.abs_ (by kernel_rfl) ha (by decide) (by decide) he rfl
theorem c_sum (hc : X.calm = true) (B : Blt X.mg) (hg : Gl X "sum") (ha : PA X [e] (tA T ya)) (he : starEach [e] X.env = (false, eval e X.env) :: starEach [] X.env := by rfl) : PE X (.Call (.Name "sum" p) [e] [] pos) (tE T (xFn gSum ya)) := xe_callB (cr_sumQ hc) sl_sum hg B.sum_ (by kernel_rfl) ha (by decide) (by decide) he rfl
theorem c_all (hc : X.calm = true) (B : Blt X.mg) (hg : Gl X "all") (ha : PA X [e] (tA T ya)) (he : starEach [e] X.env = (false, eval e X.env) :: starEach [] X.env := by rfl) : PE X (.Call (.Name "all" p) [e] [] pos) (tE T (xFn gAll ya)) := xe_callB (cr_all hc) sl_all hg B.all_ (by kernel_rfl) ha (by decide) (by decide) he rfl
theorem c_sorted (B : Blt X.mg) (hg : Gl X "sorted") (ha : PA X [e] (tA T ya)) (he : starEach [e] X.env = (false, eval e X.env) :: starEach [] X.env := by rfl) : PE X (.Call (.Name "sorted" p) [e] [] pos) (tE T (xFn gSorted ya)) := xe_callB cr_sortQ sl_sorted hg B.sorted_ (by kernel_rfl) ha (by decide) (by decide) he rfl
theorem c_tuple (B : Blt X.mg) (hg : Gl X "tuple") (ha : PA X [e] (tA T ya)) (he : starEach [e] X.env = (false, eval e X.env) :: starEach [] X.env := by rfl) : PE X (.Call (.Name "tuple" p) [e] [] pos) (tE T (xFn gTuple ya)) := xe_callTy call_tuple_of sl_tuple hg B.tuple_ boot_tuple ha (by decide) (by decide) he rfl
theorem c_list (B : Blt X.mg) (hg : Gl X "list") (ha : PA X [e] (tA T ya)) (he : starEach [e] X.env = (false, eval e X.env) :: starEach [] X.env := by rfl) : PE X (.Call (.Name "list" p) [e] [] pos) (tE T (xFn gList ya)) := xe_callTy call_list_of sl_list hg B.list_ boot_list ha (by decide) (by decide) he rfl
theorem c_int (B : Blt X.mg) (hg : Gl X "int") (ha : PA X [e] (tA T ya)) (he : starEach [e] X.env = (false, eval e X.env) :: starEach [] X.env := by rfl) : PE X (.Call (.Name "int" p) [e] [] pos) (tE T (xFn gInt ya)) := xe_callTy call_int1 sl_int hg B.int_ (by kernel_rfl) ha (by decide) (by decide) he rfl
theorem c_min2 (hc : X.calm = true) (B : Blt X.mg) (hg : Gl X "min") (ha : PA X [e, e2] (tA T ya)) (he : starEach [e, e2] X.env = (false, eval e X.env) :: starEach [e2] X.env := by rfl) (hpl : (backTo pos (starEach [e2] X.env)).any (·.1) = false := by rfl) :
    PE X (.Call (.Name "min" p) [e, e2] [] pos) (tE T (xFn gMin2 ya)) := xe_callB (call_min2 hc) sl_min2 hg B.min_ (by kernel_rfl) ha (by decide) (by decide) he hpl
theorem c_isi (B : Blt X.mg) (hg : Gl X "isinstance") (ha : PA X [e, e2] (tA T ya)) (he : starEach [e, e2] X.env = (false, eval e X.env) :: starEach [e2] X.env := by rfl) (hpl : (backTo pos (starEach [e2] X.env)).any (·.1) = false := by rfl) :
    PE X (.Call (.Name "isinstance" p) [e, e2] [] pos) (tE T (xFn gIsi ya)) := xe_callB call_isi sl_isi hg B.isinstance_ (by kernel_rfl) ha (by decide) (by decide) he hpl
theorem v_int (B : Blt X.mg) (hg : Gl X "int") : PE X (.Name "int" p) (tE T (xC (.ty "int"))) := xe_ty hg B.int_ (by kernel_rfl)
theorem v_bool (B : Blt X.mg) (hg : Gl X "bool") : PE X (.Name "bool" p) (tE T (xC (.ty "bool"))) := xe_ty hg B.bool_ (by kernel_rfl)
theorem v_tuple (B : Blt X.mg) (hg : Gl X "tuple") : PE X (.Name "tuple" p) (tE T (xC (.ty "tuple"))) := xe_ty hg B.tuple_ (by kernel_rfl)
theorem v_most (B : Blt X.mg) (hg : Gl X "MOST_PLACES") : PE X (.Name "MOST_PLACES" p) (tE T (xC (.int 24))) := by
  obtain ⟨t, h⟩ := B.most
  exact xe_globI hg h
end
end XL
end
section
set_option maxRecDepth 100000
set_option maxHeartbeats 0
/-! XN1: defs of the text, printed by gen.py. -/
namespace XL
open PySem PySem.Spec PyProof.Rows L2
variable {P : Program} {w : World} {K : PySem.W.Frag} {mg : Str → Option Value} {base : Heap}
/-! ### is_integer -/
theorem sc_is_integer : FnScope ["value"] ["value"] (defScope (top 10)) := ⟨rfl, rfl, rfl, by decide +kernel, rfl, by decide +kernel, by decide +kernel⟩
def x_is_integer : XS := xRet (xAndV (xFn gIsi (xaCons (xVar 0) (xaCons (xC (.ty "int")) (xaNil)))) (xNotV (xFn gIsi (xaCons (xVar 0) (xaCons (xC (.ty "bool")) (xaNil))))))
def f_is_integer : List D → Option D := fnX 1 1 x_is_integer
theorem k_is_integer (B : Blt mg) (d : DefAt K mg "is_integer" (top 10)) : FA P w K mg base 1 "is_integer" ["value"] (spC f_is_integer) :=
  fa_of (xb := x_is_integer) d sc_is_integer rfl rfl (fun _ _ _ _ _ _ us hl => match us, hl with | [_], _ => rfl) fun f cdv A outer s H E hr =>
    xss_one (xs_ret (xe_and (c_isi B rfl (xa_cons (xe_var 0) (xa_cons (v_int B rfl) (xa_nil)))) (xe_one (xe_not (c_isi B rfl (xa_cons (xe_var 0) (xa_cons (v_bool B rfl) (xa_nil))))))))
/-! ### is_between -/
theorem sc_is_between : FnScope ["value", "least", "most"] ["value", "least", "most"] (defScope (top 11)) := ⟨rfl, rfl, rfl, by decide +kernel, rfl, by decide +kernel, by decide +kernel⟩
def x_is_between : XS := xRet (xAndV (xCall f_is_integer (xaCons (xVar 0) (xaNil))) (xChain gLe gLe (xVar 1) (xVar 0) (xVar 2)))
def f_is_between : List D → Option D := fnX 3 3 x_is_between
theorem k_is_between (B : Blt mg) (d : DefAt K mg "is_between" (top 11)) (c_is_integer : FA P w K mg base 1 "is_integer" ["value"] (spC f_is_integer)) : FA P w K mg base 2 "is_between" ["value", "least", "most"] (spC f_is_between) :=
  fa_of (xb := x_is_between) d sc_is_between rfl rfl (fun _ _ _ _ _ _ us hl => match us, hl with | [_, _, _], _ => rfl) fun f cdv A outer s H E hr =>
    xss_one (xs_ret (xe_and (xe_c c_is_integer hr (by decide) rfl (xa_cons (xe_var 0) (xa_nil))) (xe_one (xe_chain op_le op_le snd_cmp snd_cmp (xe_var 1) (xe_var 0) (xe_var 2)))))
/-! ### check_number -/
theorem sc_check_number : FnScope ["value", "least", "most"] ["value", "least", "most"] (defScope (top 12)) := ⟨rfl, rfl, rfl, by decide +kernel, rfl, by decide +kernel, by decide +kernel⟩
def x_check_number : XS := xIfS (xNotT (xTru (xCall f_is_between (xaCons (xVar 0) (xaCons (xVar 1) (xaCons (xVar 2) (xaNil))))))) (xNever) (xNext)
def f_check_number : List D → Option D := fnX 3 3 x_check_number
theorem k_check_number (B : Blt mg) (d : DefAt K mg "check_number" (top 12)) (c_is_between : FA P w K mg base 2 "is_between" ["value", "least", "most"] (spC f_is_between)) : FA P w K mg base 3 "check_number" ["value", "least", "most"] (spC f_check_number) :=
  fa_of (xb := x_check_number) d sc_check_number rfl rfl (fun _ _ _ _ _ _ us hl => match us, hl with | [_, _, _], _ => rfl) fun f cdv A outer s H E hr =>
    xss_one (xs_if (xt_not (xt_tru (xe_c c_is_between hr (by decide) rfl (xa_cons (xe_var 0) (xa_cons (xe_var 1) (xa_cons (xe_var 2) (xa_nil))))))) (xss_never) (xss_nil))
/-! ### common -/
theorem sc_common : FnScope ["high", "low"] ["high", "low"] (defScope (top 14)) := ⟨rfl, rfl, rfl, by decide +kernel, rfl, by decide +kernel, by decide +kernel⟩
def x_common : XS := xSeq (xWhile (xTB (xOp gGt (xVar 1) (xC (.int 0)))) (xPar 0 1 (xaCons (xVar 1) (xaCons (xOp gMod (xVar 0) (xVar 1)) (xaNil)))) 60) (xRet (xVar 0))
def f_common : List D → Option D := fnX 2 2 x_common
theorem k_common (B : Blt mg) (d : DefAt K mg "common" (top 14)) : FA P w K mg base 1 "common" ["high", "low"] (spC f_common) :=
  fa_of (xb := x_common) d sc_common rfl rfl (fun _ _ _ _ _ _ us hl => match us, hl with | [_, _], _ => rfl) fun f cdv A outer s H E hr =>
    xss_cons (xs_while 60 PassesOwn.never (t_gt (xe_var 1) (xe_int)) (xss_one (xs_par 0 1 rfl sc_common.nd rfl rfl (by decide) rfl rfl (xa_cons (xe_var 1) (xa_cons (e_mod (xe_var 0) (xe_var 1)) (xa_nil))) (by rfl)))) (xss_one (xs_ret (xe_var 0)))
/-! ### ratio -/
theorem sc_ratio : FnScope ["top", "bottom", "same"] ["top", "bottom"] (defScope (top 13)) := ⟨rfl, rfl, rfl, by decide +kernel, rfl, by decide +kernel, by decide +kernel⟩
def x_ratio : XS := xSeq (xAsg (xCall f_common (xaCons (xFn gAbs (xaCons (xVar 0) (xaNil))) (xaCons (xVar 1) (xaNil)))) (xgName 2)) (xRet (xTup (xaCons (xOp gDiv (xVar 0) (xVar 2)) (xaCons (xOp gDiv (xVar 1) (xVar 2)) (xaNil)))))
def f_ratio : List D → Option D := fnX 2 3 x_ratio
theorem k_ratio (B : Blt mg) (d : DefAt K mg "ratio" (top 13)) (c_common : FA P w K mg base 1 "common" ["high", "low"] (spC f_common)) : FA P w K mg base 2 "ratio" ["top", "bottom"] (spC f_ratio) :=
  fa_of (xb := x_ratio) d sc_ratio rfl rfl (fun _ _ _ _ _ _ us hl => match us, hl with | [_, _], _ => rfl) fun f cdv A outer s H E hr =>
    xss_cons (xs_set 2 sc_ratio.nd rfl (by first | exact .inl rfl | exact .inr rfl) (xe_c c_common hr (by decide) rfl (xa_cons (c_abs B rfl (xa_cons (xe_var 0) (xa_nil))) (xa_cons (xe_var 1) (xa_nil))))) (xss_one (xs_ret (xe_tup (xa_cons (e_div (xe_var 0) (xe_var 2)) (xa_cons (e_div (xe_var 1) (xe_var 2)) (xa_nil))))))
/-! ### factorial -/
theorem sc_factorial : FnScope ["number", "found", "factor"] ["number"] (defScope (top 15)) := ⟨rfl, rfl, rfl, by decide +kernel, rfl, by decide +kernel, by decide +kernel⟩
def x_factorial : XS := xSeq (xAsg (xC (.int 1)) (xgName 1)) (xSeq (xFor 130 (xiRg2 (xaCons (xC (.int 2)) (xaCons (xOp gAdd (xVar 0) (xC (.int 1))) (xaNil)))) (xgName 2) (xAsg (xOp gMul (xVar 1) (xVar 2)) (xgName 1))) (xRet (xVar 1)))
def f_factorial : List D → Option D := fnX 1 3 x_factorial
theorem k_factorial (B : Blt mg) (d : DefAt K mg "factorial" (top 15)) : FA P w K mg base 1 "factorial" ["number"] (spC f_factorial) :=
  fa_of (xb := x_factorial) d sc_factorial rfl rfl (fun _ _ _ _ _ _ us hl => match us, hl with | [_], _ => rfl) fun f cdv A outer s H E hr =>
    xss_cons (xs_set 1 sc_factorial.nd rfl (by first | exact .inl rfl | exact .inr rfl) (xe_int)) (xss_cons (xs_for (vs := [2]) 130 PassesOwn.never rfl (xi_rg2 rfl B.range_ (xa_cons (xe_int) (xa_cons (e_add (xe_var 0) (xe_int)) (xa_nil)))) (xg_name 2 sc_factorial.nd rfl (by first | exact .inl rfl | exact .inr rfl) (by decide)) (xss_one (xs_set 1 sc_factorial.nd rfl (by first | exact .inl rfl | exact .inr rfl) (e_mul (xe_var 1) (xe_var 2))))) (xss_one (xs_ret (xe_var 1))))
/-! ### is_turn -/
theorem sc_is_turn : FnScope ["value", "place"] ["value"] (defScope (top 17)) := ⟨rfl, rfl, rfl, by decide +kernel, rfl, by decide +kernel, by decide +kernel⟩
def x_is_turn : XS := xSeq (xIfS (xOrT (xNotT (xTru (xFn gIsi (xaCons (xVar 0) (xaCons (xC (.ty "tuple")) (xaNil)))))) (xNotT (xTB (xChain gLe gLe (xC (.int 1)) (xFn gLen (xaCons (xVar 0) (xaNil))) (xC (.int 24)))))) (xRet (xC (.bl false))) (xNext)) (xRet (xAndV (xFn gAll (xaCons (xLc 130 (xiSeq (xVar 0)) (xgName 1) (xYes) (xCall f_is_integer (xaCons (xVar 1) (xaNil))) [1]) (xaNil))) (xOp gEq (xFn gSorted (xaCons (xVar 0) (xaNil))) (xRgL1 (xFn gLen (xaCons (xVar 0) (xaNil)))))))
def f_is_turn : List D → Option D := fnX 1 2 x_is_turn
theorem k_is_turn (B : Blt mg) (d : DefAt K mg "is_turn" (top 17)) (c_is_integer : FA P w K mg base 1 "is_integer" ["value"] (spC f_is_integer)) : FA P w K mg base 2 "is_turn" ["value"] (spC f_is_turn) :=
  fa_of (xb := x_is_turn) d sc_is_turn rfl rfl (fun _ _ _ _ _ _ us hl => match us, hl with | [_], _ => rfl) fun f cdv A outer s H E hr =>
    xss_cons (xs_if (PW.pt (xw_or (xt_not (xt_tru (c_isi B rfl (xa_cons (xe_var 0) (xa_cons (v_tuple B rfl) (xa_nil)))))) (xw_or1 (xt_not (xt_chain op_le op_le snd_cmp snd_cmp (xe_int) (c_len B rfl (xa_cons (xe_var 0) (xa_nil))) (v_most B rfl)))))) (xss_one (xs_ret (xe_bl))) (xss_nil)) (xss_one (xs_ret (xe_and (c_all rfl B rfl (xa_cons (xe_lc (own := [("place", 1)]) 130 rfl sc_is_turn.nd (xi_seq (xe_var 0)) (blkOk_by (by rfl)) (fun _ _ _ _ _ => xg_name 1 sc_is_turn.nd rfl (by first | exact .inl rfl | exact .inr rfl) (by decide)) (fun _ _ _ _ _ => xts_nil) (fun _ _ _ _ _ => xe_c c_is_integer hr (by decide) rfl (xa_cons (xe_var 1) (xa_nil)))) (xa_nil))) (xe_one (e_eq hr (c_sorted B rfl (xa_cons (xe_var 0) (xa_nil))) (xe_rgL1 rfl rfl B.list_ rfl B.range_ (c_len B rfl (xa_cons (xe_var 0) (xa_nil)))))))))
/-! ### check_turn -/
theorem sc_check_turn : FnScope ["value"] ["value"] (defScope (top 18)) := ⟨rfl, rfl, rfl, by decide +kernel, rfl, by decide +kernel, by decide +kernel⟩
def x_check_turn : XS := xIfS (xNotT (xTru (xCall f_is_turn (xaCons (xVar 0) (xaNil))))) (xNever) (xNext)
def f_check_turn : List D → Option D := fnX 1 1 x_check_turn
theorem k_check_turn (B : Blt mg) (d : DefAt K mg "check_turn" (top 18)) (c_is_turn : FA P w K mg base 2 "is_turn" ["value"] (spC f_is_turn)) : FA P w K mg base 3 "check_turn" ["value"] (spC f_check_turn) :=
  fa_of (xb := x_check_turn) d sc_check_turn rfl rfl (fun _ _ _ _ _ _ us hl => match us, hl with | [_], _ => rfl) fun f cdv A outer s H E hr =>
    xss_one (xs_if (xt_not (xt_tru (xe_c c_is_turn hr (by decide) rfl (xa_cons (xe_var 0) (xa_nil))))) (xss_never) (xss_nil))
/-! ### check_turns -/
theorem sc_check_turns : FnScope ["one", "other"] ["one", "other"] (defScope (top 19)) := ⟨rfl, rfl, rfl, by decide +kernel, rfl, by decide +kernel, by decide +kernel⟩
def x_check_turns : XS := xSeq (xDrop (xCall f_check_turn (xaCons (xVar 0) (xaNil)))) (xSeq (xDrop (xCall f_check_turn (xaCons (xVar 1) (xaNil)))) (xIfS (xTB (xOp gNe (xFn gLen (xaCons (xVar 0) (xaNil))) (xFn gLen (xaCons (xVar 1) (xaNil))))) (xNever) (xNext)))
def f_check_turns : List D → Option D := fnX 2 2 x_check_turns
theorem k_check_turns (B : Blt mg) (d : DefAt K mg "check_turns" (top 19)) (c_check_turn : FA P w K mg base 3 "check_turn" ["value"] (spC f_check_turn)) : FA P w K mg base 4 "check_turns" ["one", "other"] (spC f_check_turns) :=
  fa_of (xb := x_check_turns) d sc_check_turns rfl rfl (fun _ _ _ _ _ _ us hl => match us, hl with | [_, _], _ => rfl) fun f cdv A outer s H E hr =>
    xss_cons (xs_expr (xe_c c_check_turn hr (by decide) rfl (xa_cons (xe_var 0) (xa_nil)))) (xss_cons (xs_expr (xe_c c_check_turn hr (by decide) rfl (xa_cons (xe_var 1) (xa_nil)))) (xss_one (xs_if (t_ne hr (c_len B rfl (xa_cons (xe_var 0) (xa_nil))) (c_len B rfl (xa_cons (xe_var 1) (xa_nil)))) (xss_never) (xss_nil))))
/-! ### rings_of -/
theorem sc_rings_of : FnScope ["turn", "place", "gone", "found", "ring"] ["turn"] (defScope (top 20)) := ⟨rfl, rfl, rfl, by decide +kernel, rfl, by decide +kernel, by decide +kernel⟩
def x_rings_of : XS := xSeq (xPar 2 3 (xaCons (xDnew) (xaCons (xLst (xaNil)) (xaNil)))) (xSeq (xFor 130 (xiRg1 (xaCons (xFn gLen (xaCons (xVar 0) (xaNil))) (xaNil))) (xgName 1) (xSeq (xAsg (xLst (xaNil)) (xgName 4)) (xSeq (xWhile (xTB (xOp (gDIn true) (xVar 1) (xVar 2))) (xSeq (xDPut (xVar 2) (xVar 1) (xC (.bl true))) (xSeq (xDrop (xMt gAppend (xVar 4) (xaCons (xVar 1) (xaNil)))) (xAsg (xOp gIx (xVar 0) (xVar 1)) (xgName 1)))) 60) (xIfS (xTB (xOp gNe (xVar 4) (xLst (xaNil)))) (xDrop (xMt gAppend (xVar 3) (xaCons (xFn gTuple (xaCons (xVar 4) (xaNil))) (xaNil)))) (xNext))))) (xRet (xFn gTuple (xaCons (xVar 3) (xaNil)))))
def f_rings_of : List D → Option D := fnX 1 5 x_rings_of
theorem k_rings_of (B : Blt mg) (d : DefAt K mg "rings_of" (top 20)) : FA P w K mg base 1 "rings_of" ["turn"] (spC f_rings_of) :=
  fa_of (xb := x_rings_of) d sc_rings_of rfl rfl (fun _ _ _ _ _ _ us hl => match us, hl with | [_], _ => rfl) fun f cdv A outer s H E hr =>
    xss_cons (xs_par 2 3 rfl sc_rings_of.nd rfl rfl (by decide) rfl rfl (xa_cons (xe_dnew) (xa_cons (xe_lst (xa_nil)) (xa_nil))) (by rfl)) (xss_cons (xs_for (vs := [1]) 130 PassesOwn.never rfl (xi_rg1 rfl B.range_ (xa_cons (c_len B rfl (xa_cons (xe_var 0) (xa_nil))) (xa_nil))) (xg_name 1 sc_rings_of.nd rfl (by first | exact .inl rfl | exact .inr rfl) (by decide)) (xss_cons (xs_set 4 sc_rings_of.nd rfl (by first | exact .inl rfl | exact .inr rfl) (xe_lst (xa_nil))) (xss_cons (xs_while 60 PassesOwn.never (t_dnotin hr (xe_var 1) (xe_var 2)) (xss_cons (s_dput hr (xe_var 2) (xe_var 1) (xe_bl)) (xss_cons (xs_expr (xe_append (xe_var 4) (xa_cons (xe_var 1) (xa_nil)))) (xss_one (xs_set 1 sc_rings_of.nd rfl (by first | exact .inl rfl | exact .inr rfl) (e_ix (xe_var 0) (xe_var 1))))))) (xss_one (xs_if (t_ne hr (xe_var 4) (xe_lst (xa_nil))) (xss_one (xs_expr (xe_append (xe_var 3) (xa_cons (c_tuple B rfl (xa_cons (xe_var 4) (xa_nil))) (xa_nil))))) (xss_nil)))))) (xss_one (xs_ret (c_tuple B rfl (xa_cons (xe_var 3) (xa_nil))))))
/-! ### falling -/
theorem sc_falling : FnScope ["numbers"] ["numbers"] (defScope (top 21)) := ⟨rfl, rfl, rfl, by decide +kernel, rfl, by decide +kernel, by decide +kernel⟩
def x_falling : XS := xRet (xFn gTuple (xaCons (xRev (xFn gSorted (xaCons (xVar 0) (xaNil)))) (xaNil)))
def f_falling : List D → Option D := fnX 1 1 x_falling
theorem k_falling (B : Blt mg) (d : DefAt K mg "falling" (top 21)) : FA P w K mg base 1 "falling" ["numbers"] (spC f_falling) :=
  fa_of (xb := x_falling) d sc_falling rfl rfl (fun _ _ _ _ _ _ us hl => match us, hl with | [_], _ => rfl) fun f cdv A outer s H E hr =>
    xss_one (xs_ret (c_tuple B rfl (xa_cons (xe_rev (c_sorted B rfl (xa_cons (xe_var 0) (xa_nil)))) (xa_nil))))
/-! ### kind_for -/
theorem sc_kind_for : FnScope ["turn", "ring"] ["turn"] (defScope (top 22)) := ⟨rfl, rfl, rfl, by decide +kernel, rfl, by decide +kernel, by decide +kernel⟩
def x_kind_for : XS := xRet (xCall f_falling (xaCons (xLc 130 (xiSeq (xCall f_rings_of (xaCons (xVar 0) (xaNil)))) (xgName 1) (xYes) (xFn gLen (xaCons (xVar 1) (xaNil))) [1]) (xaNil)))
def f_kind_for : List D → Option D := fnX 1 2 x_kind_for
theorem k_kind_for (B : Blt mg) (d : DefAt K mg "kind_for" (top 22)) (c_falling : FA P w K mg base 1 "falling" ["numbers"] (spC f_falling)) (c_rings_of : FA P w K mg base 1 "rings_of" ["turn"] (spC f_rings_of)) : FA P w K mg base 2 "kind_for" ["turn"] (spC f_kind_for) :=
  fa_of (xb := x_kind_for) d sc_kind_for rfl rfl (fun _ _ _ _ _ _ us hl => match us, hl with | [_], _ => rfl) fun f cdv A outer s H E hr =>
    xss_one (xs_ret (xe_c c_falling hr (by decide) rfl (xa_cons (xe_lc (own := [("ring", 1)]) 130 rfl sc_kind_for.nd (xi_seq (xe_c c_rings_of hr (by decide) rfl (xa_cons (xe_var 0) (xa_nil)))) (blkOk_by (by rfl)) (fun _ _ _ _ _ => xg_name 1 sc_kind_for.nd rfl (by first | exact .inl rfl | exact .inr rfl) (by decide)) (fun _ _ _ _ _ => xts_nil) (fun _ _ _ _ _ => c_len B rfl (xa_cons (xe_var 1) (xa_nil)))) (xa_nil))))
/-! ### after -/
theorem sc_after : FnScope ["one", "other", "place"] ["one", "other"] (defScope (top 23)) := ⟨rfl, rfl, rfl, by decide +kernel, rfl, by decide +kernel, by decide +kernel⟩
def x_after : XS := xRet (xFn gTuple (xaCons (xLc 130 (xiSeq (xVar 0)) (xgName 2) (xYes) (xOp gIx (xVar 1) (xVar 2)) [2]) (xaNil)))
def f_after : List D → Option D := fnX 2 3 x_after
theorem k_after (B : Blt mg) (d : DefAt K mg "after" (top 23)) : FA P w K mg base 1 "after" ["one", "other"] (spC f_after) :=
  fa_of (xb := x_after) d sc_after rfl rfl (fun _ _ _ _ _ _ us hl => match us, hl with | [_, _], _ => rfl) fun f cdv A outer s H E hr =>
    xss_one (xs_ret (c_tuple B rfl (xa_cons (xe_lc (own := [("place", 2)]) 130 rfl sc_after.nd (xi_seq (xe_var 0)) (blkOk_by (by rfl)) (fun _ _ _ _ _ => xg_name 2 sc_after.nd rfl (by first | exact .inl rfl | exact .inr rfl) (by decide)) (fun _ _ _ _ _ => xts_nil) (fun _ _ _ _ _ => e_ix (xe_var 1) (xe_var 2))) (xa_nil))))
/-! ### from_rings -/
theorem sc_from_rings : FnScope ["rings", "many", "found", "ring", "place", "goal"] ["rings", "many"] (defScope (top 24)) := ⟨rfl, rfl, rfl, by decide +kernel, rfl, by decide +kernel, by decide +kernel⟩
def x_from_rings : XS := xSeq (xAsg (xRgL1 (xVar 1)) (xgName 2)) (xSeq (xFor 130 (xiSeq (xVar 0)) (xgName 3) (xFor 130 (xiZipM (xaCons (xVar 3) (xaCons (xLst (xaStar (xSl (xVar 3) (xoSome (xC (.int 1))) (xoNone)) (xaCons (xOp gIx (xVar 3) (xC (.int 0))) (xaNil)))) (xaNil)))) (xgTup2 4 5) (xLSet (xVar 2) (xVar 4) (xVar 5)))) (xRet (xFn gTuple (xaCons (xVar 2) (xaNil)))))
def f_from_rings : List D → Option D := fnX 2 6 x_from_rings
theorem k_from_rings (B : Blt mg) (d : DefAt K mg "from_rings" (top 24)) : FA P w K mg base 1 "from_rings" ["rings", "many"] (spC f_from_rings) :=
  fa_of (xb := x_from_rings) d sc_from_rings rfl rfl (fun _ _ _ _ _ _ us hl => match us, hl with | [_, _], _ => rfl) fun f cdv A outer s H E hr =>
    xss_cons (xs_set 2 sc_from_rings.nd rfl (by first | exact .inl rfl | exact .inr rfl) (xe_rgL1 rfl rfl B.list_ rfl B.range_ (xe_var 1))) (xss_cons (xs_for (vs := [3]) 130 PassesOwn.never rfl (xi_seq (xe_var 0)) (xg_name 3 sc_from_rings.nd rfl (by first | exact .inl rfl | exact .inr rfl) (by decide)) (xss_one (xs_for (vs := [4, 5]) 130 PassesOwn.never rfl (xi_zipM rfl B.zip_ (xa_cons (xe_var 3) (xa_cons (xe_lst (xa_star (xe_sl (xe_var 3) (xo_some (xe_int)) (xo_none)) (xa_cons (e_ix (xe_var 3) (xe_int)) (xa_nil)))) (xa_nil)))) (xg_tup2 4 5 rfl sc_from_rings.nd rfl rfl (by first | exact .inl rfl | exact .inr rfl) (by first | exact .inl rfl | exact .inr rfl) (by decide) (by decide)) (xss_one (xs_lset (xe_var 2) (xe_var 4) (xe_var 5)))))) (xss_one (xs_ret (c_tuple B rfl (xa_cons (xe_var 2) (xa_nil))))))
/-! ### rings -/
theorem sc_rings : FnScope ["turn"] ["turn"] (defScope (top 25)) := ⟨rfl, rfl, rfl, by decide +kernel, rfl, by decide +kernel, by decide +kernel⟩
def x_rings : XS := xSeq (xDrop (xCall f_check_turn (xaCons (xVar 0) (xaNil)))) (xRet (xCall f_rings_of (xaCons (xVar 0) (xaNil))))
def f_rings : List D → Option D := fnX 1 1 x_rings
theorem k_rings (B : Blt mg) (d : DefAt K mg "rings" (top 25)) (c_rings_of : FA P w K mg base 1 "rings_of" ["turn"] (spC f_rings_of)) (c_check_turn : FA P w K mg base 3 "check_turn" ["value"] (spC f_check_turn)) : FA P w K mg base 4 "rings" ["turn"] (spC f_rings) :=
  fa_of (xb := x_rings) d sc_rings rfl rfl (fun _ _ _ _ _ _ us hl => match us, hl with | [_], _ => rfl) fun f cdv A outer s H E hr =>
    xss_cons (xs_expr (xe_c c_check_turn hr (by decide) rfl (xa_cons (xe_var 0) (xa_nil)))) (xss_one (xs_ret (xe_c c_rings_of hr (by decide) rfl (xa_cons (xe_var 0) (xa_nil)))))
/-! ### kind_of -/
theorem sc_kind_of : FnScope ["turn"] ["turn"] (defScope (top 26)) := ⟨rfl, rfl, rfl, by decide +kernel, rfl, by decide +kernel, by decide +kernel⟩
def x_kind_of : XS := xSeq (xDrop (xCall f_check_turn (xaCons (xVar 0) (xaNil)))) (xRet (xCall f_kind_for (xaCons (xVar 0) (xaNil))))
def f_kind_of : List D → Option D := fnX 1 1 x_kind_of
theorem k_kind_of (B : Blt mg) (d : DefAt K mg "kind_of" (top 26)) (c_kind_for : FA P w K mg base 2 "kind_for" ["turn"] (spC f_kind_for)) (c_check_turn : FA P w K mg base 3 "check_turn" ["value"] (spC f_check_turn)) : FA P w K mg base 4 "kind_of" ["turn"] (spC f_kind_of) :=
  fa_of (xb := x_kind_of) d sc_kind_of rfl rfl (fun _ _ _ _ _ _ us hl => match us, hl with | [_], _ => rfl) fun f cdv A outer s H E hr =>
    xss_cons (xs_expr (xe_c c_check_turn hr (by decide) rfl (xa_cons (xe_var 0) (xa_nil)))) (xss_one (xs_ret (xe_c c_kind_for hr (by decide) rfl (xa_cons (xe_var 0) (xa_nil)))))
/-! ### then -/
theorem sc_then : FnScope ["one", "other"] ["one", "other"] (defScope (top 27)) := ⟨rfl, rfl, rfl, by decide +kernel, rfl, by decide +kernel, by decide +kernel⟩
def x_then : XS := xSeq (xDrop (xCall f_check_turns (xaCons (xVar 0) (xaCons (xVar 1) (xaNil))))) (xRet (xCall f_after (xaCons (xVar 0) (xaCons (xVar 1) (xaNil)))))
def f_then : List D → Option D := fnX 2 2 x_then
theorem k_then (B : Blt mg) (d : DefAt K mg "then" (top 27)) (c_after : FA P w K mg base 1 "after" ["one", "other"] (spC f_after)) (c_check_turns : FA P w K mg base 4 "check_turns" ["one", "other"] (spC f_check_turns)) : FA P w K mg base 5 "then" ["one", "other"] (spC f_then) :=
  fa_of (xb := x_then) d sc_then rfl rfl (fun _ _ _ _ _ _ us hl => match us, hl with | [_, _], _ => rfl) fun f cdv A outer s H E hr =>
    xss_cons (xs_expr (xe_c c_check_turns hr (by decide) rfl (xa_cons (xe_var 0) (xa_cons (xe_var 1) (xa_nil))))) (xss_one (xs_ret (xe_c c_after hr (by decide) rfl (xa_cons (xe_var 0) (xa_cons (xe_var 1) (xa_nil))))))
end XL
end
section
set_option maxRecDepth 100000
set_option maxHeartbeats 0
/-! XN2: defs of the text, printed by gen.py. -/
namespace XL
open PySem PySem.Spec PyProof.Rows L2
variable {P : Program} {w : World} {K : PySem.W.Frag} {mg : Str → Option Value} {base : Heap}
/-! ### is_kind -/
theorem sc_is_kind : FnScope ["value", "part", "one", "other"] ["value"] (defScope (top 29)) := ⟨rfl, rfl, rfl, by decide +kernel, rfl, by decide +kernel, by decide +kernel⟩
def x_is_kind : XS := xSeq (xIfS (xOrT (xNotT (xTru (xFn gIsi (xaCons (xVar 0) (xaCons (xC (.ty "tuple")) (xaNil)))))) (xOrT (xTB (xOp gEq (xVar 0) (xTup (xaNil)))) (xNotT (xTru (xFn gAll (xaCons (xLc 130 (xiSeq (xVar 0)) (xgName 1) (xYes) (xAndV (xCall f_is_integer (xaCons (xVar 1) (xaNil))) (xOp gGt (xVar 1) (xC (.int 0)))) [1]) (xaNil))))))) (xRet (xC (.bl false))) (xNext)) (xRet (xAndV (xOp gLe (xFn gSum (xaCons (xVar 0) (xaNil))) (xC (.int 24))) (xFn gAll (xaCons (xLc 130 (xiZip (xaCons (xVar 0) (xaCons (xSl (xVar 0) (xoSome (xC (.int 1))) (xoNone)) (xaNil)))) (xgTup2 2 3) (xYes) (xOp gGe (xVar 2) (xVar 3)) [2, 3]) (xaNil)))))
def f_is_kind : List D → Option D := fnX 1 4 x_is_kind
theorem k_is_kind (B : Blt mg) (d : DefAt K mg "is_kind" (top 29)) (c_is_integer : FA P w K mg base 1 "is_integer" ["value"] (spC f_is_integer)) : FA P w K mg base 2 "is_kind" ["value"] (spC f_is_kind) :=
  fa_of (xb := x_is_kind) d sc_is_kind rfl rfl (fun _ _ _ _ _ _ us hl => match us, hl with | [_], _ => rfl) fun f cdv A outer s H E hr =>
    xss_cons (xs_if (PW.pt (xw_or (xt_not (xt_tru (c_isi B rfl (xa_cons (xe_var 0) (xa_cons (v_tuple B rfl) (xa_nil)))))) (xw_or (t_eq hr (xe_var 0) (xe_tup (xa_nil))) (xw_or1 (xt_not (xt_tru (c_all rfl B rfl (xa_cons (xe_lc (own := [("part", 1)]) 130 rfl sc_is_kind.nd (xi_seq (xe_var 0)) (blkOk_by (by rfl)) (fun _ _ _ _ _ => xg_name 1 sc_is_kind.nd rfl (by first | exact .inl rfl | exact .inr rfl) (by decide)) (fun _ _ _ _ _ => xts_nil) (fun _ _ _ _ _ => xe_and (xe_c c_is_integer hr (by decide) rfl (xa_cons (xe_var 1) (xa_nil))) (xe_one (e_gt (xe_var 1) (xe_int))))) (xa_nil))))))))) (xss_one (xs_ret (xe_bl))) (xss_nil)) (xss_one (xs_ret (xe_and (e_le (c_sum rfl B rfl (xa_cons (xe_var 0) (xa_nil))) (v_most B rfl)) (xe_one (c_all rfl B rfl (xa_cons (xe_lc (own := [("one", 2), ("other", 3)]) 130 rfl sc_is_kind.nd (xi_zip rfl B.zip_ (xa_cons (xe_var 0) (xa_cons (xe_sl (xe_var 0) (xo_some (xe_int)) (xo_none)) (xa_nil)))) (blkOk_by (by rfl)) (fun _ _ _ _ _ => xg_tup2 2 3 rfl sc_is_kind.nd rfl rfl (by first | exact .inl rfl | exact .inr rfl) (by first | exact .inl rfl | exact .inr rfl) (by decide) (by decide)) (fun _ _ _ _ _ => xts_nil) (fun _ _ _ _ _ => e_ge (xe_var 2) (xe_var 3))) (xa_nil)))))))
/-! ### check_kind -/
theorem sc_check_kind : FnScope ["value"] ["value"] (defScope (top 30)) := ⟨rfl, rfl, rfl, by decide +kernel, rfl, by decide +kernel, by decide +kernel⟩
def x_check_kind : XS := xIfS (xNotT (xTru (xCall f_is_kind (xaCons (xVar 0) (xaNil))))) (xNever) (xNext)
def f_check_kind : List D → Option D := fnX 1 1 x_check_kind
theorem k_check_kind (B : Blt mg) (d : DefAt K mg "check_kind" (top 30)) (c_is_kind : FA P w K mg base 2 "is_kind" ["value"] (spC f_is_kind)) : FA P w K mg base 3 "check_kind" ["value"] (spC f_check_kind) :=
  fa_of (xb := x_check_kind) d sc_check_kind rfl rfl (fun _ _ _ _ _ _ us hl => match us, hl with | [_], _ => rfl) fun f cdv A outer s H E hr =>
    xss_one (xs_if (xt_not (xt_tru (xe_c c_is_kind hr (by decide) rfl (xa_cons (xe_var 0) (xa_nil))))) (xss_never) (xss_nil))
/-! ### check_both -/
theorem sc_check_both : FnScope ["one", "other"] ["one", "other"] (defScope (top 31)) := ⟨rfl, rfl, rfl, by decide +kernel, rfl, by decide +kernel, by decide +kernel⟩
def x_check_both : XS := xSeq (xDrop (xCall f_check_kind (xaCons (xVar 0) (xaNil)))) (xSeq (xDrop (xCall f_check_kind (xaCons (xVar 1) (xaNil)))) (xIfS (xTB (xOp gNe (xFn gSum (xaCons (xVar 0) (xaNil))) (xFn gSum (xaCons (xVar 1) (xaNil))))) (xNever) (xNext)))
def f_check_both : List D → Option D := fnX 2 2 x_check_both
theorem k_check_both (B : Blt mg) (d : DefAt K mg "check_both" (top 31)) (c_check_kind : FA P w K mg base 3 "check_kind" ["value"] (spC f_check_kind)) : FA P w K mg base 4 "check_both" ["one", "other"] (spC f_check_both) :=
  fa_of (xb := x_check_both) d sc_check_both rfl rfl (fun _ _ _ _ _ _ us hl => match us, hl with | [_, _], _ => rfl) fun f cdv A outer s H E hr =>
    xss_cons (xs_expr (xe_c c_check_kind hr (by decide) rfl (xa_cons (xe_var 0) (xa_nil)))) (xss_cons (xs_expr (xe_c c_check_kind hr (by decide) rfl (xa_cons (xe_var 1) (xa_nil)))) (xss_one (xs_if (t_ne hr (c_sum rfl B rfl (xa_cons (xe_var 0) (xa_nil))) (c_sum rfl B rfl (xa_cons (xe_var 1) (xa_nil)))) (xss_never) (xss_nil))))
/-! ### kinds_with -/
theorem sc_kinds_with : FnScope ["size", "most", "found", "part", "rest"] ["size", "most"] (defScope (top 32)) := ⟨rfl, rfl, rfl, by decide +kernel, rfl, by decide +kernel, by decide +kernel⟩
def x_kinds_with (g : List D → Option D) : XS := xSeq (xIfS (xTB (xOp gEq (xVar 0) (xC (.int 0)))) (xRet (xLst (xaCons (xTup (xaNil)) (xaNil)))) (xNext)) (xSeq (xAsg (xLst (xaNil)) (xgName 2)) (xSeq (xFor 130 (xiRg3 (xaCons (xFn gMin2 (xaCons (xVar 0) (xaCons (xVar 1) (xaNil)))) (xaCons (xC (.int 0)) (xaCons (xUn gNeg (xC (.int 1))) (xaNil))))) (xgName 3) (xDrop (xMt gExtend (xVar 2) (xaCons (xLc 130 (xiSeq (xCall g (xaCons (xOp gSub (xVar 0) (xVar 3)) (xaCons (xVar 3) (xaNil))))) (xgName 4) (xYes) (xTupF (xaCons (xVar 3) (xaStar (xVar 4) (xaNil)))) [4]) (xaNil))))) (xRet (xVar 2))))
def f_kinds_with : Nat → List D → Option D
  | 0 => fun _ => none
  | n + 1 => fnX 2 5 (x_kinds_with (f_kinds_with n))
theorem k_kinds_with (B : Blt mg) (d : DefAt K mg "kinds_with" (top 32)) : ∀ n : Nat, FA P w K mg base n "kinds_with" ["size", "most"] (spC (f_kinds_with n))
  | 0 => fa_none d (fun _ _ _ _ _ _ us hl => match us, hl with | [_, _], _ => rfl)
  | n + 1 =>
    have c_self := k_kinds_with B d n
    fa_of (xb := x_kinds_with (f_kinds_with n)) d sc_kinds_with rfl rfl (fun _ _ _ _ _ _ us hl => match us, hl with | [_, _], _ => rfl) fun f cdv A outer s H E hr =>
      xss_cons (xs_if (t_eq hr (xe_var 0) (xe_int)) (xss_one (xs_ret (xe_lst (xa_cons (xe_tup (xa_nil)) (xa_nil))))) (xss_nil)) (xss_cons (xs_set 2 sc_kinds_with.nd rfl (by first | exact .inl rfl | exact .inr rfl) (xe_lst (xa_nil))) (xss_cons (xs_for (vs := [3]) 130 PassesOwn.never rfl (xi_rg3 rfl B.range_ (xa_cons (c_min2 rfl B rfl (xa_cons (xe_var 0) (xa_cons (xe_var 1) (xa_nil)))) (xa_cons (xe_int) (xa_cons (e_neg (xe_int)) (xa_nil))))) (xg_name 3 sc_kinds_with.nd rfl (by first | exact .inl rfl | exact .inr rfl) (by decide)) (xss_one (xs_expr (xe_extend (xe_var 2) (xa_cons (xe_lc (own := [("rest", 4)]) 130 rfl sc_kinds_with.nd (xi_seq (xe_c c_self hr (Nat.le_refl _) rfl (xa_cons (e_sub (xe_var 0) (xe_var 3)) (xa_cons (xe_var 3) (xa_nil))))) (blkOk_by (by rfl)) (fun _ _ _ _ _ => xg_name 4 sc_kinds_with.nd rfl (by first | exact .inl rfl | exact .inr rfl) (by decide)) (fun _ _ _ _ _ => xts_nil) (fun _ _ _ _ _ => xe_tupF (xa_cons (xe_var 3) (xa_star (xe_var 4) (xa_nil))))) (xa_nil)))))) (xss_one (xs_ret (xe_var 2)))))
/-! ### number_of_turns -/
theorem sc_number_of_turns : FnScope ["kind", "found", "part"] ["kind"] (defScope (top 33)) := ⟨rfl, rfl, rfl, by decide +kernel, rfl, by decide +kernel, by decide +kernel⟩
def x_number_of_turns : XS := xSeq (xAsg (xCall f_factorial (xaCons (xFn gSum (xaCons (xVar 0) (xaNil))) (xaNil))) (xgName 1)) (xSeq (xFor 130 (xiKeys (xDc 130 (xiSeq (xVar 0)) (xgName 2) xYes (xVar 2) (xC (.bl true)) [2])) (xgName 2) (xAsg (xOp gDiv (xVar 1) (xCall f_factorial (xaCons (xCount (xVar 0) (xaCons (xVar 2) (xaNil))) (xaNil)))) (xgName 1))) (xSeq (xFor 130 (xiSeq (xVar 0)) (xgName 2) (xAsg (xOp gDiv (xVar 1) (xVar 2)) (xgName 1))) (xRet (xVar 1))))
def f_number_of_turns : List D → Option D := fnX 1 3 x_number_of_turns
theorem k_number_of_turns (B : Blt mg) (d : DefAt K mg "number_of_turns" (top 33)) (c_factorial : FA P w K mg base 1 "factorial" ["number"] (spC f_factorial)) : FA P w K mg base 2 "number_of_turns" ["kind"] (spC f_number_of_turns) :=
  fa_of (xb := x_number_of_turns) d sc_number_of_turns rfl rfl (fun _ _ _ _ _ _ us hl => match us, hl with | [_], _ => rfl) fun f cdv A outer s H E hr =>
    xss_cons (xs_set 1 sc_number_of_turns.nd rfl (by first | exact .inl rfl | exact .inr rfl) (xe_c c_factorial hr (by decide) rfl (xa_cons (c_sum rfl B rfl (xa_cons (xe_var 0) (xa_nil))) (xa_nil)))) (xss_cons (xs_for (vs := [2]) 130 PassesOwn.never rfl (xi_keys (xe_dc (own := [("part", 2)]) 130 rfl sc_number_of_turns.nd (xi_seq (xe_var 0)) (blkOk_by (by rfl)) (fun _ _ _ _ _ => xg_name 2 sc_number_of_turns.nd rfl (by first | exact .inl rfl | exact .inr rfl) (by decide)) (fun _ _ _ _ _ => xts_nil) (fun _ _ _ _ _ => xe_var 2) (fun _ _ _ _ _ => xe_bl))) (xg_name 2 sc_number_of_turns.nd rfl (by first | exact .inl rfl | exact .inr rfl) (by decide)) (xss_one (xs_set 1 sc_number_of_turns.nd rfl (by first | exact .inl rfl | exact .inr rfl) (e_div (xe_var 1) (xe_c c_factorial hr (by decide) rfl (xa_cons (xe_count (xe_var 0) (xa_cons (xe_var 2) (xa_nil))) (xa_nil))))))) (xss_cons (xs_for (vs := [2]) 130 PassesOwn.never rfl (xi_seq (xe_var 0)) (xg_name 2 sc_number_of_turns.nd rfl (by first | exact .inl rfl | exact .inr rfl) (by decide)) (xss_one (xs_set 1 sc_number_of_turns.nd rfl (by first | exact .inl rfl | exact .inr rfl) (e_div (xe_var 1) (xe_var 2))))) (xss_one (xs_ret (xe_var 1)))))
/-! ### all_kinds -/
theorem sc_all_kinds : FnScope ["size"] ["size"] (defScope (top 34)) := ⟨rfl, rfl, rfl, by decide +kernel, rfl, by decide +kernel, by decide +kernel⟩
def x_all_kinds : XS := xSeq (xDrop (xCall f_check_number (xaCons (xVar 0) (xaCons (xC (.int 1)) (xaCons (xC (.int 24)) (xaNil)))))) (xRet (xFn gTuple (xaCons (xCall (f_kinds_with 7) (xaCons (xVar 0) (xaCons (xVar 0) (xaNil)))) (xaNil))))
def f_all_kinds : List D → Option D := fnX 1 1 x_all_kinds
theorem k_all_kinds (B : Blt mg) (d : DefAt K mg "all_kinds" (top 34)) (c_kinds_with : FA P w K mg base 7 "kinds_with" ["size", "most"] (spC (f_kinds_with 7))) (c_check_number : FA P w K mg base 3 "check_number" ["value", "least", "most"] (spC f_check_number)) : FA P w K mg base 8 "all_kinds" ["size"] (spC f_all_kinds) :=
  fa_of (xb := x_all_kinds) d sc_all_kinds rfl rfl (fun _ _ _ _ _ _ us hl => match us, hl with | [_], _ => rfl) fun f cdv A outer s H E hr =>
    xss_cons (xs_expr (xe_c c_check_number hr (by decide) rfl (xa_cons (xe_var 0) (xa_cons (xe_int) (xa_cons (v_most B rfl) (xa_nil)))))) (xss_one (xs_ret (c_tuple B rfl (xa_cons (xe_c c_kinds_with hr (by decide) rfl (xa_cons (xe_var 0) (xa_cons (xe_var 0) (xa_nil)))) (xa_nil)))))
/-! ### how_many_turns -/
theorem sc_how_many_turns : FnScope ["kind"] ["kind"] (defScope (top 35)) := ⟨rfl, rfl, rfl, by decide +kernel, rfl, by decide +kernel, by decide +kernel⟩
def x_how_many_turns : XS := xSeq (xDrop (xCall f_check_kind (xaCons (xVar 0) (xaNil)))) (xRet (xCall f_number_of_turns (xaCons (xVar 0) (xaNil))))
def f_how_many_turns : List D → Option D := fnX 1 1 x_how_many_turns
theorem k_how_many_turns (B : Blt mg) (d : DefAt K mg "how_many_turns" (top 35)) (c_number_of_turns : FA P w K mg base 2 "number_of_turns" ["kind"] (spC f_number_of_turns)) (c_check_kind : FA P w K mg base 3 "check_kind" ["value"] (spC f_check_kind)) : FA P w K mg base 4 "how_many_turns" ["kind"] (spC f_how_many_turns) :=
  fa_of (xb := x_how_many_turns) d sc_how_many_turns rfl rfl (fun _ _ _ _ _ _ us hl => match us, hl with | [_], _ => rfl) fun f cdv A outer s H E hr =>
    xss_cons (xs_expr (xe_c c_check_kind hr (by decide) rfl (xa_cons (xe_var 0) (xa_nil)))) (xss_one (xs_ret (xe_c c_number_of_turns hr (by decide) rfl (xa_cons (xe_var 0) (xa_nil)))))
/-! ### excess -/
theorem sc_excess : FnScope ["one", "other"] ["one", "other"] (defScope (top 37)) := ⟨rfl, rfl, rfl, by decide +kernel, rfl, by decide +kernel, by decide +kernel⟩
def x_excess : XS := xRet (xOp gSub (xOp gSub (xOp gAdd (xFn gSum (xaCons (xVar 0) (xaNil))) (xC (.int 1))) (xFn gLen (xaCons (xVar 0) (xaNil)))) (xFn gLen (xaCons (xVar 1) (xaNil))))
def f_excess : List D → Option D := fnX 2 2 x_excess
theorem k_excess (B : Blt mg) (d : DefAt K mg "excess" (top 37)) : FA P w K mg base 1 "excess" ["one", "other"] (spC f_excess) :=
  fa_of (xb := x_excess) d sc_excess rfl rfl (fun _ _ _ _ _ _ us hl => match us, hl with | [_, _], _ => rfl) fun f cdv A outer s H E hr =>
    xss_one (xs_ret (e_sub (e_sub (e_add (c_sum rfl B rfl (xa_cons (xe_var 0) (xa_nil))) (xe_int)) (c_len B rfl (xa_cons (xe_var 0) (xa_nil)))) (c_len B rfl (xa_cons (xe_var 1) (xa_nil)))))
/-! ### barred_by -/
theorem sc_barred_by : FnScope ["one", "other"] ["one", "other"] (defScope (top 38)) := ⟨rfl, rfl, rfl, by decide +kernel, rfl, by decide +kernel, by decide +kernel⟩
def x_barred_by : XS := xSeq (xIfS (xTB (xOp gEq (xOp gMod (xCall f_excess (xaCons (xVar 0) (xaCons (xVar 1) (xaNil)))) (xC (.int 2))) (xC (.int 1)))) (xRet (xC (.str "sign"))) (xNext)) (xRet (xIf (xTB (xOp gLt (xCall f_excess (xaCons (xVar 0) (xaCons (xVar 1) (xaNil)))) (xC (.int 0)))) (xC (.str "rings")) (xC .non)))
def f_barred_by : List D → Option D := fnX 2 2 x_barred_by
theorem k_barred_by (B : Blt mg) (d : DefAt K mg "barred_by" (top 38)) (c_excess : FA P w K mg base 1 "excess" ["one", "other"] (spC f_excess)) : FA P w K mg base 2 "barred_by" ["one", "other"] (spC f_barred_by) :=
  fa_of (xb := x_barred_by) d sc_barred_by rfl rfl (fun _ _ _ _ _ _ us hl => match us, hl with | [_, _], _ => rfl) fun f cdv A outer s H E hr =>
    xss_cons (xs_if (t_eq hr (e_mod (xe_c c_excess hr (by decide) rfl (xa_cons (xe_var 0) (xa_cons (xe_var 1) (xa_nil)))) (xe_int)) (xe_int)) (xss_one (xs_ret (xe_str))) (xss_nil)) (xss_one (xs_ret (xe_if (t_lt (xe_c c_excess hr (by decide) rfl (xa_cons (xe_var 0) (xa_cons (xe_var 1) (xa_nil)))) (xe_int)) (xe_str) (xe_non))))
/-! ### split -/
theorem sc_split : FnScope ["kind", "more", "found", "part", "taken", "spare"] ["kind", "more"] (defScope (top 40)) := ⟨rfl, rfl, rfl, by decide +kernel, rfl, by decide +kernel, by decide +kernel⟩
def x_split : XS := xSeq (xAsg (xLst (xaNil)) (xgName 2)) (xSeq (xFor 130 (xiSeq (xVar 0)) (xgName 3) (xSeq (xAsg (xFn gMin2 (xaCons (xVar 1) (xaCons (xOp gMul (xOp gDiv (xOp gSub (xVar 3) (xC (.int 1))) (xC (.int 2))) (xC (.int 2))) (xaNil)))) (xgName 4)) (xSeq (xDrop (xMt gAppend (xVar 2) (xaCons (xLst (xaCons (xOp gSub (xVar 3) (xVar 4)) (xaStar (xLc 130 (xiRg1 (xaCons (xVar 4) (xaNil))) (xgName 5) (xYes) (xC (.int 1)) [5]) (xaNil)))) (xaNil)))) (xAsg (xOp gSub (xVar 1) (xVar 4)) (xgName 1))))) (xRet (xTup (xaCons (xVar 2) (xaCons (xVar 1) (xaNil))))))
def f_split : List D → Option D := fnX 2 6 x_split
theorem k_split (B : Blt mg) (d : DefAt K mg "split" (top 40)) : FA P w K mg base 1 "split" ["kind", "more"] (spC f_split) :=
  fa_of (xb := x_split) d sc_split rfl rfl (fun _ _ _ _ _ _ us hl => match us, hl with | [_, _], _ => rfl) fun f cdv A outer s H E hr =>
    xss_cons (xs_set 2 sc_split.nd rfl (by first | exact .inl rfl | exact .inr rfl) (xe_lst (xa_nil))) (xss_cons (xs_for (vs := [3]) 130 PassesOwn.never rfl (xi_seq (xe_var 0)) (xg_name 3 sc_split.nd rfl (by first | exact .inl rfl | exact .inr rfl) (by decide)) (xss_cons (xs_set 4 sc_split.nd rfl (by first | exact .inl rfl | exact .inr rfl) (c_min2 rfl B rfl (xa_cons (xe_var 1) (xa_cons (e_mul (e_div (e_sub (xe_var 3) (xe_int)) (xe_int)) (xe_int)) (xa_nil))))) (xss_cons (xs_expr (xe_append (xe_var 2) (xa_cons (xe_lst (xa_cons (e_sub (xe_var 3) (xe_var 4)) (xa_star (xe_lc (own := [("spare", 5)]) 130 rfl sc_split.nd (xi_rg1 rfl B.range_ (xa_cons (xe_var 4) (xa_nil))) (blkOk_by (by rfl)) (fun _ _ _ _ _ => xg_name 5 sc_split.nd rfl (by first | exact .inl rfl | exact .inr rfl) (by decide)) (fun _ _ _ _ _ => xts_nil) (fun _ _ _ _ _ => xe_int)) (xa_nil)))) (xa_nil)))) (xss_one (xs_set 1 sc_split.nd rfl (by first | exact .inl rfl | exact .inr rfl) (e_sub (xe_var 1) (xe_var 4))))))) (xss_one (xs_ret (xe_tup (xa_cons (xe_var 2) (xa_cons (xe_var 1) (xa_nil)))))))
/-! ### three_turn -/
theorem sc_three_turn : FnScope ["many", "places"] ["many", "places"] (defScope (top 43)) := ⟨rfl, rfl, rfl, by decide +kernel, rfl, by decide +kernel, by decide +kernel⟩
def x_three_turn : XS := xRet (xCall f_from_rings (xaCons (xLst (xaCons (xFn gTuple (xaCons (xVar 1) (xaNil))) (xaNil))) (xaCons (xVar 0) (xaNil))))
def f_three_turn : List D → Option D := fnX 2 2 x_three_turn
theorem k_three_turn (B : Blt mg) (d : DefAt K mg "three_turn" (top 43)) (c_from_rings : FA P w K mg base 1 "from_rings" ["rings", "many"] (spC f_from_rings)) : FA P w K mg base 2 "three_turn" ["many", "places"] (spC f_three_turn) :=
  fa_of (xb := x_three_turn) d sc_three_turn rfl rfl (fun _ _ _ _ _ _ us hl => match us, hl with | [_, _], _ => rfl) fun f cdv A outer s H E hr =>
    xss_one (xs_ret (xe_c c_from_rings hr (by decide) rfl (xa_cons (xe_lst (xa_cons (c_tuple B rfl (xa_cons (xe_var 1) (xa_nil))) (xa_nil))) (xa_cons (xe_var 0) (xa_nil)))))
/-! ### glued -/
theorem sc_glued : FnScope ["first", "last", "places", "is_first", "row", "middle", "pair"] ["first", "last", "places", "is_first"] (defScope (top 44)) := ⟨rfl, rfl, rfl, by decide +kernel, rfl, by decide +kernel, by decide +kernel⟩
def x_glued : XS := xSeq (xFor 130 (xiSeq (xTup (xaCons (xVar 2) (xaCons (xRev (xVar 2)) (xaNil))))) (xgName 4) (xSeq (xAsg (xCall f_three_turn (xaCons (xFn gLen (xaCons (xVar 0) (xaNil))) (xaCons (xVar 4) (xaNil)))) (xgName 5)) (xSeq (xAsg (xIf (xTru (xVar 3)) (xTup (xaCons (xCall f_after (xaCons (xVar 0) (xaCons (xVar 5) (xaNil)))) (xaCons (xVar 1) (xaNil)))) (xTup (xaCons (xVar 0) (xaCons (xCall f_after (xaCons (xVar 5) (xaCons (xVar 1) (xaNil)))) (xaNil))))) (xgName 6)) (xIfS (xTB (xOp gEq (xFn gLen (xaCons (xCall f_rings_of (xaCons (xCall f_after (xaCons (xOp gIx (xVar 6) (xC (.int 0))) (xaCons (xOp gIx (xVar 6) (xC (.int 1))) (xaNil)))) (xaNil))) (xaNil))) (xC (.int 1)))) (xRet (xVar 6)) (xNext))))) (xRet (xTup (xaCons (xVar 0) (xaCons (xVar 1) (xaNil)))))
def f_glued : List D → Option D := fnX 4 7 x_glued
theorem k_glued (B : Blt mg) (d : DefAt K mg "glued" (top 44)) (c_rings_of : FA P w K mg base 1 "rings_of" ["turn"] (spC f_rings_of)) (c_after : FA P w K mg base 1 "after" ["one", "other"] (spC f_after)) (c_three_turn : FA P w K mg base 2 "three_turn" ["many", "places"] (spC f_three_turn)) : FA P w K mg base 3 "glued" ["first", "last", "places", "is_first"] (spC f_glued) :=
  fa_of (xb := x_glued) d sc_glued rfl rfl (fun _ _ _ _ _ _ us hl => match us, hl with | [_, _, _, _], _ => rfl) fun f cdv A outer s H E hr =>
    xss_cons (xs_for (vs := [4]) 130 PassesOwn.never rfl (xi_seq (xe_tup (xa_cons (xe_var 2) (xa_cons (xe_rev (xe_var 2)) (xa_nil))))) (xg_name 4 sc_glued.nd rfl (by first | exact .inl rfl | exact .inr rfl) (by decide)) (xss_cons (xs_set 5 sc_glued.nd rfl (by first | exact .inl rfl | exact .inr rfl) (xe_c c_three_turn hr (by decide) rfl (xa_cons (c_len B rfl (xa_cons (xe_var 0) (xa_nil))) (xa_cons (xe_var 4) (xa_nil))))) (xss_cons (xs_set 6 sc_glued.nd rfl (by first | exact .inl rfl | exact .inr rfl) (xe_if (xt_tru (xe_var 3)) (xe_tup (xa_cons (xe_c c_after hr (by decide) rfl (xa_cons (xe_var 0) (xa_cons (xe_var 5) (xa_nil)))) (xa_cons (xe_var 1) (xa_nil)))) (xe_tup (xa_cons (xe_var 0) (xa_cons (xe_c c_after hr (by decide) rfl (xa_cons (xe_var 5) (xa_cons (xe_var 1) (xa_nil)))) (xa_nil)))))) (xss_one (xs_if (t_eq hr (c_len B rfl (xa_cons (xe_c c_rings_of hr (by decide) rfl (xa_cons (xe_c c_after hr (by decide) rfl (xa_cons (e_ix (xe_var 6) (xe_int)) (xa_cons (e_ix (xe_var 6) (xe_int)) (xa_nil)))) (xa_nil))) (xa_nil))) (xe_int)) (xss_one (xs_ret (xe_var 6))) (xss_nil)))))) (xss_one (xs_ret (xe_tup (xa_cons (xe_var 0) (xa_cons (xe_var 1) (xa_nil))))))
/-! ### pieces_at -/
theorem sc_pieces_at : FnScope ["corners", "groups", "group", "left", "found", "places", "size", "at", "index", "corner"] ["corners", "groups"] (defScope (top 45)) := ⟨rfl, rfl, rfl, by decide +kernel, rfl, by decide +kernel, by decide +kernel⟩
def x_pieces_at : XS := xSeq (xPar 3 4 (xaCons (xFn gList (xaCons (xVar 0) (xaNil))) (xaCons (xLst (xaNil)) (xaNil)))) (xSeq (xFor 130 (xiSeq (xVar 1)) (xgName 2) (xSeq (xAsg (xLst (xaNil)) (xgName 5)) (xSeq (xFor 130 (xiSeq (xVar 2)) (xgName 6) (xSeq (xAsg (xOp gIx (xLc 130 (xiEnum (xaCons (xVar 3) (xaNil))) (xgTup2 8 9) (xTB (xOp gEq (xFn gLen (xaCons (xVar 9) (xaNil))) (xVar 6))) (xVar 8) [8, 9]) (xC (.int 0))) (xgName 7)) (xDrop (xMt gAppend (xVar 5) (xaCons (xOp gIx (xMt gPopAt (xVar 3) (xaCons (xVar 7) (xaNil))) (xC (.int 0))) (xaNil)))))) (xDrop (xMt gAppend (xVar 4) (xaCons (xVar 5) (xaNil))))))) (xRet (xVar 4)))
def f_pieces_at : List D → Option D := fnX 2 10 x_pieces_at
theorem k_pieces_at (B : Blt mg) (d : DefAt K mg "pieces_at" (top 45)) : FA P w K mg base 1 "pieces_at" ["corners", "groups"] (spC f_pieces_at) :=
  fa_of (xb := x_pieces_at) d sc_pieces_at rfl rfl (fun _ _ _ _ _ _ us hl => match us, hl with | [_, _], _ => rfl) fun f cdv A outer s H E hr =>
    xss_cons (xs_par 3 4 rfl sc_pieces_at.nd rfl rfl (by decide) rfl rfl (xa_cons (c_list B rfl (xa_cons (xe_var 0) (xa_nil))) (xa_cons (xe_lst (xa_nil)) (xa_nil))) (by rfl)) (xss_cons (xs_for (vs := [2]) 130 PassesOwn.never rfl (xi_seq (xe_var 1)) (xg_name 2 sc_pieces_at.nd rfl (by first | exact .inl rfl | exact .inr rfl) (by decide)) (xss_cons (xs_set 5 sc_pieces_at.nd rfl (by first | exact .inl rfl | exact .inr rfl) (xe_lst (xa_nil))) (xss_cons (xs_for (vs := [6]) 130 PassesOwn.never rfl (xi_seq (xe_var 2)) (xg_name 6 sc_pieces_at.nd rfl (by first | exact .inl rfl | exact .inr rfl) (by decide)) (xss_cons (xs_set 7 sc_pieces_at.nd rfl (by first | exact .inl rfl | exact .inr rfl) (e_ix (xe_lc (own := [("index", 8), ("corner", 9)]) 130 rfl sc_pieces_at.nd (xi_enum rfl B.enumerate_ (xa_cons (xe_var 3) (xa_nil))) (blkOk_by (by rfl)) (fun _ _ _ _ _ => xg_tup2 8 9 rfl sc_pieces_at.nd rfl rfl (by first | exact .inl rfl | exact .inr rfl) (by first | exact .inl rfl | exact .inr rfl) (by decide) (by decide)) (fun _ _ _ _ _ => xts_one (t_eq hr (c_len B rfl (xa_cons (xe_var 9) (xa_nil))) (xe_var 6))) (fun _ _ _ _ _ => xe_var 8)) (xe_int))) (xss_one (xs_expr (xe_append (xe_var 5) (xa_cons (e_ix (xe_popAt (xe_var 3) (xa_cons (xe_var 7) (xa_nil))) (xe_int)) (xa_nil))))))) (xss_one (xs_expr (xe_append (xe_var 4) (xa_cons (xe_var 5) (xa_nil)))))))) (xss_one (xs_ret (xe_var 4))))
/-! ### all_glued -/
theorem sc_all_glued : FnScope ["first", "last", "lots", "is_first", "places", "index"] ["first", "last", "lots", "is_first"] (defScope (top 46)) := ⟨rfl, rfl, rfl, by decide +kernel, rfl, by decide +kernel, by decide +kernel⟩
def x_all_glued : XS := xSeq (xFor 130 (xiSeq (xVar 2)) (xgName 4) (xFor 130 (xiRg3 (xaCons (xC (.int 1)) (xaCons (xFn gLen (xaCons (xVar 4) (xaNil))) (xaCons (xC (.int 2)) (xaNil))))) (xgName 5) (xAsg (xCall f_glued (xaCons (xVar 0) (xaCons (xVar 1) (xaCons (xLst (xaCons (xOp gIx (xVar 4) (xC (.int 0))) (xaCons (xOp gIx (xVar 4) (xVar 5)) (xaCons (xOp gIx (xVar 4) (xOp gAdd (xVar 5) (xC (.int 1)))) (xaNil))))) (xaCons (xVar 3) (xaNil)))))) (xgTup2 0 1)))) (xRet (xTup (xaCons (xVar 0) (xaCons (xVar 1) (xaNil)))))
def f_all_glued : List D → Option D := fnX 4 6 x_all_glued
theorem k_all_glued (B : Blt mg) (d : DefAt K mg "all_glued" (top 46)) (c_glued : FA P w K mg base 3 "glued" ["first", "last", "places", "is_first"] (spC f_glued)) : FA P w K mg base 4 "all_glued" ["first", "last", "lots", "is_first"] (spC f_all_glued) :=
  fa_of (xb := x_all_glued) d sc_all_glued rfl rfl (fun _ _ _ _ _ _ us hl => match us, hl with | [_, _, _, _], _ => rfl) fun f cdv A outer s H E hr =>
    xss_cons (xs_for (vs := [4]) 130 PassesOwn.never rfl (xi_seq (xe_var 2)) (xg_name 4 sc_all_glued.nd rfl (by first | exact .inl rfl | exact .inr rfl) (by decide)) (xss_one (xs_for (vs := [5]) 130 PassesOwn.never rfl (xi_rg3 rfl B.range_ (xa_cons (xe_int) (xa_cons (c_len B rfl (xa_cons (xe_var 4) (xa_nil))) (xa_cons (xe_int) (xa_nil))))) (xg_name 5 sc_all_glued.nd rfl (by first | exact .inl rfl | exact .inr rfl) (by decide)) (xss_one (xs_asg (vs := [0, 1]) (xe_c c_glued hr (by decide) rfl (xa_cons (xe_var 0) (xa_cons (xe_var 1) (xa_cons (xe_lst (xa_cons (e_ix (xe_var 4) (xe_int)) (xa_cons (e_ix (xe_var 4) (xe_var 5)) (xa_cons (e_ix (xe_var 4) (e_add (xe_var 5) (xe_int))) (xa_nil))))) (xa_cons (xe_var 3) (xa_nil)))))) (xg_tup2 0 1 rfl sc_all_glued.nd rfl rfl (by first | exact .inl rfl | exact .inr rfl) (by first | exact .inl rfl | exact .inr rfl) (by decide) (by decide))))))) (xss_one (xs_ret (xe_tup (xa_cons (xe_var 0) (xa_cons (xe_var 1) (xa_nil))))))
/-! ### in_lengths -/
theorem sc_in_lengths : FnScope ["turn", "ring", "place"] ["turn"] (defScope (top 48)) := ⟨rfl, rfl, rfl, by decide +kernel, rfl, by decide +kernel, by decide +kernel⟩
def x_in_lengths : XS := xRet (xLc2 130 130 (xiSeq (xRev (xFn gSortLen (xaCons (xCall f_rings_of (xaCons (xVar 0) (xaNil))) (xaNil))))) (xgName 1) (xYes) (xiSeq (xVar 1)) (xgName 2) (xYes) (xVar 2) [1, 2] [2])
def f_in_lengths : List D → Option D := fnX 1 3 x_in_lengths
theorem k_in_lengths (B : Blt mg) (d : DefAt K mg "in_lengths" (top 48)) (c_rings_of : FA P w K mg base 1 "rings_of" ["turn"] (spC f_rings_of)) : FA P w K mg base 2 "in_lengths" ["turn"] (spC f_in_lengths) :=
  fa_of (xb := x_in_lengths) d sc_in_lengths rfl rfl (fun _ _ _ _ _ _ us hl => match us, hl with | [_], _ => rfl) fun f cdv A outer s H E hr =>
    xss_one (xs_ret (xe_lc2 (own := [("ring", 1), ("place", 2)]) (vs1 := [2]) 130 130 rfl sc_in_lengths.nd (xi_seq (xe_rev (xe_sortLen hr.units rfl B.sorted_ rfl B.len_ (xa_cons (xe_c c_rings_of hr (by decide) rfl (xa_cons (xe_var 0) (xa_nil))) (xa_nil))))) (blkOk_by (by rfl)) (by decide) (fun _ _ _ _ _ => xg_name 1 sc_in_lengths.nd rfl (by first | exact .inl rfl | exact .inr rfl) (by decide)) (fun _ _ _ _ _ => xts_nil) (fun _ _ _ _ _ => xi_seq (xe_var 1)) (fun _ _ _ _ _ => xg_name 2 sc_in_lengths.nd rfl (by first | exact .inl rfl | exact .inr rfl) (by decide)) (fun _ _ _ _ _ => xts_nil) (fun _ _ _ _ _ => xe_var 2)))
/-! ### can -/
theorem sc_can : FnScope ["one", "other"] ["one", "other"] (defScope (top 50)) := ⟨rfl, rfl, rfl, by decide +kernel, rfl, by decide +kernel, by decide +kernel⟩
def x_can : XS := xSeq (xDrop (xCall f_check_both (xaCons (xVar 0) (xaCons (xVar 1) (xaNil))))) (xRet (xOp gIsN (xCall f_barred_by (xaCons (xVar 0) (xaCons (xVar 1) (xaNil)))) (xC .non)))
def f_can : List D → Option D := fnX 2 2 x_can
theorem k_can (B : Blt mg) (d : DefAt K mg "can" (top 50)) (c_barred_by : FA P w K mg base 2 "barred_by" ["one", "other"] (spC f_barred_by)) (c_check_both : FA P w K mg base 4 "check_both" ["one", "other"] (spC f_check_both)) : FA P w K mg base 5 "can" ["one", "other"] (spC f_can) :=
  fa_of (xb := x_can) d sc_can rfl rfl (fun _ _ _ _ _ _ us hl => match us, hl with | [_, _], _ => rfl) fun f cdv A outer s H E hr =>
    xss_cons (xs_expr (xe_c c_check_both hr (by decide) rfl (xa_cons (xe_var 0) (xa_cons (xe_var 1) (xa_nil))))) (xss_one (xs_ret (e_isN (xe_c c_barred_by hr (by decide) rfl (xa_cons (xe_var 0) (xa_cons (xe_var 1) (xa_nil)))) (xe_non))))
/-! ### bars -/
theorem sc_bars : FnScope ["one", "other"] ["one", "other"] (defScope (top 51)) := ⟨rfl, rfl, rfl, by decide +kernel, rfl, by decide +kernel, by decide +kernel⟩
def x_bars : XS := xSeq (xDrop (xCall f_check_both (xaCons (xVar 0) (xaCons (xVar 1) (xaNil))))) (xRet (xCall f_barred_by (xaCons (xVar 0) (xaCons (xVar 1) (xaNil)))))
def f_bars : List D → Option D := fnX 2 2 x_bars
theorem k_bars (B : Blt mg) (d : DefAt K mg "bars" (top 51)) (c_barred_by : FA P w K mg base 2 "barred_by" ["one", "other"] (spC f_barred_by)) (c_check_both : FA P w K mg base 4 "check_both" ["one", "other"] (spC f_check_both)) : FA P w K mg base 5 "bars" ["one", "other"] (spC f_bars) :=
  fa_of (xb := x_bars) d sc_bars rfl rfl (fun _ _ _ _ _ _ us hl => match us, hl with | [_, _], _ => rfl) fun f cdv A outer s H E hr =>
    xss_cons (xs_expr (xe_c c_check_both hr (by decide) rfl (xa_cons (xe_var 0) (xa_cons (xe_var 1) (xa_nil))))) (xss_one (xs_ret (xe_c c_barred_by hr (by decide) rfl (xa_cons (xe_var 0) (xa_cons (xe_var 1) (xa_nil))))))
/-! ### fewest_rings -/
theorem sc_fewest_rings : FnScope ["one", "other", "more"] ["one", "other"] (defScope (top 54)) := ⟨rfl, rfl, rfl, by decide +kernel, rfl, by decide +kernel, by decide +kernel⟩
def x_fewest_rings : XS := xSeq (xDrop (xCall f_check_both (xaCons (xVar 0) (xaCons (xVar 1) (xaNil))))) (xSeq (xAsg (xCall f_excess (xaCons (xVar 0) (xaCons (xVar 1) (xaNil)))) (xgName 2)) (xSeq (xIfS (xTB (xOp gLt (xVar 2) (xC (.int 0)))) (xRet (xOp gSub (xC (.int 1)) (xVar 2))) (xNext)) (xRet (xIf (xTB (xOp gEq (xOp gMod (xVar 2) (xC (.int 2))) (xC (.int 0)))) (xC (.int 1)) (xC (.int 2))))))
def f_fewest_rings : List D → Option D := fnX 2 3 x_fewest_rings
theorem k_fewest_rings (B : Blt mg) (d : DefAt K mg "fewest_rings" (top 54)) (c_excess : FA P w K mg base 1 "excess" ["one", "other"] (spC f_excess)) (c_check_both : FA P w K mg base 4 "check_both" ["one", "other"] (spC f_check_both)) : FA P w K mg base 5 "fewest_rings" ["one", "other"] (spC f_fewest_rings) :=
  fa_of (xb := x_fewest_rings) d sc_fewest_rings rfl rfl (fun _ _ _ _ _ _ us hl => match us, hl with | [_, _], _ => rfl) fun f cdv A outer s H E hr =>
    xss_cons (xs_expr (xe_c c_check_both hr (by decide) rfl (xa_cons (xe_var 0) (xa_cons (xe_var 1) (xa_nil))))) (xss_cons (xs_set 2 sc_fewest_rings.nd rfl (by first | exact .inl rfl | exact .inr rfl) (xe_c c_excess hr (by decide) rfl (xa_cons (xe_var 0) (xa_cons (xe_var 1) (xa_nil))))) (xss_cons (xs_if (t_lt (xe_var 2) (xe_int)) (xss_one (xs_ret (e_sub (xe_int) (xe_var 2)))) (xss_nil)) (xss_one (xs_ret (xe_if (t_eq hr (e_mod (xe_var 2) (xe_int)) (xe_int)) (xe_int) (xe_int))))))
/-! ### factors_of -/
theorem sc_factors_of : FnScope ["kind", "row", "part", "found", "number", "fresh", "place", "spare"] ["kind"] (defScope (top 55)) := ⟨rfl, rfl, rfl, by decide +kernel, rfl, by decide +kernel, by decide +kernel⟩
def x_factors_of : XS := xSeq (xAsg (xLst (xaCons (xC (.int 1)) (xaNil))) (xgName 1)) (xSeq (xFor 130 (xiSeq (xVar 0)) (xgName 2) (xSeq (xAsg (xLst (xaStar (xVar 1) (xaStar (xLc 130 (xiRg1 (xaCons (xVar 2) (xaNil))) (xgName 7) (xYes) (xC (.int 0)) [7]) (xaNil)))) (xgName 5)) (xSeq (xFor 130 (xiEnum (xaCons (xVar 1) (xaNil))) (xgTup2 6 4) (xLAug (xVar 5) (xOp gAdd (xVar 6) (xVar 2)) (xIf (xTru (xOp gMod (xVar 2) (xC (.int 2)))) (xVar 4) (xUn gNeg (xVar 4))))) (xAsg (xVar 5) (xgName 1))))) (xSeq (xAsg (xLst (xaNil)) (xgName 3)) (xSeq (xFor 130 (xiSeq (xSl (xVar 1) (xoNone) (xoSome (xUn gNeg (xC (.int 1)))))) (xgName 4) (xDrop (xMt gAppend (xVar 3) (xaCons (xOp gSub (xVar 4) (xIf (xTB (xOp gNe (xVar 3) (xLst (xaNil)))) (xOp gIx (xVar 3) (xUn gNeg (xC (.int 1)))) (xC (.int 0)))) (xaNil))))) (xRet (xVar 3)))))
def f_factors_of : List D → Option D := fnX 1 8 x_factors_of
theorem k_factors_of (B : Blt mg) (d : DefAt K mg "factors_of" (top 55)) : FA P w K mg base 1 "factors_of" ["kind"] (spC f_factors_of) :=
  fa_of (xb := x_factors_of) d sc_factors_of rfl rfl (fun _ _ _ _ _ _ us hl => match us, hl with | [_], _ => rfl) fun f cdv A outer s H E hr =>
    xss_cons (xs_set 1 sc_factors_of.nd rfl (by first | exact .inl rfl | exact .inr rfl) (xe_lst (xa_cons (xe_int) (xa_nil)))) (xss_cons (xs_for (vs := [2]) 130 PassesOwn.never rfl (xi_seq (xe_var 0)) (xg_name 2 sc_factors_of.nd rfl (by first | exact .inl rfl | exact .inr rfl) (by decide)) (xss_cons (xs_set 5 sc_factors_of.nd rfl (by first | exact .inl rfl | exact .inr rfl) (xe_lst (xa_star (xe_var 1) (xa_star (xe_lc (own := [("spare", 7)]) 130 rfl sc_factors_of.nd (xi_rg1 rfl B.range_ (xa_cons (xe_var 2) (xa_nil))) (blkOk_by (by rfl)) (fun _ _ _ _ _ => xg_name 7 sc_factors_of.nd rfl (by first | exact .inl rfl | exact .inr rfl) (by decide)) (fun _ _ _ _ _ => xts_nil) (fun _ _ _ _ _ => xe_int)) (xa_nil))))) (xss_cons (xs_for (vs := [6, 4]) 130 PassesOwn.never rfl (xi_enum rfl B.enumerate_ (xa_cons (xe_var 1) (xa_nil))) (xg_tup2 6 4 rfl sc_factors_of.nd rfl rfl (by first | exact .inl rfl | exact .inr rfl) (by first | exact .inl rfl | exact .inr rfl) (by decide) (by decide)) (xss_one (xs_laug (xe_var 5) (e_add (xe_var 6) (xe_var 2)) (xe_if (xt_tru (e_mod (xe_var 2) (xe_int))) (xe_var 4) (e_neg (xe_var 4)))))) (xss_one (xs_set 1 sc_factors_of.nd rfl (by first | exact .inl rfl | exact .inr rfl) (xe_var 5)))))) (xss_cons (xs_set 3 sc_factors_of.nd rfl (by first | exact .inl rfl | exact .inr rfl) (xe_lst (xa_nil))) (xss_cons (xs_for (vs := [4]) 130 PassesOwn.never rfl (xi_seq (xe_sl (xe_var 1) (xo_none) (xo_some (e_neg (xe_int))))) (xg_name 4 sc_factors_of.nd rfl (by first | exact .inl rfl | exact .inr rfl) (by decide)) (xss_one (xs_expr (xe_append (xe_var 3) (xa_cons (e_sub (xe_var 4) (xe_if (t_ne hr (xe_var 3) (xe_lst (xa_nil))) (e_ix (xe_var 3) (e_neg (xe_int))) (xe_int))) (xa_nil)))))) (xss_one (xs_ret (xe_var 3))))))
/-! ### chosen -/
theorem sc_chosen : FnScope ["many", "row", "spare", "one", "other"] ["many"] (defScope (top 56)) := ⟨rfl, rfl, rfl, by decide +kernel, rfl, by decide +kernel, by decide +kernel⟩
def x_chosen : XS := xSeq (xAsg (xLst (xaCons (xC (.int 1)) (xaNil))) (xgName 1)) (xSeq (xFor 130 (xiRg1 (xaCons (xVar 0) (xaNil))) (xgName 2) (xAsg (xLst (xaCons (xC (.int 1)) (xaStar (xLc 130 (xiZip (xaCons (xVar 1) (xaCons (xSl (xVar 1) (xoSome (xC (.int 1))) (xoNone)) (xaNil)))) (xgTup2 3 4) (xYes) (xOp gAdd (xVar 3) (xVar 4)) [3, 4]) (xaCons (xC (.int 1)) (xaNil))))) (xgName 1))) (xRet (xVar 1)))
def f_chosen : List D → Option D := fnX 1 5 x_chosen
theorem k_chosen (B : Blt mg) (d : DefAt K mg "chosen" (top 56)) : FA P w K mg base 1 "chosen" ["many"] (spC f_chosen) :=
  fa_of (xb := x_chosen) d sc_chosen rfl rfl (fun _ _ _ _ _ _ us hl => match us, hl with | [_], _ => rfl) fun f cdv A outer s H E hr =>
    xss_cons (xs_set 1 sc_chosen.nd rfl (by first | exact .inl rfl | exact .inr rfl) (xe_lst (xa_cons (xe_int) (xa_nil)))) (xss_cons (xs_for (vs := [2]) 130 PassesOwn.never rfl (xi_rg1 rfl B.range_ (xa_cons (xe_var 0) (xa_nil))) (xg_name 2 sc_chosen.nd rfl (by first | exact .inl rfl | exact .inr rfl) (by decide)) (xss_one (xs_set 1 sc_chosen.nd rfl (by first | exact .inl rfl | exact .inr rfl) (xe_lst (xa_cons (xe_int) (xa_star (xe_lc (own := [("one", 3), ("other", 4)]) 130 rfl sc_chosen.nd (xi_zip rfl B.zip_ (xa_cons (xe_var 1) (xa_cons (xe_sl (xe_var 1) (xo_some (xe_int)) (xo_none)) (xa_nil)))) (blkOk_by (by rfl)) (fun _ _ _ _ _ => xg_tup2 3 4 rfl sc_chosen.nd rfl rfl (by first | exact .inl rfl | exact .inr rfl) (by first | exact .inl rfl | exact .inr rfl) (by decide) (by decide)) (fun _ _ _ _ _ => xts_nil) (fun _ _ _ _ _ => e_add (xe_var 3) (xe_var 4))) (xa_cons (xe_int) (xa_nil)))))))) (xss_one (xs_ret (xe_var 1))))
/-! ### count_of -/
theorem sc_count_of : FnScope ["one", "other", "size", "whole", "total", "place", "base", "term"] ["one", "other"] (defScope (top 57)) := ⟨rfl, rfl, rfl, by decide +kernel, rfl, by decide +kernel, by decide +kernel⟩
def x_count_of : XS := xSeq (xAsg (xFn gSum (xaCons (xVar 0) (xaNil))) (xgName 2)) (xSeq (xPar 3 4 (xaCons (xCall f_factorial (xaCons (xOp gSub (xVar 2) (xC (.int 1))) (xaNil))) (xaCons (xC (.int 0)) (xaNil)))) (xSeq (xFor 130 (xiEnum (xaCons (xCall f_chosen (xaCons (xOp gSub (xVar 2) (xC (.int 1))) (xaNil))) (xaNil))) (xgTup2 5 6) (xSeq (xAsg (xOp gMul (xOp gMul (xOp gDiv (xVar 3) (xVar 6)) (xOp gIx (xCall f_factors_of (xaCons (xVar 0) (xaNil))) (xVar 5))) (xOp gIx (xCall f_factors_of (xaCons (xVar 1) (xaNil))) (xVar 5))) (xgName 7)) (xAsg (xIf (xTru (xOp gMod (xVar 5) (xC (.int 2)))) (xOp gSub (xVar 4) (xVar 7)) (xOp gAdd (xVar 4) (xVar 7))) (xgName 4)))) (xRet (xOp gDiv (xOp gMul (xOp gMul (xVar 4) (xCall f_number_of_turns (xaCons (xVar 0) (xaNil)))) (xCall f_number_of_turns (xaCons (xVar 1) (xaNil)))) (xOp gMul (xVar 3) (xCall f_factorial (xaCons (xVar 2) (xaNil))))))))
def f_count_of : List D → Option D := fnX 2 8 x_count_of
theorem k_count_of (B : Blt mg) (d : DefAt K mg "count_of" (top 57)) (c_number_of_turns : FA P w K mg base 2 "number_of_turns" ["kind"] (spC f_number_of_turns)) (c_factorial : FA P w K mg base 1 "factorial" ["number"] (spC f_factorial)) (c_chosen : FA P w K mg base 1 "chosen" ["many"] (spC f_chosen)) (c_factors_of : FA P w K mg base 1 "factors_of" ["kind"] (spC f_factors_of)) : FA P w K mg base 3 "count_of" ["one", "other"] (spC f_count_of) :=
  fa_of (xb := x_count_of) d sc_count_of rfl rfl (fun _ _ _ _ _ _ us hl => match us, hl with | [_, _], _ => rfl) fun f cdv A outer s H E hr =>
    xss_cons (xs_set 2 sc_count_of.nd rfl (by first | exact .inl rfl | exact .inr rfl) (c_sum rfl B rfl (xa_cons (xe_var 0) (xa_nil)))) (xss_cons (xs_par 3 4 rfl sc_count_of.nd rfl rfl (by decide) rfl rfl (xa_cons (xe_c c_factorial hr (by decide) rfl (xa_cons (e_sub (xe_var 2) (xe_int)) (xa_nil))) (xa_cons (xe_int) (xa_nil))) (by rfl)) (xss_cons (xs_for (vs := [5, 6]) 130 PassesOwn.never rfl (xi_enum rfl B.enumerate_ (xa_cons (xe_c c_chosen hr (by decide) rfl (xa_cons (e_sub (xe_var 2) (xe_int)) (xa_nil))) (xa_nil))) (xg_tup2 5 6 rfl sc_count_of.nd rfl rfl (by first | exact .inl rfl | exact .inr rfl) (by first | exact .inl rfl | exact .inr rfl) (by decide) (by decide)) (xss_cons (xs_set 7 sc_count_of.nd rfl (by first | exact .inl rfl | exact .inr rfl) (e_mul (e_mul (e_div (xe_var 3) (xe_var 6)) (e_ix (xe_c c_factors_of hr (by decide) rfl (xa_cons (xe_var 0) (xa_nil))) (xe_var 5))) (e_ix (xe_c c_factors_of hr (by decide) rfl (xa_cons (xe_var 1) (xa_nil))) (xe_var 5)))) (xss_one (xs_set 4 sc_count_of.nd rfl (by first | exact .inl rfl | exact .inr rfl) (xe_if (xt_tru (e_mod (xe_var 5) (xe_int))) (e_sub (xe_var 4) (xe_var 7)) (e_add (xe_var 4) (xe_var 7))))))) (xss_one (xs_ret (e_div (e_mul (e_mul (xe_var 4) (xe_c c_number_of_turns hr (by decide) rfl (xa_cons (xe_var 0) (xa_nil)))) (xe_c c_number_of_turns hr (by decide) rfl (xa_cons (xe_var 1) (xa_nil)))) (e_mul (xe_var 3) (xe_c c_factorial hr (by decide) rfl (xa_cons (xe_var 2) (xa_nil)))))))))
/-! ### how_many_joins -/
theorem sc_how_many_joins : FnScope ["one", "other"] ["one", "other"] (defScope (top 58)) := ⟨rfl, rfl, rfl, by decide +kernel, rfl, by decide +kernel, by decide +kernel⟩
def x_how_many_joins : XS := xSeq (xDrop (xCall f_check_both (xaCons (xVar 0) (xaCons (xVar 1) (xaNil))))) (xRet (xCall f_count_of (xaCons (xVar 0) (xaCons (xVar 1) (xaNil)))))
def f_how_many_joins : List D → Option D := fnX 2 2 x_how_many_joins
theorem k_how_many_joins (B : Blt mg) (d : DefAt K mg "how_many_joins" (top 58)) (c_count_of : FA P w K mg base 3 "count_of" ["one", "other"] (spC f_count_of)) (c_check_both : FA P w K mg base 4 "check_both" ["one", "other"] (spC f_check_both)) : FA P w K mg base 5 "how_many_joins" ["one", "other"] (spC f_how_many_joins) :=
  fa_of (xb := x_how_many_joins) d sc_how_many_joins rfl rfl (fun _ _ _ _ _ _ us hl => match us, hl with | [_, _], _ => rfl) fun f cdv A outer s H E hr =>
    xss_cons (xs_expr (xe_c c_check_both hr (by decide) rfl (xa_cons (xe_var 0) (xa_cons (xe_var 1) (xa_nil))))) (xss_one (xs_ret (xe_c c_count_of hr (by decide) rfl (xa_cons (xe_var 0) (xa_cons (xe_var 1) (xa_nil))))))
/-! ### share -/
theorem sc_share : FnScope ["one", "other"] ["one", "other"] (defScope (top 59)) := ⟨rfl, rfl, rfl, by decide +kernel, rfl, by decide +kernel, by decide +kernel⟩
def x_share : XS := xSeq (xDrop (xCall f_check_both (xaCons (xVar 0) (xaCons (xVar 1) (xaNil))))) (xRet (xCall f_ratio (xaCons (xOp gMul (xCall f_count_of (xaCons (xVar 0) (xaCons (xVar 1) (xaNil)))) (xCall f_factorial (xaCons (xOp gSub (xFn gSum (xaCons (xVar 0) (xaNil))) (xC (.int 1))) (xaNil)))) (xaCons (xOp gMul (xCall f_number_of_turns (xaCons (xVar 0) (xaNil))) (xCall f_number_of_turns (xaCons (xVar 1) (xaNil)))) (xaNil)))))
def f_share : List D → Option D := fnX 2 2 x_share
theorem k_share (B : Blt mg) (d : DefAt K mg "share" (top 59)) (c_ratio : FA P w K mg base 2 "ratio" ["top", "bottom"] (spC f_ratio)) (c_number_of_turns : FA P w K mg base 2 "number_of_turns" ["kind"] (spC f_number_of_turns)) (c_count_of : FA P w K mg base 3 "count_of" ["one", "other"] (spC f_count_of)) (c_factorial : FA P w K mg base 1 "factorial" ["number"] (spC f_factorial)) (c_check_both : FA P w K mg base 4 "check_both" ["one", "other"] (spC f_check_both)) : FA P w K mg base 5 "share" ["one", "other"] (spC f_share) :=
  fa_of (xb := x_share) d sc_share rfl rfl (fun _ _ _ _ _ _ us hl => match us, hl with | [_, _], _ => rfl) fun f cdv A outer s H E hr =>
    xss_cons (xs_expr (xe_c c_check_both hr (by decide) rfl (xa_cons (xe_var 0) (xa_cons (xe_var 1) (xa_nil))))) (xss_one (xs_ret (xe_c c_ratio hr (by decide) rfl (xa_cons (e_mul (xe_c c_count_of hr (by decide) rfl (xa_cons (xe_var 0) (xa_cons (xe_var 1) (xa_nil)))) (xe_c c_factorial hr (by decide) rfl (xa_cons (e_sub (c_sum rfl B rfl (xa_cons (xe_var 0) (xa_nil))) (xe_int)) (xa_nil)))) (xa_cons (e_mul (xe_c c_number_of_turns hr (by decide) rfl (xa_cons (xe_var 0) (xa_nil))) (xe_c c_number_of_turns hr (by decide) rfl (xa_cons (xe_var 1) (xa_nil)))) (xa_nil))))))
/-! ### _law_loops -/
theorem sc__law_loops : FnScope ["_law_spin_here", "_law_at", "_law_found", "_law_gone", "_law_loop_here", "_law_here"] ["_law_spin_here"] (defScope (top 66)) := ⟨rfl, rfl, rfl, by decide +kernel, rfl, by decide +kernel, by decide +kernel⟩
def x__law_loops : XS := xSeq (xPar 2 3 (xaCons (xLst (xaNil)) (xaCons (xLst (xaNil)) (xaNil)))) (xSeq (xFor 130 (xiRg1 (xaCons (xFn gLen (xaCons (xVar 0) (xaNil))) (xaNil))) (xgName 1) (xSeq (xPar 4 5 (xaCons (xLst (xaNil)) (xaCons (xVar 1) (xaNil)))) (xSeq (xWhile (xTB (xOp (gIn true) (xVar 5) (xVar 3))) (xSeq (xDrop (xMt gAppend (xVar 3) (xaCons (xVar 5) (xaNil)))) (xSeq (xDrop (xMt gAppend (xVar 4) (xaCons (xVar 5) (xaNil)))) (xAsg (xOp gIx (xVar 0) (xVar 5)) (xgName 5)))) 60) (xIfS (xTB (xOp gNe (xVar 4) (xLst (xaNil)))) (xDrop (xMt gAppend (xVar 2) (xaCons (xFn gTuple (xaCons (xVar 4) (xaNil))) (xaNil)))) (xNext))))) (xRet (xFn gTuple (xaCons (xVar 2) (xaNil)))))
def f__law_loops : List D → Option D := fnX 1 6 x__law_loops
theorem k__law_loops (B : Blt mg) (d : DefAt K mg "_law_loops" (top 66)) : FA P w K mg base 1 "_law_loops" ["_law_spin_here"] (spC f__law_loops) :=
  fa_of (xb := x__law_loops) d sc__law_loops rfl rfl (fun _ _ _ _ _ _ us hl => match us, hl with | [_], _ => rfl) fun f cdv A outer s H E hr =>
    xss_cons (xs_par 2 3 rfl sc__law_loops.nd rfl rfl (by decide) rfl rfl (xa_cons (xe_lst (xa_nil)) (xa_cons (xe_lst (xa_nil)) (xa_nil))) (by rfl)) (xss_cons (xs_for (vs := [1]) 130 PassesOwn.never rfl (xi_rg1 rfl B.range_ (xa_cons (c_len B rfl (xa_cons (xe_var 0) (xa_nil))) (xa_nil))) (xg_name 1 sc__law_loops.nd rfl (by first | exact .inl rfl | exact .inr rfl) (by decide)) (xss_cons (xs_par 4 5 rfl sc__law_loops.nd rfl rfl (by decide) rfl rfl (xa_cons (xe_lst (xa_nil)) (xa_cons (xe_var 1) (xa_nil))) (by rfl)) (xss_cons (xs_while 60 PassesOwn.never (t_notin (xe_var 5) (xe_var 3)) (xss_cons (xs_expr (xe_append (xe_var 3) (xa_cons (xe_var 5) (xa_nil)))) (xss_cons (xs_expr (xe_append (xe_var 4) (xa_cons (xe_var 5) (xa_nil)))) (xss_one (xs_set 5 sc__law_loops.nd rfl (by first | exact .inl rfl | exact .inr rfl) (e_ix (xe_var 0) (xe_var 5))))))) (xss_one (xs_if (t_ne hr (xe_var 4) (xe_lst (xa_nil))) (xss_one (xs_expr (xe_append (xe_var 2) (xa_cons (c_tuple B rfl (xa_cons (xe_var 4) (xa_nil))) (xa_nil))))) (xss_nil)))))) (xss_one (xs_ret (c_tuple B rfl (xa_cons (xe_var 2) (xa_nil))))))
/-! ### _law_lens -/
theorem sc__law_lens : FnScope ["_law_spin_here", "_law_loop_here"] ["_law_spin_here"] (defScope (top 67)) := ⟨rfl, rfl, rfl, by decide +kernel, rfl, by decide +kernel, by decide +kernel⟩
def x__law_lens : XS := xRet (xFn gTuple (xaCons (xRev (xFn gSorted (xaCons (xLc 130 (xiSeq (xCall f__law_loops (xaCons (xVar 0) (xaNil)))) (xgName 1) (xYes) (xFn gLen (xaCons (xVar 1) (xaNil))) [1]) (xaNil)))) (xaNil)))
def f__law_lens : List D → Option D := fnX 1 2 x__law_lens
theorem k__law_lens (B : Blt mg) (d : DefAt K mg "_law_lens" (top 67)) (c__law_loops : FA P w K mg base 1 "_law_loops" ["_law_spin_here"] (spC f__law_loops)) : FA P w K mg base 2 "_law_lens" ["_law_spin_here"] (spC f__law_lens) :=
  fa_of (xb := x__law_lens) d sc__law_lens rfl rfl (fun _ _ _ _ _ _ us hl => match us, hl with | [_], _ => rfl) fun f cdv A outer s H E hr =>
    xss_one (xs_ret (c_tuple B rfl (xa_cons (xe_rev (c_sorted B rfl (xa_cons (xe_lc (own := [("_law_loop_here", 1)]) 130 rfl sc__law_lens.nd (xi_seq (xe_c c__law_loops hr (by decide) rfl (xa_cons (xe_var 0) (xa_nil)))) (blkOk_by (by rfl)) (fun _ _ _ _ _ => xg_name 1 sc__law_lens.nd rfl (by first | exact .inl rfl | exact .inr rfl) (by decide)) (fun _ _ _ _ _ => xts_nil) (fun _ _ _ _ _ => c_len B rfl (xa_cons (xe_var 1) (xa_nil)))) (xa_nil)))) (xa_nil))))
/-! ### _law_behind -/
theorem sc__law_behind : FnScope ["_law_near", "_law_far", "_law_at"] ["_law_near", "_law_far"] (defScope (top 68)) := ⟨rfl, rfl, rfl, by decide +kernel, rfl, by decide +kernel, by decide +kernel⟩
def x__law_behind : XS := xRet (xFn gTuple (xaCons (xLc 130 (xiSeq (xVar 0)) (xgName 2) (xYes) (xOp gIx (xVar 1) (xVar 2)) [2]) (xaNil)))
def f__law_behind : List D → Option D := fnX 2 3 x__law_behind
theorem k__law_behind (B : Blt mg) (d : DefAt K mg "_law_behind" (top 68)) : FA P w K mg base 1 "_law_behind" ["_law_near", "_law_far"] (spC f__law_behind) :=
  fa_of (xb := x__law_behind) d sc__law_behind rfl rfl (fun _ _ _ _ _ _ us hl => match us, hl with | [_, _], _ => rfl) fun f cdv A outer s H E hr =>
    xss_one (xs_ret (c_tuple B rfl (xa_cons (xe_lc (own := [("_law_at", 2)]) 130 rfl sc__law_behind.nd (xi_seq (xe_var 0)) (blkOk_by (by rfl)) (fun _ _ _ _ _ => xg_name 2 sc__law_behind.nd rfl (by first | exact .inl rfl | exact .inr rfl) (by decide)) (fun _ _ _ _ _ => xts_nil) (fun _ _ _ _ _ => e_ix (xe_var 1) (xe_var 2))) (xa_nil))))
/-! ### _law_all -/
theorem sc__law_all : FnScope ["_law_many_here", "_law_found", "_law_lap", "_law_later", "_law_each", "_law_at"] ["_law_many_here"] (defScope (top 69)) := ⟨rfl, rfl, rfl, by decide +kernel, rfl, by decide +kernel, by decide +kernel⟩
def x__law_all : XS := xSeq (xAsg (xLst (xaCons (xTup (xaNil)) (xaNil))) (xgName 1)) (xSeq (xFor 130 (xiRg1 (xaCons (xVar 0) (xaNil))) (xgName 2) (xSeq (xAsg (xLst (xaNil)) (xgName 3)) (xSeq (xFor 130 (xiSeq (xVar 1)) (xgName 4) (xAsg (xOp gAdd (xVar 3) (xLc 130 (xiRg1 (xaCons (xVar 0) (xaNil))) (xgName 5) (xTB (xOp (gIn true) (xVar 5) (xVar 4))) (xOp gAdd (xVar 4) (xTup (xaCons (xVar 5) (xaNil)))) [5])) (xgName 3))) (xAsg (xVar 3) (xgName 1))))) (xRet (xVar 1)))
def f__law_all : List D → Option D := fnX 1 6 x__law_all
theorem k__law_all (B : Blt mg) (d : DefAt K mg "_law_all" (top 69)) : FA P w K mg base 1 "_law_all" ["_law_many_here"] (spC f__law_all) :=
  fa_of (xb := x__law_all) d sc__law_all rfl rfl (fun _ _ _ _ _ _ us hl => match us, hl with | [_], _ => rfl) fun f cdv A outer s H E hr =>
    xss_cons (xs_set 1 sc__law_all.nd rfl (by first | exact .inl rfl | exact .inr rfl) (xe_lst (xa_cons (xe_tup (xa_nil)) (xa_nil)))) (xss_cons (xs_for (vs := [2]) 130 PassesOwn.never rfl (xi_rg1 rfl B.range_ (xa_cons (xe_var 0) (xa_nil))) (xg_name 2 sc__law_all.nd rfl (by first | exact .inl rfl | exact .inr rfl) (by decide)) (xss_cons (xs_set 3 sc__law_all.nd rfl (by first | exact .inl rfl | exact .inr rfl) (xe_lst (xa_nil))) (xss_cons (xs_for (vs := [4]) 130 PassesOwn.never rfl (xi_seq (xe_var 1)) (xg_name 4 sc__law_all.nd rfl (by first | exact .inl rfl | exact .inr rfl) (by decide)) (xss_one (xs_set 3 sc__law_all.nd rfl (by first | exact .inl rfl | exact .inr rfl) (e_add (xe_var 3) (xe_lc (own := [("_law_at", 5)]) 130 rfl sc__law_all.nd (xi_rg1 rfl B.range_ (xa_cons (xe_var 0) (xa_nil))) (blkOk_by (by rfl)) (fun _ _ _ _ _ => xg_name 5 sc__law_all.nd rfl (by first | exact .inl rfl | exact .inr rfl) (by decide)) (fun _ _ _ _ _ => xts_one (t_notin (xe_var 5) (xe_var 4))) (fun _ _ _ _ _ => e_add (xe_var 4) (xe_tup (xa_cons (xe_var 5) (xa_nil))))))))) (xss_one (xs_set 1 sc__law_all.nd rfl (by first | exact .inl rfl | exact .inr rfl) (xe_var 3)))))) (xss_one (xs_ret (xe_var 1))))
/-! ### _law_of_kind -/
theorem sc__law_of_kind : FnScope ["_law_lens_here", "_law_spin_here"] ["_law_lens_here"] (defScope (top 71)) := ⟨rfl, rfl, rfl, by decide +kernel, rfl, by decide +kernel, by decide +kernel⟩
def x__law_of_kind : XS := xRet (xLc 130 (xiSeq (xCall f__law_all (xaCons (xFn gSum (xaCons (xVar 0) (xaNil))) (xaNil)))) (xgName 1) (xTB (xOp gEq (xCall f__law_lens (xaCons (xVar 1) (xaNil))) (xVar 0))) (xVar 1) [1])
def f__law_of_kind : List D → Option D := fnX 1 2 x__law_of_kind
theorem k__law_of_kind (B : Blt mg) (d : DefAt K mg "_law_of_kind" (top 71)) (c__law_all : FA P w K mg base 1 "_law_all" ["_law_many_here"] (spC f__law_all)) (c__law_lens : FA P w K mg base 2 "_law_lens" ["_law_spin_here"] (spC f__law_lens)) : FA P w K mg base 3 "_law_of_kind" ["_law_lens_here"] (spC f__law_of_kind) :=
  fa_of (xb := x__law_of_kind) d sc__law_of_kind rfl rfl (fun _ _ _ _ _ _ us hl => match us, hl with | [_], _ => rfl) fun f cdv A outer s H E hr =>
    xss_one (xs_ret (xe_lc (own := [("_law_spin_here", 1)]) 130 rfl sc__law_of_kind.nd (xi_seq (xe_c c__law_all hr (by decide) rfl (xa_cons (c_sum rfl B rfl (xa_cons (xe_var 0) (xa_nil))) (xa_nil)))) (blkOk_by (by rfl)) (fun _ _ _ _ _ => xg_name 1 sc__law_of_kind.nd rfl (by first | exact .inl rfl | exact .inr rfl) (by decide)) (fun _ _ _ _ _ => xts_one (t_eq hr (xe_c c__law_lens hr (by decide) rfl (xa_cons (xe_var 1) (xa_nil))) (xe_var 0))) (fun _ _ _ _ _ => xe_var 1)))
/-! ### _law_ratio -/
theorem sc__law_ratio : FnScope ["_law_top", "_law_bottom", "_law_near", "_law_far"] ["_law_top", "_law_bottom"] (defScope (top 72)) := ⟨rfl, rfl, rfl, by decide +kernel, rfl, by decide +kernel, by decide +kernel⟩
def x__law_ratio : XS := xSeq (xPar 2 3 (xaCons (xVar 0) (xaCons (xVar 1) (xaNil)))) (xSeq (xWhile (xTB (xOp gGt (xVar 3) (xC (.int 0)))) (xPar 2 3 (xaCons (xVar 3) (xaCons (xOp gMod (xFn gInt (xaCons (xVar 2) (xaNil))) (xVar 3)) (xaNil)))) 60) (xRet (xTup (xaCons (xOp gDiv (xVar 0) (xVar 2)) (xaCons (xOp gDiv (xVar 1) (xVar 2)) (xaNil))))))
def f__law_ratio : List D → Option D := fnX 2 4 x__law_ratio
theorem k__law_ratio (B : Blt mg) (d : DefAt K mg "_law_ratio" (top 72)) : FA P w K mg base 1 "_law_ratio" ["_law_top", "_law_bottom"] (spC f__law_ratio) :=
  fa_of (xb := x__law_ratio) d sc__law_ratio rfl rfl (fun _ _ _ _ _ _ us hl => match us, hl with | [_, _], _ => rfl) fun f cdv A outer s H E hr =>
    xss_cons (xs_par 2 3 rfl sc__law_ratio.nd rfl rfl (by decide) rfl rfl (xa_cons (xe_var 0) (xa_cons (xe_var 1) (xa_nil))) (by rfl)) (xss_cons (xs_while 60 PassesOwn.never (t_gt (xe_var 3) (xe_int)) (xss_one (xs_par 2 3 rfl sc__law_ratio.nd rfl rfl (by decide) rfl rfl (xa_cons (xe_var 3) (xa_cons (e_mod (c_int B rfl (xa_cons (xe_var 2) (xa_nil))) (xe_var 3)) (xa_nil))) (by rfl)))) (xss_one (xs_ret (xe_tup (xa_cons (e_div (xe_var 0) (xe_var 2)) (xa_cons (e_div (xe_var 1) (xe_var 2)) (xa_nil)))))))
end XL
end
section
set_option maxRecDepth 100000
set_option maxHeartbeats 0
/-! XT: instances: fields, methods whose promise tells the cells, making. -/
namespace XL
open PySem PySem.Spec PyProof.Rows L2
variable {T : Tb}

/-! ### an open promise -/
def runX (n slots : Nat) (body : XS) : List D → Cs → Option (D × Cs) := fun ds cs => match Nat.beq ds.length n with
  | true => (match body (ds.map some ++ List.replicate (slots - n) none) cs with
    | some (.rt d c) => some (d, c)
    | some (.nx _ c) => some (.non, c)
    | _ => none)
  | false => none
def spO (T : Tb) (g : List D → Cs → Option (D × Cs)) : Sp := fun vs H Q _ => ∃ W cs ds d cs', Rel T W cs H ∧ RepLW W vs ds ∧ g ds cs = some (d, cs') ∧ ∀ W' v H', Le W W' → Rel T W' cs' H' → RepW W' v d → Q v H'
theorem runX_len {n slots : Nat} {body : XS} {ds : List D} {cs : Cs} {r : D × Cs} (h : runX n slots body ds cs = some r) : ds.length = n := by
  unfold runX at h
  cases q : Nat.beq ds.length n with
  | false => rw [q] at h; cases h
  | true => exact Nat.eq_of_beq_eq_true q
theorem startRel {W : Wd} {N : List Str} {vs : List V} {ds : List D} {n slots : Nat} (hN : N.length = slots) (hl : ds.length = n) (rv : RepLW W vs ds) : RelS W (ds.map some ++ List.replicate (slots - n) none) (L2.start N vs) := by
  have hlen : vs.length = n := rv.length.trans hl
  refine ⟨?_, fun i d q => ?_⟩
  · unfold L2.start
    simp only [List.length_append, List.length_map, List.length_replicate]
    omega
  · by_cases hi : i < ds.length
    · rw [List.getElem?_append_left (by simpa using hi), List.getElem?_map] at q
      cases e2 : ds[i]? with
      | none => rw [e2] at q; cases q
      | some d2 =>
        rw [e2] at q
        have q := Option.some.inj (Option.some.inj q)
        subst q
        obtain ⟨v, hv, rp⟩ := rv.get e2
        refine ⟨v, ?_, rp⟩
        unfold L2.start
        rw [List.getElem?_append_left (by rw [List.length_map, hlen, ← hl]; exact hi), List.getElem?_map, hv]
        rfl
    · rw [List.getElem?_append_right (by simpa using hi), List.getElem?_replicate] at q
      split at q <;> cases q
theorem spO_body {n slots : Nat} {body : XS} {N : List Str} {vs : List V} {H : Hp} {Q : VK} {E : XK} (hN : N.length = slots) (h : spO T (runX n slots body) vs H Q E) : tS T body { nx := fun _ H' => Q .non H', rt := Q } (L2.start N vs) H := by
  obtain ⟨W, cs, ds, d, cs', R, rv, e, k⟩ := h
  have el := runX_len e
  unfold runX at e
  have hb : Nat.beq ds.length n = true := by rw [el]; exact Nat.beq_refl n
  rw [hb] at e
  dsimp only at e
  cases q : body (ds.map some ++ List.replicate (slots - n) none) cs with
  | none => rw [q] at e; cases e
  | some o =>
    rw [q] at e
    refine ⟨W, _, cs, o, startRel hN el rv, R, q, ?_⟩
    cases o with
    | nx sl c =>
      cases e
      exact fun W' σ H' l _ r => k W' .non H' l r .non
    | rt d2 c =>
      cases e
      exact fun W' v H' l r rp => k W' v H' l r rp
    | bk sl c => cases e
    | ct sl c => cases e
theorem ok_runX {P : Program} {w : World} {K : PySem.W.Frag} {mg : Str → Option Value} {base : Heap} {x qual : Str} {params : Arguments} {body : List Stmt} {scope : Scope} {dvs : List V} {kws : List (Str × V)} {f : Addr} {fd : FuncData} {N ps : List Str} {k n slots : Nat} {xb : XS} (F : FunD K x qual params body scope dvs kws f fd) (S : FnScope N ps scope)
    (hn : ps.length = n) (hN : N.length = slots)
    (hbody : ∀ (cdv : Value) (A : Around) (outer : List Env) (s : Shared) (H : Hp) (E : XK), Room k (A.deeper (envOfC qual scope s.heap.objs.size f cdv)) → PSs (cxOf CX0 P w K mg base N qual scope f cdv A outer s H E).nox body (tS T xb)) :
    FnOk P w K mg base CX0 (k + 1) f fd ps (spO T (runX n slots xb)) := by
  refine F.ok S (fun vs H Q E h => ?_) (fun cdv A outer s H vs Q E hr h => ⟨tS T xb, (hbody cdv A outer s H E hr).nox, spO_body hN h⟩)
  obtain ⟨W, cs, ds, d, cs', R, rv, e, k⟩ := h
  exact rv.length.trans ((runX_len e).trans hn.symm)

/-! ### fields -/
theorem lookup_at : ∀ {fs : List (Str × V)} {i : Nat} {f : Str} {v : V}, (fs.map (·.1)).Nodup → fs[i]? = some (f, v) → fs.lookup f = some v
  | [], i, f, v, _, h => by simp at h
  | (g, y) :: fs, 0, f, v, _, h => by
    have h := Option.some.inj h
    cases h
    simp [List.lookup]
  | (g, y) :: fs, i + 1, f, v, nd, h => by
    have h : fs[i]? = some (f, v) := h
    have nd : (g :: fs.map (·.1)).Nodup := nd
    rw [List.nodup_cons] at nd
    have hm : f ∈ fs.map (·.1) := List.mem_map.mpr ⟨(f, v), List.mem_of_getElem? h, rfl⟩
    have hne : (f == g) = false := beq_eq_false_iff_ne.mpr (fun e => nd.1 (by rw [← e]; exact hm))
    simp only [List.lookup, hne]
    exact lookup_at nd.2 h
theorem lookup_no : ∀ {fs : List (Str × V)} {f : Str}, f ∉ fs.map (·.1) → fs.lookup f = none
  | [], _, _ => rfl
  | (g, y) :: fs, f, h => by
    have h : f ∉ g :: fs.map (·.1) := h
    have hne : (f == g) = false := beq_eq_false_iff_ne.mpr (fun e => h (by rw [e]; exact List.mem_cons_self))
    simp only [List.lookup, hne]
    exact lookup_no fun z => h (List.mem_cons_of_mem _ z)
theorem putF_at : ∀ {fs : List (Str × V)} {i : Nat} {f : Str} {v z : V}, (fs.map (·.1)).Nodup → fs[i]? = some (f, v) → putF f z fs = fs.set i (f, z)
  | [], i, f, v, z, _, h => by simp at h
  | (g, y) :: fs, 0, f, v, z, _, h => by
    have h : (g, y) = (f, v) := Option.some.inj h
    injection h with h1 h2
    subst h1 h2
    show (if g = g then (g, z) :: fs else (g, y) :: putF g z fs) = (g, z) :: fs
    rw [if_pos rfl]
  | (g, y) :: fs, i + 1, f, v, z, nd, h => by
    have h : fs[i]? = some (f, v) := h
    have nd : (g :: fs.map (·.1)).Nodup := nd
    rw [List.nodup_cons] at nd
    have hm : f ∈ fs.map (·.1) := List.mem_map.mpr ⟨(f, v), List.mem_of_getElem? h, rfl⟩
    show (if g = f then (g, z) :: fs else (g, y) :: putF f z fs) = (g, y) :: fs.set i (f, z)
    rw [if_neg (fun e => nd.1 (by rw [e]; exact hm)), putF_at nd.2 h]
theorem putF_end : ∀ {fs : List (Str × V)} {f : Str} {z : V}, f ∉ fs.map (·.1) → putF f z fs = fs ++ [(f, z)]
  | [], _, _, _ => rfl
  | (g, y) :: fs, f, z, h => by
    have h : f ∉ g :: fs.map (·.1) := h
    show (if g = f then (g, z) :: fs else (g, y) :: putF f z fs) = (g, y) :: (fs ++ [(f, z)])
    rw [if_neg (fun e => h (by rw [e]; exact List.mem_cons_self)), putF_end fun w => h (List.mem_cons_of_mem _ w)]
def insAt (c : Cs) (d : D) : Option (Nat × List D) := match d with
  | .ref k => (match nth c k with
    | some (.ins xs) => some (k, xs)
    | _ => none)
  | _ => none
structure InsF (T : Tb) (W : Wd) (cs : Cs) (H : Hp) (k : Nat) (xs : List D) (a dx : Addr) (fs : List (Str × V)) : Prop where
  al : W.al[k]? = some a
  cs : cs[k]? = some (.ins xs)
  H : H a = some (.ins T.C dx fs)
  names : fs.map (·.1) = T.nm.take xs.length
  le : xs.length ≤ T.nm.length
  rep : RepLW W (fs.map (·.2)) xs
  h0 : W.H0 a = none
  hI : W.I a = none
theorem insAt_ok {W : Wd} {cs : Cs} {H : Hp} {v : V} {d : D} {k : Nat} {xs : List D} (R : Rel T W cs H) (r : RepW W v d) (h : insAt cs d = some (k, xs)) : ∃ a dx fs, v = .ref a ∧ InsF T W cs H k xs a dx fs := by
  cases d with
  | ref j =>
    have h : (match nth cs j with
      | some (.ins kvs) => some (j, kvs)
      | _ => none) = some (k, xs) := h
    rw [nth_eq] at h
    cases r with
    | ref e =>
      rename_i a
      cases q : cs[j]? with
      | none => rw [q] at h; cases h
      | some cl =>
        rw [q] at h
        cases cl with
        | ins kv2 =>
          cases h
          obtain ⟨h1, h2, dx, fs, h3, h4, h5, h6⟩ := R.cell k a _ e q
          rw [R.wc] at h3
          rw [R.wn] at h4 h5
          exact ⟨a, dx, fs, rfl, e, q, h3, h4, h5, h6, h1, h2⟩
        | _ => cases h
  | _ => cases h
theorem InsF.nodup {W : Wd} {cs : Cs} {H : Hp} {k : Nat} {xs : List D} {a dx : Addr} {fs : List (Str × V)} (h : InsF T W cs H k xs a dx fs) (nd : T.nm.Nodup) : (fs.map (·.1)).Nodup := by
  rw [h.names]
  exact nd.sublist (List.take_sublist _ _)
theorem InsF.at_ {W : Wd} {cs : Cs} {H : Hp} {k : Nat} {xs : List D} {a dx : Addr} {fs : List (Str × V)} (h : InsF T W cs H k xs a dx fs) {i : Nat} {f : Str} {d : D} (hf : T.nm[i]? = some f) (hi : xs[i]? = some d) : ∃ v, fs[i]? = some (f, v) ∧ RepW W v d := by
  obtain ⟨v, hv, rv⟩ := h.rep.get hi
  rw [List.getElem?_map] at hv
  cases q : fs[i]? with
  | none => rw [q] at hv; cases hv
  | some p =>
    obtain ⟨g, y⟩ := p
    rw [q] at hv
    have hv := Option.some.inj hv
    subst hv
    have hg : (fs.map (·.1))[i]? = some g := by rw [List.getElem?_map, q]; rfl
    rw [h.names, List.getElem?_take] at hg
    have hlt : i < xs.length := (List.getElem?_eq_some_iff.mp hi).1
    rw [if_pos hlt, hf] at hg
    cases hg
    exact ⟨y, rfl, rv⟩
def xFld (i : Nat) (o : XE) : XE := fun sl cs => bnd (o sl cs) fun x c => match insAt c x with
  | some (_, xs) => (match nth xs i with
    | some d => some (d, c)
    | none => none)
  | none => none
def putIns (c : Cs) (x : D) (i : Nat) (d : D) : Option Cs := match insAt c x with
  | some (k, xs) => (match Nat.blt i xs.length with
    | true => some (setN c k (.ins (setN xs i d)))
    | false => (match Nat.beq i xs.length with
      | true => some (setN c k (.ins (xs ++ [d])))
      | false => none))
  | none => none
def xSFld (i : Nat) (o v : XE) : XS := fun sl cs => bnd (v sl cs) fun d c => bnd (o sl c) fun x c2 => match putIns c2 x i d with
  | some c3 => some (.nx sl c3)
  | none => none
def xMeth (g : List D → Cs → Option (D × Cs)) (o : XE) (a : XA) : XE := fun sl cs => bnd (o sl cs) fun x c => match insAt c x with
  | some _ => bnd (a sl c) fun ds c2 => g (x :: ds) c2
  | none => none
def xMake (g : List D → Cs → Option (D × Cs)) (a : XA) : XE := fun sl cs => bnd (a sl cs) fun ds c => match g (.ref c.length :: ds) (c ++ [.ins []]) with
  | some (.non, c2) => some (.ref c.length, c2)
  | _ => none
section
variable {X : Cx} {o e : Expr} {es : List Expr} {xo xe : XE} {xa : XA} {pos pos' apos p : Pos} {f m x : Str} {k j : Nat} {fa : Addr} {fd : FuncData} {ps : List Str} {g : List D → Cs → Option (D × Cs)}
theorem xe_fld (i : Nat) (c : Cls X.K T.C) (n : NoAttr X.K T.C f) (hf : T.nm[i]? = some f) (nd : T.nm.Nodup) (he : PE X e (tE T xe)) (hb : attributeBase e f X.env (eval e X.env) = eval e X.env := by rfl) : PE X (.Attribute e f pos) (tE T (xFld i xe)) := (pe_fld he hb).weak fun σ H Q h => by
  obtain ⟨W, sl, cs, d, cs', hs, hr, e, k⟩ := h
  obtain ⟨x, c1, ea, e⟩ := bnd_some e
  refine ⟨W, sl, cs, x, c1, hs, hr, ea, fun W1 v1 H1 l1 r1 p1 => ?_⟩
  cases q : insAt c1 x with
  | none => rw [q] at e; cases e
  | some pr =>
    obtain ⟨kk, xs⟩ := pr
    rw [q] at e
    dsimp only at e
    cases q2 : nth xs i with
    | none => rw [q2] at e; cases e
    | some d2 =>
      rw [q2] at e
      cases e
      obtain ⟨a, dx, fs, rfl, F⟩ := insAt_ok r1 p1 q
      rw [nth_eq] at q2
      obtain ⟨v, hv, rv⟩ := F.at_ hf q2
      exact ⟨a, T.C, dx, fs, v, rfl, F.H, c, n, lookup_at (F.nodup nd) hv, k W1 _ H1 l1 r1 rv⟩
theorem xs_fld (i : Nat) (c : Cls X.K T.C) (n : NoAttr X.K T.C f) (hf : T.nm[i]? = some f) (nd : T.nm.Nodup) (hl : T.nm.length < 1000) (ho : PE X o (tE T xo)) (hv : PE X e (tE T xe)) (hs : swapsWith e (some (.Attribute o f pos')) pos.line X.env = pure false := by rfl) :
    PS X (.Assign [.Attribute o f pos'] e pos) (tS T (xSFld i xo xe)) := (ps_fld ho hv hs).weak fun DD σ H h => by
  obtain ⟨W, sl, cs, ot, hs, hr, e, k⟩ := h
  obtain ⟨d, c0, e0, e⟩ := bnd_some e
  obtain ⟨x, c1, ea, e⟩ := bnd_some e
  refine ⟨W, sl, cs, d, c0, hs, hr, e0, fun W0 v0 H0 l0 r0 p0 => ⟨W0, sl, c0, x, c1, hs.le l0, r0, ea, fun W1 v1 H1 l1 r1 p1 => ?_⟩⟩
  cases q : putIns c1 x i d with
  | none => rw [q] at e; cases e
  | some c3 =>
    rw [q] at e
    cases e
    unfold putIns at q
    cases q1 : insAt c1 x with
    | none => rw [q1] at q; cases q
    | some pr =>
      obtain ⟨kk, xs⟩ := pr
      rw [q1] at q
      dsimp only at q
      obtain ⟨a, dx, fs, rfl, F⟩ := insAt_ok r1 p1 q1
      have hlen : fs.length = xs.length := by
        have := F.rep.length
        rw [List.length_map] at this
        exact this
      have p01 := p0.le l1
      have l01 := l0.trans l1
      refine ⟨a, T.C, dx, fs, rfl, F.H, c, n, by have := F.le; omega, ?_⟩
      cases q2 : Nat.blt i xs.length with
      | true =>
        rw [q2] at q
        cases q
        have hi : i < xs.length := Nat.le_of_ble_eq_true q2
        obtain ⟨v, hv2, rv⟩ := F.at_ hf (List.getElem?_eq_getElem hi)
        rw [putF_at (F.nodup nd) hv2]
        have k : ∀ W' σ H, Le W W' → RelS W' sl σ → Rel T W' (setN c1 kk (.ins (setN xs i d))) H → DD.nx σ H := k
        rw [setN_eq, setN_eq] at k
        refine k W1 σ _ l01 (hs.le l01) (r1.put F.al F.cs rfl ⟨F.h0, F.hI, dx, _, by rw [r1.wc]; exact upd_same, ?_, ?_, ?_⟩)
        · rw [List.map_set, List.length_set, r1.wn, ← F.names]
          apply List.ext_getElem?
          intro jj
          by_cases hj : i = jj
          · subst hj
            have hlt : i < (fs.map (·.1)).length := by rw [List.length_map, hlen]; exact hi
            rw [List.getElem?_set_self hlt, List.getElem?_map, hv2]
            rfl
          · rw [List.getElem?_set_ne hj]
        · rw [List.length_set, r1.wn]
          exact F.le
        · rw [List.map_set]
          exact F.rep.set p01 i
      | false =>
        rw [q2] at q
        dsimp only at q
        cases q3 : Nat.beq i xs.length with
        | false => rw [q3] at q; cases q
        | true =>
          rw [q3] at q
          cases q
          have hi : i = xs.length := Nat.eq_of_beq_eq_true q3
          have hlt : xs.length < T.nm.length := by rw [← hi]; exact (List.getElem?_eq_some_iff.mp hf).1
          have htake : T.nm.take (xs.length + 1) = T.nm.take xs.length ++ [f] := by
            rw [List.take_add_one, ← hi, hf]
            rfl
          have hno : f ∉ fs.map (·.1) := fun hm => by
            have nd2 : (T.nm.take (xs.length + 1)).Nodup := nd.sublist (List.take_sublist _ _)
            rw [htake, ← F.names] at nd2
            exact (List.nodup_append.mp nd2).2.2 f hm f (by simp) rfl
          rw [putF_end hno]
          have k : ∀ W' σ H, Le W W' → RelS W' sl σ → Rel T W' (setN c1 kk (.ins (xs ++ [d]))) H → DD.nx σ H := k
          rw [setN_eq] at k
          refine k W1 σ _ l01 (hs.le l01) (r1.put F.al F.cs rfl ⟨F.h0, F.hI, dx, _, by rw [r1.wc]; exact upd_same, ?_, ?_, ?_⟩)
          · rw [List.map_append, F.names, List.length_append, List.length_singleton, r1.wn, htake]
            rfl
          · rw [List.length_append, List.length_singleton, r1.wn]
            omega
          · rw [List.map_append]
            exact F.rep.append (.cons p01 .nil)
theorem weak_meth {E : XK} {σ : L2.St} {H : Hp} {Q : VK} (hm : m ∉ T.nm) (h : tE T (xMeth g xo xa) σ H Q) : tMeth T.C m (spO T g) [] E (tE T xo) (tA T xa) σ H Q := by
  obtain ⟨W, sl, cs, d, cs', hs, hr, e, k⟩ := h
  obtain ⟨x, c1, ea, e⟩ := bnd_some e
  refine ⟨W, sl, cs, x, c1, hs, hr, ea, fun W1 v1 H1 l1 r1 p1 => ?_⟩
  cases q : insAt c1 x with
  | none => rw [q] at e; cases e
  | some pr =>
    obtain ⟨kk, xs⟩ := pr
    rw [q] at e
    obtain ⟨ds, c2, eb, e⟩ := bnd_some e
    obtain ⟨a, dx, fs, rfl, F⟩ := insAt_ok r1 p1 q
    refine ⟨a, dx, fs, rfl, F.H, lookup_no ?_, W1, sl, c1, ds, c2, hs.le l1, r1, eb, fun W2 vs H2 l2 r2 p2 => ?_⟩
    · rw [F.names]
      exact fun z => hm (List.mem_of_mem_take z)
    · show spO T g (V.ref a :: (vs ++ [])) H2 Q E
      rw [List.append_nil]
      exact ⟨W2, c2, x :: ds, d, cs', r2, .cons (p1.le l2) p2, e, fun W' v H' l r rp => k W' v H' (l1.trans (l2.trans l)) r rp⟩
theorem xe_meth {pl : Sem Bool} (c : Cls X.K T.C) (hm : Meth X.K T.C m fa) (F : FnOk X.prog X.w X.K X.mg X.base CX0 k fa fd ps (spO T g)) (hr : Room j X.A) (hk : k ≤ j) (hb : Binds X.K fd ps []) (hn : m ∉ T.nm) (ho : PE X o (tE T xo)) (ha : PA X (e :: es) (tA T xa))
    (hst : starEach (e :: es) X.env = (false, eval e X.env) :: starEach es X.env := by rfl) (hpl : (backTo pos (starEach es X.env)).any (·.1) = false := by rfl)
    (ht : eval (.Call (.Attribute o m apos) (e :: es) [] pos) X.env = (do
      let ov ← eval o X.env
      standAt apos.atName
      let (f, first) ← holding [ov] (getMethod ov m pl)
      callWith pos f first (backTo pos (starEach (e :: es) X.env)) (backToKw pos (keywordEach [] X.env))) := by rfl) :
    PE X (.Call (.Attribute o m apos) (e :: es) [] pos) (tE T (xMeth g xo xa)) := (pe_meth (pl := pl) ho c hm F (hr.mono hk) hb .nil (pass0 (X := X)) ha hst hpl ht).weak fun σ H Q h => weak_meth hn h
theorem Rel.fresh {W : Wd} {cs : Cs} {H : Hp} (R : Rel T W cs H) {p : Addr} {u : HO} (hp : H p = none) : Rel T W cs (upd H p u) := by
  refine ⟨same_new R.keep hp, same_new R.imm hp, R.new, R.len, R.nd, fun k a c h1 h2 => ?_, R.nt, tabs_new R.tabs hp, R.h0t, R.wc, R.wn⟩
  have ok := R.cell k a c h1 h2
  obtain ⟨o, ho⟩ := ok.there R.imm
  exact ok.le (Le.refl W) (upd_ne (ne_of_none ho hp)) fun h => h
theorem xe_make (M : Mk X.K T.C fa) (F : FnOk X.prog X.w X.K X.mg X.base CX0 k fa fd ps (spO T g)) (hr : Room j X.A) (hk : k + 1 ≤ j) (hg : Gl X x) (hm : X.mg x = some (.ref T.C)) (hb : Binds X.K fd ps []) (ha : PA X (e :: es) (tA T xa))
    (hdb : (x == ("__debug__" : Str)) = false := by decide) (he : starEach (e :: es) X.env = (false, eval e X.env) :: starEach es X.env := by rfl) (hpl : (backTo pos (starEach es X.env)).any (·.1) = false := by rfl) :
    PE X (.Call (.Name x p) (e :: es) [] pos) (tE T (xMake g xa)) := (pe_make M F (hr.mono hk) hg hm hb .nil (pass0 (X := X)) ha hdb he hpl).weak fun σ H Q h => by
  obtain ⟨W, sl, cs, d, cs', hs, hr, e, k⟩ := h
  obtain ⟨ds, c1, ea, e⟩ := bnd_some e
  refine ⟨W, sl, cs, ds, c1, hs, hr, ea, fun W1 vs H1 l1 r1 p1 a dx ha hdx hne => ?_⟩
  rw [List.append_nil]
  cases q : g (.ref c1.length :: ds) (c1 ++ [.ins []]) with
  | none => rw [q] at e; cases e
  | some pr =>
    obtain ⟨d2, c2⟩ := pr
    rw [q] at e
    cases d2 with
    | non =>
      cases e
      have R1 := r1.fresh (u := .own a) hdx
      have ha2 : upd H1 dx (.own a) a = none := by rw [upd_ne (Ne.symm hne)]; exact ha
      have hH0 : W1.H0 a = none := r1.keep.free ha
      have hI : W1.I a = none := r1.imm.free ha
      obtain ⟨l2, R2⟩ := R1.newCell (o := .ins T.C dx []) (c := .ins []) ha2 ⟨hH0, hI, dx, [], by rw [show ({ W1 with al := W1.al ++ [a] } : Wd).C = W1.C from rfl, r1.wc]; exact upd_same, by simp, Nat.zero_le _, .nil⟩
      have rp : RepW { W1 with al := W1.al ++ [a] } (.ref a) (.ref c1.length) := .ref (by rw [← r1.len]; exact al_last _ _)
      exact ⟨_, _, _, _, _, R2, .cons rp (p1.le l2), q, fun W' v H' l r rpv => ⟨by cases rpv; rfl, k W' _ H' (l1.trans (l2.trans l)) r (rp.le l)⟩⟩
    | _ => cases e
end
end XL
end
section
set_option maxRecDepth 100000
set_option maxHeartbeats 4000000
/-! XX1: own exception classes over ArithmeticError: made by their own __init__, one attribute; a try whose clauses but one are passed by. -/
namespace XL
namespace AE
open PySem PySem.W PySem.Calls PyProof.Rows PySem.HandSPX
open Builtin Builtin.ObjectAttr

theorem overAE_or (v : Value) (rest : List Value) (e : overAE (v :: rest) = true) : (∃ c, v = .ref c ∧ overAE rest = true) ∨ v :: rest = aeTail := by
  cases v with
  | ref c => exact .inl ⟨c, rfl, e⟩
  | _ => exact .inr (beq_iff_eq.mp e)
theorem overAE_passes (self : Value) : ∀ line : List Value, overAE line = true → refuseLoop self "__setattr__" line = pure ()
  | [], e => absurd e (by decide)
  | v :: rest, e => by
    rcases overAE_or v rest e with ⟨c, rfl, e2⟩ | e2
    · rw [refuseLoop_ref, overAE_passes self rest e2]
    · rw [e2]
      exact F.store_ArithmeticError.passes self
theorem overAE_has (nm : String) : ∀ line : List Value, overAE line = true → line.contains (.type nm) = aeTail.contains (.type nm)
  | [], e => absurd e (by decide)
  | v :: rest, e => by
    rcases overAE_or v rest e with ⟨c, rfl, e2⟩ | e2
    · rw [List.contains_cons, overAE_has nm rest e2]
      rfl
    · rw [e2]
theorem overAE_some {line : List Value} (e : overAE line = true) : line.isEmpty = false := by
  cases line with
  | nil => exact absurd e (by decide)
  | cons _ _ => rfl
section
variable {prog : Program} {w : World} {A : Around} {E : Value → Shared → Prop} {R : Result → Shared → Prop} {hp : Heap} {g : Array GenState} {d : Drawn} {t : Nat} {os : OsState}
/-- the first attribute of such an exception -/
theorem first_attr {K : W.Frag} {nm : Str} {tok : Tok} {val : Value} {x C : Addr} {fv : Array Value} {cd : ClassData} (kin : K.In hp) (hx : hp.get? x = some { cls := .ref C, data := .fields fv }) (hcd : W.clsIn K C = some cd) (hm : overAE cd.mro = true) (hh : cd.hasDict = true)
    (hno : W.findIn K (.ref C) nm = some none)
    (done : ∀ h2 tk2 dx, (∀ b o, b ≠ x → hp.get? b = some o → h2.get? b = some o) → hp.objs.size ≤ dx → dx ≠ x → h2.get? x = some { cls := .ref C, dict := some dx, data := .fields fv } → h2.Ns1 dx (fun y => if y = nm then some val else none) →
      R (.ok (.ret .none)) ⟨h2, g, d, tk2, os⟩) : codeAny (model prog w) A (.call (.builtin "object.__setattr__") ⟨[.ref x, .str nm tok, val], []⟩) R ⟨hp, g, d, t, os⟩ := by
  have inst : W.InstAt hp x { cls := .ref C, data := .fields fv } C none := ⟨hx, rfl, rfl, trivial⟩
  have sf := F.store_object
  have some1 := overAE_some hm
  have hasO : cd.mro.contains (.type "object") = true := by rw [overAE_has "object" _ hm]; decide +kernel
  have apart : x ≠ hp.objs.size := Nat.ne_of_lt (Heap.lt_size hx)
  have isO : W.Looks (model prog w) hp (isInstance (.ref x) (.type "object")) true := by
    refine inst.type.andThen (W.looks_mroIn kin ?_)
    unfold W.mroIn
    rw [hcd, Option.bind_some, if_neg (by rw [some1]; decide), hasO]
  refine codeAny_call_builtin sf.slot.plain sf.entry (@W.check_slot (model prog w) _ _ ⟨hp, g, d, t, os⟩ "object.__setattr__" "object" "__setattr__" (.ref x) [.str nm tok, val] [] _ sf.kind sf.split isO (sf.args (.ref x) (.str nm tok) val) ?_)
  have lmro : W.Looks (model prog w) hp (mroOf (.ref C)) cd.mro := (W.looks_clsIn kin hcd).andThen .now
  have ltk : W.Looks (model prog w) hp (storeTaker? none) none := .now
  have lcls : W.Looks (model prog w) hp (classData C) cd := W.looks_clsIn kin hcd
  rw [W.osa_eq, refuse_eq]
  refine wpAny_bind (wpAny_bind (inst.type.at (wpAny_bind (lmro.at ?_))))
  rw [overAE_passes _ _ hm]
  refine wpAny_pure (wpAny_bind (inst.type.at (wpAny_bind ((W.looks_findIn kin hno).at (wpAny_bind (ltk.at ?_))))))
  show wpAny _ _ (storeInOwnDict (.ref x) (.ref C) (.str nm tok) nm val false) _ _ _
  obtain ⟨n0, bs0, mro0, ns0, q0, hd0, sn0, sb0, ab0, cl0, de0⟩ := cd
  dsimp only at hh
  subst hh
  unfold storeInOwnDict ownDictForStores
  repeat (first | with_reducible refine store_in_new ?_ ?_ | with_reducible refine wpAny_loadPart_at hx ?_ | with_reducible refine lcls.at ?_ | wp_step)
  · exact ⟨_, #[], _, (Heap.get?_update_ne _ _ _ _ apart.symm).trans (Heap.get?_push_at rfl rfl), rfl, fun e he => absurd he (by simp), fun _ => rfl⟩
  · intro h2 tk2 hn2 same
    have hx1 : (hp.push { cls := .type "dict", data := .dict #[] }).get? x = some { cls := .ref C, data := .fields fv } := Heap.get?_push_of_some _ hx
    refine done h2 tk2 hp.objs.size (fun b o hb ho => ?_) (Nat.le_refl _) apart.symm ?_ hn2
    · rw [same.2 b (Nat.ne_of_lt (Heap.lt_size ho)), Heap.get?_update_ne _ _ _ _ hb]
      exact Heap.get?_push_of_some _ ho
    · rw [same.2 x apart]
      exact Heap.get?_update_self _ hx1 rfl
end
end AE
open PySem PySem.Spec PyProof.Rows L2
/-- what the written part says of such a class -/
structure AexC (K : PySem.W.Frag) (C : Addr) : Prop where
  cls : ∃ nm q N bs bm sn sub ab col dd k0 k1 k2 k3 k5, K.lookup C = some (excClassObj nm q C N bs bm true sn sub ab col dd k0 k1 k2 k3 k5 "ArithmeticError.__new__") ∧ AE.overAE bm = true
  sa : PySem.W.findIn K (.ref C) "__setattr__" = some (some (.builtin "object.__setattr__"))
  exC : PySem.W.subIn K (.ref C) (.type "BaseException") = some true
  tyC : PySem.W.typeIn K (.ref C) = some (.type "type")
  kC : PySem.W.keepIn K (.ref C) = true
theorem aexB_ok {K : PySem.W.Frag} {C : Addr} (h : aexB K C = true) : AexC K C := by
  obtain ⟨h1, h2⟩ := Bool.and_eq_true_iff.mp h
  obtain ⟨h2, h3⟩ := Bool.and_eq_true_iff.mp h2
  obtain ⟨h3, h4⟩ := Bool.and_eq_true_iff.mp h3
  obtain ⟨h4, h5⟩ := Bool.and_eq_true_iff.mp h4
  refine ⟨?_, of_decide_eq_true h2, of_decide_eq_true h3, of_decide_eq_true h4, h5⟩
  split at h1
  · rename_i dd cd sl ho
    split at h1
    · rename_i C' bm k0 k1 k2 k3 n k5 hm hs
      simp only [Bool.and_eq_true, beq_iff_eq, Bool.not_eq_true'] at h1
      obtain ⟨rfl, rfl, hdel, hdict, hover⟩ := h1
      obtain ⟨nm, bs, mro, ns, qn, hd, sn, sub, ab, col, del⟩ := cd
      dsimp only at hm hdel hdict
      subst hm hdel hdict
      have hsl : sl = #[k0, k1, k2, k3, some (.builtin "ArithmeticError.__new__"), k5] := by
        obtain ⟨l⟩ := sl
        exact congrArg Array.mk hs
      subst hsl
      exact ⟨nm, qn, ns, bs, bm, sn, sub, ab, col, dd, k0, k1, k2, k3, k5, ho, hover⟩
    · cases h1
  · cases h1
section
variable {X : Cx} {pins : List (Addr × Obj)} {σ : L2.St} {H : Hp} {s : Shared} {a C : Addr} {f : Str} {y : V} {u : Value} {Q : Unit → Shared → Prop} {E : Value → Shared → Prop} {A : Around}
/-- self.f = y, its first attribute -/
theorem ast_new (T : AexC X.K C) (I : Inv X pins σ H s) (e : H a = some (exo a C none)) (hno : PySem.W.findIn X.K (.ref C) f = some none) (ry : RelV y u)
    (h : ∀ dx s', H dx = none → dx ≠ a → Inv X pins σ (upd (upd H dx (exd dx [(f, y)])) a (exo a C (some dx))) s' → Q () s') : wpAny (model X.prog X.w) A (setAttr (.ref a) f u) Q E s := by
  obtain ⟨nm, q, N, bs, bm, sn, sub, ab, col, dd, k0, k1, k2, k3, k5, hC, hbm⟩ := T.cls
  have hcl : PySem.W.clsIn X.K C = some { name := nm, bases := bs, mro := .ref C :: bm, ns := N, qualname := q, hasDict := true, slotNames := sn, subclasses := sub, abstract := ab, collection := col, hasDel := false } := by
    unfold PySem.W.clsIn
    rw [hC] <;> rfl
  obtain ⟨t1, ho⟩ := exo_at I.hok e
  obtain ⟨hp, g, d, t, os⟩ := s
  refine PySem.W.set_plain I.kIn (ox := { cls := .ref C, dict := none, data := .fields #[.ref t1, .none, .none, .none, .bool false, .none] }) (od := none) ⟨ho, rfl, rfl, trivial⟩ T.sa ?_
  refine AE.first_attr I.kIn ho hcl hbm rfl hno (fun h2 tk2 dx k dn dne hx hn => ?_)
  have free : H dx = none := I.hok.fresh dn
  have old : ∀ {b : Addr} {o : Obj}, hp.get? b = some o → b ≠ dx := fun {b o} z => Nat.ne_of_lt (Nat.lt_of_lt_of_le (Heap.lt_size z) dn)
  have nota : ∀ {b : Addr}, H b = none → b ≠ a := fun {b} n z => by
    rw [z, e] at n
    cases n
  have un : Un X.fs [] H (upd (upd H dx (exd dx [(f, y)])) a (exo a C (some dx))) hp h2 := by
    refine ⟨fun b o z n _ _ => k b o (nota n) z, fun b o z n _ _ => ⟨o.slots, k b o (nota n) z⟩, fun b o z n _ => ?_, fun b o z _ => ?_, fun b xs z => ?_, fun b o v z => ?_, fun b ps z => ⟨#[], ?_⟩⟩
    · rw [upd_ne (nota n), upd_ne (old z)]
      exact n
    · by_cases hb : b = a
      · exact ⟨_, by rw [hb]; exact hx⟩
      · exact ⟨o, k b o hb z⟩
    · rw [upd_ne (at_ne e z exo_tup), upd_ne (ne_of_none z free)]
      exact z
    · rw [upd_ne (at_ne e z exo_frz), upd_ne (ne_of_none z free)]
      exact z
    · rw [upd_ne (at_ne e z exo_tbl), upd_ne (ne_of_none z free), z]
      simp
  refine h dx _ free dne (I.un (t' := tk2) un fun b o z => ?_)
  by_cases hb : b = a
  · subst hb
    rw [upd_same] at z
    cases z
    exact exo_ok hx
  · rw [upd_ne hb] at z
    by_cases hd : b = dx
    · subst hd
      rw [upd_same] at z
      cases z
      exact exd_ok hn (relO_put (fs := []) ry fun g => True.intro)
    · rw [upd_ne hd] at z
      refine (I.hok b o z).stay (fun c v hc zz => k c v ?_ zz) (fun c hc => ?_) (fun c xs hc => ?_)
      · rcases hc with hc | hc
        · rw [hc]
          exact hb
        · exact at_ne e hc exo_own
      · rw [upd_ne (at_ne e hc exo_own), upd_ne (ne_of_none hc free)]
        exact hc
      · rw [upd_ne (at_ne e hc exo_tup), upd_ne (ne_of_none hc free)]
        exact hc
end
/-- self.f = e -/
def tAst (K : PySem.W.Frag) (f : Str) (to te : TE) : TS := fun D σ H => te σ H fun y H1 => to σ H1 fun x H2 => ∃ a C : Addr, x = .ref a ∧ AexC K C ∧ PySem.W.findIn K (.ref C) f = some none ∧ H2 a = some (exo a C none) ∧
  ∀ dx, H2 dx = none → dx ≠ a → D.nx σ (upd (upd H2 dx (exd dx [(f, y)])) a (exo a C (some dx)))
section
variable {X : Cx} {o e : Expr} {es : List Expr} {to te : TE} {ta : TA} {f : Str} {p p' pos : Pos}
theorem ps_ast (ho : PE X o to) (he : PE X e te) (hs : swapsWith e (some (.Attribute o f p')) pos.line X.env = pure false := by rfl) : PS X (.Assign [.Attribute o f p'] e pos) (tAst X.K f to te) := by
  refine ⟨fun pins s σ H D I h => plainObj_wpAny_Assign_Attribute (thn (he.run pins s σ H _ I h) fun v s1 ⟨y, H1, I1, r1, q1⟩ => thn (ho.run pins s1 σ H1 _ I1 q1) fun u s2 ⟨x, H2, I2, r2, a, C, ex, T, hno, ea, q⟩ => ?_) hs⟩
  subst ex
  obtain rfl : u = Value.ref a := r2
  exact ast_new T I2 ea hno r1 fun dx s' n ne J => ⟨σ, _, J, q dx n ne⟩
theorem pmk_aex {CXi : CXT} {x : Str} {C fI : Addr} {k : Nat} {fd : FuncData} {ps : List Str} {sp : Sp} (T : AexC X.K C) (iC : PySem.W.findIn X.K (.ref C) "__init__" = some (some (.ref fI))) (tyI : PySem.W.typeIn X.K (.ref fI) = some (.type "function"))
    (F1 : FnOk X.prog X.w X.K X.mg X.base CXi k fI fd ps sp) (hr : Room (k + 1) X.A) (hb : Binds X.K fd ps []) (hx : Passes CXi X (fun _ _ _ => False)) (hg : Gl X x) (hm : X.mg x = some (.ref C)) (ha : PA X (e :: es) ta)
    (hdb : (x == ("__debug__" : Str)) = false := by decide) (he : starEach (e :: es) X.env = (false, eval e X.env) :: starEach es X.env := by rfl) (hpl : (backTo pos (starEach es X.env)).any (·.1) = false := by rfl) :
    PMk X (.Call (.Name x p) (e :: es) [] pos) (tMkO C sp [] ta) := by
  intro pins s σ H Q I h
  obtain ⟨nm, q, N, bs, bm, sn, sub, ab, col, dd, k0, k1, k2, k3, k5, hC, hbm⟩ := T.cls
  refine wpAny_Call_Name_kw (ld_glob I hg hm ?_ hdb)
  refine PySem.W.callWith_K (h₀ := X.base) I.ok.mod.kin T.kC (thn (ha.run pos pins s σ H _ I h) fun us s1 ⟨vs, H1, I1, r1, hz, q1⟩ => ⟨I1.kIn, ?_⟩) he hpl
  show wpAny _ _ (call (.ref C) us) _ _ _
  obtain ⟨hp, g, dr, tk, os⟩ := s1
  have up1 : hp.objs.size ≤ hp.objs.size + 1 := Nat.le_succ _
  have hq := q1 (hp.objs.size + 1) (I1.hok.fresh up1)
  rw [List.append_nil] at hq
  have kept : ∀ b o, hp.get? b = some o → ((hp.push (PySem.W.kdv_tup us)).push (PySem.HandSPX.excO C hp.objs.size)).get? b = some o := fun b o z => Heap.get?_push_of_some _ (Heap.get?_push_of_some _ z)
  have new1 : ((hp.push (PySem.W.kdv_tup us)).push (PySem.HandSPX.excO C hp.objs.size)).get? (hp.objs.size + 1) = some (PySem.HandSPX.excO C hp.objs.size) := by heap_get
  have I2 : Inv X pins σ (upd H1 (hp.objs.size + 1) (exo (hp.objs.size + 1) C none)) ⟨(hp.push (PySem.W.kdv_tup us)).push (PySem.HandSPX.excO C hp.objs.size), g, dr, tk, os⟩ := I1.laid (t' := tk) kept up1 (exo_ok new1)
  have r2 : Vals (V.ref (hp.objs.size + 1) :: vs) (Value.ref (hp.objs.size + 1) :: us) := .cons rfl r1
  have hl : (Value.ref (hp.objs.size + 1) :: us ++ []).length = ps.length := by
    rw [List.append_nil, ← r2.length]
    exact F1.len _ _ _ _ hq
  have hus : us.length ≤ sizeLine := by
    have := r1.length
    have := sizeLine_eq
    omega
  have bb := hb ⟨_, g, dr, tk, os⟩ (Value.ref (hp.objs.size + 1) :: us) I2.kIn hl
  rw [List.append_nil] at bb
  refine wpAny_call (PySem.HandSPX.call_own F.excBase_ArithmeticError (fun Y => AE.overAE_has Y bm hbm) (I1.kIn _ _ hC) (PySem.W.looks_findIn I1.kIn iC) (fun self => PySem.W.bind_fn I1.kIn self tyI) hus
    (codeAny_mono (F1.run _ X.stack _ _ ⟨Value.ref (hp.objs.size + 1) :: us, []⟩ _ _ _ (fun _ _ _ => False) (hr.make C us []) (I2.env0.make C us []) bb r2 hq) fun r s' hq' => ?_))
  cases r with
  | error er => exact hx pins σ _ _ er s' I2 hq'
  | ok fl =>
    cases fl with
    | ret u =>
      obtain ⟨v, H2, os2, bare2, un2, hok2, rv, ev, d, fs, ea, ed, hd1, q2⟩ := hq'
      subst ev
      obtain ⟨h2, g2, d2, t2, os'⟩ := s'
      exact ⟨rv, mk_end (raises_own T.exC T.tyC) I1 up1 kept un2 hok2 os2 bare2 ea ed hd1 q2⟩
    | _ => exact False.elim hq'
end
end XL
end
section
set_option maxRecDepth 100000
set_option maxHeartbeats 4000000
/-! XX2: try: body / except ..: .. / except C as n: suite: an exception of C passes the clauses ahead. -/
namespace XL
open PySem PySem.Spec PyProof.Rows L2
/-- the clauses ahead of the one that catches -/
inductive Skips (X : Cx) (cls : Value) : List ExceptHandler → List ExceptHandler → Prop
  | here {hds : List ExceptHandler} : Skips X cls hds hds
  | next {x : Str} {c : Value} {nm : Option Str} {b₀ : Stmt} {suite : List Stmt} {np pos' : Pos} {hds rest : List ExceptHandler} (hc : Names X x c) (no : PySem.W.exmOne X.K cls c = some false) (r : Skips X cls hds rest) :
      Skips X cls (.ExceptHandler (some (.Name x np)) nm (b₀ :: suite) pos' :: hds) rest
/-- behind the suite the name is gone -/
def goneD (i : Nat) (D : Ends) : Ends := { nx := fun σ' H' => D.nx (σ'.set i none) H', rt := D.rt, bk := fun σ' H' => D.bk (σ'.set i none) H', ct := fun σ' H' => D.ct (σ'.set i none) H' }
def wPick (cls : Value) (i n : Nat) (ts : Addr → Option Addr → TS) (D : Ends) : WX := fun c d σ H => c = cls ∧ (σ.length = n → ∀ a, H a = none → ts a d (goneD i D) (σ.set i (some (.ref a))) H)
section
variable {X : Cx} {x n : Str} {cls : Value} {i : Nat} {body suite : List Stmt} {b₀ : Stmt} {h₀ : ExceptHandler} {hds post : List ExceptHandler} {np pos pos' : Pos} {tb : WX → TS} {ts : Addr → Option Addr → TS}
theorem ps_try_pick (hs : X.stack = X.env :: X.outer) (hf : X.env.frame = some X.env.locals) (hN : X.N.Nodup) (hi : X.N[i]? = some n) (hln : X.env.kindOf n = some .local) (hc : Names X x cls) (yes : PySem.W.exmOne X.K cls cls = some true)
    (sk : Skips X cls (h₀ :: hds) (.ExceptHandler (some (.Name x np)) (some n) (b₀ :: suite) pos' :: post))
    (hb : ∀ (W : WX) (pn : List (Addr × Obj)) (xe : Value → Shared → Prop), Takes (X.tr pn xe) W → PassesOwn (model X.prog X.w) X.A X.env xe → PSs (X.tr pn xe) body (tb W))
    (hsu : ∀ (a : Addr) (oe : Obj) (d : Option Addr) (pn : List (Addr × Obj)), Zc cls d oe → (∃ vs, oe.data = .fields vs) → PSs (X.suite a ((a, oe) :: pn)) (b₀ :: suite) (ts a d)) :
    PS X (.Try body (h₀ :: hds) [] [] pos) (fun D σ H => tb (wPick cls i X.N.length ts D) D σ H) := by
  refine ⟨fun pins s σ H D I h => ?_⟩
  have ok := I.ok
  have hfr : X.A.frames = some (X.env :: X.outer) := by rw [ok.frames, hs]
  have hloc : Loc X.env.scope n := .inl hln
  refine wpAny_Try_except (wpAny_mono ((hb (wPick cls i X.N.length ts D) (X.pn ++ pins) (fun e s₁ => wpAny (model X.prog X.w) X.A (noteFrame e X.env) (fun _ s₂ => wpAny (model X.prog X.w) X.A (setFlight e none) (fun _ s₃ =>
    wpAny (model X.prog X.w) X.A (handleBy e X.env (h₀ :: hds)) (SP X pins D) X.xe s₃) X.xe s₂) X.xe s₁) (fun u s' xx => ?_) PassesOwn.looking).run [] s σ H D (I.toTry _) h) (fun f s1 hsp => ?_) (fun e s1 he => he))
  · obtain ⟨a, B, sI, pins', σ', H', cls', d, rfl, J', nb, up, sky, na, os, ag, rfl, wish⟩ := xx
    have J : Inv X pins σ' H' sI := J'.ofTry ok
    have sky' : Sky B (X.env :: X.outer) a (Zc cls' d) X.env.locals s'.heap := by
      rw [← hs]
      exact sky
    show wpAny (model X.prog X.w) X.A (noteFrame (.ref a) X.env) _ _ _
    refine Sky.land Zc.steady hfr hf sky' fun h3 fl3 up3 => ?_
    have J3 : Inv X pins σ' H' { s' with heap := h3 } := J.landed nb fl3.1 (up.trans up3) os ag
    obtain ⟨oe3, vs3, he3, hz3, hd3⟩ := fl3.there
    have nofr : a ∉ frs (X.env :: X.outer) := fun hm => by
      obtain ⟨_, o', e', hnf⟩ := fl3.2.2.1.mem hm
      rw [he3] at e'
      cases e'
      exact hnf _ hd3
    have nL : a ≠ X.env.locals := fun z => nofr (List.mem_filterMap.mpr ⟨X.env, List.mem_cons_self, by rw [hf, z]⟩)
    have nF : a ∉ X.fs := fun hm => by
      obtain ⟨e, he, q⟩ := List.mem_filterMap.mp hm
      exact nofr (List.mem_filterMap.mpr ⟨e, List.mem_cons_of_mem _ he, q⟩)
    have S3 := J3.suite he3 hd3 na nL nF
    have LT : PySem.W.Looks (model X.prog X.w) h3 (typeOf (.ref a)) cls' := fun A Q E s k q => wpAny_typeOf_ref (k _ _ he3) (by rw [hz3.1]; exact q)
    have test : ∀ {y : Str} {c : Value} {p : Pos} {Q : Value → Shared → Prop} {E : Value → Shared → Prop}, Names X y c → Q c { s' with heap := h3 } → wpAny (model X.prog X.w) (X.A.mark (some (.ref a))) (eval (.Name y p) X.env) Q E { s' with heap := h3 } := fun {y c p Q E} hn q => by
      obtain ⟨hg, hdbg, hm | ⟨hm, hv, hnn⟩⟩ := hn
      · exact ld_glob (X := X.suite a ((a, oe3) :: (X.pn ++ pins))) S3 hg hm q hdbg
      · exact ld_blt (X := X.suite a ((a, oe3) :: (X.pn ++ pins))) S3 hg hm hv q hnn hdbg
    generalize hall : (ExceptHandler.ExceptHandler (some (.Name x np)) (some n) (b₀ :: suite) pos' :: post) = tail at sk
    have go : ∀ {l tl : List ExceptHandler}, Skips X cls' l tl → tl = tail → wpAny (model X.prog X.w) X.A (handleBy (.ref a) X.env l) (SP X pins D) X.xe { s' with heap := h3 } := by
      intro l tl hk
      induction hk with
      | here =>
        intro et
        rw [et, ← hall]
        refine wpAny_handleBy_cons (codeAny_handlers_test (test hc ((PySem.W.exm_one (M := model X.prog X.w) J3.kIn LT yes).here ?_))) (by intro q; cases q)
        refine codeAny_handlers_suite_as (HandSPX.lands_againZ fl3 fun h4 fl4 up4 => ?_)
        have J4 : Inv X pins σ' H' { s' with heap := h4 } := J.landed nb fl4.1 ((up.trans up3).trans up4) os ag
        obtain ⟨oe4, vs4, he4, hz4, hd4⟩ := fl4.there
        refine store_ok (X := X.suite a ((a, oe4) :: (X.pn ++ pins))) (v := .ref a) (J4.suite he4 hd4 na nL nF) hN hi hloc rfl (fun s5 S5 => ?_) (.inr hln)
        refine wpAny_mono ((hsu a oe4 d (X.pn ++ pins) hz4 ⟨_, hd4⟩).run [] s5 _ H' _ S5 (wish J.len a na)) (fun f s6 hsp => ?_) (fun _ _ z => False.elim z)
        have end_ : ∀ {σ6 : L2.St} {H6 : Hp} {Q : Shared → Prop}, Inv (X.suite a ((a, oe4) :: (X.pn ++ pins))) [] σ6 H6 s6 → (∀ s7, Inv X pins (σ6.set i none) H6 s7 → Q s7) →
            wpAny (model X.prog X.w) X.A (do bindName X.env n .none; unbindBehindTheSuite X.env n pos') (fun _ s7 => Q s7) X.xe s6 := fun {σ6 H6 Q} S6 hq => gone_ok (S6.unsuite ok) hN hi hln hq
        cases f with
        | next =>
          obtain ⟨σ6, H6, S6, q6⟩ := hsp
          exact end_ S6 fun s7 J7 => ⟨_, _, J7, q6⟩
        | brk =>
          obtain ⟨σ6, H6, S6, q6⟩ := hsp
          exact end_ S6 fun s7 J7 => ⟨_, _, J7, q6⟩
        | cont =>
          obtain ⟨σ6, H6, S6, q6⟩ := hsp
          exact end_ S6 fun s7 J7 => ⟨_, _, J7, q6⟩
        | ret u =>
          obtain ⟨v6, σ6, H6, S6, r6, q6⟩ := hsp
          exact end_ S6 fun s7 J7 => ⟨_, _, _, J7, r6, q6⟩
      | @next y c nm b1 su p1 p2 l2 tl2 hn no r ih =>
        intro et
        refine wpAny_handleBy_cons (codeAny_handlers_test (test hn ((PySem.W.exm_one (M := model X.prog X.w) J3.kIn LT no).here ?_))) (by intro q; cases q)
        exact ih et
    exact go sk rfl
  · cases f with
    | next =>
      obtain ⟨σ', H', J', q⟩ := hsp
      exact wpAny_execs_nil ⟨σ', H', J'.ofTry ok, q⟩
    | brk =>
      obtain ⟨σ', H', J', q⟩ := hsp
      exact ⟨σ', H', J'.ofTry ok, q⟩
    | cont =>
      obtain ⟨σ', H', J', q⟩ := hsp
      exact ⟨σ', H', J'.ofTry ok, q⟩
    | ret u =>
      obtain ⟨v, σ', H', J', r, q⟩ := hsp
      exact ⟨v, σ', H', J'.ofTry ok, r, q⟩
end
end XL
end
section
set_option maxRecDepth 100000
set_option maxHeartbeats 0
/-! XT2: defs of the text, printed by gen.py. -/
namespace XL
open PySem PySem.Spec PyProof.Rows L2
variable {P : Program} {w : World} {K : PySem.W.Frag} {mg : Str → Option Value} {base : Heap}
def TT (C : Addr) : Tb := ⟨[], C, ["waiting", "corners", "places"]⟩
theorem TT_nd {C : Addr} : (TT C).nm.Nodup := by
  show (["waiting", "corners", "places"] : List Str).Nodup
  decide +kernel
theorem TT_len {C : Addr} : (TT C).nm.length < 1000 := by
  show (3 : Nat) < 1000
  decide
theorem TT_grow {C : Addr} : ("grow" : Str) ∉ (TT C).nm := by
  show ("grow" : Str) ∉ (["waiting", "corners", "places"] : List Str)
  decide +kernel
structure TreeAt (K : PySem.W.Frag) (mg : Str → Option Value) (C : Addr) : Prop where
  mgC : mg "Tree" = some (.ref C)
  cls : Cls K C
  nW : NoAttr K C "waiting"
  nC : NoAttr K C "corners"
  nP : NoAttr K C "places"
  mkr : ∃ f fd, Mk K C f ∧ FunD K "__init__" "Tree.__init__" (defArgs (inCls (top 41) 0)) (defBody (inCls (top 41) 0)) (defScope (inCls (top 41) 0)) [] [] f fd
  gr : ∃ f fd, Meth K C "grow" f ∧ FunD K "grow" "Tree.grow" (defArgs (inCls (top 41) 1)) (defBody (inCls (top 41) 1)) (defScope (inCls (top 41) 1)) [] [] f fd
theorem sc_init : FnScope ["self", "blacks", "whites"] ["self", "blacks", "whites"] (defScope (inCls (top 41) 0)) := ⟨rfl, rfl, rfl, by decide +kernel, rfl, by decide +kernel, by decide +kernel⟩
def x_init : XS := xSeq (xSFld 0 (xVar 0) (xLst (xaCons (xFn gSorted (xaCons (xVar 1) (xaNil))) (xaCons (xFn gSorted (xaCons (xVar 2) (xaNil))) (xaNil))))) (xSeq (xSFld 1 (xVar 0) (xLst (xaCons (xLst (xaNil)) (xaCons (xLst (xaNil)) (xaNil))))) (xSFld 2 (xVar 0) (xC (.int 0))))
def g_init : List D → Cs → Option (D × Cs) := runX 3 3 x_init
theorem ok_init {C f : Addr} {fd : FuncData} (B : Blt mg) (c : TreeAt K mg C) (F : FunD K "__init__" "Tree.__init__" (defArgs (inCls (top 41) 0)) (defBody (inCls (top 41) 0)) (defScope (inCls (top 41) 0)) [] [] f fd) : FnOk P w K mg base CX0 1 f fd ["self", "blacks", "whites"] (spO (TT C) g_init) :=
  ok_runX (xb := x_init) F sc_init rfl rfl fun cdv A outer s H E hr =>
    xss_cons (xs_fld 0 c.cls c.nW rfl TT_nd TT_len (xe_var 0) (xe_lst (xa_cons (c_sorted B rfl (xa_cons (xe_var 1) (xa_nil))) (xa_cons (c_sorted B rfl (xa_cons (xe_var 2) (xa_nil))) (xa_nil))))) (xss_cons (xs_fld 1 c.cls c.nC rfl TT_nd TT_len (xe_var 0) (xe_lst (xa_cons (xe_lst (xa_nil)) (xa_cons (xe_lst (xa_nil)) (xa_nil))))) (xss_one (xs_fld 2 c.cls c.nP rfl TT_nd TT_len (xe_var 0) (xe_int))))
theorem sc_grow : FnScope ["self", "colour", "place", "size", "old", "new"] ["self", "colour", "place"] (defScope (inCls (top 41) 1)) := ⟨rfl, rfl, rfl, by decide +kernel, rfl, by decide +kernel, by decide +kernel⟩
def x_grow : XS := xSeq (xAsg (xMt gPop (xOp gIx (xFld 0 (xVar 0)) (xVar 1)) xaNil) (xgName 3)) (xSeq (xAsg (xIf (xTB (xOp gIsN (xVar 2) (xC .non))) (xLst (xaNil)) (xLst (xaCons (xVar 2) (xaNil)))) (xgName 4)) (xSeq (xAsg (xRgL (xFld 2 (xVar 0)) (xOp gSub (xOp gAdd (xFld 2 (xVar 0)) (xVar 3)) (xFn gLen (xaCons (xVar 4) (xaNil))))) (xgName 5)) (xSeq (xSFld 2 (xVar 0) (xOp gAdd (xFld 2 (xVar 0)) (xFn gLen (xaCons (xVar 5) (xaNil))))) (xSeq (xDrop (xMt gAppend (xOp gIx (xFld 1 (xVar 0)) (xVar 1)) (xaCons (xFn gTuple (xaCons (xLst (xaStar (xVar 4) (xaStar (xVar 5) (xaNil)))) (xaNil))) (xaNil)))) (xRet (xVar 5))))))
def g_grow : List D → Cs → Option (D × Cs) := runX 3 6 x_grow
theorem ok_grow {C f : Addr} {fd : FuncData} (B : Blt mg) (c : TreeAt K mg C) (F : FunD K "grow" "Tree.grow" (defArgs (inCls (top 41) 1)) (defBody (inCls (top 41) 1)) (defScope (inCls (top 41) 1)) [] [] f fd) : FnOk P w K mg base CX0 1 f fd ["self", "colour", "place"] (spO (TT C) g_grow) :=
  ok_runX (xb := x_grow) F sc_grow rfl rfl fun cdv A outer s H E hr =>
    xss_cons (xs_set 3 sc_grow.nd rfl (by first | exact .inl rfl | exact .inr rfl) (xe_pop (e_ix (xe_fld 0 c.cls c.nW rfl TT_nd (xe_var 0)) (xe_var 1)))) (xss_cons (xs_set 4 sc_grow.nd rfl (by first | exact .inl rfl | exact .inr rfl) (xe_if (t_isN (xe_var 2) (xe_non)) (xe_lst (xa_nil)) (xe_lst (xa_cons (xe_var 2) (xa_nil))))) (xss_cons (xs_set 5 sc_grow.nd rfl (by first | exact .inl rfl | exact .inr rfl) (xe_rgL2 rfl rfl B.list_ rfl B.range_ (xe_fld 2 c.cls c.nP rfl TT_nd (xe_var 0)) (e_sub (e_add (xe_fld 2 c.cls c.nP rfl TT_nd (xe_var 0)) (xe_var 3)) (c_len B rfl (xa_cons (xe_var 4) (xa_nil)))))) (xss_cons (xs_fld 2 c.cls c.nP rfl TT_nd TT_len (xe_var 0) (e_add (xe_fld 2 c.cls c.nP rfl TT_nd (xe_var 0)) (c_len B rfl (xa_cons (xe_var 5) (xa_nil))))) (xss_cons (xs_expr (xe_append (e_ix (xe_fld 1 c.cls c.nC rfl TT_nd (xe_var 0)) (xe_var 1)) (xa_cons (c_tuple B rfl (xa_cons (xe_lst (xa_star (xe_var 4) (xa_star (xe_var 5) (xa_nil)))) (xa_nil))) (xa_nil)))) (xss_one (xs_ret (xe_var 5)))))))
theorem sc_grown : FnScope ["blacks", "whites", "tree", "left", "place", "colour", "fresh"] ["blacks", "whites"] (defScope (top 42)) := ⟨rfl, rfl, rfl, by decide +kernel, rfl, by decide +kernel, by decide +kernel⟩
def x_grown : XS := xSeq (xAsg (xMake g_init (xaCons (xVar 0) (xaCons (xVar 1) (xaNil)))) (xgName 2)) (xSeq (xAsg (xLc 130 (xiSeq (xMeth g_grow (xVar 2) (xaCons (xC (.int 0)) (xaCons (xC .non) (xaNil))))) (xgName 4) (xYes) (xTup (xaCons (xC (.int 1)) (xaCons (xVar 4) (xaNil)))) [4]) (xgName 3)) (xSeq (xWhile (xTB (xOp gNe (xVar 3) (xLst (xaNil)))) (xSeq (xAsg (xOp gIx (xVar 3) (xC (.int 0))) (xgTup2 5 4)) (xAsg (xLst (xaStar (xSl (xVar 3) (xoSome (xC (.int 1))) (xoNone)) (xaStar (xLc 130 (xiSeq (xMeth g_grow (xVar 2) (xaCons (xVar 5) (xaCons (xVar 4) (xaNil))))) (xgName 6) (xYes) (xTup (xaCons (xOp gSub (xC (.int 1)) (xVar 5)) (xaCons (xVar 6) (xaNil)))) [6]) (xaNil)))) (xgName 3))) 60) (xRet (xFld 1 (xVar 2)))))
def f_grown : List D → Option D := fnX 2 7 x_grown
theorem k_grown {C : Addr} (B : Blt mg) (c : TreeAt K mg C) (d : DefAt K mg "grown" (top 42)) : FA P w K mg base 3 "grown" ["blacks", "whites"] (spC f_grown) := by
  obtain ⟨fi, fdi, Mi, Fi⟩ := c.mkr
  obtain ⟨fg, fdg, Mg, Fg⟩ := c.gr
  have Oi : FnOk P w K mg base CX0 1 fi fdi ["self", "blacks", "whites"] (spO (TT C) g_init) := ok_init B c Fi
  have Og : FnOk P w K mg base CX0 1 fg fdg ["self", "colour", "place"] (spO (TT C) g_grow) := ok_grow B c Fg
  have bi : Binds K fdi ["self", "blacks", "whites"] [] := Fi.bindsN fun _ _ _ _ _ _ us hl => match us, hl with | [_, _, _], _ => rfl
  have bg : Binds K fdg ["self", "colour", "place"] [] := Fg.bindsN fun _ _ _ _ _ _ us hl => match us, hl with | [_, _, _], _ => rfl
  exact fa_ofT (T := TT C) rfl (xb := x_grown) d sc_grown rfl rfl (fun _ _ _ _ _ _ us hl => match us, hl with | [_, _], _ => rfl) fun f cdv A outer s H E hr =>
    xss_cons (xs_set 2 sc_grown.nd rfl (by first | exact .inl rfl | exact .inr rfl) (xe_make Mi Oi hr (by decide) rfl c.mgC bi (xa_cons (xe_var 0) (xa_cons (xe_var 1) (xa_nil))))) (xss_cons (xs_setLc (own := [("place", 4)]) 3 130 rfl sc_grown.nd rfl rfl (by rfl) (xi_seq (xe_meth c.cls Mg Og hr (by decide) bg TT_grow (xe_var 2) (xa_cons (xe_int) (xa_cons (xe_non) (xa_nil))))) (blkOk_by (by rfl)) (fun _ _ _ _ _ => xg_name 4 sc_grown.nd rfl (by first | exact .inl rfl | exact .inr rfl) (by decide)) (fun _ _ _ _ _ => xts_nil) (fun _ _ _ _ _ => xe_tup (xa_cons (xe_int) (xa_cons (xe_var 4) (xa_nil))))) (xss_cons (xs_while 60 PassesOwn.never (t_ne hr (xe_var 3) (xe_lst (xa_nil))) (xss_cons (xs_asg (vs := [5, 4]) (e_ix (xe_var 3) (xe_int)) (xg_tup2 5 4 rfl sc_grown.nd rfl rfl (by first | exact .inl rfl | exact .inr rfl) (by first | exact .inl rfl | exact .inr rfl) (by decide) (by decide))) (xss_one (xs_set 3 sc_grown.nd rfl (by first | exact .inl rfl | exact .inr rfl) (xe_lst (xa_star (xe_sl (xe_var 3) (xo_some (xe_int)) (xo_none)) (xa_star (xe_lc (own := [("fresh", 6)]) 130 rfl sc_grown.nd (xi_seq (xe_meth c.cls Mg Og hr (by decide) bg TT_grow (xe_var 2) (xa_cons (xe_var 5) (xa_cons (xe_var 4) (xa_nil))))) (blkOk_by (by rfl)) (fun _ _ _ _ _ => xg_name 6 sc_grown.nd rfl (by first | exact .inl rfl | exact .inr rfl) (by decide)) (fun _ _ _ _ _ => xts_nil) (fun _ _ _ _ _ => xe_tup (xa_cons (e_sub (xe_int) (xe_var 5)) (xa_cons (xe_var 6) (xa_nil))))) (xa_nil)))))))) (xss_one (xs_ret (xe_fld 1 c.cls c.nC rfl TT_nd (xe_var 2))))))
end XL
end
section
set_option maxRecDepth 100000
set_option maxHeartbeats 0
/-! XN3: defs of the text, printed by gen.py. -/
namespace XL
open PySem PySem.Spec PyProof.Rows L2
variable {P : Program} {w : World} {K : PySem.W.Frag} {mg : Str → Option Value} {base : Heap}
/-! ### made -/
theorem sc_made : FnScope ["one", "other", "sizes", "corners", "many", "blacks", "more", "whites", "first", "last", "groups", "group", "size"] ["one", "other"] (defScope (top 47)) := ⟨rfl, rfl, rfl, by decide +kernel, rfl, by decide +kernel, by decide +kernel⟩
def x_made : XS := xSeq (xAsg (xCall f_split (xaCons (xVar 0) (xaCons (xCall f_excess (xaCons (xVar 0) (xaCons (xVar 1) (xaNil)))) (xaNil)))) (xgTup2 5 6)) (xSeq (xAsg (xCall f_split (xaCons (xVar 1) (xaCons (xVar 6) (xaNil)))) (xgTup2 7 6)) (xSeq (xAsg (xLc 130 (xiSeq (xTup (xaCons (xVar 5) (xaCons (xVar 7) (xaNil))))) (xgName 10) (xYes) (xLc2 130 130 (xiSeq (xVar 10)) (xgName 11) (xYes) (xiSeq (xVar 11)) (xgName 12) (xYes) (xVar 12) [11, 12] [12]) [10]) (xgName 2)) (xSeq (xAsg (xCall f_grown (xaCons (xOp gIx (xVar 2) (xC (.int 0))) (xaCons (xOp gIx (xVar 2) (xC (.int 1))) (xaNil)))) (xgName 3)) (xSeq (xAsg (xFn gSum (xaCons (xVar 0) (xaNil))) (xgName 4)) (xSeq (xPar 8 9 (xaCons (xCall f_from_rings (xaCons (xOp gIx (xVar 3) (xC (.int 0))) (xaCons (xVar 4) (xaNil)))) (xaCons (xCall f_from_rings (xaCons (xOp gIx (xVar 3) (xC (.int 1))) (xaCons (xVar 4) (xaNil)))) (xaNil)))) (xSeq (xAsg (xCall f_all_glued (xaCons (xVar 8) (xaCons (xVar 9) (xaCons (xCall f_pieces_at (xaCons (xOp gIx (xVar 3) (xC (.int 0))) (xaCons (xVar 5) (xaNil)))) (xaCons (xC (.bl true)) (xaNil)))))) (xgTup2 8 9)) (xRet (xCall f_all_glued (xaCons (xVar 8) (xaCons (xVar 9) (xaCons (xCall f_pieces_at (xaCons (xOp gIx (xVar 3) (xC (.int 1))) (xaCons (xVar 7) (xaNil)))) (xaCons (xC (.bl false)) (xaNil)))))))))))))
def f_made : List D → Option D := fnX 2 13 x_made
theorem k_made (B : Blt mg) (d : DefAt K mg "made" (top 47)) (c_all_glued : FA P w K mg base 4 "all_glued" ["first", "last", "lots", "is_first"] (spC f_all_glued)) (c_pieces_at : FA P w K mg base 1 "pieces_at" ["corners", "groups"] (spC f_pieces_at)) (c_from_rings : FA P w K mg base 1 "from_rings" ["rings", "many"] (spC f_from_rings)) (c_grown : FA P w K mg base 3 "grown" ["blacks", "whites"] (spC f_grown)) (c_split : FA P w K mg base 1 "split" ["kind", "more"] (spC f_split)) (c_excess : FA P w K mg base 1 "excess" ["one", "other"] (spC f_excess)) : FA P w K mg base 5 "made" ["one", "other"] (spC f_made) :=
  fa_of (xb := x_made) d sc_made rfl rfl (fun _ _ _ _ _ _ us hl => match us, hl with | [_, _], _ => rfl) fun f cdv A outer s H E hr =>
    xss_cons (xs_asg (vs := [5, 6]) (xe_c c_split hr (by decide) rfl (xa_cons (xe_var 0) (xa_cons (xe_c c_excess hr (by decide) rfl (xa_cons (xe_var 0) (xa_cons (xe_var 1) (xa_nil)))) (xa_nil)))) (xg_tup2 5 6 rfl sc_made.nd rfl rfl (by first | exact .inl rfl | exact .inr rfl) (by first | exact .inl rfl | exact .inr rfl) (by decide) (by decide))) (xss_cons (xs_asg (vs := [7, 6]) (xe_c c_split hr (by decide) rfl (xa_cons (xe_var 1) (xa_cons (xe_var 6) (xa_nil)))) (xg_tup2 7 6 rfl sc_made.nd rfl rfl (by first | exact .inl rfl | exact .inr rfl) (by first | exact .inl rfl | exact .inr rfl) (by decide) (by decide))) (xss_cons (xs_setLc (own := [("groups", 10)]) 2 130 rfl sc_made.nd rfl rfl (by rfl) (xi_seq (xe_tup (xa_cons (xe_var 5) (xa_cons (xe_var 7) (xa_nil))))) (blkOk_by (by rfl)) (fun _ _ _ _ _ => xg_name 10 sc_made.nd rfl (by first | exact .inl rfl | exact .inr rfl) (by decide)) (fun _ _ _ _ _ => xts_nil) (fun _ _ _ _ _ => xe_lc2 (own := [("group", 11), ("size", 12)]) (vs1 := [12]) 130 130 rfl sc_made.nd (xi_seq (xe_var 10)) (blkOk_by (by rfl)) (by decide) (fun _ _ _ _ _ => xg_name 11 sc_made.nd rfl (by first | exact .inl rfl | exact .inr rfl) (by decide)) (fun _ _ _ _ _ => xts_nil) (fun _ _ _ _ _ => xi_seq (xe_var 11)) (fun _ _ _ _ _ => xg_name 12 sc_made.nd rfl (by first | exact .inl rfl | exact .inr rfl) (by decide)) (fun _ _ _ _ _ => xts_nil) (fun _ _ _ _ _ => xe_var 12))) (xss_cons (xs_set 3 sc_made.nd rfl (by first | exact .inl rfl | exact .inr rfl) (xe_c c_grown hr (by decide) rfl (xa_cons (e_ix (xe_var 2) (xe_int)) (xa_cons (e_ix (xe_var 2) (xe_int)) (xa_nil))))) (xss_cons (xs_set 4 sc_made.nd rfl (by first | exact .inl rfl | exact .inr rfl) (c_sum rfl B rfl (xa_cons (xe_var 0) (xa_nil)))) (xss_cons (xs_par 8 9 rfl sc_made.nd rfl rfl (by decide) rfl rfl (xa_cons (xe_c c_from_rings hr (by decide) rfl (xa_cons (e_ix (xe_var 3) (xe_int)) (xa_cons (xe_var 4) (xa_nil)))) (xa_cons (xe_c c_from_rings hr (by decide) rfl (xa_cons (e_ix (xe_var 3) (xe_int)) (xa_cons (xe_var 4) (xa_nil)))) (xa_nil))) (by rfl)) (xss_cons (xs_asg (vs := [8, 9]) (xe_c c_all_glued hr (by decide) rfl (xa_cons (xe_var 8) (xa_cons (xe_var 9) (xa_cons (xe_c c_pieces_at hr (by decide) rfl (xa_cons (e_ix (xe_var 3) (xe_int)) (xa_cons (xe_var 5) (xa_nil)))) (xa_cons (xe_bl) (xa_nil)))))) (xg_tup2 8 9 rfl sc_made.nd rfl rfl (by first | exact .inl rfl | exact .inr rfl) (by first | exact .inl rfl | exact .inr rfl) (by decide) (by decide))) (xss_one (xs_ret (xe_c c_all_glued hr (by decide) rfl (xa_cons (xe_var 8) (xa_cons (xe_var 9) (xa_cons (xe_c c_pieces_at hr (by decide) rfl (xa_cons (e_ix (xe_var 3) (xe_int)) (xa_cons (xe_var 7) (xa_nil)))) (xa_cons (xe_bl) (xa_nil))))))))))))))
/-! ### completed -/
theorem sc_completed : FnScope ["turn", "kind", "names", "first", "last", "ring", "place"] ["turn", "kind"] (defScope (top 49)) := ⟨rfl, rfl, rfl, by decide +kernel, rfl, by decide +kernel, by decide +kernel⟩
def x_completed : XS := xSeq (xAsg (xCall f_made (xaCons (xCall f_kind_for (xaCons (xVar 0) (xaNil))) (xaCons (xVar 1) (xaNil)))) (xgTup2 3 4)) (xSeq (xAsg (xFn gDictZip (xaCons (xCall f_in_lengths (xaCons (xVar 3) (xaNil))) (xaCons (xCall f_in_lengths (xaCons (xVar 0) (xaNil))) (xaNil)))) (xgName 2)) (xRet (xCall f_from_rings (xaCons (xLc 130 (xiSeq (xCall f_rings_of (xaCons (xVar 4) (xaNil)))) (xgName 5) (xYes) (xFn gTuple (xaCons (xLc 130 (xiSeq (xVar 5)) (xgName 6) (xYes) (xOp gDGet (xVar 2) (xVar 6)) [6]) (xaNil))) [5]) (xaCons (xFn gLen (xaCons (xVar 0) (xaNil))) (xaNil))))))
def f_completed : List D → Option D := fnX 2 7 x_completed
theorem k_completed (B : Blt mg) (d : DefAt K mg "completed" (top 49)) (c_from_rings : FA P w K mg base 1 "from_rings" ["rings", "many"] (spC f_from_rings)) (c_rings_of : FA P w K mg base 1 "rings_of" ["turn"] (spC f_rings_of)) (c_in_lengths : FA P w K mg base 2 "in_lengths" ["turn"] (spC f_in_lengths)) (c_made : FA P w K mg base 5 "made" ["one", "other"] (spC f_made)) (c_kind_for : FA P w K mg base 2 "kind_for" ["turn"] (spC f_kind_for)) : FA P w K mg base 6 "completed" ["turn", "kind"] (spC f_completed) :=
  fa_of (xb := x_completed) d sc_completed rfl rfl (fun _ _ _ _ _ _ us hl => match us, hl with | [_, _], _ => rfl) fun f cdv A outer s H E hr =>
    xss_cons (xs_asg (vs := [3, 4]) (xe_c c_made hr (by decide) rfl (xa_cons (xe_c c_kind_for hr (by decide) rfl (xa_cons (xe_var 0) (xa_nil))) (xa_cons (xe_var 1) (xa_nil)))) (xg_tup2 3 4 rfl sc_completed.nd rfl rfl (by first | exact .inl rfl | exact .inr rfl) (by first | exact .inl rfl | exact .inr rfl) (by decide) (by decide))) (xss_cons (xs_set 2 sc_completed.nd rfl (by first | exact .inl rfl | exact .inr rfl) (xe_dictZip rfl rfl B.dict_ rfl B.zip_ (xa_cons (xe_c c_in_lengths hr (by decide) rfl (xa_cons (xe_var 3) (xa_nil))) (xa_cons (xe_c c_in_lengths hr (by decide) rfl (xa_cons (xe_var 0) (xa_nil))) (xa_nil))))) (xss_one (xs_ret (xe_c c_from_rings hr (by decide) rfl (xa_cons (xe_lc (own := [("ring", 5)]) 130 rfl sc_completed.nd (xi_seq (xe_c c_rings_of hr (by decide) rfl (xa_cons (xe_var 4) (xa_nil)))) (blkOk_by (by rfl)) (fun _ _ _ _ _ => xg_name 5 sc_completed.nd rfl (by first | exact .inl rfl | exact .inr rfl) (by decide)) (fun _ _ _ _ _ => xts_nil) (fun _ _ _ _ _ => c_tuple B rfl (xa_cons (xe_lc (own := [("place", 6)]) 130 rfl sc_completed.nd (xi_seq (xe_var 5)) (blkOk_by (by rfl)) (fun _ _ _ _ _ => xg_name 6 sc_completed.nd rfl (by first | exact .inl rfl | exact .inr rfl) (by decide)) (fun _ _ _ _ _ => xts_nil) (fun _ _ _ _ _ => e_dget hr (xe_var 2) (xe_var 6))) (xa_nil)))) (xa_cons (c_len B rfl (xa_cons (xe_var 0) (xa_nil))) (xa_nil)))))))
end XL
end
section
set_option maxRecDepth 100000
set_option maxHeartbeats 4000000
/-! XX3: defs that may raise Barred. -/
namespace XL
open PySem PySem.Spec PyProof.Rows L2
variable {T : Tb}

inductive OutX where
  | ok (o : Out) | rs (d : D) (cs : Cs)
abbrev XR := Sl → Cs → Option OutX
def EndX (T : Tb) (C : Addr) (E : XK) (W : Wd) (DD : Ends) : OutX → Prop
  | .ok o => EndK T W DD o
  | .rs d cs => ∀ W' H' dx y, Le W W' → Rel T W' cs H' → H' dx = some (.xd [("by", y)]) → RepW W' y d → E (.ref C) (some dx) H'
theorem EndX.le {C : Addr} {E : XK} {W W' : Wd} {DD : Ends} {o : OutX} (h : EndX T C E W DD o) (l : Le W W') : EndX T C E W' DD o := by
  cases o with
  | ok o => exact EndK.le h l
  | rs d cs => exact fun W2 H' dx y l2 r e p => h W2 H' dx y (l.trans l2) r e p
def tSX (T : Tb) (C : Addr) (E : XK) (x : XR) : TS := fun DD σ H => ∃ W sl cs o, RelS W sl σ ∧ Rel T W cs H ∧ x sl cs = some o ∧ EndX T C E W DD o
def xUp (a : XS) : XR := fun sl cs => match a sl cs with
  | some o => some (.ok o)
  | none => none
def xSeqX (a b : XR) : XR := fun sl cs => match a sl cs with
  | some (.ok (.nx s c)) => b s c
  | o => o
def xIfX (t : XT) (a b : XR) : XR := fun sl cs => bnd (t sl cs) fun x c => match x with
  | true => a sl c
  | false => b sl c
def xRaise (a : XE) : XR := fun sl cs => bnd (a sl cs) fun d c => some (.rs d c)
/-- a call that may raise, as a statement -/
inductive Rs where
  | ret (d : D) | by_ (d : D)
def xCallX (f : List D → Option Rs) (a : XA) : XR := fun sl cs => bnd (a sl cs) fun ds c => bnd (pureL ds c) fun es c2 => match f es with
  | some (.ret _) => some (.ok (.nx sl c2))
  | some (.by_ d) => some (.rs d c2)
  | none => none
/-- the promise of a def that may raise Barred (at C) -/
def spR (C : Addr) (f : List D → Option Rs) : Sp := fun vs H Q E => ∃ (I : Hp) (ds : List D) (r : Rs), Same I H ∧ (∀ a ps, I a ≠ some (.tbl ps)) ∧ RepL I [] vs ds ∧ f ds = some r ∧
  match r with
  | .ret r => ∀ (I' H' : Hp) (v : V), Same H H' → Same I I' → Same I' H' → (∀ a o, I' a = some o → I a = some o ∨ H a = none) → (∀ a ps, I' a ≠ some (.tbl ps)) → Rep I' [] v r → Q v H'
  | .by_ r => ∀ (I' H' : Hp) (dx : Addr) (y : V), Same H H' → Same I I' → Same I' H' → (∀ a o, I' a = some o → I a = some o ∨ H a = none) → (∀ a ps, I' a ≠ some (.tbl ps)) → H' dx = some (.xd [("by", y)]) → Rep I' [] y r → E (.ref C) (some dx) H'
def fnR (n slots : Nat) (body : XR) : List D → Option Rs := fun ds => match Nat.beq ds.length n with
  | true => (match body (ds.map some ++ List.replicate (slots - n) none) [] with
    | some (.ok (.rt d c)) => (match pureD fuelP d c with
      | some (r, _) => some (.ret r)
      | none => none)
    | some (.ok (.nx _ _)) => some (.ret .non)
    | some (.rs d c) => (match pureD fuelP d c with
      | some (r, _) => some (.by_ r)
      | none => none)
    | _ => none)
  | false => none
theorem fnR_len {n slots : Nat} {body : XR} {ds : List D} {r : Rs} (h : fnR n slots body ds = some r) : ds.length = n := by
  unfold fnR at h
  cases q : Nat.beq ds.length n with
  | false => rw [q] at h; cases h
  | true => exact Nat.eq_of_beq_eq_true q
theorem spR_body {C : Addr} {n slots : Nat} {body : XR} {N : List Str} {vs : List V} {H : Hp} {Q : VK} {E : XK} (hN : N.length = slots) (h : spR C (fnR n slots body) vs H Q E) : tSX T0 C E body { nx := fun _ H' => Q .non H', rt := Q } (L2.start N vs) H := by
  obtain ⟨I, ds, r, sI, nI, rv, e, k⟩ := h
  have el := fnR_len e
  unfold fnR at e
  have hb : Nat.beq ds.length n = true := by rw [el]; exact Nat.beq_refl n
  rw [hb] at e
  dsimp only at e
  have R0 : Rel T0 ⟨H, I, I, [], T0.C, T0.nm⟩ [] H := ⟨Same.refl H, sI, fun a o h => .inl h, rfl, List.nodup_nil, fun k a c h => by simp at h, nI, fun p hp => absurd hp (by show p ∉ ([] : List (Addr × Str)); simp), fun h => absurd rfl h, rfl, rfl⟩
  have S0 : RelS ⟨H, I, I, [], T0.C, T0.nm⟩ (ds.map some ++ List.replicate (slots - n) none) (L2.start N vs) := startRel hN el rv
  have key : ∀ {W' : Wd} {cs : Cs} {H' : Hp}, Le ⟨H, I, I, [], T0.C, T0.nm⟩ W' → Rel T0 W' cs H' → Same H H' ∧ (∀ a o, W'.I a = some o → I a = some o ∨ H a = none) := fun {W' cs H'} l rl => by
    refine ⟨?_, fun a o h => ?_⟩
    · have := rl.keep
      rw [l.h0] at this
      exact this
    · have := rl.new a o h
      rw [l.b, l.h0] at this
      exact this
  cases q : body (ds.map some ++ List.replicate (slots - n) none) [] with
  | none => rw [q] at e; cases e
  | some o =>
    rw [q] at e
    refine ⟨_, _, _, o, S0, R0, q, ?_⟩
    cases o with
    | ok o =>
      cases o with
      | nx sl cs =>
        cases e
        intro W' σ H' l rs rl
        obtain ⟨k1, k2⟩ := key l rl
        exact k W'.I H' .non k1 l.i rl.imm k2 rl.nt .non
      | rt d cs =>
        intro W' v H' l rl rp
        dsimp only at e
        cases q2 : pureD fuelP d cs with
        | none => rw [q2] at e; cases e
        | some p =>
          obtain ⟨r2, c2⟩ := p
          rw [q2] at e
          cases e
          obtain ⟨W2, l2, a2, R2, p2, _⟩ := pureD_ok fuelP T0 W' cs H' v d _ c2 rl rp q2
          obtain ⟨k1, k2⟩ := key (l.trans l2) R2
          exact k W2.I H' v k1 (l.trans l2).i R2.imm k2 R2.nt p2
      | bk sl cs => cases e
      | ct sl cs => cases e
    | rs d cs =>
      intro W' H' dx y l rl hx rp
      dsimp only at e
      cases q2 : pureD fuelP d cs with
      | none => rw [q2] at e; cases e
      | some p =>
        obtain ⟨r2, c2⟩ := p
        rw [q2] at e
        cases e
        obtain ⟨W2, l2, a2, R2, p2, _⟩ := pureD_ok fuelP T0 W' cs H' y d _ c2 rl rp q2
        obtain ⟨k1, k2⟩ := key (l.trans l2) R2
        exact k W2.I H' dx y k1 (l.trans l2).i R2.imm k2 R2.nt hx p2
/-- a def that may raise, under its name -/
structure FR (P : Program) (w : World) (K : PySem.W.Frag) (mg : Str → Option Value) (base : Heap) (k : Nat) (x : Str) (ps : List Str) (sp : Sp) : Prop where
  ex : ∃ f fd, FnOk P w K mg base (L2.CX P w) k f fd ps sp ∧ mg x = some (.ref f) ∧ PySem.W.keepIn K (.ref f) = true ∧ Binds K fd ps [] ∧ ∃ oc od osl, K.lookup f = some ⟨oc, od, .func fd, osl⟩
section
end
section
variable {X : Cx} {C : Addr} {E : XK} {st : Stmt} {rest sts : List Stmt} {xa xb : XR} {xs : XS}
theorem xr_up (h : PS X st (tS T xs)) : PS X st (tSX T C E (xUp xs)) := h.weak fun DD σ H h => by
  obtain ⟨W, sl, cs, o, hs, hr, e, k⟩ := h
  unfold xUp at e
  cases q : xs sl cs with
  | none => rw [q] at e; cases e
  | some o2 =>
    rw [q] at e
    cases e
    exact ⟨W, sl, cs, o2, hs, hr, q, k⟩
theorem xr_up0 (h : PSs X sts (tS T xs)) : PSs X sts (tSX T C E (xUp xs)) := h.weak fun DD σ H h => by
  obtain ⟨W, sl, cs, o, hs, hr, e, k⟩ := h
  unfold xUp at e
  cases q : xs sl cs with
  | none => rw [q] at e; cases e
  | some o2 =>
    rw [q] at e
    cases e
    exact ⟨W, sl, cs, o2, hs, hr, q, k⟩
theorem xrs_one (h1 : PS X st (tSX T C E xa)) : PSs X [st] (tSX T C E xa) := pss_one h1
theorem xrs_cons (h1 : PS X st (tSX T C E xa)) (h2 : PSs X rest (tSX T C E xb)) : PSs X (st :: rest) (tSX T C E (xSeqX xa xb)) := (pss_cons h1 h2).weak fun DD σ H h => by
  obtain ⟨W, sl, cs, o, hs, hr, e, k⟩ := h
  unfold xSeqX at e
  cases q : xa sl cs with
  | none => rw [q] at e; cases e
  | some o1 =>
    rw [q] at e
    refine ⟨W, sl, cs, o1, hs, hr, q, ?_⟩
    cases o1 with
    | rs d c =>
      cases e
      exact k
    | ok o1 =>
      cases o1 with
      | nx s c => exact fun W' σ' H' l rs rl => ⟨W', s, c, o, rs, rl, e, k.le l⟩
      | rt d c => cases e; exact k
      | bk s c => cases e; exact k
      | ct s c => cases e; exact k
theorem xr_if {c : Expr} {a b : List Stmt} {xt : XT} {pos : Pos} (hc : PT X c (tT T xt)) (ha : PSs X a (tSX T C E xa)) (hb : PSs X b (tSX T C E xb)) : PS X (.If c a b pos) (tSX T C E (xIfX xt xa xb)) := (ps_if hc ha hb).weak fun DD σ H h => by
  obtain ⟨W, sl, cs, o, hs, hr, e, k⟩ := h
  obtain ⟨d, c1, ea, e⟩ := bnd_some e
  refine ⟨W, sl, cs, d, c1, hs, hr, ea, fun W1 H1 l1 r1 => ?_⟩
  cases d with
  | true => exact ⟨W1, sl, c1, o, hs.le l1, r1, e, k.le l1⟩
  | false => exact ⟨W1, sl, c1, o, hs.le l1, r1, e, k.le l1⟩
end
/-! ### Barred -/
structure BarAt (K : PySem.W.Frag) (mg : Str → Option Value) (C : Addr) : Prop where
  mgC : mg "Barred" = some (.ref C)
  aex : AexC K C
  no : PySem.W.findIn K (.ref C) "by" = some none
  xf : XfC K C
  ini : ∃ f fd, PySem.W.findIn K (.ref C) "__init__" = some (some (.ref f)) ∧ PySem.W.typeIn K (.ref f) = some (.type "function") ∧
    FunD K "__init__" "Barred.__init__" (defArgs (inCls (top 7) 0)) (defBody (inCls (top 7) 0)) (defScope (inCls (top 7) 0)) [] [] f fd
  me : PySem.W.exmOne K (.ref C) (.ref C) = some true
  turn : ∃ c, mg "InvalidTurn" = some (.ref c) ∧ PySem.W.exmOne K (.ref C) (.ref c) = some false
  kind : ∃ c, mg "InvalidKind" = some (.ref c) ∧ PySem.W.exmOne K (.ref C) (.ref c) = some false
  number : ∃ c, mg "InvalidNumber" = some (.ref c) ∧ PySem.W.exmOne K (.ref C) (.ref c) = some false
  size : ∃ c, mg "OtherSize" = some (.ref c) ∧ PySem.W.exmOne K (.ref C) (.ref c) = some false
def spBy (C : Addr) : Sp := fun vs H Q _ => ∃ a y, vs = [.ref a, y] ∧ H a = some (exo a C none) ∧ ∀ dx, H dx = none → dx ≠ a → Q .non (upd (upd H dx (exd dx [("by", y)])) a (exo a C (some dx)))
theorem sc_by : FnScope ["self", "by"] ["self", "by"] (defScope (inCls (top 7) 0)) := ⟨rfl, rfl, rfl, by decide +kernel, rfl, by decide +kernel, by decide +kernel⟩
theorem ok_by {P : Program} {w : World} {K : PySem.W.Frag} {mg : Str → Option Value} {base : Heap} {C f : Addr} {fd : FuncData} (c : BarAt K mg C) (F : FunD K "__init__" "Barred.__init__" (defArgs (inCls (top 7) 0)) (defBody (inCls (top 7) 0)) (defScope (inCls (top 7) 0)) [] [] f fd) :
    FnOk P w K mg base CX0 1 f fd ["self", "by"] (spBy C) := by
  refine F.ok sc_by (fun vs H Q E h => ?_) (fun cdv A outer s H vs Q E hr h => ⟨tAst K "by" (tVar 0) (tVar 1), PSs.nox (pss_one (ps_ast (pe_var (i := 0) rfl (.inl rfl)) (pe_var (i := 1) rfl (.inl rfl)))), ?_⟩)
  · obtain ⟨a, y, rfl, _⟩ := h
    rfl
  · obtain ⟨a, y, rfl, ha, k⟩ := h
    exact ⟨y, rfl, .ref a, rfl, a, C, rfl, c.aex, c.no, ha, k⟩
section
variable {X : Cx} {C : Addr} {E : XK} {e : Expr} {es : List Expr} {xe : XE} {xa : XA} {p pos pos' : Pos} {x : Str} {ps : List Str} {k j : Nat} {f : List D → Option Rs}
theorem weak_raise {σ : L2.St} {H : Hp} {DD : Ends} (h : tSX T C E (xRaise xe) DD σ H) : tMkO C (spBy C) [] (tA T (xaCons xe xaNil)) σ H fun cls d H' => E cls d H' := by
  obtain ⟨W, sl, cs, o, hs, hr, e, k⟩ := h
  obtain ⟨d, c1, ea, e⟩ := bnd_some e
  cases e
  have e2 : xaCons xe xaNil sl cs = some ([d], c1) := by
    unfold xaCons
    rw [ea]
    rfl
  refine ⟨W, sl, cs, [d], c1, hs, hr, e2, fun W1 vs H1 l1 r1 p1 => ?_⟩
  obtain ⟨y, rfl, ry⟩ := repL1 p1
  refine ⟨by show (1 : Nat) ≤ 1000; decide, fun a ha => ⟨a, y, rfl, upd_same, fun dx hdx hne => ?_⟩⟩
  have hd1 : H1 dx = none := by
    rw [upd_ne hne] at hdx
    exact hdx
  have ee : upd (del (upd (upd (upd H1 a (exo a C none)) dx (exd dx [("by", y)])) a (exo a C (some dx))) a) dx (.xd [("by", y)]) = upd H1 dx (.xd [("by", y)]) := by
    funext b
    by_cases hb : b = dx
    · rw [hb, upd_same, upd_same]
    · rw [upd_ne hb, upd_ne hb]
      by_cases hba : b = a
      · rw [hba, del_same, ha]
      · rw [del_ne hba, upd_ne hba, upd_ne hb, upd_ne hba]
  refine ⟨rfl, dx, [("by", y)], upd_same, by rw [upd_ne hne, upd_same], hd1, ?_⟩
  rw [ee]
  exact k W1 _ dx y l1 (r1.fresh hd1) upd_same ry
theorem xr_raise (c : BarAt X.K X.mg C) (hc : X.calm = true) (tk : Takes X (fun cls d _ H => E cls d H)) (hr : Room j X.A) (hj : 2 ≤ j) (hg : Gl X "Barred") (he : PE X e (tE T xe)) (hs : starEach [e] X.env = (false, eval e X.env) :: starEach [] X.env := by rfl) :
    PS X (.Raise (some (.Call (.Name "Barred" p) [e] [] pos)) none pos') (tSX T C E (xRaise xe)) := by
  obtain ⟨fi, fdi, iC, tyI, Fi⟩ := c.ini
  have bi : Binds X.K fdi ["self", "by"] [] := Fi.bindsN fun _ _ _ _ _ _ us hl => match us, hl with | [_, _], _ => rfl
  exact (ps_raise hc tk (pmk_aex c.aex iC tyI (ok_by c Fi) (hr.mono hj) bi (pass0 (X := X)) hg c.mgC (xa_cons he xa_nil hs) (by decide) hs rfl)).weak fun DD σ H h => weak_raise h
theorem weak_callX {σ : L2.St} {H : Hp} {DD : Ends} (h : tSX T C E (xCallX f xa) DD σ H) : tDrop (tCall (spR C f) [] E (tA T xa)) DD σ H := by
  obtain ⟨W, sl, cs, o, hs, hr, e, k⟩ := h
  obtain ⟨ds, c1, ea, e⟩ := bnd_some e
  obtain ⟨es, c2, ep, e⟩ := bnd_some e
  refine ⟨W, sl, cs, ds, c1, hs, hr, ea, fun W1 vs H1 l1 r1 p1 => ?_⟩
  obtain ⟨W2, l2, a2, R2, p2, _⟩ := mapC_ok (pureD_ok fuelP) ds T W1 c1 H1 vs es c2 r1 p1 ep
  cases q : f es with
  | none => rw [q] at e; cases e
  | some r =>
    rw [q] at e
    refine ⟨W2.I, es, r, R2.imm, R2.nt, by rw [List.append_nil]; exact p2, q, ?_⟩
    cases r with
    | ret r =>
      cases e
      intro I' H' v s1 s2 s3 s4 s5 rp
      obtain ⟨l3, R3⟩ := R2.called s1 s2 s3 s4 s5
      have l13 := l1.trans (l2.trans l3)
      exact k _ σ H' l13 (hs.le l13) R3
    | by_ r =>
      cases e
      intro I' H' dx y s1 s2 s3 s4 s5 hx rp
      obtain ⟨l3, R3⟩ := R2.called s1 s2 s3 s4 s5
      exact k _ H' dx y (l1.trans (l2.trans l3)) R3 hx (Rep.up (Same.refl _) r [] _ y rp)
theorem xr_call (c : FR X.prog X.w X.K X.mg X.base k x ps (spR C f)) (tk : Takes X (fun cls d _ H => E cls d H)) (hr : Room j X.A) (hk : k ≤ j) (hg : Gl X x) (ha : PA X (e :: es) (tA T xa)) (hdb : (x == ("__debug__" : Str)) = false := by decide)
    (he : starEach (e :: es) X.env = (false, eval e X.env) :: starEach es X.env := by rfl) (hpl : (backTo pos (starEach es X.env)).any (·.1) = false := by rfl)
    (hsw : swapsWith (.Call (.Name x p) (e :: es) [] pos) none pos'.line X.env = pure false := by rfl) :
    PS X (.Expr (.Call (.Name x p) (e :: es) [] pos) pos') (tSX T C E (xCallX f xa)) := by
  obtain ⟨g, fd, F, hm, hk2, hb, _⟩ := c.ex
  exact (ps_expr (pe_call F (hr.mono hk) hg hm hk2 hb .nil (passes_call tk (fun _ _ _ _ h => h)) ha hdb he hpl) hsw).weak fun DD σ H h => weak_callX h
end
section
variable {P : Program} {w : World} {K : PySem.W.Frag} {mg : Str → Option Value} {base : Heap} {x : Str} {st : Stmt} {ps N : List Str} {k n slots : Nat} {C : Addr} {xb : XR}
theorem spR_len {f : List D → Option Rs} (hf : ∀ ds r, f ds = some r → ds.length = n) : ∀ vs H Q E, spR C f vs H Q E → vs.length = n := fun vs H Q E ⟨I, ds, r, _, _, rv, e, _⟩ => rv.length.trans (hf ds r e)
theorem fr_of (D : DefAt K mg x st) (S : FnScope N ps (defScope st)) (hn : ps.length = n) (hN : N.length = slots)
    (hb : ∀ (kV doc pm : Value) (an : Option Addr) (cdv ct : Value) (us : List Value), us.length = ps.length → bindArgs (PySem.W.fnOf x x (defArgs st) (defBody st) (defScope st) .none kV doc pm an cdv ct) ⟨us, []⟩ = pure (ps.zip us))
    (hbody : ∀ (f : Addr) (cdv : Value) (A : Around) (outer : List Env) (s : Shared) (H : Hp) (E : XK), Room k (A.deeper (envOfC x (defScope st) s.heap.objs.size f cdv)) → PSs (cxOf (L2.CX P w) P w K mg base N x (defScope st) f cdv A outer s H E) (defBody st) (tSX T0 C E xb)) :
    FR P w K mg base (k + 1) x ps (spR C (fnR n slots xb)) := by
  obtain ⟨f, fd, F, hm⟩ := D.ex
  exact ⟨f, fd, F.ok S (fun vs H Q E h => (spR_len (fun _ _ h => fnR_len h) vs H Q E h).trans hn.symm) (fun cdv A outer s H vs Q E hr h => ⟨tSX T0 C E xb, hbody f cdv A outer s H E hr, spR_body hN h⟩), hm, F.kp, F.bindsN hb, funD_lk F⟩
theorem FR.imp {f g : List D → Option Rs} (c : FR P w K mg base k x ps (spR C f)) (h : ∀ ds r, g ds = some r → f ds = some r) : FR P w K mg base k x ps (spR C g) := by
  obtain ⟨a, fd, F, h1, h2, h3⟩ := c.ex
  exact ⟨a, fd, F.imp (fun vs H Q E ⟨I, ds, r, i1, i2, i3, i4, i5⟩ => ⟨I, ds, r, i1, i2, i3, h ds r i4, i5⟩), h1, h2, h3⟩
end
end XL
end
section
set_option maxRecDepth 100000
set_option maxHeartbeats 0
/-! XN4: defs of the text, printed by gen.py. -/
namespace XL
open PySem PySem.Spec PyProof.Rows L2
variable {P : Program} {w : World} {K : PySem.W.Frag} {mg : Str → Option Value} {base : Heap}
/-! ### check_can -/
theorem sc_check_can : FnScope ["one", "other"] ["one", "other"] (defScope (top 39)) := ⟨rfl, rfl, rfl, by decide +kernel, rfl, by decide +kernel, by decide +kernel⟩
def x_check_can : XR := xIfX (xTB (xOp gNotN (xCall f_barred_by (xaCons (xVar 0) (xaCons (xVar 1) (xaNil)))) (xC .non))) (xRaise (xCall f_barred_by (xaCons (xVar 0) (xaCons (xVar 1) (xaNil))))) (xUp xNext)
def f_check_can : List D → Option Rs := fnR 2 2 x_check_can
theorem k_check_can {C : Addr} (B : Blt mg) (bar : BarAt K mg C) (d : DefAt K mg "check_can" (top 39)) (c_barred_by : FA P w K mg base 2 "barred_by" ["one", "other"] (spC f_barred_by)) : FR P w K mg base 3 "check_can" ["one", "other"] (spR C f_check_can) :=
  fr_of (xb := x_check_can) d sc_check_can rfl rfl (fun _ _ _ _ _ _ us hl => match us, hl with | [_, _], _ => rfl) fun f cdv A outer s H E hr =>
    xrs_one (xr_if (t_notN (xe_c c_barred_by hr (by decide) rfl (xa_cons (xe_var 0) (xa_cons (xe_var 1) (xa_nil)))) (xe_non)) (xrs_one (xr_raise bar rfl (takes_of rfl rfl rfl rfl) hr (by decide) rfl (xe_c c_barred_by hr (by decide) rfl (xa_cons (xe_var 0) (xa_cons (xe_var 1) (xa_nil)))))) (xr_up0 xss_nil))
/-! ### make -/
theorem sc_make : FnScope ["one", "other"] ["one", "other"] (defScope (top 52)) := ⟨rfl, rfl, rfl, by decide +kernel, rfl, by decide +kernel, by decide +kernel⟩
def x_make : XR := xSeqX (xUp (xDrop (xCall f_check_both (xaCons (xVar 0) (xaCons (xVar 1) (xaNil)))))) (xSeqX (xCallX f_check_can (xaCons (xVar 0) (xaCons (xVar 1) (xaNil)))) (xUp (xRet (xCall f_made (xaCons (xVar 0) (xaCons (xVar 1) (xaNil)))))))
def f_make : List D → Option Rs := fnR 2 2 x_make
theorem k_make {C : Addr} (B : Blt mg) (bar : BarAt K mg C) (d : DefAt K mg "make" (top 52)) (c_made : FA P w K mg base 5 "made" ["one", "other"] (spC f_made)) (c_check_can : FR P w K mg base 3 "check_can" ["one", "other"] (spR C f_check_can)) (c_check_both : FA P w K mg base 4 "check_both" ["one", "other"] (spC f_check_both)) : FR P w K mg base 6 "make" ["one", "other"] (spR C f_make) :=
  fr_of (xb := x_make) d sc_make rfl rfl (fun _ _ _ _ _ _ us hl => match us, hl with | [_, _], _ => rfl) fun f cdv A outer s H E hr =>
    xrs_cons (xr_up (xs_expr (xe_c c_check_both hr (by decide) rfl (xa_cons (xe_var 0) (xa_cons (xe_var 1) (xa_nil)))))) (xrs_cons (xr_call c_check_can (takes_of rfl rfl rfl rfl) hr (by decide) rfl (xa_cons (xe_var 0) (xa_cons (xe_var 1) (xa_nil)))) (xrs_one (xr_up (xs_ret (xe_c c_made hr (by decide) rfl (xa_cons (xe_var 0) (xa_cons (xe_var 1) (xa_nil))))))))
/-! ### complete -/
theorem sc_complete : FnScope ["turn", "kind"] ["turn", "kind"] (defScope (top 53)) := ⟨rfl, rfl, rfl, by decide +kernel, rfl, by decide +kernel, by decide +kernel⟩
def x_complete : XR := xSeqX (xUp (xDrop (xCall f_check_turn (xaCons (xVar 0) (xaNil))))) (xSeqX (xUp (xDrop (xCall f_check_kind (xaCons (xVar 1) (xaNil))))) (xSeqX (xUp (xIfS (xTB (xOp gNe (xFn gLen (xaCons (xVar 0) (xaNil))) (xFn gSum (xaCons (xVar 1) (xaNil))))) (xNever) (xNext))) (xSeqX (xCallX f_check_can (xaCons (xCall f_kind_for (xaCons (xVar 0) (xaNil))) (xaCons (xVar 1) (xaNil)))) (xUp (xRet (xCall f_completed (xaCons (xVar 0) (xaCons (xVar 1) (xaNil)))))))))
def f_complete : List D → Option Rs := fnR 2 2 x_complete
theorem k_complete {C : Addr} (B : Blt mg) (bar : BarAt K mg C) (d : DefAt K mg "complete" (top 53)) (c_completed : FA P w K mg base 6 "completed" ["turn", "kind"] (spC f_completed)) (c_check_can : FR P w K mg base 3 "check_can" ["one", "other"] (spR C f_check_can)) (c_kind_for : FA P w K mg base 2 "kind_for" ["turn"] (spC f_kind_for)) (c_check_kind : FA P w K mg base 3 "check_kind" ["value"] (spC f_check_kind)) (c_check_turn : FA P w K mg base 3 "check_turn" ["value"] (spC f_check_turn)) : FR P w K mg base 7 "complete" ["turn", "kind"] (spR C f_complete) :=
  fr_of (xb := x_complete) d sc_complete rfl rfl (fun _ _ _ _ _ _ us hl => match us, hl with | [_, _], _ => rfl) fun f cdv A outer s H E hr =>
    xrs_cons (xr_up (xs_expr (xe_c c_check_turn hr (by decide) rfl (xa_cons (xe_var 0) (xa_nil))))) (xrs_cons (xr_up (xs_expr (xe_c c_check_kind hr (by decide) rfl (xa_cons (xe_var 1) (xa_nil))))) (xrs_cons (xr_up (xs_if (t_ne hr (c_len B rfl (xa_cons (xe_var 0) (xa_nil))) (c_sum rfl B rfl (xa_cons (xe_var 1) (xa_nil)))) (xss_never) (xss_nil))) (xrs_cons (xr_call c_check_can (takes_of rfl rfl rfl rfl) hr (by decide) rfl (xa_cons (xe_c c_kind_for hr (by decide) rfl (xa_cons (xe_var 0) (xa_nil))) (xa_cons (xe_var 1) (xa_nil)))) (xrs_one (xr_up (xs_ret (xe_c c_completed hr (by decide) rfl (xa_cons (xe_var 0) (xa_cons (xe_var 1) (xa_nil))))))))))
/-! ### plane_joins -/
theorem sc_plane_joins : FnScope ["one", "other"] ["one", "other"] (defScope (top 60)) := ⟨rfl, rfl, rfl, by decide +kernel, rfl, by decide +kernel, by decide +kernel⟩
def x_plane_joins : XR := xSeqX (xUp (xDrop (xCall f_check_both (xaCons (xVar 0) (xaCons (xVar 1) (xaNil)))))) (xSeqX (xCallX f_check_can (xaCons (xVar 0) (xaCons (xVar 1) (xaNil)))) (xSeqX (xIfX (xTB (xOp gGt (xCall f_excess (xaCons (xVar 0) (xaCons (xVar 1) (xaNil)))) (xC (.int 0)))) (xRaise (xC (.str "handles"))) (xUp xNext)) (xUp (xRet (xCall f_count_of (xaCons (xVar 0) (xaCons (xVar 1) (xaNil))))))))
def f_plane_joins : List D → Option Rs := fnR 2 2 x_plane_joins
theorem k_plane_joins {C : Addr} (B : Blt mg) (bar : BarAt K mg C) (d : DefAt K mg "plane_joins" (top 60)) (c_count_of : FA P w K mg base 3 "count_of" ["one", "other"] (spC f_count_of)) (c_excess : FA P w K mg base 1 "excess" ["one", "other"] (spC f_excess)) (c_check_can : FR P w K mg base 3 "check_can" ["one", "other"] (spR C f_check_can)) (c_check_both : FA P w K mg base 4 "check_both" ["one", "other"] (spC f_check_both)) : FR P w K mg base 5 "plane_joins" ["one", "other"] (spR C f_plane_joins) :=
  fr_of (xb := x_plane_joins) d sc_plane_joins rfl rfl (fun _ _ _ _ _ _ us hl => match us, hl with | [_, _], _ => rfl) fun f cdv A outer s H E hr =>
    xrs_cons (xr_up (xs_expr (xe_c c_check_both hr (by decide) rfl (xa_cons (xe_var 0) (xa_cons (xe_var 1) (xa_nil)))))) (xrs_cons (xr_call c_check_can (takes_of rfl rfl rfl rfl) hr (by decide) rfl (xa_cons (xe_var 0) (xa_cons (xe_var 1) (xa_nil)))) (xrs_cons (xr_if (t_gt (xe_c c_excess hr (by decide) rfl (xa_cons (xe_var 0) (xa_cons (xe_var 1) (xa_nil)))) (xe_int)) (xrs_one (xr_raise bar rfl (takes_of rfl rfl rfl rfl) hr (by decide) rfl (xe_str))) (xr_up0 xss_nil)) (xrs_one (xr_up (xs_ret (xe_c c_count_of hr (by decide) rfl (xa_cons (xe_var 0) (xa_cons (xe_var 1) (xa_nil)))))))))
end XL
end
section
set_option maxRecDepth 100000
set_option maxHeartbeats 4000000
/-! XX4: _law_caught, lambdas handed to it. -/
namespace XL
open PySem PySem.Spec PyProof.Rows L2
variable {T : Tb}
/-- what the caller sees: the tuple made of a value, of an exception's by -/
def eBy (C : Addr) (Q : VK) : XK := fun cls d H' => cls = .ref C ∧ ∃ dd z, d = some dd ∧ H' dd = some (.xd [("by", .str z)]) ∧ (PySem.reprText z).length ≤ sizeLine ∧ ∀ p, H' p = none → Q (.ref p) (upd H' p (.tup [.str "barred", .str (PySem.reprText z)]))
def TTc (C : Addr) : (XK → Hp → VK → Prop) → Hp → VK → Prop := fun tl H Q => ∀ (E' : XK) (Q' : VK), (∀ cls d H', eBy C Q cls d H' → E' cls d H') → (∀ v H', (∀ p, H' p = none → Q (.ref p) (upd H' p (.tup [.str "gave", v]))) → Q' v H') → tl E' H Q'
def rRepr : List V → Hp → VK → Prop := fun xs H Q => ∃ z, xs = [.str z] ∧ (PySem.reprText z).length ≤ sizeLine ∧ Q (.str (PySem.reprText z)) H
theorem cr_repr {X : Cx} : CallR X (.builtin "repr") rRepr := by
  intro pins s σ H xs us Q I r h
  obtain ⟨z, rfl, hz, q⟩ := h
  obtain ⟨u, rfl, t, rfl⟩ := vals1 r
  exact PySem.P.repr_of_str ⟨.str _, H, I.tok _, ⟨_, rfl⟩, q⟩ hz
theorem sc_caught : FnScope ["_law_act_here", "_law_gave", "e"] ["_law_act_here"] (defScope (top 70)) := ⟨rfl, rfl, rfl, by decide +kernel, rfl, by decide +kernel, by decide +kernel⟩
/-- the suite: return ('barred', repr(e.by)) -/
def tBarred (C : Addr) (a : Addr) (d : Option Addr) : TS := tRet (tTup (tCons (tC (.str "barred")) (tCons (tCB rRepr (tCons (tXf a (.ref C) d C "by" (tVar 2)) tNil)) tNil)))
theorem caught_gives {X : Cx} {C : Addr} (B : Blt X.mg) (bar : BarAt X.K X.mg C) {g : Addr} {cdg : Value} {q : Str} :
    LamX.GivesTo X ["_law_act_here", "_law_gave", "e"] "_law_caught" (defScope (top 70)) g cdg (defBody (top 70)) "_law_act_here" q (TTc C) := by
  intro f c' s H Q tl act hc h
  obtain ⟨cT, mT, nT⟩ := bar.turn
  obtain ⟨cK, mK, nK⟩ := bar.kind
  obtain ⟨cN, mN, nN⟩ := bar.number
  obtain ⟨cS, mS, nS⟩ := bar.size
  refine ⟨_, pss_cons (ps_try_pick (X := (cxOf C8.CX0 X.prog X.w X.K X.mg X.base ["_law_act_here", "_law_gave", "e"] "_law_caught" (defScope (top 70)) g cdg X.A X.stack s H C8.E0).nox) (x := "Barred") (n := "e") (cls := .ref C) (i := 2)
      (tb := fun W D σ H => (∀ cls d σ' H', eBy C Q cls d H' → W cls d σ' H') ∧ tAsg (fun σZ HZ Q' => σZ[0]? = some (some (.ref f)) ∧ HZ c' = some (LamX.CodeO c' q) ∧ tl (eBy C Q) HZ Q') (gName 1) D σ H)
      (ts := fun a d => tBarred C a d) rfl rfl sc_caught.nd rfl rfl ⟨rfl, by decide, .inl bar.mgC⟩ bar.me
      (.next (c := .ref cT) ⟨rfl, by decide, .inl mT⟩ nT (.next (c := .ref cK) ⟨rfl, by decide, .inl mK⟩ nK (.next (c := .ref cN) ⟨rfl, by decide, .inl mN⟩ nN (.next (c := .ref cS) ⟨rfl, by decide, .inl mS⟩ nS .here))))
      (fun W pn xe tk _ => ⟨fun pins s' σ H' D I h' => ?_⟩) (fun a oe d pn hz hf => ?_)) (pss_one (ps_ret (pe_tup (pa_cons pe_str (pa_cons (pe_var (i := 1) rfl (.inl rfl)) pa_nil))))), ?_⟩
  · exact (pss_one (ps_set (i := 1) sc_caught.nd rfl (.inl rfl) (act W pn xe (eBy C Q) _ _ tk h'.1))).run pins s' σ H' D I h'.2
  · exact pss_one (ps_ret (pe_tup (pa_cons pe_str (pa_cons (pe_callB cr_repr rfl B.repr_ PyProof.Rows.boot_repr (pa_cons (pe_xf bar.xf bar.no hz hf (pe_var (i := 2) rfl (.inl rfl))) pa_nil)) pa_nil))))
  · refine ⟨fun cls d σ' H' ⟨e1, dd, z, e2, e3, e4, e5⟩ => ⟨e1, fun hl a ha => ?_⟩, rfl, hc, h (eBy C Q) _ (fun _ _ _ z => z) fun v H' k => ?_⟩
    · have h2 : (σ'.set 2 (some (V.ref a)))[2]? = some (some (.ref a)) := by
        have hl : σ'.length = 3 := hl
        exact List.getElem?_set_self (by omega)
      refine ⟨.ref a, h2, rfl, rfl, dd, _, .str z, e2, e3, rfl, z, rfl, e4, by show (2 : Nat) ≤ sizeLine; decide, fun p hp => e5 p hp⟩
    · refine ⟨v, ?_, by show (2 : Nat) ≤ sizeLine; decide, fun p hp => k p hp⟩
      exact List.getElem?_set_self (by show 1 < 3; decide)
end XL
end
section
set_option maxRecDepth 100000
set_option maxHeartbeats 4000000
/-! XX5: lambdas handed to _law_caught; defs that make them. -/
namespace XL
open PySem PySem.Spec PyProof.Rows L2
variable {T : Tb}
theorem Rel.extN {W : Wd} {cs : Cs} {H H1 : Hp} (R : Rel T W cs H) (hT : T.tb ≠ []) (e : LamX.ExtN H H1) (t : LamX.Tabs T.tb H1) : Rel T W cs H1 := by
  refine ⟨fun b o h => ?_, fun b o h => ?_, R.new, R.len, R.nd, fun k a c h1 h2 => ?_, R.nt, t, R.h0t, R.wc, R.wn⟩
  · exact e b o (R.keep b o h) fun ps z => R.h0t hT b ps (by rw [h, z])
  · exact e b o (R.imm b o h) fun ps z => R.nt b ps (by rw [h, z])
  · have ok := R.cell k a c h1 h2
    have key : ∀ o, H a = some o → (∀ ps, o ≠ .tbl ps) → H1 a = H a := fun o h n => by rw [h]; exact e a o h n
    have hH : H1 a = H a := by
      cases c with
      | lst xs => obtain ⟨_, _, vs, h3, _⟩ := ok; exact key _ h3 fun _ z => nomatch z
      | fz xs => obtain ⟨vs, h3, _⟩ := ok; exact key _ (R.imm _ _ h3) fun _ z => nomatch z
      | dic xs => obtain ⟨_, _, ps, h3, _⟩ := ok; exact key _ h3 fun _ z => nomatch z
      | ins xs => obtain ⟨_, _, dx, fs, h3, _⟩ := ok; exact key _ h3 fun _ z => nomatch z
      | dead => obtain ⟨o, h3⟩ := ok; exact key o (R.imm _ _ h3) fun ps z => R.nt a ps (by rw [h3, z])
    exact ok.le (Le.refl W) hH fun h => h
/-- _law_caught(lambda: f(..)) -/
def caughtD : Option Rs → Option D
  | some (.ret r) => some (.tup [.str "gave", r])
  | some (.by_ (.str z)) => (match Nat.ble (PySem.reprText z).length 1000 with
    | true => some (.tup [.str "barred", .str (PySem.reprText z)])
    | false => none)
  | _ => none
def xLam (f : List D → Option Rs) (a : XA) : XE := fun sl cs => bnd (a sl cs) fun ds c => bnd (pureL ds c) fun es c2 => match caughtD (f es) with
  | some d => some (d, c2)
  | none => none
/-- what the lambda's body does, the arguments in order -/
theorem lam_core {C : Addr} {f : List D → Option Rs} {W1 : Wd} {cs1 c2 : Cs} {H1 : Hp} {ds es : List D} {d : D} {vs : List V} {Q : VK} (r1 : Rel T W1 cs1 H1) (p1 : RepLW W1 vs ds) (ep : pureL ds cs1 = some (es, c2)) (e : caughtD (f es) = some d)
    (k : ∀ W' v H', Le W1 W' → Rel T W' c2 H' → RepW W' v d → Q v H') (E' : XK) (Q' : VK) (hE : ∀ cls dd H', eBy C Q cls dd H' → E' cls dd H') (hQ : ∀ v H', (∀ p, H' p = none → Q (.ref p) (upd H' p (.tup [.str "gave", v]))) → Q' v H') : spR C f vs H1 Q' E' := by
  obtain ⟨W2, l2, a2, R2, p2, _⟩ := mapC_ok (pureD_ok fuelP) ds T W1 cs1 H1 vs es c2 r1 p1 ep
  cases q : f es with
  | none => rw [q] at e; cases e
  | some r =>
    rw [q] at e
    refine ⟨W2.I, es, r, R2.imm, R2.nt, p2, q, ?_⟩
    cases r with
    | ret r =>
      cases e
      intro I' H' v s1 s2 s3 s4 s5 rp
      obtain ⟨l3, R3⟩ := R2.called s1 s2 s3 s4 s5
      refine hQ v H' fun p hp => ?_
      obtain ⟨W4, l4, R4, p4⟩ := R3.newTup hp (.cons .str (.cons (Rep.up (Same.refl _) r [] _ v rp) .nil))
      exact k W4 _ _ (l2.trans (l3.trans l4)) R4 p4
    | by_ r =>
      cases r with
      | str z =>
        have e : (match Nat.ble (PySem.reprText z).length 1000 with
          | true => some (D.tup [.str "barred", .str (PySem.reprText z)])
          | false => none) = some d := e
        cases q2 : Nat.ble (PySem.reprText z).length 1000 with
        | false => rw [q2] at e; cases e
        | true =>
          rw [q2] at e
          cases e
          intro I' H' dx y s1 s2 s3 s4 s5 hx rp
          cases rp
          obtain ⟨l3, R3⟩ := R2.called s1 s2 s3 s4 s5
          have hz := Nat.le_of_ble_eq_true q2
          refine hE _ _ _ ⟨rfl, dx, z, rfl, hx, by rw [sizeLine_eq]; omega, fun p hp => ?_⟩
          obtain ⟨W4, l4, R4, p4⟩ := R3.newTup hp (.cons .str (.cons .str .nil))
          exact k W4 _ _ (l2.trans (l3.trans l4)) R4 p4
      | _ => cases e
theorem weak_lam {C : Addr} {f : List D → Option Rs} {xa : XA} {σ : L2.St} {H : Hp} {Q : VK} (hT : T.tb ≠ []) (h : tE T (xLam f xa) σ H Q) : LamX.tLam T.tb (TTc C) (fun E => tCall (spR C f) [] E (tA T xa)) σ H Q := by
  obtain ⟨W, sl, cs, d, cs', hs, hr, e, k⟩ := h
  obtain ⟨ds, c1, ea, e⟩ := bnd_some e
  obtain ⟨es, c2, ep, e⟩ := bnd_some e
  refine ⟨hr.tabs, fun H1 eN t1 E' Q' hE hQ => ⟨W, sl, cs, ds, c1, hs, hr.extN hT eN t1, ea, fun W1 vs H2 l1 r1 p1 => ?_⟩⟩
  show spR C f (vs ++ []) H2 Q' E'
  rw [List.append_nil]
  cases q : caughtD (f es) with
  | none => rw [q] at e; cases e
  | some d2 =>
    rw [q] at e
    cases e
    exact lam_core r1 p1 ep q (fun W' v H' l r p => k W' v H' (l1.trans l) r p) E' Q' hE hQ
/-- .. f(b = .., a = ..) -/
def xLam2 (f : List D → Option Rs) (a : XA) : XE := fun sl cs => bnd (a sl cs) fun ds c => match ds with
  | [y, x] => bnd (pureL [x, y] c) fun es c2 => (match caughtD (f es) with
    | some d => some (d, c2)
    | none => none)
  | _ => none
/-! ### f(b = .., a = ..) -/
def Kw2 (fd : FuncData) (a b : Str) : Prop := ∀ (s : Shared) (u1 u2 : Value), BindsTo s fd ⟨[], [(b, u1), (a, u2)]⟩ [(a, u2), (b, u1)]
def tKw2 (sp : Sp) (E : XK) (tk : TA) : TE := fun σ H Q => tk σ H fun zs H2 => ∃ y x, zs = [y, x] ∧ sp [x, y] H2 Q E
section
variable {X : Cx} {CXf : CXT} {k : Nat} {f : Addr} {fd : FuncData} {a b x : Str} {sp : Sp} {E : XK} {e1 e2 : Expr} {p p1 p2 pos : Pos} {tk : TA} {xe : XE} {xa : XA} {kws : List Keyword} {nm : Option Str}
theorem pe_kw2 (F : FnOk X.prog X.w X.K X.mg X.base CXf k f fd [a, b] sp) (hr : Room k X.A) (hg : Gl X x) (hm : X.mg x = some (.ref f)) (hk : PySem.W.keepIn X.K (.ref f) = true) (kw : Kw2 fd a b) (hx : Passes CXf X E)
    (hkw : PK X [⟨some b, e1, p1⟩, ⟨some a, e2, p2⟩] tk) (hdb : (x == ("__debug__" : Str)) = false := by decide) : PE X (.Call (.Name x p) [] [⟨some b, e1, p1⟩, ⟨some a, e2, p2⟩] pos) (tKw2 sp E tk) := by
  refine ⟨fun pins s σ H Q I h => wpAny_Call_Name_kw (ld_glob I hg hm ?_ hdb)⟩
  refine PySem.W.callWith_KW0 (h₀ := X.base) I.ok.mod.kin hk (by rfl) (thn (hkw.run pos pins s σ H _ I h) fun ws s1 ⟨zs, H1, I1, rz, y, v, ez, q⟩ => ⟨I1.kIn, ?_⟩) (by rfl)
  subst ez
  obtain ⟨w1, w2, rfl, r1, r2⟩ := vals2 rz
  refine wpAny_call (codeAny_mono (F.run X.A X.stack s1 H1 ⟨[], [(b, w1), (a, w2)]⟩ [w2, w1] [v, y] Q E hr I1.env0 (kw s1 w1 w2) (.cons r2 (.cons r1 .nil)) q) fun r s' hq => ?_)
  cases r with
  | error e => exact hx pins σ H1 s1 e s' I1 hq
  | ok fl =>
    cases fl with
    | ret u => exact I1.after hq
    | _ => exact False.elim hq
theorem _root_.L2.PK.weak {t t' : TA} (h : PK X kws t) (k : ∀ σ H Q, t' σ H Q → t σ H Q) : PK X kws t' := ⟨fun pos pins s σ H Q I q => h.run pos pins s σ H Q I (k σ H Q q)⟩
theorem xk_nil : PK X [] (tA T xaNil) := pk_nil.weak fun σ H Q h => by
  obtain ⟨W, sl, cs, d, cs', hs, hr, e, k⟩ := h
  cases e
  exact k W [] H (Le.refl W) hr .nil
theorem xk_cons (ha : PE X e1 (tE T xe)) (hr : PK X kws (tA T xa)) : PK X (⟨nm, e1, p1⟩ :: kws) (tA T (xaCons xe xa)) := (pk_cons ha hr).weak fun σ H Q h => by
  obtain ⟨W, sl, cs, d, cs', hs, hr, e, k⟩ := h
  obtain ⟨x, c1, ea, e⟩ := bnd_some e
  obtain ⟨xs, c2, eb, e⟩ := bnd_some e
  cases e
  exact ⟨W, sl, cs, x, c1, hs, hr, ea, fun W1 v1 H1 l1 r1 p1 => ⟨W1, sl, c1, xs, _, hs.le l1, r1, eb, fun W2 v2 H2 l2 r2 p2 => k W2 _ H2 (l1.trans l2) r2 (.cons (p1.le l2) p2)⟩⟩
end
theorem kw2_of {K : PySem.W.Frag} {mg : Str → Option Value} {x a b : Str} {st : Stmt} {f : Addr} {fd : FuncData} (D : DefAt K mg x st) (hm : mg x = some (.ref f)) (lk : ∃ oc od osl, K.lookup f = some ⟨oc, od, .func fd, osl⟩)
    (h : ∀ (kV doc pm : Value) (an : Option Addr) (cdv ct u1 u2 : Value), bindArgs (PySem.W.fnOf x x (defArgs st) (defBody st) (defScope st) .none kV doc pm an cdv ct) ⟨[], [(b, u1), (a, u2)]⟩ = pure [(a, u2), (b, u1)]) : Kw2 fd a b := by
  obtain ⟨f2, fd2, F, hm2⟩ := D.ex
  have ef : f = f2 := by
    have := hm.symm.trans hm2
    injection this with z
    injection z
  subst ef
  obtain ⟨oc, od, osl, lk⟩ := lk
  obtain ⟨oc2, od2, dV, kV, doc, pm, an, cdv, ct, osl2, rfl, lk2, hcd, hD, hK⟩ := F.ex
  rw [lk] at lk2
  have e2 := Option.some.inj lk2
  injection e2 with _ _ e3 _
  injection e3 with e4
  subst e4
  intro s u1 u2
  rcases hD with ⟨_, rfl⟩ | ⟨e, _⟩
  · exact .of_eq (h kV doc pm an cdv ct u1 u2)
  · exact absurd rfl e
/-- a call of a def that keeps to itself, by names -/
def xKw2 (f : List D → Option D) (a : XA) : XE := fun sl cs => bnd (a sl cs) fun ds c => match ds with
  | [y, x] => bnd (pureL [x, y] c) fun es c2 => (match f es with
    | some r => some (r, c2)
    | none => none)
  | _ => none
theorem weak_kw2 {f : List D → Option D} {xa : XA} {σ : L2.St} {H : Hp} {Q : VK} {E : XK} (h : tE T (xKw2 f xa) σ H Q) : tKw2 (spC f) E (tA T xa) σ H Q := by
  obtain ⟨W, sl, cs, d, cs', hs, hr, e, k⟩ := h
  obtain ⟨ds, c1, ea, e⟩ := bnd_some e
  match ds, e with
  | [y, x], e =>
    obtain ⟨es, c2, ep, e⟩ := bnd_some e
    refine ⟨W, sl, cs, [y, x], c1, hs, hr, ea, fun W1 vs H1 l1 r1 p1 => ?_⟩
    obtain ⟨v1, v2, rfl, rv1, rv2⟩ := repL2 p1
    refine ⟨v1, v2, rfl, ?_⟩
    obtain ⟨W2, l2, a2, R2, p2, _⟩ := mapC_ok (pureD_ok fuelP) [x, y] T W1 c1 H1 [v2, v1] es c2 r1 (.cons rv2 (.cons rv1 .nil)) ep
    cases q : f es with
    | none => rw [q] at e; cases e
    | some r =>
      rw [q] at e
      cases e
      refine ⟨W2.I, es, d, R2.imm, R2.nt, p2, q, fun I' H' v s1 s2 s3 s4 s5 rp => ?_⟩
      obtain ⟨l3, R3⟩ := R2.called s1 s2 s3 s4 s5
      exact k _ v H' (l1.trans (l2.trans l3)) R3 (Rep.up (Same.refl _) d [] _ v rp)
theorem xe_kw2 {X : Cx} {k j : Nat} {x a b : Str} {g : List D → Option D} {e1 e2 : Expr} {p p1 p2 pos : Pos} {xa : XA} {st : Stmt} (c : FA X.prog X.w X.K X.mg X.base k x [a, b] (spC g)) (D : DefAt X.K X.mg x st) (hr : Room j X.A) (hk : k ≤ j) (hg : Gl X x)
    (hb : ∀ (kV doc pm : Value) (an : Option Addr) (cdv ct u1 u2 : Value), bindArgs (PySem.W.fnOf x x (defArgs st) (defBody st) (defScope st) .none kV doc pm an cdv ct) ⟨[], [(b, u1), (a, u2)]⟩ = pure [(a, u2), (b, u1)])
    (ha : PK X [⟨some b, e1, p1⟩, ⟨some a, e2, p2⟩] (tA T xa)) (hdb : (x == ("__debug__" : Str)) = false := by decide) : PE X (.Call (.Name x p) [] [⟨some b, e1, p1⟩, ⟨some a, e2, p2⟩] pos) (tE T (xKw2 g xa)) := by
  obtain ⟨f, fd, F, hm, hk2, _, lk⟩ := c.ex
  exact (pe_kw2 F (hr.mono hk) hg hm hk2 (kw2_of D hm lk hb) (pass0 (X := X)) ha hdb).weak fun _ _ _ h => weak_kw2 h
theorem weak_lam2 {C : Addr} {f : List D → Option Rs} {xa : XA} {σ : L2.St} {H : Hp} {Q : VK} (hT : T.tb ≠ []) (h : tE T (xLam2 f xa) σ H Q) : LamX.tLam T.tb (TTc C) (fun E => tKw2 (spR C f) E (tA T xa)) σ H Q := by
  obtain ⟨W, sl, cs, d, cs', hs, hr, e, k⟩ := h
  obtain ⟨ds, c1, ea, e⟩ := bnd_some e
  match ds, e with
  | [y, x], e =>
    obtain ⟨es, c2, ep, e⟩ := bnd_some e
    refine ⟨hr.tabs, fun H1 eN t1 E' Q' hE hQ => ⟨W, sl, cs, [y, x], c1, hs, hr.extN hT eN t1, ea, fun W1 vs H2 l1 r1 p1 => ?_⟩⟩
    obtain ⟨v1, v2, rfl, rv1, rv2⟩ := repL2 p1
    refine ⟨v1, v2, rfl, ?_⟩
    cases q : caughtD (f es) with
    | none => rw [q] at e; cases e
    | some d2 =>
      rw [q] at e
      cases e
      exact lam_core r1 (.cons rv2 (.cons rv1 .nil)) ep q (fun W' v H' l r p => k W' v H' (l1.trans l) r p) E' Q' hE hQ

/-! ### the rules of the two lambdas -/
/-- the maker's code object and its table are among the known ones -/
structure TbAt (base : Heap) (mg : Str → Option Value) (T : Tb) (c P : Addr) (q : Str) : Prop where
  tb : LamX.TabB base mg c P
  mem : (P, q) ∈ T.tb
  uniq : ∀ p ∈ T.tb, p.1 = P → p.2 = q
theorem TbAt.ne {base : Heap} {mg : Str → Option Value} {c P : Addr} {q : Str} (h : TbAt base mg T c P q) : T.tb ≠ [] := fun z => by
  have := h.mem
  rw [z] at this
  cases this
section
variable {X : Cx} {C c P : Addr} {k j : Nat} {x : Str} {ps : List Str} {f : List D → Option Rs} {xa : XA} {params : Arguments} {scope : Scope} {lpos p pos lp cp lp1 lp2 : Pos} {e e1 e2 : Expr} {es : List Expr} {a b : Str} {st : Stmt} {q : Str}
/-- _law_caught(lambda: f(e, ..)) -/
theorem xe_lam (B : Blt X.mg) (bar : BarAt X.K X.mg C) (Dc : DefAt X.K X.mg "_law_caught" (top 70)) (tab : TbAt X.base X.mg T c P q) (hq : q = X.env.qual ++ "<lambda>") (hcode : X.env.code = .ref c) (cf : FR X.prog X.w X.K X.mg X.base k x ps (spR C f))
    (hr : Room (j + 2) X.A) (hk : k ≤ j) (hg : Gl X "_law_caught") (L : LamX.LamS X.env.scope scope) (hdef : defaultsOf params X.env = ([], []))
    (hbind : ∀ (q : Str) (cl : List (Str × Addr)) (pm cv ctv : Value), bindArgs (PySem.W.kla_fn "<lambda>" q params (.Call (.Name x lp) (e :: es) [] cp) scope cl pm cv ctv) ⟨[], []⟩ = pure [])
    (hx : scope.names.lookup x = some .globalImplicit) (hdb : (x == ("__debug__" : Str)) = false)
    (ha : ∀ (A : Around) (outer : List Env) (s : Shared) (H : Hp) (E : XK) (f' c' : Addr), PA (LamX.lamCx X A outer s H E scope f' c') (e :: es) (tA T xa))
    (he : ∀ (A : Around) (outer : List Env) (s : Shared) (H : Hp) (E : XK) (f' c' : Addr), starEach (e :: es) (LamX.lamCx X A outer s H E scope f' c').env = (false, eval e (LamX.lamCx X A outer s H E scope f' c').env) :: starEach es (LamX.lamCx X A outer s H E scope f' c').env)
    (hpl : ∀ (A : Around) (outer : List Env) (s : Shared) (H : Hp) (E : XK) (f' c' : Addr), (backTo cp (starEach es (LamX.lamCx X A outer s H E scope f' c').env)).any (·.1) = false) :
    PE X (.Call (.Name "_law_caught" p) [.Lambda params (.Call (.Name x lp) (e :: es) [] cp) scope lpos] [] pos) (tE T (xLam f xa)) := by
  subst hq
  obtain ⟨g, fdg, Fg, hmg⟩ := Dc.ex
  have bg := Fg.bindsN (ps := ["_law_act_here"]) fun _ _ _ _ _ _ us hl => match us, hl with | [_], _ => rfl
  obtain ⟨oc, od, dV, kV, doc, pm, an, cdv, ct, osl, rfl, lk, hcd, hD, hK⟩ := Fg.ex
  refine (LamX.pe_lamcall (k := j) (T := T.tb) hg hmg Fg.kp lk hcd bg sc_caught rfl (.inl rfl) (caught_gives B bar) tab.tb hcode tab.mem tab.uniq hr L hdef hbind (t := fun E => tCall (spR C f) [] E (tA T xa)) (fun A outer s H E f' c' hr2 => ?_)).weak fun σ H Q h => weak_lam tab.ne h
  obtain ⟨ff, fdf, F, hm, hk2, hb, _⟩ := cf.ex
  exact pe_call (X := LamX.lamCx X A outer s H E scope f' c') (CX := L2.CX X.prog X.w) F (hr2.mono hk) hx hm hk2 hb .nil (passes_call (takes_of rfl rfl rfl rfl) (fun _ _ _ _ h => h)) (ha A outer s H E f' c') hdb (he A outer s H E f' c') (hpl A outer s H E f' c')
/-- _law_caught(lambda: f(b = e1, a = e2)) -/
theorem xe_lam2 (B : Blt X.mg) (bar : BarAt X.K X.mg C) (Dc : DefAt X.K X.mg "_law_caught" (top 70)) (tab : TbAt X.base X.mg T c P q) (hq : q = X.env.qual ++ "<lambda>") (hcode : X.env.code = .ref c) (cf : FR X.prog X.w X.K X.mg X.base k x [a, b] (spR C f)) (Df : DefAt X.K X.mg x st)
    (hr : Room (j + 2) X.A) (hk : k ≤ j) (hg : Gl X "_law_caught") (L : LamX.LamS X.env.scope scope) (hdef : defaultsOf params X.env = ([], []))
    (hbind : ∀ (q : Str) (cl : List (Str × Addr)) (pm cv ctv : Value), bindArgs (PySem.W.kla_fn "<lambda>" q params (.Call (.Name x lp) [] [⟨some b, e1, lp1⟩, ⟨some a, e2, lp2⟩] cp) scope cl pm cv ctv) ⟨[], []⟩ = pure [])
    (hx : scope.names.lookup x = some .globalImplicit) (hdb : (x == ("__debug__" : Str)) = false)
    (hb2 : ∀ (kV doc pm : Value) (an : Option Addr) (cdv ct u1 u2 : Value), bindArgs (PySem.W.fnOf x x (defArgs st) (defBody st) (defScope st) .none kV doc pm an cdv ct) ⟨[], [(b, u1), (a, u2)]⟩ = pure [(a, u2), (b, u1)])
    (ha : ∀ (A : Around) (outer : List Env) (s : Shared) (H : Hp) (E : XK) (f' c' : Addr), PK (LamX.lamCx X A outer s H E scope f' c') [⟨some b, e1, lp1⟩, ⟨some a, e2, lp2⟩] (tA T xa)) :
    PE X (.Call (.Name "_law_caught" p) [.Lambda params (.Call (.Name x lp) [] [⟨some b, e1, lp1⟩, ⟨some a, e2, lp2⟩] cp) scope lpos] [] pos) (tE T (xLam2 f xa)) := by
  subst hq
  obtain ⟨g, fdg, Fg, hmg⟩ := Dc.ex
  have bg := Fg.bindsN (ps := ["_law_act_here"]) fun _ _ _ _ _ _ us hl => match us, hl with | [_], _ => rfl
  obtain ⟨oc, od, dV, kV, doc, pm, an, cdv, ct, osl, rfl, lk, hcd, hD, hK⟩ := Fg.ex
  refine (LamX.pe_lamcall (k := j) (T := T.tb) hg hmg Fg.kp lk hcd bg sc_caught rfl (.inl rfl) (caught_gives B bar) tab.tb hcode tab.mem tab.uniq hr L hdef hbind (t := fun E => tKw2 (spR C f) E (tA T xa)) (fun A outer s H E f' c' hr2 => ?_)).weak fun σ H Q h => weak_lam2 tab.ne h
  obtain ⟨ff, fdf, F, hm, hk2, hb, lkf⟩ := cf.ex
  exact pe_kw2 (X := LamX.lamCx X A outer s H E scope f' c') (CXf := L2.CX X.prog X.w) F (hr2.mono hk) hx hm hk2 (kw2_of Df hm lkf hb2) (passes_call (takes_of rfl rfl rfl rfl) (fun _ _ _ _ h => h)) (ha A outer s H E f' c') hdb
end
end XL
end
section
set_option maxRecDepth 100000
set_option maxHeartbeats 4000000
/-! XX6: defs that share the caller's cells; defs whose code object is known; defs that need no open repr. -/
namespace XL
open PySem PySem.Spec PyProof.Rows L2
variable {T : Tb}
/-- a def's promise that speaks of the caller's own cells -/
def spZ (T : Tb) (f : Cs → List D → Option (D × Cs)) : Sp := fun vs H Q _ => ∃ W cs ds r cs', Rel T W cs H ∧ RepLW W vs ds ∧ f cs ds = some (r, cs') ∧ ∀ W' H' v, Le W W' → Rel T W' cs' H' → RepW W' v r → Q v H'
def fnZ (n slots : Nat) (body : XS) : Cs → List D → Option (D × Cs) := fun cs ds => match Nat.beq ds.length n with
  | true => (match body (ds.map some ++ List.replicate (slots - n) none) cs with
    | some (.rt d c) => some (d, c)
    | some (.nx _ c) => some (.non, c)
    | _ => none)
  | false => none
theorem fnZ_len {n slots : Nat} {body : XS} {cs : Cs} {ds : List D} {r : D × Cs} (h : fnZ n slots body cs ds = some r) : ds.length = n := by
  unfold fnZ at h
  cases q : Nat.beq ds.length n with
  | false => rw [q] at h; cases h
  | true => exact Nat.eq_of_beq_eq_true q
theorem spZ_len {f : Cs → List D → Option (D × Cs)} {n : Nat} (hf : ∀ cs ds r, f cs ds = some r → ds.length = n) : ∀ vs H Q E, spZ T f vs H Q E → vs.length = n := fun vs H Q E ⟨W, cs, ds, r, cs', _, rv, e, _⟩ => rv.length.trans (hf cs ds _ e)
theorem spZ_imp {f g : Cs → List D → Option (D × Cs)} (h : ∀ cs ds r, g cs ds = some r → f cs ds = some r) : ∀ vs H Q E, spZ T g vs H Q E → spZ T f vs H Q E := fun vs H Q E ⟨W, cs, ds, r, c', a, b, c, d⟩ => ⟨W, cs, ds, r, c', a, b, h cs ds _ c, d⟩
theorem relS_start {W : Wd} {N : List Str} {vs : List V} {ds : List D} {n slots : Nat} (hN : N.length = slots) (rv : RepLW W vs ds) (el : ds.length = n) : RelS W (ds.map some ++ List.replicate (slots - n) none) (L2.start N vs) := by
  have hlen : vs.length = n := rv.length.trans el
  refine ⟨?_, fun i d q => ?_⟩
  · unfold L2.start
    simp only [List.length_append, List.length_map, List.length_replicate]
    omega
  · by_cases hi : i < ds.length
    · rw [List.getElem?_append_left (by simpa using hi), List.getElem?_map] at q
      cases e2 : ds[i]? with
      | none => rw [e2] at q; cases q
      | some d2 =>
        rw [e2] at q
        have q := Option.some.inj (Option.some.inj q)
        subst q
        obtain ⟨v, hv, rp⟩ := rv.get e2
        refine ⟨v, ?_, rp⟩
        unfold L2.start
        rw [List.getElem?_append_left (by rw [List.length_map, hlen, ← el]; exact hi), List.getElem?_map, hv]
        rfl
    · rw [List.getElem?_append_right (by simpa using hi), List.getElem?_replicate] at q
      split at q <;> cases q
theorem spZ_body {n slots : Nat} {body : XS} {N : List Str} {vs : List V} {H : Hp} {Q : VK} {E : XK} (hN : N.length = slots) (h : spZ T (fnZ n slots body) vs H Q E) : tS T body { nx := fun _ H' => Q .non H', rt := Q } (L2.start N vs) H := by
  obtain ⟨W, cs, ds, r, cs', R, rv, e, k⟩ := h
  have el := fnZ_len e
  unfold fnZ at e
  have hb : Nat.beq ds.length n = true := by rw [el]; exact Nat.beq_refl n
  rw [hb] at e
  cases q : body (ds.map some ++ List.replicate (slots - n) none) cs with
  | none => rw [q] at e; cases e
  | some o =>
    rw [q] at e
    refine ⟨W, _, cs, o, relS_start hN rv el, R, q, ?_⟩
    cases o with
    | nx sl cs2 =>
      cases e
      intro W' σ H' l rs rl
      exact k W' H' .non l rl .non
    | rt d cs2 =>
      cases e
      intro W' v H' l rl rp
      exact k W' H' v l rl rp
    | bk sl cs => cases e
    | ct sl cs => cases e
/-- f(..), with the caller's cells -/
def xCallZ (f : Cs → List D → Option (D × Cs)) (a : XA) : XE := fun sl cs => bnd (a sl cs) fun ds c => f c ds
theorem weak_callZ {f : Cs → List D → Option (D × Cs)} {a : XA} {σ : L2.St} {H : Hp} {Q : VK} {E : XK} (h : tE T (xCallZ f a) σ H Q) : tCall (spZ T f) [] E (tA T a) σ H Q := by
  obtain ⟨W, sl, cs, d, cs', hs, hr, e, k⟩ := h
  obtain ⟨ds, c1, ea, e⟩ := bnd_some e
  refine ⟨W, sl, cs, ds, c1, hs, hr, ea, fun W1 vs H1 l1 r1 p1 => ?_⟩
  refine ⟨W1, c1, ds, d, cs', r1, by rw [List.append_nil]; exact p1, e, fun W' H' v l r p => k W' v H' (l1.trans l) r p⟩
section
variable {X : Cx} {x : Str} {ps : List Str} {p pos : Pos} {e : Expr} {es : List Expr} {xa : XA} {k j : Nat} {g : Cs → List D → Option (D × Cs)}
theorem xe_z (c : FA X.prog X.w X.K X.mg X.base k x ps (spZ T g)) (hr : Room j X.A) (hk : k ≤ j) (hg : Gl X x) (ha : PA X (e :: es) (tA T xa)) (hdb : (x == ("__debug__" : Str)) = false := by decide)
    (he : starEach (e :: es) X.env = (false, eval e X.env) :: starEach es X.env := by rfl) (hpl : (backTo pos (starEach es X.env)).any (·.1) = false := by rfl) :
    PE X (.Call (.Name x p) (e :: es) [] pos) (tE T (xCallZ g xa)) := by
  obtain ⟨f, fd, F, hm, hk2, hb, _⟩ := c.ex
  exact (pe_call F (hr.mono hk) hg hm hk2 hb .nil (pass0 (X := X)) ha hdb he hpl).weak fun _ _ _ h => weak_callZ h
end
/-- a def of the text, under its name, its code object -/
structure DefL (K : PySem.W.Frag) (mg : Str → Option Value) (x : Str) (st : Stmt) (c : Addr) : Prop where
  ex : ∃ f fd, FunD K x x (defArgs st) (defBody st) (defScope st) [] [] f fd ∧ mg x = some (.ref f) ∧ fd.code = .ref c
theorem DefL.at_ {K : PySem.W.Frag} {mg : Str → Option Value} {x : Str} {st : Stmt} {c : Addr} (h : DefL K mg x st c) : DefAt K mg x st := by
  obtain ⟨f, fd, F, hm, _⟩ := h.ex
  exact ⟨f, fd, F, hm⟩
/-! ### calls while no repr is open -/
structure FnOkG (P : Program) (w : World) (K : PySem.W.Frag) (mg : Str → Option Value) (base : Heap) (CX : CXT) (k : Nat) (f : Addr) (fd : FuncData) (ps : List Str) (sp : Sp) : Prop where
  len : ∀ vs H Q E, sp vs H Q E → vs.length = ps.length
  run : ∀ (A : Around) (outer : List Env) (s : Shared) (H : Hp) (args : Args) (us : List Value) (vs : List V) (Q : VK) (E : XK), Room k A → A.guards = some [] → Env0 P w K mg base A outer s H → BindsTo s fd args (ps.zip us) → Vals vs us → sp vs H Q E →
    codeAny (model P w) A (.call (.ref f) args) (CR CX outer P w H s Q E) s
structure FG (P : Program) (w : World) (K : PySem.W.Frag) (mg : Str → Option Value) (base : Heap) (k : Nat) (x : Str) (ps : List Str) (sp : Sp) : Prop where
  ex : ∃ f fd, FnOkG P w K mg base CX0 k f fd ps sp ∧ mg x = some (.ref f) ∧ PySem.W.keepIn K (.ref f) = true ∧ Binds K fd ps [] ∧ ∃ oc od osl, K.lookup f = some ⟨oc, od, .func fd, osl⟩
theorem FA.g {P : Program} {w : World} {K : PySem.W.Frag} {mg : Str → Option Value} {base : Heap} {k : Nat} {x : Str} {ps : List Str} {sp : Sp} (h : FA P w K mg base k x ps sp) : FG P w K mg base k x ps sp := by
  obtain ⟨f, fd, F, a⟩ := h.ex
  exact ⟨f, fd, ⟨F.len, fun A outer s H args us vs Q E hr _ e0 hb r h => F.run A outer s H args us vs Q E hr e0 hb r h⟩, a⟩
theorem pe_callG {X : Cx} {CX : CXT} {k : Nat} {f : Addr} {fd : FuncData} {ps : List Str} {sp : Sp} {E : XK} {x : Str} {p pos : Pos} {e : Expr} {es : List Expr} {t : TA} (F : FnOkG X.prog X.w X.K X.mg X.base CX k f fd ps sp) (hr : Room k X.A) (hG : X.A.guards = some []) (hg : Gl X x) (hm : X.mg x = some (.ref f)) (hk : PySem.W.keepIn X.K (.ref f) = true) (hb : Binds X.K fd ps []) (hx : Passes CX X E)
    (ha : PA X (e :: es) t) (hdb : (x == ("__debug__" : Str)) = false := by decide) (he : starEach (e :: es) X.env = (false, eval e X.env) :: starEach es X.env := by rfl) (hpl : (backTo pos (starEach es X.env)).any (·.1) = false := by rfl) :
    PE X (.Call (.Name x p) (e :: es) [] pos) (tCall sp [] E t) := by
  refine ⟨fun pins s σ H Q I h => ?_⟩
  refine wpAny_Call_Name_kw (ld_glob I hg hm ?_ hdb)
  refine PySem.W.callWith_K (h₀ := X.base) I.ok.mod.kin hk (thn (ha.run pos pins s σ H _ I h) fun us s1 ⟨vs, H1, I1, r, q⟩ => ⟨I1.kIn, ?_⟩) he hpl
  have q : sp (vs ++ []) H1 Q E := q
  rw [List.append_nil] at q
  have hl : (us ++ []).length = ps.length := by rw [List.append_nil, ← r.length]; exact F.len _ _ _ _ q
  have b1 := hb s1 us I1.kIn hl
  rw [List.append_nil] at b1
  refine wpAny_call (codeAny_mono (F.run X.A X.stack s1 H1 ⟨us, []⟩ us vs Q E hr hG I1.env0 b1 r q) fun r s' hq => ?_)
  cases r with
  | error e => exact hx pins σ H1 s1 e s' I1 hq
  | ok fl =>
    cases fl with
    | ret u => exact I1.after hq
    | next => exact False.elim hq
    | brk => exact False.elim hq
    | cont => exact False.elim hq
theorem fn_ofG {CX : CXT} {P : Program} {w : World} {K : PySem.W.Frag} {mg : Str → Option Value} {base : Heap} {k : Nat} {f : Addr} {name qual : Str} {params : Arguments} {body : List Stmt} {scope : Scope} {dV kV doc pm cdv ct oc : Value} {an od : Option Addr}
    {osl : Array (Option Value)} {N ps : List Str} {sp : Sp} (lk : K.lookup f = some ⟨oc, od, .func (PySem.W.fnOf name qual params body scope dV kV doc pm an cdv ct), osl⟩) (hcd : PySem.W.codeIn K cdv qual = true) (S : FnScope N ps scope)
    (len : ∀ vs H Q E, sp vs H Q E → vs.length = ps.length)
    (hbody : ∀ (A : Around) (outer : List Env) (s : Shared) (H : Hp) (vs : List V) (Q : VK) (E : XK), Room k (A.deeper (envOfC qual scope s.heap.objs.size f cdv)) → (A.deeper (envOfC qual scope s.heap.objs.size f cdv)).guards = some [] → sp vs H Q E →
      ∃ t, PSs (cxOf CX P w K mg base N qual scope f cdv A outer s H E) body t ∧ t { nx := fun _ H' => Q .non H', rt := Q } (L2.start N vs) H) :
    FnOkG P w K mg base CX (k + 1) f (PySem.W.fnOf name qual params body scope dV kV doc pm an cdv ct) ps sp := by
  refine ⟨len, fun A outer s H args us vs Q E hr hG e0 hb r hsp => ?_⟩
  exact LamX.run_ofS lk hcd S hr e0 hb r (len _ _ _ _ hsp) fun hr2 => hbody A outer s H vs Q E hr2 hG hsp
section
variable {P : Program} {w : World} {K : PySem.W.Frag} {mg : Str → Option Value} {base : Heap} {x : Str} {st : Stmt} {ps N : List Str} {k n slots : Nat} {xb : XS} {c : Addr}
/-- THE RULE of a def that shares cells -/
theorem fz_of (D : DefAt K mg x st) (S : FnScope N ps (defScope st)) (hn : ps.length = n) (hN : N.length = slots)
    (hb : ∀ (kV doc pm : Value) (an : Option Addr) (cdv ct : Value) (us : List Value), us.length = ps.length → bindArgs (PySem.W.fnOf x x (defArgs st) (defBody st) (defScope st) .none kV doc pm an cdv ct) ⟨us, []⟩ = pure (ps.zip us))
    (hbody : ∀ (f : Addr) (cdv : Value) (A : Around) (outer : List Env) (s : Shared) (H : Hp) (E : XK), Room k (A.deeper (envOfC x (defScope st) s.heap.objs.size f cdv)) → PSs (cxOf CX0 P w K mg base N x (defScope st) f cdv A outer s H E).nox (defBody st) (tS T xb)) :
    FA P w K mg base (k + 1) x ps (spZ T (fnZ n slots xb)) := by
  obtain ⟨f, fd, F, hm⟩ := D.ex
  refine ⟨f, fd, F.ok S (fun vs H Q E h => (spZ_len (fun _ _ _ h => fnZ_len h) vs H Q E h).trans hn.symm) (fun cdv A outer s H vs Q E hr h => ⟨tS T xb, (hbody f cdv A outer s H E hr).nox, spZ_body hN h⟩), hm, F.kp, F.bindsN hb, funD_lk F⟩
/-- .. and makes lambdas -/
theorem fz_ofL (D : DefL K mg x st c) (S : FnScope N ps (defScope st)) (hn : ps.length = n) (hN : N.length = slots)
    (hb : ∀ (kV doc pm : Value) (an : Option Addr) (cdv ct : Value) (us : List Value), us.length = ps.length → bindArgs (PySem.W.fnOf x x (defArgs st) (defBody st) (defScope st) .none kV doc pm an cdv ct) ⟨us, []⟩ = pure (ps.zip us))
    (hbody : ∀ (f : Addr) (A : Around) (outer : List Env) (s : Shared) (H : Hp) (E : XK), Room k (A.deeper (envOfC x (defScope st) s.heap.objs.size f (.ref c))) → (A.guards = some [] → (A.deeper (envOfC x (defScope st) s.heap.objs.size f (.ref c))).guards = some []) → PSs (cxOf CX0 P w K mg base N x (defScope st) f (.ref c) A outer s H E).nox (defBody st) (tS T xb)) :
    FA P w K mg base (k + 1) x ps (spZ T (fnZ n slots xb)) := by
  obtain ⟨f, fd, F, hm, hc⟩ := D.ex
  have kp := F.kp
  have hbN := F.bindsN hb
  have lk0 := funD_lk F
  obtain ⟨oc, od, dV, kV, doc, pm, an, cdv, ct, osl, rfl, lk, hcd, _, _⟩ := F.ex
  have hc : cdv = .ref c := hc
  subst hc
  exact ⟨f, _, fn_of lk hcd S (fun vs H Q E h => (spZ_len (fun _ _ _ h => fnZ_len h) vs H Q E h).trans hn.symm) (fun A outer s H vs Q E hr h => ⟨tS T xb, (hbody f A outer s H E hr fun g => g).nox, spZ_body hN h⟩), hm, kp, hbN, lk0⟩
/-- .. and shows lists -/
theorem fg_ofL (D : DefL K mg x st c) (S : FnScope N ps (defScope st)) (hn : ps.length = n) (hN : N.length = slots)
    (hb : ∀ (kV doc pm : Value) (an : Option Addr) (cdv ct : Value) (us : List Value), us.length = ps.length → bindArgs (PySem.W.fnOf x x (defArgs st) (defBody st) (defScope st) .none kV doc pm an cdv ct) ⟨us, []⟩ = pure (ps.zip us))
    (hbody : ∀ (f : Addr) (A : Around) (outer : List Env) (s : Shared) (H : Hp) (E : XK), Room k (A.deeper (envOfC x (defScope st) s.heap.objs.size f (.ref c))) → (A.deeper (envOfC x (defScope st) s.heap.objs.size f (.ref c))).guards = some [] → PSs (cxOf CX0 P w K mg base N x (defScope st) f (.ref c) A outer s H E).nox (defBody st) (tS T xb)) :
    FG P w K mg base (k + 1) x ps (spZ T (fnZ n slots xb)) := by
  obtain ⟨f, fd, F, hm, hc⟩ := D.ex
  have kp := F.kp
  have hbN := F.bindsN hb
  have lk0 := funD_lk F
  obtain ⟨oc, od, dV, kV, doc, pm, an, cdv, ct, osl, rfl, lk, hcd, _, _⟩ := F.ex
  have hc : cdv = .ref c := hc
  subst hc
  exact ⟨f, _, fn_ofG lk hcd S (fun vs H Q E h => (spZ_len (fun _ _ _ h => fnZ_len h) vs H Q E h).trans hn.symm) (fun A outer s H vs Q E hr hG h => ⟨tS T xb, (hbody f A outer s H E hr hG).nox, spZ_body hN h⟩), hm, kp, hbN, lk0⟩
end
end XL
end
section
set_option maxRecDepth 100000
set_option maxHeartbeats 4000000
/-! XX7: a list some times, repr of a text, of a list, divisors of any size. -/
namespace XL
open PySem PySem.Spec PyProof.Rows L2
variable {T : Tb}
def repD (xs : List D) : Nat → List D
  | 0 => []
  | n + 1 => xs ++ repD xs n
theorem rep_flat {α : Type} (xs : List α) : ∀ n : Nat, (List.replicate (n + 1) xs).flatten = xs ++ (List.replicate n xs).flatten := fun n => by
  rw [List.replicate_succ, List.flatten_cons]
theorem repD_ok {I : Hp} {al : List Addr} {vs : List V} {xs : List D} (h : RepL I al vs xs) : ∀ n : Nat, RepL I al (List.replicate n vs).flatten (repD xs n)
  | 0 => .nil
  | n + 1 => by
    rw [rep_flat]
    exact h.append (repD_ok h n)
/-- a list of the def's own, j times -/
def gRep : G2 := fun x y c => match x with
  | .ref k => (match nth c k with
    | some (.lst xs) => (match y with
      | .int (.ofNat j) => (match Nat.ble (xs.length * j) 64 && Nat.ble j 64 with
        | true => some (.ref c.length, c ++ [.lst (repD xs j)])
        | false => none)
      | _ => none)
    | _ => none)
  | _ => none
theorem snd_rep : Snd2 rRep gRep := by
  intro T W cs H x y dx dy d cs' Q R r1 r2 e k
  cases dx with
  | ref kk =>
    dsimp only [gRep] at e
    cases q : nth cs kk with
    | none => rw [q] at e; cases e
    | some cl =>
      rw [q] at e
      cases cl with
      | lst xs =>
        cases dy with
        | int i =>
          cases i with
          | ofNat j =>
            have e : (match Nat.ble (xs.length * j) 64 && Nat.ble j 64 with
              | true => some (D.ref cs.length, cs ++ [Cell.lst (repD xs j)])
              | false => none) = some (d, cs') := e
            cases q2 : (Nat.ble (xs.length * j) 64 && Nat.ble j 64) with
            | false => rw [q2] at e; cases e
            | true =>
              rw [q2] at e
              cases e
              have hz := Nat.le_of_ble_eq_true (Bool.and_eq_true_iff.mp q2).1
              have hj := Nat.le_of_ble_eq_true (Bool.and_eq_true_iff.mp q2).2
              obtain rfl := rep_int r2
              cases r1 with
              | ref ea =>
                rw [nth_eq] at q
                obtain ⟨h1, h2, vs, h3, h4⟩ := R.cell kk _ _ ea q
                refine ⟨_, _, vs, rfl, rfl, h3, by show -(2 ^ 63) ≤ ((j : Nat) : Int); omega, by show ((j : Nat) : Int) < 2 ^ 63; omega, ?_, fun p hp => ?_⟩
                · show vs.length * (Int.toNat ((j : Nat) : Int)) ≤ sizeLine
                  rw [h4.length, Int.toNat_natCast, sizeLine_eq]
                  omega
                · obtain ⟨W2, le, R2, p2⟩ := R.newLst hp (repD_ok h4 j)
                  exact k W2 _ _ le R2 p2
          | negSucc j => cases e
        | _ => cases e
      | _ => cases e
  | _ => cases e
/-! ### repr -/
def gReprS : GL := fun ds c => match ds with
  | [.str z] => (match Nat.ble (PySem.reprText z).length 1000 with
    | true => some (.str (PySem.reprText z), c)
    | false => none)
  | _ => none
theorem sl_reprS : SndL rRepr gReprS := by
  intro T W cs H xs ds d cs' Q R rl e k
  match ds, e with
  | [.str z], e =>
    have e : (match Nat.ble (PySem.reprText z).length 1000 with
      | true => some (D.str (PySem.reprText z), cs)
      | false => none) = some (d, cs') := e
    cases q2 : Nat.ble (PySem.reprText z).length 1000 with
    | false => rw [q2] at e; cases e
    | true =>
      rw [q2] at e
      cases e
      have hz := Nat.le_of_ble_eq_true q2
      obtain ⟨v, rfl, rv⟩ := repL1 rl
      cases rv
      exact ⟨z, rfl, by rw [sizeLine_eq]; omega, k W _ H (Le.refl W) R .str⟩
def rReprP (K : PySem.W.Frag) : List V → Hp → VK → Prop := fun xs H Q => ∃ a p, xs = [.ref a] ∧ Dp K H (.ref a) p ∧ p.showable = true ∧ p.hasDict = false ∧ p.depth ≤ 12 ∧ p.shown.length ≤ sizeLine ∧ Q (.str p.shown) H
theorem cr_reprP {X : Cx} {j : Nat} (hr : Room j X.A) (hG : X.A.guards = some []) : CallR X (.builtin "repr") (rReprP X.K) := by
  intro pins s σ H xs us Q I r h
  obtain ⟨a, p, rfl, hp, h1, h2, h3, h4, q⟩ := h
  obtain ⟨u, rfl, ru⟩ := vals1 r
  obtain ⟨as, rd⟩ := Dp.reads I p _ u hp ru
  obtain rfl : u = Value.ref a := ru
  refine repr_of_reads' rd h1 (fun z => by rw [h2] at z; cases z) hG (by have := hr.un; omega) (fun _ _ e => e) (fun h' u tk hk => ?_) h4
  exact ⟨.str _, H, I.kept hk, ⟨_, rfl⟩, q⟩
def isLP : PyData → Bool
  | .list _ => true
  | _ => false
def gReprP : GL := fun ds c => match ds with
  | [d] => (match pyD 12 c d with
    | some p => (match isLP p && (p.showable && (!p.hasDict && Nat.ble p.shown.length 1000)) with
      | true => some (.str p.shown, c)
      | false => none)
    | none => none)
  | _ => none
theorem sl_reprP {K : PySem.W.Frag} : SndL (rReprP K) gReprP := by
  intro T W cs H xs ds d cs' Q R rl e k
  match ds, e with
  | [dd], e =>
    have e : (match pyD 12 cs dd with
      | some p => (match isLP p && (p.showable && (!p.hasDict && Nat.ble p.shown.length 1000)) with
        | true => some (D.str p.shown, cs)
        | false => none)
      | none => none) = some (d, cs') := e
    cases q1 : pyD 12 cs dd with
    | none => rw [q1] at e; cases e
    | some p =>
      rw [q1] at e
      have e : (match isLP p && (p.showable && (!p.hasDict && Nat.ble p.shown.length 1000)) with
        | true => some (D.str p.shown, cs)
        | false => none) = some (d, cs') := e
      cases q2 : (isLP p && (p.showable && (!p.hasDict && Nat.ble p.shown.length 1000))) with
      | false => rw [q2] at e; cases e
      | true =>
        rw [q2] at e
        cases e
        obtain ⟨a1, a2⟩ := Bool.and_eq_true_iff.mp q2
        obtain ⟨a2, a3⟩ := Bool.and_eq_true_iff.mp a2
        obtain ⟨a3, a4⟩ := Bool.and_eq_true_iff.mp a3
        have hz := Nat.le_of_ble_eq_true a4
        obtain ⟨v, rfl, rv⟩ := repL1 rl
        have h1 := pyD_ok (K := K) R 12 v dd p rv q1
        cases p with
        | list ps =>
          obtain ⟨h0, _, h2⟩ := h1
          cases h0 with
          | lst e1 e2 => exact ⟨_, _, rfl, .lst e1 e2, a2, by simpa using a3, h2, by rw [sizeLine_eq]; omega, k W _ H (Le.refl W) R .str⟩
        | _ => cases a1
section
variable {X : Cx} {e : Expr} {ya : XA} {p pos : Pos} {j : Nat} {a b : Expr} {xa xb : XE}
theorem c_reprS (B : Blt X.mg) (hg : Gl X "repr") (ha : PA X [e] (tA T ya)) (he : starEach [e] X.env = (false, eval e X.env) :: starEach [] X.env := by rfl) : PE X (.Call (.Name "repr" p) [e] [] pos) (tE T (xFn gReprS ya)) := xe_callB cr_repr sl_reprS hg B.repr_ boot_repr ha (by decide) (by decide) he rfl
theorem c_reprP (hr : Room j X.A) (hG : X.A.guards = some []) (B : Blt X.mg) (hg : Gl X "repr") (ha : PA X [e] (tA T ya)) (he : starEach [e] X.env = (false, eval e X.env) :: starEach [] X.env := by rfl) : PE X (.Call (.Name "repr" p) [e] [] pos) (tE T (xFn gReprP ya)) := xe_callB (cr_reprP hr hG) sl_reprP hg B.repr_ boot_repr ha (by decide) (by decide) he rfl
theorem e_rep (ha : PE X a (tE T xa)) (hb : PE X b (tE T xb)) : PE X (.BinOp a .Mult b pos) (tE T (xOp gRep xa xb)) := xe_op op_rep snd_rep ha hb
end
/-! ### a positive divisor of any size -/
def posB (i : Int) : Bool := match i with
  | .ofNat n => Nat.blt 0 n
  | .negSucc _ => false
theorem posB_b {i : Int} (h : posB i = true) : 0 < i := by
  cases i with
  | ofNat n =>
    have h1 : 0 < n := Nat.le_of_ble_eq_true (show Nat.ble 1 n = true from h)
    show 0 < ((n : Nat) : Int)
    omega
  | negSucc n => cases h
def gModB : G2 := fun x y c => match x, y with
  | .int i, .int j => (match posB j with
    | true => some (.int (i % j), c)
    | false => none)
  | _, _ => none
theorem snd_modB : Snd2 (rI (fun _ j => 0 < j) fun i j => .int (i % j)) gModB := by
  intro T W cs H x y dx dy d cs' Q R r1 r2 e k
  cases dx with
  | int i => cases dy with
    | int j =>
      have e : (match posB j with
        | true => some (D.int (i % j), cs)
        | false => none) = some (d, cs') := e
      cases q : posB j with
      | false => rw [q] at e; cases e
      | true =>
        rw [q] at e
        cases e
        obtain rfl := rep_int r1
        obtain rfl := rep_int r2
        exact ⟨i, j, rfl, rfl, posB_b q, k W _ H (Le.refl W) R .int⟩
    | _ => cases e
  | _ => cases e
theorem e_modB {X : Cx} {a b : Expr} {xa xb : XE} {pos : Pos} (ha : PE X a (tE T xa)) (hb : PE X b (tE T xb)) : PE X (.BinOp a .Mod b pos) (tE T (xOp gModB xa xb)) := xe_op op_mod snd_modB ha hb
end XL
end
section
set_option maxRecDepth 100000
set_option maxHeartbeats 4000000
/-! XX8: o[i], x = divmod(a, b). -/
namespace XL
open PySem PySem.Spec PyProof.Rows L2
variable {T : Tb}
def xDivSet (o ix : XE) (nm : Nat) (xa : XA) : XS := fun sl cs => bnd (xa sl cs) fun ds c => match ds with
  | [.int i, .int j] => (match posI j with
    | true => bnd (o sl c) fun x c1 => bnd (ix sl c1) fun y c2 => (match y with
      | .int n => (match putLst c2 x n (.int (i / j)) with
        | some c3 => some (.nx (setN sl nm (some (.int (i % j)))) c3)
        | none => none)
      | _ => none)
    | false => none)
  | _ => none
section
variable {X : Cx} {o i a b : Expr} {xo xi : XE} {xa : XA} {x : Str} {px pi pt pos p pd : Pos} {kt : Nat}
theorem xs_divset (nm : Nat) (B : Blt X.mg) (hc : X.calm = true) (hg : Gl X "divmod") (ho : PE X o (tE T xo)) (hi : PE X i (tE T xi)) (ha : PA X [a, b] (tA T xa)) (hN : X.N.Nodup) (hx : X.N[nm]? = some x) (hl : Loc X.env.scope x)
    (hs : swapsWithSole [.Tuple [.Subscript o i pi, .Name x px] kt pt] (.Call (.Name "divmod" p) [a, b] [] pd) pos.line X.env = pure false := by rfl) (hw : swappedStores [.Tuple [.Subscript o i pi, .Name x px] kt pt] (.Call (.Name "divmod" p) [a, b] [] pd) X.env = pure none := by rfl)
    (h1 : (assignEach [.Tuple [.Subscript o i pi, .Name x px] kt pt] X.env).map (·.2) = [assign (.Tuple [.Subscript o i pi, .Name x px] kt pt) X.env] := by rfl)
    (hn : (assignEach [.Subscript o i pi, .Name x px] X.env).length = 2 := by rfl) (hst : (assignEach [.Subscript o i pi, .Name x px] X.env).findIdx? (·.1) = none := by rfl)
    (he : starEach [a, b] X.env = (false, eval a X.env) :: starEach [b] X.env := by rfl) (hpl : (backTo pd (starEach [b] X.env)).any (·.1) = false := by rfl)
    (hav : ∀ v, assign (.Subscript o i pi) X.env v = (do
      let ov ← holding [v] (eval o X.env)
      let iv ← holding [v, ov] (eval i X.env)
      standAt pi
      holding [v, ov, iv] (setItem ov iv v)
      release [v, ov, iv] []) := by intro _; rfl)
    (hf : X.fn x = true ∨ X.env.scope.names.lookup x = some .local := by first | exact .inl rfl | exact .inr rfl | assumption) :
    PS X (.Assign [.Tuple [.Subscript o i pi, .Name x px] kt pt] (.Call (.Name "divmod" p) [a, b] [] pd) pos) (tS T (xDivSet xo xi nm xa)) :=
  (ps_asg (pe_callB call_divmod hg B.divmod_ (by kernel_rfl) ha (by decide) (by decide) he hpl) (pg_tup (n := 2) hc (pgs_cons (pg_sub ho hi set_list hav) (pgs_cons (pg_name hN hx hl hf) pgs_nil)) hn hst) hs hw h1).weak fun DD σ H h => by
    obtain ⟨W, sl, cs, ot, hs, hr, e, k⟩ := h
    obtain ⟨ds, c0, e0, e⟩ := bnd_some e
    refine ⟨W, sl, cs, ds, c0, hs, hr, e0, fun W0 vs H0 l0 r0 p0 => ?_⟩
    match ds, e with
    | [.int i, .int j], e =>
      obtain ⟨v1, v2, rfl, rv1, rv2⟩ := repL2 p0
      cases rv1
      cases rv2
      have e : (match posI j with
        | true => bnd (xo sl c0) fun x c1 => bnd (xi sl c1) fun y c2 => (match y with
          | .int n => (match putLst c2 x n (.int (i / j)) with
            | some c3 => some (Out.nx (setN sl nm (some (.int (i % j)))) c3)
            | none => none)
          | _ => none)
        | false => none) = some ot := e
      cases qj : posI j with
      | false => rw [qj] at e; cases e
      | true =>
        rw [qj] at e
        obtain ⟨x, c1, ea, e⟩ := bnd_some e
        obtain ⟨y, c2, eb, e⟩ := bnd_some e
        refine ⟨i, j, rfl, posI_b qj, fun p hp => ?_⟩
        obtain ⟨W1, l1, R1, p1⟩ := r0.newTup hp (.cons (.int (i := i / j)) (.cons (.int (i := i % j)) .nil))
        refine ⟨p, _, rfl, atup_t (.inl upd_same), rfl, _, _, rfl, W1, sl, c0, x, c1, hs.le (l0.trans l1), R1, ea, fun W2 v2 H2 l2 r2 p2 => ⟨W2, sl, c1, y, c2, hs.le (l0.trans (l1.trans l2)), r2, eb, fun W3 v3 H3 l3 r3 p3 => ?_⟩⟩
        cases y with
        | int n =>
          obtain rfl := rep_int p3
          have e : (match putLst c2 x n (.int (i / j)) with
            | some c3 => some (Out.nx (setN sl nm (some (.int (i % j)))) c3)
            | none => none) = some ot := e
          cases q : putLst c2 x n (.int (i / j)) with
          | none => rw [q] at e; cases e
          | some c3 =>
            rw [q] at e
            cases e
            refine putLst_ok r3 (p2.le l3) .int q _ fun H' R' => ⟨_, _, rfl, rfl, ?_⟩
            have lA := l0.trans (l1.trans (l2.trans l3))
            refine k W3 _ H' lA ?_ R'
            rw [setN_eq]
            exact (hs.le lA).set nm .int
        | _ => cases e
end
end XL
end
section
set_option maxRecDepth 100000
set_option maxHeartbeats 4000000
/-! XX9: three names at once. -/
namespace XL
open PySem PySem.Spec PyProof.Rows L2
variable {T : Tb}
def xPar3 (i j l : Nat) (a : XA) : XS := fun sl cs => bnd (a sl cs) fun ds c => match ds with
  | [x, y, z] => some (.nx (setN (setN (setN sl i (some x)) j (some y)) l (some z)) c)
  | _ => none
theorem xs_par3 {X : Cx} (i j l : Nat) {x y z : Str} {a b c : Expr} {ya : XA} {px py pz pt pos : Pos} {kt k2 pt2} (hc : X.calm = true) (hN : X.N.Nodup) (hi : X.N[i]? = some x) (hj : X.N[j]? = some y) (hl : X.N[l]? = some z) (hij : i ≠ j) (hil : i ≠ l) (hjl : j ≠ l)
    (hx : X.env.scope.names.lookup x = some .local) (hy : X.env.scope.names.lookup y = some .local) (hz : X.env.scope.names.lookup z = some .local) (ha : PA X [a, b, c] (tA T ya))
    (hw : swappedStores [.Tuple [.Name x px, .Name y py, .Name z pz] kt pt] (.Tuple [a, b, c] k2 pt2) X.env = pure (some [x, y, z]))
    (hs : swapsWithSole [.Tuple [.Name x px, .Name y py, .Name z pz] kt pt] (.Tuple [a, b, c] k2 pt2) pos.line X.env = pure false := by rfl) :
    PS X (.Assign [.Tuple [.Name x px, .Name y py, .Name z pz] kt pt] (.Tuple [a, b, c] k2 pt2) pos) (tS T (xPar3 i j l ya)) := (ps_par3 hc hN hi hj hl hij hil hjl hx hy hz ha hw hs).weak fun D σ H h => by
  obtain ⟨W, sl, cs, o, hs, hr, e, k⟩ := h
  obtain ⟨ds, c1, ea, e⟩ := bnd_some e
  match ds, e with
  | [d1, d2, d3], e =>
    cases e
    refine ⟨W, sl, cs, [d1, d2, d3], c1, hs, hr, ea, fun W1 v1 H1 l1 r1 p1 => ?_⟩
    cases p1 with
    | cons q1 p1 =>
      cases p1 with
      | cons q2 p1 =>
        cases p1 with
        | cons q3 p1 =>
          cases p1
          have k : ∀ W' σ H, Le W W' → RelS W' (setN (setN (setN sl i (some d1)) j (some d2)) l (some d3)) σ → Rel T W' c1 H → D.nx σ H := k
          rw [setN_eq, setN_eq, setN_eq] at k
          exact ⟨_, _, _, rfl, k W1 _ H1 l1 ((((hs.le l1).set i q1).set j q2).set l q3) r1⟩
end XL
end
section
set_option maxRecDepth 100000
set_option maxHeartbeats 4000000
/-! XX10: defs that make lambdas but keep no cell of the caller's. -/
namespace XL
open PySem PySem.Spec PyProof.Rows L2
variable {T : Tb}
def spL (T : Tb) (f : List D → Option D) : Sp := fun vs H Q _ => ∃ (I : Hp) (ds : List D) (r : D), T.tb ≠ [] ∧ Same I H ∧ (∀ a ps, I a ≠ some (.tbl ps)) ∧ RepL I [] vs ds ∧ LamX.Tabs T.tb H ∧ f ds = some r ∧
  ∀ (I' H' : Hp) (v : V), LamX.ExtN H H' → LamX.Tabs T.tb H' → Same I I' → Same I' H' → (∀ a o, I' a = some o → I a = some o ∨ H a = none ∨ ∃ ps, H a = some (.tbl ps)) → (∀ a ps, I' a ≠ some (.tbl ps)) → Rep I' [] v r → Q v H'
/-- all but the tables -/
def noTb (H : Hp) : Hp := fun a => match H a with
  | some (.tbl _) => none
  | o => o
theorem noTb_some {H : Hp} {a : Addr} {o : HO} (h : noTb H a = some o) : H a = some o ∧ ∀ ps, o ≠ .tbl ps := by
  unfold noTb at h
  cases q : H a with
  | none => rw [q] at h; cases h
  | some u =>
    rw [q] at h
    cases u with
    | tbl ps => cases h
    | _ => cases h; exact ⟨rfl, fun _ z => nomatch z⟩
theorem noTb_of {H : Hp} {a : Addr} {o : HO} (h : H a = some o) (n : ∀ ps, o ≠ .tbl ps) : noTb H a = some o := by
  unfold noTb
  rw [h]
  cases o with
  | tbl ps => exact absurd rfl (n ps)
  | _ => rfl
theorem noTb_none {H : Hp} {a : Addr} (h : noTb H a = none) : H a = none ∨ ∃ ps, H a = some (.tbl ps) := by
  cases q : H a with
  | none => exact .inl rfl
  | some u =>
    cases u with
    | tbl ps => exact .inr ⟨ps, rfl⟩
    | _ =>
      unfold noTb at h
      rw [q] at h
      cases h
theorem spL_body {n slots : Nat} {body : XS} {N : List Str} {vs : List V} {H : Hp} {Q : VK} {E : XK} (hN : N.length = slots) (h : spL T (fnX n slots body) vs H Q E) : tS T body { nx := fun _ H' => Q .non H', rt := Q } (L2.start N vs) H := by
  obtain ⟨I, ds, r, hT, sI, nI, rv, tb, e, k⟩ := h
  have el := fnX_len e
  unfold fnX at e
  have hb : Nat.beq ds.length n = true := by rw [el]; exact Nat.beq_refl n
  rw [hb] at e
  have R0 : Rel T ⟨noTb H, I, I, [], T.C, T.nm⟩ [] H := ⟨fun a o h => (noTb_some h).1, sI, fun a o h => .inl h, rfl, List.nodup_nil, fun k a c h => by simp at h, nI, tb, fun _ a ps h => (noTb_some h).2 ps rfl, rfl, rfl⟩
  have S0 : RelS ⟨noTb H, I, I, [], T.C, T.nm⟩ (ds.map some ++ List.replicate (slots - n) none) (L2.start N vs) := relS_start hN rv el
  have ext : ∀ {W' : Wd} {H' : Hp} {cs : Cs}, Le ⟨noTb H, I, I, [], T.C, T.nm⟩ W' → Rel T W' cs H' → LamX.ExtN H H' ∧ ∀ a o, W'.I a = some o → I a = some o ∨ H a = none ∨ ∃ ps, H a = some (.tbl ps) := fun {W' H' cs} l R => by
    refine ⟨fun b o h n => R.keep b o (by rw [l.h0]; exact noTb_of h n), fun a o h => ?_⟩
    rcases R.new a o h with z | z
    · rw [l.b] at z
      exact .inl z
    · rw [l.h0] at z
      exact .inr (noTb_none z)
  cases q : body (ds.map some ++ List.replicate (slots - n) none) [] with
  | none => rw [q] at e; cases e
  | some o =>
    rw [q] at e
    refine ⟨_, _, _, o, S0, R0, q, ?_⟩
    cases o with
    | nx sl cs =>
      cases e
      intro W' σ H' l rs rl
      exact k W'.I H' .non (ext l rl).1 rl.tabs l.i rl.imm (ext l rl).2 rl.nt .non
    | rt d cs =>
      intro W' v H' l rl rp
      have e : (match pureD fuelP d cs with
        | some (r, _) => some r
        | none => none) = some r := e
      cases q2 : pureD fuelP d cs with
      | none => rw [q2] at e; cases e
      | some p =>
        obtain ⟨r2, c2⟩ := p
        rw [q2] at e
        cases e
        obtain ⟨W2, l2, a2, R2, p2, _⟩ := pureD_ok fuelP T W' cs H' v d _ c2 rl rp q2
        have l3 := l.trans l2
        exact k W2.I H' v (ext l3 R2).1 R2.tabs l3.i R2.imm (ext l3 R2).2 R2.nt p2
    | bk sl cs => cases e
    | ct sl cs => cases e
theorem spL_len {f : List D → Option D} {n : Nat} (hf : ∀ ds r, f ds = some r → ds.length = n) : ∀ vs H Q E, spL T f vs H Q E → vs.length = n := fun vs H Q E ⟨I, ds, r, _, _, _, rv, _, e, _⟩ => rv.length.trans (hf ds r e)
theorem spL_imp {f g : List D → Option D} (h : ∀ ds r, g ds = some r → f ds = some r) : ∀ vs H Q E, spL T g vs H Q E → spL T f vs H Q E := fun vs H Q E ⟨I, ds, r, a, b, c, d, e, x, y⟩ => ⟨I, ds, r, a, b, c, d, e, h ds r x, y⟩
theorem spC_imp' {f g : List D → Option D} (h : ∀ ds r, g ds = some r → f ds = some r) : ∀ vs H Q E, spC g vs H Q E → spC f vs H Q E := spC_imp h
theorem Rel.calledL {W : Wd} {cs : Cs} {H H' I' : Hp} (R : Rel T W cs H) (hT : T.tb ≠ []) (hH : LamX.ExtN H H') (tb : LamX.Tabs T.tb H') (hI : Same W.I I') (im : Same I' H') (nw : ∀ a o, I' a = some o → W.I a = some o ∨ H a = none ∨ ∃ ps, H a = some (.tbl ps)) (nt : ∀ a ps, I' a ≠ some (.tbl ps)) : Le W { W with I := I' } ∧ Rel T { W with I := I' } cs H' := by
  have le : Le W { W with I := I' } := ⟨rfl, rfl, rfl, rfl, hI, [], by simp⟩
  refine ⟨le, ⟨fun b o h => hH b o (R.keep b o h) fun ps z => R.h0t hT b ps (by rw [h, z]), im, fun a o h => ?_, R.len, R.nd, fun k a c h1 h2 => ?_, nt, tb, R.h0t, R.wc, R.wn⟩⟩
  · rcases nw a o h with h | h | ⟨ps, h⟩
    · exact R.new a o h
    · exact .inr (R.keep.free h)
    · cases q : W.H0 a with
      | none => exact .inr rfl
      | some u =>
        have := R.keep a u q
        rw [h] at this
        cases this
        exact absurd q (R.h0t hT a ps)
  · have ok := R.cell k a c h1 h2
    have key : ∀ o, H a = some o → (∀ ps, o ≠ .tbl ps) → (H' a = H a) ∧ (W.I a = none → I' a = none) := fun o h n => by
      refine ⟨by rw [h]; exact hH a o h n, fun z => ?_⟩
      cases q : I' a with
      | none => rfl
      | some u =>
        rcases nw a u q with y | y | ⟨ps, y⟩
        · rw [z] at y; cases y
        · rw [h] at y; cases y
        · rw [h] at y
          exact absurd (Option.some.inj y) (n ps)
    have hh : (H' a = H a) ∧ (W.I a = none → I' a = none) := by
      cases c with
      | lst xs => obtain ⟨_, _, vs, h3, _⟩ := ok; exact key _ h3 fun _ z => nomatch z
      | fz xs => obtain ⟨vs, h3, _⟩ := ok; exact key _ (R.imm _ _ h3) fun _ z => nomatch z
      | dic xs => obtain ⟨_, _, ps, h3, _⟩ := ok; exact key _ h3 fun _ z => nomatch z
      | ins xs => obtain ⟨_, _, dx, fs, h3, _⟩ := ok; exact key _ h3 fun _ z => nomatch z
      | dead => obtain ⟨o, h3⟩ := ok; exact key o (R.imm _ _ h3) fun ps z => R.nt a ps (by rw [h3, z])
    exact ok.le le hh.1 hh.2
theorem weak_callL {f : List D → Option D} {a : XA} {σ : L2.St} {H : Hp} {Q : VK} {E : XK} (hT : T.tb ≠ []) (h : tE T (xCall f a) σ H Q) : tCall (spL T f) [] E (tA T a) σ H Q := by
  obtain ⟨W, sl, cs, d, cs', hs, hr, e, k⟩ := h
  obtain ⟨ds, c1, ea, e⟩ := bnd_some e
  obtain ⟨es, c2, ep, e⟩ := bnd_some e
  refine ⟨W, sl, cs, ds, c1, hs, hr, ea, fun W1 vs H1 l1 r1 p1 => ?_⟩
  obtain ⟨W2, l2, a2, R2, p2, _⟩ := mapC_ok (pureD_ok fuelP) ds T W1 c1 H1 vs es c2 r1 p1 ep
  cases q : f es with
  | none => rw [q] at e; cases e
  | some r =>
    rw [q] at e
    cases e
    refine ⟨W2.I, es, d, hT, R2.imm, R2.nt, by rw [List.append_nil]; exact p2, R2.tabs, q, fun I' H' v s1 s2 s3 s4 s5 s6 rp => ?_⟩
    obtain ⟨l3, R3⟩ := R2.calledL hT s1 s2 s3 s4 s5 s6
    exact k _ v H' (l1.trans (l2.trans l3)) R3 (Rep.up (Same.refl _) d [] _ v rp)
section
variable {X : Cx} {x : Str} {ps : List Str} {p pos : Pos} {e : Expr} {es : List Expr} {xa : XA} {k j : Nat} {g : List D → Option D}
theorem xe_l (c : FA X.prog X.w X.K X.mg X.base k x ps (spL T g)) (hT : T.tb ≠ []) (hr : Room j X.A) (hk : k ≤ j) (hg : Gl X x) (ha : PA X (e :: es) (tA T xa)) (hdb : (x == ("__debug__" : Str)) = false := by decide)
    (he : starEach (e :: es) X.env = (false, eval e X.env) :: starEach es X.env := by rfl) (hpl : (backTo pos (starEach es X.env)).any (·.1) = false := by rfl) :
    PE X (.Call (.Name x p) (e :: es) [] pos) (tE T (xCall g xa)) := by
  obtain ⟨f, fd, F, hm, hk2, hb, _⟩ := c.ex
  exact (pe_call F (hr.mono hk) hg hm hk2 hb .nil (pass0 (X := X)) ha hdb he hpl).weak fun _ _ _ h => weak_callL hT h
end
section
variable {P : Program} {w : World} {K : PySem.W.Frag} {mg : Str → Option Value} {base : Heap} {x : Str} {st : Stmt} {ps N : List Str} {k n slots : Nat} {xb : XS} {c : Addr}
theorem fl_ofL (D : DefL K mg x st c) (S : FnScope N ps (defScope st)) (hn : ps.length = n) (hN : N.length = slots)
    (hb : ∀ (kV doc pm : Value) (an : Option Addr) (cdv ct : Value) (us : List Value), us.length = ps.length → bindArgs (PySem.W.fnOf x x (defArgs st) (defBody st) (defScope st) .none kV doc pm an cdv ct) ⟨us, []⟩ = pure (ps.zip us))
    (hbody : ∀ (f : Addr) (A : Around) (outer : List Env) (s : Shared) (H : Hp) (E : XK), Room k (A.deeper (envOfC x (defScope st) s.heap.objs.size f (.ref c))) → True → PSs (cxOf CX0 P w K mg base N x (defScope st) f (.ref c) A outer s H E).nox (defBody st) (tS T xb)) :
    FA P w K mg base (k + 1) x ps (spL T (fnX n slots xb)) := by
  obtain ⟨f, fd, F, hm, hc⟩ := D.ex
  have kp := F.kp
  have hbN := F.bindsN hb
  have lk0 := funD_lk F
  obtain ⟨oc, od, dV, kV, doc, pm, an, cdv, ct, osl, rfl, lk, hcd, _, _⟩ := F.ex
  have hc : cdv = .ref c := hc
  subst hc
  exact ⟨f, _, fn_of lk hcd S (fun vs H Q E h => (spL_len (fun _ _ h => fnX_len h) vs H Q E h).trans hn.symm) (fun A outer s H vs Q E hr h => ⟨tS T xb, (hbody f A outer s H E hr trivial).nox, spL_body hN h⟩), hm, kp, hbN, lk0⟩
end
end XL
end
section
set_option maxRecDepth 100000
set_option maxHeartbeats 0
/-! XMir: tables of the defs that are called most, printed by gen_mir.py. -/
namespace XL
open PySem PySem.Spec PyProof.Rows L2
mutual
def beqD : D → D → Bool
  | .non, .non => true
  | .bl a, .bl b => a == b
  | .int i, .int j => decide (i = j)
  | .str x, .str y => x == y
  | .tup xs, .tup ys => beqL xs ys
  | .ftup xs, .ftup ys => beqL xs ys
  | .lst xs, .lst ys => beqL xs ys
  | _, _ => false
def beqL : List D → List D → Bool
  | [], [] => true
  | x :: xs, y :: ys => beqD x y && beqL xs ys
  | _, _ => false
end
mutual
theorem beqD_ok : ∀ x y : D, beqD x y = true → x = y
  | .non, y, h => by cases y <;> first | rfl | simp [beqD] at h
  | .bl a, y, h => by cases y <;> simp [beqD] at h <;> rw [h]
  | .int a, y, h => by cases y <;> simp [beqD] at h <;> rw [h]
  | .str a, y, h => by cases y <;> simp [beqD] at h <;> rw [h]
  | .ty a, y, h => by cases y <;> simp [beqD] at h
  | .ref a, y, h => by cases y <;> simp [beqD] at h
  | .tup xs, y, h => by
    cases y with
    | tup ys => simp only [beqD] at h; rw [beqL_ok xs ys h]
    | _ => simp [beqD] at h
  | .ftup xs, y, h => by
    cases y with
    | ftup ys => simp only [beqD] at h; rw [beqL_ok xs ys h]
    | _ => simp [beqD] at h
  | .lst xs, y, h => by
    cases y with
    | lst ys => simp only [beqD] at h; rw [beqL_ok xs ys h]
    | _ => simp [beqD] at h
theorem beqL_ok : ∀ xs ys : List D, beqL xs ys = true → xs = ys
  | [], ys, h => by cases ys <;> first | rfl | simp [beqL] at h
  | x :: xs, ys, h => by
    cases ys with
    | nil => simp [beqL] at h
    | cons y ys =>
      simp only [beqL, Bool.and_eq_true] at h
      rw [beqD_ok x y h.1, beqL_ok xs ys h.2]
end
def isS (x : Option D) (y : D) : Bool := match x with
  | some d => beqD d y
  | none => false
theorem isS_ok {x : Option D} {y : D} (h : isS x y = true) : x = some y := by
  cases x with
  | none => cases h
  | some d => rw [beqD_ok d y h]
inductive Tr where
  | lf (d : D) | nd (l : List Tr) | no
def look : List D → Tr → Option D
  | [], .lf d => some d
  | .int (.ofNat i) :: xs, .nd l => (match nth l i with
    | some t => look xs t
    | none => none)
  | _, _ => none
mutual
def chkT (g : List D → Option D) : List D → Tr → Bool
  | pre, .lf d => isS (g pre.reverse) d
  | pre, .nd l => chkTs g pre 0 l
  | _, .no => true
def chkTs (g : List D → Option D) : List D → Nat → List Tr → Bool
  | _, _, [] => true
  | pre, i, t :: ts => chkT g (.int (.ofNat i) :: pre) t && chkTs g pre (i + 1) ts
end

theorem chkTs_at {g : List D → Option D} : ∀ (ts : List Tr) (pre : List D) (i j : Nat) (t : Tr), chkTs g pre i ts = true → nth ts j = some t → chkT g (.int (.ofNat (i + j)) :: pre) t = true
  | [], _, _, _, _, _, h => by cases h
  | t :: ts, pre, i, 0, u, h, e => by
    simp only [chkTs, Bool.and_eq_true] at h
    cases e
    exact h.1
  | t :: ts, pre, i, j + 1, u, h, e => by
    simp only [chkTs, Bool.and_eq_true] at h
    have := chkTs_at ts pre (i + 1) j u h.2 e
    rw [show i + 1 + j = i + (j + 1) by omega] at this
    exact this
theorem look_ok {g : List D → Option D} : ∀ (xs pre : List D) (t : Tr) (r : D), chkT g pre t = true → look xs t = some r → g (pre.reverse ++ xs) = some r
  | [], pre, t, r, h, e => by
    cases t with
    | lf d =>
      cases e
      rw [List.append_nil]
      simp only [chkT] at h
      exact isS_ok h
    | _ => cases e
  | x :: xs, pre, t, r, h, e => by
    cases x with
    | int i =>
      cases i with
      | ofNat i =>
        cases t with
        | nd l =>
          have e : (match nth l i with
            | some t => look xs t
            | none => none) = some r := e
          cases q : nth l i with
          | none => rw [q] at e; cases e
          | some u =>
            rw [q] at e
            simp only [chkT] at h
            have h2 := chkTs_at l pre 0 i u h q
            rw [Nat.zero_add] at h2
            have := look_ok xs (.int (.ofNat i) :: pre) u r h2 e
            rw [List.reverse_cons, List.append_assoc] at this
            exact this
        | _ => cases e
      | negSucc i => cases t <;> cases e
    | _ => cases t <;> cases e
/-- the table at the length -/
def lookN (ts : List Tr) (xs : List D) : Option D := match nth ts xs.length with
  | some t => look xs t
  | none => none
def allT (g : List D → Option D) : List Tr → Bool
  | [] => true
  | t :: ts => chkT g [] t && allT g ts
theorem allT_at {g : List D → Option D} : ∀ (ts : List Tr) (j : Nat) (t : Tr), allT g ts = true → nth ts j = some t → chkT g [] t = true
  | [], _, _, _, h => by cases h
  | t :: ts, 0, u, h, e => by
    simp only [allT, Bool.and_eq_true] at h
    cases e
    exact h.1
  | t :: ts, j + 1, u, h, e => by
    simp only [allT, Bool.and_eq_true] at h
    exact allT_at ts j u h.2 e
theorem lookN_ok {g : List D → Option D} {ts : List Tr} (h : allT g ts = true) {xs : List D} {r : D} (e : lookN ts xs = some r) : g xs = some r := by
  unfold lookN at e
  cases q : nth ts xs.length with
  | none => rw [q] at e; cases e
  | some t =>
    rw [q] at e
    exact look_ok xs [] t r (allT_at ts _ t h q) e
/-- a def of one tuple, by its table -/
def tab1 (ts : List Tr) : List D → Option D := fun ds => match ds with
  | [.tup xs] => lookN ts xs
  | _ => none
def tabF (ts : List Tr) : List D → Option D := fun ds => match ds with
  | [.ftup xs] => lookN ts xs
  | _ => none
theorem tab1_ok {f : List D → Option D} {ts : List Tr} (h : allT (fun xs => f [.tup xs]) ts = true) : ∀ ds r, tab1 ts ds = some r → f ds = some r := fun ds r e => by
  match ds, e with
  | [.tup xs], e => exact lookN_ok (g := fun xs => f [.tup xs]) h e
theorem tabF_ok {f : List D → Option D} {ts : List Tr} (h : allT (fun xs => f [.ftup xs]) ts = true) : ∀ ds r, tabF ts ds = some r → f ds = some r := fun ds r e => by
  match ds, e with
  | [.ftup xs], e => exact lookN_ok (g := fun xs => f [.ftup xs]) h e

def tq_lo0 : Tr := .no
def tq_lo1 : Tr := .nd [.lf (.tup [.tup [.int 0]])]
def tq_lo2 : Tr := .nd [.nd [.no, .lf (.tup [.tup [.int 0], .tup [.int 1]])], .nd [.lf (.tup [.tup [.int 0, .int 1]])]]
def tq_lo3 : Tr := .nd [.nd [.no, .nd [.no, .no, .lf (.tup [.tup [.int 0], .tup [.int 1], .tup [.int 2]])], .nd [.no, .lf (.tup [.tup [.int 0], .tup [.int 1, .int 2]])]], .nd [.nd [.no, .no, .lf (.tup [.tup [.int 0, .int 1], .tup [.int 2]])], .no, .nd [.lf (.tup [.tup [.int 0, .int 1, .int 2]])]], .nd [.nd [.no, .lf (.tup [.tup [.int 0, .int 2, .int 1]])], .nd [.lf (.tup [.tup [.int 0, .int 2], .tup [.int 1]])]]]
def tq_lo4 : Tr := .nd [.nd [.no, .nd [.no, .no, .nd [.no, .no, .no, .lf (.tup [.tup [.int 0], .tup [.int 1], .tup [.int 2], .tup [.int 3]])], .nd [.no, .no, .lf (.tup [.tup [.int 0], .tup [.int 1], .tup [.int 2, .int 3]])]], .nd [.no, .nd [.no, .no, .no, .lf (.tup [.tup [.int 0], .tup [.int 1, .int 2], .tup [.int 3]])], .no, .nd [.no, .lf (.tup [.tup [.int 0], .tup [.int 1, .int 2, .int 3]])]], .nd [.no, .nd [.no, .no, .lf (.tup [.tup [.int 0], .tup [.int 1, .int 3, .int 2]])], .nd [.no, .lf (.tup [.tup [.int 0], .tup [.int 1, .int 3], .tup [.int 2]])]]], .nd [.nd [.no, .no, .nd [.no, .no, .no, .lf (.tup [.tup [.int 0, .int 1], .tup [.int 2], .tup [.int 3]])], .nd [.no, .no, .lf (.tup [.tup [.int 0, .int 1], .tup [.int 2, .int 3]])]], .no, .nd [.nd [.no, .no, .no, .lf (.tup [.tup [.int 0, .int 1, .int 2], .tup [.int 3]])], .no, .no, .nd [.lf (.tup [.tup [.int 0, .int 1, .int 2, .int 3]])]], .nd [.nd [.no, .no, .lf (.tup [.tup [.int 0, .int 1, .int 3, .int 2]])], .no, .nd [.lf (.tup [.tup [.int 0, .int 1, .int 3], .tup [.int 2]])]]], .nd [.nd [.no, .nd [.no, .no, .no, .lf (.tup [.tup [.int 0, .int 2, .int 1], .tup [.int 3]])], .no, .nd [.no, .lf (.tup [.tup [.int 0, .int 2, .int 3, .int 1]])]], .nd [.nd [.no, .no, .no, .lf (.tup [.tup [.int 0, .int 2], .tup [.int 1], .tup [.int 3]])], .no, .no, .nd [.lf (.tup [.tup [.int 0, .int 2, .int 3], .tup [.int 1]])]], .no, .nd [.nd [.no, .lf (.tup [.tup [.int 0, .int 2], .tup [.int 1, .int 3]])], .nd [.lf (.tup [.tup [.int 0, .int 2, .int 1, .int 3]])]]], .nd [.nd [.no, .nd [.no, .no, .lf (.tup [.tup [.int 0, .int 3, .int 2, .int 1]])], .nd [.no, .lf (.tup [.tup [.int 0, .int 3, .int 1], .tup [.int 2]])]], .nd [.nd [.no, .no, .lf (.tup [.tup [.int 0, .int 3, .int 2], .tup [.int 1]])], .no, .nd [.lf (.tup [.tup [.int 0, .int 3], .tup [.int 1], .tup [.int 2]])]], .nd [.nd [.no, .lf (.tup [.tup [.int 0, .int 3, .int 1, .int 2]])], .nd [.lf (.tup [.tup [.int 0, .int 3], .tup [.int 1, .int 2]])]]]]
def tq_lo5 : Tr := .nd [.nd [.no, .nd [.no, .no, .nd [.no, .no, .no, .nd [.no, .no, .no, .no, .lf (.tup [.tup [.int 0], .tup [.int 1], .tup [.int 2], .tup [.int 3], .tup [.int 4]])], .nd [.no, .no, .no, .lf (.tup [.tup [.int 0], .tup [.int 1], .tup [.int 2], .tup [.int 3, .int 4]])]], .nd [.no, .no, .nd [.no, .no, .no, .no, .lf (.tup [.tup [.int 0], .tup [.int 1], .tup [.int 2, .int 3], .tup [.int 4]])], .no, .nd [.no, .no, .lf (.tup [.tup [.int 0], .tup [.int 1], .tup [.int 2, .int 3, .int 4]])]], .nd [.no, .no, .nd [.no, .no, .no, .lf (.tup [.tup [.int 0], .tup [.int 1], .tup [.int 2, .int 4, .int 3]])], .nd [.no, .no, .lf (.tup [.tup [.int 0], .tup [.int 1], .tup [.int 2, .int 4], .tup [.int 3]])]]], .nd [.no, .nd [.no, .no, .no, .nd [.no, .no, .no, .no, .lf (.tup [.tup [.int 0], .tup [.int 1, .int 2], .tup [.int 3], .tup [.int 4]])], .nd [.no, .no, .no, .lf (.tup [.tup [.int 0], .tup [.int 1, .int 2], .tup [.int 3, .int 4]])]], .no, .nd [.no, .nd [.no, .no, .no, .no, .lf (.tup [.tup [.int 0], .tup [.int 1, .int 2, .int 3], .tup [.int 4]])], .no, .no, .nd [.no, .lf (.tup [.tup [.int 0], .tup [.int 1, .int 2, .int 3, .int 4]])]], .nd [.no, .nd [.no, .no, .no, .lf (.tup [.tup [.int 0], .tup [.int 1, .int 2, .int 4, .int 3]])], .no, .nd [.no, .lf (.tup [.tup [.int 0], .tup [.int 1, .int 2, .int 4], .tup [.int 3]])]]], .nd [.no, .nd [.no, .no, .nd [.no, .no, .no, .no, .lf (.tup [.tup [.int 0], .tup [.int 1, .int 3, .int 2], .tup [.int 4]])], .no, .nd [.no, .no, .lf (.tup [.tup [.int 0], .tup [.int 1, .int 3, .int 4, .int 2]])]], .nd [.no, .nd [.no, .no, .no, .no, .lf (.tup [.tup [.int 0], .tup [.int 1, .int 3], .tup [.int 2], .tup [.int 4]])], .no, .no, .nd [.no, .lf (.tup [.tup [.int 0], .tup [.int 1, .int 3, .int 4], .tup [.int 2]])]], .no, .nd [.no, .nd [.no, .no, .lf (.tup [.tup [.int 0], .tup [.int 1, .int 3], .tup [.int 2, .int 4]])], .nd [.no, .lf (.tup [.tup [.int 0], .tup [.int 1, .int 3, .int 2, .int 4]])]]], .nd [.no, .nd [.no, .no, .nd [.no, .no, .no, .lf (.tup [.tup [.int 0], .tup [.int 1, .int 4, .int 3, .int 2]])], .nd [.no, .no, .lf (.tup [.tup [.int 0], .tup [.int 1, .int 4, .int 2], .tup [.int 3]])]], .nd [.no, .nd [.no, .no, .no, .lf (.tup [.tup [.int 0], .tup [.int 1, .int 4, .int 3], .tup [.int 2]])], .no, .nd [.no, .lf (.tup [.tup [.int 0], .tup [.int 1, .int 4], .tup [.int 2], .tup [.int 3]])]], .nd [.no, .nd [.no, .no, .lf (.tup [.tup [.int 0], .tup [.int 1, .int 4, .int 2, .int 3]])], .nd [.no, .lf (.tup [.tup [.int 0], .tup [.int 1, .int 4], .tup [.int 2, .int 3]])]]]], .nd [.nd [.no, .no, .nd [.no, .no, .no, .nd [.no, .no, .no, .no, .lf (.tup [.tup [.int 0, .int 1], .tup [.int 2], .tup [.int 3], .tup [.int 4]])], .nd [.no, .no, .no, .lf (.tup [.tup [.int 0, .int 1], .tup [.int 2], .tup [.int 3, .int 4]])]], .nd [.no, .no, .nd [.no, .no, .no, .no, .lf (.tup [.tup [.int 0, .int 1], .tup [.int 2, .int 3], .tup [.int 4]])], .no, .nd [.no, .no, .lf (.tup [.tup [.int 0, .int 1], .tup [.int 2, .int 3, .int 4]])]], .nd [.no, .no, .nd [.no, .no, .no, .lf (.tup [.tup [.int 0, .int 1], .tup [.int 2, .int 4, .int 3]])], .nd [.no, .no, .lf (.tup [.tup [.int 0, .int 1], .tup [.int 2, .int 4], .tup [.int 3]])]]], .no, .nd [.nd [.no, .no, .no, .nd [.no, .no, .no, .no, .lf (.tup [.tup [.int 0, .int 1, .int 2], .tup [.int 3], .tup [.int 4]])], .nd [.no, .no, .no, .lf (.tup [.tup [.int 0, .int 1, .int 2], .tup [.int 3, .int 4]])]], .no, .no, .nd [.nd [.no, .no, .no, .no, .lf (.tup [.tup [.int 0, .int 1, .int 2, .int 3], .tup [.int 4]])], .no, .no, .no, .nd [.lf (.tup [.tup [.int 0, .int 1, .int 2, .int 3, .int 4]])]], .nd [.nd [.no, .no, .no, .lf (.tup [.tup [.int 0, .int 1, .int 2, .int 4, .int 3]])], .no, .no, .nd [.lf (.tup [.tup [.int 0, .int 1, .int 2, .int 4], .tup [.int 3]])]]], .nd [.nd [.no, .no, .nd [.no, .no, .no, .no, .lf (.tup [.tup [.int 0, .int 1, .int 3, .int 2], .tup [.int 4]])], .no, .nd [.no, .no, .lf (.tup [.tup [.int 0, .int 1, .int 3, .int 4, .int 2]])]], .no, .nd [.nd [.no, .no, .no, .no, .lf (.tup [.tup [.int 0, .int 1, .int 3], .tup [.int 2], .tup [.int 4]])], .no, .no, .no, .nd [.lf (.tup [.tup [.int 0, .int 1, .int 3, .int 4], .tup [.int 2]])]], .no, .nd [.nd [.no, .no, .lf (.tup [.tup [.int 0, .int 1, .int 3], .tup [.int 2, .int 4]])], .no, .nd [.lf (.tup [.tup [.int 0, .int 1, .int 3, .int 2, .int 4]])]]], .nd [.nd [.no, .no, .nd [.no, .no, .no, .lf (.tup [.tup [.int 0, .int 1, .int 4, .int 3, .int 2]])], .nd [.no, .no, .lf (.tup [.tup [.int 0, .int 1, .int 4, .int 2], .tup [.int 3]])]], .no, .nd [.nd [.no, .no, .no, .lf (.tup [.tup [.int 0, .int 1, .int 4, .int 3], .tup [.int 2]])], .no, .no, .nd [.lf (.tup [.tup [.int 0, .int 1, .int 4], .tup [.int 2], .tup [.int 3]])]], .nd [.nd [.no, .no, .lf (.tup [.tup [.int 0, .int 1, .int 4, .int 2, .int 3]])], .no, .nd [.lf (.tup [.tup [.int 0, .int 1, .int 4], .tup [.int 2, .int 3]])]]]], .nd [.nd [.no, .nd [.no, .no, .no, .nd [.no, .no, .no, .no, .lf (.tup [.tup [.int 0, .int 2, .int 1], .tup [.int 3], .tup [.int 4]])], .nd [.no, .no, .no, .lf (.tup [.tup [.int 0, .int 2, .int 1], .tup [.int 3, .int 4]])]], .no, .nd [.no, .nd [.no, .no, .no, .no, .lf (.tup [.tup [.int 0, .int 2, .int 3, .int 1], .tup [.int 4]])], .no, .no, .nd [.no, .lf (.tup [.tup [.int 0, .int 2, .int 3, .int 4, .int 1]])]], .nd [.no, .nd [.no, .no, .no, .lf (.tup [.tup [.int 0, .int 2, .int 4, .int 3, .int 1]])], .no, .nd [.no, .lf (.tup [.tup [.int 0, .int 2, .int 4, .int 1], .tup [.int 3]])]]], .nd [.nd [.no, .no, .no, .nd [.no, .no, .no, .no, .lf (.tup [.tup [.int 0, .int 2], .tup [.int 1], .tup [.int 3], .tup [.int 4]])], .nd [.no, .no, .no, .lf (.tup [.tup [.int 0, .int 2], .tup [.int 1], .tup [.int 3, .int 4]])]], .no, .no, .nd [.nd [.no, .no, .no, .no, .lf (.tup [.tup [.int 0, .int 2, .int 3], .tup [.int 1], .tup [.int 4]])], .no, .no, .no, .nd [.lf (.tup [.tup [.int 0, .int 2, .int 3, .int 4], .tup [.int 1]])]], .nd [.nd [.no, .no, .no, .lf (.tup [.tup [.int 0, .int 2, .int 4, .int 3], .tup [.int 1]])], .no, .no, .nd [.lf (.tup [.tup [.int 0, .int 2, .int 4], .tup [.int 1], .tup [.int 3]])]]], .no, .nd [.nd [.no, .nd [.no, .no, .no, .no, .lf (.tup [.tup [.int 0, .int 2], .tup [.int 1, .int 3], .tup [.int 4]])], .no, .no, .nd [.no, .lf (.tup [.tup [.int 0, .int 2], .tup [.int 1, .int 3, .int 4]])]], .nd [.nd [.no, .no, .no, .no, .lf (.tup [.tup [.int 0, .int 2, .int 1, .int 3], .tup [.int 4]])], .no, .no, .no, .nd [.lf (.tup [.tup [.int 0, .int 2, .int 1, .int 3, .int 4]])]], .no, .no, .nd [.nd [.no, .lf (.tup [.tup [.int 0, .int 2, .int 4, .int 1, .int 3]])], .nd [.lf (.tup [.tup [.int 0, .int 2, .int 4], .tup [.int 1, .int 3]])]]], .nd [.nd [.no, .nd [.no, .no, .no, .lf (.tup [.tup [.int 0, .int 2], .tup [.int 1, .int 4, .int 3]])], .no, .nd [.no, .lf (.tup [.tup [.int 0, .int 2], .tup [.int 1, .int 4], .tup [.int 3]])]], .nd [.nd [.no, .no, .no, .lf (.tup [.tup [.int 0, .int 2, .int 1, .int 4, .int 3]])], .no, .no, .nd [.lf (.tup [.tup [.int 0, .int 2, .int 1, .int 4], .tup [.int 3]])]], .no, .nd [.nd [.no, .lf (.tup [.tup [.int 0, .int 2, .int 3], .tup [.int 1, .int 4]])], .nd [.lf (.tup [.tup [.int 0, .int 2, .int 3, .int 1, .int 4]])]]]], .nd [.nd [.no, .nd [.no, .no, .nd [.no, .no, .no, .no, .lf (.tup [.tup [.int 0, .int 3, .int 2, .int 1], .tup [.int 4]])], .no, .nd [.no, .no, .lf (.tup [.tup [.int 0, .int 3, .int 4, .int 2, .int 1]])]], .nd [.no, .nd [.no, .no, .no, .no, .lf (.tup [.tup [.int 0, .int 3, .int 1], .tup [.int 2], .tup [.int 4]])], .no, .no, .nd [.no, .lf (.tup [.tup [.int 0, .int 3, .int 4, .int 1], .tup [.int 2]])]], .no, .nd [.no, .nd [.no, .no, .lf (.tup [.tup [.int 0, .int 3, .int 1], .tup [.int 2, .int 4]])], .nd [.no, .lf (.tup [.tup [.int 0, .int 3, .int 2, .int 4, .int 1]])]]], .nd [.nd [.no, .no, .nd [.no, .no, .no, .no, .lf (.tup [.tup [.int 0, .int 3, .int 2], .tup [.int 1], .tup [.int 4]])], .no, .nd [.no, .no, .lf (.tup [.tup [.int 0, .int 3, .int 4, .int 2], .tup [.int 1]])]], .no, .nd [.nd [.no, .no, .no, .no, .lf (.tup [.tup [.int 0, .int 3], .tup [.int 1], .tup [.int 2], .tup [.int 4]])], .no, .no, .no, .nd [.lf (.tup [.tup [.int 0, .int 3, .int 4], .tup [.int 1], .tup [.int 2]])]], .no, .nd [.nd [.no, .no, .lf (.tup [.tup [.int 0, .int 3], .tup [.int 1], .tup [.int 2, .int 4]])], .no, .nd [.lf (.tup [.tup [.int 0, .int 3, .int 2, .int 4], .tup [.int 1]])]]], .nd [.nd [.no, .nd [.no, .no, .no, .no, .lf (.tup [.tup [.int 0, .int 3, .int 1, .int 2], .tup [.int 4]])], .no, .no, .nd [.no, .lf (.tup [.tup [.int 0, .int 3, .int 4, .int 1, .int 2]])]], .nd [.nd [.no, .no, .no, .no, .lf (.tup [.tup [.int 0, .int 3], .tup [.int 1, .int 2], .tup [.int 4]])], .no, .no, .no, .nd [.lf (.tup [.tup [.int 0, .int 3, .int 4], .tup [.int 1, .int 2]])]], .no, .no, .nd [.nd [.no, .lf (.tup [.tup [.int 0, .int 3], .tup [.int 1, .int 2, .int 4]])], .nd [.lf (.tup [.tup [.int 0, .int 3, .int 1, .int 2, .int 4]])]]], .no, .nd [.nd [.no, .nd [.no, .no, .lf (.tup [.tup [.int 0, .int 3, .int 1, .int 4, .int 2]])], .nd [.no, .lf (.tup [.tup [.int 0, .int 3, .int 2], .tup [.int 1, .int 4]])]], .nd [.nd [.no, .no, .lf (.tup [.tup [.int 0, .int 3], .tup [.int 1, .int 4, .int 2]])], .no, .nd [.lf (.tup [.tup [.int 0, .int 3, .int 2, .int 1, .int 4]])]], .nd [.nd [.no, .lf (.tup [.tup [.int 0, .int 3], .tup [.int 1, .int 4], .tup [.int 2]])], .nd [.lf (.tup [.tup [.int 0, .int 3, .int 1, .int 4], .tup [.int 2]])]]]], .nd [.nd [.no, .nd [.no, .no, .nd [.no, .no, .no, .lf (.tup [.tup [.int 0, .int 4, .int 3, .int 2, .int 1]])], .nd [.no, .no, .lf (.tup [.tup [.int 0, .int 4, .int 2, .int 1], .tup [.int 3]])]], .nd [.no, .nd [.no, .no, .no, .lf (.tup [.tup [.int 0, .int 4, .int 3, .int 1], .tup [.int 2]])], .no, .nd [.no, .lf (.tup [.tup [.int 0, .int 4, .int 1], .tup [.int 2], .tup [.int 3]])]], .nd [.no, .nd [.no, .no, .lf (.tup [.tup [.int 0, .int 4, .int 2, .int 3, .int 1]])], .nd [.no, .lf (.tup [.tup [.int 0, .int 4, .int 1], .tup [.int 2, .int 3]])]]], .nd [.nd [.no, .no, .nd [.no, .no, .no, .lf (.tup [.tup [.int 0, .int 4, .int 3, .int 2], .tup [.int 1]])], .nd [.no, .no, .lf (.tup [.tup [.int 0, .int 4, .int 2], .tup [.int 1], .tup [.int 3]])]], .no, .nd [.nd [.no, .no, .no, .lf (.tup [.tup [.int 0, .int 4, .int 3], .tup [.int 1], .tup [.int 2]])], .no, .no, .nd [.lf (.tup [.tup [.int 0, .int 4], .tup [.int 1], .tup [.int 2], .tup [.int 3]])]], .nd [.nd [.no, .no, .lf (.tup [.tup [.int 0, .int 4, .int 2, .int 3], .tup [.int 1]])], .no, .nd [.lf (.tup [.tup [.int 0, .int 4], .tup [.int 1], .tup [.int 2, .int 3]])]]], .nd [.nd [.no, .nd [.no, .no, .no, .lf (.tup [.tup [.int 0, .int 4, .int 3, .int 1, .int 2]])], .no, .nd [.no, .lf (.tup [.tup [.int 0, .int 4, .int 1, .int 2], .tup [.int 3]])]], .nd [.nd [.no, .no, .no, .lf (.tup [.tup [.int 0, .int 4, .int 3], .tup [.int 1, .int 2]])], .no, .no, .nd [.lf (.tup [.tup [.int 0, .int 4], .tup [.int 1, .int 2], .tup [.int 3]])]], .no, .nd [.nd [.no, .lf (.tup [.tup [.int 0, .int 4, .int 1, .int 2, .int 3]])], .nd [.lf (.tup [.tup [.int 0, .int 4], .tup [.int 1, .int 2, .int 3]])]]], .nd [.nd [.no, .nd [.no, .no, .lf (.tup [.tup [.int 0, .int 4, .int 2], .tup [.int 1, .int 3]])], .nd [.no, .lf (.tup [.tup [.int 0, .int 4, .int 1, .int 3, .int 2]])]], .nd [.nd [.no, .no, .lf (.tup [.tup [.int 0, .int 4, .int 2, .int 1, .int 3]])], .no, .nd [.lf (.tup [.tup [.int 0, .int 4], .tup [.int 1, .int 3, .int 2]])]], .nd [.nd [.no, .lf (.tup [.tup [.int 0, .int 4, .int 1, .int 3], .tup [.int 2]])], .nd [.lf (.tup [.tup [.int 0, .int 4], .tup [.int 1, .int 3], .tup [.int 2]])]]]]]
def tq_lo : List Tr := [tq_lo0, tq_lo1, tq_lo2, tq_lo3, tq_lo4, tq_lo5]
def g__law_loops : List D → Option D := tab1 tq_lo
theorem m__law_loops : ∀ ds r, g__law_loops ds = some r → f__law_loops ds = some r := tab1_ok (by kernel_rfl)
def tq_le0 : Tr := .no
def tq_le1 : Tr := .nd [.lf (.tup [.int 1])]
def tq_le2 : Tr := .nd [.nd [.no, .lf (.tup [.int 1, .int 1])], .nd [.lf (.tup [.int 2])]]
def tq_le3 : Tr := .nd [.nd [.no, .nd [.no, .no, .lf (.tup [.int 1, .int 1, .int 1])], .nd [.no, .lf (.tup [.int 2, .int 1])]], .nd [.nd [.no, .no, .lf (.tup [.int 2, .int 1])], .no, .nd [.lf (.tup [.int 3])]], .nd [.nd [.no, .lf (.tup [.int 3])], .nd [.lf (.tup [.int 2, .int 1])]]]
def tq_le4 : Tr := .nd [.nd [.no, .nd [.no, .no, .nd [.no, .no, .no, .lf (.tup [.int 1, .int 1, .int 1, .int 1])], .nd [.no, .no, .lf (.tup [.int 2, .int 1, .int 1])]], .nd [.no, .nd [.no, .no, .no, .lf (.tup [.int 2, .int 1, .int 1])], .no, .nd [.no, .lf (.tup [.int 3, .int 1])]], .nd [.no, .nd [.no, .no, .lf (.tup [.int 3, .int 1])], .nd [.no, .lf (.tup [.int 2, .int 1, .int 1])]]], .nd [.nd [.no, .no, .nd [.no, .no, .no, .lf (.tup [.int 2, .int 1, .int 1])], .nd [.no, .no, .lf (.tup [.int 2, .int 2])]], .no, .nd [.nd [.no, .no, .no, .lf (.tup [.int 3, .int 1])], .no, .no, .nd [.lf (.tup [.int 4])]], .nd [.nd [.no, .no, .lf (.tup [.int 4])], .no, .nd [.lf (.tup [.int 3, .int 1])]]], .nd [.nd [.no, .nd [.no, .no, .no, .lf (.tup [.int 3, .int 1])], .no, .nd [.no, .lf (.tup [.int 4])]], .nd [.nd [.no, .no, .no, .lf (.tup [.int 2, .int 1, .int 1])], .no, .no, .nd [.lf (.tup [.int 3, .int 1])]], .no, .nd [.nd [.no, .lf (.tup [.int 2, .int 2])], .nd [.lf (.tup [.int 4])]]], .nd [.nd [.no, .nd [.no, .no, .lf (.tup [.int 4])], .nd [.no, .lf (.tup [.int 3, .int 1])]], .nd [.nd [.no, .no, .lf (.tup [.int 3, .int 1])], .no, .nd [.lf (.tup [.int 2, .int 1, .int 1])]], .nd [.nd [.no, .lf (.tup [.int 4])], .nd [.lf (.tup [.int 2, .int 2])]]]]
def tq_le5 : Tr := .nd [.nd [.no, .nd [.no, .no, .nd [.no, .no, .no, .nd [.no, .no, .no, .no, .lf (.tup [.int 1, .int 1, .int 1, .int 1, .int 1])], .nd [.no, .no, .no, .lf (.tup [.int 2, .int 1, .int 1, .int 1])]], .nd [.no, .no, .nd [.no, .no, .no, .no, .lf (.tup [.int 2, .int 1, .int 1, .int 1])], .no, .nd [.no, .no, .lf (.tup [.int 3, .int 1, .int 1])]], .nd [.no, .no, .nd [.no, .no, .no, .lf (.tup [.int 3, .int 1, .int 1])], .nd [.no, .no, .lf (.tup [.int 2, .int 1, .int 1, .int 1])]]], .nd [.no, .nd [.no, .no, .no, .nd [.no, .no, .no, .no, .lf (.tup [.int 2, .int 1, .int 1, .int 1])], .nd [.no, .no, .no, .lf (.tup [.int 2, .int 2, .int 1])]], .no, .nd [.no, .nd [.no, .no, .no, .no, .lf (.tup [.int 3, .int 1, .int 1])], .no, .no, .nd [.no, .lf (.tup [.int 4, .int 1])]], .nd [.no, .nd [.no, .no, .no, .lf (.tup [.int 4, .int 1])], .no, .nd [.no, .lf (.tup [.int 3, .int 1, .int 1])]]], .nd [.no, .nd [.no, .no, .nd [.no, .no, .no, .no, .lf (.tup [.int 3, .int 1, .int 1])], .no, .nd [.no, .no, .lf (.tup [.int 4, .int 1])]], .nd [.no, .nd [.no, .no, .no, .no, .lf (.tup [.int 2, .int 1, .int 1, .int 1])], .no, .no, .nd [.no, .lf (.tup [.int 3, .int 1, .int 1])]], .no, .nd [.no, .nd [.no, .no, .lf (.tup [.int 2, .int 2, .int 1])], .nd [.no, .lf (.tup [.int 4, .int 1])]]], .nd [.no, .nd [.no, .no, .nd [.no, .no, .no, .lf (.tup [.int 4, .int 1])], .nd [.no, .no, .lf (.tup [.int 3, .int 1, .int 1])]], .nd [.no, .nd [.no, .no, .no, .lf (.tup [.int 3, .int 1, .int 1])], .no, .nd [.no, .lf (.tup [.int 2, .int 1, .int 1, .int 1])]], .nd [.no, .nd [.no, .no, .lf (.tup [.int 4, .int 1])], .nd [.no, .lf (.tup [.int 2, .int 2, .int 1])]]]], .nd [.nd [.no, .no, .nd [.no, .no, .no, .nd [.no, .no, .no, .no, .lf (.tup [.int 2, .int 1, .int 1, .int 1])], .nd [.no, .no, .no, .lf (.tup [.int 2, .int 2, .int 1])]], .nd [.no, .no, .nd [.no, .no, .no, .no, .lf (.tup [.int 2, .int 2, .int 1])], .no, .nd [.no, .no, .lf (.tup [.int 3, .int 2])]], .nd [.no, .no, .nd [.no, .no, .no, .lf (.tup [.int 3, .int 2])], .nd [.no, .no, .lf (.tup [.int 2, .int 2, .int 1])]]], .no, .nd [.nd [.no, .no, .no, .nd [.no, .no, .no, .no, .lf (.tup [.int 3, .int 1, .int 1])], .nd [.no, .no, .no, .lf (.tup [.int 3, .int 2])]], .no, .no, .nd [.nd [.no, .no, .no, .no, .lf (.tup [.int 4, .int 1])], .no, .no, .no, .nd [.lf (.tup [.int 5])]], .nd [.nd [.no, .no, .no, .lf (.tup [.int 5])], .no, .no, .nd [.lf (.tup [.int 4, .int 1])]]], .nd [.nd [.no, .no, .nd [.no, .no, .no, .no, .lf (.tup [.int 4, .int 1])], .no, .nd [.no, .no, .lf (.tup [.int 5])]], .no, .nd [.nd [.no, .no, .no, .no, .lf (.tup [.int 3, .int 1, .int 1])], .no, .no, .no, .nd [.lf (.tup [.int 4, .int 1])]], .no, .nd [.nd [.no, .no, .lf (.tup [.int 3, .int 2])], .no, .nd [.lf (.tup [.int 5])]]], .nd [.nd [.no, .no, .nd [.no, .no, .no, .lf (.tup [.int 5])], .nd [.no, .no, .lf (.tup [.int 4, .int 1])]], .no, .nd [.nd [.no, .no, .no, .lf (.tup [.int 4, .int 1])], .no, .no, .nd [.lf (.tup [.int 3, .int 1, .int 1])]], .nd [.nd [.no, .no, .lf (.tup [.int 5])], .no, .nd [.lf (.tup [.int 3, .int 2])]]]], .nd [.nd [.no, .nd [.no, .no, .no, .nd [.no, .no, .no, .no, .lf (.tup [.int 3, .int 1, .int 1])], .nd [.no, .no, .no, .lf (.tup [.int 3, .int 2])]], .no, .nd [.no, .nd [.no, .no, .no, .no, .lf (.tup [.int 4, .int 1])], .no, .no, .nd [.no, .lf (.tup [.int 5])]], .nd [.no, .nd [.no, .no, .no, .lf (.tup [.int 5])], .no, .nd [.no, .lf (.tup [.int 4, .int 1])]]], .nd [.nd [.no, .no, .no, .nd [.no, .no, .no, .no, .lf (.tup [.int 2, .int 1, .int 1, .int 1])], .nd [.no, .no, .no, .lf (.tup [.int 2, .int 2, .int 1])]], .no, .no, .nd [.nd [.no, .no, .no, .no, .lf (.tup [.int 3, .int 1, .int 1])], .no, .no, .no, .nd [.lf (.tup [.int 4, .int 1])]], .nd [.nd [.no, .no, .no, .lf (.tup [.int 4, .int 1])], .no, .no, .nd [.lf (.tup [.int 3, .int 1, .int 1])]]], .no, .nd [.nd [.no, .nd [.no, .no, .no, .no, .lf (.tup [.int 2, .int 2, .int 1])], .no, .no, .nd [.no, .lf (.tup [.int 3, .int 2])]], .nd [.nd [.no, .no, .no, .no, .lf (.tup [.int 4, .int 1])], .no, .no, .no, .nd [.lf (.tup [.int 5])]], .no, .no, .nd [.nd [.no, .lf (.tup [.int 5])], .nd [.lf (.tup [.int 3, .int 2])]]], .nd [.nd [.no, .nd [.no, .no, .no, .lf (.tup [.int 3, .int 2])], .no, .nd [.no, .lf (.tup [.int 2, .int 2, .int 1])]], .nd [.nd [.no, .no, .no, .lf (.tup [.int 5])], .no, .no, .nd [.lf (.tup [.int 4, .int 1])]], .no, .nd [.nd [.no, .lf (.tup [.int 3, .int 2])], .nd [.lf (.tup [.int 5])]]]], .nd [.nd [.no, .nd [.no, .no, .nd [.no, .no, .no, .no, .lf (.tup [.int 4, .int 1])], .no, .nd [.no, .no, .lf (.tup [.int 5])]], .nd [.no, .nd [.no, .no, .no, .no, .lf (.tup [.int 3, .int 1, .int 1])], .no, .no, .nd [.no, .lf (.tup [.int 4, .int 1])]], .no, .nd [.no, .nd [.no, .no, .lf (.tup [.int 3, .int 2])], .nd [.no, .lf (.tup [.int 5])]]], .nd [.nd [.no, .no, .nd [.no, .no, .no, .no, .lf (.tup [.int 3, .int 1, .int 1])], .no, .nd [.no, .no, .lf (.tup [.int 4, .int 1])]], .no, .nd [.nd [.no, .no, .no, .no, .lf (.tup [.int 2, .int 1, .int 1, .int 1])], .no, .no, .no, .nd [.lf (.tup [.int 3, .int 1, .int 1])]], .no, .nd [.nd [.no, .no, .lf (.tup [.int 2, .int 2, .int 1])], .no, .nd [.lf (.tup [.int 4, .int 1])]]], .nd [.nd [.no, .nd [.no, .no, .no, .no, .lf (.tup [.int 4, .int 1])], .no, .no, .nd [.no, .lf (.tup [.int 5])]], .nd [.nd [.no, .no, .no, .no, .lf (.tup [.int 2, .int 2, .int 1])], .no, .no, .no, .nd [.lf (.tup [.int 3, .int 2])]], .no, .no, .nd [.nd [.no, .lf (.tup [.int 3, .int 2])], .nd [.lf (.tup [.int 5])]]], .no, .nd [.nd [.no, .nd [.no, .no, .lf (.tup [.int 5])], .nd [.no, .lf (.tup [.int 3, .int 2])]], .nd [.nd [.no, .no, .lf (.tup [.int 3, .int 2])], .no, .nd [.lf (.tup [.int 5])]], .nd [.nd [.no, .lf (.tup [.int 2, .int 2, .int 1])], .nd [.lf (.tup [.int 4, .int 1])]]]], .nd [.nd [.no, .nd [.no, .no, .nd [.no, .no, .no, .lf (.tup [.int 5])], .nd [.no, .no, .lf (.tup [.int 4, .int 1])]], .nd [.no, .nd [.no, .no, .no, .lf (.tup [.int 4, .int 1])], .no, .nd [.no, .lf (.tup [.int 3, .int 1, .int 1])]], .nd [.no, .nd [.no, .no, .lf (.tup [.int 5])], .nd [.no, .lf (.tup [.int 3, .int 2])]]], .nd [.nd [.no, .no, .nd [.no, .no, .no, .lf (.tup [.int 4, .int 1])], .nd [.no, .no, .lf (.tup [.int 3, .int 1, .int 1])]], .no, .nd [.nd [.no, .no, .no, .lf (.tup [.int 3, .int 1, .int 1])], .no, .no, .nd [.lf (.tup [.int 2, .int 1, .int 1, .int 1])]], .nd [.nd [.no, .no, .lf (.tup [.int 4, .int 1])], .no, .nd [.lf (.tup [.int 2, .int 2, .int 1])]]], .nd [.nd [.no, .nd [.no, .no, .no, .lf (.tup [.int 5])], .no, .nd [.no, .lf (.tup [.int 4, .int 1])]], .nd [.nd [.no, .no, .no, .lf (.tup [.int 3, .int 2])], .no, .no, .nd [.lf (.tup [.int 2, .int 2, .int 1])]], .no, .nd [.nd [.no, .lf (.tup [.int 5])], .nd [.lf (.tup [.int 3, .int 2])]]], .nd [.nd [.no, .nd [.no, .no, .lf (.tup [.int 3, .int 2])], .nd [.no, .lf (.tup [.int 5])]], .nd [.nd [.no, .no, .lf (.tup [.int 5])], .no, .nd [.lf (.tup [.int 3, .int 2])]], .nd [.nd [.no, .lf (.tup [.int 4, .int 1])], .nd [.lf (.tup [.int 2, .int 2, .int 1])]]]]]
def tq_le : List Tr := [tq_le0, tq_le1, tq_le2, tq_le3, tq_le4, tq_le5]
def g__law_lens : List D → Option D := tab1 tq_le
theorem m__law_lens : ∀ ds r, g__law_lens ds = some r → f__law_lens ds = some r := tab1_ok (by kernel_rfl)
def tq_p_rings_of0 : Tr := .no
def tq_p_rings_of1 : Tr := .nd [.lf (.tup [.tup [.int 0]])]
def tq_p_rings_of2 : Tr := .nd [.nd [.no, .lf (.tup [.tup [.int 0], .tup [.int 1]])], .nd [.lf (.tup [.tup [.int 0, .int 1]])]]
def tq_p_rings_of3 : Tr := .nd [.nd [.no, .nd [.no, .no, .lf (.tup [.tup [.int 0], .tup [.int 1], .tup [.int 2]])], .nd [.no, .lf (.tup [.tup [.int 0], .tup [.int 1, .int 2]])]], .nd [.nd [.no, .no, .lf (.tup [.tup [.int 0, .int 1], .tup [.int 2]])], .no, .nd [.lf (.tup [.tup [.int 0, .int 1, .int 2]])]], .nd [.nd [.no, .lf (.tup [.tup [.int 0, .int 2, .int 1]])], .nd [.lf (.tup [.tup [.int 0, .int 2], .tup [.int 1]])]]]
def tq_p_rings_of4 : Tr := .nd [.nd [.no, .nd [.no, .no, .nd [.no, .no, .no, .lf (.tup [.tup [.int 0], .tup [.int 1], .tup [.int 2], .tup [.int 3]])], .nd [.no, .no, .lf (.tup [.tup [.int 0], .tup [.int 1], .tup [.int 2, .int 3]])]], .nd [.no, .nd [.no, .no, .no, .lf (.tup [.tup [.int 0], .tup [.int 1, .int 2], .tup [.int 3]])], .no, .nd [.no, .lf (.tup [.tup [.int 0], .tup [.int 1, .int 2, .int 3]])]], .nd [.no, .nd [.no, .no, .lf (.tup [.tup [.int 0], .tup [.int 1, .int 3, .int 2]])], .nd [.no, .lf (.tup [.tup [.int 0], .tup [.int 1, .int 3], .tup [.int 2]])]]], .nd [.nd [.no, .no, .nd [.no, .no, .no, .lf (.tup [.tup [.int 0, .int 1], .tup [.int 2], .tup [.int 3]])], .nd [.no, .no, .lf (.tup [.tup [.int 0, .int 1], .tup [.int 2, .int 3]])]], .no, .nd [.nd [.no, .no, .no, .lf (.tup [.tup [.int 0, .int 1, .int 2], .tup [.int 3]])], .no, .no, .nd [.lf (.tup [.tup [.int 0, .int 1, .int 2, .int 3]])]], .nd [.nd [.no, .no, .lf (.tup [.tup [.int 0, .int 1, .int 3, .int 2]])], .no, .nd [.lf (.tup [.tup [.int 0, .int 1, .int 3], .tup [.int 2]])]]], .nd [.nd [.no, .nd [.no, .no, .no, .lf (.tup [.tup [.int 0, .int 2, .int 1], .tup [.int 3]])], .no, .nd [.no, .lf (.tup [.tup [.int 0, .int 2, .int 3, .int 1]])]], .nd [.nd [.no, .no, .no, .lf (.tup [.tup [.int 0, .int 2], .tup [.int 1], .tup [.int 3]])], .no, .no, .nd [.lf (.tup [.tup [.int 0, .int 2, .int 3], .tup [.int 1]])]], .no, .nd [.nd [.no, .lf (.tup [.tup [.int 0, .int 2], .tup [.int 1, .int 3]])], .nd [.lf (.tup [.tup [.int 0, .int 2, .int 1, .int 3]])]]], .nd [.nd [.no, .nd [.no, .no, .lf (.tup [.tup [.int 0, .int 3, .int 2, .int 1]])], .nd [.no, .lf (.tup [.tup [.int 0, .int 3, .int 1], .tup [.int 2]])]], .nd [.nd [.no, .no, .lf (.tup [.tup [.int 0, .int 3, .int 2], .tup [.int 1]])], .no, .nd [.lf (.tup [.tup [.int 0, .int 3], .tup [.int 1], .tup [.int 2]])]], .nd [.nd [.no, .lf (.tup [.tup [.int 0, .int 3, .int 1, .int 2]])], .nd [.lf (.tup [.tup [.int 0, .int 3], .tup [.int 1, .int 2]])]]]]
def tq_p_rings_of5 : Tr := .nd [.nd [.no, .nd [.no, .no, .nd [.no, .no, .no, .nd [.no, .no, .no, .no, .lf (.tup [.tup [.int 0], .tup [.int 1], .tup [.int 2], .tup [.int 3], .tup [.int 4]])], .nd [.no, .no, .no, .lf (.tup [.tup [.int 0], .tup [.int 1], .tup [.int 2], .tup [.int 3, .int 4]])]], .nd [.no, .no, .nd [.no, .no, .no, .no, .lf (.tup [.tup [.int 0], .tup [.int 1], .tup [.int 2, .int 3], .tup [.int 4]])], .no, .nd [.no, .no, .lf (.tup [.tup [.int 0], .tup [.int 1], .tup [.int 2, .int 3, .int 4]])]], .nd [.no, .no, .nd [.no, .no, .no, .lf (.tup [.tup [.int 0], .tup [.int 1], .tup [.int 2, .int 4, .int 3]])], .nd [.no, .no, .lf (.tup [.tup [.int 0], .tup [.int 1], .tup [.int 2, .int 4], .tup [.int 3]])]]], .nd [.no, .nd [.no, .no, .no, .nd [.no, .no, .no, .no, .lf (.tup [.tup [.int 0], .tup [.int 1, .int 2], .tup [.int 3], .tup [.int 4]])], .nd [.no, .no, .no, .lf (.tup [.tup [.int 0], .tup [.int 1, .int 2], .tup [.int 3, .int 4]])]], .no, .nd [.no, .nd [.no, .no, .no, .no, .lf (.tup [.tup [.int 0], .tup [.int 1, .int 2, .int 3], .tup [.int 4]])], .no, .no, .nd [.no, .lf (.tup [.tup [.int 0], .tup [.int 1, .int 2, .int 3, .int 4]])]], .nd [.no, .nd [.no, .no, .no, .lf (.tup [.tup [.int 0], .tup [.int 1, .int 2, .int 4, .int 3]])], .no, .nd [.no, .lf (.tup [.tup [.int 0], .tup [.int 1, .int 2, .int 4], .tup [.int 3]])]]], .nd [.no, .nd [.no, .no, .nd [.no, .no, .no, .no, .lf (.tup [.tup [.int 0], .tup [.int 1, .int 3, .int 2], .tup [.int 4]])], .no, .nd [.no, .no, .lf (.tup [.tup [.int 0], .tup [.int 1, .int 3, .int 4, .int 2]])]], .nd [.no, .nd [.no, .no, .no, .no, .lf (.tup [.tup [.int 0], .tup [.int 1, .int 3], .tup [.int 2], .tup [.int 4]])], .no, .no, .nd [.no, .lf (.tup [.tup [.int 0], .tup [.int 1, .int 3, .int 4], .tup [.int 2]])]], .no, .nd [.no, .nd [.no, .no, .lf (.tup [.tup [.int 0], .tup [.int 1, .int 3], .tup [.int 2, .int 4]])], .nd [.no, .lf (.tup [.tup [.int 0], .tup [.int 1, .int 3, .int 2, .int 4]])]]], .nd [.no, .nd [.no, .no, .nd [.no, .no, .no, .lf (.tup [.tup [.int 0], .tup [.int 1, .int 4, .int 3, .int 2]])], .nd [.no, .no, .lf (.tup [.tup [.int 0], .tup [.int 1, .int 4, .int 2], .tup [.int 3]])]], .nd [.no, .nd [.no, .no, .no, .lf (.tup [.tup [.int 0], .tup [.int 1, .int 4, .int 3], .tup [.int 2]])], .no, .nd [.no, .lf (.tup [.tup [.int 0], .tup [.int 1, .int 4], .tup [.int 2], .tup [.int 3]])]], .nd [.no, .nd [.no, .no, .lf (.tup [.tup [.int 0], .tup [.int 1, .int 4, .int 2, .int 3]])], .nd [.no, .lf (.tup [.tup [.int 0], .tup [.int 1, .int 4], .tup [.int 2, .int 3]])]]]], .nd [.nd [.no, .no, .nd [.no, .no, .no, .nd [.no, .no, .no, .no, .lf (.tup [.tup [.int 0, .int 1], .tup [.int 2], .tup [.int 3], .tup [.int 4]])], .nd [.no, .no, .no, .lf (.tup [.tup [.int 0, .int 1], .tup [.int 2], .tup [.int 3, .int 4]])]], .nd [.no, .no, .nd [.no, .no, .no, .no, .lf (.tup [.tup [.int 0, .int 1], .tup [.int 2, .int 3], .tup [.int 4]])], .no, .nd [.no, .no, .lf (.tup [.tup [.int 0, .int 1], .tup [.int 2, .int 3, .int 4]])]], .nd [.no, .no, .nd [.no, .no, .no, .lf (.tup [.tup [.int 0, .int 1], .tup [.int 2, .int 4, .int 3]])], .nd [.no, .no, .lf (.tup [.tup [.int 0, .int 1], .tup [.int 2, .int 4], .tup [.int 3]])]]], .no, .nd [.nd [.no, .no, .no, .nd [.no, .no, .no, .no, .lf (.tup [.tup [.int 0, .int 1, .int 2], .tup [.int 3], .tup [.int 4]])], .nd [.no, .no, .no, .lf (.tup [.tup [.int 0, .int 1, .int 2], .tup [.int 3, .int 4]])]], .no, .no, .nd [.nd [.no, .no, .no, .no, .lf (.tup [.tup [.int 0, .int 1, .int 2, .int 3], .tup [.int 4]])], .no, .no, .no, .nd [.lf (.tup [.tup [.int 0, .int 1, .int 2, .int 3, .int 4]])]], .nd [.nd [.no, .no, .no, .lf (.tup [.tup [.int 0, .int 1, .int 2, .int 4, .int 3]])], .no, .no, .nd [.lf (.tup [.tup [.int 0, .int 1, .int 2, .int 4], .tup [.int 3]])]]], .nd [.nd [.no, .no, .nd [.no, .no, .no, .no, .lf (.tup [.tup [.int 0, .int 1, .int 3, .int 2], .tup [.int 4]])], .no, .nd [.no, .no, .lf (.tup [.tup [.int 0, .int 1, .int 3, .int 4, .int 2]])]], .no, .nd [.nd [.no, .no, .no, .no, .lf (.tup [.tup [.int 0, .int 1, .int 3], .tup [.int 2], .tup [.int 4]])], .no, .no, .no, .nd [.lf (.tup [.tup [.int 0, .int 1, .int 3, .int 4], .tup [.int 2]])]], .no, .nd [.nd [.no, .no, .lf (.tup [.tup [.int 0, .int 1, .int 3], .tup [.int 2, .int 4]])], .no, .nd [.lf (.tup [.tup [.int 0, .int 1, .int 3, .int 2, .int 4]])]]], .nd [.nd [.no, .no, .nd [.no, .no, .no, .lf (.tup [.tup [.int 0, .int 1, .int 4, .int 3, .int 2]])], .nd [.no, .no, .lf (.tup [.tup [.int 0, .int 1, .int 4, .int 2], .tup [.int 3]])]], .no, .nd [.nd [.no, .no, .no, .lf (.tup [.tup [.int 0, .int 1, .int 4, .int 3], .tup [.int 2]])], .no, .no, .nd [.lf (.tup [.tup [.int 0, .int 1, .int 4], .tup [.int 2], .tup [.int 3]])]], .nd [.nd [.no, .no, .lf (.tup [.tup [.int 0, .int 1, .int 4, .int 2, .int 3]])], .no, .nd [.lf (.tup [.tup [.int 0, .int 1, .int 4], .tup [.int 2, .int 3]])]]]], .nd [.nd [.no, .nd [.no, .no, .no, .nd [.no, .no, .no, .no, .lf (.tup [.tup [.int 0, .int 2, .int 1], .tup [.int 3], .tup [.int 4]])], .nd [.no, .no, .no, .lf (.tup [.tup [.int 0, .int 2, .int 1], .tup [.int 3, .int 4]])]], .no, .nd [.no, .nd [.no, .no, .no, .no, .lf (.tup [.tup [.int 0, .int 2, .int 3, .int 1], .tup [.int 4]])], .no, .no, .nd [.no, .lf (.tup [.tup [.int 0, .int 2, .int 3, .int 4, .int 1]])]], .nd [.no, .nd [.no, .no, .no, .lf (.tup [.tup [.int 0, .int 2, .int 4, .int 3, .int 1]])], .no, .nd [.no, .lf (.tup [.tup [.int 0, .int 2, .int 4, .int 1], .tup [.int 3]])]]], .nd [.nd [.no, .no, .no, .nd [.no, .no, .no, .no, .lf (.tup [.tup [.int 0, .int 2], .tup [.int 1], .tup [.int 3], .tup [.int 4]])], .nd [.no, .no, .no, .lf (.tup [.tup [.int 0, .int 2], .tup [.int 1], .tup [.int 3, .int 4]])]], .no, .no, .nd [.nd [.no, .no, .no, .no, .lf (.tup [.tup [.int 0, .int 2, .int 3], .tup [.int 1], .tup [.int 4]])], .no, .no, .no, .nd [.lf (.tup [.tup [.int 0, .int 2, .int 3, .int 4], .tup [.int 1]])]], .nd [.nd [.no, .no, .no, .lf (.tup [.tup [.int 0, .int 2, .int 4, .int 3], .tup [.int 1]])], .no, .no, .nd [.lf (.tup [.tup [.int 0, .int 2, .int 4], .tup [.int 1], .tup [.int 3]])]]], .no, .nd [.nd [.no, .nd [.no, .no, .no, .no, .lf (.tup [.tup [.int 0, .int 2], .tup [.int 1, .int 3], .tup [.int 4]])], .no, .no, .nd [.no, .lf (.tup [.tup [.int 0, .int 2], .tup [.int 1, .int 3, .int 4]])]], .nd [.nd [.no, .no, .no, .no, .lf (.tup [.tup [.int 0, .int 2, .int 1, .int 3], .tup [.int 4]])], .no, .no, .no, .nd [.lf (.tup [.tup [.int 0, .int 2, .int 1, .int 3, .int 4]])]], .no, .no, .nd [.nd [.no, .lf (.tup [.tup [.int 0, .int 2, .int 4, .int 1, .int 3]])], .nd [.lf (.tup [.tup [.int 0, .int 2, .int 4], .tup [.int 1, .int 3]])]]], .nd [.nd [.no, .nd [.no, .no, .no, .lf (.tup [.tup [.int 0, .int 2], .tup [.int 1, .int 4, .int 3]])], .no, .nd [.no, .lf (.tup [.tup [.int 0, .int 2], .tup [.int 1, .int 4], .tup [.int 3]])]], .nd [.nd [.no, .no, .no, .lf (.tup [.tup [.int 0, .int 2, .int 1, .int 4, .int 3]])], .no, .no, .nd [.lf (.tup [.tup [.int 0, .int 2, .int 1, .int 4], .tup [.int 3]])]], .no, .nd [.nd [.no, .lf (.tup [.tup [.int 0, .int 2, .int 3], .tup [.int 1, .int 4]])], .nd [.lf (.tup [.tup [.int 0, .int 2, .int 3, .int 1, .int 4]])]]]], .nd [.nd [.no, .nd [.no, .no, .nd [.no, .no, .no, .no, .lf (.tup [.tup [.int 0, .int 3, .int 2, .int 1], .tup [.int 4]])], .no, .nd [.no, .no, .lf (.tup [.tup [.int 0, .int 3, .int 4, .int 2, .int 1]])]], .nd [.no, .nd [.no, .no, .no, .no, .lf (.tup [.tup [.int 0, .int 3, .int 1], .tup [.int 2], .tup [.int 4]])], .no, .no, .nd [.no, .lf (.tup [.tup [.int 0, .int 3, .int 4, .int 1], .tup [.int 2]])]], .no, .nd [.no, .nd [.no, .no, .lf (.tup [.tup [.int 0, .int 3, .int 1], .tup [.int 2, .int 4]])], .nd [.no, .lf (.tup [.tup [.int 0, .int 3, .int 2, .int 4, .int 1]])]]], .nd [.nd [.no, .no, .nd [.no, .no, .no, .no, .lf (.tup [.tup [.int 0, .int 3, .int 2], .tup [.int 1], .tup [.int 4]])], .no, .nd [.no, .no, .lf (.tup [.tup [.int 0, .int 3, .int 4, .int 2], .tup [.int 1]])]], .no, .nd [.nd [.no, .no, .no, .no, .lf (.tup [.tup [.int 0, .int 3], .tup [.int 1], .tup [.int 2], .tup [.int 4]])], .no, .no, .no, .nd [.lf (.tup [.tup [.int 0, .int 3, .int 4], .tup [.int 1], .tup [.int 2]])]], .no, .nd [.nd [.no, .no, .lf (.tup [.tup [.int 0, .int 3], .tup [.int 1], .tup [.int 2, .int 4]])], .no, .nd [.lf (.tup [.tup [.int 0, .int 3, .int 2, .int 4], .tup [.int 1]])]]], .nd [.nd [.no, .nd [.no, .no, .no, .no, .lf (.tup [.tup [.int 0, .int 3, .int 1, .int 2], .tup [.int 4]])], .no, .no, .nd [.no, .lf (.tup [.tup [.int 0, .int 3, .int 4, .int 1, .int 2]])]], .nd [.nd [.no, .no, .no, .no, .lf (.tup [.tup [.int 0, .int 3], .tup [.int 1, .int 2], .tup [.int 4]])], .no, .no, .no, .nd [.lf (.tup [.tup [.int 0, .int 3, .int 4], .tup [.int 1, .int 2]])]], .no, .no, .nd [.nd [.no, .lf (.tup [.tup [.int 0, .int 3], .tup [.int 1, .int 2, .int 4]])], .nd [.lf (.tup [.tup [.int 0, .int 3, .int 1, .int 2, .int 4]])]]], .no, .nd [.nd [.no, .nd [.no, .no, .lf (.tup [.tup [.int 0, .int 3, .int 1, .int 4, .int 2]])], .nd [.no, .lf (.tup [.tup [.int 0, .int 3, .int 2], .tup [.int 1, .int 4]])]], .nd [.nd [.no, .no, .lf (.tup [.tup [.int 0, .int 3], .tup [.int 1, .int 4, .int 2]])], .no, .nd [.lf (.tup [.tup [.int 0, .int 3, .int 2, .int 1, .int 4]])]], .nd [.nd [.no, .lf (.tup [.tup [.int 0, .int 3], .tup [.int 1, .int 4], .tup [.int 2]])], .nd [.lf (.tup [.tup [.int 0, .int 3, .int 1, .int 4], .tup [.int 2]])]]]], .nd [.nd [.no, .nd [.no, .no, .nd [.no, .no, .no, .lf (.tup [.tup [.int 0, .int 4, .int 3, .int 2, .int 1]])], .nd [.no, .no, .lf (.tup [.tup [.int 0, .int 4, .int 2, .int 1], .tup [.int 3]])]], .nd [.no, .nd [.no, .no, .no, .lf (.tup [.tup [.int 0, .int 4, .int 3, .int 1], .tup [.int 2]])], .no, .nd [.no, .lf (.tup [.tup [.int 0, .int 4, .int 1], .tup [.int 2], .tup [.int 3]])]], .nd [.no, .nd [.no, .no, .lf (.tup [.tup [.int 0, .int 4, .int 2, .int 3, .int 1]])], .nd [.no, .lf (.tup [.tup [.int 0, .int 4, .int 1], .tup [.int 2, .int 3]])]]], .nd [.nd [.no, .no, .nd [.no, .no, .no, .lf (.tup [.tup [.int 0, .int 4, .int 3, .int 2], .tup [.int 1]])], .nd [.no, .no, .lf (.tup [.tup [.int 0, .int 4, .int 2], .tup [.int 1], .tup [.int 3]])]], .no, .nd [.nd [.no, .no, .no, .lf (.tup [.tup [.int 0, .int 4, .int 3], .tup [.int 1], .tup [.int 2]])], .no, .no, .nd [.lf (.tup [.tup [.int 0, .int 4], .tup [.int 1], .tup [.int 2], .tup [.int 3]])]], .nd [.nd [.no, .no, .lf (.tup [.tup [.int 0, .int 4, .int 2, .int 3], .tup [.int 1]])], .no, .nd [.lf (.tup [.tup [.int 0, .int 4], .tup [.int 1], .tup [.int 2, .int 3]])]]], .nd [.nd [.no, .nd [.no, .no, .no, .lf (.tup [.tup [.int 0, .int 4, .int 3, .int 1, .int 2]])], .no, .nd [.no, .lf (.tup [.tup [.int 0, .int 4, .int 1, .int 2], .tup [.int 3]])]], .nd [.nd [.no, .no, .no, .lf (.tup [.tup [.int 0, .int 4, .int 3], .tup [.int 1, .int 2]])], .no, .no, .nd [.lf (.tup [.tup [.int 0, .int 4], .tup [.int 1, .int 2], .tup [.int 3]])]], .no, .nd [.nd [.no, .lf (.tup [.tup [.int 0, .int 4, .int 1, .int 2, .int 3]])], .nd [.lf (.tup [.tup [.int 0, .int 4], .tup [.int 1, .int 2, .int 3]])]]], .nd [.nd [.no, .nd [.no, .no, .lf (.tup [.tup [.int 0, .int 4, .int 2], .tup [.int 1, .int 3]])], .nd [.no, .lf (.tup [.tup [.int 0, .int 4, .int 1, .int 3, .int 2]])]], .nd [.nd [.no, .no, .lf (.tup [.tup [.int 0, .int 4, .int 2, .int 1, .int 3]])], .no, .nd [.lf (.tup [.tup [.int 0, .int 4], .tup [.int 1, .int 3, .int 2]])]], .nd [.nd [.no, .lf (.tup [.tup [.int 0, .int 4, .int 1, .int 3], .tup [.int 2]])], .nd [.lf (.tup [.tup [.int 0, .int 4], .tup [.int 1, .int 3], .tup [.int 2]])]]]]]
def tq_p_rings_of : List Tr := [tq_p_rings_of0, tq_p_rings_of1, tq_p_rings_of2, tq_p_rings_of3, tq_p_rings_of4, tq_p_rings_of5]
def g_rings_of : List D → Option D := tab1 tq_p_rings_of
theorem m_rings_of : ∀ ds r, g_rings_of ds = some r → f_rings_of ds = some r := tab1_ok (by kernel_rfl)
def tq_p_kind_for0 : Tr := .no
def tq_p_kind_for1 : Tr := .nd [.lf (.tup [.int 1])]
def tq_p_kind_for2 : Tr := .nd [.nd [.no, .lf (.tup [.int 1, .int 1])], .nd [.lf (.tup [.int 2])]]
def tq_p_kind_for3 : Tr := .nd [.nd [.no, .nd [.no, .no, .lf (.tup [.int 1, .int 1, .int 1])], .nd [.no, .lf (.tup [.int 2, .int 1])]], .nd [.nd [.no, .no, .lf (.tup [.int 2, .int 1])], .no, .nd [.lf (.tup [.int 3])]], .nd [.nd [.no, .lf (.tup [.int 3])], .nd [.lf (.tup [.int 2, .int 1])]]]
def tq_p_kind_for4 : Tr := .nd [.nd [.no, .nd [.no, .no, .nd [.no, .no, .no, .lf (.tup [.int 1, .int 1, .int 1, .int 1])], .nd [.no, .no, .lf (.tup [.int 2, .int 1, .int 1])]], .nd [.no, .nd [.no, .no, .no, .lf (.tup [.int 2, .int 1, .int 1])], .no, .nd [.no, .lf (.tup [.int 3, .int 1])]], .nd [.no, .nd [.no, .no, .lf (.tup [.int 3, .int 1])], .nd [.no, .lf (.tup [.int 2, .int 1, .int 1])]]], .nd [.nd [.no, .no, .nd [.no, .no, .no, .lf (.tup [.int 2, .int 1, .int 1])], .nd [.no, .no, .lf (.tup [.int 2, .int 2])]], .no, .nd [.nd [.no, .no, .no, .lf (.tup [.int 3, .int 1])], .no, .no, .nd [.lf (.tup [.int 4])]], .nd [.nd [.no, .no, .lf (.tup [.int 4])], .no, .nd [.lf (.tup [.int 3, .int 1])]]], .nd [.nd [.no, .nd [.no, .no, .no, .lf (.tup [.int 3, .int 1])], .no, .nd [.no, .lf (.tup [.int 4])]], .nd [.nd [.no, .no, .no, .lf (.tup [.int 2, .int 1, .int 1])], .no, .no, .nd [.lf (.tup [.int 3, .int 1])]], .no, .nd [.nd [.no, .lf (.tup [.int 2, .int 2])], .nd [.lf (.tup [.int 4])]]], .nd [.nd [.no, .nd [.no, .no, .lf (.tup [.int 4])], .nd [.no, .lf (.tup [.int 3, .int 1])]], .nd [.nd [.no, .no, .lf (.tup [.int 3, .int 1])], .no, .nd [.lf (.tup [.int 2, .int 1, .int 1])]], .nd [.nd [.no, .lf (.tup [.int 4])], .nd [.lf (.tup [.int 2, .int 2])]]]]
def tq_p_kind_for5 : Tr := .nd [.nd [.no, .nd [.no, .no, .nd [.no, .no, .no, .nd [.no, .no, .no, .no, .lf (.tup [.int 1, .int 1, .int 1, .int 1, .int 1])], .nd [.no, .no, .no, .lf (.tup [.int 2, .int 1, .int 1, .int 1])]], .nd [.no, .no, .nd [.no, .no, .no, .no, .lf (.tup [.int 2, .int 1, .int 1, .int 1])], .no, .nd [.no, .no, .lf (.tup [.int 3, .int 1, .int 1])]], .nd [.no, .no, .nd [.no, .no, .no, .lf (.tup [.int 3, .int 1, .int 1])], .nd [.no, .no, .lf (.tup [.int 2, .int 1, .int 1, .int 1])]]], .nd [.no, .nd [.no, .no, .no, .nd [.no, .no, .no, .no, .lf (.tup [.int 2, .int 1, .int 1, .int 1])], .nd [.no, .no, .no, .lf (.tup [.int 2, .int 2, .int 1])]], .no, .nd [.no, .nd [.no, .no, .no, .no, .lf (.tup [.int 3, .int 1, .int 1])], .no, .no, .nd [.no, .lf (.tup [.int 4, .int 1])]], .nd [.no, .nd [.no, .no, .no, .lf (.tup [.int 4, .int 1])], .no, .nd [.no, .lf (.tup [.int 3, .int 1, .int 1])]]], .nd [.no, .nd [.no, .no, .nd [.no, .no, .no, .no, .lf (.tup [.int 3, .int 1, .int 1])], .no, .nd [.no, .no, .lf (.tup [.int 4, .int 1])]], .nd [.no, .nd [.no, .no, .no, .no, .lf (.tup [.int 2, .int 1, .int 1, .int 1])], .no, .no, .nd [.no, .lf (.tup [.int 3, .int 1, .int 1])]], .no, .nd [.no, .nd [.no, .no, .lf (.tup [.int 2, .int 2, .int 1])], .nd [.no, .lf (.tup [.int 4, .int 1])]]], .nd [.no, .nd [.no, .no, .nd [.no, .no, .no, .lf (.tup [.int 4, .int 1])], .nd [.no, .no, .lf (.tup [.int 3, .int 1, .int 1])]], .nd [.no, .nd [.no, .no, .no, .lf (.tup [.int 3, .int 1, .int 1])], .no, .nd [.no, .lf (.tup [.int 2, .int 1, .int 1, .int 1])]], .nd [.no, .nd [.no, .no, .lf (.tup [.int 4, .int 1])], .nd [.no, .lf (.tup [.int 2, .int 2, .int 1])]]]], .nd [.nd [.no, .no, .nd [.no, .no, .no, .nd [.no, .no, .no, .no, .lf (.tup [.int 2, .int 1, .int 1, .int 1])], .nd [.no, .no, .no, .lf (.tup [.int 2, .int 2, .int 1])]], .nd [.no, .no, .nd [.no, .no, .no, .no, .lf (.tup [.int 2, .int 2, .int 1])], .no, .nd [.no, .no, .lf (.tup [.int 3, .int 2])]], .nd [.no, .no, .nd [.no, .no, .no, .lf (.tup [.int 3, .int 2])], .nd [.no, .no, .lf (.tup [.int 2, .int 2, .int 1])]]], .no, .nd [.nd [.no, .no, .no, .nd [.no, .no, .no, .no, .lf (.tup [.int 3, .int 1, .int 1])], .nd [.no, .no, .no, .lf (.tup [.int 3, .int 2])]], .no, .no, .nd [.nd [.no, .no, .no, .no, .lf (.tup [.int 4, .int 1])], .no, .no, .no, .nd [.lf (.tup [.int 5])]], .nd [.nd [.no, .no, .no, .lf (.tup [.int 5])], .no, .no, .nd [.lf (.tup [.int 4, .int 1])]]], .nd [.nd [.no, .no, .nd [.no, .no, .no, .no, .lf (.tup [.int 4, .int 1])], .no, .nd [.no, .no, .lf (.tup [.int 5])]], .no, .nd [.nd [.no, .no, .no, .no, .lf (.tup [.int 3, .int 1, .int 1])], .no, .no, .no, .nd [.lf (.tup [.int 4, .int 1])]], .no, .nd [.nd [.no, .no, .lf (.tup [.int 3, .int 2])], .no, .nd [.lf (.tup [.int 5])]]], .nd [.nd [.no, .no, .nd [.no, .no, .no, .lf (.tup [.int 5])], .nd [.no, .no, .lf (.tup [.int 4, .int 1])]], .no, .nd [.nd [.no, .no, .no, .lf (.tup [.int 4, .int 1])], .no, .no, .nd [.lf (.tup [.int 3, .int 1, .int 1])]], .nd [.nd [.no, .no, .lf (.tup [.int 5])], .no, .nd [.lf (.tup [.int 3, .int 2])]]]], .nd [.nd [.no, .nd [.no, .no, .no, .nd [.no, .no, .no, .no, .lf (.tup [.int 3, .int 1, .int 1])], .nd [.no, .no, .no, .lf (.tup [.int 3, .int 2])]], .no, .nd [.no, .nd [.no, .no, .no, .no, .lf (.tup [.int 4, .int 1])], .no, .no, .nd [.no, .lf (.tup [.int 5])]], .nd [.no, .nd [.no, .no, .no, .lf (.tup [.int 5])], .no, .nd [.no, .lf (.tup [.int 4, .int 1])]]], .nd [.nd [.no, .no, .no, .nd [.no, .no, .no, .no, .lf (.tup [.int 2, .int 1, .int 1, .int 1])], .nd [.no, .no, .no, .lf (.tup [.int 2, .int 2, .int 1])]], .no, .no, .nd [.nd [.no, .no, .no, .no, .lf (.tup [.int 3, .int 1, .int 1])], .no, .no, .no, .nd [.lf (.tup [.int 4, .int 1])]], .nd [.nd [.no, .no, .no, .lf (.tup [.int 4, .int 1])], .no, .no, .nd [.lf (.tup [.int 3, .int 1, .int 1])]]], .no, .nd [.nd [.no, .nd [.no, .no, .no, .no, .lf (.tup [.int 2, .int 2, .int 1])], .no, .no, .nd [.no, .lf (.tup [.int 3, .int 2])]], .nd [.nd [.no, .no, .no, .no, .lf (.tup [.int 4, .int 1])], .no, .no, .no, .nd [.lf (.tup [.int 5])]], .no, .no, .nd [.nd [.no, .lf (.tup [.int 5])], .nd [.lf (.tup [.int 3, .int 2])]]], .nd [.nd [.no, .nd [.no, .no, .no, .lf (.tup [.int 3, .int 2])], .no, .nd [.no, .lf (.tup [.int 2, .int 2, .int 1])]], .nd [.nd [.no, .no, .no, .lf (.tup [.int 5])], .no, .no, .nd [.lf (.tup [.int 4, .int 1])]], .no, .nd [.nd [.no, .lf (.tup [.int 3, .int 2])], .nd [.lf (.tup [.int 5])]]]], .nd [.nd [.no, .nd [.no, .no, .nd [.no, .no, .no, .no, .lf (.tup [.int 4, .int 1])], .no, .nd [.no, .no, .lf (.tup [.int 5])]], .nd [.no, .nd [.no, .no, .no, .no, .lf (.tup [.int 3, .int 1, .int 1])], .no, .no, .nd [.no, .lf (.tup [.int 4, .int 1])]], .no, .nd [.no, .nd [.no, .no, .lf (.tup [.int 3, .int 2])], .nd [.no, .lf (.tup [.int 5])]]], .nd [.nd [.no, .no, .nd [.no, .no, .no, .no, .lf (.tup [.int 3, .int 1, .int 1])], .no, .nd [.no, .no, .lf (.tup [.int 4, .int 1])]], .no, .nd [.nd [.no, .no, .no, .no, .lf (.tup [.int 2, .int 1, .int 1, .int 1])], .no, .no, .no, .nd [.lf (.tup [.int 3, .int 1, .int 1])]], .no, .nd [.nd [.no, .no, .lf (.tup [.int 2, .int 2, .int 1])], .no, .nd [.lf (.tup [.int 4, .int 1])]]], .nd [.nd [.no, .nd [.no, .no, .no, .no, .lf (.tup [.int 4, .int 1])], .no, .no, .nd [.no, .lf (.tup [.int 5])]], .nd [.nd [.no, .no, .no, .no, .lf (.tup [.int 2, .int 2, .int 1])], .no, .no, .no, .nd [.lf (.tup [.int 3, .int 2])]], .no, .no, .nd [.nd [.no, .lf (.tup [.int 3, .int 2])], .nd [.lf (.tup [.int 5])]]], .no, .nd [.nd [.no, .nd [.no, .no, .lf (.tup [.int 5])], .nd [.no, .lf (.tup [.int 3, .int 2])]], .nd [.nd [.no, .no, .lf (.tup [.int 3, .int 2])], .no, .nd [.lf (.tup [.int 5])]], .nd [.nd [.no, .lf (.tup [.int 2, .int 2, .int 1])], .nd [.lf (.tup [.int 4, .int 1])]]]], .nd [.nd [.no, .nd [.no, .no, .nd [.no, .no, .no, .lf (.tup [.int 5])], .nd [.no, .no, .lf (.tup [.int 4, .int 1])]], .nd [.no, .nd [.no, .no, .no, .lf (.tup [.int 4, .int 1])], .no, .nd [.no, .lf (.tup [.int 3, .int 1, .int 1])]], .nd [.no, .nd [.no, .no, .lf (.tup [.int 5])], .nd [.no, .lf (.tup [.int 3, .int 2])]]], .nd [.nd [.no, .no, .nd [.no, .no, .no, .lf (.tup [.int 4, .int 1])], .nd [.no, .no, .lf (.tup [.int 3, .int 1, .int 1])]], .no, .nd [.nd [.no, .no, .no, .lf (.tup [.int 3, .int 1, .int 1])], .no, .no, .nd [.lf (.tup [.int 2, .int 1, .int 1, .int 1])]], .nd [.nd [.no, .no, .lf (.tup [.int 4, .int 1])], .no, .nd [.lf (.tup [.int 2, .int 2, .int 1])]]], .nd [.nd [.no, .nd [.no, .no, .no, .lf (.tup [.int 5])], .no, .nd [.no, .lf (.tup [.int 4, .int 1])]], .nd [.nd [.no, .no, .no, .lf (.tup [.int 3, .int 2])], .no, .no, .nd [.lf (.tup [.int 2, .int 2, .int 1])]], .no, .nd [.nd [.no, .lf (.tup [.int 5])], .nd [.lf (.tup [.int 3, .int 2])]]], .nd [.nd [.no, .nd [.no, .no, .lf (.tup [.int 3, .int 2])], .nd [.no, .lf (.tup [.int 5])]], .nd [.nd [.no, .no, .lf (.tup [.int 5])], .no, .nd [.lf (.tup [.int 3, .int 2])]], .nd [.nd [.no, .lf (.tup [.int 4, .int 1])], .nd [.lf (.tup [.int 2, .int 2, .int 1])]]]]]
def tq_p_kind_for : List Tr := [tq_p_kind_for0, tq_p_kind_for1, tq_p_kind_for2, tq_p_kind_for3, tq_p_kind_for4, tq_p_kind_for5]
def g_kind_for : List D → Option D := tab1 tq_p_kind_for
theorem m_kind_for : ∀ ds r, g_kind_for ds = some r → f_kind_for ds = some r := tab1_ok (by kernel_rfl)
def tq_p_in_lengths0 : Tr := .no
def tq_p_in_lengths1 : Tr := .nd [.lf (.lst [.int 0])]
def tq_p_in_lengths2 : Tr := .nd [.nd [.no, .lf (.lst [.int 1, .int 0])], .nd [.lf (.lst [.int 0, .int 1])]]
def tq_p_in_lengths3 : Tr := .nd [.nd [.no, .nd [.no, .no, .lf (.lst [.int 2, .int 1, .int 0])], .nd [.no, .lf (.lst [.int 1, .int 2, .int 0])]], .nd [.nd [.no, .no, .lf (.lst [.int 0, .int 1, .int 2])], .no, .nd [.lf (.lst [.int 0, .int 1, .int 2])]], .nd [.nd [.no, .lf (.lst [.int 0, .int 2, .int 1])], .nd [.lf (.lst [.int 0, .int 2, .int 1])]]]
def tq_p_in_lengths4 : Tr := .nd [.nd [.no, .nd [.no, .no, .nd [.no, .no, .no, .lf (.lst [.int 3, .int 2, .int 1, .int 0])], .nd [.no, .no, .lf (.lst [.int 2, .int 3, .int 1, .int 0])]], .nd [.no, .nd [.no, .no, .no, .lf (.lst [.int 1, .int 2, .int 3, .int 0])], .no, .nd [.no, .lf (.lst [.int 1, .int 2, .int 3, .int 0])]], .nd [.no, .nd [.no, .no, .lf (.lst [.int 1, .int 3, .int 2, .int 0])], .nd [.no, .lf (.lst [.int 1, .int 3, .int 2, .int 0])]]], .nd [.nd [.no, .no, .nd [.no, .no, .no, .lf (.lst [.int 0, .int 1, .int 3, .int 2])], .nd [.no, .no, .lf (.lst [.int 2, .int 3, .int 0, .int 1])]], .no, .nd [.nd [.no, .no, .no, .lf (.lst [.int 0, .int 1, .int 2, .int 3])], .no, .no, .nd [.lf (.lst [.int 0, .int 1, .int 2, .int 3])]], .nd [.nd [.no, .no, .lf (.lst [.int 0, .int 1, .int 3, .int 2])], .no, .nd [.lf (.lst [.int 0, .int 1, .int 3, .int 2])]]], .nd [.nd [.no, .nd [.no, .no, .no, .lf (.lst [.int 0, .int 2, .int 1, .int 3])], .no, .nd [.no, .lf (.lst [.int 0, .int 2, .int 3, .int 1])]], .nd [.nd [.no, .no, .no, .lf (.lst [.int 0, .int 2, .int 3, .int 1])], .no, .no, .nd [.lf (.lst [.int 0, .int 2, .int 3, .int 1])]], .no, .nd [.nd [.no, .lf (.lst [.int 1, .int 3, .int 0, .int 2])], .nd [.lf (.lst [.int 0, .int 2, .int 1, .int 3])]]], .nd [.nd [.no, .nd [.no, .no, .lf (.lst [.int 0, .int 3, .int 2, .int 1])], .nd [.no, .lf (.lst [.int 0, .int 3, .int 1, .int 2])]], .nd [.nd [.no, .no, .lf (.lst [.int 0, .int 3, .int 2, .int 1])], .no, .nd [.lf (.lst [.int 0, .int 3, .int 2, .int 1])]], .nd [.nd [.no, .lf (.lst [.int 0, .int 3, .int 1, .int 2])], .nd [.lf (.lst [.int 1, .int 2, .int 0, .int 3])]]]]
def tq_p_in_lengths5 : Tr := .nd [.nd [.no, .nd [.no, .no, .nd [.no, .no, .no, .nd [.no, .no, .no, .no, .lf (.lst [.int 4, .int 3, .int 2, .int 1, .int 0])], .nd [.no, .no, .no, .lf (.lst [.int 3, .int 4, .int 2, .int 1, .int 0])]], .nd [.no, .no, .nd [.no, .no, .no, .no, .lf (.lst [.int 2, .int 3, .int 4, .int 1, .int 0])], .no, .nd [.no, .no, .lf (.lst [.int 2, .int 3, .int 4, .int 1, .int 0])]], .nd [.no, .no, .nd [.no, .no, .no, .lf (.lst [.int 2, .int 4, .int 3, .int 1, .int 0])], .nd [.no, .no, .lf (.lst [.int 2, .int 4, .int 3, .int 1, .int 0])]]], .nd [.no, .nd [.no, .no, .no, .nd [.no, .no, .no, .no, .lf (.lst [.int 1, .int 2, .int 4, .int 3, .int 0])], .nd [.no, .no, .no, .lf (.lst [.int 3, .int 4, .int 1, .int 2, .int 0])]], .no, .nd [.no, .nd [.no, .no, .no, .no, .lf (.lst [.int 1, .int 2, .int 3, .int 4, .int 0])], .no, .no, .nd [.no, .lf (.lst [.int 1, .int 2, .int 3, .int 4, .int 0])]], .nd [.no, .nd [.no, .no, .no, .lf (.lst [.int 1, .int 2, .int 4, .int 3, .int 0])], .no, .nd [.no, .lf (.lst [.int 1, .int 2, .int 4, .int 3, .int 0])]]], .nd [.no, .nd [.no, .no, .nd [.no, .no, .no, .no, .lf (.lst [.int 1, .int 3, .int 2, .int 4, .int 0])], .no, .nd [.no, .no, .lf (.lst [.int 1, .int 3, .int 4, .int 2, .int 0])]], .nd [.no, .nd [.no, .no, .no, .no, .lf (.lst [.int 1, .int 3, .int 4, .int 2, .int 0])], .no, .no, .nd [.no, .lf (.lst [.int 1, .int 3, .int 4, .int 2, .int 0])]], .no, .nd [.no, .nd [.no, .no, .lf (.lst [.int 2, .int 4, .int 1, .int 3, .int 0])], .nd [.no, .lf (.lst [.int 1, .int 3, .int 2, .int 4, .int 0])]]], .nd [.no, .nd [.no, .no, .nd [.no, .no, .no, .lf (.lst [.int 1, .int 4, .int 3, .int 2, .int 0])], .nd [.no, .no, .lf (.lst [.int 1, .int 4, .int 2, .int 3, .int 0])]], .nd [.no, .nd [.no, .no, .no, .lf (.lst [.int 1, .int 4, .int 3, .int 2, .int 0])], .no, .nd [.no, .lf (.lst [.int 1, .int 4, .int 3, .int 2, .int 0])]], .nd [.no, .nd [.no, .no, .lf (.lst [.int 1, .int 4, .int 2, .int 3, .int 0])], .nd [.no, .lf (.lst [.int 2, .int 3, .int 1, .int 4, .int 0])]]]], .nd [.nd [.no, .no, .nd [.no, .no, .no, .nd [.no, .no, .no, .no, .lf (.lst [.int 0, .int 1, .int 4, .int 3, .int 2])], .nd [.no, .no, .no, .lf (.lst [.int 3, .int 4, .int 0, .int 1, .int 2])]], .nd [.no, .no, .nd [.no, .no, .no, .no, .lf (.lst [.int 2, .int 3, .int 0, .int 1, .int 4])], .no, .nd [.no, .no, .lf (.lst [.int 2, .int 3, .int 4, .int 0, .int 1])]], .nd [.no, .no, .nd [.no, .no, .no, .lf (.lst [.int 2, .int 4, .int 3, .int 0, .int 1])], .nd [.no, .no, .lf (.lst [.int 2, .int 4, .int 0, .int 1, .int 3])]]], .no, .nd [.nd [.no, .no, .no, .nd [.no, .no, .no, .no, .lf (.lst [.int 0, .int 1, .int 2, .int 4, .int 3])], .nd [.no, .no, .no, .lf (.lst [.int 0, .int 1, .int 2, .int 3, .int 4])]], .no, .no, .nd [.nd [.no, .no, .no, .no, .lf (.lst [.int 0, .int 1, .int 2, .int 3, .int 4])], .no, .no, .no, .nd [.lf (.lst [.int 0, .int 1, .int 2, .int 3, .int 4])]], .nd [.nd [.no, .no, .no, .lf (.lst [.int 0, .int 1, .int 2, .int 4, .int 3])], .no, .no, .nd [.lf (.lst [.int 0, .int 1, .int 2, .int 4, .int 3])]]], .nd [.nd [.no, .no, .nd [.no, .no, .no, .no, .lf (.lst [.int 0, .int 1, .int 3, .int 2, .int 4])], .no, .nd [.no, .no, .lf (.lst [.int 0, .int 1, .int 3, .int 4, .int 2])]], .no, .nd [.nd [.no, .no, .no, .no, .lf (.lst [.int 0, .int 1, .int 3, .int 4, .int 2])], .no, .no, .no, .nd [.lf (.lst [.int 0, .int 1, .int 3, .int 4, .int 2])]], .no, .nd [.nd [.no, .no, .lf (.lst [.int 0, .int 1, .int 3, .int 2, .int 4])], .no, .nd [.lf (.lst [.int 0, .int 1, .int 3, .int 2, .int 4])]]], .nd [.nd [.no, .no, .nd [.no, .no, .no, .lf (.lst [.int 0, .int 1, .int 4, .int 3, .int 2])], .nd [.no, .no, .lf (.lst [.int 0, .int 1, .int 4, .int 2, .int 3])]], .no, .nd [.nd [.no, .no, .no, .lf (.lst [.int 0, .int 1, .int 4, .int 3, .int 2])], .no, .no, .nd [.lf (.lst [.int 0, .int 1, .int 4, .int 3, .int 2])]], .nd [.nd [.no, .no, .lf (.lst [.int 0, .int 1, .int 4, .int 2, .int 3])], .no, .nd [.lf (.lst [.int 0, .int 1, .int 4, .int 2, .int 3])]]]], .nd [.nd [.no, .nd [.no, .no, .no, .nd [.no, .no, .no, .no, .lf (.lst [.int 0, .int 2, .int 1, .int 4, .int 3])], .nd [.no, .no, .no, .lf (.lst [.int 0, .int 2, .int 1, .int 3, .int 4])]], .no, .nd [.no, .nd [.no, .no, .no, .no, .lf (.lst [.int 0, .int 2, .int 3, .int 1, .int 4])], .no, .no, .nd [.no, .lf (.lst [.int 0, .int 2, .int 3, .int 4, .int 1])]], .nd [.no, .nd [.no, .no, .no, .lf (.lst [.int 0, .int 2, .int 4, .int 3, .int 1])], .no, .nd [.no, .lf (.lst [.int 0, .int 2, .int 4, .int 1, .int 3])]]], .nd [.nd [.no, .no, .no, .nd [.no, .no, .no, .no, .lf (.lst [.int 0, .int 2, .int 4, .int 3, .int 1])], .nd [.no, .no, .no, .lf (.lst [.int 3, .int 4, .int 0, .int 2, .int 1])]], .no, .no, .nd [.nd [.no, .no, .no, .no, .lf (.lst [.int 0, .int 2, .int 3, .int 4, .int 1])], .no, .no, .no, .nd [.lf (.lst [.int 0, .int 2, .int 3, .int 4, .int 1])]], .nd [.nd [.no, .no, .no, .lf (.lst [.int 0, .int 2, .int 4, .int 3, .int 1])], .no, .no, .nd [.lf (.lst [.int 0, .int 2, .int 4, .int 3, .int 1])]]], .no, .nd [.nd [.no, .nd [.no, .no, .no, .no, .lf (.lst [.int 1, .int 3, .int 0, .int 2, .int 4])], .no, .no, .nd [.no, .lf (.lst [.int 1, .int 3, .int 4, .int 0, .int 2])]], .nd [.nd [.no, .no, .no, .no, .lf (.lst [.int 0, .int 2, .int 1, .int 3, .int 4])], .no, .no, .no, .nd [.lf (.lst [.int 0, .int 2, .int 1, .int 3, .int 4])]], .no, .no, .nd [.nd [.no, .lf (.lst [.int 0, .int 2, .int 4, .int 1, .int 3])], .nd [.lf (.lst [.int 0, .int 2, .int 4, .int 1, .int 3])]]], .nd [.nd [.no, .nd [.no, .no, .no, .lf (.lst [.int 1, .int 4, .int 3, .int 0, .int 2])], .no, .nd [.no, .lf (.lst [.int 1, .int 4, .int 0, .int 2, .int 3])]], .nd [.nd [.no, .no, .no, .lf (.lst [.int 0, .int 2, .int 1, .int 4, .int 3])], .no, .no, .nd [.lf (.lst [.int 0, .int 2, .int 1, .int 4, .int 3])]], .no, .nd [.nd [.no, .lf (.lst [.int 0, .int 2, .int 3, .int 1, .int 4])], .nd [.lf (.lst [.int 0, .int 2, .int 3, .int 1, .int 4])]]]], .nd [.nd [.no, .nd [.no, .no, .nd [.no, .no, .no, .no, .lf (.lst [.int 0, .int 3, .int 2, .int 1, .int 4])], .no, .nd [.no, .no, .lf (.lst [.int 0, .int 3, .int 4, .int 2, .int 1])]], .nd [.no, .nd [.no, .no, .no, .no, .lf (.lst [.int 0, .int 3, .int 1, .int 4, .int 2])], .no, .no, .nd [.no, .lf (.lst [.int 0, .int 3, .int 4, .int 1, .int 2])]], .no, .nd [.no, .nd [.no, .no, .lf (.lst [.int 0, .int 3, .int 1, .int 2, .int 4])], .nd [.no, .lf (.lst [.int 0, .int 3, .int 2, .int 4, .int 1])]]], .nd [.nd [.no, .no, .nd [.no, .no, .no, .no, .lf (.lst [.int 0, .int 3, .int 2, .int 4, .int 1])], .no, .nd [.no, .no, .lf (.lst [.int 0, .int 3, .int 4, .int 2, .int 1])]], .no, .nd [.nd [.no, .no, .no, .no, .lf (.lst [.int 0, .int 3, .int 4, .int 2, .int 1])], .no, .no, .no, .nd [.lf (.lst [.int 0, .int 3, .int 4, .int 2, .int 1])]], .no, .nd [.nd [.no, .no, .lf (.lst [.int 2, .int 4, .int 0, .int 3, .int 1])], .no, .nd [.lf (.lst [.int 0, .int 3, .int 2, .int 4, .int 1])]]], .nd [.nd [.no, .nd [.no, .no, .no, .no, .lf (.lst [.int 0, .int 3, .int 1, .int 2, .int 4])], .no, .no, .nd [.no, .lf (.lst [.int 0, .int 3, .int 4, .int 1, .int 2])]], .nd [.nd [.no, .no, .no, .no, .lf (.lst [.int 1, .int 2, .int 0, .int 3, .int 4])], .no, .no, .no, .nd [.lf (.lst [.int 0, .int 3, .int 4, .int 1, .int 2])]], .no, .no, .nd [.nd [.no, .lf (.lst [.int 1, .int 2, .int 4, .int 0, .int 3])], .nd [.lf (.lst [.int 0, .int 3, .int 1, .int 2, .int 4])]]], .no, .nd [.nd [.no, .nd [.no, .no, .lf (.lst [.int 0, .int 3, .int 1, .int 4, .int 2])], .nd [.no, .lf (.lst [.int 0, .int 3, .int 2, .int 1, .int 4])]], .nd [.nd [.no, .no, .lf (.lst [.int 1, .int 4, .int 2, .int 0, .int 3])], .no, .nd [.lf (.lst [.int 0, .int 3, .int 2, .int 1, .int 4])]], .nd [.nd [.no, .lf (.lst [.int 1, .int 4, .int 0, .int 3, .int 2])], .nd [.lf (.lst [.int 0, .int 3, .int 1, .int 4, .int 2])]]]], .nd [.nd [.no, .nd [.no, .no, .nd [.no, .no, .no, .lf (.lst [.int 0, .int 4, .int 3, .int 2, .int 1])], .nd [.no, .no, .lf (.lst [.int 0, .int 4, .int 2, .int 1, .int 3])]], .nd [.no, .nd [.no, .no, .no, .lf (.lst [.int 0, .int 4, .int 3, .int 1, .int 2])], .no, .nd [.no, .lf (.lst [.int 0, .int 4, .int 1, .int 3, .int 2])]], .nd [.no, .nd [.no, .no, .lf (.lst [.int 0, .int 4, .int 2, .int 3, .int 1])], .nd [.no, .lf (.lst [.int 0, .int 4, .int 1, .int 2, .int 3])]]], .nd [.nd [.no, .no, .nd [.no, .no, .no, .lf (.lst [.int 0, .int 4, .int 3, .int 2, .int 1])], .nd [.no, .no, .lf (.lst [.int 0, .int 4, .int 2, .int 3, .int 1])]], .no, .nd [.nd [.no, .no, .no, .lf (.lst [.int 0, .int 4, .int 3, .int 2, .int 1])], .no, .no, .nd [.lf (.lst [.int 0, .int 4, .int 3, .int 2, .int 1])]], .nd [.nd [.no, .no, .lf (.lst [.int 0, .int 4, .int 2, .int 3, .int 1])], .no, .nd [.lf (.lst [.int 2, .int 3, .int 0, .int 4, .int 1])]]], .nd [.nd [.no, .nd [.no, .no, .no, .lf (.lst [.int 0, .int 4, .int 3, .int 1, .int 2])], .no, .nd [.no, .lf (.lst [.int 0, .int 4, .int 1, .int 2, .int 3])]], .nd [.nd [.no, .no, .no, .lf (.lst [.int 0, .int 4, .int 3, .int 1, .int 2])], .no, .no, .nd [.lf (.lst [.int 1, .int 2, .int 0, .int 4, .int 3])]], .no, .nd [.nd [.no, .lf (.lst [.int 0, .int 4, .int 1, .int 2, .int 3])], .nd [.lf (.lst [.int 1, .int 2, .int 3, .int 0, .int 4])]]], .nd [.nd [.no, .nd [.no, .no, .lf (.lst [.int 0, .int 4, .int 2, .int 1, .int 3])], .nd [.no, .lf (.lst [.int 0, .int 4, .int 1, .int 3, .int 2])]], .nd [.nd [.no, .no, .lf (.lst [.int 0, .int 4, .int 2, .int 1, .int 3])], .no, .nd [.lf (.lst [.int 1, .int 3, .int 2, .int 0, .int 4])]], .nd [.nd [.no, .lf (.lst [.int 0, .int 4, .int 1, .int 3, .int 2])], .nd [.lf (.lst [.int 1, .int 3, .int 0, .int 4, .int 2])]]]]]
def tq_p_in_lengths : List Tr := [tq_p_in_lengths0, tq_p_in_lengths1, tq_p_in_lengths2, tq_p_in_lengths3, tq_p_in_lengths4, tq_p_in_lengths5]
def g_in_lengths : List D → Option D := tab1 tq_p_in_lengths
theorem m_in_lengths : ∀ ds r, g_in_lengths ds = some r → f_in_lengths ds = some r := tab1_ok (by kernel_rfl)
def tq_p_check_turn0 : Tr := .no
def tq_p_check_turn1 : Tr := .nd [.lf (.non)]
def tq_p_check_turn2 : Tr := .nd [.nd [.no, .lf (.non)], .nd [.lf (.non)]]
def tq_p_check_turn3 : Tr := .nd [.nd [.no, .nd [.no, .no, .lf (.non)], .nd [.no, .lf (.non)]], .nd [.nd [.no, .no, .lf (.non)], .no, .nd [.lf (.non)]], .nd [.nd [.no, .lf (.non)], .nd [.lf (.non)]]]
def tq_p_check_turn4 : Tr := .nd [.nd [.no, .nd [.no, .no, .nd [.no, .no, .no, .lf (.non)], .nd [.no, .no, .lf (.non)]], .nd [.no, .nd [.no, .no, .no, .lf (.non)], .no, .nd [.no, .lf (.non)]], .nd [.no, .nd [.no, .no, .lf (.non)], .nd [.no, .lf (.non)]]], .nd [.nd [.no, .no, .nd [.no, .no, .no, .lf (.non)], .nd [.no, .no, .lf (.non)]], .no, .nd [.nd [.no, .no, .no, .lf (.non)], .no, .no, .nd [.lf (.non)]], .nd [.nd [.no, .no, .lf (.non)], .no, .nd [.lf (.non)]]], .nd [.nd [.no, .nd [.no, .no, .no, .lf (.non)], .no, .nd [.no, .lf (.non)]], .nd [.nd [.no, .no, .no, .lf (.non)], .no, .no, .nd [.lf (.non)]], .no, .nd [.nd [.no, .lf (.non)], .nd [.lf (.non)]]], .nd [.nd [.no, .nd [.no, .no, .lf (.non)], .nd [.no, .lf (.non)]], .nd [.nd [.no, .no, .lf (.non)], .no, .nd [.lf (.non)]], .nd [.nd [.no, .lf (.non)], .nd [.lf (.non)]]]]
def tq_p_check_turn5 : Tr := .nd [.nd [.no, .nd [.no, .no, .nd [.no, .no, .no, .nd [.no, .no, .no, .no, .lf (.non)], .nd [.no, .no, .no, .lf (.non)]], .nd [.no, .no, .nd [.no, .no, .no, .no, .lf (.non)], .no, .nd [.no, .no, .lf (.non)]], .nd [.no, .no, .nd [.no, .no, .no, .lf (.non)], .nd [.no, .no, .lf (.non)]]], .nd [.no, .nd [.no, .no, .no, .nd [.no, .no, .no, .no, .lf (.non)], .nd [.no, .no, .no, .lf (.non)]], .no, .nd [.no, .nd [.no, .no, .no, .no, .lf (.non)], .no, .no, .nd [.no, .lf (.non)]], .nd [.no, .nd [.no, .no, .no, .lf (.non)], .no, .nd [.no, .lf (.non)]]], .nd [.no, .nd [.no, .no, .nd [.no, .no, .no, .no, .lf (.non)], .no, .nd [.no, .no, .lf (.non)]], .nd [.no, .nd [.no, .no, .no, .no, .lf (.non)], .no, .no, .nd [.no, .lf (.non)]], .no, .nd [.no, .nd [.no, .no, .lf (.non)], .nd [.no, .lf (.non)]]], .nd [.no, .nd [.no, .no, .nd [.no, .no, .no, .lf (.non)], .nd [.no, .no, .lf (.non)]], .nd [.no, .nd [.no, .no, .no, .lf (.non)], .no, .nd [.no, .lf (.non)]], .nd [.no, .nd [.no, .no, .lf (.non)], .nd [.no, .lf (.non)]]]], .nd [.nd [.no, .no, .nd [.no, .no, .no, .nd [.no, .no, .no, .no, .lf (.non)], .nd [.no, .no, .no, .lf (.non)]], .nd [.no, .no, .nd [.no, .no, .no, .no, .lf (.non)], .no, .nd [.no, .no, .lf (.non)]], .nd [.no, .no, .nd [.no, .no, .no, .lf (.non)], .nd [.no, .no, .lf (.non)]]], .no, .nd [.nd [.no, .no, .no, .nd [.no, .no, .no, .no, .lf (.non)], .nd [.no, .no, .no, .lf (.non)]], .no, .no, .nd [.nd [.no, .no, .no, .no, .lf (.non)], .no, .no, .no, .nd [.lf (.non)]], .nd [.nd [.no, .no, .no, .lf (.non)], .no, .no, .nd [.lf (.non)]]], .nd [.nd [.no, .no, .nd [.no, .no, .no, .no, .lf (.non)], .no, .nd [.no, .no, .lf (.non)]], .no, .nd [.nd [.no, .no, .no, .no, .lf (.non)], .no, .no, .no, .nd [.lf (.non)]], .no, .nd [.nd [.no, .no, .lf (.non)], .no, .nd [.lf (.non)]]], .nd [.nd [.no, .no, .nd [.no, .no, .no, .lf (.non)], .nd [.no, .no, .lf (.non)]], .no, .nd [.nd [.no, .no, .no, .lf (.non)], .no, .no, .nd [.lf (.non)]], .nd [.nd [.no, .no, .lf (.non)], .no, .nd [.lf (.non)]]]], .nd [.nd [.no, .nd [.no, .no, .no, .nd [.no, .no, .no, .no, .lf (.non)], .nd [.no, .no, .no, .lf (.non)]], .no, .nd [.no, .nd [.no, .no, .no, .no, .lf (.non)], .no, .no, .nd [.no, .lf (.non)]], .nd [.no, .nd [.no, .no, .no, .lf (.non)], .no, .nd [.no, .lf (.non)]]], .nd [.nd [.no, .no, .no, .nd [.no, .no, .no, .no, .lf (.non)], .nd [.no, .no, .no, .lf (.non)]], .no, .no, .nd [.nd [.no, .no, .no, .no, .lf (.non)], .no, .no, .no, .nd [.lf (.non)]], .nd [.nd [.no, .no, .no, .lf (.non)], .no, .no, .nd [.lf (.non)]]], .no, .nd [.nd [.no, .nd [.no, .no, .no, .no, .lf (.non)], .no, .no, .nd [.no, .lf (.non)]], .nd [.nd [.no, .no, .no, .no, .lf (.non)], .no, .no, .no, .nd [.lf (.non)]], .no, .no, .nd [.nd [.no, .lf (.non)], .nd [.lf (.non)]]], .nd [.nd [.no, .nd [.no, .no, .no, .lf (.non)], .no, .nd [.no, .lf (.non)]], .nd [.nd [.no, .no, .no, .lf (.non)], .no, .no, .nd [.lf (.non)]], .no, .nd [.nd [.no, .lf (.non)], .nd [.lf (.non)]]]], .nd [.nd [.no, .nd [.no, .no, .nd [.no, .no, .no, .no, .lf (.non)], .no, .nd [.no, .no, .lf (.non)]], .nd [.no, .nd [.no, .no, .no, .no, .lf (.non)], .no, .no, .nd [.no, .lf (.non)]], .no, .nd [.no, .nd [.no, .no, .lf (.non)], .nd [.no, .lf (.non)]]], .nd [.nd [.no, .no, .nd [.no, .no, .no, .no, .lf (.non)], .no, .nd [.no, .no, .lf (.non)]], .no, .nd [.nd [.no, .no, .no, .no, .lf (.non)], .no, .no, .no, .nd [.lf (.non)]], .no, .nd [.nd [.no, .no, .lf (.non)], .no, .nd [.lf (.non)]]], .nd [.nd [.no, .nd [.no, .no, .no, .no, .lf (.non)], .no, .no, .nd [.no, .lf (.non)]], .nd [.nd [.no, .no, .no, .no, .lf (.non)], .no, .no, .no, .nd [.lf (.non)]], .no, .no, .nd [.nd [.no, .lf (.non)], .nd [.lf (.non)]]], .no, .nd [.nd [.no, .nd [.no, .no, .lf (.non)], .nd [.no, .lf (.non)]], .nd [.nd [.no, .no, .lf (.non)], .no, .nd [.lf (.non)]], .nd [.nd [.no, .lf (.non)], .nd [.lf (.non)]]]], .nd [.nd [.no, .nd [.no, .no, .nd [.no, .no, .no, .lf (.non)], .nd [.no, .no, .lf (.non)]], .nd [.no, .nd [.no, .no, .no, .lf (.non)], .no, .nd [.no, .lf (.non)]], .nd [.no, .nd [.no, .no, .lf (.non)], .nd [.no, .lf (.non)]]], .nd [.nd [.no, .no, .nd [.no, .no, .no, .lf (.non)], .nd [.no, .no, .lf (.non)]], .no, .nd [.nd [.no, .no, .no, .lf (.non)], .no, .no, .nd [.lf (.non)]], .nd [.nd [.no, .no, .lf (.non)], .no, .nd [.lf (.non)]]], .nd [.nd [.no, .nd [.no, .no, .no, .lf (.non)], .no, .nd [.no, .lf (.non)]], .nd [.nd [.no, .no, .no, .lf (.non)], .no, .no, .nd [.lf (.non)]], .no, .nd [.nd [.no, .lf (.non)], .nd [.lf (.non)]]], .nd [.nd [.no, .nd [.no, .no, .lf (.non)], .nd [.no, .lf (.non)]], .nd [.nd [.no, .no, .lf (.non)], .no, .nd [.lf (.non)]], .nd [.nd [.no, .lf (.non)], .nd [.lf (.non)]]]]]
def tq_p_check_turn : List Tr := [tq_p_check_turn0, tq_p_check_turn1, tq_p_check_turn2, tq_p_check_turn3, tq_p_check_turn4, tq_p_check_turn5]
def g_check_turn : List D → Option D := tab1 tq_p_check_turn
theorem m_check_turn : ∀ ds r, g_check_turn ds = some r → f_check_turn ds = some r := tab1_ok (by kernel_rfl)
def tq_p_check_kind0 : Tr := .no
def tq_p_check_kind1 : Tr := .nd [.no, .lf (.non), .lf (.non), .lf (.non), .lf (.non), .lf (.non)]
def tq_p_check_kind2 : Tr := .nd [.no, .nd [.no, .lf (.non)], .nd [.no, .lf (.non), .lf (.non)], .nd [.no, .lf (.non), .lf (.non)], .nd [.no, .lf (.non)]]
def tq_p_check_kind3 : Tr := .nd [.no, .nd [.no, .nd [.no, .lf (.non)]], .nd [.no, .nd [.no, .lf (.non)], .nd [.no, .lf (.non)]], .nd [.no, .nd [.no, .lf (.non)]]]
def tq_p_check_kind4 : Tr := .nd [.no, .nd [.no, .nd [.no, .nd [.no, .lf (.non)]]], .nd [.no, .nd [.no, .nd [.no, .lf (.non)]]]]
def tq_p_check_kind5 : Tr := .nd [.no, .nd [.no, .nd [.no, .nd [.no, .nd [.no, .lf (.non)]]]]]
def tq_p_check_kind : List Tr := [tq_p_check_kind0, tq_p_check_kind1, tq_p_check_kind2, tq_p_check_kind3, tq_p_check_kind4, tq_p_check_kind5]
def g_check_kind : List D → Option D := tabF tq_p_check_kind
theorem m_check_kind : ∀ ds r, g_check_kind ds = some r → f_check_kind ds = some r := tabF_ok (by kernel_rfl)
/-- a def of one small number -/
def tabI (l : List (Option D)) : List D → Option D := fun ds => match ds with
  | [.int (.ofNat i)] => (match nth l i with
    | some o => o
    | none => none)
  | _ => none
def allI (f : List D → Option D) : Nat → List (Option D) → Bool
  | _, [] => true
  | i, none :: l => allI f (i + 1) l
  | i, some d :: l => isS (f [.int (.ofNat i)]) d && allI f (i + 1) l
theorem allI_at {f : List D → Option D} : ∀ (l : List (Option D)) (i j : Nat) (d : D), allI f i l = true → nth l j = some (some d) → f [.int (.ofNat (i + j))] = some d
  | [], _, _, _, _, h => by cases h
  | none :: l, i, 0, d, h, e => by cases e
  | some u :: l, i, 0, d, h, e => by
    simp only [allI, Bool.and_eq_true] at h
    cases e
    exact isS_ok h.1
  | none :: l, i, j + 1, d, h, e => by
    simp only [allI] at h
    have := allI_at l (i + 1) j d h e
    rw [show i + 1 + j = i + (j + 1) by omega] at this
    exact this
  | some u :: l, i, j + 1, d, h, e => by
    simp only [allI, Bool.and_eq_true] at h
    have := allI_at l (i + 1) j d h.2 e
    rw [show i + 1 + j = i + (j + 1) by omega] at this
    exact this
theorem tabI_ok {f : List D → Option D} {l : List (Option D)} (h : allI f 0 l = true) : ∀ ds r, tabI l ds = some r → f ds = some r := fun ds r e => by
  match ds, e with
  | [.int (.ofNat i)], e =>
    have e : (match nth l i with
      | some o => o
      | none => none) = some r := e
    cases q : nth l i with
    | none => rw [q] at e; cases e
    | some o =>
      rw [q] at e
      dsimp only at e
      subst e
      have := allI_at l 0 i r h q
      rwa [Nat.zero_add] at this
def tq_all : List (Option D) := [none, some (.lst [.tup [.int 0]]), some (.lst [.tup [.int 0, .int 1], .tup [.int 1, .int 0]]), some (.lst [.tup [.int 0, .int 1, .int 2], .tup [.int 0, .int 2, .int 1], .tup [.int 1, .int 0, .int 2], .tup [.int 1, .int 2, .int 0], .tup [.int 2, .int 0, .int 1], .tup [.int 2, .int 1, .int 0]]), some (.lst [.tup [.int 0, .int 1, .int 2, .int 3], .tup [.int 0, .int 1, .int 3, .int 2], .tup [.int 0, .int 2, .int 1, .int 3], .tup [.int 0, .int 2, .int 3, .int 1], .tup [.int 0, .int 3, .int 1, .int 2], .tup [.int 0, .int 3, .int 2, .int 1], .tup [.int 1, .int 0, .int 2, .int 3], .tup [.int 1, .int 0, .int 3, .int 2], .tup [.int 1, .int 2, .int 0, .int 3], .tup [.int 1, .int 2, .int 3, .int 0], .tup [.int 1, .int 3, .int 0, .int 2], .tup [.int 1, .int 3, .int 2, .int 0], .tup [.int 2, .int 0, .int 1, .int 3], .tup [.int 2, .int 0, .int 3, .int 1], .tup [.int 2, .int 1, .int 0, .int 3], .tup [.int 2, .int 1, .int 3, .int 0], .tup [.int 2, .int 3, .int 0, .int 1], .tup [.int 2, .int 3, .int 1, .int 0], .tup [.int 3, .int 0, .int 1, .int 2], .tup [.int 3, .int 0, .int 2, .int 1], .tup [.int 3, .int 1, .int 0, .int 2], .tup [.int 3, .int 1, .int 2, .int 0], .tup [.int 3, .int 2, .int 0, .int 1], .tup [.int 3, .int 2, .int 1, .int 0]]), some (.lst [.tup [.int 0, .int 1, .int 2, .int 3, .int 4], .tup [.int 0, .int 1, .int 2, .int 4, .int 3], .tup [.int 0, .int 1, .int 3, .int 2, .int 4], .tup [.int 0, .int 1, .int 3, .int 4, .int 2], .tup [.int 0, .int 1, .int 4, .int 2, .int 3], .tup [.int 0, .int 1, .int 4, .int 3, .int 2], .tup [.int 0, .int 2, .int 1, .int 3, .int 4], .tup [.int 0, .int 2, .int 1, .int 4, .int 3], .tup [.int 0, .int 2, .int 3, .int 1, .int 4], .tup [.int 0, .int 2, .int 3, .int 4, .int 1], .tup [.int 0, .int 2, .int 4, .int 1, .int 3], .tup [.int 0, .int 2, .int 4, .int 3, .int 1], .tup [.int 0, .int 3, .int 1, .int 2, .int 4], .tup [.int 0, .int 3, .int 1, .int 4, .int 2], .tup [.int 0, .int 3, .int 2, .int 1, .int 4], .tup [.int 0, .int 3, .int 2, .int 4, .int 1], .tup [.int 0, .int 3, .int 4, .int 1, .int 2], .tup [.int 0, .int 3, .int 4, .int 2, .int 1], .tup [.int 0, .int 4, .int 1, .int 2, .int 3], .tup [.int 0, .int 4, .int 1, .int 3, .int 2], .tup [.int 0, .int 4, .int 2, .int 1, .int 3], .tup [.int 0, .int 4, .int 2, .int 3, .int 1], .tup [.int 0, .int 4, .int 3, .int 1, .int 2], .tup [.int 0, .int 4, .int 3, .int 2, .int 1], .tup [.int 1, .int 0, .int 2, .int 3, .int 4], .tup [.int 1, .int 0, .int 2, .int 4, .int 3], .tup [.int 1, .int 0, .int 3, .int 2, .int 4], .tup [.int 1, .int 0, .int 3, .int 4, .int 2], .tup [.int 1, .int 0, .int 4, .int 2, .int 3], .tup [.int 1, .int 0, .int 4, .int 3, .int 2], .tup [.int 1, .int 2, .int 0, .int 3, .int 4], .tup [.int 1, .int 2, .int 0, .int 4, .int 3], .tup [.int 1, .int 2, .int 3, .int 0, .int 4], .tup [.int 1, .int 2, .int 3, .int 4, .int 0], .tup [.int 1, .int 2, .int 4, .int 0, .int 3], .tup [.int 1, .int 2, .int 4, .int 3, .int 0], .tup [.int 1, .int 3, .int 0, .int 2, .int 4], .tup [.int 1, .int 3, .int 0, .int 4, .int 2], .tup [.int 1, .int 3, .int 2, .int 0, .int 4], .tup [.int 1, .int 3, .int 2, .int 4, .int 0], .tup [.int 1, .int 3, .int 4, .int 0, .int 2], .tup [.int 1, .int 3, .int 4, .int 2, .int 0], .tup [.int 1, .int 4, .int 0, .int 2, .int 3], .tup [.int 1, .int 4, .int 0, .int 3, .int 2], .tup [.int 1, .int 4, .int 2, .int 0, .int 3], .tup [.int 1, .int 4, .int 2, .int 3, .int 0], .tup [.int 1, .int 4, .int 3, .int 0, .int 2], .tup [.int 1, .int 4, .int 3, .int 2, .int 0], .tup [.int 2, .int 0, .int 1, .int 3, .int 4], .tup [.int 2, .int 0, .int 1, .int 4, .int 3], .tup [.int 2, .int 0, .int 3, .int 1, .int 4], .tup [.int 2, .int 0, .int 3, .int 4, .int 1], .tup [.int 2, .int 0, .int 4, .int 1, .int 3], .tup [.int 2, .int 0, .int 4, .int 3, .int 1], .tup [.int 2, .int 1, .int 0, .int 3, .int 4], .tup [.int 2, .int 1, .int 0, .int 4, .int 3], .tup [.int 2, .int 1, .int 3, .int 0, .int 4], .tup [.int 2, .int 1, .int 3, .int 4, .int 0], .tup [.int 2, .int 1, .int 4, .int 0, .int 3], .tup [.int 2, .int 1, .int 4, .int 3, .int 0], .tup [.int 2, .int 3, .int 0, .int 1, .int 4], .tup [.int 2, .int 3, .int 0, .int 4, .int 1], .tup [.int 2, .int 3, .int 1, .int 0, .int 4], .tup [.int 2, .int 3, .int 1, .int 4, .int 0], .tup [.int 2, .int 3, .int 4, .int 0, .int 1], .tup [.int 2, .int 3, .int 4, .int 1, .int 0], .tup [.int 2, .int 4, .int 0, .int 1, .int 3], .tup [.int 2, .int 4, .int 0, .int 3, .int 1], .tup [.int 2, .int 4, .int 1, .int 0, .int 3], .tup [.int 2, .int 4, .int 1, .int 3, .int 0], .tup [.int 2, .int 4, .int 3, .int 0, .int 1], .tup [.int 2, .int 4, .int 3, .int 1, .int 0], .tup [.int 3, .int 0, .int 1, .int 2, .int 4], .tup [.int 3, .int 0, .int 1, .int 4, .int 2], .tup [.int 3, .int 0, .int 2, .int 1, .int 4], .tup [.int 3, .int 0, .int 2, .int 4, .int 1], .tup [.int 3, .int 0, .int 4, .int 1, .int 2], .tup [.int 3, .int 0, .int 4, .int 2, .int 1], .tup [.int 3, .int 1, .int 0, .int 2, .int 4], .tup [.int 3, .int 1, .int 0, .int 4, .int 2], .tup [.int 3, .int 1, .int 2, .int 0, .int 4], .tup [.int 3, .int 1, .int 2, .int 4, .int 0], .tup [.int 3, .int 1, .int 4, .int 0, .int 2], .tup [.int 3, .int 1, .int 4, .int 2, .int 0], .tup [.int 3, .int 2, .int 0, .int 1, .int 4], .tup [.int 3, .int 2, .int 0, .int 4, .int 1], .tup [.int 3, .int 2, .int 1, .int 0, .int 4], .tup [.int 3, .int 2, .int 1, .int 4, .int 0], .tup [.int 3, .int 2, .int 4, .int 0, .int 1], .tup [.int 3, .int 2, .int 4, .int 1, .int 0], .tup [.int 3, .int 4, .int 0, .int 1, .int 2], .tup [.int 3, .int 4, .int 0, .int 2, .int 1], .tup [.int 3, .int 4, .int 1, .int 0, .int 2], .tup [.int 3, .int 4, .int 1, .int 2, .int 0], .tup [.int 3, .int 4, .int 2, .int 0, .int 1], .tup [.int 3, .int 4, .int 2, .int 1, .int 0], .tup [.int 4, .int 0, .int 1, .int 2, .int 3], .tup [.int 4, .int 0, .int 1, .int 3, .int 2], .tup [.int 4, .int 0, .int 2, .int 1, .int 3], .tup [.int 4, .int 0, .int 2, .int 3, .int 1], .tup [.int 4, .int 0, .int 3, .int 1, .int 2], .tup [.int 4, .int 0, .int 3, .int 2, .int 1], .tup [.int 4, .int 1, .int 0, .int 2, .int 3], .tup [.int 4, .int 1, .int 0, .int 3, .int 2], .tup [.int 4, .int 1, .int 2, .int 0, .int 3], .tup [.int 4, .int 1, .int 2, .int 3, .int 0], .tup [.int 4, .int 1, .int 3, .int 0, .int 2], .tup [.int 4, .int 1, .int 3, .int 2, .int 0], .tup [.int 4, .int 2, .int 0, .int 1, .int 3], .tup [.int 4, .int 2, .int 0, .int 3, .int 1], .tup [.int 4, .int 2, .int 1, .int 0, .int 3], .tup [.int 4, .int 2, .int 1, .int 3, .int 0], .tup [.int 4, .int 2, .int 3, .int 0, .int 1], .tup [.int 4, .int 2, .int 3, .int 1, .int 0], .tup [.int 4, .int 3, .int 0, .int 1, .int 2], .tup [.int 4, .int 3, .int 0, .int 2, .int 1], .tup [.int 4, .int 3, .int 1, .int 0, .int 2], .tup [.int 4, .int 3, .int 1, .int 2, .int 0], .tup [.int 4, .int 3, .int 2, .int 0, .int 1], .tup [.int 4, .int 3, .int 2, .int 1, .int 0]])]
def g__law_all : List D → Option D := tabI tq_all
theorem m__law_all : ∀ ds r, g__law_all ds = some r → f__law_all ds = some r := tabI_ok (by kernel_rfl)
end XL
end
section
set_option maxRecDepth 100000
set_option maxHeartbeats 4000000
/-! XEnd: the end of a law whose defs need that no repr is open. -/
namespace XL
open PySem PySem.Spec PyProof.Rows L2
/-- the start: tables empty, the script frozen where the written part does not tell it -/
def stH (K : PySem.W.Frag) (tb : List Addr) (a : Addr) (vs : List Value) (ns : List Int) : Hp := fun b =>
  if b ∈ tb then some (.tbl #[]) else if b = a then (match K.lookup a with
    | some _ => none
    | none => some (.frz { cls := .type "list", data := .seq vs.toArray } (.lst (ns.map V.int)))) else none
section
variable {K : PySem.W.Frag} {tb : List Addr} {a b : Addr} {vs : List Value} {ns : List Int} {u : HO}
theorem stH_t (h : b ∈ tb) : stH K tb a vs ns b = some (.tbl #[]) := if_pos h
theorem stH_cases (h : stH K tb a vs ns b = some u) : (b ∈ tb ∧ u = .tbl #[]) ∨ (b ∉ tb ∧ b = a ∧ K.lookup a = none ∧ u = .frz { cls := .type "list", data := .seq vs.toArray } (.lst (ns.map V.int))) := by
  unfold stH at h
  by_cases h1 : b ∈ tb
  · rw [if_pos h1] at h
    exact .inl ⟨h1, (Option.some.inj h).symm⟩
  · rw [if_neg h1] at h
    by_cases h2 : b = a
    · rw [if_pos h2] at h
      cases q : K.lookup a with
      | some o => rw [q] at h; cases h
      | none =>
        rw [q] at h
        exact .inr ⟨h1, h2, rfl, (Option.some.inj h).symm⟩
    · rw [if_neg h2] at h
      cases h
end
theorem end_call {P : Program} {w : World} {K : PySem.W.Frag} {mg mb : Str → Option Value} {k : Nat} {fa a : Addr} {cs : List (Addr × Addr)} {fd : FuncData} {x : Str} {sp : Sp} {s : Shared} {vs : List Value} {ns : List Int}
    (kin : K.In s.heap) (gl : s.heap.Ns mainGlobals mg) (bl : s.heap.Ns builtinsNs mb) (blb : ∀ z : Str, z ≠ "__name__" → mb z = bootBuiltins z) (nl : s.heap.NoLimit) (gn : s.gens = #[])
    (tE : ∀ p ∈ cs, s.heap.get? p.2 = some { cls := .none, data := .fields #[] }) (tK : ∀ p ∈ cs, K.lookup p.2 = none) (tC : ∀ p ∈ cs, PySem.W.CodeHd s.heap p.1 p.2)
    (bmn : ∃ (m : Addr) (o : Obj), mg "__builtins__" = some (.ref m) ∧ m ≠ builtinsNs ∧ s.heap.get? m = some o ∧ o.cls = .type "module" ∧ o.dict = some builtinsNs ∧ o.data = .plain)
    (sc : s.heap.get? a = some { cls := .type "list", data := .seq vs.toArray }) (si : IntsAre vs ns) (sl : ns.length ≤ sizeLine) (rm : Room k callerA)
    (F : ∀ base : Heap, K.In base → base.Ns mainGlobals mg → (∀ p ∈ cs, LamX.TabB base mg p.1 p.2) → FnOkG P w K mg base CX0 k fa fd [x] sp) (bd : ∀ (s : Shared) (u : Value), BindsTo s fd ⟨[u], []⟩ [(x, u)])
    (prom : ∀ H : Hp, (∀ p ∈ cs, H p.2 = some (.tbl #[])) → SqL K H a (ns.map V.int) → sp [.ref a] H (fun v _ => v = .bl true) fun _ _ _ => False) :
    codeAny (model P w) callerA (.call (.ref fa) ⟨[.ref a], []⟩) (fun r s' => r = .ok (.ret (.bool true)) ∧ OldK s.heap s'.heap ∧ s'.os = s.os ∧ AllBare s'.gens) s := by
  have vv := vals_ints si
  have vl := si.length
  let tb : List Addr := cs.map (·.2)
  have tbE : ∀ b ∈ tb, s.heap.get? b = some { cls := .none, data := .fields #[] } := fun b hb => by
    obtain ⟨p, hp, rfl⟩ := List.mem_map.mp hb
    exact tE p hp
  have inTb : ∀ p ∈ cs, p.2 ∈ tb := fun p hp => List.mem_map.mpr ⟨p, hp, rfl⟩
  have aTb : a ∉ tb := fun z => by
    have e := (tbE a z).symm.trans sc
    injection e with e
    injection e with _ _ e
    cases e
  let H : Hp := stH K tb a vs ns
  have HT : ∀ p ∈ cs, H p.2 = some (.tbl #[]) := fun p hp => stH_t (inTb p hp)
  -- what is tracked: an object of no class with empty fields, or the script's list
  have only : ∀ {b : Addr} {o : Obj}, s.heap.get? b = some o → o.data ≠ .fields #[] → (∀ q n, o.data ≠ .seq q n) → H b = none := fun {b o} e n1 n2 => by
    cases q : H b with
    | none => rfl
    | some u =>
      rcases stH_cases q with ⟨z, _⟩ | ⟨_, z, _⟩
      · rw [tbE b z] at e
        cases e
        exact absurd rfl n1
      · subst z
        rw [sc] at e
        cases e
        exact absurd rfl (n2 _ _)
  have nsB : ∀ {b : Addr} {m : Str → Option Value}, s.heap.Ns b m → (hidT s.heap H).Ns b m := fun {b m} ⟨o, es, ep, e, dd, r⟩ =>
    ⟨o, es, ep, hidT_get e (only e (by rw [dd]; exact fun z => nomatch z) (by rw [dd]; exact fun _ _ z => nomatch z)), dd, r⟩
  have kB : K.In (hidT s.heap H) := fun b o e => hidT_get (kin b o e) (by
    cases q : H b with
    | none => rfl
    | some u =>
      rcases stH_cases q with ⟨z, _⟩ | ⟨_, z, z2, _⟩
      · obtain ⟨p, hp, rfl⟩ := List.mem_map.mp z
        rw [tK p hp] at e
        cases e
      · rw [z, z2] at e
        cases e)
  have md : L2.Mod K mg (hidT s.heap H) := ⟨kB, nsB gl, ⟨mb, nsB bl, blb⟩, let ⟨m, m1, m2⟩ := nl; ⟨m, nsB m1, m2⟩⟩
  have tB : ∀ p ∈ cs, LamX.TabB (hidT s.heap H) mg p.1 p.2 := fun p hp => by
    have e0 := tE p hp
    refine ⟨?_, ?_, fun z => ?_⟩
    · obtain ⟨o, us, fl, tf, fg, tg, inF, tx, tt, e1, r1, r2, r3, rest⟩ := tC p hp
      refine ⟨o, us, fl, tf, fg, tg, inF, tx, tt, hidT_get e1 (only e1 (fun z => ?_) fun q n z => ?_), r1, r2, r3, rest⟩
      · rw [r2] at z
        injection z with z
        subst z
        simp at r3
      · rw [r2] at z
        cases z
    · obtain ⟨m, o, b1, b2, b3, b4, b5, b6⟩ := bmn
      refine ⟨m, o, b1, b2, fun z => ?_, fun z => ?_, hidT_get b3 (only b3 (by rw [b6]; exact fun z => nomatch z) (by rw [b6]; exact fun _ _ z => nomatch z)), b4, b5, b6⟩
      · obtain ⟨g, es, ep, e, dd, _⟩ := gl
        rw [z, e] at b3
        cases b3
        rw [dd] at b6
        cases b6
      · rw [z, e0] at b3
        cases b3
        cases b6
    · obtain ⟨g, es, ep, e, dd, _⟩ := gl
      rw [z, e0] at e
      cases e
      cases dd
  have hk : HOk P w H s.heap := fun b u q => by
    rcases stH_cases q with ⟨z, rfl⟩ | ⟨_, z, _, rfl⟩
    · exact tbE b z
    · subst z
      exact ⟨sc, by rw [List.length_map]; exact sl, vs, _, vv, sc⟩
  have sq : SqL K H a (ns.map V.int) := by
    cases q : K.lookup a with
    | some o =>
      have e := kin a o q
      rw [sc] at e
      cases e
      exact .inr ⟨_, vs.toArray, _, q, rfl, rfl, rfl, by rw [List.size_toArray, vl]; exact sl, by simpa using vv⟩
    | none =>
      refine .inl (.inr ⟨{ cls := .type "list", data := .seq vs.toArray }, ?_⟩)
      show (if a ∈ tb then _ else if a = a then _ else _) = _
      rw [if_neg aTb, if_pos rfl, q]
  have e0 : Env0 P w K mg (hidT s.heap H) callerA [] s H := ⟨rfl, md, fun b o e => of_hidT e, Nat.le_of_eq (hidT_size _ _), trivial, fun b z => absurd (show b ∈ ([] : List Addr) from z) (by simp), hk, .of_eq gn⟩
  refine codeAny_mono ((F _ kB (nsB gl) tB).run callerA [] s H ⟨[.ref a], []⟩ [.ref a] [.ref a] _ _ rm rfl e0 (bd s (.ref a)) (.cons rfl .nil) (prom H HT sq)) fun r s' z => ?_
  cases r with
  | error e => exact (show False from z).elim
  | ok fl =>
    cases fl with
    | next => exact (show False from z).elim
    | brk => exact (show False from z).elim
    | cont => exact (show False from z).elim
    | ret u =>
      obtain ⟨v, H', os, br, un, hk', rv, q⟩ := z
      have q : v = .bl true := q
      subst q
      have ru : u = Value.bool true := rv
      subst ru
      have stay : ∀ b o, b ∉ tb → s.heap.get? b = some o → s'.heap.get? b = some o := fun b o nb e => by
        cases qb : H b with
        | none => exact un.keep b o e qb (fun z => absurd (show b ∈ ([] : List Addr) from z) (by simp)) (by simp)
        | some t =>
          rcases stH_cases qb with ⟨z, _⟩ | ⟨_, z, _, rfl⟩
          · exact absurd z nb
          · obtain ⟨w1, _⟩ := hk b _ qb
            obtain ⟨w2, _⟩ := hk' b _ (un.frzs b _ _ qb)
            rw [e] at w1
            cases w1
            exact w2
      have tabE : ∀ p ∈ cs, ∃ more : Array Value, s'.heap.get? p.2 = some { cls := .none, data := .fields more } := fun p hp => by
        obtain ⟨more, z⟩ := un.tbls p.2 #[] (HT p hp)
        exact ⟨_, hk' p.2 _ z⟩
      refine ⟨rfl, ⟨fun b o e => ?_, fun b o e => ?_⟩, os, br⟩
      · by_cases hb : b ∈ tb
        · obtain ⟨p, hp, rfl⟩ := List.mem_map.mp hb
          obtain ⟨more, hm⟩ := tabE p hp
          rw [tE p hp] at e
          cases e
          exact .inr (.inl ⟨((tC p hp).tab (tE p hp)).isCodeTable, rfl, #[], more, rfl, by rw [Array.empty_append]; exact hm⟩)
        · exact .inl (stay b o hb e)
      · by_cases hb : b ∈ tb
        · obtain ⟨p, hp, rfl⟩ := List.mem_map.mp hb
          obtain ⟨more, hm⟩ := tabE p hp
          exact ⟨_, hm⟩
        · exact ⟨o, stay b o hb e⟩
end XL
end
section
set_option maxRecDepth 100000
set_option maxHeartbeats 0
/-! XN8: defs of the text, printed by gen.py. -/
namespace XL
open PySem PySem.Spec PyProof.Rows L2
variable {P : Program} {w : World} {K : PySem.W.Frag} {mg : Str → Option Value} {base : Heap}
/-! ### _law_of_kind -/
theorem s2__law_of_kind : FnScope ["_law_lens_here", "_law_spin_here"] ["_law_lens_here"] (defScope (top 71)) := ⟨rfl, rfl, rfl, by decide +kernel, rfl, by decide +kernel, by decide +kernel⟩
def x2__law_of_kind : XS := xRet (xLc 130 (xiSeq (xCall g__law_all (xaCons (xFn gSum (xaCons (xVar 0) (xaNil))) (xaNil)))) (xgName 1) (xTB (xOp gEq (xCall g__law_lens (xaCons (xVar 1) (xaNil))) (xVar 0))) (xVar 1) [1])
def f2__law_of_kind : List D → Option D := fnX 1 2 x2__law_of_kind
theorem k2__law_of_kind (B : Blt mg) (d : DefAt K mg "_law_of_kind" (top 71)) (c__law_all : FA P w K mg base 1 "_law_all" ["_law_many_here"] (spC g__law_all)) (c__law_lens : FA P w K mg base 2 "_law_lens" ["_law_spin_here"] (spC g__law_lens)) : FA P w K mg base 3 "_law_of_kind" ["_law_lens_here"] (spC f2__law_of_kind) :=
  fa_of (xb := x2__law_of_kind) d s2__law_of_kind rfl rfl (fun _ _ _ _ _ _ us hl => match us, hl with | [_], _ => rfl) fun f cdv A outer s H E hr =>
    xss_one (xs_ret (xe_lc (own := [("_law_spin_here", 1)]) 130 rfl s2__law_of_kind.nd (xi_seq (xe_c c__law_all hr (by decide) rfl (xa_cons (c_sum rfl B rfl (xa_cons (xe_var 0) (xa_nil))) (xa_nil)))) (blkOk_by (by rfl)) (fun _ _ _ _ _ => xg_name 1 s2__law_of_kind.nd rfl (by first | exact .inl rfl | exact .inr rfl) (by decide)) (fun _ _ _ _ _ => xts_one (t_eq hr (xe_c c__law_lens hr (by decide) rfl (xa_cons (xe_var 1) (xa_nil))) (xe_var 0))) (fun _ _ _ _ _ => xe_var 1)))
end XL
end
section
set_option maxRecDepth 100000
set_option maxHeartbeats 0
/-! XMir2: the table of _law_of_kind, printed by gen_mir.py. -/
namespace XL
open PySem PySem.Spec PyProof.Rows L2
def tq_ok0 : Tr := .no
def tq_ok1 : Tr := .nd [.no, .lf (.lst [.tup [.int 0]]), .lf (.lst [.tup [.int 1, .int 0]]), .lf (.lst [.tup [.int 1, .int 2, .int 0], .tup [.int 2, .int 0, .int 1]]), .lf (.lst [.tup [.int 1, .int 2, .int 3, .int 0], .tup [.int 1, .int 3, .int 0, .int 2], .tup [.int 2, .int 0, .int 3, .int 1], .tup [.int 2, .int 3, .int 1, .int 0], .tup [.int 3, .int 0, .int 1, .int 2], .tup [.int 3, .int 2, .int 0, .int 1]]), .lf (.lst [.tup [.int 1, .int 2, .int 3, .int 4, .int 0], .tup [.int 1, .int 2, .int 4, .int 0, .int 3], .tup [.int 1, .int 3, .int 0, .int 4, .int 2], .tup [.int 1, .int 3, .int 4, .int 2, .int 0], .tup [.int 1, .int 4, .int 0, .int 2, .int 3], .tup [.int 1, .int 4, .int 3, .int 0, .int 2], .tup [.int 2, .int 0, .int 3, .int 4, .int 1], .tup [.int 2, .int 0, .int 4, .int 1, .int 3], .tup [.int 2, .int 3, .int 1, .int 4, .int 0], .tup [.int 2, .int 3, .int 4, .int 0, .int 1], .tup [.int 2, .int 4, .int 1, .int 0, .int 3], .tup [.int 2, .int 4, .int 3, .int 1, .int 0], .tup [.int 3, .int 0, .int 1, .int 4, .int 2], .tup [.int 3, .int 0, .int 4, .int 2, .int 1], .tup [.int 3, .int 2, .int 0, .int 4, .int 1], .tup [.int 3, .int 2, .int 4, .int 1, .int 0], .tup [.int 3, .int 4, .int 0, .int 1, .int 2], .tup [.int 3, .int 4, .int 1, .int 2, .int 0], .tup [.int 4, .int 0, .int 1, .int 2, .int 3], .tup [.int 4, .int 0, .int 3, .int 1, .int 2], .tup [.int 4, .int 2, .int 0, .int 1, .int 3], .tup [.int 4, .int 2, .int 3, .int 0, .int 1], .tup [.int 4, .int 3, .int 0, .int 2, .int 1], .tup [.int 4, .int 3, .int 1, .int 0, .int 2]])]
def tq_ok2 : Tr := .nd [.no, .nd [.no, .lf (.lst [.tup [.int 0, .int 1]])], .nd [.no, .lf (.lst [.tup [.int 0, .int 2, .int 1], .tup [.int 1, .int 0, .int 2], .tup [.int 2, .int 1, .int 0]]), .lf (.lst [.tup [.int 1, .int 0, .int 3, .int 2], .tup [.int 2, .int 3, .int 0, .int 1], .tup [.int 3, .int 2, .int 1, .int 0]])], .nd [.no, .lf (.lst [.tup [.int 0, .int 2, .int 3, .int 1], .tup [.int 0, .int 3, .int 1, .int 2], .tup [.int 1, .int 2, .int 0, .int 3], .tup [.int 1, .int 3, .int 2, .int 0], .tup [.int 2, .int 0, .int 1, .int 3], .tup [.int 2, .int 1, .int 3, .int 0], .tup [.int 3, .int 0, .int 2, .int 1], .tup [.int 3, .int 1, .int 0, .int 2]]), .lf (.lst [.tup [.int 1, .int 0, .int 3, .int 4, .int 2], .tup [.int 1, .int 0, .int 4, .int 2, .int 3], .tup [.int 1, .int 2, .int 0, .int 4, .int 3], .tup [.int 1, .int 3, .int 4, .int 0, .int 2], .tup [.int 1, .int 4, .int 3, .int 2, .int 0], .tup [.int 2, .int 0, .int 1, .int 4, .int 3], .tup [.int 2, .int 3, .int 0, .int 4, .int 1], .tup [.int 2, .int 3, .int 4, .int 1, .int 0], .tup [.int 2, .int 4, .int 0, .int 1, .int 3], .tup [.int 2, .int 4, .int 3, .int 0, .int 1], .tup [.int 3, .int 0, .int 4, .int 1, .int 2], .tup [.int 3, .int 2, .int 1, .int 4, .int 0], .tup [.int 3, .int 2, .int 4, .int 0, .int 1], .tup [.int 3, .int 4, .int 0, .int 2, .int 1], .tup [.int 3, .int 4, .int 1, .int 0, .int 2], .tup [.int 4, .int 0, .int 3, .int 2, .int 1], .tup [.int 4, .int 2, .int 1, .int 0, .int 3], .tup [.int 4, .int 2, .int 3, .int 1, .int 0], .tup [.int 4, .int 3, .int 0, .int 1, .int 2], .tup [.int 4, .int 3, .int 1, .int 2, .int 0]])], .nd [.no, .lf (.lst [.tup [.int 0, .int 2, .int 3, .int 4, .int 1], .tup [.int 0, .int 2, .int 4, .int 1, .int 3], .tup [.int 0, .int 3, .int 1, .int 4, .int 2], .tup [.int 0, .int 3, .int 4, .int 2, .int 1], .tup [.int 0, .int 4, .int 1, .int 2, .int 3], .tup [.int 0, .int 4, .int 3, .int 1, .int 2], .tup [.int 1, .int 2, .int 3, .int 0, .int 4], .tup [.int 1, .int 2, .int 4, .int 3, .int 0], .tup [.int 1, .int 3, .int 0, .int 2, .int 4], .tup [.int 1, .int 3, .int 2, .int 4, .int 0], .tup [.int 1, .int 4, .int 0, .int 3, .int 2], .tup [.int 1, .int 4, .int 2, .int 0, .int 3], .tup [.int 2, .int 0, .int 3, .int 1, .int 4], .tup [.int 2, .int 0, .int 4, .int 3, .int 1], .tup [.int 2, .int 1, .int 3, .int 4, .int 0], .tup [.int 2, .int 1, .int 4, .int 0, .int 3], .tup [.int 2, .int 3, .int 1, .int 0, .int 4], .tup [.int 2, .int 4, .int 1, .int 3, .int 0], .tup [.int 3, .int 0, .int 1, .int 2, .int 4], .tup [.int 3, .int 0, .int 2, .int 4, .int 1], .tup [.int 3, .int 1, .int 0, .int 4, .int 2], .tup [.int 3, .int 1, .int 4, .int 2, .int 0], .tup [.int 3, .int 2, .int 0, .int 1, .int 4], .tup [.int 3, .int 4, .int 2, .int 1, .int 0], .tup [.int 4, .int 0, .int 1, .int 3, .int 2], .tup [.int 4, .int 0, .int 2, .int 1, .int 3], .tup [.int 4, .int 1, .int 0, .int 2, .int 3], .tup [.int 4, .int 1, .int 3, .int 0, .int 2], .tup [.int 4, .int 2, .int 0, .int 3, .int 1], .tup [.int 4, .int 3, .int 2, .int 0, .int 1]])]]
def tq_ok3 : Tr := .nd [.no, .nd [.no, .nd [.no, .lf (.lst [.tup [.int 0, .int 1, .int 2]])]], .nd [.no, .nd [.no, .lf (.lst [.tup [.int 0, .int 1, .int 3, .int 2], .tup [.int 0, .int 2, .int 1, .int 3], .tup [.int 0, .int 3, .int 2, .int 1], .tup [.int 1, .int 0, .int 2, .int 3], .tup [.int 2, .int 1, .int 0, .int 3], .tup [.int 3, .int 1, .int 2, .int 0]])], .nd [.no, .lf (.lst [.tup [.int 0, .int 2, .int 1, .int 4, .int 3], .tup [.int 0, .int 3, .int 4, .int 1, .int 2], .tup [.int 0, .int 4, .int 3, .int 2, .int 1], .tup [.int 1, .int 0, .int 2, .int 4, .int 3], .tup [.int 1, .int 0, .int 3, .int 2, .int 4], .tup [.int 1, .int 0, .int 4, .int 3, .int 2], .tup [.int 2, .int 1, .int 0, .int 4, .int 3], .tup [.int 2, .int 3, .int 0, .int 1, .int 4], .tup [.int 2, .int 4, .int 0, .int 3, .int 1], .tup [.int 3, .int 1, .int 4, .int 0, .int 2], .tup [.int 3, .int 2, .int 1, .int 0, .int 4], .tup [.int 3, .int 4, .int 2, .int 0, .int 1], .tup [.int 4, .int 1, .int 3, .int 2, .int 0], .tup [.int 4, .int 2, .int 1, .int 3, .int 0], .tup [.int 4, .int 3, .int 2, .int 1, .int 0]])]], .nd [.no, .nd [.no, .lf (.lst [.tup [.int 0, .int 1, .int 3, .int 4, .int 2], .tup [.int 0, .int 1, .int 4, .int 2, .int 3], .tup [.int 0, .int 2, .int 3, .int 1, .int 4], .tup [.int 0, .int 2, .int 4, .int 3, .int 1], .tup [.int 0, .int 3, .int 1, .int 2, .int 4], .tup [.int 0, .int 3, .int 2, .int 4, .int 1], .tup [.int 0, .int 4, .int 1, .int 3, .int 2], .tup [.int 0, .int 4, .int 2, .int 1, .int 3], .tup [.int 1, .int 2, .int 0, .int 3, .int 4], .tup [.int 1, .int 3, .int 2, .int 0, .int 4], .tup [.int 1, .int 4, .int 2, .int 3, .int 0], .tup [.int 2, .int 0, .int 1, .int 3, .int 4], .tup [.int 2, .int 1, .int 3, .int 0, .int 4], .tup [.int 2, .int 1, .int 4, .int 3, .int 0], .tup [.int 3, .int 0, .int 2, .int 1, .int 4], .tup [.int 3, .int 1, .int 0, .int 2, .int 4], .tup [.int 3, .int 1, .int 2, .int 4, .int 0], .tup [.int 4, .int 0, .int 2, .int 3, .int 1], .tup [.int 4, .int 1, .int 0, .int 3, .int 2], .tup [.int 4, .int 1, .int 2, .int 0, .int 3]])]]]
def tq_ok4 : Tr := .nd [.no, .nd [.no, .nd [.no, .nd [.no, .lf (.lst [.tup [.int 0, .int 1, .int 2, .int 3]])]]], .nd [.no, .nd [.no, .nd [.no, .lf (.lst [.tup [.int 0, .int 1, .int 2, .int 4, .int 3], .tup [.int 0, .int 1, .int 3, .int 2, .int 4], .tup [.int 0, .int 1, .int 4, .int 3, .int 2], .tup [.int 0, .int 2, .int 1, .int 3, .int 4], .tup [.int 0, .int 3, .int 2, .int 1, .int 4], .tup [.int 0, .int 4, .int 2, .int 3, .int 1], .tup [.int 1, .int 0, .int 2, .int 3, .int 4], .tup [.int 2, .int 1, .int 0, .int 3, .int 4], .tup [.int 3, .int 1, .int 2, .int 0, .int 4], .tup [.int 4, .int 1, .int 2, .int 3, .int 0]])]]]]
def tq_ok5 : Tr := .nd [.no, .nd [.no, .nd [.no, .nd [.no, .nd [.no, .lf (.lst [.tup [.int 0, .int 1, .int 2, .int 3, .int 4]])]]]]]
def tq_ok : List Tr := [tq_ok0, tq_ok1, tq_ok2, tq_ok3, tq_ok4, tq_ok5]
def g__law_of_kind : List D → Option D := tabF tq_ok
theorem m__law_of_kind : ∀ ds r, g__law_of_kind ds = some r → f2__law_of_kind ds = some r := tabF_ok (by kernel_rfl)
end XL
end
section
set_option maxRecDepth 100000
set_option maxHeartbeats 4000000
/-! XBeh: _law_behind, told plainly. -/
namespace XL
open PySem PySem.Spec PyProof.Rows L2
def mapIx (ys : List D) : List D → Option (List D)
  | [] => some []
  | .int (.ofNat i) :: xs => (match nth ys i with
    | some y => (match mapIx ys xs with
      | some r => some (y :: r)
      | none => none)
    | none => none)
  | _ => none
def g__law_behind : List D → Option D := fun ds => match ds with
  | [.tup xs, .tup ys] => (match Nat.ble xs.length 100 with
    | true => (match mapIx ys xs with
      | some r => (match pureD fuelP (.tup r) [.lst r] with
        | some (d, _) => some d
        | none => none)
      | none => none)
    | false => none)
  | _ => none
theorem nth_lt {α : Type} {l : List α} {i : Nat} {x : α} (h : nth l i = some x) : i < l.length := by
  rw [nth_eq] at h
  exact (List.getElem?_eq_some_iff.mp h).1
theorem ix_nat {l : List D} {i : Nat} {x : D} (h : nth l i = some x) : ixD l.length (.ofNat i) = some i := by
  show (match Nat.blt i l.length with
    | true => some i
    | false => none) = some i
  rw [show Nat.blt i l.length = true from Nat.ble_eq_true_of_le (nth_lt h)]
theorem beh_loop (xs ys : List D) : ∀ (zs : List D) (n i : Nat) (acc rs : List D), xs.drop i = zs → zs.length < n → acc.length + zs.length ≤ 200 → mapIx ys zs = some rs →
    lcLoop (seqNx (.tup xs)) (xgName 2) xYes (xOp gIx (xVar 1) (xVar 2)) 0 [some (.tup xs), some (.tup ys), none] n i [.lst acc] = some [.lst (acc ++ rs)]
  | [], 0, _, _, _, _, h, _, _ => by simp at h
  | [], n + 1, i, acc, rs, hd, _, _, e => by
    cases e
    have hn : nth xs i = none := by
      rw [nth_eq]
      exact List.getElem?_eq_none (List.drop_eq_nil_iff.mp hd)
    simp [lcLoop, seqNx, seqD, hn]
  | z :: zs, 0, _, _, _, _, h, _, _ => by simp at h
  | z :: zs, n + 1, i, acc, rs, hd, h, ha, e => by
    have hn : nth xs i = some z := by
      rw [nth_eq, ← List.head?_drop, hd]
      rfl
    have hd2 : xs.drop (i + 1) = zs := by
      rw [← List.drop_drop, hd]
      rfl
    cases z with
    | int q =>
      cases q with
      | ofNat j =>
        have e : (match nth ys j with
          | some y => (match mapIx ys zs with
            | some r => some (y :: r)
            | none => none)
          | none => none) = some rs := e
        cases q1 : nth ys j with
        | none => rw [q1] at e; cases e
        | some y =>
          rw [q1] at e
          dsimp only at e
          cases q2 : mapIx ys zs with
          | none => rw [q2] at e; cases e
          | some r =>
            rw [q2] at e
            cases e
            have hb : Nat.blt acc.length 4096 = true := Nat.ble_eq_true_of_le (by simp only [List.length_cons] at ha; omega)
            have ih := beh_loop xs ys zs n (i + 1) (acc ++ [y]) r hd2 (by simp only [List.length_cons] at h; omega) (by simp only [List.length_cons, List.length_append, List.length_nil] at ha ⊢; omega) q2
            rw [List.append_assoc] at ih
            have ix := ix_nat q1
            rw [lcLoop]
            simp only [seqNx, seqD, hn, xgName, setN, xYes, xOp, xVar, bnd, nth, gIx, ix, q1, hb]
            exact ih
      | negSucc j => cases e
    | _ => cases e
theorem m__law_behind : ∀ ds r, g__law_behind ds = some r → f__law_behind ds = some r := fun ds r e => by
  match ds, e with
  | [.tup xs, .tup ys], e =>
    have e : (match Nat.ble xs.length 100 with
      | true => (match mapIx ys xs with
        | some r => (match pureD fuelP (.tup r) [.lst r] with
          | some (d, _) => some d
          | none => none)
        | none => none)
      | false => none) = some r := e
    cases q0 : Nat.ble xs.length 100 with
    | false => rw [q0] at e; cases e
    | true =>
      rw [q0] at e
      dsimp only at e
      have hl := Nat.le_of_ble_eq_true q0
      cases q1 : mapIx ys xs with
      | none => rw [q1] at e; cases e
      | some rs =>
        rw [q1] at e
        have lp := beh_loop xs ys xs 130 0 [] rs rfl (by omega) (by simp; omega) q1
        rw [List.nil_append] at lp
        have key : x__law_behind [some (.tup xs), some (.tup ys), none] [] = some (.rt (.tup rs) [.lst rs]) := by
          simp [x__law_behind, xRet, xFn, xaCons, xaNil, xLc, xiSeq, xVar, bnd, nth, seqD, wipeD, setN, lp, gTuple]
        show (match x__law_behind [some (.tup xs), some (.tup ys), none] [] with
          | some (.rt d c) => (match pureD fuelP d c with
            | some (r, _) => some r
            | none => none)
          | some (.nx _ _) => some .non
          | _ => none) = some r
        rw [key]
        exact e
end XL
end
section
set_option maxRecDepth 100000
set_option maxHeartbeats 0
/-! XN9: defs of the text, printed by gen.py. -/
namespace XL
open PySem PySem.Spec PyProof.Rows L2
variable {P : Program} {w : World} {K : PySem.W.Frag} {mg : Str → Option Value} {base : Heap}
/-! ### glued -/
theorem s2_glued : FnScope ["first", "last", "places", "is_first", "row", "middle", "pair"] ["first", "last", "places", "is_first"] (defScope (top 44)) := ⟨rfl, rfl, rfl, by decide +kernel, rfl, by decide +kernel, by decide +kernel⟩
def x2_glued : XS := xSeq (xFor 130 (xiSeq (xTup (xaCons (xVar 2) (xaCons (xRev (xVar 2)) (xaNil))))) (xgName 4) (xSeq (xAsg (xCall f_three_turn (xaCons (xFn gLen (xaCons (xVar 0) (xaNil))) (xaCons (xVar 4) (xaNil)))) (xgName 5)) (xSeq (xAsg (xIf (xTru (xVar 3)) (xTup (xaCons (xCall f_after (xaCons (xVar 0) (xaCons (xVar 5) (xaNil)))) (xaCons (xVar 1) (xaNil)))) (xTup (xaCons (xVar 0) (xaCons (xCall f_after (xaCons (xVar 5) (xaCons (xVar 1) (xaNil)))) (xaNil))))) (xgName 6)) (xIfS (xTB (xOp gEq (xFn gLen (xaCons (xCall g_rings_of (xaCons (xCall f_after (xaCons (xOp gIx (xVar 6) (xC (.int 0))) (xaCons (xOp gIx (xVar 6) (xC (.int 1))) (xaNil)))) (xaNil))) (xaNil))) (xC (.int 1)))) (xRet (xVar 6)) (xNext))))) (xRet (xTup (xaCons (xVar 0) (xaCons (xVar 1) (xaNil)))))
def f2_glued : List D → Option D := fnX 4 7 x2_glued
theorem k2_glued (B : Blt mg) (d : DefAt K mg "glued" (top 44)) (c_rings_of : FA P w K mg base 1 "rings_of" ["turn"] (spC g_rings_of)) (c_after : FA P w K mg base 1 "after" ["one", "other"] (spC f_after)) (c_three_turn : FA P w K mg base 2 "three_turn" ["many", "places"] (spC f_three_turn)) : FA P w K mg base 3 "glued" ["first", "last", "places", "is_first"] (spC f2_glued) :=
  fa_of (xb := x2_glued) d s2_glued rfl rfl (fun _ _ _ _ _ _ us hl => match us, hl with | [_, _, _, _], _ => rfl) fun f cdv A outer s H E hr =>
    xss_cons (xs_for (vs := [4]) 130 PassesOwn.never rfl (xi_seq (xe_tup (xa_cons (xe_var 2) (xa_cons (xe_rev (xe_var 2)) (xa_nil))))) (xg_name 4 s2_glued.nd rfl (by first | exact .inl rfl | exact .inr rfl) (by decide)) (xss_cons (xs_set 5 s2_glued.nd rfl (by first | exact .inl rfl | exact .inr rfl) (xe_c c_three_turn hr (by decide) rfl (xa_cons (c_len B rfl (xa_cons (xe_var 0) (xa_nil))) (xa_cons (xe_var 4) (xa_nil))))) (xss_cons (xs_set 6 s2_glued.nd rfl (by first | exact .inl rfl | exact .inr rfl) (xe_if (xt_tru (xe_var 3)) (xe_tup (xa_cons (xe_c c_after hr (by decide) rfl (xa_cons (xe_var 0) (xa_cons (xe_var 5) (xa_nil)))) (xa_cons (xe_var 1) (xa_nil)))) (xe_tup (xa_cons (xe_var 0) (xa_cons (xe_c c_after hr (by decide) rfl (xa_cons (xe_var 5) (xa_cons (xe_var 1) (xa_nil)))) (xa_nil)))))) (xss_one (xs_if (t_eq hr (c_len B rfl (xa_cons (xe_c c_rings_of hr (by decide) rfl (xa_cons (xe_c c_after hr (by decide) rfl (xa_cons (e_ix (xe_var 6) (xe_int)) (xa_cons (e_ix (xe_var 6) (xe_int)) (xa_nil)))) (xa_nil))) (xa_nil))) (xe_int)) (xss_one (xs_ret (xe_var 6))) (xss_nil)))))) (xss_one (xs_ret (xe_tup (xa_cons (xe_var 0) (xa_cons (xe_var 1) (xa_nil))))))
/-! ### all_glued -/
theorem s2_all_glued : FnScope ["first", "last", "lots", "is_first", "places", "index"] ["first", "last", "lots", "is_first"] (defScope (top 46)) := ⟨rfl, rfl, rfl, by decide +kernel, rfl, by decide +kernel, by decide +kernel⟩
def x2_all_glued : XS := xSeq (xFor 130 (xiSeq (xVar 2)) (xgName 4) (xFor 130 (xiRg3 (xaCons (xC (.int 1)) (xaCons (xFn gLen (xaCons (xVar 4) (xaNil))) (xaCons (xC (.int 2)) (xaNil))))) (xgName 5) (xAsg (xCall f2_glued (xaCons (xVar 0) (xaCons (xVar 1) (xaCons (xLst (xaCons (xOp gIx (xVar 4) (xC (.int 0))) (xaCons (xOp gIx (xVar 4) (xVar 5)) (xaCons (xOp gIx (xVar 4) (xOp gAdd (xVar 5) (xC (.int 1)))) (xaNil))))) (xaCons (xVar 3) (xaNil)))))) (xgTup2 0 1)))) (xRet (xTup (xaCons (xVar 0) (xaCons (xVar 1) (xaNil)))))
def f2_all_glued : List D → Option D := fnX 4 6 x2_all_glued
theorem k2_all_glued (B : Blt mg) (d : DefAt K mg "all_glued" (top 46)) (c_glued : FA P w K mg base 3 "glued" ["first", "last", "places", "is_first"] (spC f2_glued)) : FA P w K mg base 4 "all_glued" ["first", "last", "lots", "is_first"] (spC f2_all_glued) :=
  fa_of (xb := x2_all_glued) d s2_all_glued rfl rfl (fun _ _ _ _ _ _ us hl => match us, hl with | [_, _, _, _], _ => rfl) fun f cdv A outer s H E hr =>
    xss_cons (xs_for (vs := [4]) 130 PassesOwn.never rfl (xi_seq (xe_var 2)) (xg_name 4 s2_all_glued.nd rfl (by first | exact .inl rfl | exact .inr rfl) (by decide)) (xss_one (xs_for (vs := [5]) 130 PassesOwn.never rfl (xi_rg3 rfl B.range_ (xa_cons (xe_int) (xa_cons (c_len B rfl (xa_cons (xe_var 4) (xa_nil))) (xa_cons (xe_int) (xa_nil))))) (xg_name 5 s2_all_glued.nd rfl (by first | exact .inl rfl | exact .inr rfl) (by decide)) (xss_one (xs_asg (vs := [0, 1]) (xe_c c_glued hr (by decide) rfl (xa_cons (xe_var 0) (xa_cons (xe_var 1) (xa_cons (xe_lst (xa_cons (e_ix (xe_var 4) (xe_int)) (xa_cons (e_ix (xe_var 4) (xe_var 5)) (xa_cons (e_ix (xe_var 4) (e_add (xe_var 5) (xe_int))) (xa_nil))))) (xa_cons (xe_var 3) (xa_nil)))))) (xg_tup2 0 1 rfl s2_all_glued.nd rfl rfl (by first | exact .inl rfl | exact .inr rfl) (by first | exact .inl rfl | exact .inr rfl) (by decide) (by decide))))))) (xss_one (xs_ret (xe_tup (xa_cons (xe_var 0) (xa_cons (xe_var 1) (xa_nil))))))
/-! ### made -/
theorem s2_made : FnScope ["one", "other", "sizes", "corners", "many", "blacks", "more", "whites", "first", "last", "groups", "group", "size"] ["one", "other"] (defScope (top 47)) := ⟨rfl, rfl, rfl, by decide +kernel, rfl, by decide +kernel, by decide +kernel⟩
def x2_made : XS := xSeq (xAsg (xCall f_split (xaCons (xVar 0) (xaCons (xCall f_excess (xaCons (xVar 0) (xaCons (xVar 1) (xaNil)))) (xaNil)))) (xgTup2 5 6)) (xSeq (xAsg (xCall f_split (xaCons (xVar 1) (xaCons (xVar 6) (xaNil)))) (xgTup2 7 6)) (xSeq (xAsg (xLc 130 (xiSeq (xTup (xaCons (xVar 5) (xaCons (xVar 7) (xaNil))))) (xgName 10) (xYes) (xLc2 130 130 (xiSeq (xVar 10)) (xgName 11) (xYes) (xiSeq (xVar 11)) (xgName 12) (xYes) (xVar 12) [11, 12] [12]) [10]) (xgName 2)) (xSeq (xAsg (xCall f_grown (xaCons (xOp gIx (xVar 2) (xC (.int 0))) (xaCons (xOp gIx (xVar 2) (xC (.int 1))) (xaNil)))) (xgName 3)) (xSeq (xAsg (xFn gSum (xaCons (xVar 0) (xaNil))) (xgName 4)) (xSeq (xPar 8 9 (xaCons (xCall f_from_rings (xaCons (xOp gIx (xVar 3) (xC (.int 0))) (xaCons (xVar 4) (xaNil)))) (xaCons (xCall f_from_rings (xaCons (xOp gIx (xVar 3) (xC (.int 1))) (xaCons (xVar 4) (xaNil)))) (xaNil)))) (xSeq (xAsg (xCall f2_all_glued (xaCons (xVar 8) (xaCons (xVar 9) (xaCons (xCall f_pieces_at (xaCons (xOp gIx (xVar 3) (xC (.int 0))) (xaCons (xVar 5) (xaNil)))) (xaCons (xC (.bl true)) (xaNil)))))) (xgTup2 8 9)) (xRet (xCall f2_all_glued (xaCons (xVar 8) (xaCons (xVar 9) (xaCons (xCall f_pieces_at (xaCons (xOp gIx (xVar 3) (xC (.int 1))) (xaCons (xVar 7) (xaNil)))) (xaCons (xC (.bl false)) (xaNil)))))))))))))
def f2_made : List D → Option D := fnX 2 13 x2_made
theorem k2_made (B : Blt mg) (d : DefAt K mg "made" (top 47)) (c_all_glued : FA P w K mg base 4 "all_glued" ["first", "last", "lots", "is_first"] (spC f2_all_glued)) (c_pieces_at : FA P w K mg base 1 "pieces_at" ["corners", "groups"] (spC f_pieces_at)) (c_from_rings : FA P w K mg base 1 "from_rings" ["rings", "many"] (spC f_from_rings)) (c_grown : FA P w K mg base 3 "grown" ["blacks", "whites"] (spC f_grown)) (c_split : FA P w K mg base 1 "split" ["kind", "more"] (spC f_split)) (c_excess : FA P w K mg base 1 "excess" ["one", "other"] (spC f_excess)) : FA P w K mg base 5 "made" ["one", "other"] (spC f2_made) :=
  fa_of (xb := x2_made) d s2_made rfl rfl (fun _ _ _ _ _ _ us hl => match us, hl with | [_, _], _ => rfl) fun f cdv A outer s H E hr =>
    xss_cons (xs_asg (vs := [5, 6]) (xe_c c_split hr (by decide) rfl (xa_cons (xe_var 0) (xa_cons (xe_c c_excess hr (by decide) rfl (xa_cons (xe_var 0) (xa_cons (xe_var 1) (xa_nil)))) (xa_nil)))) (xg_tup2 5 6 rfl s2_made.nd rfl rfl (by first | exact .inl rfl | exact .inr rfl) (by first | exact .inl rfl | exact .inr rfl) (by decide) (by decide))) (xss_cons (xs_asg (vs := [7, 6]) (xe_c c_split hr (by decide) rfl (xa_cons (xe_var 1) (xa_cons (xe_var 6) (xa_nil)))) (xg_tup2 7 6 rfl s2_made.nd rfl rfl (by first | exact .inl rfl | exact .inr rfl) (by first | exact .inl rfl | exact .inr rfl) (by decide) (by decide))) (xss_cons (xs_setLc (own := [("groups", 10)]) 2 130 rfl s2_made.nd rfl rfl (by rfl) (xi_seq (xe_tup (xa_cons (xe_var 5) (xa_cons (xe_var 7) (xa_nil))))) (blkOk_by (by rfl)) (fun _ _ _ _ _ => xg_name 10 s2_made.nd rfl (by first | exact .inl rfl | exact .inr rfl) (by decide)) (fun _ _ _ _ _ => xts_nil) (fun _ _ _ _ _ => xe_lc2 (own := [("group", 11), ("size", 12)]) (vs1 := [12]) 130 130 rfl s2_made.nd (xi_seq (xe_var 10)) (blkOk_by (by rfl)) (by decide) (fun _ _ _ _ _ => xg_name 11 s2_made.nd rfl (by first | exact .inl rfl | exact .inr rfl) (by decide)) (fun _ _ _ _ _ => xts_nil) (fun _ _ _ _ _ => xi_seq (xe_var 11)) (fun _ _ _ _ _ => xg_name 12 s2_made.nd rfl (by first | exact .inl rfl | exact .inr rfl) (by decide)) (fun _ _ _ _ _ => xts_nil) (fun _ _ _ _ _ => xe_var 12))) (xss_cons (xs_set 3 s2_made.nd rfl (by first | exact .inl rfl | exact .inr rfl) (xe_c c_grown hr (by decide) rfl (xa_cons (e_ix (xe_var 2) (xe_int)) (xa_cons (e_ix (xe_var 2) (xe_int)) (xa_nil))))) (xss_cons (xs_set 4 s2_made.nd rfl (by first | exact .inl rfl | exact .inr rfl) (c_sum rfl B rfl (xa_cons (xe_var 0) (xa_nil)))) (xss_cons (xs_par 8 9 rfl s2_made.nd rfl rfl (by decide) rfl rfl (xa_cons (xe_c c_from_rings hr (by decide) rfl (xa_cons (e_ix (xe_var 3) (xe_int)) (xa_cons (xe_var 4) (xa_nil)))) (xa_cons (xe_c c_from_rings hr (by decide) rfl (xa_cons (e_ix (xe_var 3) (xe_int)) (xa_cons (xe_var 4) (xa_nil)))) (xa_nil))) (by rfl)) (xss_cons (xs_asg (vs := [8, 9]) (xe_c c_all_glued hr (by decide) rfl (xa_cons (xe_var 8) (xa_cons (xe_var 9) (xa_cons (xe_c c_pieces_at hr (by decide) rfl (xa_cons (e_ix (xe_var 3) (xe_int)) (xa_cons (xe_var 5) (xa_nil)))) (xa_cons (xe_bl) (xa_nil)))))) (xg_tup2 8 9 rfl s2_made.nd rfl rfl (by first | exact .inl rfl | exact .inr rfl) (by first | exact .inl rfl | exact .inr rfl) (by decide) (by decide))) (xss_one (xs_ret (xe_c c_all_glued hr (by decide) rfl (xa_cons (xe_var 8) (xa_cons (xe_var 9) (xa_cons (xe_c c_pieces_at hr (by decide) rfl (xa_cons (e_ix (xe_var 3) (xe_int)) (xa_cons (xe_var 7) (xa_nil)))) (xa_cons (xe_bl) (xa_nil))))))))))))))
end XL
end
section
set_option maxRecDepth 100000
set_option maxHeartbeats 0
/-! XMir3: tables of two kinds, printed by gen_mir.py. -/
namespace XL
open PySem PySem.Spec PyProof.Rows L2
def isZ : D → Bool
  | .int (.ofNat n) => Nat.beq n 0
  | _ => false
def nzL : List D → Bool
  | [] => true
  | x :: xs => !isZ x && nzL xs
/-- a list cut at its first 0 -/
def spl0 : List D → List D × List D
  | [] => ([], [])
  | x :: xs => match isZ x with
    | true => ([], xs)
    | false => (x :: (spl0 xs).1, (spl0 xs).2)
theorem spl0_ok : ∀ (xs ys : List D), nzL xs = true → spl0 (xs ++ D.int (.ofNat 0) :: ys) = (xs, ys)
  | [], ys, _ => rfl
  | x :: xs, ys, h => by
    simp only [nzL, Bool.and_eq_true, Bool.not_eq_true'] at h
    show (match isZ x with
      | true => ([], xs ++ D.int (.ofNat 0) :: ys)
      | false => (x :: (spl0 (xs ++ D.int (.ofNat 0) :: ys)).1, (spl0 (xs ++ D.int (.ofNat 0) :: ys)).2)) = _
    rw [h.1, spl0_ok xs ys h.2]
def at2 (t : Tr) (xs ys : List D) : Option D := match nzL xs with
  | true => look (xs ++ D.int (.ofNat 0) :: ys) t
  | false => none
theorem at2_ok {g : List D → Option D} {t : Tr} (h : chkT g [] t = true) {xs ys : List D} {r : D} (e : at2 t xs ys = some r) : g (xs ++ D.int (.ofNat 0) :: ys) = some r ∧ nzL xs = true := by
  unfold at2 at e
  cases q : nzL xs with
  | false => rw [q] at e; cases e
  | true =>
    rw [q] at e
    exact ⟨look_ok _ [] t r h e, rfl⟩
def tabF2 (t : Tr) : List D → Option D := fun ds => match ds with
  | [.ftup xs, .ftup ys] => at2 t xs ys
  | _ => none
def tabT2 (t : Tr) : List D → Option D := fun ds => match ds with
  | [.tup xs, .ftup ys] => at2 t xs ys
  | _ => none
def spF (f : List D → Option D) : List D → Option D := fun key => f [.ftup (spl0 key).1, .ftup (spl0 key).2]
def spT (f : List D → Option D) : List D → Option D := fun key => f [.tup (spl0 key).1, .ftup (spl0 key).2]
theorem tabF2_ok {f : List D → Option D} {t : Tr} (h : chkT (spF f) [] t = true) : ∀ ds r, tabF2 t ds = some r → f ds = some r := fun ds r e => by
  match ds, e with
  | [.ftup xs, .ftup ys], e =>
    obtain ⟨e1, e2⟩ := at2_ok h (show at2 t xs ys = some r from e)
    unfold spF at e1
    rwa [spl0_ok xs ys e2] at e1
theorem tabT2_ok {f : List D → Option D} {t : Tr} (h : chkT (spT f) [] t = true) : ∀ ds r, tabT2 t ds = some r → f ds = some r := fun ds r e => by
  match ds, e with
  | [.tup xs, .ftup ys], e =>
    obtain ⟨e1, e2⟩ := at2_ok h (show at2 t xs ys = some r from e)
    unfold spT at e1
    rwa [spl0_ok xs ys e2] at e1
/-- a def of a kind of either make and a kind -/
def tabB2 (t u : Tr) : List D → Option D := fun ds => match ds with
  | [.tup xs, .ftup ys] => at2 t xs ys
  | [.ftup xs, .ftup ys] => at2 u xs ys
  | _ => none
theorem tabB2_ok {f : List D → Option D} {t u : Tr} (h : chkT (spT f) [] t = true) (h2 : chkT (spF f) [] u = true) : ∀ ds r, tabB2 t u ds = some r → f ds = some r := fun ds r e => by
  match ds, e with
  | [.tup xs, .ftup ys], e => exact tabT2_ok h [.tup xs, .ftup ys] r e
  | [.ftup xs, .ftup ys], e => exact tabF2_ok h2 [.ftup xs, .ftup ys] r e
def tT_made : Tr := .nd [.no, .nd [.nd [.no, .lf (.tup [.tup [.int 0], .tup [.int 0]])], .nd [.nd [.no, .no, .lf (.tup [.tup [.int 0, .int 1], .tup [.int 1, .int 0]])], .nd [.nd [.no, .no, .no, .lf (.tup [.tup [.int 0, .int 1, .int 2], .tup [.int 1, .int 2, .int 0]])], .nd [.nd [.no, .no, .no, .no, .lf (.tup [.tup [.int 0, .int 1, .int 2, .int 3], .tup [.int 1, .int 2, .int 3, .int 0]])], .nd [.nd [.no, .no, .no, .no, .no, .lf (.tup [.tup [.int 0, .int 1, .int 2, .int 3, .int 4], .tup [.int 1, .int 2, .int 3, .int 4, .int 0]])]]]]]], .nd [.nd [.no, .nd [.no, .lf (.tup [.tup [.int 1, .int 0], .tup [.int 0, .int 1]])]], .nd [.nd [.no, .no, .nd [.no, .lf (.tup [.tup [.int 1, .int 0, .int 2], .tup [.int 2, .int 1, .int 0]])]], .nd [.nd [.no, .no, .nd [.no, .no, .lf (.tup [.tup [.int 1, .int 0, .int 2, .int 3], .tup [.int 2, .int 3, .int 0, .int 1]])], .nd [.no, .lf (.tup [.tup [.int 1, .int 0, .int 2, .int 3], .tup [.int 2, .int 1, .int 3, .int 0]])]], .nd [.nd [.no, .no, .no, .nd [.no, .no, .lf (.tup [.tup [.int 1, .int 0, .int 2, .int 3, .int 4], .tup [.int 2, .int 4, .int 3, .int 0, .int 1]])], .nd [.no, .lf (.tup [.tup [.int 1, .int 0, .int 2, .int 3, .int 4], .tup [.int 2, .int 1, .int 3, .int 4, .int 0]])]]]]], .nd [.nd [.no, .no, .nd [.no, .nd [.no, .lf (.tup [.tup [.int 1, .int 0, .int 3, .int 2], .tup [.int 2, .int 1, .int 0, .int 3]])]], .no, .lf (.tup [.tup [.int 1, .int 0, .int 3, .int 2], .tup [.int 3, .int 2, .int 0, .int 1]])], .nd [.nd [.no, .no, .nd [.no, .no, .nd [.no, .lf (.tup [.tup [.int 1, .int 0, .int 4, .int 3, .int 2], .tup [.int 2, .int 3, .int 0, .int 1, .int 4]])]], .nd [.no, .nd [.no, .lf (.tup [.tup [.int 1, .int 0, .int 4, .int 3, .int 2], .tup [.int 2, .int 1, .int 3, .int 0, .int 4]])]], .no, .lf (.tup [.tup [.int 1, .int 0, .int 4, .int 3, .int 2], .tup [.int 4, .int 2, .int 3, .int 0, .int 1]])]]]], .nd [.nd [.no, .nd [.no, .nd [.no, .lf (.tup [.tup [.int 1, .int 2, .int 0], .tup [.int 0, .int 1, .int 2]])]], .no, .lf (.tup [.tup [.int 1, .int 2, .int 0], .tup [.int 1, .int 2, .int 0]])], .nd [.nd [.no, .no, .nd [.no, .nd [.no, .lf (.tup [.tup [.int 1, .int 2, .int 0, .int 3], .tup [.int 3, .int 1, .int 2, .int 0]])]], .no, .lf (.tup [.tup [.int 1, .int 2, .int 0, .int 3], .tup [.int 1, .int 2, .int 3, .int 0]])], .nd [.nd [.no, .no, .nd [.no, .no, .nd [.no, .lf (.tup [.tup [.int 1, .int 2, .int 0, .int 3, .int 4], .tup [.int 3, .int 4, .int 2, .int 0, .int 1]])]], .nd [.no, .nd [.no, .lf (.tup [.tup [.int 1, .int 2, .int 0, .int 3, .int 4], .tup [.int 3, .int 1, .int 2, .int 4, .int 0]])]], .no, .lf (.tup [.tup [.int 1, .int 2, .int 0, .int 3, .int 4], .tup [.int 1, .int 2, .int 3, .int 4, .int 0]])]]], .nd [.nd [.no, .no, .nd [.no, .nd [.no, .nd [.no, .lf (.tup [.tup [.int 1, .int 2, .int 0, .int 4, .int 3], .tup [.int 3, .int 1, .int 2, .int 0, .int 4]])]]], .nd [.no, .no, .lf (.tup [.tup [.int 1, .int 0, .int 3, .int 4, .int 2], .tup [.int 2, .int 4, .int 3, .int 0, .int 1]])], .nd [.no, .lf (.tup [.tup [.int 1, .int 0, .int 3, .int 4, .int 2], .tup [.int 2, .int 1, .int 3, .int 4, .int 0]])]]]], .nd [.nd [.no, .nd [.no, .nd [.no, .nd [.no, .lf (.tup [.tup [.int 1, .int 2, .int 3, .int 0], .tup [.int 0, .int 1, .int 2, .int 3]])]]], .nd [.no, .no, .lf (.tup [.tup [.int 1, .int 2, .int 3, .int 0], .tup [.int 2, .int 3, .int 0, .int 1]])], .nd [.no, .lf (.tup [.tup [.int 1, .int 2, .int 3, .int 0], .tup [.int 2, .int 1, .int 3, .int 0]])]], .nd [.nd [.no, .no, .nd [.no, .nd [.no, .nd [.no, .lf (.tup [.tup [.int 1, .int 2, .int 3, .int 0, .int 4], .tup [.int 4, .int 1, .int 2, .int 3, .int 0]])]]], .nd [.no, .no, .lf (.tup [.tup [.int 1, .int 2, .int 3, .int 0, .int 4], .tup [.int 2, .int 4, .int 3, .int 0, .int 1]])], .nd [.no, .lf (.tup [.tup [.int 1, .int 2, .int 3, .int 0, .int 4], .tup [.int 2, .int 1, .int 3, .int 4, .int 0]])]]]], .nd [.nd [.no, .nd [.no, .nd [.no, .nd [.no, .nd [.no, .lf (.tup [.tup [.int 1, .int 2, .int 3, .int 4, .int 0], .tup [.int 0, .int 1, .int 2, .int 3, .int 4]])]]]], .nd [.no, .no, .nd [.no, .lf (.tup [.tup [.int 1, .int 2, .int 3, .int 4, .int 0], .tup [.int 3, .int 4, .int 2, .int 0, .int 1]])]], .nd [.no, .nd [.no, .lf (.tup [.tup [.int 1, .int 2, .int 3, .int 4, .int 0], .tup [.int 3, .int 1, .int 2, .int 4, .int 0]])]], .no, .lf (.tup [.tup [.int 1, .int 2, .int 3, .int 4, .int 0], .tup [.int 1, .int 2, .int 3, .int 4, .int 0]])]]]
def tF_made : Tr := .nd [.no, .nd [.nd [.no, .lf (.tup [.tup [.int 0], .tup [.int 0]])], .nd [.nd [.no, .no, .lf (.tup [.tup [.int 0, .int 1], .tup [.int 1, .int 0]])], .nd [.nd [.no, .no, .no, .lf (.tup [.tup [.int 0, .int 1, .int 2], .tup [.int 1, .int 2, .int 0]])], .nd [.nd [.no, .no, .no, .no, .lf (.tup [.tup [.int 0, .int 1, .int 2, .int 3], .tup [.int 1, .int 2, .int 3, .int 0]])], .nd [.nd [.no, .no, .no, .no, .no, .lf (.tup [.tup [.int 0, .int 1, .int 2, .int 3, .int 4], .tup [.int 1, .int 2, .int 3, .int 4, .int 0]])]]]]]], .nd [.nd [.no, .nd [.no, .lf (.tup [.tup [.int 1, .int 0], .tup [.int 0, .int 1]])]], .nd [.nd [.no, .no, .nd [.no, .lf (.tup [.tup [.int 1, .int 0, .int 2], .tup [.int 2, .int 1, .int 0]])]], .nd [.nd [.no, .no, .nd [.no, .no, .lf (.tup [.tup [.int 1, .int 0, .int 2, .int 3], .tup [.int 2, .int 3, .int 0, .int 1]])], .nd [.no, .lf (.tup [.tup [.int 1, .int 0, .int 2, .int 3], .tup [.int 2, .int 1, .int 3, .int 0]])]], .nd [.nd [.no, .no, .no, .nd [.no, .no, .lf (.tup [.tup [.int 1, .int 0, .int 2, .int 3, .int 4], .tup [.int 2, .int 4, .int 3, .int 0, .int 1]])], .nd [.no, .lf (.tup [.tup [.int 1, .int 0, .int 2, .int 3, .int 4], .tup [.int 2, .int 1, .int 3, .int 4, .int 0]])]]]]], .nd [.nd [.no, .no, .nd [.no, .nd [.no, .lf (.tup [.tup [.int 1, .int 0, .int 3, .int 2], .tup [.int 2, .int 1, .int 0, .int 3]])]], .no, .lf (.tup [.tup [.int 1, .int 0, .int 3, .int 2], .tup [.int 3, .int 2, .int 0, .int 1]])], .nd [.nd [.no, .no, .nd [.no, .no, .nd [.no, .lf (.tup [.tup [.int 1, .int 0, .int 4, .int 3, .int 2], .tup [.int 2, .int 3, .int 0, .int 1, .int 4]])]], .nd [.no, .nd [.no, .lf (.tup [.tup [.int 1, .int 0, .int 4, .int 3, .int 2], .tup [.int 2, .int 1, .int 3, .int 0, .int 4]])]], .no, .lf (.tup [.tup [.int 1, .int 0, .int 4, .int 3, .int 2], .tup [.int 4, .int 2, .int 3, .int 0, .int 1]])]]]], .nd [.nd [.no, .nd [.no, .nd [.no, .lf (.tup [.tup [.int 1, .int 2, .int 0], .tup [.int 0, .int 1, .int 2]])]], .no, .lf (.tup [.tup [.int 1, .int 2, .int 0], .tup [.int 1, .int 2, .int 0]])], .nd [.nd [.no, .no, .nd [.no, .nd [.no, .lf (.tup [.tup [.int 1, .int 2, .int 0, .int 3], .tup [.int 3, .int 1, .int 2, .int 0]])]], .no, .lf (.tup [.tup [.int 1, .int 2, .int 0, .int 3], .tup [.int 1, .int 2, .int 3, .int 0]])], .nd [.nd [.no, .no, .nd [.no, .no, .nd [.no, .lf (.tup [.tup [.int 1, .int 2, .int 0, .int 3, .int 4], .tup [.int 3, .int 4, .int 2, .int 0, .int 1]])]], .nd [.no, .nd [.no, .lf (.tup [.tup [.int 1, .int 2, .int 0, .int 3, .int 4], .tup [.int 3, .int 1, .int 2, .int 4, .int 0]])]], .no, .lf (.tup [.tup [.int 1, .int 2, .int 0, .int 3, .int 4], .tup [.int 1, .int 2, .int 3, .int 4, .int 0]])]]], .nd [.nd [.no, .no, .nd [.no, .nd [.no, .nd [.no, .lf (.tup [.tup [.int 1, .int 2, .int 0, .int 4, .int 3], .tup [.int 3, .int 1, .int 2, .int 0, .int 4]])]]], .nd [.no, .no, .lf (.tup [.tup [.int 1, .int 0, .int 3, .int 4, .int 2], .tup [.int 2, .int 4, .int 3, .int 0, .int 1]])], .nd [.no, .lf (.tup [.tup [.int 1, .int 0, .int 3, .int 4, .int 2], .tup [.int 2, .int 1, .int 3, .int 4, .int 0]])]]]], .nd [.nd [.no, .nd [.no, .nd [.no, .nd [.no, .lf (.tup [.tup [.int 1, .int 2, .int 3, .int 0], .tup [.int 0, .int 1, .int 2, .int 3]])]]], .nd [.no, .no, .lf (.tup [.tup [.int 1, .int 2, .int 3, .int 0], .tup [.int 2, .int 3, .int 0, .int 1]])], .nd [.no, .lf (.tup [.tup [.int 1, .int 2, .int 3, .int 0], .tup [.int 2, .int 1, .int 3, .int 0]])]], .nd [.nd [.no, .no, .nd [.no, .nd [.no, .nd [.no, .lf (.tup [.tup [.int 1, .int 2, .int 3, .int 0, .int 4], .tup [.int 4, .int 1, .int 2, .int 3, .int 0]])]]], .nd [.no, .no, .lf (.tup [.tup [.int 1, .int 2, .int 3, .int 0, .int 4], .tup [.int 2, .int 4, .int 3, .int 0, .int 1]])], .nd [.no, .lf (.tup [.tup [.int 1, .int 2, .int 3, .int 0, .int 4], .tup [.int 2, .int 1, .int 3, .int 4, .int 0]])]]]], .nd [.nd [.no, .nd [.no, .nd [.no, .nd [.no, .nd [.no, .lf (.tup [.tup [.int 1, .int 2, .int 3, .int 4, .int 0], .tup [.int 0, .int 1, .int 2, .int 3, .int 4]])]]]], .nd [.no, .no, .nd [.no, .lf (.tup [.tup [.int 1, .int 2, .int 3, .int 4, .int 0], .tup [.int 3, .int 4, .int 2, .int 0, .int 1]])]], .nd [.no, .nd [.no, .lf (.tup [.tup [.int 1, .int 2, .int 3, .int 4, .int 0], .tup [.int 3, .int 1, .int 2, .int 4, .int 0]])]], .no, .lf (.tup [.tup [.int 1, .int 2, .int 3, .int 4, .int 0], .tup [.int 1, .int 2, .int 3, .int 4, .int 0]])]]]
def g_made : List D → Option D := tabB2 tT_made tF_made
theorem m1_made : chkT (spT f2_made) [] tT_made = true := by kernel_rfl
theorem m2_made : chkT (spF f2_made) [] tF_made = true := by kernel_rfl
theorem m_made : ∀ ds r, g_made ds = some r → f2_made ds = some r := tabB2_ok m1_made m2_made
def tT_barred_by : Tr := .nd [.no, .nd [.nd [.no, .lf (.non)], .nd [.nd [.no, .nd [.no, .lf (.str "sign")], .lf (.non)], .nd [.nd [.no, .nd [.no, .nd [.no, .lf (.str "rings")]], .nd [.no, .lf (.str "sign")], .lf (.non)], .nd [.nd [.no, .nd [.no, .nd [.no, .nd [.no, .lf (.str "sign")]]], .nd [.no, .nd [.no, .lf (.str "rings")], .lf (.str "sign")], .nd [.no, .lf (.str "sign")], .lf (.non)], .nd [.nd [.no, .nd [.no, .nd [.no, .nd [.no, .nd [.no, .lf (.str "rings")]]]], .nd [.no, .nd [.no, .nd [.no, .lf (.str "sign")]], .nd [.no, .lf (.str "rings")]], .nd [.no, .nd [.no, .lf (.str "rings")], .lf (.str "sign")], .nd [.no, .lf (.str "sign")], .lf (.non)]]]]]], .nd [.nd [.no, .nd [.no, .lf (.non)], .lf (.str "sign")], .nd [.nd [.no, .nd [.no, .nd [.no, .lf (.str "sign")]], .nd [.no, .lf (.non)], .lf (.str "sign")], .nd [.nd [.no, .nd [.no, .nd [.no, .nd [.no, .lf (.str "rings")]]], .nd [.no, .nd [.no, .lf (.str "sign")], .lf (.non)], .nd [.no, .lf (.non)], .lf (.str "sign")], .nd [.nd [.no, .nd [.no, .nd [.no, .nd [.no, .nd [.no, .lf (.str "sign")]]]], .nd [.no, .nd [.no, .nd [.no, .lf (.str "rings")]], .nd [.no, .lf (.str "sign")]], .nd [.no, .nd [.no, .lf (.str "sign")], .lf (.non)], .nd [.no, .lf (.non)], .lf (.str "sign")]]]], .nd [.nd [.no, .nd [.no, .nd [.no, .nd [.no, .lf (.str "sign")]]], .nd [.no, .nd [.no, .lf (.non)], .lf (.str "sign")], .nd [.no, .lf (.str "sign")], .lf (.non)], .nd [.nd [.no, .nd [.no, .nd [.no, .nd [.no, .nd [.no, .lf (.str "rings")]]]], .nd [.no, .nd [.no, .nd [.no, .lf (.str "sign")]], .nd [.no, .lf (.non)]], .nd [.no, .nd [.no, .lf (.non)], .lf (.str "sign")], .nd [.no, .lf (.str "sign")], .lf (.non)]]]], .nd [.nd [.no, .nd [.no, .nd [.no, .lf (.non)]], .nd [.no, .lf (.str "sign")], .lf (.non)], .nd [.nd [.no, .nd [.no, .nd [.no, .nd [.no, .lf (.str "sign")]]], .nd [.no, .nd [.no, .lf (.non)], .lf (.str "sign")], .nd [.no, .lf (.str "sign")], .lf (.non)], .nd [.nd [.no, .nd [.no, .nd [.no, .nd [.no, .nd [.no, .lf (.str "rings")]]]], .nd [.no, .nd [.no, .nd [.no, .lf (.str "sign")]], .nd [.no, .lf (.non)]], .nd [.no, .nd [.no, .lf (.non)], .lf (.str "sign")], .nd [.no, .lf (.str "sign")], .lf (.non)]]], .nd [.nd [.no, .nd [.no, .nd [.no, .nd [.no, .nd [.no, .lf (.str "sign")]]]], .nd [.no, .nd [.no, .nd [.no, .lf (.non)]], .nd [.no, .lf (.str "sign")]], .nd [.no, .nd [.no, .lf (.str "sign")], .lf (.non)], .nd [.no, .lf (.non)], .lf (.str "sign")]]], .nd [.nd [.no, .nd [.no, .nd [.no, .nd [.no, .lf (.non)]]], .nd [.no, .nd [.no, .lf (.str "sign")], .lf (.non)], .nd [.no, .lf (.non)], .lf (.str "sign")], .nd [.nd [.no, .nd [.no, .nd [.no, .nd [.no, .nd [.no, .lf (.str "sign")]]]], .nd [.no, .nd [.no, .nd [.no, .lf (.non)]], .nd [.no, .lf (.str "sign")]], .nd [.no, .nd [.no, .lf (.str "sign")], .lf (.non)], .nd [.no, .lf (.non)], .lf (.str "sign")]]], .nd [.nd [.no, .nd [.no, .nd [.no, .nd [.no, .nd [.no, .lf (.non)]]]], .nd [.no, .nd [.no, .nd [.no, .lf (.str "sign")]], .nd [.no, .lf (.non)]], .nd [.no, .nd [.no, .lf (.non)], .lf (.str "sign")], .nd [.no, .lf (.str "sign")], .lf (.non)]]]
def tF_barred_by : Tr := .nd [.no, .nd [.nd [.no, .lf (.non)], .nd [.nd [.no, .nd [.no, .lf (.str "sign")], .lf (.non)], .nd [.nd [.no, .nd [.no, .nd [.no, .lf (.str "rings")]], .nd [.no, .lf (.str "sign")], .lf (.non)], .nd [.nd [.no, .nd [.no, .nd [.no, .nd [.no, .lf (.str "sign")]]], .nd [.no, .nd [.no, .lf (.str "rings")], .lf (.str "sign")], .nd [.no, .lf (.str "sign")], .lf (.non)], .nd [.nd [.no, .nd [.no, .nd [.no, .nd [.no, .nd [.no, .lf (.str "rings")]]]], .nd [.no, .nd [.no, .nd [.no, .lf (.str "sign")]], .nd [.no, .lf (.str "rings")]], .nd [.no, .nd [.no, .lf (.str "rings")], .lf (.str "sign")], .nd [.no, .lf (.str "sign")], .lf (.non)]]]]]], .nd [.nd [.no, .nd [.no, .lf (.non)], .lf (.str "sign")], .nd [.nd [.no, .nd [.no, .nd [.no, .lf (.str "sign")]], .nd [.no, .lf (.non)], .lf (.str "sign")], .nd [.nd [.no, .nd [.no, .nd [.no, .nd [.no, .lf (.str "rings")]]], .nd [.no, .nd [.no, .lf (.str "sign")], .lf (.non)], .nd [.no, .lf (.non)], .lf (.str "sign")], .nd [.nd [.no, .nd [.no, .nd [.no, .nd [.no, .nd [.no, .lf (.str "sign")]]]], .nd [.no, .nd [.no, .nd [.no, .lf (.str "rings")]], .nd [.no, .lf (.str "sign")]], .nd [.no, .nd [.no, .lf (.str "sign")], .lf (.non)], .nd [.no, .lf (.non)], .lf (.str "sign")]]]], .nd [.nd [.no, .nd [.no, .nd [.no, .nd [.no, .lf (.str "sign")]]], .nd [.no, .nd [.no, .lf (.non)], .lf (.str "sign")], .nd [.no, .lf (.str "sign")], .lf (.non)], .nd [.nd [.no, .nd [.no, .nd [.no, .nd [.no, .nd [.no, .lf (.str "rings")]]]], .nd [.no, .nd [.no, .nd [.no, .lf (.str "sign")]], .nd [.no, .lf (.non)]], .nd [.no, .nd [.no, .lf (.non)], .lf (.str "sign")], .nd [.no, .lf (.str "sign")], .lf (.non)]]]], .nd [.nd [.no, .nd [.no, .nd [.no, .lf (.non)]], .nd [.no, .lf (.str "sign")], .lf (.non)], .nd [.nd [.no, .nd [.no, .nd [.no, .nd [.no, .lf (.str "sign")]]], .nd [.no, .nd [.no, .lf (.non)], .lf (.str "sign")], .nd [.no, .lf (.str "sign")], .lf (.non)], .nd [.nd [.no, .nd [.no, .nd [.no, .nd [.no, .nd [.no, .lf (.str "rings")]]]], .nd [.no, .nd [.no, .nd [.no, .lf (.str "sign")]], .nd [.no, .lf (.non)]], .nd [.no, .nd [.no, .lf (.non)], .lf (.str "sign")], .nd [.no, .lf (.str "sign")], .lf (.non)]]], .nd [.nd [.no, .nd [.no, .nd [.no, .nd [.no, .nd [.no, .lf (.str "sign")]]]], .nd [.no, .nd [.no, .nd [.no, .lf (.non)]], .nd [.no, .lf (.str "sign")]], .nd [.no, .nd [.no, .lf (.str "sign")], .lf (.non)], .nd [.no, .lf (.non)], .lf (.str "sign")]]], .nd [.nd [.no, .nd [.no, .nd [.no, .nd [.no, .lf (.non)]]], .nd [.no, .nd [.no, .lf (.str "sign")], .lf (.non)], .nd [.no, .lf (.non)], .lf (.str "sign")], .nd [.nd [.no, .nd [.no, .nd [.no, .nd [.no, .nd [.no, .lf (.str "sign")]]]], .nd [.no, .nd [.no, .nd [.no, .lf (.non)]], .nd [.no, .lf (.str "sign")]], .nd [.no, .nd [.no, .lf (.str "sign")], .lf (.non)], .nd [.no, .lf (.non)], .lf (.str "sign")]]], .nd [.nd [.no, .nd [.no, .nd [.no, .nd [.no, .nd [.no, .lf (.non)]]]], .nd [.no, .nd [.no, .nd [.no, .lf (.str "sign")]], .nd [.no, .lf (.non)]], .nd [.no, .nd [.no, .lf (.non)], .lf (.str "sign")], .nd [.no, .lf (.str "sign")], .lf (.non)]]]
def g_barred_by : List D → Option D := tabB2 tT_barred_by tF_barred_by
theorem m1_barred_by : chkT (spT f_barred_by) [] tT_barred_by = true := by kernel_rfl
theorem m2_barred_by : chkT (spF f_barred_by) [] tF_barred_by = true := by kernel_rfl
theorem m_barred_by : ∀ ds r, g_barred_by ds = some r → f_barred_by ds = some r := tabB2_ok m1_barred_by m2_barred_by
def tT_check_both : Tr := .nd [.no, .nd [.nd [.no, .lf (.non)], .nd [.nd [.no, .nd [.no, .lf (.non)], .lf (.non)], .nd [.nd [.no, .nd [.no, .nd [.no, .lf (.non)]], .nd [.no, .lf (.non)], .lf (.non)], .nd [.nd [.no, .nd [.no, .nd [.no, .nd [.no, .lf (.non)]]], .nd [.no, .nd [.no, .lf (.non)], .lf (.non)], .nd [.no, .lf (.non)], .lf (.non)], .nd [.nd [.no, .nd [.no, .nd [.no, .nd [.no, .nd [.no, .lf (.non)]]]], .nd [.no, .nd [.no, .nd [.no, .lf (.non)]], .nd [.no, .lf (.non)]], .nd [.no, .nd [.no, .lf (.non)], .lf (.non)], .nd [.no, .lf (.non)], .lf (.non)]]]]]], .nd [.nd [.no, .nd [.no, .lf (.non)], .lf (.non)], .nd [.nd [.no, .nd [.no, .nd [.no, .lf (.non)]], .nd [.no, .lf (.non)], .lf (.non)], .nd [.nd [.no, .nd [.no, .nd [.no, .nd [.no, .lf (.non)]]], .nd [.no, .nd [.no, .lf (.non)], .lf (.non)], .nd [.no, .lf (.non)], .lf (.non)], .nd [.nd [.no, .nd [.no, .nd [.no, .nd [.no, .nd [.no, .lf (.non)]]]], .nd [.no, .nd [.no, .nd [.no, .lf (.non)]], .nd [.no, .lf (.non)]], .nd [.no, .nd [.no, .lf (.non)], .lf (.non)], .nd [.no, .lf (.non)], .lf (.non)]]]], .nd [.nd [.no, .nd [.no, .nd [.no, .nd [.no, .lf (.non)]]], .nd [.no, .nd [.no, .lf (.non)], .lf (.non)], .nd [.no, .lf (.non)], .lf (.non)], .nd [.nd [.no, .nd [.no, .nd [.no, .nd [.no, .nd [.no, .lf (.non)]]]], .nd [.no, .nd [.no, .nd [.no, .lf (.non)]], .nd [.no, .lf (.non)]], .nd [.no, .nd [.no, .lf (.non)], .lf (.non)], .nd [.no, .lf (.non)], .lf (.non)]]]], .nd [.nd [.no, .nd [.no, .nd [.no, .lf (.non)]], .nd [.no, .lf (.non)], .lf (.non)], .nd [.nd [.no, .nd [.no, .nd [.no, .nd [.no, .lf (.non)]]], .nd [.no, .nd [.no, .lf (.non)], .lf (.non)], .nd [.no, .lf (.non)], .lf (.non)], .nd [.nd [.no, .nd [.no, .nd [.no, .nd [.no, .nd [.no, .lf (.non)]]]], .nd [.no, .nd [.no, .nd [.no, .lf (.non)]], .nd [.no, .lf (.non)]], .nd [.no, .nd [.no, .lf (.non)], .lf (.non)], .nd [.no, .lf (.non)], .lf (.non)]]], .nd [.nd [.no, .nd [.no, .nd [.no, .nd [.no, .nd [.no, .lf (.non)]]]], .nd [.no, .nd [.no, .nd [.no, .lf (.non)]], .nd [.no, .lf (.non)]], .nd [.no, .nd [.no, .lf (.non)], .lf (.non)], .nd [.no, .lf (.non)], .lf (.non)]]], .nd [.nd [.no, .nd [.no, .nd [.no, .nd [.no, .lf (.non)]]], .nd [.no, .nd [.no, .lf (.non)], .lf (.non)], .nd [.no, .lf (.non)], .lf (.non)], .nd [.nd [.no, .nd [.no, .nd [.no, .nd [.no, .nd [.no, .lf (.non)]]]], .nd [.no, .nd [.no, .nd [.no, .lf (.non)]], .nd [.no, .lf (.non)]], .nd [.no, .nd [.no, .lf (.non)], .lf (.non)], .nd [.no, .lf (.non)], .lf (.non)]]], .nd [.nd [.no, .nd [.no, .nd [.no, .nd [.no, .nd [.no, .lf (.non)]]]], .nd [.no, .nd [.no, .nd [.no, .lf (.non)]], .nd [.no, .lf (.non)]], .nd [.no, .nd [.no, .lf (.non)], .lf (.non)], .nd [.no, .lf (.non)], .lf (.non)]]]
def tF_check_both : Tr := .nd [.no, .nd [.nd [.no, .lf (.non)], .nd [.nd [.no, .nd [.no, .lf (.non)], .lf (.non)], .nd [.nd [.no, .nd [.no, .nd [.no, .lf (.non)]], .nd [.no, .lf (.non)], .lf (.non)], .nd [.nd [.no, .nd [.no, .nd [.no, .nd [.no, .lf (.non)]]], .nd [.no, .nd [.no, .lf (.non)], .lf (.non)], .nd [.no, .lf (.non)], .lf (.non)], .nd [.nd [.no, .nd [.no, .nd [.no, .nd [.no, .nd [.no, .lf (.non)]]]], .nd [.no, .nd [.no, .nd [.no, .lf (.non)]], .nd [.no, .lf (.non)]], .nd [.no, .nd [.no, .lf (.non)], .lf (.non)], .nd [.no, .lf (.non)], .lf (.non)]]]]]], .nd [.nd [.no, .nd [.no, .lf (.non)], .lf (.non)], .nd [.nd [.no, .nd [.no, .nd [.no, .lf (.non)]], .nd [.no, .lf (.non)], .lf (.non)], .nd [.nd [.no, .nd [.no, .nd [.no, .nd [.no, .lf (.non)]]], .nd [.no, .nd [.no, .lf (.non)], .lf (.non)], .nd [.no, .lf (.non)], .lf (.non)], .nd [.nd [.no, .nd [.no, .nd [.no, .nd [.no, .nd [.no, .lf (.non)]]]], .nd [.no, .nd [.no, .nd [.no, .lf (.non)]], .nd [.no, .lf (.non)]], .nd [.no, .nd [.no, .lf (.non)], .lf (.non)], .nd [.no, .lf (.non)], .lf (.non)]]]], .nd [.nd [.no, .nd [.no, .nd [.no, .nd [.no, .lf (.non)]]], .nd [.no, .nd [.no, .lf (.non)], .lf (.non)], .nd [.no, .lf (.non)], .lf (.non)], .nd [.nd [.no, .nd [.no, .nd [.no, .nd [.no, .nd [.no, .lf (.non)]]]], .nd [.no, .nd [.no, .nd [.no, .lf (.non)]], .nd [.no, .lf (.non)]], .nd [.no, .nd [.no, .lf (.non)], .lf (.non)], .nd [.no, .lf (.non)], .lf (.non)]]]], .nd [.nd [.no, .nd [.no, .nd [.no, .lf (.non)]], .nd [.no, .lf (.non)], .lf (.non)], .nd [.nd [.no, .nd [.no, .nd [.no, .nd [.no, .lf (.non)]]], .nd [.no, .nd [.no, .lf (.non)], .lf (.non)], .nd [.no, .lf (.non)], .lf (.non)], .nd [.nd [.no, .nd [.no, .nd [.no, .nd [.no, .nd [.no, .lf (.non)]]]], .nd [.no, .nd [.no, .nd [.no, .lf (.non)]], .nd [.no, .lf (.non)]], .nd [.no, .nd [.no, .lf (.non)], .lf (.non)], .nd [.no, .lf (.non)], .lf (.non)]]], .nd [.nd [.no, .nd [.no, .nd [.no, .nd [.no, .nd [.no, .lf (.non)]]]], .nd [.no, .nd [.no, .nd [.no, .lf (.non)]], .nd [.no, .lf (.non)]], .nd [.no, .nd [.no, .lf (.non)], .lf (.non)], .nd [.no, .lf (.non)], .lf (.non)]]], .nd [.nd [.no, .nd [.no, .nd [.no, .nd [.no, .lf (.non)]]], .nd [.no, .nd [.no, .lf (.non)], .lf (.non)], .nd [.no, .lf (.non)], .lf (.non)], .nd [.nd [.no, .nd [.no, .nd [.no, .nd [.no, .nd [.no, .lf (.non)]]]], .nd [.no, .nd [.no, .nd [.no, .lf (.non)]], .nd [.no, .lf (.non)]], .nd [.no, .nd [.no, .lf (.non)], .lf (.non)], .nd [.no, .lf (.non)], .lf (.non)]]], .nd [.nd [.no, .nd [.no, .nd [.no, .nd [.no, .nd [.no, .lf (.non)]]]], .nd [.no, .nd [.no, .nd [.no, .lf (.non)]], .nd [.no, .lf (.non)]], .nd [.no, .nd [.no, .lf (.non)], .lf (.non)], .nd [.no, .lf (.non)], .lf (.non)]]]
def g_check_both : List D → Option D := tabB2 tT_check_both tF_check_both
theorem m1_check_both : chkT (spT f_check_both) [] tT_check_both = true := by kernel_rfl
theorem m2_check_both : chkT (spF f_check_both) [] tF_check_both = true := by kernel_rfl
theorem m_check_both : ∀ ds r, g_check_both ds = some r → f_check_both ds = some r := tabB2_ok m1_check_both m2_check_both
def tF_count_of : Tr := .nd [.no, .nd [.nd [.no, .lf (.int 1)], .nd [.nd [.no, .nd [.no, .lf (.int 0)], .lf (.int 1)], .nd [.nd [.no, .nd [.no, .nd [.no, .lf (.int 0)]], .nd [.no, .lf (.int 0)], .lf (.int 1)], .nd [.nd [.no, .nd [.no, .nd [.no, .nd [.no, .lf (.int 0)]]], .nd [.no, .nd [.no, .lf (.int 0)], .lf (.int 0)], .nd [.no, .lf (.int 0)], .lf (.int 1)], .nd [.nd [.no, .nd [.no, .nd [.no, .nd [.no, .nd [.no, .lf (.int 0)]]]], .nd [.no, .nd [.no, .nd [.no, .lf (.int 0)]], .nd [.no, .lf (.int 0)]], .nd [.no, .nd [.no, .lf (.int 0)], .lf (.int 0)], .nd [.no, .lf (.int 0)], .lf (.int 1)]]]]]], .nd [.nd [.no, .nd [.no, .lf (.int 1)], .lf (.int 0)], .nd [.nd [.no, .nd [.no, .nd [.no, .lf (.int 0)]], .nd [.no, .lf (.int 3)], .lf (.int 0)], .nd [.nd [.no, .nd [.no, .nd [.no, .nd [.no, .lf (.int 0)]]], .nd [.no, .nd [.no, .lf (.int 0)], .lf (.int 2)], .nd [.no, .lf (.int 4)], .lf (.int 0)], .nd [.nd [.no, .nd [.no, .nd [.no, .nd [.no, .nd [.no, .lf (.int 0)]]]], .nd [.no, .nd [.no, .nd [.no, .lf (.int 0)]], .nd [.no, .lf (.int 0)]], .nd [.no, .nd [.no, .lf (.int 0)], .lf (.int 5)], .nd [.no, .lf (.int 5)], .lf (.int 0)]]]], .nd [.nd [.no, .nd [.no, .nd [.no, .nd [.no, .lf (.int 0)]]], .nd [.no, .nd [.no, .lf (.int 2)], .lf (.int 0)], .nd [.no, .lf (.int 0)], .lf (.int 1)], .nd [.nd [.no, .nd [.no, .nd [.no, .nd [.no, .nd [.no, .lf (.int 0)]]]], .nd [.no, .nd [.no, .nd [.no, .lf (.int 0)]], .nd [.no, .lf (.int 5)]], .nd [.no, .nd [.no, .lf (.int 5)], .lf (.int 0)], .nd [.no, .lf (.int 0)], .lf (.int 5)]]]], .nd [.nd [.no, .nd [.no, .nd [.no, .lf (.int 1)]], .nd [.no, .lf (.int 0)], .lf (.int 1)], .nd [.nd [.no, .nd [.no, .nd [.no, .nd [.no, .lf (.int 0)]]], .nd [.no, .nd [.no, .lf (.int 4)], .lf (.int 0)], .nd [.no, .lf (.int 0)], .lf (.int 4)], .nd [.nd [.no, .nd [.no, .nd [.no, .nd [.no, .nd [.no, .lf (.int 0)]]]], .nd [.no, .nd [.no, .nd [.no, .lf (.int 0)]], .nd [.no, .lf (.int 5)]], .nd [.no, .nd [.no, .lf (.int 5)], .lf (.int 0)], .nd [.no, .lf (.int 0)], .lf (.int 10)]]], .nd [.nd [.no, .nd [.no, .nd [.no, .nd [.no, .nd [.no, .lf (.int 0)]]]], .nd [.no, .nd [.no, .nd [.no, .lf (.int 5)]], .nd [.no, .lf (.int 0)]], .nd [.no, .nd [.no, .lf (.int 0)], .lf (.int 5)], .nd [.no, .lf (.int 10)], .lf (.int 0)]]], .nd [.nd [.no, .nd [.no, .nd [.no, .nd [.no, .lf (.int 1)]]], .nd [.no, .nd [.no, .lf (.int 0)], .lf (.int 1)], .nd [.no, .lf (.int 4)], .lf (.int 0)], .nd [.nd [.no, .nd [.no, .nd [.no, .nd [.no, .nd [.no, .lf (.int 0)]]]], .nd [.no, .nd [.no, .nd [.no, .lf (.int 5)]], .nd [.no, .lf (.int 0)]], .nd [.no, .nd [.no, .lf (.int 0)], .lf (.int 10)], .nd [.no, .lf (.int 15)], .lf (.int 0)]]], .nd [.nd [.no, .nd [.no, .nd [.no, .nd [.no, .nd [.no, .lf (.int 1)]]]], .nd [.no, .nd [.no, .nd [.no, .lf (.int 0)]], .nd [.no, .lf (.int 5)]], .nd [.no, .nd [.no, .lf (.int 10)], .lf (.int 0)], .nd [.no, .lf (.int 0)], .lf (.int 8)]]]
def g_count_of : List D → Option D := tabF2 tF_count_of
theorem m_count_of : ∀ ds r, g_count_of ds = some r → f_count_of ds = some r := tabF2_ok (by kernel_rfl)
end XL
end
section
set_option maxRecDepth 100000
set_option maxHeartbeats 0
/-! XN10: defs of the text, printed by gen.py. -/
namespace XL
open PySem PySem.Spec PyProof.Rows L2
variable {P : Program} {w : World} {K : PySem.W.Frag} {mg : Str → Option Value} {base : Heap}
/-! ### completed -/
theorem s2_completed : FnScope ["turn", "kind", "names", "first", "last", "ring", "place"] ["turn", "kind"] (defScope (top 49)) := ⟨rfl, rfl, rfl, by decide +kernel, rfl, by decide +kernel, by decide +kernel⟩
def x2_completed : XS := xSeq (xAsg (xCall g_made (xaCons (xCall g_kind_for (xaCons (xVar 0) (xaNil))) (xaCons (xVar 1) (xaNil)))) (xgTup2 3 4)) (xSeq (xAsg (xFn gDictZip (xaCons (xCall g_in_lengths (xaCons (xVar 3) (xaNil))) (xaCons (xCall g_in_lengths (xaCons (xVar 0) (xaNil))) (xaNil)))) (xgName 2)) (xRet (xCall f_from_rings (xaCons (xLc 130 (xiSeq (xCall g_rings_of (xaCons (xVar 4) (xaNil)))) (xgName 5) (xYes) (xFn gTuple (xaCons (xLc 130 (xiSeq (xVar 5)) (xgName 6) (xYes) (xOp gDGet (xVar 2) (xVar 6)) [6]) (xaNil))) [5]) (xaCons (xFn gLen (xaCons (xVar 0) (xaNil))) (xaNil))))))
def f2_completed : List D → Option D := fnX 2 7 x2_completed
theorem k2_completed (B : Blt mg) (d : DefAt K mg "completed" (top 49)) (c_from_rings : FA P w K mg base 1 "from_rings" ["rings", "many"] (spC f_from_rings)) (c_rings_of : FA P w K mg base 1 "rings_of" ["turn"] (spC g_rings_of)) (c_in_lengths : FA P w K mg base 2 "in_lengths" ["turn"] (spC g_in_lengths)) (c_made : FA P w K mg base 5 "made" ["one", "other"] (spC g_made)) (c_kind_for : FA P w K mg base 2 "kind_for" ["turn"] (spC g_kind_for)) : FA P w K mg base 6 "completed" ["turn", "kind"] (spC f2_completed) :=
  fa_of (xb := x2_completed) d s2_completed rfl rfl (fun _ _ _ _ _ _ us hl => match us, hl with | [_, _], _ => rfl) fun f cdv A outer s H E hr =>
    xss_cons (xs_asg (vs := [3, 4]) (xe_c c_made hr (by decide) rfl (xa_cons (xe_c c_kind_for hr (by decide) rfl (xa_cons (xe_var 0) (xa_nil))) (xa_cons (xe_var 1) (xa_nil)))) (xg_tup2 3 4 rfl s2_completed.nd rfl rfl (by first | exact .inl rfl | exact .inr rfl) (by first | exact .inl rfl | exact .inr rfl) (by decide) (by decide))) (xss_cons (xs_set 2 s2_completed.nd rfl (by first | exact .inl rfl | exact .inr rfl) (xe_dictZip rfl rfl B.dict_ rfl B.zip_ (xa_cons (xe_c c_in_lengths hr (by decide) rfl (xa_cons (xe_var 3) (xa_nil))) (xa_cons (xe_c c_in_lengths hr (by decide) rfl (xa_cons (xe_var 0) (xa_nil))) (xa_nil))))) (xss_one (xs_ret (xe_c c_from_rings hr (by decide) rfl (xa_cons (xe_lc (own := [("ring", 5)]) 130 rfl s2_completed.nd (xi_seq (xe_c c_rings_of hr (by decide) rfl (xa_cons (xe_var 4) (xa_nil)))) (blkOk_by (by rfl)) (fun _ _ _ _ _ => xg_name 5 s2_completed.nd rfl (by first | exact .inl rfl | exact .inr rfl) (by decide)) (fun _ _ _ _ _ => xts_nil) (fun _ _ _ _ _ => c_tuple B rfl (xa_cons (xe_lc (own := [("place", 6)]) 130 rfl s2_completed.nd (xi_seq (xe_var 5)) (blkOk_by (by rfl)) (fun _ _ _ _ _ => xg_name 6 s2_completed.nd rfl (by first | exact .inl rfl | exact .inr rfl) (by decide)) (fun _ _ _ _ _ => xts_nil) (fun _ _ _ _ _ => e_dget hr (xe_var 2) (xe_var 6))) (xa_nil)))) (xa_cons (c_len B rfl (xa_cons (xe_var 0) (xa_nil))) (xa_nil)))))))
/-! ### check_can -/
theorem s2_check_can : FnScope ["one", "other"] ["one", "other"] (defScope (top 39)) := ⟨rfl, rfl, rfl, by decide +kernel, rfl, by decide +kernel, by decide +kernel⟩
def x2_check_can : XR := xIfX (xTB (xOp gNotN (xCall g_barred_by (xaCons (xVar 0) (xaCons (xVar 1) (xaNil)))) (xC .non))) (xRaise (xCall g_barred_by (xaCons (xVar 0) (xaCons (xVar 1) (xaNil))))) (xUp xNext)
def f2_check_can : List D → Option Rs := fnR 2 2 x2_check_can
theorem k2_check_can {C : Addr} (B : Blt mg) (bar : BarAt K mg C) (d : DefAt K mg "check_can" (top 39)) (c_barred_by : FA P w K mg base 2 "barred_by" ["one", "other"] (spC g_barred_by)) : FR P w K mg base 3 "check_can" ["one", "other"] (spR C f2_check_can) :=
  fr_of (xb := x2_check_can) d s2_check_can rfl rfl (fun _ _ _ _ _ _ us hl => match us, hl with | [_, _], _ => rfl) fun f cdv A outer s H E hr =>
    xrs_one (xr_if (t_notN (xe_c c_barred_by hr (by decide) rfl (xa_cons (xe_var 0) (xa_cons (xe_var 1) (xa_nil)))) (xe_non)) (xrs_one (xr_raise bar rfl (takes_of rfl rfl rfl rfl) hr (by decide) rfl (xe_c c_barred_by hr (by decide) rfl (xa_cons (xe_var 0) (xa_cons (xe_var 1) (xa_nil)))))) (xr_up0 xss_nil))
/-! ### make -/
theorem s2_make : FnScope ["one", "other"] ["one", "other"] (defScope (top 52)) := ⟨rfl, rfl, rfl, by decide +kernel, rfl, by decide +kernel, by decide +kernel⟩
def x2_make : XR := xSeqX (xUp (xDrop (xCall g_check_both (xaCons (xVar 0) (xaCons (xVar 1) (xaNil)))))) (xSeqX (xCallX f2_check_can (xaCons (xVar 0) (xaCons (xVar 1) (xaNil)))) (xUp (xRet (xCall g_made (xaCons (xVar 0) (xaCons (xVar 1) (xaNil)))))))
def f2_make : List D → Option Rs := fnR 2 2 x2_make
theorem k2_make {C : Addr} (B : Blt mg) (bar : BarAt K mg C) (d : DefAt K mg "make" (top 52)) (c_made : FA P w K mg base 5 "made" ["one", "other"] (spC g_made)) (c_check_can : FR P w K mg base 3 "check_can" ["one", "other"] (spR C f2_check_can)) (c_check_both : FA P w K mg base 4 "check_both" ["one", "other"] (spC g_check_both)) : FR P w K mg base 6 "make" ["one", "other"] (spR C f2_make) :=
  fr_of (xb := x2_make) d s2_make rfl rfl (fun _ _ _ _ _ _ us hl => match us, hl with | [_, _], _ => rfl) fun f cdv A outer s H E hr =>
    xrs_cons (xr_up (xs_expr (xe_c c_check_both hr (by decide) rfl (xa_cons (xe_var 0) (xa_cons (xe_var 1) (xa_nil)))))) (xrs_cons (xr_call c_check_can (takes_of rfl rfl rfl rfl) hr (by decide) rfl (xa_cons (xe_var 0) (xa_cons (xe_var 1) (xa_nil)))) (xrs_one (xr_up (xs_ret (xe_c c_made hr (by decide) rfl (xa_cons (xe_var 0) (xa_cons (xe_var 1) (xa_nil))))))))
/-! ### complete -/
theorem s2_complete : FnScope ["turn", "kind"] ["turn", "kind"] (defScope (top 53)) := ⟨rfl, rfl, rfl, by decide +kernel, rfl, by decide +kernel, by decide +kernel⟩
def x2_complete : XR := xSeqX (xUp (xDrop (xCall g_check_turn (xaCons (xVar 0) (xaNil))))) (xSeqX (xUp (xDrop (xCall g_check_kind (xaCons (xVar 1) (xaNil))))) (xSeqX (xUp (xIfS (xTB (xOp gNe (xFn gLen (xaCons (xVar 0) (xaNil))) (xFn gSum (xaCons (xVar 1) (xaNil))))) (xNever) (xNext))) (xSeqX (xCallX f2_check_can (xaCons (xCall g_kind_for (xaCons (xVar 0) (xaNil))) (xaCons (xVar 1) (xaNil)))) (xUp (xRet (xCall f2_completed (xaCons (xVar 0) (xaCons (xVar 1) (xaNil)))))))))
def f2_complete : List D → Option Rs := fnR 2 2 x2_complete
theorem k2_complete {C : Addr} (B : Blt mg) (bar : BarAt K mg C) (d : DefAt K mg "complete" (top 53)) (c_completed : FA P w K mg base 6 "completed" ["turn", "kind"] (spC f2_completed)) (c_check_can : FR P w K mg base 3 "check_can" ["one", "other"] (spR C f2_check_can)) (c_kind_for : FA P w K mg base 2 "kind_for" ["turn"] (spC g_kind_for)) (c_check_kind : FA P w K mg base 3 "check_kind" ["value"] (spC g_check_kind)) (c_check_turn : FA P w K mg base 3 "check_turn" ["value"] (spC g_check_turn)) : FR P w K mg base 7 "complete" ["turn", "kind"] (spR C f2_complete) :=
  fr_of (xb := x2_complete) d s2_complete rfl rfl (fun _ _ _ _ _ _ us hl => match us, hl with | [_, _], _ => rfl) fun f cdv A outer s H E hr =>
    xrs_cons (xr_up (xs_expr (xe_c c_check_turn hr (by decide) rfl (xa_cons (xe_var 0) (xa_nil))))) (xrs_cons (xr_up (xs_expr (xe_c c_check_kind hr (by decide) rfl (xa_cons (xe_var 1) (xa_nil))))) (xrs_cons (xr_up (xs_if (t_ne hr (c_len B rfl (xa_cons (xe_var 0) (xa_nil))) (c_sum rfl B rfl (xa_cons (xe_var 1) (xa_nil)))) (xss_never) (xss_nil))) (xrs_cons (xr_call c_check_can (takes_of rfl rfl rfl rfl) hr (by decide) rfl (xa_cons (xe_c c_kind_for hr (by decide) rfl (xa_cons (xe_var 0) (xa_nil))) (xa_cons (xe_var 1) (xa_nil)))) (xrs_one (xr_up (xs_ret (xe_c c_completed hr (by decide) rfl (xa_cons (xe_var 0) (xa_cons (xe_var 1) (xa_nil))))))))))
/-! ### plane_joins -/
theorem s2_plane_joins : FnScope ["one", "other"] ["one", "other"] (defScope (top 60)) := ⟨rfl, rfl, rfl, by decide +kernel, rfl, by decide +kernel, by decide +kernel⟩
def x2_plane_joins : XR := xSeqX (xUp (xDrop (xCall g_check_both (xaCons (xVar 0) (xaCons (xVar 1) (xaNil)))))) (xSeqX (xCallX f2_check_can (xaCons (xVar 0) (xaCons (xVar 1) (xaNil)))) (xSeqX (xIfX (xTB (xOp gGt (xCall f_excess (xaCons (xVar 0) (xaCons (xVar 1) (xaNil)))) (xC (.int 0)))) (xRaise (xC (.str "handles"))) (xUp xNext)) (xUp (xRet (xCall g_count_of (xaCons (xVar 0) (xaCons (xVar 1) (xaNil))))))))
def f2_plane_joins : List D → Option Rs := fnR 2 2 x2_plane_joins
theorem k2_plane_joins {C : Addr} (B : Blt mg) (bar : BarAt K mg C) (d : DefAt K mg "plane_joins" (top 60)) (c_count_of : FA P w K mg base 3 "count_of" ["one", "other"] (spC g_count_of)) (c_excess : FA P w K mg base 1 "excess" ["one", "other"] (spC f_excess)) (c_check_can : FR P w K mg base 3 "check_can" ["one", "other"] (spR C f2_check_can)) (c_check_both : FA P w K mg base 4 "check_both" ["one", "other"] (spC g_check_both)) : FR P w K mg base 5 "plane_joins" ["one", "other"] (spR C f2_plane_joins) :=
  fr_of (xb := x2_plane_joins) d s2_plane_joins rfl rfl (fun _ _ _ _ _ _ us hl => match us, hl with | [_, _], _ => rfl) fun f cdv A outer s H E hr =>
    xrs_cons (xr_up (xs_expr (xe_c c_check_both hr (by decide) rfl (xa_cons (xe_var 0) (xa_cons (xe_var 1) (xa_nil)))))) (xrs_cons (xr_call c_check_can (takes_of rfl rfl rfl rfl) hr (by decide) rfl (xa_cons (xe_var 0) (xa_cons (xe_var 1) (xa_nil)))) (xrs_cons (xr_if (t_gt (xe_c c_excess hr (by decide) rfl (xa_cons (xe_var 0) (xa_cons (xe_var 1) (xa_nil)))) (xe_int)) (xrs_one (xr_raise bar rfl (takes_of rfl rfl rfl rfl) hr (by decide) rfl (xe_str))) (xr_up0 xss_nil)) (xrs_one (xr_up (xs_ret (xe_c c_count_of hr (by decide) rfl (xa_cons (xe_var 0) (xa_cons (xe_var 1) (xa_nil)))))))))
/-! ### can -/
theorem s2_can : FnScope ["one", "other"] ["one", "other"] (defScope (top 50)) := ⟨rfl, rfl, rfl, by decide +kernel, rfl, by decide +kernel, by decide +kernel⟩
def x2_can : XS := xSeq (xDrop (xCall g_check_both (xaCons (xVar 0) (xaCons (xVar 1) (xaNil))))) (xRet (xOp gIsN (xCall g_barred_by (xaCons (xVar 0) (xaCons (xVar 1) (xaNil)))) (xC .non)))
def f2_can : List D → Option D := fnX 2 2 x2_can
theorem k2_can (B : Blt mg) (d : DefAt K mg "can" (top 50)) (c_barred_by : FA P w K mg base 2 "barred_by" ["one", "other"] (spC g_barred_by)) (c_check_both : FA P w K mg base 4 "check_both" ["one", "other"] (spC g_check_both)) : FA P w K mg base 5 "can" ["one", "other"] (spC f2_can) :=
  fa_of (xb := x2_can) d s2_can rfl rfl (fun _ _ _ _ _ _ us hl => match us, hl with | [_, _], _ => rfl) fun f cdv A outer s H E hr =>
    xss_cons (xs_expr (xe_c c_check_both hr (by decide) rfl (xa_cons (xe_var 0) (xa_cons (xe_var 1) (xa_nil))))) (xss_one (xs_ret (e_isN (xe_c c_barred_by hr (by decide) rfl (xa_cons (xe_var 0) (xa_cons (xe_var 1) (xa_nil)))) (xe_non))))
/-! ### bars -/
theorem s2_bars : FnScope ["one", "other"] ["one", "other"] (defScope (top 51)) := ⟨rfl, rfl, rfl, by decide +kernel, rfl, by decide +kernel, by decide +kernel⟩
def x2_bars : XS := xSeq (xDrop (xCall g_check_both (xaCons (xVar 0) (xaCons (xVar 1) (xaNil))))) (xRet (xCall g_barred_by (xaCons (xVar 0) (xaCons (xVar 1) (xaNil)))))
def f2_bars : List D → Option D := fnX 2 2 x2_bars
theorem k2_bars (B : Blt mg) (d : DefAt K mg "bars" (top 51)) (c_barred_by : FA P w K mg base 2 "barred_by" ["one", "other"] (spC g_barred_by)) (c_check_both : FA P w K mg base 4 "check_both" ["one", "other"] (spC g_check_both)) : FA P w K mg base 5 "bars" ["one", "other"] (spC f2_bars) :=
  fa_of (xb := x2_bars) d s2_bars rfl rfl (fun _ _ _ _ _ _ us hl => match us, hl with | [_, _], _ => rfl) fun f cdv A outer s H E hr =>
    xss_cons (xs_expr (xe_c c_check_both hr (by decide) rfl (xa_cons (xe_var 0) (xa_cons (xe_var 1) (xa_nil))))) (xss_one (xs_ret (xe_c c_barred_by hr (by decide) rfl (xa_cons (xe_var 0) (xa_cons (xe_var 1) (xa_nil))))))
/-! ### fewest_rings -/
theorem s2_fewest_rings : FnScope ["one", "other", "more"] ["one", "other"] (defScope (top 54)) := ⟨rfl, rfl, rfl, by decide +kernel, rfl, by decide +kernel, by decide +kernel⟩
def x2_fewest_rings : XS := xSeq (xDrop (xCall g_check_both (xaCons (xVar 0) (xaCons (xVar 1) (xaNil))))) (xSeq (xAsg (xCall f_excess (xaCons (xVar 0) (xaCons (xVar 1) (xaNil)))) (xgName 2)) (xSeq (xIfS (xTB (xOp gLt (xVar 2) (xC (.int 0)))) (xRet (xOp gSub (xC (.int 1)) (xVar 2))) (xNext)) (xRet (xIf (xTB (xOp gEq (xOp gMod (xVar 2) (xC (.int 2))) (xC (.int 0)))) (xC (.int 1)) (xC (.int 2))))))
def f2_fewest_rings : List D → Option D := fnX 2 3 x2_fewest_rings
theorem k2_fewest_rings (B : Blt mg) (d : DefAt K mg "fewest_rings" (top 54)) (c_excess : FA P w K mg base 1 "excess" ["one", "other"] (spC f_excess)) (c_check_both : FA P w K mg base 4 "check_both" ["one", "other"] (spC g_check_both)) : FA P w K mg base 5 "fewest_rings" ["one", "other"] (spC f2_fewest_rings) :=
  fa_of (xb := x2_fewest_rings) d s2_fewest_rings rfl rfl (fun _ _ _ _ _ _ us hl => match us, hl with | [_, _], _ => rfl) fun f cdv A outer s H E hr =>
    xss_cons (xs_expr (xe_c c_check_both hr (by decide) rfl (xa_cons (xe_var 0) (xa_cons (xe_var 1) (xa_nil))))) (xss_cons (xs_set 2 s2_fewest_rings.nd rfl (by first | exact .inl rfl | exact .inr rfl) (xe_c c_excess hr (by decide) rfl (xa_cons (xe_var 0) (xa_cons (xe_var 1) (xa_nil))))) (xss_cons (xs_if (t_lt (xe_var 2) (xe_int)) (xss_one (xs_ret (e_sub (xe_int) (xe_var 2)))) (xss_nil)) (xss_one (xs_ret (xe_if (t_eq hr (e_mod (xe_var 2) (xe_int)) (xe_int)) (xe_int) (xe_int))))))
/-! ### how_many_joins -/
theorem s2_how_many_joins : FnScope ["one", "other"] ["one", "other"] (defScope (top 58)) := ⟨rfl, rfl, rfl, by decide +kernel, rfl, by decide +kernel, by decide +kernel⟩
def x2_how_many_joins : XS := xSeq (xDrop (xCall g_check_both (xaCons (xVar 0) (xaCons (xVar 1) (xaNil))))) (xRet (xCall g_count_of (xaCons (xVar 0) (xaCons (xVar 1) (xaNil)))))
def f2_how_many_joins : List D → Option D := fnX 2 2 x2_how_many_joins
theorem k2_how_many_joins (B : Blt mg) (d : DefAt K mg "how_many_joins" (top 58)) (c_count_of : FA P w K mg base 3 "count_of" ["one", "other"] (spC g_count_of)) (c_check_both : FA P w K mg base 4 "check_both" ["one", "other"] (spC g_check_both)) : FA P w K mg base 5 "how_many_joins" ["one", "other"] (spC f2_how_many_joins) :=
  fa_of (xb := x2_how_many_joins) d s2_how_many_joins rfl rfl (fun _ _ _ _ _ _ us hl => match us, hl with | [_, _], _ => rfl) fun f cdv A outer s H E hr =>
    xss_cons (xs_expr (xe_c c_check_both hr (by decide) rfl (xa_cons (xe_var 0) (xa_cons (xe_var 1) (xa_nil))))) (xss_one (xs_ret (xe_c c_count_of hr (by decide) rfl (xa_cons (xe_var 0) (xa_cons (xe_var 1) (xa_nil))))))
/-! ### share -/
theorem s2_share : FnScope ["one", "other"] ["one", "other"] (defScope (top 59)) := ⟨rfl, rfl, rfl, by decide +kernel, rfl, by decide +kernel, by decide +kernel⟩
def x2_share : XS := xSeq (xDrop (xCall g_check_both (xaCons (xVar 0) (xaCons (xVar 1) (xaNil))))) (xRet (xCall f_ratio (xaCons (xOp gMul (xCall g_count_of (xaCons (xVar 0) (xaCons (xVar 1) (xaNil)))) (xCall f_factorial (xaCons (xOp gSub (xFn gSum (xaCons (xVar 0) (xaNil))) (xC (.int 1))) (xaNil)))) (xaCons (xOp gMul (xCall f_number_of_turns (xaCons (xVar 0) (xaNil))) (xCall f_number_of_turns (xaCons (xVar 1) (xaNil)))) (xaNil)))))
def f2_share : List D → Option D := fnX 2 2 x2_share
theorem k2_share (B : Blt mg) (d : DefAt K mg "share" (top 59)) (c_ratio : FA P w K mg base 2 "ratio" ["top", "bottom"] (spC f_ratio)) (c_number_of_turns : FA P w K mg base 2 "number_of_turns" ["kind"] (spC f_number_of_turns)) (c_count_of : FA P w K mg base 3 "count_of" ["one", "other"] (spC g_count_of)) (c_factorial : FA P w K mg base 1 "factorial" ["number"] (spC f_factorial)) (c_check_both : FA P w K mg base 4 "check_both" ["one", "other"] (spC g_check_both)) : FA P w K mg base 5 "share" ["one", "other"] (spC f2_share) :=
  fa_of (xb := x2_share) d s2_share rfl rfl (fun _ _ _ _ _ _ us hl => match us, hl with | [_, _], _ => rfl) fun f cdv A outer s H E hr =>
    xss_cons (xs_expr (xe_c c_check_both hr (by decide) rfl (xa_cons (xe_var 0) (xa_cons (xe_var 1) (xa_nil))))) (xss_one (xs_ret (xe_c c_ratio hr (by decide) rfl (xa_cons (e_mul (xe_c c_count_of hr (by decide) rfl (xa_cons (xe_var 0) (xa_cons (xe_var 1) (xa_nil)))) (xe_c c_factorial hr (by decide) rfl (xa_cons (e_sub (c_sum rfl B rfl (xa_cons (xe_var 0) (xa_nil))) (xe_int)) (xa_nil)))) (xa_cons (e_mul (xe_c c_number_of_turns hr (by decide) rfl (xa_cons (xe_var 0) (xa_nil))) (xe_c c_number_of_turns hr (by decide) rfl (xa_cons (xe_var 1) (xa_nil)))) (xa_nil))))))
/-! ### kind_of -/
theorem s2_kind_of : FnScope ["turn"] ["turn"] (defScope (top 26)) := ⟨rfl, rfl, rfl, by decide +kernel, rfl, by decide +kernel, by decide +kernel⟩
def x2_kind_of : XS := xSeq (xDrop (xCall g_check_turn (xaCons (xVar 0) (xaNil)))) (xRet (xCall g_kind_for (xaCons (xVar 0) (xaNil))))
def f2_kind_of : List D → Option D := fnX 1 1 x2_kind_of
theorem k2_kind_of (B : Blt mg) (d : DefAt K mg "kind_of" (top 26)) (c_kind_for : FA P w K mg base 2 "kind_for" ["turn"] (spC g_kind_for)) (c_check_turn : FA P w K mg base 3 "check_turn" ["value"] (spC g_check_turn)) : FA P w K mg base 4 "kind_of" ["turn"] (spC f2_kind_of) :=
  fa_of (xb := x2_kind_of) d s2_kind_of rfl rfl (fun _ _ _ _ _ _ us hl => match us, hl with | [_], _ => rfl) fun f cdv A outer s H E hr =>
    xss_cons (xs_expr (xe_c c_check_turn hr (by decide) rfl (xa_cons (xe_var 0) (xa_nil)))) (xss_one (xs_ret (xe_c c_kind_for hr (by decide) rfl (xa_cons (xe_var 0) (xa_nil)))))
/-! ### rings -/
theorem s2_rings : FnScope ["turn"] ["turn"] (defScope (top 25)) := ⟨rfl, rfl, rfl, by decide +kernel, rfl, by decide +kernel, by decide +kernel⟩
def x2_rings : XS := xSeq (xDrop (xCall g_check_turn (xaCons (xVar 0) (xaNil)))) (xRet (xCall g_rings_of (xaCons (xVar 0) (xaNil))))
def f2_rings : List D → Option D := fnX 1 1 x2_rings
theorem k2_rings (B : Blt mg) (d : DefAt K mg "rings" (top 25)) (c_rings_of : FA P w K mg base 1 "rings_of" ["turn"] (spC g_rings_of)) (c_check_turn : FA P w K mg base 3 "check_turn" ["value"] (spC g_check_turn)) : FA P w K mg base 4 "rings" ["turn"] (spC f2_rings) :=
  fa_of (xb := x2_rings) d s2_rings rfl rfl (fun _ _ _ _ _ _ us hl => match us, hl with | [_], _ => rfl) fun f cdv A outer s H E hr =>
    xss_cons (xs_expr (xe_c c_check_turn hr (by decide) rfl (xa_cons (xe_var 0) (xa_nil)))) (xss_one (xs_ret (xe_c c_rings_of hr (by decide) rfl (xa_cons (xe_var 0) (xa_nil)))))
/-! ### all_kinds -/
theorem s2_all_kinds : FnScope ["size"] ["size"] (defScope (top 34)) := ⟨rfl, rfl, rfl, by decide +kernel, rfl, by decide +kernel, by decide +kernel⟩
def x2_all_kinds : XS := xSeq (xDrop (xCall f_check_number (xaCons (xVar 0) (xaCons (xC (.int 1)) (xaCons (xC (.int 24)) (xaNil)))))) (xRet (xFn gTuple (xaCons (xCall (f_kinds_with 7) (xaCons (xVar 0) (xaCons (xVar 0) (xaNil)))) (xaNil))))
def f2_all_kinds : List D → Option D := fnX 1 1 x2_all_kinds
theorem k2_all_kinds (B : Blt mg) (d : DefAt K mg "all_kinds" (top 34)) (c_kinds_with : FA P w K mg base 7 "kinds_with" ["size", "most"] (spC (f_kinds_with 7))) (c_check_number : FA P w K mg base 3 "check_number" ["value", "least", "most"] (spC f_check_number)) : FA P w K mg base 8 "all_kinds" ["size"] (spC f2_all_kinds) :=
  fa_of (xb := x2_all_kinds) d s2_all_kinds rfl rfl (fun _ _ _ _ _ _ us hl => match us, hl with | [_], _ => rfl) fun f cdv A outer s H E hr =>
    xss_cons (xs_expr (xe_c c_check_number hr (by decide) rfl (xa_cons (xe_var 0) (xa_cons (xe_int) (xa_cons (v_most B rfl) (xa_nil)))))) (xss_one (xs_ret (c_tuple B rfl (xa_cons (xe_c c_kinds_with hr (by decide) rfl (xa_cons (xe_var 0) (xa_cons (xe_var 0) (xa_nil)))) (xa_nil)))))
/-! ### how_many_turns -/
theorem s2_how_many_turns : FnScope ["kind"] ["kind"] (defScope (top 35)) := ⟨rfl, rfl, rfl, by decide +kernel, rfl, by decide +kernel, by decide +kernel⟩
def x2_how_many_turns : XS := xSeq (xDrop (xCall g_check_kind (xaCons (xVar 0) (xaNil)))) (xRet (xCall f_number_of_turns (xaCons (xVar 0) (xaNil))))
def f2_how_many_turns : List D → Option D := fnX 1 1 x2_how_many_turns
theorem k2_how_many_turns (B : Blt mg) (d : DefAt K mg "how_many_turns" (top 35)) (c_number_of_turns : FA P w K mg base 2 "number_of_turns" ["kind"] (spC f_number_of_turns)) (c_check_kind : FA P w K mg base 3 "check_kind" ["value"] (spC g_check_kind)) : FA P w K mg base 4 "how_many_turns" ["kind"] (spC f2_how_many_turns) :=
  fa_of (xb := x2_how_many_turns) d s2_how_many_turns rfl rfl (fun _ _ _ _ _ _ us hl => match us, hl with | [_], _ => rfl) fun f cdv A outer s H E hr =>
    xss_cons (xs_expr (xe_c c_check_kind hr (by decide) rfl (xa_cons (xe_var 0) (xa_nil)))) (xss_one (xs_ret (xe_c c_number_of_turns hr (by decide) rfl (xa_cons (xe_var 0) (xa_nil)))))
end XL
end
section
set_option maxRecDepth 100000
set_option maxHeartbeats 0
/-! XN5: defs of the text, printed by gen.py. -/
namespace XL
open PySem PySem.Spec PyProof.Rows L2
variable {P : Program} {w : World} {K : PySem.W.Frag} {mg : Str → Option Value} {base : Heap}
/-! ### _law_made_right -/
theorem sc__law_made_right : FnScope ["_law_near", "_law_far", "_law_bar", "_law_made", "_law_came"] ["_law_near", "_law_far", "_law_bar"] (defScope (top 73)) := ⟨rfl, rfl, rfl, by decide +kernel, rfl, by decide +kernel, by decide +kernel⟩
def x__law_made_right : XS := xSeq (xAsg (xLst (xaCons (xLam f2_make (xaCons (xVar 0) (xaCons (xVar 1) (xaNil)))) (xaNil))) (xgName 4)) (xSeq (xDrop (xMt gAppend (xVar 4) (xaCons (xLam2 f2_make (xaCons (xVar 1) (xaCons (xVar 0) xaNil))) (xaNil)))) (xSeq (xIfS (xTB (xOp gNotN (xVar 2) (xC .non))) (xRet (xOp gEq (xVar 4) (xOp gRep (xLst (xaCons (xTup (xaCons (xC (.str "barred")) (xaCons (xFn gReprS (xaCons (xVar 2) (xaNil))) (xaNil)))) (xaNil))) (xC (.int 2))))) (xNext)) (xSeq (xAsg (xOp gIx (xOp gIx (xVar 4) (xC (.int 0))) (xC (.int 1))) (xgName 3)) (xSeq (xIfS (xOrT (xTB (xOp gNe (xOp gIx (xVar 4) (xC (.int 0))) (xOp gIx (xVar 4) (xC (.int 1))))) (xOrT (xNotT (xTru (xFn gIsi (xaCons (xVar 3) (xaCons (xC (.ty "tuple")) (xaNil)))))) (xTB (xOp gNe (xFn gLen (xaCons (xVar 3) (xaNil))) (xC (.int 2)))))) (xRet (xC (.bl false))) (xNext)) (xRet (xOp gEq (xLst (xaCons (xCall f2_kind_of (xaCons (xOp gIx (xVar 3) (xC (.int 0))) (xaNil))) (xaCons (xCall f2_kind_of (xaCons (xOp gIx (xVar 3) (xC (.int 1))) (xaNil))) (xaCons (xFn gLen (xaCons (xCall f2_rings (xaCons (xCall f_then (xaCons (xOp gIx (xVar 3) (xC (.int 0))) (xaCons (xOp gIx (xVar 3) (xC (.int 1))) (xaNil)))) (xaNil))) (xaNil))) (xaNil))))) (xLst (xaCons (xVar 0) (xaCons (xVar 1) (xaCons (xC (.int 1)) (xaNil)))))))))))
def f__law_made_right : List D → Option D := fnX 3 5 x__law_made_right
theorem k__law_made_right {T : Tb} (B : Blt mg) {C c PT : Addr} (bar : BarAt K mg C) (Dc : DefAt K mg "_law_caught" (top 70)) (tab : TbAt base mg T c PT "_law_made_right.<locals>.<lambda>") (c_rings : FA P w K mg base 4 "rings" ["turn"] (spC f2_rings)) (c_then : FA P w K mg base 5 "then" ["one", "other"] (spC f_then)) (c_kind_of : FA P w K mg base 4 "kind_of" ["turn"] (spC f2_kind_of)) (c_make : FR P w K mg base 6 "make" ["one", "other"] (spR C f2_make)) (Df_make : DefAt K mg "make" (top 52)) (d : DefL K mg "_law_made_right" (top 73) c) : FA P w K mg base 9 "_law_made_right" ["_law_near", "_law_far", "_law_bar"] (spL T f__law_made_right) :=
  fl_ofL (xb := x__law_made_right) d sc__law_made_right rfl rfl (fun _ _ _ _ _ _ us hl => match us, hl with | [_, _, _], _ => rfl) fun f A outer s H E hr _ =>
    xss_cons (xs_set 4 sc__law_made_right.nd rfl (by first | exact .inl rfl | exact .inr rfl) (xe_lst (xa_cons (xe_lam (j := 6) B bar Dc tab rfl rfl c_make (hr.mono (by decide)) (by decide) rfl (LamX.lamS_by (by rfl)) rfl (fun _ _ _ _ _ => rfl) rfl rfl (fun _ _ _ _ _ _ _ => xa_cons (xe_var 0) (xa_cons (xe_var 1) (xa_nil))) (fun _ _ _ _ _ _ _ => rfl) (fun _ _ _ _ _ _ _ => rfl)) (xa_nil)))) (xss_cons (xs_expr (xe_append (xe_var 4) (xa_cons (xe_lam2 (st := top 52) (j := 6) B bar Dc tab rfl rfl c_make Df_make (hr.mono (by decide)) (by decide) rfl (LamX.lamS_by (by rfl)) rfl (fun _ _ _ _ _ => rfl) rfl rfl (fun _ _ _ _ _ _ _ _ => rfl) (fun _ _ _ _ _ _ _ => xk_cons (xe_var 1) (xk_cons (xe_var 0) xk_nil))) (xa_nil)))) (xss_cons (xs_if (t_notN (xe_var 2) (xe_non)) (xss_one (xs_ret (e_eq hr (xe_var 4) (e_rep (xe_lst (xa_cons (xe_tup (xa_cons (xe_str) (xa_cons (c_reprS B rfl (xa_cons (xe_var 2) (xa_nil))) (xa_nil)))) (xa_nil))) (xe_int))))) (xss_nil)) (xss_cons (xs_set 3 sc__law_made_right.nd rfl (by first | exact .inl rfl | exact .inr rfl) (e_ix (e_ix (xe_var 4) (xe_int)) (xe_int))) (xss_cons (xs_if (PW.pt (xw_or (t_ne hr (e_ix (xe_var 4) (xe_int)) (e_ix (xe_var 4) (xe_int))) (xw_or (xt_not (xt_tru (c_isi B rfl (xa_cons (xe_var 3) (xa_cons (v_tuple B rfl) (xa_nil)))))) (xw_or1 (t_ne hr (c_len B rfl (xa_cons (xe_var 3) (xa_nil))) (xe_int)))))) (xss_one (xs_ret (xe_bl))) (xss_nil)) (xss_one (xs_ret (e_eq hr (xe_lst (xa_cons (xe_c c_kind_of hr (by decide) rfl (xa_cons (e_ix (xe_var 3) (xe_int)) (xa_nil))) (xa_cons (xe_c c_kind_of hr (by decide) rfl (xa_cons (e_ix (xe_var 3) (xe_int)) (xa_nil))) (xa_cons (c_len B rfl (xa_cons (xe_c c_rings hr (by decide) rfl (xa_cons (xe_c c_then hr (by decide) rfl (xa_cons (e_ix (xe_var 3) (xe_int)) (xa_cons (e_ix (xe_var 3) (xe_int)) (xa_nil)))) (xa_nil))) (xa_nil))) (xa_nil))))) (xe_lst (xa_cons (xe_var 0) (xa_cons (xe_var 1) (xa_cons (xe_int) (xa_nil))))))))))))
/-! ### _law_completed_right -/
theorem sc__law_completed_right : FnScope ["_law_spin_here", "_law_far", "_law_near", "_law_some", "_law_came", "_law_each"] ["_law_spin_here", "_law_far"] (defScope (top 74)) := ⟨rfl, rfl, rfl, by decide +kernel, rfl, by decide +kernel, by decide +kernel⟩
def x__law_completed_right : XS := xSeq (xAsg (xCall g__law_lens (xaCons (xVar 0) (xaNil))) (xgName 2)) (xSeq (xAsg (xLc 130 (xiSeq (xCall g__law_of_kind (xaCons (xVar 1) (xaNil)))) (xgName 5) (xTB (xOp gEq (xFn gLen (xaCons (xCall g__law_loops (xaCons (xCall g__law_behind (xaCons (xVar 0) (xaCons (xVar 5) (xaNil)))) (xaNil))) (xaNil))) (xC (.int 1)))) (xVar 5) [5]) (xgName 3)) (xSeq (xAsg (xLst (xaCons (xLam f2_complete (xaCons (xVar 0) (xaCons (xVar 1) (xaNil)))) (xaNil))) (xgName 4)) (xSeq (xDrop (xMt gAppend (xVar 4) (xaCons (xLam2 f2_complete (xaCons (xVar 1) (xaCons (xVar 0) xaNil))) (xaNil)))) (xSeq (xIfS (xTB (xOp gEq (xVar 3) (xLst (xaNil)))) (xRet (xOp gEq (xVar 4) (xOp gRep (xLst (xaCons (xTup (xaCons (xC (.str "barred")) (xaCons (xFn gReprS (xaCons (xCall f2_bars (xaCons (xVar 2) (xaCons (xVar 1) (xaNil)))) (xaNil))) (xaNil)))) (xaNil))) (xC (.int 2))))) (xNext)) (xRet (xAndV (xOp gEq (xOp gIx (xVar 4) (xC (.int 0))) (xOp gIx (xVar 4) (xC (.int 1)))) (xAndV (xOp gEq (xOp gIx (xOp gIx (xVar 4) (xC (.int 0))) (xC (.int 0))) (xC (.str "gave"))) (xOp gInD (xOp gIx (xOp gIx (xVar 4) (xC (.int 0))) (xC (.int 1))) (xVar 3)))))))))
def f__law_completed_right : List D → Option D := fnX 2 6 x__law_completed_right
theorem k__law_completed_right {T : Tb} (B : Blt mg) {C c PT : Addr} (bar : BarAt K mg C) (Dc : DefAt K mg "_law_caught" (top 70)) (tab : TbAt base mg T c PT "_law_completed_right.<locals>.<lambda>") (c_bars : FA P w K mg base 5 "bars" ["one", "other"] (spC f2_bars)) (c_complete : FR P w K mg base 7 "complete" ["turn", "kind"] (spR C f2_complete)) (c__law_of_kind : FA P w K mg base 3 "_law_of_kind" ["_law_lens_here"] (spC g__law_of_kind)) (c__law_loops : FA P w K mg base 1 "_law_loops" ["_law_spin_here"] (spC g__law_loops)) (c__law_behind : FA P w K mg base 1 "_law_behind" ["_law_near", "_law_far"] (spC g__law_behind)) (c__law_lens : FA P w K mg base 2 "_law_lens" ["_law_spin_here"] (spC g__law_lens)) (Df_complete : DefAt K mg "complete" (top 53)) (d : DefL K mg "_law_completed_right" (top 74) c) : FA P w K mg base 10 "_law_completed_right" ["_law_spin_here", "_law_far"] (spL T f__law_completed_right) :=
  fl_ofL (xb := x__law_completed_right) d sc__law_completed_right rfl rfl (fun _ _ _ _ _ _ us hl => match us, hl with | [_, _], _ => rfl) fun f A outer s H E hr _ =>
    xss_cons (xs_set 2 sc__law_completed_right.nd rfl (by first | exact .inl rfl | exact .inr rfl) (xe_c c__law_lens hr (by decide) rfl (xa_cons (xe_var 0) (xa_nil)))) (xss_cons (xs_setLc (own := [("_law_each", 5)]) 3 130 rfl sc__law_completed_right.nd rfl rfl (by rfl) (xi_seq (xe_c c__law_of_kind hr (by decide) rfl (xa_cons (xe_var 1) (xa_nil)))) (blkOk_by (by rfl)) (fun _ _ _ _ _ => xg_name 5 sc__law_completed_right.nd rfl (by first | exact .inl rfl | exact .inr rfl) (by decide)) (fun _ _ _ _ _ => xts_one (t_eq hr (c_len B rfl (xa_cons (xe_c c__law_loops hr (by decide) rfl (xa_cons (xe_c c__law_behind hr (by decide) rfl (xa_cons (xe_var 0) (xa_cons (xe_var 5) (xa_nil)))) (xa_nil))) (xa_nil))) (xe_int))) (fun _ _ _ _ _ => xe_var 5)) (xss_cons (xs_set 4 sc__law_completed_right.nd rfl (by first | exact .inl rfl | exact .inr rfl) (xe_lst (xa_cons (xe_lam (j := 7) B bar Dc tab rfl rfl c_complete (hr.mono (by decide)) (by decide) rfl (LamX.lamS_by (by rfl)) rfl (fun _ _ _ _ _ => rfl) rfl rfl (fun _ _ _ _ _ _ _ => xa_cons (xe_var 0) (xa_cons (xe_var 1) (xa_nil))) (fun _ _ _ _ _ _ _ => rfl) (fun _ _ _ _ _ _ _ => rfl)) (xa_nil)))) (xss_cons (xs_expr (xe_append (xe_var 4) (xa_cons (xe_lam2 (st := top 53) (j := 7) B bar Dc tab rfl rfl c_complete Df_complete (hr.mono (by decide)) (by decide) rfl (LamX.lamS_by (by rfl)) rfl (fun _ _ _ _ _ => rfl) rfl rfl (fun _ _ _ _ _ _ _ _ => rfl) (fun _ _ _ _ _ _ _ => xk_cons (xe_var 1) (xk_cons (xe_var 0) xk_nil))) (xa_nil)))) (xss_cons (xs_if (t_eq hr (xe_var 3) (xe_lst (xa_nil))) (xss_one (xs_ret (e_eq hr (xe_var 4) (e_rep (xe_lst (xa_cons (xe_tup (xa_cons (xe_str) (xa_cons (c_reprS B rfl (xa_cons (xe_c c_bars hr (by decide) rfl (xa_cons (xe_var 2) (xa_cons (xe_var 1) (xa_nil)))) (xa_nil))) (xa_nil)))) (xa_nil))) (xe_int))))) (xss_nil)) (xss_one (xs_ret (xe_and (e_eq hr (e_ix (xe_var 4) (xe_int)) (e_ix (xe_var 4) (xe_int))) (xe_and (e_eq hr (e_ix (e_ix (xe_var 4) (xe_int)) (xe_int)) (xe_str)) (xe_one (e_inD hr (e_ix (e_ix (xe_var 4) (xe_int)) (xe_int)) (xe_var 3)))))))))))
end XL
end
section
set_option maxRecDepth 100000
set_option maxHeartbeats 0
/-! XN6: defs of the text, printed by gen.py. -/
namespace XL
open PySem PySem.Spec PyProof.Rows L2
variable {P : Program} {w : World} {K : PySem.W.Frag} {mg : Str → Option Value} {base : Heap}
/-! ### _law_sip -/
theorem sc__law_sip : FnScope ["_law_cup_here", "_law_top", "_law_old", "_law_digit"] ["_law_cup_here", "_law_top"] (defScope (top 63)) := ⟨rfl, rfl, rfl, by decide +kernel, rfl, by decide +kernel, by decide +kernel⟩
def x__law_sip : XS := xSeq (xLSet (xVar 0) (xC (.int 2)) (xOp gAdd (xOp gIx (xVar 0) (xC (.int 2))) (xC (.int 1)))) (xSeq (xAsg (xFn gInt (xaCons (xOp gIx (xVar 0) (xC (.int 1))) (xaNil))) (xgName 2)) (xSeq (xLSet (xVar 0) (xC (.int 1)) (xOp gModB (xFn gInt (xaCons (xOp gAdd (xOp gAdd (xOp gMul (xVar 2) (xOp gAdd (xOp gMod (xFn gInt (xaCons (xVar 2) (xaNil))) (xC (.int 25013))) (xC (.int 18013)))) (xOp gMul (xC (.int 61027)) (xOp gIx (xVar 0) (xC (.int 2))))) (xC (.int 83))) (xaNil))) (xC (.int 2147483137)))) (xSeq (xIfS (xTB (xOp gGt (xOp gIx (xVar 0) (xC (.int 0))) (xC (.int 0)))) (xSeq (xDivSet (xVar 0) (xC (.int 0)) 3 (xaCons (xOp gIx (xVar 0) (xC (.int 0))) (xaCons (xVar 1) (xaNil)))) (xRet (xVar 3))) (xNext)) (xRet (xOp gMod (xFn gInt (xaCons (xOp gDiv (xOp gIx (xVar 0) (xC (.int 1))) (xC (.int 149))) (xaNil))) (xVar 1))))))
def f__law_sip : Cs → List D → Option (D × Cs) := fnZ 2 4 x__law_sip
theorem k__law_sip {T : Tb} (B : Blt mg) (d : DefAt K mg "_law_sip" (top 63)) : FA P w K mg base 1 "_law_sip" ["_law_cup_here", "_law_top"] (spZ T f__law_sip) :=
  fz_of (xb := x__law_sip) d sc__law_sip rfl rfl (fun _ _ _ _ _ _ us hl => match us, hl with | [_, _], _ => rfl) fun f cdv A outer s H E hr =>
    xss_cons (xs_lset (xe_var 0) (xe_int) (e_add (e_ix (xe_var 0) (xe_int)) (xe_int))) (xss_cons (xs_set 2 sc__law_sip.nd rfl (by first | exact .inl rfl | exact .inr rfl) (c_int B rfl (xa_cons (e_ix (xe_var 0) (xe_int)) (xa_nil)))) (xss_cons (xs_lset (xe_var 0) (xe_int) (e_modB (c_int B rfl (xa_cons (e_add (e_add (e_mul (xe_var 2) (e_add (e_mod (c_int B rfl (xa_cons (xe_var 2) (xa_nil))) (xe_int)) (xe_int))) (e_mul (xe_int) (e_ix (xe_var 0) (xe_int)))) (xe_int)) (xa_nil))) (xe_int))) (xss_cons (xs_if (t_gt (e_ix (xe_var 0) (xe_int)) (xe_int)) (xss_cons (xs_divset 3 B rfl rfl (xe_var 0) (xe_int) (xa_cons (e_ix (xe_var 0) (xe_int)) (xa_cons (xe_var 1) (xa_nil))) sc__law_sip.nd rfl (by first | exact .inl rfl | exact .inr rfl)) (xss_one (xs_ret (xe_var 3)))) (xss_nil)) (xss_one (xs_ret (e_mod (c_int B rfl (xa_cons (e_div (e_ix (xe_var 0) (xe_int)) (xe_int)) (xa_nil))) (xe_var 1)))))))
/-! ### _law_of -/
theorem sc__law_of : FnScope ["_law_cup_here", "_law_things"] ["_law_cup_here", "_law_things"] (defScope (top 64)) := ⟨rfl, rfl, rfl, by decide +kernel, rfl, by decide +kernel, by decide +kernel⟩
def x__law_of : XS := xRet (xOp gIx (xVar 1) (xCallZ f__law_sip (xaCons (xVar 0) (xaCons (xFn gLen (xaCons (xVar 1) (xaNil))) (xaNil)))))
def f__law_of : Cs → List D → Option (D × Cs) := fnZ 2 2 x__law_of
theorem k__law_of {T : Tb} (B : Blt mg) (c__law_sip : FA P w K mg base 1 "_law_sip" ["_law_cup_here", "_law_top"] (spZ T f__law_sip)) (d : DefAt K mg "_law_of" (top 64)) : FA P w K mg base 2 "_law_of" ["_law_cup_here", "_law_things"] (spZ T f__law_of) :=
  fz_of (xb := x__law_of) d sc__law_of rfl rfl (fun _ _ _ _ _ _ us hl => match us, hl with | [_, _], _ => rfl) fun f cdv A outer s H E hr =>
    xss_one (xs_ret (e_ix (xe_var 1) (xe_z c__law_sip hr (by decide) rfl (xa_cons (xe_var 0) (xa_cons (c_len B rfl (xa_cons (xe_var 1) (xa_nil))) (xa_nil))))))
/-! ### _law_spin -/
theorem sc__law_spin : FnScope ["_law_cup_here", "_law_many_here", "_law_lap", "_law_left", "_law_found"] ["_law_cup_here", "_law_many_here"] (defScope (top 65)) := ⟨rfl, rfl, rfl, by decide +kernel, rfl, by decide +kernel, by decide +kernel⟩
def x__law_spin : XS := xSeq (xPar 3 4 (xaCons (xRgL1 (xVar 1)) (xaCons (xLst (xaNil)) (xaNil)))) (xSeq (xFor 130 (xiRg1 (xaCons (xVar 1) (xaNil))) (xgName 2) (xDrop (xMt gAppend (xVar 4) (xaCons (xMt gPopAt (xVar 3) (xaCons (xCallZ f__law_sip (xaCons (xVar 0) (xaCons (xFn gLen (xaCons (xVar 3) (xaNil))) (xaNil)))) (xaNil))) (xaNil))))) (xRet (xFn gTuple (xaCons (xVar 4) (xaNil)))))
def f__law_spin : Cs → List D → Option (D × Cs) := fnZ 2 5 x__law_spin
theorem k__law_spin {T : Tb} (B : Blt mg) (c__law_sip : FA P w K mg base 1 "_law_sip" ["_law_cup_here", "_law_top"] (spZ T f__law_sip)) (d : DefAt K mg "_law_spin" (top 65)) : FA P w K mg base 2 "_law_spin" ["_law_cup_here", "_law_many_here"] (spZ T f__law_spin) :=
  fz_of (xb := x__law_spin) d sc__law_spin rfl rfl (fun _ _ _ _ _ _ us hl => match us, hl with | [_, _], _ => rfl) fun f cdv A outer s H E hr =>
    xss_cons (xs_par 3 4 rfl sc__law_spin.nd rfl rfl (by decide) rfl rfl (xa_cons (xe_rgL1 rfl rfl B.list_ rfl B.range_ (xe_var 1)) (xa_cons (xe_lst (xa_nil)) (xa_nil))) (by rfl)) (xss_cons (xs_for (vs := [2]) 130 PassesOwn.never rfl (xi_rg1 rfl B.range_ (xa_cons (xe_var 1) (xa_nil))) (xg_name 2 sc__law_spin.nd rfl (by first | exact .inl rfl | exact .inr rfl) (by decide)) (xss_one (xs_expr (xe_append (xe_var 4) (xa_cons (xe_popAt (xe_var 3) (xa_cons (xe_z c__law_sip hr (by decide) rfl (xa_cons (xe_var 0) (xa_cons (c_len B rfl (xa_cons (xe_var 3) (xa_nil))) (xa_nil)))) (xa_nil))) (xa_nil)))))) (xss_one (xs_ret (c_tuple B rfl (xa_cons (xe_var 4) (xa_nil))))))
end XL
end
section
set_option maxRecDepth 100000
set_option maxHeartbeats 0
/-! XN7: defs of the text, printed by gen.py. -/
namespace XL
open PySem PySem.Spec PyProof.Rows L2
variable {P : Program} {w : World} {K : PySem.W.Frag} {mg : Str → Option Value} {base : Heap}
/-! ### _law_right -/
theorem sc__law_right : FnScope ["_law_cup_here", "_law_one_spin", "_law_two_spin", "_law_made", "_law_number_here", "_law_least", "_law_told_ones", "_law_whole_ones", "_law_ring_here", "_law_near", "_law_far", "_law_many_here", "_law_bar", "_law_every", "_law_some", "_law_spare", "_law_told", "_law_due", "_law_ones", "_law_twos", "_law_lens_here"] ["_law_cup_here"] (defScope (top 75)) := ⟨rfl, rfl, rfl, by decide +kernel, rfl, by decide +kernel, by decide +kernel⟩
def x__law_right : XS := xSeq (xAsg (xOp gAdd (xC (.int 1)) (xCallZ f__law_sip (xaCons (xVar 0) (xaCons (xC (.int 5)) (xaNil))))) (xgName 11)) (xSeq (xAsg (xCall f2_all_kinds (xaCons (xVar 11) (xaNil))) (xgName 13)) (xSeq (xAsg (xTup (xaCons (xCallZ f__law_of (xaCons (xVar 0) (xaCons (xVar 13) (xaNil)))) (xaCons (xCallZ f__law_of (xaCons (xVar 0) (xaCons (xVar 13) (xaNil)))) (xaNil)))) (xgTup2 9 10)) (xSeq (xAsg (xLc 130 (xiSeq (xVar 13)) (xgName 20) (xTru (xCall f2_can (xaCons (xVar 9) (xaCons (xVar 20) (xaNil))))) (xVar 20) [20]) (xgName 14)) (xSeq (xIfS (xTB (xOp gEq (xVar 14) (xLst (xaNil)))) (xRet (xC (.bl false))) (xNext)) (xSeq (xIfS (xTB (xOp gEq (xCallZ f__law_sip (xaCons (xVar 0) (xaCons (xC (.int 2)) (xaNil)))) (xC (.int 0)))) (xAsg (xCallZ f__law_of (xaCons (xVar 0) (xaCons (xVar 14) (xaNil)))) (xgName 10)) (xNext)) (xSeq (xAsg (xFn gTuple (xaCons (xOp gAdd (xRgL (xC (.int 1)) (xVar 11)) (xLst (xaCons (xC (.int 0)) (xaNil)))) (xaNil))) (xgName 8)) (xSeq (xPar3 5 6 7 (xaCons (xVar 11) (xaCons (xC (.int 0)) (xaCons (xC (.int 0)) (xaNil))))) (xSeq (xPar 18 19 (xaCons (xCall g__law_of_kind (xaCons (xVar 9) (xaNil))) (xaCons (xCall g__law_of_kind (xaCons (xVar 10) (xaNil))) (xaNil)))) (xSeq (xFor 130 (xiSeq (xVar 18)) (xgName 1) (xFor 130 (xiSeq (xVar 19)) (xgName 2) (xSeq (xAsg (xCall g__law_behind (xaCons (xVar 1) (xaCons (xVar 2) (xaNil)))) (xgName 3)) (xSeq (xAsg (xFn gLen (xaCons (xCall g__law_loops (xaCons (xVar 3) (xaNil))) (xaNil))) (xgName 4)) (xSeq (xAsg (xFn gMin2 (xaCons (xVar 5) (xaCons (xVar 4) (xaNil)))) (xgName 5)) (xSeq (xAsg (xOp gAdd (xVar 6) (xFn gInt (xaCons (xOp gEq (xVar 3) (xVar 8)) (xaNil)))) (xgName 6)) (xAsg (xOp gAdd (xVar 7) (xFn gInt (xaCons (xOp gEq (xVar 4) (xC (.int 1))) (xaNil)))) (xgName 7)))))))) (xSeq (xAsg (xOp gSub (xOp gSub (xOp gAdd (xVar 11) (xC (.int 1))) (xFn gLen (xaCons (xVar 9) (xaNil)))) (xFn gLen (xaCons (xVar 10) (xaNil)))) (xgName 15)) (xSeq (xAsg (xIf (xTB (xOp gGt (xVar 7) (xC (.int 0)))) (xC .non) (xIf (xTB (xOp gEq (xOp gMod (xFn gInt (xaCons (xVar 15) (xaNil))) (xC (.int 2))) (xC (.int 1)))) (xC (.str "sign")) (xC (.str "rings")))) (xgName 12)) (xSeq (xAsg (xLst (xaCons (xCall f2_can (xaCons (xVar 9) (xaCons (xVar 10) (xaNil)))) (xaCons (xKw2 f2_can (xaCons (xVar 10) (xaCons (xVar 9) xaNil))) (xaCons (xCall f2_bars (xaCons (xVar 9) (xaCons (xVar 10) (xaNil)))) (xaCons (xKw2 f2_bars (xaCons (xVar 10) (xaCons (xVar 9) xaNil))) (xaNil)))))) (xgName 16)) (xSeq (xIfS (xTB (xOp gNe (xFn gReprP (xaCons (xVar 16) (xaNil))) (xFn gReprP (xaCons (xOp gAdd (xOp gRep (xLst (xaCons (xOp gGt (xVar 7) (xC (.int 0))) (xaNil))) (xC (.int 2))) (xOp gRep (xLst (xaCons (xVar 12) (xaNil))) (xC (.int 2)))) (xaNil))))) (xRet (xC (.bl false))) (xNext)) (xSeq (xAsg (xLst (xaCons (xCall f2_fewest_rings (xaCons (xVar 9) (xaCons (xVar 10) (xaNil)))) (xaCons (xKw2 f2_fewest_rings (xaCons (xVar 9) (xaCons (xVar 10) xaNil))) (xaCons (xCall f2_how_many_joins (xaCons (xVar 9) (xaCons (xVar 10) (xaNil)))) (xaNil))))) (xgName 16)) (xSeq (xDrop (xMt gAppend (xVar 16) (xaCons (xKw2 f2_how_many_joins (xaCons (xVar 9) (xaCons (xVar 10) xaNil))) (xaNil)))) (xSeq (xIfS (xTB (xOp gNe (xFn gReprP (xaCons (xVar 16) (xaNil))) (xFn gReprP (xaCons (xLst (xaCons (xVar 5) (xaCons (xVar 5) (xaCons (xVar 6) (xaCons (xVar 6) (xaNil)))))) (xaNil))))) (xRet (xC (.bl false))) (xNext)) (xSeq (xAsg (xCall f__law_ratio (xaCons (xVar 7) (xaCons (xOp gMul (xCall f2_how_many_turns (xaCons (xVar 9) (xaNil))) (xCall f2_how_many_turns (xaCons (xVar 10) (xaNil)))) (xaNil)))) (xgName 17)) (xSeq (xIfS (xOrT (xTB (xOp gNe (xCall f2_share (xaCons (xVar 9) (xaCons (xVar 10) (xaNil)))) (xVar 17))) (xTB (xOp gNe (xKw2 f2_share (xaCons (xVar 10) (xaCons (xVar 9) xaNil))) (xVar 17)))) (xRet (xC (.bl false))) (xNext)) (xSeq (xAsg (xIf (xTB (xOp gEq (xVar 15) (xC (.int 0)))) (xTup (xaCons (xC (.str "gave")) (xaCons (xVar 6) (xaNil)))) (xTup (xaCons (xC (.str "barred")) (xaCons (xFn gReprS (xaCons (xIf (xTB (xOp gIsN (xVar 12) (xC .non))) (xC (.str "handles")) (xVar 12)) (xaNil))) (xaNil))))) (xgName 17)) (xSeq (xIfS (xTB (xOp gNe (xLam f2_plane_joins (xaCons (xVar 9) (xaCons (xVar 10) (xaNil)))) (xVar 17))) (xRet (xC (.bl false))) (xNext)) (xRet (xAndV (xCall f__law_made_right (xaCons (xVar 9) (xaCons (xVar 10) (xaCons (xVar 12) (xaNil))))) (xCall f__law_completed_right (xaCons (xCallZ f__law_spin (xaCons (xVar 0) (xaCons (xVar 11) (xaNil)))) (xaCons (xVar 10) (xaNil))))))))))))))))))))))))))
def f__law_right : Cs → List D → Option (D × Cs) := fnZ 1 21 x__law_right
theorem k__law_right {T : Tb} (B : Blt mg) {C c PT : Addr} (bar : BarAt K mg C) (Dc : DefAt K mg "_law_caught" (top 70)) (tab : TbAt base mg T c PT "_law_right.<locals>.<lambda>") (c__law_made_right : FA P w K mg base 9 "_law_made_right" ["_law_near", "_law_far", "_law_bar"] (spL T f__law_made_right)) (c__law_completed_right : FA P w K mg base 10 "_law_completed_right" ["_law_spin_here", "_law_far"] (spL T f__law_completed_right)) (c__law_spin : FA P w K mg base 2 "_law_spin" ["_law_cup_here", "_law_many_here"] (spZ T f__law_spin)) (c_plane_joins : FR P w K mg base 5 "plane_joins" ["one", "other"] (spR C f2_plane_joins)) (c_share : FA P w K mg base 5 "share" ["one", "other"] (spC f2_share)) (c__law_ratio : FA P w K mg base 1 "_law_ratio" ["_law_top", "_law_bottom"] (spC f__law_ratio)) (c_how_many_turns : FA P w K mg base 4 "how_many_turns" ["kind"] (spC f2_how_many_turns)) (c_how_many_joins : FA P w K mg base 5 "how_many_joins" ["one", "other"] (spC f2_how_many_joins)) (c_fewest_rings : FA P w K mg base 5 "fewest_rings" ["one", "other"] (spC f2_fewest_rings)) (c_bars : FA P w K mg base 5 "bars" ["one", "other"] (spC f2_bars)) (c_can : FA P w K mg base 5 "can" ["one", "other"] (spC f2_can)) (c__law_loops : FA P w K mg base 1 "_law_loops" ["_law_spin_here"] (spC g__law_loops)) (c__law_behind : FA P w K mg base 1 "_law_behind" ["_law_near", "_law_far"] (spC g__law_behind)) (c__law_of_kind : FA P w K mg base 3 "_law_of_kind" ["_law_lens_here"] (spC g__law_of_kind)) (c__law_sip : FA P w K mg base 1 "_law_sip" ["_law_cup_here", "_law_top"] (spZ T f__law_sip)) (c__law_of : FA P w K mg base 2 "_law_of" ["_law_cup_here", "_law_things"] (spZ T f__law_of)) (c_all_kinds : FA P w K mg base 8 "all_kinds" ["size"] (spC f2_all_kinds)) (Df_bars : DefAt K mg "bars" (top 51)) (Df_can : DefAt K mg "can" (top 50)) (Df_fewest_rings : DefAt K mg "fewest_rings" (top 54)) (Df_how_many_joins : DefAt K mg "how_many_joins" (top 58)) (Df_plane_joins : DefAt K mg "plane_joins" (top 60)) (Df_share : DefAt K mg "share" (top 59)) (d : DefL K mg "_law_right" (top 75) c) : FG P w K mg base 11 "_law_right" ["_law_cup_here"] (spZ T f__law_right) :=
  fg_ofL (xb := x__law_right) d sc__law_right rfl rfl (fun _ _ _ _ _ _ us hl => match us, hl with | [_], _ => rfl) fun f A outer s H E hr hG =>
    xss_cons (xs_set 11 sc__law_right.nd rfl (by first | exact .inl rfl | exact .inr rfl) (e_add (xe_int) (xe_z c__law_sip hr (by decide) rfl (xa_cons (xe_var 0) (xa_cons (xe_int) (xa_nil)))))) (xss_cons (xs_set 13 sc__law_right.nd rfl (by first | exact .inl rfl | exact .inr rfl) (xe_c c_all_kinds hr (by decide) rfl (xa_cons (xe_var 11) (xa_nil)))) (xss_cons (xs_asg (vs := [9, 10]) (xe_tup (xa_cons (xe_z c__law_of hr (by decide) rfl (xa_cons (xe_var 0) (xa_cons (xe_var 13) (xa_nil)))) (xa_cons (xe_z c__law_of hr (by decide) rfl (xa_cons (xe_var 0) (xa_cons (xe_var 13) (xa_nil)))) (xa_nil)))) (xg_tup2 9 10 rfl sc__law_right.nd rfl rfl (by first | exact .inl rfl | exact .inr rfl) (by first | exact .inl rfl | exact .inr rfl) (by decide) (by decide))) (xss_cons (xs_setLc (own := [("_law_lens_here", 20)]) 14 130 rfl sc__law_right.nd rfl rfl (by rfl) (xi_seq (xe_var 13)) (blkOk_by (by rfl)) (fun _ _ _ _ _ => xg_name 20 sc__law_right.nd rfl (by first | exact .inl rfl | exact .inr rfl) (by decide)) (fun _ _ _ _ _ => xts_one (xt_tru (xe_c c_can hr (by decide) rfl (xa_cons (xe_var 9) (xa_cons (xe_var 20) (xa_nil)))))) (fun _ _ _ _ _ => xe_var 20)) (xss_cons (xs_if (t_eq hr (xe_var 14) (xe_lst (xa_nil))) (xss_one (xs_ret (xe_bl))) (xss_nil)) (xss_cons (xs_if (t_eq hr (xe_z c__law_sip hr (by decide) rfl (xa_cons (xe_var 0) (xa_cons (xe_int) (xa_nil)))) (xe_int)) (xss_one (xs_set 10 sc__law_right.nd rfl (by first | exact .inl rfl | exact .inr rfl) (xe_z c__law_of hr (by decide) rfl (xa_cons (xe_var 0) (xa_cons (xe_var 14) (xa_nil)))))) (xss_nil)) (xss_cons (xs_set 8 sc__law_right.nd rfl (by first | exact .inl rfl | exact .inr rfl) (c_tuple B rfl (xa_cons (e_add (xe_rgL2 rfl rfl B.list_ rfl B.range_ (xe_int) (xe_var 11)) (xe_lst (xa_cons (xe_int) (xa_nil)))) (xa_nil)))) (xss_cons (xs_par3 5 6 7 rfl sc__law_right.nd rfl rfl rfl (by decide) (by decide) (by decide) rfl rfl rfl (xa_cons (xe_var 11) (xa_cons (xe_int) (xa_cons (xe_int) (xa_nil)))) (by rfl)) (xss_cons (xs_par 18 19 rfl sc__law_right.nd rfl rfl (by decide) rfl rfl (xa_cons (xe_c c__law_of_kind hr (by decide) rfl (xa_cons (xe_var 9) (xa_nil))) (xa_cons (xe_c c__law_of_kind hr (by decide) rfl (xa_cons (xe_var 10) (xa_nil))) (xa_nil))) (by rfl)) (xss_cons (xs_for (vs := [1]) 130 PassesOwn.never rfl (xi_seq (xe_var 18)) (xg_name 1 sc__law_right.nd rfl (by first | exact .inl rfl | exact .inr rfl) (by decide)) (xss_one (xs_for (vs := [2]) 130 PassesOwn.never rfl (xi_seq (xe_var 19)) (xg_name 2 sc__law_right.nd rfl (by first | exact .inl rfl | exact .inr rfl) (by decide)) (xss_cons (xs_set 3 sc__law_right.nd rfl (by first | exact .inl rfl | exact .inr rfl) (xe_c c__law_behind hr (by decide) rfl (xa_cons (xe_var 1) (xa_cons (xe_var 2) (xa_nil))))) (xss_cons (xs_set 4 sc__law_right.nd rfl (by first | exact .inl rfl | exact .inr rfl) (c_len B rfl (xa_cons (xe_c c__law_loops hr (by decide) rfl (xa_cons (xe_var 3) (xa_nil))) (xa_nil)))) (xss_cons (xs_set 5 sc__law_right.nd rfl (by first | exact .inl rfl | exact .inr rfl) (c_min2 rfl B rfl (xa_cons (xe_var 5) (xa_cons (xe_var 4) (xa_nil))))) (xss_cons (xs_set 6 sc__law_right.nd rfl (by first | exact .inl rfl | exact .inr rfl) (e_add (xe_var 6) (c_int B rfl (xa_cons (e_eq hr (xe_var 3) (xe_var 8)) (xa_nil))))) (xss_one (xs_set 7 sc__law_right.nd rfl (by first | exact .inl rfl | exact .inr rfl) (e_add (xe_var 7) (c_int B rfl (xa_cons (e_eq hr (xe_var 4) (xe_int)) (xa_nil))))))))))))) (xss_cons (xs_set 15 sc__law_right.nd rfl (by first | exact .inl rfl | exact .inr rfl) (e_sub (e_sub (e_add (xe_var 11) (xe_int)) (c_len B rfl (xa_cons (xe_var 9) (xa_nil)))) (c_len B rfl (xa_cons (xe_var 10) (xa_nil))))) (xss_cons (xs_set 12 sc__law_right.nd rfl (by first | exact .inl rfl | exact .inr rfl) (xe_if (t_gt (xe_var 7) (xe_int)) (xe_non) (xe_if (t_eq hr (e_mod (c_int B rfl (xa_cons (xe_var 15) (xa_nil))) (xe_int)) (xe_int)) (xe_str) (xe_str)))) (xss_cons (xs_set 16 sc__law_right.nd rfl (by first | exact .inl rfl | exact .inr rfl) (xe_lst (xa_cons (xe_c c_can hr (by decide) rfl (xa_cons (xe_var 9) (xa_cons (xe_var 10) (xa_nil)))) (xa_cons (xe_kw2 c_can Df_can hr (by decide) rfl (fun _ _ _ _ _ _ _ _ => rfl) (xk_cons (xe_var 10) (xk_cons (xe_var 9) xk_nil))) (xa_cons (xe_c c_bars hr (by decide) rfl (xa_cons (xe_var 9) (xa_cons (xe_var 10) (xa_nil)))) (xa_cons (xe_kw2 c_bars Df_bars hr (by decide) rfl (fun _ _ _ _ _ _ _ _ => rfl) (xk_cons (xe_var 10) (xk_cons (xe_var 9) xk_nil))) (xa_nil))))))) (xss_cons (xs_if (t_ne hr (c_reprP hr hG B rfl (xa_cons (xe_var 16) (xa_nil))) (c_reprP hr hG B rfl (xa_cons (e_add (e_rep (xe_lst (xa_cons (e_gt (xe_var 7) (xe_int)) (xa_nil))) (xe_int)) (e_rep (xe_lst (xa_cons (xe_var 12) (xa_nil))) (xe_int))) (xa_nil)))) (xss_one (xs_ret (xe_bl))) (xss_nil)) (xss_cons (xs_set 16 sc__law_right.nd rfl (by first | exact .inl rfl | exact .inr rfl) (xe_lst (xa_cons (xe_c c_fewest_rings hr (by decide) rfl (xa_cons (xe_var 9) (xa_cons (xe_var 10) (xa_nil)))) (xa_cons (xe_kw2 c_fewest_rings Df_fewest_rings hr (by decide) rfl (fun _ _ _ _ _ _ _ _ => rfl) (xk_cons (xe_var 9) (xk_cons (xe_var 10) xk_nil))) (xa_cons (xe_c c_how_many_joins hr (by decide) rfl (xa_cons (xe_var 9) (xa_cons (xe_var 10) (xa_nil)))) (xa_nil)))))) (xss_cons (xs_expr (xe_append (xe_var 16) (xa_cons (xe_kw2 c_how_many_joins Df_how_many_joins hr (by decide) rfl (fun _ _ _ _ _ _ _ _ => rfl) (xk_cons (xe_var 9) (xk_cons (xe_var 10) xk_nil))) (xa_nil)))) (xss_cons (xs_if (t_ne hr (c_reprP hr hG B rfl (xa_cons (xe_var 16) (xa_nil))) (c_reprP hr hG B rfl (xa_cons (xe_lst (xa_cons (xe_var 5) (xa_cons (xe_var 5) (xa_cons (xe_var 6) (xa_cons (xe_var 6) (xa_nil)))))) (xa_nil)))) (xss_one (xs_ret (xe_bl))) (xss_nil)) (xss_cons (xs_set 17 sc__law_right.nd rfl (by first | exact .inl rfl | exact .inr rfl) (xe_c c__law_ratio hr (by decide) rfl (xa_cons (xe_var 7) (xa_cons (e_mul (xe_c c_how_many_turns hr (by decide) rfl (xa_cons (xe_var 9) (xa_nil))) (xe_c c_how_many_turns hr (by decide) rfl (xa_cons (xe_var 10) (xa_nil)))) (xa_nil))))) (xss_cons (xs_if (PW.pt (xw_or (t_ne hr (xe_c c_share hr (by decide) rfl (xa_cons (xe_var 9) (xa_cons (xe_var 10) (xa_nil)))) (xe_var 17)) (xw_or1 (t_ne hr (xe_kw2 c_share Df_share hr (by decide) rfl (fun _ _ _ _ _ _ _ _ => rfl) (xk_cons (xe_var 10) (xk_cons (xe_var 9) xk_nil))) (xe_var 17))))) (xss_one (xs_ret (xe_bl))) (xss_nil)) (xss_cons (xs_set 17 sc__law_right.nd rfl (by first | exact .inl rfl | exact .inr rfl) (xe_if (t_eq hr (xe_var 15) (xe_int)) (xe_tup (xa_cons (xe_str) (xa_cons (xe_var 6) (xa_nil)))) (xe_tup (xa_cons (xe_str) (xa_cons (c_reprS B rfl (xa_cons (xe_if (t_isN (xe_var 12) (xe_non)) (xe_str) (xe_var 12)) (xa_nil))) (xa_nil)))))) (xss_cons (xs_if (t_ne hr (xe_lam (j := 5) B bar Dc tab rfl rfl c_plane_joins (hr.mono (by decide)) (by decide) rfl (LamX.lamS_by (by rfl)) rfl (fun _ _ _ _ _ => rfl) rfl rfl (fun _ _ _ _ _ _ _ => xa_cons (xe_var 9) (xa_cons (xe_var 10) (xa_nil))) (fun _ _ _ _ _ _ _ => rfl) (fun _ _ _ _ _ _ _ => rfl)) (xe_var 17)) (xss_one (xs_ret (xe_bl))) (xss_nil)) (xss_one (xs_ret (xe_and (xe_l c__law_made_right tab.ne hr (by decide) rfl (xa_cons (xe_var 9) (xa_cons (xe_var 10) (xa_cons (xe_var 12) (xa_nil))))) (xe_one (xe_l c__law_completed_right tab.ne hr (by decide) rfl (xa_cons (xe_z c__law_spin hr (by decide) rfl (xa_cons (xe_var 0) (xa_cons (xe_var 11) (xa_nil)))) (xa_cons (xe_var 10) (xa_nil))))))))))))))))))))))))))))
end XL
end
section
set_option maxRecDepth 100000
set_option maxHeartbeats 4000000
/-! XL1: what is drawn. -/
namespace XL
open PySem PySem.Spec PyProof.Rows L2
def Cup (a b : Int) : Prop := 0 ≤ a ∧ 0 ≤ b ∧ b < 2147483137
def cupC (a b c : Int) : Cell := .lst [.int a, .int b, .int c]
theorem okF_of {b : Int} (h : 0 ≤ b) (h2 : b < 2147483137) : okF b = true := by
  cases b with
  | ofNat n =>
    have : (n : Int) < 2147483137 := h2
    exact Nat.ble_eq_true_of_le (by omega)
  | negSucc n => omega
theorem posI_of {b : Int} (h : 0 < b) (h2 : b < 1000000000) : posI b = true := by
  cases b with
  | ofNat n =>
    have h1 : (0 : Int) < (n : Int) := h
    have h3 : (n : Int) < 1000000000 := h2
    show (Nat.blt 0 n && Nat.blt n 1000000000) = true
    rw [Bool.and_eq_true_iff]
    exact ⟨Nat.ble_eq_true_of_le (by omega), Nat.ble_eq_true_of_le (by omega)⟩
  | negSucc n => omega
theorem sip_ok {a b : Int} (h : Cup a b) (c : Int) (rest : Cs) {top : Int} (h1 : 0 < top) (h2 : top < 1000) :
    ∃ d a' b' c', Cup a' b' ∧ 0 ≤ d ∧ d < top ∧ f__law_sip (cupC a b c :: rest) [.ref 0, .int top] = some (.int d, cupC a' b' c' :: rest) := by
  have hb : okF b = true := okF_of h.2.1 h.2.2
  have hp : posI top = true := posI_of h1 (by omega)
  have q1 : posI 25013 = true := by decide
  have q2 : posB 2147483137 = true := by decide
  have q3 : posI 149 = true := by decide
  have q4 : okF 61027 = true := by decide
  have i0 : ixD 3 0 = some 0 := by rfl
  have i1 : ixD 3 1 = some 1 := by rfl
  have i2 : ixD 3 2 = some 2 := by rfl
  by_cases ha : 0 < a
  · refine ⟨a % top, a / top, (b * (b % 25013 + 18013) + 61027 * (c + 1) + 83) % 2147483137, c + 1, ⟨Int.ediv_nonneg h.1 (by omega), Int.emod_nonneg _ (by omega), Int.emod_lt_of_pos _ (by omega)⟩, Int.emod_nonneg _ (by omega), Int.emod_lt_of_pos _ h1, ?_⟩
    have hd : decide (0 < a) = true := decide_eq_true ha
    simp [f__law_sip, fnZ, x__law_sip, cupC, xSeq, xLSet, xAsg, xFn, xaCons, xaNil, xOp, xVar, xC, bnd, gIx, gAdd, gInt, gMul, gMod, gModB, gDiv, gGt, gI, xIfS, xTB, xDivSet, xRet, xNext, xgName, putLst, lstAt, seqD, nth, setN, hb, hp, q1, q2, q3, q4, hd, i0, i1, i2, ha]
  · refine ⟨((b * (b % 25013 + 18013) + 61027 * (c + 1) + 83) % 2147483137 / 149) % top, a, (b * (b % 25013 + 18013) + 61027 * (c + 1) + 83) % 2147483137, c + 1, ⟨h.1, Int.emod_nonneg _ (by omega), Int.emod_lt_of_pos _ (by omega)⟩, Int.emod_nonneg _ (by omega), Int.emod_lt_of_pos _ h1, ?_⟩
    have hd : decide (0 < a) = false := decide_eq_false ha
    simp [f__law_sip, fnZ, x__law_sip, cupC, xSeq, xLSet, xAsg, xFn, xaCons, xaNil, xOp, xVar, xC, bnd, gIx, gAdd, gInt, gMul, gMod, gModB, gDiv, gGt, gI, xIfS, xTB, xDivSet, xRet, xNext, xgName, putLst, lstAt, seqD, nth, setN, hb, hp, q1, q2, q3, q4, hd, i0, i1, i2, ha]
end XL
end
section
set_option maxRecDepth 100000
set_option maxHeartbeats 4000000
/-! XL2: a thing drawn, a turn drawn. -/
namespace XL
open PySem PySem.Spec PyProof.Rows L2
theorem nth_mem {α : Type} : ∀ (l : List α) (j : Nat) (x : α), nth l j = some x → x ∈ l
  | [], _, _, h => by cases h
  | a :: l, 0, x, h => by cases h; exact List.mem_cons_self
  | a :: l, j + 1, x, h => List.mem_cons_of_mem _ (nth_mem l j x h)
theorem ix_of {ds : List D} {d : Int} (h1 : 0 ≤ d) (h2 : d < (ds.length : Int)) : ∃ j x, ixD ds.length d = some j ∧ nth ds j = some x := by
  cases d with
  | ofNat n =>
    have h3 : (n : Int) < (ds.length : Int) := h2
    have h4 : n < ds.length := by omega
    refine ⟨n, ds[n], ?_, by rw [nth_eq]; exact List.getElem?_eq_getElem h4⟩
    show (match Nat.blt n ds.length with
      | true => some n
      | false => none) = some n
    rw [show Nat.blt n ds.length = true from Nat.ble_eq_true_of_le h4]
  | negSucc n => omega
theorem of_ok {a b : Int} (h : Cup a b) (c : Int) (rest : Cs) {x : D} {bb : Bool} {ds : List D} (hs : ∀ a b c, seqD (cupC a b c :: rest) x = some (bb, ds)) (h1 : 0 < ds.length) (h2 : ds.length < 1000) :
    ∃ d a' b' c', Cup a' b' ∧ d ∈ ds ∧ f__law_of (cupC a b c :: rest) [.ref 0, x] = some (d, cupC a' b' c' :: rest) := by
  obtain ⟨d, a', b', c', hc, d1, d2, e⟩ := sip_ok h c rest (top := (ds.length : Int)) (by omega) (by omega)
  obtain ⟨j, y, e1, e2⟩ := ix_of d1 d2
  refine ⟨y, a', b', c', hc, nth_mem _ _ _ e2, ?_⟩
  simp [f__law_of, fnZ, x__law_of, xRet, xOp, xVar, xCallZ, xFn, xaCons, xaNil, bnd, nth, gLen, hs, e, gIx, e1, e2]
theorem nthA (u : Cell) (rest : Cs) (A B : Cell) : nth (u :: (rest ++ [A, B])) (rest.length + 1) = some A := by
  rw [nth_eq]
  simp
theorem nthB (u : Cell) (rest : Cs) (A B : Cell) : nth (u :: (rest ++ [A, B])) (rest.length + 2) = some B := by
  rw [nth_eq]
  simp
theorem nthA' (rest : Cs) (A B : Cell) : nth (rest ++ [A, B]) rest.length = some A := by
  rw [nth_eq]
  simp
theorem nthB' (rest : Cs) (A B : Cell) : nth (rest ++ [A, B]) (rest.length + 1) = some B := by
  rw [nth_eq]
  simp
theorem setA (u : Cell) (rest : Cs) (A B A' : Cell) : setN (u :: (rest ++ [A, B])) (rest.length + 1) A' = u :: (rest ++ [A', B]) := by
  rw [setN_eq]
  simp
theorem setB (u : Cell) (rest : Cs) (A B A' : Cell) : setN (u :: (rest ++ [A, B])) (rest.length + 2) A' = u :: (rest ++ [A, A']) := by
  rw [setN_eq]
  simp
def lapS : XS := xDrop (xMt gAppend (xVar 4) (xaCons (xMt gPopAt (xVar 3) (xaCons (xCallZ f__law_sip (xaCons (xVar 0) (xaCons (xFn gLen (xaCons (xVar 3) (xaNil))) (xaNil)))) (xaNil))) (xaNil)))
theorem lap_ok {a b : Int} (h : Cup a b) (c : Int) (rest : Cs) (left found : List D) (u v : Option D) (h1 : 0 < left.length) (h2 : left.length < 1000) (h3 : found.length < 1000) :
    ∃ j x a' b' c', Cup a' b' ∧ nth left j = some x ∧ lapS [some (.ref 0), u, v, some (.ref (rest.length + 1)), some (.ref (rest.length + 2))] (cupC a b c :: (rest ++ [.lst left, .lst found])) =
      some (.nx [some (.ref 0), u, v, some (.ref (rest.length + 1)), some (.ref (rest.length + 2))] (cupC a' b' c' :: (rest ++ [.lst (left.eraseIdx j), .lst (found ++ [x])]))) := by
  obtain ⟨d, a', b', c', hc, d1, d2, e⟩ := sip_ok h c (rest ++ [.lst left, .lst found]) (top := (left.length : Int)) (by omega) (by omega)
  obtain ⟨j, y, e1, e2⟩ := ix_of d1 d2
  have s1 : smallR left.length = true := by
    unfold smallR
    exact Nat.ble_eq_true_of_le (by omega)
  have s2 : Nat.blt found.length 4096 = true := Nat.ble_eq_true_of_le (by omega)
  refine ⟨j, y, a', b', c', hc, e2, ?_⟩
  simp [lapS, xDrop, xMt, xVar, xCallZ, xFn, xaCons, xaNil, bnd, nth, gLen, seqD, lstAt, nthA', nthB', e, gPopAt, gAppend, e1, e2, s1, s2, setA, setB]
/-- what may be picked -/
def picks (left : List D) : Nat → List (D × List D)
  | 0 => []
  | j + 1 => (match nth left j with
    | some x => [(x, left.eraseIdx j)]
    | none => []) ++ picks left j
/-- what n laps may find -/
def spins : Nat → List D → List D → List (List D)
  | 0, _, found => [found]
  | n + 1, left, found => (picks left left.length).flatMap fun q => spins n q.2 (found ++ [q.1])
end XL
end
section
set_option maxRecDepth 100000
set_option maxHeartbeats 4000000
/-! XL3: _law_right, statement by statement; printed by gen_l3.py. -/
namespace XL
open PySem PySem.Spec PyProof.Rows L2
theorem xSeq_assoc (a b c : XS) : xSeq (xSeq a b) c = xSeq a (xSeq b c) := by
  funext sl cs
  show (match xSeq a b sl cs with
    | some (.nx s d) => c s d
    | o => o) = (match a sl cs with
    | some (.nx s d) => xSeq b c s d
    | o => o)
  unfold xSeq
  cases a sl cs with
  | none => rfl
  | some x => cases x <;> rfl
def r0 : XS := xAsg (xOp gAdd (xC (.int 1)) (xCallZ f__law_sip (xaCons (xVar 0) (xaCons (xC (.int 5)) (xaNil))))) (xgName 11)
def r1 : XS := xAsg (xCall f2_all_kinds (xaCons (xVar 11) (xaNil))) (xgName 13)
def r2 : XS := xAsg (xTup (xaCons (xCallZ f__law_of (xaCons (xVar 0) (xaCons (xVar 13) (xaNil)))) (xaCons (xCallZ f__law_of (xaCons (xVar 0) (xaCons (xVar 13) (xaNil)))) (xaNil)))) (xgTup2 9 10)
def r3 : XS := xAsg (xLc 130 (xiSeq (xVar 13)) (xgName 20) (xTru (xCall f2_can (xaCons (xVar 9) (xaCons (xVar 20) (xaNil))))) (xVar 20) [20]) (xgName 14)
def r4 : XS := xIfS (xTB (xOp gEq (xVar 14) (xLst (xaNil)))) (xRet (xC (.bl false))) (xNext)
def r5 : XS := xIfS (xTB (xOp gEq (xCallZ f__law_sip (xaCons (xVar 0) (xaCons (xC (.int 2)) (xaNil)))) (xC (.int 0)))) (xAsg (xCallZ f__law_of (xaCons (xVar 0) (xaCons (xVar 14) (xaNil)))) (xgName 10)) (xNext)
def r6 : XS := xAsg (xFn gTuple (xaCons (xOp gAdd (xRgL (xC (.int 1)) (xVar 11)) (xLst (xaCons (xC (.int 0)) (xaNil)))) (xaNil))) (xgName 8)
def r7 : XS := xPar3 5 6 7 (xaCons (xVar 11) (xaCons (xC (.int 0)) (xaCons (xC (.int 0)) (xaNil))))
def r8 : XS := xPar 18 19 (xaCons (xCall g__law_of_kind (xaCons (xVar 9) (xaNil))) (xaCons (xCall g__law_of_kind (xaCons (xVar 10) (xaNil))) (xaNil)))
def r9 : XS := xFor 130 (xiSeq (xVar 18)) (xgName 1) (xFor 130 (xiSeq (xVar 19)) (xgName 2) (xSeq (xAsg (xCall g__law_behind (xaCons (xVar 1) (xaCons (xVar 2) (xaNil)))) (xgName 3)) (xSeq (xAsg (xFn gLen (xaCons (xCall g__law_loops (xaCons (xVar 3) (xaNil))) (xaNil))) (xgName 4)) (xSeq (xAsg (xFn gMin2 (xaCons (xVar 5) (xaCons (xVar 4) (xaNil)))) (xgName 5)) (xSeq (xAsg (xOp gAdd (xVar 6) (xFn gInt (xaCons (xOp gEq (xVar 3) (xVar 8)) (xaNil)))) (xgName 6)) (xAsg (xOp gAdd (xVar 7) (xFn gInt (xaCons (xOp gEq (xVar 4) (xC (.int 1))) (xaNil)))) (xgName 7)))))))
def r10 : XS := xAsg (xOp gSub (xOp gSub (xOp gAdd (xVar 11) (xC (.int 1))) (xFn gLen (xaCons (xVar 9) (xaNil)))) (xFn gLen (xaCons (xVar 10) (xaNil)))) (xgName 15)
def r11 : XS := xAsg (xIf (xTB (xOp gGt (xVar 7) (xC (.int 0)))) (xC .non) (xIf (xTB (xOp gEq (xOp gMod (xFn gInt (xaCons (xVar 15) (xaNil))) (xC (.int 2))) (xC (.int 1)))) (xC (.str "sign")) (xC (.str "rings")))) (xgName 12)
def r12 : XS := xAsg (xLst (xaCons (xCall f2_can (xaCons (xVar 9) (xaCons (xVar 10) (xaNil)))) (xaCons (xKw2 f2_can (xaCons (xVar 10) (xaCons (xVar 9) xaNil))) (xaCons (xCall f2_bars (xaCons (xVar 9) (xaCons (xVar 10) (xaNil)))) (xaCons (xKw2 f2_bars (xaCons (xVar 10) (xaCons (xVar 9) xaNil))) (xaNil)))))) (xgName 16)
def r13 : XS := xIfS (xTB (xOp gNe (xFn gReprP (xaCons (xVar 16) (xaNil))) (xFn gReprP (xaCons (xOp gAdd (xOp gRep (xLst (xaCons (xOp gGt (xVar 7) (xC (.int 0))) (xaNil))) (xC (.int 2))) (xOp gRep (xLst (xaCons (xVar 12) (xaNil))) (xC (.int 2)))) (xaNil))))) (xRet (xC (.bl false))) (xNext)
def r14 : XS := xAsg (xLst (xaCons (xCall f2_fewest_rings (xaCons (xVar 9) (xaCons (xVar 10) (xaNil)))) (xaCons (xKw2 f2_fewest_rings (xaCons (xVar 9) (xaCons (xVar 10) xaNil))) (xaCons (xCall f2_how_many_joins (xaCons (xVar 9) (xaCons (xVar 10) (xaNil)))) (xaNil))))) (xgName 16)
def r15 : XS := xDrop (xMt gAppend (xVar 16) (xaCons (xKw2 f2_how_many_joins (xaCons (xVar 9) (xaCons (xVar 10) xaNil))) (xaNil)))
def r16 : XS := xIfS (xTB (xOp gNe (xFn gReprP (xaCons (xVar 16) (xaNil))) (xFn gReprP (xaCons (xLst (xaCons (xVar 5) (xaCons (xVar 5) (xaCons (xVar 6) (xaCons (xVar 6) (xaNil)))))) (xaNil))))) (xRet (xC (.bl false))) (xNext)
def r17 : XS := xAsg (xCall f__law_ratio (xaCons (xVar 7) (xaCons (xOp gMul (xCall f2_how_many_turns (xaCons (xVar 9) (xaNil))) (xCall f2_how_many_turns (xaCons (xVar 10) (xaNil)))) (xaNil)))) (xgName 17)
def r18 : XS := xIfS (xOrT (xTB (xOp gNe (xCall f2_share (xaCons (xVar 9) (xaCons (xVar 10) (xaNil)))) (xVar 17))) (xTB (xOp gNe (xKw2 f2_share (xaCons (xVar 10) (xaCons (xVar 9) xaNil))) (xVar 17)))) (xRet (xC (.bl false))) (xNext)
def r19 : XS := xAsg (xIf (xTB (xOp gEq (xVar 15) (xC (.int 0)))) (xTup (xaCons (xC (.str "gave")) (xaCons (xVar 6) (xaNil)))) (xTup (xaCons (xC (.str "barred")) (xaCons (xFn gReprS (xaCons (xIf (xTB (xOp gIsN (xVar 12) (xC .non))) (xC (.str "handles")) (xVar 12)) (xaNil))) (xaNil))))) (xgName 17)
def r20 : XS := xIfS (xTB (xOp gNe (xLam f2_plane_joins (xaCons (xVar 9) (xaCons (xVar 10) (xaNil)))) (xVar 17))) (xRet (xC (.bl false))) (xNext)
def r21 : XS := xRet (xAndV (xCall f__law_made_right (xaCons (xVar 9) (xaCons (xVar 10) (xaCons (xVar 12) (xaNil))))) (xCall f__law_completed_right (xaCons (xCallZ f__law_spin (xaCons (xVar 0) (xaCons (xVar 11) (xaNil)))) (xaCons (xVar 10) (xaNil)))))
theorem right_eq : x__law_right = xSeq r0 (xSeq r1 (xSeq r2 (xSeq r3 (xSeq r4 (xSeq r5 (xSeq r6 (xSeq r7 (xSeq r8 (xSeq r9 (xSeq r10 (xSeq r11 (xSeq r12 (xSeq r13 (xSeq r14 (xSeq r15 (xSeq r16 (xSeq r17 (xSeq r18 (xSeq r19 (xSeq r20 (r21))))))))))))))))))))) := rfl
def mid : XS := xSeq r6 (xSeq r7 (xSeq r8 (xSeq r9 (xSeq r10 (xSeq r11 (xSeq r12 (xSeq r13 (xSeq r14 (xSeq r15 (xSeq r16 (xSeq r17 (xSeq r18 (xSeq r19 (r20))))))))))))))
theorem mid_eq : xSeq r6 (xSeq r7 (xSeq r8 (xSeq r9 (xSeq r10 (xSeq r11 (xSeq r12 (xSeq r13 (xSeq r14 (xSeq r15 (xSeq r16 (xSeq r17 (xSeq r18 (xSeq r19 (xSeq r20 (r21))))))))))))))) = xSeq mid r21 := by
  unfold mid
  simp only [xSeq_assoc]
def someT (n : Int) (near : D) (every : List D) : List D := every.filter fun k => isS (f2_can [near, k]) (.bl true)
def fN (l : List Int) : D := .ftup (l.map .int)
def sl0 (n : Int) (every : List D) (near far : D) : Sl := [some (.ref 0), none, none, none, none, none, none, none, none, some near, some far, some (.int n), none, some (.tup every), some (.ref 1), none, none, none, none, none, none]
def atS (sl : Sl) (i : Nat) (d : D) : Bool := match nth sl i with
  | some (some x) => beqD x d
  | _ => false
def at0 (sl : Sl) : Bool := match nth sl 0 with
  | some (some (.ref 0)) => true
  | _ => false
def outR (n : Int) (near far bar : D) : Option Out → Option (Bool × Cell)
  | some (.nx sl (u :: _)) => some (at0 sl && (atS sl 11 (.int n) && (atS sl 9 near && (atS sl 10 far && atS sl 12 bar))), u)
  | _ => none
def barOf (near far : D) : D := match g_barred_by [near, far] with
  | some d => d
  | none => .ty "x"
def K1 : List D := [fN [1]]
def K2 : List D := [fN [2], fN [1, 1]]
def K3 : List D := [fN [3], fN [2, 1], fN [1, 1, 1]]
def K4 : List D := [fN [4], fN [3, 1], fN [2, 2], fN [2, 1, 1], fN [1, 1, 1, 1]]
def K5 : List D := [fN [5], fN [4, 1], fN [3, 2], fN [3, 1, 1], fN [2, 2, 1], fN [2, 1, 1, 1], fN [1, 1, 1, 1, 1]]
def runM (a b c : Int) (n : Int) (every : List D) (near far : D) : Option (Bool × Cell) := outR n near far (barOf near far) (mid (sl0 n every near far) [cupC a b c, .lst (someT n near every), .lst []])
def okM (n : Int) (every : List D) (near far : D) : Prop := ∀ a b c, runM a b c n every near far = some (true, cupC a b c)
end XL
end
section
set_option maxRecDepth 100000
set_option maxHeartbeats 4000000
/-! XL4: the turn that is drawn. -/
namespace XL
open PySem PySem.Spec PyProof.Rows L2
theorem nth_lt' {α : Type} {l : List α} {i : Nat} {x : α} (h : nth l i = some x) : i < l.length := by
  rw [nth_eq] at h
  exact (List.getElem?_eq_some_iff.mp h).1
theorem rgL_len : ∀ (n : Nat) (lo : Int), (rgL lo n).length = n
  | 0, _ => rfl
  | n + 1, lo => by
    show (rgL (lo + 1) n).length + 1 = n + 1
    rw [rgL_len n]
theorem picks_mem {left : List D} {j : Nat} {x : D} (h : nth left j = some x) : ∀ L, j < L → (x, left.eraseIdx j) ∈ picks left L
  | 0, hj => by omega
  | L + 1, hj => by
    show (x, left.eraseIdx j) ∈ (match nth left L with
      | some x => [(x, left.eraseIdx L)]
      | none => []) ++ picks left L
    rw [List.mem_append]
    by_cases e : j = L
    · subst e
      rw [h]
      exact .inl (List.mem_singleton.mpr rfl)
    · exact .inr (picks_mem h L (by omega))
theorem spin_loop (rest : Cs) (n : Nat) : ∀ (k m i : Nat) (a b c : Int) (u v : Option D) (left found : List D), Cup a b → left.length = k → i + k = n → k < m → found.length + k < 500 →
    ∃ p a' b' c' v' left', Cup a' b' ∧ p ∈ spins k left found ∧ forLoop (rgNx 0 n) (xgName 2) lapS m i [some (.ref 0), u, v, some (.ref (rest.length + 1)), some (.ref (rest.length + 2))] (cupC a b c :: (rest ++ [.lst left, .lst found])) =
      some (.nx [some (.ref 0), u, v', some (.ref (rest.length + 1)), some (.ref (rest.length + 2))] (cupC a' b' c' :: (rest ++ [.lst left', .lst p])))
  | 0, m, i, a, b, c, u, v, left, found, hc, hl, hi, hm, hf => by
    cases m with
    | zero => omega
    | succ m =>
      have hb : Nat.blt i n = false := by
        cases q : Nat.blt i n with
        | false => rfl
        | true =>
          have : i + 1 ≤ n := Nat.le_of_ble_eq_true q
          omega
      refine ⟨found, a, b, c, v, left, hc, by show found ∈ [found]; exact List.mem_singleton.mpr rfl, ?_⟩
      rw [forLoop]
      simp only [rgNx, hb]
  | k + 1, m, i, a, b, c, u, v, left, found, hc, hl, hi, hm, hf => by
    cases m with
    | zero => omega
    | succ m =>
      have hb : Nat.blt i n = true := Nat.ble_eq_true_of_le (by omega)
      obtain ⟨j, x, a1, b1, c1, hc1, hx, e⟩ := lap_ok hc c rest left found u (some (.int (0 + (i : Nat)))) (by omega) (by omega) (by omega)
      have hj := nth_lt' hx
      obtain ⟨p, a2, b2, c2, v2, left2, hc2, hp, e2⟩ := spin_loop rest n k m (i + 1) a1 b1 c1 u (some (.int (0 + (i : Nat)))) (left.eraseIdx j) (found ++ [x]) hc1 (by rw [List.length_eraseIdx_of_lt hj]; omega) (by omega) (by omega) (by simp; omega)
      refine ⟨p, a2, b2, c2, v2, left2, hc2, ?_, ?_⟩
      · show p ∈ (picks left left.length).flatMap fun q => spins k q.2 (found ++ [q.1])
        exact List.mem_flatMap.mpr ⟨_, picks_mem hx _ hj, hp⟩
      · rw [forLoop]
        simp only [rgNx, hb, xgName, setN]
        rw [e]
        exact e2
theorem spin_ok {a b : Int} (h : Cup a b) (c : Int) (rest : Cs) (n : Nat) (hn : n ≤ 5) : ∃ p cs', p ∈ spins n (rgL 0 n) [] ∧ f__law_spin (cupC a b c :: rest) [.ref 0, .int (.ofNat n)] = some (.tup p, cs') := by
  have hr : (rgL 0 n).length = n := rgL_len n 0
  obtain ⟨p, a', b', c', v', left', hc, hp, e⟩ := spin_loop rest n n 130 0 a b c (some (.int (.ofNat n))) none (rgL 0 n) [] h hr (by omega) (by omega) (by simp; omega)
  refine ⟨p, cupC a' b' c' :: (rest ++ [.lst left', .lst p]), hp, ?_⟩
  have ok : okI (.ofNat n) = true := by
    match n, hn with
    | 0, _ => rfl
    | 1, _ => rfl
    | 2, _ => rfl
    | 3, _ => rfl
    | 4, _ => rfl
    | 5, _ => rfl
  have sm : smallR (Int.toNat (.ofNat n)) = true := by
    match n, hn with
    | 0, _ => rfl
    | 1, _ => rfl
    | 2, _ => rfl
    | 3, _ => rfl
    | 4, _ => rfl
    | 5, _ => rfl
  have ok' : okI (n : Int) = true := ok
  have sm' : smallR n = true := sm
  have e1 : xPar 3 4 (xaCons (xRgL1 (xVar 1)) (xaCons (xLst (xaNil)) (xaNil))) [some (.ref 0), some (.int (.ofNat n)), none, none, none] (cupC a b c :: rest) =
      some (.nx [some (.ref 0), some (.int (.ofNat n)), none, some (.ref (rest.length + 1)), some (.ref (rest.length + 2))] (cupC a b c :: (rest ++ [.lst (rgL 0 n), .lst []]))) := by
    simp [xPar, xaCons, xaNil, xRgL1, xVar, xLst, bnd, nth, setN, ok', sm', newL]
  have e2 : xFor 130 (xiRg1 (xaCons (xVar 1) (xaNil))) (xgName 2) lapS [some (.ref 0), some (.int (.ofNat n)), none, some (.ref (rest.length + 1)), some (.ref (rest.length + 2))] (cupC a b c :: (rest ++ [.lst (rgL 0 n), .lst []])) =
      some (.nx [some (.ref 0), some (.int (.ofNat n)), v', some (.ref (rest.length + 1)), some (.ref (rest.length + 2))] (cupC a' b' c' :: (rest ++ [.lst left', .lst p]))) := by
    rw [← e]
    simp [xFor, xiRg1, xaCons, xaNil, xVar, bnd, nth, ok']
  have e3 : x__law_spin [some (.ref 0), some (.int (.ofNat n)), none, none, none] (cupC a b c :: rest) = some (.rt (.tup p) (cupC a' b' c' :: (rest ++ [.lst left', .lst p]))) := by
    show xSeq (xPar 3 4 (xaCons (xRgL1 (xVar 1)) (xaCons (xLst (xaNil)) (xaNil)))) (xSeq (xFor 130 (xiRg1 (xaCons (xVar 1) (xaNil))) (xgName 2) lapS) (xRet (xFn gTuple (xaCons (xVar 4) (xaNil))))) _ _ = _
    unfold xSeq
    rw [e1]
    dsimp only
    rw [e2]
    dsimp only
    simp [xRet, xFn, xaCons, xaNil, xVar, bnd, nth, gTuple, seqD, nthB']
  unfold f__law_spin fnZ
  show (match x__law_spin [some (.ref 0), some (.int (.ofNat n)), none, none, none] (cupC a b c :: rest) with
    | some (.rt d c) => some (d, c)
    | some (.nx _ c) => some (.non, c)
    | _ => none) = _
  rw [e3]
end XL
end
section
set_option maxRecDepth 100000
set_option maxHeartbeats 4000000
/-! XL5: _law_right answers True, from its cases. -/
namespace XL
open PySem PySem.Spec PyProof.Rows L2
theorem xSeq_nx {a b : XS} {sl s : Sl} {cs c : Cs} (h : a sl cs = some (.nx s c)) : xSeq a b sl cs = b s c := by
  unfold xSeq
  rw [h]
def isAt : D → Bool
  | .int _ => true
  | _ => false
def flat1 : D → Bool
  | .tup xs => xs.all isAt
  | .ftup xs => xs.all isAt
  | .str _ => true
  | .non => true
  | .int _ => true
  | _ => false
theorem pure_ints : ∀ (xs : List D) (c : Cs), xs.all isAt = true → mapC (pureD 11) xs c = some (xs, c)
  | [], c, _ => rfl
  | x :: xs, c, h => by
    simp only [List.all_cons, Bool.and_eq_true] at h
    cases x with
    | int i =>
      show bnd (mapC (pureD 11) xs c) (fun xs c2 => some (D.int i :: xs, c2)) = _
      rw [pure_ints xs c h.2]
      rfl
    | _ => cases h.1
theorem pure_flat {d : D} (h : flat1 d = true) (c : Cs) : pureD fuelP d c = some (d, c) := by
  cases d with
  | tup xs =>
    have h : xs.all isAt = true := h
    show bnd (mapC (pureD 11) xs c) (fun ys c1 => some (D.tup ys, c1)) = _
    rw [pure_ints xs c h]
    rfl
  | ftup xs =>
    have h : xs.all isAt = true := h
    show bnd (mapC (pureD 11) xs c) (fun ys c1 => some (D.ftup ys, c1)) = _
    rw [pure_ints xs c h]
    rfl
  | str x => rfl
  | non => rfl
  | int i => rfl
  | _ => cases h
def slA (n : Int) : Sl := [some (.ref 0), none, none, none, none, none, none, none, none, none, none, some (.int n), none, none, none, none, none, none, none, none, none]
def slB (n : Int) (K : List D) : Sl := [some (.ref 0), none, none, none, none, none, none, none, none, none, none, some (.int n), none, some (.tup K), none, none, none, none, none, none, none]
def slC (n : Int) (K : List D) (near far : D) : Sl := [some (.ref 0), none, none, none, none, none, none, none, none, some near, some far, some (.int n), none, some (.tup K), none, none, none, none, none, none, none]
structure Case (n : Nat) (K : List D) : Prop where
  k1 : 0 < K.length
  k2 : K.length < 1000
  n5 : n ≤ 5
  s1 : ∀ a b c, r1 (slA (.ofNat n)) [cupC a b c] = some (.nx (slB (.ofNat n) K) [cupC a b c])
  s34 : ∀ near ∈ K, ∀ far a b c, xSeq r3 r4 (slC (.ofNat n) K near far) [cupC a b c] = some (.nx (sl0 (.ofNat n) K near far) [cupC a b c, .lst (someT (.ofNat n) near K), .lst []])
  st : ∀ near ∈ K, 0 < (someT (.ofNat n) near K).length ∧ (someT (.ofNat n) near K).length < 1000
  mid : ∀ near ∈ K, ∀ far ∈ K, okM (.ofNat n) K near far
  made : ∀ near ∈ K, ∀ far ∈ K, f__law_made_right [near, far, barOf near far] = some (.bl true)
  fl : ∀ near ∈ K, flat1 near = true
  flb : ∀ near ∈ K, ∀ far ∈ K, flat1 (barOf near far) = true
  comp : ∀ p ∈ spins n (rgL 0 n) [], flat1 (.tup p) = true ∧ ∀ k ∈ K, f__law_completed_right [.tup p, k] = some (.bl true)
theorem r0_ok {a b : Int} (h : Cup a b) (c : Int) : ∃ (n : Nat) (a' b' c' : Int), 1 ≤ n ∧ n ≤ 5 ∧ Cup a' b' ∧ r0 [some (.ref 0), none, none, none, none, none, none, none, none, none, none, none, none, none, none, none, none, none, none, none, none] [cupC a b c] = some (.nx (slA (.ofNat n)) [cupC a' b' c']) := by
  obtain ⟨d, a', b', c', hc, d1, d2, e⟩ := sip_ok h c [] (top := 5) (by omega) (by omega)
  refine ⟨(1 + d).toNat, a', b', c', by omega, by omega, hc, ?_⟩
  have e2 : ((1 + d).toNat : Int) = 1 + d := Int.toNat_of_nonneg (by omega)
  show _ = some (Out.nx (slA ((1 + d).toNat : Int)) _)
  rw [e2]
  simp [r0, xAsg, xOp, xC, xCallZ, xaCons, xaNil, xVar, bnd, nth, e, gAdd, xgName, setN, slA]
theorem r2_ok {a b : Int} (h : Cup a b) (c : Int) (n : Int) (K : List D) (h1 : 0 < K.length) (h2 : K.length < 1000) : ∃ near far a' b' c', near ∈ K ∧ far ∈ K ∧ Cup a' b' ∧ r2 (slB n K) [cupC a b c] = some (.nx (slC n K near far) [cupC a' b' c']) := by
  obtain ⟨near, a1, b1, c1, hc1, m1, e1⟩ := of_ok h c [] (x := .tup K) (fun _ _ _ => rfl) h1 h2
  obtain ⟨far, a2, b2, c2, hc2, m2, e2⟩ := of_ok hc1 c1 [] (x := .tup K) (fun _ _ _ => rfl) h1 h2
  refine ⟨near, far, a2, b2, c2, m1, m2, hc2, ?_⟩
  simp [r2, xAsg, xTup, xCallZ, xaCons, xaNil, xVar, bnd, nth, e1, e2, xgTup2, setN, slB, slC]
theorem r5_ok {a b : Int} (h : Cup a b) (c : Int) (n : Int) (K S : List D) (near far : D) (h1 : 0 < S.length) (h2 : S.length < 1000) (hf : far ∈ K) (hS : ∀ d ∈ S, d ∈ K) :
    ∃ far' a' b' c', far' ∈ K ∧ Cup a' b' ∧ r5 (sl0 n K near far) [cupC a b c, .lst S, .lst []] = some (.nx (sl0 n K near far') [cupC a' b' c', .lst S, .lst []]) := by
  obtain ⟨d, a1, b1, c1, hc1, d1, d2, e⟩ := sip_ok h c [.lst S, .lst []] (top := 2) (by omega) (by omega)
  have hd : d = 0 ∨ d = 1 := by omega
  rcases hd with rfl | rfl
  · obtain ⟨far', a2, b2, c2, hc2, m2, e2⟩ := of_ok hc1 c1 [.lst S, .lst []] (x := .ref 1) (bb := false) (ds := S) (fun _ _ _ => rfl) h1 h2
    refine ⟨far', a2, b2, c2, hS _ m2, hc2, ?_⟩
    simp [r5, xIfS, xTB, xOp, xC, xCallZ, xaCons, xaNil, xVar, bnd, nth, e, gEq, pyD, eqP, xAsg, xgName, setN, sl0, e2]
  · refine ⟨far, a1, b1, c1, hf, hc1, ?_⟩
    simp [r5, xIfS, xTB, xOp, xC, xCallZ, xaCons, xaNil, xVar, bnd, nth, e, gEq, pyD, eqP, xNext, sl0]
theorem nth_of_atS {sl : Sl} {i : Nat} {d : D} (h : atS sl i d = true) : nth sl i = some (some d) := by
  unfold atS at h
  cases q : nth sl i with
  | none => rw [q] at h; cases h
  | some o =>
    rw [q] at h
    cases o with
    | none => cases h
    | some x => rw [beqD_ok x d h]
theorem nth_of_at0 {sl : Sl} (h : at0 sl = true) : nth sl 0 = some (some (.ref 0)) := by
  unfold at0 at h
  cases q : nth sl 0 with
  | none => rw [q] at h; cases h
  | some o =>
    rw [q] at h
    cases o with
    | none => cases h
    | some x =>
      cases x with
      | ref k =>
        cases k with
        | zero => rfl
        | succ k => cases h
      | _ => cases h
theorem right_case {n : Nat} {K : List D} (C : Case n K) {a b : Int} (h : Cup a b) (c : Int) : ∃ cs', xSeq r1 (xSeq r2 (xSeq r3 (xSeq r4 (xSeq r5 (xSeq mid r21))))) (slA (.ofNat n)) [cupC a b c] = some (.rt (.bl true) cs') := by
  rw [xSeq_nx (C.s1 a b c)]
  obtain ⟨near, far, a2, b2, c2, m1, m2, hc2, e2⟩ := r2_ok h c (.ofNat n) K C.k1 C.k2
  rw [xSeq_nx e2, ← xSeq_assoc, xSeq_nx (C.s34 near m1 far a2 b2 c2)]
  obtain ⟨far', a3, b3, c3, m3, hc3, e3⟩ := r5_ok hc2 c2 (.ofNat n) K (someT (.ofNat n) near K) near far (C.st near m1).1 (C.st near m1).2 m2 (fun d hd => (List.mem_filter.mp hd).1)
  rw [xSeq_nx e3]
  have q := C.mid near m1 far' m3 a3 b3 c3
  unfold runM at q
  cases q1 : mid (sl0 (.ofNat n) K near far') [cupC a3 b3 c3, .lst (someT (.ofNat n) near K), .lst []] with
  | none => rw [q1] at q; cases q
  | some o =>
    rw [q1] at q
    cases o with
    | nx sl cs =>
      cases cs with
      | nil => cases q
      | cons u rest =>
        have q : some (at0 sl && (atS sl 11 (.int (.ofNat n)) && (atS sl 9 near && (atS sl 10 far' && atS sl 12 (barOf near far')))), u) = some (true, cupC a3 b3 c3) := q
        have q := Option.some.inj q
        have qa := congrArg Prod.fst q
        have qb : u = cupC a3 b3 c3 := congrArg Prod.snd q
        subst qb
        simp only [Bool.and_eq_true] at qa
        obtain ⟨z0, z11, z9, z10, z12⟩ := qa
        have z0 := nth_of_at0 z0
        have z11 := nth_of_atS z11
        have z9 := nth_of_atS z9
        have z10 := nth_of_atS z10
        have z12 := nth_of_atS z12
        rw [xSeq_nx q1]
        obtain ⟨p, cs2, hp, e5⟩ := spin_ok hc3 c3 rest n C.n5
        obtain ⟨f1, f2⟩ := C.comp p hp
        refine ⟨cs2, ?_⟩
        have pn := pure_flat (C.fl near m1)
        have pf := pure_flat (C.fl far' m3)
        have pb := pure_flat (C.flb near m1 far' m3)
        have pp := pure_flat f1
        have m3p : ∀ cs : Cs, pureL [near, far', barOf near far'] cs = some ([near, far', barOf near far'], cs) := fun cs => by
          show bnd (pureD fuelP near cs) (fun x c1 => bnd (bnd (pureD fuelP far' c1) fun x c1 => bnd (bnd (pureD fuelP (barOf near far') c1) fun x c1 => bnd (some ([], c1)) fun xs c2 => some (x :: xs, c2)) fun xs c2 => some (x :: xs, c2)) fun xs c2 => some (x :: xs, c2)) = _
          rw [pn]
          show bnd (bnd (pureD fuelP far' cs) fun x c1 => bnd (bnd (pureD fuelP (barOf near far') c1) fun x c1 => bnd (some ([], c1)) fun xs c2 => some (x :: xs, c2)) fun xs c2 => some (x :: xs, c2)) (fun xs c2 => some (near :: xs, c2)) = _
          rw [pf]
          show bnd (bnd (bnd (pureD fuelP (barOf near far') cs) fun x c1 => bnd (some ([], c1)) fun xs c2 => some (x :: xs, c2)) fun xs c2 => some (far' :: xs, c2)) (fun xs c2 => some (near :: xs, c2)) = _
          rw [pb]
          rfl
        have p2p : ∀ cs : Cs, pureL [.tup p, far'] cs = some ([.tup p, far'], cs) := fun cs => by
          show bnd (pureD fuelP (.tup p) cs) (fun x c1 => bnd (bnd (pureD fuelP far' c1) fun x c1 => bnd (some ([], c1)) fun xs c2 => some (x :: xs, c2)) fun xs c2 => some (x :: xs, c2)) = _
          rw [pp]
          show bnd (bnd (pureD fuelP far' cs) fun x c1 => bnd (some ([], c1)) fun xs c2 => some (x :: xs, c2)) (fun xs c2 => some (D.tup p :: xs, c2)) = _
          rw [pf]
          rfl
        simp only [r21, xRet, xAndV, xCall, xCallZ, xaCons, xaNil, xVar, bnd, z0, z9, z10, z11, z12, m3p, p2p, C.made near m1 far' m3, e5, f2 far' m3]
    | _ => cases q
theorem right_all (H : ∀ n : Nat, 1 ≤ n → n ≤ 5 → ∃ K, Case n K) {a b : Int} (h : Cup a b) (c : Int) : ∃ cs', f__law_right [cupC a b c] [.ref 0] = some (.bl true, cs') := by
  obtain ⟨n, a', b', c', n1, n2, hc, e⟩ := r0_ok h c
  obtain ⟨K, C⟩ := H n n1 n2
  obtain ⟨cs', e2⟩ := right_case C hc c'
  refine ⟨cs', ?_⟩
  show (match x__law_right [some (.ref 0), none, none, none, none, none, none, none, none, none, none, none, none, none, none, none, none, none, none, none, none] [cupC a b c] with
    | some (.rt d c) => some (d, c)
    | some (.nx _ c) => some (.non, c)
    | _ => none) = _
  rw [right_eq, xSeq_nx e, mid_eq, e2]
end XL
end
section
set_option maxRecDepth 100000
set_option maxHeartbeats 4000000
/-! XCup: _law_cup over the script's list. -/
namespace XL
open PySem PySem.Spec PyProof.Rows L2
def spCup (K : PySem.W.Frag) : Sp := fun vs H Q _ => ∃ (l : Addr) (ns : List Int) (k : Nat), vs = [.ref l, .int (k : Nat)] ∧ SqL K H l (ns.map V.int) ∧ ns.length < 1000 ∧ k < 1000 ∧
  ∀ (p : Addr) (H' : Hp) (x y : Int), Same H H' → H p = none → H' p = some (.lst [.int x, .int y, .int 0]) → Cup x y → Q (.ref p) H'
theorem sc_cup : FnScope ["_law_cells", "_law_k", "_law_cell", "_law_stirred", "_law_each"] ["_law_cells", "_law_k"] (defScope (top 62)) := ⟨rfl, rfl, rfl, by decide +kernel, rfl, by decide +kernel, by decide +kernel⟩
def rInt1 : List V → Hp → VK → Prop := fun xs H Q => (∃ i, xs = [.int i] ∧ Q (.int i) H) ∨ ∃ k, xs = [.bl k] ∧ Q (.int (if k then 1 else 0)) H
def rLen1 (K : PySem.W.Frag) : List V → Hp → VK → Prop := fun xs H Q => ∃ x n, xs = [x] ∧ LenV K x H n ∧ Q (.int n) H
def rAbs1 : List V → Hp → VK → Prop := fun xs H Q => ∃ i, xs = [.int i] ∧ Q (.int (if i < 0 then -i else i)) H
abbrev rAd : R2 := rI0 fun i j => .int (i + j)
abbrev rMu : R2 := rI CMul fun i j => .int (i * j)
abbrev rMo : R2 := rI (fun _ j => 0 < j) fun i j => .int (i % j)
def cup1 (K : PySem.W.Frag) : TS := tAsg (tIf (tB (tLt (tVar 1) (tCB (rLen1 K) (tCons (tVar 0) tNil)))) (tCB rInt1 (tCons (tOp (rIx K) (tVar 0) (tVar 1)) tNil)) (tOp rAd (tOp rMu (tC (.int 7933)) (tVar 1)) (tC (.int 271)))) (gName 2)
def cup2 : TS := tAsg (tOp rAd (tC (.int 104033)) (tOp rMu (tC (.int 797)) (tVar 1))) (gName 3)
def cupB : TS := tAsg (tOp rMo (tCB rInt1 (tCons (tOp rAd (tOp rMu (tVar 3) (tC (.int 48281))) (tCB rInt1 (tCons (tVar 4) tNil))) tNil)) (tC (.int 2147483137))) (gName 3)
def cup3 (K : PySem.W.Frag) : TS := tFor (iList K (tOp rCat (L2.tSl (rSlL K) (tVar 0) tNoPart (tPart (tC (.int 6)))) (tLst (tCons (tVar 2) tNil)))) (gName 4) cupB
abbrev rPw : R2 := rI CPow fun i j => .int (i ^ j.toNat)
def cup4 : TS := tRet (tLst (tCons (tIf (L2.tOr (tB (tLt (tVar 2) (tC (.int 0)))) (tB (tGe (tVar 2) (tOp rPw (tC (.int 10)) (tC (.int 18)))))) (tCB rAbs1 (tCons (tVar 2) tNil)) (tC (.int 0))) (tCons (tVar 3) (tCons (tC (.int 0)) tNil))))
theorem ok_cup {P : Program} {w : World} {K : PySem.W.Frag} {mg : Str → Option Value} {base : Heap} (B : Blt mg) (d : DefAt K mg "_law_cup" (top 62)) : FA P w K mg base 1 "_law_cup" ["_law_cells", "_law_k"] (spCup K) := by
  obtain ⟨f, fd, F, hm⟩ := d.ex
  refine ⟨f, fd, F.ok sc_cup (fun vs H Q E h => ?_) (fun cdv A outer s H vs Q E hr h => ⟨_, (pss_cons (t := cup1 K) ?w1 (pss_cons (t := cup2) ?w2 (pss_cons (t := cup3 K) ?w3 (pss_one (t := cup4) ?w4)))).nox, ?run⟩), hm, F.kp, F.bindsN fun _ _ _ _ _ _ us hl => match us, hl with | [_, _], _ => rfl, funD_lk F⟩
  case w1 => exact ps_set (i := 2) sc_cup.nd rfl (.inl rfl) (pe_ifExp (pt_cmp (pc_lt (pe_var rfl (.inl rfl)) (pe_callB call_len rfl B.len_ boot_len (pa_cons (pe_var rfl (.inl rfl)) pa_nil)))) (pe_callTy call_int1 rfl B.int_ (by kernel_rfl) (pa_cons (pe_ix ix_seq (pe_var rfl (.inl rfl)) (pe_var rfl (.inl rfl)) fun _ _ => rfl) pa_nil)) (pe_op op_add (pe_op op_mul pe_int (pe_var rfl (.inl rfl))) pe_int))
  case w2 => exact ps_set (i := 3) sc_cup.nd rfl (.inl rfl) (pe_op op_add pe_int (pe_op op_mul pe_int (pe_var rfl (.inl rfl))))
  case w3 => exact ps_for PassesOwn.never rfl (pi_list (pe_op op_cat (pe_slice L2.sl_list (pe_var rfl (.inl rfl)) po_none (po_some pe_int)) (pe_lst (pa_cons (pe_var rfl (.inl rfl)) pa_nil)))) (pg_name sc_cup.nd rfl (.inl rfl)) (pss_one (ps_set (i := 3) sc_cup.nd rfl (.inl rfl) (pe_op op_mod (pe_callTy call_int1 rfl B.int_ (by kernel_rfl) (pa_cons (pe_op op_add (pe_op op_mul (pe_var rfl (.inl rfl)) pe_int) (pe_callTy call_int1 rfl B.int_ (by kernel_rfl) (pa_cons (pe_var rfl (.inl rfl)) pa_nil))) pa_nil)) pe_int)))
  case w4 => exact ps_ret (pe_lst (pa_cons (pe_ifExp (PW.pt (pw_or (pt_cmp (pc_lt (pe_var (i := 2) rfl (.inl rfl)) pe_int)) (pw_or1 (pt_cmp (pc_ge (pe_var (i := 2) rfl (.inl rfl)) (pe_op op_pow pe_int pe_int)))))) (pe_callB call_abs rfl B.abs_ (by kernel_rfl) (pa_cons (pe_var (i := 2) rfl (.inl rfl)) pa_nil)) pe_int) (pa_cons (pe_var (i := 3) rfl (.inl rfl)) (pa_cons pe_int pa_nil))))
  case run =>
    obtain ⟨l, ns, k, rfl, hs, hn, hk, q⟩ := h
    have main : ∀ x : Int, tSeq cup2 (tSeq (cup3 K) cup4) { nx := fun _ H' => Q .non H', rt := Q } [some (.ref l), some (.int (k : Nat)), some (.int x), none, none] H := fun x => by
      refine ⟨_, rfl, 797, _, rfl, rfl, .inl ⟨by decide, by decide⟩, 104033, _, rfl, rfl, ?_⟩
      refine ⟨_, rfl, 6, rfl, l, _, rfl, hs, fun p1 h1 => ⟨_, rfl, ?_, fun p2 h2 => ?_⟩⟩
      · show 1 ≤ sizeLine
        rw [sizeLine_eq]
        decide
      have n12 : p1 ≠ p2 := fun z => by
        rw [← z, upd_same] at h2
        cases h2
      have hz : ∀ v ∈ cutV (ns.map V.int) none (some 6) ++ [V.int x], ∃ i, v = V.int i := fun v hv => by
        rcases List.mem_append.mp hv with hv | hv
        · have h3 := List.mem_of_mem_drop (List.mem_of_mem_take hv)
          obtain ⟨i, _, e⟩ := List.mem_map.mp h3
          exact ⟨i, e.symm⟩
        · exact ⟨x, List.mem_singleton.mp hv⟩
      have hlen := cutV_length (ns.map V.int) none (some 6)
      rw [List.length_map] at hlen
      refine ⟨p1, p2, _, _, rfl, rfl, by rw [upd_ne n12]; exact upd_same, upd_same, by rw [sizeLine_eq]; simp only [List.length_cons, List.length_nil]; omega, fun p3 h3 => ?_⟩
      generalize hzs : cutV (ns.map V.int) none (some 6) ++ [V.int x] = zs at hz
      generalize hH3 : upd (upd (upd H p1 (.lst (cutV (ns.map V.int) none (some 6)))) p2 (.lst [V.int x])) p3 (.lst zs) = H3
      have same3 : Same H H3 := by
        rw [← hH3]
        exact same_new (same_new (same_new (Same.refl H) h1) h2) h3
      have sq3 : SqL K H3 p3 zs := .inl (.inl (by rw [← hH3]; exact upd_same))
      refine ⟨p3, rfl, ⟨zs, sq3⟩, ?_⟩
      refine ⟨fun i m σ H' => H' = H3 ∧ i + m = zs.length ∧ ∃ (y : Int) (e : Option V), σ = [some (.ref l), some (.int (k : Nat)), some (.int x), some (.int y), e] ∧ 0 ≤ y ∧ y < 2147483137, ⟨zs.length, rfl, by omega, _, _, rfl, by omega, by omega⟩, ?_⟩
      rintro i m σ H' ⟨rfl, him, y, e, rfl, y1, y2⟩
      by_cases hi : i < zs.length
      · refine .inr ⟨⟨zs, zs[i], sq3, List.getElem?_eq_getElem hi⟩, fun σ' H'' => H'' = H' ∧ (i + 1) + (m - 1) = zs.length ∧ ∃ (y : Int) (e : Option V), σ' = [some (.ref l), some (.int (k : Nat)), some (.int x), some (.int y), e] ∧ 0 ≤ y ∧ y < 2147483137, fun σ' H'' w => ⟨m - 1, by omega, w⟩, ?_⟩
        rintro v H'' ⟨rfl, hv⟩
        have hv := hv zs sq3
        obtain ⟨j, rfl⟩ := hz v (by
          rw [List.getElem?_eq_getElem hi] at hv
          have := Option.some.inj hv
          rw [← this]
          exact List.getElem_mem hi)
        refine ⟨_, rfl, y, 48281, rfl, rfl, .inl ⟨by omega, by omega⟩, _, rfl, .inl ⟨j, rfl, _, j, rfl, rfl, .inl ⟨_, rfl, _, 2147483137, rfl, rfl, by show (0 : Int) < 2147483137; decide, ?_⟩⟩⟩
        exact ⟨rfl, by omega, _, _, rfl, Int.emod_nonneg _ (by decide), Int.emod_lt_of_pos _ (by decide)⟩
      · refine .inl ⟨⟨zs, sq3, by omega⟩, ?_⟩
        have fin : ∀ z : Int, 0 ≤ z → tLst (tCons (tC (.int z)) (tCons (tVar 3) (tCons (tC (.int 0)) tNil))) [some (.ref l), some (.int (k : Nat)), some (.int x), some (.int y), e] H' Q := fun z hz0 => by
          refine ⟨_, rfl, ?_, fun p hp => ?_⟩
          · show 3 ≤ sizeLine
            rw [sizeLine_eq]
            decide
          · exact q p _ z y (same_new same3 hp) (same3.free hp) upd_same ⟨hz0, y1, y2⟩
        refine ⟨_, rfl, x, 0, rfl, rfl, _, rfl, ?_⟩
        dsimp only
        by_cases hx : x < 0
        · rw [if_pos (decide_eq_true hx)]
          rw [if_pos rfl]
          exact ⟨_, rfl, x, rfl, fin _ (by split <;> omega)⟩
        · rw [if_neg (by rw [decide_eq_false hx]; exact Bool.false_ne_true)]
          refine ⟨_, rfl, 10, 18, rfl, rfl, ⟨by decide, by decide, by decide⟩, x, _, rfl, rfl, _, rfl, ?_⟩
          dsimp only
          split
          · exact ⟨_, rfl, x, rfl, fin _ (by split <;> omega)⟩
          · exact fin 0 (by decide)
    refine ⟨_, rfl, ⟨_, rfl, ⟨V.ref l, (ns.map V.int).length, rfl, .inl ⟨_, hs, rfl⟩, ⟨((k : Nat) : Int), (((ns.map V.int).length : Nat) : Int), rfl, rfl, ⟨_, rfl, ?_⟩⟩⟩⟩⟩
    dsimp only
    by_cases hj : k < ns.length
    · rw [if_pos (decide_eq_true (by rw [List.length_map]; omega))]
      exact ⟨_, rfl, _, rfl, .inl ⟨l, _, _, _, rfl, rfl, hs, atI_cell hj, .inl ⟨_, rfl, main _⟩⟩⟩
    · rw [if_neg (fun z => by
        have z2 := of_decide_eq_true z
        rw [List.length_map] at z2
        omega)]
      exact ⟨_, rfl, 7933, _, rfl, rfl, .inl ⟨by decide, by decide⟩, _, 271, rfl, rfl, main _⟩
  · obtain ⟨l, ns, k, rfl, _⟩ := h
    rfl
end XL
end
section
set_option maxRecDepth 100000
set_option maxHeartbeats 4000000
/-! XLaw: law over the script's list. -/
namespace XL
open PySem PySem.Spec PyProof.Rows L2
variable {T : Tb}
def spLaw (T : Tb) (K : PySem.W.Frag) : Sp := fun vs H Q _ => ∃ (l : Addr) (ns : List Int), vs = [.ref l] ∧ SqL K H l (ns.map V.int) ∧ ns.length < 1000 ∧ LamX.Tabs T.tb H ∧ ∀ H', Q (.bl true) H'
theorem sc_law : FnScope ["_law_cells", "_law_k"] ["_law_cells"] (defScope (top 76)) := ⟨rfl, rfl, rfl, by decide +kernel, rfl, by decide +kernel, by decide +kernel⟩
def rMax1 : List V → Hp → VK → Prop := fun xs H Q => ∃ i j, xs = [.int i, .int j] ∧ Q (.int (if j > i then j else i)) H
def rMin1 : List V → Hp → VK → Prop := fun xs H Q => ∃ i j, xs = [.int i, .int j] ∧ Q (.int (if j < i then j else i)) H
def lawE (T : Tb) (K : PySem.W.Frag) : TE := tCall (spZ T f__law_right) [] (fun _ _ _ => False) (tCons (tCall (spCup K) [] (fun _ _ _ => False) (tCons (tVar 0) (tCons (tVar 1) tNil))) tNil)
def lawT (T : Tb) (K : PySem.W.Frag) (tt : L2.TT) : TS := tRet (tCB (rAll K) (tCons (tLc (iRng1 (tCons (tCB rMax1 (tCons (tC (.int 2)) (tCons (tCB rMin1 (tCons (tCB (rLen1 K) (tCons (tVar 0) tNil)) (tCons (tC (.int 3)) tNil))) tNil))) tNil)) (gName 1) tt (lawE T K) [1]) tNil))
/-- one address left out -/
def but (H : Hp) (p : Addr) : Hp := fun a => if a = p then none else H a
theorem but_some {H : Hp} {p a : Addr} {o : HO} (h : but H p a = some o) : a ≠ p ∧ H a = some o := by
  unfold but at h
  by_cases e : a = p
  · rw [if_pos e] at h
    cases h
  · rw [if_neg e] at h
    exact ⟨e, h⟩
theorem but_ne {H : Hp} {p a : Addr} (h : a ≠ p) : but H p a = H a := if_neg h
/-- _law_right at a cup -/
theorem right_run {p : Addr} {H : Hp} {x y : Int} {Q : VK} {E : XK} (HT : T.tb ≠ []) (HC : ∀ n : Nat, 1 ≤ n → n ≤ 5 → ∃ K, Case n K) (hp : H p = some (.lst [.int x, .int y, .int 0])) (hc : Cup x y) (ht : LamX.Tabs T.tb H)
    (k : ∀ H', LamX.Tabs T.tb H' → (∀ a o, a ≠ p → H a = some o → (∀ ps, o ≠ .tbl ps) → H' a = some o) → Q (.bl true) H') : spZ T f__law_right [.ref p] H Q E := by
  obtain ⟨cs', e⟩ := right_all HC hc 0
  refine ⟨⟨noTb (but H p), fun _ => none, fun _ => none, [p], T.C, T.nm⟩, [cupC x y 0], [.ref 0], .bl true, cs', ?_, .cons (.ref rfl) .nil, e, fun W' H' v l R r => ?_⟩
  · refine ⟨fun a o h => (but_some (noTb_some h).1).2, fun a o h => (by cases h), fun a o h => (by cases h), rfl, by simp, fun j a c h1 h2 => ?_, fun a ps h => (by cases h), ht, fun _ a ps h => (noTb_some h).2 ps rfl, rfl, rfl⟩
    cases j with
    | zero =>
      cases h1
      cases h2
      refine ⟨?_, rfl, _, hp, .cons .int (.cons .int (.cons .int .nil))⟩
      show noTb (but H p) p = none
      unfold noTb but
      rw [if_pos rfl]
    | succ j => simp at h1
  · cases r
    refine k H' R.tabs fun a o hne h n => R.keep a o ?_
    rw [l.h0]
    exact noTb_of (by rw [but_ne hne]; exact h) n
section
variable {P : Program} {w : World} {K : PySem.W.Frag} {mg : Str → Option Value} {base : Heap}
theorem fg_of {x : Str} {st : Stmt} {ps N : List Str} {k : Nat} {sp : Sp} (D : DefAt K mg x st) (S : FnScope N ps (defScope st)) (len : ∀ vs H Q E, sp vs H Q E → vs.length = ps.length)
    (hb : ∀ (kV doc pm : Value) (an : Option Addr) (cdv ct : Value) (us : List Value), us.length = ps.length → bindArgs (PySem.W.fnOf x x (defArgs st) (defBody st) (defScope st) .none kV doc pm an cdv ct) ⟨us, []⟩ = pure (ps.zip us))
    (hbody : ∀ (f : Addr) (cdv : Value) (A : Around) (outer : List Env) (s : Shared) (H : Hp) (vs : List V) (Q : VK) (E : XK), Room k (A.deeper (envOfC x (defScope st) s.heap.objs.size f cdv)) → (A.deeper (envOfC x (defScope st) s.heap.objs.size f cdv)).guards = some [] → sp vs H Q E →
      ∃ t, PSs (cxOf CX0 P w K mg base N x (defScope st) f cdv A outer s H E) (defBody st) t ∧ t { nx := fun _ H' => Q .non H', rt := Q } (L2.start N vs) H) :
    FG P w K mg base (k + 1) x ps sp := by
  obtain ⟨f, fd, F, hm⟩ := D.ex
  have kp := F.kp
  have hbN := F.bindsN hb
  have lk0 := funD_lk F
  obtain ⟨oc, od, dV, kV, doc, pm, an, cdv, ct, osl, rfl, lk, hcd, _, _⟩ := F.ex
  exact ⟨f, _, fn_ofG lk hcd S len (fun A outer s H vs Q E hr hG h => hbody f cdv A outer s H vs Q E hr hG h), hm, kp, hbN, lk0⟩
theorem ok_law (B : Blt mg) (d : DefAt K mg "law" (top 76)) {kr : Nat} (cR : FG P w K mg base kr "_law_right" ["_law_cup_here"] (spZ T f__law_right)) (cC : FA P w K mg base 1 "_law_cup" ["_law_cells", "_law_k"] (spCup K)) (h1 : 1 ≤ kr)
    (HT : T.tb ≠ []) (HC : ∀ n : Nat, 1 ≤ n → n ≤ 5 → ∃ K, Case n K) : FG P w K mg base (kr + 1) "law" ["_law_cells"] (spLaw T K) := by
  refine fg_of d sc_law (fun vs H Q E h => ?_) (fun _ _ _ _ _ _ us hl => match us, hl with | [_], _ => rfl) (fun f cdv A outer s H vs Q E hr hG h => ⟨_, (pss_one (t := lawT T K L2.tYes) ?walk).nox, ?run⟩)
  case walk =>
    obtain ⟨fr, fdr, Fr, mr, kr2, br, _⟩ := cR.ex
    obtain ⟨fc, fdc, Fc, mc, kc2, bc, _⟩ := cC.ex
    exact ps_ret (pe_callB (L2.cr_all rfl) rfl B.all_ (by kernel_rfl) (pa_cons (pe_lc (own := [("_law_k", 1)]) rfl sc_law.nd
      (pi_range1 rfl B.range_ (pa_cons (pe_callB (call_max2 rfl) rfl B.max_ (by kernel_rfl) (pa_cons pe_int (pa_cons (pe_callB (call_min2 rfl) rfl B.min_ (by kernel_rfl) (pa_cons (pe_callB call_len rfl B.len_ boot_len (pa_cons (pe_var (i := 0) rfl (by first | exact Or.inl rfl | exact Or.inr (Or.inl rfl) | exact Or.inr (Or.inr rfl))) pa_nil)) (pa_cons pe_int pa_nil))) pa_nil))) pa_nil))
      (blkOk_by (by rfl)) (fun _ _ _ _ _ => pg_name sc_law.nd rfl (by first | exact .inl rfl | exact .inr rfl)) (fun _ _ _ _ _ => pts_nil)
      (fun _ _ _ _ _ => pe_callG Fr hr hG rfl mr kr2 br (pass0 (X := _)) (pa_cons (pe_call Fc (hr.mono h1) rfl mc kc2 bc .nil (pass0 (X := _)) (pa_cons (pe_var (i := 0) rfl (by first | exact Or.inl rfl | exact Or.inr (Or.inl rfl) | exact Or.inr (Or.inr rfl))) (pa_cons (pe_var (i := 1) rfl (by first | exact Or.inl rfl | exact Or.inr (Or.inl rfl) | exact Or.inr (Or.inr rfl))) pa_nil))) pa_nil))) pa_nil))
  case run =>
    obtain ⟨l, ns, rfl, hs, hn, ht, q⟩ := h
    have keepS : ∀ Ha Hb : Hp, SqL K Ha l (ns.map V.int) → (∀ o, Ha l = some o → (∀ ps, o ≠ .tbl ps) → Hb l = some o) → SqL K Hb l (ns.map V.int) := fun Ha Hb h k => by
      rcases h with (h | ⟨o, h⟩) | h
      · exact .inl (.inl (k _ h fun _ z => nomatch z))
      · exact .inl (.inr ⟨o, k _ h fun _ z => nomatch z⟩)
      · exact .inr h
    have at_ : ∀ Ha : Hp, SqL K Ha l (ns.map V.int) → (∃ o, Ha l = some o) ∨ ∀ Hb : Hp, SqL K Hb l (ns.map V.int) := fun Ha h => by
      rcases h with (h | ⟨o, h⟩) | h
      · exact .inl ⟨_, h⟩
      · exact .inl ⟨_, h⟩
      · exact .inr fun Hb => .inr h
    have hb : ∃ j : Int, (if (if (3 : Int) < (((ns.map V.int).length : Nat) : Int) then 3 else (((ns.map V.int).length : Nat) : Int)) > 2 then (if (3 : Int) < (((ns.map V.int).length : Nat) : Int) then 3 else (((ns.map V.int).length : Nat) : Int)) else 2) = j ∧ 0 ≤ j ∧ j ≤ 3 := by
      refine ⟨_, rfl, ?_, ?_⟩ <;> repeat' split
      all_goals omega
    obtain ⟨j, ej, j0, j3⟩ := hb
    refine ⟨_, rfl, V.ref l, _, rfl, .inl ⟨_, hs, rfl⟩, _, 3, rfl, 2, _, rfl, _, rfl, ?_, ?_, fun D hD => ?_⟩
    · rw [ej]; omega
    · rw [ej]; omega
    rw [ej]
    have hlD : SqL K H l (ns.map V.int) → (∀ Hb : Hp, SqL K Hb l (ns.map V.int)) ∨ l ≠ D := fun h => by
      rcases at_ H h with ⟨o, e⟩ | h
      · exact .inr fun z => by
          rw [z, hD] at e
          cases e
      · exact .inl h
    have hlD := hlD hs
    have updS : ∀ (Ha : Hp) (o : HO), SqL K Ha l (ns.map V.int) → SqL K (upd Ha D o) l (ns.map V.int) := fun Ha o h => by
      rcases hlD with z | z
      · exact z _
      · exact keepS Ha _ h fun u e _ => by rw [upd_ne z]; exact e
    refine ⟨fun i m H' => i + m = j.toNat ∧ SqL K H' l (ns.map V.int) ∧ LamX.Tabs T.tb H' ∧ H' D = some (.lst (List.replicate i (V.bl true))), ⟨j.toNat, by omega, updS H _ hs, tabs_new ht hD, upd_same⟩, ?_⟩
    rintro i m H1 ⟨him, hs1, ht1, hD1⟩
    by_cases hi : i < j.toNat
    · refine .inr ⟨hi, fun H' => (i + 1) + (m - 1) = j.toNat ∧ SqL K H' l (ns.map V.int) ∧ LamX.Tabs T.tb H' ∧ H' D = some (.lst (List.replicate (i + 1) (V.bl true))), fun H' w => ⟨m - 1, by omega, w⟩, ?_⟩
      rintro v H2 ⟨rfl, rfl⟩
      refine ⟨rfl, ?_⟩
      unfold L2.tYes
      dsimp only
      rw [if_pos rfl]
      refine ⟨_, rfl, _, rfl, l, ns, i, ?_, hs1, hn, by omega, fun p H3 x y s3 hp hp3 hc => ?_⟩
      · show [V.ref l, V.int (0 + (i : Int))] = _
        rw [Int.zero_add]
      · refine right_run (E := fun _ _ _ => False) HT HC hp3 hc (ht1.ext s3) fun H4 t4 k4 => ?_
        have pD : D ≠ p := fun z => by
          rw [← z, hD1] at hp
          cases hp
        have hD4 : H4 D = some (.lst (List.replicate i (V.bl true))) := k4 D _ pD (s3 _ _ hD1) fun _ z => nomatch z
        have hs4 : SqL K H4 l (ns.map V.int) := by
          rcases at_ H2 hs1 with ⟨o, e⟩ | z
          · refine keepS H2 _ hs1 fun u e2 n => k4 l u (fun z => ?_) (s3 _ _ e2) n
            rw [z, hp] at e
            cases e
          · exact z _
        refine ⟨_, hD4, ?_, by omega, updS H4 _ hs4, ?_, ?_⟩
        · rw [List.length_replicate, sizeLine_eq]
          omega
        · exact tabs_put t4 (fun ps z => by rw [hD4] at z; cases z) fun φ z => by rw [hD4] at z; cases z
        · rw [upd_same, List.replicate_succ']
    · refine .inl ⟨by show j.toNat ≤ i; omega, D, List.replicate i true, rfl, .inl (.inl ?_), ?_⟩
      · rw [hD1, List.map_replicate]
      · have : (List.replicate i true).all id = true := by
          rw [List.all_eq_true]
          intro x hx
          rw [List.eq_of_mem_replicate hx]
          rfl
        rw [this]
        exact q _
  · obtain ⟨l, ns, rfl, _⟩ := h
    rfl
end
end XL
end
section
set_option maxRecDepth 100000
set_option maxHeartbeats 0
/-! XL6_1: the cases of 1 places, by the kernel; printed by gen_l6.py. -/
namespace XL
open PySem PySem.Spec PyProof.Rows L2

def stB (n : Int) (K : List D) : Bool := K.all fun near => Nat.blt 0 (someT n near K).length && Nat.blt (someT n near K).length 1000
def flB (K : List D) : Bool := K.all fun near => flat1 near && K.all fun far => flat1 (barOf near far)
def madeB (K : List D) (near : D) : Bool := K.all fun far => isS (f__law_made_right [near, far, barOf near far]) (.bl true)
def compB (n : Nat) (far : D) : Bool := (spins n (rgL 0 n) []).all fun p => isS (f__law_completed_right [.tup p, far]) (.bl true)
def spB (n : Nat) : Bool := (spins n (rgL 0 n) []).all fun p => flat1 (.tup p)
theorem st_of {n : Int} {K : List D} (h : stB n K = true) : ∀ near ∈ K, 0 < (someT n near K).length ∧ (someT n near K).length < 1000 := fun near m => by
  have := List.all_eq_true.mp h near m
  simp only [Bool.and_eq_true] at this
  exact ⟨Nat.le_of_ble_eq_true this.1, Nat.le_of_ble_eq_true this.2⟩
theorem fl_of {K : List D} (h : flB K = true) : (∀ near ∈ K, flat1 near = true) ∧ ∀ near ∈ K, ∀ far ∈ K, flat1 (barOf near far) = true := by
  refine ⟨fun near m => ?_, fun near m far m2 => ?_⟩
  · have := List.all_eq_true.mp h near m
    simp only [Bool.and_eq_true] at this
    exact this.1
  · have := List.all_eq_true.mp h near m
    simp only [Bool.and_eq_true] at this
    exact List.all_eq_true.mp this.2 far m2
theorem made_of {K : List D} (h : ∀ near ∈ K, madeB K near = true) : ∀ near ∈ K, ∀ far ∈ K, f__law_made_right [near, far, barOf near far] = some (.bl true) := fun near m far m2 => isS_ok (List.all_eq_true.mp (h near m) far m2)
theorem comp_of {n : Nat} {K : List D} (h1 : spB n = true) (h : ∀ far ∈ K, compB n far = true) : ∀ p ∈ spins n (rgL 0 n) [], flat1 (.tup p) = true ∧ ∀ k ∈ K, f__law_completed_right [.tup p, k] = some (.bl true) := fun p m => ⟨List.all_eq_true.mp h1 p m, fun k mk => isS_ok (List.all_eq_true.mp (h k mk) p m)⟩
theorem all_nil {P : D → Prop} : ∀ x ∈ ([] : List D), P x := fun x h => by cases h
theorem all_cons {P : D → Prop} {a : D} {l : List D} (h : P a) (t : ∀ x ∈ l, P x) : ∀ x ∈ a :: l, P x := fun x m => by
  rcases List.mem_cons.mp m with e | e
  · subst e
    exact h
  · exact t x e

theorem c1_s1 (a b c : Int) : r1 (slA (.ofNat 1)) [cupC a b c] = some (.nx (slB (.ofNat 1) K1) [cupC a b c]) := by kernel_rfl
theorem c1_st : stB (.ofNat 1) K1 = true := by kernel_rfl
theorem c1_fl : flB K1 = true := by kernel_rfl
theorem c1_sp : spB 1 = true := by kernel_rfl
theorem c1_s34_0 (far : D) (a b c : Int) : xSeq r3 r4 (slC (.ofNat 1) K1 (fN [1]) far) [cupC a b c] = some (.nx (sl0 (.ofNat 1) K1 (fN [1]) far) [cupC a b c, .lst (someT (.ofNat 1) (fN [1]) K1), .lst []]) := by kernel_rfl
theorem c1_made_0 : madeB K1 (fN [1]) = true := by kernel_rfl
theorem c1_comp_0 : compB 1 (fN [1]) = true := by kernel_rfl
theorem c1_mid_0_0 : okM (.ofNat 1) K1 (fN [1]) (fN [1]) := fun a b c => by kernel_rfl
theorem case1 : Case 1 K1 where
  k1 := by decide
  k2 := by decide
  n5 := by decide
  s1 := c1_s1
  s34 := all_cons c1_s34_0 (all_nil)
  st := st_of c1_st
  mid := all_cons (all_cons c1_mid_0_0 (all_nil)) (all_nil)
  made := made_of (all_cons c1_made_0 (all_nil))
  fl := (fl_of c1_fl).1
  flb := (fl_of c1_fl).2
  comp := comp_of c1_sp (all_cons c1_comp_0 (all_nil))
end XL
end
section
set_option maxRecDepth 100000
set_option maxHeartbeats 0
/-! XL6_2: the cases of 2 places, by the kernel; printed by gen_l6.py. -/
namespace XL
open PySem PySem.Spec PyProof.Rows L2

theorem c2_s1 (a b c : Int) : r1 (slA (.ofNat 2)) [cupC a b c] = some (.nx (slB (.ofNat 2) K2) [cupC a b c]) := by kernel_rfl
theorem c2_st : stB (.ofNat 2) K2 = true := by kernel_rfl
theorem c2_fl : flB K2 = true := by kernel_rfl
theorem c2_sp : spB 2 = true := by kernel_rfl
theorem c2_s34_0 (far : D) (a b c : Int) : xSeq r3 r4 (slC (.ofNat 2) K2 (fN [2]) far) [cupC a b c] = some (.nx (sl0 (.ofNat 2) K2 (fN [2]) far) [cupC a b c, .lst (someT (.ofNat 2) (fN [2]) K2), .lst []]) := by kernel_rfl
theorem c2_made_0 : madeB K2 (fN [2]) = true := by kernel_rfl
theorem c2_comp_0 : compB 2 (fN [2]) = true := by kernel_rfl
theorem c2_mid_0_0 : okM (.ofNat 2) K2 (fN [2]) (fN [2]) := fun a b c => by kernel_rfl
theorem c2_mid_0_1 : okM (.ofNat 2) K2 (fN [2]) (fN [1, 1]) := fun a b c => by kernel_rfl
theorem c2_s34_1 (far : D) (a b c : Int) : xSeq r3 r4 (slC (.ofNat 2) K2 (fN [1, 1]) far) [cupC a b c] = some (.nx (sl0 (.ofNat 2) K2 (fN [1, 1]) far) [cupC a b c, .lst (someT (.ofNat 2) (fN [1, 1]) K2), .lst []]) := by kernel_rfl
theorem c2_made_1 : madeB K2 (fN [1, 1]) = true := by kernel_rfl
theorem c2_comp_1 : compB 2 (fN [1, 1]) = true := by kernel_rfl
theorem c2_mid_1_0 : okM (.ofNat 2) K2 (fN [1, 1]) (fN [2]) := fun a b c => by kernel_rfl
theorem c2_mid_1_1 : okM (.ofNat 2) K2 (fN [1, 1]) (fN [1, 1]) := fun a b c => by kernel_rfl
theorem case2 : Case 2 K2 where
  k1 := by decide
  k2 := by decide
  n5 := by decide
  s1 := c2_s1
  s34 := all_cons c2_s34_0 (all_cons c2_s34_1 (all_nil))
  st := st_of c2_st
  mid := all_cons (all_cons c2_mid_0_0 (all_cons c2_mid_0_1 (all_nil))) (all_cons (all_cons c2_mid_1_0 (all_cons c2_mid_1_1 (all_nil))) (all_nil))
  made := made_of (all_cons c2_made_0 (all_cons c2_made_1 (all_nil)))
  fl := (fl_of c2_fl).1
  flb := (fl_of c2_fl).2
  comp := comp_of c2_sp (all_cons c2_comp_0 (all_cons c2_comp_1 (all_nil)))
end XL
end
section
set_option maxRecDepth 100000
set_option maxHeartbeats 0
/-! XL6_3: the cases of 3 places, by the kernel; printed by gen_l6.py. -/
namespace XL
open PySem PySem.Spec PyProof.Rows L2

theorem c3_s1 (a b c : Int) : r1 (slA (.ofNat 3)) [cupC a b c] = some (.nx (slB (.ofNat 3) K3) [cupC a b c]) := by kernel_rfl
theorem c3_st : stB (.ofNat 3) K3 = true := by kernel_rfl
theorem c3_fl : flB K3 = true := by kernel_rfl
theorem c3_sp : spB 3 = true := by kernel_rfl
theorem c3_s34_0 (far : D) (a b c : Int) : xSeq r3 r4 (slC (.ofNat 3) K3 (fN [3]) far) [cupC a b c] = some (.nx (sl0 (.ofNat 3) K3 (fN [3]) far) [cupC a b c, .lst (someT (.ofNat 3) (fN [3]) K3), .lst []]) := by kernel_rfl
theorem c3_made_0 : madeB K3 (fN [3]) = true := by kernel_rfl
theorem c3_comp_0 : compB 3 (fN [3]) = true := by kernel_rfl
theorem c3_mid_0_0 : okM (.ofNat 3) K3 (fN [3]) (fN [3]) := fun a b c => by kernel_rfl
theorem c3_mid_0_1 : okM (.ofNat 3) K3 (fN [3]) (fN [2, 1]) := fun a b c => by kernel_rfl
theorem c3_mid_0_2 : okM (.ofNat 3) K3 (fN [3]) (fN [1, 1, 1]) := fun a b c => by kernel_rfl
theorem c3_s34_1 (far : D) (a b c : Int) : xSeq r3 r4 (slC (.ofNat 3) K3 (fN [2, 1]) far) [cupC a b c] = some (.nx (sl0 (.ofNat 3) K3 (fN [2, 1]) far) [cupC a b c, .lst (someT (.ofNat 3) (fN [2, 1]) K3), .lst []]) := by kernel_rfl
theorem c3_made_1 : madeB K3 (fN [2, 1]) = true := by kernel_rfl
theorem c3_comp_1 : compB 3 (fN [2, 1]) = true := by kernel_rfl
theorem c3_mid_1_0 : okM (.ofNat 3) K3 (fN [2, 1]) (fN [3]) := fun a b c => by kernel_rfl
theorem c3_mid_1_1 : okM (.ofNat 3) K3 (fN [2, 1]) (fN [2, 1]) := fun a b c => by kernel_rfl
theorem c3_mid_1_2 : okM (.ofNat 3) K3 (fN [2, 1]) (fN [1, 1, 1]) := fun a b c => by kernel_rfl
theorem c3_s34_2 (far : D) (a b c : Int) : xSeq r3 r4 (slC (.ofNat 3) K3 (fN [1, 1, 1]) far) [cupC a b c] = some (.nx (sl0 (.ofNat 3) K3 (fN [1, 1, 1]) far) [cupC a b c, .lst (someT (.ofNat 3) (fN [1, 1, 1]) K3), .lst []]) := by kernel_rfl
theorem c3_made_2 : madeB K3 (fN [1, 1, 1]) = true := by kernel_rfl
theorem c3_comp_2 : compB 3 (fN [1, 1, 1]) = true := by kernel_rfl
theorem c3_mid_2_0 : okM (.ofNat 3) K3 (fN [1, 1, 1]) (fN [3]) := fun a b c => by kernel_rfl
theorem c3_mid_2_1 : okM (.ofNat 3) K3 (fN [1, 1, 1]) (fN [2, 1]) := fun a b c => by kernel_rfl
theorem c3_mid_2_2 : okM (.ofNat 3) K3 (fN [1, 1, 1]) (fN [1, 1, 1]) := fun a b c => by kernel_rfl
theorem case3 : Case 3 K3 where
  k1 := by decide
  k2 := by decide
  n5 := by decide
  s1 := c3_s1
  s34 := all_cons c3_s34_0 (all_cons c3_s34_1 (all_cons c3_s34_2 (all_nil)))
  st := st_of c3_st
  mid := all_cons (all_cons c3_mid_0_0 (all_cons c3_mid_0_1 (all_cons c3_mid_0_2 (all_nil)))) (all_cons (all_cons c3_mid_1_0 (all_cons c3_mid_1_1 (all_cons c3_mid_1_2 (all_nil)))) (all_cons (all_cons c3_mid_2_0 (all_cons c3_mid_2_1 (all_cons c3_mid_2_2 (all_nil)))) (all_nil)))
  made := made_of (all_cons c3_made_0 (all_cons c3_made_1 (all_cons c3_made_2 (all_nil))))
  fl := (fl_of c3_fl).1
  flb := (fl_of c3_fl).2
  comp := comp_of c3_sp (all_cons c3_comp_0 (all_cons c3_comp_1 (all_cons c3_comp_2 (all_nil))))
end XL
end
section
set_option maxRecDepth 100000
set_option maxHeartbeats 0
/-! XL6_4: the cases of 4 places, by the kernel; printed by gen_l6.py. -/
namespace XL
open PySem PySem.Spec PyProof.Rows L2

theorem c4_s1 (a b c : Int) : r1 (slA (.ofNat 4)) [cupC a b c] = some (.nx (slB (.ofNat 4) K4) [cupC a b c]) := by kernel_rfl
theorem c4_st : stB (.ofNat 4) K4 = true := by kernel_rfl
theorem c4_fl : flB K4 = true := by kernel_rfl
theorem c4_sp : spB 4 = true := by kernel_rfl
theorem c4_s34_0 (far : D) (a b c : Int) : xSeq r3 r4 (slC (.ofNat 4) K4 (fN [4]) far) [cupC a b c] = some (.nx (sl0 (.ofNat 4) K4 (fN [4]) far) [cupC a b c, .lst (someT (.ofNat 4) (fN [4]) K4), .lst []]) := by kernel_rfl
theorem c4_made_0 : madeB K4 (fN [4]) = true := by kernel_rfl
theorem c4_comp_0 : compB 4 (fN [4]) = true := by kernel_rfl
theorem c4_mid_0_0 : okM (.ofNat 4) K4 (fN [4]) (fN [4]) := fun a b c => by kernel_rfl
theorem c4_mid_0_1 : okM (.ofNat 4) K4 (fN [4]) (fN [3, 1]) := fun a b c => by kernel_rfl
theorem c4_mid_0_2 : okM (.ofNat 4) K4 (fN [4]) (fN [2, 2]) := fun a b c => by kernel_rfl
theorem c4_mid_0_3 : okM (.ofNat 4) K4 (fN [4]) (fN [2, 1, 1]) := fun a b c => by kernel_rfl
theorem c4_mid_0_4 : okM (.ofNat 4) K4 (fN [4]) (fN [1, 1, 1, 1]) := fun a b c => by kernel_rfl
theorem c4_s34_1 (far : D) (a b c : Int) : xSeq r3 r4 (slC (.ofNat 4) K4 (fN [3, 1]) far) [cupC a b c] = some (.nx (sl0 (.ofNat 4) K4 (fN [3, 1]) far) [cupC a b c, .lst (someT (.ofNat 4) (fN [3, 1]) K4), .lst []]) := by kernel_rfl
theorem c4_made_1 : madeB K4 (fN [3, 1]) = true := by kernel_rfl
theorem c4_comp_1 : compB 4 (fN [3, 1]) = true := by kernel_rfl
theorem c4_mid_1_0 : okM (.ofNat 4) K4 (fN [3, 1]) (fN [4]) := fun a b c => by kernel_rfl
theorem c4_mid_1_1 : okM (.ofNat 4) K4 (fN [3, 1]) (fN [3, 1]) := fun a b c => by kernel_rfl
theorem c4_mid_1_2 : okM (.ofNat 4) K4 (fN [3, 1]) (fN [2, 2]) := fun a b c => by kernel_rfl
theorem c4_mid_1_3 : okM (.ofNat 4) K4 (fN [3, 1]) (fN [2, 1, 1]) := fun a b c => by kernel_rfl
theorem c4_mid_1_4 : okM (.ofNat 4) K4 (fN [3, 1]) (fN [1, 1, 1, 1]) := fun a b c => by kernel_rfl
theorem c4_s34_2 (far : D) (a b c : Int) : xSeq r3 r4 (slC (.ofNat 4) K4 (fN [2, 2]) far) [cupC a b c] = some (.nx (sl0 (.ofNat 4) K4 (fN [2, 2]) far) [cupC a b c, .lst (someT (.ofNat 4) (fN [2, 2]) K4), .lst []]) := by kernel_rfl
theorem c4_made_2 : madeB K4 (fN [2, 2]) = true := by kernel_rfl
theorem c4_comp_2 : compB 4 (fN [2, 2]) = true := by kernel_rfl
theorem c4_mid_2_0 : okM (.ofNat 4) K4 (fN [2, 2]) (fN [4]) := fun a b c => by kernel_rfl
theorem c4_mid_2_1 : okM (.ofNat 4) K4 (fN [2, 2]) (fN [3, 1]) := fun a b c => by kernel_rfl
theorem c4_mid_2_2 : okM (.ofNat 4) K4 (fN [2, 2]) (fN [2, 2]) := fun a b c => by kernel_rfl
theorem c4_mid_2_3 : okM (.ofNat 4) K4 (fN [2, 2]) (fN [2, 1, 1]) := fun a b c => by kernel_rfl
theorem c4_mid_2_4 : okM (.ofNat 4) K4 (fN [2, 2]) (fN [1, 1, 1, 1]) := fun a b c => by kernel_rfl
theorem c4_s34_3 (far : D) (a b c : Int) : xSeq r3 r4 (slC (.ofNat 4) K4 (fN [2, 1, 1]) far) [cupC a b c] = some (.nx (sl0 (.ofNat 4) K4 (fN [2, 1, 1]) far) [cupC a b c, .lst (someT (.ofNat 4) (fN [2, 1, 1]) K4), .lst []]) := by kernel_rfl
theorem c4_made_3 : madeB K4 (fN [2, 1, 1]) = true := by kernel_rfl
theorem c4_comp_3 : compB 4 (fN [2, 1, 1]) = true := by kernel_rfl
theorem c4_mid_3_0 : okM (.ofNat 4) K4 (fN [2, 1, 1]) (fN [4]) := fun a b c => by kernel_rfl
theorem c4_mid_3_1 : okM (.ofNat 4) K4 (fN [2, 1, 1]) (fN [3, 1]) := fun a b c => by kernel_rfl
theorem c4_mid_3_2 : okM (.ofNat 4) K4 (fN [2, 1, 1]) (fN [2, 2]) := fun a b c => by kernel_rfl
theorem c4_mid_3_3 : okM (.ofNat 4) K4 (fN [2, 1, 1]) (fN [2, 1, 1]) := fun a b c => by kernel_rfl
theorem c4_mid_3_4 : okM (.ofNat 4) K4 (fN [2, 1, 1]) (fN [1, 1, 1, 1]) := fun a b c => by kernel_rfl
theorem c4_s34_4 (far : D) (a b c : Int) : xSeq r3 r4 (slC (.ofNat 4) K4 (fN [1, 1, 1, 1]) far) [cupC a b c] = some (.nx (sl0 (.ofNat 4) K4 (fN [1, 1, 1, 1]) far) [cupC a b c, .lst (someT (.ofNat 4) (fN [1, 1, 1, 1]) K4), .lst []]) := by kernel_rfl
theorem c4_made_4 : madeB K4 (fN [1, 1, 1, 1]) = true := by kernel_rfl
theorem c4_comp_4 : compB 4 (fN [1, 1, 1, 1]) = true := by kernel_rfl
theorem c4_mid_4_0 : okM (.ofNat 4) K4 (fN [1, 1, 1, 1]) (fN [4]) := fun a b c => by kernel_rfl
theorem c4_mid_4_1 : okM (.ofNat 4) K4 (fN [1, 1, 1, 1]) (fN [3, 1]) := fun a b c => by kernel_rfl
theorem c4_mid_4_2 : okM (.ofNat 4) K4 (fN [1, 1, 1, 1]) (fN [2, 2]) := fun a b c => by kernel_rfl
theorem c4_mid_4_3 : okM (.ofNat 4) K4 (fN [1, 1, 1, 1]) (fN [2, 1, 1]) := fun a b c => by kernel_rfl
theorem c4_mid_4_4 : okM (.ofNat 4) K4 (fN [1, 1, 1, 1]) (fN [1, 1, 1, 1]) := fun a b c => by kernel_rfl
theorem case4 : Case 4 K4 where
  k1 := by decide
  k2 := by decide
  n5 := by decide
  s1 := c4_s1
  s34 := all_cons c4_s34_0 (all_cons c4_s34_1 (all_cons c4_s34_2 (all_cons c4_s34_3 (all_cons c4_s34_4 (all_nil)))))
  st := st_of c4_st
  mid := all_cons (all_cons c4_mid_0_0 (all_cons c4_mid_0_1 (all_cons c4_mid_0_2 (all_cons c4_mid_0_3 (all_cons c4_mid_0_4 (all_nil)))))) (all_cons (all_cons c4_mid_1_0 (all_cons c4_mid_1_1 (all_cons c4_mid_1_2 (all_cons c4_mid_1_3 (all_cons c4_mid_1_4 (all_nil)))))) (all_cons (all_cons c4_mid_2_0 (all_cons c4_mid_2_1 (all_cons c4_mid_2_2 (all_cons c4_mid_2_3 (all_cons c4_mid_2_4 (all_nil)))))) (all_cons (all_cons c4_mid_3_0 (all_cons c4_mid_3_1 (all_cons c4_mid_3_2 (all_cons c4_mid_3_3 (all_cons c4_mid_3_4 (all_nil)))))) (all_cons (all_cons c4_mid_4_0 (all_cons c4_mid_4_1 (all_cons c4_mid_4_2 (all_cons c4_mid_4_3 (all_cons c4_mid_4_4 (all_nil)))))) (all_nil)))))
  made := made_of (all_cons c4_made_0 (all_cons c4_made_1 (all_cons c4_made_2 (all_cons c4_made_3 (all_cons c4_made_4 (all_nil))))))
  fl := (fl_of c4_fl).1
  flb := (fl_of c4_fl).2
  comp := comp_of c4_sp (all_cons c4_comp_0 (all_cons c4_comp_1 (all_cons c4_comp_2 (all_cons c4_comp_3 (all_cons c4_comp_4 (all_nil))))))
end XL
end
section
set_option maxRecDepth 100000
set_option maxHeartbeats 0
/-! XL6_5: the cases of 5 places, by the kernel; printed by gen_l6.py. -/
namespace XL
open PySem PySem.Spec PyProof.Rows L2

theorem c5_s1 (a b c : Int) : r1 (slA (.ofNat 5)) [cupC a b c] = some (.nx (slB (.ofNat 5) K5) [cupC a b c]) := by kernel_rfl
theorem c5_st : stB (.ofNat 5) K5 = true := by kernel_rfl
theorem c5_fl : flB K5 = true := by kernel_rfl
theorem c5_sp : spB 5 = true := by kernel_rfl
theorem c5_s34_0 (far : D) (a b c : Int) : xSeq r3 r4 (slC (.ofNat 5) K5 (fN [5]) far) [cupC a b c] = some (.nx (sl0 (.ofNat 5) K5 (fN [5]) far) [cupC a b c, .lst (someT (.ofNat 5) (fN [5]) K5), .lst []]) := by kernel_rfl
theorem c5_made_0 : madeB K5 (fN [5]) = true := by kernel_rfl
theorem c5_comp_0 : compB 5 (fN [5]) = true := by kernel_rfl
theorem c5_mid_0_0 : okM (.ofNat 5) K5 (fN [5]) (fN [5]) := fun a b c => by kernel_rfl
theorem c5_mid_0_1 : okM (.ofNat 5) K5 (fN [5]) (fN [4, 1]) := fun a b c => by kernel_rfl
theorem c5_mid_0_2 : okM (.ofNat 5) K5 (fN [5]) (fN [3, 2]) := fun a b c => by kernel_rfl
theorem c5_mid_0_3 : okM (.ofNat 5) K5 (fN [5]) (fN [3, 1, 1]) := fun a b c => by kernel_rfl
theorem c5_mid_0_4 : okM (.ofNat 5) K5 (fN [5]) (fN [2, 2, 1]) := fun a b c => by kernel_rfl
theorem c5_mid_0_5 : okM (.ofNat 5) K5 (fN [5]) (fN [2, 1, 1, 1]) := fun a b c => by kernel_rfl
theorem c5_mid_0_6 : okM (.ofNat 5) K5 (fN [5]) (fN [1, 1, 1, 1, 1]) := fun a b c => by kernel_rfl
theorem c5_s34_1 (far : D) (a b c : Int) : xSeq r3 r4 (slC (.ofNat 5) K5 (fN [4, 1]) far) [cupC a b c] = some (.nx (sl0 (.ofNat 5) K5 (fN [4, 1]) far) [cupC a b c, .lst (someT (.ofNat 5) (fN [4, 1]) K5), .lst []]) := by kernel_rfl
theorem c5_made_1 : madeB K5 (fN [4, 1]) = true := by kernel_rfl
theorem c5_comp_1 : compB 5 (fN [4, 1]) = true := by kernel_rfl
theorem c5_mid_1_0 : okM (.ofNat 5) K5 (fN [4, 1]) (fN [5]) := fun a b c => by kernel_rfl
theorem c5_mid_1_1 : okM (.ofNat 5) K5 (fN [4, 1]) (fN [4, 1]) := fun a b c => by kernel_rfl
theorem c5_mid_1_2 : okM (.ofNat 5) K5 (fN [4, 1]) (fN [3, 2]) := fun a b c => by kernel_rfl
theorem c5_mid_1_3 : okM (.ofNat 5) K5 (fN [4, 1]) (fN [3, 1, 1]) := fun a b c => by kernel_rfl
theorem c5_mid_1_4 : okM (.ofNat 5) K5 (fN [4, 1]) (fN [2, 2, 1]) := fun a b c => by kernel_rfl
theorem c5_mid_1_5 : okM (.ofNat 5) K5 (fN [4, 1]) (fN [2, 1, 1, 1]) := fun a b c => by kernel_rfl
theorem c5_mid_1_6 : okM (.ofNat 5) K5 (fN [4, 1]) (fN [1, 1, 1, 1, 1]) := fun a b c => by kernel_rfl
theorem c5_s34_2 (far : D) (a b c : Int) : xSeq r3 r4 (slC (.ofNat 5) K5 (fN [3, 2]) far) [cupC a b c] = some (.nx (sl0 (.ofNat 5) K5 (fN [3, 2]) far) [cupC a b c, .lst (someT (.ofNat 5) (fN [3, 2]) K5), .lst []]) := by kernel_rfl
theorem c5_made_2 : madeB K5 (fN [3, 2]) = true := by kernel_rfl
theorem c5_comp_2 : compB 5 (fN [3, 2]) = true := by kernel_rfl
theorem c5_mid_2_0 : okM (.ofNat 5) K5 (fN [3, 2]) (fN [5]) := fun a b c => by kernel_rfl
theorem c5_mid_2_1 : okM (.ofNat 5) K5 (fN [3, 2]) (fN [4, 1]) := fun a b c => by kernel_rfl
theorem c5_mid_2_2 : okM (.ofNat 5) K5 (fN [3, 2]) (fN [3, 2]) := fun a b c => by kernel_rfl
theorem c5_mid_2_3 : okM (.ofNat 5) K5 (fN [3, 2]) (fN [3, 1, 1]) := fun a b c => by kernel_rfl
theorem c5_mid_2_4 : okM (.ofNat 5) K5 (fN [3, 2]) (fN [2, 2, 1]) := fun a b c => by kernel_rfl
theorem c5_mid_2_5 : okM (.ofNat 5) K5 (fN [3, 2]) (fN [2, 1, 1, 1]) := fun a b c => by kernel_rfl
theorem c5_mid_2_6 : okM (.ofNat 5) K5 (fN [3, 2]) (fN [1, 1, 1, 1, 1]) := fun a b c => by kernel_rfl
theorem c5_s34_3 (far : D) (a b c : Int) : xSeq r3 r4 (slC (.ofNat 5) K5 (fN [3, 1, 1]) far) [cupC a b c] = some (.nx (sl0 (.ofNat 5) K5 (fN [3, 1, 1]) far) [cupC a b c, .lst (someT (.ofNat 5) (fN [3, 1, 1]) K5), .lst []]) := by kernel_rfl
theorem c5_made_3 : madeB K5 (fN [3, 1, 1]) = true := by kernel_rfl
theorem c5_comp_3 : compB 5 (fN [3, 1, 1]) = true := by kernel_rfl
theorem c5_mid_3_0 : okM (.ofNat 5) K5 (fN [3, 1, 1]) (fN [5]) := fun a b c => by kernel_rfl
theorem c5_mid_3_1 : okM (.ofNat 5) K5 (fN [3, 1, 1]) (fN [4, 1]) := fun a b c => by kernel_rfl
theorem c5_mid_3_2 : okM (.ofNat 5) K5 (fN [3, 1, 1]) (fN [3, 2]) := fun a b c => by kernel_rfl
theorem c5_mid_3_3 : okM (.ofNat 5) K5 (fN [3, 1, 1]) (fN [3, 1, 1]) := fun a b c => by kernel_rfl
theorem c5_mid_3_4 : okM (.ofNat 5) K5 (fN [3, 1, 1]) (fN [2, 2, 1]) := fun a b c => by kernel_rfl
theorem c5_mid_3_5 : okM (.ofNat 5) K5 (fN [3, 1, 1]) (fN [2, 1, 1, 1]) := fun a b c => by kernel_rfl
theorem c5_mid_3_6 : okM (.ofNat 5) K5 (fN [3, 1, 1]) (fN [1, 1, 1, 1, 1]) := fun a b c => by kernel_rfl
theorem c5_s34_4 (far : D) (a b c : Int) : xSeq r3 r4 (slC (.ofNat 5) K5 (fN [2, 2, 1]) far) [cupC a b c] = some (.nx (sl0 (.ofNat 5) K5 (fN [2, 2, 1]) far) [cupC a b c, .lst (someT (.ofNat 5) (fN [2, 2, 1]) K5), .lst []]) := by kernel_rfl
theorem c5_made_4 : madeB K5 (fN [2, 2, 1]) = true := by kernel_rfl
theorem c5_comp_4 : compB 5 (fN [2, 2, 1]) = true := by kernel_rfl
theorem c5_mid_4_0 : okM (.ofNat 5) K5 (fN [2, 2, 1]) (fN [5]) := fun a b c => by kernel_rfl
theorem c5_mid_4_1 : okM (.ofNat 5) K5 (fN [2, 2, 1]) (fN [4, 1]) := fun a b c => by kernel_rfl
theorem c5_mid_4_2 : okM (.ofNat 5) K5 (fN [2, 2, 1]) (fN [3, 2]) := fun a b c => by kernel_rfl
theorem c5_mid_4_3 : okM (.ofNat 5) K5 (fN [2, 2, 1]) (fN [3, 1, 1]) := fun a b c => by kernel_rfl
theorem c5_mid_4_4 : okM (.ofNat 5) K5 (fN [2, 2, 1]) (fN [2, 2, 1]) := fun a b c => by kernel_rfl
theorem c5_mid_4_5 : okM (.ofNat 5) K5 (fN [2, 2, 1]) (fN [2, 1, 1, 1]) := fun a b c => by kernel_rfl
theorem c5_mid_4_6 : okM (.ofNat 5) K5 (fN [2, 2, 1]) (fN [1, 1, 1, 1, 1]) := fun a b c => by kernel_rfl
theorem c5_s34_5 (far : D) (a b c : Int) : xSeq r3 r4 (slC (.ofNat 5) K5 (fN [2, 1, 1, 1]) far) [cupC a b c] = some (.nx (sl0 (.ofNat 5) K5 (fN [2, 1, 1, 1]) far) [cupC a b c, .lst (someT (.ofNat 5) (fN [2, 1, 1, 1]) K5), .lst []]) := by kernel_rfl
theorem c5_made_5 : madeB K5 (fN [2, 1, 1, 1]) = true := by kernel_rfl
theorem c5_comp_5 : compB 5 (fN [2, 1, 1, 1]) = true := by kernel_rfl
theorem c5_mid_5_0 : okM (.ofNat 5) K5 (fN [2, 1, 1, 1]) (fN [5]) := fun a b c => by kernel_rfl
theorem c5_mid_5_1 : okM (.ofNat 5) K5 (fN [2, 1, 1, 1]) (fN [4, 1]) := fun a b c => by kernel_rfl
theorem c5_mid_5_2 : okM (.ofNat 5) K5 (fN [2, 1, 1, 1]) (fN [3, 2]) := fun a b c => by kernel_rfl
theorem c5_mid_5_3 : okM (.ofNat 5) K5 (fN [2, 1, 1, 1]) (fN [3, 1, 1]) := fun a b c => by kernel_rfl
theorem c5_mid_5_4 : okM (.ofNat 5) K5 (fN [2, 1, 1, 1]) (fN [2, 2, 1]) := fun a b c => by kernel_rfl
theorem c5_mid_5_5 : okM (.ofNat 5) K5 (fN [2, 1, 1, 1]) (fN [2, 1, 1, 1]) := fun a b c => by kernel_rfl
theorem c5_mid_5_6 : okM (.ofNat 5) K5 (fN [2, 1, 1, 1]) (fN [1, 1, 1, 1, 1]) := fun a b c => by kernel_rfl
theorem c5_s34_6 (far : D) (a b c : Int) : xSeq r3 r4 (slC (.ofNat 5) K5 (fN [1, 1, 1, 1, 1]) far) [cupC a b c] = some (.nx (sl0 (.ofNat 5) K5 (fN [1, 1, 1, 1, 1]) far) [cupC a b c, .lst (someT (.ofNat 5) (fN [1, 1, 1, 1, 1]) K5), .lst []]) := by kernel_rfl
theorem c5_made_6 : madeB K5 (fN [1, 1, 1, 1, 1]) = true := by kernel_rfl
theorem c5_comp_6 : compB 5 (fN [1, 1, 1, 1, 1]) = true := by kernel_rfl
theorem c5_mid_6_0 : okM (.ofNat 5) K5 (fN [1, 1, 1, 1, 1]) (fN [5]) := fun a b c => by kernel_rfl
theorem c5_mid_6_1 : okM (.ofNat 5) K5 (fN [1, 1, 1, 1, 1]) (fN [4, 1]) := fun a b c => by kernel_rfl
theorem c5_mid_6_2 : okM (.ofNat 5) K5 (fN [1, 1, 1, 1, 1]) (fN [3, 2]) := fun a b c => by kernel_rfl
theorem c5_mid_6_3 : okM (.ofNat 5) K5 (fN [1, 1, 1, 1, 1]) (fN [3, 1, 1]) := fun a b c => by kernel_rfl
theorem c5_mid_6_4 : okM (.ofNat 5) K5 (fN [1, 1, 1, 1, 1]) (fN [2, 2, 1]) := fun a b c => by kernel_rfl
theorem c5_mid_6_5 : okM (.ofNat 5) K5 (fN [1, 1, 1, 1, 1]) (fN [2, 1, 1, 1]) := fun a b c => by kernel_rfl
theorem c5_mid_6_6 : okM (.ofNat 5) K5 (fN [1, 1, 1, 1, 1]) (fN [1, 1, 1, 1, 1]) := fun a b c => by kernel_rfl
theorem case5 : Case 5 K5 where
  k1 := by decide
  k2 := by decide
  n5 := by decide
  s1 := c5_s1
  s34 := all_cons c5_s34_0 (all_cons c5_s34_1 (all_cons c5_s34_2 (all_cons c5_s34_3 (all_cons c5_s34_4 (all_cons c5_s34_5 (all_cons c5_s34_6 (all_nil)))))))
  st := st_of c5_st
  mid := all_cons (all_cons c5_mid_0_0 (all_cons c5_mid_0_1 (all_cons c5_mid_0_2 (all_cons c5_mid_0_3 (all_cons c5_mid_0_4 (all_cons c5_mid_0_5 (all_cons c5_mid_0_6 (all_nil)))))))) (all_cons (all_cons c5_mid_1_0 (all_cons c5_mid_1_1 (all_cons c5_mid_1_2 (all_cons c5_mid_1_3 (all_cons c5_mid_1_4 (all_cons c5_mid_1_5 (all_cons c5_mid_1_6 (all_nil)))))))) (all_cons (all_cons c5_mid_2_0 (all_cons c5_mid_2_1 (all_cons c5_mid_2_2 (all_cons c5_mid_2_3 (all_cons c5_mid_2_4 (all_cons c5_mid_2_5 (all_cons c5_mid_2_6 (all_nil)))))))) (all_cons (all_cons c5_mid_3_0 (all_cons c5_mid_3_1 (all_cons c5_mid_3_2 (all_cons c5_mid_3_3 (all_cons c5_mid_3_4 (all_cons c5_mid_3_5 (all_cons c5_mid_3_6 (all_nil)))))))) (all_cons (all_cons c5_mid_4_0 (all_cons c5_mid_4_1 (all_cons c5_mid_4_2 (all_cons c5_mid_4_3 (all_cons c5_mid_4_4 (all_cons c5_mid_4_5 (all_cons c5_mid_4_6 (all_nil)))))))) (all_cons (all_cons c5_mid_5_0 (all_cons c5_mid_5_1 (all_cons c5_mid_5_2 (all_cons c5_mid_5_3 (all_cons c5_mid_5_4 (all_cons c5_mid_5_5 (all_cons c5_mid_5_6 (all_nil)))))))) (all_cons (all_cons c5_mid_6_0 (all_cons c5_mid_6_1 (all_cons c5_mid_6_2 (all_cons c5_mid_6_3 (all_cons c5_mid_6_4 (all_cons c5_mid_6_5 (all_cons c5_mid_6_6 (all_nil)))))))) (all_nil)))))))
  made := made_of (all_cons c5_made_0 (all_cons c5_made_1 (all_cons c5_made_2 (all_cons c5_made_3 (all_cons c5_made_4 (all_cons c5_made_5 (all_cons c5_made_6 (all_nil))))))))
  fl := (fl_of c5_fl).1
  flb := (fl_of c5_fl).2
  comp := comp_of c5_sp (all_cons c5_comp_0 (all_cons c5_comp_1 (all_cons c5_comp_2 (all_cons c5_comp_3 (all_cons c5_comp_4 (all_cons c5_comp_5 (all_cons c5_comp_6 (all_nil))))))))
end XL
end
section
set_option maxRecDepth 100000
set_option maxHeartbeats 0
/-! XJoin: all defs of the text, joined; printed by gen_join.py. -/
namespace XL
open PySem PySem.Spec PyProof.Rows L2
/-- the defs of the text that make no lambda -/
structure Dfs (K : PySem.W.Frag) (mg : Str → Option Value) : Prop where
  d_is_integer : DefAt K mg "is_integer" (top 10)
  d_is_between : DefAt K mg "is_between" (top 11)
  d_check_number : DefAt K mg "check_number" (top 12)
  d_ratio : DefAt K mg "ratio" (top 13)
  d_common : DefAt K mg "common" (top 14)
  d_factorial : DefAt K mg "factorial" (top 15)
  d_is_turn : DefAt K mg "is_turn" (top 17)
  d_check_turn : DefAt K mg "check_turn" (top 18)
  d_check_turns : DefAt K mg "check_turns" (top 19)
  d_rings_of : DefAt K mg "rings_of" (top 20)
  d_falling : DefAt K mg "falling" (top 21)
  d_kind_for : DefAt K mg "kind_for" (top 22)
  d_after : DefAt K mg "after" (top 23)
  d_from_rings : DefAt K mg "from_rings" (top 24)
  d_rings : DefAt K mg "rings" (top 25)
  d_kind_of : DefAt K mg "kind_of" (top 26)
  d_then : DefAt K mg "then" (top 27)
  d_is_kind : DefAt K mg "is_kind" (top 29)
  d_check_kind : DefAt K mg "check_kind" (top 30)
  d_check_both : DefAt K mg "check_both" (top 31)
  d_kinds_with : DefAt K mg "kinds_with" (top 32)
  d_number_of_turns : DefAt K mg "number_of_turns" (top 33)
  d_all_kinds : DefAt K mg "all_kinds" (top 34)
  d_how_many_turns : DefAt K mg "how_many_turns" (top 35)
  d_excess : DefAt K mg "excess" (top 37)
  d_barred_by : DefAt K mg "barred_by" (top 38)
  d_check_can : DefAt K mg "check_can" (top 39)
  d_split : DefAt K mg "split" (top 40)
  d_grown : DefAt K mg "grown" (top 42)
  d_three_turn : DefAt K mg "three_turn" (top 43)
  d_glued : DefAt K mg "glued" (top 44)
  d_pieces_at : DefAt K mg "pieces_at" (top 45)
  d_all_glued : DefAt K mg "all_glued" (top 46)
  d_made : DefAt K mg "made" (top 47)
  d_in_lengths : DefAt K mg "in_lengths" (top 48)
  d_completed : DefAt K mg "completed" (top 49)
  d_can : DefAt K mg "can" (top 50)
  d_bars : DefAt K mg "bars" (top 51)
  d_make : DefAt K mg "make" (top 52)
  d_complete : DefAt K mg "complete" (top 53)
  d_fewest_rings : DefAt K mg "fewest_rings" (top 54)
  d_factors_of : DefAt K mg "factors_of" (top 55)
  d_chosen : DefAt K mg "chosen" (top 56)
  d_count_of : DefAt K mg "count_of" (top 57)
  d_how_many_joins : DefAt K mg "how_many_joins" (top 58)
  d_share : DefAt K mg "share" (top 59)
  d_plane_joins : DefAt K mg "plane_joins" (top 60)
  d__law_cup : DefAt K mg "_law_cup" (top 62)
  d__law_sip : DefAt K mg "_law_sip" (top 63)
  d__law_of : DefAt K mg "_law_of" (top 64)
  d__law_spin : DefAt K mg "_law_spin" (top 65)
  d__law_loops : DefAt K mg "_law_loops" (top 66)
  d__law_lens : DefAt K mg "_law_lens" (top 67)
  d__law_behind : DefAt K mg "_law_behind" (top 68)
  d__law_all : DefAt K mg "_law_all" (top 69)
  d__law_caught : DefAt K mg "_law_caught" (top 70)
  d__law_of_kind : DefAt K mg "_law_of_kind" (top 71)
  d__law_ratio : DefAt K mg "_law_ratio" (top 72)
  d_law : DefAt K mg "law" (top 76)
theorem cases_all : ∀ n : Nat, 1 ≤ n → n ≤ 5 → ∃ K, Case n K := fun n h1 h2 => by
  match n, h1, h2 with
  | 1, _, _ => exact ⟨_, case1⟩
  | 2, _, _ => exact ⟨_, case2⟩
  | 3, _, _ => exact ⟨_, case3⟩
  | 4, _, _ => exact ⟨_, case4⟩
  | 5, _, _ => exact ⟨_, case5⟩
theorem join {P : Program} {w : World} {K : PySem.W.Frag} {mg : Str → Option Value} {base : Heap} {T : Tb} {CT CB c1 c2 c3 P1 P2 P3 : Addr} (B : Blt mg) (tree : TreeAt K mg CT) (bar : BarAt K mg CB) (D : Dfs K mg)
    (l1 : DefL K mg "_law_made_right" (top 73) c1) (l2 : DefL K mg "_law_completed_right" (top 74) c2) (l3 : DefL K mg "_law_right" (top 75) c3)
    (t1 : TbAt base mg T c1 P1 "_law_made_right.<locals>.<lambda>") (t2 : TbAt base mg T c2 P2 "_law_completed_right.<locals>.<lambda>") (t3 : TbAt base mg T c3 P3 "_law_right.<locals>.<lambda>") : FG P w K mg base 12 "law" ["_law_cells"] (spLaw T K) := by
  have H_f_is_integer := k_is_integer (P := P) (w := w) (base := base) (B := B) (d := D.d_is_integer)
  have H_f_is_between := k_is_between (P := P) (w := w) (base := base) (B := B) (d := D.d_is_between) (c_is_integer := H_f_is_integer)
  have H_f_check_number := k_check_number (P := P) (w := w) (base := base) (B := B) (d := D.d_check_number) (c_is_between := H_f_is_between)
  have H_f_common := k_common (P := P) (w := w) (base := base) (B := B) (d := D.d_common)
  have H_f_ratio := k_ratio (P := P) (w := w) (base := base) (B := B) (d := D.d_ratio) (c_common := H_f_common)
  have H_f_factorial := k_factorial (P := P) (w := w) (base := base) (B := B) (d := D.d_factorial)
  have H_f_is_turn := k_is_turn (P := P) (w := w) (base := base) (B := B) (d := D.d_is_turn) (c_is_integer := H_f_is_integer)
  have H_f_check_turn := k_check_turn (P := P) (w := w) (base := base) (B := B) (d := D.d_check_turn) (c_is_turn := H_f_is_turn)
  have H_f_check_turns := k_check_turns (P := P) (w := w) (base := base) (B := B) (d := D.d_check_turns) (c_check_turn := H_f_check_turn)
  have H_f_rings_of := k_rings_of (P := P) (w := w) (base := base) (B := B) (d := D.d_rings_of)
  have H_f_falling := k_falling (P := P) (w := w) (base := base) (B := B) (d := D.d_falling)
  have H_f_kind_for := k_kind_for (P := P) (w := w) (base := base) (B := B) (d := D.d_kind_for) (c_falling := H_f_falling) (c_rings_of := H_f_rings_of)
  have H_f_after := k_after (P := P) (w := w) (base := base) (B := B) (d := D.d_after)
  have H_f_from_rings := k_from_rings (P := P) (w := w) (base := base) (B := B) (d := D.d_from_rings)
  have H_f_rings := k_rings (P := P) (w := w) (base := base) (B := B) (d := D.d_rings) (c_rings_of := H_f_rings_of) (c_check_turn := H_f_check_turn)
  have H_f_kind_of := k_kind_of (P := P) (w := w) (base := base) (B := B) (d := D.d_kind_of) (c_kind_for := H_f_kind_for) (c_check_turn := H_f_check_turn)
  have H_f_then := k_then (P := P) (w := w) (base := base) (B := B) (d := D.d_then) (c_after := H_f_after) (c_check_turns := H_f_check_turns)
  have H_f_is_kind := k_is_kind (P := P) (w := w) (base := base) (B := B) (d := D.d_is_kind) (c_is_integer := H_f_is_integer)
  have H_f_check_kind := k_check_kind (P := P) (w := w) (base := base) (B := B) (d := D.d_check_kind) (c_is_kind := H_f_is_kind)
  have H_f_check_both := k_check_both (P := P) (w := w) (base := base) (B := B) (d := D.d_check_both) (c_check_kind := H_f_check_kind)
  have H_f_kinds_with := k_kinds_with (P := P) (w := w) (base := base) (B := B) (d := D.d_kinds_with) 7
  have H_f_number_of_turns := k_number_of_turns (P := P) (w := w) (base := base) (B := B) (d := D.d_number_of_turns) (c_factorial := H_f_factorial)
  have H_f_all_kinds := k_all_kinds (P := P) (w := w) (base := base) (B := B) (d := D.d_all_kinds) (c_kinds_with := H_f_kinds_with) (c_check_number := H_f_check_number)
  have H_f_how_many_turns := k_how_many_turns (P := P) (w := w) (base := base) (B := B) (d := D.d_how_many_turns) (c_number_of_turns := H_f_number_of_turns) (c_check_kind := H_f_check_kind)
  have H_f_excess := k_excess (P := P) (w := w) (base := base) (B := B) (d := D.d_excess)
  have H_f_barred_by := k_barred_by (P := P) (w := w) (base := base) (B := B) (d := D.d_barred_by) (c_excess := H_f_excess)
  have H_f_split := k_split (P := P) (w := w) (base := base) (B := B) (d := D.d_split)
  have H_f_three_turn := k_three_turn (P := P) (w := w) (base := base) (B := B) (d := D.d_three_turn) (c_from_rings := H_f_from_rings)
  have H_f_glued := k_glued (P := P) (w := w) (base := base) (B := B) (d := D.d_glued) (c_rings_of := H_f_rings_of) (c_after := H_f_after) (c_three_turn := H_f_three_turn)
  have H_f_pieces_at := k_pieces_at (P := P) (w := w) (base := base) (B := B) (d := D.d_pieces_at)
  have H_f_all_glued := k_all_glued (P := P) (w := w) (base := base) (B := B) (d := D.d_all_glued) (c_glued := H_f_glued)
  have H_f_in_lengths := k_in_lengths (P := P) (w := w) (base := base) (B := B) (d := D.d_in_lengths) (c_rings_of := H_f_rings_of)
  have H_f_can := k_can (P := P) (w := w) (base := base) (B := B) (d := D.d_can) (c_barred_by := H_f_barred_by) (c_check_both := H_f_check_both)
  have H_f_bars := k_bars (P := P) (w := w) (base := base) (B := B) (d := D.d_bars) (c_barred_by := H_f_barred_by) (c_check_both := H_f_check_both)
  have H_f_fewest_rings := k_fewest_rings (P := P) (w := w) (base := base) (B := B) (d := D.d_fewest_rings) (c_excess := H_f_excess) (c_check_both := H_f_check_both)
  have H_f_factors_of := k_factors_of (P := P) (w := w) (base := base) (B := B) (d := D.d_factors_of)
  have H_f_chosen := k_chosen (P := P) (w := w) (base := base) (B := B) (d := D.d_chosen)
  have H_f_count_of := k_count_of (P := P) (w := w) (base := base) (B := B) (d := D.d_count_of) (c_number_of_turns := H_f_number_of_turns) (c_factorial := H_f_factorial) (c_chosen := H_f_chosen) (c_factors_of := H_f_factors_of)
  have H_f_how_many_joins := k_how_many_joins (P := P) (w := w) (base := base) (B := B) (d := D.d_how_many_joins) (c_count_of := H_f_count_of) (c_check_both := H_f_check_both)
  have H_f_share := k_share (P := P) (w := w) (base := base) (B := B) (d := D.d_share) (c_ratio := H_f_ratio) (c_number_of_turns := H_f_number_of_turns) (c_count_of := H_f_count_of) (c_factorial := H_f_factorial) (c_check_both := H_f_check_both)
  have H_f__law_loops := k__law_loops (P := P) (w := w) (base := base) (B := B) (d := D.d__law_loops)
  have H_f__law_lens := k__law_lens (P := P) (w := w) (base := base) (B := B) (d := D.d__law_lens) (c__law_loops := H_f__law_loops)
  have H_f__law_behind := k__law_behind (P := P) (w := w) (base := base) (B := B) (d := D.d__law_behind)
  have H_f__law_all := k__law_all (P := P) (w := w) (base := base) (B := B) (d := D.d__law_all)
  have H_f__law_of_kind := k__law_of_kind (P := P) (w := w) (base := base) (B := B) (d := D.d__law_of_kind) (c__law_all := H_f__law_all) (c__law_lens := H_f__law_lens)
  have H_f__law_ratio := k__law_ratio (P := P) (w := w) (base := base) (B := B) (d := D.d__law_ratio)
  have H_f_grown := k_grown (P := P) (w := w) (base := base) (B := B) (c := tree) (d := D.d_grown)
  have H_f_made := k_made (P := P) (w := w) (base := base) (B := B) (d := D.d_made) (c_all_glued := H_f_all_glued) (c_pieces_at := H_f_pieces_at) (c_from_rings := H_f_from_rings) (c_grown := H_f_grown) (c_split := H_f_split) (c_excess := H_f_excess)
  have H_f_completed := k_completed (P := P) (w := w) (base := base) (B := B) (d := D.d_completed) (c_from_rings := H_f_from_rings) (c_rings_of := H_f_rings_of) (c_in_lengths := H_f_in_lengths) (c_made := H_f_made) (c_kind_for := H_f_kind_for)
  have H_f_check_can := k_check_can (P := P) (w := w) (base := base) (B := B) (bar := bar) (d := D.d_check_can) (c_barred_by := H_f_barred_by)
  have H_f_make := k_make (P := P) (w := w) (base := base) (B := B) (bar := bar) (d := D.d_make) (c_made := H_f_made) (c_check_can := H_f_check_can) (c_check_both := H_f_check_both)
  have H_f_complete := k_complete (P := P) (w := w) (base := base) (B := B) (bar := bar) (d := D.d_complete) (c_completed := H_f_completed) (c_check_can := H_f_check_can) (c_kind_for := H_f_kind_for) (c_check_kind := H_f_check_kind) (c_check_turn := H_f_check_turn)
  have H_f_plane_joins := k_plane_joins (P := P) (w := w) (base := base) (B := B) (bar := bar) (d := D.d_plane_joins) (c_count_of := H_f_count_of) (c_excess := H_f_excess) (c_check_can := H_f_check_can) (c_check_both := H_f_check_both)
  have H_g__law_loops := H_f__law_loops.imp (spC_imp m__law_loops)
  have H_g__law_lens := H_f__law_lens.imp (spC_imp m__law_lens)
  have H_g_rings_of := H_f_rings_of.imp (spC_imp m_rings_of)
  have H_g_kind_for := H_f_kind_for.imp (spC_imp m_kind_for)
  have H_g_in_lengths := H_f_in_lengths.imp (spC_imp m_in_lengths)
  have H_g_check_turn := H_f_check_turn.imp (spC_imp m_check_turn)
  have H_g_check_kind := H_f_check_kind.imp (spC_imp m_check_kind)
  have H_g__law_all := H_f__law_all.imp (spC_imp m__law_all)
  have H_f2__law_of_kind := k2__law_of_kind (P := P) (w := w) (base := base) (B := B) (d := D.d__law_of_kind) (c__law_all := H_g__law_all) (c__law_lens := H_g__law_lens)
  have H_g__law_of_kind := H_f2__law_of_kind.imp (spC_imp m__law_of_kind)
  have H_g__law_behind := H_f__law_behind.imp (spC_imp m__law_behind)
  have H_f2_glued := k2_glued (P := P) (w := w) (base := base) (B := B) (d := D.d_glued) (c_rings_of := H_g_rings_of) (c_after := H_f_after) (c_three_turn := H_f_three_turn)
  have H_f2_all_glued := k2_all_glued (P := P) (w := w) (base := base) (B := B) (d := D.d_all_glued) (c_glued := H_f2_glued)
  have H_f2_made := k2_made (P := P) (w := w) (base := base) (B := B) (d := D.d_made) (c_all_glued := H_f2_all_glued) (c_pieces_at := H_f_pieces_at) (c_from_rings := H_f_from_rings) (c_grown := H_f_grown) (c_split := H_f_split) (c_excess := H_f_excess)
  have H_g_made := H_f2_made.imp (spC_imp m_made)
  have H_g_barred_by := H_f_barred_by.imp (spC_imp m_barred_by)
  have H_g_check_both := H_f_check_both.imp (spC_imp m_check_both)
  have H_g_count_of := H_f_count_of.imp (spC_imp m_count_of)
  have H_f2_completed := k2_completed (P := P) (w := w) (base := base) (B := B) (d := D.d_completed) (c_from_rings := H_f_from_rings) (c_rings_of := H_g_rings_of) (c_in_lengths := H_g_in_lengths) (c_made := H_g_made) (c_kind_for := H_g_kind_for)
  have H_f2_check_can := k2_check_can (P := P) (w := w) (base := base) (B := B) (bar := bar) (d := D.d_check_can) (c_barred_by := H_g_barred_by)
  have H_f2_make := k2_make (P := P) (w := w) (base := base) (B := B) (bar := bar) (d := D.d_make) (c_made := H_g_made) (c_check_can := H_f2_check_can) (c_check_both := H_g_check_both)
  have H_f2_complete := k2_complete (P := P) (w := w) (base := base) (B := B) (bar := bar) (d := D.d_complete) (c_completed := H_f2_completed) (c_check_can := H_f2_check_can) (c_kind_for := H_g_kind_for) (c_check_kind := H_g_check_kind) (c_check_turn := H_g_check_turn)
  have H_f2_plane_joins := k2_plane_joins (P := P) (w := w) (base := base) (B := B) (bar := bar) (d := D.d_plane_joins) (c_count_of := H_g_count_of) (c_excess := H_f_excess) (c_check_can := H_f2_check_can) (c_check_both := H_g_check_both)
  have H_f2_can := k2_can (P := P) (w := w) (base := base) (B := B) (d := D.d_can) (c_barred_by := H_g_barred_by) (c_check_both := H_g_check_both)
  have H_f2_bars := k2_bars (P := P) (w := w) (base := base) (B := B) (d := D.d_bars) (c_barred_by := H_g_barred_by) (c_check_both := H_g_check_both)
  have H_f2_fewest_rings := k2_fewest_rings (P := P) (w := w) (base := base) (B := B) (d := D.d_fewest_rings) (c_excess := H_f_excess) (c_check_both := H_g_check_both)
  have H_f2_how_many_joins := k2_how_many_joins (P := P) (w := w) (base := base) (B := B) (d := D.d_how_many_joins) (c_count_of := H_g_count_of) (c_check_both := H_g_check_both)
  have H_f2_share := k2_share (P := P) (w := w) (base := base) (B := B) (d := D.d_share) (c_ratio := H_f_ratio) (c_number_of_turns := H_f_number_of_turns) (c_count_of := H_g_count_of) (c_factorial := H_f_factorial) (c_check_both := H_g_check_both)
  have H_f2_kind_of := k2_kind_of (P := P) (w := w) (base := base) (B := B) (d := D.d_kind_of) (c_kind_for := H_g_kind_for) (c_check_turn := H_g_check_turn)
  have H_f2_rings := k2_rings (P := P) (w := w) (base := base) (B := B) (d := D.d_rings) (c_rings_of := H_g_rings_of) (c_check_turn := H_g_check_turn)
  have H_f2_all_kinds := k2_all_kinds (P := P) (w := w) (base := base) (B := B) (d := D.d_all_kinds) (c_kinds_with := H_f_kinds_with) (c_check_number := H_f_check_number)
  have H_f2_how_many_turns := k2_how_many_turns (P := P) (w := w) (base := base) (B := B) (d := D.d_how_many_turns) (c_number_of_turns := H_f_number_of_turns) (c_check_kind := H_g_check_kind)
  have H_f__law_made_right := k__law_made_right (P := P) (w := w) (base := base) (T := T) (B := B) (bar := bar) (Dc := D.d__law_caught) (tab := t1) (c_rings := H_f2_rings) (c_then := H_f_then) (c_kind_of := H_f2_kind_of) (c_make := H_f2_make) (Df_make := D.d_make) (d := l1)
  have H_f__law_completed_right := k__law_completed_right (P := P) (w := w) (base := base) (T := T) (B := B) (bar := bar) (Dc := D.d__law_caught) (tab := t2) (c_bars := H_f2_bars) (c_complete := H_f2_complete) (c__law_of_kind := H_g__law_of_kind) (c__law_loops := H_g__law_loops) (c__law_behind := H_g__law_behind) (c__law_lens := H_g__law_lens) (Df_complete := D.d_complete) (d := l2)
  have H_f__law_sip := k__law_sip (P := P) (w := w) (base := base) (T := T) (B := B) (d := D.d__law_sip)
  have H_f__law_of := k__law_of (P := P) (w := w) (base := base) (T := T) (B := B) (c__law_sip := H_f__law_sip) (d := D.d__law_of)
  have H_f__law_spin := k__law_spin (P := P) (w := w) (base := base) (T := T) (B := B) (c__law_sip := H_f__law_sip) (d := D.d__law_spin)
  have H_f__law_right := k__law_right (P := P) (w := w) (base := base) (T := T) (B := B) (bar := bar) (Dc := D.d__law_caught) (tab := t3) (c__law_made_right := H_f__law_made_right) (c__law_completed_right := H_f__law_completed_right) (c__law_spin := H_f__law_spin) (c_plane_joins := H_f2_plane_joins) (c_share := H_f2_share) (c__law_ratio := H_f__law_ratio) (c_how_many_turns := H_f2_how_many_turns) (c_how_many_joins := H_f2_how_many_joins) (c_fewest_rings := H_f2_fewest_rings) (c_bars := H_f2_bars) (c_can := H_f2_can) (c__law_loops := H_g__law_loops) (c__law_behind := H_g__law_behind) (c__law_of_kind := H_g__law_of_kind) (c__law_sip := H_f__law_sip) (c__law_of := H_f__law_of) (c_all_kinds := H_f2_all_kinds) (Df_bars := D.d_bars) (Df_can := D.d_can) (Df_fewest_rings := D.d_fewest_rings) (Df_how_many_joins := D.d_how_many_joins) (Df_plane_joins := D.d_plane_joins) (Df_share := D.d_share) (d := l3)
  have H_cup := ok_cup (P := P) (w := w) (base := base) B D.d__law_cup
  exact ok_law B D.d_law H_f__law_right H_cup (by decide) t1.ne cases_all
end XL
end
section
set_option maxRecDepth 100000
set_option maxHeartbeats 4000000
/-! XHead: the head's facts handed to the join; the law; printed by gen_xhead.py. -/
namespace XL
open PySem PySem.Spec PyProof.Rows L2
section
variable {w : World} {K : PySem.W.Frag} {h : Heap} {mg : Str → Option Value}
theorem hd_fact (c : He.SaysX faL fnL [] tfL exF w h K) (i : Nat) {f : He.Fa} (e : faL[i]? = some f) : f.ok K = true := c.t.d.fact i e
theorem hd_glo (X : K.In h) (G : h.Ns mainGlobals mg) (c : He.SaysX faL fnL [] tfL exF w h K) (i : Nat) {x : Str} (e : faL[i]? = some (.glo x)) : mg x = some (.ref (He.ga K x)) := He.glo_ok X G (hd_fact c i e)
theorem hd_free (X : K.In h) (G : h.Ns mainGlobals mg) (c : He.SaysX faL fnL [] tfL exF w h K) (i : Nat) {x : Str} (e : faL[i]? = some (.free x)) : mg x = none := He.free_ok X G (hd_fact c i e)
theorem hd_at (X : K.In h) (G : h.Ns mainGlobals mg) (c : He.SaysX faL fnL [] tfL exF w h K) (i j k : Nat) {x : Str} (e : faL[i]? = some (.glo x)) (e2 : fnL[j]? = some (dT x k)) : DefAt K mg x (top k) := by
  obtain ⟨fd, F⟩ := c.t.d.def_ j e2
  exact ⟨_, fd, F, hd_glo X G c i e⟩
theorem hd_lam (X : K.In h) (G : h.Ns mainGlobals mg) (c : He.SaysX faL fnL [] tfL exF w h K) (i j k : Nat) {x : Str} (e : faL[i]? = some (.glo x)) (e2 : fnL[j]? = some (dT x k)) : DefL K mg x (top k) (He.cT K (x, none)).1 := by
  obtain ⟨fd, F⟩ := c.t.d.def_ j e2
  refine ⟨_, fd, F, hd_glo X G c i e, ?_⟩
  obtain ⟨oc, od, dV, kV, doc, pm, an, cdv, ct, osl, rfl, lk, hcd, _⟩ := F.ex
  obtain ⟨b, rfl⟩ := He.codeIn_ref hcd
  show Value.ref b = .ref (He.codeOf K (x, none))
  rw [He.codeOf_eq (p := (x, none)) lk (c := b) rfl]
theorem hd_blt (X : K.In h) (G : h.Ns mainGlobals mg) (c : He.SaysX faL fnL [] tfL exF w h K) : Blt mg :=
  ⟨hd_free X G c 62 rfl, hd_free X G c 63 rfl, hd_free X G c 64 rfl, hd_free X G c 65 rfl, hd_free X G c 66 rfl, hd_free X G c 67 rfl, hd_free X G c 68 rfl, hd_free X G c 69 rfl, hd_free X G c 70 rfl, hd_free X G c 71 rfl, hd_free X G c 72 rfl, hd_free X G c 73 rfl, hd_free X G c 74 rfl, hd_free X G c 75 rfl, hd_free X G c 76 rfl, hd_free X G c 77 rfl, hd_free X G c 78 rfl, hd_free X G c 79 rfl, He.int_ok X G (hd_fact c 80 rfl)⟩
theorem hd_tree (X : K.In h) (G : h.Ns mainGlobals mg) (c : He.SaysX faL fnL [] tfL exF w h K) : TreeAt K mg (He.ga K "Tree") := by
  obtain ⟨f1, F1⟩ := c.t.d.def_ 29 (d := dM "Tree" "__init__" "Tree.__init__" 41 0) rfl
  obtain ⟨f2, F2⟩ := c.t.d.def_ 30 (d := dM "Tree" "grow" "Tree.grow" 41 1) rfl
  exact ⟨hd_glo X G c 81 rfl, He.cls_ok (hd_fact c 82 rfl), He.noat_ok (hd_fact c 85 rfl), He.noat_ok (hd_fact c 86 rfl), He.noat_ok (hd_fact c 87 rfl), ⟨_, f1, He.mkr_ok (hd_fact c 84 rfl), F1⟩, ⟨_, f2, He.meth_ok (hd_fact c 83 rfl), F2⟩⟩
theorem hd_ex (c : He.SaysX faL fnL [] tfL exF w h K) : aexB K (He.ga K "Barred") = true ∧ xfB K (He.ga K "Barred") = true ∧ PySem.W.findIn K (.ref (He.ga K "Barred")) "__init__" = some (some (.ref (He.fAd K ("Barred", some "__init__")))) ∧
    PySem.W.typeIn K (.ref (He.fAd K ("Barred", some "__init__"))) = some (.type "function") ∧ (He.cT K pM).2 ≠ (He.cT K pC).2 ∧ (He.cT K pM).2 ≠ (He.cT K pR).2 ∧ (He.cT K pC).2 ≠ (He.cT K pR).2 := by
  have ne : ∀ a b : Nat, (!Nat.beq a b) = true → a ≠ b := fun a b z e => by
    rw [e, Nat.beq_refl] at z
    cases z
  obtain ⟨h1, z⟩ := He.ba c.more
  obtain ⟨h2, z⟩ := He.ba z
  obtain ⟨h3, z⟩ := He.ba z
  obtain ⟨h4, z⟩ := He.ba z
  obtain ⟨h5, z⟩ := He.ba z
  obtain ⟨h6, h7⟩ := He.ba z
  exact ⟨h1, h2, of_decide_eq_true h3, of_decide_eq_true h4, ne _ _ h5, ne _ _ h6, ne _ _ h7⟩
theorem hd_bar (X : K.In h) (G : h.Ns mainGlobals mg) (c : He.SaysX faL fnL [] tfL exF w h K) : BarAt K mg (He.ga K "Barred") := by
  obtain ⟨h1, h2, h3, h4, _⟩ := hd_ex c
  obtain ⟨f1, F1⟩ := c.t.d.def_ 0 (d := dM "Barred" "__init__" "Barred.__init__" 7 0) rfl
  exact ⟨hd_glo X G c 92 rfl, aexB_ok h1, He.noat_ok (hd_fact c 93 rfl), xfB_ok h2, ⟨_, f1, h3, h4, F1⟩, He.exm_ok (hd_fact c 98 (f := .exm "Barred" "Barred" true) rfl),
    ⟨_, hd_glo X G c 88 rfl, He.exm_ok (hd_fact c 94 (f := .exm "Barred" "InvalidTurn" false) rfl)⟩, ⟨_, hd_glo X G c 89 rfl, He.exm_ok (hd_fact c 95 (f := .exm "Barred" "InvalidKind" false) rfl)⟩, ⟨_, hd_glo X G c 90 rfl, He.exm_ok (hd_fact c 96 (f := .exm "Barred" "InvalidNumber" false) rfl)⟩, ⟨_, hd_glo X G c 91 rfl, He.exm_ok (hd_fact c 97 (f := .exm "Barred" "OtherSize" false) rfl)⟩⟩
theorem hd_dfs (X : K.In h) (G : h.Ns mainGlobals mg) (c : He.SaysX faL fnL [] tfL exF w h K) : Dfs K mg :=
  ⟨hd_at X G c 0 1 10 rfl rfl,
    hd_at X G c 1 2 11 rfl rfl,
    hd_at X G c 2 3 12 rfl rfl,
    hd_at X G c 3 4 13 rfl rfl,
    hd_at X G c 4 5 14 rfl rfl,
    hd_at X G c 5 6 15 rfl rfl,
    hd_at X G c 6 7 17 rfl rfl,
    hd_at X G c 7 8 18 rfl rfl,
    hd_at X G c 8 9 19 rfl rfl,
    hd_at X G c 9 10 20 rfl rfl,
    hd_at X G c 10 11 21 rfl rfl,
    hd_at X G c 11 12 22 rfl rfl,
    hd_at X G c 12 13 23 rfl rfl,
    hd_at X G c 13 14 24 rfl rfl,
    hd_at X G c 14 15 25 rfl rfl,
    hd_at X G c 15 16 26 rfl rfl,
    hd_at X G c 16 17 27 rfl rfl,
    hd_at X G c 17 18 29 rfl rfl,
    hd_at X G c 18 19 30 rfl rfl,
    hd_at X G c 19 20 31 rfl rfl,
    hd_at X G c 20 21 32 rfl rfl,
    hd_at X G c 21 22 33 rfl rfl,
    hd_at X G c 22 23 34 rfl rfl,
    hd_at X G c 23 24 35 rfl rfl,
    hd_at X G c 24 25 37 rfl rfl,
    hd_at X G c 25 26 38 rfl rfl,
    hd_at X G c 26 27 39 rfl rfl,
    hd_at X G c 27 28 40 rfl rfl,
    hd_at X G c 28 31 42 rfl rfl,
    hd_at X G c 29 32 43 rfl rfl,
    hd_at X G c 30 33 44 rfl rfl,
    hd_at X G c 31 34 45 rfl rfl,
    hd_at X G c 32 35 46 rfl rfl,
    hd_at X G c 33 36 47 rfl rfl,
    hd_at X G c 34 37 48 rfl rfl,
    hd_at X G c 35 38 49 rfl rfl,
    hd_at X G c 36 39 50 rfl rfl,
    hd_at X G c 37 40 51 rfl rfl,
    hd_at X G c 38 41 52 rfl rfl,
    hd_at X G c 39 42 53 rfl rfl,
    hd_at X G c 40 43 54 rfl rfl,
    hd_at X G c 41 44 55 rfl rfl,
    hd_at X G c 42 45 56 rfl rfl,
    hd_at X G c 43 46 57 rfl rfl,
    hd_at X G c 44 47 58 rfl rfl,
    hd_at X G c 45 48 59 rfl rfl,
    hd_at X G c 46 49 60 rfl rfl,
    hd_at X G c 47 50 62 rfl rfl,
    hd_at X G c 48 51 63 rfl rfl,
    hd_at X G c 49 52 64 rfl rfl,
    hd_at X G c 50 53 65 rfl rfl,
    hd_at X G c 51 54 66 rfl rfl,
    hd_at X G c 52 55 67 rfl rfl,
    hd_at X G c 53 56 68 rfl rfl,
    hd_at X G c 54 57 69 rfl rfl,
    hd_at X G c 55 58 70 rfl rfl,
    hd_at X G c 56 59 71 rfl rfl,
    hd_at X G c 57 60 72 rfl rfl,
    hd_at X G c 61 64 76 rfl rfl⟩
/-- the three tables, by the names of the lambdas that they hold -/
def tbH (K : PySem.W.Frag) : Tb := ⟨[((He.cT K pM).2, "_law_made_right.<locals>.<lambda>"), ((He.cT K pC).2, "_law_completed_right.<locals>.<lambda>"), ((He.cT K pR).2, "_law_right.<locals>.<lambda>")], 0, []⟩
def csH (K : PySem.W.Frag) : List (Addr × Addr) := tfL.map (He.cT K)
theorem hd_tabs {H : Hp} (e : ∀ p ∈ csH K, H p.2 = some (.tbl #[])) : LamX.Tabs (tbH K).tb H := fun p hp => by
  have one : ∀ q : Addr × Addr, q ∈ csH K → ∀ x : Str, LamX.TabS H q.2 x := fun q hq x => ⟨#[], e q hq, trivial, fun pos cv z => nomatch (show (none : Option Value) = some cv from z)⟩
  have hp2 : p ∈ [((He.cT K pM).2, ("_law_made_right.<locals>.<lambda>" : Str)), ((He.cT K pC).2, "_law_completed_right.<locals>.<lambda>"), ((He.cT K pR).2, "_law_right.<locals>.<lambda>")] := hp
  simp only [List.mem_cons, List.not_mem_nil, or_false] at hp2
  rcases hp2 with rfl | rfl | rfl
  · exact one (He.cT K pM) (List.mem_map.mpr ⟨pM, by simp [tfL, pM], rfl⟩) _
  · exact one (He.cT K pC) (List.mem_map.mpr ⟨pC, by simp [tfL, pC], rfl⟩) _
  · exact one (He.cT K pR) (List.mem_map.mpr ⟨pR, by simp [tfL, pR], rfl⟩) _
theorem hd_join {P : Program} (X : K.In h) (G : h.Ns mainGlobals mg) (c : He.SaysX faL fnL [] tfL exF w h K) (base : Heap) (tb : ∀ p ∈ csH K, LamX.TabB base mg p.1 p.2) : FG P w K mg base 12 "law" ["_law_cells"] (spLaw (tbH K) K) := by
  obtain ⟨_, _, _, _, n1, n2, n3⟩ := hd_ex c
  refine join (hd_blt X G c) (hd_tree X G c) (hd_bar X G c) (hd_dfs X G c) (hd_lam X G c 58 61 73 rfl rfl) (hd_lam X G c 59 62 74 rfl rfl) (hd_lam X G c 60 63 75 rfl rfl) (P1 := (He.cT K pM).2) (P2 := (He.cT K pC).2) (P3 := (He.cT K pR).2) ⟨?_, ?_, ?_⟩ ⟨?_, ?_, ?_⟩ ⟨?_, ?_, ?_⟩
  · exact tb (He.cT K pM) (List.mem_map.mpr ⟨pM, by simp [tfL, pM], rfl⟩)
  · simp [tbH]
  · intro p hp e
    simp only [tbH, List.mem_cons, List.not_mem_nil, or_false] at hp
    rcases hp with rfl | rfl | rfl
    · rfl
    · exact absurd e.symm n1
    · exact absurd e.symm n2
  · exact tb (He.cT K pC) (List.mem_map.mpr ⟨pC, by simp [tfL, pC], rfl⟩)
  · simp [tbH]
  · intro p hp e
    simp only [tbH, List.mem_cons, List.not_mem_nil, or_false] at hp
    rcases hp with rfl | rfl | rfl
    · exact absurd e n1
    · rfl
    · exact absurd e.symm n3
  · exact tb (He.cT K pR) (List.mem_map.mpr ⟨pR, by simp [tfL, pR], rfl⟩)
  · simp [tbH]
  · intro p hp e
    simp only [tbH, List.mem_cons, List.not_mem_nil, or_false] at hp
    rcases hp with rfl | rfl | rfl
    · exact absurd e n2
    · exact absurd e n3
    · rfl
theorem hd_law {P : Program} {fa : Addr} (X : K.In h) (G : h.Ns mainGlobals mg) (hm : mg ("law" : Str) = some (.ref fa)) (c : He.SaysX faL fnL [] tfL exF w h K) :
    ∃ fd : FuncData, (∀ (s : Shared) (u : Value), BindsTo s fd ⟨[u], []⟩ [("_law_cells", u)]) ∧ ∀ base : Heap, K.In base → base.Ns mainGlobals mg → (∀ p ∈ csH K, LamX.TabB base mg p.1 p.2) → FnOkG P w K mg base CX0 12 fa fd ["_law_cells"] (spLaw (tbH K) K) := by
  obtain ⟨f, fd, F, e⟩ := (hd_dfs X G c).d_law.ex
  obtain rfl : f = fa := by
    rw [hm] at e
    injection e with e
    injection e with e
    exact e.symm
  have b := FunD.bindsA (ps := ["_law_cells"]) F fun _ _ _ _ _ _ us hl => match us, hl with | [_], _ => rfl
  refine ⟨fd, fun s u => b s [u] rfl, fun base _ _ tb => ?_⟩
  obtain ⟨f', fd', O, e', _, _, oc, od, osl, lk⟩ := (hd_join (P := P) X G c base tb).ex
  obtain ⟨oc2, od2, osl2, lk2⟩ := funD_lk F
  obtain rfl : f' = f := by
    rw [hm] at e'
    injection e' with e'
    injection e' with e'
    exact e'.symm
  rw [lk2] at lk
  injection lk with lk
  injection lk with _ _ lk _
  injection lk with lk
  subst lk
  exact O
end
end XL
end
open PySem PySem.W PySem.Calls PyProof.Rows
set_option maxRecDepth 100000 in
set_option maxHeartbeats 0 in
theorem PySem.Challenge.cw_seatbuttons_k06_whole_joins_gone_through_holds : PySem.Challenge.rw_seatbuttons_k06_whole_joins_gone_through.Holds := by
  w_on; o_law
  refine HandSHeadRun.head_any (r := XL.RW) (q := view XL.RW.prog [76]) (H := XL.hkX) (ob := XL.obX) (M := 6000) (loose := XL.loose) (d := HandSHeadRun.topDef XL.RW.prog 76) (kwd := []) XL.obX_eq
    (by kernel_rfl) (fun s => by kernel_rfl) XL.hdRun (by kernel_rfl) (by kernel_rfl) (by kernel_rfl) (by rfl) (by first | assumption | decide +kernel) (by decide +kernel) ⟨rfl, rfl, rfl, rfl, rfl, by decide +kernel⟩ ?hw ?hc
  case hw => w_witness2
  case hc =>
    refine Att.attach_callB (l := PySem.Challenge.rw_seatbuttons_k06_whole_joins_gone_through) (n := 63) rfl (by kernel_rfl) fun w s0 s1 mg mb fa o pm cd doc a vs ns G Y ho hd hcd hmg0 hobj hints hlen hbits hg => ?_
    obtain ⟨K, KX, c⟩ := Y
    have hmg : mg ("law" : PySem.Str) = some (.ref fa) := by
      have e : (HandSHeadRun.topDef XL.RW.prog 76).name = ("law" : PySem.Str) := by kernel_rfl
      rw [← e]
      exact hmg0
    obtain ⟨fd, hb, hF⟩ := XL.hd_law (P := (PySem.Challenge.rw_seatbuttons_k06_whole_joins_gone_through).prog) KX G.T.g hmg c
    refine XL.end_call (cs := XL.csH K) KX G.T.g G.T.b G.T.builtins G.T.nolimit hg (fun p hp => ?_) (fun p hp => ?_) (fun p hp => ?_) G.T.bmain hobj hints (Nat.le_trans hlen (by decide)) ⟨rfl, by decide, by decide⟩ hF hb fun H hH hS => ⟨a, ns, rfl, hS, by omega, XL.hd_tabs hH, fun _ => rfl⟩
    · obtain ⟨q, hq, rfl⟩ := List.mem_map.mp hp
      exact c.empty q hq
    · obtain ⟨q, hq, rfl⟩ := List.mem_map.mp hp
      exact c.out q hq
    · obtain ⟨q, hq, rfl⟩ := List.mem_map.mp hp
      exact PySem.W.codeHd_of_K KX (c.hd q hq)
