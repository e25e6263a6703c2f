import PyProof.Rows.All
import Wide.All
import OpenK.AllK
import Wide.FinOn
import HandS.Base
import HandS.ExcOwn
import HandS.ExcField
import HandS.HeadHook1
import KE.KStateDown
import Lean
import HandS.Ends
import HandS.More
import HandS.Words
import HandS.WordsExc
import HandS.Defaults
import HandS.Head0
import HandS.Head1
import HandS.Head2
import HandS.HeadEnd
import HandS.HeadHook2
import HandS.HeadHook4
import HandS.HeadWalk
import KE.KNestM
import HandS.Head3
import HandS.IsInst
import PyProof.InstEq
import PyProof.IsiBase
import PyProof.FactsAll.set
import KE.KIsAll
import PyProof.EqAt
import PyProof.EqKinds
import PyProof.TupleCall
import HandS.Call
import HandS.List
import HandS.Comp
import HandS.Dict
import HandS.Iter
import HandS.Text
import HandS.WordsList
import HandS.WordsDict
import HandS.Exc
import HandS.TryOnly
import HandS.TryMany
import HandS.ExcInit
import HandS.Lambda
import HandS.Gcd
import HandS.Wide
import HandS.Style
import HandS.Flow
import HandS.TupLen
import HandS.NoneIn
import HandS.SetKeys
import HandS.Small
import HandS.ListItems
import KE.GoesNew
import KE.GoesMore
import KE.GoesZip
import KE.GoesEnum
import HandS.CallLocal
import HandS.EndTab
import KE.SortKeyHeap
import KE.SortData
import HandS.Nested
import HandS.Conv
import KE.KDictPairs
import PySem.Challenge.RW_quickbythen_k77_whole_more_room_more_dro
set_option Elab.async false
set_option linter.all false
set_option maxRecDepth 100000
set_option maxHeartbeats 1000000
set_option autoImplicit false
namespace TD
open PySem PySem.Spec PyProof.Rows L2
def oexB (K : PySem.W.Frag) (C : Addr) : Bool := (match K.lookup C with
    | some o => (match o.cls, o.data, o.slots.toList with
      | .type "type", .cls cd, [_, _, _, _, some (.builtin n), _] => (match cd.mro with
        | .ref C' :: bm => decide (C' = C) && decide (n = "ValueError.__new__") && cd.hasDict && !cd.hasDel && PySem.HandSPX.refsVE bm
        | _ => false)
      | _, _, _ => false)
    | none => false) && decide (PySem.W.findIn K (.ref C) "__setattr__" = some (some (.builtin "object.__setattr__"))) && decide (PySem.W.subIn K (.ref C) (.type "BaseException") = some true) && decide (PySem.W.typeIn K (.ref C) = some (.type "type")) && PySem.W.keepIn K (.ref C)
def exB (K : PySem.W.Frag) (c f : Str) : Bool := oexB K (He.ga K c) && xfB K (He.ga K c) && decide (PySem.W.findIn K (.ref (He.ga K c)) f = some none) && decide (PySem.W.findIn K (.ref (He.ga K c)) "__init__" = some (some (.ref (He.ma K (He.ga K c) "__init__")))) && decide (PySem.W.typeIn K (.ref (He.ma K (He.ga K c) "__init__")) = some (.type "function"))
end TD

set_option Elab.async false
set_option linter.all false
set_option maxRecDepth 100000
set_option maxHeartbeats 0
set_option autoImplicit false
namespace KX
open PySem PySem.Spec PyProof.Rows L2 TD
def top (i : Nat) : Stmt := PySem.Challenge.pw_quickbythen_k77_whole_more_room_more_dro.main.body.getD i (.Pass ⟨0, 0, 0, 0⟩)
def inCls (st : Stmt) (j : Nat) : Stmt := match st with
  | .ClassDef (body := b) .. => b.getD j (.Pass ⟨0, 0, 0, 0⟩)
  | _ => .Pass ⟨0, 0, 0, 0⟩
def dd (n : Str) (i : Nat) : He.DefD := ⟨(n, none), n, n, defArgs (top i), defBody (top i), defScope (top i), [], []⟩
def di (c : Str) (i j : Nat) : He.DefD := ⟨(c, some "__init__"), "__init__", c ++ ".__init__", defArgs (inCls (top i) j), defBody (inCls (top i) j), defScope (inCls (top i) j), [], []⟩
def fn : List He.DefD := [dd "is_list" 4, dd "is_whole" 5, dd "is_positive" 6, dd "lowest" 7, dd "is_fraction" 8, dd "is_heap" 9, dd "told" 10, dd "plus" 11, dd "less" 12, dd "times" 13, dd "parted" 14, dd "is_below" 15, dd "least" 16, dd "greatest" 17, dd "sum_of" 18, dd "in_order" 19, dd "check_road" 28, dd "is_wish" 29, dd "checked_wishes" 30, dd "checked_troubles" 31, dd "spans_of" 32, dd "offsets_of" 33, dd "early_beats" 34, dd "begin_of" 35, dd "blocks_of" 36, dd "pieces_of" 37, dd "checked_all" 38, dd "check_soon" 39, dd "comers_by" 40, dd "come_at" 41, dd "settled" 42, dd "stretches" 43, dd "sorrow" 44, dd "troubles" 45, dd "paid" 47, dd "_law_stream" 49, dd "_law_draw" 50, dd "_law_pick" 51, dd "_law_same" 52, dd "_law_common" 53, dd "_law_low" 54, dd "_law_plus" 55, dd "_law_times" 56, dd "_law_by" 57, dd "_law_is_below" 58, dd "_law_wishes" 59, dd "_law_worths" 60, dd "_law_none_more" 61, dd "_law_times_as" 62, dd "_law_put_off" 63, dd "_law_alone_right" 64, dd "law" 65, di "BadRoom" 21 0, di "BadLength" 22 0, di "BadWishes" 23 0, di "BadEarly" 24 0, di "BadLate" 25 0, di "TooSoon" 26 0]
def fa : List He.Fa := [.glo "is_list", .glo "is_whole", .glo "is_positive", .glo "lowest", .glo "is_fraction", .glo "is_heap", .glo "told", .glo "plus", .glo "less", .glo "times", .glo "parted", .glo "is_below", .glo "least", .glo "greatest", .glo "sum_of", .glo "in_order", .glo "check_road", .glo "is_wish", .glo "checked_wishes", .glo "checked_troubles", .glo "spans_of", .glo "offsets_of", .glo "early_beats", .glo "begin_of", .glo "blocks_of", .glo "pieces_of", .glo "checked_all", .glo "check_soon", .glo "comers_by", .glo "come_at", .glo "settled", .glo "stretches", .glo "sorrow", .glo "troubles", .glo "paid", .glo "_law_stream", .glo "_law_draw", .glo "_law_pick", .glo "_law_same", .glo "_law_common", .glo "_law_low", .glo "_law_plus", .glo "_law_times", .glo "_law_by", .glo "_law_is_below", .glo "_law_wishes", .glo "_law_worths", .glo "_law_none_more", .glo "_law_times_as", .glo "_law_put_off", .glo "_law_alone_right", .glo "law", .glo "BadRoom", .glo "BadLength", .glo "BadWishes", .glo "BadEarly", .glo "BadLate", .glo "TooSoon", .free "abs", .free "all", .free "any", .free "bool", .free "dict", .free "enumerate", .free "int", .free "isinstance", .free "len", .free "list", .free "range", .free "sorted", .free "tuple", .free "zip"]
def tf : List He.Defn := [("in_order", none)]
def tyN : List Str := []
def excN : List (Str × Str) := [("BadRoom", "room"), ("BadLength", "length"), ("BadWishes", "index"), ("BadEarly", "early"), ("BadLate", "late"), ("TooSoon", "moment")]
def exK (K : PySem.W.Frag) : Bool := tyN.all (fun x => decide (PySem.W.typeIn K (.ref (He.ga K x)) = some (.type "function"))) && excN.all (fun q => exB K q.1 q.2) && excN.all (fun q => excN.all fun r => decide (PySem.W.exmOne K (.ref (He.ga K q.1)) (.ref (He.ga K r.1)) = some (decide (r.1 = q.1)))) && decide (PySem.W.nsIn K mainGlobals "gcd" = some (some (.builtin "math.gcd"))) && decide ((tf.map fun p => (He.cT K p).2).Nodup)
def names : List PySem.Str := (["gcd", "QuickError", "is_list", "is_whole", "is_positive", "lowest", "is_fraction", "is_heap", "told", "plus", "less", "times", "parted", "is_below", "least", "greatest", "sum_of", "in_order", "BadRoom", "BadLength", "BadWishes", "BadEarly", "BadLate", "TooSoon", "check_road", "is_wish", "checked_wishes", "checked_troubles", "spans_of", "offsets_of"] : List PySem.Str) ++ (["early_beats", "begin_of", "blocks_of", "pieces_of", "checked_all", "check_soon", "comers_by", "come_at", "settled", "stretches", "sorrow", "troubles", "paid", "_law_stream", "_law_draw", "_law_pick", "_law_same", "_law_common", "_law_low", "_law_plus", "_law_times", "_law_by", "_law_is_below", "_law_wishes", "_law_worths", "_law_none_more", "_law_times_as", "_law_put_off", "_law_alone_right"] : List PySem.Str)
abbrev RWL : PySem.W.OpenRow := PySem.W.OpenLaw.row PySem.Challenge.rw_quickbythen_k77_whole_more_room_more_dro
abbrev hk : PySem.W.Hook := He.hookX 4 fa fn [] tf exK
def ob (s : PySem.W.SharedT) : He.AlX := He.obsX 4 fa fn [] tf exK (HandSHeadRun.getT s)
theorem ob_eq (s : PySem.W.SharedT) : ob s = hk.obs s.abs := He.obsX_eq (HandSHeadRun.getT_eq s)
theorem run (w : World) : HandSHeadRun.RunEqI RWL (PySem.W.view RWL.prog [0, 65]) hk ob 8000 names w := by
  unfold HandSHeadRun.RunEqI
  kernel_rfl
end KX

set_option Elab.async false
set_option linter.all false
set_option maxRecDepth 100000
namespace PySem
open Sem (wp)
namespace FnA
theorem lk_ga : typeLookup (.type "function") "__getattribute__" = pure (some (.builtin "object.__getattribute__")) := by rw [typeLookup_type, builtinLookup_eq_fast]; kernel_rfl
theorem lk_class : typeLookup (.type "function") "__class__" = pure (some (.builtin "object.__class__")) := by rw [typeLookup_type, builtinLookup_eq_fast]; kernel_rfl
theorem slot_ga : Slot "function" "__getattribute__" "object.__getattribute__" :=
  .of (owner := "object") (n := "__getattribute__") lk_ga (by decide +kernel) (by decide +kernel) (by decide +kernel)
    (by first | exact .inl (by decide +kernel) | exact .inr (by decide +kernel)) (by rw [isSubtype_type]; kernel_rfl)
theorem entry_ga : entryFor table "object.__getattribute__" = some Builtin.«object.__getattribute__» := entryFor_of_tree (by kernel_rfl)
theorem args_ga (a b : Value) : argsOk "object.__getattribute__" ⟨[a, b], []⟩ := by
  unfold argsOk; kernel_rfl
theorem sub_owner : isSubtype (.type "function") (.type (".".intercalate ("object.__class__".cutAt '.').dropLast)) = pure true := by
  rw [F.owner_object_class, isSubtype_type]; kernel_rfl
end FnA
section
variable {prog : Program} {w : World} {A : Around} {E : Value → Shared → Prop} {h : Heap} {g : Array GenState} {d : Drawn} {t : Nat} {os : OsState} {a : Addr} {o : Obj}
theorem fn_class_get {R : Result → Shared → Prop} (hx : h.get? a = some o) (hc : o.cls = .type "function") (hq : R (.ok (.ret (.type "function"))) ⟨h, g, d, t, os⟩) :
    codeAny (model prog w) A (.call (.builtin "getset_descriptor.__get__") ⟨[.builtin "object.__class__", .ref a, .type "function"], []⟩) R ⟨h, g, d, t, os⟩ := by
  have hT : (⟨h, g, d, t, os⟩ : Shared).TypeIs (.ref a) "function" := ⟨_, hx, hc⟩
  have hT5 : (⟨h, g, d, t, os⟩ : Shared).TypeIs (.builtin "object.__class__") "getset_descriptor" := F.typeOf_object_class
  have f8 := FnA.sub_owner
  refine codeAny_call_builtin F.slot_gs_get.plain F.entry_gs_get (F.slot_gs_get.check _ _ _ _ _ _ _ _ hT5 (F.args_gs_get _ _ _) ?_)
  repeat (any_goals (first | assumption | wp_step))
  refine ⟨Code.quiet_builtin _ (by decide +kernel), codeAny_builtin F.entry_object_class ?_⟩
  repeat (any_goals (first | assumption | wp_step))
theorem fn_class_entry {tk : Tok} {Q : Fin → Shared → Prop} (hx : h.get? a = some o) (hc : o.cls = .type "function") (hq : Q (.done (.ret (.type "function"))) ⟨h, g, d, t, os⟩) :
    wpAny (model prog w) A (Builtin.«object.__getattribute__» ⟨[.ref a, .str "__class__" tk], []⟩) Q E ⟨h, g, d, t, os⟩ := by
  have hT : (⟨h, g, d, t, os⟩ : Shared).TypeIs (.ref a) "function" := ⟨_, hx, hc⟩
  have hT5 : (⟨h, g, d, t, os⟩ : Shared).TypeIs (.builtin "object.__class__") "getset_descriptor" := F.typeOf_object_class
  have f4 := FnA.lk_class
  have f5 := F.typeOf_object_class
  have f6 := F.slot_gs_get.lookup
  have f7 := F.slot_gs_set.lookup
  repeat (any_goals (first | assumption | wp_step))
  refine fn_class_get hx hc ?_
  repeat (any_goals (first | assumption | wp_step))
theorem fn_class_call {tk : Tok} {R : Result → Shared → Prop} (hx : h.get? a = some o) (hc : o.cls = .type "function") (hq : R (.ok (.ret (.type "function"))) ⟨h, g, d, t, os⟩) :
    codeAny (model prog w) A (.call (.builtin "object.__getattribute__") ⟨[.ref a, .str "__class__" tk], []⟩) R ⟨h, g, d, t, os⟩ :=
  codeAny_call_builtin FnA.slot_ga.plain FnA.entry_ga (FnA.slot_ga.check _ _ _ _ _ _ _ _ (show (⟨h, g, d, t, os⟩ : Shared).TypeIs (.ref a) "function" from ⟨_, hx, hc⟩) (FnA.args_ga _ _) (fn_class_entry hx hc hq))
theorem fn_class_by {tk : Tok} {Q : Value → Shared → Prop} (hx : h.get? a = some o) (hc : o.cls = .type "function") (hq : Q (.type "function") ⟨h, g, d, t, os⟩) : wpAny (model prog w) A (getAttrBy (.ref a) (.str "__class__" tk) false) Q E ⟨h, g, d, t, os⟩ := by
  have hT : (⟨h, g, d, t, os⟩ : Shared).TypeIs (.ref a) "function" := ⟨_, hx, hc⟩
  have f2 := FnA.slot_ga.lookup
  have f3 := FnA.slot_ga.bind (.ref a)
  repeat (any_goals (first | assumption | wp_step))
  refine fn_class_call hx hc ?_
  repeat (any_goals (first | assumption | wp_step))
theorem fn_class_attr {Q : Option Value → Shared → Prop} (hx : h.get? a = some o) (hc : o.cls = .type "function") (hq : Q (some (.type "function")) ⟨h, g, d, t + 1, os⟩) : wpAny (model prog w) A (getAttr? (.ref a) "__class__") Q E ⟨h, g, d, t, os⟩ := by
  unfold getAttr? getAttrBy?
  repeat (any_goals (first | assumption | with_reducible apply fn_class_by hx hc | wp_step))
end
namespace W
theorem kitx_fn {K : Frag} {a : Addr} : KitX K (.ref a) (.type "function") (KitAt a "function") := kitx_of kitAt_ty (fun {_ _ _ _ _ s} p k => by obtain ⟨h, g, d, t, os⟩ := s; obtain ⟨o, h1, h2⟩ := p; exact fn_class_attr h1 h2 k)
end W
end PySem
namespace TD
open PySem PySem.Spec PyProof.Rows L2
theorem slot_fn_eq : PySem.Slot "function" (cmpInfo .Eq).2.1 "object.__eq__" :=
  .of (owner := "object") (n := "__eq__") (by rw [typeLookup_type, builtinLookup_eq_fast]; kernel_rfl) (by decide +kernel) (by decide +kernel) (by decide +kernel)
    (by first | exact .inl (by decide +kernel) | exact .inr (by decide +kernel)) (by rw [isSubtype_type]; kernel_rfl)
theorem fn_at {K : PySem.W.Frag} {h : Heap} {a : Addr} (X : K.In h) (e : PySem.W.typeIn K (.ref a) = some (.type "function")) : PySem.W.KitAt a "function" h := by
  obtain ⟨o, e1, e2⟩ := Option.map_eq_some_iff.mp (show (K.lookup a).map (·.cls) = some (.type "function") from e)
  exact ⟨o, X _ _ e1, e2⟩
/-- a function is equal to itself -/
theorem eq_fn {P : Program} {w : World} {A : Around} {E : Value → Shared → Prop} {s : Shared} {a : Addr} {Q : Value → Shared → Prop} (hu : A.units < cLine) (hx : PySem.W.KitAt a "function" s.heap) (h : Q (.bool true) s) : wpAny (model P w) A (compareOp .Eq (.ref a) (.ref a)) Q E s := by
  show wpAny _ _ (richCompare .Eq (.ref a) (.ref a)) _ _ _
  refine wpAny_richCompare_same_room (op := .Eq) hx hx slot_fn_eq (wpAny_call (codeAny_call_builtin slot_fn_eq.plain PySem.F.cmpEntry_eq (slot_fn_eq.check _ _ _ _ _ _ _ _ hx (PySem.F.cmpArgs_eq _ _) (objEq_entry_same ?_)))) hu
  exact ⟨fun z => (nomatch z), h⟩
/-- what isinstance is asked of: the library's kinds, and functions -/
def TyF (K : PySem.W.Frag) (H : Hp) (v : V) (t : Value) : Prop := TyX K H v t ∨ ∃ a, v = .ref a ∧ t = .type "function" ∧ PySem.W.typeIn K (.ref a) = some (.type "function")
section
variable {X : Cx} {pins : List (Addr × Obj)} {σ : L2.St} {H : Hp} {s : Shared}
theorem kitF {x : V} {u t : Value} (I : Inv X pins σ H s) (rx : RelV x u) (ty : TyF X.K H x t) : ∃ P : Heap → Prop, PySem.W.KitX X.K u t P ∧ P s.heap ∧ u ≠ .builtin "__main__.__loader__#opaque" := by
  rcases ty with ty | ⟨a, e1, e2, e3⟩
  · exact kit_of I rx ty
  · subst e1 e2
    cases rx
    exact ⟨_, PySem.W.kitx_fn, fn_at I.kIn e3, fun z => nomatch z⟩
def rIsiF (K : PySem.W.Frag) : List V → Hp → VK → Prop := fun xs H Q => ∃ (x c : V) (t u : Value) (b : Bool), xs = [x, c] ∧ ClsV c u ∧ TyF K H x t ∧ PySem.W.kitOne K t u = some b ∧ Q (.bl b) H
def rIsiTF (K : PySem.W.Frag) : List V → Hp → VK → Prop := fun xs H Q => ∃ (x : V) (tp : Addr) (cs : List V) (t : Value) (us : List Value) (b : Bool), xs = [x, .ref tp] ∧ H tp = some (.tup cs) ∧ Paired ClsV cs us ∧ TyF K H x t ∧ PySem.W.kitAny K t us = some b ∧ Q (.bl b) H
theorem call_isiF : CallR X (.builtin "isinstance") (rIsiF X.K) := by
  intro pn sh sg Hh xs us Q J r hh
  obtain ⟨x, c, t, u, b, rfl, k, ty, e, q⟩ := hh
  obtain ⟨u1, u2, rfl, r1, r2⟩ := vals2 r
  obtain ⟨P, Z, p, hx⟩ := kitF J r1 ty
  rw [k.eq r2]
  exact PySem.W.kia_one Z J.kIn p e hx fun tk => ⟨.bl b, Hh, J.tok tk, rfl, q⟩
theorem call_isiTF : CallR X (.builtin "isinstance") (rIsiTF X.K) := by
  intro pn sh sg Hh xs us Q J r hh
  obtain ⟨x, tp, cs, t, ws, b, rfl, hT, k, ty, e, q⟩ := hh
  obtain ⟨u1, u2, rfl, r1, r2⟩ := vals2 r
  cases (show u2 = Value.ref tp from r2)
  obtain ⟨P, Z, p, hx⟩ := kitF J r1 ty
  obtain ⟨_, its, rv, ⟨oc, od, dt, sl⟩, h1, h2, n, h3⟩ := (show ObjOk X.prog X.w Hh sh.heap tp (.tup cs) from J.hok tp _ hT)
  simp only at h2 h3
  subst h2 h3
  have e3 := ClsV.all k rv
  subst e3
  exact PySem.W.kia_tup Z J.kIn p h1 e hx fun tk => ⟨.bl b, Hh, J.tok tk, rfl, q⟩
/-- == of one function -/
def rEqFn (K : PySem.W.Frag) : R2 := fun x y H Q => ∃ a, x = .ref a ∧ y = .ref a ∧ PySem.W.typeIn K (.ref a) = some (.type "function") ∧ Q (.bl true) H
theorem op_eqFn (hu : X.A.units < cLine) : OpR X (compareOp .Eq) (rEqFn X.K) := by
  intro pn sh sg Hh x y v u Q J rx ry h
  obtain ⟨a, rfl, rfl, e, q⟩ := h
  cases rx
  cases ry
  exact eq_fn hu (fn_at J.kIn e) ⟨.bl true, Hh, J, rfl, q⟩
end
end TD

set_option Elab.async false
set_option linter.all false
set_option maxRecDepth 100000
set_option maxHeartbeats 1000000
set_option autoImplicit false
namespace TD
open PySem PySem.Spec PyProof.Rows L2

/-! ### trees of data -/
inductive D where
  | non
  | bl (b : Bool)
  | int (i : Int)
  | str (x : Str)
  | ty (n : String)
  | gl (x : Str)
  | lst (ds : List D)
  | tup (ds : List D)
  | dic (kvs : List (Key × D))
  | dct (kvs : List (List Key × D))
  | ins (c : Str) (fs : List (Str × D))
  | box (n : Nat)
  | scr (ds : List D)

inductive Slot where
  | no
  | sh (d : D)
  | ow (d : D)

abbrev Ev := List Slot
abbrev Sto := List D

inductive R (α : Type) where
  | ok (a : α) (t : Ev) (S : Sto)
  | ex (c : Str) (fs : List (Str × D)) (t : Ev) (S : Sto)
  | bad

inductive FR where
  | ok (d : D) (f : Bool) (S : Sto)
  | ex (c : Str) (fs : List (Str × D)) (S : Sto)
  | bad
abbrev Fn := List D → Sto → FR

inductive Fl where
  | nx
  | rt (d : D) (f : Bool)
  | bk
  | ct

abbrev M (α : Type) := Ev → Sto → R α
/-- an expression: its value, whether it is a new container of nobody else's -/
abbrev ME := M (D × Bool)
abbrev MB := M D
abbrev MT := M Bool
abbrev MA := M (List D)
abbrev MS := M Fl

def bnd {α β : Type} (m : M α) (k : α → M β) : M β := fun t S => match m t S with
  | .ok a t' S' => k a t' S'
  | .ex c fs t' S' => .ex c fs t' S'
  | .bad => .bad
def ret {α : Type} (a : α) : M α := fun t S => .ok a t S
def bad {α : Type} : M α := fun _ _ => .bad

/-! ### how a tree stands in the heap -/
def keyD : Key → D
  | .inl i => .int i
  | .inr x => .str x

section
variable (K : PySem.W.Frag) (H : Hp) (O : Addr → Prop) (b : List Addr)
mutual
def At : D → V → Prop
  | .non, v => v = .non
  | .bl c, v => v = .bl c
  | .int i, v => v = .int i
  | .str x, v => v = .str x
  | .ty n, v => v = .ty n
  | .gl x, v => v = V.ref (He.ga K x) ∧ PySem.W.typeIn K (.ref (He.ga K x)) = some (.type "function")
  | .lst ds, v => ∃ a xs, v = V.ref a ∧ ¬ O a ∧ H a = some (.lst xs) ∧ Ats ds xs
  | .tup ds, v => ∃ a xs, v = V.ref a ∧ ¬ O a ∧ H a = some (.tup xs) ∧ Ats ds xs
  | .dic kvs, v => ∃ a xs, v = V.ref a ∧ ¬ O a ∧ H a = some (.dK xs) ∧ Atk kvs xs
  | .dct kvs, v => ∃ a xs, v = V.ref a ∧ ¬ O a ∧ H a = some (.dT xs) ∧ Att kvs xs
  | .ins c fs, v => ∃ a dx xs, v = V.ref a ∧ ¬ O a ∧ ¬ O dx ∧ H a = some (.ins (He.ga K c) dx xs) ∧ H dx = some (.own a) ∧ Atf fs xs
  | .box n, v => ∃ a, v = V.ref a ∧ b[n]? = some a
  | .scr ds, v => ∃ a xs, v = V.ref a ∧ ((¬ O a ∧ Rd H a (.lst xs)) ∨ SqL K (fun _ => none) a xs) ∧ Ats ds xs
def Ats : List D → List V → Prop
  | [], xs => xs = []
  | d :: ds, xs => ∃ y ys, xs = y :: ys ∧ At d y ∧ Ats ds ys
def Atk : List (Key × D) → List (Key × V) → Prop
  | [], xs => xs = []
  | (k, d) :: ds, xs => ∃ y ys, xs = (k, y) :: ys ∧ At d y ∧ Atk ds ys
def Att : List (List Key × D) → List (List Key × V) → Prop
  | [], xs => xs = []
  | (k, d) :: ds, xs => ∃ y ys, xs = (k, y) :: ys ∧ At d y ∧ Att ds ys
def Atf : List (Str × D) → List (Str × V) → Prop
  | [], xs => xs = []
  | (k, d) :: ds, xs => ∃ y ys, xs = (k, y) :: ys ∧ At d y ∧ Atf ds ys
end
/-- an owned container's content -/
def Own : D → Addr → Prop
  | .lst ds, a => ∃ xs, H a = some (.lst xs) ∧ Ats K H O b ds xs
  | .dic kvs, a => ∃ xs, H a = some (.dK xs) ∧ Atk K H O b kvs xs
  | .dct kvs, a => ∃ xs, H a = some (.dT xs) ∧ Att K H O b kvs xs
  | .ins c fs, a => ∃ dx xs, H a = some (.ins (He.ga K c) dx xs) ∧ ¬ O dx ∧ H dx = some (.own a) ∧ Atf K H O b fs xs
  | _, _ => False
end

/-- not a table of code objects -/
def nt (o : HO) : Prop := ∀ ps, o ≠ .tbl ps
/-- what stands unlocked stands on, unlocked -/
def Stays (H : Hp) (O : Addr → Prop) (H' : Hp) (O' : Addr → Prop) : Prop := ∀ a o, H a = some o → nt o → ¬ O a → H' a = some o ∧ ¬ O' a

section
variable {K : PySem.W.Frag} {H H' : Hp} {O O' : Addr → Prop} {b b' : List Addr}
theorem nt_lst {xs : List V} : nt (.lst xs) := fun _ z => nomatch z
theorem nt_tup {xs : List V} : nt (.tup xs) := fun _ z => nomatch z
theorem nt_frz {o : Obj} {xs : HO} : nt (.frz o xs) := fun _ z => nomatch z
theorem nt_dK {xs : List (Key × V)} : nt (.dK xs) := fun _ z => nomatch z
theorem nt_dT {xs : List (List Key × V)} : nt (.dT xs) := fun _ z => nomatch z
theorem nt_ins {c d : Addr} {xs : List (Str × V)} : nt (.ins c d xs) := fun _ z => nomatch z
theorem nt_own {x : Addr} : nt (.own x) := fun _ z => nomatch z
theorem nt_xd {x : List (Str × V)} : nt (.xd x) := fun _ z => nomatch z
theorem Rd.stays {a : Addr} {u : HO} (h : Stays H O H' O') (hu : nt u) (hO : ¬ O a) (r : Rd H a u) : Rd H' a u ∧ ¬ O' a := by
  rcases r with r | ⟨o, r⟩
  · exact ⟨.inl (h _ _ r hu hO).1, (h _ _ r hu hO).2⟩
  · exact ⟨.inr ⟨o, (h _ _ r nt_frz hO).1⟩, (h _ _ r nt_frz hO).2⟩
theorem pre_get {b b' : List Addr} (hb : b <+: b') {n : Nat} {a : Addr} (h : b[n]? = some a) : b'[n]? = some a := by
  obtain ⟨c, rfl⟩ := hb
  rw [List.getElem?_append_left (List.getElem?_eq_some_iff.mp h).1]
  exact h
mutual
theorem At.mono (h : Stays H O H' O') (hb : b <+: b') : ∀ {d : D} {v : V}, At K H O b d v → At K H' O' b' d v
  | .non, _, z => z
  | .bl _, _, z => z
  | .int _, _, z => z
  | .str _, _, z => z
  | .ty _, _, z => z
  | .gl _, _, z => z
  | .lst ds, _, ⟨a, xs, e, o, r, q⟩ => ⟨a, xs, e, (h _ _ r nt_lst o).2, (h _ _ r nt_lst o).1, Ats.mono h hb q⟩
  | .tup ds, _, ⟨a, xs, e, o, r, q⟩ => ⟨a, xs, e, (h _ _ r nt_tup o).2, (h _ _ r nt_tup o).1, Ats.mono h hb q⟩
  | .dic kvs, _, ⟨a, xs, e, o, r, q⟩ => ⟨a, xs, e, (h _ _ r nt_dK o).2, (h _ _ r nt_dK o).1, Atk.mono h hb q⟩
  | .dct kvs, _, ⟨a, xs, e, o, r, q⟩ => ⟨a, xs, e, (h _ _ r nt_dT o).2, (h _ _ r nt_dT o).1, Att.mono h hb q⟩
  | .ins c fs, _, ⟨a, dx, xs, e, o, o2, r, r2, q⟩ => ⟨a, dx, xs, e, (h _ _ r nt_ins o).2, (h _ _ r2 nt_own o2).2, (h _ _ r nt_ins o).1, (h _ _ r2 nt_own o2).1, Atf.mono h hb q⟩
  | .box n, _, ⟨a, e, q⟩ => ⟨a, e, pre_get hb q⟩
  | .scr ds, _, ⟨a, xs, e, r, q⟩ => ⟨a, xs, e, r.imp (fun z => ⟨(Rd.stays h nt_lst z.1 z.2).2, (Rd.stays h nt_lst z.1 z.2).1⟩) id, Ats.mono h hb q⟩
theorem Ats.mono (h : Stays H O H' O') (hb : b <+: b') : ∀ {ds : List D} {vs : List V}, Ats K H O b ds vs → Ats K H' O' b' ds vs
  | [], _, z => z
  | d :: ds, _, ⟨y, ys, e, q, r⟩ => ⟨y, ys, e, At.mono h hb q, Ats.mono h hb r⟩
theorem Atk.mono (h : Stays H O H' O') (hb : b <+: b') : ∀ {ds : List (Key × D)} {vs : List (Key × V)}, Atk K H O b ds vs → Atk K H' O' b' ds vs
  | [], _, z => z
  | (k, d) :: ds, _, ⟨y, ys, e, q, r⟩ => ⟨y, ys, e, At.mono h hb q, Atk.mono h hb r⟩
theorem Att.mono (h : Stays H O H' O') (hb : b <+: b') : ∀ {ds : List (List Key × D)} {vs : List (List Key × V)}, Att K H O b ds vs → Att K H' O' b' ds vs
  | [], _, z => z
  | (k, d) :: ds, _, ⟨y, ys, e, q, r⟩ => ⟨y, ys, e, At.mono h hb q, Att.mono h hb r⟩
theorem Atf.mono (h : Stays H O H' O') (hb : b <+: b') : ∀ {ds : List (Str × D)} {vs : List (Str × V)}, Atf K H O b ds vs → Atf K H' O' b' ds vs
  | [], _, z => z
  | (k, d) :: ds, _, ⟨y, ys, e, q, r⟩ => ⟨y, ys, e, At.mono h hb q, Atf.mono h hb r⟩
end
/-- an owned container: its own object stands, its dict's too -/
theorem Own.mono {d : D} {p : Addr} (h : Stays H O H' O') (hb : b <+: b') (hp : ∀ o, H p = some o → nt o → H' p = some o) (z : Own K H O b d p) : Own K H' O' b' d p := by
  cases d with
  | lst ds => obtain ⟨xs, e, q⟩ := z; exact ⟨xs, hp _ e nt_lst, q.mono h hb⟩
  | dic kvs => obtain ⟨xs, e, q⟩ := z; exact ⟨xs, hp _ e nt_dK, q.mono h hb⟩
  | dct kvs => obtain ⟨xs, e, q⟩ := z; exact ⟨xs, hp _ e nt_dT, q.mono h hb⟩
  | ins c fs => obtain ⟨dx, xs, e, o, e2, q⟩ := z; exact ⟨dx, xs, hp _ e nt_ins, (h _ _ e2 nt_own o).2, (h _ _ e2 nt_own o).1, q.mono h hb⟩
  | _ => exact z
theorem Own.there {d : D} {p : Addr} (z : Own K H O b d p) : ∃ o, H p = some o ∧ nt o := by
  cases d with
  | lst ds => obtain ⟨xs, e, q⟩ := z; exact ⟨_, e, nt_lst⟩
  | dic kvs => obtain ⟨xs, e, q⟩ := z; exact ⟨_, e, nt_dK⟩
  | dct kvs => obtain ⟨xs, e, q⟩ := z; exact ⟨_, e, nt_dT⟩
  | ins c fs => obtain ⟨dx, xs, e, o, e2, q⟩ := z; exact ⟨_, e, nt_ins⟩
  | _ => exact False.elim z
/-- let go: it stands for everybody -/
theorem Own.at_ {d : D} {p : Addr} (z : Own K H O b d p) (hp : ¬ O p) : At K H O b d (V.ref p) := by
  cases d with
  | lst ds => obtain ⟨xs, e, q⟩ := z; exact ⟨p, xs, rfl, hp, e, q⟩
  | dic kvs => obtain ⟨xs, e, q⟩ := z; exact ⟨p, xs, rfl, hp, e, q⟩
  | dct kvs => obtain ⟨xs, e, q⟩ := z; exact ⟨p, xs, rfl, hp, e, q⟩
  | ins c fs => obtain ⟨dx, xs, e, o, e2, q⟩ := z; exact ⟨p, dx, xs, rfl, hp, o, e, e2, q⟩
  | _ => exact False.elim z
theorem Ats.length : ∀ {ds : List D} {vs : List V}, Ats K H O b ds vs → vs.length = ds.length
  | [], _, z => by rw [show _ = [] from z]; rfl
  | d :: ds, _, ⟨y, ys, e, q, r⟩ => by rw [e, List.length_cons, List.length_cons, Ats.length r]
theorem Ats.get : ∀ {ds : List D} {vs : List V} {i : Nat} {d : D}, Ats K H O b ds vs → ds[i]? = some d → ∃ v, vs[i]? = some v ∧ At K H O b d v
  | [], _, _, _, _, h => by simp at h
  | e :: ds, _, 0, d, ⟨y, ys, e2, q, r⟩, h => ⟨y, by rw [e2]; rfl, by rw [← show e = d from by simpa using h]; exact q⟩
  | e :: ds, _, i + 1, d, ⟨y, ys, e2, q, r⟩, h => by
    obtain ⟨v, h1, h2⟩ := Ats.get (i := i) r (by simpa using h)
    exact ⟨v, by rw [e2]; simpa using h1, h2⟩
theorem Ats.getV : ∀ {ds : List D} {vs : List V} {i : Nat} {v : V}, Ats K H O b ds vs → vs[i]? = some v → ∃ d, ds[i]? = some d ∧ At K H O b d v
  | [], _, _, _, z, h => by rw [show _ = [] from z] at h; simp at h
  | e :: ds, _, 0, v, ⟨y, ys, e2, q, r⟩, h => ⟨e, rfl, by rw [e2] at h; rw [← show y = v from by simpa using h]; exact q⟩
  | e :: ds, _, i + 1, v, ⟨y, ys, e2, q, r⟩, h => by
    obtain ⟨d, h1, h2⟩ := Ats.getV (i := i) r (by rw [e2] at h; simpa using h)
    exact ⟨d, by simpa using h1, h2⟩
theorem Ats.append : ∀ {ds es : List D} {vs ws : List V}, Ats K H O b ds vs → Ats K H O b es ws → Ats K H O b (ds ++ es) (vs ++ ws)
  | [], _, _, _, z, y => by rw [show _ = [] from z]; exact y
  | d :: ds, _, _, _, ⟨y, ys, e, q, r⟩, z => by rw [e]; exact ⟨y, _, rfl, q, Ats.append r z⟩
theorem Ats.one {d : D} {v : V} (h : At K H O b d v) : Ats K H O b [d] [v] := ⟨v, [], rfl, h, rfl⟩
theorem Ats.take : ∀ {ds : List D} {vs : List V} (n : Nat), Ats K H O b ds vs → Ats K H O b (ds.take n) (vs.take n)
  | _, _, 0, _ => by rw [List.take_zero, List.take_zero]; rfl
  | [], _, n + 1, z => by rw [show _ = [] from z]; rfl
  | d :: ds, _, n + 1, ⟨y, ys, e, q, r⟩ => by rw [e]; exact ⟨y, _, rfl, q, Ats.take n r⟩
theorem Ats.drop : ∀ {ds : List D} {vs : List V} (n : Nat), Ats K H O b ds vs → Ats K H O b (ds.drop n) (vs.drop n)
  | _, _, 0, z => z
  | [], _, n + 1, z => by rw [show _ = [] from z]; rfl
  | d :: ds, _, n + 1, ⟨y, ys, e, q, r⟩ => by rw [e]; exact Ats.drop n r
theorem Ats.set : ∀ {ds : List D} {vs : List V} (i : Nat) {d : D} {v : V}, Ats K H O b ds vs → At K H O b d v → Ats K H O b (ds.set i d) (vs.set i v)
  | [], _, _, _, _, z, _ => by rw [show _ = [] from z]; rfl
  | e :: ds, _, 0, _, _, ⟨y, ys, e2, q, r⟩, h => by rw [e2]; exact ⟨_, _, rfl, h, r⟩
  | e :: ds, _, i + 1, _, _, ⟨y, ys, e2, q, r⟩, h => by rw [e2]; exact ⟨_, _, rfl, q, Ats.set i r h⟩
end

/-! ### the state of a frame -/
/-- nothing of ours stands there -/
def Fr (H : Hp) (p : Addr) : Prop := ∀ o, H p = some o → ¬ nt o
theorem fr_none {H : Hp} {p : Addr} (h : H p = none) : Fr H p := fun o e => by rw [h] at e; cases e
/-- the heap, the locked addresses, the boxes at the frame's entry -/
structure Gh where
  H0 : Hp
  O0 : Addr → Prop
  b0 : List Addr
  tm : List (Addr × HO) := []

def SlotOk (K : PySem.W.Frag) (H : Hp) (O : Addr → Prop) (b : List Addr) : Slot → Option V → Prop
  | .no, _ => True
  | .sh d, o => ∃ v, o = some v ∧ At K H O b d v
  | .ow d, o => ∃ p, o = some (V.ref p) ∧ O p ∧ Own K H O b d p
/-- slot i owns what stands at p -/
def OwAt (t : Ev) (σ : L2.St) (i : Nat) (p : Addr) : Prop := (∃ d, t[i]? = some (.ow d)) ∧ σ[i]? = some (some (V.ref p))

structure Rel (K : PySem.W.Frag) (T : List (Addr × Str)) (G : Gh) (O : Addr → Prop) (b : List Addr) (t : Ev) (S : Sto) (σ : L2.St) (H : Hp) : Prop where
  len : t.length = σ.length
  sl : ∀ (i : Nat) (s : Slot), t[i]? = some s → ∃ o, σ[i]? = some o ∧ SlotOk K H O b s o
  inj : ∀ (i j : Nat) (p : Addr), OwAt t σ i p → OwAt t σ j p → i = j
  nb : ∀ (i : Nat) (p : Addr), OwAt t σ i p → p ∉ b
  fr : ∀ (i : Nat) (p : Addr), OwAt t σ i p → Fr G.H0 p
  bl : b.length = S.length
  st : ∀ (n : Nat) (d : D) (p : Addr), S[n]? = some d → b[n]? = some p → O p ∧ Own K H O b d p
  bnd : b.Nodup
  bfr : ∀ p ∈ b, p ∈ G.b0 ∨ Fr G.H0 p
  ext : ∀ a o, G.H0 a = some o → nt o → a ∉ G.b0 → H a = some o
  grow : ∀ a, Fr H a → Fr G.H0 a
  pre : G.b0 <+: b
  o0 : ∀ a, G.O0 a → O a
  o0t : ∀ a, G.O0 a → ∃ o, G.H0 a = some o ∧ nt o
  ot : ∀ a, O a → ∃ o, H a = some o ∧ nt o
  ofr : ∀ a, O a → G.O0 a ∨ Fr G.H0 a
  b0 : ∀ a ∈ G.b0, G.O0 a
  tabs : LamX.Tabs T H
  tmp : ∀ q ∈ G.tm, H q.1 = some q.2 ∧ nt q.2 ∧ O q.1 ∧ (∀ i : Nat, ¬ OwAt t σ i q.1) ∧ q.1 ∉ b ∧ Fr G.H0 q.1

section
variable {K : PySem.W.Frag} {T : List (Addr × Str)} {G : Gh} {O O' : Addr → Prop} {b b' : List Addr} {t t' : Ev} {S S' : Sto} {σ σ' : L2.St} {H H' : Hp}
/-- what the outer state needs of a step that a call, a new object makes -/
theorem Rel.stays (R : Rel K T G O b t S σ H) (R1 : Rel K T ⟨H, O, b, []⟩ O' b' [] S' [] H') : Stays H O H' O' := fun a o e n hO => by
  have hb : a ∉ b := fun z => by
    have := R1.b0 a z
    exact hO this
  refine ⟨R1.ext a o e n hb, fun z => ?_⟩
  rcases R1.ofr a z with q | q
  · exact hO q
  · exact q o e n
theorem Rel.keepO (R : Rel K T G O b t S σ H) (R1 : Rel K T ⟨H, O, b, []⟩ O' b' [] S' [] H') {p : Addr} (hp : O p) (hb : p ∉ b) : O' p ∧ ∀ o, H p = some o → nt o → H' p = some o :=
  ⟨R1.o0 p hp, fun o e n => R1.ext p o e n hb⟩
theorem Rel.step (R : Rel K T G O b t S σ H) (R1 : Rel K T ⟨H, O, b, []⟩ O' b' [] S' [] H') : Rel K T G O' b' t S' σ H' := by
  have hs := R.stays R1
  have hb : b <+: b' := R1.pre
  refine ⟨R.len, fun i s e => ?_, R.inj, fun i p w z => ?_, R.fr, R1.bl, R1.st, R1.bnd, fun p hp => ?_, fun a o e n hn => ?_, fun a z => R.grow a (R1.grow a z), R.pre.trans hb, fun a z => R1.o0 a (R.o0 a z), R.o0t, R1.ot, fun a z => ?_, R.b0, R1.tabs, fun q hq => ?_⟩
  · obtain ⟨o, e1, q⟩ := R.sl i s e
    refine ⟨o, e1, ?_⟩
    cases s with
    | no => trivial
    | sh d => obtain ⟨v, e2, q⟩ := q; exact ⟨v, e2, q.mono hs hb⟩
    | ow d =>
      obtain ⟨p, e2, h1, q⟩ := q
      have hpb : p ∉ b := R.nb i p ⟨⟨d, e⟩, by rw [e1, e2]⟩
      exact ⟨p, e2, (R.keepO R1 h1 hpb).1, q.mono hs hb (R.keepO R1 h1 hpb).2⟩
  · rcases R1.bfr p z with q | q
    · exact R.nb i p w q
    · obtain ⟨⟨d, e⟩, e1⟩ := w
      obtain ⟨o, e2, z⟩ := R.sl i _ e
      obtain ⟨p', e3, h1, z⟩ := z
      rw [e1] at e2
      cases e2; cases e3
      obtain ⟨u, e4, n4⟩ := z.there
      exact q u e4 n4
  · rcases R1.bfr p hp with q | q
    · exact R.bfr p q
    · exact .inr (R.grow p q)
  · by_cases ha : a ∈ b
    · rcases R.bfr a ha with q | q
      · exact absurd q hn
      · exact absurd n (q o e)
    · exact R1.ext a o (R.ext a o e n hn) n ha
  · rcases R1.ofr a z with q | q
    · exact R.ofr a q
    · exact .inr (R.grow a q)
  · obtain ⟨h1, h2, h3, h4, h5, h6⟩ := R.tmp q hq
    refine ⟨R1.ext _ _ h1 h2 h5, h2, R1.o0 _ h3, h4, fun z => ?_, h6⟩
    rcases R1.bfr _ z with y | y
    · exact h5 y
    · exact y _ h1 h2
end
end TD

set_option Elab.async false
set_option linter.all false
set_option maxRecDepth 100000
set_option maxHeartbeats 1000000
set_option autoImplicit false
namespace TD
open PySem PySem.Spec PyProof.Rows L2

/-- a new container that nobody else holds -/
structure Tmp (K : PySem.W.Frag) (G : Gh) (O : Addr → Prop) (b : List Addr) (t : Ev) (σ : L2.St) (H : Hp) (d : D) (p : Addr) : Prop where
  o : O p
  own : Own K H O b d p
  fr : Fr G.H0 p
  ns : ∀ (i : Nat) (q : Addr), OwAt t σ i q → q ≠ p
  nb : p ∉ b
  nq : ∀ q ∈ G.tm, q.1 ≠ p
def Val (K : PySem.W.Frag) (G : Gh) (O : Addr → Prop) (b : List Addr) (t : Ev) (σ : L2.St) (H : Hp) (v : V) (x : D × Bool) : Prop :=
  (x.2 = false ∧ At K H O b x.1 v) ∨ (x.2 = true ∧ ∃ p, v = V.ref p ∧ Tmp K G O b t σ H x.1 p)

theorem Stays.refl (H : Hp) (O : Addr → Prop) : Stays H O H O := fun _ _ e _ o => ⟨e, o⟩
theorem Stays.trans {H H1 H2 : Hp} {O O1 O2 : Addr → Prop} (x : Stays H O H1 O1) (y : Stays H1 O1 H2 O2) : Stays H O H2 O2 := fun a o e n h =>
  y a o (x a o e n h).1 n (x a o e n h).2

section
variable {K : PySem.W.Frag} {T : List (Addr × Str)} {G : Gh} {O O' : Addr → Prop} {b b' : List Addr} {t t' : Ev} {S S' : Sto} {σ σ' : L2.St} {H H' : Hp}
/-- a locked address that is nobody's is let go -/
theorem Rel.unlock (R : Rel K T G O b t S σ H) {p : Addr} (fr : Fr G.H0 p) (ns : ∀ (i : Nat) (q : Addr), OwAt t σ i q → q ≠ p) (nb : p ∉ b) (nq : ∀ q ∈ G.tm, q.1 ≠ p) :
    Rel K T G (fun a => O a ∧ a ≠ p) b t S σ H ∧ Stays H O H (fun a => O a ∧ a ≠ p) := by
  have hs : Stays H O H (fun a => O a ∧ a ≠ p) := fun a o e n h => ⟨e, fun z => h z.1⟩
  refine ⟨⟨R.len, fun i s e => ?_, R.inj, R.nb, R.fr, R.bl, fun n d q e1 e2 => ?_, R.bnd, R.bfr, R.ext, R.grow, R.pre, fun a z => ⟨R.o0 a z, fun e => ?_⟩, R.o0t, fun a z => R.ot a z.1, fun a z => R.ofr a z.1, R.b0, R.tabs, fun q hq => let ⟨h1, h2, h3, h4⟩ := R.tmp q hq; ⟨h1, h2, ⟨h3, nq q hq⟩, h4⟩⟩, hs⟩
  · obtain ⟨o, e1, q⟩ := R.sl i s e
    refine ⟨o, e1, ?_⟩
    cases s with
    | no => trivial
    | sh d => obtain ⟨v, e2, q⟩ := q; exact ⟨v, e2, q.mono hs (List.prefix_refl _)⟩
    | ow d =>
      obtain ⟨r, e2, h1, q⟩ := q
      exact ⟨r, e2, ⟨h1, ns i r ⟨⟨d, e⟩, by rw [e1, e2]⟩⟩, q.mono hs (List.prefix_refl _) fun _ z _ => z⟩
  · obtain ⟨h1, h2⟩ := R.st n d q e1 e2
    have hm : q ∈ b := List.mem_of_getElem? e2
    exact ⟨⟨h1, fun z => nb (z ▸ hm)⟩, h2.mono hs (List.prefix_refl _) fun _ z _ => z⟩
  · obtain ⟨o, q, n⟩ := R.o0t a z
    rw [e] at q; exact fr o q n
/-- whatever came is let go -/
theorem Rel.share (R : Rel K T G O b t S σ H) {v : V} {x : D × Bool} (h : Val K G O b t σ H v x) : ∃ O', Rel K T G O' b t S σ H ∧ Stays H O H O' ∧ At K H O' b x.1 v := by
  rcases h with ⟨_, h⟩ | ⟨_, p, e, h⟩
  · exact ⟨O, R, Stays.refl _ _, h⟩
  · obtain ⟨R', hs⟩ := R.unlock h.fr h.ns h.nb h.nq
    refine ⟨_, R', hs, ?_⟩
    rw [e]
    exact (h.own.mono hs (List.prefix_refl _) fun _ z _ => z).at_ fun z => z.2 rfl
/-- a slot that is changed: lists by set -/
theorem owAt_set {i j : Nat} {s : Slot} {v : Option V} {p : Addr} (h : OwAt (t.set i s) (σ.set i v) j p) : (j ≠ i ∧ OwAt t σ j p) ∨ (j = i ∧ (∃ d, s = .ow d) ∧ v = some (V.ref p)) := by
  obtain ⟨⟨d, e1⟩, e2⟩ := h
  by_cases hj : j = i
  · subst hj
    refine .inr ⟨rfl, ?_⟩
    have l1 : j < t.length := by
      have := (List.getElem?_eq_some_iff.mp e1).1
      rw [List.length_set] at this; exact this
    have l2 : j < σ.length := by
      have := (List.getElem?_eq_some_iff.mp e2).1
      rw [List.length_set] at this; exact this
    rw [List.getElem?_set_self l1] at e1
    rw [List.getElem?_set_self l2] at e2
    exact ⟨⟨d, Option.some.inj e1⟩, Option.some.inj e2⟩
  · refine .inl ⟨hj, ⟨d, ?_⟩, ?_⟩
    · rw [List.getElem?_set_ne (Ne.symm hj)] at e1; exact e1
    · rw [List.getElem?_set_ne (Ne.symm hj)] at e2; exact e2
/-- slot i is given another worth: what is put there is nobody else's -/
theorem Rel.put (R : Rel K T G O b t S σ H) {i : Nat} {s : Slot} {v : Option V} (hs : SlotOk K H O b s v) (ho : ∀ d p, s = .ow d → v = some (V.ref p) → Fr G.H0 p ∧ p ∉ b ∧ (∀ (j : Nat) (q : Addr), j ≠ i → OwAt t σ j q → q ≠ p) ∧ ∀ q ∈ G.tm, q.1 ≠ p) :
    Rel K T G O b (t.set i s) S (σ.set i v) H := by
  refine ⟨by rw [List.length_set, List.length_set]; exact R.len, fun j s' e => ?_, fun j k p h1 h2 => ?_, fun j p h => ?_, fun j p h => ?_, R.bl, R.st, R.bnd, R.bfr, R.ext, R.grow, R.pre, R.o0, R.o0t, R.ot, R.ofr, R.b0, R.tabs, fun q hq => ?_⟩
  · by_cases hj : j = i
    · subst hj
      have hl : j < t.length := by
        have := (List.getElem?_eq_some_iff.mp e).1
        rw [List.length_set] at this; exact this
      rw [List.getElem?_set_self hl] at e
      cases e
      exact ⟨v, List.getElem?_set_self (by rw [← R.len]; exact hl), hs⟩
    · rw [List.getElem?_set_ne (Ne.symm hj)] at e
      rw [List.getElem?_set_ne (Ne.symm hj)]
      exact R.sl j s' e
  · rcases owAt_set h1 with ⟨n1, h1⟩ | ⟨n1, ⟨d1, e1⟩, q1⟩
    · rcases owAt_set h2 with ⟨n2, h2⟩ | ⟨n2, ⟨d2, e2⟩, q2⟩
      · exact R.inj j k p h1 h2
      · exact absurd rfl ((ho d2 p e2 q2).2.2.1 j p n1 h1)
    · rcases owAt_set h2 with ⟨n2, h2⟩ | ⟨n2, ⟨d2, e2⟩, q2⟩
      · exact absurd rfl ((ho d1 p e1 q1).2.2.1 k p n2 h2)
      · rw [n1, n2]
  · rcases owAt_set h with ⟨n, h⟩ | ⟨n, ⟨d, e⟩, q⟩
    · exact R.nb j p h
    · exact (ho d p e q).2.1
  · rcases owAt_set h with ⟨n, h⟩ | ⟨n, ⟨d, e⟩, q⟩
    · exact R.fr j p h
    · exact (ho d p e q).1
  · obtain ⟨h1, h2, h3, h4, h5⟩ := R.tmp q hq
    refine ⟨h1, h2, h3, fun j w => ?_, h5⟩
    rcases owAt_set w with ⟨n, w⟩ | ⟨n, ⟨d, e⟩, e2⟩
    · exact h4 j w
    · exact (ho d q.1 e e2).2.2.2 q hq rfl
/-- the slots are told anew, the frame's own stay (weaker) -/
theorem Rel.set_t (R : Rel K T G O b t S σ H) {i : Nat} {s : Slot} (hs : ∀ v, σ[i]? = some v → SlotOk K H O b s v) (ho : ∀ d, s ≠ .ow d) : Rel K T G O b (t.set i s) S σ H := by
  have q : ∀ {j : Nat} {p : Addr}, OwAt (t.set i s) σ j p → OwAt t σ j p := fun {j p} h => by
    obtain ⟨⟨d, e1⟩, e2⟩ := h
    by_cases hj : j = i
    · subst hj
      have l1 : j < t.length := by
        have := (List.getElem?_eq_some_iff.mp e1).1
        rw [List.length_set] at this; exact this
      rw [List.getElem?_set_self l1] at e1
      exact absurd (Option.some.inj e1) (ho d)
    · rw [List.getElem?_set_ne (Ne.symm hj)] at e1
      exact ⟨⟨d, e1⟩, e2⟩
  refine ⟨by rw [List.length_set]; exact R.len, fun j s' e => ?_, fun j k p h1 h2 => R.inj j k p (q h1) (q h2), fun j p h => R.nb j p (q h), fun j p h => R.fr j p (q h), R.bl, R.st, R.bnd, R.bfr, R.ext, R.grow, R.pre, R.o0, R.o0t, R.ot, R.ofr, R.b0, R.tabs, fun x hx => let ⟨h1, h2, h3, h4, h5⟩ := R.tmp x hx; ⟨h1, h2, h3, fun j w => h4 j (q w), h5⟩⟩
  by_cases hj : j = i
  · subst hj
    have hl : j < t.length := by
      have := (List.getElem?_eq_some_iff.mp e).1
      rw [List.length_set] at this; exact this
    rw [List.getElem?_set_self hl] at e
    cases e
    obtain ⟨o, e1, _⟩ := R.sl j t[j] (by simp [hl])
    exact ⟨o, e1, hs o e1⟩
  · rw [List.getElem?_set_ne (Ne.symm hj)] at e
    exact R.sl j s' e
/-- the slots are forgotten -/
theorem Rel.drop (R : Rel K T G O b t S σ H) : Rel K T G O b [] S [] H :=
  ⟨rfl, fun i s e => by simp at e, fun i j p h => by obtain ⟨⟨d, e⟩, _⟩ := h; simp at e, fun i p h => by obtain ⟨⟨d, e⟩, _⟩ := h; simp at e, fun i p h => by obtain ⟨⟨d, e⟩, _⟩ := h; simp at e, R.bl, R.st, R.bnd, R.bfr, R.ext, R.grow, R.pre, R.o0, R.o0t, R.ot, R.ofr, R.b0, R.tabs, fun q hq => let ⟨h1, h2, h3, h4, h5⟩ := R.tmp q hq; ⟨h1, h2, h3, fun i w => by obtain ⟨⟨d, e⟩, _⟩ := w; simp at e, h5⟩⟩
/-- the entry -/
theorem Rel.self (R : Rel K T G O b t S σ H) : Rel K T ⟨H, O, b, []⟩ O b [] S [] H :=
  ⟨rfl, fun i s e => by simp at e, fun i j p h => by obtain ⟨⟨d, e⟩, _⟩ := h; simp at e, fun i p h => by obtain ⟨⟨d, e⟩, _⟩ := h; simp at e, fun i p h => by obtain ⟨⟨d, e⟩, _⟩ := h; simp at e, R.bl, R.st, R.bnd, fun p z => .inl z,
    fun a o e _ _ => e, fun a e => e, List.prefix_refl _, fun a z => z, R.ot, R.ot, fun a z => .inl z, fun a z => by
      obtain ⟨n, hn⟩ := List.mem_iff_getElem?.mp z
      have hl : n < S.length := by rw [← R.bl]; exact (List.getElem?_eq_some_iff.mp hn).1
      exact (R.st n S[n] a (by simp [hl]) hn).1, R.tabs, fun q hq => by cases hq⟩
/-- a new object stands at p, locked or not -/
theorem Rel.newG (R : Rel K T G O b t S σ H) {p : Addr} {o : HO} (hp : H p = none) (hn : nt o) {O' : Addr → Prop} (h1 : ∀ a, O a → O' a) (h2 : ∀ a, O' a → O a ∨ a = p) : Rel K T G O' b t S σ (upd H p o) ∧ Stays H O (upd H p o) O' := by
  have keep : ∀ a u, H a = some u → upd H p o a = some u := fun a u e => by
    rw [upd_ne (ne_of_none e hp)]; exact e
  have hs : Stays H O (upd H p o) O' := fun a u e n h => ⟨keep a u e, fun z => (h2 a z).elim h fun q => by rw [q, hp] at e; cases e⟩
  have z := R.self
  have R1 : Rel K T ⟨H, O, b, []⟩ O' b [] S [] (upd H p o) := by
    refine ⟨rfl, fun i s e => by simp at e, z.inj, z.nb, z.fr, z.bl, fun n d q e1 e2 => ?_, z.bnd, z.bfr, fun a u e n _ => keep a u e, fun a e => ?_, z.pre, fun a q => h1 a q, z.o0t, fun a h => ?_, fun a h => ?_, z.b0, R.tabs.ext keep, fun q hq => by cases hq⟩
    · obtain ⟨q1, q2⟩ := R.st n d q e1 e2
      exact ⟨h1 _ q1, q2.mono hs (List.prefix_refl _) fun u e _ => keep q u e⟩
    · exact fun u e2 n2 => e u (keep a u e2) n2
    · rcases h2 a h with h | h
      · obtain ⟨u, e, n⟩ := R.ot a h
        exact ⟨u, keep a u e, n⟩
      · rw [h]; exact ⟨o, upd_same, hn⟩
    · rcases h2 a h with h | h
      · exact .inl h
      · rw [h]; exact .inr (fr_none hp)
  exact ⟨R.step R1, hs⟩
theorem Rel.free (R : Rel K T G O b t S σ H) {p : Addr} (hp : H p = none) : ¬ O p := fun z => by
  obtain ⟨u, e, _⟩ := R.ot p z
  rw [hp] at e; cases e
/-- a new object, not locked -/
theorem Rel.new (R : Rel K T G O b t S σ H) {p : Addr} {o : HO} (hp : H p = none) (hn : nt o) : Rel K T G O b t S σ (upd H p o) ∧ Stays H O (upd H p o) O := R.newG hp hn (fun _ z => z) fun _ z => .inl z
/-- a new object, locked: a new container of nobody else's -/
theorem Rel.newL (R : Rel K T G O b t S σ H) {p : Addr} {o : HO} (hp : H p = none) (hn : nt o) : Rel K T G (fun a => O a ∨ a = p) b t S σ (upd H p o) ∧ Stays H O (upd H p o) (fun a => O a ∨ a = p) := R.newG hp hn (fun _ z => .inl z) fun _ z => z
theorem Rel.tmpOf (R : Rel K T G O b t S σ H) {p : Addr} {o : HO} {d : D} (hp : H p = none) (hn : nt o) (hd : Own K (upd H p o) (fun a => O a ∨ a = p) b d p) : Tmp K G (fun a => O a ∨ a = p) b t σ (upd H p o) d p := by
  refine ⟨.inr rfl, hd, R.grow p (fr_none hp), fun i q h e => ?_, fun h => ?_, fun q hq z => by rw [← z, (R.tmp q hq).1] at hp; cases hp⟩
  · obtain ⟨⟨d, e1⟩, e2⟩ := h
    obtain ⟨o, e3, r, e4, h1, _⟩ := R.sl i _ e1
    rw [e2] at e3
    cases e3; cases e4
    exact R.free hp (e ▸ h1)
  · obtain ⟨n, hn⟩ := List.mem_iff_getElem?.mp h
    have hl : n < S.length := by rw [← R.bl]; exact (List.getElem?_eq_some_iff.mp hn).1
    exact R.free hp (R.st n S[n] p (by simp [hl]) hn).1
/-- the slot's container is taken out -/
theorem Rel.take (R : Rel K T G O b t S σ H) {i : Nat} {d : D} (e : t[i]? = some (.ow d)) : ∃ p, σ[i]? = some (some (V.ref p)) ∧ Rel K T G O b (t.set i .no) S σ H ∧ Tmp K G O b (t.set i .no) σ H d p := by
  obtain ⟨o, e1, p, e2, h1, h2⟩ := R.sl i _ e
  subst e2
  have w : OwAt t σ i p := ⟨⟨d, e⟩, e1⟩
  refine ⟨p, e1, R.set_t (fun _ _ => trivial) (fun d z => nomatch z), h1, h2, R.fr i p w, fun j q h z => ?_, R.nb i p w, fun q hq z => (R.tmp q hq).2.2.2.1 i (z ▸ w)⟩
  subst z
  obtain ⟨⟨d', e3⟩, e4⟩ := h
  by_cases hj : j = i
  · subst hj
    have l1 : j < t.length := by
      have := (List.getElem?_eq_some_iff.mp e3).1
      rw [List.length_set] at this; exact this
    rw [List.getElem?_set_self l1] at e3
    cases e3
  · rw [List.getElem?_set_ne (Ne.symm hj)] at e3
    exact hj (R.inj j i q ⟨⟨d', e3⟩, e4⟩ w)
/-- a container that nobody else holds is written -/
theorem Rel.mutT (R : Rel K T G O b t S σ H) {p : Addr} {d d' : D} {o : HO} (h : Tmp K G O b t σ H d p) (hn : nt o) (hd : Stays H O (upd H p o) O → Own K (upd H p o) O b d' p) :
    Rel K T G O b t S σ (upd H p o) ∧ Stays H O (upd H p o) O ∧ Tmp K G O b t σ (upd H p o) d' p := by
  obtain ⟨u0, ep, np⟩ := h.own.there
  have hs : Stays H O (upd H p o) O := fun a u e n q => ⟨by rw [upd_ne (fun z : a = p => q (by rw [z]; exact h.o))]; exact e, q⟩
  have oth : ∀ q, q ≠ p → ∀ u, H q = some u → nt u → upd H p o q = some u := fun q z u e _ => by rw [upd_ne z]; exact e
  refine ⟨⟨R.len, fun i s e => ?_, R.inj, R.nb, R.fr, R.bl, fun n d q e1 e2 => ?_, R.bnd, R.bfr, fun a u e n z => ?_, fun a e => ?_, R.pre, R.o0, R.o0t, fun a z => ?_, R.ofr, R.b0, ?_, fun q hq => let ⟨h1, h2, h3⟩ := R.tmp q hq; ⟨oth _ (h.nq q hq) _ h1 h2, h2, h3⟩⟩, hs, h.o, hd hs, h.fr, h.ns, h.nb, h.nq⟩
  · obtain ⟨v, e1, q⟩ := R.sl i s e
    refine ⟨v, e1, ?_⟩
    cases s with
    | no => trivial
    | sh d => obtain ⟨v, e2, q⟩ := q; exact ⟨v, e2, q.mono hs (List.prefix_refl _)⟩
    | ow d =>
      obtain ⟨r, e2, h1, q⟩ := q
      exact ⟨r, e2, h1, q.mono hs (List.prefix_refl _) (oth r (h.ns i r ⟨⟨d, e⟩, by rw [e1, e2]⟩))⟩
  · obtain ⟨q1, q2⟩ := R.st n d q e1 e2
    exact ⟨q1, q2.mono hs (List.prefix_refl _) (oth q fun z => h.nb (z ▸ List.mem_of_getElem? e2))⟩
  · exact oth a (fun q => by rw [q] at e; exact h.fr u e n) u (R.ext a u e n z) n
  · refine R.grow a fun u eu nu => ?_
    by_cases z : a = p
    · rw [z] at e; exact e o upd_same hn
    · exact e u (by rw [upd_ne z]; exact eu) nu
  · obtain ⟨u, e, n⟩ := R.ot a z
    by_cases q : a = p
    · rw [q, upd_same]; exact ⟨o, rfl, hn⟩
    · exact ⟨u, oth a q u e n, n⟩
  · intro x hx
    obtain ⟨ps, h1, h2, h3⟩ := R.tabs x hx
    have np1 : x.1 ≠ p := fun z => by
      rw [z, ep] at h1
      exact np ps (Option.some.inj h1)
    refine ⟨ps, by rw [upd_ne np1]; exact h1, h2, fun pos cv hc => ?_⟩
    obtain ⟨c, e1, e2⟩ := h3 pos cv hc
    have nc : c ≠ p := fun z => by
      rw [z] at e2
      have : d = d := rfl
      cases d with
      | lst ds => obtain ⟨xs, e, _⟩ := h.own; rw [e] at e2; cases e2
      | dic kvs => obtain ⟨xs, e, _⟩ := h.own; rw [e] at e2; cases e2
      | dct kvs => obtain ⟨xs, e, _⟩ := h.own; rw [e] at e2; cases e2
      | ins c fs => obtain ⟨dx, xs, e, _⟩ := h.own; rw [e] at e2; cases e2
      | _ => exact h.own.elim
    exact ⟨c, e1, by rw [upd_ne nc]; exact e2⟩
theorem Rel.hold (R : Rel K T G O b t S σ H) {i : Nat} {p : Addr} {d : D} (h : Tmp K G O b t σ H d p) (e : σ[i]? = some (some (V.ref p))) : Rel K T G O b (t.set i (.ow d)) S σ H := by
  have z := R.put (i := i) (s := .ow d) (v := some (V.ref p)) ⟨p, rfl, h.o, h.own⟩ fun d' q e1 e2 => by
    cases e1; cases e2
    exact ⟨h.fr, h.nb, fun j q _ w => h.ns j q w, h.nq⟩
  have es : σ.set i (some (V.ref p)) = σ := by
    obtain ⟨hl, e2⟩ := List.getElem?_eq_some_iff.mp e
    rw [← e2]; exact List.set_getElem_self hl
  rw [es] at z
  exact z
end

/-! ### what is wanted behind a run -/
section
variable (K : PySem.W.Frag) (T : List (Addr × Str)) (W : WX) (G : Gh)
/-- behind an expression -/
def Post {α : Type} (O : Addr → Prop) (b : List Addr) (σ : L2.St) (H : Hp) (r : R α) (k : (Addr → Prop) → List Addr → α → Ev → Sto → Hp → Prop) : Prop :=
  match r with
  | .ok x t' S' => ∀ (H' : Hp) (O' : Addr → Prop) (b' : List Addr), Rel K T G O' b' t' S' σ H' → b <+: b' → Stays H O H' O' → k O' b' x t' S' H'
  | .ex c fs t' S' => ∀ (H' : Hp) (O' : Addr → Prop) (b' : List Addr) (d : Addr) (xs : List (Str × V)), Rel K T G O' b' t' S' σ H' → b <+: b' → Stays H O H' O' → H' d = some (.xd xs) → Atf K H' O' b' fs xs → W (.ref (He.ga K c)) (some d) σ H'
  | .bad => False
/-- behind a statement -/
def PostS (O : Addr → Prop) (b : List Addr) (H : Hp) (r : R Fl) (Dn : Ends) : Prop :=
  match r with
  | .ok .nx t' S' => ∀ (σ' : L2.St) (H' : Hp) (O' : Addr → Prop) (b' : List Addr), Rel K T G O' b' t' S' σ' H' → b <+: b' → Stays H O H' O' → Dn.nx σ' H'
  | .ok .bk t' S' => ∀ (σ' : L2.St) (H' : Hp) (O' : Addr → Prop) (b' : List Addr), Rel K T G O' b' t' S' σ' H' → b <+: b' → Stays H O H' O' → Dn.bk σ' H'
  | .ok .ct t' S' => ∀ (σ' : L2.St) (H' : Hp) (O' : Addr → Prop) (b' : List Addr), Rel K T G O' b' t' S' σ' H' → b <+: b' → Stays H O H' O' → Dn.ct σ' H'
  | .ok (.rt d f) t' S' => ∀ (v : V) (σ' : L2.St) (H' : Hp) (O' : Addr → Prop) (b' : List Addr), Rel K T G O' b' t' S' σ' H' → b <+: b' → Stays H O H' O' → Val K G O' b' t' σ' H' v (d, f) → Dn.rt v H'
  | .ex c fs t' S' => ∀ (σ' : L2.St) (H' : Hp) (O' : Addr → Prop) (b' : List Addr) (d : Addr) (xs : List (Str × V)), Rel K T G O' b' t' S' σ' H' → b <+: b' → Stays H O H' O' → H' d = some (.xd xs) → Atf K H' O' b' fs xs → W (.ref (He.ga K c)) (some d) σ' H'
  | .bad => False
end
section
variable (K : PySem.W.Frag) (T : List (Addr × Str)) (W : WX)
def tD (m : ME) : TE := fun σ H Q => ∃ G O b t S, Rel K T G O b t S σ H ∧ Post K T W G O b σ H (m t S) fun O' b' x t' _ H' => ∀ v, Val K G O' b' t' σ H' v x → Q v H'
/-- what may be held by a slot or a box, and is only looked at -/
def Bor (H : Hp) (O : Addr → Prop) (b : List Addr) (d : D) (v : V) : Prop := At K H O b d v ∨ ∃ p, v = V.ref p ∧ Own K H O b d p
def tBr (m : MB) : TE := fun σ H Q => ∃ G O b t S, Rel K T G O b t S σ H ∧ Post K T W G O b σ H (m t S) fun O' b' x _ _ H' => ∀ v, Bor K H' O' b' x v → Q v H'
def tT (m : MT) : TT := fun σ H Q => ∃ G O b t S, Rel K T G O b t S σ H ∧ Post K T W G O b σ H (m t S) fun _ _ x _ _ H' => Q x H'
def tA (m : MA) : TA := fun σ H Q => ∃ G O b t S, Rel K T G O b t S σ H ∧ Post K T W G O b σ H (m t S) fun O' b' x _ _ H' => ∀ vs, Ats K H' O' b' x vs → Q vs H'
def tS (m : MS) : TS := fun Dn σ H => ∃ G O b t S, Rel K T G O b t S σ H ∧ PostS K T W G O b H (m t S) Dn
end
section
variable {K : PySem.W.Frag} {T : List (Addr × Str)} {W : WX} {G : Gh} {O O1 : Addr → Prop} {b b1 : List Addr} {t t1 : Ev} {S S1 : Sto} {σ : L2.St} {H H1 : Hp} {α β : Type}
theorem Post.imp {r : R α} {k k' : (Addr → Prop) → List Addr → α → Ev → Sto → Hp → Prop} (h : Post K T W G O b σ H r k)
    (f : ∀ (O' : Addr → Prop) (b' : List Addr) (x : α) (t' : Ev) (S' : Sto) (H' : Hp), Rel K T G O' b' t' S' σ H' → b <+: b' → Stays H O H' O' → k O' b' x t' S' H' → k' O' b' x t' S' H') : Post K T W G O b σ H r k' := by
  cases r with
  | ok x t' S' => exact fun H' O' b' R hb hs => f O' b' x t' S' H' R hb hs (h H' O' b' R hb hs)
  | ex c fs t' S' => exact h
  | bad => exact h
/-- from a later state -/
theorem Post.later {r : R α} {k : (Addr → Prop) → List Addr → α → Ev → Sto → Hp → Prop} (h : Post K T W G O b σ H r k) (hb : b <+: b1) (hs : Stays H O H1 O1) : Post K T W G O1 b1 σ H1 r k := by
  cases r with
  | ok x t' S' => exact fun H' O' b' R hb' hs' => h H' O' b' R (hb.trans hb') (hs.trans hs')
  | ex c fs t' S' => exact fun H' O' b' d xs R hb' hs' => h H' O' b' d xs R (hb.trans hb') (hs.trans hs')
  | bad => exact h
theorem Post.bnd {m : M α} {f : α → M β} {k : (Addr → Prop) → List Addr → β → Ev → Sto → Hp → Prop} (h : Post K T W G O b σ H (bnd m f t S) k) :
    Post K T W G O b σ H (m t S) fun O' b' x t' S' H' => Post K T W G O' b' σ H' (f x t' S') k := by
  unfold TD.bnd at h
  revert h
  cases m t S with
  | ok x t' S' => exact fun h H' O' b' R hb hs => h.later hb hs
  | ex c fs t' S' => exact fun h => h
  | bad => exact fun h => h
theorem PostS.later {r : R Fl} {Dn : Ends} (h : PostS K T W G O b H r Dn) (hb : b <+: b1) (hs : Stays H O H1 O1) : PostS K T W G O1 b1 H1 r Dn := by
  cases r with
  | ok x t' S' =>
    cases x with
    | nx => exact fun s' H' O' b' R hb' hs' => h s' H' O' b' R (hb.trans hb') (hs.trans hs')
    | bk => exact fun s' H' O' b' R hb' hs' => h s' H' O' b' R (hb.trans hb') (hs.trans hs')
    | ct => exact fun s' H' O' b' R hb' hs' => h s' H' O' b' R (hb.trans hb') (hs.trans hs')
    | rt d f => exact fun v s' H' O' b' R hb' hs' => h v s' H' O' b' R (hb.trans hb') (hs.trans hs')
  | ex c fs t' S' => exact fun s' H' O' b' d xs R hb' hs' => h s' H' O' b' d xs R (hb.trans hb') (hs.trans hs')
  | bad => exact h
/-- an expression ahead of a statement's rest -/
theorem PostS.bnd {m : M α} {f : α → MS} {Dn : Ends} (h : PostS K T W G O b H (bnd m f t S) Dn) :
    Post K T W G O b σ H (m t S) fun O' b' x t' S' H' => PostS K T W G O' b' H' (f x t' S') Dn := by
  unfold TD.bnd at h
  revert h
  cases m t S with
  | ok x t' S' => exact fun h H' O' b' R hb hs => h.later hb hs
  | ex c fs t' S' => exact fun h H' O' b' d xs => h σ H' O' b' d xs
  | bad => exact fun h => h
end
end TD

set_option Elab.async false
set_option linter.all false
set_option maxRecDepth 100000
set_option maxHeartbeats 1000000
set_option autoImplicit false
namespace TD
open PySem PySem.Spec PyProof.Rows L2

/-! ### words of the semantics -/
def pur (d : D) : ME := ret (d, false)
def eb {β : Type} (m : ME) (f : D → M β) : M β := bnd m fun x => f x.1
/-- a box is looked into -/
def vw (S : Sto) : D → D
  | .box n => (S[n]?).getD (.box n)
  | d => d
def eVar (i : Nat) : ME := fun t S => match t[i]? with
  | some (.sh d) => .ok (d, false) t S
  | some (.ow d) => .ok (d, false) (t.set i (.sh d)) S
  | _ => .bad
def bVar (i : Nat) : MB := fun t S => match t[i]? with
  | some (.sh d) => .ok (vw S d) t S
  | some (.ow d) => .ok d t S
  | _ => .bad
def eMove (i : Nat) : ME := fun t S => match t[i]? with
  | some (.sh d) => .ok (d, false) t S
  | some (.ow d) => .ok (d, true) (t.set i .no) S
  | _ => .bad
def brD (m : ME) : MB := fun t S => match m t S with
  | .ok x t' S' => .ok (vw S' x.1) t' S'
  | .ex c fs t' S' => .ex c fs t' S'
  | .bad => .bad
def iff {α : Type} (c : MT) (a b : M α) : M α := bnd c fun x => if x = true then a else b

section
variable (X : Cx) (T : List (Addr × Str)) (W : WX)
abbrev PD (e : Expr) (m : ME) : Prop := PE X e (tD X.K T W m)
abbrev PB (e : Expr) (m : MB) : Prop := PE X e (tBr X.K T W m)
abbrev PC (e : Expr) (m : MT) : Prop := PT X e (tT X.K T W m)
abbrev PAs (es : List Expr) (m : MA) : Prop := PA X es (tA X.K T W m)
abbrev PSt (s : Stmt) (m : MS) : Prop := PS X s (tS X.K T W m)
abbrev PBk (s : List Stmt) (m : MS) : Prop := PSs X s (tS X.K T W m)
end

section
variable {X : Cx} {e : Expr} {es : List Expr} {st : Stmt} {sts : List Stmt}
theorem PE.imp' {t u : TE} (h : PE X e t) (f : ∀ σ H Q, u σ H Q → t σ H Q) : PE X e u := ⟨fun p s σ H Q I q => h.run p s σ H Q I (f σ H Q q)⟩
theorem PT.imp' {t u : TT} (h : PT X e t) (f : ∀ σ H Q, u σ H Q → t σ H Q) : PT X e u := ⟨fun p s σ H Q I q => h.run p s σ H Q I (f σ H Q q)⟩
theorem PA.imp' {t u : TA} (h : PA X es t) (f : ∀ σ H Q, u σ H Q → t σ H Q) : PA X es u := ⟨fun p z s σ H Q I q => h.run p z s σ H Q I (f σ H Q q)⟩
theorem PS.imp' {t u : TS} (h : PS X st t) (f : ∀ Dn σ H, u Dn σ H → t Dn σ H) : PS X st u := ⟨fun p s σ H Dn I q => h.run p s σ H Dn I (f Dn σ H q)⟩
theorem PSs.imp' {t u : TS} (h : PSs X sts t) (f : ∀ Dn σ H, u Dn σ H → t Dn σ H) : PSs X sts u := ⟨fun p s σ H Dn I q => h.run p s σ H Dn I (f Dn σ H q)⟩
end

section
variable {K : PySem.W.Frag} {T : List (Addr × Str)} {W : WX} {G : Gh} {O : Addr → Prop} {b : List Addr} {t : Ev} {S : Sto} {σ : L2.St} {H : Hp} {α β : Type}
abbrev KT (α : Type) := (Addr → Prop) → List Addr → α → Ev → Sto → Hp → Prop
theorem Post.here {x : α} {k : KT α} (h : Post K T W G O b σ H (.ok x t S) k) (R : Rel K T G O b t S σ H) : k O b x t S H := h H O b R (List.prefix_refl _) (Stays.refl _ _)
theorem Post.mk {x : α} {k : KT α} (h : ∀ (H' : Hp) (O' : Addr → Prop) (b' : List Addr), Rel K T G O' b' t S σ H' → b <+: b' → Stays H O H' O' → k O' b' x t S H') : Post K T W G O b σ H (.ok x t S) k := h
theorem ex_bor {d : D} {v : V} (R : Rel K T G O b t S σ H) (h : At K H O b d v) : Bor K H O b (vw S d) v := by
  cases d with
  | box n =>
    obtain ⟨a, e, hn⟩ := h
    show Bor K H O b ((S[n]?).getD (.box n)) v
    cases hS : S[n]? with
    | none => exact .inl ⟨a, e, hn⟩
    | some d' => exact .inr ⟨a, e, (R.st n d' a hS hn).2⟩
  | _ => exact .inl h
/-- an expression's worth, shared, then the rest -/
theorem useD {m : ME} {f : D → M β} {k : KT β} (R : Rel K T G O b t S σ H) (h : Post K T W G O b σ H (eb m f t S) k) {Q : VK}
    (g : ∀ (O1 : Addr → Prop) (b1 : List Addr) (d : D) (t1 : Ev) (S1 : Sto) (H1 : Hp) (v : V), Rel K T G O1 b1 t1 S1 σ H1 → b <+: b1 → Stays H O H1 O1 → At K H1 O1 b1 d v → Post K T W G O1 b1 σ H1 (f d t1 S1) k → Q v H1) : tD K T W m σ H Q :=
  ⟨G, O, b, t, S, R, (Post.bnd h).imp fun O' b' x t' S' H' R' hb hs h' v hv =>
    let ⟨O2, R2, s2, a2⟩ := R'.share hv
    g O2 b' x.1 t' S' H' v R2 hb (hs.trans s2) a2 (Post.later h' (List.prefix_refl _) s2)⟩
theorem useB {m : MB} {f : D → M β} {k : KT β} (R : Rel K T G O b t S σ H) (h : Post K T W G O b σ H (bnd m f t S) k) {Q : VK}
    (g : ∀ (O1 : Addr → Prop) (b1 : List Addr) (d : D) (t1 : Ev) (S1 : Sto) (H1 : Hp) (v : V), Rel K T G O1 b1 t1 S1 σ H1 → b <+: b1 → Stays H O H1 O1 → Bor K H1 O1 b1 d v → Post K T W G O1 b1 σ H1 (f d t1 S1) k → Q v H1) : tBr K T W m σ H Q :=
  ⟨G, O, b, t, S, R, (Post.bnd h).imp fun O' b' x t' S' H' R' hb hs h' v hv => g O' b' x t' S' H' v R' hb hs hv h'⟩
theorem useT {m : MT} {f : Bool → M β} {k : KT β} (R : Rel K T G O b t S σ H) (h : Post K T W G O b σ H (bnd m f t S) k) {Q : Bool → Hp → Prop}
    (g : ∀ (O1 : Addr → Prop) (b1 : List Addr) (d : Bool) (t1 : Ev) (S1 : Sto) (H1 : Hp), Rel K T G O1 b1 t1 S1 σ H1 → b <+: b1 → Stays H O H1 O1 → Post K T W G O1 b1 σ H1 (f d t1 S1) k → Q d H1) : tT K T W m σ H Q :=
  ⟨G, O, b, t, S, R, (Post.bnd h).imp fun O' b' x t' S' H' R' hb hs h' => g O' b' x t' S' H' R' hb hs h'⟩
theorem useA {m : MA} {f : List D → M β} {k : KT β} (R : Rel K T G O b t S σ H) (h : Post K T W G O b σ H (bnd m f t S) k) {Q : List V → Hp → Prop}
    (g : ∀ (O1 : Addr → Prop) (b1 : List Addr) (d : List D) (t1 : Ev) (S1 : Sto) (H1 : Hp) (v : List V), Rel K T G O1 b1 t1 S1 σ H1 → b <+: b1 → Stays H O H1 O1 → Ats K H1 O1 b1 d v → Post K T W G O1 b1 σ H1 (f d t1 S1) k → Q v H1) : tA K T W m σ H Q :=
  ⟨G, O, b, t, S, R, (Post.bnd h).imp fun O' b' x t' S' H' R' hb hs h' v hv => g O' b' x t' S' H' v R' hb hs hv h'⟩
/-- what an expression's end wants, of a plain worth -/
abbrev KD (K : PySem.W.Frag) (G : Gh) (σ : L2.St) (Q : VK) : KT (D × Bool) := fun O' b' x t' _ H' => ∀ v, Val K G O' b' t' σ H' v x → Q v H'
theorem endD {d : D} {v : V} {Q : VK} (R : Rel K T G O b t S σ H) (h : Post K T W G O b σ H (pur d t S) (KD K G σ Q)) (hv : At K H O b d v) : Q v H := Post.here h R v (.inl ⟨rfl, hv⟩)
/-- a new object that nobody holds comes out -/
theorem endN {d : D} {p : Addr} {o : HO} {Q : VK} (R : Rel K T G O b t S σ H) (h : Post K T W G O b σ H (.ok (d, true) t S) (KD K G σ Q)) (hp : H p = none) (hn : nt o) (hd : Stays H O (upd H p o) (fun a => O a ∨ a = p) → Own K (upd H p o) (fun a => O a ∨ a = p) b d p) : Q (.ref p) (upd H p o) := by
  obtain ⟨R1, s1⟩ := R.newL hp hn
  exact h _ _ _ R1 (List.prefix_refl _) s1 _ (.inr ⟨rfl, p, rfl, R.tmpOf hp hn (hd s1)⟩)
/-- a new object for everybody -/
theorem endO {d : D} {p : Addr} {o : HO} {Q : VK} (R : Rel K T G O b t S σ H) (h : Post K T W G O b σ H (pur d t S) (KD K G σ Q)) (hp : H p = none) (hn : nt o) (hd : Stays H O (upd H p o) O → ¬ O p → At K (upd H p o) O b d (V.ref p)) : Q (.ref p) (upd H p o) := by
  obtain ⟨R1, s1⟩ := R.new hp hn
  exact h _ _ _ R1 (List.prefix_refl _) s1 _ (.inl ⟨rfl, hd s1 (R.free hp)⟩)
end

/-! ### names, constants -/
section
variable {X : Cx} {T : List (Addr × Str)} {W : WX} {e a c : Expr} {es : List Expr} {pos : Pos}
theorem pd_var {i : Nat} {x : Str} (hN : X.N[i]? = some x) (hv : Vis X.env.scope x) (hd : (x == ("__debug__" : Str)) = false := by decide) (hcd : (x == ("__classdict__" : Str)) = false := by decide) : PD X T W (.Name x pos) (eVar i) := by
  refine PE.imp' (pe_var hN hv hd hcd) fun σ H Q ⟨G, O, b, t, S, R, h⟩ => ?_
  unfold eVar at h
  cases ht : t[i]? with
  | none => rw [ht] at h; exact h.elim
  | some s =>
    rw [ht] at h
    obtain ⟨o, e1, q⟩ := R.sl i s ht
    cases s with
    | no => exact h.elim
    | sh d =>
      obtain ⟨v, e2, q⟩ := q
      exact ⟨v, by rw [e1, e2], endD R h q⟩
    | ow d =>
      obtain ⟨p, e2, R1, tm⟩ := R.take ht
      obtain ⟨R2, s2⟩ := R1.unlock tm.fr tm.ns tm.nb tm.nq
      have ha : At X.K H (fun a => O a ∧ a ≠ p) b d (V.ref p) := (tm.own.mono s2 (List.prefix_refl _) fun _ z _ => z).at_ fun z => z.2 rfl
      have R3 := R2.set_t (i := i) (s := .sh d) (fun v ev => by
        rw [e2] at ev
        cases ev
        exact ⟨_, rfl, ha⟩) (fun d z => nomatch z)
      rw [List.set_set] at R3
      exact ⟨_, e2, h _ _ _ R3 (List.prefix_refl _) s2 _ (.inl ⟨rfl, ha⟩)⟩
theorem pd_move {i : Nat} {x : Str} (hN : X.N[i]? = some x) (hv : Vis X.env.scope x) (hd : (x == ("__debug__" : Str)) = false := by decide) (hcd : (x == ("__classdict__" : Str)) = false := by decide) : PD X T W (.Name x pos) (eMove i) := by
  refine PE.imp' (pe_var hN hv hd hcd) fun σ H Q ⟨G, O, b, t, S, R, h⟩ => ?_
  unfold eMove at h
  cases ht : t[i]? with
  | none => rw [ht] at h; exact h.elim
  | some s =>
    rw [ht] at h
    obtain ⟨o, e1, q⟩ := R.sl i s ht
    cases s with
    | no => exact h.elim
    | sh d =>
      obtain ⟨v, e2, q⟩ := q
      exact ⟨v, by rw [e1, e2], endD R h q⟩
    | ow d =>
      obtain ⟨p, e2, R1, tm⟩ := R.take ht
      exact ⟨_, e2, h _ _ _ R1 (List.prefix_refl _) (Stays.refl _ _) _ (.inr ⟨rfl, p, rfl, tm⟩)⟩
theorem pb_var {i : Nat} {x : Str} (hN : X.N[i]? = some x) (hv : Vis X.env.scope x) (hd : (x == ("__debug__" : Str)) = false := by decide) (hcd : (x == ("__classdict__" : Str)) = false := by decide) : PB X T W (.Name x pos) (bVar i) := by
  refine PE.imp' (pe_var hN hv hd hcd) fun σ H Q ⟨G, O, b, t, S, R, h⟩ => ?_
  unfold bVar at h
  cases ht : t[i]? with
  | none => rw [ht] at h; exact h.elim
  | some s =>
    rw [ht] at h
    obtain ⟨o, e1, q⟩ := R.sl i s ht
    cases s with
    | no => exact h.elim
    | sh d =>
      obtain ⟨v, e2, q⟩ := q
      exact ⟨v, by rw [e1, e2], Post.here h R v (ex_bor R q)⟩
    | ow d =>
      obtain ⟨p, e2, h1, q⟩ := q
      exact ⟨_, by rw [e1, e2], Post.here h R _ (.inr ⟨p, rfl, q⟩)⟩
theorem pb_of {m : ME} (h : PD X T W e m) : PB X T W e (brD m) := by
  refine PE.imp' h fun σ H Q ⟨G, O, b, t, S, R, h⟩ => ⟨G, O, b, t, S, R, ?_⟩
  unfold brD at h
  revert h
  cases m t S with
  | ok x t' S' =>
    intro h H' O' b' R' hb hs v hv
    obtain ⟨O2, R2, s2, a2⟩ := R'.share hv
    exact h H' O2 b' R2 hb (hs.trans s2) v (ex_bor R2 a2)
  | ex c fs t' S' => exact fun h => h
  | bad => exact fun h => h
theorem pd_int {i : Int} {j : Nat} : PD X T W (.Constant (.int i) j pos) (pur (.int i)) := PE.imp' pe_int fun σ H Q ⟨G, O, b, t, S, R, h⟩ => endD R h rfl
theorem pd_bl {c : Bool} {j : Nat} : PD X T W (.Constant (.bool c) j pos) (pur (.bl c)) := PE.imp' pe_bl fun σ H Q ⟨G, O, b, t, S, R, h⟩ => endD R h rfl
theorem pd_non {j : Nat} : PD X T W (.Constant .none j pos) (pur .non) := PE.imp' pe_non fun σ H Q ⟨G, O, b, t, S, R, h⟩ => endD R h rfl
theorem pd_str {x : Str} {j : Nat} : PD X T W (.Constant (.str x) j pos) (pur (.str x)) := PE.imp' pe_str fun σ H Q ⟨G, O, b, t, S, R, h⟩ => endD R h rfl
/-- a def, a class of the module, as a value -/
theorem pd_glob {x : Str} (hg : Gl X x) (hm : X.mg x = some (.ref (He.ga X.K x))) (hty : PySem.W.typeIn X.K (.ref (He.ga X.K x)) = some (.type "function")) (hd : (x == ("__debug__" : Str)) = false := by decide) : PD X T W (.Name x pos) (pur (.gl x)) :=
  PE.imp' (pe_glob (v := V.ref (He.ga X.K x)) hg hm rfl hd) fun σ H Q ⟨G, O, b, t, S, R, h⟩ => endD R h ⟨rfl, hty⟩
/-- a built-in class as a value -/
theorem pd_ty {x : Str} {n : String} (hg : Gl X x) (hm : X.mg x = none) (hv : bootBuiltins x = some (.type n)) (hn : x ≠ "__name__" := by decide) (hd : (x == ("__debug__" : Str)) = false := by decide) : PD X T W (.Name x pos) (pur (.ty n)) :=
  PE.imp' (pe_bltn (v := V.ty n) hg hm hv rfl hn hd) fun σ H Q ⟨G, O, b, t, S, R, h⟩ => endD R h rfl

/-! ### lists of expressions -/
def aNil : MA := ret []
def aCons (m : ME) (r : MA) : MA := eb m fun d => bnd r fun ds => ret (d :: ds)
theorem pas_nil : PAs X T W [] aNil := PA.imp' pa_nil fun σ H Q ⟨G, O, b, t, S, R, h⟩ => Post.here h R [] rfl
theorem pas_cons {m : ME} {r : MA} (ha : PD X T W e m) (hr : PAs X T W es r) (hs : starEach (e :: es) X.env = (false, eval e X.env) :: starEach es X.env := by rfl) : PAs X T W (e :: es) (aCons m r) := by
  refine PA.imp' (pa_cons ha hr hs) fun σ H Q ⟨G, O, b, t, S, R, h⟩ => ?_
  refine useD R h fun O1 b1 d t1 S1 H1 v R1 hb1 s1 hv h1 => ?_
  refine useA R1 h1 fun O2 b2 ds t2 S2 H2 vs R2 hb2 s2 hvs h2 => ?_
  exact Post.here h2 R2 _ ⟨v, vs, rfl, hv.mono s2 hb2, hvs⟩
def lim : Nat := 1000000
theorem lim_lt : lim < sizeLine := by rw [sizeLine_eq]; decide
def eTup (m : MA) : ME := bnd m fun ds => if ds.length ≤ lim then pur (.tup ds) else bad
def eLst (m : MA) : ME := bnd m fun ds => if ds.length ≤ lim then ret (.lst ds, true) else bad
theorem pd_tup {m : MA} {x1 : Nat} (h : PAs X T W es m) : PD X T W (.Tuple es x1 pos) (eTup m) := by
  refine PE.imp' (pe_tup h) fun σ H Q ⟨G, O, b, t, S, R, h⟩ => ?_
  refine useA R h fun O1 b1 ds t1 S1 H1 vs R1 hb1 s1 hvs h1 => ?_
  have hl := hvs.length
  by_cases c : ds.length ≤ lim
  · rw [if_pos c] at h1
    refine ⟨by rw [hl]; exact Nat.le_trans c (Nat.le_of_lt lim_lt), fun p hp => endO R1 h1 hp nt_tup fun s2 no => ⟨p, vs, rfl, no, upd_same, hvs.mono s2 (List.prefix_refl _)⟩⟩
  · rw [if_neg c] at h1; exact h1.elim
theorem pd_lst {m : MA} (h : PAs X T W es m) : PD X T W (.List es pos) (eLst m) := by
  refine PE.imp' (pe_lst h) fun σ H Q ⟨G, O, b, t, S, R, h⟩ => ?_
  refine useA R h fun O1 b1 ds t1 S1 H1 vs R1 hb1 s1 hvs h1 => ?_
  have hl := hvs.length
  by_cases c : ds.length ≤ lim
  · rw [if_pos c] at h1
    refine ⟨by rw [hl]; exact Nat.le_trans c (Nat.le_of_lt lim_lt), fun p hp => endN R1 h1 hp nt_lst fun s2 => ⟨vs, upd_same, hvs.mono s2 (List.prefix_refl _)⟩⟩
  · rw [if_neg c] at h1; exact h1.elim

/-! ### operators -/
/-- what an operator on two worths is -/
def OpD (X : Cx) (T : List (Addr × Str)) (W : WX) (g : Value → Value → Sem Value) (f : D → D → ME) : Prop :=
  ∃ r, OpR X g r ∧ ∀ {σ : L2.St} {H : Hp} {Q : VK} {G : Gh} {O : Addr → Prop} {b : List Addr} {t : Ev} {S : Sto} {x y : D} {v w : V}, Rel X.K T G O b t S σ H → At X.K H O b x v → At X.K H O b y w → Post X.K T W G O b σ H (f x y t S) (KD X.K G σ Q) → r v w H Q
theorem pd_bin {op : Operator} {f : D → D → ME} {ma mc : ME} (ho : OpD X T W (binaryOp op) f) (ha : PD X T W a ma) (hc : PD X T W c mc) : PD X T W (.BinOp a op c pos) (eb ma fun x => eb mc fun y => f x y) := by
  obtain ⟨r, h1, h2⟩ := ho
  refine PE.imp' (pe_op h1 ha hc) fun σ H Q ⟨G, O, b, t, S, R, h⟩ => ?_
  refine useD R h fun O1 b1 x t1 S1 H1 v R1 hb1 s1 hv h1 => ?_
  refine useD R1 h1 fun O2 b2 y t2 S2 H2 w R2 hb2 s2 hw h2' => ?_
  exact h2 R2 (hv.mono s2 hb2) hw h2'
theorem pd_cmp {op : CmpOp} {f : D → D → ME} {ma mc : ME} (ho : OpD X T W (compareOp op) f) (ha : PD X T W a ma) (hc : PD X T W c mc) (hm : behindInMarks op c = false := by first | exact nomark _ | rfl) : PD X T W (.Compare a [op] [c] pos) (eb ma fun x => eb mc fun y => f x y) := by
  obtain ⟨r, h1, h2⟩ := ho
  refine PE.imp' (pe_cmpR h1 ha hc hm) fun σ H Q ⟨G, O, b, t, S, R, h⟩ => ?_
  refine useD R h fun O1 b1 x t1 S1 H1 v R1 hb1 s1 hv h1 => ?_
  refine useD R1 h1 fun O2 b2 y t2 S2 H2 w R2 hb2 s2 hw h2' => ?_
  exact h2 R2 (hv.mono s2 hb2) hw h2'
/-- with both sides only looked at -/
def OpB (X : Cx) (T : List (Addr × Str)) (W : WX) (g : Value → Value → Sem Value) (f : D → D → ME) : Prop :=
  ∃ r, OpR X g r ∧ ∀ {σ : L2.St} {H : Hp} {Q : VK} {G : Gh} {O : Addr → Prop} {b : List Addr} {t : Ev} {S : Sto} {x y : D} {v w : V}, Rel X.K T G O b t S σ H → Bor X.K H O b x v → Bor X.K H O b y w → Post X.K T W G O b σ H (f x y t S) (KD X.K G σ Q) → r v w H Q
end
end TD

set_option Elab.async false
set_option linter.all false
set_option maxRecDepth 100000
set_option maxHeartbeats 1000000
set_option autoImplicit false
namespace TD
open PySem PySem.Spec PyProof.Rows L2

/-! ### the operators' answers -/
def mulOk (i j : Int) : Bool := decide (i.natAbs.log2 + j.natAbs.log2 < 1000000)
def divOk (j : Int) : Bool := decide (0 < j) && decide (j.natAbs.log2 < 9000)
def divNOk (j : Int) : Bool := decide (j ≠ 0) && decide (j.natAbs < 1073741824)
def powOk (i j : Int) : Bool := decide (0 ≤ j) && decide (j ≤ 1000000) && decide (i.natAbs < 18446744073709551616)
def newL (ds : List D) : ME := if ds.length ≤ lim then ret (.lst ds, true) else bad
def newT (ds : List D) : ME := if ds.length ≤ lim then pur (.tup ds) else bad
def dAdd : D → D → ME
  | .int i, .int j => pur (.int (i + j))
  | .str x, .str y => if x.length + y.length ≤ lim then pur (.str (x ++ y)) else bad
  | .lst xs, .lst ys => newL (xs ++ ys)
  | .tup xs, .tup ys => match xs, ys with
    | [], _ => bad
    | _, [] => if xs.length ≤ lim then pur (.tup xs) else bad
    | _, _ => newT (xs ++ ys)
  | _, _ => bad
def dSub : D → D → ME
  | .int i, .int j => pur (.int (i - j))
  | _, _ => bad
def dMul : D → D → ME
  | .int i, .int j => if mulOk i j = true then pur (.int (i * j)) else bad
  | .lst xs, .int k => if xs.length * k.toNat ≤ lim ∧ -1000000 ≤ k ∧ k ≤ 1000000 then newL (List.replicate k.toNat xs).flatten else bad
  | _, _ => bad
def dFdiv : D → D → ME
  | .int i, .int j => if divOk j = true then pur (.int (i / j)) else if divNOk j = true then pur (.int (i.fdiv j)) else bad
  | _, _ => bad
def dMod : D → D → ME
  | .int i, .int j => if 0 < j then pur (.int (i % j)) else if j < 0 then pur (.int (i.fmod j)) else bad
  | _, _ => bad
def dPow : D → D → ME
  | .int i, .int j => if powOk i j = true then pur (.int (i ^ j.toNat)) else bad
  | _, _ => bad
def dLt : D → D → ME
  | .int i, .int j => pur (.bl (decide (i < j)))
  | _, _ => bad
def dLe : D → D → ME
  | .int i, .int j => pur (.bl (decide (i ≤ j)))
  | _, _ => bad
def dGt : D → D → ME
  | .int i, .int j => pur (.bl (decide (j < i)))
  | _, _ => bad
def dGe : D → D → ME
  | .int i, .int j => pur (.bl (decide (j ≤ i)))
  | _, _ => bad
mutual
def toP : D → Option PyData
  | .non => some .none
  | .bl c => some (.bool c)
  | .int i => some (.int i)
  | .str x => some (.str x)
  | .lst ds => (toPs ds).map .list
  | .tup ds => (toPs ds).map .tuple
  | .ty _ => none
  | .gl _ => none
  | .dic _ => none
  | .dct _ => none
  | .ins _ _ => none
  | .box _ => none
  | .scr _ => none
def toPs : List D → Option (List PyData)
  | [] => some []
  | d :: ds => match toP d, toPs ds with
    | some p, some ps => some (p :: ps)
    | _, _ => none
end
def cmpP (x y : D) : Option Bool := match toP x, toP y with
  | some p, some q => if (SeqAt.shaped p && SeqAt.shaped q) = true then some (PyData.eqv p q) else none
  | _, _ => none
/-- two worths by ==; none: not told here -/
def eqD : D → D → Option Bool
  | .int i, .int j => some (decide (i = j))
  | .non, .non => some true
  | .bl i, .bl j => some (decide (i = j))
  | .str i, .str j => some (decide (i = j))
  | x, y => cmpP x y
def sameGl : D → D → Bool
  | .gl x, .gl y => decide (x = y)
  | _, _ => false
def dEq (x y : D) : ME := match eqD x y with
  | some c => pur (.bl c)
  | none => if sameGl x y = true then pur (.bl true) else bad
def dNe (x y : D) : ME := match eqD x y with
  | some c => pur (.bl (!c))
  | none => bad
def isNon : D → Bool
  | .non => true
  | _ => false
def dIs : D → D → ME
  | x, .non => pur (.bl (isNon x))
  | .bl a, .bl c => pur (.bl (decide (a = c)))
  | _, _ => bad
def dIsN : D → D → ME
  | x, .non => pur (.bl (!isNon x))
  | .bl a, .bl c => pur (.bl (!decide (a = c)))
  | _, _ => bad

section
variable {K : PySem.W.Frag} {H : Hp} {O : Addr → Prop} {b : List Addr}
theorem At.non_iff {d : D} {v : V} (h : At K H O b d v) : decide (v = .non) = isNon d := by
  cases d <;> first
    | (rw [show v = _ from h]; rfl)
    | (rw [h.1]; rfl)
    | (obtain ⟨a, e, _⟩ := h; rw [e]; rfl)
    | (obtain ⟨a, xs, e, _⟩ := h; rw [e]; rfl)
    | (obtain ⟨a, dx, xs, e, _⟩ := h; rw [e]; rfl)
mutual
theorem toP_dp : ∀ {d : D} {v : V} {p : PyData}, At K H O b d v → toP d = some p → Dp K H v p
  | .non, v, p, h, e => by rw [show v = _ from h]; cases e; exact .non
  | .bl _, v, p, h, e => by rw [show v = _ from h]; cases e; exact .bl _
  | .int _, v, p, h, e => by rw [show v = _ from h]; cases e; exact .int _
  | .str _, v, p, h, e => by rw [show v = _ from h]; cases e; exact .str _
  | .lst ds, v, p, ⟨a, xs, e1, o, r, q⟩, e => by
    rw [e1]
    obtain ⟨ps, e2, e3⟩ := Option.map_eq_some_iff.mp (show (toPs ds).map PyData.list = some p from e)
    rw [← e3]
    exact .lst (.inl (.inl r)) (toPs_dp q e2)
  | .tup ds, v, p, ⟨a, xs, e1, o, r, q⟩, e => by
    rw [e1]
    obtain ⟨ps, e2, e3⟩ := Option.map_eq_some_iff.mp (show (toPs ds).map PyData.tuple = some p from e)
    rw [← e3]
    exact .tup (.inl (.inl r)) (toPs_dp q e2)
  | .ty _, _, _, _, e => nomatch e
  | .gl _, _, _, _, e => nomatch e
  | .dic _, _, _, _, e => nomatch e
  | .dct _, _, _, _, e => nomatch e
  | .ins _ _, _, _, _, e => nomatch e
  | .box _, _, _, _, e => nomatch e
  | .scr _, _, _, _, e => nomatch e
theorem toPs_dp : ∀ {ds : List D} {vs : List V} {ps : List PyData}, Ats K H O b ds vs → toPs ds = some ps → DpAll K H vs ps
  | [], vs, ps, h, e => by rw [show vs = _ from h]; cases e; exact .nil
  | d :: ds, vs, ps, ⟨y, ys, e1, q, r⟩, e => by
    rw [e1]
    have e2 : (match toP d, toPs ds with | some p, some ps => some (p :: ps) | _, _ => none) = some ps := e
    cases h1 : toP d with
    | none => rw [h1] at e2; cases e2
    | some p =>
      cases h2 : toPs ds with
      | none => rw [h1, h2] at e2; cases e2
      | some qs =>
        rw [h1, h2] at e2
        cases e2
        exact .cons (toP_dp q h1) (toPs_dp r h2)
end
end

section
variable {X : Cx} {T : List (Addr × Str)} {W : WX}
theorem OpD.of {g : Value → Value → Sem Value} {f : D → D → ME} {r : R2} (h : OpR X g r) (k : ∀ {σ : L2.St} {H : Hp} {Q : VK} {G : Gh} {O : Addr → Prop} {b : List Addr} {t : Ev} {S : Sto} {x y : D} {v w : V}, Rel X.K T G O b t S σ H → At X.K H O b x v → At X.K H O b y w → Post X.K T W G O b σ H (f x y t S) (KD X.K G σ Q) → r v w H Q) : OpD X T W g f := ⟨r, h, k⟩
theorem newL_end {σ : L2.St} {H : Hp} {Q : VK} {G : Gh} {O : Addr → Prop} {b : List Addr} {t : Ev} {S : Sto} {ds : List D} {vs : List V} (R : Rel X.K T G O b t S σ H) (hv : Ats X.K H O b ds vs) (h : Post X.K T W G O b σ H (newL ds t S) (KD X.K G σ Q)) :
    vs.length ≤ sizeLine ∧ ∀ p, H p = none → Q (.ref p) (upd H p (.lst vs)) := by
  unfold newL at h
  by_cases c : ds.length ≤ lim
  · rw [if_pos c] at h
    exact ⟨by rw [hv.length]; exact Nat.le_trans c (Nat.le_of_lt lim_lt), fun p hp => endN R h hp nt_lst fun s2 => ⟨vs, upd_same, hv.mono s2 (List.prefix_refl _)⟩⟩
  · rw [if_neg c] at h; exact h.elim
theorem newT_end {σ : L2.St} {H : Hp} {Q : VK} {G : Gh} {O : Addr → Prop} {b : List Addr} {t : Ev} {S : Sto} {ds : List D} {vs : List V} (R : Rel X.K T G O b t S σ H) (hv : Ats X.K H O b ds vs) (h : Post X.K T W G O b σ H (newT ds t S) (KD X.K G σ Q)) :
    vs.length ≤ sizeLine ∧ ∀ p, H p = none → Q (.ref p) (upd H p (.tup vs)) := by
  unfold newT at h
  by_cases c : ds.length ≤ lim
  · rw [if_pos c] at h
    exact ⟨by rw [hv.length]; exact Nat.le_trans c (Nat.le_of_lt lim_lt), fun p hp => endO R h hp nt_tup fun s2 no => ⟨p, vs, rfl, no, upd_same, hv.mono s2 (List.prefix_refl _)⟩⟩
  · rw [if_neg c] at h; exact h.elim
theorem od_add : OpD X T W (binaryOp .Add) dAdd := by
  refine OpD.of (op_add.or (op_add_str.or (op_cat.or op_catT))) fun {σ H Q G O b t S x y v w} R hv hw h => ?_
  unfold dAdd at h
  split at h
  · rw [show v = _ from hv, show w = _ from hw]
    exact .inl ⟨_, _, rfl, rfl, endD R h rfl⟩
  · rename_i x y
    rw [show v = _ from hv, show w = _ from hw]
    by_cases c : x.length + y.length ≤ lim
    · rw [if_pos c] at h
      exact .inr (.inl ⟨_, _, rfl, rfl, Nat.le_trans c (Nat.le_of_lt lim_lt), endD R h rfl⟩)
    · rw [if_neg c] at h; exact h.elim
  · obtain ⟨a, vs, e, o, r, q⟩ := hv
    obtain ⟨a2, ws, e2, o2, r2, q2⟩ := hw
    obtain ⟨h1, h2⟩ := newL_end R (q.append q2) h
    exact .inr (.inr (.inl ⟨a, a2, vs, ws, e, e2, r, r2, by rw [List.length_append] at h1; exact h1, h2⟩))
  · rename_i xs ys
    obtain ⟨a, vs, e, o, r, q⟩ := hv
    obtain ⟨a2, ws, e2, o2, r2, q2⟩ := hw
    split at h
    · exact h.elim
    · rename_i z
      have ew : ws = [] := q2
      subst ew
      have hne : vs ≠ [] := fun z1 => by
        have := q.length
        rw [z1] at this
        exact z (List.eq_nil_of_length_eq_zero this.symm)
      by_cases c : xs.length ≤ lim
      · rw [if_pos c] at h
        refine .inr (.inr (.inr ⟨a, a2, vs, [], e, e2, .inl (.inl r), .inl (.inl r2), hne, ?_, fun _ => ?_, fun z => absurd rfl z⟩))
        · rw [q.length]; exact Nat.le_trans c (Nat.le_of_lt lim_lt)
        · rw [← e]; exact endD R h ⟨a, vs, e, o, r, q⟩
      · rw [if_neg c] at h; exact h.elim
    · rename_i z1 z2
      obtain ⟨h1, h2⟩ := newT_end R (q.append q2) h
      have hne : vs ≠ [] := fun z => by
        have := q.length
        rw [z] at this
        exact z1 (List.eq_nil_of_length_eq_zero this.symm)
      have hnw : ws ≠ [] := fun z => by
        have := q2.length
        rw [z] at this
        exact z2 (List.eq_nil_of_length_eq_zero this.symm)
      exact .inr (.inr (.inr ⟨a, a2, vs, ws, e, e2, .inl (.inl r), .inl (.inl r2), hne, by rw [List.length_append] at h1; exact h1, fun z => absurd z hnw, fun _ => h2⟩))
  · exact h.elim
theorem od_sub : OpD X T W (binaryOp .Sub) dSub := by
  refine OpD.of op_sub fun {σ H Q G O b t S x y v w} R hv hw h => ?_
  unfold dSub at h
  split at h
  · rw [show v = _ from hv, show w = _ from hw]
    exact ⟨_, _, rfl, rfl, endD R h rfl⟩
  · exact h.elim
theorem od_mul : OpD X T W (binaryOp .Mult) dMul := by
  refine OpD.of (op_mulW.or op_rep) fun {σ H Q G O b t S x y v w} R hv hw h => ?_
  unfold dMul at h
  split at h
  · rename_i i j
    rw [show v = _ from hv, show w = _ from hw]
    by_cases c : mulOk i j = true
    · rw [if_pos c] at h
      exact .inl ⟨_, _, rfl, rfl, (show i.natAbs.log2 + j.natAbs.log2 < 1000000 from of_decide_eq_true c), endD R h rfl⟩
    · rw [if_neg c] at h; exact h.elim
  · rename_i xs k
    obtain ⟨a, vs, e, o, r, q⟩ := hv
    by_cases c : xs.length * k.toNat ≤ lim ∧ -1000000 ≤ k ∧ k ≤ 1000000
    · rw [if_pos c] at h
      have key : ∀ n : Nat, Ats X.K H O b (List.replicate n xs).flatten (List.replicate n vs).flatten := fun n => by
        induction n with
        | zero => rfl
        | succ n ih => rw [List.replicate_succ, List.replicate_succ, List.flatten_cons, List.flatten_cons]; exact q.append ih
      obtain ⟨h1, h2⟩ := newL_end R (key k.toNat) h
      refine .inr ⟨a, k, vs, e, hw, r, by omega, by omega, ?_, h2⟩
      rw [q.length]
      exact Nat.le_trans c.1 (Nat.le_of_lt lim_lt)
    · rw [if_neg c] at h; exact h.elim
  · exact h.elim
theorem od_fdiv : OpD X T W (binaryOp .FloorDiv) dFdiv := by
  refine OpD.of (op_fdivW.or op_fdivN) fun {σ H Q G O b t S x y v w} R hv hw h => ?_
  unfold dFdiv at h
  split at h
  · rename_i i j
    rw [show v = _ from hv, show w = _ from hw]
    by_cases c : divOk j = true
    · rw [if_pos c] at h
      have c2 : (decide (0 < j) && decide (j.natAbs.log2 < 9000)) = true := c
      rw [Bool.and_eq_true, decide_eq_true_eq, decide_eq_true_eq] at c2
      exact .inl ⟨_, _, rfl, rfl, c2, endD R h rfl⟩
    · rw [if_neg c] at h
      by_cases c2 : divNOk j = true
      · rw [if_pos c2] at h
        have c3 : (decide (j ≠ 0) && decide (j.natAbs < 1073741824)) = true := c2
        rw [Bool.and_eq_true, decide_eq_true_eq, decide_eq_true_eq] at c3
        exact .inr ⟨_, _, rfl, rfl, c3, endD R h rfl⟩
      · rw [if_neg c2] at h; exact h.elim
  · exact h.elim
theorem od_mod : OpD X T W (binaryOp .Mod) dMod := by
  refine OpD.of (op_mod.or op_modN) fun {σ H Q G O b t S x y v w} R hv hw h => ?_
  unfold dMod at h
  split at h
  · rename_i i j
    rw [show v = _ from hv, show w = _ from hw]
    by_cases c : 0 < j
    · rw [if_pos c] at h
      exact .inl ⟨_, _, rfl, rfl, c, endD R h rfl⟩
    · rw [if_neg c] at h
      by_cases c2 : j < 0
      · rw [if_pos c2] at h
        exact .inr ⟨_, _, rfl, rfl, by omega, endD R h rfl⟩
      · rw [if_neg c2] at h; exact h.elim
  · exact h.elim
theorem od_pow : OpD X T W (binaryOp .Pow) dPow := by
  refine OpD.of op_pow fun {σ H Q G O b t S x y v w} R hv hw h => ?_
  unfold dPow at h
  split at h
  · rename_i i j
    rw [show v = _ from hv, show w = _ from hw]
    by_cases c : powOk i j = true
    · rw [if_pos c] at h
      have c2 : (decide (0 ≤ j) && decide (j ≤ 1000000) && decide (i.natAbs < 18446744073709551616)) = true := c
      rw [Bool.and_eq_true, Bool.and_eq_true, decide_eq_true_eq, decide_eq_true_eq, decide_eq_true_eq] at c2
      exact ⟨_, _, rfl, rfl, ⟨c2.1.1, c2.1.2, c2.2⟩, endD R h rfl⟩
    · rw [if_neg c] at h; exact h.elim
  · exact h.elim
theorem od_lt : OpD X T W (compareOp .Lt) dLt := by
  refine OpD.of op_lt fun {σ H Q G O b t S x y v w} R hv hw h => ?_
  unfold dLt at h
  split at h
  · rw [show v = _ from hv, show w = _ from hw]
    exact ⟨_, _, rfl, rfl, endD R h rfl⟩
  · exact h.elim
theorem od_le : OpD X T W (compareOp .LtE) dLe := by
  refine OpD.of op_le fun {σ H Q G O b t S x y v w} R hv hw h => ?_
  unfold dLe at h
  split at h
  · rw [show v = _ from hv, show w = _ from hw]
    exact ⟨_, _, rfl, rfl, endD R h rfl⟩
  · exact h.elim
theorem od_gt : OpD X T W (compareOp .Gt) dGt := by
  refine OpD.of op_gt fun {σ H Q G O b t S x y v w} R hv hw h => ?_
  unfold dGt at h
  split at h
  · rw [show v = _ from hv, show w = _ from hw]
    exact ⟨_, _, rfl, rfl, endD R h rfl⟩
  · exact h.elim
theorem od_ge : OpD X T W (compareOp .GtE) dGe := by
  refine OpD.of op_ge fun {σ H Q G O b t S x y v w} R hv hw h => ?_
  unfold dGe at h
  split at h
  · rw [show v = _ from hv, show w = _ from hw]
    exact ⟨_, _, rfl, rfl, endD R h rfl⟩
  · exact h.elim
/-- what == tells, by values -/
theorem eqD_V {H : Hp} {O : Addr → Prop} {b : List Addr} {x y : D} {v w : V} {c : Bool} (hv : At X.K H O b x v) (hw : At X.K H O b y w) (h : eqD x y = some c) :
    (scal v w = true ∧ decide (v = w) = c) ∨ ∃ d e, Dp X.K H v d ∧ Dp X.K H w e ∧ SeqAt.shaped d = true ∧ SeqAt.shaped e = true ∧ PyData.eqv d e = c := by
  have gen : cmpP x y = some c → ∃ d e, Dp X.K H v d ∧ Dp X.K H w e ∧ SeqAt.shaped d = true ∧ SeqAt.shaped e = true ∧ PyData.eqv d e = c := fun h => by
    unfold cmpP at h
    split at h
    · rename_i p q e1 e2
      by_cases z : (SeqAt.shaped p && SeqAt.shaped q) = true
      · rw [if_pos z] at h
        rw [Bool.and_eq_true] at z
        exact ⟨p, q, toP_dp hv e1, toP_dp hw e2, z.1, z.2, Option.some.inj h⟩
      · rw [if_neg z] at h; cases h
    · cases h
  unfold eqD at h
  split at h
  · rw [show v = _ from hv, show w = _ from hw]
    exact .inl ⟨rfl, by rw [← Option.some.inj h]; simp⟩
  · rw [show v = _ from hv, show w = _ from hw]
    exact .inl ⟨rfl, by rw [← Option.some.inj h]; simp⟩
  · rw [show v = _ from hv, show w = _ from hw]
    exact .inl ⟨rfl, by rw [← Option.some.inj h]; simp⟩
  · rw [show v = _ from hv, show w = _ from hw]
    exact .inl ⟨rfl, by rw [← Option.some.inj h]; simp⟩
  · exact .inr (gen h)
theorem od_eq (hu : X.A.units + 64 < cLine) : OpD X T W (compareOp .Eq) dEq := by
  refine OpD.of ((op_eq.or (op_eqD hu)).or (op_eqFn (by omega))) fun {σ H Q G O b t S x y v w} R hv hw h => ?_
  unfold dEq at h
  cases e : eqD x y with
  | none =>
    rw [e] at h
    simp only at h
    split at h
    · rename_i hs
      unfold sameGl at hs
      split at hs
      · rename_i a c
        obtain rfl := of_decide_eq_true hs
        obtain ⟨e1, e2⟩ := hv
        exact .inr ⟨_, e1, hw.1, e2, endD R h rfl⟩
      · cases hs
    · exact h.elim
  | some c =>
    rw [e] at h
    rcases eqD_V hv hw e with ⟨h1, h2⟩ | ⟨d1, d2, q1, q2, q3, q4, q5⟩
    · exact .inl (.inl ⟨h1, by rw [h2]; exact endD R h rfl⟩)
    · exact .inl (.inr ⟨d1, d2, q1, q2, q3, q4, by rw [q5]; exact endD R h rfl⟩)
theorem od_ne (hu : X.A.units + 64 < cLine) : OpD X T W (compareOp .NotEq) dNe := by
  refine OpD.of (op_ne.or (op_neD hu)) fun {σ H Q G O b t S x y v w} R hv hw h => ?_
  unfold dNe at h
  cases e : eqD x y with
  | none => rw [e] at h; exact h.elim
  | some c =>
    rw [e] at h
    rcases eqD_V hv hw e with ⟨h1, h2⟩ | ⟨d1, d2, q1, q2, q3, q4, q5⟩
    · exact .inl ⟨h1, by rw [h2]; exact endD R h rfl⟩
    · exact .inr ⟨d1, d2, q1, q2, q3, q4, by rw [q5]; exact endD R h rfl⟩
theorem od_is : OpD X T W (compareOp .Is) dIs := by
  refine OpD.of (op_isN.or op_isBl) fun {σ H Q G O b t S x y v w} R hv hw h => ?_
  unfold dIs at h
  split at h
  · exact .inl ⟨hw, by rw [hv.non_iff]; exact endD R h rfl⟩
  · rw [show v = _ from hv, show w = _ from hw]
    exact .inr ⟨_, _, rfl, rfl, endD R h rfl⟩
  · exact h.elim
theorem od_isn : OpD X T W (compareOp .IsNot) dIsN := by
  refine OpD.of (op_notN.or op_notBl) fun {σ H Q G O b t S x y v w} R hv hw h => ?_
  unfold dIsN at h
  split at h
  · exact .inl ⟨hw, by rw [hv.non_iff]; exact endD R h rfl⟩
  · rw [show v = _ from hv, show w = _ from hw]
    exact .inr ⟨_, _, rfl, rfl, endD R h rfl⟩
  · exact h.elim
end
end TD

set_option Elab.async false
set_option linter.all false
set_option maxRecDepth 100000
set_option maxHeartbeats 1000000
set_option autoImplicit false
namespace TD
open PySem PySem.Spec PyProof.Rows L2

/-! ### and, or, not, tests -/
def eAnd (m r : ME) : ME := eb m fun d => match d with
  | .bl true => r
  | .bl false => pur (.bl false)
  | _ => bad
def eOr (m r : ME) : ME := eb m fun d => match d with
  | .bl true => pur (.bl true)
  | .bl false => r
  | _ => bad
def eNot (m : ME) : ME := eb m fun d => match d with
  | .bl c => pur (.bl (!c))
  | _ => bad
def tst (m : ME) : MT := eb m fun d => match d with
  | .bl c => ret c
  | _ => bad
def dTru : D → MT
  | .non => ret false
  | .bl c => ret c
  | .int i => ret (i != 0)
  | .str y => if y.length ≤ lim then ret ((y.length : Int) != 0) else bad
  | .lst ds => ret (!ds.isEmpty)
  | .tup ds => ret (!ds.isEmpty)
  | _ => bad
def tTru (m : MB) : MT := bnd m dTru
def tAndM (m r : MT) : MT := bnd m fun c => if c = true then r else ret false
def tOrM (m r : MT) : MT := bnd m fun c => if c = true then ret true else r
def tNotM (m : MT) : MT := bnd m fun c => ret (!c)

theorem bnd_assoc {α β γ : Type} (m : M α) (f : α → M β) (g : β → M γ) : bnd (bnd m f) g = bnd m fun x => bnd (f x) g := by
  funext t S
  unfold bnd
  cases m t S <;> rfl
section
variable {X : Cx} {T : List (Addr × Str)} {W : WX} {e a c : Expr} {es : List Expr} {pos : Pos}
theorem pd_one {op : BoolOp} {m : ME} (h : PD X T W a m) : PD X T W (.BoolOp op [a] pos) m := pe_one h
theorem pd_and {m r : ME} (ha : PD X T W a m) (hc : PD X T W (.BoolOp .And (c :: es) pos) r) : PD X T W (.BoolOp .And (a :: c :: es) pos) (eAnd m r) := by
  refine PE.imp' (pe_and ha hc) fun σ H Q ⟨G, O, b, t, S, R, h⟩ => ?_
  refine useD R h fun O1 b1 x t1 S1 H1 v R1 hb1 s1 hv h1 => ?_
  split at h1
  · exact ⟨true, hv, by rw [if_pos rfl]; exact ⟨G, O1, b1, t1, S1, R1, h1⟩⟩
  · exact ⟨false, hv, by rw [if_neg Bool.false_ne_true]; exact endD R1 h1 rfl⟩
  · exact h1.elim
theorem pd_or {m r : ME} (ha : PD X T W a m) (hc : PD X T W (.BoolOp .Or (c :: es) pos) r) : PD X T W (.BoolOp .Or (a :: c :: es) pos) (eOr m r) := by
  refine PE.imp' (pe_or ha hc) fun σ H Q ⟨G, O, b, t, S, R, h⟩ => ?_
  refine useD R h fun O1 b1 x t1 S1 H1 v R1 hb1 s1 hv h1 => ?_
  split at h1
  · exact ⟨true, hv, by rw [if_pos rfl]; exact endD R1 h1 rfl⟩
  · exact ⟨false, hv, by rw [if_neg Bool.false_ne_true]; exact ⟨G, O1, b1, t1, S1, R1, h1⟩⟩
  · exact h1.elim
theorem pd_not {m : ME} (ha : PD X T W a m) : PD X T W (.UnaryOp .Not a pos) (eNot m) := by
  refine PE.imp' (pe_not ha) fun σ H Q ⟨G, O, b, t, S, R, h⟩ => ?_
  refine useD R h fun O1 b1 x t1 S1 H1 v R1 hb1 s1 hv h1 => ?_
  split at h1
  · exact ⟨_, hv, endD R1 h1 rfl⟩
  · exact h1.elim
/-- a comparison as a test -/
theorem pc_cmp {op : CmpOp} {f : D → D → ME} {ma mc : ME} (ho : OpD X T W (compareOp op) f) (ha : PD X T W a ma) (hc : PD X T W c mc) (hm : behindInMarks op c = false := by first | exact nomark _ | rfl) : PC X T W (.Compare a [op] [c] pos) (tst (eb ma fun x => eb mc fun y => f x y)) := by
  obtain ⟨r, h1, h2⟩ := ho
  refine PT.imp' (pt_cmpR h1 ha hc hm) fun σ H Q ⟨G, O, b, t, S, R, h⟩ => ?_
  have h' : Post X.K T W G O b σ H (eb ma (fun x => eb mc fun y => tst (f x y)) t S) fun _ _ x _ _ H' => Q x H' := by
    unfold tst eb at h ⊢
    rw [bnd_assoc] at h
    simp only [bnd_assoc] at h
    exact h
  refine useD R h' fun O1 b1 x t1 S1 H1 v R1 hb1 s1 hv h1 => ?_
  refine useD R1 h1 fun O2 b2 y t2 S2 H2 w R2 hb2 s2 hw h2' => ?_
  refine h2 R2 (hv.mono s2 hb2) hw ((Post.bnd h2').imp fun O' b' z t' S' H' R' hb hs h' v hv => ?_)
  obtain ⟨O3, R3, s3, a3⟩ := R'.share hv
  obtain ⟨z1, z2⟩ := z
  cases z1 with
  | bl k => exact ⟨k, a3, Post.here h' R'⟩
  | _ => exact h'.elim
theorem pc_val {m : ME} (h : PD X T W e m) (he : ∀ whole, isTrue e X.env whole = (do let v ← whole; standAt e.pos; holding [v] (truthy v)) := by intro _; rfl) : PC X T W e (tst m) := by
  refine PT.imp' (pt_val h he) fun σ H Q ⟨G, O, b, t, S, R, h⟩ => ?_
  refine useD R h fun O1 b1 x t1 S1 H1 v R1 hb1 s1 hv h1 => ?_
  split at h1
  · exact ⟨_, hv, Post.here h1 R1⟩
  · exact h1.elim
theorem pc_truth {m : MB} (h : PB X T W e m) (he : ∀ whole, isTrue e X.env whole = (do let v ← whole; standAt e.pos; holding [v] (truthy v)) := by intro _; rfl) : PC X T W e (tTru m) := by
  refine PT.imp' (pt_truth h he) fun σ H Q ⟨G, O, b, t, S, R, h⟩ => ?_
  refine useB R h fun O1 b1 x t1 S1 H1 v R1 hb1 s1 hv h1 => ?_
  have em : ∀ {ds : List D} {vs : List V}, Ats X.K H1 O1 b1 ds vs → (!vs.isEmpty) = !ds.isEmpty := fun {ds vs} q => by
    cases ds with
    | nil => rw [show vs = [] from q]; rfl
    | cons d ds => obtain ⟨y, ys, e, _⟩ := q; rw [e]; rfl
  rcases hv with hv | ⟨p, ep, hv⟩
  · unfold dTru at h1
    split at h1
    · rw [show v = _ from hv]; exact ⟨_, rfl, Post.here h1 R1⟩
    · rw [show v = _ from hv]; exact ⟨_, rfl, Post.here h1 R1⟩
    · rw [show v = _ from hv]; exact ⟨_, rfl, Post.here h1 R1⟩
    · rename_i y
      rw [show v = _ from hv]
      by_cases q : y.length ≤ lim
      · rw [if_pos q] at h1; exact ⟨_, ⟨Nat.le_trans q (Nat.le_of_lt lim_lt), rfl⟩, Post.here h1 R1⟩
      · rw [if_neg q] at h1; exact h1.elim
    · obtain ⟨a, vs, e1, o, r, q⟩ := hv
      rw [e1]
      exact ⟨_, .inl ⟨vs, .inl (.inl r), rfl⟩, by rw [em q]; exact Post.here h1 R1⟩
    · obtain ⟨a, vs, e1, o, r, q⟩ := hv
      rw [e1]
      exact ⟨_, .inr (.inl ⟨vs, .inl (.inl r), rfl⟩), by rw [em q]; exact Post.here h1 R1⟩
    · exact h1.elim
  · cases x with
    | lst ds =>
      obtain ⟨vs, r, q⟩ := hv
      rw [ep]
      exact ⟨_, .inl ⟨vs, .inl (.inl r), rfl⟩, by rw [em q]; exact Post.here h1 R1⟩
    | _ => first | exact hv.elim | exact h1.elim
theorem pw_one {op : BoolOp} {m : MT} (h : PC X T W a m) (ho : op = .And ∨ op = .Or := by first | exact .inl rfl | exact .inr rfl) : PW X (.BoolOp op [a] pos) (tT X.K T W m) := by
  rcases ho with rfl | rfl
  · exact pw_and1 h
  · exact pw_or1 h
theorem pw_andM {m r : MT} (ha : PC X T W a m) (hc : PW X (.BoolOp .And (c :: es) pos) (tT X.K T W r)) : PW X (.BoolOp .And (a :: c :: es) pos) (tT X.K T W (tAndM m r)) := by
  refine ⟨fun wh pins s σ H Q I h => (pw_and ha hc).run wh pins s σ H Q I ?_⟩
  obtain ⟨G, O, b, t, S, R, h⟩ := h
  refine useT R h fun O1 b1 x t1 S1 H1 R1 hb1 s1 h1 => ?_
  cases x with
  | true => rw [if_pos rfl] at h1 ⊢; exact ⟨G, O1, b1, t1, S1, R1, h1⟩
  | false => rw [if_neg Bool.false_ne_true] at h1 ⊢; exact Post.here h1 R1
theorem pw_orM {m r : MT} (ha : PC X T W a m) (hc : PW X (.BoolOp .Or (c :: es) pos) (tT X.K T W r)) : PW X (.BoolOp .Or (a :: c :: es) pos) (tT X.K T W (tOrM m r)) := by
  refine ⟨fun wh pins s σ H Q I h => (pw_or ha hc).run wh pins s σ H Q I ?_⟩
  obtain ⟨G, O, b, t, S, R, h⟩ := h
  refine useT R h fun O1 b1 x t1 S1 H1 R1 hb1 s1 h1 => ?_
  cases x with
  | true => rw [if_pos rfl] at h1 ⊢; exact Post.here h1 R1
  | false => rw [if_neg Bool.false_ne_true] at h1 ⊢; exact ⟨G, O1, b1, t1, S1, R1, h1⟩
theorem pc_pw {m : MT} (h : PW X e (tT X.K T W m)) : PC X T W e m := h.pt
theorem pc_not {m : MT} (ha : PC X T W a m) : PC X T W (.UnaryOp .Not a pos) (tNotM m) := by
  refine PT.imp' (pt_not ha) fun σ H Q ⟨G, O, b, t, S, R, h⟩ => ?_
  exact useT R h fun O1 b1 x t1 S1 H1 R1 hb1 s1 h1 => Post.here h1 R1
theorem pd_if {mc : MT} {ma mb : ME} {d : Expr} (hc : PC X T W c mc) (ha : PD X T W a ma) (hb : PD X T W d mb) : PD X T W (.IfExp c a d pos) (iff mc ma mb) := by
  refine PE.imp' (pe_ifExp hc ha hb) fun σ H Q ⟨G, O, b, t, S, R, h⟩ => ?_
  refine useT R h fun O1 b1 x t1 S1 H1 R1 hb1 s1 h1 => ?_
  cases x with
  | true => rw [if_pos rfl] at h1 ⊢; exact ⟨G, O1, b1, t1, S1, R1, h1⟩
  | false => rw [if_neg Bool.false_ne_true] at h1 ⊢; exact ⟨G, O1, b1, t1, S1, R1, h1⟩
/-- -e, of an int -/
def eNeg (m : ME) : ME := eb m fun d => match d with
  | .int i => pur (.int (-i))
  | _ => bad
theorem pd_neg {m : ME} (ha : PD X T W a m) : PD X T W (.UnaryOp .USub a pos) (eNeg m) := by
  refine PE.imp' (pe_un un_neg ha) fun σ H Q ⟨G, O, b, t, S, R, h⟩ => ?_
  refine useD R h fun O1 b1 x t1 S1 H1 v R1 hb1 s1 hv h1 => ?_
  split at h1
  · exact ⟨_, hv, endD R1 h1 rfl⟩
  · exact h1.elim

/-! ### subscripts -/
def optD : Option D → ME
  | some d => pur d
  | none => bad
def dIx (x y : D) : ME := match x, y with
  | .lst ds, .int i => optD (atI ds i)
  | .tup ds, .int i => optD (atI ds i)
  | .str z, .int i => if z.length ≤ lim then optD ((atI z.cps.toList i).map fun k => .str ⟨#[k]⟩) else bad
  | _, _ => bad
theorem atI_ats {K : PySem.W.Frag} {H : Hp} {O : Addr → Prop} {b : List Addr} {ds : List D} {vs : List V} {i : Int} {d : D} (q : Ats K H O b ds vs) (h : atI ds i = some d) : ∃ v, atI vs i = some v ∧ At K H O b d v := by
  unfold atI at h ⊢
  rw [q.length]
  cases e : ixN ds.length i with
  | none => rw [e] at h; cases h
  | some j => rw [e] at h; exact q.get h
theorem ix_end {σ : L2.St} {H : Hp} {Q : VK} {G : Gh} {O : Addr → Prop} {b : List Addr} {t : Ev} {S : Sto} {x y : D} {v w : V} (R : Rel X.K T G O b t S σ H) (hv : Bor X.K H O b x v) (hw : At X.K H O b y w) (h : Post X.K T W G O b σ H (dIx x y t S) (KD X.K G σ Q)) : rIx X.K v w H Q := by
  unfold dIx at h
  split at h
  · rename_i ds i
    have key : ∃ a vs, v = V.ref a ∧ H a = some (.lst vs) ∧ Ats X.K H O b ds vs := by
      rcases hv with ⟨a, vs, e, _, r, q⟩ | ⟨p, e, vs, r, q⟩
      · exact ⟨a, vs, e, r, q⟩
      · exact ⟨p, vs, e, r, q⟩
    obtain ⟨a, vs, e, r, q⟩ := key
    cases ed : atI ds i with
    | none => rw [ed] at h; exact h.elim
    | some d =>
      rw [ed] at h
      obtain ⟨u, e2, q2⟩ := atI_ats q ed
      exact .inl ⟨a, vs, i, u, e, hw, .inl (.inl r), e2, endD R h q2⟩
  · rename_i ds i
    have key : ∃ a vs, v = V.ref a ∧ H a = some (.tup vs) ∧ Ats X.K H O b ds vs := by
      rcases hv with ⟨a, vs, e, _, r, q⟩ | ⟨p, e, z⟩
      · exact ⟨a, vs, e, r, q⟩
      · exact z.elim
    obtain ⟨a, vs, e, r, q⟩ := key
    cases ed : atI ds i with
    | none => rw [ed] at h; exact h.elim
    | some d =>
      rw [ed] at h
      obtain ⟨u, e2, q2⟩ := atI_ats q ed
      exact .inr (.inl ⟨a, vs, i, u, e, hw, .inl (.inl r), e2, endD R h q2⟩)
  · rename_i z i
    have key : v = V.str z := by
      rcases hv with hv | ⟨p, e, z⟩
      · exact hv
      · exact z.elim
    by_cases c : z.length ≤ lim
    · rw [if_pos c] at h
      cases ek : atI z.cps.toList i with
      | none => rw [ek] at h; exact h.elim
      | some k =>
        rw [ek] at h
        exact .inr (.inr ⟨z, i, k, key, hw, Nat.le_trans c (Nat.le_of_lt lim_lt), ek, endD R h rfl⟩)
    · rw [if_neg c] at h; exact h.elim
  · exact h.elim
/-- a name that has a worth -/
def chk (i : Nat) : M Unit := fun t S => match t[i]? with
  | some (.sh _) => .ok () t S
  | some (.ow _) => .ok () t S
  | _ => .bad
theorem chk_ok {K : PySem.W.Frag} {σ : L2.St} {H : Hp} {G : Gh} {O : Addr → Prop} {b : List Addr} {t : Ev} {S : Sto} {β : Type} {i : Nat} {f : Unit → M β} {k : KT β} (R : Rel K T G O b t S σ H) (h : Post K T W G O b σ H (bnd (chk i) f t S) k) :
    ∃ v, σ[i]? = some (some v) ∧ Post K T W G O b σ H (f () t S) k := by
  unfold bnd chk at h
  cases ht : t[i]? with
  | none => rw [ht] at h; exact h.elim
  | some s =>
    rw [ht] at h
    obtain ⟨o, e1, q⟩ := R.sl i s ht
    cases s with
    | no => exact h.elim
    | sh d =>
      obtain ⟨v, e2, q⟩ := q
      exact ⟨v, by rw [e1, e2], h⟩
    | ow d =>
      obtain ⟨p, e2, h1, q⟩ := q
      exact ⟨_, by rw [e1, e2], h⟩
theorem bVar_bor {K : PySem.W.Frag} {σ : L2.St} {H : Hp} {G : Gh} {O : Addr → Prop} {b : List Addr} {t : Ev} {S : Sto} {β : Type} {i : Nat} {f : D → M β} {k : KT β} (R : Rel K T G O b t S σ H) (h : Post K T W G O b σ H (bnd (bVar i) f t S) k) :
    ∃ v x, σ[i]? = some (some v) ∧ Bor K H O b x v ∧ Post K T W G O b σ H (f x t S) k := by
  unfold bnd bVar at h
  cases ht : t[i]? with
  | none => rw [ht] at h; exact h.elim
  | some s =>
    rw [ht] at h
    obtain ⟨o, e1, q⟩ := R.sl i s ht
    cases s with
    | no => exact h.elim
    | sh d =>
      obtain ⟨v, e2, q⟩ := q
      exact ⟨v, _, by rw [e1, e2], ex_bor R q, h⟩
    | ow d =>
      obtain ⟨p, e2, h1, q⟩ := q
      exact ⟨_, _, by rw [e1, e2], .inr ⟨p, rfl, q⟩, h⟩
/-- f(x, e), x a name that is only looked at -/
def vThen {β : Type} (i : Nat) (m : ME) (f : D → D → M β) : M β := bnd (chk i) fun _ => eb m fun y => bnd (bVar i) fun x => f x y
theorem useV {K : PySem.W.Frag} {σ : L2.St} {H : Hp} {G : Gh} {O : Addr → Prop} {b : List Addr} {t : Ev} {S : Sto} {β : Type} {i : Nat} {m : ME} {f : D → D → M β} {k : KT β} {Q : V → VK} (R : Rel K T G O b t S σ H) (h : Post K T W G O b σ H (vThen i m f t S) k)
    (g : ∀ (O1 : Addr → Prop) (b1 : List Addr) (x y : D) (t1 : Ev) (S1 : Sto) (H1 : Hp) (v w : V), Rel K T G O1 b1 t1 S1 σ H1 → b <+: b1 → Stays H O H1 O1 → Bor K H1 O1 b1 x v → At K H1 O1 b1 y w → Post K T W G O1 b1 σ H1 (f x y t1 S1) k → Q v w H1) :
    ∃ v, σ[i]? = some (some v) ∧ tD K T W m σ H (Q v) := by
  obtain ⟨v, e1, h1⟩ := chk_ok R h
  refine ⟨v, e1, useD R h1 fun O1 b1 y t1 S1 H1 w R1 hb1 s1 hw h2 => ?_⟩
  obtain ⟨v', x, e2, hv, h3⟩ := bVar_bor R1 h2
  rw [e1] at e2
  cases e2
  exact g O1 b1 x y t1 S1 H1 v w R1 hb1 s1 hv hw h3
/-- x[e], x a name -/
def eIxV (i : Nat) (m : ME) : ME := vThen i m dIx
theorem pd_ixV {i : Nat} {x : Str} {m : ME} {p1 : Pos} (hN : X.N[i]? = some x) (hv : Vis X.env.scope x) (hc : PD X T W c m) (hs : PlainIx c := by intro _ _; rfl) (hd : (x == ("__debug__" : Str)) = false := by decide) (hcd : (x == ("__classdict__" : Str)) = false := by decide) : PD X T W (.Subscript (.Name x p1) c pos) (eIxV i m) :=
  PE.imp' (pe_ix ix_seq (pe_var hN hv hd hcd) hc hs) fun σ H Q ⟨G, O, b, t, S, R, h⟩ =>
    useV R h fun O1 b1 x y t1 S1 H1 v w R1 hb1 s1 hv hw h1 => ix_end R1 hv hw h1
/-- e[e'], any e -/
def eIx (m r : ME) : ME := eb m fun x => eb r fun y => fun t S => dIx (vw S x) y t S
theorem pd_ix {m r : ME} (ha : PD X T W a m) (hc : PD X T W c r) (hs : PlainIx c := by intro _ _; rfl) : PD X T W (.Subscript a c pos) (eIx m r) := by
  refine PE.imp' (pe_ix ix_seq ha hc hs) fun σ H Q ⟨G, O, b, t, S, R, h⟩ => ?_
  refine useD R h fun O1 b1 x t1 S1 H1 v R1 hb1 s1 hv h1 => ?_
  refine useD R1 h1 fun O2 b2 y t2 S2 H2 w R2 hb2 s2 hw h2 => ?_
  exact ix_end R2 (ex_bor R2 (hv.mono s2 hb2)) hw h2

/-! ### slices -/
def cutD (ds : List D) (lo hi : Option Int) : List D := (ds.drop (HT.sIx ds.length 0 lo)).take (HT.sIx ds.length ds.length hi - HT.sIx ds.length 0 lo)
theorem cutD_ats {K : PySem.W.Frag} {H : Hp} {O : Addr → Prop} {b : List Addr} {ds : List D} {vs : List V} (lo hi : Option Int) (q : Ats K H O b ds vs) : Ats K H O b (cutD ds lo hi) (cutV vs lo hi) := by
  unfold cutD cutV
  rw [q.length]
  exact (q.drop _).take _
def dSl (x : D) (lo hi : Option Int) : ME := match x with
  | .lst ds => newL (cutD ds lo hi)
  | .tup ds => if HT.sIx ds.length 0 lo = 0 ∧ HT.sIx ds.length ds.length hi = ds.length then bad else newT (cutD ds lo hi)
  | .str z => if z.length ≤ lim then pur (.str (cutS z lo hi)) else bad
  | _ => bad
abbrev MP := M (Option Int)
def pNone : MP := ret none
def pInt (m : ME) : MP := eb m fun d => match d with
  | .int i => ret (some i)
  | _ => bad
def tP (K : PySem.W.Frag) (T : List (Addr × Str)) (W : WX) (m : MP) : TO := fun σ H Q => ∃ G O b t S, Rel K T G O b t S σ H ∧ Post K T W G O b σ H (m t S) fun _ _ x _ _ H' => Q x H'
theorem pp_none : PO X none (tP X.K T W pNone) := ⟨fun pins s σ H Q I h => po_none.run pins s σ H Q I (by obtain ⟨G, O, b, t, S, R, h⟩ := h; exact Post.here h R)⟩
theorem pp_some {m : ME} (h : PD X T W a m) : PO X (some a) (tP X.K T W (pInt m)) := ⟨fun pins s σ H Q I hh => (po_some h).run pins s σ H Q I (by
  obtain ⟨G, O, b, t, S, R, hh⟩ := hh
  refine useD R hh fun O1 b1 x t1 S1 H1 v R1 hb1 s1 hv h1 => ?_
  split at h1
  · exact ⟨_, hv, Post.here h1 R1⟩
  · exact h1.elim)⟩
theorem useP {K : PySem.W.Frag} {σ : L2.St} {H : Hp} {G : Gh} {O : Addr → Prop} {b : List Addr} {t : Ev} {S : Sto} {β : Type} {m : MP} {f : Option Int → M β} {k : KT β} (R : Rel K T G O b t S σ H) (h : Post K T W G O b σ H (bnd m f t S) k) {Q : Option Int → Hp → Prop}
    (g : ∀ (O1 : Addr → Prop) (b1 : List Addr) (d : Option Int) (t1 : Ev) (S1 : Sto) (H1 : Hp), Rel K T G O1 b1 t1 S1 σ H1 → b <+: b1 → Stays H O H1 O1 → Post K T W G O1 b1 σ H1 (f d t1 S1) k → Q d H1) : tP K T W m σ H Q :=
  ⟨G, O, b, t, S, R, (Post.bnd h).imp fun O' b' x t' S' H' R' hb hs h' => g O' b' x t' S' H' R' hb hs h'⟩
theorem sl_end {σ : L2.St} {H : Hp} {Q : VK} {G : Gh} {O : Addr → Prop} {b : List Addr} {t : Ev} {S : Sto} {x : D} {v : V} {lo hi : Option Int} (R : Rel X.K T G O b t S σ H) (hv : Bor X.K H O b x v) (h : Post X.K T W G O b σ H (dSl x lo hi t S) (KD X.K G σ Q)) :
    rSlL X.K v lo hi H Q ∨ rSlT X.K v lo hi H Q ∨ rSlS v lo hi H Q := by
  unfold dSl at h
  split at h
  · rename_i ds
    have key : ∃ a vs, v = V.ref a ∧ H a = some (.lst vs) ∧ Ats X.K H O b ds vs := by
      rcases hv with ⟨a, vs, e, _, r, q⟩ | ⟨p, e, vs, r, q⟩
      · exact ⟨a, vs, e, r, q⟩
      · exact ⟨p, vs, e, r, q⟩
    obtain ⟨a, vs, e, r, q⟩ := key
    exact .inl ⟨a, vs, e, .inl (.inl r), (newL_end R (cutD_ats lo hi q) h).2⟩
  · rename_i ds
    have key : ∃ a vs, v = V.ref a ∧ H a = some (.tup vs) ∧ Ats X.K H O b ds vs := by
      rcases hv with ⟨a, vs, e, _, r, q⟩ | ⟨p, e, z⟩
      · exact ⟨a, vs, e, r, q⟩
      · exact z.elim
    obtain ⟨a, vs, e, r, q⟩ := key
    by_cases c : HT.sIx ds.length 0 lo = 0 ∧ HT.sIx ds.length ds.length hi = ds.length
    · rw [if_pos c] at h; exact h.elim
    · rw [if_neg c] at h
      exact .inr (.inl ⟨a, vs, e, .inl (.inl r), by rw [q.length]; exact c, (newT_end R (cutD_ats lo hi q) h).2⟩)
  · rename_i z
    have key : v = V.str z := by
      rcases hv with hv | ⟨p, e, z⟩
      · exact hv
      · exact z.elim
    by_cases c : z.length ≤ lim
    · rw [if_pos c] at h
      exact .inr (.inr ⟨z, key, Nat.le_trans c (Nat.le_of_lt lim_lt), endD R h rfl⟩)
    · rw [if_neg c] at h; exact h.elim
  · exact h.elim
def eSlV (i : Nat) (lo hi : MP) : ME := bnd (chk i) fun _ => bnd lo fun l => bnd hi fun u => bnd (bVar i) fun x => dSl x l u
theorem pd_slV {i : Nat} {x : Str} {lo hi : Option Expr} {ml mh : MP} {p1 p2 : Pos} (hN : X.N[i]? = some x) (hv : Vis X.env.scope x) (hl : PO X lo (tP X.K T W ml)) (hh : PO X hi (tP X.K T W mh)) (hd : (x == ("__debug__" : Str)) = false := by decide) (hcd : (x == ("__classdict__" : Str)) = false := by decide) : PD X T W (.Subscript (.Name x p1) (.Slice lo hi none p2) pos) (eSlV i ml mh) := by
  refine PE.imp' (pe_slice (sl_list.or (sl_tup.or sl_str)) (pe_var hN hv hd hcd) hl hh) fun σ H Q ⟨G, O, b, t, S, R, h⟩ => ?_
  obtain ⟨v, e1, h1⟩ := chk_ok R h
  refine ⟨v, e1, useP R h1 fun O1 b1 l t1 S1 H1 R1 hb1 s1 h2 => useP R1 h2 fun O2 b2 u t2 S2 H2 R2 hb2 s2 h3 => ?_⟩
  obtain ⟨v', x, e2, hv, h4⟩ := bVar_bor R2 h3
  rw [e1] at e2
  cases e2
  exact sl_end R2 hv h4
def eSl (m : ME) (lo hi : MP) : ME := eb m fun x => bnd lo fun l => bnd hi fun u => fun t S => dSl (vw S x) l u t S
theorem pd_sl {m : ME} {lo hi : Option Expr} {ml mh : MP} {p2 : Pos} (ha : PD X T W a m) (hl : PO X lo (tP X.K T W ml)) (hh : PO X hi (tP X.K T W mh)) : PD X T W (.Subscript a (.Slice lo hi none p2) pos) (eSl m ml mh) := by
  refine PE.imp' (pe_slice (sl_list.or (sl_tup.or sl_str)) ha hl hh) fun σ H Q ⟨G, O, b, t, S, R, h⟩ => ?_
  refine useD R h fun O0 b0 x t0 S0 H0 v R0 hb0 s0 hv h1 => ?_
  refine useP R0 h1 fun O1 b1 l t1 S1 H1 R1 hb1 s1 h2 => useP R1 h2 fun O2 b2 u t2 S2 H2 R2 hb2 s2 h3 => ?_
  exact sl_end R2 (ex_bor R2 ((hv.mono s1 hb1).mono s2 hb2)) h3
/-- x[::-1] -/
def dRev : D → ME
  | .lst ds => newL ds.reverse
  | _ => bad
theorem ats_rev {K : PySem.W.Frag} {H : Hp} {O : Addr → Prop} {b : List Addr} : ∀ {ds : List D} {vs : List V}, Ats K H O b ds vs → Ats K H O b ds.reverse vs.reverse
  | [], vs, q => by rw [show vs = [] from q]; rfl
  | d :: ds, vs, ⟨y, ys, e, q, r⟩ => by
    rw [e, List.reverse_cons, List.reverse_cons]
    exact (ats_rev r).append (Ats.one q)
theorem pd_rev {m : MB} {k : Nat} {p1 p2 p3 : Pos} (ha : PB X T W a m) : PD X T W (.Subscript a (.Slice none none (some (.UnaryOp .USub (.Constant (.int 1) k p1) p2)) p3) pos) (bnd m dRev) := by
  refine PE.imp' (pe_revL ha) fun σ H Q ⟨G, O, b, t, S, R, h⟩ => ?_
  refine useB R h fun O1 b1 x t1 S1 H1 v R1 hb1 s1 hv h1 => ?_
  unfold dRev at h1
  split at h1
  · rename_i ds
    have key : ∃ a vs, v = V.ref a ∧ H1 a = some (.lst vs) ∧ Ats X.K H1 O1 b1 ds vs := by
      rcases hv with ⟨a, vs, e, _, r, q⟩ | ⟨p, e, vs, r, q⟩
      · exact ⟨a, vs, e, r, q⟩
      · exact ⟨p, vs, e, r, q⟩
    obtain ⟨a, vs, e, r, q⟩ := key
    exact ⟨a, vs, e, .inl (.inl r), (newL_end R1 (ats_rev q) h1).2⟩
  · exact h1.elim
end
end TD

set_option Elab.async false
set_option linter.all false
set_option maxRecDepth 100000
set_option maxHeartbeats 1000000
set_option autoImplicit false
namespace TD
open PySem PySem.Spec PyProof.Rows L2

/-! ### built-in functions of one thing that is only looked at -/
def CB1 (X : Cx) (T : List (Addr × Str)) (W : WX) (fv : Value) (f : D → ME) : Prop :=
  ∃ r, CallR X fv r ∧ ∀ {σ : L2.St} {H : Hp} {Q : VK} {G : Gh} {O : Addr → Prop} {b : List Addr} {t : Ev} {S : Sto} {x : D} {v : V}, Rel X.K T G O b t S σ H → Bor X.K H O b x v → Post X.K T W G O b σ H (f x t S) (KD X.K G σ Q) → r [v] H Q
/-- of any number of worths -/
def CBn (X : Cx) (T : List (Addr × Str)) (W : WX) (fv : Value) (f : List D → ME) : Prop :=
  ∃ r, CallR X fv r ∧ ∀ {σ : L2.St} {H : Hp} {Q : VK} {G : Gh} {O : Addr → Prop} {b : List Addr} {t : Ev} {S : Sto} {xs : List D} {vs : List V}, Rel X.K T G O b t S σ H → Ats X.K H O b xs vs → Post X.K T W G O b σ H (f xs t S) (KD X.K G σ Q) → r vs H Q
def dLen : D → ME
  | .lst ds => pur (.int ds.length)
  | .tup ds => pur (.int ds.length)
  | .str y => if y.length ≤ lim then pur (.int y.length) else bad
  | .dic kvs => pur (.int kvs.length)
  | .dct kvs => pur (.int kvs.length)
  | _ => bad
def dAbs : D → ME
  | .int i => pur (.int (if i < 0 then -i else i))
  | _ => bad
def dInt : D → ME
  | .int i => pur (.int i)
  | .bl c => pur (.int (if c then 1 else 0))
  | _ => bad
def dList : D → ME
  | .lst ds => newL ds
  | .tup ds => newL ds
  | .scr ds => newL ds
  | _ => bad
def dTuple : D → ME
  | .lst ds => newT ds
  | .tup ds => pur (.tup ds)
  | _ => bad
def intsD : List D → Option (List Int)
  | [] => some []
  | .int i :: ds => (intsD ds).map (i :: ·)
  | _ => none
def boolsD : List D → Option (List Bool)
  | [] => some []
  | .bl i :: ds => (boolsD ds).map (i :: ·)
  | _ => none
def optI (o : Option Int) : ME := match o with
  | some i => pur (.int i)
  | none => bad
def optB (o : Option Bool) : ME := match o with
  | some i => pur (.bl i)
  | none => bad
def dSum : D → ME
  | .lst ds => optI ((intsD ds).map List.sum)
  | _ => bad
def dAll : D → ME
  | .lst ds => optB ((boolsD ds).map fun l => l.all id)
  | _ => bad
def dAny : D → ME
  | .lst ds => optB ((boolsD ds).map fun l => l.any id)
  | _ => bad
def maxI : List Int → Option Int
  | [] => none
  | i :: l => some (l.foldl (fun a j => if j > a then j else a) i)
def minI : List Int → Option Int
  | [] => none
  | i :: l => some (l.foldl (fun a j => if j < a then j else a) i)
def dMax1 : D → ME
  | .lst ds => optI ((intsD ds).bind maxI)
  | _ => bad
def dMin1 : D → ME
  | .lst ds => optI ((intsD ds).bind minI)
  | _ => bad
def dMax2 : List D → ME
  | [.int i, .int j] => pur (.int (if j > i then j else i))
  | _ => bad
def dMin2 : List D → ME
  | [.int i, .int j] => pur (.int (if j < i then j else i))
  | _ => bad
def dGcd : List D → ME
  | [.int i, .int j] => pur (.int ((Nat.gcd i.natAbs j.natAbs : Nat) : Int))
  | _ => bad

section
variable {K : PySem.W.Frag} {H : Hp} {O : Addr → Prop} {b : List Addr}
theorem ints_ats : ∀ {ds : List D} {vs : List V} {ns : List Int}, Ats K H O b ds vs → intsD ds = some ns → vs = ns.map V.int
  | [], vs, ns, q, e => by rw [show vs = [] from q]; cases e; rfl
  | d :: ds, vs, ns, ⟨y, ys, e, q, r⟩, h => by
    cases d with
    | int i =>
      obtain ⟨ms, h1, h2⟩ := Option.map_eq_some_iff.mp (show (intsD ds).map (i :: ·) = some ns from h)
      rw [e, ← h2, List.map_cons, ints_ats r h1, show y = _ from q]
    | _ => cases h
theorem bools_ats : ∀ {ds : List D} {vs : List V} {ns : List Bool}, Ats K H O b ds vs → boolsD ds = some ns → vs = ns.map V.bl
  | [], vs, ns, q, e => by rw [show vs = [] from q]; cases e; rfl
  | d :: ds, vs, ns, ⟨y, ys, e, q, r⟩, h => by
    cases d with
    | bl i =>
      obtain ⟨ms, h1, h2⟩ := Option.map_eq_some_iff.mp (show (boolsD ds).map (i :: ·) = some ns from h)
      rw [e, ← h2, List.map_cons, bools_ats r h1, show y = _ from q]
    | _ => cases h
theorem bor_lst {ds : List D} {v : V} (h : Bor K H O b (.lst ds) v) : ∃ a vs, v = V.ref a ∧ H a = some (.lst vs) ∧ Ats K H O b ds vs := by
  rcases h with ⟨a, vs, e, _, r, q⟩ | ⟨p, e, vs, r, q⟩
  · exact ⟨a, vs, e, r, q⟩
  · exact ⟨p, vs, e, r, q⟩
theorem bor_tup {ds : List D} {v : V} (h : Bor K H O b (.tup ds) v) : ∃ a vs, v = V.ref a ∧ H a = some (.tup vs) ∧ Ats K H O b ds vs := by
  rcases h with ⟨a, vs, e, _, r, q⟩ | ⟨p, e, z⟩
  · exact ⟨a, vs, e, r, q⟩
  · exact z.elim
theorem bor_scr {ds : List D} {v : V} (h : Bor K H O b (.scr ds) v) : ∃ a vs, v = V.ref a ∧ SqL K H a vs ∧ Ats K H O b ds vs := by
  rcases h with ⟨a, vs, e, r, q⟩ | ⟨p, e, z⟩
  · refine ⟨a, vs, e, ?_, q⟩
    rcases r with ⟨_, r⟩ | (r | r)
    · exact .inl r
    · rcases r with r | ⟨o, r⟩ <;> cases r
    · exact .inr r
  · exact z.elim
theorem bor_str {x : Str} {v : V} (h : Bor K H O b (.str x) v) : v = V.str x := by
  rcases h with h | ⟨p, e, z⟩
  · exact h
  · exact z.elim
theorem bor_int {x : Int} {v : V} (h : Bor K H O b (.int x) v) : v = V.int x := by
  rcases h with h | ⟨p, e, z⟩
  · exact h
  · exact z.elim
theorem bor_bl {x : Bool} {v : V} (h : Bor K H O b (.bl x) v) : v = V.bl x := by
  rcases h with h | ⟨p, e, z⟩
  · exact h
  · exact z.elim
theorem Atk.length : ∀ {ds : List (Key × D)} {vs : List (Key × V)}, Atk K H O b ds vs → vs.length = ds.length
  | [], _, z => by rw [show _ = [] from z]; rfl
  | (k, d) :: ds, _, ⟨y, ys, e, q, r⟩ => by rw [e, List.length_cons, List.length_cons, Atk.length r]
theorem Att.length : ∀ {ds : List (List Key × D)} {vs : List (List Key × V)}, Att K H O b ds vs → vs.length = ds.length
  | [], _, z => by rw [show _ = [] from z]; rfl
  | (k, d) :: ds, _, ⟨y, ys, e, q, r⟩ => by rw [e, List.length_cons, List.length_cons, Att.length r]
theorem bor_dic {kvs : List (Key × D)} {v : V} (h : Bor K H O b (.dic kvs) v) : ∃ a xs, v = V.ref a ∧ H a = some (.dK xs) ∧ Atk K H O b kvs xs := by
  rcases h with ⟨a, xs, e, _, r, q⟩ | ⟨p, e, xs, r, q⟩
  · exact ⟨a, xs, e, r, q⟩
  · exact ⟨p, xs, e, r, q⟩
theorem bor_dct {kvs : List (List Key × D)} {v : V} (h : Bor K H O b (.dct kvs) v) : ∃ a xs, v = V.ref a ∧ H a = some (.dT xs) ∧ Att K H O b kvs xs := by
  rcases h with ⟨a, xs, e, _, r, q⟩ | ⟨p, e, xs, r, q⟩
  · exact ⟨a, xs, e, r, q⟩
  · exact ⟨p, xs, e, r, q⟩
end
theorem maxI_spec : ∀ {ns : List Int} {m : Int}, m ∈ ns → (∀ y, y ∈ ns → y ≤ m) → maxI ns = some m
  | [], m, h, _ => by cases h
  | i :: l, m, h, hm => by
    have key : ∀ (l : List Int) (a : Int), (∀ y ∈ l, y ≤ m) → a ≤ m → (a = m ∨ m ∈ l) → l.foldl (fun a j => if j > a then j else a) a = m := by
      intro l
      induction l with
      | nil => intro a _ h1 h2; rcases h2 with h2 | h2; exact h2; cases h2
      | cons j l ih =>
        intro a h1 h2 h3
        rw [List.foldl_cons]
        have hj := h1 j List.mem_cons_self
        refine ih _ (fun y hy => h1 y (List.mem_cons_of_mem _ hy)) ?_ ?_
        · split <;> assumption
        · rcases h3 with h3 | h3
          · left; split <;> omega
          · rcases List.mem_cons.mp h3 with h3 | h3
            · left; split <;> omega
            · right; exact h3
    show some _ = some m
    rw [key l i (fun y hy => hm y (List.mem_cons_of_mem _ hy)) (hm i List.mem_cons_self) ?_]
    rcases List.mem_cons.mp h with h | h
    · left; exact h.symm
    · right; exact h
theorem minI_spec : ∀ {ns : List Int} {m : Int}, m ∈ ns → (∀ y, y ∈ ns → m ≤ y) → minI ns = some m
  | [], m, h, _ => by cases h
  | i :: l, m, h, hm => by
    have key : ∀ (l : List Int) (a : Int), (∀ y ∈ l, m ≤ y) → m ≤ a → (a = m ∨ m ∈ l) → l.foldl (fun a j => if j < a then j else a) a = m := by
      intro l
      induction l with
      | nil => intro a _ h1 h2; rcases h2 with h2 | h2; exact h2; cases h2
      | cons j l ih =>
        intro a h1 h2 h3
        rw [List.foldl_cons]
        have hj := h1 j List.mem_cons_self
        refine ih _ (fun y hy => h1 y (List.mem_cons_of_mem _ hy)) ?_ ?_
        · split <;> assumption
        · rcases h3 with h3 | h3
          · left; split <;> omega
          · rcases List.mem_cons.mp h3 with h3 | h3
            · left; split <;> omega
            · right; exact h3
    show some _ = some m
    rw [key l i (fun y hy => hm y (List.mem_cons_of_mem _ hy)) (hm i List.mem_cons_self) ?_]
    rcases List.mem_cons.mp h with h | h
    · left; exact h.symm
    · right; exact h

section
variable {X : Cx} {T : List (Addr × Str)} {W : WX} {e a c : Expr} {es : List Expr} {pos p : Pos} {x : Str} {id : String}
theorem CB1.of {fv : Value} {f : D → ME} {r : List V → Hp → VK → Prop} (h : CallR X fv r) (k : ∀ {σ : L2.St} {H : Hp} {Q : VK} {G : Gh} {O : Addr → Prop} {b : List Addr} {t : Ev} {S : Sto} {x : D} {v : V}, Rel X.K T G O b t S σ H → Bor X.K H O b x v → Post X.K T W G O b σ H (f x t S) (KD X.K G σ Q) → r [v] H Q) : CB1 X T W fv f := ⟨r, h, k⟩
theorem CBn.of {fv : Value} {f : List D → ME} {r : List V → Hp → VK → Prop} (h : CallR X fv r) (k : ∀ {σ : L2.St} {H : Hp} {Q : VK} {G : Gh} {O : Addr → Prop} {b : List Addr} {t : Ev} {S : Sto} {xs : List D} {vs : List V}, Rel X.K T G O b t S σ H → Ats X.K H O b xs vs → Post X.K T W G O b σ H (f xs t S) (KD X.K G σ Q) → r vs H Q) : CBn X T W fv f := ⟨r, h, k⟩
theorem pd_b1 {f : D → ME} {m : MB} (hc : CB1 X T W (.builtin id) f) (hg : Gl X x) (hm : X.mg x = none) (hv : bootBuiltins x = some (.builtin id)) (ha : PB X T W e m) (hn : x ≠ "__name__" := by decide) (hdb : (x == ("__debug__" : Str)) = false := by decide)
    (he : starEach (e :: []) X.env = (false, eval e X.env) :: starEach [] X.env := by rfl) : PD X T W (.Call (.Name x p) [e] [] pos) (bnd m f) := by
  obtain ⟨r, h1, h2⟩ := hc
  exact PE.imp' (pe_callB h1 hg hm hv (pa_cons ha pa_nil he) hn hdb he) fun σ H Q ⟨G, O, b, t, S, R, h⟩ =>
    useB R h fun O1 b1 x t1 S1 H1 v R1 hb1 s1 hv h3 => h2 R1 hv h3
theorem pd_t1 {f : D → ME} {m : MB} (hc : CB1 X T W (.type id) f) (hg : Gl X x) (hm : X.mg x = none) (hv : bootBuiltins x = some (.type id)) (ha : PB X T W e m) (hn : x ≠ "__name__" := by decide) (hdb : (x == ("__debug__" : Str)) = false := by decide)
    (he : starEach (e :: []) X.env = (false, eval e X.env) :: starEach [] X.env := by rfl) : PD X T W (.Call (.Name x p) [e] [] pos) (bnd m f) := by
  obtain ⟨r, h1, h2⟩ := hc
  exact PE.imp' (pe_callTy h1 hg hm hv (pa_cons ha pa_nil he) hn hdb he) fun σ H Q ⟨G, O, b, t, S, R, h⟩ =>
    useB R h fun O1 b1 x t1 S1 H1 v R1 hb1 s1 hv h3 => h2 R1 hv h3
theorem pd_bn {f : List D → ME} {m : MA} (hc : CBn X T W (.builtin id) f) (hg : Gl X x) (hm : X.mg x = none) (hv : bootBuiltins x = some (.builtin id)) (ha : PAs X T W (e :: es) m) (hn : x ≠ "__name__" := by decide) (hdb : (x == ("__debug__" : Str)) = false := by decide)
    (he : starEach (e :: es) X.env = (false, eval e X.env) :: starEach es X.env := by rfl) (hpl : (backTo pos (starEach es X.env)).any (·.1) = false := by rfl) : PD X T W (.Call (.Name x p) (e :: es) [] pos) (bnd m f) := by
  obtain ⟨r, h1, h2⟩ := hc
  exact PE.imp' (pe_callB h1 hg hm hv ha hn hdb he hpl) fun σ H Q ⟨G, O, b, t, S, R, h⟩ =>
    useA R h fun O1 b1 x t1 S1 H1 v R1 hb1 s1 hv h3 => h2 R1 hv h3
/-- a module's name for a built-in function (gcd) -/
theorem pd_bf {f : List D → ME} {m : MA} (hc : CBn X T W (.builtin id) f) (hg : Gl X x) (hm : X.mg x = some (.builtin id)) (ha : PAs X T W (e :: es) m) (hdb : (x == ("__debug__" : Str)) = false := by decide)
    (he : starEach (e :: es) X.env = (false, eval e X.env) :: starEach es X.env := by rfl) (hpl : (backTo pos (starEach es X.env)).any (·.1) = false := by rfl) : PD X T W (.Call (.Name x p) (e :: es) [] pos) (bnd m f) := by
  obtain ⟨r, h1, h2⟩ := hc
  exact PE.imp' (pe_callBfun h1 hg hm ha hdb he hpl) fun σ H Q ⟨G, O, b, t, S, R, h⟩ =>
    useA R h fun O1 b1 x t1 S1 H1 v R1 hb1 s1 hv h3 => h2 R1 hv h3
theorem cb_len : CB1 X T W (.builtin "len") dLen := by
  refine CB1.of (call_len.or (call_lenD.or call_len_dT)) fun {σ H Q G O b t S x v} R hv h => ?_
  unfold dLen at h
  split at h
  · obtain ⟨a, vs, e, r, q⟩ := bor_lst hv
    exact .inl ⟨v, _, rfl, by rw [e]; exact .inl ⟨vs, .inl (.inl r), rfl⟩, by rw [q.length]; exact endD R h rfl⟩
  · obtain ⟨a, vs, e, r, q⟩ := bor_tup hv
    exact .inl ⟨v, _, rfl, by rw [e]; exact .inr ⟨vs, .inl (.inl r), rfl⟩, by rw [q.length]; exact endD R h rfl⟩
  · rename_i y
    by_cases c : y.length ≤ lim
    · rw [if_pos c] at h
      exact .inl ⟨v, _, rfl, by rw [bor_str hv]; exact ⟨Nat.le_trans c (Nat.le_of_lt lim_lt), rfl⟩, endD R h rfl⟩
    · rw [if_neg c] at h; exact h.elim
  · obtain ⟨a, xs, e, r, q⟩ := bor_dic hv
    exact .inr (.inl ⟨a, xs, by rw [e], r, by rw [q.length]; exact endD R h rfl⟩)
  · obtain ⟨a, xs, e, r, q⟩ := bor_dct hv
    exact .inr (.inr ⟨a, xs, by rw [e], r, by rw [q.length]; exact endD R h rfl⟩)
  · exact h.elim
theorem cb_abs : CB1 X T W (.builtin "abs") dAbs := by
  refine CB1.of call_abs fun {σ H Q G O b t S x v} R hv h => ?_
  unfold dAbs at h
  split at h
  · exact ⟨_, by rw [bor_int hv], endD R h rfl⟩
  · exact h.elim
theorem cb_int : CB1 X T W (.type "int") dInt := by
  refine CB1.of call_int1 fun {σ H Q G O b t S x v} R hv h => ?_
  unfold dInt at h
  split at h
  · exact .inl ⟨_, by rw [bor_int hv], endD R h rfl⟩
  · exact .inr ⟨_, by rw [bor_bl hv], endD R h rfl⟩
  · exact h.elim
theorem cb_list : CB1 X T W (.type "list") dList := by
  refine CB1.of call_list_of fun {σ H Q G O b t S x v} R hv h => ?_
  unfold dList at h
  split at h
  · obtain ⟨a, vs, e, r, q⟩ := bor_lst hv
    exact ⟨a, vs, by rw [e], .inl (.inl (.inl r)), (newL_end R q h).2⟩
  · obtain ⟨a, vs, e, r, q⟩ := bor_tup hv
    exact ⟨a, vs, by rw [e], .inr (.inl (.inl r)), (newL_end R q h).2⟩
  · obtain ⟨a, vs, e, r, q⟩ := bor_scr hv
    exact ⟨a, vs, by rw [e], .inl r, (newL_end R q h).2⟩
  · exact h.elim
theorem cb_tuple : CB1 X T W (.type "tuple") dTuple := by
  refine CB1.of call_tuple_of fun {σ H Q G O b t S x v} R hv h => ?_
  unfold dTuple at h
  split at h
  · obtain ⟨a, vs, e, r, q⟩ := bor_lst hv
    exact ⟨a, vs, by rw [e], .inl ⟨.inl (.inl r), (newT_end R q h).2⟩⟩
  · obtain ⟨a, vs, e, r, q⟩ := bor_tup hv
    refine ⟨a, vs, by rw [e], .inr ⟨.inl (.inl r), ?_⟩⟩
    rw [← e]
    rcases hv with hv | ⟨p, e, z⟩
    · exact endD R h hv
    · exact z.elim
  · exact h.elim
theorem cb_sum (hc : X.calm = true) : CB1 X T W (.builtin "sum") dSum := by
  refine CB1.of (cr_sum hc) fun {σ H Q G O b t S x v} R hv h => ?_
  unfold dSum at h
  split at h
  · rename_i ds
    obtain ⟨a, vs, e, r, q⟩ := bor_lst hv
    cases en : intsD ds with
    | none => rw [en] at h; exact h.elim
    | some ns =>
      rw [en] at h
      have ev := ints_ats q en
      subst ev
      exact ⟨a, ns, by rw [e], .inl (.inl r), endD R h rfl⟩
  · exact h.elim
theorem cb_all (hc : X.calm = true) : CB1 X T W (.builtin "all") dAll := by
  refine CB1.of (cr_all hc) fun {σ H Q G O b t S x v} R hv h => ?_
  unfold dAll at h
  split at h
  · rename_i ds
    obtain ⟨a, vs, e, r, q⟩ := bor_lst hv
    cases en : boolsD ds with
    | none => rw [en] at h; exact h.elim
    | some ns =>
      rw [en] at h
      have ev := bools_ats q en
      subst ev
      exact ⟨a, ns, by rw [e], .inl (.inl r), endD R h rfl⟩
  · exact h.elim
theorem cb_any (hc : X.calm = true) : CB1 X T W (.builtin "any") dAny := by
  refine CB1.of (cr_any hc) fun {σ H Q G O b t S x v} R hv h => ?_
  unfold dAny at h
  split at h
  · rename_i ds
    obtain ⟨a, vs, e, r, q⟩ := bor_lst hv
    cases en : boolsD ds with
    | none => rw [en] at h; exact h.elim
    | some ns =>
      rw [en] at h
      have ev := bools_ats q en
      subst ev
      exact ⟨a, ns, by rw [e], .inl (.inl r), endD R h rfl⟩
  · exact h.elim
theorem cb_max1 (hc : X.calm = true) : CB1 X T W (.builtin "max") dMax1 := by
  refine CB1.of (cr_max hc) fun {σ H Q G O b t S x v} R hv h => ?_
  unfold dMax1 at h
  split at h
  · rename_i ds
    obtain ⟨a, vs, e, r, q⟩ := bor_lst hv
    cases en : intsD ds with
    | none => rw [en] at h; exact h.elim
    | some ns =>
      rw [en] at h
      have ev := ints_ats q en
      subst ev
      refine ⟨a, ns, by rw [e], .inl (.inl r), ?_, fun m hm hle => ?_⟩
      · cases ns with
        | nil => exact h.elim
        | cons _ _ => simp
      · rw [show (some ns).bind maxI = some m from maxI_spec hm hle] at h
        exact endD R h rfl
  · exact h.elim
theorem cb_min1 (hc : X.calm = true) : CB1 X T W (.builtin "min") dMin1 := by
  refine CB1.of (cr_min hc) fun {σ H Q G O b t S x v} R hv h => ?_
  unfold dMin1 at h
  split at h
  · rename_i ds
    obtain ⟨a, vs, e, r, q⟩ := bor_lst hv
    cases en : intsD ds with
    | none => rw [en] at h; exact h.elim
    | some ns =>
      rw [en] at h
      have ev := ints_ats q en
      subst ev
      refine ⟨a, ns, by rw [e], .inl (.inl r), ?_, fun m hm hle => ?_⟩
      · cases ns with
        | nil => exact h.elim
        | cons _ _ => simp
      · rw [show (some ns).bind minI = some m from minI_spec hm hle] at h
        exact endD R h rfl
  · exact h.elim
theorem ats2 {K : PySem.W.Frag} {H : Hp} {O : Addr → Prop} {b : List Addr} {d e : D} {vs : List V} (h : Ats K H O b [d, e] vs) : ∃ v w, vs = [v, w] ∧ At K H O b d v ∧ At K H O b e w := by
  obtain ⟨v, r, e1, q, w, r2, e2, q2, e3⟩ := h
  exact ⟨v, w, by rw [e1, e2, e3], q, q2⟩
theorem cb_max2 (hc : X.calm = true) : CBn X T W (.builtin "max") dMax2 := by
  refine CBn.of (call_max2 hc) fun {σ H Q G O b t S x v} R hv h => ?_
  unfold dMax2 at h
  split at h
  · obtain ⟨v, w, e, h1, h2⟩ := ats2 hv
    exact ⟨_, _, by rw [e, show v = _ from h1, show w = _ from h2], endD R h rfl⟩
  · exact h.elim
theorem cb_min2 (hc : X.calm = true) : CBn X T W (.builtin "min") dMin2 := by
  refine CBn.of (call_min2 hc) fun {σ H Q G O b t S x v} R hv h => ?_
  unfold dMin2 at h
  split at h
  · obtain ⟨v, w, e, h1, h2⟩ := ats2 hv
    exact ⟨_, _, by rw [e, show v = _ from h1, show w = _ from h2], endD R h rfl⟩
  · exact h.elim
theorem cb_gcd : CBn X T W (.builtin "math.gcd") dGcd := by
  refine CBn.of cr_gcd fun {σ H Q G O b t S x v} R hv h => ?_
  unfold dGcd at h
  split at h
  · obtain ⟨v, w, e, h1, h2⟩ := ats2 hv
    exact ⟨_, _, by rw [e, show v = _ from h1, show w = _ from h2], endD R h rfl⟩
  · exact h.elim

/-! ### isinstance -/
inductive Cl where
  | int | bool | list | tuple | dict | str
def Cl.name : Cl → String
  | .int => "int"
  | .bool => "bool"
  | .list => "list"
  | .tuple => "tuple"
  | .dict => "dict"
  | .str => "str"
inductive Kd where
  | non | bl | int | str | lst | tup | dic | fn
def Kd.name : Kd → String
  | .non => "NoneType"
  | .bl => "bool"
  | .int => "int"
  | .str => "str"
  | .lst => "list"
  | .tup => "tuple"
  | .dic => "dict"
  | .fn => "function"
def kd : D → Option Kd
  | .non => some .non
  | .bl _ => some .bl
  | .int _ => some .int
  | .str _ => some .str
  | .lst _ => some .lst
  | .tup _ => some .tup
  | .dic _ => some .dic
  | .dct _ => some .dic
  | .gl _ => some .fn
  | _ => none
def isK : Kd → Cl → Bool
  | .bl, .bool => true
  | .bl, .int => true
  | .int, .int => true
  | .str, .str => true
  | .lst, .list => true
  | .tup, .tuple => true
  | .dic, .dict => true
  | _, _ => false
theorem isK_kit {K : PySem.W.Frag} (k : Kd) (c : Cl) : PySem.W.kitOne K (.type k.name) (.type c.name) = some (isK k c) := by
  refine kit_ty ?_
  cases k <;> cases c <;> decide +kernel
theorem kd_ty {H : Hp} {O : Addr → Prop} {b : List Addr} {K : PySem.W.Frag} {d : D} {v : V} {n : Kd} (h : kd d = some n) (hv : Bor K H O b d v) : TyF K H v (.type n.name) := by
  cases d with
  | gl x =>
    cases h
    rcases hv with ⟨e, hv⟩ | ⟨_, _, z⟩
    · exact .inr ⟨_, e, rfl, hv⟩
    · exact z.elim
  | non => cases h; rcases hv with hv | ⟨_, _, z⟩; rw [show v = _ from hv]; exact .inl (.base .non); exact z.elim
  | bl _ => cases h; rw [bor_bl hv]; exact .inl (.base (.bl _))
  | int _ => cases h; rw [bor_int hv]; exact .inl (.base (.int _))
  | str _ => cases h; rw [bor_str hv]; exact .inl (.base (.str _))
  | lst _ => cases h; obtain ⟨a, vs, e, r, q⟩ := bor_lst hv; rw [e]; exact .inl (.base (.lst r))
  | tup _ => cases h; obtain ⟨a, vs, e, r, q⟩ := bor_tup hv; rw [e]; exact .inl (.base (.tup r))
  | dic _ => cases h; obtain ⟨a, xs, e, r, q⟩ := bor_dic hv; rw [e]; exact .inl (.base (.dK r))
  | dct _ => cases h; obtain ⟨a, xs, e, r, q⟩ := bor_dct hv; rw [e]; exact .inl (.base (.dT r))
  | _ => cases h
def dIsi (c : Cl) (d : D) : ME := optB ((kd d).map fun k => isK k c)
def dIsiT (cs : List Cl) (d : D) : ME := optB ((kd d).map fun k => cs.any (isK k))
theorem pd_isi {k : Cl} {y : Str} {m : MB} {p2 : Pos} (hg : Gl X "isinstance") (hm : X.mg "isinstance" = none) (ha : PB X T W e m) (hg2 : Gl X y) (hm2 : X.mg y = none) (hb : bootBuiltins y = some (.type k.name)) (hn2 : y ≠ "__name__" := by decide) (hd2 : (y == ("__debug__" : Str)) = false := by decide)
    (he : starEach (e :: [.Name y p2]) X.env = (false, eval e X.env) :: starEach [.Name y p2] X.env := by rfl) (he2 : starEach ([.Name y p2]) X.env = (false, eval (.Name y p2) X.env) :: starEach [] X.env := by rfl) : PD X T W (.Call (.Name "isinstance" p) [e, .Name y p2] [] pos) (bnd m (dIsi k)) := by
  refine PE.imp' (pe_callB call_isiF hg hm (by decide +kernel) (pa_cons ha (pa_cons (pe_bltn (v := V.ty k.name) hg2 hm2 hb rfl hn2 hd2) pa_nil he2) he) (he := he) (hpl := by rw [he2]; rfl)) fun σ H Q ⟨G, O, b, t, S, R, h⟩ => ?_
  refine useB R h fun O1 b1 x t1 S1 H1 v R1 hb1 s1 hv h3 => ?_
  unfold dIsi at h3
  cases en : kd x with
  | none => rw [en] at h3; exact h3.elim
  | some n =>
    rw [en] at h3
    exact ⟨v, V.ty k.name, .type n.name, .type k.name, _, rfl, .ty _, kd_ty en hv, isK_kit n k, endD R1 h3 rfl⟩
/-- the classes that are written -/
inductive Clss (X : Cx) : List Expr → List Cl → Prop
  | nil : Clss X [] []
  | cons {y : Str} {p : Pos} {k : Cl} {es : List Expr} {ks : List Cl} (hg : Gl X y) (hm : X.mg y = none) (hb : bootBuiltins y = some (.type k.name)) (hn : y ≠ "__name__") (hd : (y == ("__debug__" : Str)) = false) (hs : starEach (.Name y p :: es) X.env = (false, eval (.Name y p) X.env) :: starEach es X.env) (r : Clss X es ks) : Clss X (.Name y p :: es) (k :: ks)
theorem Clss.pa {es : List Expr} {ks : List Cl} (h : Clss X es ks) : PA X es (fun _ H Q => Q (ks.map fun k => V.ty k.name) H) := by
  induction h with
  | nil => exact pa_nil
  | @cons y p k es ks hg hm hb hn hd hs r ih => exact PA.imp' (pa_cons (pe_bltn (v := V.ty k.name) hg hm hb rfl hn hd) ih hs) fun σ H Q h => h
theorem clss_kit {K : PySem.W.Frag} (n : Kd) : ∀ cs : List Cl, PySem.W.kitAny K (.type n.name) (cs.map fun k => .type k.name) = some (cs.any (isK n))
  | [] => rfl
  | c :: cs => by
    rw [List.map_cons]
    refine kitAny_cons (isK_kit n c) (fun e => ?_) fun e => ?_
    · rw [clss_kit n cs, List.any_cons, e, Bool.false_or]
    · rw [List.any_cons, e, Bool.true_or]
theorem cl_paired : ∀ ks : List Cl, Paired ClsV (ks.map fun k => V.ty k.name) (ks.map fun k => Value.type k.name)
  | [] => .nil
  | k :: ks => .cons (.ty _) (cl_paired ks)
theorem pd_isiT {ks : List Cl} {m : MB} {es : List Expr} {x1 : Nat} {p2 : Pos} (hg : Gl X "isinstance") (hm : X.mg "isinstance" = none) (ha : PB X T W e m) (hk : Clss X es ks)
    (he : starEach (e :: [.Tuple es x1 p2]) X.env = (false, eval e X.env) :: starEach [.Tuple es x1 p2] X.env := by rfl) (he2 : starEach ([.Tuple es x1 p2]) X.env = (false, eval (.Tuple es x1 p2) X.env) :: starEach [] X.env := by rfl) (hl : ks.length ≤ 10 := by decide) : PD X T W (.Call (.Name "isinstance" p) [e, .Tuple es x1 p2] [] pos) (bnd m (dIsiT ks)) := by
  refine PE.imp' (pe_callB call_isiTF hg hm (by decide +kernel) (pa_cons ha (pa_cons (pe_tup hk.pa) pa_nil he2) he) (he := he) (hpl := by rw [he2]; rfl)) fun σ H Q ⟨G, O, b, t, S, R, h⟩ => ?_
  refine useB R h fun O1 b1 x t1 S1 H1 v R1 hb1 s1 hv h3 => ⟨by rw [List.length_map, sizeLine_eq]; omega, fun q hq => ?_⟩
  obtain ⟨R2, s2⟩ := R1.new hq (nt_tup (xs := ks.map fun k => V.ty k.name))
  have hv2 : Bor X.K (upd H1 q (.tup (ks.map fun k => V.ty k.name))) O1 b1 x v := by
    rcases hv with hv | ⟨p, e, hv⟩
    · exact .inl (hv.mono s2 (List.prefix_refl _))
    · exact .inr ⟨p, e, hv.mono s2 (List.prefix_refl _) fun o e _ => by rw [upd_ne (ne_of_none e hq)]; exact e⟩
  have h4 := h3.later (List.prefix_refl _) s2
  unfold dIsiT at h4
  cases en : kd x with
  | none => rw [en] at h4; exact h4.elim
  | some n =>
    rw [en] at h4
    exact ⟨v, q, ks.map fun k => V.ty k.name, .type n.name, ks.map fun k => .type k.name, _, rfl, upd_same, cl_paired ks, kd_ty en hv2, clss_kit n ks, endD R2 h4 rfl⟩
end
end TD

set_option Elab.async false
set_option linter.all false
set_option maxRecDepth 100000
set_option maxHeartbeats 1000000
set_option autoImplicit false
namespace TD
open PySem PySem.Spec PyProof.Rows L2

/-! ### defs -/
def spT (K : PySem.W.Frag) (T : List (Addr × Str)) (F : Fn) (n : Nat) : Sp := fun vs H Q E => vs.length = n ∧ ∃ O b S ds, Rel K T ⟨H, O, b, []⟩ O b [] S [] H ∧ Ats K H O b ds vs ∧
  (match F ds S with
  | .ok d f S' => ∀ (v : V) (H' : Hp) (O' : Addr → Prop) (b' : List Addr), Rel K T ⟨H, O, b, []⟩ O' b' [] S' [] H' → Val K ⟨H, O, b, []⟩ O' b' [] [] H' v (d, f) → Q v H'
  | .ex c fs S' => ∀ (H' : Hp) (O' : Addr → Prop) (b' : List Addr) (d : Addr) (xs : List (Str × V)), Rel K T ⟨H, O, b, []⟩ O' b' [] S' [] H' → H' d = some (.xd xs) → Atf K H' O' b' fs xs → E (.ref (He.ga K c)) (some d) H'
  | .bad => False)
/-- a def of the module that computes F -/
structure Def (P : Program) (w : World) (K : PySem.W.Frag) (mg : Str → Option Value) (base : Heap) (T : List (Addr × Str)) (x : Str) (ps : List Str) (F : Fn) (k : Nat) : Prop where
  ok : ∃ fd, FnOk P w K mg base (L2.CX P w) k (He.ga K x) fd ps (spT K T F ps.length) ∧ Binds K fd ps []
  gl : mg x = some (.ref (He.ga K x))
  kp : PySem.W.keepIn K (.ref (He.ga K x)) = true
def call (F : Fn) (ds : List D) : ME := fun t S => match F ds S with
  | .ok d f S' => .ok (d, f) t S'
  | .ex c fs S' => .ex c fs t S'
  | .bad => .bad
section
variable {K : PySem.W.Frag} {T : List (Addr × Str)} {W : WX} {G : Gh} {O : Addr → Prop} {b : List Addr} {t : Ev} {S : Sto} {σ : L2.St} {H : Hp}
/-- what stands fresh at a callee's end is fresh for the caller -/
theorem Val.out {O' : Addr → Prop} {b' : List Addr} {S' : Sto} {H' : Hp} {v : V} {x : D × Bool} (R : Rel K T G O b t S σ H) (R1 : Rel K T ⟨H, O, b, []⟩ O' b' [] S' [] H') (h : Val K ⟨H, O, b, []⟩ O' b' [] [] H' v x) : Val K G O' b' t σ H' v x := by
  rcases h with h | ⟨e, p, ev, h⟩
  · exact .inl h
  · refine .inr ⟨e, p, ev, h.o, h.own, R.grow p h.fr, fun i q w z => ?_, h.nb, fun q hq z => ?_⟩
    subst z
    obtain ⟨⟨d, e1⟩, e2⟩ := w
    obtain ⟨o, e3, r, e4, h1, h2⟩ := R.sl i _ e1
    rw [e2] at e3
    cases e3; cases e4
    obtain ⟨u, e5, n5⟩ := h2.there
    exact (h.fr : Fr H q) u e5 n5
    obtain ⟨e6, n6, _⟩ := R.tmp q hq
    rw [z] at e6
    exact (h.fr : Fr H p) _ e6 n6
theorem sp_of {F : Fn} {n : Nat} {ds : List D} {vs : List V} {Q : VK} {E : XK} (R : Rel K T G O b t S σ H) (hv : Ats K H O b ds vs) (hn : ds.length = n) (h : Post K T W G O b σ H (call F ds t S) (KD K G σ Q)) (hE : ∀ cls d H', W cls d σ H' → E cls d H') : spT K T F n vs H Q E := by
  refine ⟨by rw [hv.length, hn], O, b, S, ds, R.self, hv, ?_⟩
  unfold call at h
  cases e : F ds S with
  | ok d f S' =>
    rw [e] at h
    exact fun v H' O' b' R1 hv1 => h H' O' b' (R.step R1) R1.pre (R.stays R1) v (Val.out R R1 hv1)
  | ex c fs S' =>
    rw [e] at h
    exact fun H' O' b' d xs R1 hd hf => hE _ _ _ (h H' O' b' d xs (R.step R1) R1.pre (R.stays R1) hd hf)
  | bad => rw [e] at h; exact h
end
section
variable {X : Cx} {T : List (Addr × Str)} {W : WX} {e a c : Expr} {es : List Expr} {pos p : Pos} {x : Str}
def chkLen (n : Nat) (F : Fn) : Fn := fun ds S => if ds.length = n then F ds S else .bad
/-- f(e, ..) -/
theorem pd_call {ps : List Str} {F : Fn} {k : Nat} {m : MA} (D : Def X.prog X.w X.K X.mg X.base T x ps F k) (hr : Room k X.A) (tk : Takes X W) (ha : PAs X T W (e :: es) m) (hl : ∀ t S ds t' S', m t S = .ok ds t' S' → ds.length = ps.length) (hg : Gl X x := by rfl)
    (hdb : (x == ("__debug__" : Str)) = false := by decide) (he : starEach (e :: es) X.env = (false, eval e X.env) :: starEach es X.env := by rfl) (hpl : (backTo pos (starEach es X.env)).any (·.1) = false := by rfl) :
    PD X T W (.Call (.Name x p) (e :: es) [] pos) (bnd m (call F)) := by
  obtain ⟨fd, G1, B⟩ := D.ok
  refine PE.imp' (pe_callS G1 hr hg D.gl D.kp B (fun σ => passAt tk σ) ha hdb he hpl) fun σ H Q ⟨G, O, b, t, S, R, h⟩ => ?_
  have h0 := Post.bnd h
  refine ⟨G, O, b, t, S, R, ?_⟩
  revert h0
  cases em : m t S with
  | ok ds t' S' => exact fun h0 H' O' b' R' hb hs vs hvs => sp_of R' hvs (hl t S ds t' S' em) (h0 H' O' b' R' hb hs) fun _ _ _ z => z
  | ex cc fs t' S' => exact fun h0 => h0
  | bad => exact fun h0 => h0
end
theorem alen_nil : ∀ t S ds t' S', aNil t S = .ok ds t' S' → ds.length = 0 := fun t S ds t' S' h => by cases h; rfl
theorem alen_cons {m : ME} {r : MA} {n : Nat} (hr : ∀ t S ds t' S', r t S = .ok ds t' S' → ds.length = n) : ∀ t S ds t' S', aCons m r t S = .ok ds t' S' → ds.length = n + 1 := fun t S ds t' S' h => by
  unfold aCons eb bnd at h
  cases e : m t S with
  | ok x t1 S1 =>
    rw [e] at h
    cases e2 : r t1 S1 with
    | ok ys t2 S2 =>
      simp only [e2] at h
      cases h
      rw [List.length_cons, hr _ _ _ _ _ e2]
    | ex _ _ _ _ => simp only [e2] at h; cases h
    | bad => simp only [e2] at h; cases h
  | ex _ _ _ _ => rw [e] at h; cases h
  | bad => rw [e] at h; cases h

/-! ### statements -/
def sSeq (m r : MS) : MS := bnd m fun f => match f with
  | .nx => r
  | f => ret f
def sNx : MS := ret .nx
def sRet (m : ME) : MS := bnd m fun x => ret (.rt x.1 x.2)
def sRetN : MS := ret (.rt .non false)
def sIf (c : MT) (a b : MS) : MS := bnd c fun x => if x = true then a else b
def sExpr (m : ME) : MS := bnd m fun _ => ret .nx
/-- x = e -/
def sSet (i : Nat) (m : ME) : MS := bnd m fun x => fun t S => .ok .nx (t.set i (if x.2 = true then .ow x.1 else .sh x.1)) S
def sBk : MS := ret .bk
def sCt : MS := ret .ct
section
variable {X : Cx} {T : List (Addr × Str)} {W : WX} {e a c : Expr} {es : List Expr} {pos p : Pos} {st : Stmt} {sts sts' : List Stmt}
theorem PostS.here {G : Gh} {O : Addr → Prop} {b : List Addr} {t : Ev} {S : Sto} {σ : L2.St} {H : Hp} {Dn : Ends} (R : Rel X.K T G O b t S σ H) (h : PostS X.K T W G O b H (.ok .nx t S) Dn) : Dn.nx σ H := h σ H O b R (List.prefix_refl _) (Stays.refl _ _)
theorem pbk_nil : PBk X T W [] sNx := PSs.imp' pss_nil fun Dn σ H ⟨G, O, b, t, S, R, h⟩ => PostS.here R h
theorem pbk_cons {m r : MS} (h1 : PSt X T W st m) (h2 : PBk X T W sts r) : PBk X T W (st :: sts) (sSeq m r) := by
  refine PSs.imp' (pss_cons h1 h2) fun Dn σ H ⟨G, O, b, t, S, R, h⟩ => ⟨G, O, b, t, S, R, ?_⟩
  unfold sSeq bnd at h
  revert h
  cases m t S with
  | ok f t' S' =>
    cases f with
    | nx => exact fun h s' H' O' b' R' hb hs => ⟨G, O', b', t', S', R', h.later hb hs⟩
    | rt d f => exact fun h => h
    | bk => exact fun h => h
    | ct => exact fun h => h
  | ex cc fs t' S' => exact fun h => h
  | bad => exact fun h => h
theorem pbk_one {m : MS} (h1 : PSt X T W st m) : PBk X T W [st] m := pss_one h1
theorem pst_pass : PSt X T W (.Pass pos) sNx := PS.imp' ps_pass fun Dn σ H ⟨G, O, b, t, S, R, h⟩ => PostS.here R h
theorem pst_break : PSt X T W (.Break pos) sBk := PS.imp' ps_break fun Dn σ H ⟨G, O, b, t, S, R, h⟩ => h σ H O b R (List.prefix_refl _) (Stays.refl _ _)
theorem pst_continue : PSt X T W (.Continue pos) sCt := PS.imp' ps_continue fun Dn σ H ⟨G, O, b, t, S, R, h⟩ => h σ H O b R (List.prefix_refl _) (Stays.refl _ _)
theorem pst_expr {m : ME} (he : PD X T W e m) (hs : swapsWith e none pos.line X.env = pure false := by rfl) : PSt X T W (.Expr e pos) (sExpr m) := by
  refine PS.imp' (ps_expr he hs) fun Dn σ H ⟨G, O, b, t, S, R, h⟩ => ⟨G, O, b, t, S, R, ?_⟩
  exact (PostS.bnd (σ := σ) h).imp fun O' b' x t' S' H' R' hb hs h' v hv => PostS.here R' h'
theorem pst_ret {m : ME} (he : PD X T W e m) : PSt X T W (.Return (some e) pos) (sRet m) := by
  refine PS.imp' (ps_ret he) fun Dn σ H ⟨G, O, b, t, S, R, h⟩ => ⟨G, O, b, t, S, R, ?_⟩
  exact (PostS.bnd (σ := σ) h).imp fun O' b' x t' S' H' R' hb hs h' v hv => h' v σ H' O' b' R' (List.prefix_refl _) (Stays.refl _ _) hv
theorem pst_retN : PSt X T W (.Return none pos) sRetN := PS.imp' ps_retN fun Dn σ H ⟨G, O, b, t, S, R, h⟩ => h .non σ H O b R (List.prefix_refl _) (Stays.refl _ _) (.inl ⟨rfl, rfl⟩)
theorem pst_if {mc : MT} {ma mb : MS} (hc : PC X T W c mc) (ha : PBk X T W sts ma) (hb : PBk X T W sts' mb) : PSt X T W (.If c sts sts' pos) (sIf mc ma mb) := by
  refine PS.imp' (ps_if hc ha hb) fun Dn σ H ⟨G, O, b, t, S, R, h⟩ => ⟨G, O, b, t, S, R, ?_⟩
  refine (PostS.bnd (σ := σ) h).imp fun O' b' x t' S' H' R' hb hs h' => ?_
  cases x with
  | true => rw [if_pos rfl] at h' ⊢; exact ⟨G, O', b', t', S', R', h'⟩
  | false => rw [if_neg Bool.false_ne_true] at h' ⊢; exact ⟨G, O', b', t', S', R', h'⟩
theorem set_end {G : Gh} {O : Addr → Prop} {b : List Addr} {t : Ev} {S : Sto} {σ : L2.St} {H : Hp} {i : Nat} {x : D × Bool} {v : V} (R : Rel X.K T G O b t S σ H) (hv : Val X.K G O b t σ H v x) : Rel X.K T G O b (t.set i (if x.2 = true then .ow x.1 else .sh x.1)) S (σ.set i (some v)) H := by
  rcases hv with ⟨e, h⟩ | ⟨e, q, ev, h⟩
  · rw [e, if_neg Bool.false_ne_true]
    exact R.put ⟨v, rfl, h⟩ fun d q z => by cases z
  · rw [e, if_pos rfl, ev]
    exact R.put ⟨q, rfl, h.o, h.own⟩ fun d r z1 z2 => by
      cases z1; cases z2
      exact ⟨h.fr, h.nb, fun j q _ w => h.ns j q w, h.nq⟩
theorem pst_set {i : Nat} {x : Str} {m : ME} {pos' : Pos} (hN : X.N.Nodup) (hi : X.N[i]? = some x) (hx : Loc X.env.scope x) (he : PD X T W e m) (hs : swapsWith e (some (.Name x pos')) pos.line X.env = pure false := by rfl) (hf : X.fn x = true ∨ X.env.scope.names.lookup x = some .local := by first | exact .inl rfl | exact .inr rfl | assumption) : PSt X T W (.Assign [.Name x pos'] e pos) (sSet i m) := by
  refine PS.imp' (ps_set hN hi hx he hs hf) fun Dn σ H ⟨G, O, b, t, S, R, h⟩ => ⟨G, O, b, t, S, R, ?_⟩
  exact (PostS.bnd (σ := σ) h).imp fun O' b' x t' S' H' R' hb hs h' v hv => h' _ H' O' b' (set_end R' hv) (List.prefix_refl _) (Stays.refl _ _)
/-- a, b = e1, e2: two local names -/
def sPar (i j : Nat) (m r : ME) : MS := eb m fun x => eb r fun y => fun t S => .ok .nx ((t.set i (.sh x)).set j (.sh y)) S
theorem pst_par {i j : Nat} {x y : Str} {m r : ME} {px py pt : Pos} {kt k2 : Nat} {pt2 : Pos} (hc : X.calm = true) (hN : X.N.Nodup) (hi : X.N[i]? = some x) (hj : X.N[j]? = some y) (hij : i ≠ j)
    (hx : X.env.scope.names.lookup x = some .local) (hy : X.env.scope.names.lookup y = some .local) (ha : PD X T W a m) (hd : PD X T W c r)
    (hw : swappedStores [.Tuple [.Name x px, .Name y py] kt pt] (.Tuple [a, c] k2 pt2) X.env = pure (some [x, y])) (h1 : starEach [a, c] X.env = (false, eval a X.env) :: starEach [c] X.env := by rfl) (h2 : starEach [c] X.env = (false, eval c X.env) :: starEach [] X.env := by rfl)
    (hs : swapsWithSole [.Tuple [.Name x px, .Name y py] kt pt] (.Tuple [a, c] k2 pt2) pos.line X.env = pure false := by rfl) :
    PSt X T W (.Assign [.Tuple [.Name x px, .Name y py] kt pt] (.Tuple [a, c] k2 pt2) pos) (sPar i j m r) := by
  refine PS.imp' (ps_par hc hN hi hj hij hx hy (pa_cons ha (pa_cons hd pa_nil h2) h1) hw hs) fun Dn σ H ⟨G, O, b, t, S, R, h⟩ => ?_
  have h0 := PostS.bnd (σ := σ) h
  refine ⟨G, O, b, t, S, R, h0.imp fun O' b' x t' S' H' R' hb hs h' v hv => ?_⟩
  obtain ⟨O2, R2, s2, a2⟩ := R'.share hv
  have h3 := PostS.bnd (σ := σ) (h'.later (List.prefix_refl _) s2)
  refine ⟨G, O2, b', t', S', R2, h3.imp fun O3 b3 y t3 S3 H3 R3 hb3 s3 h4 w hw => ?_⟩
  obtain ⟨O4, R4, s4, a4⟩ := R3.share hw
  refine ⟨v, w, rfl, h4 _ H3 O4 b3 ?_ (List.prefix_refl _) s4⟩
  have R5 := R4.put (i := i) (s := .sh x.1) (v := some v) ⟨v, rfl, (a2.mono s3 hb3).mono s4 (List.prefix_refl _)⟩ fun d q z => by cases z
  exact R5.put (i := j) (s := .sh y.1) (v := some w) ⟨w, rfl, a4⟩ fun d q z => by cases z
end
end TD

set_option Elab.async false
set_option linter.all false
set_option maxRecDepth 100000
set_option maxHeartbeats 1000000
set_option autoImplicit false
namespace TD
open PySem PySem.Spec PyProof.Rows L2

/-! ### targets -/
abbrev MG := D → Ev → Option Ev
def gNm (i : Nat) : MG := fun d t => some (t.set i (.sh d))
def gNil : List D → Ev → Option Ev
  | [], t => some t
  | _, _ => none
def gCons (f : MG) (r : List D → Ev → Option Ev) : List D → Ev → Option Ev
  | d :: ds, t => (f d t).bind (r ds)
  | [], _ => none
def gTp (r : List D → Ev → Option Ev) : MG := fun d t => match d with
  | .tup ds => r ds t
  | .lst ds => r ds t
  | _ => none
def asg (f : MG) (d : D) : M Unit := fun t S => match f d t with
  | some t' => .ok () t' S
  | none => .bad
/-- what is wanted behind a store: the slots at is may have changed -/
def PostG (K : PySem.W.Frag) (T : List (Addr × Str)) (G : Gh) (O : Addr → Prop) (b : List Addr) (is : List Nat) (S : Sto) (σ : L2.St) (H : Hp) (r : Option Ev) (Q : L2.St → Hp → Prop) : Prop :=
  match r with
  | some t' => ∀ σ' : L2.St, Rel K T G O b t' S σ' H → σ'.length = σ.length → (∀ j, j ∉ is → σ'[j]? = σ[j]?) → Q σ' H
  | none => False
def PGt (X : Cx) (T : List (Addr × Str)) (tg : Expr) (is : List Nat) (f : MG) : Prop := ∃ g, PG X tg g ∧ ∀ {σ : L2.St} {H : Hp} {Q : L2.St → Hp → Prop} {G : Gh} {O : Addr → Prop} {b : List Addr} {t : Ev} {S : Sto} {d : D} {v : V},
  Rel X.K T G O b t S σ H → At X.K H O b d v → PostG X.K T G O b is S σ H (f d t) Q → g v σ H Q
def PGts (X : Cx) (T : List (Addr × Str)) (ts : List Expr) (is : List Nat) (f : List D → Ev → Option Ev) (n : Nat) : Prop := ∃ g, PGs X ts g ∧ (∀ ds t t', f ds t = some t' → ds.length = n) ∧ ∀ {σ : L2.St} {H : Hp} {Q : L2.St → Hp → Prop} {G : Gh} {O : Addr → Prop} {b : List Addr} {t : Ev} {S : Sto} {ds : List D} {vs : List V},
  Rel X.K T G O b t S σ H → Ats X.K H O b ds vs → PostG X.K T G O b is S σ H (f ds t) Q → g vs σ H Q
section
variable {X : Cx} {T : List (Addr × Str)} {W : WX} {pos : Pos}
theorem pg_nm {i : Nat} {x : Str} (hN : X.N.Nodup) (hi : X.N[i]? = some x) (hx : Loc X.env.scope x) (hf : X.fn x = true ∨ X.env.scope.names.lookup x = some .local := by first | exact .inl rfl | exact .inr rfl | assumption) : PGt X T (.Name x pos) [i] (gNm i) := by
  refine ⟨_, pg_name hN hi hx hf, fun {σ H Q G O b t S d v} R hv h => ?_⟩
  have R1 := R.put (i := i) (s := .sh d) (v := some v) ⟨v, rfl, hv⟩ fun d q z => by cases z
  exact h _ R1 (by rw [List.length_set]) fun j hj => List.getElem?_set_ne (fun z => hj (by rw [z]; exact List.mem_singleton_self _))
theorem pgts_nil : PGts X T [] [] gNil 0 := by
  refine ⟨_, pgs_nil, fun ds t t' h => ?_, fun {σ H Q G O b t S ds vs} R hv h => ?_⟩
  · cases ds with
    | nil => rfl
    | cons d ds => cases h
  cases ds with
  | nil => exact ⟨hv, h σ R rfl fun _ _ => rfl⟩
  | cons d ds => exact h.elim
theorem pgts_cons {e : Expr} {es : List Expr} {is js : List Nat} {f : MG} {r : List D → Ev → Option Ev} {n : Nat} (h1 : PGt X T e is f) (h2 : PGts X T es js r n)
    (hs : (assignEach (e :: es) X.env).map (·.2) = assign e X.env :: (assignEach es X.env).map (·.2) := by rfl) : PGts X T (e :: es) (is ++ js) (gCons f r) (n + 1) := by
  obtain ⟨g1, p1, k1⟩ := h1
  obtain ⟨g2, p2, l2, k2⟩ := h2
  refine ⟨_, pgs_cons p1 p2 hs, fun ds t t' h => ?_, fun {σ H Q G O b t S ds vs} R hv h => ?_⟩
  · cases ds with
    | nil => cases h
    | cons d ds =>
      obtain ⟨t1, _, e2⟩ := Option.bind_eq_some_iff.mp (show (f d t).bind (r ds) = some t' from h)
      rw [List.length_cons, l2 ds t1 t' e2]
  cases ds with
  | nil => exact h.elim
  | cons d ds =>
    obtain ⟨v, vr, e1, q1, q2⟩ := hv
    refine ⟨v, vr, e1, k1 R q1 ?_⟩
    have h' : PostG X.K T G O b (is ++ js) S σ H ((f d t).bind (r ds)) Q := h
    cases e2 : f d t with
    | none => rw [e2] at h'; exact h'.elim
    | some t1 =>
      rw [e2] at h'
      intro σ1 R1 hl1 he1
      refine k2 R1 q2 ?_
      have h3 : PostG X.K T G O b (is ++ js) S σ H (r ds t1) Q := h'
      cases e3 : r ds t1 with
      | none => rw [e3] at h3; exact h3.elim
      | some t2 =>
        rw [e3] at h3
        exact fun σ2 R2 hl2 he2 => h3 σ2 R2 (hl2.trans hl1) fun j hj => (he2 j fun z => hj (List.mem_append_right _ z)).trans (he1 j fun z => hj (List.mem_append_left _ z))
/-- two rules for one target: by what comes -/
theorem pg_or {tg : Expr} {g g' : TG} (h : PG X tg g) (h' : PG X tg g') : PG X tg (fun v σ H Q => g v σ H Q ∨ g' v σ H Q) :=
  ⟨fun pins s σ H v u Q I r q => q.elim (fun q => h.run pins s σ H v u Q I r q) fun q => h'.run pins s σ H v u Q I r q⟩
theorem pg_tp {es : List Expr} {k : Nat} {is : List Nat} {r : List D → Ev → Option Ev} {n : Nat} (hc : X.calm = true) (h : PGts X T es is r n) (hn : (assignEach es X.env).length = n := by rfl) (hst : (assignEach es X.env).findIdx? (·.1) = none := by rfl) : PGt X T (.Tuple es k pos) is (gTp r) := by
  obtain ⟨g, p, hl, q⟩ := h
  refine ⟨_, pg_or (pg_tup hc p hn hst) (pg_unl hc p hn hst), fun {σ H Q G O b t S d v} R hv h => ?_⟩
  have lens : ∀ ds, PostG X.K T G O b is S σ H (r ds t) Q → ds.length = n := fun ds h => by
    cases e : r ds t with
    | some t' => exact hl ds t t' e
    | none => rw [e] at h; exact h.elim
  unfold gTp at h
  split at h
  · rename_i ds
    obtain ⟨a, vs, e, o, r1, q1⟩ := hv
    exact .inl ⟨a, vs, e, .inl (.inl r1), by rw [q1.length]; exact lens ds h, q R q1 h⟩
  · rename_i ds
    obtain ⟨a, vs, e, o, r1, q1⟩ := hv
    exact .inr ⟨a, vs, e, .inl (.inl r1), by rw [q1.length]; exact lens ds h, q R q1 h⟩
  · exact h.elim
end
section
variable {X : Cx} {T : List (Addr × Str)} {W : WX} {e : Expr} {pos : Pos}
/-- target = e -/
def sAsg (m : ME) (f : MG) : MS := eb m fun d => bnd (asg f d) fun _ => ret .nx
theorem pst_asg {tg : Expr} {is : List Nat} {m : ME} {f : MG} (he : PD X T W e m) (hg : PGt X T tg is f) (hs : swapsWithSole [tg] e pos.line X.env = pure false := by rfl) (hw : swappedStores [tg] e X.env = pure none := by rfl)
    (h1 : (assignEach [tg] X.env).map (·.2) = [assign tg X.env] := by rfl) : PSt X T W (.Assign [tg] e pos) (sAsg m f) := by
  obtain ⟨g, p, q⟩ := hg
  refine PS.imp' (ps_asg he p hs hw h1) fun Dn σ H ⟨G, O, b, t, S, R, h⟩ => ?_
  have h0 := PostS.bnd (σ := σ) h
  refine ⟨G, O, b, t, S, R, h0.imp fun O' b' x t' S' H' R' hb hs h' v hv => ?_⟩
  obtain ⟨O2, R2, s2, a2⟩ := R'.share hv
  refine q R2 a2 ?_
  have h3 : PostS X.K T W G O2 b' H' (bnd (asg f x.1) (fun _ => ret .nx) t' S') Dn := PostS.later h' (List.prefix_refl _) s2
  unfold bnd asg at h3
  cases ef : f x.1 t' with
  | some t3 =>
    rw [ef] at h3
    exact fun σ3 R3 _ _ => PostS.here (W := W) R3 h3
  | none => rw [ef] at h3; exact h3.elim
end

/-! ### equal trees -/
mutual
def beqD : D → D → Bool
  | .non, .non => true
  | .bl a, .bl b => decide (a = b)
  | .int a, .int b => decide (a = b)
  | .str a, .str b => decide (a = b)
  | .ty a, .ty b => decide (a = b)
  | .gl a, .gl b => decide (a = b)
  | .lst a, .lst b => beqDs a b
  | .tup a, .tup b => beqDs a b
  | .box a, .box b => decide (a = b)
  | _, _ => false
def beqDs : List D → List D → Bool
  | [], [] => true
  | x :: xs, y :: ys => beqD x y && beqDs xs ys
  | _, _ => false
end
mutual
theorem beqD_eq : ∀ {x y : D}, beqD x y = true → x = y
  | .non, y, h => by cases y <;> first | rfl | exact absurd h (by simp [beqD])
  | .bl a, y, h => by cases y <;> first | (rw [of_decide_eq_true (show decide (_ = _) = true from h)]) | exact absurd h (by simp [beqD])
  | .int a, y, h => by cases y <;> first | (rw [of_decide_eq_true (show decide (_ = _) = true from h)]) | exact absurd h (by simp [beqD])
  | .str a, y, h => by cases y <;> first | (rw [of_decide_eq_true (show decide (_ = _) = true from h)]) | exact absurd h (by simp [beqD])
  | .ty a, y, h => by cases y <;> first | (rw [of_decide_eq_true (show decide (_ = _) = true from h)]) | exact absurd h (by simp [beqD])
  | .gl a, y, h => by cases y <;> first | (rw [of_decide_eq_true (show decide (_ = _) = true from h)]) | exact absurd h (by simp [beqD])
  | .box a, y, h => by cases y <;> first | (rw [of_decide_eq_true (show decide (_ = _) = true from h)]) | exact absurd h (by simp [beqD])
  | .lst a, y, h => by cases y <;> first | (rw [beqDs_eq (show beqDs a _ = true from h)]) | exact absurd h (by simp [beqD])
  | .tup a, y, h => by cases y <;> first | (rw [beqDs_eq (show beqDs a _ = true from h)]) | exact absurd h (by simp [beqD])
  | .dic a, y, h => by cases y <;> exact absurd h (by simp [beqD])
  | .dct a, y, h => by cases y <;> exact absurd h (by simp [beqD])
  | .ins a b, y, h => by cases y <;> exact absurd h (by simp [beqD])
  | .scr a, y, h => by cases y <;> exact absurd h (by simp [beqD])
theorem beqDs_eq : ∀ {xs ys : List D}, beqDs xs ys = true → xs = ys
  | [], ys, h => by cases ys with
    | nil => rfl
    | cons y ys => exact absurd h (by simp [beqDs])
  | x :: xs, ys, h => by cases ys with
    | nil => exact absurd h (by simp [beqDs])
    | cons y ys =>
      have h' : (beqD x y && beqDs xs ys) = true := h
      rw [Bool.and_eq_true] at h'
      rw [beqD_eq h'.1, beqDs_eq h'.2]
end
/-- boxes whose content must stay as it is -/
abbrev Anc := List (Nat × D)
def ancB (l : Anc) (S : Sto) : Bool := l.all fun q => match S[q.1]? with
  | some d => beqD d q.2
  | none => false
theorem ancB_ok {l : Anc} {S : Sto} (h : ancB l S = true) : ∀ q ∈ l, S[q.1]? = some q.2 := fun q hq => by
  have := List.all_eq_true.mp h q hq
  split at this
  · rename_i d e
    rw [e, beqD_eq this]
  · cases this
/-- how they stand in the heap -/
def AncAt (K : PySem.W.Frag) (H : Hp) (O : Addr → Prop) (b : List Addr) (l : Anc) : Prop := ∀ q ∈ l, ∃ p, b[q.1]? = some p ∧ Own K H O b q.2 p
theorem anc_at {K : PySem.W.Frag} {T : List (Addr × Str)} {G : Gh} {O : Addr → Prop} {b : List Addr} {t : Ev} {S : Sto} {σ : L2.St} {H : Hp} {l : Anc} (R : Rel K T G O b t S σ H) (h : ancB l S = true) : AncAt K H O b l := fun q hq => by
  have e := ancB_ok h q hq
  have hl : q.1 < b.length := by rw [R.bl]; exact (List.getElem?_eq_some_iff.mp e).1
  exact ⟨b[q.1], by simp [hl], (R.st q.1 q.2 b[q.1] e (by simp [hl])).2⟩

/-! ### what is walked -/
abbrev Itm := List D × Anc
/-- J walks the things ds, whatever is done meanwhile to what is not locked (but for the boxes l) -/
def Wk (K : PySem.W.Frag) (J : It) (H : Hp) (O : Addr → Prop) (b : List Addr) (ds : List D) (l : Anc) : Prop := ∀ (i : Nat) (H' : Hp) (O' : Addr → Prop) (b' : List Addr), Stays H O H' O' → b <+: b' → AncAt K H' O' b' l →
  (i = ds.length → J.stop i H') ∧ ∀ d, ds[i]? = some d → J.go i H' ∧ ∀ x H'', J.yld i H' x H'' → (H'' = H' ∧ At K H' O' b' d x) ∨ ∃ p o, H' p = none ∧ nt o ∧ H'' = upd H' p o ∧ ((∀ a, O' a → ∃ u, H' a = some u) → At K H'' O' b' d x)
abbrev MI := M Itm
def PIt (X : Cx) (T : List (Addr × Str)) (W : WX) (tg iter : Expr) (m : MI) : Prop := ∃ wi, PI X tg iter wi ∧ ∀ {σ : L2.St} {H : Hp} {Rr : It → Hp → Prop} {G : Gh} {O : Addr → Prop} {b : List Addr} {t : Ev} {S : Sto},
  Rel X.K T G O b t S σ H → Post X.K T W G O b σ H (m t S) (fun O' b' ds _ _ H' => ∀ J, Wk X.K J H' O' b' ds.1 ds.2 → Rr J H') → wi σ H Rr
def retI (ds : List D) : MI := ret (ds, [])
def dSeq : D → MI
  | .lst ds => retI ds
  | .tup ds => retI ds
  | _ => bad
theorem pi_or {X : Cx} {tg iter : Expr} {w w' : TI} (h : PI X tg iter w) (h' : PI X tg iter w') : PI X tg iter (fun σ H R => w σ H R ∨ w' σ H R) :=
  ⟨fun pins s σ H R I q => q.elim (fun q => h.run pins s σ H R I q) fun q => h'.run pins s σ H R I q⟩
section
variable {X : Cx} {T : List (Addr × Str)} {W : WX} {e a c tg : Expr} {pos p : Pos}
theorem wk_list {K : PySem.W.Frag} {H : Hp} {O : Addr → Prop} {b : List Addr} {ds : List D} {a : Addr} {vs : List V} (o : ¬ O a) (r : H a = some (.lst vs)) (q : Ats K H O b ds vs) : Wk K (Itl K a) H O b ds [] := fun i H' O' b' hs hb _ => by
  have r' : SqL K H' a vs := .inl (.inl (hs _ _ r nt_lst o).1)
  have q' := q.mono hs hb
  refine ⟨fun e => ⟨vs, r', by rw [q.length]; omega⟩, fun d hd => ?_⟩
  obtain ⟨v, h1, h2⟩ := q'.get hd
  refine ⟨⟨vs, v, r', h1⟩, fun x H'' y => ?_⟩
  obtain ⟨e1, e2⟩ := y
  have := e2 vs r'
  rw [h1] at this
  cases this
  exact .inl ⟨e1, h2⟩
theorem wk_tup {K : PySem.W.Frag} {H : Hp} {O : Addr → Prop} {b : List Addr} {ds : List D} {a : Addr} {vs : List V} (o : ¬ O a) (r : H a = some (.tup vs)) (q : Ats K H O b ds vs) : Wk K (Itt K a) H O b ds [] := fun i H' O' b' hs hb _ => by
  have r' : SqT K H' a vs := .inl (.inl (hs _ _ r nt_tup o).1)
  have q' := q.mono hs hb
  refine ⟨fun e => ⟨vs, r', by rw [q.length]; omega⟩, fun d hd => ?_⟩
  obtain ⟨v, h1, h2⟩ := q'.get hd
  refine ⟨⟨vs, v, r', h1⟩, fun x H'' y => ?_⟩
  obtain ⟨e1, e2⟩ := y
  have := e2 vs r'
  rw [h1] at this
  cases this
  exact .inl ⟨e1, h2⟩
theorem pit_seq {m : ME} (h : PD X T W e m) : PIt X T W tg e (eb m dSeq) := by
  refine ⟨_, pi_or (pi_list h) (pi_tup h), fun {σ H Rr G O b t S} R hh => ?_⟩
  have h0 := Post.bnd hh
  -- by what comes
  cases em : m t S with
  | ok x t' S' =>
    rw [em] at h0
    obtain ⟨x1, x2⟩ := x
    have key : (∀ (v : V) (H' : Hp) (O' : Addr → Prop) (b' : List Addr), Rel X.K T G O' b' t' S' σ H' → b <+: b' → Stays H O H' O' → At X.K H' O' b' x1 v → ∃ a, v = V.ref a ∧ (∃ xs, SqL X.K H' a xs) ∧ Rr (Itl X.K a) H') ∨
        (∀ (v : V) (H' : Hp) (O' : Addr → Prop) (b' : List Addr), Rel X.K T G O' b' t' S' σ H' → b <+: b' → Stays H O H' O' → At X.K H' O' b' x1 v → ∃ a, v = V.ref a ∧ (∃ xs, SqT X.K H' a xs) ∧ Rr (Itt X.K a) H') := by
      cases x1 with
      | lst ds =>
        refine .inl fun v H' O' b' R' hb hs hv => ?_
        obtain ⟨a, vs, e, o, r, q⟩ := hv
        exact ⟨a, e, ⟨vs, .inl (.inl r)⟩, Post.here ((h0 H' O' b' R' hb hs)) R' _ (wk_list o r q)⟩
      | tup ds =>
        refine .inr fun v H' O' b' R' hb hs hv => ?_
        obtain ⟨a, vs, e, o, r, q⟩ := hv
        exact ⟨a, e, ⟨vs, .inl (.inl r)⟩, Post.here ((h0 H' O' b' R' hb hs)) R' _ (wk_tup o r q)⟩
      | _ => exact .inl fun v H' O' b' R' hb hs hv => (h0 H' O' b' R' hb hs).elim
    rcases key with key | key
    · refine .inl ⟨G, O, b, t, S, R, ?_⟩
      rw [em]
      intro H' O' b' R' hb hs v hv
      obtain ⟨O2, R2, s2, a2⟩ := R'.share hv
      exact key v H' O2 b' R2 hb (hs.trans s2) a2
    · refine .inr ⟨G, O, b, t, S, R, ?_⟩
      rw [em]
      intro H' O' b' R' hb hs v hv
      obtain ⟨O2, R2, s2, a2⟩ := R'.share hv
      exact key v H' O2 b' R2 hb (hs.trans s2) a2
  | ex cc fs t' S' =>
    rw [em] at h0
    exact .inl ⟨G, O, b, t, S, R, by rw [em]; exact h0⟩
  | bad => rw [em] at h0; exact h0.elim
def rng (lo : Int) (n : Nat) : List D := (List.range n).map fun i => D.int (lo + (i : Nat))
theorem wk_range {K : PySem.W.Frag} {H : Hp} {O : Addr → Prop} {b : List Addr} {lo : Int} {n : Nat} : Wk K (Itr lo n) H O b (rng lo n) [] := fun i H' O' b' hs hb _ => by
  refine ⟨fun e => ?_, fun d hd => ?_⟩
  · rw [e, rng, List.length_map, List.length_range]; exact Nat.le_refl _
  · have hi : i < n := by
      have := (List.getElem?_eq_some_iff.mp hd).1
      rw [rng, List.length_map, List.length_range] at this; exact this
    refine ⟨hi, fun x H'' y => ?_⟩
    obtain ⟨e1, e2⟩ := y
    refine .inl ⟨e1, ?_⟩
    have : d = .int (lo + (i : Nat)) := by
      rw [rng, List.getElem?_map, List.getElem?_range hi] at hd
      exact (Option.some.inj hd).symm
    rw [this]; exact e2
def dRng1 : List D → MI
  | [.int j] => if -1000000000 ≤ j ∧ j ≤ 1000000000 then retI (rng 0 j.toNat) else bad
  | _ => bad
def dRng2 : List D → MI
  | [.int i, .int j] => if (-1000000000 ≤ i ∧ i ≤ 1000000000) ∧ -1000000000 ≤ j ∧ j ≤ 1000000000 then retI (rng i (j - i).toNat) else bad
  | _ => bad
theorem pit_range1 {m : MA} (hg : Gl X "range") (hm : X.mg "range" = none) (ha : PAs X T W [a] m) (hs : starEach [a] X.env = [(false, eval a X.env)] := by rfl) : PIt X T W tg (.Call (.Name "range" p) [a] [] pos) (bnd m dRng1) := by
  refine ⟨_, pi_range1 hg hm ha hs, fun {σ H Rr G O b t S} R hh => ?_⟩
  refine useA R hh fun O1 b1 ds t1 S1 H1 vs R1 hb1 s1 hv h1 => ?_
  unfold dRng1 at h1
  split at h1
  · rename_i j
    obtain ⟨y, ys, e, q, e2⟩ := hv
    by_cases c : -1000000000 ≤ j ∧ j ≤ 1000000000
    · rw [if_pos c] at h1
      exact ⟨j, by rw [e, e2, show y = _ from q], by omega, by omega, Post.here h1 R1 _ wk_range⟩
    · rw [if_neg c] at h1; exact h1.elim
  · exact h1.elim
theorem pit_range2 {m : MA} (hg : Gl X "range") (hm : X.mg "range" = none) (ha : PAs X T W [a, c] m) (hs : starEach [a, c] X.env = [(false, eval a X.env), (false, eval c X.env)] := by rfl) (hs2 : starEach [c] X.env = [(false, eval c X.env)] := by rfl) : PIt X T W tg (.Call (.Name "range" p) [a, c] [] pos) (bnd m dRng2) := by
  refine ⟨_, pi_range2 hg hm ha hs hs2, fun {σ H Rr G O b t S} R hh => ?_⟩
  refine useA R hh fun O1 b1 ds t1 S1 H1 vs R1 hb1 s1 hv h1 => ?_
  unfold dRng2 at h1
  split at h1
  · rename_i i j
    obtain ⟨v, w, e, q1, q2⟩ := ats2 hv
    by_cases c : (-1000000000 ≤ i ∧ i ≤ 1000000000) ∧ -1000000000 ≤ j ∧ j ≤ 1000000000
    · rw [if_pos c] at h1
      exact ⟨i, j, by rw [e, show v = _ from q1, show w = _ from q2], by omega, Post.here h1 R1 _ wk_range⟩
    · rw [if_neg c] at h1; exact h1.elim
  · exact h1.elim

/-! ### for -/
def loop (f : MG) (body : MS) (l : Anc) : List D → MS
  | [] => fun t S => if ancB l S = true then .ok .nx t S else .bad
  | d :: ds => fun t S => if ancB l S = true then bnd (asg f d) (fun _ => bnd body fun fl => match fl with
    | .bk => ret .nx
    | .rt d f => ret (.rt d f)
    | _ => loop f body l ds) t S else .bad
def sFor (m : MI) (f : MG) (body : MS) : MS := bnd m fun ds => loop f body ds.2 ds.1
theorem pst_for {iter : Expr} {body : List Stmt} {m : MI} {f : MG} {is : List Nat} {mb : MS} (hp : PassesOwn (model X.prog X.w) X.A X.env X.xe) (hc : X.calm = true) (hi : PIt X T W tg iter m) (hg : PGt X T tg is f) (hb : PBk X T W body mb)
    (hs : ∀ x, foldedSetIterable iter X.env x = pure x := by intro _; rfl) : PSt X T W (.For tg iter body [] pos) (sFor m f mb) := by
  obtain ⟨wi, p1, k1⟩ := hi
  obtain ⟨g, p2, k2⟩ := hg
  refine PS.imp' (ps_for hp hc p1 p2 hb hs) fun Dn σ H ⟨G, O, b, t, S, R, h⟩ => ?_
  refine k1 R ((PostS.bnd (σ := σ) h).imp fun O' b' itm t' S' H' R' hb hs h' J hJ => ?_)
  obtain ⟨ds, l⟩ := itm
  refine ⟨fun i n σ H => n = ds.length - i ∧ i ≤ ds.length ∧ ∃ O2 b2 t2 S2, Rel X.K T G O2 b2 t2 S2 σ H ∧ b' <+: b2 ∧ Stays H' O' H O2 ∧ PostS X.K T W G O2 b2 H (loop f mb l (ds.drop i) t2 S2) Dn, ⟨_, rfl, Nat.zero_le _, O', b', t', S', R', List.prefix_refl _, Stays.refl _ _, h'⟩, ?_⟩
  rintro i n σ2 H2 ⟨rfl, hle, O2, b2, t2, S2, R2, hb2, hs2, h2⟩
  by_cases hlt : i < ds.length
  · rw [List.drop_eq_getElem_cons hlt] at h2
    have h2 : PostS X.K T W G O2 b2 H2 (if ancB l S2 = true then bnd (asg f ds[i]) (fun _ => bnd mb fun fl => match fl with
        | .bk => ret .nx
        | .rt d f => ret (.rt d f)
        | _ => loop f mb l (ds.drop (i + 1))) t2 S2 else .bad) Dn := h2
    refine Classical.byCases (p := ancB l S2 = true) (fun anc => ?_) fun anc => by rw [if_neg anc] at h2; exact h2.elim
    rw [if_pos anc] at h2
    obtain ⟨w1, w2⟩ := hJ i H2 O2 b2 hs2 hb2 (anc_at R2 anc)
    obtain ⟨g1, g2⟩ := w2 ds[i] (by simp [hlt])
    refine .inr ⟨g1, fun σ3 H3 => ∃ O3 b3 t3 S3, Rel X.K T G O3 b3 t3 S3 σ3 H3 ∧ b' <+: b3 ∧ Stays H' O' H3 O3 ∧ PostS X.K T W G O3 b3 H3 (loop f mb l (ds.drop (i + 1)) t3 S3) Dn, fun σ3 H3 q => ⟨ds.length - (i + 1), by omega, rfl, hlt, q⟩, fun x H3 y => ?_⟩
    have key : ∀ (Rx : Rel X.K T G O2 b2 t2 S2 σ2 H3) (sx : Stays H2 O2 H3 O2) (hx : At X.K H3 O2 b2 ds[i] x), g x σ2 H3 fun σ3 H4 => tS X.K T W mb { Dn with nx := fun σ3 H3 => ∃ O3 b3 t3 S3, Rel X.K T G O3 b3 t3 S3 σ3 H3 ∧ b' <+: b3 ∧ Stays H' O' H3 O3 ∧ PostS X.K T W G O3 b3 H3 (loop f mb l (ds.drop (i + 1)) t3 S3) Dn, ct := fun σ3 H3 => ∃ O3 b3 t3 S3, Rel X.K T G O3 b3 t3 S3 σ3 H3 ∧ b' <+: b3 ∧ Stays H' O' H3 O3 ∧ PostS X.K T W G O3 b3 H3 (loop f mb l (ds.drop (i + 1)) t3 S3) Dn, bk := Dn.nx } σ3 H4 := fun Rx sx hx => by
      refine k2 Rx hx ?_
      have h4 := PostS.later h2 (List.prefix_refl b2) sx
      unfold bnd asg at h4
      cases ef : f ds[i] t2 with
      | none => rw [ef] at h4; exact h4.elim
      | some t3 =>
        rw [ef] at h4
        intro σ3 R3 _ _
        refine ⟨G, O2, b2, t3, S2, R3, ?_⟩
        revert h4
        cases em : mb t3 S2 with
        | ok fl t4 S4 =>
          intro h4
          simp only [em] at h4
          cases fl with
          | nx => exact fun σ5 H5 O5 b5 R5 hb5 hs5 => ⟨O5, b5, t4, S4, R5, hb2.trans hb5, (hs2.trans sx).trans hs5, PostS.later h4 hb5 hs5⟩
          | ct => exact fun σ5 H5 O5 b5 R5 hb5 hs5 => ⟨O5, b5, t4, S4, R5, hb2.trans hb5, (hs2.trans sx).trans hs5, PostS.later h4 hb5 hs5⟩
          | bk => exact fun σ5 H5 O5 b5 R5 hb5 hs5 => h4 σ5 H5 O5 b5 R5 hb5 hs5
          | rt d ff => exact h4
        | ex cc fs t4 S4 => intro h4; simp only [em] at h4; exact h4
        | bad => intro h4; simp only [em] at h4; exact h4
    rcases g2 x H3 y with ⟨e1, hx⟩ | ⟨q, o, hq, hn, e1, hx⟩
    · subst e1; exact key R2 (Stays.refl _ _) hx
    · subst e1
      obtain ⟨Rx, sx⟩ := R2.new hq hn
      exact key Rx sx (hx fun a z => let ⟨u, e, _⟩ := R2.ot a z; ⟨u, e⟩)
  · have e : i = ds.length := by omega
    subst e
    rw [List.drop_length] at h2
    have h2 : PostS X.K T W G O2 b2 H2 (if ancB l S2 = true then .ok .nx t2 S2 else .bad) Dn := h2
    refine Classical.byCases (p := ancB l S2 = true) (fun anc => ?_) fun anc => by rw [if_neg anc] at h2; exact h2.elim
    rw [if_pos anc] at h2
    exact .inl ⟨(hJ ds.length H2 O2 b2 hs2 hb2 (anc_at R2 anc)).1 rfl, PostS.here (W := W) R2 h2⟩
end
end TD

set_option Elab.async false
set_option linter.all false
set_option maxRecDepth 100000
set_option maxHeartbeats 1000000
set_option autoImplicit false
namespace TD
open PySem PySem.Spec PyProof.Rows L2

section
variable {K : PySem.W.Frag} {T : List (Addr × Str)} {G : Gh} {O O' : Addr → Prop} {b b' : List Addr} {t t' t2 : Ev} {S S' : Sto} {σ σ' : L2.St} {H H' : Hp}
/-- the slots told anew: each as before, or shared -/
theorem Rel.reslot (R : Rel K T G O b t S σ H) (hl : t2.length = σ'.length) (hs : ∀ (i : Nat) (s : Slot), t2[i]? = some s → (t[i]? = some s ∧ σ[i]? = σ'[i]?) ∨ ((∀ d, s ≠ .ow d) ∧ ∃ o, σ'[i]? = some o ∧ SlotOk K H O b s o)) : Rel K T G O b t2 S σ' H := by
  have q : ∀ {j : Nat} {p : Addr}, OwAt t2 σ' j p → OwAt t σ j p := fun {j p} h => by
    obtain ⟨⟨d, e1⟩, e2⟩ := h
    rcases hs j _ e1 with ⟨h1, h2⟩ | ⟨h1, _⟩
    · exact ⟨⟨d, h1⟩, h2.trans e2⟩
    · exact absurd rfl (h1 d)
  refine ⟨hl, fun i s e => ?_, fun j k p h1 h2 => R.inj j k p (q h1) (q h2), fun j p h => R.nb j p (q h), fun j p h => R.fr j p (q h), R.bl, R.st, R.bnd, R.bfr, R.ext, R.grow, R.pre, R.o0, R.o0t, R.ot, R.ofr, R.b0, R.tabs, fun x hx => let ⟨h1, h2, h3, h4, h5⟩ := R.tmp x hx; ⟨h1, h2, h3, fun j w => h4 j (q w), h5⟩⟩
  rcases hs i s e with ⟨h1, h2⟩ | ⟨_, h⟩
  · obtain ⟨o, e1, z⟩ := R.sl i s h1
    exact ⟨o, h2 ▸ e1, z⟩
  · exact h
/-- a container of nobody else's is set aside, as it stands -/
theorem Rel.push (R : Rel K T G O b t S σ H) {p : Addr} {d : D} {o : HO} (h : Tmp K G O b t σ H d p) (e : H p = some o) (hn : nt o) : Rel K T { G with tm := (p, o) :: G.tm } O b t S σ H := by
  refine ⟨R.len, R.sl, R.inj, R.nb, R.fr, R.bl, R.st, R.bnd, R.bfr, R.ext, R.grow, R.pre, R.o0, R.o0t, R.ot, R.ofr, R.b0, R.tabs, fun q hq => ?_⟩
  rcases List.mem_cons.mp hq with z | z
  · rw [z]; exact ⟨e, hn, h.o, fun i w => h.ns i p w rfl, h.nb, h.fr⟩
  · exact R.tmp q z
theorem Rel.pop {p : Addr} {o : HO} (R : Rel K T { G with tm := (p, o) :: G.tm } O b t S σ H) (hq : ∀ q ∈ G.tm, q.1 ≠ p) : Rel K T G O b t S σ H ∧ H p = some o ∧ ∀ d, Own K H O b d p → Tmp K G O b t σ H d p := by
  obtain ⟨h1, h2, h3, h4, h5, h6⟩ := R.tmp (p, o) List.mem_cons_self
  refine ⟨⟨R.len, R.sl, R.inj, R.nb, R.fr, R.bl, R.st, R.bnd, R.bfr, R.ext, R.grow, R.pre, R.o0, R.o0t, R.ot, R.ofr, R.b0, R.tabs, fun q z => R.tmp q (List.mem_cons_of_mem _ z)⟩, h1, fun d hd => ⟨h3, hd, h6, fun i q w z => ?_, h5, hq⟩⟩
  exact h4 i (z ▸ w)
end

/-! ### slots of a comprehension's block -/
def clr (vs : List Nat) (t : Ev) : Ev := vs.foldr (fun v t => t.set v .no) t
def shOf : Option Slot → Slot
  | some (.sh d) => .sh d
  | _ => .no
def back (vs : List Nat) (t0 t : Ev) : Ev := vs.foldr (fun v t => t.set v (shOf t0[v]?)) t
theorem clr_len (t : Ev) : ∀ vs : List Nat, (clr vs t).length = t.length
  | [] => rfl
  | v :: vs => by show ((clr vs t).set v .no).length = _; rw [List.length_set, clr_len t vs]
theorem back_len (t0 t : Ev) : ∀ vs : List Nat, (back vs t0 t).length = t.length
  | [] => rfl
  | v :: vs => by show ((back vs t0 t).set v _).length = _; rw [List.length_set, back_len t0 t vs]
theorem clr_get {t : Ev} {i : Nat} {s : Slot} : ∀ {vs : List Nat}, (clr vs t)[i]? = some s → (i ∈ vs ∧ s = .no) ∨ (i ∉ vs ∧ t[i]? = some s)
  | [], h => .inr ⟨by simp, h⟩
  | v :: vs, h => by
    have h : ((clr vs t).set v .no)[i]? = some s := h
    by_cases e : v = i
    · subst e
      have hl : v < (clr vs t).length := by
        have := (List.getElem?_eq_some_iff.mp h).1
        rw [List.length_set] at this; exact this
      rw [List.getElem?_set_self hl] at h
      exact .inl ⟨List.mem_cons_self, (Option.some.inj h).symm⟩
    · rw [List.getElem?_set_ne e] at h
      rcases clr_get h with ⟨h1, h2⟩ | ⟨h1, h2⟩
      · exact .inl ⟨List.mem_cons_of_mem _ h1, h2⟩
      · exact .inr ⟨by simp only [List.mem_cons, not_or]; exact ⟨fun z => e z.symm, h1⟩, h2⟩
theorem back_get {t0 t : Ev} {i : Nat} {s : Slot} : ∀ {vs : List Nat}, (back vs t0 t)[i]? = some s → (i ∈ vs ∧ s = shOf t0[i]?) ∨ (i ∉ vs ∧ t[i]? = some s)
  | [], h => .inr ⟨by simp, h⟩
  | v :: vs, h => by
    have h : ((back vs t0 t).set v (shOf t0[v]?))[i]? = some s := h
    by_cases e : v = i
    · subst e
      have hl : v < (back vs t0 t).length := by
        have := (List.getElem?_eq_some_iff.mp h).1
        rw [List.length_set] at this; exact this
      rw [List.getElem?_set_self hl] at h
      exact .inl ⟨List.mem_cons_self, (Option.some.inj h).symm⟩
    · rw [List.getElem?_set_ne e] at h
      rcases back_get h with ⟨h1, h2⟩ | ⟨h1, h2⟩
      · exact .inl ⟨List.mem_cons_of_mem _ h1, h2⟩
      · exact .inr ⟨by simp only [List.mem_cons, not_or]; exact ⟨fun z => e z.symm, h1⟩, h2⟩
theorem wipe_in {σ : L2.St} {i : Nat} : ∀ {vs : List Nat}, i ∈ vs → i < σ.length → (wipe σ vs)[i]? = some none
  | v :: vs, h, hl => by
    unfold wipe
    by_cases e : v = i
    · subst e; exact List.getElem?_set_self (by rw [wipe_length]; exact hl)
    · rw [List.getElem?_set_ne e]
      exact wipe_in ((List.mem_cons.mp h).resolve_left fun z => e z.symm) hl
theorem wipe_eq {σ σ2 : L2.St} {vs : List Nat} (hl : σ2.length = σ.length) (h : ∀ j, j ∉ vs → σ2[j]? = σ[j]?) : wipe σ2 vs = wipe σ vs := by
  apply List.ext_getElem?
  intro j
  by_cases m : j ∈ vs
  · by_cases l : j < σ.length
    · rw [wipe_in m (by rw [hl]; exact l), wipe_in m l]
    · rw [List.getElem?_eq_none (by rw [wipe_length, hl]; omega), List.getElem?_eq_none (by rw [wipe_length]; omega)]
  · rw [wipe_out m, wipe_out m]; exact h j m
section
variable {K : PySem.W.Frag} {T : List (Addr × Str)} {G : Gh} {O O' : Addr → Prop} {b b' : List Addr} {t t' t2 : Ev} {S S' : Sto} {σ σ' : L2.St} {H H' : Hp}
theorem Rel.wipe (R : Rel K T G O b t S σ H) (vs : List Nat) : Rel K T G O b (clr vs t) S (L2.wipe σ vs) H := by
  refine R.reslot (by rw [clr_len, wipe_length]; exact R.len) fun i s e => ?_
  have hl : i < σ.length := by
    have := (List.getElem?_eq_some_iff.mp e).1
    rw [clr_len, R.len] at this; exact this
  rcases clr_get e with ⟨h1, h2⟩ | ⟨h1, h2⟩
  · exact .inr ⟨fun d z => (by rw [h2] at z; cases z), none, wipe_in h1 hl, by rw [h2]; trivial⟩
  · exact .inl ⟨h2, (wipe_out h1).symm⟩
/-- back in the def's frame -/
theorem Rel.back (R : Rel K T G O b t S σ H) {vs : List Nat} (R1 : Rel K T G O' b' t' S' (L2.wipe σ vs) H') (hs : Stays H O H' O') (hb : b <+: b') : Rel K T G O' b' (back vs t t') S' σ H' := by
  refine R1.reslot (by rw [back_len, R1.len, wipe_length]) fun i s e => ?_
  rcases back_get e with ⟨h1, h2⟩ | ⟨h1, h2⟩
  · have hl : i < t.length := by
      have := (List.getElem?_eq_some_iff.mp e).1
      rw [back_len, R1.len, wipe_length] at this
      rw [R.len]; exact this
    refine .inr ?_
    obtain ⟨o, e1, q⟩ := R.sl i t[i] (by simp [hl])
    rw [show t[i]? = some t[i] by simp [hl]] at h2
    cases ht : t[i] with
    | sh d =>
      rw [ht] at h2 q
      obtain ⟨v, e2, q⟩ := q
      exact ⟨fun d' z => (by rw [h2] at z; cases z), o, e1, by rw [h2]; exact ⟨v, e2, q.mono hs hb⟩⟩
    | no => rw [ht] at h2; exact ⟨fun d' z => (by rw [h2] at z; cases z), o, e1, by rw [h2]; trivial⟩
    | ow d => rw [ht] at h2; exact ⟨fun d' z => (by rw [h2] at z; cases z), o, e1, by rw [h2]; trivial⟩
  · exact .inl ⟨h2, wipe_out h1⟩
end

/-! ### targets and sources, of one form -/
def gOf (K : PySem.W.Frag) (T : List (Addr × Str)) (is : List Nat) (f : MG) : TG := fun v σ H Q => ∃ G O b t S d, Rel K T G O b t S σ H ∧ At K H O b d v ∧ PostG K T G O b is S σ H (f d t) Q
theorem pgt_can {X : Cx} {T : List (Addr × Str)} {tg : Expr} {is : List Nat} {f : MG} (h : PGt X T tg is f) : PG X tg (gOf X.K T is f) := by
  obtain ⟨g, p, q⟩ := h
  exact ⟨fun pins s σ H v u Q I r ⟨G, O, b, t, S, d, R, hv, z⟩ => p.run pins s σ H v u Q I r (q R hv z)⟩
def wOf (K : PySem.W.Frag) (T : List (Addr × Str)) (W : WX) (m : MI) : TI := fun σ H Rr => ∃ G O b t S, Rel K T G O b t S σ H ∧ Post K T W G O b σ H (m t S) (fun O' b' ds _ _ H' => ∀ J, Wk K J H' O' b' ds.1 ds.2 → Rr J H')
theorem pit_can {X : Cx} {T : List (Addr × Str)} {W : WX} {tg iter : Expr} {m : MI} (h : PIt X T W tg iter m) : PI X tg iter (wOf X.K T W m) := by
  obtain ⟨w, p, q⟩ := h
  exact ⟨fun pins s σ H Rr I ⟨G, O, b, t, S, R, z⟩ => p.run pins s σ H Rr I (q R z)⟩

/-! ### comprehensions -/
abbrev W0 : WX := fun _ _ _ _ => False
theorem takes0 {X : Cx} : Takes X W0 := fun u s' h => by
  obtain ⟨a, B, sI, pins, σ, H, cls, d, e, I, nb, up, sky, na, os, ag, w⟩ := h
  exact w.elim
def lcGo (vs : List Nat) (f : MG) (c : MT) (e : ME) (l : Anc) : List D → List D → MA
  | [], acc => fun t S => if ancB l S = true then .ok acc t S else .bad
  | d :: ds, acc => fun t S => if ancB l S = true then bnd (asg f d) (fun _ => bnd c fun x => if x = true then eb e fun y => fun t S => lcGo vs f c e l ds (acc ++ [y]) (clr vs t) S else fun t S => lcGo vs f c e l ds acc (clr vs t) S) t S else .bad
def noEx {α : Type} : R α → R α
  | .ex _ _ _ _ => .bad
  | r => r
def lcL (vs : List Nat) (f : MG) (c : MT) (e : ME) (l : Anc) (ds : List D) : MA := fun t S => match lcGo vs f c e l ds [] (clr vs t) S with
  | .ok acc t' S' => .ok acc (back vs t t') S'
  | _ => .bad
def eLc (m : MI) (vs : List Nat) (f : MG) (c : MT) (e : ME) : ME := bnd m fun ds => if ds.1.length ≤ lim then bnd (lcL vs f c e ds.2 ds.1) fun acc => ret (.lst acc, true) else bad
def cYes : MT := ret true
def PTst (X : Cx) (T : List (Addr × Str)) (W : WX) (ifs : List Expr) (m : MT) : Prop := PTs X ifs (tT X.K T W m)
theorem ptst_nil {X : Cx} {T : List (Addr × Str)} {W : WX} : PTst X T W [] cYes := ⟨fun pins s σ H Q I ⟨G, O, b, t, S, R, h⟩ => pts_nil.run pins s σ H Q I (Post.here h R)⟩
theorem ptst_one {X : Cx} {T : List (Addr × Str)} {W : WX} {c : Expr} {m : MT} (h : PC X T W c m) : PTst X T W [c] m := pts_one h
section
variable {X : Cx} {T : List (Addr × Str)} {W : WX}
/-- what the runs of a comprehension need -/
theorem lc_sem {σ : L2.St} {H : Hp} {Q : VK} {G : Gh} {O : Addr → Prop} {b : List Addr} {t : Ev} {S : Sto} {mi : MI} {vs is : List Nat} {f : MG} {c : MT} {e : ME} (hsub : ∀ i ∈ is, i ∈ vs) (R : Rel X.K T G O b t S σ H) (h : Post X.K T W G O b σ H (eLc mi vs f c e t S) (KD X.K G σ Q)) :
    tLc (wOf X.K T W mi) (gOf X.K T is f) (tT X.K T W0 c) (tD X.K T W0 e) vs σ H Q := by
  refine ⟨G, O, b, t, S, R, (Post.bnd h).imp fun O1 b1 itm t1 S1 H1 R1 hb1 s1 h1 J hJ D hD => ?_⟩
  obtain ⟨ds, l⟩ := itm
  have h1 : Post X.K T W G O1 b1 σ H1 ((if ds.length ≤ lim then bnd (lcL vs f c e l ds) fun acc => ret (.lst acc, true) else bad) t1 S1) (KD X.K G σ Q) := h1
  have hJ : Wk X.K J H1 O1 b1 ds l := hJ
  refine Classical.byCases (p := ds.length ≤ lim) (fun cl => ?_) fun cl => by rw [if_neg cl] at h1; exact h1.elim
  rw [if_pos cl] at h1
  -- the new list
  obtain ⟨R2, s2⟩ := R1.newL (o := .lst []) hD nt_lst
  have tm2 := R1.tmpOf (d := .lst []) hD nt_lst ⟨[], upd_same, rfl⟩
  have hq : ∀ q ∈ G.tm, q.1 ≠ D := tm2.nq
  have fin : ∀ (O' : Addr → Prop) (b' : List Addr) (acc : List TD.D) (t' : Ev) (S' : Sto) (H' : Hp) (xs : List V), lcGo vs f c e l ds [] (clr vs t1) S1 = .ok acc t' S' → Rel X.K T { G with tm := (D, .lst xs) :: G.tm } O' b' t' S' (L2.wipe σ vs) H' → b1 <+: b' → Stays H1 O1 H' O' → Ats X.K H' O' b' acc xs → Q (.ref D) H' := by
    intro O' b' acc t' S' H' xs eg R' hb' s' ha
    obtain ⟨R3, e3, tm3⟩ := R'.pop hq
    unfold lcL bnd at h1
    simp only [eg] at h1
    have R4 := R1.back R3 s' hb'
    refine h1 H' O' b' R4 hb' s' _ (.inr ⟨rfl, D, rfl, ?_⟩)
    have z := tm3 (.lst acc) ⟨xs, e3, ha⟩
    refine ⟨z.o, z.own, z.fr, fun i q w hqD => ?_, z.nb, z.nq⟩
    obtain ⟨⟨d, e1⟩, e2⟩ := w
    rcases back_get e1 with ⟨_, h2⟩ | ⟨h1', h2⟩
    · cases ht : t1[i]? with
      | none => rw [ht] at h2; cases h2
      | some s => cases s <;> (rw [ht] at h2; cases h2)
    · exact z.ns i q ⟨⟨d, h2⟩, by rw [wipe_out h1']; exact e2⟩ hqD
  have ok0 : ∃ acc t' S', lcGo vs f c e l ds [] (clr vs t1) S1 = .ok acc t' S' := by
    unfold lcL bnd at h1
    cases eg : lcGo vs f c e l ds [] (clr vs t1) S1 with
    | ok acc t' S' => exact ⟨acc, t', S', rfl⟩
    | ex _ _ _ _ => simp only [eg] at h1; exact h1.elim
    | bad => simp only [eg] at h1; exact h1.elim
  obtain ⟨accF, tF, SF, eF⟩ := ok0
  refine ⟨fun i n H => n = ds.length - i ∧ i ≤ ds.length ∧ ∃ O' b' t' S' acc xs, Rel X.K T { G with tm := (D, .lst xs) :: G.tm } O' b' t' S' (L2.wipe σ vs) H ∧ b1 <+: b' ∧ Stays H1 O1 H O' ∧ Ats X.K H O' b' acc xs ∧ acc.length ≤ i ∧ lcGo vs f c e l (ds.drop i) acc t' S' = .ok accF tF SF,
    ⟨_, rfl, Nat.zero_le _, _, b1, _, S1, [], [], (R2.push tm2 upd_same nt_lst).wipe vs, List.prefix_refl _, s2, rfl, Nat.zero_le _, eF⟩, ?_⟩
  rintro i n H2 ⟨rfl, hle, O2, b2, t2, S2, acc, xs, R3, hb2, s3, ha, hal, eg⟩
  by_cases hlt : i < ds.length
  · rw [List.drop_eq_getElem_cons hlt] at eg
    have eg : (if ancB l S2 = true then bnd (asg f ds[i]) (fun _ => bnd c fun x => if x = true then eb e fun y => fun t S => lcGo vs f c e l (ds.drop (i + 1)) (acc ++ [y]) (clr vs t) S else fun t S => lcGo vs f c e l (ds.drop (i + 1)) acc (clr vs t) S) t2 S2 else .bad) = .ok accF tF SF := eg
    refine Classical.byCases (p := ancB l S2 = true) (fun anc => ?_) fun anc => by rw [if_neg anc] at eg; cases eg
    rw [if_pos anc] at eg
    obtain ⟨w1, w2⟩ := hJ i H2 O2 b2 s3 hb2 (anc_at R3 anc)
    obtain ⟨g1, g2⟩ := w2 ds[i] (by simp [hlt])
    refine .inr ⟨g1, fun H4 => ∃ O' b' t' S' acc xs, Rel X.K T { G with tm := (D, .lst xs) :: G.tm } O' b' t' S' (L2.wipe σ vs) H4 ∧ b1 <+: b' ∧ Stays H1 O1 H4 O' ∧ Ats X.K H4 O' b' acc xs ∧ acc.length ≤ i + 1 ∧ lcGo vs f c e l (ds.drop (i + 1)) acc t' S' = .ok accF tF SF,
      fun H4 q => ⟨ds.length - (i + 1), by omega, rfl, hlt, q⟩, fun x H3 y => ?_⟩
    have key : ∀ (Rx : Rel X.K T { G with tm := (D, .lst xs) :: G.tm } O2 b2 t2 S2 (L2.wipe σ vs) H3) (sx : Stays H2 O2 H3 O2) (hx : At X.K H3 O2 b2 ds[i] x), gOf X.K T is f x (L2.wipe σ vs) H3 fun σ2 H4 => L2.wipe σ2 vs = L2.wipe σ vs ∧ tT X.K T W0 c σ2 H4 fun b H5 =>
        if b = true then tD X.K T W0 e σ2 H5 fun y H6 => ∃ acc, H6 D = some (.lst acc) ∧ acc.length < sizeLine ∧ (fun H4 => ∃ O' b' t' S' acc xs, Rel X.K T { G with tm := (D, .lst xs) :: G.tm } O' b' t' S' (L2.wipe σ vs) H4 ∧ b1 <+: b' ∧ Stays H1 O1 H4 O' ∧ Ats X.K H4 O' b' acc xs ∧ acc.length ≤ i + 1 ∧ lcGo vs f c e l (ds.drop (i + 1)) acc t' S' = .ok accF tF SF) (upd H6 D (.lst (acc ++ [y])))
        else (fun H4 => ∃ O' b' t' S' acc xs, Rel X.K T { G with tm := (D, .lst xs) :: G.tm } O' b' t' S' (L2.wipe σ vs) H4 ∧ b1 <+: b' ∧ Stays H1 O1 H4 O' ∧ Ats X.K H4 O' b' acc xs ∧ acc.length ≤ i + 1 ∧ lcGo vs f c e l (ds.drop (i + 1)) acc t' S' = .ok accF tF SF) H5 := by
      intro Rx sx hx
      have eg' : bnd (asg f ds[i]) (fun _ => bnd c fun x => if x = true then eb e fun y => fun t S => lcGo vs f c e l (ds.drop (i + 1)) (acc ++ [y]) (clr vs t) S else fun t S => lcGo vs f c e l (ds.drop (i + 1)) acc (clr vs t) S) t2 S2 = .ok accF tF SF := eg
      refine ⟨_, O2, b2, t2, S2, _, Rx, hx, ?_⟩
      unfold bnd asg at eg'
      cases ef : f ds[i] t2 with
      | none => simp only [ef] at eg'; cases eg'
      | some t3 =>
        simp only [ef] at eg'
        intro σ2 R4 hl2 he2
        have ew : L2.wipe σ2 vs = L2.wipe σ vs := by
          have : L2.wipe σ2 vs = L2.wipe (L2.wipe σ vs) vs := wipe_eq hl2 fun j hj => he2 j fun z => hj (hsub j z)
          rw [this]
          exact wipe_eq (wipe_length σ vs) fun j hj => wipe_out hj
        refine ⟨ew, _, O2, b2, t3, S2, R4, ?_⟩
        cases ec : c t3 S2 with
        | bad => simp only [ec] at eg'; cases eg'
        | ex _ _ _ _ => simp only [ec] at eg'; cases eg'
        | ok x4 t4 S4 =>
          simp only [ec] at eg'
          intro H5 O5 b5 R5 hb5 s5
          cases x4 with
          | false =>
            rw [if_neg Bool.false_ne_true] at eg' ⊢
            have R6 := R5.wipe vs
            rw [ew] at R6
            exact ⟨O5, b5, _, S4, acc, xs, R6, hb2.trans hb5, (s3.trans sx).trans s5, ha.mono (sx.trans s5) hb5, Nat.le_succ_of_le hal, eg'⟩
          | true =>
            rw [if_pos rfl] at eg' ⊢
            refine ⟨_, O5, b5, t4, S4, R5, ?_⟩
            have eg2 : bnd e (fun x => fun t S => lcGo vs f c e l (ds.drop (i + 1)) (acc ++ [x.1]) (clr vs t) S) t4 S4 = .ok accF tF SF := eg'
            unfold bnd at eg2
            cases ee : e t4 S4 with
            | bad => simp only [ee] at eg2; cases eg2
            | ex _ _ _ _ => simp only [ee] at eg2; cases eg2
            | ok x6 t6 S6 =>
              simp only [ee] at eg2
              intro H6 O6 b6 R6 hb6 s6 v hv
              obtain ⟨O7, R7, s7, a7⟩ := R6.share hv
              obtain ⟨R8, e8, tm8⟩ := R7.pop hq
              have ha7 := ha.mono ((sx.trans s5).trans (s6.trans s7)) (hb5.trans hb6)
              have hxl := ha7.length
              refine ⟨xs, e8, by rw [hxl]; exact Nat.lt_of_le_of_lt hal (Nat.lt_of_lt_of_le hlt (Nat.le_trans cl (Nat.le_of_lt lim_lt))), ?_⟩
              have tm9 := tm8 (.lst acc) ⟨xs, e8, ha7⟩
              obtain ⟨R10, s10, tm10⟩ := R8.mutT (d' := .lst (acc ++ [x6.1])) (o := .lst (xs ++ [v])) tm9 nt_lst fun s => ⟨_, upd_same, (ha7.mono s (List.prefix_refl _)).append (Ats.one (a7.mono s (List.prefix_refl _)))⟩
              have R11 := (R10.push tm10 upd_same nt_lst).wipe vs
              rw [ew] at R11
              obtain ⟨xs', e', q'⟩ := tm10.own
              rw [upd_same] at e'
              cases e'
              exact ⟨O7, b6, _, S6, acc ++ [x6.1], xs ++ [v], R11, (hb2.trans hb5).trans hb6, ((((s3.trans sx).trans s5).trans s6).trans s7).trans s10, q', by rw [List.length_append]; exact Nat.succ_le_succ hal, eg2⟩
    rcases g2 x H3 y with ⟨e1, hx⟩ | ⟨q, o, hq', hn, e1, hx⟩
    · subst e1; exact key R3 (Stays.refl _ _) hx
    · subst e1
      obtain ⟨Rx, sx⟩ := R3.new hq' hn
      exact key Rx sx (hx fun a z => let ⟨u, e, _⟩ := R3.ot a z; ⟨u, e⟩)
  · have e : i = ds.length := by omega
    subst e
    rw [List.drop_length] at eg
    have eg : (if ancB l S2 = true then .ok acc t2 S2 else .bad) = TD.R.ok accF tF SF := eg
    refine Classical.byCases (p := ancB l S2 = true) (fun anc => ?_) fun anc => by rw [if_neg anc] at eg; cases eg
    rw [if_pos anc] at eg
    cases eg
    exact .inl ⟨(hJ ds.length H2 O2 b2 s3 hb2 (anc_at R3 anc)).1 rfl, fin O2 b2 _ _ _ H2 xs eF R3 hb2 s3 ha⟩
theorem pd_lc {elt tg iter : Expr} {ifs : List Expr} {scope : Scope} {own : List (Str × Nat)} {pos : Pos} {mi : MI} {is : List Nat} {f : MG} {c : MT} {e : ME} (hc : X.calm = true) (hN : X.N.Nodup) (hi : PIt X T W tg iter mi) (ok : BlkOk X.N X.env.scope scope own)
    (hsub : ∀ i ∈ is, i ∈ own.map (·.2))
    (hg : ∀ (s : Shared) (H : Hp) (C : Addr) (cl : List (Str × Addr)) (fp : List Addr), PGt (X.blk s H scope (compEnvC scope cl C X.env) fp) T tg is f) (ht : ∀ (s : Shared) (H : Hp) (C : Addr) (cl : List (Str × Addr)) (fp : List Addr), PTst (X.blk s H scope (compEnvC scope cl C X.env) fp) T W0 ifs c)
    (he : ∀ (s : Shared) (H : Hp) (C : Addr) (cl : List (Str × Addr)) (fp : List Addr), PD (X.blk s H scope (compEnvC scope cl C X.env) fp) T W0 elt e) (hs : ∀ x, foldedSetIterable iter X.env x = pure x := by intro _; rfl) :
    PD X T W (.ListComp elt [⟨tg, iter, ifs, 0⟩] scope pos) (eLc mi (own.map (·.2)) f c e) :=
  PE.imp' (pe_lc (tt := tT X.K T W0 c) (te := tD X.K T W0 e) (g := gOf X.K T is f) hc hN (pit_can hi) ok (fun s H C cl fp => pgt_can (hg s H C cl fp)) ht he hs) fun σ H Q ⟨G, O, b, t, S, R, h⟩ => lc_sem hsub R h
theorem pst_setLc {i : Nat} {y : Str} {py spos : Pos} {elt tg iter : Expr} {ifs : List Expr} {scope : Scope} {own : List (Str × Nat)} {pos : Pos} {mi : MI} {is : List Nat} {f : MG} {c : MT} {e : ME} (hc : X.calm = true) (hN : X.N.Nodup) (hy : X.N[i]? = some y) (hyl : X.env.scope.names.lookup y = some .local)
    (hsw : swapsWith (.ListComp elt [⟨tg, iter, ifs, 0⟩] scope pos) (some (.Name y py)) spos.line X.env = pure true) (hi : PIt X T W tg iter mi) (ok : BlkOk X.N X.env.scope scope own)
    (hsub : ∀ i ∈ is, i ∈ own.map (·.2))
    (hg : ∀ (s : Shared) (H : Hp) (C : Addr) (cl : List (Str × Addr)) (fp : List Addr), PGt (X.blk s H scope (compEnvC scope cl C X.env) fp) T tg is f) (ht : ∀ (s : Shared) (H : Hp) (C : Addr) (cl : List (Str × Addr)) (fp : List Addr), PTst (X.blk s H scope (compEnvC scope cl C X.env) fp) T W0 ifs c)
    (he : ∀ (s : Shared) (H : Hp) (C : Addr) (cl : List (Str × Addr)) (fp : List Addr), PD (X.blk s H scope (compEnvC scope cl C X.env) fp) T W0 elt e) (hs : ∀ x, foldedSetIterable iter X.env x = pure x := by intro _; rfl) :
    PSt X T W (.Assign [.Name y py] (.ListComp elt [⟨tg, iter, ifs, 0⟩] scope pos) spos) (sSet i (eLc mi (own.map (·.2)) f c e)) := by
  refine PS.imp' (ps_setLc (tt := tT X.K T W0 c) (te := tD X.K T W0 e) (g := gOf X.K T is f) hc hN hy hyl hsw (pit_can hi) ok (fun s H C cl fp => pgt_can (hg s H C cl fp)) ht he hs) fun Dn σ H ⟨G, O, b, t, S, R, h⟩ => ?_
  refine lc_sem hsub R ?_
  exact (PostS.bnd (σ := σ) h).imp fun O' b' x t' S' H' R' hb hs h' v hv => h' _ H' O' b' (set_end R' hv) (List.prefix_refl _) (Stays.refl _ _)

/-! ### while -/
def wloop : Nat → MT → MS → MS
  | 0, _, _ => bad
  | n + 1, c, body => bnd c fun x => if x = true then bnd body fun fl => match fl with
      | .bk => ret .nx
      | .rt d f => ret (.rt d f)
      | _ => wloop n c body
    else ret .nx
def sWhile (fu : Ev → Sto → Nat) (c : MT) (body : MS) : MS := fun t S => wloop (fu t S) c body t S
theorem pst_while {pos : Pos} {c : Expr} {body : List Stmt} {mc : MT} {mb : MS} (fu : Ev → Sto → Nat) (hp : PassesOwn (model X.prog X.w) X.A X.env X.xe) (hc : PC X T W c mc) (hb : PBk X T W body mb) : PSt X T W (.While c body [] pos) (sWhile fu mc mb) := by
  refine PS.imp' (ps_while hp hc hb) fun Dn σ H ⟨G, O, b, t, S, R, h⟩ => ?_
  refine ⟨fun n σ H => ∃ O b t S, Rel X.K T G O b t S σ H ∧ PostS X.K T W G O b H (wloop n mc mb t S) Dn, ⟨_, O, b, t, S, R, h⟩, ?_⟩
  rintro m σ1 H1 ⟨O1, b1, t1, S1, R1, h1⟩
  cases m with
  | zero => exact h1.elim
  | succ n =>
    have h1 : PostS X.K T W G O1 b1 H1 (bnd mc (fun x => if x = true then bnd mb fun fl => match fl with
      | .bk => ret .nx
      | .rt d f => ret (.rt d f)
      | _ => wloop n mc mb
    else ret .nx) t1 S1) Dn := h1
    refine ⟨G, O1, b1, t1, S1, R1, (PostS.bnd (σ := σ1) h1).imp fun O2 b2 x t2 S2 H2 R2 hb2 s2 h2 => ?_⟩
    cases x with
    | false =>
      rw [if_neg Bool.false_ne_true] at h2 ⊢
      exact PostS.here (W := W) R2 h2
    | true =>
      rw [if_pos rfl] at h2 ⊢
      refine ⟨fun σ' H' => ∃ O b t S, Rel X.K T G O b t S σ' H' ∧ PostS X.K T W G O b H' (wloop n mc mb t S) Dn, fun σ' H' q => ⟨n, Nat.lt_succ_self n, q⟩, G, O2, b2, t2, S2, R2, ?_⟩
      unfold bnd at h2
      revert h2
      cases mb t2 S2 with
      | ok fl t3 S3 =>
        intro h2
        cases fl with
        | nx => exact fun σ5 H5 O5 b5 R5 hb5 s5 => ⟨O5, b5, t3, S3, R5, PostS.later h2 hb5 s5⟩
        | ct => exact fun σ5 H5 O5 b5 R5 hb5 s5 => ⟨O5, b5, t3, S3, R5, PostS.later h2 hb5 s5⟩
        | bk => exact fun σ5 H5 O5 b5 R5 hb5 s5 => h2 σ5 H5 O5 b5 R5 hb5 s5
        | rt d ff => exact h2
      | ex cc fs t3 S3 => exact fun h2 => h2
      | bad => exact fun h2 => h2
end
end TD

set_option Elab.async false
set_option linter.all false
set_option maxRecDepth 100000
set_option maxHeartbeats 1000000
set_option autoImplicit false
namespace TD
open PySem PySem.Spec PyProof.Rows L2

/-! ### containers that are written: a slot's own, a box's -/
section
variable {K : PySem.W.Frag} {T : List (Addr × Str)} {G : Gh} {O O' : Addr → Prop} {b b' : List Addr} {t t' t2 : Ev} {S S' : Sto} {σ σ' : L2.St} {H H' : Hp}
/-- a box's container is written -/
theorem Rel.mutB (R : Rel K T G O b t S σ H) {n : Nat} {p : Addr} {d d' : D} {o : HO} (hS : S[n]? = some d) (hb : b[n]? = some p) (hn : nt o) (hd : Stays H O (upd H p o) O → Own K (upd H p o) O b d' p) :
    Rel K T G O b t (S.set n d') σ (upd H p o) ∧ Stays H O (upd H p o) O := by
  obtain ⟨hO, own⟩ := R.st n d p hS hb
  have hm : p ∈ b := List.mem_of_getElem? hb
  obtain ⟨u0, ep, np⟩ := own.there
  have hs : Stays H O (upd H p o) O := fun a u e n q => ⟨by rw [upd_ne (fun z : a = p => q (by rw [z]; exact hO))]; exact e, q⟩
  have oth : ∀ q, q ≠ p → ∀ u, H q = some u → nt u → upd H p o q = some u := fun q z u e _ => by rw [upd_ne z]; exact e
  refine ⟨⟨R.len, fun i s e => ?_, R.inj, R.nb, R.fr, by rw [List.length_set]; exact R.bl, fun m d1 q e1 e2 => ?_, R.bnd, R.bfr, fun a u e n z => ?_, fun a e => ?_, R.pre, R.o0, R.o0t, fun a z => ?_, R.ofr, R.b0, ?_, fun q hq => ?_⟩, hs⟩
  · obtain ⟨v, e1, q⟩ := R.sl i s e
    refine ⟨v, e1, ?_⟩
    cases s with
    | no => trivial
    | sh d => obtain ⟨v, e2, q⟩ := q; exact ⟨v, e2, q.mono hs (List.prefix_refl _)⟩
    | ow d =>
      obtain ⟨r, e2, h1, q⟩ := q
      exact ⟨r, e2, h1, q.mono hs (List.prefix_refl _) (oth r fun z => R.nb i r ⟨⟨d, e⟩, by rw [e1, e2]⟩ (z ▸ hm))⟩
  · by_cases hmn : m = n
    · subst hmn
      rw [hb] at e2
      cases e2
      have hl : m < S.length := (List.getElem?_eq_some_iff.mp hS).1
      rw [List.getElem?_set_self hl] at e1
      cases e1
      exact ⟨hO, hd hs⟩
    · rw [List.getElem?_set_ne (Ne.symm hmn)] at e1
      obtain ⟨q1, q2⟩ := R.st m d1 q e1 e2
      refine ⟨q1, q2.mono hs (List.prefix_refl _) (oth q fun z => hmn ?_)⟩
      subst z
      exact (List.getElem?_inj (List.getElem?_eq_some_iff.mp e2).1 R.bnd).mp (e2.trans hb.symm)
  · refine oth a (fun q => ?_) u (R.ext a u e n z) n
    rw [q] at z e
    rcases R.bfr p hm with h | h
    · exact z h
    · exact h u e n
  · refine R.grow a fun u eu nu => ?_
    by_cases z : a = p
    · rw [z] at e; exact e o upd_same hn
    · exact e u (by rw [upd_ne z]; exact eu) nu
  · obtain ⟨u, e, n⟩ := R.ot a z
    by_cases q : a = p
    · rw [q, upd_same]; exact ⟨o, rfl, hn⟩
    · exact ⟨u, oth a q u e n, n⟩
  · intro x hx
    obtain ⟨ps, h1, h2, h3⟩ := R.tabs x hx
    have np1 : x.1 ≠ p := fun z => by
      rw [z, ep] at h1
      exact np ps (Option.some.inj h1)
    refine ⟨ps, by rw [upd_ne np1]; exact h1, h2, fun pos cv hc => ?_⟩
    obtain ⟨c, e1, e2⟩ := h3 pos cv hc
    have nc : c ≠ p := fun z => by
      rw [z] at e2
      cases d with
      | lst ds => obtain ⟨xs, e, _⟩ := own; rw [e] at e2; cases e2
      | dic kvs => obtain ⟨xs, e, _⟩ := own; rw [e] at e2; cases e2
      | dct kvs => obtain ⟨xs, e, _⟩ := own; rw [e] at e2; cases e2
      | ins c fs => obtain ⟨dx, xs, e, _⟩ := own; rw [e] at e2; cases e2
      | _ => exact own.elim
    exact ⟨c, e1, by rw [upd_ne nc]; exact e2⟩
  · obtain ⟨h1, h2, h3, h4, h5, h6⟩ := R.tmp q hq
    exact ⟨oth q.1 (fun z => h5 (by rw [z]; exact hm)) _ h1 h2, h2, h3, h4, h5, h6⟩
/-- a container of nobody else's becomes a box -/
theorem Rel.mkBox (R : Rel K T G O b t S σ H) {p : Addr} {d : D} (h : Tmp K G O b t σ H d p) : Rel K T G O (b ++ [p]) t (S ++ [d]) σ H := by
  have hp : b <+: b ++ [p] := List.prefix_append _ _
  have hs := Stays.refl H O
  refine ⟨R.len, fun i s e => ?_, R.inj, fun i q w z => ?_, R.fr, by rw [List.length_append, List.length_append, R.bl]; rfl, fun m d1 q e1 e2 => ?_, ?_, fun q hq => ?_, R.ext, R.grow, R.pre.trans hp, R.o0, R.o0t, R.ot, R.ofr, R.b0, R.tabs, fun q hq => ?_⟩
  · obtain ⟨v, e1, q⟩ := R.sl i s e
    refine ⟨v, e1, ?_⟩
    cases s with
    | no => trivial
    | sh d => obtain ⟨v, e2, q⟩ := q; exact ⟨v, e2, q.mono hs hp⟩
    | ow d => obtain ⟨r, e2, h1, q⟩ := q; exact ⟨r, e2, h1, q.mono hs hp fun _ z _ => z⟩
  · rcases List.mem_append.mp z with z | z
    · exact R.nb i q w z
    · exact h.ns i q w (List.mem_singleton.mp z)
  · by_cases hm : m < b.length
    · rw [List.getElem?_append_left hm] at e2
      rw [List.getElem?_append_left (by rw [← R.bl]; exact hm)] at e1
      obtain ⟨q1, q2⟩ := R.st m d1 q e1 e2
      exact ⟨q1, q2.mono hs hp fun _ z _ => z⟩
    · rw [List.getElem?_append_right (by omega)] at e2
      rw [List.getElem?_append_right (by rw [← R.bl]; omega)] at e1
      have hz : m - b.length = 0 := by
        have := (List.getElem?_eq_some_iff.mp e2).1
        rw [List.length_singleton] at this; omega
      rw [hz] at e2
      rw [← R.bl, hz] at e1
      cases e1; cases e2
      exact ⟨h.o, h.own.mono hs hp fun _ z _ => z⟩
  · rw [List.nodup_append]
    exact ⟨R.bnd, by simp, fun a ha c hc => by rw [List.mem_singleton.mp hc]; exact fun z => h.nb (z ▸ ha)⟩
  · rcases List.mem_append.mp hq with z | z
    · exact R.bfr q z
    · rw [List.mem_singleton.mp z]; exact .inr h.fr
  · obtain ⟨h1, h2, h3, h4, h5, h6⟩ := R.tmp q hq
    refine ⟨h1, h2, h3, h4, fun z => ?_, h6⟩
    rcases List.mem_append.mp z with z | z
    · exact h5 z
    · exact h.nq q hq (List.mem_singleton.mp z)
end
def eBox (m : ME) : ME := bnd m fun x => if x.2 = true then fun t S => .ok (.box S.length, false) t (S ++ [x.1]) else bad
section
variable {X : Cx} {T : List (Addr × Str)} {W : WX} {e o : Expr} {es : List Expr} {pos : Pos}
theorem pd_box {m : ME} (h : PD X T W e m) : PD X T W e (eBox m) := by
  refine PE.imp' h fun σ H Q ⟨G, O, b, t, S, R, h⟩ => ⟨G, O, b, t, S, R, (Post.bnd h).imp fun O' b' x t' S' H' R' hb hs h' v hv => ?_⟩
  rcases hv with ⟨e, hv⟩ | ⟨e, p, ev, hv⟩
  · rw [e, if_neg Bool.false_ne_true] at h'; exact h'.elim
  · rw [e, if_pos rfl] at h'
    subst ev
    exact h' H' O' _ (R'.mkBox hv) (List.prefix_append _ _) (Stays.refl _ _) _ (.inl ⟨rfl, p, rfl, by rw [← R'.bl]; simp⟩)

/-! ### methods that write -/
abbrev FM := List D → D → Option (D × D)
def MtD (X : Cx) (T : List (Addr × Str)) (id : String) (f : FM) : Prop :=
  ∃ r, MtR X id r ∧ ∀ {σ : L2.St} {H : Hp} {Q : VK} {G : Gh} {O : Addr → Prop} {b : List Addr} {t : Ev} {S : Sto} {p : Addr} {ds : List D} {d d' y : D} {vs : List V}, Rel X.K T G O b t S σ H → O p → Own X.K H O b d p → Ats X.K H O b ds vs → f ds d = some (d', y) →
    (∀ (o : HO) (w : V), nt o → (Stays H O (upd H p o) O → Own X.K (upd H p o) O b d' p ∧ At X.K (upd H p o) O b y w) → Q w (upd H p o)) → r (.ref p) vs H Q
def fApp : FM
  | [d], .lst ds => if ds.length < lim then some (.lst (ds ++ [d]), .non) else none
  | _, _ => none
def fExt : FM
  | [.lst es], .lst ds => if ds.length + es.length ≤ lim then some (.lst (ds ++ es), .non) else none
  | _, _ => none
def fPop : FM
  | [], .lst ds => match ds[ds.length - 1]? with
    | some d => some (.lst ds.dropLast, d)
    | none => none
  | _, _ => none
def fPopAt : FM
  | [.int i], .lst ds => if -1000000000 ≤ i ∧ i ≤ 1000000000 then match seqIndex? i ds.length with
      | some k => match ds[k]? with
        | some d => some (.lst (ds.eraseIdx k), d)
        | none => none
      | none => none
    else none
  | _, _ => none
theorem Ats.dropLast {K : PySem.W.Frag} {H : Hp} {O : Addr → Prop} {b : List Addr} {ds : List D} {vs : List V} (h : Ats K H O b ds vs) : Ats K H O b ds.dropLast vs.dropLast := by
  rw [List.dropLast_eq_take, List.dropLast_eq_take, h.length]
  exact h.take _
theorem Ats.erase {K : PySem.W.Frag} {H : Hp} {O : Addr → Prop} {b : List Addr} {ds : List D} {vs : List V} (h : Ats K H O b ds vs) (k : Nat) : Ats K H O b (ds.eraseIdx k) (vs.eraseIdx k) := by
  rw [List.eraseIdx_eq_take_drop_succ, List.eraseIdx_eq_take_drop_succ]
  exact (h.take _).append (h.drop _)
theorem md_app : MtD X T "list.append" fApp := by
  refine ⟨_, mt_append, fun {σ H Q G O b t S p ds d d' y vs} R hO own hv hf k => ?_⟩
  unfold fApp at hf
  split at hf
  · rename_i x zs
    by_cases c : zs.length < lim
    · rw [if_pos c] at hf
      cases hf
      obtain ⟨xs, e, q⟩ := own
      obtain ⟨v, ys, ev, hx, e2⟩ := hv
      subst ev
      rw [show ys = [] from e2]
      refine ⟨p, xs, v, rfl, rfl, e, by rw [q.length]; exact Nat.lt_trans c lim_lt, k _ _ nt_lst fun s => ⟨⟨_, upd_same, (q.mono s (List.prefix_refl _)).append (Ats.one (hx.mono s (List.prefix_refl _)))⟩, rfl⟩⟩
    · rw [if_neg c] at hf; cases hf
  · cases hf
theorem md_ext : MtD X T "list.extend" fExt := by
  refine ⟨_, mt_extend, fun {σ H Q G O b t S p ds d d' y vs} R hO own hv hf k => ?_⟩
  unfold fExt at hf
  split at hf
  · rename_i x zs
    by_cases c : zs.length + x.length ≤ lim
    · rw [if_pos c] at hf
      cases hf
      obtain ⟨xs, e, q⟩ := own
      obtain ⟨v, ys, ev, ⟨a, us, ea, ho, r, hx⟩, e2⟩ := hv
      subst ev
      rw [show ys = [] from e2, ea]
      have := lim_lt
      refine ⟨p, a, xs, us, rfl, rfl, e, r, by rw [q.length, hx.length]; omega, k _ _ nt_lst fun s => ⟨⟨_, upd_same, (q.mono s (List.prefix_refl _)).append (hx.mono s (List.prefix_refl _))⟩, rfl⟩⟩
    · rw [if_neg c] at hf; cases hf
  · cases hf
theorem md_pop : MtD X T "list.pop" fPop := by
  refine ⟨_, mt_pop, fun {σ H Q G O b t S p ds d d' y vs} R hO own hv hf k => ?_⟩
  unfold fPop at hf
  split at hf
  · rename_i zs
    cases e1 : zs[zs.length - 1]? with
    | none => simp only [e1] at hf; cases hf
    | some z =>
      simp only [e1] at hf
      cases hf
      obtain ⟨xs, e, q⟩ := own
      obtain ⟨w, h1, h2⟩ := q.get e1
      refine ⟨p, xs, w, rfl, hv, e, by rw [q.length]; exact h1, k _ _ nt_lst fun s => ⟨⟨_, upd_same, (q.mono s (List.prefix_refl _)).dropLast⟩, h2.mono s (List.prefix_refl _)⟩⟩
  · cases hf
theorem md_popAt : MtD X T "list.pop" fPopAt := by
  refine ⟨_, mt_popAt, fun {σ H Q G O b t S p ds d d' y vs} R hO own hv hf k => ?_⟩
  unfold fPopAt at hf
  split at hf
  · rename_i i zs
    by_cases c : -1000000000 ≤ i ∧ i ≤ 1000000000
    · rw [if_pos c] at hf
      cases e0 : seqIndex? i zs.length with
      | none => simp only [e0] at hf; cases hf
      | some j =>
        simp only [e0] at hf
        cases e1 : zs[j]? with
        | none => simp only [e1] at hf; cases hf
        | some z =>
          simp only [e1] at hf
          cases hf
          obtain ⟨xs, e, q⟩ := own
          obtain ⟨w, h1, h2⟩ := q.get e1
          obtain ⟨v, ys, ev, hx, e2⟩ := hv
          subst ev
          rw [show ys = [] from e2, show v = _ from hx]
          refine ⟨p, xs, i, j, w, rfl, rfl, e, by omega, by omega, by rw [q.length]; exact e0, h1, k _ _ nt_lst fun s => ⟨⟨_, upd_same, (q.mono s (List.prefix_refl _)).erase _⟩, h2.mono s (List.prefix_refl _)⟩⟩
    · rw [if_neg c] at hf; cases hf
  · cases hf
def tyD : String → D → Bool
  | "list", .lst _ => true
  | "dict", .dic _ => true
  | "dict", .dct _ => true
  | _, _ => false
theorem tyD_own {K : PySem.W.Frag} {H : Hp} {O : Addr → Prop} {b : List Addr} {ty : String} {d : D} {p : Addr} (h : tyD ty d = true) (own : Own K H O b d p) : tyV K ty (.ref p) H := by
  unfold tyD at h
  split at h
  · obtain ⟨xs, e, _⟩ := own
    exact .inl ⟨rfl, xs, .inl (.inl e)⟩
  · obtain ⟨xs, e, _⟩ := own; exact .inr (.inr (.inl ⟨rfl, .inl ⟨xs, e⟩⟩))
  · obtain ⟨xs, e, _⟩ := own; exact .inr (.inr (.inl ⟨rfl, .inr ⟨xs, e⟩⟩))
  · cases h
end
end TD

set_option Elab.async false
set_option linter.all false
set_option maxRecDepth 100000
set_option maxHeartbeats 1000000
set_option autoImplicit false
namespace TD
open PySem PySem.Spec PyProof.Rows L2

/-! ### methods that write, at a slot, at a box -/
def wrS (i : Nat) (f : FM) (ds : List D) : ME := fun t S => match t[i]? with
  | some (.ow d) => match f ds d with
    | some (d', y) => .ok (y, false) (t.set i (.ow d')) S
    | none => .bad
  | _ => .bad
def mSlot (ty : String) (i : Nat) (ma : MA) (f : FM) : ME := fun t S => match t[i]? with
  | some (.ow d0) => if tyD ty d0 = true then bnd ma (wrS i f) t S else .bad
  | _ => .bad
def wrB (n : Nat) (f : FM) (ds : List D) : ME := fun t S => match S[n]? with
  | some d => match f ds d with
    | some (d', y) => .ok (y, false) t (S.set n d')
    | none => .bad
  | none => .bad
def atB (n : Nat) (ty : String) (ma : MA) (f : FM) : ME := fun t S => match S[n]? with
  | some d0 => if tyD ty d0 = true then bnd ma (wrB n f) t S else .bad
  | none => .bad
def mBox (ty : String) (m : ME) (ma : MA) (f : FM) : ME := eb m fun x => match x with
  | .box n => atB n ty ma f
  | _ => bad
section
variable {X : Cx} {T : List (Addr × Str)} {W : WX} {e o a c : Expr} {es : List Expr} {pos apos cpos : Pos} {ty id : String} {name : Str}
theorem wrS_end {r : V → List V → Hp → VK → Prop} {f : FM} {i : Nat} {σ : L2.St} {H : Hp} {Q : VK} {G : Gh} {O : Addr → Prop} {b : List Addr} {t : Ev} {S : Sto} {ds : List D} {vs : List V} {v : V}
    (h2 : ∀ {σ : L2.St} {H : Hp} {Q : VK} {G : Gh} {O : Addr → Prop} {b : List Addr} {t : Ev} {S : Sto} {p : Addr} {ds : List D} {d d' y : D} {vs : List V}, Rel X.K T G O b t S σ H → O p → Own X.K H O b d p → Ats X.K H O b ds vs → f ds d = some (d', y) →
      (∀ (o : HO) (w : V), nt o → (Stays H O (upd H p o) O → Own X.K (upd H p o) O b d' p ∧ At X.K (upd H p o) O b y w) → Q w (upd H p o)) → r (.ref p) vs H Q)
    (R : Rel X.K T G O b t S σ H) (hv : Ats X.K H O b ds vs) (e1 : σ[i]? = some (some v)) (h : Post X.K T W G O b σ H (wrS i f ds t S) (KD X.K G σ Q)) : r v vs H Q := by
  unfold wrS at h
  split at h
  · rename_i d ht
    split at h
    · rename_i d' y hf
      obtain ⟨p, e2, R1, tm⟩ := R.take ht
      rw [e1] at e2
      cases e2
      refine h2 R tm.o tm.own hv hf fun o w hn k => ?_
      have hs : Stays H O (upd H p o) O := fun a u e n q => ⟨by rw [upd_ne (fun z : a = p => q (by rw [z]; exact tm.o))]; exact e, q⟩
      obtain ⟨k1, k2⟩ := k hs
      obtain ⟨R2, s2, tm2⟩ := R1.mutT (d' := d') tm hn fun _ => k1
      have R3 := R2.hold tm2 e1
      rw [List.set_set] at R3
      exact h _ _ _ R3 (List.prefix_refl _) s2 w (.inl ⟨rfl, k2⟩)
    · exact h.elim
  · exact h.elim
theorem wrB_end {r : V → List V → Hp → VK → Prop} {f : FM} {n : Nat} {σ : L2.St} {H : Hp} {Q : VK} {G : Gh} {O : Addr → Prop} {b : List Addr} {t : Ev} {S : Sto} {ds : List D} {vs : List V} {v : V}
    (h2 : ∀ {σ : L2.St} {H : Hp} {Q : VK} {G : Gh} {O : Addr → Prop} {b : List Addr} {t : Ev} {S : Sto} {p : Addr} {ds : List D} {d d' y : D} {vs : List V}, Rel X.K T G O b t S σ H → O p → Own X.K H O b d p → Ats X.K H O b ds vs → f ds d = some (d', y) →
      (∀ (o : HO) (w : V), nt o → (Stays H O (upd H p o) O → Own X.K (upd H p o) O b d' p ∧ At X.K (upd H p o) O b y w) → Q w (upd H p o)) → r (.ref p) vs H Q)
    (R : Rel X.K T G O b t S σ H) (hv : Ats X.K H O b ds vs) (hb : At X.K H O b (.box n) v) (h : Post X.K T W G O b σ H (wrB n f ds t S) (KD X.K G σ Q)) : r v vs H Q := by
  unfold wrB at h
  split at h
  · rename_i d hS
    split at h
    · rename_i d' y hf
      obtain ⟨p, ev, hp⟩ := hb
      subst ev
      obtain ⟨hO, own⟩ := R.st n d p hS hp
      refine h2 R hO own hv hf fun o w hn k => ?_
      have hs : Stays H O (upd H p o) O := fun a u e n q => ⟨by rw [upd_ne (fun z : a = p => q (by rw [z]; exact hO))]; exact e, q⟩
      obtain ⟨k1, k2⟩ := k hs
      obtain ⟨R2, s2⟩ := R.mutB (d' := d') hS hp hn fun _ => k1
      exact h _ _ _ R2 (List.prefix_refl _) s2 w (.inl ⟨rfl, k2⟩)
    · exact h.elim
  · exact h.elim
/-- x.method(..), x a slot's own -/
theorem pd_mS {ma : MA} {f : FM} {i : Nat} {x : Str} {p1 : Pos} (hd : MtD X T id f) (pa : PlainAttrs ty) (slot : PySem.Slot ty name id) (hty : typeOf (.builtin id) = pure (.type "method_descriptor")) (hN : X.N[i]? = some x) (hv : Vis X.env.scope x) (ha : PAs X T W (e :: es) ma) (hdb : (x == ("__debug__" : Str)) = false := by decide) (hcd : (x == ("__classdict__" : Str)) = false := by decide)
    (hbase : attributeBase (.Name x p1) name X.env (eval (.Name x p1) X.env) = eval (.Name x p1) X.env := by rfl)
    (hfew : ((backTo cpos (starEach (e :: es) X.env)).all (fun x => !x.1) && (backToKw cpos (keywordEach [] X.env)).all (fun x => x.1.isSome)
      && decide ((e :: es).length + ([] : List Keyword).length + (if ([] : List Keyword).isEmpty then 0 else 1) < 30)) = true := by rfl)
    (hline : (apos.endLine == cpos.line) = true := by rfl) (hs : starEach (e :: es) X.env = (false, eval e X.env) :: starEach es X.env := by rfl) (hplain : (backTo cpos (starEach es X.env)).any (·.1) = false := by rfl) :
    PD X T W (.Call (.Attribute (.Name x p1) name apos) (e :: es) [] cpos) (mSlot ty i ma f) := by
  obtain ⟨r, h1, h2⟩ := hd
  refine PE.imp' (pe_bm pa slot hty h1 (pe_var hN hv hdb hcd) ha hbase hfew hline hs hplain) fun σ H Q ⟨G, O, b, t, S, R, h⟩ => ?_
  unfold mSlot at h
  split at h
  · rename_i d0 ht
    by_cases c : tyD ty d0 = true
    · rw [if_pos c] at h
      obtain ⟨oo, e1, p, e2, h3, own⟩ := R.sl i _ ht
      rw [e2] at e1
      exact ⟨V.ref p, e1, tyD_own c own, useA R h fun O1 b1 ds t1 S1 H1 vs R1 hb1 s1 hvs h4 => wrS_end h2 R1 hvs e1 h4⟩
    · rw [if_neg c] at h; exact h.elim
  · exact h.elim
theorem pd_mS0 {f : FM} {i : Nat} {x : Str} {p1 : Pos} (hd : MtD X T id f) (pa : PlainAttrs ty) (slot : PySem.Slot ty name id) (hty : typeOf (.builtin id) = pure (.type "method_descriptor")) (hN : X.N[i]? = some x) (hv : Vis X.env.scope x) (hdb : (x == ("__debug__" : Str)) = false := by decide) (hcd : (x == ("__classdict__" : Str)) = false := by decide)
    (hbase : attributeBase (.Name x p1) name X.env (eval (.Name x p1) X.env) = eval (.Name x p1) X.env := by rfl) (hline : (apos.endLine == cpos.line) = true := by rfl) :
    PD X T W (.Call (.Attribute (.Name x p1) name apos) [] [] cpos) (mSlot ty i aNil f) := by
  obtain ⟨r, h1, h2⟩ := hd
  refine PE.imp' (pe_bm0 pa slot hty h1 (pe_var hN hv hdb hcd) hbase hline) fun σ H Q ⟨G, O, b, t, S, R, h⟩ => ?_
  unfold mSlot at h
  split at h
  · rename_i d0 ht
    by_cases c : tyD ty d0 = true
    · rw [if_pos c] at h
      obtain ⟨oo, e1, p, e2, h3, own⟩ := R.sl i _ ht
      rw [e2] at e1
      exact ⟨V.ref p, e1, tyD_own c own, wrS_end (ds := []) h2 R rfl e1 h⟩
    · rw [if_neg c] at h; exact h.elim
  · exact h.elim
/-- e.method(..), e a box -/
theorem pd_mB {ma : MA} {f : FM} {m : ME} (hd : MtD X T id f) (pa : PlainAttrs ty) (slot : PySem.Slot ty name id) (hty : typeOf (.builtin id) = pure (.type "method_descriptor")) (ho : PD X T W o m) (ha : PAs X T W (e :: es) ma)
    (hbase : attributeBase o name X.env (eval o X.env) = eval o X.env := by rfl)
    (hfew : ((backTo cpos (starEach (e :: es) X.env)).all (fun x => !x.1) && (backToKw cpos (keywordEach [] X.env)).all (fun x => x.1.isSome)
      && decide ((e :: es).length + ([] : List Keyword).length + (if ([] : List Keyword).isEmpty then 0 else 1) < 30)) = true := by rfl)
    (hline : (apos.endLine == cpos.line) = true := by rfl) (hs : starEach (e :: es) X.env = (false, eval e X.env) :: starEach es X.env := by rfl) (hplain : (backTo cpos (starEach es X.env)).any (·.1) = false := by rfl) :
    PD X T W (.Call (.Attribute o name apos) (e :: es) [] cpos) (mBox ty m ma f) := by
  obtain ⟨r, h1, h2⟩ := hd
  refine PE.imp' (pe_bm pa slot hty h1 ho ha hbase hfew hline hs hplain) fun σ H Q ⟨G, O, b, t, S, R, h⟩ => ?_
  refine useD R h fun O0 b0 x t0 S0 H0 v R0 hb0 s0 hv h0 => ?_
  split at h0
  · rename_i n
    unfold atB at h0
    split at h0
    · rename_i d0 hS
      by_cases c : tyD ty d0 = true
      · rw [if_pos c] at h0
        obtain ⟨p, ev, hp⟩ := (_root_.id hv : At _ _ _ _ _ _)
        subst ev
        exact ⟨tyD_own c (R0.st n d0 p hS hp).2, useA R0 h0 fun O1 b1 ds t1 S1 H1 vs R1 hb1 s1 hvs h4 => wrB_end h2 R1 hvs (hv.mono s1 hb1) h4⟩
      · rw [if_neg c] at h0; exact h0.elim
    · exact h0.elim
  · exact h0.elim
theorem pd_mB0 {f : FM} {m : ME} (hd : MtD X T id f) (pa : PlainAttrs ty) (slot : PySem.Slot ty name id) (hty : typeOf (.builtin id) = pure (.type "method_descriptor")) (ho : PD X T W o m)
    (hbase : attributeBase o name X.env (eval o X.env) = eval o X.env := by rfl) (hline : (apos.endLine == cpos.line) = true := by rfl) :
    PD X T W (.Call (.Attribute o name apos) [] [] cpos) (mBox ty m aNil f) := by
  obtain ⟨r, h1, h2⟩ := hd
  refine PE.imp' (pe_bm0 pa slot hty h1 ho hbase hline) fun σ H Q ⟨G, O, b, t, S, R, h⟩ => ?_
  refine useD R h fun O0 b0 x t0 S0 H0 v R0 hb0 s0 hv h0 => ?_
  split at h0
  · rename_i n
    unfold atB at h0
    split at h0
    · rename_i d0 hS
      by_cases c : tyD ty d0 = true
      · rw [if_pos c] at h0
        obtain ⟨p, ev, hp⟩ := (_root_.id hv : At _ _ _ _ _ _)
        subst ev
        exact ⟨tyD_own c (R0.st n d0 p hS hp).2, wrB_end (ds := []) h2 R0 rfl hv h0⟩
      · rw [if_neg c] at h0; exact h0.elim
    · exact h0.elim
  · exact h0.elim

/-! ### o[i] = v, o a box of a list -/
def putB (x k y : D) : MS := match x, k with
  | .box n, .int j => fun t S => match S[n]? with
    | some (.lst ds) => match ixN ds.length j with
      | some q => .ok .nx t (S.set n (.lst (ds.set q y)))
      | none => .bad
    | _ => .bad
  | _, _ => bad
theorem putB_end {σ : L2.St} {H : Hp} {G : Gh} {O : Addr → Prop} {b : List Addr} {t : Ev} {S : Sto} {x k y : D} {vo vi v : V} {Dn : Ends} (R : Rel X.K T G O b t S σ H) (hx : At X.K H O b x vo) (hk : At X.K H O b k vi) (hy : At X.K H O b y v) (h : PostS X.K T W G O b H (putB x k y t S) Dn) : rSetL vo vi v H (Dn.nx σ) := by
  unfold putB at h
  split at h
  · rename_i n j
    split at h
    · rename_i ds hS
      split at h
      · rename_i q hq
        obtain ⟨p, ev, hp⟩ := hx
        subst ev
        rw [show vi = _ from hk]
        obtain ⟨hO, xs, e1, q1⟩ := R.st n _ p hS hp
        refine ⟨p, xs, j, q, rfl, rfl, e1, by rw [q1.length]; exact hq, ?_⟩
        obtain ⟨R10, s10⟩ := R.mutB (d' := .lst (ds.set q y)) (o := .lst (xs.set q v)) hS hp nt_lst fun s => ⟨_, upd_same, (q1.mono s (List.prefix_refl _)).set q (hy.mono s (List.prefix_refl _))⟩
        exact PostS.here (W := W) R10 (PostS.later h (List.prefix_refl _) s10)
      · exact h.elim
    · exact h.elim
  · exact h.elim
def sPutB (mv mo mi : ME) : MS := eb mv fun y => eb mo fun x => eb mi fun k => putB x k y
theorem pst_putB {tpos : Pos} {mv mo mi : ME} (he : PD X T W e mv) (ho : PD X T W o mo) (hi : PD X T W a mi) (hs : swapsWithSole [.Subscript o a tpos] e pos.line X.env = pure false := by rfl) (hw : swappedStores [.Subscript o a tpos] e X.env = pure none := by rfl)
    (h1 : (assignEach [.Subscript o a tpos] X.env).map (·.2) = [assign (.Subscript o a tpos) X.env] := by rfl)
    (ha : ∀ v, assign (.Subscript o a tpos) X.env v = (do
      let ov ← holding [v] (eval o X.env)
      let iv ← holding [v, ov] (eval a X.env)
      standAt tpos
      holding [v, ov, iv] (setItem ov iv v)
      release [v, ov, iv] []) := by intro _; rfl) : PSt X T W (.Assign [.Subscript o a tpos] e pos) (sPutB mv mo mi) := by
  refine PS.imp' (ps_asg he (pg_sub ho hi set_list ha) hs hw h1) fun Dn σ H ⟨G, O, b, t, S, R, h⟩ => ?_
  have h0 := PostS.bnd (σ := σ) h
  refine ⟨G, O, b, t, S, R, h0.imp fun O' b' y t' S' H' R' hb hs h' v hv => ?_⟩
  obtain ⟨O2, R2, s2, a2⟩ := R'.share hv
  have h3 := PostS.bnd (σ := σ) (PostS.later h' (List.prefix_refl _) s2)
  refine ⟨G, O2, b', t', S', R2, h3.imp fun O3 b3 x t3 S3 H3 R3 hb3 s3 h4 vo hvo => ?_⟩
  obtain ⟨O4, R4, s4, a4⟩ := R3.share hvo
  have h5 := PostS.bnd (σ := σ) (PostS.later h4 (List.prefix_refl _) s4)
  refine ⟨G, O4, b3, t3, S3, R4, h5.imp fun O6 b6 k t6 S6 H6 R6 hb6 s6 h7 vi hvi => ?_⟩
  obtain ⟨O8, R8, s8, a8⟩ := R6.share hvi
  exact putB_end R8 ((a4.mono s6 hb6).mono s8 (List.prefix_refl _)) a8 ((((a2.mono s3 hb3).mono s4 (List.prefix_refl _)).mono s6 hb6).mono s8 (List.prefix_refl _)) (PostS.later h7 (List.prefix_refl _) s8)

/-! ### == of what is only looked at -/
theorem toP_dpB {K : PySem.W.Frag} {H : Hp} {O : Addr → Prop} {b : List Addr} {d : D} {v : V} {p : PyData} (h : Bor K H O b d v) (e : toP d = some p) : Dp K H v p := by
  rcases h with h | ⟨a, ev, h⟩
  · exact toP_dp h e
  · subst ev
    cases d with
    | lst ds =>
      obtain ⟨xs, r, q⟩ := h
      obtain ⟨ps, e2, e3⟩ := Option.map_eq_some_iff.mp (show (toPs ds).map PyData.list = some p from e)
      rw [← e3]
      exact .lst (.inl (.inl r)) (toPs_dp q e2)
    | _ => first | exact h.elim | cases e
def dEqP (x y : D) : ME := match cmpP x y with
  | some c => pur (.bl c)
  | none => bad
def dNeP (x y : D) : ME := match cmpP x y with
  | some c => pur (.bl (!c))
  | none => bad
theorem cmpP_B {H : Hp} {O : Addr → Prop} {b : List Addr} {x y : D} {v w : V} {c : Bool} (hv : Bor X.K H O b x v) (hw : Bor X.K H O b y w) (h : cmpP x y = some c) :
    ∃ d e, Dp X.K H v d ∧ Dp X.K H w e ∧ SeqAt.shaped d = true ∧ SeqAt.shaped e = true ∧ PyData.eqv d e = c := by
  unfold cmpP at h
  split at h
  · rename_i p q e1 e2
    by_cases z : (SeqAt.shaped p && SeqAt.shaped q) = true
    · rw [if_pos z] at h
      rw [Bool.and_eq_true] at z
      exact ⟨p, q, toP_dpB hv e1, toP_dpB hw e2, z.1, z.2, Option.some.inj h⟩
    · rw [if_neg z] at h; cases h
  · cases h
/-- e == e', e maybe a box -/
def eEqB (m r : ME) : ME := eb m fun x => eb r fun y => fun t S => dEqP (vw S x) (vw S y) t S
def eNeB (m r : ME) : ME := eb m fun x => eb r fun y => fun t S => dNeP (vw S x) (vw S y) t S
theorem pd_eqB {m r : ME} (hu : X.A.units + 64 < cLine) (ha : PD X T W a m) (hc : PD X T W c r) (hm : behindInMarks .Eq c = false := by first | exact nomark _ | rfl) : PD X T W (.Compare a [.Eq] [c] pos) (eEqB m r) := by
  refine PE.imp' (pe_cmpR (op_eqD hu) ha hc hm) fun σ H Q ⟨G, O, b, t, S, R, h⟩ => ?_
  refine useD R h fun O1 b1 x t1 S1 H1 v R1 hb1 s1 hv h1 => ?_
  refine useD R1 h1 fun O2 b2 y t2 S2 H2 w R2 hb2 s2 hw h2 => ?_
  unfold dEqP at h2
  cases e : cmpP (vw S2 x) (vw S2 y) with
  | none => rw [e] at h2; exact h2.elim
  | some c =>
    rw [e] at h2
    obtain ⟨d1, d2, q1, q2, q3, q4, q5⟩ := cmpP_B (ex_bor R2 (hv.mono s2 hb2)) (ex_bor R2 hw) e
    exact ⟨d1, d2, q1, q2, q3, q4, by rw [q5]; exact endD R2 h2 rfl⟩
theorem pd_neB {m r : ME} (hu : X.A.units + 64 < cLine) (ha : PD X T W a m) (hc : PD X T W c r) (hm : behindInMarks .NotEq c = false := by first | exact nomark _ | rfl) : PD X T W (.Compare a [.NotEq] [c] pos) (eNeB m r) := by
  refine PE.imp' (pe_cmpR (op_neD hu) ha hc hm) fun σ H Q ⟨G, O, b, t, S, R, h⟩ => ?_
  refine useD R h fun O1 b1 x t1 S1 H1 v R1 hb1 s1 hv h1 => ?_
  refine useD R1 h1 fun O2 b2 y t2 S2 H2 w R2 hb2 s2 hw h2 => ?_
  unfold dNeP at h2
  cases e : cmpP (vw S2 x) (vw S2 y) with
  | none => rw [e] at h2; exact h2.elim
  | some c =>
    rw [e] at h2
    obtain ⟨d1, d2, q1, q2, q3, q4, q5⟩ := cmpP_B (ex_bor R2 (hv.mono s2 hb2)) (ex_bor R2 hw) e
    exact ⟨d1, d2, q1, q2, q3, q4, by rw [q5]; exact endD R2 h2 rfl⟩
end

/-! ### dicts -/
def toKey : D → Option Key
  | .int i => some (.inl i)
  | .str x => some (.inr x)
  | _ => none
def dValD {κ : Type} [DecidableEq κ] (kvs : List (κ × D)) (k : κ) : Option D := (kvs.find? fun kv => decide (kv.1 = k)).map (·.2)
def dPutD {κ : Type} [DecidableEq κ] (kvs : List (κ × D)) (k : κ) (v : D) : List (κ × D) :=
  if (kvs.any fun kv => decide (kv.1 = k)) = true then kvs.map (fun kv => if kv.1 = k then (kv.1, v) else kv) else kvs ++ [(k, v)]
section
variable {K : PySem.W.Frag} {H : Hp} {O : Addr → Prop} {b : List Addr}
theorem toKey_at {d : D} {v : V} {k : Key} (h : At K H O b d v) (e : toKey d = some k) : v = kV k := by
  cases d with
  | int i => cases e; exact h
  | str x => cases e; exact h
  | _ => cases e
theorem Atk.val {k : Key} : ∀ {ds : List (Key × D)} {vs : List (Key × V)}, Atk K H O b ds vs → (∀ d, dValD ds k = some d → ∃ v, valV vs k = some v ∧ At K H O b d v) ∧ (dValD ds k = none → valV vs k = none)
  | [], _, z => by rw [show _ = [] from z]; exact ⟨fun d e => (nomatch (show (none : Option D) = some d from e)), fun _ => rfl⟩
  | (q, d) :: ds, _, ⟨y, ys, e, h, r⟩ => by
    rw [e]
    obtain ⟨i1, i2⟩ := Atk.val (k := k) r
    by_cases c : q = k
    · have e1 : dValD ((q, d) :: ds) k = some d := by simp [dValD, List.find?_cons, c]
      rw [e1, valV_pos (p := (q, y)) c]
      exact ⟨fun d' e => ⟨y, rfl, Option.some.inj e ▸ h⟩, fun e => (nomatch e)⟩
    · have e1 : dValD ((q, d) :: ds) k = dValD ds k := by simp [dValD, List.find?_cons, c]
      rw [e1, valV_neg (p := (q, y)) c]
      exact ⟨i1, i2⟩
theorem Atk.repl {k : Key} {d : D} {v : V} (hd : At K H O b d v) : ∀ {ds : List (Key × D)} {vs : List (Key × V)}, Atk K H O b ds vs → Atk K H O b (ds.map fun kv => if kv.1 = k then (kv.1, d) else kv) (vs.map fun kv => if kv.1 = k then (kv.1, v) else kv)
  | [], _, z => by rw [show _ = [] from z]; rfl
  | (q, d') :: ds, _, ⟨y, ys, e, h, r⟩ => by
    rw [e, List.map_cons, List.map_cons]
    by_cases c : q = k
    · rw [if_pos c, if_pos c]; exact ⟨v, _, rfl, hd, Atk.repl hd r⟩
    · rw [if_neg c, if_neg c]; exact ⟨y, _, rfl, h, Atk.repl hd r⟩
theorem Atk.snoc {k : Key} {d : D} {v : V} (hd : At K H O b d v) : ∀ {ds : List (Key × D)} {vs : List (Key × V)}, Atk K H O b ds vs → Atk K H O b (ds ++ [(k, d)]) (vs ++ [(k, v)])
  | [], _, z => by rw [show _ = [] from z]; exact ⟨v, [], rfl, hd, rfl⟩
  | (q, d') :: ds, _, ⟨y, ys, e, h, r⟩ => by rw [e]; exact ⟨y, _, rfl, h, Atk.snoc hd r⟩
theorem Atk.any {k : Key} : ∀ {ds : List (Key × D)} {vs : List (Key × V)}, Atk K H O b ds vs → (ds.any fun kv => decide (kv.1 = k)) = vs.any fun kv => decide (kv.1 = k)
  | [], _, z => by rw [show _ = [] from z]; rfl
  | (q, d') :: ds, _, ⟨y, ys, e, h, r⟩ => by rw [e, List.any_cons, List.any_cons, Atk.any r]
theorem Atk.put {k : Key} {d : D} {v : V} (hd : At K H O b d v) {ds : List (Key × D)} {vs : List (Key × V)} (h : Atk K H O b ds vs) : Atk K H O b (dPutD ds k d) (putK vs k v) := by
  unfold dPutD putK
  rw [h.any]
  split
  · exact Atk.repl hd h
  · exact Atk.snoc hd h
end
def dGetD : D → D → ME
  | .dic kvs, k => match toKey k with
    | some q => match dValD kvs q with
      | some d => pur d
      | none => bad
    | none => bad
  | _, _ => bad
section
variable {X : Cx} {T : List (Addr × Str)} {W : WX} {e f o a c : Expr} {es : List Expr} {pos apos cpos : Pos} {ty id : String} {name : Str}
theorem pd_dnew : PD X T W (.Dict [] [] pos) (ret (.dic [], true)) := PE.imp' pe_dnewK fun σ H Q ⟨G, O, b, t, S, R, h⟩ => fun p hp => endN R h hp nt_dK fun s => ⟨[], upd_same, rfl⟩
theorem pd_dgetV {i : Nat} {x : Str} {m : ME} {p1 : Pos} (hu : X.A.units + 1 < cLine) (hN : X.N[i]? = some x) (hv : Vis X.env.scope x) (hc : PD X T W c m) (hs : NoSl c := by intro _ _; rfl) (hd : (x == ("__debug__" : Str)) = false := by decide) (hcd : (x == ("__classdict__" : Str)) = false := by decide) : PD X T W (.Subscript (.Name x p1) c pos) (vThen i m dGetD) :=
  PE.imp' (pe_dget hu (pe_var hN hv hd hcd) hc hs) fun σ H Q ⟨G, O, b, t, S, R, h⟩ =>
    useV R h fun O1 b1 x y t1 S1 H1 v w R1 hb1 s1 hv hw h1 => by
      unfold dGetD at h1
      split at h1
      · rename_i kvs
        obtain ⟨a, xs, ea, r, q⟩ := bor_dic hv
        cases ek : toKey y with
        | none => rw [ek] at h1; exact h1.elim
        | some k =>
          rw [ek] at h1
          cases ed : dValD kvs k with
          | none => simp only [ed] at h1; exact h1.elim
          | some d =>
            simp only [ed] at h1
            obtain ⟨u, g1, g2⟩ := (q.val (k := k)).1 d ed
            exact ⟨a, u, ea, .inl ⟨xs, k, .inl r, toKey_at hw ek, g1.symm⟩, endD R1 h1 g2⟩
      · exact h1.elim
/-- x.setdefault(k, v), x a slot's own -/
def wrSetd (i : Nat) (y z : D) : ME := fun t S => match t[i]? with
  | some (.ow (.dic kvs)) => match toKey y with
    | some k => if kvs.length < lim then match dValD kvs k with
        | some d => .ok (d, false) t S
        | none => .ok (z, false) (t.set i (.ow (.dic (dPutD kvs k z)))) S
      else .bad
    | none => .bad
  | _ => .bad
def mSetd (i : Nat) (mk mv : ME) : ME := fun t S => match t[i]? with
  | some (.ow (.dic _)) => (eb mk fun y => eb mv fun z => wrSetd i y z) t S
  | _ => .bad
theorem pd_setdS {i : Nat} {x : Str} {mk mv : ME} {p1 : Pos} (hN : X.N[i]? = some x) (hv : Vis X.env.scope x) (hk : PD X T W e mk) (hz : PD X T W f mv) (m : M2 X (.Name x p1) "setdefault" apos e f cpos) (hd : (x == ("__debug__" : Str)) = false := by decide) (hcd : (x == ("__classdict__" : Str)) = false := by decide) :
    PD X T W (.Call (.Attribute (.Name x p1) "setdefault" apos) [e, f] [] cpos) (mSetd i mk mv) := by
  refine PE.imp' (pe_dsetd (pe_var hN hv hd hcd) hk hz m) fun σ H Q ⟨G, O, b, t, S, R, h⟩ => ?_
  unfold mSetd at h
  split at h
  · rename_i kvs0 ht
    obtain ⟨oo, e1, p, e2, h3, xs0, er, q0⟩ := R.sl i _ ht
    rw [e2] at e1
    refine ⟨V.ref p, e1, p, rfl, .inl ⟨xs0, .inl er⟩, useD R h fun O1 b1 y t1 S1 H1 v R1 hb1 s1 hv h1 => useD R1 h1 fun O2 b2 z t2 S2 H2 w R2 hb2 s2 hw h2 => ?_⟩
    unfold wrSetd at h2
    split at h2
    · rename_i kvs ht2
      obtain ⟨p', e3, R3, tm⟩ := R2.take ht2
      rw [e1] at e3
      cases e3
      obtain ⟨xs, r, q⟩ := id tm.own
      cases ek : toKey y with
      | none => rw [ek] at h2; exact h2.elim
      | some k =>
        rw [ek] at h2
        have ev := toKey_at (hv.mono s2 hb2) ek
        have hl : xs.length = kvs.length := q.length
        by_cases c : kvs.length < lim
        · simp only [if_pos c] at h2
          have hlt : xs.length < sizeLine := by rw [hl]; exact Nat.lt_trans c lim_lt
          cases ed : dValD kvs k with
          | some d =>
            simp only [ed] at h2
            obtain ⟨u, g1, g2⟩ := (q.val (k := k)).1 d ed
            refine ⟨xs, k, r, ev, hlt, fun v' e => ?_, fun e => ?_⟩
            · rw [g1] at e; cases e
              exact endD (d := d) R2 h2 g2
            · rw [g1] at e; cases e
          | none =>
            simp only [ed] at h2
            have g1 := (q.val (k := k)).2 ed
            refine ⟨xs, k, r, ev, hlt, fun v' e => ?_, fun _ => ?_⟩
            · rw [g1] at e; cases e
            · obtain ⟨R4, s4, tm4⟩ := R3.mutT (d' := .dic (dPutD kvs k z)) (o := .dK (putK xs k w)) tm nt_dK fun s => ⟨_, upd_same, Atk.put (hw.mono s (List.prefix_refl _)) (q.mono s (List.prefix_refl _))⟩
              have R5 := R4.hold tm4 e1
              rw [List.set_set] at R5
              exact h2 _ _ _ R5 (List.prefix_refl _) s4 w (.inl ⟨rfl, hw.mono s4 (List.prefix_refl _)⟩)
        · simp only [if_neg c] at h2; exact h2.elim
    · exact h2.elim
  · exact h.elim
/-- the heap has grown -/
theorem Rel.grown {K : PySem.W.Frag} {G : Gh} {O : Addr → Prop} {b : List Addr} {t : Ev} {S : Sto} {σ : L2.St} {H H' : Hp} (R : Rel K T G O b t S σ H) (hk : ∀ a o, H a = some o → H' a = some o) : Rel K T G O b t S σ H' ∧ Stays H O H' O := by
  have hs : Stays H O H' O := fun a o e n h => ⟨hk a o e, h⟩
  have z := R.self
  have R1 : Rel K T ⟨H, O, b, []⟩ O b [] S [] H' := by
    refine ⟨rfl, fun i s e => by simp at e, z.inj, z.nb, z.fr, z.bl, fun n d q e1 e2 => ?_, z.bnd, z.bfr, fun a u e n _ => hk a u e, fun a e => ?_, z.pre, fun a q => q, z.o0t, fun a h => ?_, fun a h => .inl h, z.b0, R.tabs.ext hk, fun q hq => by cases hq⟩
    · obtain ⟨q1, q2⟩ := R.st n d q e1 e2
      exact ⟨q1, q2.mono hs (List.prefix_refl _) fun u e _ => hk q u e⟩
    · exact fun u e2 n2 => e u (hk a u e2) n2
    · obtain ⟨u, e, n⟩ := R.ot a h
      exact ⟨u, hk a u e, n⟩
  exact ⟨R.step R1, hs⟩
def dItems : D → ME
  | .dic kvs => pur (.lst (kvs.map fun kv => .tup [keyD kv.1, kv.2]))
  | _ => bad
theorem At.key {K : PySem.W.Frag} {H : Hp} {O : Addr → Prop} {b : List Addr} (k : Key) : At K H O b (keyD k) (kV k) := by
  cases k <;> rfl
theorem items_ats {K : PySem.W.Frag} {H : Hp} {O : Addr → Prop} {b : List Addr} : ∀ {kvs : List (Key × D)} {xs : List (Key × V)} {ts : List Addr}, Atk K H O b kvs xs → Paired (fun (t : Addr) (q : Key × V) => H t = some (.tup [kV q.1, q.2])) ts xs → (∀ t ∈ ts, ¬ O t) → Ats K H O b (kvs.map fun kv => .tup [keyD kv.1, kv.2]) (ts.map V.ref)
  | [], xs, ts, q, r, ho => by
    rw [show xs = [] from q] at r
    cases r
    rfl
  | (k, d) :: kvs, xs, ts, ⟨y, ys, e, q, q2⟩, r, ho => by
    subst e
    cases r with
    | @cons t p ts' ps h r =>
      refine ⟨V.ref t, _, rfl, ⟨t, _, rfl, ho t List.mem_cons_self, h, kV k, [y], rfl, At.key k, y, [], rfl, q, rfl⟩, items_ats q2 r fun t ht => ho t (List.mem_cons_of_mem _ ht)⟩
/-- list(e.items()) -/
theorem pd_items {m : MB} {p : Pos} (hc : X.calm = true) (he : PB X T W e m) (hg : Gl X "list") (hm : X.mg "list" = none) (hv : bootBuiltins "list" = some (.type "list")) (hbase : attributeBase e "items" X.env (eval e X.env) = eval e X.env := by rfl) (hline : (apos.endLine == cpos.line) = true := by rfl)
    (hs : starEach [.Call (.Attribute e "items" apos) [] [] cpos] X.env = (false, eval (.Call (.Attribute e "items" apos) [] [] cpos) X.env) :: starEach [] X.env := by rfl) :
    PD X T W (.Call (.Name "list" p) [.Call (.Attribute e "items" apos) [] [] cpos] [] pos) (bnd m dItems) := by
  refine PE.imp' (LiI.pe_listItems hc he hg hm hv hbase hline hs) fun σ H Q ⟨G, O, b, t, S, R, h⟩ => ?_
  refine useB R h fun O1 b1 x t1 S1 H1 v R1 hb1 s1 hv h1 => ?_
  unfold dItems at h1
  split at h1
  · rename_i kvs
    obtain ⟨a, xs, ea, r, q⟩ := bor_dic hv
    refine ⟨a, xs, ea, r, fun H' p ts hk hp hts hpt hp' pr => ?_⟩
    obtain ⟨R2, s2⟩ := R1.grown hk
    exact endD (R2) (h1.later (List.prefix_refl _) s2) ⟨p, _, rfl, R1.free hp, hp', items_ats (q.mono s2 (List.prefix_refl _)) pr fun t ht => R1.free (hts t ht)⟩
  · exact h1.elim
end
end TD

set_option Elab.async false
set_option linter.all false
set_option maxRecDepth 100000
set_option maxHeartbeats 1000000
set_option autoImplicit false
namespace TD
open PySem PySem.Spec PyProof.Rows L2

/-! ### iterators that give out new tuples -/
def rowsIt (F : Hp → Nat → List V → Prop) (Nn : Hp → Nat → Prop) : It :=
  ⟨fun i H => ∃ r, F H i r, fun i H v H' => ∃ Tt r, v = .ref Tt ∧ H Tt = none ∧ H' = upd H Tt (.tup r) ∧ ∀ r', F H i r' → r' = r, fun i H => Nn H i⟩
theorem turn_rows {P : Program} {w : World} {K : PySem.W.Frag} {elts : List Expr} {kk : Nat} {tpos : Pos} {I : Addr} {fp wr : List Addr} {tn : Nat → Heap → Prop} {F : Hp → Nat → List V → Prop} {Nn : Hp → Nat → Prop}
    (mem : I ∈ fp) (sub : ∀ b ∈ wr, b ∈ fp) (obj : ∀ i h, tn i h → ∀ b ∈ fp, ∃ o, h.get? b = some o ∧ ∀ v, o.data ≠ .cell v)
    (keep : ∀ i h h', tn i h → (∀ b ∈ fp, ∀ o, h.get? b = some o → h'.get? b = some o) → tn i h')
    (self : ∀ (A : Around) (i : Nat) (s : Shared) (Q : Value → Shared → Prop) (E : Value → Shared → Prop), tn i s.heap → Q (.ref I) s → wpAny (model P w) A (pyIter (.ref I)) Q E s)
    (inj : ∀ (X : Cx) (pins : List (Addr × Obj)) (s : Shared) (σ : L2.St) (H : Hp), X.K = K → Inv X pins σ H s → ∀ i r r', F H i r → F H i r' → r' = r)
    (dat : ∀ (X : Cx), X.prog = P → X.w = w → X.K = K → X.A.handled = none → ∀ (i : Nat) (pins : List (Addr × Obj)) (s : Shared) (σ : L2.St) (H : Hp), Inv X pins σ H s → tn i s.heap → ((∃ r, F H i r) ∨ Nn H i) → ∃ (fp' : List Addr) (nn : Nat) (Pt : Nat → Array Value → Prop) (St : Nat → Heap → Prop),
      GoesN P w X.A (.Tuple elts kk tpos) I fp' wr nn (fun i h₀ v h => ∃ T vals, v = .ref T ∧ h₀.objs.size ≤ T ∧ Pt i vals ∧ h.IsTuple T vals) St ∧ St i s.heap ∧ (∀ h', St (i + 1) h' → tn (i + 1) h') ∧ ((∃ r, F H i r) → i < nn) ∧ (Nn H i → i = nn) ∧ (∀ r vals, F H i r → Pt i vals → Vals r vals.toList ∧ r.length ≤ sizeLine)) :
    Turn P w K (.Tuple elts kk tpos) (rowsIt F Nn) fp I tn where
  mem := mem
  obj := obj
  keep := keep
  item := by
    intro X hP hw hK hc i pins s σ H E Iv hf st hg
    obtain ⟨fp', nn, Pt, St, W, hSt, htn, hlt, _, hv⟩ := dat X hP hw hK (Iv.ok.hd hc) i pins s σ H Iv st (.inl hg)
    obtain ⟨r, hr⟩ := id hg
    subst hP hw hK
    refine W.goes i s (fun u s2 => ∃ x H', Inv X pins σ H' s2 ∧ RelV x u ∧ (rowsIt F Nn).yld i H x H' ∧ tn (i + 1) s2.heap ∧ ∀ b ∈ fp, H' b = none) E (hlt hg) hSt fun v h' tk hY hSt' hk htk => ?_
    obtain ⟨T, vals, ev, hT, hPt, hTup⟩ := hY
    subst ev
    obtain ⟨hv1, hv2⟩ := hv r vals hr hPt
    have new : ObjOk X.prog X.w (upd H T (.tup r)) h' T (.tup r) := ⟨hv2, vals.toList, hv1, by obtain ⟨o, e1, e2, n, e3⟩ := hTup; exact ⟨o, e1, e2, n, by rw [e3, Array.toArray_toList]⟩⟩
    have I1 : Inv X pins σ (upd H T (.tup r)) { s with heap := h', toks := tk } := Iv.turnedNew (ch := wr) hk (fun b hb => hf b (sub b hb)) hT new
    refine ⟨.ref T, _, I1, rfl, ⟨T, r, rfl, Iv.hok.fresh hT, rfl, fun r' h => inj X pins s σ H rfl Iv i r r' hr h⟩, htn h' hSt', fun b hb => ?_⟩
    obtain ⟨o, e, _⟩ := obj i s.heap st b hb
    rw [upd_ne (Nat.ne_of_lt (Nat.lt_of_lt_of_le (Heap.lt_size e) hT))]
    exact (hf b hb).1
  done := by
    intro X hP hw hK hc i pins s σ H E Iv hf st hg
    obtain ⟨fp', nn, Pt, St, W, hSt, htn, _, heq, hv⟩ := dat X hP hw hK (Iv.ok.hd hc) i pins s σ H Iv st (.inr hg)
    subst hP hw hK
    have e := heq hg
    subst e
    exact W.stops s _ E hSt fun h' tk hk htk => Iv.turnedL (ch := wr) hk fun b hb => hf b (sub b hb)
  self := self

/-- a list or a tuple -/
def Sq (K : PySem.W.Frag) (k : Bool) (H : Hp) (a : Addr) (xs : List V) : Prop := match k with
  | true => SqL K H a xs
  | false => SqT K H a xs
def SqIter (k : Bool) (h : Heap) (it a : Addr) (i : Nat) : Prop := match k with
  | true => h.IsListIter it a i
  | false => h.IsTupleIter it a i
def SqHeap (k : Bool) (h : Heap) (a : Addr) (items : Array Value) : Prop := match k with
  | true => h.IsList a items
  | false => h.IsTuple a items
theorem SqIter.obj {k : Bool} {h : Heap} {it a : Addr} {i : Nat} (s : SqIter k h it a i) : ∃ o, h.get? it = some o ∧ ∀ v, o.data ≠ .cell v := by
  cases k <;> (obtain ⟨o, e, _, d⟩ := s; exact ⟨o, e, fun v q => by rw [d] at q; cases q⟩)
theorem SqIter.keep {k : Bool} {h h' : Heap} {it a : Addr} {i : Nat} (s : SqIter k h it a i) (q : ∀ o, h.get? it = some o → h'.get? it = some o) : SqIter k h' it a i := by
  cases k <;> (obtain ⟨o, e, c, d⟩ := s; exact ⟨o, q o e, c, d⟩)
theorem sq_draws {prog : Program} {w : World} {A : Around} (hh : A.handled = none) (k : Bool) (it a : Addr) (hne : a ≠ it) (items : Array Value) : Draws prog w A it [it, a] items.size (fun i v => items[i]? = some v) (fun i h => SqIter k h it a i ∧ SqHeap k h a items) := by
  cases k
  · exact Draws.tuple hh it a hne items
  · exact Draws.list hh it a hne items
def sqObj (k : Bool) (a : Addr) : Obj := match k with
  | true => { cls := .type "list_iterator", data := .fields #[.ref a, .int 0 0] }
  | false => { cls := .type "tuple_iterator", data := .fields #[.ref a, .int 0 0] }
theorem sq_begins (k : Bool) (a : Addr) (items : Array Value) : Begins (.ref a) (sqObj k a) fun h => SqHeap k h a items := by
  cases k
  · exact begins_tuple a items
  · exact begins_list a items
theorem sq_iter0 {k : Bool} {h : Heap} {it a : Addr} (e : h.get? it = some (sqObj k a)) : SqIter k h it a 0 := by
  cases k <;> exact ⟨_, e, rfl, rfl⟩
section
variable {X : Cx} {pins : List (Addr × Obj)} {σ : L2.St} {H : Hp} {s : Shared} {k : Bool} {a : Addr} {xs ys : List V}
theorem sq_inv (I : Inv X pins σ H s) (h : Sq X.K k H a xs) : ∃ its : List Value, Vals xs its ∧ SqHeap k s.heap a its.toArray ∧ xs.length ≤ sizeLine := by
  cases k
  · obtain ⟨its, r, t, z⟩ := I.tuple h; exact ⟨its, r, t, z⟩
  · obtain ⟨its, r, t, z⟩ := I.list h; exact ⟨its, r, t.isList, z⟩
theorem sq_inj (I : Inv X pins σ H s) (h : Sq X.K k H a xs) (h' : Sq X.K k H a ys) : xs = ys := by
  cases k
  · exact I.tuple_inj h h'
  · exact I.list_inj h h'
theorem sq_lt {h : Heap} {items : Array Value} (t : SqHeap k h a items) : a < h.objs.size := by
  cases k <;> (obtain ⟨o, e, _⟩ := t; exact Heap.lt_size e)
end
/-! ### zip of two, of three -/
def F2 (K : PySem.W.Frag) (k1 k2 : Bool) (a b : Addr) (H : Hp) (i : Nat) (r : List V) : Prop := ∃ xs ys x y, Sq K k1 H a xs ∧ Sq K k2 H b ys ∧ xs[i]? = some x ∧ ys[i]? = some y ∧ r = [x, y]
def N2 (K : PySem.W.Frag) (k1 k2 : Bool) (a b : Addr) (H : Hp) (i : Nat) : Prop := ∃ xs ys, Sq K k1 H a xs ∧ Sq K k2 H b ys ∧ i = min xs.length ys.length
def F3 (K : PySem.W.Frag) (k1 k2 k3 : Bool) (a b c : Addr) (H : Hp) (i : Nat) (r : List V) : Prop := ∃ xs ys zs x y z, Sq K k1 H a xs ∧ Sq K k2 H b ys ∧ Sq K k3 H c zs ∧ xs[i]? = some x ∧ ys[i]? = some y ∧ zs[i]? = some z ∧ r = [x, y, z]
def N3 (K : PySem.W.Frag) (k1 k2 k3 : Bool) (a b c : Addr) (H : Hp) (i : Nat) : Prop := ∃ xs ys zs, Sq K k1 H a xs ∧ Sq K k2 H b ys ∧ Sq K k3 H c zs ∧ i = min (min xs.length ys.length) zs.length
theorem vals_at {xs : List V} {its : List Value} {i : Nat} {x : V} {u : Value} (r : Vals xs its) (h : xs[i]? = some x) (e : its.toArray[i]? = some u) : RelV x u := by
  obtain ⟨u', h1, h2⟩ := r.get h
  rw [show its.toArray[i]? = its[i]? by simp, h1] at e
  cases e; exact h2
theorem turn_zip2 {P : Program} {w : World} {K : PySem.W.Frag} {elts : List Expr} {kk : Nat} {tpos : Pos} {k1 k2 : Bool} {a b : Addr} (N : Nat) (ha : a < N) (hb : b < N) :
    Turn P w K (.Tuple elts kk tpos) (rowsIt (F2 K k1 k2 a b) (N2 K k1 k2 a b)) [N + 4, N + 2, N + 3, N, N + 1] (N + 4)
      (fun i h => IsZip h (N + 4) (N + 2) (N + 3) .none ∧ IsTupOf2 h (N + 2) (.ref N) (.ref (N + 1)) ∧ (∃ a1 a2, IsTupOf2 h (N + 3) a1 a2) ∧ SqIter k1 h N a i ∧ SqIter k2 h (N + 1) b i) := by
  refine turn_rows (wr := [N + 4, N + 3, N, N + 1]) (by simp) (fun c hc => ?_) (fun i h st c hc => ?_) (fun i h h' st q => ?_) (fun A i s Q E st h => wpAny_pyIter_zip st.1 h) (fun X pins s σ H hK I i r r' h h' => ?_) fun X hP hw hK hh i pins s σ H I st hg => ?_
  · simp only [List.mem_cons, List.not_mem_nil, or_false] at hc ⊢
    rcases hc with z | z | z | z <;> (rw [z]; simp)
  · obtain ⟨hz, hTI, ⟨x, y, hTO⟩, h1, h2⟩ := st
    have e' : c = N + 4 ∨ c = N + 2 ∨ c = N + 3 ∨ c = N ∨ c = N + 1 := by simpa using hc
    rcases e' with q | q | q | q | q
    · rw [q]; exact ⟨_, hz, fun v q => nomatch q⟩
    · rw [q]; exact ⟨_, hTI, fun v q => nomatch q⟩
    · rw [q]; exact ⟨_, hTO, fun v q => nomatch q⟩
    · rw [q]; exact h1.obj
    · rw [q]; exact h2.obj
  · obtain ⟨hz, hTI, ⟨x, y, hTO⟩, h1, h2⟩ := st
    exact ⟨q _ (by simp) _ hz, q _ (by simp) _ hTI, ⟨x, y, q _ (by simp) _ hTO⟩, h1.keep (q _ (by simp)), h2.keep (q _ (by simp))⟩
  · subst hK
    obtain ⟨xs, ys, x, y, q1, q2, g1, g2, e⟩ := h
    obtain ⟨xs', ys', x', y', q1', q2', g1', g2', e'⟩ := h'
    rw [sq_inj I q1 q1', g1'] at g1
    rw [sq_inj I q2 q2', g2'] at g2
    cases g1; cases g2
    rw [e, e']
  · subst hP hw hK
    have seqs : ∃ xs ys, Sq X.K k1 H a xs ∧ Sq X.K k2 H b ys := by
      rcases hg with ⟨r, xs, ys, x, y, q1, q2, _⟩ | ⟨xs, ys, q1, q2, _⟩
      · exact ⟨xs, ys, q1, q2⟩
      · exact ⟨xs, ys, q1, q2⟩
    obtain ⟨xs, ys, q1, q2⟩ := seqs
    obtain ⟨its1, r1, t1, z1⟩ := sq_inv I q1
    obtain ⟨its2, r2, t2, z2⟩ := sq_inv I q2
    have l1 := r1.length
    have l2 := r2.length
    obtain ⟨hz, hTI, hTO, h1, h2⟩ := st
    have W := GoesN.ofWalksT (elts := elts) (k := kk) (pos := tpos) (WalksT.zipD2 (zip_sep2 (N := N) (fp1 := [a]) (fp2 := [b]) (by simpa using ha) (by simpa using hb)) (sq_draws (prog := X.prog) (w := X.w) (A := X.A.in1) hh k1 N a (Nat.ne_of_lt ha) its1.toArray) (sq_draws (A := X.A.in1) hh k2 (N + 1) b (Nat.ne_of_lt (Nat.lt_succ_of_lt hb)) its2.toArray))
    refine ⟨_, _, _, _, W, ⟨hz, hTI, hTO, ⟨h1, t1⟩, h2, t2⟩, fun h' st' => ⟨st'.1, st'.2.1, st'.2.2.1, st'.2.2.2.1.1, st'.2.2.2.2.1⟩, fun ⟨r, xs', ys', x, y, q1', q2', g1, g2, e⟩ => ?_, fun ⟨xs', ys', q1', q2', e⟩ => ?_, fun r vals ⟨xs', ys', x, y, q1', q2', g1, g2, e⟩ ⟨u, v, hu, hv, ev⟩ => ?_⟩
    · rw [← sq_inj I q1 q1'] at g1
      rw [← sq_inj I q2 q2'] at g2
      have := (List.getElem?_eq_some_iff.mp g1).1
      have := (List.getElem?_eq_some_iff.mp g2).1
      simp only [List.size_toArray]
      omega
    · rw [e, ← sq_inj I q1 q1', ← sq_inj I q2 q2', l1, l2]
      simp only [List.size_toArray]
    · rw [← sq_inj I q1 q1'] at g1
      rw [← sq_inj I q2 q2'] at g2
      subst ev
      rw [e]
      exact ⟨.cons (vals_at r1 g1 hu) (.cons (vals_at r2 g2 hv) .nil), by show 2 ≤ sizeLine; decide⟩
theorem turn_zip3 {P : Program} {w : World} {K : PySem.W.Frag} {elts : List Expr} {kk : Nat} {tpos : Pos} {k1 k2 k3 : Bool} {a b c : Addr} (N : Nat) (ha : a < N) (hb : b < N) (hc : c < N) :
    Turn P w K (.Tuple elts kk tpos) (rowsIt (F3 K k1 k2 k3 a b c) (N3 K k1 k2 k3 a b c)) [N + 5, N + 3, N + 4, N, N + 1, N + 2] (N + 5)
      (fun i h => IsZip h (N + 5) (N + 3) (N + 4) .none ∧ IsTupOf3 h (N + 3) (.ref N) (.ref (N + 1)) (.ref (N + 2)) ∧ (∃ a1 a2 a3, IsTupOf3 h (N + 4) a1 a2 a3) ∧ SqIter k1 h N a i ∧ SqIter k2 h (N + 1) b i ∧ SqIter k3 h (N + 2) c i) := by
  refine turn_rows (wr := [N + 5, N + 4, N, N + 1, N + 2]) (by simp) (fun d hd => ?_) (fun i h st d hd => ?_) (fun i h h' st q => ?_) (fun A i s Q E st h => wpAny_pyIter_zip st.1 h) (fun X pins s σ H hK I i r r' h h' => ?_) fun X hP hw hK hh i pins s σ H I st hg => ?_
  · simp only [List.mem_cons, List.not_mem_nil, or_false] at hd ⊢
    rcases hd with z | z | z | z | z <;> (rw [z]; simp)
  · obtain ⟨hz, hTI, ⟨x, y, z, hTO⟩, h1, h2, h3⟩ := st
    have e' : d = N + 5 ∨ d = N + 3 ∨ d = N + 4 ∨ d = N ∨ d = N + 1 ∨ d = N + 2 := by simpa using hd
    rcases e' with q | q | q | q | q | q
    · rw [q]; exact ⟨_, hz, fun v q => nomatch q⟩
    · rw [q]; exact ⟨_, hTI, fun v q => nomatch q⟩
    · rw [q]; exact ⟨_, hTO, fun v q => nomatch q⟩
    · rw [q]; exact h1.obj
    · rw [q]; exact h2.obj
    · rw [q]; exact h3.obj
  · obtain ⟨hz, hTI, ⟨x, y, z, hTO⟩, h1, h2, h3⟩ := st
    exact ⟨q _ (by simp) _ hz, q _ (by simp) _ hTI, ⟨x, y, z, q _ (by simp) _ hTO⟩, h1.keep (q _ (by simp)), h2.keep (q _ (by simp)), h3.keep (q _ (by simp))⟩
  · subst hK
    obtain ⟨xs, ys, zs, x, y, z, q1, q2, q3, g1, g2, g3, e⟩ := h
    obtain ⟨xs', ys', zs', x', y', z', q1', q2', q3', g1', g2', g3', e'⟩ := h'
    rw [sq_inj I q1 q1', g1'] at g1
    rw [sq_inj I q2 q2', g2'] at g2
    rw [sq_inj I q3 q3', g3'] at g3
    cases g1; cases g2; cases g3
    rw [e, e']
  · subst hP hw hK
    have seqs : ∃ xs ys zs, Sq X.K k1 H a xs ∧ Sq X.K k2 H b ys ∧ Sq X.K k3 H c zs := by
      rcases hg with ⟨r, xs, ys, zs, x, y, z, q1, q2, q3, _⟩ | ⟨xs, ys, zs, q1, q2, q3, _⟩
      · exact ⟨xs, ys, zs, q1, q2, q3⟩
      · exact ⟨xs, ys, zs, q1, q2, q3⟩
    obtain ⟨xs, ys, zs, q1, q2, q3⟩ := seqs
    obtain ⟨its1, r1, t1, z1⟩ := sq_inv I q1
    obtain ⟨its2, r2, t2, z2⟩ := sq_inv I q2
    obtain ⟨its3, r3, t3, z3⟩ := sq_inv I q3
    have l1 := r1.length
    have l2 := r2.length
    have l3 := r3.length
    obtain ⟨hz, hTI, hTO, h1, h2, h3⟩ := st
    have W := GoesN.ofWalksT (elts := elts) (k := kk) (pos := tpos) (WalksT.zipD3 (zip_sep3 (N := N) (fp1 := [a]) (fp2 := [b]) (fp3 := [c]) (by simpa using ha) (by simpa using hb) (by simpa using hc)) (sq_draws (prog := X.prog) (w := X.w) (A := X.A.in1) hh k1 N a (Nat.ne_of_lt ha) its1.toArray) (sq_draws (A := X.A.in1) hh k2 (N + 1) b (Nat.ne_of_lt (Nat.lt_succ_of_lt hb)) its2.toArray)
      (sq_draws (A := X.A.in1) hh k3 (N + 2) c (Nat.ne_of_lt (Nat.lt_succ_of_lt (Nat.lt_succ_of_lt hc))) its3.toArray))
    refine ⟨_, _, _, _, W, ⟨hz, hTI, hTO, ⟨h1, t1⟩, ⟨h2, t2⟩, h3, t3⟩, fun h' st' => ⟨st'.1, st'.2.1, st'.2.2.1, st'.2.2.2.1.1, st'.2.2.2.2.1.1, st'.2.2.2.2.2.1⟩, fun ⟨r, xs', ys', zs', x, y, z, q1', q2', q3', g1, g2, g3, e⟩ => ?_, fun ⟨xs', ys', zs', q1', q2', q3', e⟩ => ?_, fun r vals ⟨xs', ys', zs', x, y, z, q1', q2', q3', g1, g2, g3, e⟩ ⟨u, v, w', hu, hv, hw, ev⟩ => ?_⟩
    · rw [← sq_inj I q1 q1'] at g1
      rw [← sq_inj I q2 q2'] at g2
      rw [← sq_inj I q3 q3'] at g3
      have := (List.getElem?_eq_some_iff.mp g1).1
      have := (List.getElem?_eq_some_iff.mp g2).1
      have := (List.getElem?_eq_some_iff.mp g3).1
      simp only [List.size_toArray]
      omega
    · rw [e, ← sq_inj I q1 q1', ← sq_inj I q2 q2', ← sq_inj I q3 q3', l1, l2, l3]
      simp only [List.size_toArray]
    · rw [← sq_inj I q1 q1'] at g1
      rw [← sq_inj I q2 q2'] at g2
      rw [← sq_inj I q3 q3'] at g3
      subst ev
      rw [e]
      exact ⟨.cons (vals_at r1 g1 hu) (.cons (vals_at r2 g2 hv) (.cons (vals_at r3 g3 hw) .nil)), by show 3 ≤ sizeLine; decide⟩

/-! ### sources of loops -/
def seqD : D → Option (List D)
  | .lst ds => some ds
  | .tup ds => some ds
  | _ => none
def zip2D : List D → List D → List D
  | x :: xs, y :: ys => .tup [x, y] :: zip2D xs ys
  | _, _ => []
def zip3D : List D → List D → List D → List D
  | x :: xs, y :: ys, z :: zs => .tup [x, y, z] :: zip3D xs ys zs
  | _, _, _ => []
def enumD : Nat → List D → List D
  | _, [] => []
  | n, x :: xs => .tup [.int (n : Int), x] :: enumD (n + 1) xs
def seqS (S : Sto) : D → Option Itm
  | .lst ds => some (ds, [])
  | .tup ds => some (ds, [])
  | .box n => match S[n]? with
    | some (.lst ds) => some (ds, [(n, .lst ds)])
    | _ => none
  | _ => none
def zip2O : Option Itm → Option Itm → MI
  | some xs, some ys => ret (zip2D xs.1 ys.1, xs.2 ++ ys.2)
  | _, _ => bad
def zip3O : Option (List D) → Option (List D) → Option (List D) → MI
  | some xs, some ys, some zs => retI (zip3D xs ys zs)
  | _, _, _ => bad
def dZip2 : List D → MI
  | [x, y] => fun t S => zip2O (seqS S x) (seqS S y) t S
  | _ => bad
def dZip3 : List D → MI
  | [x, y, z] => zip3O (seqD x) (seqD y) (seqD z)
  | _ => bad
def dEnum : List D → MI
  | [.lst xs] => retI (enumD 0 xs)
  | _ => bad
theorem zip2D_len : ∀ xs ys : List D, (zip2D xs ys).length = min xs.length ys.length
  | [], ys => by simp [zip2D]
  | x :: xs, [] => by simp [zip2D]
  | x :: xs, y :: ys => by rw [zip2D, List.length_cons, List.length_cons, List.length_cons, zip2D_len xs ys]; omega
theorem zip3D_len : ∀ xs ys zs : List D, (zip3D xs ys zs).length = min (min xs.length ys.length) zs.length
  | [], ys, zs => by simp [zip3D]
  | x :: xs, [], zs => by simp [zip3D]
  | x :: xs, y :: ys, [] => by simp [zip3D]
  | x :: xs, y :: ys, z :: zs => by rw [zip3D, List.length_cons, List.length_cons, List.length_cons, List.length_cons, zip3D_len xs ys zs]; omega
theorem enumD_len : ∀ (n : Nat) (xs : List D), (enumD n xs).length = xs.length
  | _, [] => rfl
  | n, x :: xs => by rw [enumD, List.length_cons, List.length_cons, enumD_len]
theorem zip2D_get : ∀ {xs ys : List D} {i : Nat} {d : D}, (zip2D xs ys)[i]? = some d → ∃ x y, xs[i]? = some x ∧ ys[i]? = some y ∧ d = .tup [x, y]
  | [], ys, i, d, h => by simp [zip2D] at h
  | x :: xs, [], i, d, h => by simp [zip2D] at h
  | x :: xs, y :: ys, 0, d, h => ⟨x, y, rfl, rfl, (Option.some.inj h).symm⟩
  | x :: xs, y :: ys, i + 1, d, h => by
    have h : (zip2D xs ys)[i]? = some d := by simpa [zip2D] using h
    simpa using zip2D_get h
theorem zip3D_get : ∀ {xs ys zs : List D} {i : Nat} {d : D}, (zip3D xs ys zs)[i]? = some d → ∃ x y z, xs[i]? = some x ∧ ys[i]? = some y ∧ zs[i]? = some z ∧ d = .tup [x, y, z]
  | [], ys, zs, i, d, h => by simp [zip3D] at h
  | x :: xs, [], zs, i, d, h => by simp [zip3D] at h
  | x :: xs, y :: ys, [], i, d, h => by simp [zip3D] at h
  | x :: xs, y :: ys, z :: zs, 0, d, h => ⟨x, y, z, rfl, rfl, rfl, (Option.some.inj h).symm⟩
  | x :: xs, y :: ys, z :: zs, i + 1, d, h => by
    have h : (zip3D xs ys zs)[i]? = some d := by simpa [zip3D] using h
    simpa using zip3D_get h
theorem enumD_get : ∀ {n : Nat} {xs : List D} {i : Nat} {d : D}, (enumD n xs)[i]? = some d → ∃ x, xs[i]? = some x ∧ d = .tup [.int ((n + i : Nat) : Int), x]
  | n, [], i, d, h => by simp [enumD] at h
  | n, x :: xs, 0, d, h => ⟨x, rfl, (Option.some.inj h).symm⟩
  | n, x :: xs, i + 1, d, h => by
    have h : (enumD (n + 1) xs)[i]? = some d := by simpa [enumD] using h
    obtain ⟨y, h1, h2⟩ := enumD_get h
    exact ⟨y, by simpa using h1, by rw [h2]; congr 4; omega⟩
section
variable {K : PySem.W.Frag} {H H' : Hp} {O O' : Addr → Prop} {b b' : List Addr}
/-- how a sequence stands -/
def SqAt (K : PySem.W.Frag) (H : Hp) (O : Addr → Prop) (b : List Addr) (k : Bool) (a : Addr) (ds : List D) : Prop := ∃ vs, ¬ O a ∧ H a = some (if k = true then .lst vs else .tup vs) ∧ Ats K H O b ds vs
theorem seqD_at {d : D} {ds : List D} {v : V} (h : At K H O b d v) (e : seqD d = some ds) : ∃ k a, v = V.ref a ∧ SqAt K H O b k a ds := by
  cases d with
  | lst xs => cases e; obtain ⟨a, vs, ev, o, r, q⟩ := h; exact ⟨true, a, ev, vs, o, r, q⟩
  | tup xs => cases e; obtain ⟨a, vs, ev, o, r, q⟩ := h; exact ⟨false, a, ev, vs, o, r, q⟩
  | _ => cases e
theorem SqAt.mono {k : Bool} {a : Addr} {ds : List D} (h : SqAt K H O b k a ds) (hs : Stays H O H' O') (hb : b <+: b') : SqAt K H' O' b' k a ds := by
  obtain ⟨vs, o, r, q⟩ := h
  have n : nt (if k = true then HO.lst vs else .tup vs) := by cases k; exact nt_tup; exact nt_lst
  exact ⟨vs, (hs _ _ r n o).2, (hs _ _ r n o).1, q.mono hs hb⟩
theorem SqAt.sq {k : Bool} {a : Addr} {ds : List D} (h : SqAt K H O b k a ds) : ∃ vs, Sq K k H a vs ∧ Ats K H O b ds vs := by
  obtain ⟨vs, o, r, q⟩ := h
  cases k
  · exact ⟨vs, .inl (.inl r), q⟩
  · exact ⟨vs, .inl (.inl r), q⟩
/-- .. or as a box's, that stays -/
def SqW (K : PySem.W.Frag) (H : Hp) (O : Addr → Prop) (b : List Addr) (k : Bool) (a : Addr) (q : Itm) : Prop := (SqAt K H O b k a q.1 ∧ q.2 = []) ∨ (k = true ∧ ∃ n, q.2 = [(n, .lst q.1)] ∧ b[n]? = some a)
theorem SqW.sq {k : Bool} {a : Addr} {q : Itm} (h : SqW K H O b k a q) (hs : Stays H O H' O') (hb : b <+: b') (hc : AncAt K H' O' b' q.2) : ∃ vs, Sq K k H' a vs ∧ Ats K H' O' b' q.1 vs := by
  rcases h with ⟨h, _⟩ | ⟨rfl, n, e, hn⟩
  · exact (h.mono hs hb).sq
  · obtain ⟨p, hp, vs, r, z⟩ := hc (n, .lst q.1) (by rw [e]; exact List.mem_cons_self)
    rw [pre_get hb hn] at hp
    cases hp
    exact ⟨vs, .inl (.inl r), z⟩
theorem seqS_at {T : List (Addr × Str)} {G : Gh} {t : Ev} {S : Sto} {σ : L2.St} {d : D} {q : Itm} {v : V} (R : Rel K T G O b t S σ H) (h : At K H O b d v) (e : seqS S d = some q) : ∃ k a, v = V.ref a ∧ SqW K H O b k a q ∧ ∃ vs, Sq K k H a vs := by
  cases d with
  | lst xs => cases e; obtain ⟨a, vs, ev, o, r, q⟩ := h; exact ⟨true, a, ev, .inl ⟨⟨vs, o, r, q⟩, rfl⟩, vs, .inl (.inl r)⟩
  | tup xs => cases e; obtain ⟨a, vs, ev, o, r, q⟩ := h; exact ⟨false, a, ev, .inl ⟨⟨vs, o, r, q⟩, rfl⟩, vs, .inl (.inl r)⟩
  | box n =>
    obtain ⟨a, ev, hn⟩ := h
    have e : (match S[n]? with
      | some (.lst ds) => some (ds, [(n, .lst ds)])
      | _ => none) = some q := e
    split at e
    · rename_i ds hS
      cases e
      obtain ⟨_, vs, r, z⟩ := R.st n _ a hS hn
      exact ⟨true, a, ev, .inr ⟨rfl, n, rfl, hn⟩, vs, .inl (.inl r)⟩
    · cases e
  | _ => cases e
theorem wk_zip2 {k1 k2 : Bool} {a c : Addr} {xs ys : Itm} (h1 : SqW K H O b k1 a xs) (h2 : SqW K H O b k2 c ys) : Wk K (rowsIt (F2 K k1 k2 a c) (N2 K k1 k2 a c)) H O b (zip2D xs.1 ys.1) (xs.2 ++ ys.2) := fun i H' O' b' hs hb hc => by
  obtain ⟨vs, s1, q1⟩ := h1.sq hs hb fun q hq => hc q (List.mem_append_left _ hq)
  obtain ⟨ws, s2, q2⟩ := h2.sq hs hb fun q hq => hc q (List.mem_append_right _ hq)
  refine ⟨fun e => ⟨vs, ws, s1, s2, by rw [e, zip2D_len, q1.length, q2.length]⟩, fun d hd => ?_⟩
  obtain ⟨x, y, g1, g2, ed⟩ := zip2D_get hd
  obtain ⟨v, e1, a1⟩ := q1.get g1
  obtain ⟨w, e2, a2⟩ := q2.get g2
  have hF : F2 K k1 k2 a c H' i [v, w] := ⟨vs, ws, v, w, s1, s2, e1, e2, rfl⟩
  refine ⟨⟨_, hF⟩, fun z H'' ⟨Tt, r, ez, hT, eH, inj⟩ => .inr ⟨Tt, .tup r, hT, nt_tup, eH, fun hO => ?_⟩⟩
  subst ed
  have e := inj _ hF
  subst e
  have hsx : Stays H' O' H'' O' := fun p o e n q => ⟨by rw [eH, upd_ne (ne_of_none e hT)]; exact e, q⟩
  exact ⟨Tt, _, ez, (fun q => by obtain ⟨u, e⟩ := hO Tt q; rw [hT] at e; cases e), (by rw [eH, upd_same]), v, [w], rfl, a1.mono hsx (List.prefix_refl _), w, [], rfl, a2.mono hsx (List.prefix_refl _), rfl⟩
theorem wk_zip3 {k1 k2 k3 : Bool} {a c f : Addr} {xs ys zs : List D} (h1 : SqAt K H O b k1 a xs) (h2 : SqAt K H O b k2 c ys) (h3 : SqAt K H O b k3 f zs) : Wk K (rowsIt (F3 K k1 k2 k3 a c f) (N3 K k1 k2 k3 a c f)) H O b (zip3D xs ys zs) [] := fun i H' O' b' hs hb _ => by
  obtain ⟨vs, s1, q1⟩ := (h1.mono hs hb).sq
  obtain ⟨ws, s2, q2⟩ := (h2.mono hs hb).sq
  obtain ⟨us, s3, q3⟩ := (h3.mono hs hb).sq
  refine ⟨fun e => ⟨vs, ws, us, s1, s2, s3, by rw [e, zip3D_len, q1.length, q2.length, q3.length]⟩, fun d hd => ?_⟩
  obtain ⟨x, y, z0, g1, g2, g3, ed⟩ := zip3D_get hd
  obtain ⟨v, e1, a1⟩ := q1.get g1
  obtain ⟨w, e2, a2⟩ := q2.get g2
  obtain ⟨u, e3, a3⟩ := q3.get g3
  have hF : F3 K k1 k2 k3 a c f H' i [v, w, u] := ⟨vs, ws, us, v, w, u, s1, s2, s3, e1, e2, e3, rfl⟩
  refine ⟨⟨_, hF⟩, fun z H'' ⟨Tt, r, ez, hT, eH, inj⟩ => .inr ⟨Tt, .tup r, hT, nt_tup, eH, fun hO => ?_⟩⟩
  subst ed
  have e := inj _ hF
  subst e
  have hsx : Stays H' O' H'' O' := fun p o e n q => ⟨by rw [eH, upd_ne (ne_of_none e hT)]; exact e, q⟩
  exact ⟨Tt, _, ez, (fun q => by obtain ⟨u, e⟩ := hO Tt q; rw [hT] at e; cases e), (by rw [eH, upd_same]), v, [w, u], rfl, a1.mono hsx (List.prefix_refl _), w, [u], rfl, a2.mono hsx (List.prefix_refl _), u, [], rfl, a3.mono hsx (List.prefix_refl _), rfl⟩
theorem wk_enum {a : Addr} {xs : List D} (h1 : SqAt K H O b true a xs) : Wk K (Ite K a) H O b (enumD 0 xs) [] := fun i H' O' b' hs hb _ => by
  obtain ⟨vs, s1, q1⟩ := (h1.mono hs hb).sq
  refine ⟨fun e => ⟨vs, s1, by rw [e, enumD_len, q1.length]; exact Nat.le_refl _⟩, fun d hd => ?_⟩
  obtain ⟨x, g1, ed⟩ := enumD_get hd
  obtain ⟨v, e1, a1⟩ := q1.get g1
  refine ⟨⟨vs, v, s1, e1⟩, fun z H'' ⟨Tt, y, ez, hT, eH, inj⟩ => .inr ⟨Tt, .tup [.int (i : Nat), y], hT, nt_tup, eH, fun hO => ?_⟩⟩
  subst ed
  have e := inj _ s1
  rw [e1] at e
  cases e
  have hsx : Stays H' O' H'' O' := fun p o e n q => ⟨by rw [eH, upd_ne (ne_of_none e hT)]; exact e, q⟩
  exact ⟨Tt, _, ez, (fun q => by obtain ⟨u, e⟩ := hO Tt q; rw [hT] at e; cases e), (by rw [eH, upd_same]), _, [v], rfl, by rw [Nat.zero_add]; rfl, v, [], rfl, a1.mono hsx (List.prefix_refl _), rfl⟩
end
section
variable {X : Cx} {T : List (Addr × Str)} {W : WX} {e e2 e3 : Expr} {elts : List Expr} {kk : Nat} {pos p tpos : Pos}
def iZ2 (K : PySem.W.Frag) (ta : TA) : TI := fun σ H R => ta σ H fun vs H1 => ∃ k1 k2 a b xs ys, vs = [.ref a, .ref b] ∧ Sq K k1 H1 a xs ∧ Sq K k2 H1 b ys ∧ R (rowsIt (F2 K k1 k2 a b) (N2 K k1 k2 a b)) H1
theorem pi_z2 {ta : TA} (hg : Gl X "zip") (hm : X.mg "zip" = none) (ha : PA X [e, e2] ta)
    (hs : starEach [e, e2] X.env = (false, eval e X.env) :: starEach [e2] X.env := by rfl) (hpl : (backTo pos (starEach [e2] X.env)).any (·.1) = false := by rfl) :
    PI X (.Tuple elts kk tpos) (.Call (.Name "zip" p) [e, e2] [] pos) (iZ2 X.K ta) := by
  refine ⟨fun pins s σ H R I h => ?_⟩
  refine Call_ (ld_blt I hg hm PyProof.Rows.boot_zip (PyProof.Rows.callWith_type1 (thn (ha.run pos pins s σ H _ I h) fun us s1 ⟨vs, H1, I1, r1, q1⟩ => ?_) hs hpl))
  obtain ⟨k1, k2, a, b, xs, ys, ex, hqx, hqy, q⟩ := q1
  subst ex
  cases r1 with
  | cons r rr =>
    cases rr with
    | cons r' rr =>
      cases rr
      cases r
      cases r'
      obtain ⟨its, rv, p1, _⟩ := sq_inv I1 hqx
      obtain ⟨its2, rv2, p2, _⟩ := sq_inv I1 hqy
      refine zip_begins2 (sq_begins k1 a its.toArray) (sq_begins k2 b its2.toArray) p1 p2 fun h' hz hTI hTO h1 h2 hsz hk => wpAny_pyIter_zip hz ?_
      have I2 : Inv X pins σ H1 { s1 with heap := h' } := I1.kept (t' := s1.toks) hk
      refine ⟨s1.heap.objs.size + 4, [s1.heap.objs.size + 4, s1.heap.objs.size + 2, s1.heap.objs.size + 3, s1.heap.objs.size, s1.heap.objs.size + 1], _, _, H1, rfl, I2, turn_zip2 s1.heap.objs.size (sq_lt p1) (sq_lt p2), ⟨hz, hTI, ⟨_, _, hTO⟩, sq_iter0 h1, sq_iter0 h2⟩, fun c hcm => ?_, q⟩
      have e' : c = s1.heap.objs.size + 4 ∨ c = s1.heap.objs.size + 2 ∨ c = s1.heap.objs.size + 3 ∨ c = s1.heap.objs.size ∨ c = s1.heap.objs.size + 1 := by simpa using hcm
      have hle : s1.heap.objs.size ≤ c := by
        rcases e' with z | z | z | z | z <;> (rw [z]; first | exact Nat.le_add_right _ _ | exact Nat.le_refl _)
      exact I1.fpOk hle (I1.hok.fresh hle)
def iZ3 (K : PySem.W.Frag) (ta : TA) : TI := fun σ H R => ta σ H fun vs H1 => ∃ k1 k2 k3 a b c xs ys zs, vs = [.ref a, .ref b, .ref c] ∧ Sq K k1 H1 a xs ∧ Sq K k2 H1 b ys ∧ Sq K k3 H1 c zs ∧ R (rowsIt (F3 K k1 k2 k3 a b c) (N3 K k1 k2 k3 a b c)) H1
theorem pi_z3 {ta : TA} (hg : Gl X "zip") (hm : X.mg "zip" = none) (ha : PA X [e, e2, e3] ta)
    (hs : starEach [e, e2, e3] X.env = (false, eval e X.env) :: starEach [e2, e3] X.env := by rfl) (hpl : (backTo pos (starEach [e2, e3] X.env)).any (·.1) = false := by rfl) :
    PI X (.Tuple elts kk tpos) (.Call (.Name "zip" p) [e, e2, e3] [] pos) (iZ3 X.K ta) := by
  refine ⟨fun pins s σ H R I h => ?_⟩
  refine Call_ (ld_blt I hg hm PyProof.Rows.boot_zip (PyProof.Rows.callWith_type1 (thn (ha.run pos pins s σ H _ I h) fun us s1 ⟨vs, H1, I1, r1, q1⟩ => ?_) hs hpl))
  obtain ⟨k1, k2, k3, a, b, c, xs, ys, zs, ex, hqx, hqy, hqz, q⟩ := q1
  subst ex
  cases r1 with
  | cons r rr =>
    cases rr with
    | cons r' rr =>
      cases rr with
      | cons r'' rr =>
        cases rr
        cases r
        cases r'
        cases r''
        obtain ⟨its, rv, p1, _⟩ := sq_inv I1 hqx
        obtain ⟨its2, rv2, p2, _⟩ := sq_inv I1 hqy
        obtain ⟨its3, rv3, p3, _⟩ := sq_inv I1 hqz
        refine zip_begins3 (sq_begins k1 a its.toArray) (sq_begins k2 b its2.toArray) (sq_begins k3 c its3.toArray) p1 p2 p3 fun h' hz hTI hTO h1 h2 h3 hsz hk => wpAny_pyIter_zip hz ?_
        have I2 : Inv X pins σ H1 { s1 with heap := h' } := I1.kept (t' := s1.toks) hk
        refine ⟨s1.heap.objs.size + 5, [s1.heap.objs.size + 5, s1.heap.objs.size + 3, s1.heap.objs.size + 4, s1.heap.objs.size, s1.heap.objs.size + 1, s1.heap.objs.size + 2], _, _, H1, rfl, I2, turn_zip3 s1.heap.objs.size (sq_lt p1) (sq_lt p2) (sq_lt p3), ⟨hz, hTI, ⟨_, _, _, hTO⟩, sq_iter0 h1, sq_iter0 h2, sq_iter0 h3⟩, fun c hcm => ?_, q⟩
        have e' : c = s1.heap.objs.size + 5 ∨ c = s1.heap.objs.size + 3 ∨ c = s1.heap.objs.size + 4 ∨ c = s1.heap.objs.size ∨ c = s1.heap.objs.size + 1 ∨ c = s1.heap.objs.size + 2 := by simpa using hcm
        have hle : s1.heap.objs.size ≤ c := by
          rcases e' with z | z | z | z | z | z <;> (rw [z]; first | exact Nat.le_add_right _ _ | exact Nat.le_refl _)
        exact I1.fpOk hle (I1.hok.fresh hle)
theorem pit_zip2 {m : MA} (hg : Gl X "zip") (hm : X.mg "zip" = none) (ha : PAs X T W [e, e2] m)
    (hs : starEach [e, e2] X.env = (false, eval e X.env) :: starEach [e2] X.env := by rfl) (hpl : (backTo pos (starEach [e2] X.env)).any (·.1) = false := by rfl) :
    PIt X T W (.Tuple elts kk tpos) (.Call (.Name "zip" p) [e, e2] [] pos) (bnd m dZip2) := by
  refine ⟨_, pi_z2 hg hm ha hs hpl, fun {σ H Rr G O b t S} R hh => ?_⟩
  refine useA R hh fun O1 b1 ds t1 S1 H1 vs R1 hb1 s1 hv h1 => ?_
  unfold dZip2 at h1
  split at h1
  · rename_i x y
    generalize ex : seqS S1 x = ox at h1
    generalize ey : seqS S1 y = oy at h1
    unfold zip2O at h1
    split at h1
    · rename_i xs ys
      obtain ⟨v, _, ev, q1, w, _, ew, q2, e0⟩ := hv
      obtain ⟨k1, a, e1, a1, us, g1⟩ := seqS_at R1 q1 ex
      obtain ⟨k2, c, e2, a2, ws, g2⟩ := seqS_at R1 q2 ey
      refine ⟨k1, k2, a, c, us, ws, by rw [ev, ew, e0, e1, e2], g1, g2, Post.here h1 R1 _ (wk_zip2 a1 a2)⟩
    · exact h1.elim
  · exact h1.elim
theorem pit_zip3 {m : MA} (hg : Gl X "zip") (hm : X.mg "zip" = none) (ha : PAs X T W [e, e2, e3] m)
    (hs : starEach [e, e2, e3] X.env = (false, eval e X.env) :: starEach [e2, e3] X.env := by rfl) (hpl : (backTo pos (starEach [e2, e3] X.env)).any (·.1) = false := by rfl) :
    PIt X T W (.Tuple elts kk tpos) (.Call (.Name "zip" p) [e, e2, e3] [] pos) (bnd m dZip3) := by
  refine ⟨_, pi_z3 hg hm ha hs hpl, fun {σ H Rr G O b t S} R hh => ?_⟩
  refine useA R hh fun O1 b1 ds t1 S1 H1 vs R1 hb1 s1 hv h1 => ?_
  unfold dZip3 at h1
  split at h1
  · rename_i x y z
    generalize ex : seqD x = ox at h1
    generalize ey : seqD y = oy at h1
    generalize ez : seqD z = oz at h1
    unfold zip3O at h1
    split at h1
    · rename_i xs ys zs
      obtain ⟨v, _, ev, q1, w, _, ew, q2, u, _, eu, q3, e0⟩ := hv
      obtain ⟨k1, a, e1, a1⟩ := seqD_at q1 ex
      obtain ⟨k2, c, e2, a2⟩ := seqD_at q2 ey
      obtain ⟨k3, f, e3, a3⟩ := seqD_at q3 ez
      obtain ⟨us, g1, _⟩ := a1.sq
      obtain ⟨ws, g2, _⟩ := a2.sq
      obtain ⟨ts, g3, _⟩ := a3.sq
      refine ⟨k1, k2, k3, a, c, f, us, ws, ts, by rw [ev, ew, eu, e0, e1, e2, e3], g1, g2, g3, Post.here h1 R1 _ (wk_zip3 a1 a2 a3)⟩
    · exact h1.elim
  · exact h1.elim
theorem pit_enum {m : MA} (hg : Gl X "enumerate") (hm : X.mg "enumerate" = none) (ha : PAs X T W [e] m) (hs : starEach [e] X.env = [(false, eval e X.env)] := by rfl) :
    PIt X T W (.Tuple elts kk tpos) (.Call (.Name "enumerate" p) [e] [] pos) (bnd m dEnum) := by
  refine ⟨_, pi_enum hg hm ha hs, fun {σ H Rr G O b t S} R hh => ?_⟩
  refine useA R hh fun O1 b1 ds t1 S1 H1 vs R1 hb1 s1 hv h1 => ?_
  unfold dEnum at h1
  split at h1
  · rename_i xs
    obtain ⟨v, _, ev, q1, e0⟩ := hv
    obtain ⟨a, us, e1, o, r, q⟩ := q1
    exact ⟨a, us, by rw [ev, e0, e1], .inl (.inl r), Post.here h1 R1 _ (wk_enum ⟨us, o, r, q⟩)⟩
  · exact h1.elim
end
end TD

set_option Elab.async false
set_option linter.all false
set_option maxRecDepth 100000
set_option maxHeartbeats 1000000
set_option autoImplicit false
namespace TD
open PySem PySem.Spec PyProof.Rows L2

/-! ### try with several clauses, some of them with a name -/
/-- how a clause's suite begins and ends: with a name at slot i, or without -/
def inS : Option Nat → Addr → L2.St → L2.St
  | none, _, σ => σ
  | some i, a, σ => σ.set i (some (.ref a))
def outS : Option Nat → L2.St → L2.St
  | none, σ => σ
  | some i, σ => σ.set i none
def outE (o : Option Nat) (E : Ends) : Ends := { nx := fun σ H => E.nx (outS o σ) H, rt := E.rt, bk := fun σ H => E.bk (outS o σ) H, ct := fun σ H => E.ct (outS o σ) H }
abbrev Cla := Value × Option Nat × (Addr → Value → Option Addr → TS)
def wCla (K : PySem.W.Frag) (Wr : WX) (E : Ends) : List Cla → WX
  | [] => Wr
  | (c, o, ts) :: r => fun cls d σ H => ∃ hit, PySem.W.exmOne K cls c = some hit ∧ (hit = true → ∀ a, H a = none → ts a cls d (outE o E) (inS o a σ) H) ∧ (hit = false → wCla K Wr E r cls d σ H)
/-- of a frame of n slots -/
def wLen (n : Nat) (W : WX) : WX := fun cls d σ H => σ.length = n → W cls d σ H
/-- the name of a clause -/
def NmOk (X : Cx) : Option Str → Option Nat → Prop
  | none, none => True
  | some n, some i => X.N[i]? = some n ∧ X.env.kindOf n = some .local
  | _, _ => False
inductive ClaOk (X : Cx) : List ExceptHandler → List Cla → Prop
  | nil : ClaOk X [] []
  | cons {x : Str} {c : Value} {o : Option Nat} {n : Option Str} {ts : Addr → Value → Option Addr → TS} {st : Stmt} {sts : List Stmt} {p1 p2 : Pos} {hs : List ExceptHandler} {l : List Cla} (hc : Names X x c) (hn : NmOk X n o)
      (hb : ∀ (a : Addr) (oe : Obj) (cls : Value) (d : Option Addr) (pn : List (Addr × Obj)), Zc cls d oe → (∃ vs, oe.data = .fields vs) → PSs (X.suite a ((a, oe) :: pn)) (st :: sts) (ts a cls d)) (r : ClaOk X hs l) :
      ClaOk X (.ExceptHandler (some (.Name x p1)) n (st :: sts) p2 :: hs) ((c, o, ts) :: l)
section
variable {X : Cx} {body : List Stmt} {h₀ : ExceptHandler} {hds : List ExceptHandler} {cl : List Cla} {pos : Pos} {tb : WX → TS} {Wr : WX} {pins : List (Addr × Obj)} {σ1 : L2.St} {H1 : Hp} {sI : Shared} {B : Heap} {a : Addr} {cls : Value} {d : Option Addr} {E : Ends}
/-- the clauses looked at, one after the other -/
theorem cla_go (hst : X.stack = X.env :: X.outer) (hf : X.env.frame = some X.env.locals) (hN : X.N.Nodup) (ok : X.Ok) (tk : Takes X Wr) (J : Inv X pins σ1 H1 sI) (nb : ∀ b o, sI.heap.get? b = some o → b ∉ frs X.stack → B.get? b = some o) (na : H1 a = none) {hs : List ExceptHandler} {l : List Cla} (hk : ClaOk X hs l) :
    ∀ {s3 : Shared}, sI.heap.UpToSlots s3.heap → HandSPX.FlyingZ B (X.env :: X.outer) a (Zc cls d) s3.heap → s3.os = sI.os → AllBare s3.gens → wCla X.K Wr E l cls d σ1 H1 → wpAny (model X.prog X.w) X.A (handleBy (.ref a) X.env hs) (SP X pins E) X.xe s3 := by
  induction hk with
  | nil =>
    intro s3 up fl os ag w
    refine wpAny_handleBy_nil ?_
    obtain ⟨_, _, _, o3, v3, _, _, _, g1, _, g3, g4, _⟩ := id fl
    unfold PySem.passOn
    refine wpAny_bind (wpAny_field g1 g3 g4 ?_)
    rw [if_neg (show ¬ ((Value.ref _ == Value.none) = true) from by simp)]
    have out : wpAny (model X.prog X.w) X.A (setFlight (.ref a) X.env.frame) (fun _ s4 => wpAny (model X.prog X.w) X.A (throw (.ref a) : Sem Flow) (SP X pins E) X.xe s4) X.xe s3 := by
      rw [hf]
      refine HandSPX.setFlight_upZ fl fun h4 hd4 up4 => wpAny_throw (tk _ _ ⟨a, B, sI, pins, σ1, H1, cls, d, rfl, J, nb, up.trans up4, .inr (.inr ?_), na, os, ag, w⟩)
      rw [hst]; exact hd4
    first
      | exact wpAny_bind (wpAny_pure (wpAny_bind out))
      | exact wpAny_bind out
  | @cons x c o n ts st sts p1 p2 hs l hc hn hb r ih =>
    intro s3 up fl os ag ⟨hit, hm, hyes, hno⟩
    have J3 : Inv X pins σ1 H1 s3 := J.landed nb fl.1 up os ag
    obtain ⟨o3, v3, g3, z3, d3⟩ := fl.there
    have apart : ∀ {h : Heap} {ox : Obj} {vs : Array Value}, h.FunFrames B (X.env :: X.outer) → h.get? a = some ox → ox.data = .fields vs → a ∉ frs (X.env :: X.outer) := fun {h ox vs} ff e dd hm => by
      obtain ⟨_, oy, ey, bad⟩ := ff.mem hm
      rw [e] at ey
      cases ey
      exact bad _ dd
    have nfr := apart fl.2.2.1 g3 d3
    have nL : a ≠ X.env.locals := fun z => nfr (List.mem_filterMap.mpr ⟨X.env, List.mem_cons_self, by rw [hf, z]⟩)
    have nF : a ∉ X.fs := fun hm => by
      obtain ⟨en, he, q⟩ := List.mem_filterMap.mp hm
      exact nfr (List.mem_filterMap.mpr ⟨en, List.mem_cons_of_mem _ he, q⟩)
    have S3 := J3.suite g3 d3 na nL nF
    refine wpAny_handleBy_cons (codeAny_handlers_test ?_) (by intro q; cases q)
    have looks : PySem.W.Looks (model X.prog X.w) s3.heap (typeOf (.ref a)) cls := fun A Q E s k q => wpAny_typeOf_ref (k _ _ g3) (by rw [z3.1]; exact q)
    have name : ∀ {Q : Value → Shared → Prop} {E' : Value → Shared → Prop}, Q c s3 → wpAny (model X.prog X.w) (X.A.mark (some (.ref a))) (eval (.Name x p1) X.env) Q E' s3 := fun {Q E'} q => by
      obtain ⟨c1, c2, c3 | ⟨c3, c4, c5⟩⟩ := hc
      · exact ld_glob (X := X.suite a ((a, o3) :: (X.pn ++ pins))) S3 c1 c3 q c2
      · exact ld_blt (X := X.suite a ((a, o3) :: (X.pn ++ pins))) S3 c1 c3 c4 q c5 c2
    refine name ((PySem.W.exm_one (M := model X.prog X.w) J3.kIn looks hm).here ?_)
    cases hit with
    | false =>
      show wpAny _ X.A (handleBy (.ref a) X.env hs) _ _ _
      exact ih up fl os ag (hno rfl)
    | true =>
      have again : ∀ {h4 : Heap}, HandSPX.FlyingZ B (X.env :: X.outer) a (Zc cls d) h4 → s3.heap.UpToSlots h4 → ∃ o4, Zc cls d o4 ∧ (∃ vs, o4.data = .fields vs) ∧ Inv (X.suite a ((a, o4) :: (X.pn ++ pins))) [] σ1 H1 { s3 with heap := h4 } := fun {h4} fl4 up4 => by
        obtain ⟨o4, v4, g4, z4, d4⟩ := fl4.there
        have J4 : Inv X pins σ1 H1 { s3 with heap := h4 } := J.landed nb fl4.1 (up.trans up4) os ag
        exact ⟨o4, z4, ⟨_, d4⟩, J4.suite g4 d4 na nL nF⟩
      cases o with
      | none =>
        cases n with
        | some n => exact hn.elim
        | none =>
          refine codeAny_handlers_suite (HandSPX.lands_againZ fl fun h4 fl4 up4 => ?_)
          obtain ⟨o4, z4, d4, S4⟩ := again fl4 up4
          refine wpAny_mono ((hb a o4 cls d (X.pn ++ pins) z4 d4).run [] _ _ H1 _ S4 (hyes rfl a na)) (fun f s6 hsp => ?_) (fun _ _ z => False.elim z)
          cases f with
          | ret u => obtain ⟨v6, σ6, H6, S6, r6, q6⟩ := hsp; exact ⟨_, _, _, S6.unsuite ok, r6, q6⟩
          | next => obtain ⟨σ6, H6, S6, q6⟩ := hsp; exact ⟨_, _, S6.unsuite ok, q6⟩
          | brk => obtain ⟨σ6, H6, S6, q6⟩ := hsp; exact ⟨_, _, S6.unsuite ok, q6⟩
          | cont => obtain ⟨σ6, H6, S6, q6⟩ := hsp; exact ⟨_, _, S6.unsuite ok, q6⟩
      | some i =>
        cases n with
        | none => exact hn.elim
        | some n =>
          obtain ⟨hi, hl⟩ := hn
          refine codeAny_handlers_suite_as (HandSPX.lands_againZ fl fun h4 fl4 up4 => ?_)
          obtain ⟨o4, z4, d4, S4⟩ := again fl4 up4
          refine store_ok (X := X.suite a ((a, o4) :: (X.pn ++ pins))) (v := .ref a) S4 hN hi (.inl hl) rfl (fun s5 S5 => ?_) (.inr hl)
          refine wpAny_mono ((hb a o4 cls d (X.pn ++ pins) z4 d4).run [] s5 _ H1 _ S5 (hyes rfl a na)) (fun f s6 hsp => ?_) (fun _ _ z => False.elim z)
          have fin : ∀ {σ6 : L2.St} {H6 : Hp} {Q : Shared → Prop}, Inv (X.suite a ((a, o4) :: (X.pn ++ pins))) [] σ6 H6 s6 → (∀ s7, Inv X pins (σ6.set i none) H6 s7 → Q s7) → wpAny (model X.prog X.w) X.A (do bindName X.env n .none; unbindBehindTheSuite X.env n p2) (fun _ s7 => Q s7) X.xe s6 :=
            fun {σ6 H6 Q} S6 hq => gone_ok (S6.unsuite ok) hN hi hl hq
          cases f with
          | ret u => obtain ⟨v6, σ6, H6, S6, r6, q6⟩ := hsp; exact fin S6 fun s7 J7 => ⟨_, _, _, J7, r6, q6⟩
          | next => obtain ⟨σ6, H6, S6, q6⟩ := hsp; exact fin S6 fun s7 J7 => ⟨_, _, J7, q6⟩
          | brk => obtain ⟨σ6, H6, S6, q6⟩ := hsp; exact fin S6 fun s7 J7 => ⟨_, _, J7, q6⟩
          | cont => obtain ⟨σ6, H6, S6, q6⟩ := hsp; exact fin S6 fun s7 J7 => ⟨_, _, J7, q6⟩
theorem ps_try_cla (hst : X.stack = X.env :: X.outer) (hf : X.env.frame = some X.env.locals) (hN : X.N.Nodup) (tk : Takes X Wr)
    (hb : ∀ (W : WX) (pn : List (Addr × Obj)) (xe : Value → Shared → Prop), Takes (X.tr pn xe) W → PassesOwn (model X.prog X.w) X.A X.env xe → PSs (X.tr pn xe) body (tb W))
    (hh : ClaOk X (h₀ :: hds) cl) : PS X (.Try body (h₀ :: hds) [] [] pos) (fun E σ H => tb (wLen X.N.length (wCla X.K Wr E cl)) E σ H) := by
  refine ⟨fun pins s σ H E I h => ?_⟩
  have ok := I.ok
  have hfr : X.A.frames = some (X.env :: X.outer) := by rw [ok.frames, hst]
  refine wpAny_Try_except (wpAny_mono ((hb (wLen X.N.length (wCla X.K Wr E cl)) (X.pn ++ pins) _ (fun u s' xx => ?_) PassesOwn.looking).run [] s σ H E (I.toTry _) h) (fun f s1 hsp => ?_) (fun e s1 he => he))
  · obtain ⟨a, B, sI, pins', σ1, H1, cls, d, rfl, J', nb, up, sky, na, os, ag, w⟩ := xx
    have sky1 : Sky B (X.env :: X.outer) a (Zc cls d) X.env.locals s'.heap := by rw [← hst]; exact sky
    exact Sky.land Zc.steady hfr hf sky1 fun h3 fl3 up3 => cla_go (s3 := { s' with heap := h3 }) hst hf hN ok tk (J'.ofTry ok) nb na hh (up.trans up3) fl3 os ag (w J'.len)
  · cases f with
    | ret u => obtain ⟨v, σ1, H1, J1, r, q⟩ := hsp; exact ⟨v, σ1, H1, J1.ofTry ok, r, q⟩
    | next => obtain ⟨σ1, H1, J1, q⟩ := hsp; exact wpAny_execs_nil ⟨σ1, H1, J1.ofTry ok, q⟩
    | brk => obtain ⟨σ1, H1, J1, q⟩ := hsp; exact ⟨σ1, H1, J1.ofTry ok, q⟩
    | cont => obtain ⟨σ1, H1, J1, q⟩ := hsp; exact ⟨σ1, H1, J1.ofTry ok, q⟩
end
end TD

set_option Elab.async false
set_option linter.all false
set_option maxRecDepth 100000
set_option maxHeartbeats 1000000
set_option autoImplicit false
namespace TD
open PySem PySem.Spec PyProof.Rows L2

/-! ### own exceptions of one field -/
theorem oexB_ok {K : PySem.W.Frag} {C : Addr} (h : oexB K C = true) : OexC K C := by
  unfold oexB at h
  simp only [Bool.and_eq_true, decide_eq_true_eq] at h
  obtain ⟨⟨⟨⟨h1, h2⟩, h3⟩, h4⟩, h5⟩ := h
  refine ⟨?_, h2, h3, h4, h5⟩
  split at h1
  · rename_i o ho
    split at h1
    · rename_i cd k0 k1 k2 k3 n k5 e1 e2 e3
      split at h1
      · rename_i C' bm em
        simp only [Bool.and_eq_true, decide_eq_true_eq, Bool.not_eq_true'] at h1
        obtain ⟨⟨⟨⟨q1, q2⟩, q3⟩, q4⟩, q5⟩ := h1
        obtain ⟨nm, bs, mro, ns, qn, hd, sn, sub, ab, col, del⟩ := cd
        dsimp only at em q3 q4
        subst em q3 q4 q1 q2
        obtain ⟨oc, od, dt, sl⟩ := o
        dsimp only at e1 e2 e3
        subst e1 e2
        have hsl : sl = #[k0, k1, k2, k3, some (.builtin "ValueError.__new__"), k5] := by
          obtain ⟨l⟩ := sl
          simp only at e3
          rw [e3]
        subst hsl
        exact ⟨nm, qn, ns, bs, bm, sn, sub, ab, col, od, k0, k1, k2, k3, k5, ho, q5⟩
      · cases h1
    · cases h1
  · cases h1
/-- the __init__ of such a class: self.f = .. -/
def initSp (C : Addr) (f : Str) : Sp := fun vs H Q _ => ∃ a v, vs = [.ref a, v] ∧ H a = some (exo a C none) ∧ ∀ d, H d = none → d ≠ a → Q .non (upd (upd H d (exd d [(f, v)])) a (exo a C (some d)))
/-- an own exception class c whose instances bear the field f -/
structure ExD (P : Program) (w : World) (K : PySem.W.Frag) (mg : Str → Option Value) (base : Heap) (c f : Str) (k : Nat) : Prop where
  b : exB K c f = true
  gl : mg c = some (.ref (He.ga K c))
  init : ∃ fd ps, FnOk P w K mg base (fun _ _ _ _ _ _ => False) k (He.ma K (He.ga K c) "__init__") fd ps (initSp (He.ga K c) f) ∧ L2.Binds K fd ps []
theorem exB_ok {K : PySem.W.Frag} {c f : Str} (h : exB K c f = true) : OexC K (He.ga K c) ∧ XfC K (He.ga K c) ∧ PySem.W.findIn K (.ref (He.ga K c)) f = some none ∧ PySem.W.findIn K (.ref (He.ga K c)) "__init__" = some (some (.ref (He.ma K (He.ga K c) "__init__"))) ∧ PySem.W.typeIn K (.ref (He.ma K (He.ga K c) "__init__")) = some (.type "function") := by
  unfold exB at h
  simp only [Bool.and_eq_true, decide_eq_true_eq] at h
  obtain ⟨⟨⟨⟨h1, h2⟩, h3⟩, h4⟩, h5⟩ := h
  exact ⟨oexB_ok h1, xfB_ok h2, h3, h4, h5⟩
/-- the text of such an __init__ -/
theorem init_ok {P : Program} {w : World} {K : PySem.W.Frag} {mg : Str → Option Value} {base : Heap} {qual sf x f : Str} {params : Arguments} {scope : Scope} {g : Addr} {fd : FuncData} {C : Addr} {p1 p2 p3 p4 : Pos}
    (F : FunD K "__init__" qual params [.Assign [.Attribute (.Name sf p1) f p2] (.Name x p3) p4] scope [] [] g fd) (T : OexC K C) (hno : PySem.W.findIn K (.ref C) f = some none) (S : FnScope [sf, x] [sf, x] scope)
    (h1 : (sf == ("__debug__" : Str)) = false) (h2 : (sf == ("__classdict__" : Str)) = false) (h3 : (x == ("__debug__" : Str)) = false) (h4 : (x == ("__classdict__" : Str)) = false)
    (hs : ∀ env, swapsWith (.Name x p3) (some (.Attribute (.Name sf p1) f p2)) p4.line env = pure false) : FnOk P w K mg base (fun _ _ _ _ _ _ => False) 1 g fd [sf, x] (initSp C f) := by
  refine F.ok S (fun vs H Q E h => ?_) fun cdv A outer s H vs Q E hr h => ?_
  · obtain ⟨a, v, rfl, _⟩ := h
    rfl
  · have vis : ∀ y ∈ [sf, x], Vis scope y := fun y hy => (S.par y hy).elim .inl fun z => .inr (.inl z)
    refine ⟨_, PSs.nox (pss_one (ps_ost (pe_var (i := 0) rfl (vis _ (by simp)) h1 h2) (pe_var (i := 1) rfl (vis _ (by simp)) h3 h4) (hs _))), ?_⟩
    obtain ⟨a, v, rfl, ea, hq⟩ := h
    refine ⟨v, rfl, .ref a, rfl, a, C, rfl, T, hno, .inl ⟨ea, fun dx n1 n2 => hq dx n1 n2⟩⟩
section
variable {X : Cx} {T : List (Addr × Str)} {W : WX} {e : Expr} {es : List Expr} {pos p pos2 : Pos} {c f : Str}
def sRaise (c f : Str) (m : ME) : MS := eb m fun d => fun t S => .ex c [(f, d)] t S
/-- raise c(e) -/
theorem pst_raise {m : ME} {k : Nat} (hcalm : X.calm = true) (D : ExD X.prog X.w X.K X.mg X.base c f k) (hr : Room (k + 1) X.A) (tk : Takes X W) (he : PD X T W e m) (hg : Gl X c := by rfl)
    (hdb : (c == ("__debug__" : Str)) = false := by decide) (hse : starEach (e :: []) X.env = (false, eval e X.env) :: starEach [] X.env := by rfl) (hpl : (backTo pos (starEach [] X.env)).any (·.1) = false := by rfl) :
    PSt X T W (.Raise (some (.Call (.Name c p) [e] [] pos)) none pos2) (sRaise c f m) := by
  obtain ⟨To, _, hno, iC, tI⟩ := exB_ok D.b
  obtain ⟨fd, ps, G1, B⟩ := D.init
  refine PS.imp' (ps_raise hcalm tk (pmk_oex To iC tI G1 hr B .nil (fun _ _ _ _ _ _ _ z => z.elim) hg D.gl (pa_cons he pa_nil hse) hdb hse hpl)) fun Dn σ H ⟨G, O, b, t, S, R, h⟩ => ?_
  refine ⟨G, O, b, t, S, R, (PostS.bnd (σ := σ) h).imp fun O1 b1 x t1 S1 H1 R1 hb1 s1 h1 v hv => ?_⟩
  obtain ⟨O2, R2, s2, a2⟩ := R1.share hv
  refine ⟨by show 1 ≤ 1000; omega, fun a ha => ⟨a, v, rfl, upd_same, fun d hd hda => ⟨rfl, d, [(f, v)], by rw [upd_same], by rw [upd_ne hda, upd_same], ?_, ?_⟩⟩⟩
  · rw [upd_ne hda] at hd; exact hd
  · have hd1 : H1 d = none := by rw [upd_ne hda] at hd; exact hd
    have eH : upd (del (upd (upd (upd H1 a (exo a (He.ga X.K c) none)) d (exd d [(f, v)])) a (exo a (He.ga X.K c) (some d))) a) d (.xd [(f, v)]) = upd H1 d (.xd [(f, v)]) := by
      funext q
      by_cases h1 : q = d
      · rw [h1, upd_same, upd_same]
      · rw [upd_ne h1, upd_ne h1]
        by_cases h2 : q = a
        · rw [h2, del_same, ha]
        · rw [del_ne h2, upd_ne h2, upd_ne h1, upd_ne h2]
    rw [eH]
    obtain ⟨R3, s3⟩ := R2.new (o := .xd [(f, v)]) hd1 nt_xd
    exact PostS.later h1 (List.prefix_refl _) s2 σ _ O2 b1 d _ R3 (List.prefix_refl _) s3 upd_same ⟨v, [], rfl, a2.mono s3 (List.prefix_refl _), rfl⟩
end
end TD

set_option Elab.async false
set_option linter.all false
set_option maxRecDepth 100000
set_option maxHeartbeats 1000000
set_option autoImplicit false
namespace TD
open PySem PySem.Spec PyProof.Rows L2

/-! ### a def keeps its promise -/
def endF : R Fl → FR
  | .ok .nx _ S => .ok .non false S
  | .ok (.rt d f) _ S => .ok d f S
  | .ok _ _ _ => .bad
  | .ex c fs _ S => .ex c fs S
  | .bad => .bad
/-- what a body of n slots computes -/
def fnD (n : Nat) (m : MS) : Fn := fun ds S => endF (m (ds.map Slot.sh ++ List.replicate (n - ds.length) .no) S)
theorem start_rel {K : PySem.W.Frag} {T : List (Addr × Str)} {O : Addr → Prop} {b : List Addr} {S : Sto} {H : Hp} {ds : List D} {vs : List V} {N : List Str} (R : Rel K T ⟨H, O, b, []⟩ O b [] S [] H) (hv : Ats K H O b ds vs) :
    Rel K T ⟨H, O, b, []⟩ O b (ds.map Slot.sh ++ List.replicate (N.length - ds.length) .no) S (L2.start N vs) H := by
  have hl := hv.length
  refine R.reslot (by unfold L2.start; rw [List.length_append, List.length_append, List.length_map, List.length_map, List.length_replicate, List.length_replicate, hl]) fun i s e => .inr ?_
  by_cases hi : i < ds.length
  · rw [List.getElem?_append_left (by rw [List.length_map]; exact hi), List.getElem?_map] at e
    obtain ⟨d, e1, e2⟩ := Option.map_eq_some_iff.mp e
    obtain ⟨v, e3, q⟩ := hv.get e1
    subst e2
    refine ⟨fun d z => (nomatch z), some v, ?_, v, rfl, q⟩
    unfold L2.start
    rw [List.getElem?_append_left (by rw [List.length_map, hl]; exact hi), List.getElem?_map, e3]
    rfl
  · rw [List.getElem?_append_right (by rw [List.length_map]; omega), List.length_map] at e
    have hs : s = .no := by
      rw [List.getElem?_replicate] at e
      split at e
      · exact (Option.some.inj e).symm
      · cases e
    subst hs
    have hlt : i - ds.length < N.length - ds.length := by
      rw [List.getElem?_replicate] at e
      split at e
      · assumption
      · cases e
    refine ⟨fun d z => (nomatch z), none, ?_, trivial⟩
    unfold L2.start
    rw [List.getElem?_append_right (by rw [List.length_map, hl]; omega), List.length_map, hl, List.getElem?_replicate, if_pos hlt]
/-- how a run's end is told to the caller -/
theorem end_sp {K : PySem.W.Frag} {T : List (Addr × Str)} {O : Addr → Prop} {b : List Addr} {H : Hp} {Q : VK} {E : XK} {r : R Fl}
    (h : match endF r with
      | .ok d f S' => ∀ (v : V) (H' : Hp) (O' : Addr → Prop) (b' : List Addr), Rel K T ⟨H, O, b, []⟩ O' b' [] S' [] H' → Val K ⟨H, O, b, []⟩ O' b' [] [] H' v (d, f) → Q v H'
      | .ex c fs S' => ∀ (H' : Hp) (O' : Addr → Prop) (b' : List Addr) (d : Addr) (xs : List (Str × V)), Rel K T ⟨H, O, b, []⟩ O' b' [] S' [] H' → H' d = some (.xd xs) → Atf K H' O' b' fs xs → E (.ref (He.ga K c)) (some d) H'
      | .bad => False) : PostS K T (fun cls d _ H => E cls d H) ⟨H, O, b, []⟩ O b H r { nx := fun _ H' => Q .non H', rt := Q } := by
  cases r with
  | bad => exact h
  | ex c fs t S' => exact fun σ' H' O' b' d xs R' _ _ hd hf => h H' O' b' d xs R'.drop hd hf
  | ok fl t S' =>
    cases fl with
    | nx => exact fun σ' H' O' b' R' _ _ => h .non H' O' b' R'.drop (.inl ⟨rfl, rfl⟩)
    | bk => exact h.elim
    | ct => exact h.elim
    | rt d f =>
      intro v σ' H' O' b' R' _ _ hv
      refine h v H' O' b' R'.drop ?_
      rcases hv with ⟨e, hv⟩ | ⟨e, p, ev, hv⟩
      · exact .inl ⟨e, hv⟩
      · exact .inr ⟨e, p, ev, hv.o, hv.own, hv.fr, fun i q w _ => by obtain ⟨⟨d, e⟩, _⟩ := w; simp at e, hv.nb, hv.nq⟩
section
variable {P : Program} {w : World} {K : PySem.W.Frag} {mg : Str → Option Value} {base : Heap} {T : List (Addr × Str)} {x : Str} {N ps : List Str} {params : Arguments} {body : List Stmt} {scope : Scope} {m : MS} {k : Nat}
abbrev cxD (P : Program) (w : World) (K : PySem.W.Frag) (mg : Str → Option Value) (base : Heap) (N : List Str) (x : Str) (scope : Scope) (A : Around) (outer : List Env) (s : Shared) (H : Hp) (E : XK) : Cx :=
  cxOf (L2.CX P w) P w K mg base N x scope (He.ga K x) (.ref (He.codeOf K (x, none))) A outer s H E
abbrev wE (E : XK) : WX := fun cls d _ H => E cls d H
theorem takesD {A : Around} {outer : List Env} {s : Shared} {H : Hp} {E : XK} : Takes (cxD P w K mg base N x scope A outer s H E) (wE E) := takes_of rfl rfl rfl rfl
theorem passesD {A : Around} {outer : List Env} {s : Shared} {H : Hp} {E : XK} : PassesOwn (model P w) (cxD P w K mg base N x scope A outer s H E).A (cxD P w K mg base N x scope A outer s H E).env (cxD P w K mg base N x scope A outer s H E).xe := passes_of rfl
/-- THE RULE for a def -/
theorem def_of (F : ∃ fd, FunD K x x params body scope [] [] (He.ga K x) fd) (gl : mg x = some (.ref (He.ga K x))) (S : FnScope N ps scope)
    (hb : ∀ (kV doc pm : Value) (an : Option Addr) (cdv ct : Value) (us : List Value), us.length = ps.length → bindArgs (PySem.W.fnOf x x params body scope .none kV doc pm an cdv ct) ⟨us, []⟩ = pure (ps.zip us))
    (hbody : ∀ (A : Around) (outer : List Env) (s : Shared) (H : Hp) (E : XK), Room k (cxD P w K mg base N x scope A outer s H E).A → PBk (cxD P w K mg base N x scope A outer s H E) T (wE E) body m) :
    Def P w K mg base T x ps (fnD N.length m) (k + 1) := by
  obtain ⟨fd, F⟩ := F
  have B := FunD.bindsN F hb
  have kp := F.kp
  obtain ⟨oc, od, dV, kV, doc, pm, an, cdv, ct, osl, rfl, lk, hcd, _, _⟩ := F.ex
  obtain ⟨c, ec⟩ := He.codeIn_ref hcd
  have e2 : cdv = .ref (He.codeOf K (x, none)) := by rw [ec, He.codeOf_eq (p := (x, none)) lk (by rw [ec] <;> rfl)]
  subst e2
  refine ⟨⟨_, fn_of lk hcd S (fun vs H Q E h => h.1) fun A outer s H vs Q E hr hsp => ?_, B⟩, gl, kp⟩
  refine ⟨_, hbody A outer s H E hr, ?_⟩
  obtain ⟨hl, O, b, S0, ds, R, hv, hq⟩ := hsp
  exact ⟨⟨H, O, b, []⟩, O, b, _, S0, start_rel R hv, end_sp hq⟩
end

/-! ### a local name that holds a def -/
def fnOfD (l : List (Str × Fn)) : D → Option Fn
  | .gl x => l.lookup x
  | _ => none
def eCallL (i : Nat) (l : List (Str × Fn)) (ma : MA) : ME := fun t S => match t[i]? with
  | some (.sh d) => match fnOfD l d with
    | some F => bnd ma (call F) t S
    | none => .bad
  | _ => .bad
section
variable {X : Cx} {T : List (Addr × Str)} {W : WX} {e : Expr} {es : List Expr} {pos p : Pos} {x : Str}
theorem pd_callL {i : Nat} {l : List (Str × Fn)} {n k : Nat} {m : MA} (hl : ∀ y F, l.lookup y = some F → ∃ ps, ps.length = n ∧ Def X.prog X.w X.K X.mg X.base T y ps F k) (hr : Room k X.A) (tk : Takes X W) (hN : X.N[i]? = some x) (hv : Vis X.env.scope x) (ha : PAs X T W (e :: es) m) (hal : ∀ t S ds t' S', m t S = .ok ds t' S' → ds.length = n)
    (hdb : (x == ("__debug__" : Str)) = false := by decide) (hcd : (x == ("__classdict__" : Str)) = false := by decide) (he : starEach (e :: es) X.env = (false, eval e X.env) :: starEach es X.env := by rfl) (hpl : (backTo pos (starEach es X.env)).any (·.1) = false := by rfl) :
    PD X T W (.Call (.Name x p) (e :: es) [] pos) (eCallL i l m) := by
  refine ⟨fun pins s σ H Q I ⟨G, O, b, t, S, R, h⟩ => ?_⟩
  unfold eCallL at h
  split at h
  · rename_i d ht
    split at h
    · rename_i F hF
      cases d with
      | gl y =>
        obtain ⟨ps, hps, Dd⟩ := hl y F hF
        obtain ⟨fd, G1, B⟩ := Dd.ok
        obtain ⟨o, e1, v, e2, hv2⟩ := R.sl i _ ht
        rw [e2, hv2.1] at e1
        refine wpAny_Call_Name_kw (thn ((pe_var (pos := p) hN hv hdb hcd).run pins s σ H (fun v H1 => v = .ref (He.ga X.K y) ∧ H1 = H) I ⟨_, e1, rfl, rfl⟩) fun u s1 ⟨v, H1, I1, r1, q1⟩ => ?_)
        obtain ⟨rfl, rfl⟩ := q1
        cases r1
        refine PySem.W.callWith_K (h₀ := X.base) I.ok.mod.kin Dd.kp (thn (ha.run pos pins s1 σ _ (fun vs H1 => spT X.K T F ps.length vs H1 Q (WE W σ)) I1 ?_) fun us s2 ⟨vs, H2, I2, r, q⟩ => ⟨I2.kIn, ?_⟩) he hpl
        · have h0 := Post.bnd h
          refine ⟨G, O, b, t, S, R, ?_⟩
          revert h0
          cases em : m t S with
          | ok ds t' S' => exact fun h0 H' O' b' R' hb hs vs hvs => sp_of R' hvs (by rw [hps]; exact hal t S ds t' S' em) (h0 H' O' b' R' hb hs) fun _ _ _ z => z
          | ex cc fs t' S' => exact fun h0 => h0
          | bad => exact fun h0 => h0
        · exact run_fnS G1 hr B (passAt tk σ) I2 r q
      | _ => cases hF
    · exact h.elim
  · exact h.elim
end

/-! ### a lambda handed to a def that tries it -/
abbrev Tg := Str × Str × Str
def tagT (k : Bool) (tag : Str) (te : TE) : TE := if k = true then tTup (tCons (tC (.str tag)) (tCons te tNil)) else tLst (tCons (tC (.str tag)) (tCons te tNil))
def hoP (k : Bool) (xs : List V) : HO := if k = true then .tup xs else .lst xs
def dP (k : Bool) (ds : List D) : D := if k = true then .tup ds else .lst ds
def claOf (K : PySem.W.Frag) (i : Nat) (k : Bool) (q : Tg) : Cla := (.ref (He.ga K q.1), some i, fun a cls d => tRet (tagT k q.2.1 (tXf a cls d (He.ga K q.1) q.2.2 (tVar i))))
def metX (k : Bool) (tb : List Tg) (c : Str) (fs : List (Str × D)) : Option D := match tb.find? fun q => decide (q.1 = c) with
  | some q => (fs.lookup q.2.2).map fun d => dP k [.str q.2.1, d]
  | none => none
def eMet (k : Bool) (told : Str) (tb : List Tg) (m : ME) : ME := fun t S => match m t S with
  | .ok x t' S' => .ok (dP k [.str told, x.1], false) t' S'
  | .ex c fs t' S' => match metX k tb c fs with
    | some d => .ok (d, false) t' S'
    | none => .bad
  | .bad => .bad
def TTm (K : PySem.W.Frag) (n : Nat) (cl : List Cla) (k : Bool) (told : Str) : (XK → Hp → VK → Prop) → Hp → VK → Prop := fun tl H Q =>
  tl (fun cls d H' => ∀ σ' : L2.St, σ'.length = n → wCla K W0 { nx := fun _ H' => Q .non H', rt := Q } cl cls d σ' H') H fun v H1 => ([V.str told, v] : List V).length ≤ sizeLine ∧ ∀ p, H1 p = none → Q (.ref p) (upd H1 p (hoP k [.str told, v]))
section
variable {X : Cx} {T : List (Addr × Str)} {W : WX}
/-- the clauses of such a def, one by one -/
theorem cla_tag {k : Bool} {c n tag f : Str} {i j : Nat} {p1 p2 p3 p4 p6 p7 : Pos} {mk : List Expr → Expr} {hds : List ExceptHandler} {tb : List Tg} (hmk : ∀ (X : Cx) (es : List Expr) (ta : TA), PA X es ta → PE X (mk es) (if k = true then tTup ta else tLst ta))
    (hb : exB X.K c f = true) (hc : Names X c (.ref (He.ga X.K c))) (hi : X.N[i]? = some n) (hl : X.env.kindOf n = some .local) (r : ClaOk X hds (tb.map (claOf X.K i k)))
    (hat : attributeBase (.Name n p3) f X.env (eval (.Name n p3) X.env) = eval (.Name n p3) X.env := by rfl) (hd : (n == ("__debug__" : Str)) = false := by decide) (hcd : (n == ("__classdict__" : Str)) = false := by decide)
    (hs1 : starEach [.Constant (.str tag) j p2, .Attribute (.Name n p3) f p4] X.env = (false, eval (.Constant (.str tag) j p2) X.env) :: starEach [.Attribute (.Name n p3) f p4] X.env := by rfl) (hs2 : starEach [.Attribute (.Name n p3) f p4] X.env = (false, eval (.Attribute (.Name n p3) f p4) X.env) :: starEach [] X.env := by rfl) :
    ClaOk X (.ExceptHandler (some (.Name c p1)) (some n) [.Return (some (mk [.Constant (.str tag) j p2, .Attribute (.Name n p3) f p4])) p6] p7 :: hds) (((c, tag, f) :: tb).map (claOf X.K i k)) := by
  obtain ⟨_, hxf, hno, _, _⟩ := exB_ok hb
  refine .cons hc ⟨hi, hl⟩ (fun a oe cls d pn hz hf => pss_one (ps_ret ?_)) r
  have he : PE (X.suite a ((a, oe) :: pn)) (.Attribute (.Name n p3) f p4) (tXf a cls d (He.ga X.K c) f (tVar i)) := pe_xf hxf hno hz hf (pe_var hi (.inl hl) hd hcd) hat
  have := hmk (X.suite a ((a, oe) :: pn)) _ _ (pa_cons (pe_str (x := tag)) (pa_cons he pa_nil hs2) hs1)
  unfold tagT
  cases k <;> exact this
/-- the def: try: return (told, a()) / except c as n: return (tag, n.f) .. -/
theorem met_gives {Ng : List Str} {x a q told : Str} {sg : Scope} {g : Addr} {cdg : Value} {k : Bool} {j : Nat} {p1 p2 p3 p5 p8 : Pos} {mk : List Expr → Expr} {h₀ : ExceptHandler} {hds : List ExceptHandler} {cl : List Cla} (hmk : ∀ (X : Cx) (es : List Expr) (ta : TA), PA X es ta → PE X (mk es) (if k = true then tTup ta else tLst ta))
    (hNd : Ng.Nodup) (hn : Ng[0]? = some a) (hh : ∀ (s : Shared) (H : Hp), ClaOk (cxOf C8.CX0 X.prog X.w X.K X.mg X.base Ng x sg g cdg X.A X.stack s H C8.E0).nox (h₀ :: hds) cl)
    (hs1 : ∀ env, starEach [.Constant (.str told) j p5, .Call (.Name a p1) [] [] p2] env = (false, eval (.Constant (.str told) j p5) env) :: starEach [.Call (.Name a p1) [] [] p2] env) (hs2 : ∀ env, starEach [.Call (.Name a p1) [] [] p2] env = (false, eval (.Call (.Name a p1) [] [] p2) env) :: starEach [] env) :
    LamX.GivesTo X Ng x sg g cdg [.Try [.Return (some (mk [.Constant (.str told) j p5, .Call (.Name a p1) [] [] p2])) p3] (h₀ :: hds) [] [] p8] a q (TTm X.K Ng.length cl k told) := by
  intro f c' s H Q tl act hc h
  have h0 : (L2.start Ng [V.ref f])[0]? = some (some (V.ref f)) := rfl
  refine ⟨_, pss_one (ps_try_cla (X := (cxOf C8.CX0 X.prog X.w X.K X.mg X.base Ng x sg g cdg X.A X.stack s H C8.E0).nox) (Wr := W0)
      (tb := fun W D σ H => ∃ Ech : XK, (∀ cls d σ' H', Ech cls d H' → W cls d σ' H') ∧ σ[0]? = some (some (.ref f)) ∧ H c' = some (LamX.CodeO c' q) ∧ tl Ech H fun v H1 => ([V.str told, v] : List V).length ≤ sizeLine ∧ ∀ p, H1 p = none → D.rt (.ref p) (upd H1 p (hoP k [.str told, v])))
      rfl rfl hNd takes0 (fun W pn xe tk _ => ?_) (hh s H)), ?_⟩
  · refine ⟨fun pins s' σ H' D I h' => ?_⟩
    obtain ⟨Ech, hW, h1, h2, h3⟩ := h'
    have hp := act W pn xe Ech p1 p2 tk hW
    have hq := hmk _ _ _ (pa_cons (pe_str (x := told) (j := j) (pos := p5)) (pa_cons hp pa_nil (hs2 _)) (hs1 _))
    refine (pss_one (ps_ret (pos := p3) hq)).run pins s' σ H' D I ?_
    cases k <;> exact ⟨h1, h2, h3⟩
  · exact ⟨_, fun cls d σ' H' z hl => z σ' hl, h0, hc, h⟩
end
end TD

set_option Elab.async false
set_option linter.all false
set_option maxRecDepth 100000
set_option maxHeartbeats 1000000
set_option autoImplicit false
namespace TD
open PySem PySem.Spec PyProof.Rows L2

section
variable {K : PySem.W.Frag} {T : List (Addr × Str)} {G : Gh} {O : Addr → Prop} {b : List Addr} {t : Ev} {S : Sto} {σ : L2.St} {H H' : Hp}
/-- all but the tables stands -/
theorem Rel.grownN (R : Rel K T G O b t S σ H) (hk : LamX.ExtN H H') (hT : LamX.Tabs T H') : Rel K T G O b t S σ H' ∧ Stays H O H' O := by
  have hs : Stays H O H' O := fun a o e n h => ⟨hk a o e n, h⟩
  have z := R.self
  have R1 : Rel K T ⟨H, O, b, []⟩ O b [] S [] H' := by
    refine ⟨rfl, fun i s e => by simp at e, z.inj, z.nb, z.fr, z.bl, fun n d q e1 e2 => ?_, z.bnd, z.bfr, fun a u e n _ => hk a u e n, fun a e => ?_, z.pre, fun a q => q, z.o0t, fun a h => ?_, fun a h => .inl h, z.b0, hT, fun q hq => by cases hq⟩
    · obtain ⟨q1, q2⟩ := R.st n d q e1 e2
      exact ⟨q1, q2.mono hs (List.prefix_refl _) fun u e n => hk q u e n⟩
    · exact fun u e2 n2 => e u (hk a u e2 n2) n2
    · obtain ⟨u, e, n⟩ := R.ot a h
      exact ⟨u, hk a u e n, n⟩
  exact ⟨R.step R1, hs⟩
theorem Atf.lookup {f : Str} {d : D} : ∀ {fs : List (Str × D)} {xs : List (Str × V)}, Atf K H O b fs xs → fs.lookup f = some d → ∃ v, xs.lookup f = some v ∧ At K H O b d v
  | [], _, _, h => by simp at h
  | (g, d') :: fs, _, ⟨y, ys, e, q, r⟩, h => by
    subst e
    rw [List.lookup_cons] at h ⊢
    cases hb : f == g with
    | true =>
      rw [hb] at h
      cases h
      exact ⟨y, rfl, q⟩
    | false =>
      rw [hb] at h
      exact Atf.lookup r h
theorem dP_at {k : Bool} {p : Addr} {x y : D} {v w : V} (ho : ¬ O p) (e : H p = some (hoP k [v, w])) (hx : At K H O b x v) (hy : At K H O b y w) : At K H O b (dP k [x, y]) (V.ref p) := by
  cases k
  · exact ⟨p, _, rfl, ho, e, v, [w], rfl, hx, w, [], rfl, hy, rfl⟩
  · exact ⟨p, _, rfl, ho, e, v, [w], rfl, hx, w, [], rfl, hy, rfl⟩
theorem nt_hoP {k : Bool} {xs : List V} : nt (hoP k xs) := by
  cases k
  · exact nt_lst
  · exact nt_tup
/-- which clause takes it -/
theorem met_cla {k : Bool} {i n : Nat} {E : Ends} {c : Str} {fs : List (Str × D)} {xs : List (Str × V)} {d : D} {dx : Addr} {σ' : L2.St} (hi : i < n) (hl : σ'.length = n) (hdx : H dx = some (.xd xs)) (hf : Atf K H O b fs xs) :
    ∀ {tb : List Tg}, (∀ q ∈ tb, PySem.W.exmOne K (.ref (He.ga K c)) (.ref (He.ga K q.1)) = some (decide (q.1 = c))) → metX k tb c fs = some d →
      (∀ tag v d', At K H O b d' v → d = dP k [.str tag, d'] → ∀ p, H p = none → E.rt (.ref p) (upd H p (hoP k [.str tag, v]))) → wCla K W0 E (tb.map (claOf K i k)) (.ref (He.ga K c)) (some dx) σ' H
  | [], _, h, _ => by simp [metX] at h
  | q :: tb, hE, h, hQ => by
    refine ⟨decide (q.1 = c), hE q List.mem_cons_self, fun hc a ha => ?_, fun hc => met_cla hi hl hdx hf (fun q' hq' => hE q' (List.mem_cons_of_mem _ hq')) ?_ hQ⟩
    · have ec : q.1 = c := of_decide_eq_true hc
      have h' : (fs.lookup q.2.2).map (fun d => dP k [.str q.2.1, d]) = some d := by
        unfold metX at h
        rw [List.find?_cons, hc] at h
        exact h
      obtain ⟨d', e1, e2⟩ := Option.map_eq_some_iff.mp h'
      obtain ⟨v, e3, hv⟩ := Atf.lookup hf e1
      have hs : (σ'.set i (some (V.ref a)))[i]? = some (some (V.ref a)) := List.getElem?_set_self (by rw [hl]; exact hi)
      have key := hQ q.2.1 v d' hv e2.symm
      have h2 : ([V.str q.2.1, v] : List V).length ≤ sizeLine := by show 2 ≤ sizeLine; decide
      show tRet (tagT k q.2.1 (tXf a (.ref (He.ga K c)) (some dx) (He.ga K q.1) q.2.2 (tVar i))) (outE (some i) E) (σ'.set i (some (V.ref a))) H
      cases k
      · exact ⟨_, hs, rfl, by rw [ec], dx, xs, v, rfl, hdx, e3, h2, key⟩
      · exact ⟨_, hs, rfl, by rw [ec], dx, xs, v, rfl, hdx, e3, h2, key⟩
    · unfold metX at h ⊢
      rw [List.find?_cons, hc] at h
      exact h
end
section
variable {X : Cx} {T : List (Addr × Str)} {W : WX}
/-- x(lambda: body), x a def that tries it -/
theorem pd_met {k : Bool} {told x a : Str} {tb : List Tg} {i kk : Nat} {m : ME} {c P : Addr} {pg : Arguments} {bg : List Stmt} {sg : Scope} {Ng : List Str} {params : Arguments} {body : Expr} {scope : Scope} {p lpos pos : Pos} (hg : Gl X x) (gl : X.mg x = some (.ref (He.ga X.K x)))
    (F : ∃ fd, FunD X.K x x pg bg sg [] [] (He.ga X.K x) fd) (hb : ∀ (kV doc pm : Value) (an : Option Addr) (cdv ct : Value) (us : List Value), us.length = [a].length → bindArgs (PySem.W.fnOf x x pg bg sg .none kV doc pm an cdv ct) ⟨us, []⟩ = pure ([a].zip us))
    (Sg : FnScope Ng [a] sg) (hNg : Ng[0]? = some a) (hva : Vis sg a) (hi : i < Ng.length)
    (hG : ∀ q, LamX.GivesTo X Ng x sg (He.ga X.K x) (.ref (He.codeOf X.K (x, none))) bg a q (TTm X.K Ng.length (tb.map (claOf X.K i k)) k told))
    (hE : ∀ q ∈ tb, ∀ q' ∈ tb, PySem.W.exmOne X.K (.ref (He.ga X.K q.1)) (.ref (He.ga X.K q'.1)) = some (decide (q'.1 = q.1)))
    (TB : LamX.TabB X.base X.mg c P) (hcode : X.env.code = .ref c) (hmT : (P, X.env.qual ++ "<lambda>") ∈ T) (hu : ∀ p ∈ T, p.1 = P → p.2 = X.env.qual ++ "<lambda>") (hr : Room (kk + 2) X.A) (L : LamX.LamS X.env.scope scope) (hdef : defaultsOf params X.env = ([], []))
    (hbind : ∀ (q : Str) (cl : List (Str × Addr)) (pm cv ctv : Value), bindArgs (PySem.W.kla_fn "<lambda>" q params body scope cl pm cv ctv) ⟨[], []⟩ = pure [])
    (hbody : ∀ (A : Around) (outer : List Env) (s : Shared) (H : Hp) (E : XK) (f c' : Addr), Room kk (A.deeper (LamX.lamEnv X scope s.heap.objs.size f c')) → PD (LamX.lamCx X A outer s H E scope f c') T (wE E) body m)
    (hdb : (x == ("__debug__" : Str)) = false := by decide) (hd : (a == ("__debug__" : Str)) = false := by decide) (hcd : (a == ("__classdict__" : Str)) = false := by decide) :
    PD X T W (.Call (.Name x p) [.Lambda params body scope lpos] [] pos) (eMet k told tb m) := by
  obtain ⟨fd, F⟩ := F
  have B := FunD.bindsN F hb
  have kp := F.kp
  obtain ⟨oc, od, dV, kV, doc, pm, an, cdv, ct, osl, rfl, lk, hcdi, _, _⟩ := F.ex
  obtain ⟨c0, ec⟩ := He.codeIn_ref hcdi
  have e2 : cdv = .ref (He.codeOf X.K (x, none)) := by rw [ec, He.codeOf_eq (p := (x, none)) lk (by rw [ec] <;> rfl)]
  subst e2
  refine PE.imp' (LamX.pe_lamcall (t := fun E => tD X.K T (wE E) m) hg gl kp lk hcdi B Sg hNg hva (hG _) TB hcode hmT hu hr L hdef hbind hbody hdb hd hcd) fun σ H Q ⟨G, O, b, t, S, R, h⟩ => ?_
  refine ⟨R.tabs, fun H1 hx T1 => ?_⟩
  obtain ⟨R1, s1⟩ := R.grownN hx T1
  have h1 := h.later (List.prefix_refl _) s1
  refine ⟨G, O, b, t, S, R1, ?_⟩
  unfold eMet at h1
  cases em : m t S with
  | bad => simp only [em] at h1; exact h1.elim
  | ok x1 t1 S1 =>
    simp only [em] at h1
    intro H2 O2 b2 R2 hb2 s2 v hv
    obtain ⟨O3, R3, s3, a3⟩ := R2.share hv
    refine ⟨by show 2 ≤ sizeLine; decide, fun q hq => ?_⟩
    obtain ⟨R4, s4⟩ := R3.new hq nt_hoP
    exact h1 _ O3 b2 R4 hb2 ((s2.trans s3).trans s4) _ (.inl ⟨rfl, dP_at (R3.free hq) upd_same rfl (a3.mono s4 (List.prefix_refl _))⟩)
  | ex cc fs t1 S1 =>
    simp only [em] at h1
    intro H2 O2 b2 d xs R2 hb2 s2 hdx hf
    cases ex : metX k tb cc fs with
    | none => simp only [ex] at h1; exact h1.elim
    | some dd =>
      simp only [ex] at h1
      intro σ' hl
      have hcc : ∃ q ∈ tb, q.1 = cc := by
        unfold metX at ex
        split at ex
        · rename_i q e
          exact ⟨q, List.mem_of_find?_eq_some e, by have := List.find?_some e; exact of_decide_eq_true this⟩
        · cases ex
      obtain ⟨q0, hq0, e0⟩ := hcc
      refine met_cla hi hl hdx hf (fun q hq => by rw [← e0]; exact hE q0 hq0 q hq) ex fun tag v d' hv ed p hp => ?_
      obtain ⟨R4, s4⟩ := R2.new hp nt_hoP
      subst ed
      exact h1 _ O2 b2 R4 hb2 (s2.trans s4) _ (.inl ⟨rfl, dP_at (R2.free hp) upd_same rfl (hv.mono s4 (List.prefix_refl _))⟩)
end
end TD

set_option Elab.async false
set_option linter.all false
set_option maxRecDepth 100000
set_option maxHeartbeats 1000000
set_option autoImplicit false
namespace TD
open PySem PySem.Spec PyProof.Rows L2

/-! ### sorted(xs, key=lambda a: a[0] * (c // a[1])) -/
def keyFr (cm : Int) : D → Option Int
  | .tup [.int n, .int d] => if divOk d = true ∧ mulOk n (cm / d) = true then some (n * (cm / d)) else none
  | _ => none
def keysFr (cm : Int) : List D → Option (List Int)
  | [] => some []
  | d :: ds => match keyFr cm d, keysFr cm ds with
    | some k, some ks => some (k :: ks)
    | _, _ => none
/-- merging and sorting with fuel, so that the kernel can run them -/
def mgF {α : Type} (le : α → α → Bool) : Nat → List α → List α → List α
  | 0, _, _ => []
  | _ + 1, [], ys => ys
  | _ + 1, x :: xs, [] => x :: xs
  | n + 1, x :: xs, y :: ys => if le x y = true then x :: mgF le n xs (y :: ys) else y :: mgF le n (x :: xs) ys
theorem mgF_eq {α : Type} (le : α → α → Bool) : ∀ (n : Nat) (xs ys : List α), xs.length + ys.length < n → mgF le n xs ys = List.merge xs ys le
  | 0, _, _, h => absurd h (Nat.not_lt_zero _)
  | _ + 1, [], ys, _ => by rw [List.merge.eq_def]; rfl
  | _ + 1, x :: xs, [], _ => by rw [List.merge.eq_def]; rfl
  | n + 1, x :: xs, y :: ys, h => by
    rw [List.cons_merge_cons]
    show (if le x y = true then x :: mgF le n xs (y :: ys) else y :: mgF le n (x :: xs) ys) = _
    simp only [List.length_cons] at h
    rw [mgF_eq le n xs (y :: ys) (by simp only [List.length_cons]; omega), mgF_eq le n (x :: xs) ys (by simp only [List.length_cons]; omega)]
def msF {α : Type} (le : α → α → Bool) : Nat → List α → List α
  | _, [] => []
  | _, [a] => [a]
  | 0, _ => []
  | n + 1, l => mgF le (l.length + 1) (msF le n (l.take ((l.length + 1) / 2))) (msF le n (l.drop ((l.length + 1) / 2)))
theorem msF_eq {α : Type} (le : α → α → Bool) : ∀ (n : Nat) (l : List α), l.length ≤ n → msF le n l = List.mergeSort l le
  | _, [], _ => by rw [List.mergeSort.eq_1]; cases ‹Nat› <;> rfl
  | _, [a], _ => by rw [List.mergeSort.eq_2]; cases ‹Nat› <;> rfl
  | 0, _ :: _ :: _, h => absurd h (by simp)
  | n + 1, a :: b :: l, h => by
    rw [List.mergeSort.eq_3]
    simp only [List.length_cons] at h
    have h1 : ((a :: b :: l).take (((a :: b :: l).length + 1) / 2)).length ≤ n := by rw [List.length_take]; simp only [List.length_cons]; omega
    have h2 : ((a :: b :: l).drop (((a :: b :: l).length + 1) / 2)).length ≤ n := by rw [List.length_drop]; simp only [List.length_cons]; omega
    show mgF le ((a :: b :: l).length + 1) (msF le n ((a :: b :: l).take (((a :: b :: l).length + 1) / 2))) (msF le n ((a :: b :: l).drop (((a :: b :: l).length + 1) / 2))) = _
    rw [msF_eq le n _ h1, msF_eq le n _ h2, mgF_eq le _ _ _ (by rw [List.length_mergeSort, List.length_mergeSort, List.length_take, List.length_drop]; omega)]
    unfold List.MergeSort.Internal.splitInTwo
    simp only [List.splitAt_eq]
def sortBy (ps : List (D × Int)) : List (D × Int) := msF (fun a b => decide (a.2 ≤ b.2)) ps.length ps
theorem sortBy_eq (ps : List (D × Int)) : sortBy ps = ps.mergeSort fun a b => decide (a.2 ≤ b.2) := msF_eq _ _ _ (Nat.le_refl _)
def sortFr (cm : Int) (ds : List D) : Option (List D) := (keysFr cm ds).map fun ks => (sortBy (ds.zip ks)).map (·.1)
def eSortFr (jc : Nat) (m : ME) : ME := eb m fun x => fun t S => match t[jc]?, x with
  | some (.sh (.int cm)), .lst ds => if ds.length ≤ lim then match sortFr cm ds with
      | some r => .ok (.lst r, true) t S
      | none => .bad
    else .bad
  | _, _ => .bad
section
variable {M : Program} {w : World} {A : Around} {E : Value → Shared → Prop} {s : Shared} {Q : Value → Shared → Prop} {env : Env} {m : Str → Option Value} {c pa : Addr} {n d cm : Int} {t1 t2 t3 : Tok} {nT nC : Str} {p1 p2 p3 p4 p5 p6 p7 p8 p9 : Pos} {j0 j1 : Nat}
/-- the body of such a lambda -/
theorem keyBody (hk : env.scope.kind = .function) (hl : env.kindOf nT = some .local) (hf : env.kindOf nC = some .free) (hn : s.heap.Ns env.locals m) (hv : m nT = some (.ref pa)) (hc : env.cells.lookup nC = some c) (hcell : s.heap.IsCell c (some (.int cm t3))) (ht : IsTup s.heap pa #[.int n t1, .int d t2])
    (hd : divOk d = true) (hm : mulOk n (cm / d) = true) (d1 : (nT == ("__debug__" : Str)) = false) (d2 : (nC == ("__debug__" : Str)) = false) (d3 : (nC == ("__classdict__" : Str)) = false)
    (h : ∀ t tk, Q (.int (n * (cm / d)) t) { s with toks := tk }) :
    wpAny (model M w) A (eval (.BinOp (.Subscript (.Name nT p1) (.Constant (.int 0) j0 p2) p3) .Mult (.BinOp (.Name nC p4) .FloorDiv (.Subscript (.Name nT p5) (.Constant (.int 1) j1 p6) p7) p8) p9) env) Q E s := by
  have nm : ∀ {s' : Shared} {Q' : Value → Shared → Prop} {p : Pos}, s'.heap = s.heap → Q' (.ref pa) s' → wpAny (model M w) A (eval (.Name nT p) env) Q' E s' := fun {s' Q' p} e q => wpAny_Name (wpAny_loadName_local hk hl (by rw [e]; exact hn) hv q) d1
  have cn : ∀ {s' : Shared} {Q' : Value → Shared → Prop} {p : Pos}, s'.heap = s.heap → Q' (.int cm t3) s' → wpAny (model M w) A (eval (.Name nC p) env) Q' E s' := fun {s' Q' p} e q => wpAny_Name (wpAny_loadName_free (hn := d3) hk hf hc (by rw [e]; exact hcell) q) d2
  have ix : ∀ {s' : Shared} {Q' : Value → Shared → Prop} {i j : Nat} {x : Value} {q1 q2 q3 : Pos}, s'.heap = s.heap → i < 2 → (#[Value.int n t1, .int d t2] : Array Value)[i]? = some x → (∀ s'' : Shared, s''.heap = s.heap → (∃ tk, s'' = { s' with toks := tk }) → Q' x s'') → wpAny (model M w) A (eval (.Subscript (.Name nT q1) (.Constant (.int (i : Int)) j q2) q3) env) Q' E s' := fun {s' Q' i j x q1 q2 q3} e hi hx q => by
    refine Subscript_ (nm e (wpAny_Constant_int ?_))
    refine subscriptTail_builtinR (x := x) (T := "tuple") ⟨_, (by rw [show ({ s' with toks := s'.toks + 1 } : Shared).heap = s.heap from e]; exact ht.choose_spec.1), ht.choose_spec.2.1⟩ slot_tuple_getitem.lookup ?_ (by rfl)
    refine getItem_tuple (j := i) (by rw [show ({ s' with toks := s'.toks + 1 } : Shared).heap = s.heap from e]; exact ht) (by omega) (by omega) ?_ hx ⟨rfl, q _ e ⟨_, rfl⟩⟩
    rcases (show i = 0 ∨ i = 1 by omega) with z | z <;> subst z <;> rfl
  refine wpAny_BinOp (ix (i := 0) rfl (by omega) rfl fun s1 e1 ⟨k1, h1⟩ => ?_)
  refine wpAny_BinOp (cn e1 (ix (i := 1) e1 (by omega) rfl fun s2 e2 ⟨k2, h2⟩ => ?_))
  unfold divOk at hd
  rw [Bool.and_eq_true, decide_eq_true_eq, decide_eq_true_eq] at hd
  refine floordiv_int (by omega) ?_ (.inl (PyProof.noPylong_of_log2 hd.2))
  rw [Int.fdiv_eq_ediv_of_nonneg cm (by omega)]
  refine mul_int ?_ (L2.CMulW.ok (show n.natAbs.log2 + (cm / d).natAbs.log2 < 1000000 from of_decide_eq_true hm))
  subst h2
  subst h1
  exact h _ _
end

/-- the function's call -/
theorem keyCall {f c' cc : Addr} {oc : Obj} {vs0 : Array Value} {tq t1 t2 t3 : Tok} {params : Arguments} {q : Str} {scope : Scope} {cl : List (Str × Addr)} {pm ctv : Value} {nT nC : Str} {P : Program} {w : World} {A : Around} {s : Shared} {pa : Addr} {n d cm : Int} {p1 p2 p3 p4 p5 p6 p7 p8 p9 : Pos} {j0 j1 : Nat}
    (hroom : A.depth < recursionLimit) (ho : s.heap.get? f = some (PySem.W.kla_obj "<lambda>" q params (.BinOp (.Subscript (.Name nT p1) (.Constant (.int 0) j0 p2) p3) .Mult (.BinOp (.Name nC p4) .FloorDiv (.Subscript (.Name nT p5) (.Constant (.int 1) j1 p6) p7) p8) p9) scope cl pm c' ctv))
    (hcode : s.heap.get? c' = some oc) (hcd : oc.data = .fields vs0) (hcq : vs0[1]? = some (.str q tq)) (hlim : s.heap.NoLimit) (hS : scope.kind = .function) (hco : scope.isCoroutine = false) (hge : scope.isGenerator = false) (hnc : ∀ y ∈ scope.names, y.2 ≠ .cell) (hT : scope.names.lookup nT = some .local) (hF : scope.names.lookup nC = some .free)
    (hb : ∀ v : Value, bindArgs (PySem.W.kla_fn "<lambda>" q params (.BinOp (.Subscript (.Name nT p1) (.Constant (.int 0) j0 p2) p3) .Mult (.BinOp (.Name nC p4) .FloorDiv (.Subscript (.Name nT p5) (.Constant (.int 1) j1 p6) p7) p8) p9) scope cl pm (.ref c') ctv) ⟨[v], []⟩ = pure [(nT, v)])
    (hc : cl.lookup nC = some cc) (hcell : s.heap.IsCell cc (some (.int cm t3))) (ht : IsTup s.heap pa #[.int n t1, .int d t2]) (hd : divOk d = true) (hm : mulOk n (cm / d) = true) (d1 : (nT == ("__debug__" : Str)) = false) (d2 : (nC == ("__debug__" : Str)) = false) (d3 : (nC == ("__classdict__" : Str)) = false) :
    wpAny (model P w) A (PySem.call (.ref f) [.ref pa]) (PySem.W.KeyPure (.int (n * (cm / d))) s) (fun _ _ => False) s := by
  have z : codeAny (model P w) A (.call (.ref f) ⟨[.ref pa], []⟩) (fun r s' => ∃ v, r = .ok (.ret v) ∧ PySem.W.KeyPure (.int (n * (cm / d))) s v s') s := by
    refine PySem.W.kla_callFunE hroom ho rfl hco hge rfl ⟨c', oc, vs0, tq, rfl, hcode, hcd, hcq⟩ ?_
    rw [hb]
    refine wpAny_pure (wpAny_newFunctionEnv hnc (fun y hy => by rw [List.mem_singleton.mp hy]; exact hT) (fun h₁ hns hsb => ⟨hlim.fresh _ hsb, ?_⟩) hS)
    have kp : ∀ b o, s.heap.get? b = some o → h₁.get? b = some o := fun b o e => hsb.extBut b o (Nat.ne_of_lt (Heap.lt_size e)) (Heap.get?_push_of_some _ e)
    refine PySem.W.kla_codeExpr ?_
    refine keyBody (t1 := t1) (t2 := t2) (t3 := t3) (c := cc) (pa := pa) hS hT hF hns (by simp [List.lookup]) hc ?_ ?_ hd hm d1 d2 d3 fun t tk => ?_
    · obtain ⟨oo, e1, e2⟩ := hcell
      exact ⟨oo, kp _ _ e1, e2⟩
    · obtain ⟨oo, e1, e2⟩ := ht
      exact ⟨oo, kp _ _ e1, e2⟩
    · exact ⟨_, rfl, h₁, _, rfl, kp, .int _ _⟩
  refine wpAny_call (codeAny_mono z fun r s' hq => ?_)
  obtain ⟨v, e, hq⟩ := hq
  subst e
  exact hq
theorem keysFr_len {cm : Int} : ∀ {ds : List D} {ks : List Int}, keysFr cm ds = some ks → ks.length = ds.length
  | [], ks, h => by cases h; rfl
  | d :: ds, ks, h => by
    unfold keysFr at h
    split at h
    · rename_i k ks' e1 e2
      cases h
      rw [List.length_cons, List.length_cons, keysFr_len e2]
    · cases h
theorem keyFr_inv {cm : Int} {d : D} {k : Int} (h : keyFr cm d = some k) : ∃ n e, d = .tup [.int n, .int e] ∧ divOk e = true ∧ mulOk n (cm / e) = true ∧ k = n * (cm / e) := by
  unfold keyFr at h
  split at h
  · rename_i n e
    split at h
    · rename_i c
      exact ⟨n, e, rfl, c.1, c.2, (Option.some.inj h).symm⟩
    · cases h
  · cases h
/-- the rows that are sorted -/
theorem each_rows {K : PySem.W.Frag} {H : Hp} {O : Addr → Prop} {b : List Addr} {cm : Int} : ∀ {ds : List D} {ks : List Int} {vs : List V} {us : List Value}, keysFr cm ds = some ks → Ats K H O b ds vs → Vals vs us →
    ∃ bs : List (V × D × Int), bs.map (·.1) = vs ∧ bs.map (·.2) = ds.zip ks ∧ PySem.W.EachIs (fun v x => RelV x.1 v ∧ At K H O b x.2.1 x.1 ∧ keyFr cm x.2.1 = some x.2.2) us bs
  | [], ks, vs, us, hk, ha, hv => by
    cases hk
    rw [show vs = [] from ha] at hv ⊢
    cases hv
    exact ⟨[], rfl, rfl, .nil⟩
  | d :: ds, ks, vs, us, hk, ⟨y, ys, ev, h1, h2⟩, hv => by
    subst ev
    cases hv with
    | @cons _ u _ us' r rr =>
      unfold keysFr at hk
      split at hk
      · rename_i k ks' e1 e2
        cases hk
        obtain ⟨bs, g1, g2, g3⟩ := each_rows e2 h2 rr
        exact ⟨(y, d, k) :: bs, by rw [List.map_cons, g1], by rw [List.map_cons, g2]; rfl, .cons ⟨r, h1, e1⟩ g3⟩
      · cases hk
theorem ats_of {K : PySem.W.Frag} {H : Hp} {O : Addr → Prop} {b : List Addr} : ∀ {bs : List (V × D × Int)}, (∀ x ∈ bs, At K H O b x.2.1 x.1) → Ats K H O b (bs.map fun x => x.2.1) (bs.map (·.1))
  | [], _ => rfl
  | x :: bs, h => ⟨x.1, _, rfl, h x List.mem_cons_self, ats_of fun y hy => h y (List.mem_cons_of_mem _ hy)⟩
theorem vals_of_each {R : Value → V × D × Int → Prop} : ∀ {us : List Value} {bs : List (V × D × Int)}, (∀ v x, R v x → RelV x.1 v) → PySem.W.EachIs R us bs → Vals (bs.map (·.1)) us
  | _, _, _, .nil => .nil
  | _, _, hR, .cons h t => .cons (hR _ _ h) (vals_of_each hR t)
theorem each_mem {R : Value → V × D × Int → Prop} : ∀ {us : List Value} {bs : List (V × D × Int)}, PySem.W.EachIs R us bs → ∀ x ∈ bs, ∃ v, R v x
  | _, _, .nil, x, h => by cases h
  | _, _, .cons h t, x, hx => by
    rcases List.mem_cons.mp hx with e | hx
    · rw [e]; exact ⟨_, h⟩
    · exact each_mem t x hx
section
variable {X : Cx} {T : List (Addr × Str)} {W : WX}
theorem pd_sortFr {e : Expr} {m : ME} {jc : Nat} {c P : Addr} {params : Arguments} {scope : Scope} {nT nC : Str} {p0 pos lpos kpos p1 p2 p3 p4 p5 p6 p7 p8 p9 : Pos} {j0 j1 : Nat}
    (hg : Gl X "sorted") (hm : X.mg "sorted" = none) (hv : bootBuiltins "sorted" = some (.builtin "sorted")) (he : PD X T W e m) (hN : X.N[jc]? = some nC)
    (TB : LamX.TabB X.base X.mg c P) (hcode : X.env.code = .ref c) (hmT : (P, X.env.qual ++ "<lambda>") ∈ T) (hu : ∀ p ∈ T, p.1 = P → p.2 = X.env.qual ++ "<lambda>") (hr : Room 3 X.A) (hdef : defaultsOf params X.env = ([], []))
    (hS : scope.kind = .function) (hco : scope.isCoroutine = false) (hge : scope.isGenerator = false) (hnc : ∀ y ∈ scope.names, y.2 ≠ .cell) (hT : scope.names.lookup nT = some .local) (hF : scope.names.lookup nC = some .free)
    (hfree : ∀ y ∈ scope.names, y.2 = .free → X.env.scope.names.lookup y.1 = some .cell)
    (hb : ∀ (q : Str) (cl : List (Str × Addr)) (pm cv ctv : Value) (v : Value), bindArgs (PySem.W.kla_fn "<lambda>" q params (.BinOp (.Subscript (.Name nT p1) (.Constant (.int 0) j0 p2) p3) .Mult (.BinOp (.Name nC p4) .FloorDiv (.Subscript (.Name nT p5) (.Constant (.int 1) j1 p6) p7) p8) p9) scope cl pm cv ctv) ⟨[v], []⟩ = pure [(nT, v)])
    (d1 : (nT == ("__debug__" : Str)) = false := by decide) (d2 : (nC == ("__debug__" : Str)) = false := by decide) (d3 : (nC == ("__classdict__" : Str)) = false := by decide)
    (hs0 : starEach (e :: []) X.env = (false, eval e X.env) :: starEach [] X.env := by rfl) (hse : backTo pos (starEach (e :: []) X.env) = (false, eval e X.env) :: backTo pos (starEach [] X.env) := by rfl) (hpl : (backTo pos (starEach (e :: []) X.env)).any (·.1) = false := by rfl)
    (hall : (backToKw pos (keywordEach [⟨some "key", .Lambda params (.BinOp (.Subscript (.Name nT p1) (.Constant (.int 0) j0 p2) p3) .Mult (.BinOp (.Name nC p4) .FloorDiv (.Subscript (.Name nT p5) (.Constant (.int 1) j1 p6) p7) p8) p9) scope lpos, kpos⟩] X.env)).all (·.1.isSome) = true := by rfl)
    (hnone : (backToKw pos (keywordEach [⟨some "key", .Lambda params (.BinOp (.Subscript (.Name nT p1) (.Constant (.int 0) j0 p2) p3) .Mult (.BinOp (.Name nC p4) .FloorDiv (.Subscript (.Name nT p5) (.Constant (.int 1) j1 p6) p7) p8) p9) scope lpos, kpos⟩] X.env)).any (·.1.isNone) = false := by rfl)
    (hks : (backToKw pos (keywordEach [⟨some "key", .Lambda params (.BinOp (.Subscript (.Name nT p1) (.Constant (.int 0) j0 p2) p3) .Mult (.BinOp (.Name nC p4) .FloorDiv (.Subscript (.Name nT p5) (.Constant (.int 1) j1 p6) p7) p8) p9) scope lpos, kpos⟩] X.env)).filterMap (·.1) = [("key" : Str)] := by rfl) :
    PD X T W (.Call (.Name "sorted" p0) [e] [⟨some "key", .Lambda params (.BinOp (.Subscript (.Name nT p1) (.Constant (.int 0) j0 p2) p3) .Mult (.BinOp (.Name nC p4) .FloorDiv (.Subscript (.Name nT p5) (.Constant (.int 1) j1 p6) p7) p8) p9) scope lpos, kpos⟩] pos) (eSortFr jc m) := by
  refine ⟨fun pins s σ H Q I ⟨G, O, b, t, S, R, h⟩ => ?_⟩
  refine wpAny_Call_Name_kw (ld_blt I hg hm hv ?_)
  refine PyProof.Rows.callWith_kw (thn ((pa_cons he pa_nil hs0).run pos pins s σ H (fun vs H1 => ∃ v O1 b1 ds cm t1 S1 r, vs = [v] ∧ Rel X.K T G O1 b1 t1 S1 σ H1 ∧ b <+: b1 ∧ Stays H O H1 O1 ∧ At X.K H1 O1 b1 (.lst ds) v ∧ t1[jc]? = some (.sh (.int cm)) ∧ ds.length ≤ lim ∧ sortFr cm ds = some r ∧ Post X.K T W G O1 b1 σ H1 (.ok (.lst r, true) t1 S1) (KD X.K G σ Q)) I ?_) fun us s1 ⟨vs, H1, I1, r1, v, O1, b1, ds, cm, t1, S1, r, ev, R1, hb1, st1, hv1, hj, hlen, hsort, h1⟩ => ?_) hse hpl hall hnone
  · refine useD R h fun O1 b1 x t1 S1 H1 v R1 hb1 s1 hv h1 => ?_
    split at h1
    · rename_i cm ds hj
      split at h1
      · rename_i hl
        split at h1
        · rename_i r hs
          exact ⟨v, O1, b1, ds, cm, t1, S1, r, rfl, R1, hb1, s1, hv, hj, hl, hs, h1⟩
        · exact h1.elim
      · exact h1.elim
    · exact h1.elim
  · -- the lambda is made
    rw [hks]
    show wpAny _ _ (evalAll [(do let v ← eval (.Lambda params _ scope lpos) X.env; standAt pos; pure v)]) _ _ s1
    refine wpAny_evalAll_cons (wpAny_bind (LamX.lam_make2 I1 TB hcode hmT hu R1.tabs hdef (fun y hy e => I1.ok.has _ (.inl (hfree y hy e))) fun f c' pm ctv H2 s2 I2 eN T2 hf hfn hfr hco' => wpAny_bind (wpAny_standAt (wpAny_pure (wpAny_evalAll_nil ?_)))))
    obtain ⟨R2, st2⟩ := R1.grownN eN T2
    have hv2 := hv1.mono st2 (List.prefix_refl _)
    obtain ⟨a, xs, ea, hoa, ra, qa⟩ := hv2
    subst ev
    subst ea
    obtain ⟨u, eu, ru⟩ := r1.one
    subst eu
    cases ru
    obtain ⟨its, rv, pl, hz⟩ := I2.list (.inl (.inl ra))
    obtain ⟨ks, hks1, hks2⟩ := Option.map_eq_some_iff.mp hsort
    obtain ⟨bs, g1, g2, g3⟩ := each_rows hks1 qa rv
    have hlb : bs.length = ds.length := by
      have := congrArg List.length g1
      rw [List.length_map, qa.length] at this
      exact this
    -- the captured name
    obtain ⟨oj, ej, vj, ej2, hvj⟩ := R2.sl jc _ hj
    rw [ej2, show vj = _ from hvj] at ej
    have hcellk : X.env.scope.names.lookup nC = some .cell := hfree (nC, .free) (PySem.mem_of_lookup hF) rfl
    obtain ⟨mm, hnm, hlk⟩ := I2.loc
    obtain ⟨uc, rc, lc⟩ := hlk jc nC _ hN ej (.inr (.inl hcellk))
    obtain ⟨tc, euc⟩ := rc
    subst euc
    obtain ⟨cc, hcc, hcell⟩ : ∃ cc, X.env.cells.lookup nC = some cc ∧ s2.heap.IsCell cc (some (.int cm tc)) := by
      rcases lc with ⟨z, _⟩ | ⟨_, cc, z1, z2⟩
      · have z' : X.env.scope.names.lookup nC = some .local := z
        rw [hcellk] at z'; cases z'
      · exact ⟨cc, z1, z2⟩
    have hclo : (cloFrom X.env.cells scope.names []).lookup nC = some cc := NdefX.clo_has (fun y hy e => I2.ok.has _ (.inl (hfree y hy e))) (PySem.mem_of_lookup hF) hcc
    obtain ⟨⟨oc, vs0, tq, hoc, hdc, hvc⟩, _, _⟩ := I2.hok c' _ hco'
    have dp := hr.dp
    have un := hr.un
    refine PySem.W.sorted_key_data (β := V × D × Int) (vs := its) (bs := bs) (R := fun v x => RelV x.1 v ∧ At X.K H2 O1 b1 x.2.1 x.1 ∧ keyFr cm x.2.1 = some x.2.2) (fun x => PyData.int x.2.2) (f := .ref f) (b := false) pl.isList g3 ?_ ?_ ?_ ?_ (PyProof.Rows.ksk_s1 _ _) (fun x => PyProof.Rows.ksk_l1 _ _) (fun x => PyProof.Rows.ksk_t1 _ _) (fun v x hx hm' h' tk hk => ?_) fun out c2 h' tk hk hfresh hout hol hoe => ?_
    · intro d hd d' hd'
      obtain ⟨x, _, rfl⟩ := List.mem_map.mp hd
      obtain ⟨y, _, rfl⟩ := List.mem_map.mp hd'
      rfl
    · refine .inr fun d hd => ?_
      obtain ⟨x, _, rfl⟩ := List.mem_map.mp hd
      exact ⟨fun z => (nomatch z), fun xs z => (nomatch z)⟩
    · rw [hlb]; exact Nat.le_trans hlen (Nat.le_of_lt lim_lt)
    · intro x _
      show X.A.units + 2 + PyData.depth (.int x.2.2) < cLine
      have : PyData.depth (.int x.2.2) ≤ 1 := by simp [PyData.depth]
      omega
    · obtain ⟨q1, q2, q3⟩ := hx
      obtain ⟨n, d, ed, dk, mk, ek⟩ := keyFr_inv q3
      rw [ed] at q2
      obtain ⟨p, ws, ep, op, rp, y1, _, e1, a1, y2, _, e2, a2, e3⟩ := q2
      have ew : ws = [.int n, .int d] := by rw [e1, e2, e3, show y1 = _ from a1, show y2 = _ from a2]
      subst ew
      rw [ep] at q1
      cases q1
      have I3 : Inv X pins σ H2 { s2 with heap := h', toks := tk } := I2.kept hk
      obtain ⟨its3, rv3, pt3, _⟩ := I3.tuple (.inl (.inl rp))
      obtain ⟨u1, u2, eits, ru1, ru2⟩ := vals2 rv3
      obtain ⟨k1, hk1⟩ := ru1
      obtain ⟨k2, hk2⟩ := ru2
      subst eits hk1 hk2
      rw [ek]
      obtain ⟨oo, co1, co2⟩ := hcell
      exact keyCall (A := X.A.in1.in1) (s := { s2 with heap := h', toks := tk }) (show X.A.depth < recursionLimit by omega) (hk _ _ hf) (hk _ _ hoc) hdc hvc I3.nolimit hS hco hge hnc hT hF (hb _ _ _ _ _) hclo ⟨oo, hk _ _ co1, co2⟩ pt3 dk mk d1 d2 d3
    · have I3 : Inv X pins σ H2 { s2 with heap := h', toks := tk } := I2.kept hk
      rw [PySem.W.dataLe_int] at hoe
      have vo : Vals ((bs.mergeSort fun a b => decide (a.2.2 ≤ b.2.2)).map (·.1)) out := vals_of_each (fun v x h => h.1) hoe
      have hn2 : H2 (s2.heap.objs.size + 1) = none := I2.hok.fresh (Nat.le_succ _)
      have er : r = (bs.mergeSort fun a b => decide (a.2.2 ≤ b.2.2)).map fun x => x.2.1 := by
        rw [← hks2, sortBy_eq, ← g2, ← List.map_mergeSort (f := fun x : V × D × Int => x.2) (r := fun a b => decide (a.2.2 ≤ b.2.2)) (fun a _ b _ => rfl), List.map_map]
        rfl
      have lo : out.length ≤ sizeLine := by rw [hol, hlb]; exact Nat.le_trans hlen (Nat.le_of_lt lim_lt)
      have I4 : Inv X pins σ (upd H2 (s2.heap.objs.size + 1) (.lst ((bs.mergeSort fun a b => decide (a.2.2 ≤ b.2.2)).map (·.1)))) { s2 with heap := h', toks := tk } := by
        refine I2.laid (t' := tk) hk (Nat.le_succ _) ⟨by rw [vo.length]; exact lo, out, c2, vo, hout⟩
      refine ⟨.ref (s2.heap.objs.size + 1), _, I4, rfl, ?_⟩
      have h2 := h1.later (List.prefix_refl _) st2
      refine endN R2 h2 hn2 nt_lst fun s5 => ⟨_, upd_same, ?_⟩
      rw [er]
      refine ats_of fun x hx => ?_
      obtain ⟨v, q⟩ := each_mem hoe x hx
      exact q.2.1.mono s5 (List.prefix_refl _)
end
end TD

set_option Elab.async false
set_option linter.all false
set_option maxRecDepth 100000
set_option maxHeartbeats 1000000
set_option autoImplicit false
namespace TD
open PySem PySem.Spec PyProof.Rows L2

/-! ### several worths, new ones among them -/
section
variable {K : PySem.W.Frag} {T : List (Addr × Str)} {W : WX} {G : Gh} {O O' : Addr → Prop} {b b' : List Addr} {t t' : Ev} {S S' : Sto} {σ : L2.St} {H H' : Hp} {α : Type}
/-- the new ones among them stand apart -/
def ValsF (K : PySem.W.Frag) (G : Gh) (O : Addr → Prop) (b : List Addr) (t : Ev) (σ : L2.St) (H : Hp) : List (D × Bool) → List V → Prop
  | [], vs => vs = []
  | x :: xs, vs => ∃ v ws, vs = v :: ws ∧ Val K G O b t σ H v x ∧ ValsF K G O b t σ H xs ws ∧ (x.2 = true → ∀ (i : Nat) (y : D × Bool) (w : V), xs[i]? = some y → ws[i]? = some w → y.2 = true → w ≠ v)
theorem Post.tm {r : R α} {k : KT α} {p : Addr} {o : HO} (hq : ∀ q ∈ G.tm, q.1 ≠ p) (h : Post K T W G O b σ H r k) : Post K T W { G with tm := (p, o) :: G.tm } O b σ H r k := by
  cases r with
  | ok x t' S' => exact fun H' O' b' R' hb hs => h H' O' b' (R'.pop hq).1 hb hs
  | ex c fs t' S' => exact fun H' O' b' d xs R' hb hs => h H' O' b' d xs (R'.pop hq).1 hb hs
  | bad => exact h
theorem ValsF.get : ∀ {xs : List (D × Bool)} {vs : List V} {i : Nat} {y : D × Bool} {w : V}, ValsF K G O b t σ H xs vs → xs[i]? = some y → vs[i]? = some w → Val K G O b t σ H w y
  | [], _, i, _, _, _, h, _ => by simp at h
  | x :: xs, _, 0, y, w, ⟨v, ws, e, h1, _⟩, hx, hv => by
    subst e
    cases hx
    cases hv
    exact h1
  | x :: xs, _, i + 1, y, w, ⟨v, ws, e, _, h2, _⟩, hx, hv => by
    subst e
    exact h2.get (i := i) (by simpa using hx) (by simpa using hv)
/-- what holds with one more thing set aside holds without -/
theorem ValsF.pop {p : Addr} {o : HO} : ∀ {xs : List (D × Bool)} {vs : List V}, ValsF K { G with tm := (p, o) :: G.tm } O b t σ H xs vs → ValsF K G O b t σ H xs vs ∧ ∀ (i : Nat) (y : D × Bool) (w : V), xs[i]? = some y → vs[i]? = some w → y.2 = true → w ≠ V.ref p
  | [], _, h => ⟨h, fun i y w e => by simp at e⟩
  | x :: xs, _, ⟨v, ws, e, h1, h2, h3⟩ => by
    obtain ⟨q1, q2⟩ := ValsF.pop h2
    have hv : Val K G O b t σ H v x ∧ (x.2 = true → v ≠ V.ref p) := by
      rcases h1 with ⟨e1, h1⟩ | ⟨e1, p', e2, h1⟩
      · exact ⟨.inl ⟨e1, h1⟩, fun z => by rw [e1] at z; cases z⟩
      · refine ⟨.inr ⟨e1, p', e2, h1.o, h1.own, h1.fr, h1.ns, h1.nb, fun q hq => h1.nq q (List.mem_cons_of_mem _ hq)⟩, fun _ z => ?_⟩
        rw [e2] at z
        cases z
        exact h1.nq (p, o) List.mem_cons_self rfl
    refine ⟨⟨v, ws, e, hv.1, q1, h3⟩, fun i y w hx hw ht => ?_⟩
    subst e
    cases i with
    | zero => cases hx; cases hw; exact hv.2 ht
    | succ i => exact q2 i y w (by simpa using hx) (by simpa using hw) ht
end
abbrev MF := M (List (D × Bool))
def tF (K : PySem.W.Frag) (T : List (Addr × Str)) (W : WX) (m : MF) : TA := fun σ H Q => ∃ G O b t S, Rel K T G O b t S σ H ∧ Post K T W G O b σ H (m t S) fun O' b' x t' _ H' => ∀ vs, ValsF K G O' b' t' σ H' x vs → Q vs H'
def fNil : MF := ret []
/-- what a new one's slot bears while the others are made: nothing -/
def fCons (m : ME) (r : MF) : MF := bnd m fun x => bnd r fun xs => ret (x :: xs)
section
variable {X : Cx} {T : List (Addr × Str)} {W : WX} {e : Expr} {es : List Expr}
theorem pf_nil : PA X [] (tF X.K T W fNil) := PA.imp' pa_nil fun σ H Q ⟨G, O, b, t, S, R, h⟩ => Post.here h R [] rfl
theorem pf_cons {m : ME} {r : MF} (ha : PD X T W e m) (hr : PA X es (tF X.K T W r)) (hs : starEach (e :: es) X.env = (false, eval e X.env) :: starEach es X.env := by rfl) : PA X (e :: es) (tF X.K T W (fCons m r)) := by
  refine PA.imp' (pa_cons ha hr hs) fun σ H Q ⟨G, O, b, t, S, R, h⟩ => ?_
  refine ⟨G, O, b, t, S, R, (Post.bnd h).imp fun O1 b1 x t1 S1 H1 R1 hb1 s1 h1 v hv => ?_⟩
  have h2 := Post.bnd h1
  rcases hv with ⟨e1, hv⟩ | ⟨e1, p, e2, hv⟩
  · refine ⟨G, O1, b1, t1, S1, R1, h2.imp fun O2 b2 xs t2 S2 H2 R2 hb2 s2 h3 vs hvs => ?_⟩
    exact Post.here h3 R2 _ ⟨v, vs, rfl, .inl ⟨e1, hv.mono s2 hb2⟩, hvs, fun z => by rw [e1] at z; cases z⟩
  · obtain ⟨o, eo, no⟩ := hv.own.there
    refine ⟨{ G with tm := (p, o) :: G.tm }, O1, b1, t1, S1, R1.push hv eo no, (Post.tm hv.nq h2).imp fun O2 b2 xs t2 S2 H2 R2 hb2 s2 h3 vs hvs => ?_⟩
    obtain ⟨R3, eo2, tm3⟩ := R2.pop hv.nq
    obtain ⟨hvs1, hvs2⟩ := hvs.pop
    have own2 : Own X.K H2 O2 b2 x.1 p := hv.own.mono s2 hb2 fun o' eo' _ => by rw [eo] at eo'; cases eo'; exact eo2
    exact Post.here h3 R3 _ ⟨v, vs, rfl, .inr ⟨e1, p, e2, tm3 _ own2⟩, hvs1, fun _ i y w hx hw ht => by rw [e2]; exact hvs2 i y w hx hw ht⟩
end
def flS (x : D × Bool) : Slot := if x.2 = true then .ow x.1 else .sh x.1
def setF : List Nat → List (D × Bool) → Ev → Ev
  | i :: is, x :: xs, t => setF is xs (t.set i (flS x))
  | _, _, t => t
def setVs : List Nat → List V → L2.St → L2.St
  | i :: is, v :: vs, σ => setVs is vs (σ.set i (some v))
  | _, _, σ => σ
section
variable {K : PySem.W.Frag} {T : List (Addr × Str)} {W : WX} {G : Gh} {O O' : Addr → Prop} {b b' : List Addr} {S S' : Sto} {H H' : Hp}
theorem ValsF.set {i : Nat} {s : Slot} {v : V} {t : Ev} {σ : L2.St} : ∀ {xs : List (D × Bool)} {vs : List V}, ValsF K G O b t σ H xs vs → ((∃ d, s = .ow d) → ∀ (j : Nat) (y : D × Bool) (w : V), xs[j]? = some y → vs[j]? = some w → y.2 = true → w ≠ v) → ValsF K G O b (t.set i s) (σ.set i (some v)) H xs vs
  | [], _, h, _ => h
  | x :: xs, _, ⟨v1, ws, e, h1, h2, h3⟩, hd => by
    subst e
    refine ⟨v1, ws, rfl, ?_, h2.set fun ho j y w hx hw ht => hd ho (j + 1) y w (by simpa using hx) (by simpa using hw) ht, h3⟩
    rcases h1 with ⟨e1, h1⟩ | ⟨e1, p, e2, h1⟩
    · exact .inl ⟨e1, h1⟩
    · refine .inr ⟨e1, p, e2, h1.o, h1.own, h1.fr, fun j q w z => ?_, h1.nb, h1.nq⟩
      rcases owAt_set w with ⟨_, w⟩ | ⟨_, ho, ev⟩
      · exact h1.ns j q w z
      · refine hd ho 0 x v1 rfl rfl e1 ?_
        rw [e2, ← z]
        exact (Option.some.inj ev).symm
theorem put_list : ∀ {is : List Nat} {xs : List (D × Bool)} {vs : List V} {t : Ev} {σ : L2.St}, Rel K T G O b t S σ H → ValsF K G O b t σ H xs vs → is.length = xs.length → Rel K T G O b (setF is xs t) S (setVs is vs σ) H
  | [], [], _, t, σ, R, h, _ => by rw [show _ = [] from h]; exact R
  | i :: is, x :: xs, _, t, σ, R, ⟨v, ws, e, h1, h2, h3⟩, hl => by
    subst e
    refine put_list (is := is) (t := t.set i (flS x)) (σ := σ.set i (some v)) (set_endK R h1) (h2.set fun ⟨d, ho⟩ j y w hx hw ht => ?_) (by simpa using hl)
    refine h3 ?_ j y w hx hw ht
    unfold flS at ho
    by_cases c : x.2 = true
    · exact c
    · rw [if_neg c] at ho; cases ho
where
  set_endK {G : Gh} {O : Addr → Prop} {b : List Addr} {t : Ev} {S : Sto} {σ : L2.St} {H : Hp} {i : Nat} {x : D × Bool} {v : V} (R : Rel K T G O b t S σ H) (hv : Val K G O b t σ H v x) : Rel K T G O b (t.set i (flS x)) S (σ.set i (some v)) H := by
    unfold flS
    rcases hv with ⟨e, h⟩ | ⟨e, q, ev, h⟩
    · rw [e, if_neg Bool.false_ne_true]
      exact R.put ⟨v, rfl, h⟩ fun d q z => by cases z
    · rw [e, if_pos rfl, ev]
      exact R.put ⟨q, rfl, h.o, h.own⟩ fun d r z1 z2 => by
        cases z1; cases z2
        exact ⟨h.fr, h.nb, fun j q _ w => h.ns j q w, h.nq⟩
end
/-- names = worths -/
def sParF (is : List Nat) (m : MF) : MS := bnd m fun xs => if is.length = xs.length then fun t S => .ok .nx (setF is xs t) S else bad
theorem ValsF.length {K : PySem.W.Frag} {G : Gh} {O : Addr → Prop} {b : List Addr} {t : Ev} {σ : L2.St} {H : Hp} : ∀ {xs : List (D × Bool)} {vs : List V}, ValsF K G O b t σ H xs vs → vs.length = xs.length
  | [], _, h => by rw [show _ = [] from h]; rfl
  | x :: xs, _, ⟨v, ws, e, _, h, _⟩ => by rw [e, List.length_cons, List.length_cons, h.length]
section
variable {X : Cx} {T : List (Addr × Str)} {W : WX} {a c e : Expr} {pos : Pos}
theorem pst_parF {i j : Nat} {x y : Str} {m r : ME} {px py pt : Pos} {kt k2 : Nat} {pt2 : Pos} (hc : X.calm = true) (hN : X.N.Nodup) (hi : X.N[i]? = some x) (hj : X.N[j]? = some y) (hij : i ≠ j)
    (hx : X.env.scope.names.lookup x = some .local) (hy : X.env.scope.names.lookup y = some .local) (ha : PD X T W a m) (hd : PD X T W c r)
    (hw : swappedStores [.Tuple [.Name x px, .Name y py] kt pt] (.Tuple [a, c] k2 pt2) X.env = pure (some [x, y])) (h1 : starEach [a, c] X.env = (false, eval a X.env) :: starEach [c] X.env := by rfl) (h2 : starEach [c] X.env = (false, eval c X.env) :: starEach [] X.env := by rfl)
    (hs : swapsWithSole [.Tuple [.Name x px, .Name y py] kt pt] (.Tuple [a, c] k2 pt2) pos.line X.env = pure false := by rfl) :
    PSt X T W (.Assign [.Tuple [.Name x px, .Name y py] kt pt] (.Tuple [a, c] k2 pt2) pos) (sParF [i, j] (fCons m (fCons r fNil))) := by
  refine PS.imp' (ps_par hc hN hi hj hij hx hy (pf_cons (r := fCons r fNil) ha (pf_cons hd pf_nil h2) h1) hw hs) fun Dn σ H ⟨G, O, b, t, S, R, h⟩ => ?_
  have h0 := PostS.bnd (σ := σ) h
  refine ⟨G, O, b, t, S, R, h0.imp fun O' b' xs t' S' H' R' hb hs h' vs hv => ?_⟩
  refine Classical.byCases (p := [i, j].length = xs.length) (fun c => ?_) fun c => by rw [if_neg c] at h'; exact h'.elim
  rw [if_pos c] at h'
  have hl := hv.length
  rw [← c] at hl
  match vs, hl, hv with
  | [v, w], _, hv => exact ⟨v, w, rfl, h' _ H' O' b' (put_list R' hv c) (List.prefix_refl _) (Stays.refl _ _)⟩
theorem pst_parF3 {i j l : Nat} {x y z : Str} {m r q : ME} {px py pz pt : Pos} {kt k2 : Nat} {pt2 : Pos} (hc : X.calm = true) (hN : X.N.Nodup) (hi : X.N[i]? = some x) (hj : X.N[j]? = some y) (hl : X.N[l]? = some z) (hij : i ≠ j) (hil : i ≠ l) (hjl : j ≠ l)
    (hx : X.env.scope.names.lookup x = some .local) (hy : X.env.scope.names.lookup y = some .local) (hz : X.env.scope.names.lookup z = some .local) (ha : PD X T W a m) (hd : PD X T W c r) (he : PD X T W e q)
    (hw : swappedStores [.Tuple [.Name x px, .Name y py, .Name z pz] kt pt] (.Tuple [a, c, e] k2 pt2) X.env = pure (some [x, y, z])) (h1 : starEach [a, c, e] X.env = (false, eval a X.env) :: starEach [c, e] X.env := by rfl) (h2 : starEach [c, e] X.env = (false, eval c X.env) :: starEach [e] X.env := by rfl) (h3 : starEach [e] X.env = (false, eval e X.env) :: starEach [] X.env := by rfl)
    (hs : swapsWithSole [.Tuple [.Name x px, .Name y py, .Name z pz] kt pt] (.Tuple [a, c, e] k2 pt2) pos.line X.env = pure false := by rfl) :
    PSt X T W (.Assign [.Tuple [.Name x px, .Name y py, .Name z pz] kt pt] (.Tuple [a, c, e] k2 pt2) pos) (sParF [i, j, l] (fCons m (fCons r (fCons q fNil)))) := by
  refine PS.imp' (ps_par3 hc hN hi hj hl hij hil hjl hx hy hz (pf_cons (r := fCons r (fCons q fNil)) ha (pf_cons (r := fCons q fNil) hd (pf_cons he pf_nil h3) h2) h1) hw hs) fun Dn σ H ⟨G, O, b, t, S, R, h⟩ => ?_
  have h0 := PostS.bnd (σ := σ) h
  refine ⟨G, O, b, t, S, R, h0.imp fun O' b' xs t' S' H' R' hb hs h' vs hv => ?_⟩
  refine Classical.byCases (p := [i, j, l].length = xs.length) (fun c => ?_) fun c => by rw [if_neg c] at h'; exact h'.elim
  rw [if_pos c] at h'
  have hl := hv.length
  rw [← c] at hl
  match vs, hl, hv with
  | [u, v, w], _, hv => exact ⟨u, v, w, rfl, h' _ H' O' b' (put_list R' hv c) (List.prefix_refl _) (Stays.refl _ _)⟩
end
end TD

set_option Elab.async false
set_option linter.all false
set_option maxRecDepth 100000
set_option maxHeartbeats 1000000
set_option autoImplicit false
namespace TD
open PySem PySem.Spec PyProof.Rows L2

/-! ### code that is not reached -/
section
variable {X : Cx} {T : List (Addr × Str)} {W : WX} {e a c : Expr} {es : List Expr} {st : Stmt} {sts : List Stmt} {pos p : Pos}
theorem pd_bad : PD X T W e bad := ⟨fun pins s σ H Q I ⟨G, O, b, t, S, R, h⟩ => h.elim⟩
theorem pc_bad : PC X T W e bad := ⟨fun pins s σ H Q I ⟨G, O, b, t, S, R, h⟩ => h.elim⟩
theorem pst_bad : PSt X T W st bad := ⟨fun pins s σ H D I ⟨G, O, b, t, S, R, h⟩ => h.elim⟩
theorem pbk_bad : PBk X T W sts bad := ⟨fun pins s σ H D I ⟨G, O, b, t, S, R, h⟩ => h.elim⟩
theorem def_bad {P : Program} {w : World} {K : PySem.W.Frag} {mg : Str → Option Value} {base : Heap} {x : Str} {params : Arguments} {body : List Stmt} {scope : Scope} {ps : List Str} {k : Nat} (F : ∃ fd, FunD K x x params body scope [] [] (He.ga K x) fd) (gl : mg x = some (.ref (He.ga K x)))
    (hb : ∀ (kV doc pm : Value) (an : Option Addr) (cdv ct : Value) (us : List Value), us.length = ps.length → bindArgs (PySem.W.fnOf x x params body scope .none kV doc pm an cdv ct) ⟨us, []⟩ = pure (ps.zip us)) : Def P w K mg base T x ps (fun _ _ => .bad) k := by
  obtain ⟨fd, F⟩ := F
  exact ⟨⟨fd, ⟨fun vs H Q E h => h.1, fun A outer s H args us vs Q E hr e0 hbb r hsp => by obtain ⟨_, O, b, S, ds, R, hv, z⟩ := hsp; exact z.elim⟩, FunD.bindsN F hb⟩, gl, F.kp⟩
theorem Def.mono {P : Program} {w : World} {K : PySem.W.Frag} {mg : Str → Option Value} {base : Heap} {x : Str} {ps : List Str} {F : Fn} {j k : Nat} (D : Def P w K mg base T x ps F j) (h : j ≤ k) : Def P w K mg base T x ps F k := by
  obtain ⟨fd, G1, B⟩ := D.ok
  exact ⟨⟨fd, G1.mono h, B⟩, D.gl, D.kp⟩
theorem units_of {k : Nat} {A : Around} (h : Room k A) : A.units + 64 < cLine := by have := h.un; omega
theorem units1 {k : Nat} {A : Around} (h : Room k A) : A.units + 1 < cLine := by have := h.un; omega
theorem units2 {k : Nat} {A : Around} (h : Room k A) : A.units + 100 < cLine := by have := h.un; omega
theorem takesL {A : Around} {outer : List Env} {s : Shared} {H : Hp} {E : XK} {scope : Scope} {f c' : Addr} : Takes (LamX.lamCx X A outer s H E scope f c') (wE E) := takes_of rfl rfl rfl rfl
theorem pc_eqB {m r : ME} (hu : X.A.units + 64 < cLine) (ha : PD X T W a m) (hc : PD X T W c r) (hm : behindInMarks .Eq c = false := by first | exact nomark _ | rfl) : PC X T W (.Compare a [.Eq] [c] pos) (tst (eEqB m r)) := by
  refine PT.imp' (pt_cmpR (op_eqD hu) ha hc hm) fun σ H Q ⟨G, O, b, t, S, R, h⟩ => ?_
  have h' : Post X.K T W G O b σ H (eb m (fun x => eb r fun y => tst fun t S => dEqP (vw S x) (vw S y) t S) t S) fun _ _ x _ _ H' => Q x H' := by
    unfold tst eEqB eb at h
    rw [bnd_assoc] at h
    simp only [bnd_assoc] at h
    exact h
  refine useD R h' fun O1 b1 x t1 S1 H1 v R1 hb1 s1 hv h1 => ?_
  refine useD R1 h1 fun O2 b2 y t2 S2 H2 w R2 hb2 s2 hw h2 => ?_
  unfold tst eb bnd dEqP at h2
  cases e : cmpP (vw S2 x) (vw S2 y) with
  | none => simp only [e] at h2; exact h2.elim
  | some k =>
    simp only [e] at h2
    obtain ⟨d1, d2, q1, q2, q3, q4, q5⟩ := cmpP_B (ex_bor R2 (hv.mono s2 hb2)) (ex_bor R2 hw) e
    exact ⟨d1, d2, q1, q2, q3, q4, k, by rw [q5], Post.here h2 R2⟩
theorem pc_neB {m r : ME} (hu : X.A.units + 64 < cLine) (ha : PD X T W a m) (hc : PD X T W c r) (hm : behindInMarks .NotEq c = false := by first | exact nomark _ | rfl) : PC X T W (.Compare a [.NotEq] [c] pos) (tst (eNeB m r)) := by
  refine PT.imp' (pt_cmpR (op_neD hu) ha hc hm) fun σ H Q ⟨G, O, b, t, S, R, h⟩ => ?_
  have h' : Post X.K T W G O b σ H (eb m (fun x => eb r fun y => tst fun t S => dNeP (vw S x) (vw S y) t S) t S) fun _ _ x _ _ H' => Q x H' := by
    unfold tst eNeB eb at h
    rw [bnd_assoc] at h
    simp only [bnd_assoc] at h
    exact h
  refine useD R h' fun O1 b1 x t1 S1 H1 v R1 hb1 s1 hv h1 => ?_
  refine useD R1 h1 fun O2 b2 y t2 S2 H2 w R2 hb2 s2 hw h2 => ?_
  unfold tst eb bnd dNeP at h2
  cases e : cmpP (vw S2 x) (vw S2 y) with
  | none => simp only [e] at h2; exact h2.elim
  | some k =>
    simp only [e] at h2
    obtain ⟨d1, d2, q1, q2, q3, q4, q5⟩ := cmpP_B (ex_bor R2 (hv.mono s2 hb2)) (ex_bor R2 hw) e
    exact ⟨d1, d2, q1, q2, q3, q4, !k, by rw [q5], Post.here h2 R2⟩

end
/-! ### dict displays -/
def kM : List (ME × ME) → M (List (D × D))
  | [] => ret []
  | q :: r => eb q.1 fun x => eb q.2 fun y => bnd (kM r) fun ps => ret ((x, y) :: ps)
def keysD : List (D × D) → Option (List (Key × D))
  | [] => some []
  | (k, v) :: r => match toKey k, keysD r with
    | some q, some kvs => some ((q, v) :: kvs)
    | _, _ => none
def mergeD (kvs : List (Key × D)) (more : List (Key × D)) : List (Key × D) := more.foldl (fun acc kv => dPutD acc kv.1 kv.2) kvs
def eDic (ms : List (ME × ME)) : ME := bnd (kM ms) fun ps => match keysD ps with
  | some kvs => if kvs.length ≤ 15 then ret (.dic (mergeD [] kvs), true) else bad
  | none => bad
def Prs2 (K : PySem.W.Frag) (H : Hp) (O : Addr → Prop) (b : List Addr) : List (D × D) → List (V × V) → Prop
  | [], ps => ps = []
  | q :: r, ps => ∃ v w ws, ps = (v, w) :: ws ∧ At K H O b q.1 v ∧ At K H O b q.2 w ∧ Prs2 K H O b r ws
theorem keysD_at {K : PySem.W.Frag} {H : Hp} {O : Addr → Prop} {b : List Addr} : ∀ {ps : List (D × D)} {ws : List (V × V)} {kvs : List (Key × D)}, Prs2 K H O b ps ws → keysD ps = some kvs → ∃ xs : List (Key × V), ws = xs.map (fun kv => (kV kv.1, kv.2)) ∧ Atk K H O b kvs xs
  | [], ws, kvs, h, e => by cases e; exact ⟨[], h, rfl⟩
  | (k, d) :: ps, ws, kvs, ⟨v, w, r, e1, h1, h2, h3⟩, e => by
    unfold keysD at e
    split at e
    · rename_i q kv' e2 e3
      cases e
      obtain ⟨xs, g1, g2⟩ := keysD_at h3 e3
      exact ⟨(q, w) :: xs, by rw [e1, g1, toKey_at h1 e2]; rfl, w, xs, rfl, h2, g2⟩
    · cases e
theorem merge_at {K : PySem.W.Frag} {H : Hp} {O : Addr → Prop} {b : List Addr} : ∀ {more : List (Key × D)} {ms : List (Key × V)} {kvs : List (Key × D)} {xs : List (Key × V)}, Atk K H O b more ms → Atk K H O b kvs xs → Atk K H O b (mergeD kvs more) (mergeK xs ms)
  | [], _, _, _, h, q => by rw [show _ = [] from h]; exact q
  | (k, d) :: more, _, _, _, ⟨y, ys, e, h, r⟩, q => by subst e; exact (merge_at (more := more) (ms := ys) r (Atk.put h q) : Atk K H O b (mergeD (dPutD _ k d) more) (mergeK (putK _ k y) ys))
theorem Atk.length2 {K : PySem.W.Frag} {H : Hp} {O : Addr → Prop} {b : List Addr} {ds : List (Key × D)} {vs : List (Key × V)} (h : Atk K H O b ds vs) : vs.length = ds.length := h.length
section
variable {X : Cx} {T : List (Addr × Str)} {W : WX} {pos p : Pos}
theorem useK {β : Type} {σ : L2.St} {f : List (D × D) → M β} {k : KT β} {G : Gh} : ∀ {ms : List (ME × ME)} {H : Hp} {O : Addr → Prop} {b : List Addr} {t : Ev} {S : Sto} {Q : List (V × V) → Hp → Prop}, Rel X.K T G O b t S σ H → Post X.K T W G O b σ H (bnd (kM ms) f t S) k →
    (∀ (O1 : Addr → Prop) (b1 : List Addr) (ps : List (D × D)) (t1 : Ev) (S1 : Sto) (H1 : Hp) (ws : List (V × V)), Rel X.K T G O1 b1 t1 S1 σ H1 → b <+: b1 → Stays H O H1 O1 → Prs2 X.K H1 O1 b1 ps ws → Post X.K T W G O1 b1 σ H1 (f ps t1 S1) k → Q ws H1) →
    tPairs (ms.map fun q => (tD X.K T W q.1, tD X.K T W q.2)) σ H Q
  | [], H, O, b, t, S, Q, R, h, g => g O b [] t S H [] R (List.prefix_refl _) (Stays.refl _ _) rfl h
  | q :: ms, H, O, b, t, S, Q, R, h, g => by
    have h' : Post X.K T W G O b σ H (eb q.1 (fun x => eb q.2 fun y => bnd (kM ms) fun ps => f ((x, y) :: ps)) t S) k := by
      unfold kM eb at h
      rw [bnd_assoc] at h
      simp only [bnd_assoc] at h
      exact h
    refine useD R h' fun O1 b1 x t1 S1 H1 v R1 hb1 s1 hv h1 => ?_
    refine useD R1 h1 fun O2 b2 y t2 S2 H2 w R2 hb2 s2 hw h2 => ?_
    refine useK (ms := ms) R2 h2 fun O3 b3 ps t3 S3 H3 ws R3 hb3 s3 hps h3 => ?_
    exact g O3 b3 ((x, y) :: ps) t3 S3 H3 ((v, w) :: ws) R3 ((hb1.trans hb2).trans hb3) ((s1.trans s2).trans s3) ⟨v, w, ws, rfl, (hv.mono s2 hb2).mono s3 hb3, hw.mono s3 hb3, hps⟩ h3
theorem pd_dic {ms : List (ME × ME)} {keys : List (Option Expr)} {values : List Expr} (h : PPs X pos keys values (ms.map fun q => (tD X.K T W q.1, tD X.K T W q.2))) (hall : keys.all (·.isSome) = true) (hl : keys.length = values.length) (h0 : keys ≠ []) (h15 : keys.length ≤ 15) : PD X T W (.Dict keys values pos) (eDic ms) := by
  refine PE.imp' (pe_disp h hall hl h0 h15) fun σ H Q ⟨G, O, b, t, S, R, hh⟩ => fun p hp => ?_
  obtain ⟨R1, s1⟩ := R.newL (o := .dK []) hp nt_dK
  have tm1 := R.tmpOf (d := .dic []) hp nt_dK ⟨[], upd_same, rfl⟩
  have R2 := R1.push tm1 upd_same nt_dK
  have h1 := Post.bnd (hh.later (List.prefix_refl _) s1)
  have h2 : Post X.K T W { G with tm := (p, .dK []) :: G.tm } (fun a => O a ∨ a = p) b σ (upd H p (.dK [])) (bnd (kM ms) ret t S) (fun O' b' ps t' S' H' => Post X.K T W G O' b' σ H' ((match keysD ps with
    | some kvs => if kvs.length ≤ 15 then ret (.dic (mergeD [] kvs), true) else bad
    | none => bad : ME) t' S') (KD X.K G σ Q)) := by
    have z := Post.tm (o := .dK []) tm1.nq h1
    unfold bnd
    revert z
    cases kM ms t S with
    | ok x t' S' => exact fun z => z
    | ex c fs t' S' => exact fun z => z
    | bad => exact fun z => z
  refine useK R2 h2 fun O3 b3 ps t3 S3 H3 ws R3 hb3 s3 hps h3' => ?_
  have h3 := Post.here h3' R3
  obtain ⟨R4, e4, tm4⟩ := R3.pop tm1.nq
  refine ⟨e4, ?_⟩
  cases ek : keysD ps with
  | none => simp only [ek] at h3; exact h3.elim
  | some kvs =>
    simp only [ek] at h3
    by_cases hl15 : kvs.length ≤ 15
    · rw [if_pos hl15] at h3
      obtain ⟨xs, g1, g2⟩ := keysD_at hps ek
      refine ⟨xs, g1, by rw [g2.length]; exact hl15, ?_⟩
      obtain ⟨R5, s5, tm5⟩ := R4.mutT (d' := .dic (mergeD [] kvs)) (o := .dK (mergeK [] xs)) (tm4 (.dic []) ⟨[], e4, rfl⟩) nt_dK fun s => ⟨_, upd_same, merge_at (g2.mono s (List.prefix_refl _)) (show Atk X.K _ _ _ [] [] from rfl)⟩
      exact h3 _ O3 b3 R5 (List.prefix_refl _) s5 _ (.inr ⟨rfl, p, rfl, tm5⟩)
    · rw [if_neg hl15] at h3; exact h3.elim

/-! ### list(range(..)) -/
def dLRg (i j : Int) : ME := if (-1000000000 ≤ i ∧ i ≤ 1000000000) ∧ -1000000000 ≤ j ∧ j ≤ 1000000000 ∧ (j - i).toNat ≤ lim then ret (.lst (rng i (j - i).toNat), true) else bad
def eLRg (a c : ME) : ME := eb a fun x => eb c fun y => match x, y with
  | .int i, .int j => dLRg i j
  | _, _ => bad
def eLRg1 (a : ME) : ME := eb a fun x => match x with
  | .int j => dLRg 0 j
  | _ => bad
theorem rng_ats {K : PySem.W.Frag} {H : Hp} {O : Addr → Prop} {b : List Addr} {f : Nat → D} {g : Nat → V} (hfg : ∀ i, At K H O b (f i) (g i)) : ∀ l : List Nat, Ats K H O b (l.map f) (l.map g)
  | [] => rfl
  | i :: l => ⟨g i, _, rfl, hfg i, rng_ats hfg l⟩
theorem lrg_end {σ : L2.St} {H : Hp} {Q : VK} {G : Gh} {O : Addr → Prop} {b : List Addr} {t : Ev} {S : Sto} {i j : Int} (R : Rel X.K T G O b t S σ H) (h : Post X.K T W G O b σ H (dLRg i j t S) (KD X.K G σ Q)) : RgOk i j ∧ ∀ q, H q = none → Q (.ref q) (upd H q (.lst (rgV i j))) := by
  unfold dLRg at h
  split at h
  · rename_i c
    have hm : lim = 1000000 := rfl
    refine ⟨⟨by omega, by omega, by omega, by omega, by omega⟩, fun q hq => endN R h hq nt_lst fun s => ⟨_, upd_same, rng_ats (f := fun n => D.int (i + (n : Nat))) (g := fun n => V.int (i + (n : Nat))) (fun n => rfl) _⟩⟩
  · exact h.elim
theorem pd_lrg {a c : Expr} {m r : ME} {p1 pos1 : Pos} (hc : X.calm = true) (hg : Gl X "list") (hm : X.mg "list" = none) (hg2 : Gl X "range") (hm2 : X.mg "range" = none) (ha : PD X T W a m) (hd : PD X T W c r)
    (na : starEach [.Call (.Name "range" p1) [a, c] [] pos1] X.env = (false, eval (.Call (.Name "range" p1) [a, c] [] pos1) X.env) :: starEach [] X.env := by rfl)
    (nb : starEach [a, c] X.env = (false, eval a X.env) :: starEach [c] X.env := by rfl) (nc : starEach [c] X.env = (false, eval c X.env) :: starEach [] X.env := by rfl) (hpp : (backTo pos1 (starEach [c] X.env)).any (·.1) = false := by rfl) :
    PD X T W (.Call (.Name "list" p) [.Call (.Name "range" p1) [a, c] [] pos1] [] pos) (eLRg m r) := by
  refine PE.imp' (pe_listRg hc hg hm (prg_2 hg2 hm2 ha hd nb nc hpp) na) fun σ H Q ⟨G, O, b, t, S, R, h⟩ => ?_
  refine useD R h fun O1 b1 x t1 S1 H1 v R1 hb1 s1 hv h1 => ?_
  refine useD R1 h1 fun O2 b2 y t2 S2 H2 w R2 hb2 s2 hw h2 => ?_
  split at h2
  · rename_i i j
    exact ⟨i, j, hv, hw, lrg_end R2 h2⟩
  · exact h2.elim
theorem pd_lrg1 {a : Expr} {m : ME} {p1 pos1 : Pos} (hc : X.calm = true) (hg : Gl X "list") (hm : X.mg "list" = none) (hg2 : Gl X "range") (hm2 : X.mg "range" = none) (ha : PD X T W a m)
    (na : starEach [.Call (.Name "range" p1) [a] [] pos1] X.env = (false, eval (.Call (.Name "range" p1) [a] [] pos1) X.env) :: starEach [] X.env := by rfl) (nb : starEach [a] X.env = (false, eval a X.env) :: starEach [] X.env := by rfl) :
    PD X T W (.Call (.Name "list" p) [.Call (.Name "range" p1) [a] [] pos1] [] pos) (eLRg1 m) := by
  refine PE.imp' (pe_listRg hc hg hm (prg_1 hg2 hm2 ha nb) na) fun σ H Q ⟨G, O, b, t, S, R, h⟩ => ?_
  refine useD R h fun O1 b1 x t1 S1 H1 v R1 hb1 s1 hv h1 => ?_
  split at h1
  · rename_i j
    exact ⟨j, hv, lrg_end R1 h1⟩
  · exact h1.elim
end
end TD

set_option Elab.async false
set_option linter.all false
set_option maxRecDepth 100000
set_option maxHeartbeats 1000000
set_option autoImplicit false
namespace TD
open PySem PySem.Spec PyProof.Rows L2

/-! ### dict(..) of pairs whose keys are tuples -/
abbrev RowT := Addr × List Key × V
def mergeV (acc : List (List Key × V)) (rows : List RowT) : List (List Key × V) := rows.foldl (fun acc r => putK acc r.2.1 r.2.2) acc
theorem kt_merge {H : Hp} : ∀ {rows : List RowT} {kps : List (List Key × Addr × Value)} {acc : List (List Key × V)} {xs : List (List Key × Addr × Value)}, Paired (fun (r : RowT) (q : List Key × Addr × Value) => r.2.1 = q.1 ∧ r.1 = q.2.1 ∧ H r.1 = some (.tup (r.2.1.map kV)) ∧ RelV r.2.2 q.2.2) rows kps → L2.KT H acc xs → L2.KT H (mergeV acc rows) (storedAllH xs kps)
  | [], _, acc, xs, .nil, h => h
  | r :: rows, _, acc, xs, .cons (b := q) ⟨e1, e2, e3, e4⟩ t, h => by
    have z := L2.KT.put h r.2.1 (b := r.1) e3 e4
    have w := kt_merge t z
    rw [e1, e2] at w
    rw [show mergeV acc (r :: rows) = mergeV (putK acc r.2.1 r.2.2) rows from rfl, e1]
    exact w
theorem length_mergeV : ∀ (rows : List RowT) (acc : List (List Key × V)), (mergeV acc rows).length ≤ acc.length + rows.length
  | [], acc => Nat.le_refl _
  | r :: rows, acc => by
    have h1 := length_mergeV rows (putK acc r.2.1 r.2.2)
    have h2 := length_putK acc r.2.1 r.2.2
    show (mergeV (putK acc r.2.1 r.2.2) rows).length ≤ _
    rw [List.length_cons]; omega
section
variable {X : Cx}
theorem rows_of {pins : List (Addr × Obj)} {σ : L2.St} {H : Hp} {s : Shared} (I : Inv X pins σ H s) : ∀ {ps : List Addr} {rows : List RowT}, Paired (fun (p : Addr) (r : RowT) => H p = some (.tup [.ref r.1, r.2.2]) ∧ H r.1 = some (.tup (r.2.1.map kV))) ps rows →
    ∃ kps : List (List Key × Addr × Value), kps.length = ps.length ∧ Paired (fun (r : RowT) (q : List Key × Addr × Value) => r.2.1 = q.1 ∧ r.1 = q.2.1 ∧ H r.1 = some (.tup (r.2.1.map kV)) ∧ RelV r.2.2 q.2.2) rows kps ∧
      ∀ (j : Nat) (q : List Key × Addr × Value), kps[j]? = some q → ∃ p, ps[j]? = some p ∧ s.heap.IsTuple p #[.ref q.2.1, q.2.2] ∧ H q.2.1 = some (.tup (q.1.map kV))
  | _, _, .nil => ⟨[], rfl, .nil, fun j q e => by simp at e⟩
  | _, _, .cons (a := p) (b := r) ⟨h1, h2⟩ t => by
    obtain ⟨kps, hl, hp, hq⟩ := rows_of I t
    obtain ⟨its, rv, ht, _⟩ := I.tuple (.inl (.inl h1))
    obtain ⟨u, y, ei, ru, ry⟩ := vals2 rv
    subst ei
    cases ru
    refine ⟨(r.2.1, r.1, y) :: kps, by rw [List.length_cons, List.length_cons, hl], .cons ⟨rfl, rfl, h2, ry⟩ hp, fun j q e => ?_⟩
    cases j with
    | zero => cases e; exact ⟨p, rfl, ht, h2⟩
    | succ j =>
      obtain ⟨p', e1, e2, e3⟩ := hq j q (by simpa using e)
      exact ⟨p', by simpa using e1, e2, e3⟩
theorem call_dictT (hcalm : X.calm = true) (hu : X.A.units + 100 < cLine) : CallR X (.type "dict") (fun xs H Q => ∃ (a : Addr) (ps : List Addr) (rows : List RowT), xs = [.ref a] ∧ H a = some (.lst (ps.map V.ref)) ∧ Paired (fun (p : Addr) (r : RowT) => H p = some (.tup [.ref r.1, r.2.2]) ∧ H r.1 = some (.tup (r.2.1.map kV))) ps rows ∧
    ∀ p, H p = none → Q (.ref p) (upd H p (.dT (mergeV [] rows)))) := by
  intro pins s σ H xs us Q I r q
  obtain ⟨a, ps, rows, ex, hq, hp, q⟩ := q
  subst ex
  obtain ⟨u, eu, rx⟩ := vals1 r
  subst eu
  cases rx
  obtain ⟨its, rv, pl, hz⟩ := I.list (.inl (.inl hq))
  have ei := refs_at rv
  subst ei
  rw [List.length_map] at hz
  obtain ⟨kps, hl, hrk, hkq⟩ := rows_of I hp
  have hrows : rows.length = ps.length := (Paired.length hp).symm
  obtain ⟨o, n, ho, hc, hd, hdat⟩ := pl
  have PA := PairArg.list (prog := X.prog) (w := X.w) a (ps.map Value.ref).toArray (fun j => ps.getD j 0) (kps.map fun q => (Value.ref q.2.1, q.2.2))
  refine call_dict_pairsH (knd := tupleKind (mixKind X.prog X.w)) (ps := kps) PA (I.ok.hd hcalm) (show X.A.in1.in1.units < cLine from ?_) ⟨⟨o, n, ho, hc, hd, hdat⟩, by simp [hl], fun j k v e => ?_⟩ ⟨by rw [List.length_map], fun i key v e => ?_⟩ (fun h' hk x hx => ?_) (by rw [List.length_map, hl]; exact hz) fun h' tk hd' hk => ?_
  · show X.A.units + 1 + 1 < cLine
    omega
  · rw [List.getElem?_map] at e
    obtain ⟨q0, e1, e2⟩ := Option.map_eq_some_iff.mp e
    cases e2
    obtain ⟨p, g1, g2, g3⟩ := hkq j q0 e1
    have g4 : ps.getD j 0 = p := by rw [List.getD_eq_getElem?_getD, g1]; rfl
    exact ⟨by show _ = some (Value.ref (ps.getD j 0)); rw [g4]; simp [g1], .inl (by show s.heap.IsTuple (ps.getD j 0) _; rw [g4]; exact g2)⟩
  · have e : (kps.map fun q => (Value.ref q.2.1, q.2.2))[i]? = some (key, v) := e
    rw [List.getElem?_map] at e
    obtain ⟨q0, e1, e2⟩ := Option.map_eq_some_iff.mp e
    cases e2
    exact ⟨q0.1, q0.2.1, e1, rfl⟩
  · obtain ⟨j, hj⟩ := List.mem_iff_getElem?.mp hx
    obtain ⟨p, g1, g2, g3⟩ := hkq j x hj
    have I2 : Inv X pins σ H { s with heap := h', toks := s.toks } := I.kept fun b o' e => hk b o' (Nat.ne_of_lt (Heap.lt_size e)) (by simp) e
    exact key_of I2.hok g3
  · obtain ⟨oo, es, ep, d1, d2, d3, d4, d5, d6⟩ := hd'
    have kold : ∀ b o', s.heap.get? b = some o' → h'.get? b = some o' := fun b o' e => hk b o' (by simp) e
    have hn : H s.heap.objs.size = none := I.hok.fresh (Nat.le_refl _)
    have hm : (s.heap.objs.size == sysModules) = false := beq_eq_false_iff_ne.mpr (Nat.ne_of_gt I.big)
    have hlen : (mergeV [] rows).length ≤ sizeLine := by
      refine Nat.le_trans (length_mergeV rows []) ?_
      rw [List.length_nil, Nat.zero_add, hrows]
      exact hz
    have rel : L2.KT H (mergeV [] rows) (storedAllH [] kps) := kt_merge hrk .nil
    refine ⟨.ref s.heap.objs.size, upd H s.heap.objs.size (.dT (mergeV [] rows)), I.laid (t' := tk) kold (Nat.le_refl _) (show ObjOk X.prog X.w _ _ _ (.dT (mergeV [] rows)) from ⟨hlen, hm, storedAllH [] kps, rel.keeps fun b ys e => by rw [upd_ne (ne_of_none e hn)]; exact e, oo, es, ep, d1, d2, d3, d4, d6⟩), rfl, q _ hn⟩
end
def keysT : List D → Option (List Key)
  | [] => some []
  | d :: ds => match toKey d, keysT ds with
    | some k, some ks => some (k :: ks)
    | _, _ => none
def rowD : D → Option (List Key × D)
  | .tup [.tup ks, d] => (keysT ks).map fun k => (k, d)
  | _ => none
def rowsD : List D → Option (List (List Key × D))
  | [] => some []
  | d :: ds => match rowD d, rowsD ds with
    | some k, some ks => some (k :: ks)
    | _, _ => none
def mergeDT (acc : List (List Key × D)) (rows : List (List Key × D)) : List (List Key × D) := rows.foldl (fun acc r => dPutD acc r.1 r.2) acc
def eDictT (m : ME) : ME := eb m fun x => match x with
  | .lst ds => match rowsD ds with
    | some rows => pur (.dct (mergeDT [] rows))
    | none => bad
  | _ => bad
section
variable {K : PySem.W.Frag} {H : Hp} {O : Addr → Prop} {b : List Addr}
theorem Att.repl {k : List Key} {d : D} {v : V} (hd : At K H O b d v) : ∀ {ds : List (List Key × D)} {vs : List (List Key × V)}, Att K H O b ds vs → Att K H O b (ds.map fun kv => if kv.1 = k then (kv.1, d) else kv) (vs.map fun kv => if kv.1 = k then (kv.1, v) else kv)
  | [], _, z => by rw [show _ = [] from z]; rfl
  | (q, d') :: ds, _, ⟨y, ys, e, h, r⟩ => by
    rw [e, List.map_cons, List.map_cons]
    by_cases c : q = k
    · rw [if_pos c, if_pos c]; exact ⟨v, _, rfl, hd, Att.repl hd r⟩
    · rw [if_neg c, if_neg c]; exact ⟨y, _, rfl, h, Att.repl hd r⟩
theorem Att.snoc {k : List Key} {d : D} {v : V} (hd : At K H O b d v) : ∀ {ds : List (List Key × D)} {vs : List (List Key × V)}, Att K H O b ds vs → Att K H O b (ds ++ [(k, d)]) (vs ++ [(k, v)])
  | [], _, z => by rw [show _ = [] from z]; exact ⟨v, [], rfl, hd, rfl⟩
  | (q, d') :: ds, _, ⟨y, ys, e, h, r⟩ => by rw [e]; exact ⟨y, _, rfl, h, Att.snoc hd r⟩
theorem Att.any {k : List Key} : ∀ {ds : List (List Key × D)} {vs : List (List Key × V)}, Att K H O b ds vs → (ds.any fun kv => decide (kv.1 = k)) = vs.any fun kv => decide (kv.1 = k)
  | [], _, z => by rw [show _ = [] from z]; rfl
  | (q, d') :: ds, _, ⟨y, ys, e, h, r⟩ => by rw [e, List.any_cons, List.any_cons, Att.any r]
theorem Att.put {k : List Key} {d : D} {v : V} (hd : At K H O b d v) {ds : List (List Key × D)} {vs : List (List Key × V)} (h : Att K H O b ds vs) : Att K H O b (dPutD ds k d) (putK vs k v) := by
  unfold dPutD putK
  rw [h.any]
  split
  · exact Att.repl hd h
  · exact Att.snoc hd h
theorem keysT_at : ∀ {ds : List D} {vs : List V} {ks : List Key}, Ats K H O b ds vs → keysT ds = some ks → vs = ks.map kV
  | [], vs, ks, h, e => by cases e; exact h
  | d :: ds, vs, ks, ⟨y, ys, ev, h, r⟩, e => by
    unfold keysT at e
    split at e
    · rename_i k ks' e1 e2
      cases e
      rw [ev, toKey_at h e1, keysT_at r e2]
      rfl
    · cases e
/-- how the rows stand -/
theorem rowsD_at : ∀ {ds : List D} {vs : List V} {rows : List (List Key × D)}, Ats K H O b ds vs → rowsD ds = some rows → ∃ (ps : List Addr) (rs : List RowT), vs = ps.map V.ref ∧ Paired (fun (p : Addr) (r : RowT) => H p = some (.tup [.ref r.1, r.2.2]) ∧ H r.1 = some (.tup (r.2.1.map kV))) ps rs ∧
    Paired (fun (q : List Key × D) (r : RowT) => q.1 = r.2.1 ∧ At K H O b q.2 r.2.2) rows rs
  | [], vs, rows, h, e => by cases e; exact ⟨[], [], h, .nil, .nil⟩
  | d :: ds, vs, rows, ⟨y, ys, ev, h, r⟩, e => by
    unfold rowsD at e
    split at e
    · rename_i k ks' e1 e2
      cases e
      obtain ⟨ps, rs, g1, g2, g3⟩ := rowsD_at r e2
      unfold rowD at e1
      split at e1
      · rename_i kds d0
        obtain ⟨kk, e3, e4⟩ := Option.map_eq_some_iff.mp e1
        subst e4
        obtain ⟨p, ws, ep, _, rp, y1, _, f1, a1, y2, _, f2, a2, f3⟩ := h
        obtain ⟨bk, zs, eb1, _, rb, ab⟩ := a1
        have hks := keysT_at ab e3
        refine ⟨p :: ps, (bk, kk, y2) :: rs, by rw [ev, ep, g1]; rfl, .cons ⟨?_, ?_⟩ g2, .cons ⟨rfl, a2⟩ g3⟩
        · rw [rp, f1, f2, f3, eb1]
        · rw [rb, hks]
      · cases e1
    · cases e
theorem mergeT_at : ∀ {rows : List (List Key × D)} {rs : List RowT} {acc : List (List Key × D)} {xs : List (List Key × V)}, Paired (fun (q : List Key × D) (r : RowT) => q.1 = r.2.1 ∧ At K H O b q.2 r.2.2) rows rs → Att K H O b acc xs → Att K H O b (mergeDT acc rows) (mergeV xs rs)
  | [], _, acc, xs, .nil, h => h
  | q :: rows, _, acc, xs, .cons (b := r) ⟨e, hq⟩ t, h => by
    have z := mergeT_at t (Att.put (k := q.1) hq h)
    rw [show mergeDT acc (q :: rows) = mergeDT (dPutD acc q.1 q.2) rows from rfl]
    rw [show mergeV xs (r :: _) = mergeV (putK xs r.2.1 r.2.2) _ from rfl, ← e]
    exact z
end
section
variable {X : Cx} {T : List (Addr × Str)} {W : WX} {pos p : Pos} {e : Expr}
theorem pd_dictT {m : ME} (hcalm : X.calm = true) (hu : X.A.units + 100 < cLine) (hg : Gl X "dict") (hm : X.mg "dict" = none) (hv : bootBuiltins "dict" = some (.type "dict")) (he : PD X T W e m)
    (hs : starEach (e :: []) X.env = (false, eval e X.env) :: starEach [] X.env := by rfl) : PD X T W (.Call (.Name "dict" p) [e] [] pos) (eDictT m) := by
  refine PE.imp' (pe_callTy (call_dictT hcalm hu) hg hm hv (pa_cons he pa_nil hs) (by decide) (by decide) hs) fun σ H Q ⟨G, O, b, t, S, R, h⟩ => ?_
  refine useD R h fun O1 b1 x t1 S1 H1 v R1 hb1 s1 hv h1 => ?_
  split at h1
  · rename_i ds
    cases er : rowsD ds with
    | none => simp only [er] at h1; exact h1.elim
    | some rows =>
      simp only [er] at h1
      obtain ⟨a, vs, ea, ho, ra, qa⟩ := hv
      obtain ⟨ps, rs, g1, g2, g3⟩ := rowsD_at qa er
      refine ⟨a, ps, rs, by rw [ea], by rw [ra, g1], g2, fun q hq => endO R1 h1 hq nt_dT fun s2 no => ⟨q, _, rfl, no, upd_same, ?_⟩⟩
      refine mergeT_at (Paired.mapP g3 fun _ _ z => ⟨z.1, z.2.mono s2 (List.prefix_refl _)⟩) (show Att X.K _ _ _ [] [] from rfl)
  · exact h1.elim
end
end TD

set_option Elab.async false
set_option linter.all false
set_option maxRecDepth 100000
set_option maxHeartbeats 0
set_option autoImplicit false
namespace TD
open PySem PySem.Spec PyProof.Rows L2
section
variable {P : Program} {w : World} {K : PySem.W.Frag} {mg : Str → Option Value} {base : Heap} {T : List (Addr × Str)} {x : Str} {N ps : List Str} {params : Arguments} {body : List Stmt} {scope : Scope} {m : MS} {k : Nat}
theorem def_fd {fd : FuncData} (F : FunD K x x params body scope [] [] (He.ga K x) fd) (S : FnScope N ps scope)
    (hb : ∀ (kV doc pm : Value) (an : Option Addr) (cdv ct : Value) (us : List Value), us.length = ps.length → bindArgs (PySem.W.fnOf x x params body scope .none kV doc pm an cdv ct) ⟨us, []⟩ = pure (ps.zip us))
    (hbody : ∀ (A : Around) (outer : List Env) (s : Shared) (H : Hp) (E : XK), Room k (cxD P w K mg base N x scope A outer s H E).A → PBk (cxD P w K mg base N x scope A outer s H E) T (wE E) body m) :
    FnOk P w K mg base (L2.CX P w) (k + 1) (He.ga K x) fd ps (spT K T (fnD N.length m) ps.length) := by
  have B := FunD.bindsN F hb
  have kp := F.kp
  obtain ⟨oc, od, dV, kV, doc, pm, an, cdv, ct, osl, rfl, lk, hcd, _, _⟩ := F.ex
  obtain ⟨c, ec⟩ := He.codeIn_ref hcd
  have e2 : cdv = .ref (He.codeOf K (x, none)) := by rw [ec, He.codeOf_eq (p := (x, none)) lk (by rw [ec] <;> rfl)]
  subst e2
  refine fn_of lk hcd S (fun vs H Q E h => h.1) fun A outer s H vs Q E hr hsp => ?_
  refine ⟨_, hbody A outer s H E hr, ?_⟩
  obtain ⟨hl, O, b, S0, ds, R, hv, hq⟩ := hsp
  exact ⟨⟨H, O, b, []⟩, O, b, _, S0, start_rel R hv, end_sp hq⟩
end
end TD

set_option Elab.async false
set_option linter.all false
set_option maxRecDepth 100000
set_option maxHeartbeats 1000000
set_option autoImplicit false
namespace TD
open PySem PySem.Spec PyProof.Rows L2

/-! ### what holds behind a run of a semantics -/
/-- a place that simp does not look behind: what it stands with is fixed -/
@[reducible] def Hid {α : Type} (_ : α) : Type := Unit
def WP {α : Type} (m : M α) (t : Ev) (S : Sto) (Q : α → Ev → Sto → Prop) (_ : Hid (m, Q) := ()) : Prop := match m t S with
  | .ok a t' S' => Q a t' S'
  | _ => False
def WE (m : ME) (t : Ev) (S : Sto) (Q : D → Bool → Ev → Sto → Prop) (_ : Hid (m, Q) := ()) : Prop := WP m t S fun x t S => Q x.1 x.2 t S
def WI (m : MI) (t : Ev) (S : Sto) (Q : List D → Anc → Ev → Sto → Prop) (_ : Hid (m, Q) := ()) : Prop := WP m t S fun x t S => Q x.1 x.2 t S
def FW (r : FR) (Q : D → Bool → Sto → Prop) (_ : Hid Q := ()) : Prop := match r with
  | .ok d f S => Q d f S
  | _ => False
def BL (d : D) (k : Bool → Prop) (_ : Hid k := ()) : Prop := match d with
  | .bl c => k c
  | _ => False
section
variable {α β : Type} {t t' : Ev} {S S' : Sto}
/-- two ways -/
def IT (c : Bool) (A B : Prop) (_ : Hid (A, B) := ()) : Prop := if c = true then A else B
theorem it_true (A B : Prop) : IT true A B = A := rfl
theorem it_false (A B : Prop) : IT false A B = B := rfl
theorem it_split {c : Bool} {A B : Prop} (h1 : c = true → A) (h2 : c = false → B) : IT c A B := by cases c; exact h2 rfl; exact h1 rfl
def SL (o : Option Slot) (ks ko : D → Prop) (_ : Hid (ks, ko) := ()) : Prop := match o with
  | some (.sh d) => ks d
  | some (.ow d) => ko d
  | _ => False
theorem sl_sh (d : D) (ks ko : D → Prop) : SL (some (.sh d)) ks ko = ks d := rfl
theorem sl_ow (d : D) (ks ko : D → Prop) : SL (some (.ow d)) ks ko = ko d := rfl
/-- a turn's end -/
def LF (f : Fl) (A : Prop) (B : Fl → Prop) (_ : Hid (A, B) := ()) : Prop := match f with
  | .bk => B .nx
  | .rt d g => B (.rt d g)
  | _ => A
theorem lf_nx (A : Prop) (B : Fl → Prop) : LF .nx A B = A := rfl
theorem lf_ct (A : Prop) (B : Fl → Prop) : LF .ct A B = A := rfl
theorem lf_bk (A : Prop) (B : Fl → Prop) : LF .bk A B = B .nx := rfl
theorem lf_rt (d : D) (g : Bool) (A : Prop) (B : Fl → Prop) : LF (.rt d g) A B = B (.rt d g) := rfl
theorem bl_bl (c : Bool) (k : Bool → Prop) : BL (.bl c) k = k c := rfl
theorem fw_ok (d : D) (f : Bool) (Q : D → Bool → Sto → Prop) : FW (.ok d f S) Q = Q d f S := rfl
theorem fw_mono {r : FR} {Q Q' : D → Bool → Sto → Prop} (h : FW r Q) (k : ∀ d f S, Q d f S → Q' d f S) : FW r Q' := by
  unfold FW at h ⊢
  cases r with
  | ok d f S => exact k _ _ _ h
  | ex c fs S => exact h
  | bad => exact h
theorem wp_mono {m : M α} {Q Q' : α → Ev → Sto → Prop} (h : WP m t S Q) (k : ∀ a t S, Q a t S → Q' a t S) : WP m t S Q' := by
  unfold WP at h ⊢
  cases e : m t S with
  | ok a t' S' => rw [e] at h; exact k _ _ _ h
  | ex c fs t' S' => rw [e] at h; exact h
  | bad => rw [e] at h; exact h
theorem we_mono {m : ME} {Q Q' : D → Bool → Ev → Sto → Prop} (h : WE m t S Q) (k : ∀ a f t S, Q a f t S → Q' a f t S) : WE m t S Q' := wp_mono h fun a t S => k _ _ _ _
theorem fw_eq {r : FR} {d : D} {f : Bool} (h : FW r fun d' f' S' => d' = d ∧ f' = f ∧ S' = S) : r = .ok d f S := by
  unfold FW at h
  cases r with
  | ok d f S => obtain ⟨rfl, rfl, rfl⟩ := h; rfl
  | ex c fs S => exact h.elim
  | bad => exact h.elim
theorem fw_ex {r : FR} {Q : D → Bool → Sto → Prop} (h : FW r Q) : ∃ d f S', r = .ok d f S' ∧ Q d f S' := by
  unfold FW at h
  cases r with
  | ok d f S => exact ⟨_, _, _, rfl, h⟩
  | ex c fs S => exact h.elim
  | bad => exact h.elim
theorem fw_of {r : FR} {d : D} {f : Bool} {Q : D → Bool → Sto → Prop} (e : r = .ok d f S) (h : Q d f S) : FW r Q := by rw [e]; exact h
theorem wp_ok {m : M α} {a : α} {Q : α → Ev → Sto → Prop} (e : m t S = .ok a t' S') (h : Q a t' S') : WP m t S Q := by unfold WP; rw [e]; exact h
theorem wp_ex {m : M α} {Q : α → Ev → Sto → Prop} (h : WP m t S Q) : ∃ a t' S', m t S = .ok a t' S' ∧ Q a t' S' := by
  unfold WP at h
  cases e : m t S with
  | ok a t' S' => rw [e] at h; exact ⟨_, _, _, rfl, h⟩
  | ex c fs t' S' => rw [e] at h; exact h.elim
  | bad => rw [e] at h; exact h.elim

/-! ### binds -/
theorem w_bnd (m : M α) (k : α → M β) (Q : β → Ev → Sto → Prop) : WP (bnd m k) t S Q = WP m t S fun a t S => WP (k a) t S Q := by
  unfold WP bnd
  cases m t S <;> rfl
theorem e_bnd (m : M α) (k : α → ME) (Q : D → Bool → Ev → Sto → Prop) : WE (bnd m k) t S Q = WP m t S fun a t S => WE (k a) t S Q := w_bnd m k _
theorem i_bnd (m : M α) (k : α → MI) (Q : List D → Anc → Ev → Sto → Prop) : WI (bnd m k) t S Q = WP m t S fun a t S => WI (k a) t S Q := w_bnd m k _
theorem w_eb (m : ME) (k : D → M β) (Q : β → Ev → Sto → Prop) : WP (eb m k) t S Q = WE m t S fun d _ t S => WP (k d) t S Q := w_bnd m _ _
theorem e_eb (m : ME) (k : D → ME) (Q : D → Bool → Ev → Sto → Prop) : WE (eb m k) t S Q = WE m t S fun d _ t S => WE (k d) t S Q := w_bnd m _ _
theorem i_eb (m : ME) (k : D → MI) (Q : List D → Anc → Ev → Sto → Prop) : WI (eb m k) t S Q = WE m t S fun d _ t S => WI (k d) t S Q := w_bnd m _ _
theorem w_ret (a : α) (Q : α → Ev → Sto → Prop) : WP (ret a) t S Q = Q a t S := rfl
theorem e_ret (d : D) (f : Bool) (Q : D → Bool → Ev → Sto → Prop) : WE (ret (d, f)) t S Q = Q d f t S := rfl
theorem e_pur (d : D) (Q : D → Bool → Ev → Sto → Prop) : WE (pur d) t S Q = Q d false t S := rfl
theorem i_ret (ds : List D) (Q : List D → Anc → Ev → Sto → Prop) : WI (retI ds) t S Q = Q ds [] t S := rfl
theorem w_ite {c : Prop} [Decidable c] (m r : M α) (Q : α → Ev → Sto → Prop) : WP (if c then m else r) t S Q = if c then WP m t S Q else WP r t S Q := by
  by_cases h : c
  · rw [if_pos h, if_pos h]
  · rw [if_neg h, if_neg h]
theorem e_ite {c : Prop} [Decidable c] (m r : ME) (Q : D → Bool → Ev → Sto → Prop) : WE (if c then m else r) t S Q = if c then WE m t S Q else WE r t S Q := by
  by_cases h : c
  · rw [if_pos h, if_pos h]
  · rw [if_neg h, if_neg h]
theorem w_iff (c : MT) (m r : M α) (Q : α → Ev → Sto → Prop) : WP (iff c m r) t S Q = WP c t S fun x t S => IT x (WP m t S Q) (WP r t S Q) := by
  unfold iff; rw [w_bnd]; congr 1; funext x t S; unfold IT; exact w_ite _ _ _
theorem e_iff (c : MT) (m r : ME) (Q : D → Bool → Ev → Sto → Prop) : WE (iff c m r) t S Q = WP c t S fun x t S => IT x (WE m t S Q) (WE r t S Q) := w_iff c m r _
/-! ### names -/
def VW (S : Sto) (d : D) (k : D → Prop) (_ : Hid k := ()) : Prop := k (vw S d)
theorem vW_non (k : D → Prop) : VW S .non k = k .non := rfl
theorem vW_bl (c : Bool) (k : D → Prop) : VW S (.bl c) k = k (.bl c) := rfl
theorem vW_int (c : Int) (k : D → Prop) : VW S (.int c) k = k (.int c) := rfl
theorem vW_str (c : Str) (k : D → Prop) : VW S (.str c) k = k (.str c) := rfl
theorem vW_lst (c : List D) (k : D → Prop) : VW S (.lst c) k = k (.lst c) := rfl
theorem vW_tup (c : List D) (k : D → Prop) : VW S (.tup c) k = k (.tup c) := rfl
theorem vW_dic (c : List (Key × D)) (k : D → Prop) : VW S (.dic c) k = k (.dic c) := rfl
theorem vW_dct (c : List (List Key × D)) (k : D → Prop) : VW S (.dct c) k = k (.dct c) := rfl
theorem vW_gl (c : Str) (k : D → Prop) : VW S (.gl c) k = k (.gl c) := rfl
theorem vW_scr (c : List D) (k : D → Prop) : VW S (.scr c) k = k (.scr c) := rfl
theorem vW_box (n : Nat) (k : D → Prop) : VW S (.box n) k = k ((S[n]?).getD (.box n)) := rfl
theorem e_var (i : Nat) (Q : D → Bool → Ev → Sto → Prop) : WE (eVar i) t S Q = SL t[i]? (fun d => Q d false t S) fun d => Q d false (t.set i (.sh d)) S := by
  unfold WE WP eVar SL
  rcases h : t[i]? with _ | (_ | d | d) <;> rfl
theorem w_bvar (i : Nat) (Q : D → Ev → Sto → Prop) : WP (bVar i) t S Q = SL t[i]? (fun d => VW S d fun d => Q d t S) fun d => Q d t S := by
  unfold WP bVar SL VW
  rcases h : t[i]? with _ | (_ | d | d) <;> rfl
theorem e_move (i : Nat) (Q : D → Bool → Ev → Sto → Prop) : WE (eMove i) t S Q = SL t[i]? (fun d => Q d false t S) fun d => Q d true (t.set i .no) S := by
  unfold WE WP eMove SL
  rcases h : t[i]? with _ | (_ | d | d) <;> rfl
theorem w_chk (i : Nat) (Q : Unit → Ev → Sto → Prop) : WP (chk i) t S Q = SL t[i]? (fun _ => Q () t S) fun _ => Q () t S := by
  unfold WP chk SL
  rcases h : t[i]? with _ | (_ | d | d) <;> rfl
theorem w_brD (m : ME) (Q : D → Ev → Sto → Prop) : WP (brD m) t S Q = WE m t S fun d _ t S => VW S d fun d => Q d t S := by
  unfold WE WP brD VW
  cases m t S <;> rfl
theorem vw_non : vw S .non = .non := rfl
theorem vw_bl (c : Bool) : vw S (.bl c) = .bl c := rfl
theorem vw_int (c : Int) : vw S (.int c) = .int c := rfl
theorem vw_str (c : Str) : vw S (.str c) = .str c := rfl
theorem vw_lst (c : List D) : vw S (.lst c) = .lst c := rfl
theorem vw_tup (c : List D) : vw S (.tup c) = .tup c := rfl
theorem vw_dic (c : List (Key × D)) : vw S (.dic c) = .dic c := rfl
theorem vw_dct (c : List (List Key × D)) : vw S (.dct c) = .dct c := rfl
theorem vw_gl (c : Str) : vw S (.gl c) = .gl c := rfl
theorem vw_scr (c : List D) : vw S (.scr c) = .scr c := rfl
theorem vw_box (n : Nat) : vw S (.box n) = (S[n]?).getD (.box n) := rfl
/-! ### displays -/
theorem w_anil (Q : List D → Ev → Sto → Prop) : WP aNil t S Q = Q [] t S := rfl
theorem w_acons (m : ME) (r : MA) (Q : List D → Ev → Sto → Prop) : WP (aCons m r) t S Q = WE m t S fun d _ t S => WP r t S fun ds t S => Q (d :: ds) t S := by
  unfold aCons; rw [w_eb]; congr 1; funext d f t S; exact w_bnd _ _ _
theorem lim_eq : lim = 1000000 := rfl
theorem e_tup (m : MA) (Q : D → Bool → Ev → Sto → Prop) : WE (eTup m) t S Q = WP m t S fun ds t S => ds.length ≤ lim ∧ Q (.tup ds) false t S := by
  unfold eTup; rw [e_bnd]; congr 1; funext ds t S; rw [e_ite]; by_cases h : ds.length ≤ lim
  · rw [if_pos h]; exact (propext ⟨fun z => ⟨h, z⟩, fun z => z.2⟩)
  · rw [if_neg h]; exact propext ⟨fun z => z.elim, fun z => absurd z.1 h⟩
theorem e_lst (m : MA) (Q : D → Bool → Ev → Sto → Prop) : WE (eLst m) t S Q = WP m t S fun ds t S => ds.length ≤ lim ∧ Q (.lst ds) true t S := by
  unfold eLst; rw [e_bnd]; congr 1; funext ds t S; rw [e_ite]; by_cases h : ds.length ≤ lim
  · rw [if_pos h]; exact (propext ⟨fun z => ⟨h, z⟩, fun z => z.2⟩)
  · rw [if_neg h]; exact propext ⟨fun z => z.elim, fun z => absurd z.1 h⟩
theorem e_newL (ds : List D) (Q : D → Bool → Ev → Sto → Prop) : WE (newL ds) t S Q = (ds.length ≤ lim ∧ Q (.lst ds) true t S) := by
  unfold newL; rw [e_ite]; by_cases h : ds.length ≤ lim
  · rw [if_pos h]; exact (propext ⟨fun z => ⟨h, z⟩, fun z => z.2⟩)
  · rw [if_neg h]; exact propext ⟨fun z => z.elim, fun z => absurd z.1 h⟩
theorem e_newT (ds : List D) (Q : D → Bool → Ev → Sto → Prop) : WE (newT ds) t S Q = (ds.length ≤ lim ∧ Q (.tup ds) false t S) := by
  unfold newT; rw [e_ite]; by_cases h : ds.length ≤ lim
  · rw [if_pos h]; exact (propext ⟨fun z => ⟨h, z⟩, fun z => z.2⟩)
  · rw [if_neg h]; exact propext ⟨fun z => z.elim, fun z => absurd z.1 h⟩
/-! ### calls -/
def RF (f : Fl) (k : D → Bool → Prop) (_ : Hid k := ()) : Prop := match f with
  | .nx => k .non false
  | .rt d g => k d g
  | _ => False
theorem rf_nx (k : D → Bool → Prop) : RF .nx k = k .non false := rfl
theorem rf_rt (d : D) (g : Bool) (k : D → Bool → Prop) : RF (.rt d g) k = k d g := rfl
theorem e_call (F : Fn) (ds : List D) (Q : D → Bool → Ev → Sto → Prop) : WE (call F ds) t S Q = FW (F ds S) fun d f S' => Q d f t S' := by
  unfold WE WP call FW
  cases F ds S <;> rfl
theorem fw_fnD (n : Nat) (m : MS) (ds : List D) (Q : D → Bool → Sto → Prop) : FW (fnD n m ds S) Q = WP m (ds.map Slot.sh ++ List.replicate (n - ds.length) .no) S fun fl _ S' => RF fl fun d f => Q d f S' := by
  unfold FW WP fnD endF RF
  cases m (ds.map Slot.sh ++ List.replicate (n - ds.length) .no) S with
  | ok a t' S' => cases a <;> rfl
  | ex c fs t' S' => rfl
  | bad => rfl
/-! ### operators -/
section
variable (i j : Int) (Q : D → Bool → Ev → Sto → Prop)
theorem e_add : WE (dAdd (.int i) (.int j)) t S Q = Q (.int (i + j)) false t S := rfl
theorem e_sub : WE (dSub (.int i) (.int j)) t S Q = Q (.int (i - j)) false t S := rfl
theorem e_mul (h : mulOk i j = true) : WE (dMul (.int i) (.int j)) t S Q = Q (.int (i * j)) false t S := by
  unfold dMul; simp only; rw [if_pos h]; rfl
theorem e_fdiv (h : divOk j = true) : WE (dFdiv (.int i) (.int j)) t S Q = Q (.int (i / j)) false t S := by
  unfold dFdiv; simp only; rw [if_pos h]; rfl
theorem e_mod (h : 0 < j) : WE (dMod (.int i) (.int j)) t S Q = Q (.int (i % j)) false t S := by
  unfold dMod; simp only; rw [if_pos h]; rfl
theorem e_pow (h : powOk i j = true) : WE (dPow (.int i) (.int j)) t S Q = Q (.int (i ^ j.toNat)) false t S := by
  unfold dPow; simp only; rw [if_pos h]; rfl
theorem e_lt : WE (dLt (.int i) (.int j)) t S Q = Q (.bl (decide (i < j))) false t S := rfl
theorem e_le : WE (dLe (.int i) (.int j)) t S Q = Q (.bl (decide (i ≤ j))) false t S := rfl
theorem e_gt : WE (dGt (.int i) (.int j)) t S Q = Q (.bl (decide (j < i))) false t S := rfl
theorem e_ge : WE (dGe (.int i) (.int j)) t S Q = Q (.bl (decide (j ≤ i))) false t S := rfl
theorem e_eqI : WE (dEq (.int i) (.int j)) t S Q = Q (.bl (decide (i = j))) false t S := rfl
theorem e_neI : WE (dNe (.int i) (.int j)) t S Q = Q (.bl (!decide (i = j))) false t S := rfl
theorem e_eqB (i j : Bool) : WE (dEq (.bl i) (.bl j)) t S Q = Q (.bl (decide (i = j))) false t S := rfl
theorem e_neB (i j : Bool) : WE (dNe (.bl i) (.bl j)) t S Q = Q (.bl (!decide (i = j))) false t S := rfl
theorem e_eqS (i j : Str) : WE (dEq (.str i) (.str j)) t S Q = Q (.bl (decide (i = j))) false t S := rfl
theorem e_isN (x : D) : WE (dIs x .non) t S Q = Q (.bl (isNon x)) false t S := by cases x <;> rfl
theorem e_isnN (x : D) : WE (dIsN x .non) t S Q = Q (.bl (!isNon x)) false t S := by cases x <;> rfl
theorem e_addL (xs ys : List D) : WE (dAdd (.lst xs) (.lst ys)) t S Q = ((xs ++ ys).length ≤ lim ∧ Q (.lst (xs ++ ys)) true t S) := e_newL _ _
theorem e_eq {x y : D} {c : Bool} (h : eqD x y = some c) : WE (dEq x y) t S Q = Q (.bl c) false t S := by unfold dEq; rw [h]; rfl
theorem e_ne {x y : D} {c : Bool} (h : eqD x y = some c) : WE (dNe x y) t S Q = Q (.bl (!c)) false t S := by unfold dNe; rw [h]; rfl
end
/-! ### tests -/
def IN (d : D) (k : Int → Prop) (_ : Hid k := ()) : Prop := match d with
  | .int c => k c
  | _ => False
theorem in_int (i : Int) (k : Int → Prop) : IN (.int i) k = k i := rfl

theorem e_and (m r : ME) (Q : D → Bool → Ev → Sto → Prop) : WE (eAnd m r) t S Q = WE m t S fun d _ t S => BL d fun c => IT c (WE r t S Q) (Q (.bl false) false t S) := by
  unfold eAnd; rw [e_eb]; congr 1; funext d f t S
  rcases d with _ | (_ | _) | _ | _ | _ | _ | _ | _ | _ | _ | _ | _ | _ <;> rfl
theorem e_or (m r : ME) (Q : D → Bool → Ev → Sto → Prop) : WE (eOr m r) t S Q = WE m t S fun d _ t S => BL d fun c => IT c (Q (.bl true) false t S) (WE r t S Q) := by
  unfold eOr; rw [e_eb]; congr 1; funext d f t S
  rcases d with _ | (_ | _) | _ | _ | _ | _ | _ | _ | _ | _ | _ | _ | _ <;> rfl
theorem e_not (m : ME) (Q : D → Bool → Ev → Sto → Prop) : WE (eNot m) t S Q = WE m t S fun d _ t S => BL d fun c => Q (.bl (!c)) false t S := by
  unfold eNot; rw [e_eb]; congr 1; funext d f t S
  rcases d with _ | _ | _ | _ | _ | _ | _ | _ | _ | _ | _ | _ | _ <;> rfl
theorem w_tst (m : ME) (Q : Bool → Ev → Sto → Prop) : WP (tst m) t S Q = WE m t S fun d _ t S => BL d fun c => Q c t S := by
  unfold tst; rw [w_eb]; congr 1; funext d f t S
  rcases d with _ | _ | _ | _ | _ | _ | _ | _ | _ | _ | _ | _ | _ <;> rfl
theorem w_tru (m : MB) (Q : Bool → Ev → Sto → Prop) : WP (tTru m) t S Q = WP m t S fun d t S => WP (dTru d) t S Q := w_bnd m _ _
theorem w_truN (Q : Bool → Ev → Sto → Prop) : WP (dTru .non) t S Q = Q false t S := rfl
theorem w_truB (c : Bool) (Q : Bool → Ev → Sto → Prop) : WP (dTru (.bl c)) t S Q = Q c t S := rfl
theorem w_truI (c : Int) (Q : Bool → Ev → Sto → Prop) : WP (dTru (.int c)) t S Q = Q (c != 0) t S := rfl
theorem w_truL (c : List D) (Q : Bool → Ev → Sto → Prop) : WP (dTru (.lst c)) t S Q = Q (!c.isEmpty) t S := rfl
theorem w_truT (c : List D) (Q : Bool → Ev → Sto → Prop) : WP (dTru (.tup c)) t S Q = Q (!c.isEmpty) t S := rfl
theorem w_andM (m r : MT) (Q : Bool → Ev → Sto → Prop) : WP (tAndM m r) t S Q = WP m t S fun c t S => IT c (WP r t S Q) (Q false t S) := by
  unfold tAndM; rw [w_bnd]; congr 1; funext c t S; cases c <;> rfl
theorem w_orM (m r : MT) (Q : Bool → Ev → Sto → Prop) : WP (tOrM m r) t S Q = WP m t S fun c t S => IT c (Q true t S) (WP r t S Q) := by
  unfold tOrM; rw [w_bnd]; congr 1; funext c t S; cases c <;> rfl
theorem w_notM (m : MT) (Q : Bool → Ev → Sto → Prop) : WP (tNotM m) t S Q = WP m t S fun c t S => Q (!c) t S := w_bnd m _ _
theorem e_neg (m : ME) (Q : D → Bool → Ev → Sto → Prop) : WE (eNeg m) t S Q = WE m t S fun d _ t S => IN d fun i => Q (.int (-i)) false t S := by
  unfold eNeg; rw [e_eb]; congr 1; funext d f t S
  rcases d with _ | _ | _ | _ | _ | _ | _ | _ | _ | _ | _ | _ | _ <;> rfl
/-! ### items -/
def AT (o : Option D) (k : D → Prop) (_ : Hid k := ()) : Prop := match o with
  | some d => k d
  | none => False
theorem at_some (d : D) (k : D → Prop) : AT (some d) k = k d := rfl
theorem e_optD (o : Option D) (Q : D → Bool → Ev → Sto → Prop) : WE (optD o) t S Q = AT o fun d => Q d false t S := by cases o <;> rfl
theorem e_ixT (ds : List D) (i : Int) (Q : D → Bool → Ev → Sto → Prop) : WE (dIx (.tup ds) (.int i)) t S Q = AT (atI ds i) fun d => Q d false t S := e_optD _ _
theorem e_ixL (ds : List D) (i : Int) (Q : D → Bool → Ev → Sto → Prop) : WE (dIx (.lst ds) (.int i)) t S Q = AT (atI ds i) fun d => Q d false t S := e_optD _ _
theorem at0 (a : D) (l : List D) : atI (a :: l) 0 = some a := by
  unfold atI ixN
  rw [if_pos (by decide), if_pos (by simp)]; rfl
theorem atNat (ds : List D) (n : Nat) (i : Int) (h : i = n) : atI ds i = ds[n]? := by
  subst h
  unfold atI ixN
  rw [if_pos (by omega)]
  by_cases z : n < ds.length
  · rw [if_pos (by omega)]; show ds[(n : Int).toNat]? = _; rw [Int.toNat_natCast]
  · rw [if_neg (by omega), List.getElem?_eq_none (by omega)]; rfl
theorem at1 (ds : List D) : atI ds 1 = ds[1]? := atNat ds 1 1 rfl
theorem at2 (ds : List D) : atI ds 2 = ds[2]? := atNat ds 2 2 rfl
theorem at3 (ds : List D) : atI ds 3 = ds[3]? := atNat ds 3 3 rfl
theorem at4 (ds : List D) : atI ds 4 = ds[4]? := atNat ds 4 4 rfl
theorem atI_cast (ds : List D) (n : Nat) : atI ds (n : Int) = ds[n]? := atNat ds n n rfl
theorem atLast (ds : List D) : atI ds (-1) = ds.getLast? := by
  unfold atI ixN
  rw [if_neg (by decide)]
  cases ds with
  | nil => rfl
  | cons a l =>
    rw [if_pos (by simp only [List.length_cons]; omega)]
    show (a :: l)[(-1 + ((a :: l).length : Int)).toNat]? = _
    rw [List.getLast?_eq_getElem?]
    congr 1
    simp only [List.length_cons]
    omega
theorem e_vThen (i : Nat) (m : ME) (f : D → D → ME) (Q : D → Bool → Ev → Sto → Prop) : WE (vThen i m f) t S Q = WP (chk i) t S fun _ t S => WE m t S fun y _ t S => WP (bVar i) t S fun x t S => WE (f x y) t S Q := by
  unfold vThen
  rw [e_bnd]; congr 1; funext u t S
  rw [e_eb]; congr 1; funext y f2 t S
  exact e_bnd _ _ _
theorem e_ixV (i : Nat) (m : ME) (Q : D → Bool → Ev → Sto → Prop) : WE (eIxV i m) t S Q = WP (chk i) t S fun _ t S => WE m t S fun y _ t S => WP (bVar i) t S fun x t S => WE (dIx x y) t S Q := e_vThen i m _ Q
theorem e_ix (m r : ME) (Q : D → Bool → Ev → Sto → Prop) : WE (eIx m r) t S Q = WE m t S fun x _ t S => WE r t S fun y _ t S => VW S x fun x => WE (dIx x y) t S Q := by
  unfold eIx; rw [e_eb]; congr 1; funext x f t S; rw [e_eb]; rfl
/-! ### cuts -/
theorem w_pNone (Q : Option Int → Ev → Sto → Prop) : WP pNone t S Q = Q none t S := rfl
theorem w_pInt (m : ME) (Q : Option Int → Ev → Sto → Prop) : WP (pInt m) t S Q = WE m t S fun d _ t S => IN d fun i => Q (some i) t S := by
  unfold pInt; rw [w_eb]; congr 1; funext d f t S
  rcases d with _ | _ | _ | _ | _ | _ | _ | _ | _ | _ | _ | _ | _ <;> rfl
theorem e_slL (ds : List D) (lo hi : Option Int) (Q : D → Bool → Ev → Sto → Prop) : WE (dSl (.lst ds) lo hi) t S Q = ((cutD ds lo hi).length ≤ lim ∧ Q (.lst (cutD ds lo hi)) true t S) := e_newL _ _
theorem e_slV (i : Nat) (lo hi : MP) (Q : D → Bool → Ev → Sto → Prop) : WE (eSlV i lo hi) t S Q = WP (chk i) t S fun _ t S => WP lo t S fun l t S => WP hi t S fun u t S => WP (bVar i) t S fun x t S => WE (dSl x l u) t S Q := by
  unfold eSlV
  rw [e_bnd]; congr 1; funext u t S
  rw [e_bnd]; congr 1; funext y t S
  rw [e_bnd]; congr 1; funext y t S
  exact e_bnd _ _ _
theorem e_sl (m : ME) (lo hi : MP) (Q : D → Bool → Ev → Sto → Prop) : WE (eSl m lo hi) t S Q = WE m t S fun x _ t S => WP lo t S fun l t S => WP hi t S fun u t S => VW S x fun x => WE (dSl x l u) t S Q := by
  unfold eSl
  rw [e_eb]; congr 1; funext y f t S
  rw [e_bnd]; congr 1; funext y t S
  rw [e_bnd]; rfl
/-! ### built-in functions -/
section
variable (Q : D → Bool → Ev → Sto → Prop)
theorem e_lenL (ds : List D) : WE (dLen (.lst ds)) t S Q = Q (.int ds.length) false t S := rfl
theorem e_lenT (ds : List D) : WE (dLen (.tup ds)) t S Q = Q (.int ds.length) false t S := rfl
theorem e_lenD (ds : List (Key × D)) : WE (dLen (.dic ds)) t S Q = Q (.int ds.length) false t S := rfl
theorem e_abs (i : Int) : WE (dAbs (.int i)) t S Q = Q (.int (if i < 0 then -i else i)) false t S := rfl
theorem e_intI (i : Int) : WE (dInt (.int i)) t S Q = Q (.int i) false t S := rfl
theorem e_intB (c : Bool) : WE (dInt (.bl c)) t S Q = Q (.int (if c then 1 else 0)) false t S := rfl
theorem e_listL (ds : List D) : WE (dList (.lst ds)) t S Q = (ds.length ≤ lim ∧ Q (.lst ds) true t S) := e_newL _ _
theorem e_listT (ds : List D) : WE (dList (.tup ds)) t S Q = (ds.length ≤ lim ∧ Q (.lst ds) true t S) := e_newL _ _
theorem e_listS (ds : List D) : WE (dList (.scr ds)) t S Q = (ds.length ≤ lim ∧ Q (.lst ds) true t S) := e_newL _ _
theorem e_tupleL (ds : List D) : WE (dTuple (.lst ds)) t S Q = (ds.length ≤ lim ∧ Q (.tup ds) false t S) := e_newT _ _
theorem e_tupleT (ds : List D) : WE (dTuple (.tup ds)) t S Q = Q (.tup ds) false t S := rfl
theorem e_gcd (i j : Int) : WE (dGcd [.int i, .int j]) t S Q = Q (.int ((Nat.gcd i.natAbs j.natAbs : Nat) : Int)) false t S := rfl
theorem e_rev (ds : List D) : WE (dRev (.lst ds)) t S Q = (ds.reverse.length ≤ lim ∧ Q (.lst ds.reverse) true t S) := e_newL _ _
theorem e_isi (c : Cl) (d : D) (k : Kd) (h : kd d = some k) : WE (dIsi c d) t S Q = Q (.bl (isK k c)) false t S := by unfold dIsi; rw [h]; rfl
theorem e_isiT (cs : List Cl) (d : D) (k : Kd) (h : kd d = some k) : WE (dIsiT cs d) t S Q = Q (.bl (cs.any (isK k))) false t S := by unfold dIsiT; rw [h]; rfl
end
theorem boolsD_map {α : Type} (f : α → Bool) : ∀ l : List α, boolsD (l.map fun x => D.bl (f x)) = some (l.map f)
  | [] => rfl
  | x :: l => by show (boolsD (l.map fun x => D.bl (f x))).map (f x :: ·) = _; rw [boolsD_map f l]; rfl
theorem e_allM {α : Type} (f : α → Bool) (l : List α) (Q : D → Bool → Ev → Sto → Prop) : WE (dAll (.lst (l.map fun x => D.bl (f x)))) t S Q = Q (.bl (l.all f)) false t S := by
  show WE (optB ((boolsD (l.map fun x => D.bl (f x))).map fun l => l.all id)) t S Q = _
  rw [boolsD_map]
  show Q (.bl ((l.map f).all id)) false t S = _
  rw [List.all_map]; rfl
theorem e_anyM {α : Type} (f : α → Bool) (l : List α) (Q : D → Bool → Ev → Sto → Prop) : WE (dAny (.lst (l.map fun x => D.bl (f x)))) t S Q = Q (.bl (l.any f)) false t S := by
  show WE (optB ((boolsD (l.map fun x => D.bl (f x))).map fun l => l.any id)) t S Q = _
  rw [boolsD_map]
  show Q (.bl ((l.map f).any id)) false t S = _
  rw [List.any_map]; rfl
/-! ### statements -/
def SQ (f : Fl) (A : Prop) (B : Fl → Prop) (_ : Hid (A, B) := ()) : Prop := match f with
  | .nx => A
  | f => B f
theorem sq_nx (A : Prop) (B : Fl → Prop) : SQ .nx A B = A := rfl
theorem sq_rt (d : D) (f : Bool) (A : Prop) (B : Fl → Prop) : SQ (.rt d f) A B = B (.rt d f) := rfl
theorem sq_bk (A : Prop) (B : Fl → Prop) : SQ .bk A B = B .bk := rfl
theorem sq_ct (A : Prop) (B : Fl → Prop) : SQ .ct A B = B .ct := rfl
section
variable (Q : Fl → Ev → Sto → Prop)
theorem s_seq (m r : MS) : WP (sSeq m r) t S Q = WP m t S fun f t S => SQ f (WP r t S Q) fun f => Q f t S := by
  unfold sSeq; rw [w_bnd]; congr 1; funext f t S; cases f <;> rfl
theorem s_nx : WP sNx t S Q = Q .nx t S := rfl
theorem s_bk : WP sBk t S Q = Q .bk t S := rfl
theorem s_ct : WP sCt t S Q = Q .ct t S := rfl
theorem s_retN : WP sRetN t S Q = Q (.rt .non false) t S := rfl
theorem s_ret (m : ME) : WP (sRet m) t S Q = WE m t S fun d f t S => Q (.rt d f) t S := w_bnd m _ _
theorem s_if (c : MT) (a b : MS) : WP (sIf c a b) t S Q = WP c t S fun x t S => IT x (WP a t S Q) (WP b t S Q) := w_iff c a b Q
theorem s_expr (m : ME) : WP (sExpr m) t S Q = WE m t S fun _ _ t S => Q .nx t S := w_bnd m _ _
theorem s_set (i : Nat) (m : ME) : WP (sSet i m) t S Q = WE m t S fun d f t S => Q .nx (t.set i (if f = true then .ow d else .sh d)) S := w_bnd m _ _
theorem s_par (i j : Nat) (m r : ME) : WP (sPar i j m r) t S Q = WE m t S fun x _ t S => WE r t S fun y _ t S => Q .nx ((t.set i (.sh x)).set j (.sh y)) S := by
  unfold sPar; rw [w_eb]; congr 1; funext d f t S; rw [w_eb]; rfl
def WF (m : MF) (t : Ev) (S : Sto) (Q : List (D × Bool) → Ev → Sto → Prop) (_ : Hid (m, Q) := ()) : Prop := WP m t S Q
theorem s_parF (is : List Nat) (m : MF) : WP (sParF is m) t S Q = WF m t S fun xs t S => is.length = xs.length ∧ Q .nx (setF is xs t) S := by
  unfold sParF; rw [w_bnd]; unfold WF; congr 1; funext xs t S; rw [w_ite]
  by_cases h : is.length = xs.length
  · rw [if_pos h]; exact (propext ⟨fun z => ⟨h, z⟩, fun z => z.2⟩)
  · rw [if_neg h]; exact propext ⟨fun z => z.elim, fun z => absurd z.1 h⟩
theorem f_nil (Q : List (D × Bool) → Ev → Sto → Prop) : WF fNil t S Q = Q [] t S := rfl
theorem f_cons (m : ME) (r : MF) (Q : List (D × Bool) → Ev → Sto → Prop) : WF (fCons m r) t S Q = WE m t S fun d f t S => WF r t S fun ds t S => Q ((d, f) :: ds) t S := by
  unfold fCons WF; rw [w_bnd]; unfold WE; congr 1; funext d t S; exact w_bnd _ _ _
theorem setF_cons (i : Nat) (is : List Nat) (d : D) (f : Bool) (xs : List (D × Bool)) : setF (i :: is) ((d, f) :: xs) t = setF is xs (t.set i (if f = true then .ow d else .sh d)) := rfl
theorem setF_nil : setF [] [] t = t := rfl
def OE (o : Option Ev) (k : Ev → Prop) (_ : Hid k := ()) : Prop := match o with
  | some t => k t
  | none => False
theorem oe_some (k : Ev → Prop) : OE (some t) k = k t := rfl
theorem w_asg (f : MG) (d : D) (Q : Unit → Ev → Sto → Prop) : WP (asg f d) t S Q = OE (f d t) fun t' => Q () t' S := by
  unfold WP asg
  cases f d t <;> rfl
theorem g_nm (i : Nat) (d : D) : gNm i d t = some (t.set i (.sh d)) := rfl
theorem g_nil : gNil [] t = some t := rfl
theorem g_cons (f : MG) (r : List D → Ev → Option Ev) (d : D) (ds : List D) : gCons f r (d :: ds) t = (f d t).bind (r ds) := rfl
theorem g_tpT (r : List D → Ev → Option Ev) (ds : List D) : gTp r (.tup ds) t = r ds t := rfl
theorem g_tpL (r : List D → Ev → Option Ev) (ds : List D) : gTp r (.lst ds) t = r ds t := rfl
theorem s_asg (m : ME) (f : MG) : WP (sAsg m f) t S Q = WE m t S fun d _ t S => OE (f d t) fun t' => Q .nx t' S := by
  unfold sAsg; rw [w_eb]; congr 1; funext d g t S; rw [w_bnd, w_asg]; rfl
theorem s_for (m : MI) (f : MG) (body : MS) : WP (sFor m f body) t S Q = WI m t S fun ds l t S => WP (loop f body l ds) t S Q := w_bnd m _ _
theorem s_while (fu : Ev → Sto → Nat) (c : MT) (body : MS) : WP (sWhile fu c body) t S Q = WP (wloop (fu t S) c body) t S Q := rfl
end
/-! ### loops -/
theorem loop_nil (f : MG) (body : MS) (Q : Fl → Ev → Sto → Prop) : WP (loop f body [] []) t S Q = Q .nx t S := rfl
theorem loop_cons (f : MG) (body : MS) (d : D) (ds : List D) (Q : Fl → Ev → Sto → Prop) : WP (loop f body [] (d :: ds)) t S Q = OE (f d t) fun t => WP body t S fun fl t S => LF fl (WP (loop f body [] ds) t S Q) fun fl => Q fl t S := by
  show WP (fun t S => if ancB [] S = true then bnd (asg f d) (fun _ => bnd body fun fl => match fl with
    | .bk => ret .nx
    | .rt d f => ret (.rt d f)
    | _ => loop f body [] ds) t S else .bad) t S Q = _
  show WP (bnd (asg f d) (fun _ => bnd body fun fl => match fl with
    | .bk => ret .nx
    | .rt d f => ret (.rt d f)
    | _ => loop f body [] ds)) t S Q = _
  rw [w_bnd, w_asg]
  congr 1; funext t
  rw [w_bnd]
  congr 1; funext fl t S
  cases fl <;> rfl
/-- a for by its invariant over what has been gone through -/
theorem wp_loop {X : Type} {enc : X → D} {f : MG} {body : MS} {Q : Fl → Ev → Sto → Prop} (I : List X → Ev → Sto → Prop) :
    ∀ (xs pre : List X) {t : Ev} {S : Sto}, I pre t S →
    (∀ (p : List X) (x : X) (r : List X) (t : Ev) (S : Sto), p ++ x :: r = pre ++ xs → I p t S → OE (f (enc x) t) fun t => WP body t S fun fl t S => LF fl (I (p ++ [x]) t S) fun fl => Q fl t S) →
    (∀ t S, I (pre ++ xs) t S → Q .nx t S) → WP (loop f body [] (xs.map enc)) t S Q
  | [], pre, t, S, h0, _, he => he t S (by rw [List.append_nil]; exact h0)
  | x :: xs, pre, t, S, h0, hs, he => by
    rw [List.map_cons, loop_cons]
    have h1 := hs pre x xs t S rfl h0
    unfold OE at h1 ⊢
    cases e : f (enc x) t with
    | none => rw [e] at h1; exact h1
    | some t1 =>
      rw [e] at h1
      simp only at h1 ⊢
      refine wp_mono h1 fun fl t2 S2 h2 => ?_
      have k : I (pre ++ [x]) t2 S2 → WP (loop f body [] (xs.map enc)) t2 S2 Q := fun h3 =>
        wp_loop I xs (pre ++ [x]) h3 (fun p y r t S e => hs p y r t S (by rw [e, List.append_assoc]; rfl)) (fun t S h => he t S (by rw [List.append_assoc] at h; exact h))
      cases fl with
      | nx => exact k h2
      | ct => exact k h2
      | rt d g => exact h2
      | bk => exact h2
theorem wp_for {X : Type} {enc : X → D} {f : MG} {body : MS} {Q : Fl → Ev → Sto → Prop} (I : List X → Ev → Sto → Prop) {xs : List X} (h0 : I [] t S)
    (hs : ∀ (p : List X) (x : X) (r : List X) (t : Ev) (S : Sto), p ++ x :: r = xs → I p t S → OE (f (enc x) t) fun t => WP body t S fun fl t S => LF fl (I (p ++ [x]) t S) fun fl => Q fl t S)
    (he : ∀ t S, I xs t S → Q .nx t S) : WP (loop f body [] (xs.map enc)) t S Q := wp_loop I xs [] h0 hs he
/-- a while by fuel: the invariant falls with the fuel -/
theorem wp_while {c : MT} {body : MS} {Q : Fl → Ev → Sto → Prop} (I : Nat → Ev → Sto → Prop) (hs : ∀ (n : Nat) (t : Ev) (S : Sto), I n t S → WP c t S fun x t S => IT x (WP body t S fun fl t S => LF fl (∃ k, k < n ∧ I k t S) fun fl => Q fl t S) (Q .nx t S)) : ∀ (n k : Nat) {t : Ev} {S : Sto}, k < n → I k t S → WP (wloop n c body) t S Q
  | 0, k, _, _, h, _ => absurd h (Nat.not_lt_zero _)
  | n + 1, k, t, S, h, i => by
    show WP (bnd c fun x => if x = true then bnd body fun fl => match fl with
      | .bk => ret .nx
      | .rt d f => ret (.rt d f)
      | _ => wloop n c body
    else ret .nx) t S Q
    rw [w_bnd]
    refine wp_mono (hs k t S i) fun x t S h1 => ?_
    cases x with
    | false => exact h1
    | true =>
      show WP (bnd body _) t S Q
      rw [w_bnd]
      refine wp_mono (show WP body t S _ from h1) fun fl t S h2 => ?_
      have k1 : (∃ k', k' < k ∧ I k' t S) → WP (wloop n c body) t S Q := fun ⟨k', h3, h4⟩ => wp_while I hs n k' (by omega) h4
      cases fl with
      | nx => exact k1 h2
      | ct => exact k1 h2
      | rt d g => exact h2
      | bk => exact h2
/-! ### sources -/
section
variable (Q : List D → Anc → Ev → Sto → Prop)
theorem i_seqL (ds : List D) : WI (dSeq (.lst ds)) t S Q = Q ds [] t S := rfl
theorem i_seqT (ds : List D) : WI (dSeq (.tup ds)) t S Q = Q ds [] t S := rfl
theorem i_rng1 (j : Int) : WI (dRng1 [.int j]) t S Q = ((-1000000000 ≤ j ∧ j ≤ 1000000000) ∧ Q (rng 0 j.toNat) [] t S) := by
  show WP (if -1000000000 ≤ j ∧ j ≤ 1000000000 then retI (rng 0 j.toNat) else bad) t S _ = _
  rw [w_ite]
  by_cases h : -1000000000 ≤ j ∧ j ≤ 1000000000
  · rw [if_pos h]; exact (propext ⟨fun z => ⟨h, z⟩, fun z => z.2⟩)
  · rw [if_neg h]; exact propext ⟨fun z => z.elim, fun z => absurd z.1 h⟩
theorem i_rng2 (i j : Int) : WI (dRng2 [.int i, .int j]) t S Q = (((-1000000000 ≤ i ∧ i ≤ 1000000000) ∧ -1000000000 ≤ j ∧ j ≤ 1000000000) ∧ Q (rng i (j - i).toNat) [] t S) := by
  show WP (if (-1000000000 ≤ i ∧ i ≤ 1000000000) ∧ -1000000000 ≤ j ∧ j ≤ 1000000000 then retI (rng i (j - i).toNat) else bad) t S _ = _
  rw [w_ite]
  by_cases h : (-1000000000 ≤ i ∧ i ≤ 1000000000) ∧ -1000000000 ≤ j ∧ j ≤ 1000000000
  · rw [if_pos h]; exact (propext ⟨fun z => ⟨h, z⟩, fun z => z.2⟩)
  · rw [if_neg h]; exact propext ⟨fun z => z.elim, fun z => absurd z.1 h⟩
theorem i_zip2 (xs ys : List D) : WI (dZip2 [.lst xs, .lst ys]) t S Q = Q (zip2D xs ys) [] t S := rfl
theorem i_zip2TT (xs ys : List D) : WI (dZip2 [.tup xs, .tup ys]) t S Q = Q (zip2D xs ys) [] t S := rfl
theorem i_zip2LT (xs ys : List D) : WI (dZip2 [.lst xs, .tup ys]) t S Q = Q (zip2D xs ys) [] t S := rfl
theorem i_zip2TL (xs ys : List D) : WI (dZip2 [.tup xs, .lst ys]) t S Q = Q (zip2D xs ys) [] t S := rfl
theorem i_zip3 (xs ys zs : List D) : WI (dZip3 [.lst xs, .lst ys, .lst zs]) t S Q = Q (zip3D xs ys zs) [] t S := rfl
theorem i_enum (xs : List D) : WI (dEnum [.lst xs]) t S Q = Q (enumD 0 xs) [] t S := rfl
end
/-! ### comprehensions -/
theorem e_lc (m : MI) (vs : List Nat) (f : MG) (c : MT) (e : ME) (Q : D → Bool → Ev → Sto → Prop) : WE (eLc m vs f c e) t S Q = WI m t S fun ds l t S => ds.length ≤ lim ∧ WP (lcL vs f c e l ds) t S fun acc t S => Q (.lst acc) true t S := by
  unfold eLc; rw [e_bnd]; unfold WI; congr 1; funext ds t S; rw [e_ite]
  by_cases h : ds.1.length ≤ lim
  · rw [if_pos h, e_bnd]; exact (propext ⟨fun z => ⟨h, z⟩, fun z => z.2⟩)
  · rw [if_neg h]; exact propext ⟨fun z => z.elim, fun z => absurd z.1 h⟩
theorem w_yes (Q : Bool → Ev → Sto → Prop) : WP cYes t S Q = Q true t S := rfl
/-- a comprehension by its invariant: the words gone through, the list made -/
theorem wp_lcGo {X : Type} {enc : X → D} {vs : List Nat} {f : MG} {c : MT} {e : ME} {Q : List D → Ev → Sto → Prop} (I : List X → List D → Ev → Sto → Prop) :
    ∀ (xs pre : List X) (acc : List D) {t : Ev} {S : Sto}, I pre acc t S →
    (∀ (p : List X) (x : X) (r : List X) (acc : List D) (t : Ev) (S : Sto), p ++ x :: r = pre ++ xs → I p acc t S → OE (f (enc x) t) fun t => WP c t S fun b t S => IT b (WE e t S fun d _ t S => I (p ++ [x]) (acc ++ [d]) (clr vs t) S) (I (p ++ [x]) acc (clr vs t) S)) →
    (∀ acc t S, I (pre ++ xs) acc t S → Q acc t S) → WP (lcGo vs f c e [] (xs.map enc) acc) t S Q
  | [], pre, acc, t, S, h0, _, he => he acc t S (by rw [List.append_nil]; exact h0)
  | x :: xs, pre, acc, t, S, h0, hs, he => by
    have h1 := hs pre x xs acc t S rfl h0
    show WP (bnd (asg f (enc x)) (fun _ => bnd c fun b => if b = true then eb e fun y => fun t S => lcGo vs f c e [] (xs.map enc) (acc ++ [y]) (clr vs t) S else fun t S => lcGo vs f c e [] (xs.map enc) acc (clr vs t) S)) t S Q
    rw [w_bnd, w_asg]
    unfold OE at h1 ⊢
    cases e1 : f (enc x) t with
    | none => rw [e1] at h1; exact h1
    | some t1 =>
      rw [e1] at h1
      simp only at h1 ⊢
      rw [w_bnd]
      refine wp_mono h1 fun b t2 S2 h2 => ?_
      have k : ∀ acc t2 S2, I (pre ++ [x]) acc t2 S2 → WP (lcGo vs f c e [] (xs.map enc) acc) t2 S2 Q := fun acc t2 S2 h3 =>
        wp_lcGo I xs (pre ++ [x]) acc h3 (fun p y r acc t S e => hs p y r acc t S (by rw [e, List.append_assoc]; rfl)) (fun acc t S h => he acc t S (by rw [List.append_assoc] at h; exact h))
      rw [w_ite]
      cases b with
      | false => exact k _ _ _ h2
      | true =>
        rw [if_pos rfl, w_eb]
        rw [it_true] at h2
        exact we_mono h2 fun d g t3 S3 h3 => k _ _ _ h3
theorem wp_lcL {X : Type} {enc : X → D} {vs : List Nat} {f : MG} {c : MT} {e : ME} {Q : List D → Ev → Sto → Prop} {xs : List X} (I : List X → List D → Ev → Sto → Prop) (h0 : I [] [] (clr vs t) S)
    (hs : ∀ (p : List X) (x : X) (r : List X) (acc : List D) (t : Ev) (S : Sto), p ++ x :: r = xs → I p acc t S → OE (f (enc x) t) fun t => WP c t S fun b t S => IT b (WE e t S fun d _ t S => I (p ++ [x]) (acc ++ [d]) (clr vs t) S) (I (p ++ [x]) acc (clr vs t) S))
    (he : ∀ acc t' S, I xs acc t' S → Q acc (back vs t t') S) : WP (lcL vs f c e [] (xs.map enc)) t S Q := by
  have h := wp_lcGo (Q := fun acc t' S => Q acc (back vs t t') S) I xs [] [] h0 hs he
  unfold WP at h ⊢
  unfold lcL
  cases e1 : lcGo vs f c e [] (xs.map enc) [] (clr vs t) S with
  | ok a t' S' => rw [e1] at h; exact h
  | ex _ _ _ _ => rw [e1] at h; exact h
  | bad => rw [e1] at h; exact h
/-- .. whose parts write nothing -/
theorem wp_lcP {X : Type} {enc : X → D} {vs : List Nat} {f : MG} {c : MT} {e : ME} {Q : List D → Ev → Sto → Prop} {xs : List X} (p : X → Bool) (g : X → D)
    (hs : ∀ x ∈ xs, OE (f (enc x) (clr vs t)) fun t1 => WP c t1 S fun b t2 S2 => b = p x ∧ clr vs t2 = clr vs t ∧ S2 = S ∧ (p x = true → WE e t2 S fun d _ t3 S3 => d = g x ∧ clr vs t3 = clr vs t ∧ S3 = S))
    (he : Q ((xs.filter p).map g) (back vs t (clr vs t)) S) : WP (lcL vs f c e [] (xs.map enc)) t S Q := by
  refine wp_lcL (fun pre acc t' S' => acc = (pre.filter p).map g ∧ t' = clr vs t ∧ S' = S) ⟨rfl, rfl, rfl⟩ (fun pre x r acc t' S' e ⟨h1, h2, h3⟩ => ?_) (fun acc t' S' ⟨h1, h2, h3⟩ => by rw [h1, h2, h3]; exact he)
  subst h1 h2 h3
  have h4 := hs x (by rw [← e]; simp)
  unfold OE at h4 ⊢
  cases e1 : f (enc x) (clr vs t) with
  | none => rw [e1] at h4; exact h4
  | some t1 =>
    rw [e1] at h4
    simp only at h4 ⊢
    refine wp_mono h4 fun b t2 S2 ⟨h5, h6, h7, h8⟩ => ?_
    subst h5 h7
    cases hp : p x with
    | false =>
      rw [it_false]
      exact ⟨by simp [List.filter_append, hp], h6, rfl⟩
    | true =>
      rw [it_true]
      exact we_mono (h8 hp) fun d g t3 S3 ⟨h9, h10, h11⟩ => ⟨by simp [List.filter_append, hp, h9], h10, h11⟩
/-! ### writing methods -/
def OD (o : Option (D × D)) (k : D → D → Prop) (_ : Hid k := ()) : Prop := match o with
  | some (d, y) => k d y
  | none => False
theorem od_some (d y : D) (k : D → D → Prop) : OD (some (d, y)) k = k d y := rfl
theorem e_mslot (ty : String) (i : Nat) (ma : MA) (f : FM) (Q : D → Bool → Ev → Sto → Prop) : WE (mSlot ty i ma f) t S Q = SL t[i]? (fun _ => False) fun d0 => tyD ty d0 = true ∧ WP ma t S fun ds t S => WE (wrS i f ds) t S Q := by
  have e1 : ∀ o, t[i]? = o → WE (mSlot ty i ma f) t S Q = WE (fun t S => match o with
      | some (.ow d0) => if tyD ty d0 = true then bnd ma (wrS i f) t S else .bad
      | _ => .bad) t S Q := by
    rintro o rfl
    rfl
  rw [e1 _ rfl]
  generalize t[i]? = o
  rcases o with _ | (_ | d | d)
  · rfl
  · rfl
  · rfl
  · by_cases z : tyD ty d = true
    · have e2 : (fun (t : Ev) (S : Sto) => if tyD ty d = true then bnd ma (wrS i f) t S else R.bad) = bnd ma (wrS i f) := by funext t S; rw [if_pos z]
      show WE (fun (t : Ev) (S : Sto) => if tyD ty d = true then bnd ma (wrS i f) t S else R.bad) t S Q = _
      rw [e2, e_bnd]
      exact propext ⟨fun y => ⟨z, y⟩, fun y => y.2⟩
    · have e2 : (fun (t : Ev) (S : Sto) => if tyD ty d = true then bnd ma (wrS i f) t S else R.bad) = fun _ _ => .bad := by funext t S; rw [if_neg z]
      show WE (fun (t : Ev) (S : Sto) => if tyD ty d = true then bnd ma (wrS i f) t S else R.bad) t S Q = _
      rw [e2]
      exact propext ⟨fun y => False.elim y, fun y => absurd y.1 z⟩
theorem e_wrS (i : Nat) (f : FM) (ds : List D) (Q : D → Bool → Ev → Sto → Prop) : WE (wrS i f ds) t S Q = SL t[i]? (fun _ => False) fun d => OD (f ds d) fun d' y => Q y false (t.set i (.ow d')) S := by
  unfold WE WP wrS OD SL
  rcases h : t[i]? with _ | (_ | d | d)
  · rfl
  · rfl
  · rfl
  · simp only; rcases f ds d with _ | ⟨d', y⟩ <;> rfl
theorem fApp_ok (d : D) (ds : List D) (h : ds.length < lim) : fApp [d] (.lst ds) = some (.lst (ds ++ [d]), .non) := by
  show (if ds.length < lim then some (D.lst (ds ++ [d]), D.non) else none) = _
  rw [if_pos h]
theorem fExt_ok (es ds : List D) (h : ds.length + es.length ≤ lim) : fExt [.lst es] (.lst ds) = some (.lst (ds ++ es), .non) := by
  show (if ds.length + es.length ≤ lim then some (D.lst (ds ++ es), D.non) else none) = _
  rw [if_pos h]
theorem fPop_ok (ds : List D) (d : D) : fPop [] (.lst (ds ++ [d])) = some (.lst ds, d) := by
  show (match (ds ++ [d])[(ds ++ [d]).length - 1]? with | some e => some (D.lst (ds ++ [d]).dropLast, e) | none => none) = _
  simp
end

/-- the rules together -/
theorem clr_cons (v : Nat) (vs : List Nat) (t : Ev) : clr (v :: vs) t = (clr vs t).set v .no := rfl
theorem clr_nil (t : Ev) : clr [] t = t := rfl
theorem back_cons (v : Nat) (vs : List Nat) (t0 t : Ev) : back (v :: vs) t0 t = (back vs t0 t).set v (shOf t0[v]?) := rfl
theorem back_nil (t0 t : Ev) : back [] t0 t = t := rfl
theorem shOf_sh (d : D) : shOf (some (.sh d)) = .sh d := rfl
theorem shOf_no : shOf (some .no) = .no := rfl
def wpsA := And.intro @it_true (And.intro @it_false (And.intro @sl_sh (And.intro @sl_ow (And.intro @lf_nx (And.intro @lf_ct (And.intro @lf_bk (And.intro @lf_rt (And.intro @bl_bl (And.intro @fw_ok (And.intro @w_bnd (And.intro @e_bnd (And.intro @i_bnd (And.intro @w_eb (And.intro @e_eb (And.intro @i_eb (And.intro @w_ret (And.intro @e_ret (And.intro @e_pur (And.intro @i_ret (And.intro @w_iff (And.intro @e_iff (And.intro @e_var (And.intro @w_bvar (And.intro @e_move (And.intro @w_chk (And.intro @w_brD (And.intro @vW_non (And.intro @vW_bl (And.intro @vW_int (And.intro @vW_str (And.intro @vW_lst (And.intro @vW_tup (And.intro @vW_dic (And.intro @vW_dct (And.intro @vW_gl (And.intro @vW_scr (And.intro @vW_box (And.intro @w_anil (And.intro @w_acons (And.intro @lim_eq (And.intro @e_tup (And.intro @e_lst (And.intro @e_newL (And.intro @e_newT (And.intro @rf_nx (And.intro @rf_rt (And.intro @e_call (And.intro @fw_fnD (And.intro @e_add (And.intro @e_sub (And.intro @e_lt (And.intro @e_le (And.intro @e_gt (And.intro @e_ge (And.intro @e_eqI (And.intro @e_neI (And.intro @e_eqB (And.intro @e_neB (And.intro @e_eqS (And.intro @e_isN (And.intro @e_isnN (And.intro @e_addL (And.intro @in_int (And.intro @e_and (And.intro @e_or (And.intro @e_not (And.intro @w_tst (And.intro @w_tru (@w_truN)))))))))))))))))))))))))))))))))))))))))))))))))))))))))))))))))))))
def wpsB := And.intro @clr_cons (And.intro @clr_nil (And.intro @back_cons (And.intro @back_nil (And.intro @shOf_sh (And.intro @shOf_no (And.intro @w_truB (And.intro @w_truI (And.intro @w_truL (And.intro @w_truT (And.intro @w_andM (And.intro @w_orM (And.intro @w_notM (And.intro @e_neg (And.intro @at_some (And.intro @e_optD (And.intro @e_ixT (And.intro @e_ixL (And.intro @at0 (And.intro @at1 (And.intro @at2 (And.intro @at3 (And.intro @at4 (And.intro @atI_cast (And.intro @atLast (And.intro @e_ixV (And.intro @e_ix (And.intro @w_pNone (And.intro @w_pInt (And.intro @e_slL (And.intro @e_slV (And.intro @e_sl (And.intro @e_lenL (And.intro @e_lenT (And.intro @e_lenD (And.intro @e_abs (And.intro @e_intI (And.intro @e_intB (And.intro @e_listL (And.intro @e_listT (And.intro @e_listS (And.intro @e_tupleL (And.intro @e_tupleT (And.intro @e_gcd (And.intro @e_rev (And.intro @sq_nx (And.intro @sq_rt (And.intro @sq_bk (And.intro @sq_ct (And.intro @s_seq (And.intro @s_nx (And.intro @s_bk (And.intro @s_ct (And.intro @s_retN (And.intro @s_ret (And.intro @s_if (And.intro @s_expr (And.intro @s_set (And.intro @s_par (And.intro @s_parF (And.intro @f_nil (And.intro @f_cons (And.intro @setF_cons (And.intro @setF_nil (And.intro @oe_some (And.intro @g_nm (And.intro @g_nil (And.intro @g_cons (And.intro @g_tpT (And.intro @g_tpL (And.intro @s_asg (And.intro @s_for (And.intro @s_while (And.intro @i_seqL (And.intro @i_seqT (And.intro @i_rng1 (And.intro @i_rng2 (And.intro @i_zip2 (And.intro @i_zip2TT (And.intro @i_zip2LT (And.intro @i_zip2TL (And.intro @i_zip3 (And.intro @i_enum (And.intro @e_lc (And.intro @w_yes (And.intro @od_some (And.intro @e_mslot (@e_wrS)))))))))))))))))))))))))))))))))))))))))))))))))))))))))))))))))))))))))))))))))))))))
theorem ow_true (d : D) : (if true = true then Slot.ow d else .sh d) = .ow d := rfl
theorem ow_false (d : D) : (if false = true then Slot.ow d else .sh d) = .sh d := rfl
theorem vw0 (S : Sto) (d : D) (h : ∀ n, d ≠ .box n) : vw S d = d := by
  cases d <;> first | rfl | exact absurd rfl (h _)
end TD

set_option Elab.async false
set_option linter.all false
set_option maxRecDepth 100000
set_option maxHeartbeats 0
set_option autoImplicit false
namespace KX
open PySem PySem.Spec PyProof.Rows L2 TD
def fuBox : Ev → Sto → Nat := fun _ S => match (S[0]? : Option D) with
  | some (.lst ds) => ds.length + 1
  | _ => 1
def fuInt (i : Nat) : Ev → Sto → Nat := fun t _ => match (t[i]? : Option Slot) with
  | some (.sh (.int k)) => k.natAbs + 1
  | _ => 1
def fuLen (i : Nat) : Ev → Sto → Nat := fun t _ => match (t[i]? : Option Slot) with
  | some (.ow (.lst ds)) => ds.length + 1
  | _ => 1
def m_is_list : MS := (sRet (bnd (bVar 0) (dIsiT [.list, .tuple])))
def F_is_list : Fn := fnD 1 m_is_list
def m_is_whole : MS := (sRet (eAnd (bnd (bVar 0) (dIsi .int)) (eNot (bnd (bVar 0) (dIsi .bool)))))
def F_is_whole : Fn := fnD 1 m_is_whole
def m_is_positive : MS := (sRet (eAnd (bnd (aCons (eVar 0) aNil) (call F_is_whole)) (eb (eVar 0) fun x => eb (pur (.int 1)) fun y => dGe x y)))
def F_is_positive : Fn := fnD 1 m_is_positive
def m_lowest : MS := (sSeq (sSet 2 (bnd (aCons (eVar 0) (aCons (eVar 1) aNil)) dGcd))
    (sRet (eTup (aCons (eb (eVar 0) fun x => eb (eVar 2) fun y => dFdiv x y) (aCons (eb (eVar 1) fun x => eb (eVar 2) fun y => dFdiv x y) aNil)))))
def F_lowest : Fn := fnD 3 m_lowest
def m_is_fraction : MS := (sRet (eAnd (bnd (aCons (eVar 0) aNil) (call F_is_list)) (eAnd (eb (bnd (bVar 0) dLen) fun x => eb (pur (.int 2)) fun y => dEq x y) (eAnd (bnd (aCons (eIxV 0 (pur (.int 0))) aNil) (call F_is_whole)) (bnd (aCons (eIxV 0 (pur (.int 1))) aNil) (call F_is_positive))))))
def F_is_fraction : Fn := fnD 1 m_is_fraction
def m_is_heap : MS := (sRet (eAnd (bnd (aCons (eVar 0) aNil) (call F_is_fraction)) (eb (eIxV 0 (pur (.int 0))) fun x => eb (pur (.int 0)) fun y => dGe x y)))
def F_is_heap : Fn := fnD 1 m_is_heap
def m_told : MS := (sRet (bnd (aCons (eIxV 0 (pur (.int 0))) (aCons (eIxV 0 (pur (.int 1))) aNil)) (call F_lowest)))
def F_told : Fn := fnD 1 m_told
def m_plus : MS := (sRet (bnd (aCons (eb (eb (eIxV 0 (pur (.int 0))) fun x => eb (eIxV 1 (pur (.int 1))) fun y => dMul x y) fun x => eb (eb (eIxV 1 (pur (.int 0))) fun x => eb (eIxV 0 (pur (.int 1))) fun y => dMul x y) fun y => dAdd x y) (aCons (eb (eIxV 0 (pur (.int 1))) fun x => eb (eIxV 1 (pur (.int 1))) fun y => dMul x y) aNil)) (call F_lowest)))
def F_plus : Fn := fnD 2 m_plus
def m_less : MS := (sRet (bnd (aCons (eb (eb (eIxV 0 (pur (.int 0))) fun x => eb (eIxV 1 (pur (.int 1))) fun y => dMul x y) fun x => eb (eb (eIxV 1 (pur (.int 0))) fun x => eb (eIxV 0 (pur (.int 1))) fun y => dMul x y) fun y => dSub x y) (aCons (eb (eIxV 0 (pur (.int 1))) fun x => eb (eIxV 1 (pur (.int 1))) fun y => dMul x y) aNil)) (call F_lowest)))
def F_less : Fn := fnD 2 m_less
def m_times : MS := (sRet (bnd (aCons (eb (eIxV 0 (pur (.int 0))) fun x => eb (eIxV 1 (pur (.int 0))) fun y => dMul x y) (aCons (eb (eIxV 0 (pur (.int 1))) fun x => eb (eIxV 1 (pur (.int 1))) fun y => dMul x y) aNil)) (call F_lowest)))
def F_times : Fn := fnD 2 m_times
def m_parted : MS := (sSeq (sIf (tst (eb (eIxV 1 (pur (.int 0))) fun x => eb (pur (.int 0)) fun y => dLt x y)) (sRet (bnd (aCons (eb (pur (.int 0)) fun x => eb (eb (eIxV 0 (pur (.int 0))) fun x => eb (eIxV 1 (pur (.int 1))) fun y => dMul x y) fun y => dSub x y) (aCons (eb (pur (.int 0)) fun x => eb (eb (eIxV 0 (pur (.int 1))) fun x => eb (eIxV 1 (pur (.int 0))) fun y => dMul x y) fun y => dSub x y) aNil)) (call F_lowest))) sNx)
    (sRet (bnd (aCons (eb (eIxV 0 (pur (.int 0))) fun x => eb (eIxV 1 (pur (.int 1))) fun y => dMul x y) (aCons (eb (eIxV 0 (pur (.int 1))) fun x => eb (eIxV 1 (pur (.int 0))) fun y => dMul x y) aNil)) (call F_lowest))))
def F_parted : Fn := fnD 2 m_parted
def m_is_below : MS := (sRet (eb (eb (eIxV 0 (pur (.int 0))) fun x => eb (eIxV 1 (pur (.int 1))) fun y => dMul x y) fun x => eb (eb (eIxV 1 (pur (.int 0))) fun x => eb (eIxV 0 (pur (.int 1))) fun y => dMul x y) fun y => dLt x y))
def F_is_below : Fn := fnD 2 m_is_below
def m_least : MS := (sSeq (sSet 1 (eIxV 0 (pur (.int 0))))
    (sSeq (sFor (eb (eVar 0) dSeq) (gNm 2) (sSet 1 (iff (tst (bnd (aCons (eVar 2) (aCons (eVar 1) aNil)) (call F_is_below))) (eVar 2) (eVar 1))))
    (sRet (eMove 1))))
def F_least : Fn := fnD 3 m_least
def m_greatest : MS := (sSeq (sSet 1 (eIxV 0 (pur (.int 0))))
    (sSeq (sFor (eb (eVar 0) dSeq) (gNm 2) (sSet 1 (iff (tst (bnd (aCons (eVar 1) (aCons (eVar 2) aNil)) (call F_is_below))) (eVar 2) (eVar 1))))
    (sRet (eMove 1))))
def F_greatest : Fn := fnD 3 m_greatest
def m_sum_of : MS := (sSeq (sSet 1 (eTup (aCons (pur (.int 0)) (aCons (pur (.int 1)) aNil))))
    (sSeq (sFor (eb (eVar 0) dSeq) (gNm 2) (sSet 1 (bnd (aCons (eVar 1) (aCons (eVar 2) aNil)) (call F_plus))))
    (sRet (eMove 1))))
def F_sum_of : Fn := fnD 3 m_sum_of
def m_in_order : MS := (sSeq (sSet 1 (pur (.int 1)))
    (sSeq (sFor (eb (eVar 0) dSeq) (gNm 2) (sSet 1 (eb (eb (eVar 1) fun x => eb (eIxV 2 (pur (.int 1))) fun y => dMul x y) fun x => eb (bnd (aCons (eVar 1) (aCons (eIxV 2 (pur (.int 1))) aNil)) dGcd) fun y => dFdiv x y)))
    (sRet (eSortFr 1 (eVar 0)))))
def F_in_order : Fn := fnD 3 m_in_order
def m_check_road : MS := (sSeq (sIf (tNotM (tst (bnd (aCons (eVar 0) aNil) (call F_is_positive)))) (sRaise "BadRoom" "room" (eVar 0)) sNx)
    (sIf (tNotM (tst (bnd (aCons (eVar 1) aNil) (call F_is_positive)))) (sRaise "BadLength" "length" (eVar 1)) sNx))
def F_check_road : Fn := fnD 2 m_check_road
def m_is_wish : MS := (sRet (eAnd (bnd (aCons (eVar 0) aNil) (call F_is_list)) (eAnd (eb (bnd (bVar 0) dLen) fun x => eb (pur (.int 2)) fun y => dEq x y) (eAnd (bnd (aCons (eIxV 0 (pur (.int 0))) aNil) (call F_is_heap)) (eAnd (bnd (aCons (eIxV 0 (pur (.int 1))) aNil) (call F_is_heap)) (eb (eIx (eIxV 0 (pur (.int 1))) (pur (.int 0))) fun x => eb (pur (.int 0)) fun y => dGt x y))))))
def F_is_wish : Fn := fnD 1 m_is_wish
def m_checked_wishes : MS := (sSeq (sIf (tOrM (tNotM (tst (bnd (aCons (eVar 0) aNil) (call F_is_list)))) (tst (eb (bnd (bVar 0) dLen) fun x => eb (pur (.int 0)) fun y => dEq x y))) (sRaise "BadWishes" "index" (pur (.int 0))) sNx)
    (sSeq (sSet 1 (eLst aNil))
    (sSeq (sFor (bnd (aCons (eVar 0) aNil) dEnum) (gTp (gCons (gNm 2) (gCons (gNm 3) gNil))) (sSeq (sIf (tOrM (tNotM (tst (bnd (aCons (eVar 3) aNil) (call F_is_wish)))) (tAndM (tTru (bVar 1)) (tNotM (tst (bnd (aCons (eIx (eIxV 1 (eNeg (pur (.int 1)))) (pur (.int 0))) (aCons (eIxV 3 (pur (.int 0))) aNil)) (call F_is_below)))))) (sRaise "BadWishes" "index" (eVar 2)) sNx)
    (sExpr (mSlot "list" 1 (aCons (eTup (aCons (bnd (aCons (eIxV 3 (pur (.int 0))) aNil) (call F_told)) (aCons (bnd (aCons (eIxV 3 (pur (.int 1))) aNil) (call F_told)) aNil))) aNil) fApp))))
    (sRet (eMove 1)))))
def F_checked_wishes : Fn := fnD 4 m_checked_wishes
def m_checked_troubles : MS := (sSeq (sIf (tOrM (tNotM (tst (bnd (aCons (eVar 0) aNil) (call F_is_fraction)))) (tOrM (tst (eb (eIxV 0 (pur (.int 0))) fun x => eb (pur (.int 0)) fun y => dLe x y)) (tst (eb (eIxV 0 (pur (.int 0))) fun x => eb (eIxV 0 (pur (.int 1))) fun y => dGe x y)))) (sRaise "BadEarly" "early" (eVar 0)) sNx)
    (sSeq (sIf (tOrM (tNotM (tst (bnd (aCons (eVar 1) aNil) (call F_is_fraction)))) (tst (eb (eIxV 1 (pur (.int 0))) fun x => eb (pur (.int 0)) fun y => dLe x y))) (sRaise "BadLate" "late" (eVar 1)) sNx)
    (sRet (eTup (aCons (bnd (aCons (eVar 0) aNil) (call F_told)) (aCons (bnd (aCons (eVar 1) aNil) (call F_told)) aNil))))))
def F_checked_troubles : Fn := fnD 2 m_checked_troubles
def m_spans_of : MS := (sRet (eLc (eb (eVar 1) dSeq) [2, 3] (gTp (gCons (gNm 2) (gCons (gNm 3) gNil))) cYes (bnd (aCons (eVar 3) (aCons (eTup (aCons (eVar 0) (aCons (pur (.int 1)) aNil))) aNil)) (call F_parted))))
def F_spans_of : Fn := fnD 4 m_spans_of
def m_offsets_of : MS := (sRet (eLc (bnd (aCons (bnd (bVar 0) dLen) aNil) dRng1) [1] (gNm 1) cYes (bnd (aCons (eSlV 0 pNone (pInt (eVar 1))) aNil) (call F_sum_of))))
def F_offsets_of : Fn := fnD 2 m_offsets_of
def m_early_beats : MS := (sSeq (sSet 3 (eTup (aCons (pur (.int 0)) (aCons (pur (.int 1)) aNil))))
    (sSeq (sFor (bnd (aCons (eVar 0) (aCons (eVar 1) (aCons (bnd (aCons (eVar 1) aNil) (call F_offsets_of)) aNil))) dZip3) (gTp (gCons (gTp (gCons (gNm 4) (gCons (gNm 5) gNil))) (gCons (gNm 6) (gCons (gNm 7) gNil)))) (sSeq (sSet 8 (bnd (aCons (eVar 4) (aCons (bnd (aCons (eVar 2) (aCons (eVar 7) aNil)) (call F_plus)) aNil)) (call F_less)))
    (sSet 3 (bnd (aCons (eVar 3) (aCons (bnd (aCons (eLst (aCons (eTup (aCons (pur (.int 0)) (aCons (pur (.int 1)) aNil))) (aCons (bnd (aCons (eLst (aCons (eVar 8) (aCons (eVar 6) aNil))) aNil) (call F_least)) aNil))) aNil) (call F_greatest)) aNil)) (call F_plus)))))
    (sRet (eMove 3))))
def F_early_beats : Fn := fnD 9 m_early_beats
def m_begin_of : MS := (sSeq (sSet 4 (bnd (aCons (bnd (aCons (eVar 3) (aCons (bnd (aCons (eVar 2) (aCons (eVar 3) aNil)) (call F_plus)) aNil)) (call F_parted)) (aCons (bnd (aCons (eVar 1) aNil) (call F_sum_of)) aNil)) (call F_times)))
    (sSeq (sSet 5 (eLst aNil))
    (sSeq (sFor (bnd (aCons (eVar 0) (aCons (eVar 1) (aCons (bnd (aCons (eVar 1) aNil) (call F_offsets_of)) aNil))) dZip3) (gTp (gCons (gTp (gCons (gNm 6) (gCons (gNm 7) gNil))) (gCons (gNm 8) (gCons (gNm 9) gNil)))) (sExpr (mSlot "list" 5 (aCons (eLst (aCons (bnd (aCons (eVar 6) (aCons (eVar 9) aNil)) (call F_less)) (aCons (bnd (aCons (bnd (aCons (eVar 6) (aCons (eVar 9) aNil)) (call F_less)) (aCons (eVar 8) aNil)) (call F_less)) aNil))) aNil) fExt)))
    (sSeq (sSet 10 (bnd (brD (bnd (aCons (eVar 5) aNil) (call F_in_order))) dRev))
    (sSeq (sFor (bnd (aCons (eVar 10) (aCons (eSlV 10 (pInt (pur (.int 1))) pNone) aNil)) dZip2) (gTp (gCons (gNm 11) (gCons (gNm 12) gNil))) (sSeq (sParF [13, 14] (fCons (bnd (aCons (eVar 0) (aCons (eVar 1) (aCons (eVar 11) aNil))) (call F_early_beats)) (fCons (bnd (aCons (eVar 0) (aCons (eVar 1) (aCons (eVar 12) aNil))) (call F_early_beats)) fNil)))
    (sIf (tAndM (tst (bnd (aCons (eVar 13) (aCons (eVar 4) aNil)) (call F_is_below))) (tNotM (tst (bnd (aCons (eVar 14) (aCons (eVar 4) aNil)) (call F_is_below))))) (sSeq (sSet 15 (bnd (aCons (bnd (aCons (eVar 4) (aCons (eVar 13) aNil)) (call F_less)) (aCons (bnd (aCons (eVar 14) (aCons (eVar 13) aNil)) (call F_less)) aNil)) (call F_parted)))
    (sRet (bnd (aCons (eVar 11) (aCons (bnd (aCons (eVar 15) (aCons (bnd (aCons (eVar 11) (aCons (eVar 12) aNil)) (call F_less)) aNil)) (call F_times)) aNil)) (call F_less)))) sNx)))
    (sRet (eIxV 10 (pur (.int 0)))))))))
def F_begin_of : Fn := fnD 16 m_begin_of
def m_blocks_of : MS := (sSeq (sParF [4, 5] (fCons (bnd (aCons (eVar 0) (aCons (eVar 1) aNil)) (call F_spans_of)) (fCons (eLst aNil) fNil)))
    (sSeq (sFor (bnd (aCons (bnd (bVar 1) dLen) aNil) dRng1) (gNm 6) (sSeq (sSet 7 (eVar 6))
    (sSeq (sSet 8 (bnd (aCons (eSlV 1 (pInt (eVar 6)) (pInt (eb (eVar 6) fun x => eb (pur (.int 1)) fun y => dAdd x y))) (aCons (eSlV 4 (pInt (eVar 6)) (pInt (eb (eVar 6) fun x => eb (pur (.int 1)) fun y => dAdd x y))) (aCons (eVar 2) (aCons (eVar 3) aNil)))) (call F_begin_of)))
    (sSeq (sWhile (fuLen 5) (tAndM (tTru (bVar 5)) (tNotM (tst (bnd (aCons (eIx (eIxV 5 (eNeg (pur (.int 1)))) (pur (.int 1))) (aCons (eVar 8) aNil)) (call F_is_below))))) (sSeq (sSet 7 (eIx (mSlot "list" 5 aNil fPop) (pur (.int 2))))
    (sSet 8 (bnd (aCons (eSlV 1 (pInt (eVar 7)) (pInt (eb (eVar 6) fun x => eb (pur (.int 1)) fun y => dAdd x y))) (aCons (eSlV 4 (pInt (eVar 7)) (pInt (eb (eVar 6) fun x => eb (pur (.int 1)) fun y => dAdd x y))) (aCons (eVar 2) (aCons (eVar 3) aNil)))) (call F_begin_of)))))
    (sExpr (mSlot "list" 5 (aCons (eTup (aCons (eVar 8) (aCons (bnd (aCons (eVar 8) (aCons (bnd (aCons (eSlV 4 (pInt (eVar 7)) (pInt (eb (eVar 6) fun x => eb (pur (.int 1)) fun y => dAdd x y))) aNil) (call F_sum_of)) aNil)) (call F_plus)) (aCons (eVar 7) (aCons (eb (eVar 6) fun x => eb (pur (.int 1)) fun y => dAdd x y) aNil))))) aNil) fApp))))))
    (sRet (eMove 5))))
def F_blocks_of : Fn := fnD 9 m_blocks_of
def m_pieces_of : MS := (sSeq (sParF [4, 5] (fCons (bnd (aCons (eVar 0) (aCons (eVar 1) aNil)) (call F_spans_of)) (fCons (eLst aNil) fNil)))
    (sSeq (sFor (eb (bnd (aCons (eVar 0) (aCons (eVar 1) (aCons (eVar 2) (aCons (eVar 3) aNil)))) (call F_blocks_of)) dSeq) (gTp (gCons (gNm 6) (gCons (gNm 7) (gCons (gNm 8) (gCons (gNm 9) gNil))))) (sSeq (sParF [10, 11] (fCons (eVar 6) (fCons (eTup (aCons (pur (.int 0)) (aCons (pur (.int 1)) aNil))) fNil)))
    (sFor (bnd (aCons (eVar 8) (aCons (eVar 9) aNil)) dRng2) (gNm 12) (sSeq (sParF [13, 14] (fCons (bnd (aCons (eVar 10) (aCons (eIxV 4 (eVar 12)) aNil)) (call F_plus)) (fCons (eIx (eIxV 1 (eVar 12)) (pur (.int 0))) fNil)))
    (sSeq (sSet 15 (bnd (aCons (eLst (aCons (eVar 10) (aCons (bnd (aCons (eLst (aCons (eVar 13) (aCons (eVar 14) aNil))) aNil) (call F_least)) aNil))) aNil) (call F_greatest)))
    (sFor (eb (eTup (aCons (eTup (aCons (eVar 15) (aCons (eVar 2) aNil))) (aCons (eTup (aCons (eVar 13) (aCons (bnd (aCons (eTup (aCons (pur (.int 0)) (aCons (pur (.int 1)) aNil))) (aCons (eVar 3) aNil)) (call F_less)) aNil))) aNil))) dSeq) (gTp (gCons (gNm 16) (gCons (gNm 17) gNil))) (sIf (tst (bnd (aCons (eVar 10) (aCons (eVar 16) aNil)) (call F_is_below))) (sSeq (sExpr (mSlot "list" 5 (aCons (eTup (aCons (eVar 12) (aCons (eVar 10) (aCons (eVar 16) (aCons (eVar 11) (aCons (eVar 17) aNil)))))) aNil) fApp))
    (sSeq (sSet 11 (bnd (aCons (eVar 11) (aCons (bnd (aCons (eVar 17) (aCons (bnd (aCons (eVar 16) (aCons (eVar 10) aNil)) (call F_less)) aNil)) (call F_times)) aNil)) (call F_plus)))
    (sSet 10 (eVar 16)))) sNx)))))))
    (sRet (eMove 5))))
def F_pieces_of : Fn := fnD 18 m_pieces_of
def m_checked_all : MS := (sSeq (sExpr (bnd (aCons (eVar 0) (aCons (eVar 1) aNil)) (call F_check_road)))
    (sSeq (sSet 5 (bnd (aCons (eVar 2) aNil) (call F_checked_wishes)))
    (sRet (eb (eTup (aCons (eVar 5) aNil)) fun x => eb (bnd (aCons (eVar 3) (aCons (eVar 4) aNil)) (call F_checked_troubles)) fun y => dAdd x y))))
def F_checked_all : Fn := fnD 6 m_checked_all
def m_check_soon : MS := (sSeq (sSet 2 (bnd (aCons (eVar 0) (aCons (eTup (aCons (eVar 1) (aCons (pur (.int 1)) aNil))) aNil)) (call F_less)))
    (sIf (tst (eb (eIxV 2 (pur (.int 0))) fun x => eb (pur (.int 0)) fun y => dLt x y)) (sRaise "TooSoon" "moment" (eVar 2)) sNx))
def F_check_soon : Fn := fnD 3 m_check_soon
def m_comers_by : MS := (sSeq (sSet 2 (iff (tst (eb (eIx (eIxV 0 (pur (.int 0))) (pur (.int 0))) fun x => eb (eTup (aCons (pur (.int 0)) (aCons (pur (.int 1)) aNil))) fun y => dEq x y)) (eLst aNil) (eLst (aCons (eTup (aCons (eTup (aCons (pur (.int 0)) (aCons (pur (.int 1)) aNil))) (aCons (eTup (aCons (pur (.int 0)) (aCons (pur (.int 1)) aNil))) aNil))) aNil))))
    (sRet (eb (eb (eVar 2) fun x => eb (eVar 0) fun y => dAdd x y) fun x => eb (eLst (aCons (eTup (aCons (eVar 1) (aCons (eTup (aCons (pur (.int 0)) (aCons (pur (.int 1)) aNil))) aNil))) aNil)) fun y => dAdd x y)))
def F_comers_by : Fn := fnD 3 m_comers_by
def m_come_at : MS := (sSeq (sAsg (eVar 1) (gTp (gCons (gNm 3) (gCons (gNm 4) (gCons (gNm 5) (gCons (gNm 6) (gCons (gNm 7) gNil)))))))
    (sRet (bnd (aCons (bnd (aCons (eVar 2) (aCons (eTup (aCons (eVar 0) (aCons (pur (.int 1)) aNil))) aNil)) (call F_less)) (aCons (bnd (aCons (eVar 6) (aCons (bnd (aCons (eVar 7) (aCons (bnd (aCons (eVar 2) (aCons (eVar 4) aNil)) (call F_less)) aNil)) (call F_times)) aNil)) (call F_plus)) aNil)) (call F_less))))
def F_come_at : Fn := fnD 8 m_come_at
def m_settled : MS := (sSeq (sAsg (bnd (aCons (eVar 0) (aCons (eVar 1) (aCons (eVar 2) (aCons (eVar 3) (aCons (eVar 4) aNil))))) (call F_checked_all)) (gTp (gCons (gNm 5) (gCons (gNm 6) (gCons (gNm 7) gNil)))))
    (sSeq (sSet 8 (bnd (aCons (eVar 0) (aCons (eVar 5) (aCons (eVar 6) (aCons (eVar 7) aNil)))) (call F_pieces_of)))
    (sSeq (sExpr (bnd (aCons (eIx (eIxV 8 (pur (.int 0))) (pur (.int 1))) (aCons (eVar 1) aNil)) (call F_check_soon)))
    (sSeq (sSet 9 (eLst aNil))
    (sSeq (sFor (bnd (aCons (bnd (bVar 5) dLen) aNil) dRng1) (gNm 10) (sSeq (sSet 11 (eLc (eb (eVar 8) dSeq) [13] (gNm 13) (tst (eb (eIxV 13 (pur (.int 0))) fun x => eb (eVar 10) fun y => dEq x y)) (eVar 13)))
    (sSeq (sSet 12 (eLc (eb (eVar 11) dSeq) [14] (gNm 14) cYes (eTup (aCons (bnd (aCons (eVar 1) (aCons (eVar 14) (aCons (eIxV 14 (pur (.int 1))) aNil))) (call F_come_at)) (aCons (bnd (aCons (eTup (aCons (eVar 0) (aCons (pur (.int 1)) aNil))) (aCons (bnd (aCons (eTup (aCons (pur (.int 1)) (aCons (pur (.int 1)) aNil))) (aCons (eIxV 14 (pur (.int 4))) aNil)) (call F_less)) aNil)) (call F_parted)) aNil)))))
    (sExpr (mSlot "list" 9 (aCons (bnd (aCons (eVar 12) (aCons (bnd (aCons (eVar 1) (aCons (eIxV 11 (eNeg (pur (.int 1)))) (aCons (eIx (eIxV 11 (eNeg (pur (.int 1)))) (pur (.int 2))) aNil))) (call F_come_at)) aNil)) (call F_comers_by)) aNil) fApp)))))
    (sRet (eMove 9)))))))
def F_settled : Fn := fnD 15 m_settled
def m_stretches : MS := (sSeq (sAsg (bnd (aCons (eVar 0) (aCons (eVar 1) (aCons (eVar 2) (aCons (eVar 3) (aCons (eVar 4) aNil))))) (call F_checked_all)) (gTp (gCons (gNm 5) (gCons (gNm 6) (gCons (gNm 7) gNil)))))
    (sRet (eLc (eb (bnd (aCons (eVar 0) (aCons (eVar 5) (aCons (eVar 6) (aCons (eVar 7) aNil)))) (call F_blocks_of)) dSeq) [8, 9, 10, 11] (gTp (gCons (gNm 8) (gCons (gNm 9) (gCons (gNm 10) (gCons (gNm 11) gNil))))) cYes (eTup (aCons (eVar 8) (aCons (eVar 9) (aCons (eLRg (eVar 10) (eVar 11)) aNil)))))))
def F_stretches : Fn := fnD 12 m_stretches
def m_sorrow : MS := (sSeq (sSet 4 (bnd (aCons (eIxV 0 (pur (.int 0))) (aCons (eVar 1) aNil)) (call F_less)))
    (sRet (iff (tst (eb (eIxV 4 (pur (.int 0))) fun x => eb (pur (.int 0)) fun y => dGt x y)) (bnd (aCons (eVar 2) (aCons (eVar 4) aNil)) (call F_times)) (bnd (aCons (eVar 3) (aCons (bnd (aCons (eTup (aCons (pur (.int 0)) (aCons (pur (.int 1)) aNil))) (aCons (eVar 4) aNil)) (call F_less)) aNil)) (call F_times)))))
def F_sorrow : Fn := fnD 5 m_sorrow
def m_troubles : MS := (sSeq (sAsg (bnd (aCons (eVar 0) (aCons (eVar 1) (aCons (eVar 2) (aCons (eVar 3) (aCons (eVar 4) aNil))))) (call F_checked_all)) (gTp (gCons (gNm 5) (gCons (gNm 6) (gCons (gNm 7) gNil)))))
    (sSeq (sSet 8 (ret (.dic [], true)))
    (sSeq (sFor (eb (bnd (aCons (eVar 0) (aCons (eVar 5) (aCons (eVar 6) (aCons (eVar 7) aNil)))) (call F_pieces_of)) dSeq) (gTp (gCons (gNm 9) (gCons (gNm 10) (gCons (gNm 11) (gCons (gNm 12) (gCons (gNm 13) gNil)))))) (sExpr (mSetd 8 (eVar 9) (bnd (aCons (eVar 12) (aCons (bnd (aCons (eIxV 5 (eVar 9)) (aCons (eVar 10) (aCons (eVar 6) (aCons (eVar 7) aNil)))) (call F_sorrow)) aNil)) (call F_plus)))))
    (sRet (eLc (bnd (aCons (bnd (bVar 5) dLen) aNil) dRng1) [9] (gNm 9) cYes (vThen 8 (eVar 9) dGetD))))))
def F_troubles : Fn := fnD 14 m_troubles
def m_paid : MS := (sSeq (sAsg (bnd (aCons (eVar 0) (aCons (eVar 1) (aCons (eVar 2) (aCons (eVar 3) (aCons (eVar 4) aNil))))) (call F_checked_all)) (gTp (gCons (gNm 5) (gCons (gNm 6) (gCons (gNm 7) gNil)))))
    (sSeq (sSet 8 (eLst aNil))
    (sSeq (sFor (eb (bnd (aCons (eVar 0) (aCons (eVar 5) (aCons (eVar 6) (aCons (eVar 7) aNil)))) (call F_pieces_of)) dSeq) (gTp (gCons (gNm 9) (gCons (gNm 10) (gCons (gNm 11) (gCons (gNm 12) (gCons (gNm 13) gNil)))))) (sSeq (sSet 14 (bnd (aCons (eVar 11) (aCons (eVar 10) aNil)) (call F_less)))
    (sSeq (sSet 15 (bnd (aCons (eVar 12) (aCons (bnd (aCons (eVar 13) (aCons (bnd (aCons (eVar 14) (aCons (eTup (aCons (pur (.int 1)) (aCons (pur (.int 2)) aNil))) aNil)) (call F_times)) aNil)) (call F_times)) aNil)) (call F_plus)))
    (sExpr (mSlot "list" 8 (aCons (bnd (aCons (eTup (aCons (eVar 0) (aCons (pur (.int 1)) aNil))) (aCons (bnd (aCons (eVar 14) (aCons (eVar 15) aNil)) (call F_times)) aNil)) (call F_times)) aNil) fApp)))))
    (sRet (bnd (aCons (eVar 8) aNil) (call F_sum_of))))))
def F_paid : Fn := fnD 16 m_paid
def m__law_stream : MS := (sRet (eLst (aCons (eBox (bnd (bVar 0) dList)) (aCons (pur (.int 0)) (aCons (pur (.int 0)) (aCons (pur (.int 17)) aNil))))))
def F__law_stream : Fn := fnD 1 m__law_stream
def m__law_draw : MS := (sSeq (sPutB (eb (eIxV 0 (pur (.int 2))) fun x => eb (pur (.int 1)) fun y => dAdd x y) (eVar 0) (pur (.int 2)))
    (sSeq (sWhile fuBox (tAndM (tst (eb (eIxV 0 (pur (.int 1))) fun x => eb (pur (.int 0)) fun y => dEq x y)) (tst (eNeB (eIxV 0 (pur (.int 0))) (eLst aNil)))) (sSeq (sSet 2 (bnd (brD (mBox "list" (eIxV 0 (pur (.int 0))) (aCons (pur (.int 0)) aNil) fPopAt)) dAbs))
    (sSeq (sPutB (eb (bnd (brD (eb (eb (eb (eIxV 0 (pur (.int 3))) fun x => eb (pur (.int 8191)) fun y => dMul x y) fun x => eb (eVar 2) fun y => dAdd x y) fun x => eb (pur (.int 3)) fun y => dAdd x y)) dInt) fun x => eb (pur (.int 2147483647)) fun y => dMod x y) (eVar 0) (pur (.int 3)))
    (sPutB (iff (tst (eb (eVar 2) fun x => eb (eb (pur (.int 10)) fun x => eb (pur (.int 18)) fun y => dPow x y) fun y => dGe x y)) (eVar 2) (pur (.int 0))) (eVar 0) (pur (.int 1))))))
    (sSeq (sIf (tst (eb (eIxV 0 (pur (.int 1))) fun x => eb (pur (.int 0)) fun y => dGt x y)) (sSeq (sSet 3 (eb (bnd (brD (eIxV 0 (pur (.int 1)))) dInt) fun x => eb (eVar 1) fun y => dMod x y))
    (sSeq (sPutB (eb (eIxV 0 (pur (.int 1))) fun x => eb (eVar 1) fun y => dFdiv x y) (eVar 0) (pur (.int 1)))
    (sRet (eMove 3)))) sNx)
    (sSeq (sSet 4 (eb (bnd (brD (eb (eb (eb (eIxV 0 (pur (.int 3))) fun x => eb (eb (pur (.int 7919)) fun x => eb (eIxV 0 (pur (.int 2))) fun y => dMul x y) fun y => dAdd x y) fun x => eb (pur (.int 104729)) fun y => dAdd x y) fun x => eb (pur (.int 5)) fun y => dPow x y)) dInt) fun x => eb (pur (.int 2147483629)) fun y => dMod x y))
    (sRet (eb (eb (bnd (brD (eb (eb (eb (eb (eVar 4) fun x => eb (pur (.int 48271)) fun y => dMul x y) fun x => eb (eb (pur (.int 30011)) fun x => eb (eIxV 0 (pur (.int 2))) fun y => dMul x y) fun y => dAdd x y) fun x => eb (pur (.int 29)) fun y => dAdd x y) fun x => eb (pur (.int 3)) fun y => dPow x y)) dInt) fun x => eb (pur (.int 1000000007)) fun y => dMod x y) fun x => eb (eVar 1) fun y => dMod x y))))))
def F__law_draw : Fn := fnD 5 m__law_draw
def m__law_pick : MS := (sRet (eIxV 1 (bnd (aCons (eVar 0) (aCons (bnd (bVar 1) dLen) aNil)) (call F__law_draw))))
def F__law_pick : Fn := fnD 2 m__law_pick
def m__law_same (F : Fn) : MS := (sSeq (sIf (tst (bnd (bVar 1) (dIsiT [.list, .tuple]))) (sSeq (sIf (tOrM (tst (eb (bnd (bVar 0) (dIsi .list)) fun x => eb (bnd (bVar 1) (dIsi .list)) fun y => dNe x y)) (tst (eb (bnd (bVar 0) (dIsi .tuple)) fun x => eb (bnd (bVar 1) (dIsi .tuple)) fun y => dNe x y))) (sRet (pur (.bl false))) sNx)
    (sRet (eAnd (eb (bnd (bVar 0) dLen) fun x => eb (bnd (bVar 1) dLen) fun y => dEq x y) (bnd (brD (eLc (bnd (aCons (eVar 0) (aCons (eVar 1) aNil)) dZip2) [2, 3] (gTp (gCons (gNm 2) (gCons (gNm 3) gNil))) cYes (bnd (aCons (eVar 2) (aCons (eVar 3) aNil)) (call F)))) dAll)))) sNx)
    (sSeq (sIf (tst (bnd (bVar 1) (dIsi .dict))) (sRet (eAnd (bnd (bVar 0) (dIsi .dict)) (bnd (aCons (bnd (bVar 0) dItems) (aCons (bnd (bVar 1) dItems) aNil)) (call F)))) sNx)
    (sSeq (sIf (tOrM (tst (bnd (bVar 1) (dIsi .bool))) (tst (bnd (bVar 0) (dIsi .bool)))) (sRet (eAnd (bnd (bVar 1) (dIsi .bool)) (eAnd (bnd (bVar 0) (dIsi .bool)) (eb (eVar 0) fun x => eb (eVar 1) fun y => dEq x y)))) sNx)
    (sRet (eAnd (eNot (bnd (bVar 0) (dIsiT [.list, .tuple, .dict]))) (eb (eVar 0) fun x => eb (eVar 1) fun y => dEq x y))))))
def F__law_same : Nat → Fn
  | 0 => fun _ _ => .bad
  | n + 1 => fnD 4 (m__law_same (F__law_same n))
def m__law_common : MS := (sSeq (sParF [0, 1] (fCons (bnd (bVar 0) dAbs) (fCons (bnd (bVar 1) dAbs) fNil)))
    (sSeq (sWhile (fuInt 1) (tst (eb (eVar 1) fun x => eb (pur (.int 0)) fun y => dGt x y)) (sParF [0, 1] (fCons (eVar 1) (fCons (eb (eVar 0) fun x => eb (eVar 1) fun y => dMod x y) fNil))))
    (sRet (eMove 0))))
def F__law_common : Fn := fnD 2 m__law_common
def m__law_low : MS := (sSeq (sSet 2 (iff (tst (eb (eVar 1) fun x => eb (pur (.int 0)) fun y => dGt x y)) (bnd (aCons (eVar 0) (aCons (eVar 1) aNil)) (call F__law_common)) (eb (pur (.int 0)) fun x => eb (bnd (aCons (eVar 0) (aCons (eVar 1) aNil)) (call F__law_common)) fun y => dSub x y)))
    (sRet (eTup (aCons (eb (eVar 0) fun x => eb (eVar 2) fun y => dFdiv x y) (aCons (eb (eVar 1) fun x => eb (eVar 2) fun y => dFdiv x y) aNil)))))
def F__law_low : Fn := fnD 3 m__law_low
def m__law_plus : MS := (sRet (bnd (aCons (eb (eb (eIxV 0 (pur (.int 0))) fun x => eb (eIxV 1 (pur (.int 1))) fun y => dMul x y) fun x => eb (eb (eIxV 1 (pur (.int 0))) fun x => eb (eIxV 0 (pur (.int 1))) fun y => dMul x y) fun y => dAdd x y) (aCons (eb (eIxV 0 (pur (.int 1))) fun x => eb (eIxV 1 (pur (.int 1))) fun y => dMul x y) aNil)) (call F__law_low)))
def F__law_plus : Fn := fnD 2 m__law_plus
def m__law_times : MS := (sRet (bnd (aCons (eb (eIxV 0 (pur (.int 0))) fun x => eb (eIxV 1 (pur (.int 0))) fun y => dMul x y) (aCons (eb (eIxV 0 (pur (.int 1))) fun x => eb (eIxV 1 (pur (.int 1))) fun y => dMul x y) aNil)) (call F__law_low)))
def F__law_times : Fn := fnD 2 m__law_times
def m__law_by : MS := (sRet (bnd (aCons (eb (eIxV 0 (pur (.int 0))) fun x => eb (eIxV 1 (pur (.int 1))) fun y => dMul x y) (aCons (eb (eIxV 0 (pur (.int 1))) fun x => eb (eIxV 1 (pur (.int 0))) fun y => dMul x y) aNil)) (call F__law_low)))
def F__law_by : Fn := fnD 2 m__law_by
def m__law_is_below : MS := (sRet (eb (eb (eIxV 0 (pur (.int 0))) fun x => eb (eIxV 1 (pur (.int 1))) fun y => dMul x y) fun x => eb (eb (eIxV 1 (pur (.int 0))) fun x => eb (eIxV 0 (pur (.int 1))) fun y => dMul x y) fun y => dLt x y))
def F__law_is_below : Fn := fnD 2 m__law_is_below
def m__law_wishes : MS := (sSeq (sParF [2, 3, 4] (fCons (eLst aNil) (fCons (eTup (aCons (eb (pur (.int 60)) fun x => eb (bnd (aCons (eVar 0) (aCons (pur (.int 90)) aNil)) (call F__law_draw)) fun y => dAdd x y) (aCons (pur (.int 1)) aNil))) (fCons (bnd (aCons (eVar 0) (aCons (eLst (aCons (pur (.int 1)) (aCons (pur (.int 1)) (aCons (pur (.int 2)) (aCons (pur (.int 3)) aNil))))) aNil)) (call F__law_pick)) fNil))))
    (sSeq (sFor (bnd (aCons (eb (pur (.int 1)) fun x => eb (bnd (aCons (eVar 0) (aCons (eVar 1) aNil)) (call F__law_draw)) fun y => dAdd x y) aNil) dRng1) (gNm 5) (sSeq (sExpr (mSlot "list" 2 (aCons (eTup (aCons (eVar 3) (aCons (bnd (aCons (eb (pur (.int 1)) fun x => eb (bnd (aCons (eVar 0) (aCons (bnd (aCons (eVar 0) (aCons (eLst (aCons (pur (.int 3)) (aCons (pur (.int 12)) (aCons (pur (.int 40)) aNil)))) aNil)) (call F__law_pick)) aNil)) (call F__law_draw)) fun y => dAdd x y) (aCons (eVar 4) aNil)) (call F__law_low)) aNil))) aNil) fApp))
    (sSet 3 (bnd (aCons (eVar 3) (aCons (bnd (aCons (eb (pur (.int 1)) fun x => eb (bnd (aCons (eVar 0) (aCons (bnd (aCons (eVar 0) (aCons (eLst (aCons (pur (.int 2)) (aCons (pur (.int 8)) (aCons (pur (.int 30)) aNil)))) aNil)) (call F__law_pick)) aNil)) (call F__law_draw)) fun y => dAdd x y) (aCons (eVar 4) aNil)) (call F__law_low)) aNil)) (call F__law_plus)))))
    (sRet (eMove 2))))
def F__law_wishes : Fn := fnD 6 m__law_wishes
def m__law_worths : MS := (sSeq (sSet 1 (bnd (aCons (eb (pur (.int 1)) fun x => eb (bnd (aCons (eVar 0) (aCons (pur (.int 11)) aNil)) (call F__law_draw)) fun y => dAdd x y) (aCons (pur (.int 12)) aNil)) (call F__law_low)))
    (sSeq (sSet 2 (eLst (aCons (eTup (aCons (pur (.int 1)) (aCons (pur (.int 1)) aNil))) (aCons (eTup (aCons (pur (.int 2)) (aCons (pur (.int 1)) aNil))) (aCons (eTup (aCons (pur (.int 1)) (aCons (pur (.int 2)) aNil))) (aCons (eVar 1) (aCons (bnd (aCons (eb (pur (.int 1)) fun x => eb (bnd (aCons (eVar 0) (aCons (pur (.int 12)) aNil)) (call F__law_draw)) fun y => dAdd x y) (aCons (eb (pur (.int 1)) fun x => eb (bnd (aCons (eVar 0) (aCons (pur (.int 12)) aNil)) (call F__law_draw)) fun y => dAdd x y) aNil)) (call F__law_low)) aNil)))))))
    (sRet (eTup (aCons (eVar 1) (aCons (bnd (aCons (eVar 0) (aCons (eVar 2) aNil)) (call F__law_pick)) aNil))))))
def F__law_worths : Fn := fnD 3 m__law_worths
def m__law_none_more : MS := (sRet (eAnd (eb (bnd (bVar 0) dLen) fun x => eb (bnd (bVar 1) dLen) fun y => dEq x y) (eNot (bnd (brD (eLc (bnd (aCons (eVar 0) (aCons (eVar 1) aNil)) dZip2) [2, 3] (gTp (gCons (gNm 2) (gCons (gNm 3) gNil))) cYes (bnd (aCons (eVar 3) (aCons (eVar 2) aNil)) (call F__law_is_below)))) dAny))))
def F__law_none_more : Fn := fnD 4 m__law_none_more
def m__law_times_as : MS := (sRet (eLc (eb (eVar 0) dSeq) [2, 3] (gTp (gCons (gNm 2) (gCons (gNm 3) gNil))) cYes (eTup (aCons (eVar 2) (aCons (bnd (aCons (eVar 3) (aCons (eTup (aCons (eVar 1) (aCons (pur (.int 1)) aNil))) aNil)) (call F__law_times)) aNil)))))
def F__law_times_as : Fn := fnD 4 m__law_times_as
def m__law_put_off : MS := (sSeq (sSet 2 (eLc (eb (eVar 0) dSeq) [3, 4] (gTp (gCons (gNm 3) (gCons (gNm 4) gNil))) (tOrM (tst (eb (eIxV 3 (pur (.int 0))) fun x => eb (pur (.int 0)) fun y => dGt x y)) (tst (eb (eIxV 4 (pur (.int 0))) fun x => eb (pur (.int 0)) fun y => dGt x y))) (eTup (aCons (bnd (aCons (eVar 3) (aCons (eVar 1) aNil)) (call F__law_plus)) (aCons (eVar 4) aNil)))))
    (sRet (eb (eLst (aCons (eTup (aCons (eTup (aCons (pur (.int 0)) (aCons (pur (.int 1)) aNil))) (aCons (eTup (aCons (pur (.int 0)) (aCons (pur (.int 1)) aNil))) aNil))) aNil)) fun x => eb (eVar 2) fun y => dAdd x y)))
def F__law_put_off : Fn := fnD 5 m__law_put_off
def m__law_alone_right : MS := (sSeq (sSet 5 (bnd (aCons (bnd (aCons (eVar 3) (aCons (eVar 4) aNil)) (call F__law_times)) (aCons (bnd (aCons (eVar 3) (aCons (eVar 4) aNil)) (call F__law_plus)) aNil)) (call F__law_by)))
    (sSeq (sSet 5 (bnd (aCons (eVar 5) (aCons (bnd (aCons (eIxV 2 (pur (.int 1))) (aCons (eTup (aCons (eVar 0) (aCons (pur (.int 1)) aNil))) aNil)) (call F__law_by)) aNil)) (call F__law_times)))
    (sSeq (sSet 6 (bnd (aCons (bnd (aCons (eIxV 2 (pur (.int 1))) (aCons (eVar 5) aNil)) (call F__law_times)) (aCons (eTup (aCons (pur (.int 1)) (aCons (pur (.int 2)) aNil))) aNil)) (call F__law_times)))
    (sSeq (sSet 7 (eLst (aCons (bnd (aCons (eVar 0) (aCons (eVar 1) (aCons (eLst (aCons (eVar 2) aNil)) (aCons (eVar 3) (aCons (eVar 4) aNil))))) (call F_troubles)) (aCons (bnd (aCons (eVar 0) (aCons (eVar 1) (aCons (eLst (aCons (eVar 2) aNil)) (aCons (eVar 3) (aCons (eVar 4) aNil))))) (call F_paid)) aNil))))
    (sRet (bnd (aCons (eVar 7) (aCons (eLst (aCons (eLst (aCons (eVar 5) aNil)) (aCons (eVar 6) aNil))) aNil)) (call (F__law_same 8))))))))
def F__law_alone_right : Fn := fnD 8 m__law_alone_right
def m_law : MS := (sSeq (sSet 1 (eBox (bnd (aCons (eVar 0) aNil) (call F__law_stream))))
    (sSeq (sFor (bnd (aCons (pur (.int 4)) aNil) dRng1) (gNm 2) (sSeq (sParF [3, 4] (fCons (eb (pur (.int 1)) fun x => eb (bnd (aCons (eVar 1) (aCons (pur (.int 5)) aNil)) (call F__law_draw)) fun y => dAdd x y) (fCons (eb (pur (.int 1)) fun x => eb (bnd (aCons (eVar 1) (aCons (pur (.int 12)) aNil)) (call F__law_draw)) fun y => dAdd x y) fNil)))
    (sSeq (sAsg (eTup (aCons (bnd (aCons (eVar 1) (aCons (pur (.int 5)) aNil)) (call F__law_wishes)) (aCons (bnd (aCons (eVar 1) aNil) (call F__law_worths)) aNil))) (gTp (gCons (gNm 5) (gCons (gTp (gCons (gNm 6) (gCons (gNm 7) gNil))) gNil))))
    (sSeq (sSet 8 (bnd (aCons (eVar 3) (aCons (eVar 4) (aCons (eVar 5) (aCons (eVar 6) (aCons (eVar 7) aNil))))) (call F_troubles)))
    (sSeq (sSet 9 (bnd (aCons (eb (eb (eVar 3) fun x => eb (pur (.int 1)) fun y => dAdd x y) fun x => eb (bnd (aCons (eVar 1) (aCons (pur (.int 4)) aNil)) (call F__law_draw)) fun y => dAdd x y) (aCons (eVar 4) (aCons (eVar 5) (aCons (eVar 6) (aCons (eVar 7) aNil))))) (call F_troubles)))
    (sSeq (sParF [10, 11] (fCons (bnd (aCons (eVar 1) (aCons (bnd (bVar 5) dLen) aNil)) (call F__law_draw)) (fCons (bnd (aCons (eb (pur (.int 1)) fun x => eb (bnd (aCons (eVar 1) (aCons (pur (.int 15)) aNil)) (call F__law_draw)) fun y => dAdd x y) (aCons (pur (.int 2)) aNil)) (call F__law_low)) fNil)))
    (sSeq (sSet 12 (eb (eb (eSlV 5 pNone (pInt (eVar 10))) fun x => eb (eLst (aCons (eTup (aCons (eIx (eIxV 5 (eVar 10)) (pur (.int 0))) (aCons (bnd (aCons (eIx (eIxV 5 (eVar 10)) (pur (.int 1))) (aCons (eVar 11) aNil)) (call F__law_plus)) aNil))) aNil)) fun y => dAdd x y) fun x => eb (eSlV 5 (pInt (eb (eVar 10) fun x => eb (pur (.int 1)) fun y => dAdd x y)) pNone) fun y => dAdd x y))
    (sSeq (sIf (tOrM (tNotM (tst (bnd (aCons (eVar 9) (aCons (eVar 8) aNil)) (call F__law_none_more)))) (tNotM (tst (bnd (aCons (eVar 8) (aCons (bnd (aCons (eVar 3) (aCons (eVar 4) (aCons (eVar 12) (aCons (eVar 6) (aCons (eVar 7) aNil))))) (call F_troubles)) aNil)) (call F__law_none_more))))) (sRet (pur (.bl false))) sNx)
    (sSeq (sIf (tNotM (tst (bnd (aCons (eVar 3) (aCons (eVar 4) (aCons (eIxV 5 (eVar 10)) (aCons (eVar 6) (aCons (eVar 7) aNil))))) (call F__law_alone_right)))) (sRet (pur (.bl false))) sNx)
    (sSeq (sAsg (eTup (aCons (eTup (aCons (eb (pur (.int 1)) fun x => eb (bnd (aCons (eVar 1) (aCons (pur (.int 40)) aNil)) (call F__law_draw)) fun y => dAdd x y) (aCons (pur (.int 1)) aNil))) (aCons (pur (.int 2)) aNil))) (gTp (gCons (gNm 13) (gCons (gNm 14) gNil))))
    (sSeq (sSet 15 (eLc (eb (eVar 5) dSeq) [19, 20] (gTp (gCons (gNm 19) (gCons (gNm 20) gNil))) cYes (eTup (aCons (bnd (aCons (eVar 19) (aCons (eVar 13) aNil)) (call F__law_plus)) (aCons (eVar 20) aNil)))))
    (sSeq (sIf (tNotM (tst (bnd (aCons (bnd (aCons (eVar 3) (aCons (eb (pur (.int 1)) fun x => eb (bnd (aCons (eVar 1) (aCons (pur (.int 12)) aNil)) (call F__law_draw)) fun y => dAdd x y) (aCons (eVar 15) (aCons (eVar 6) (aCons (eVar 7) aNil))))) (call F_troubles)) (aCons (eVar 8) aNil)) (call (F__law_same 8))))) (sRet (pur (.bl false))) sNx)
    (sSeq (sSet 16 (eLc (eb (eVar 5) dSeq) [19, 20] (gTp (gCons (gNm 19) (gCons (gNm 20) gNil))) (tNotM (tst (bnd (aCons (eTup (aCons (pur (.int 30)) (aCons (pur (.int 1)) aNil))) (aCons (eVar 20) aNil)) (call F__law_is_below)))) (eTup (aCons (eVar 19) (aCons (bnd (aCons (eVar 20) (aCons (eTup (aCons (eVar 14) (aCons (pur (.int 1)) aNil))) aNil)) (call F__law_times)) aNil)))))
    (sSeq (sIf (tAndM (tst (eb (bnd (bVar 16) dLen) fun x => eb (bnd (bVar 5) dLen) fun y => dEq x y)) (tNotM (tst (bnd (aCons (bnd (aCons (eb (eVar 14) fun x => eb (eVar 3) fun y => dMul x y) (aCons (eVar 4) (aCons (eVar 16) (aCons (eVar 6) (aCons (eVar 7) aNil))))) (call F_troubles)) (aCons (eVar 8) aNil)) (call (F__law_same 8)))))) (sRet (pur (.bl false))) sNx)
    (sSeq (sIf (tst (bnd (aCons (eIx (eIx (bnd (aCons (eVar 3) (aCons (eVar 4) (aCons (eVar 5) (aCons (eVar 6) (aCons (eVar 7) aNil))))) (call F_stretches)) (pur (.int 0))) (pur (.int 0))) (aCons (eTup (aCons (eVar 4) (aCons (pur (.int 1)) aNil))) aNil)) (call F__law_is_below))) sCt sNx)
    (sSeq (sSet 17 (bnd (aCons (eVar 3) (aCons (eVar 4) (aCons (eVar 5) (aCons (eVar 6) (aCons (eVar 7) aNil))))) (call F_settled)))
    (sSeq (sSet 18 (eLc (eb (eVar 17) dSeq) [21] (gNm 21) cYes (bnd (aCons (eVar 21) (aCons (eVar 13) aNil)) (call F__law_put_off))))
    (sSeq (sIf (tNotM (tst (bnd (aCons (bnd (aCons (eVar 3) (aCons (eVar 4) (aCons (eVar 15) (aCons (eVar 6) (aCons (eVar 7) aNil))))) (call F_settled)) (aCons (eVar 18) aNil)) (call (F__law_same 8))))) (sRet (pur (.bl false))) sNx)
    (sIf (tst (eb (bnd (bVar 16) dLen) fun x => eb (bnd (bVar 5) dLen) fun y => dEq x y)) (sSeq (sSet 18 (eLc (eb (eVar 17) dSeq) [21] (gNm 21) cYes (bnd (aCons (eVar 21) (aCons (eVar 14) aNil)) (call F__law_times_as))))
    (sIf (tNotM (tst (bnd (aCons (bnd (aCons (eb (eVar 14) fun x => eb (eVar 3) fun y => dMul x y) (aCons (eVar 4) (aCons (eVar 16) (aCons (eVar 6) (aCons (eVar 7) aNil))))) (call F_settled)) (aCons (eVar 18) aNil)) (call (F__law_same 8))))) (sRet (pur (.bl false))) sNx)) sNx)))))))))))))))))))
    (sRet (pur (.bl true)))))
def F_law : Fn := fnD 22 m_law
end KX

set_option Elab.async false
set_option linter.all false
set_option maxRecDepth 100000
set_option maxHeartbeats 0
set_option autoImplicit false
namespace KX
open PySem PySem.Spec PyProof.Rows L2 TD

def TT (K : PySem.W.Frag) : List (Addr × Str) := tf.map fun p => ((He.cT K p).2, p.1 ++ ".<locals>." ++ "<lambda>")
/-- all that the written part says -/
structure Hh (w : World) (K : PySem.W.Frag) (mg : Str → Option Value) (base h : Heap) : Prop where
  c : He.SaysX fa fn [] tf exK w h K
  x : K.In h
  g : h.Ns mainGlobals mg
  tb : ∀ p ∈ tf, LamX.TabB base mg (He.cT K p).1 (He.cT K p).2
section
variable {P : Program} {w : World} {K : PySem.W.Frag} {mg : Str → Option Value} {base h : Heap}
theorem gl_at (hh : Hh w K mg base h) (i : Nat) {x : Str} (e : fa[i]? = some (.glo x)) : mg x = some (.ref (He.ga K x)) := He.glo_ok hh.x hh.g (hh.c.t.d.fact i e)
theorem fr_at (hh : Hh w K mg base h) (i : Nat) {x : Str} (e : fa[i]? = some (.free x)) : mg x = none := He.free_ok hh.x hh.g (hh.c.t.d.fact i e)
theorem ex_all (hh : Hh w K mg base h) : (((tyN.all (fun x => decide (PySem.W.typeIn K (.ref (He.ga K x)) = some (.type "function"))) = true ∧ excN.all (fun q => exB K q.1 q.2) = true) ∧ excN.all (fun q => excN.all fun r => decide (PySem.W.exmOne K (.ref (He.ga K q.1)) (.ref (He.ga K r.1)) = some (decide (r.1 = q.1)))) = true) ∧ PySem.W.nsIn K mainGlobals "gcd" = some (some (.builtin "math.gcd"))) ∧ (tf.map fun p => (He.cT K p).2).Nodup := by
  have z := hh.c.more
  unfold exK at z
  rw [Bool.and_eq_true, Bool.and_eq_true, Bool.and_eq_true, Bool.and_eq_true, decide_eq_true_eq, decide_eq_true_eq] at z
  exact z
theorem ty_at (hh : Hh w K mg base h) {x : Str} (e : x ∈ tyN) : PySem.W.typeIn K (.ref (He.ga K x)) = some (.type "function") := of_decide_eq_true (List.all_eq_true.mp (ex_all hh).1.1.1.1 x e)
theorem exb_at (hh : Hh w K mg base h) {q : Str × Str} (e : q ∈ excN) : exB K q.1 q.2 = true := List.all_eq_true.mp (ex_all hh).1.1.1.2 q e
theorem exm_at (hh : Hh w K mg base h) {q r : Str × Str} (e : q ∈ excN) (f : r ∈ excN) : PySem.W.exmOne K (.ref (He.ga K q.1)) (.ref (He.ga K r.1)) = some (decide (r.1 = q.1)) := of_decide_eq_true (List.all_eq_true.mp (List.all_eq_true.mp (ex_all hh).1.1.2 q e) r f)
theorem gl_gcd (hh : Hh w K mg base h) : mg "gcd" = some (.builtin "math.gcd") := PySem.W.mg_of hh.x hh.g (ex_all hh).1.2
theorem fn_at (hh : Hh w K mg base h) (i : Nat) {d : He.DefD} (e : fn[i]? = some d) : ∃ fd, FunD K d.name d.qual d.params d.body d.scope (d.dvs K) (d.kws K) (He.fAd K d.at_) fd := hh.c.t.d.def_ i e
theorem tab_ne (hh : Hh w K mg base h) : ∀ i j : Nat, ∀ p q : He.Defn, tf[i]? = some p → tf[j]? = some q → (He.cT K p).2 = (He.cT K q).2 → i = j := fun i j p q e1 e2 e => by
  have nd := (ex_all hh).2
  have l1 : (tf.map fun p => (He.cT K p).2)[i]? = some (He.cT K p).2 := by rw [List.getElem?_map, e1]; rfl
  have l2 : (tf.map fun p => (He.cT K p).2)[j]? = some (He.cT K q).2 := by rw [List.getElem?_map, e2]; rfl
  exact (List.getElem?_inj (List.getElem?_eq_some_iff.mp l1).1 nd).mp (by rw [l1, l2, e])
theorem tu_at (hh : Hh w K mg base h) (i : Nat) {p : He.Defn} (e : tf[i]? = some p) : ∀ r ∈ TT K, r.1 = (He.cT K p).2 → r.2 = p.1 ++ ".<locals>." ++ "<lambda>" := fun r hr e2 => by
  obtain ⟨q, hq, rfl⟩ := List.mem_map.mp hr
  obtain ⟨j, hj⟩ := List.mem_iff_getElem?.mp hq
  have := tab_ne hh j i q p hj e e2
  subst this
  rw [hj] at e
  cases e
  rfl
theorem tm_at (i : Nat) {p : He.Defn} (e : tf[i]? = some p) : ((He.cT K p).2, p.1 ++ ".<locals>." ++ "<lambda>") ∈ TT K := List.mem_map.mpr ⟨p, List.mem_of_getElem? e, rfl⟩
theorem tb_at (hh : Hh w K mg base h) (i : Nat) {p : He.Defn} (e : tf[i]? = some p) : LamX.TabB base mg (He.cT K p).1 (He.cT K p).2 := hh.tb p (List.mem_of_getElem? e)
theorem held_nil {n k : Nat} : ∀ y G, ([] : List (Str × Fn)).lookup y = some G → ∃ ps : List Str, ps.length = n ∧ Def P w K mg base (TT K) y ps G k := fun y G e => by cases e
theorem held_cons {n k : Nat} {x : Str} {F : Fn} {ps : List Str} {l : List (Str × Fn)} (D : Def P w K mg base (TT K) x ps F k) (hn : ps.length = n) (r : ∀ y G, l.lookup y = some G → ∃ ps : List Str, ps.length = n ∧ Def P w K mg base (TT K) y ps G k) :
    ∀ y G, ((x, F) :: l).lookup y = some G → ∃ ps : List Str, ps.length = n ∧ Def P w K mg base (TT K) y ps G k := fun y G e => by
  rw [List.lookup_cons] at e
  cases hb : y == x with
  | true =>
    rw [hb] at e
    cases e
    rw [eq_of_beq hb]
    exact ⟨ps, hn, D⟩
  | false =>
    rw [hb] at e
    exact r y G e
theorem gl_is_list (hh : Hh w K mg base h) : mg "is_list" = some (.ref (He.ga K "is_list")) := gl_at hh 0 rfl
theorem fn_is_list (hh : Hh w K mg base h) : ∃ fd, FunD K "is_list" "is_list" (defArgs (top 4)) (defBody (top 4)) (defScope (top 4)) [] [] (He.ga K "is_list") fd := fn_at hh 0 (d := dd "is_list" 4) rfl
theorem gl_is_whole (hh : Hh w K mg base h) : mg "is_whole" = some (.ref (He.ga K "is_whole")) := gl_at hh 1 rfl
theorem fn_is_whole (hh : Hh w K mg base h) : ∃ fd, FunD K "is_whole" "is_whole" (defArgs (top 5)) (defBody (top 5)) (defScope (top 5)) [] [] (He.ga K "is_whole") fd := fn_at hh 1 (d := dd "is_whole" 5) rfl
theorem gl_is_positive (hh : Hh w K mg base h) : mg "is_positive" = some (.ref (He.ga K "is_positive")) := gl_at hh 2 rfl
theorem fn_is_positive (hh : Hh w K mg base h) : ∃ fd, FunD K "is_positive" "is_positive" (defArgs (top 6)) (defBody (top 6)) (defScope (top 6)) [] [] (He.ga K "is_positive") fd := fn_at hh 2 (d := dd "is_positive" 6) rfl
theorem gl_lowest (hh : Hh w K mg base h) : mg "lowest" = some (.ref (He.ga K "lowest")) := gl_at hh 3 rfl
theorem fn_lowest (hh : Hh w K mg base h) : ∃ fd, FunD K "lowest" "lowest" (defArgs (top 7)) (defBody (top 7)) (defScope (top 7)) [] [] (He.ga K "lowest") fd := fn_at hh 3 (d := dd "lowest" 7) rfl
theorem gl_is_fraction (hh : Hh w K mg base h) : mg "is_fraction" = some (.ref (He.ga K "is_fraction")) := gl_at hh 4 rfl
theorem fn_is_fraction (hh : Hh w K mg base h) : ∃ fd, FunD K "is_fraction" "is_fraction" (defArgs (top 8)) (defBody (top 8)) (defScope (top 8)) [] [] (He.ga K "is_fraction") fd := fn_at hh 4 (d := dd "is_fraction" 8) rfl
theorem gl_is_heap (hh : Hh w K mg base h) : mg "is_heap" = some (.ref (He.ga K "is_heap")) := gl_at hh 5 rfl
theorem fn_is_heap (hh : Hh w K mg base h) : ∃ fd, FunD K "is_heap" "is_heap" (defArgs (top 9)) (defBody (top 9)) (defScope (top 9)) [] [] (He.ga K "is_heap") fd := fn_at hh 5 (d := dd "is_heap" 9) rfl
theorem gl_told (hh : Hh w K mg base h) : mg "told" = some (.ref (He.ga K "told")) := gl_at hh 6 rfl
theorem fn_told (hh : Hh w K mg base h) : ∃ fd, FunD K "told" "told" (defArgs (top 10)) (defBody (top 10)) (defScope (top 10)) [] [] (He.ga K "told") fd := fn_at hh 6 (d := dd "told" 10) rfl
theorem gl_plus (hh : Hh w K mg base h) : mg "plus" = some (.ref (He.ga K "plus")) := gl_at hh 7 rfl
theorem fn_plus (hh : Hh w K mg base h) : ∃ fd, FunD K "plus" "plus" (defArgs (top 11)) (defBody (top 11)) (defScope (top 11)) [] [] (He.ga K "plus") fd := fn_at hh 7 (d := dd "plus" 11) rfl
theorem gl_less (hh : Hh w K mg base h) : mg "less" = some (.ref (He.ga K "less")) := gl_at hh 8 rfl
theorem fn_less (hh : Hh w K mg base h) : ∃ fd, FunD K "less" "less" (defArgs (top 12)) (defBody (top 12)) (defScope (top 12)) [] [] (He.ga K "less") fd := fn_at hh 8 (d := dd "less" 12) rfl
theorem gl_times (hh : Hh w K mg base h) : mg "times" = some (.ref (He.ga K "times")) := gl_at hh 9 rfl
theorem fn_times (hh : Hh w K mg base h) : ∃ fd, FunD K "times" "times" (defArgs (top 13)) (defBody (top 13)) (defScope (top 13)) [] [] (He.ga K "times") fd := fn_at hh 9 (d := dd "times" 13) rfl
theorem gl_parted (hh : Hh w K mg base h) : mg "parted" = some (.ref (He.ga K "parted")) := gl_at hh 10 rfl
theorem fn_parted (hh : Hh w K mg base h) : ∃ fd, FunD K "parted" "parted" (defArgs (top 14)) (defBody (top 14)) (defScope (top 14)) [] [] (He.ga K "parted") fd := fn_at hh 10 (d := dd "parted" 14) rfl
theorem gl_is_below (hh : Hh w K mg base h) : mg "is_below" = some (.ref (He.ga K "is_below")) := gl_at hh 11 rfl
theorem fn_is_below (hh : Hh w K mg base h) : ∃ fd, FunD K "is_below" "is_below" (defArgs (top 15)) (defBody (top 15)) (defScope (top 15)) [] [] (He.ga K "is_below") fd := fn_at hh 11 (d := dd "is_below" 15) rfl
theorem gl_least (hh : Hh w K mg base h) : mg "least" = some (.ref (He.ga K "least")) := gl_at hh 12 rfl
theorem fn_least (hh : Hh w K mg base h) : ∃ fd, FunD K "least" "least" (defArgs (top 16)) (defBody (top 16)) (defScope (top 16)) [] [] (He.ga K "least") fd := fn_at hh 12 (d := dd "least" 16) rfl
theorem gl_greatest (hh : Hh w K mg base h) : mg "greatest" = some (.ref (He.ga K "greatest")) := gl_at hh 13 rfl
theorem fn_greatest (hh : Hh w K mg base h) : ∃ fd, FunD K "greatest" "greatest" (defArgs (top 17)) (defBody (top 17)) (defScope (top 17)) [] [] (He.ga K "greatest") fd := fn_at hh 13 (d := dd "greatest" 17) rfl
theorem gl_sum_of (hh : Hh w K mg base h) : mg "sum_of" = some (.ref (He.ga K "sum_of")) := gl_at hh 14 rfl
theorem fn_sum_of (hh : Hh w K mg base h) : ∃ fd, FunD K "sum_of" "sum_of" (defArgs (top 18)) (defBody (top 18)) (defScope (top 18)) [] [] (He.ga K "sum_of") fd := fn_at hh 14 (d := dd "sum_of" 18) rfl
theorem gl_in_order (hh : Hh w K mg base h) : mg "in_order" = some (.ref (He.ga K "in_order")) := gl_at hh 15 rfl
theorem fn_in_order (hh : Hh w K mg base h) : ∃ fd, FunD K "in_order" "in_order" (defArgs (top 19)) (defBody (top 19)) (defScope (top 19)) [] [] (He.ga K "in_order") fd := fn_at hh 15 (d := dd "in_order" 19) rfl
theorem gl_check_road (hh : Hh w K mg base h) : mg "check_road" = some (.ref (He.ga K "check_road")) := gl_at hh 16 rfl
theorem fn_check_road (hh : Hh w K mg base h) : ∃ fd, FunD K "check_road" "check_road" (defArgs (top 28)) (defBody (top 28)) (defScope (top 28)) [] [] (He.ga K "check_road") fd := fn_at hh 16 (d := dd "check_road" 28) rfl
theorem gl_is_wish (hh : Hh w K mg base h) : mg "is_wish" = some (.ref (He.ga K "is_wish")) := gl_at hh 17 rfl
theorem fn_is_wish (hh : Hh w K mg base h) : ∃ fd, FunD K "is_wish" "is_wish" (defArgs (top 29)) (defBody (top 29)) (defScope (top 29)) [] [] (He.ga K "is_wish") fd := fn_at hh 17 (d := dd "is_wish" 29) rfl
theorem gl_checked_wishes (hh : Hh w K mg base h) : mg "checked_wishes" = some (.ref (He.ga K "checked_wishes")) := gl_at hh 18 rfl
theorem fn_checked_wishes (hh : Hh w K mg base h) : ∃ fd, FunD K "checked_wishes" "checked_wishes" (defArgs (top 30)) (defBody (top 30)) (defScope (top 30)) [] [] (He.ga K "checked_wishes") fd := fn_at hh 18 (d := dd "checked_wishes" 30) rfl
theorem gl_checked_troubles (hh : Hh w K mg base h) : mg "checked_troubles" = some (.ref (He.ga K "checked_troubles")) := gl_at hh 19 rfl
theorem fn_checked_troubles (hh : Hh w K mg base h) : ∃ fd, FunD K "checked_troubles" "checked_troubles" (defArgs (top 31)) (defBody (top 31)) (defScope (top 31)) [] [] (He.ga K "checked_troubles") fd := fn_at hh 19 (d := dd "checked_troubles" 31) rfl
theorem gl_spans_of (hh : Hh w K mg base h) : mg "spans_of" = some (.ref (He.ga K "spans_of")) := gl_at hh 20 rfl
theorem fn_spans_of (hh : Hh w K mg base h) : ∃ fd, FunD K "spans_of" "spans_of" (defArgs (top 32)) (defBody (top 32)) (defScope (top 32)) [] [] (He.ga K "spans_of") fd := fn_at hh 20 (d := dd "spans_of" 32) rfl
theorem gl_offsets_of (hh : Hh w K mg base h) : mg "offsets_of" = some (.ref (He.ga K "offsets_of")) := gl_at hh 21 rfl
theorem fn_offsets_of (hh : Hh w K mg base h) : ∃ fd, FunD K "offsets_of" "offsets_of" (defArgs (top 33)) (defBody (top 33)) (defScope (top 33)) [] [] (He.ga K "offsets_of") fd := fn_at hh 21 (d := dd "offsets_of" 33) rfl
theorem gl_early_beats (hh : Hh w K mg base h) : mg "early_beats" = some (.ref (He.ga K "early_beats")) := gl_at hh 22 rfl
theorem fn_early_beats (hh : Hh w K mg base h) : ∃ fd, FunD K "early_beats" "early_beats" (defArgs (top 34)) (defBody (top 34)) (defScope (top 34)) [] [] (He.ga K "early_beats") fd := fn_at hh 22 (d := dd "early_beats" 34) rfl
theorem gl_begin_of (hh : Hh w K mg base h) : mg "begin_of" = some (.ref (He.ga K "begin_of")) := gl_at hh 23 rfl
theorem fn_begin_of (hh : Hh w K mg base h) : ∃ fd, FunD K "begin_of" "begin_of" (defArgs (top 35)) (defBody (top 35)) (defScope (top 35)) [] [] (He.ga K "begin_of") fd := fn_at hh 23 (d := dd "begin_of" 35) rfl
theorem gl_blocks_of (hh : Hh w K mg base h) : mg "blocks_of" = some (.ref (He.ga K "blocks_of")) := gl_at hh 24 rfl
theorem fn_blocks_of (hh : Hh w K mg base h) : ∃ fd, FunD K "blocks_of" "blocks_of" (defArgs (top 36)) (defBody (top 36)) (defScope (top 36)) [] [] (He.ga K "blocks_of") fd := fn_at hh 24 (d := dd "blocks_of" 36) rfl
theorem gl_pieces_of (hh : Hh w K mg base h) : mg "pieces_of" = some (.ref (He.ga K "pieces_of")) := gl_at hh 25 rfl
theorem fn_pieces_of (hh : Hh w K mg base h) : ∃ fd, FunD K "pieces_of" "pieces_of" (defArgs (top 37)) (defBody (top 37)) (defScope (top 37)) [] [] (He.ga K "pieces_of") fd := fn_at hh 25 (d := dd "pieces_of" 37) rfl
theorem gl_checked_all (hh : Hh w K mg base h) : mg "checked_all" = some (.ref (He.ga K "checked_all")) := gl_at hh 26 rfl
theorem fn_checked_all (hh : Hh w K mg base h) : ∃ fd, FunD K "checked_all" "checked_all" (defArgs (top 38)) (defBody (top 38)) (defScope (top 38)) [] [] (He.ga K "checked_all") fd := fn_at hh 26 (d := dd "checked_all" 38) rfl
theorem gl_check_soon (hh : Hh w K mg base h) : mg "check_soon" = some (.ref (He.ga K "check_soon")) := gl_at hh 27 rfl
theorem fn_check_soon (hh : Hh w K mg base h) : ∃ fd, FunD K "check_soon" "check_soon" (defArgs (top 39)) (defBody (top 39)) (defScope (top 39)) [] [] (He.ga K "check_soon") fd := fn_at hh 27 (d := dd "check_soon" 39) rfl
theorem gl_comers_by (hh : Hh w K mg base h) : mg "comers_by" = some (.ref (He.ga K "comers_by")) := gl_at hh 28 rfl
theorem fn_comers_by (hh : Hh w K mg base h) : ∃ fd, FunD K "comers_by" "comers_by" (defArgs (top 40)) (defBody (top 40)) (defScope (top 40)) [] [] (He.ga K "comers_by") fd := fn_at hh 28 (d := dd "comers_by" 40) rfl
theorem gl_come_at (hh : Hh w K mg base h) : mg "come_at" = some (.ref (He.ga K "come_at")) := gl_at hh 29 rfl
theorem fn_come_at (hh : Hh w K mg base h) : ∃ fd, FunD K "come_at" "come_at" (defArgs (top 41)) (defBody (top 41)) (defScope (top 41)) [] [] (He.ga K "come_at") fd := fn_at hh 29 (d := dd "come_at" 41) rfl
theorem gl_settled (hh : Hh w K mg base h) : mg "settled" = some (.ref (He.ga K "settled")) := gl_at hh 30 rfl
theorem fn_settled (hh : Hh w K mg base h) : ∃ fd, FunD K "settled" "settled" (defArgs (top 42)) (defBody (top 42)) (defScope (top 42)) [] [] (He.ga K "settled") fd := fn_at hh 30 (d := dd "settled" 42) rfl
theorem gl_stretches (hh : Hh w K mg base h) : mg "stretches" = some (.ref (He.ga K "stretches")) := gl_at hh 31 rfl
theorem fn_stretches (hh : Hh w K mg base h) : ∃ fd, FunD K "stretches" "stretches" (defArgs (top 43)) (defBody (top 43)) (defScope (top 43)) [] [] (He.ga K "stretches") fd := fn_at hh 31 (d := dd "stretches" 43) rfl
theorem gl_sorrow (hh : Hh w K mg base h) : mg "sorrow" = some (.ref (He.ga K "sorrow")) := gl_at hh 32 rfl
theorem fn_sorrow (hh : Hh w K mg base h) : ∃ fd, FunD K "sorrow" "sorrow" (defArgs (top 44)) (defBody (top 44)) (defScope (top 44)) [] [] (He.ga K "sorrow") fd := fn_at hh 32 (d := dd "sorrow" 44) rfl
theorem gl_troubles (hh : Hh w K mg base h) : mg "troubles" = some (.ref (He.ga K "troubles")) := gl_at hh 33 rfl
theorem fn_troubles (hh : Hh w K mg base h) : ∃ fd, FunD K "troubles" "troubles" (defArgs (top 45)) (defBody (top 45)) (defScope (top 45)) [] [] (He.ga K "troubles") fd := fn_at hh 33 (d := dd "troubles" 45) rfl
theorem gl_paid (hh : Hh w K mg base h) : mg "paid" = some (.ref (He.ga K "paid")) := gl_at hh 34 rfl
theorem fn_paid (hh : Hh w K mg base h) : ∃ fd, FunD K "paid" "paid" (defArgs (top 47)) (defBody (top 47)) (defScope (top 47)) [] [] (He.ga K "paid") fd := fn_at hh 34 (d := dd "paid" 47) rfl
theorem gl__law_stream (hh : Hh w K mg base h) : mg "_law_stream" = some (.ref (He.ga K "_law_stream")) := gl_at hh 35 rfl
theorem fn__law_stream (hh : Hh w K mg base h) : ∃ fd, FunD K "_law_stream" "_law_stream" (defArgs (top 49)) (defBody (top 49)) (defScope (top 49)) [] [] (He.ga K "_law_stream") fd := fn_at hh 35 (d := dd "_law_stream" 49) rfl
theorem gl__law_draw (hh : Hh w K mg base h) : mg "_law_draw" = some (.ref (He.ga K "_law_draw")) := gl_at hh 36 rfl
theorem fn__law_draw (hh : Hh w K mg base h) : ∃ fd, FunD K "_law_draw" "_law_draw" (defArgs (top 50)) (defBody (top 50)) (defScope (top 50)) [] [] (He.ga K "_law_draw") fd := fn_at hh 36 (d := dd "_law_draw" 50) rfl
theorem gl__law_pick (hh : Hh w K mg base h) : mg "_law_pick" = some (.ref (He.ga K "_law_pick")) := gl_at hh 37 rfl
theorem fn__law_pick (hh : Hh w K mg base h) : ∃ fd, FunD K "_law_pick" "_law_pick" (defArgs (top 51)) (defBody (top 51)) (defScope (top 51)) [] [] (He.ga K "_law_pick") fd := fn_at hh 37 (d := dd "_law_pick" 51) rfl
theorem gl__law_same (hh : Hh w K mg base h) : mg "_law_same" = some (.ref (He.ga K "_law_same")) := gl_at hh 38 rfl
theorem fn__law_same (hh : Hh w K mg base h) : ∃ fd, FunD K "_law_same" "_law_same" (defArgs (top 52)) (defBody (top 52)) (defScope (top 52)) [] [] (He.ga K "_law_same") fd := fn_at hh 38 (d := dd "_law_same" 52) rfl
theorem gl__law_common (hh : Hh w K mg base h) : mg "_law_common" = some (.ref (He.ga K "_law_common")) := gl_at hh 39 rfl
theorem fn__law_common (hh : Hh w K mg base h) : ∃ fd, FunD K "_law_common" "_law_common" (defArgs (top 53)) (defBody (top 53)) (defScope (top 53)) [] [] (He.ga K "_law_common") fd := fn_at hh 39 (d := dd "_law_common" 53) rfl
theorem gl__law_low (hh : Hh w K mg base h) : mg "_law_low" = some (.ref (He.ga K "_law_low")) := gl_at hh 40 rfl
theorem fn__law_low (hh : Hh w K mg base h) : ∃ fd, FunD K "_law_low" "_law_low" (defArgs (top 54)) (defBody (top 54)) (defScope (top 54)) [] [] (He.ga K "_law_low") fd := fn_at hh 40 (d := dd "_law_low" 54) rfl
theorem gl__law_plus (hh : Hh w K mg base h) : mg "_law_plus" = some (.ref (He.ga K "_law_plus")) := gl_at hh 41 rfl
theorem fn__law_plus (hh : Hh w K mg base h) : ∃ fd, FunD K "_law_plus" "_law_plus" (defArgs (top 55)) (defBody (top 55)) (defScope (top 55)) [] [] (He.ga K "_law_plus") fd := fn_at hh 41 (d := dd "_law_plus" 55) rfl
theorem gl__law_times (hh : Hh w K mg base h) : mg "_law_times" = some (.ref (He.ga K "_law_times")) := gl_at hh 42 rfl
theorem fn__law_times (hh : Hh w K mg base h) : ∃ fd, FunD K "_law_times" "_law_times" (defArgs (top 56)) (defBody (top 56)) (defScope (top 56)) [] [] (He.ga K "_law_times") fd := fn_at hh 42 (d := dd "_law_times" 56) rfl
theorem gl__law_by (hh : Hh w K mg base h) : mg "_law_by" = some (.ref (He.ga K "_law_by")) := gl_at hh 43 rfl
theorem fn__law_by (hh : Hh w K mg base h) : ∃ fd, FunD K "_law_by" "_law_by" (defArgs (top 57)) (defBody (top 57)) (defScope (top 57)) [] [] (He.ga K "_law_by") fd := fn_at hh 43 (d := dd "_law_by" 57) rfl
theorem gl__law_is_below (hh : Hh w K mg base h) : mg "_law_is_below" = some (.ref (He.ga K "_law_is_below")) := gl_at hh 44 rfl
theorem fn__law_is_below (hh : Hh w K mg base h) : ∃ fd, FunD K "_law_is_below" "_law_is_below" (defArgs (top 58)) (defBody (top 58)) (defScope (top 58)) [] [] (He.ga K "_law_is_below") fd := fn_at hh 44 (d := dd "_law_is_below" 58) rfl
theorem gl__law_wishes (hh : Hh w K mg base h) : mg "_law_wishes" = some (.ref (He.ga K "_law_wishes")) := gl_at hh 45 rfl
theorem fn__law_wishes (hh : Hh w K mg base h) : ∃ fd, FunD K "_law_wishes" "_law_wishes" (defArgs (top 59)) (defBody (top 59)) (defScope (top 59)) [] [] (He.ga K "_law_wishes") fd := fn_at hh 45 (d := dd "_law_wishes" 59) rfl
theorem gl__law_worths (hh : Hh w K mg base h) : mg "_law_worths" = some (.ref (He.ga K "_law_worths")) := gl_at hh 46 rfl
theorem fn__law_worths (hh : Hh w K mg base h) : ∃ fd, FunD K "_law_worths" "_law_worths" (defArgs (top 60)) (defBody (top 60)) (defScope (top 60)) [] [] (He.ga K "_law_worths") fd := fn_at hh 46 (d := dd "_law_worths" 60) rfl
theorem gl__law_none_more (hh : Hh w K mg base h) : mg "_law_none_more" = some (.ref (He.ga K "_law_none_more")) := gl_at hh 47 rfl
theorem fn__law_none_more (hh : Hh w K mg base h) : ∃ fd, FunD K "_law_none_more" "_law_none_more" (defArgs (top 61)) (defBody (top 61)) (defScope (top 61)) [] [] (He.ga K "_law_none_more") fd := fn_at hh 47 (d := dd "_law_none_more" 61) rfl
theorem gl__law_times_as (hh : Hh w K mg base h) : mg "_law_times_as" = some (.ref (He.ga K "_law_times_as")) := gl_at hh 48 rfl
theorem fn__law_times_as (hh : Hh w K mg base h) : ∃ fd, FunD K "_law_times_as" "_law_times_as" (defArgs (top 62)) (defBody (top 62)) (defScope (top 62)) [] [] (He.ga K "_law_times_as") fd := fn_at hh 48 (d := dd "_law_times_as" 62) rfl
theorem gl__law_put_off (hh : Hh w K mg base h) : mg "_law_put_off" = some (.ref (He.ga K "_law_put_off")) := gl_at hh 49 rfl
theorem fn__law_put_off (hh : Hh w K mg base h) : ∃ fd, FunD K "_law_put_off" "_law_put_off" (defArgs (top 63)) (defBody (top 63)) (defScope (top 63)) [] [] (He.ga K "_law_put_off") fd := fn_at hh 49 (d := dd "_law_put_off" 63) rfl
theorem gl__law_alone_right (hh : Hh w K mg base h) : mg "_law_alone_right" = some (.ref (He.ga K "_law_alone_right")) := gl_at hh 50 rfl
theorem fn__law_alone_right (hh : Hh w K mg base h) : ∃ fd, FunD K "_law_alone_right" "_law_alone_right" (defArgs (top 64)) (defBody (top 64)) (defScope (top 64)) [] [] (He.ga K "_law_alone_right") fd := fn_at hh 50 (d := dd "_law_alone_right" 64) rfl
theorem gl_law (hh : Hh w K mg base h) : mg "law" = some (.ref (He.ga K "law")) := gl_at hh 51 rfl
theorem fn_law (hh : Hh w K mg base h) : ∃ fd, FunD K "law" "law" (defArgs (top 65)) (defBody (top 65)) (defScope (top 65)) [] [] (He.ga K "law") fd := fn_at hh 51 (d := dd "law" 65) rfl
theorem fr_abs (hh : Hh w K mg base h) : mg "abs" = none := fr_at hh 58 rfl
theorem fr_all (hh : Hh w K mg base h) : mg "all" = none := fr_at hh 59 rfl
theorem fr_any (hh : Hh w K mg base h) : mg "any" = none := fr_at hh 60 rfl
theorem fr_bool (hh : Hh w K mg base h) : mg "bool" = none := fr_at hh 61 rfl
theorem fr_dict (hh : Hh w K mg base h) : mg "dict" = none := fr_at hh 62 rfl
theorem fr_enumerate (hh : Hh w K mg base h) : mg "enumerate" = none := fr_at hh 63 rfl
theorem fr_int (hh : Hh w K mg base h) : mg "int" = none := fr_at hh 64 rfl
theorem fr_isinstance (hh : Hh w K mg base h) : mg "isinstance" = none := fr_at hh 65 rfl
theorem fr_len (hh : Hh w K mg base h) : mg "len" = none := fr_at hh 66 rfl
theorem fr_list (hh : Hh w K mg base h) : mg "list" = none := fr_at hh 67 rfl
theorem fr_range (hh : Hh w K mg base h) : mg "range" = none := fr_at hh 68 rfl
theorem fr_sorted (hh : Hh w K mg base h) : mg "sorted" = none := fr_at hh 69 rfl
theorem fr_tuple (hh : Hh w K mg base h) : mg "tuple" = none := fr_at hh 70 rfl
theorem fr_zip (hh : Hh w K mg base h) : mg "zip" = none := fr_at hh 71 rfl
theorem tb_in_order (hh : Hh w K mg base h) : LamX.TabB base mg (He.codeOf K ("in_order", none)) (He.cT K ("in_order", none)).2 := tb_at hh 0 rfl
theorem tu_in_order (hh : Hh w K mg base h) : ∀ r ∈ TT K, r.1 = (He.cT K ("in_order", none)).2 → r.2 = "in_order" ++ ".<locals>." ++ "<lambda>" := tu_at hh 0 rfl
theorem tm_in_order : ((He.cT K ("in_order", none)).2, ("in_order" ++ ".<locals>." ++ "<lambda>" : Str)) ∈ TT K := tm_at 0 rfl
theorem ex_BadRoom (hh : Hh w K mg base h) : ExD P w K mg base "BadRoom" "room" 1 := by
  obtain ⟨fd, F⟩ := fn_at hh 52 (d := di "BadRoom" 21 0) rfl
  obtain ⟨h1, h2, h3, h4, h5⟩ := exB_ok (exb_at hh (q := ("BadRoom", "room")) (by decide +kernel))
  exact ⟨exb_at hh (q := ("BadRoom", "room")) (by decide +kernel), gl_at hh 52 rfl, fd, ["self", "room"], init_ok (sf := "self") (x := "room") F h1 h3 ⟨rfl, rfl, rfl, by decide +kernel, rfl, by decide +kernel, by decide +kernel⟩ (by decide) (by decide) (by decide) (by decide) (fun _ => rfl), FunD.bindsN F fun _ _ _ _ _ _ us hl => match us, hl with | [_, _], _ => rfl⟩
theorem ex_BadLength (hh : Hh w K mg base h) : ExD P w K mg base "BadLength" "length" 1 := by
  obtain ⟨fd, F⟩ := fn_at hh 53 (d := di "BadLength" 22 0) rfl
  obtain ⟨h1, h2, h3, h4, h5⟩ := exB_ok (exb_at hh (q := ("BadLength", "length")) (by decide +kernel))
  exact ⟨exb_at hh (q := ("BadLength", "length")) (by decide +kernel), gl_at hh 53 rfl, fd, ["self", "length"], init_ok (sf := "self") (x := "length") F h1 h3 ⟨rfl, rfl, rfl, by decide +kernel, rfl, by decide +kernel, by decide +kernel⟩ (by decide) (by decide) (by decide) (by decide) (fun _ => rfl), FunD.bindsN F fun _ _ _ _ _ _ us hl => match us, hl with | [_, _], _ => rfl⟩
theorem ex_BadWishes (hh : Hh w K mg base h) : ExD P w K mg base "BadWishes" "index" 1 := by
  obtain ⟨fd, F⟩ := fn_at hh 54 (d := di "BadWishes" 23 0) rfl
  obtain ⟨h1, h2, h3, h4, h5⟩ := exB_ok (exb_at hh (q := ("BadWishes", "index")) (by decide +kernel))
  exact ⟨exb_at hh (q := ("BadWishes", "index")) (by decide +kernel), gl_at hh 54 rfl, fd, ["self", "index"], init_ok (sf := "self") (x := "index") F h1 h3 ⟨rfl, rfl, rfl, by decide +kernel, rfl, by decide +kernel, by decide +kernel⟩ (by decide) (by decide) (by decide) (by decide) (fun _ => rfl), FunD.bindsN F fun _ _ _ _ _ _ us hl => match us, hl with | [_, _], _ => rfl⟩
theorem ex_BadEarly (hh : Hh w K mg base h) : ExD P w K mg base "BadEarly" "early" 1 := by
  obtain ⟨fd, F⟩ := fn_at hh 55 (d := di "BadEarly" 24 0) rfl
  obtain ⟨h1, h2, h3, h4, h5⟩ := exB_ok (exb_at hh (q := ("BadEarly", "early")) (by decide +kernel))
  exact ⟨exb_at hh (q := ("BadEarly", "early")) (by decide +kernel), gl_at hh 55 rfl, fd, ["self", "early"], init_ok (sf := "self") (x := "early") F h1 h3 ⟨rfl, rfl, rfl, by decide +kernel, rfl, by decide +kernel, by decide +kernel⟩ (by decide) (by decide) (by decide) (by decide) (fun _ => rfl), FunD.bindsN F fun _ _ _ _ _ _ us hl => match us, hl with | [_, _], _ => rfl⟩
theorem ex_BadLate (hh : Hh w K mg base h) : ExD P w K mg base "BadLate" "late" 1 := by
  obtain ⟨fd, F⟩ := fn_at hh 56 (d := di "BadLate" 25 0) rfl
  obtain ⟨h1, h2, h3, h4, h5⟩ := exB_ok (exb_at hh (q := ("BadLate", "late")) (by decide +kernel))
  exact ⟨exb_at hh (q := ("BadLate", "late")) (by decide +kernel), gl_at hh 56 rfl, fd, ["self", "late"], init_ok (sf := "self") (x := "late") F h1 h3 ⟨rfl, rfl, rfl, by decide +kernel, rfl, by decide +kernel, by decide +kernel⟩ (by decide) (by decide) (by decide) (by decide) (fun _ => rfl), FunD.bindsN F fun _ _ _ _ _ _ us hl => match us, hl with | [_, _], _ => rfl⟩
theorem ex_TooSoon (hh : Hh w K mg base h) : ExD P w K mg base "TooSoon" "moment" 1 := by
  obtain ⟨fd, F⟩ := fn_at hh 57 (d := di "TooSoon" 26 0) rfl
  obtain ⟨h1, h2, h3, h4, h5⟩ := exB_ok (exb_at hh (q := ("TooSoon", "moment")) (by decide +kernel))
  exact ⟨exb_at hh (q := ("TooSoon", "moment")) (by decide +kernel), gl_at hh 57 rfl, fd, ["self", "moment"], init_ok (sf := "self") (x := "moment") F h1 h3 ⟨rfl, rfl, rfl, by decide +kernel, rfl, by decide +kernel, by decide +kernel⟩ (by decide) (by decide) (by decide) (by decide) (fun _ => rfl), FunD.bindsN F fun _ _ _ _ _ _ us hl => match us, hl with | [_, _], _ => rfl⟩
end
end KX

set_option Elab.async false
set_option linter.all false
set_option maxRecDepth 100000
set_option maxHeartbeats 0
set_option autoImplicit false
namespace KX
open PySem PySem.Spec PyProof.Rows L2 TD
section
variable {P : Program} {w : World} {K : PySem.W.Frag} {mg : Str → Option Value} {base h : Heap} (hh : Hh w K mg base h)
include hh
omit hh in
theorem nd_is_list : (["thing"] : List Str).Nodup := by decide +kernel
omit hh in
theorem sc_is_list : FnScope ["thing"] ["thing"] (defScope (top 4)) := ⟨rfl, rfl, rfl, by decide +kernel, rfl, by decide +kernel, by decide +kernel⟩
theorem D_is_list : Def P w K mg base (TT K) "is_list" ["thing"] F_is_list 3 := def_of (k := 2) (N := ["thing"]) (m := m_is_list) (fn_is_list hh) (gl_is_list hh) sc_is_list (fun _ _ _ _ _ _ us hl => match us, hl with | [_], _ => rfl) fun A outer s H E hr =>
    (pbk_one (pst_ret (pd_isiT rfl (fr_isinstance hh) (pb_var rfl (.inl rfl)) (.cons rfl (fr_list hh) (by decide +kernel) (by decide) (by decide) rfl (.cons rfl (fr_tuple hh) (by decide +kernel) (by decide) (by decide) rfl .nil)))))
omit hh in
theorem nd_is_whole : (["thing"] : List Str).Nodup := by decide +kernel
omit hh in
theorem sc_is_whole : FnScope ["thing"] ["thing"] (defScope (top 5)) := ⟨rfl, rfl, rfl, by decide +kernel, rfl, by decide +kernel, by decide +kernel⟩
theorem D_is_whole : Def P w K mg base (TT K) "is_whole" ["thing"] F_is_whole 3 := def_of (k := 2) (N := ["thing"]) (m := m_is_whole) (fn_is_whole hh) (gl_is_whole hh) sc_is_whole (fun _ _ _ _ _ _ us hl => match us, hl with | [_], _ => rfl) fun A outer s H E hr =>
    (pbk_one (pst_ret (pd_and (pd_isi rfl (fr_isinstance hh) (pb_var rfl (.inl rfl)) rfl (fr_int hh) (by decide +kernel)) (pd_one (pd_not (pd_isi rfl (fr_isinstance hh) (pb_var rfl (.inl rfl)) rfl (fr_bool hh) (by decide +kernel)))))))
omit hh in
theorem nd_is_positive : (["thing"] : List Str).Nodup := by decide +kernel
omit hh in
theorem sc_is_positive : FnScope ["thing"] ["thing"] (defScope (top 6)) := ⟨rfl, rfl, rfl, by decide +kernel, rfl, by decide +kernel, by decide +kernel⟩
theorem D_is_positive : Def P w K mg base (TT K) "is_positive" ["thing"] F_is_positive 4 := def_of (k := 3) (N := ["thing"]) (m := m_is_positive) (fn_is_positive hh) (gl_is_positive hh) sc_is_positive (fun _ _ _ _ _ _ us hl => match us, hl with | [_], _ => rfl) fun A outer s H E hr =>
    (pbk_one (pst_ret (pd_and (pd_call (D_is_whole hh) (hr.mono (by decide)) takesD (pas_cons (pd_var rfl (.inl rfl)) pas_nil) (alen_cons alen_nil)) (pd_one (pd_cmp od_ge (pd_var rfl (.inl rfl)) pd_int)))))
omit hh in
theorem nd_lowest : (["top", "bottom", "common"] : List Str).Nodup := by decide +kernel
omit hh in
theorem sc_lowest : FnScope ["top", "bottom", "common"] ["top", "bottom"] (defScope (top 7)) := ⟨rfl, rfl, rfl, by decide +kernel, rfl, by decide +kernel, by decide +kernel⟩
theorem D_lowest : Def P w K mg base (TT K) "lowest" ["top", "bottom"] F_lowest 3 := def_of (k := 2) (N := ["top", "bottom", "common"]) (m := m_lowest) (fn_lowest hh) (gl_lowest hh) sc_lowest (fun _ _ _ _ _ _ us hl => match us, hl with | [_, _], _ => rfl) fun A outer s H E hr =>
    (pbk_cons (pst_set nd_lowest rfl (.inl rfl) (pd_bf cb_gcd rfl (gl_gcd hh) (pas_cons (pd_var rfl (.inl rfl)) (pas_cons (pd_var rfl (.inl rfl)) pas_nil))))
    (pbk_one (pst_ret (pd_tup (pas_cons (pd_bin od_fdiv (pd_var rfl (.inl rfl)) (pd_var rfl (.inl rfl))) (pas_cons (pd_bin od_fdiv (pd_var rfl (.inl rfl)) (pd_var rfl (.inl rfl))) pas_nil))))))
omit hh in
theorem nd_is_fraction : (["thing"] : List Str).Nodup := by decide +kernel
omit hh in
theorem sc_is_fraction : FnScope ["thing"] ["thing"] (defScope (top 8)) := ⟨rfl, rfl, rfl, by decide +kernel, rfl, by decide +kernel, by decide +kernel⟩
theorem D_is_fraction : Def P w K mg base (TT K) "is_fraction" ["thing"] F_is_fraction 5 := def_of (k := 4) (N := ["thing"]) (m := m_is_fraction) (fn_is_fraction hh) (gl_is_fraction hh) sc_is_fraction (fun _ _ _ _ _ _ us hl => match us, hl with | [_], _ => rfl) fun A outer s H E hr =>
    (pbk_one (pst_ret (pd_and (pd_call (D_is_list hh) (hr.mono (by decide)) takesD (pas_cons (pd_var rfl (.inl rfl)) pas_nil) (alen_cons alen_nil)) (pd_and (pd_cmp (od_eq (units_of hr)) (pd_b1 cb_len rfl (fr_len hh) (by decide +kernel) (pb_var rfl (.inl rfl))) pd_int) (pd_and (pd_call (D_is_whole hh) (hr.mono (by decide)) takesD (pas_cons (pd_ixV rfl (.inl rfl) pd_int) pas_nil) (alen_cons alen_nil)) (pd_one (pd_call (D_is_positive hh) (hr.mono (by decide)) takesD (pas_cons (pd_ixV rfl (.inl rfl) pd_int) pas_nil) (alen_cons alen_nil))))))))
omit hh in
theorem nd_is_heap : (["thing"] : List Str).Nodup := by decide +kernel
omit hh in
theorem sc_is_heap : FnScope ["thing"] ["thing"] (defScope (top 9)) := ⟨rfl, rfl, rfl, by decide +kernel, rfl, by decide +kernel, by decide +kernel⟩
theorem D_is_heap : Def P w K mg base (TT K) "is_heap" ["thing"] F_is_heap 6 := def_of (k := 5) (N := ["thing"]) (m := m_is_heap) (fn_is_heap hh) (gl_is_heap hh) sc_is_heap (fun _ _ _ _ _ _ us hl => match us, hl with | [_], _ => rfl) fun A outer s H E hr =>
    (pbk_one (pst_ret (pd_and (pd_call (D_is_fraction hh) (hr.mono (by decide)) takesD (pas_cons (pd_var rfl (.inl rfl)) pas_nil) (alen_cons alen_nil)) (pd_one (pd_cmp od_ge (pd_ixV rfl (.inl rfl) pd_int) pd_int)))))
omit hh in
theorem nd_told : (["thing"] : List Str).Nodup := by decide +kernel
omit hh in
theorem sc_told : FnScope ["thing"] ["thing"] (defScope (top 10)) := ⟨rfl, rfl, rfl, by decide +kernel, rfl, by decide +kernel, by decide +kernel⟩
theorem D_told : Def P w K mg base (TT K) "told" ["thing"] F_told 4 := def_of (k := 3) (N := ["thing"]) (m := m_told) (fn_told hh) (gl_told hh) sc_told (fun _ _ _ _ _ _ us hl => match us, hl with | [_], _ => rfl) fun A outer s H E hr =>
    (pbk_one (pst_ret (pd_call (D_lowest hh) (hr.mono (by decide)) takesD (pas_cons (pd_ixV rfl (.inl rfl) pd_int) (pas_cons (pd_ixV rfl (.inl rfl) pd_int) pas_nil)) (alen_cons (alen_cons alen_nil)))))
omit hh in
theorem nd_plus : (["one", "other"] : List Str).Nodup := by decide +kernel
omit hh in
theorem sc_plus : FnScope ["one", "other"] ["one", "other"] (defScope (top 11)) := ⟨rfl, rfl, rfl, by decide +kernel, rfl, by decide +kernel, by decide +kernel⟩
theorem D_plus : Def P w K mg base (TT K) "plus" ["one", "other"] F_plus 4 := def_of (k := 3) (N := ["one", "other"]) (m := m_plus) (fn_plus hh) (gl_plus hh) sc_plus (fun _ _ _ _ _ _ us hl => match us, hl with | [_, _], _ => rfl) fun A outer s H E hr =>
    (pbk_one (pst_ret (pd_call (D_lowest hh) (hr.mono (by decide)) takesD (pas_cons (pd_bin od_add (pd_bin od_mul (pd_ixV rfl (.inl rfl) pd_int) (pd_ixV rfl (.inl rfl) pd_int)) (pd_bin od_mul (pd_ixV rfl (.inl rfl) pd_int) (pd_ixV rfl (.inl rfl) pd_int))) (pas_cons (pd_bin od_mul (pd_ixV rfl (.inl rfl) pd_int) (pd_ixV rfl (.inl rfl) pd_int)) pas_nil)) (alen_cons (alen_cons alen_nil)))))
omit hh in
theorem nd_less : (["one", "other"] : List Str).Nodup := by decide +kernel
omit hh in
theorem sc_less : FnScope ["one", "other"] ["one", "other"] (defScope (top 12)) := ⟨rfl, rfl, rfl, by decide +kernel, rfl, by decide +kernel, by decide +kernel⟩
theorem D_less : Def P w K mg base (TT K) "less" ["one", "other"] F_less 4 := def_of (k := 3) (N := ["one", "other"]) (m := m_less) (fn_less hh) (gl_less hh) sc_less (fun _ _ _ _ _ _ us hl => match us, hl with | [_, _], _ => rfl) fun A outer s H E hr =>
    (pbk_one (pst_ret (pd_call (D_lowest hh) (hr.mono (by decide)) takesD (pas_cons (pd_bin od_sub (pd_bin od_mul (pd_ixV rfl (.inl rfl) pd_int) (pd_ixV rfl (.inl rfl) pd_int)) (pd_bin od_mul (pd_ixV rfl (.inl rfl) pd_int) (pd_ixV rfl (.inl rfl) pd_int))) (pas_cons (pd_bin od_mul (pd_ixV rfl (.inl rfl) pd_int) (pd_ixV rfl (.inl rfl) pd_int)) pas_nil)) (alen_cons (alen_cons alen_nil)))))
omit hh in
theorem nd_times : (["one", "other"] : List Str).Nodup := by decide +kernel
omit hh in
theorem sc_times : FnScope ["one", "other"] ["one", "other"] (defScope (top 13)) := ⟨rfl, rfl, rfl, by decide +kernel, rfl, by decide +kernel, by decide +kernel⟩
theorem D_times : Def P w K mg base (TT K) "times" ["one", "other"] F_times 4 := def_of (k := 3) (N := ["one", "other"]) (m := m_times) (fn_times hh) (gl_times hh) sc_times (fun _ _ _ _ _ _ us hl => match us, hl with | [_, _], _ => rfl) fun A outer s H E hr =>
    (pbk_one (pst_ret (pd_call (D_lowest hh) (hr.mono (by decide)) takesD (pas_cons (pd_bin od_mul (pd_ixV rfl (.inl rfl) pd_int) (pd_ixV rfl (.inl rfl) pd_int)) (pas_cons (pd_bin od_mul (pd_ixV rfl (.inl rfl) pd_int) (pd_ixV rfl (.inl rfl) pd_int)) pas_nil)) (alen_cons (alen_cons alen_nil)))))
omit hh in
theorem nd_parted : (["one", "other"] : List Str).Nodup := by decide +kernel
omit hh in
theorem sc_parted : FnScope ["one", "other"] ["one", "other"] (defScope (top 14)) := ⟨rfl, rfl, rfl, by decide +kernel, rfl, by decide +kernel, by decide +kernel⟩
theorem D_parted : Def P w K mg base (TT K) "parted" ["one", "other"] F_parted 4 := def_of (k := 3) (N := ["one", "other"]) (m := m_parted) (fn_parted hh) (gl_parted hh) sc_parted (fun _ _ _ _ _ _ us hl => match us, hl with | [_, _], _ => rfl) fun A outer s H E hr =>
    (pbk_cons (pst_if (pc_cmp od_lt (pd_ixV rfl (.inl rfl) pd_int) pd_int) (pbk_one (pst_ret (pd_call (D_lowest hh) (hr.mono (by decide)) takesD (pas_cons (pd_bin od_sub pd_int (pd_bin od_mul (pd_ixV rfl (.inl rfl) pd_int) (pd_ixV rfl (.inl rfl) pd_int))) (pas_cons (pd_bin od_sub pd_int (pd_bin od_mul (pd_ixV rfl (.inl rfl) pd_int) (pd_ixV rfl (.inl rfl) pd_int))) pas_nil)) (alen_cons (alen_cons alen_nil))))) pbk_nil)
    (pbk_one (pst_ret (pd_call (D_lowest hh) (hr.mono (by decide)) takesD (pas_cons (pd_bin od_mul (pd_ixV rfl (.inl rfl) pd_int) (pd_ixV rfl (.inl rfl) pd_int)) (pas_cons (pd_bin od_mul (pd_ixV rfl (.inl rfl) pd_int) (pd_ixV rfl (.inl rfl) pd_int)) pas_nil)) (alen_cons (alen_cons alen_nil))))))
omit hh in
theorem nd_is_below : (["one", "other"] : List Str).Nodup := by decide +kernel
omit hh in
theorem sc_is_below : FnScope ["one", "other"] ["one", "other"] (defScope (top 15)) := ⟨rfl, rfl, rfl, by decide +kernel, rfl, by decide +kernel, by decide +kernel⟩
theorem D_is_below : Def P w K mg base (TT K) "is_below" ["one", "other"] F_is_below 3 := def_of (k := 2) (N := ["one", "other"]) (m := m_is_below) (fn_is_below hh) (gl_is_below hh) sc_is_below (fun _ _ _ _ _ _ us hl => match us, hl with | [_, _], _ => rfl) fun A outer s H E hr =>
    (pbk_one (pst_ret (pd_cmp od_lt (pd_bin od_mul (pd_ixV rfl (.inl rfl) pd_int) (pd_ixV rfl (.inl rfl) pd_int)) (pd_bin od_mul (pd_ixV rfl (.inl rfl) pd_int) (pd_ixV rfl (.inl rfl) pd_int)))))
omit hh in
theorem nd_least : (["things", "found", "thing"] : List Str).Nodup := by decide +kernel
omit hh in
theorem sc_least : FnScope ["things", "found", "thing"] ["things"] (defScope (top 16)) := ⟨rfl, rfl, rfl, by decide +kernel, rfl, by decide +kernel, by decide +kernel⟩
theorem D_least : Def P w K mg base (TT K) "least" ["things"] F_least 4 := def_of (k := 3) (N := ["things", "found", "thing"]) (m := m_least) (fn_least hh) (gl_least hh) sc_least (fun _ _ _ _ _ _ us hl => match us, hl with | [_], _ => rfl) fun A outer s H E hr =>
    (pbk_cons (pst_set nd_least rfl (.inl rfl) (pd_ixV rfl (.inl rfl) pd_int))
    (pbk_cons (pst_for passesD rfl (pit_seq (pd_var rfl (.inl rfl))) (pg_nm nd_least rfl (.inl rfl)) (pbk_one (pst_set nd_least rfl (.inl rfl) (pd_if (pc_val (pd_call (D_is_below hh) (hr.mono (by decide)) takesD (pas_cons (pd_var rfl (.inl rfl)) (pas_cons (pd_var rfl (.inl rfl)) pas_nil)) (alen_cons (alen_cons alen_nil)))) (pd_var rfl (.inl rfl)) (pd_var rfl (.inl rfl))))))
    (pbk_one (pst_ret (pd_move rfl (.inl rfl))))))
omit hh in
theorem nd_greatest : (["things", "found", "thing"] : List Str).Nodup := by decide +kernel
omit hh in
theorem sc_greatest : FnScope ["things", "found", "thing"] ["things"] (defScope (top 17)) := ⟨rfl, rfl, rfl, by decide +kernel, rfl, by decide +kernel, by decide +kernel⟩
theorem D_greatest : Def P w K mg base (TT K) "greatest" ["things"] F_greatest 4 := def_of (k := 3) (N := ["things", "found", "thing"]) (m := m_greatest) (fn_greatest hh) (gl_greatest hh) sc_greatest (fun _ _ _ _ _ _ us hl => match us, hl with | [_], _ => rfl) fun A outer s H E hr =>
    (pbk_cons (pst_set nd_greatest rfl (.inl rfl) (pd_ixV rfl (.inl rfl) pd_int))
    (pbk_cons (pst_for passesD rfl (pit_seq (pd_var rfl (.inl rfl))) (pg_nm nd_greatest rfl (.inl rfl)) (pbk_one (pst_set nd_greatest rfl (.inl rfl) (pd_if (pc_val (pd_call (D_is_below hh) (hr.mono (by decide)) takesD (pas_cons (pd_var rfl (.inl rfl)) (pas_cons (pd_var rfl (.inl rfl)) pas_nil)) (alen_cons (alen_cons alen_nil)))) (pd_var rfl (.inl rfl)) (pd_var rfl (.inl rfl))))))
    (pbk_one (pst_ret (pd_move rfl (.inl rfl))))))
omit hh in
theorem nd_sum_of : (["things", "found", "thing"] : List Str).Nodup := by decide +kernel
omit hh in
theorem sc_sum_of : FnScope ["things", "found", "thing"] ["things"] (defScope (top 18)) := ⟨rfl, rfl, rfl, by decide +kernel, rfl, by decide +kernel, by decide +kernel⟩
theorem D_sum_of : Def P w K mg base (TT K) "sum_of" ["things"] F_sum_of 5 := def_of (k := 4) (N := ["things", "found", "thing"]) (m := m_sum_of) (fn_sum_of hh) (gl_sum_of hh) sc_sum_of (fun _ _ _ _ _ _ us hl => match us, hl with | [_], _ => rfl) fun A outer s H E hr =>
    (pbk_cons (pst_set nd_sum_of rfl (.inl rfl) (pd_tup (pas_cons pd_int (pas_cons pd_int pas_nil))))
    (pbk_cons (pst_for passesD rfl (pit_seq (pd_var rfl (.inl rfl))) (pg_nm nd_sum_of rfl (.inl rfl)) (pbk_one (pst_set nd_sum_of rfl (.inl rfl) (pd_call (D_plus hh) (hr.mono (by decide)) takesD (pas_cons (pd_var rfl (.inl rfl)) (pas_cons (pd_var rfl (.inl rfl)) pas_nil)) (alen_cons (alen_cons alen_nil))))))
    (pbk_one (pst_ret (pd_move rfl (.inl rfl))))))
omit hh in
theorem nd_in_order : (["things", "common", "thing"] : List Str).Nodup := by decide +kernel
omit hh in
theorem sc_in_order : FnScope ["things", "common", "thing"] ["things"] (defScope (top 19)) := ⟨rfl, rfl, rfl, by decide +kernel, rfl, by decide +kernel, by decide +kernel⟩
theorem D_in_order : Def P w K mg base (TT K) "in_order" ["things"] F_in_order 4 := def_of (k := 3) (N := ["things", "common", "thing"]) (m := m_in_order) (fn_in_order hh) (gl_in_order hh) sc_in_order (fun _ _ _ _ _ _ us hl => match us, hl with | [_], _ => rfl) fun A outer s H E hr =>
    (pbk_cons (pst_set nd_in_order rfl (.inr rfl) pd_int)
    (pbk_cons (pst_for passesD rfl (pit_seq (pd_var rfl (.inl rfl))) (pg_nm nd_in_order rfl (.inl rfl)) (pbk_one (pst_set nd_in_order rfl (.inr rfl) (pd_bin od_fdiv (pd_bin od_mul (pd_var rfl (.inr (.inl rfl))) (pd_ixV rfl (.inl rfl) pd_int)) (pd_bf cb_gcd rfl (gl_gcd hh) (pas_cons (pd_var rfl (.inr (.inl rfl))) (pas_cons (pd_ixV rfl (.inl rfl) pd_int) pas_nil)))))))
    (pbk_one (pst_ret (pd_sortFr (nT := "thing") (nC := "common") rfl (fr_sorted hh) (by decide +kernel) (pd_var rfl (.inl rfl)) rfl (tb_in_order hh) rfl tm_in_order (tu_in_order hh) (hr.mono (by decide)) rfl rfl rfl rfl (by decide +kernel) rfl rfl (show ∀ y ∈ (_ : Scope).names, y.2 = .free → (defScope (top 19)).names.lookup y.1 = some .cell by decide +kernel) (fun _ _ _ _ _ _ => rfl))))))
omit hh in
theorem nd_check_road : (["room", "length"] : List Str).Nodup := by decide +kernel
omit hh in
theorem sc_check_road : FnScope ["room", "length"] ["room", "length"] (defScope (top 28)) := ⟨rfl, rfl, rfl, by decide +kernel, rfl, by decide +kernel, by decide +kernel⟩
theorem D_check_road : Def P w K mg base (TT K) "check_road" ["room", "length"] F_check_road 5 := def_of (k := 4) (N := ["room", "length"]) (m := m_check_road) (fn_check_road hh) (gl_check_road hh) sc_check_road (fun _ _ _ _ _ _ us hl => match us, hl with | [_, _], _ => rfl) fun A outer s H E hr =>
    (pbk_cons (pst_if (pc_not (pc_val (pd_call (D_is_positive hh) (hr.mono (by decide)) takesD (pas_cons (pd_var rfl (.inl rfl)) pas_nil) (alen_cons alen_nil)))) (pbk_one (pst_raise rfl (ex_BadRoom hh) (hr.mono (by decide)) takesD (pd_var rfl (.inl rfl)))) pbk_nil)
    (pbk_one (pst_if (pc_not (pc_val (pd_call (D_is_positive hh) (hr.mono (by decide)) takesD (pas_cons (pd_var rfl (.inl rfl)) pas_nil) (alen_cons alen_nil)))) (pbk_one (pst_raise rfl (ex_BadLength hh) (hr.mono (by decide)) takesD (pd_var rfl (.inl rfl)))) pbk_nil)))
omit hh in
theorem nd_is_wish : (["thing"] : List Str).Nodup := by decide +kernel
omit hh in
theorem sc_is_wish : FnScope ["thing"] ["thing"] (defScope (top 29)) := ⟨rfl, rfl, rfl, by decide +kernel, rfl, by decide +kernel, by decide +kernel⟩
theorem D_is_wish : Def P w K mg base (TT K) "is_wish" ["thing"] F_is_wish 7 := def_of (k := 6) (N := ["thing"]) (m := m_is_wish) (fn_is_wish hh) (gl_is_wish hh) sc_is_wish (fun _ _ _ _ _ _ us hl => match us, hl with | [_], _ => rfl) fun A outer s H E hr =>
    (pbk_one (pst_ret (pd_and (pd_call (D_is_list hh) (hr.mono (by decide)) takesD (pas_cons (pd_var rfl (.inl rfl)) pas_nil) (alen_cons alen_nil)) (pd_and (pd_cmp (od_eq (units_of hr)) (pd_b1 cb_len rfl (fr_len hh) (by decide +kernel) (pb_var rfl (.inl rfl))) pd_int) (pd_and (pd_call (D_is_heap hh) (hr.mono (by decide)) takesD (pas_cons (pd_ixV rfl (.inl rfl) pd_int) pas_nil) (alen_cons alen_nil)) (pd_and (pd_call (D_is_heap hh) (hr.mono (by decide)) takesD (pas_cons (pd_ixV rfl (.inl rfl) pd_int) pas_nil) (alen_cons alen_nil)) (pd_one (pd_cmp od_gt (pd_ix (pd_ixV rfl (.inl rfl) pd_int) pd_int) pd_int))))))))
omit hh in
theorem nd_checked_wishes : (["wishes", "found", "index", "thing"] : List Str).Nodup := by decide +kernel
omit hh in
theorem sc_checked_wishes : FnScope ["wishes", "found", "index", "thing"] ["wishes"] (defScope (top 30)) := ⟨rfl, rfl, rfl, by decide +kernel, rfl, by decide +kernel, by decide +kernel⟩
theorem D_checked_wishes : Def P w K mg base (TT K) "checked_wishes" ["wishes"] F_checked_wishes 8 := def_of (k := 7) (N := ["wishes", "found", "index", "thing"]) (m := m_checked_wishes) (fn_checked_wishes hh) (gl_checked_wishes hh) sc_checked_wishes (fun _ _ _ _ _ _ us hl => match us, hl with | [_], _ => rfl) fun A outer s H E hr =>
    (pbk_cons (pst_if (pc_pw (pw_orM (pc_not (pc_val (pd_call (D_is_list hh) (hr.mono (by decide)) takesD (pas_cons (pd_var rfl (.inl rfl)) pas_nil) (alen_cons alen_nil)))) (pw_one (pc_cmp (od_eq (units_of hr)) (pd_b1 cb_len rfl (fr_len hh) (by decide +kernel) (pb_var rfl (.inl rfl))) pd_int)))) (pbk_one (pst_raise rfl (ex_BadWishes hh) (hr.mono (by decide)) takesD pd_int)) pbk_nil)
    (pbk_cons (pst_set nd_checked_wishes rfl (.inl rfl) (pd_lst pas_nil))
    (pbk_cons (pst_for passesD rfl (pit_enum rfl (fr_enumerate hh) (pas_cons (pd_var rfl (.inl rfl)) pas_nil)) (pg_tp rfl (pgts_cons (pg_nm nd_checked_wishes rfl (.inl rfl)) (pgts_cons (pg_nm nd_checked_wishes rfl (.inl rfl)) pgts_nil))) (pbk_cons (pst_if (pc_pw (pw_orM (pc_not (pc_val (pd_call (D_is_wish hh) (hr.mono (by decide)) takesD (pas_cons (pd_var rfl (.inl rfl)) pas_nil) (alen_cons alen_nil)))) (pw_one (pc_pw (pw_andM (pc_truth (pb_var rfl (.inl rfl))) (pw_one (pc_not (pc_val (pd_call (D_is_below hh) (hr.mono (by decide)) takesD (pas_cons (pd_ix (pd_ixV rfl (.inl rfl) (pd_neg pd_int)) pd_int) (pas_cons (pd_ixV rfl (.inl rfl) pd_int) pas_nil)) (alen_cons (alen_cons alen_nil))))))))))) (pbk_one (pst_raise rfl (ex_BadWishes hh) (hr.mono (by decide)) takesD (pd_var rfl (.inl rfl)))) pbk_nil)
    (pbk_one (pst_expr (pd_mS md_app PySem.F.plainAttrs_list PySem.F.slot_list_append PySem.F.type_list_append rfl (.inl rfl) (pas_cons (pd_tup (pas_cons (pd_call (D_told hh) (hr.mono (by decide)) takesD (pas_cons (pd_ixV rfl (.inl rfl) pd_int) pas_nil) (alen_cons alen_nil)) (pas_cons (pd_call (D_told hh) (hr.mono (by decide)) takesD (pas_cons (pd_ixV rfl (.inl rfl) pd_int) pas_nil) (alen_cons alen_nil)) pas_nil))) pas_nil))))))
    (pbk_one (pst_ret (pd_move rfl (.inl rfl)))))))
omit hh in
theorem nd_checked_troubles : (["early", "late"] : List Str).Nodup := by decide +kernel
omit hh in
theorem sc_checked_troubles : FnScope ["early", "late"] ["early", "late"] (defScope (top 31)) := ⟨rfl, rfl, rfl, by decide +kernel, rfl, by decide +kernel, by decide +kernel⟩
theorem D_checked_troubles : Def P w K mg base (TT K) "checked_troubles" ["early", "late"] F_checked_troubles 6 := def_of (k := 5) (N := ["early", "late"]) (m := m_checked_troubles) (fn_checked_troubles hh) (gl_checked_troubles hh) sc_checked_troubles (fun _ _ _ _ _ _ us hl => match us, hl with | [_, _], _ => rfl) fun A outer s H E hr =>
    (pbk_cons (pst_if (pc_pw (pw_orM (pc_not (pc_val (pd_call (D_is_fraction hh) (hr.mono (by decide)) takesD (pas_cons (pd_var rfl (.inl rfl)) pas_nil) (alen_cons alen_nil)))) (pw_orM (pc_cmp od_le (pd_ixV rfl (.inl rfl) pd_int) pd_int) (pw_one (pc_cmp od_ge (pd_ixV rfl (.inl rfl) pd_int) (pd_ixV rfl (.inl rfl) pd_int)))))) (pbk_one (pst_raise rfl (ex_BadEarly hh) (hr.mono (by decide)) takesD (pd_var rfl (.inl rfl)))) pbk_nil)
    (pbk_cons (pst_if (pc_pw (pw_orM (pc_not (pc_val (pd_call (D_is_fraction hh) (hr.mono (by decide)) takesD (pas_cons (pd_var rfl (.inl rfl)) pas_nil) (alen_cons alen_nil)))) (pw_one (pc_cmp od_le (pd_ixV rfl (.inl rfl) pd_int) pd_int)))) (pbk_one (pst_raise rfl (ex_BadLate hh) (hr.mono (by decide)) takesD (pd_var rfl (.inl rfl)))) pbk_nil)
    (pbk_one (pst_ret (pd_tup (pas_cons (pd_call (D_told hh) (hr.mono (by decide)) takesD (pas_cons (pd_var rfl (.inl rfl)) pas_nil) (alen_cons alen_nil)) (pas_cons (pd_call (D_told hh) (hr.mono (by decide)) takesD (pas_cons (pd_var rfl (.inl rfl)) pas_nil) (alen_cons alen_nil)) pas_nil)))))))
omit hh in
theorem nd_spans_of : (["room", "wishes", "moment", "heap"] : List Str).Nodup := by decide +kernel
omit hh in
theorem sc_spans_of : FnScope ["room", "wishes", "moment", "heap"] ["room", "wishes"] (defScope (top 32)) := ⟨rfl, rfl, rfl, by decide +kernel, rfl, by decide +kernel, by decide +kernel⟩
theorem D_spans_of : Def P w K mg base (TT K) "spans_of" ["room", "wishes"] F_spans_of 5 := def_of (k := 4) (N := ["room", "wishes", "moment", "heap"]) (m := m_spans_of) (fn_spans_of hh) (gl_spans_of hh) sc_spans_of (fun _ _ _ _ _ _ us hl => match us, hl with | [_, _], _ => rfl) fun A outer s H E hr =>
    (pbk_one (pst_ret (pd_lc (own := [("moment", 2), ("heap", 3)]) rfl nd_spans_of (pit_seq (pd_var rfl (.inl rfl))) (blkOk_by (show blkC ["room", "wishes", "moment", "heap"] (defScope (top 32)) _ _ = true by decide +kernel)) (by decide) (fun _ _ _ _ _ => (pg_tp rfl (pgts_cons (pg_nm nd_spans_of rfl (.inl rfl)) (pgts_cons (pg_nm nd_spans_of rfl (.inl rfl)) pgts_nil)))) (fun _ _ _ _ _ => ptst_nil) (fun _ _ _ _ _ => (pd_call (D_parted hh) (hr.mono (by decide)) TD.takes0 (pas_cons (pd_var rfl (.inl rfl)) (pas_cons (pd_tup (pas_cons (pd_var rfl (.inr (.inl rfl))) (pas_cons pd_int pas_nil))) pas_nil)) (alen_cons (alen_cons alen_nil)))))))
omit hh in
theorem nd_offsets_of : (["spans", "at"] : List Str).Nodup := by decide +kernel
omit hh in
theorem sc_offsets_of : FnScope ["spans", "at"] ["spans"] (defScope (top 33)) := ⟨rfl, rfl, rfl, by decide +kernel, rfl, by decide +kernel, by decide +kernel⟩
theorem D_offsets_of : Def P w K mg base (TT K) "offsets_of" ["spans"] F_offsets_of 6 := def_of (k := 5) (N := ["spans", "at"]) (m := m_offsets_of) (fn_offsets_of hh) (gl_offsets_of hh) sc_offsets_of (fun _ _ _ _ _ _ us hl => match us, hl with | [_], _ => rfl) fun A outer s H E hr =>
    (pbk_one (pst_ret (pd_lc (own := [("at", 1)]) rfl nd_offsets_of (pit_range1 rfl (fr_range hh) (pas_cons (pd_b1 cb_len rfl (fr_len hh) (by decide +kernel) (pb_var rfl (.inr (.inl rfl)))) pas_nil)) (blkOk_by (show blkC ["spans", "at"] (defScope (top 33)) _ _ = true by decide +kernel)) (by decide) (fun _ _ _ _ _ => (pg_nm nd_offsets_of rfl (.inl rfl))) (fun _ _ _ _ _ => ptst_nil) (fun _ _ _ _ _ => (pd_call (D_sum_of hh) (hr.mono (by decide)) TD.takes0 (pas_cons (pd_slV rfl (.inr (.inl rfl)) pp_none (pp_some (pd_var rfl (.inl rfl)))) pas_nil) (alen_cons alen_nil))))))
omit hh in
theorem nd_early_beats : (["some", "spans", "begin", "found", "moment", "heap", "span", "offset", "beats"] : List Str).Nodup := by decide +kernel
omit hh in
theorem sc_early_beats : FnScope ["some", "spans", "begin", "found", "moment", "heap", "span", "offset", "beats"] ["some", "spans", "begin"] (defScope (top 34)) := ⟨rfl, rfl, rfl, by decide +kernel, rfl, by decide +kernel, by decide +kernel⟩
theorem D_early_beats : Def P w K mg base (TT K) "early_beats" ["some", "spans", "begin"] F_early_beats 7 := def_of (k := 6) (N := ["some", "spans", "begin", "found", "moment", "heap", "span", "offset", "beats"]) (m := m_early_beats) (fn_early_beats hh) (gl_early_beats hh) sc_early_beats (fun _ _ _ _ _ _ us hl => match us, hl with | [_, _, _], _ => rfl) fun A outer s H E hr =>
    (pbk_cons (pst_set nd_early_beats rfl (.inl rfl) (pd_tup (pas_cons pd_int (pas_cons pd_int pas_nil))))
    (pbk_cons (pst_for passesD rfl (pit_zip3 rfl (fr_zip hh) (pas_cons (pd_var rfl (.inl rfl)) (pas_cons (pd_var rfl (.inl rfl)) (pas_cons (pd_call (D_offsets_of hh) (hr.mono (by decide)) takesD (pas_cons (pd_var rfl (.inl rfl)) pas_nil) (alen_cons alen_nil)) pas_nil)))) (pg_tp rfl (pgts_cons (pg_tp rfl (pgts_cons (pg_nm nd_early_beats rfl (.inl rfl)) (pgts_cons (pg_nm nd_early_beats rfl (.inl rfl)) pgts_nil))) (pgts_cons (pg_nm nd_early_beats rfl (.inl rfl)) (pgts_cons (pg_nm nd_early_beats rfl (.inl rfl)) pgts_nil)))) (pbk_cons (pst_set nd_early_beats rfl (.inl rfl) (pd_call (D_less hh) (hr.mono (by decide)) takesD (pas_cons (pd_var rfl (.inl rfl)) (pas_cons (pd_call (D_plus hh) (hr.mono (by decide)) takesD (pas_cons (pd_var rfl (.inl rfl)) (pas_cons (pd_var rfl (.inl rfl)) pas_nil)) (alen_cons (alen_cons alen_nil))) pas_nil)) (alen_cons (alen_cons alen_nil))))
    (pbk_one (pst_set nd_early_beats rfl (.inl rfl) (pd_call (D_plus hh) (hr.mono (by decide)) takesD (pas_cons (pd_var rfl (.inl rfl)) (pas_cons (pd_call (D_greatest hh) (hr.mono (by decide)) takesD (pas_cons (pd_lst (pas_cons (pd_tup (pas_cons pd_int (pas_cons pd_int pas_nil))) (pas_cons (pd_call (D_least hh) (hr.mono (by decide)) takesD (pas_cons (pd_lst (pas_cons (pd_var rfl (.inl rfl)) (pas_cons (pd_var rfl (.inl rfl)) pas_nil))) pas_nil) (alen_cons alen_nil)) pas_nil))) pas_nil) (alen_cons alen_nil)) pas_nil)) (alen_cons (alen_cons alen_nil)))))))
    (pbk_one (pst_ret (pd_move rfl (.inl rfl))))))
omit hh in
theorem nd_begin_of : (["some", "spans", "early", "late", "wanted", "points", "moment", "heap", "span", "offset", "later", "one", "other", "mine", "theirs", "part"] : List Str).Nodup := by decide +kernel
omit hh in
theorem sc_begin_of : FnScope ["some", "spans", "early", "late", "wanted", "points", "moment", "heap", "span", "offset", "later", "one", "other", "mine", "theirs", "part"] ["some", "spans", "early", "late"] (defScope (top 35)) := ⟨rfl, rfl, rfl, by decide +kernel, rfl, by decide +kernel, by decide +kernel⟩
theorem D_begin_of : Def P w K mg base (TT K) "begin_of" ["some", "spans", "early", "late"] F_begin_of 8 := def_of (k := 7) (N := ["some", "spans", "early", "late", "wanted", "points", "moment", "heap", "span", "offset", "later", "one", "other", "mine", "theirs", "part"]) (m := m_begin_of) (fn_begin_of hh) (gl_begin_of hh) sc_begin_of (fun _ _ _ _ _ _ us hl => match us, hl with | [_, _, _, _], _ => rfl) fun A outer s H E hr =>
    (pbk_cons (pst_set nd_begin_of rfl (.inl rfl) (pd_call (D_times hh) (hr.mono (by decide)) takesD (pas_cons (pd_call (D_parted hh) (hr.mono (by decide)) takesD (pas_cons (pd_var rfl (.inl rfl)) (pas_cons (pd_call (D_plus hh) (hr.mono (by decide)) takesD (pas_cons (pd_var rfl (.inl rfl)) (pas_cons (pd_var rfl (.inl rfl)) pas_nil)) (alen_cons (alen_cons alen_nil))) pas_nil)) (alen_cons (alen_cons alen_nil))) (pas_cons (pd_call (D_sum_of hh) (hr.mono (by decide)) takesD (pas_cons (pd_var rfl (.inl rfl)) pas_nil) (alen_cons alen_nil)) pas_nil)) (alen_cons (alen_cons alen_nil))))
    (pbk_cons (pst_set nd_begin_of rfl (.inl rfl) (pd_lst pas_nil))
    (pbk_cons (pst_for passesD rfl (pit_zip3 rfl (fr_zip hh) (pas_cons (pd_var rfl (.inl rfl)) (pas_cons (pd_var rfl (.inl rfl)) (pas_cons (pd_call (D_offsets_of hh) (hr.mono (by decide)) takesD (pas_cons (pd_var rfl (.inl rfl)) pas_nil) (alen_cons alen_nil)) pas_nil)))) (pg_tp rfl (pgts_cons (pg_tp rfl (pgts_cons (pg_nm nd_begin_of rfl (.inl rfl)) (pgts_cons (pg_nm nd_begin_of rfl (.inl rfl)) pgts_nil))) (pgts_cons (pg_nm nd_begin_of rfl (.inl rfl)) (pgts_cons (pg_nm nd_begin_of rfl (.inl rfl)) pgts_nil)))) (pbk_one (pst_expr (pd_mS md_ext PySem.F.plainAttrs_list PySem.F.slot_list_extend PySem.F.type_list_extend rfl (.inl rfl) (pas_cons (pd_lst (pas_cons (pd_call (D_less hh) (hr.mono (by decide)) takesD (pas_cons (pd_var rfl (.inl rfl)) (pas_cons (pd_var rfl (.inl rfl)) pas_nil)) (alen_cons (alen_cons alen_nil))) (pas_cons (pd_call (D_less hh) (hr.mono (by decide)) takesD (pas_cons (pd_call (D_less hh) (hr.mono (by decide)) takesD (pas_cons (pd_var rfl (.inl rfl)) (pas_cons (pd_var rfl (.inl rfl)) pas_nil)) (alen_cons (alen_cons alen_nil))) (pas_cons (pd_var rfl (.inl rfl)) pas_nil)) (alen_cons (alen_cons alen_nil))) pas_nil))) pas_nil)))))
    (pbk_cons (pst_set nd_begin_of rfl (.inl rfl) (pd_rev (pb_of (pd_call (D_in_order hh) (hr.mono (by decide)) takesD (pas_cons (pd_var rfl (.inl rfl)) pas_nil) (alen_cons alen_nil)))))
    (pbk_cons (pst_for passesD rfl (pit_zip2 rfl (fr_zip hh) (pas_cons (pd_var rfl (.inl rfl)) (pas_cons (pd_slV rfl (.inl rfl) (pp_some pd_int) pp_none) pas_nil))) (pg_tp rfl (pgts_cons (pg_nm nd_begin_of rfl (.inl rfl)) (pgts_cons (pg_nm nd_begin_of rfl (.inl rfl)) pgts_nil))) (pbk_cons (pst_parF rfl nd_begin_of rfl rfl (by decide) rfl rfl (pd_call (D_early_beats hh) (hr.mono (by decide)) takesD (pas_cons (pd_var rfl (.inl rfl)) (pas_cons (pd_var rfl (.inl rfl)) (pas_cons (pd_var rfl (.inl rfl)) pas_nil))) (alen_cons (alen_cons (alen_cons alen_nil)))) (pd_call (D_early_beats hh) (hr.mono (by decide)) takesD (pas_cons (pd_var rfl (.inl rfl)) (pas_cons (pd_var rfl (.inl rfl)) (pas_cons (pd_var rfl (.inl rfl)) pas_nil))) (alen_cons (alen_cons (alen_cons alen_nil)))) rfl)
    (pbk_one (pst_if (pc_pw (pw_andM (pc_val (pd_call (D_is_below hh) (hr.mono (by decide)) takesD (pas_cons (pd_var rfl (.inl rfl)) (pas_cons (pd_var rfl (.inl rfl)) pas_nil)) (alen_cons (alen_cons alen_nil)))) (pw_one (pc_not (pc_val (pd_call (D_is_below hh) (hr.mono (by decide)) takesD (pas_cons (pd_var rfl (.inl rfl)) (pas_cons (pd_var rfl (.inl rfl)) pas_nil)) (alen_cons (alen_cons alen_nil)))))))) (pbk_cons (pst_set nd_begin_of rfl (.inl rfl) (pd_call (D_parted hh) (hr.mono (by decide)) takesD (pas_cons (pd_call (D_less hh) (hr.mono (by decide)) takesD (pas_cons (pd_var rfl (.inl rfl)) (pas_cons (pd_var rfl (.inl rfl)) pas_nil)) (alen_cons (alen_cons alen_nil))) (pas_cons (pd_call (D_less hh) (hr.mono (by decide)) takesD (pas_cons (pd_var rfl (.inl rfl)) (pas_cons (pd_var rfl (.inl rfl)) pas_nil)) (alen_cons (alen_cons alen_nil))) pas_nil)) (alen_cons (alen_cons alen_nil))))
    (pbk_one (pst_ret (pd_call (D_less hh) (hr.mono (by decide)) takesD (pas_cons (pd_var rfl (.inl rfl)) (pas_cons (pd_call (D_times hh) (hr.mono (by decide)) takesD (pas_cons (pd_var rfl (.inl rfl)) (pas_cons (pd_call (D_less hh) (hr.mono (by decide)) takesD (pas_cons (pd_var rfl (.inl rfl)) (pas_cons (pd_var rfl (.inl rfl)) pas_nil)) (alen_cons (alen_cons alen_nil))) pas_nil)) (alen_cons (alen_cons alen_nil))) pas_nil)) (alen_cons (alen_cons alen_nil)))))) pbk_nil))))
    (pbk_one (pst_ret (pd_ixV rfl (.inl rfl) pd_int))))))))
omit hh in
theorem nd_blocks_of : (["room", "wishes", "early", "late", "spans", "found", "at", "first", "begin"] : List Str).Nodup := by decide +kernel
omit hh in
theorem sc_blocks_of : FnScope ["room", "wishes", "early", "late", "spans", "found", "at", "first", "begin"] ["room", "wishes", "early", "late"] (defScope (top 36)) := ⟨rfl, rfl, rfl, by decide +kernel, rfl, by decide +kernel, by decide +kernel⟩
theorem D_blocks_of : Def P w K mg base (TT K) "blocks_of" ["room", "wishes", "early", "late"] F_blocks_of 9 := def_of (k := 8) (N := ["room", "wishes", "early", "late", "spans", "found", "at", "first", "begin"]) (m := m_blocks_of) (fn_blocks_of hh) (gl_blocks_of hh) sc_blocks_of (fun _ _ _ _ _ _ us hl => match us, hl with | [_, _, _, _], _ => rfl) fun A outer s H E hr =>
    (pbk_cons (pst_parF rfl nd_blocks_of rfl rfl (by decide) rfl rfl (pd_call (D_spans_of hh) (hr.mono (by decide)) takesD (pas_cons (pd_var rfl (.inl rfl)) (pas_cons (pd_var rfl (.inl rfl)) pas_nil)) (alen_cons (alen_cons alen_nil))) (pd_lst pas_nil) rfl)
    (pbk_cons (pst_for passesD rfl (pit_range1 rfl (fr_range hh) (pas_cons (pd_b1 cb_len rfl (fr_len hh) (by decide +kernel) (pb_var rfl (.inl rfl))) pas_nil)) (pg_nm nd_blocks_of rfl (.inl rfl)) (pbk_cons (pst_set nd_blocks_of rfl (.inl rfl) (pd_var rfl (.inl rfl)))
    (pbk_cons (pst_set nd_blocks_of rfl (.inl rfl) (pd_call (D_begin_of hh) (hr.mono (by decide)) takesD (pas_cons (pd_slV rfl (.inl rfl) (pp_some (pd_var rfl (.inl rfl))) (pp_some (pd_bin od_add (pd_var rfl (.inl rfl)) pd_int))) (pas_cons (pd_slV rfl (.inl rfl) (pp_some (pd_var rfl (.inl rfl))) (pp_some (pd_bin od_add (pd_var rfl (.inl rfl)) pd_int))) (pas_cons (pd_var rfl (.inl rfl)) (pas_cons (pd_var rfl (.inl rfl)) pas_nil)))) (alen_cons (alen_cons (alen_cons (alen_cons alen_nil))))))
    (pbk_cons (pst_while (fuLen 5) passesD (pc_pw (pw_andM (pc_truth (pb_var rfl (.inl rfl))) (pw_one (pc_not (pc_val (pd_call (D_is_below hh) (hr.mono (by decide)) takesD (pas_cons (pd_ix (pd_ixV rfl (.inl rfl) (pd_neg pd_int)) pd_int) (pas_cons (pd_var rfl (.inl rfl)) pas_nil)) (alen_cons (alen_cons alen_nil)))))))) (pbk_cons (pst_set nd_blocks_of rfl (.inl rfl) (pd_ix (pd_mS0 md_pop PySem.F.plainAttrs_list PySem.F.slot_list_pop PySem.F.type_list_pop rfl (.inl rfl)) pd_int))
    (pbk_one (pst_set nd_blocks_of rfl (.inl rfl) (pd_call (D_begin_of hh) (hr.mono (by decide)) takesD (pas_cons (pd_slV rfl (.inl rfl) (pp_some (pd_var rfl (.inl rfl))) (pp_some (pd_bin od_add (pd_var rfl (.inl rfl)) pd_int))) (pas_cons (pd_slV rfl (.inl rfl) (pp_some (pd_var rfl (.inl rfl))) (pp_some (pd_bin od_add (pd_var rfl (.inl rfl)) pd_int))) (pas_cons (pd_var rfl (.inl rfl)) (pas_cons (pd_var rfl (.inl rfl)) pas_nil)))) (alen_cons (alen_cons (alen_cons (alen_cons alen_nil)))))))))
    (pbk_one (pst_expr (pd_mS md_app PySem.F.plainAttrs_list PySem.F.slot_list_append PySem.F.type_list_append rfl (.inl rfl) (pas_cons (pd_tup (pas_cons (pd_var rfl (.inl rfl)) (pas_cons (pd_call (D_plus hh) (hr.mono (by decide)) takesD (pas_cons (pd_var rfl (.inl rfl)) (pas_cons (pd_call (D_sum_of hh) (hr.mono (by decide)) takesD (pas_cons (pd_slV rfl (.inl rfl) (pp_some (pd_var rfl (.inl rfl))) (pp_some (pd_bin od_add (pd_var rfl (.inl rfl)) pd_int))) pas_nil) (alen_cons alen_nil)) pas_nil)) (alen_cons (alen_cons alen_nil))) (pas_cons (pd_var rfl (.inl rfl)) (pas_cons (pd_bin od_add (pd_var rfl (.inl rfl)) pd_int) pas_nil))))) pas_nil))))))))
    (pbk_one (pst_ret (pd_move rfl (.inl rfl))))))
omit hh in
theorem nd_pieces_of : (["room", "wishes", "early", "late", "spans", "found", "begin", "end", "first", "behind", "here", "wait", "index", "last", "moment", "middle", "until", "grows"] : List Str).Nodup := by decide +kernel
omit hh in
theorem sc_pieces_of : FnScope ["room", "wishes", "early", "late", "spans", "found", "begin", "end", "first", "behind", "here", "wait", "index", "last", "moment", "middle", "until", "grows"] ["room", "wishes", "early", "late"] (defScope (top 37)) := ⟨rfl, rfl, rfl, by decide +kernel, rfl, by decide +kernel, by decide +kernel⟩
theorem D_pieces_of : Def P w K mg base (TT K) "pieces_of" ["room", "wishes", "early", "late"] F_pieces_of 10 := def_of (k := 9) (N := ["room", "wishes", "early", "late", "spans", "found", "begin", "end", "first", "behind", "here", "wait", "index", "last", "moment", "middle", "until", "grows"]) (m := m_pieces_of) (fn_pieces_of hh) (gl_pieces_of hh) sc_pieces_of (fun _ _ _ _ _ _ us hl => match us, hl with | [_, _, _, _], _ => rfl) fun A outer s H E hr =>
    (pbk_cons (pst_parF rfl nd_pieces_of rfl rfl (by decide) rfl rfl (pd_call (D_spans_of hh) (hr.mono (by decide)) takesD (pas_cons (pd_var rfl (.inl rfl)) (pas_cons (pd_var rfl (.inl rfl)) pas_nil)) (alen_cons (alen_cons alen_nil))) (pd_lst pas_nil) rfl)
    (pbk_cons (pst_for passesD rfl (pit_seq (pd_call (D_blocks_of hh) (hr.mono (by decide)) takesD (pas_cons (pd_var rfl (.inl rfl)) (pas_cons (pd_var rfl (.inl rfl)) (pas_cons (pd_var rfl (.inl rfl)) (pas_cons (pd_var rfl (.inl rfl)) pas_nil)))) (alen_cons (alen_cons (alen_cons (alen_cons alen_nil)))))) (pg_tp rfl (pgts_cons (pg_nm nd_pieces_of rfl (.inl rfl)) (pgts_cons (pg_nm nd_pieces_of rfl (.inl rfl)) (pgts_cons (pg_nm nd_pieces_of rfl (.inl rfl)) (pgts_cons (pg_nm nd_pieces_of rfl (.inl rfl)) pgts_nil))))) (pbk_cons (pst_parF rfl nd_pieces_of rfl rfl (by decide) rfl rfl (pd_var rfl (.inl rfl)) (pd_tup (pas_cons pd_int (pas_cons pd_int pas_nil))) rfl)
    (pbk_one (pst_for passesD rfl (pit_range2 rfl (fr_range hh) (pas_cons (pd_var rfl (.inl rfl)) (pas_cons (pd_var rfl (.inl rfl)) pas_nil))) (pg_nm nd_pieces_of rfl (.inl rfl)) (pbk_cons (pst_parF rfl nd_pieces_of rfl rfl (by decide) rfl rfl (pd_call (D_plus hh) (hr.mono (by decide)) takesD (pas_cons (pd_var rfl (.inl rfl)) (pas_cons (pd_ixV rfl (.inl rfl) (pd_var rfl (.inl rfl))) pas_nil)) (alen_cons (alen_cons alen_nil))) (pd_ix (pd_ixV rfl (.inl rfl) (pd_var rfl (.inl rfl))) pd_int) rfl)
    (pbk_cons (pst_set nd_pieces_of rfl (.inl rfl) (pd_call (D_greatest hh) (hr.mono (by decide)) takesD (pas_cons (pd_lst (pas_cons (pd_var rfl (.inl rfl)) (pas_cons (pd_call (D_least hh) (hr.mono (by decide)) takesD (pas_cons (pd_lst (pas_cons (pd_var rfl (.inl rfl)) (pas_cons (pd_var rfl (.inl rfl)) pas_nil))) pas_nil) (alen_cons alen_nil)) pas_nil))) pas_nil) (alen_cons alen_nil)))
    (pbk_one (pst_for passesD rfl (pit_seq (pd_tup (pas_cons (pd_tup (pas_cons (pd_var rfl (.inl rfl)) (pas_cons (pd_var rfl (.inl rfl)) pas_nil))) (pas_cons (pd_tup (pas_cons (pd_var rfl (.inl rfl)) (pas_cons (pd_call (D_less hh) (hr.mono (by decide)) takesD (pas_cons (pd_tup (pas_cons pd_int (pas_cons pd_int pas_nil))) (pas_cons (pd_var rfl (.inl rfl)) pas_nil)) (alen_cons (alen_cons alen_nil))) pas_nil))) pas_nil)))) (pg_tp rfl (pgts_cons (pg_nm nd_pieces_of rfl (.inl rfl)) (pgts_cons (pg_nm nd_pieces_of rfl (.inl rfl)) pgts_nil))) (pbk_one (pst_if (pc_val (pd_call (D_is_below hh) (hr.mono (by decide)) takesD (pas_cons (pd_var rfl (.inl rfl)) (pas_cons (pd_var rfl (.inl rfl)) pas_nil)) (alen_cons (alen_cons alen_nil)))) (pbk_cons (pst_expr (pd_mS md_app PySem.F.plainAttrs_list PySem.F.slot_list_append PySem.F.type_list_append rfl (.inl rfl) (pas_cons (pd_tup (pas_cons (pd_var rfl (.inl rfl)) (pas_cons (pd_var rfl (.inl rfl)) (pas_cons (pd_var rfl (.inl rfl)) (pas_cons (pd_var rfl (.inl rfl)) (pas_cons (pd_var rfl (.inl rfl)) pas_nil)))))) pas_nil)))
    (pbk_cons (pst_set nd_pieces_of rfl (.inl rfl) (pd_call (D_plus hh) (hr.mono (by decide)) takesD (pas_cons (pd_var rfl (.inl rfl)) (pas_cons (pd_call (D_times hh) (hr.mono (by decide)) takesD (pas_cons (pd_var rfl (.inl rfl)) (pas_cons (pd_call (D_less hh) (hr.mono (by decide)) takesD (pas_cons (pd_var rfl (.inl rfl)) (pas_cons (pd_var rfl (.inl rfl)) pas_nil)) (alen_cons (alen_cons alen_nil))) pas_nil)) (alen_cons (alen_cons alen_nil))) pas_nil)) (alen_cons (alen_cons alen_nil))))
    (pbk_one (pst_set nd_pieces_of rfl (.inl rfl) (pd_var rfl (.inl rfl)))))) pbk_nil))))))))))
    (pbk_one (pst_ret (pd_move rfl (.inl rfl))))))
omit hh in
theorem nd_checked_all : (["room", "length", "wishes", "early", "late", "known"] : List Str).Nodup := by decide +kernel
omit hh in
theorem sc_checked_all : FnScope ["room", "length", "wishes", "early", "late", "known"] ["room", "length", "wishes", "early", "late"] (defScope (top 38)) := ⟨rfl, rfl, rfl, by decide +kernel, rfl, by decide +kernel, by decide +kernel⟩
theorem D_checked_all : Def P w K mg base (TT K) "checked_all" ["room", "length", "wishes", "early", "late"] F_checked_all 9 := def_of (k := 8) (N := ["room", "length", "wishes", "early", "late", "known"]) (m := m_checked_all) (fn_checked_all hh) (gl_checked_all hh) sc_checked_all (fun _ _ _ _ _ _ us hl => match us, hl with | [_, _, _, _, _], _ => rfl) fun A outer s H E hr =>
    (pbk_cons (pst_expr (pd_call (D_check_road hh) (hr.mono (by decide)) takesD (pas_cons (pd_var rfl (.inl rfl)) (pas_cons (pd_var rfl (.inl rfl)) pas_nil)) (alen_cons (alen_cons alen_nil))))
    (pbk_cons (pst_set nd_checked_all rfl (.inl rfl) (pd_call (D_checked_wishes hh) (hr.mono (by decide)) takesD (pas_cons (pd_var rfl (.inl rfl)) pas_nil) (alen_cons alen_nil)))
    (pbk_one (pst_ret (pd_bin od_add (pd_tup (pas_cons (pd_var rfl (.inl rfl)) pas_nil)) (pd_call (D_checked_troubles hh) (hr.mono (by decide)) takesD (pas_cons (pd_var rfl (.inl rfl)) (pas_cons (pd_var rfl (.inl rfl)) pas_nil)) (alen_cons (alen_cons alen_nil))))))))
omit hh in
theorem nd_check_soon : (["begin", "length", "first"] : List Str).Nodup := by decide +kernel
omit hh in
theorem sc_check_soon : FnScope ["begin", "length", "first"] ["begin", "length"] (defScope (top 39)) := ⟨rfl, rfl, rfl, by decide +kernel, rfl, by decide +kernel, by decide +kernel⟩
theorem D_check_soon : Def P w K mg base (TT K) "check_soon" ["begin", "length"] F_check_soon 5 := def_of (k := 4) (N := ["begin", "length", "first"]) (m := m_check_soon) (fn_check_soon hh) (gl_check_soon hh) sc_check_soon (fun _ _ _ _ _ _ us hl => match us, hl with | [_, _], _ => rfl) fun A outer s H E hr =>
    (pbk_cons (pst_set nd_check_soon rfl (.inl rfl) (pd_call (D_less hh) (hr.mono (by decide)) takesD (pas_cons (pd_var rfl (.inl rfl)) (pas_cons (pd_tup (pas_cons (pd_var rfl (.inl rfl)) (pas_cons pd_int pas_nil))) pas_nil)) (alen_cons (alen_cons alen_nil))))
    (pbk_one (pst_if (pc_cmp od_lt (pd_ixV rfl (.inl rfl) pd_int) pd_int) (pbk_one (pst_raise rfl (ex_TooSoon hh) (hr.mono (by decide)) takesD (pd_var rfl (.inl rfl)))) pbk_nil)))
omit hh in
theorem nd_comers_by : (["rows", "end", "found"] : List Str).Nodup := by decide +kernel
omit hh in
theorem sc_comers_by : FnScope ["rows", "end", "found"] ["rows", "end"] (defScope (top 40)) := ⟨rfl, rfl, rfl, by decide +kernel, rfl, by decide +kernel, by decide +kernel⟩
theorem D_comers_by : Def P w K mg base (TT K) "comers_by" ["rows", "end"] F_comers_by 3 := def_of (k := 2) (N := ["rows", "end", "found"]) (m := m_comers_by) (fn_comers_by hh) (gl_comers_by hh) sc_comers_by (fun _ _ _ _ _ _ us hl => match us, hl with | [_, _], _ => rfl) fun A outer s H E hr =>
    (pbk_cons (pst_set nd_comers_by rfl (.inl rfl) (pd_if (pc_cmp (od_eq (units_of hr)) (pd_ix (pd_ixV rfl (.inl rfl) pd_int) pd_int) (pd_tup (pas_cons pd_int (pas_cons pd_int pas_nil)))) (pd_lst pas_nil) (pd_lst (pas_cons (pd_tup (pas_cons (pd_tup (pas_cons pd_int (pas_cons pd_int pas_nil))) (pas_cons (pd_tup (pas_cons pd_int (pas_cons pd_int pas_nil))) pas_nil))) pas_nil))))
    (pbk_one (pst_ret (pd_bin od_add (pd_bin od_add (pd_var rfl (.inl rfl)) (pd_var rfl (.inl rfl))) (pd_lst (pas_cons (pd_tup (pas_cons (pd_var rfl (.inl rfl)) (pas_cons (pd_tup (pas_cons pd_int (pas_cons pd_int pas_nil))) pas_nil))) pas_nil))))))
omit hh in
theorem nd_come_at : (["length", "piece", "moment", "index", "begin", "end", "wait", "grows"] : List Str).Nodup := by decide +kernel
omit hh in
theorem sc_come_at : FnScope ["length", "piece", "moment", "index", "begin", "end", "wait", "grows"] ["length", "piece", "moment"] (defScope (top 41)) := ⟨rfl, rfl, rfl, by decide +kernel, rfl, by decide +kernel, by decide +kernel⟩
theorem D_come_at : Def P w K mg base (TT K) "come_at" ["length", "piece", "moment"] F_come_at 5 := def_of (k := 4) (N := ["length", "piece", "moment", "index", "begin", "end", "wait", "grows"]) (m := m_come_at) (fn_come_at hh) (gl_come_at hh) sc_come_at (fun _ _ _ _ _ _ us hl => match us, hl with | [_, _, _], _ => rfl) fun A outer s H E hr =>
    (pbk_cons (pst_asg (pd_var rfl (.inl rfl)) (pg_tp rfl (pgts_cons (pg_nm nd_come_at rfl (.inl rfl)) (pgts_cons (pg_nm nd_come_at rfl (.inl rfl)) (pgts_cons (pg_nm nd_come_at rfl (.inl rfl)) (pgts_cons (pg_nm nd_come_at rfl (.inl rfl)) (pgts_cons (pg_nm nd_come_at rfl (.inl rfl)) pgts_nil)))))))
    (pbk_one (pst_ret (pd_call (D_less hh) (hr.mono (by decide)) takesD (pas_cons (pd_call (D_less hh) (hr.mono (by decide)) takesD (pas_cons (pd_var rfl (.inl rfl)) (pas_cons (pd_tup (pas_cons (pd_var rfl (.inl rfl)) (pas_cons pd_int pas_nil))) pas_nil)) (alen_cons (alen_cons alen_nil))) (pas_cons (pd_call (D_plus hh) (hr.mono (by decide)) takesD (pas_cons (pd_var rfl (.inl rfl)) (pas_cons (pd_call (D_times hh) (hr.mono (by decide)) takesD (pas_cons (pd_var rfl (.inl rfl)) (pas_cons (pd_call (D_less hh) (hr.mono (by decide)) takesD (pas_cons (pd_var rfl (.inl rfl)) (pas_cons (pd_var rfl (.inl rfl)) pas_nil)) (alen_cons (alen_cons alen_nil))) pas_nil)) (alen_cons (alen_cons alen_nil))) pas_nil)) (alen_cons (alen_cons alen_nil))) pas_nil)) (alen_cons (alen_cons alen_nil))))))
omit hh in
theorem nd_settled : (["room", "length", "wishes", "early", "late", "known", "soon", "behind", "pieces", "found", "index", "mine", "rows", "piece", "one"] : List Str).Nodup := by decide +kernel
omit hh in
theorem sc_settled : FnScope ["room", "length", "wishes", "early", "late", "known", "soon", "behind", "pieces", "found", "index", "mine", "rows", "piece", "one"] ["room", "length", "wishes", "early", "late"] (defScope (top 42)) := ⟨rfl, rfl, rfl, by decide +kernel, rfl, by decide +kernel, by decide +kernel⟩
theorem D_settled : Def P w K mg base (TT K) "settled" ["room", "length", "wishes", "early", "late"] F_settled 11 := def_of (k := 10) (N := ["room", "length", "wishes", "early", "late", "known", "soon", "behind", "pieces", "found", "index", "mine", "rows", "piece", "one"]) (m := m_settled) (fn_settled hh) (gl_settled hh) sc_settled (fun _ _ _ _ _ _ us hl => match us, hl with | [_, _, _, _, _], _ => rfl) fun A outer s H E hr =>
    (pbk_cons (pst_asg (pd_call (D_checked_all hh) (hr.mono (by decide)) takesD (pas_cons (pd_var rfl (.inr (.inl rfl))) (pas_cons (pd_var rfl (.inr (.inl rfl))) (pas_cons (pd_var rfl (.inl rfl)) (pas_cons (pd_var rfl (.inl rfl)) (pas_cons (pd_var rfl (.inl rfl)) pas_nil))))) (alen_cons (alen_cons (alen_cons (alen_cons (alen_cons alen_nil)))))) (pg_tp rfl (pgts_cons (pg_nm nd_settled rfl (.inl rfl)) (pgts_cons (pg_nm nd_settled rfl (.inl rfl)) (pgts_cons (pg_nm nd_settled rfl (.inl rfl)) pgts_nil)))))
    (pbk_cons (pst_set nd_settled rfl (.inl rfl) (pd_call (D_pieces_of hh) (hr.mono (by decide)) takesD (pas_cons (pd_var rfl (.inr (.inl rfl))) (pas_cons (pd_var rfl (.inl rfl)) (pas_cons (pd_var rfl (.inl rfl)) (pas_cons (pd_var rfl (.inl rfl)) pas_nil)))) (alen_cons (alen_cons (alen_cons (alen_cons alen_nil))))))
    (pbk_cons (pst_expr (pd_call (D_check_soon hh) (hr.mono (by decide)) takesD (pas_cons (pd_ix (pd_ixV rfl (.inl rfl) pd_int) pd_int) (pas_cons (pd_var rfl (.inr (.inl rfl))) pas_nil)) (alen_cons (alen_cons alen_nil))))
    (pbk_cons (pst_set nd_settled rfl (.inl rfl) (pd_lst pas_nil))
    (pbk_cons (pst_for passesD rfl (pit_range1 rfl (fr_range hh) (pas_cons (pd_b1 cb_len rfl (fr_len hh) (by decide +kernel) (pb_var rfl (.inl rfl))) pas_nil)) (pg_nm nd_settled rfl (.inr rfl)) (pbk_cons (pst_setLc (own := [("piece", 13)]) rfl nd_settled rfl rfl (L2.sw_true rfl rfl rfl rfl) (pit_seq (pd_var rfl (.inl rfl))) (blkOk_by (show blkC ["room", "length", "wishes", "early", "late", "known", "soon", "behind", "pieces", "found", "index", "mine", "rows", "piece", "one"] (defScope (top 42)) _ _ = true by decide +kernel)) (by decide) (fun _ _ _ _ _ => (pg_nm nd_settled rfl (.inl rfl))) (fun _ _ _ _ _ => (ptst_one (pc_cmp (od_eq (units_of hr)) (pd_ixV rfl (.inl rfl) pd_int) (pd_var rfl (.inr (.inl rfl)))))) (fun _ _ _ _ _ => (pd_var rfl (.inl rfl))))
    (pbk_cons (pst_setLc (own := [("one", 14)]) rfl nd_settled rfl rfl (L2.sw_true rfl rfl rfl rfl) (pit_seq (pd_var rfl (.inl rfl))) (blkOk_by (show blkC ["room", "length", "wishes", "early", "late", "known", "soon", "behind", "pieces", "found", "index", "mine", "rows", "piece", "one"] (defScope (top 42)) _ _ = true by decide +kernel)) (by decide) (fun _ _ _ _ _ => (pg_nm nd_settled rfl (.inl rfl))) (fun _ _ _ _ _ => ptst_nil) (fun _ _ _ _ _ => (pd_tup (pas_cons (pd_call (D_come_at hh) (hr.mono (by decide)) TD.takes0 (pas_cons (pd_var rfl (.inr (.inl rfl))) (pas_cons (pd_var rfl (.inl rfl)) (pas_cons (pd_ixV rfl (.inl rfl) pd_int) pas_nil))) (alen_cons (alen_cons (alen_cons alen_nil)))) (pas_cons (pd_call (D_parted hh) (hr.mono (by decide)) TD.takes0 (pas_cons (pd_tup (pas_cons (pd_var rfl (.inr (.inl rfl))) (pas_cons pd_int pas_nil))) (pas_cons (pd_call (D_less hh) (hr.mono (by decide)) TD.takes0 (pas_cons (pd_tup (pas_cons pd_int (pas_cons pd_int pas_nil))) (pas_cons (pd_ixV rfl (.inl rfl) pd_int) pas_nil)) (alen_cons (alen_cons alen_nil))) pas_nil)) (alen_cons (alen_cons alen_nil))) pas_nil)))))
    (pbk_one (pst_expr (pd_mS md_app PySem.F.plainAttrs_list PySem.F.slot_list_append PySem.F.type_list_append rfl (.inl rfl) (pas_cons (pd_call (D_comers_by hh) (hr.mono (by decide)) takesD (pas_cons (pd_var rfl (.inl rfl)) (pas_cons (pd_call (D_come_at hh) (hr.mono (by decide)) takesD (pas_cons (pd_var rfl (.inr (.inl rfl))) (pas_cons (pd_ixV rfl (.inl rfl) (pd_neg pd_int)) (pas_cons (pd_ix (pd_ixV rfl (.inl rfl) (pd_neg pd_int)) pd_int) pas_nil))) (alen_cons (alen_cons (alen_cons alen_nil)))) pas_nil)) (alen_cons (alen_cons alen_nil))) pas_nil)))))))
    (pbk_one (pst_ret (pd_move rfl (.inl rfl)))))))))
omit hh in
theorem nd_stretches : (["room", "length", "wishes", "early", "late", "known", "soon", "behind", "begin", "end", "first", "past"] : List Str).Nodup := by decide +kernel
omit hh in
theorem sc_stretches : FnScope ["room", "length", "wishes", "early", "late", "known", "soon", "behind", "begin", "end", "first", "past"] ["room", "length", "wishes", "early", "late"] (defScope (top 43)) := ⟨rfl, rfl, rfl, by decide +kernel, rfl, by decide +kernel, by decide +kernel⟩
theorem D_stretches : Def P w K mg base (TT K) "stretches" ["room", "length", "wishes", "early", "late"] F_stretches 10 := def_of (k := 9) (N := ["room", "length", "wishes", "early", "late", "known", "soon", "behind", "begin", "end", "first", "past"]) (m := m_stretches) (fn_stretches hh) (gl_stretches hh) sc_stretches (fun _ _ _ _ _ _ us hl => match us, hl with | [_, _, _, _, _], _ => rfl) fun A outer s H E hr =>
    (pbk_cons (pst_asg (pd_call (D_checked_all hh) (hr.mono (by decide)) takesD (pas_cons (pd_var rfl (.inl rfl)) (pas_cons (pd_var rfl (.inl rfl)) (pas_cons (pd_var rfl (.inl rfl)) (pas_cons (pd_var rfl (.inl rfl)) (pas_cons (pd_var rfl (.inl rfl)) pas_nil))))) (alen_cons (alen_cons (alen_cons (alen_cons (alen_cons alen_nil)))))) (pg_tp rfl (pgts_cons (pg_nm nd_stretches rfl (.inl rfl)) (pgts_cons (pg_nm nd_stretches rfl (.inl rfl)) (pgts_cons (pg_nm nd_stretches rfl (.inl rfl)) pgts_nil)))))
    (pbk_one (pst_ret (pd_lc (own := [("begin", 8), ("end", 9), ("first", 10), ("past", 11)]) rfl nd_stretches (pit_seq (pd_call (D_blocks_of hh) (hr.mono (by decide)) takesD (pas_cons (pd_var rfl (.inl rfl)) (pas_cons (pd_var rfl (.inl rfl)) (pas_cons (pd_var rfl (.inl rfl)) (pas_cons (pd_var rfl (.inl rfl)) pas_nil)))) (alen_cons (alen_cons (alen_cons (alen_cons alen_nil)))))) (blkOk_by (show blkC ["room", "length", "wishes", "early", "late", "known", "soon", "behind", "begin", "end", "first", "past"] (defScope (top 43)) _ _ = true by decide +kernel)) (by decide) (fun _ _ _ _ _ => (pg_tp rfl (pgts_cons (pg_nm nd_stretches rfl (.inl rfl)) (pgts_cons (pg_nm nd_stretches rfl (.inl rfl)) (pgts_cons (pg_nm nd_stretches rfl (.inl rfl)) (pgts_cons (pg_nm nd_stretches rfl (.inl rfl)) pgts_nil)))))) (fun _ _ _ _ _ => ptst_nil) (fun _ _ _ _ _ => (pd_tup (pas_cons (pd_var rfl (.inl rfl)) (pas_cons (pd_var rfl (.inl rfl)) (pas_cons (pd_lrg rfl rfl (fr_list hh) rfl (fr_range hh) (pd_var rfl (.inl rfl)) (pd_var rfl (.inl rfl))) pas_nil)))))))))
omit hh in
theorem nd_sorrow : (["wish", "moment", "early", "late", "beats"] : List Str).Nodup := by decide +kernel
omit hh in
theorem sc_sorrow : FnScope ["wish", "moment", "early", "late", "beats"] ["wish", "moment", "early", "late"] (defScope (top 44)) := ⟨rfl, rfl, rfl, by decide +kernel, rfl, by decide +kernel, by decide +kernel⟩
theorem D_sorrow : Def P w K mg base (TT K) "sorrow" ["wish", "moment", "early", "late"] F_sorrow 5 := def_of (k := 4) (N := ["wish", "moment", "early", "late", "beats"]) (m := m_sorrow) (fn_sorrow hh) (gl_sorrow hh) sc_sorrow (fun _ _ _ _ _ _ us hl => match us, hl with | [_, _, _, _], _ => rfl) fun A outer s H E hr =>
    (pbk_cons (pst_set nd_sorrow rfl (.inl rfl) (pd_call (D_less hh) (hr.mono (by decide)) takesD (pas_cons (pd_ixV rfl (.inl rfl) pd_int) (pas_cons (pd_var rfl (.inl rfl)) pas_nil)) (alen_cons (alen_cons alen_nil))))
    (pbk_one (pst_ret (pd_if (pc_cmp od_gt (pd_ixV rfl (.inl rfl) pd_int) pd_int) (pd_call (D_times hh) (hr.mono (by decide)) takesD (pas_cons (pd_var rfl (.inl rfl)) (pas_cons (pd_var rfl (.inl rfl)) pas_nil)) (alen_cons (alen_cons alen_nil))) (pd_call (D_times hh) (hr.mono (by decide)) takesD (pas_cons (pd_var rfl (.inl rfl)) (pas_cons (pd_call (D_less hh) (hr.mono (by decide)) takesD (pas_cons (pd_tup (pas_cons pd_int (pas_cons pd_int pas_nil))) (pas_cons (pd_var rfl (.inl rfl)) pas_nil)) (alen_cons (alen_cons alen_nil))) pas_nil)) (alen_cons (alen_cons alen_nil)))))))
omit hh in
theorem nd_troubles : (["room", "length", "wishes", "early", "late", "known", "soon", "behind", "found", "index", "begin", "end", "wait", "grows"] : List Str).Nodup := by decide +kernel
omit hh in
theorem sc_troubles : FnScope ["room", "length", "wishes", "early", "late", "known", "soon", "behind", "found", "index", "begin", "end", "wait", "grows"] ["room", "length", "wishes", "early", "late"] (defScope (top 45)) := ⟨rfl, rfl, rfl, by decide +kernel, rfl, by decide +kernel, by decide +kernel⟩
theorem D_troubles : Def P w K mg base (TT K) "troubles" ["room", "length", "wishes", "early", "late"] F_troubles 11 := def_of (k := 10) (N := ["room", "length", "wishes", "early", "late", "known", "soon", "behind", "found", "index", "begin", "end", "wait", "grows"]) (m := m_troubles) (fn_troubles hh) (gl_troubles hh) sc_troubles (fun _ _ _ _ _ _ us hl => match us, hl with | [_, _, _, _, _], _ => rfl) fun A outer s H E hr =>
    (pbk_cons (pst_asg (pd_call (D_checked_all hh) (hr.mono (by decide)) takesD (pas_cons (pd_var rfl (.inl rfl)) (pas_cons (pd_var rfl (.inl rfl)) (pas_cons (pd_var rfl (.inl rfl)) (pas_cons (pd_var rfl (.inl rfl)) (pas_cons (pd_var rfl (.inl rfl)) pas_nil))))) (alen_cons (alen_cons (alen_cons (alen_cons (alen_cons alen_nil)))))) (pg_tp rfl (pgts_cons (pg_nm nd_troubles rfl (.inl rfl)) (pgts_cons (pg_nm nd_troubles rfl (.inl rfl)) (pgts_cons (pg_nm nd_troubles rfl (.inl rfl)) pgts_nil)))))
    (pbk_cons (pst_set nd_troubles rfl (.inr rfl) pd_dnew)
    (pbk_cons (pst_for passesD rfl (pit_seq (pd_call (D_pieces_of hh) (hr.mono (by decide)) takesD (pas_cons (pd_var rfl (.inl rfl)) (pas_cons (pd_var rfl (.inl rfl)) (pas_cons (pd_var rfl (.inl rfl)) (pas_cons (pd_var rfl (.inl rfl)) pas_nil)))) (alen_cons (alen_cons (alen_cons (alen_cons alen_nil)))))) (pg_tp rfl (pgts_cons (pg_nm nd_troubles rfl (.inl rfl)) (pgts_cons (pg_nm nd_troubles rfl (.inl rfl)) (pgts_cons (pg_nm nd_troubles rfl (.inl rfl)) (pgts_cons (pg_nm nd_troubles rfl (.inl rfl)) (pgts_cons (pg_nm nd_troubles rfl (.inl rfl)) pgts_nil)))))) (pbk_one (pst_expr (pd_setdS rfl (.inr (.inl rfl)) (pd_var rfl (.inl rfl)) (pd_call (D_plus hh) (hr.mono (by decide)) takesD (pas_cons (pd_var rfl (.inl rfl)) (pas_cons (pd_call (D_sorrow hh) (hr.mono (by decide)) takesD (pas_cons (pd_ixV rfl (.inl rfl) (pd_var rfl (.inl rfl))) (pas_cons (pd_var rfl (.inl rfl)) (pas_cons (pd_var rfl (.inl rfl)) (pas_cons (pd_var rfl (.inl rfl)) pas_nil)))) (alen_cons (alen_cons (alen_cons (alen_cons alen_nil))))) pas_nil)) (alen_cons (alen_cons alen_nil))) ⟨rfl, rfl, rfl, rfl⟩))))
    (pbk_one (pst_ret (pd_lc (own := [("index", 9)]) rfl nd_troubles (pit_range1 rfl (fr_range hh) (pas_cons (pd_b1 cb_len rfl (fr_len hh) (by decide +kernel) (pb_var rfl (.inl rfl))) pas_nil)) (blkOk_by (show blkC ["room", "length", "wishes", "early", "late", "known", "soon", "behind", "found", "index", "begin", "end", "wait", "grows"] (defScope (top 45)) _ _ = true by decide +kernel)) (by decide) (fun _ _ _ _ _ => (pg_nm nd_troubles rfl (.inl rfl))) (fun _ _ _ _ _ => ptst_nil) (fun _ _ _ _ _ => (pd_dgetV (units1 hr) rfl (.inr (.inl rfl)) (pd_var rfl (.inl rfl))))))))))
omit hh in
theorem nd_paid : (["room", "length", "wishes", "early", "late", "known", "soon", "behind", "found", "index", "begin", "end", "wait", "grows", "beats", "middle"] : List Str).Nodup := by decide +kernel
omit hh in
theorem sc_paid : FnScope ["room", "length", "wishes", "early", "late", "known", "soon", "behind", "found", "index", "begin", "end", "wait", "grows", "beats", "middle"] ["room", "length", "wishes", "early", "late"] (defScope (top 47)) := ⟨rfl, rfl, rfl, by decide +kernel, rfl, by decide +kernel, by decide +kernel⟩
theorem D_paid : Def P w K mg base (TT K) "paid" ["room", "length", "wishes", "early", "late"] F_paid 11 := def_of (k := 10) (N := ["room", "length", "wishes", "early", "late", "known", "soon", "behind", "found", "index", "begin", "end", "wait", "grows", "beats", "middle"]) (m := m_paid) (fn_paid hh) (gl_paid hh) sc_paid (fun _ _ _ _ _ _ us hl => match us, hl with | [_, _, _, _, _], _ => rfl) fun A outer s H E hr =>
    (pbk_cons (pst_asg (pd_call (D_checked_all hh) (hr.mono (by decide)) takesD (pas_cons (pd_var rfl (.inl rfl)) (pas_cons (pd_var rfl (.inl rfl)) (pas_cons (pd_var rfl (.inl rfl)) (pas_cons (pd_var rfl (.inl rfl)) (pas_cons (pd_var rfl (.inl rfl)) pas_nil))))) (alen_cons (alen_cons (alen_cons (alen_cons (alen_cons alen_nil)))))) (pg_tp rfl (pgts_cons (pg_nm nd_paid rfl (.inl rfl)) (pgts_cons (pg_nm nd_paid rfl (.inl rfl)) (pgts_cons (pg_nm nd_paid rfl (.inl rfl)) pgts_nil)))))
    (pbk_cons (pst_set nd_paid rfl (.inl rfl) (pd_lst pas_nil))
    (pbk_cons (pst_for passesD rfl (pit_seq (pd_call (D_pieces_of hh) (hr.mono (by decide)) takesD (pas_cons (pd_var rfl (.inl rfl)) (pas_cons (pd_var rfl (.inl rfl)) (pas_cons (pd_var rfl (.inl rfl)) (pas_cons (pd_var rfl (.inl rfl)) pas_nil)))) (alen_cons (alen_cons (alen_cons (alen_cons alen_nil)))))) (pg_tp rfl (pgts_cons (pg_nm nd_paid rfl (.inl rfl)) (pgts_cons (pg_nm nd_paid rfl (.inl rfl)) (pgts_cons (pg_nm nd_paid rfl (.inl rfl)) (pgts_cons (pg_nm nd_paid rfl (.inl rfl)) (pgts_cons (pg_nm nd_paid rfl (.inl rfl)) pgts_nil)))))) (pbk_cons (pst_set nd_paid rfl (.inl rfl) (pd_call (D_less hh) (hr.mono (by decide)) takesD (pas_cons (pd_var rfl (.inl rfl)) (pas_cons (pd_var rfl (.inl rfl)) pas_nil)) (alen_cons (alen_cons alen_nil))))
    (pbk_cons (pst_set nd_paid rfl (.inl rfl) (pd_call (D_plus hh) (hr.mono (by decide)) takesD (pas_cons (pd_var rfl (.inl rfl)) (pas_cons (pd_call (D_times hh) (hr.mono (by decide)) takesD (pas_cons (pd_var rfl (.inl rfl)) (pas_cons (pd_call (D_times hh) (hr.mono (by decide)) takesD (pas_cons (pd_var rfl (.inl rfl)) (pas_cons (pd_tup (pas_cons pd_int (pas_cons pd_int pas_nil))) pas_nil)) (alen_cons (alen_cons alen_nil))) pas_nil)) (alen_cons (alen_cons alen_nil))) pas_nil)) (alen_cons (alen_cons alen_nil))))
    (pbk_one (pst_expr (pd_mS md_app PySem.F.plainAttrs_list PySem.F.slot_list_append PySem.F.type_list_append rfl (.inl rfl) (pas_cons (pd_call (D_times hh) (hr.mono (by decide)) takesD (pas_cons (pd_tup (pas_cons (pd_var rfl (.inl rfl)) (pas_cons pd_int pas_nil))) (pas_cons (pd_call (D_times hh) (hr.mono (by decide)) takesD (pas_cons (pd_var rfl (.inl rfl)) (pas_cons (pd_var rfl (.inl rfl)) pas_nil)) (alen_cons (alen_cons alen_nil))) pas_nil)) (alen_cons (alen_cons alen_nil))) pas_nil)))))))
    (pbk_one (pst_ret (pd_call (D_sum_of hh) (hr.mono (by decide)) takesD (pas_cons (pd_var rfl (.inl rfl)) pas_nil) (alen_cons alen_nil)))))))
omit hh in
theorem nd__law_stream : (["_law_script"] : List Str).Nodup := by decide +kernel
omit hh in
theorem sc__law_stream : FnScope ["_law_script"] ["_law_script"] (defScope (top 49)) := ⟨rfl, rfl, rfl, by decide +kernel, rfl, by decide +kernel, by decide +kernel⟩
theorem D__law_stream : Def P w K mg base (TT K) "_law_stream" ["_law_script"] F__law_stream 3 := def_of (k := 2) (N := ["_law_script"]) (m := m__law_stream) (fn__law_stream hh) (gl__law_stream hh) sc__law_stream (fun _ _ _ _ _ _ us hl => match us, hl with | [_], _ => rfl) fun A outer s H E hr =>
    (pbk_one (pst_ret (pd_lst (pas_cons (pd_box (pd_t1 cb_list rfl (fr_list hh) (by decide +kernel) (pb_var rfl (.inl rfl)))) (pas_cons pd_int (pas_cons pd_int (pas_cons pd_int pas_nil)))))))
omit hh in
theorem nd__law_draw : (["_law_stream_here", "_law_many", "_law_cell", "_law_digit", "_law_mixed"] : List Str).Nodup := by decide +kernel
omit hh in
theorem sc__law_draw : FnScope ["_law_stream_here", "_law_many", "_law_cell", "_law_digit", "_law_mixed"] ["_law_stream_here", "_law_many"] (defScope (top 50)) := ⟨rfl, rfl, rfl, by decide +kernel, rfl, by decide +kernel, by decide +kernel⟩
theorem D__law_draw : Def P w K mg base (TT K) "_law_draw" ["_law_stream_here", "_law_many"] F__law_draw 3 := def_of (k := 2) (N := ["_law_stream_here", "_law_many", "_law_cell", "_law_digit", "_law_mixed"]) (m := m__law_draw) (fn__law_draw hh) (gl__law_draw hh) sc__law_draw (fun _ _ _ _ _ _ us hl => match us, hl with | [_, _], _ => rfl) fun A outer s H E hr =>
    (pbk_cons (pst_putB (pd_bin od_add (pd_ixV rfl (.inl rfl) pd_int) pd_int) (pd_var rfl (.inl rfl)) pd_int)
    (pbk_cons (pst_while fuBox passesD (pc_pw (pw_andM (pc_cmp (od_eq (units_of hr)) (pd_ixV rfl (.inl rfl) pd_int) pd_int) (pw_one (pc_neB (units_of hr) (pd_ixV rfl (.inl rfl) pd_int) (pd_lst pas_nil))))) (pbk_cons (pst_set nd__law_draw rfl (.inl rfl) (pd_b1 cb_abs rfl (fr_abs hh) (by decide +kernel) (pb_of (pd_mB md_popAt PySem.F.plainAttrs_list PySem.F.slot_list_pop PySem.F.type_list_pop (pd_ixV rfl (.inl rfl) pd_int) (pas_cons pd_int pas_nil)))))
    (pbk_cons (pst_putB (pd_bin od_mod (pd_t1 cb_int rfl (fr_int hh) (by decide +kernel) (pb_of (pd_bin od_add (pd_bin od_add (pd_bin od_mul (pd_ixV rfl (.inl rfl) pd_int) pd_int) (pd_var rfl (.inl rfl))) pd_int))) pd_int) (pd_var rfl (.inl rfl)) pd_int)
    (pbk_one (pst_putB (pd_if (pc_cmp od_ge (pd_var rfl (.inl rfl)) (pd_bin od_pow pd_int pd_int)) (pd_var rfl (.inl rfl)) pd_int) (pd_var rfl (.inl rfl)) pd_int)))))
    (pbk_cons (pst_if (pc_cmp od_gt (pd_ixV rfl (.inl rfl) pd_int) pd_int) (pbk_cons (pst_set nd__law_draw rfl (.inl rfl) (pd_bin od_mod (pd_t1 cb_int rfl (fr_int hh) (by decide +kernel) (pb_of (pd_ixV rfl (.inl rfl) pd_int))) (pd_var rfl (.inl rfl))))
    (pbk_cons (pst_putB (pd_bin od_fdiv (pd_ixV rfl (.inl rfl) pd_int) (pd_var rfl (.inl rfl))) (pd_var rfl (.inl rfl)) pd_int)
    (pbk_one (pst_ret (pd_move rfl (.inl rfl)))))) pbk_nil)
    (pbk_cons (pst_set nd__law_draw rfl (.inl rfl) (pd_bin od_mod (pd_t1 cb_int rfl (fr_int hh) (by decide +kernel) (pb_of (pd_bin od_pow (pd_bin od_add (pd_bin od_add (pd_ixV rfl (.inl rfl) pd_int) (pd_bin od_mul pd_int (pd_ixV rfl (.inl rfl) pd_int))) pd_int) pd_int))) pd_int))
    (pbk_one (pst_ret (pd_bin od_mod (pd_bin od_mod (pd_t1 cb_int rfl (fr_int hh) (by decide +kernel) (pb_of (pd_bin od_pow (pd_bin od_add (pd_bin od_add (pd_bin od_mul (pd_var rfl (.inl rfl)) pd_int) (pd_bin od_mul pd_int (pd_ixV rfl (.inl rfl) pd_int))) pd_int) pd_int))) pd_int) (pd_var rfl (.inl rfl)))))))))
omit hh in
theorem nd__law_pick : (["_law_stream_here", "_law_things"] : List Str).Nodup := by decide +kernel
omit hh in
theorem sc__law_pick : FnScope ["_law_stream_here", "_law_things"] ["_law_stream_here", "_law_things"] (defScope (top 51)) := ⟨rfl, rfl, rfl, by decide +kernel, rfl, by decide +kernel, by decide +kernel⟩
theorem D__law_pick : Def P w K mg base (TT K) "_law_pick" ["_law_stream_here", "_law_things"] F__law_pick 4 := def_of (k := 3) (N := ["_law_stream_here", "_law_things"]) (m := m__law_pick) (fn__law_pick hh) (gl__law_pick hh) sc__law_pick (fun _ _ _ _ _ _ us hl => match us, hl with | [_, _], _ => rfl) fun A outer s H E hr =>
    (pbk_one (pst_ret (pd_ixV rfl (.inl rfl) (pd_call (D__law_draw hh) (hr.mono (by decide)) takesD (pas_cons (pd_var rfl (.inl rfl)) (pas_cons (pd_b1 cb_len rfl (fr_len hh) (by decide +kernel) (pb_var rfl (.inl rfl))) pas_nil)) (alen_cons (alen_cons alen_nil))))))
omit hh in
theorem nd__law_same : (["_law_found", "_law_due", "_law_mine", "_law_theirs"] : List Str).Nodup := by decide +kernel
omit hh in
theorem sc__law_same : FnScope ["_law_found", "_law_due", "_law_mine", "_law_theirs"] ["_law_found", "_law_due"] (defScope (top 52)) := ⟨rfl, rfl, rfl, by decide +kernel, rfl, by decide +kernel, by decide +kernel⟩
theorem D__law_same : ∀ n : Nat, Def P w K mg base (TT K) "_law_same" ["_law_found", "_law_due"] (F__law_same n) (n + 3)
  | 0 => def_bad (fn__law_same hh) (gl__law_same hh) (fun _ _ _ _ _ _ us hl => match us, hl with | [_, _], _ => rfl)
  | n + 1 => by
    have D := D__law_same n
    exact def_of (k := n + 3) (N := ["_law_found", "_law_due", "_law_mine", "_law_theirs"]) (m := m__law_same (F__law_same n)) (fn__law_same hh) (gl__law_same hh) sc__law_same (fun _ _ _ _ _ _ us hl => match us, hl with | [_, _], _ => rfl) fun A outer s H E hr =>
      (pbk_cons (pst_if (pc_val (pd_isiT rfl (fr_isinstance hh) (pb_var rfl (.inl rfl)) (.cons rfl (fr_list hh) (by decide +kernel) (by decide) (by decide) rfl (.cons rfl (fr_tuple hh) (by decide +kernel) (by decide) (by decide) rfl .nil)))) (pbk_cons (pst_if (pc_pw (pw_orM (pc_cmp (od_ne (units_of hr)) (pd_isi rfl (fr_isinstance hh) (pb_var rfl (.inl rfl)) rfl (fr_list hh) (by decide +kernel)) (pd_isi rfl (fr_isinstance hh) (pb_var rfl (.inl rfl)) rfl (fr_list hh) (by decide +kernel))) (pw_one (pc_cmp (od_ne (units_of hr)) (pd_isi rfl (fr_isinstance hh) (pb_var rfl (.inl rfl)) rfl (fr_tuple hh) (by decide +kernel)) (pd_isi rfl (fr_isinstance hh) (pb_var rfl (.inl rfl)) rfl (fr_tuple hh) (by decide +kernel)))))) (pbk_one (pst_ret pd_bl)) pbk_nil)
    (pbk_one (pst_ret (pd_and (pd_cmp (od_eq (units_of hr)) (pd_b1 cb_len rfl (fr_len hh) (by decide +kernel) (pb_var rfl (.inl rfl))) (pd_b1 cb_len rfl (fr_len hh) (by decide +kernel) (pb_var rfl (.inl rfl)))) (pd_one (pd_b1 (cb_all rfl) rfl (fr_all hh) (by decide +kernel) (pb_of (pd_lc (own := [("_law_mine", 2), ("_law_theirs", 3)]) rfl nd__law_same (pit_zip2 rfl (fr_zip hh) (pas_cons (pd_var rfl (.inl rfl)) (pas_cons (pd_var rfl (.inl rfl)) pas_nil))) (blkOk_by (show blkC ["_law_found", "_law_due", "_law_mine", "_law_theirs"] (defScope (top 52)) _ _ = true by decide +kernel)) (by decide) (fun _ _ _ _ _ => (pg_tp rfl (pgts_cons (pg_nm nd__law_same rfl (.inl rfl)) (pgts_cons (pg_nm nd__law_same rfl (.inl rfl)) pgts_nil)))) (fun _ _ _ _ _ => ptst_nil) (fun _ _ _ _ _ => (pd_call D (hr.mono (by omega)) TD.takes0 (pas_cons (pd_var rfl (.inl rfl)) (pas_cons (pd_var rfl (.inl rfl)) pas_nil)) (alen_cons (alen_cons alen_nil)))))))))))) pbk_nil)
    (pbk_cons (pst_if (pc_val (pd_isi rfl (fr_isinstance hh) (pb_var rfl (.inl rfl)) rfl (fr_dict hh) (by decide +kernel))) (pbk_one (pst_ret (pd_and (pd_isi rfl (fr_isinstance hh) (pb_var rfl (.inl rfl)) rfl (fr_dict hh) (by decide +kernel)) (pd_one (pd_call D (hr.mono (by omega)) takesD (pas_cons (pd_items rfl (pb_var rfl (.inl rfl)) rfl (fr_list hh) (by decide +kernel)) (pas_cons (pd_items rfl (pb_var rfl (.inl rfl)) rfl (fr_list hh) (by decide +kernel)) pas_nil)) (alen_cons (alen_cons alen_nil))))))) pbk_nil)
    (pbk_cons (pst_if (pc_pw (pw_orM (pc_val (pd_isi rfl (fr_isinstance hh) (pb_var rfl (.inl rfl)) rfl (fr_bool hh) (by decide +kernel))) (pw_one (pc_val (pd_isi rfl (fr_isinstance hh) (pb_var rfl (.inl rfl)) rfl (fr_bool hh) (by decide +kernel)))))) (pbk_one (pst_ret (pd_and (pd_isi rfl (fr_isinstance hh) (pb_var rfl (.inl rfl)) rfl (fr_bool hh) (by decide +kernel)) (pd_and (pd_isi rfl (fr_isinstance hh) (pb_var rfl (.inl rfl)) rfl (fr_bool hh) (by decide +kernel)) (pd_one (pd_cmp (od_eq (units_of hr)) (pd_var rfl (.inl rfl)) (pd_var rfl (.inl rfl)))))))) pbk_nil)
    (pbk_one (pst_ret (pd_and (pd_not (pd_isiT rfl (fr_isinstance hh) (pb_var rfl (.inl rfl)) (.cons rfl (fr_list hh) (by decide +kernel) (by decide) (by decide) rfl (.cons rfl (fr_tuple hh) (by decide +kernel) (by decide) (by decide) rfl (.cons rfl (fr_dict hh) (by decide +kernel) (by decide) (by decide) rfl .nil))))) (pd_one (pd_cmp (od_eq (units_of hr)) (pd_var rfl (.inl rfl)) (pd_var rfl (.inl rfl))))))))))
omit hh in
theorem nd__law_common : (["_law_one", "_law_other"] : List Str).Nodup := by decide +kernel
omit hh in
theorem sc__law_common : FnScope ["_law_one", "_law_other"] ["_law_one", "_law_other"] (defScope (top 53)) := ⟨rfl, rfl, rfl, by decide +kernel, rfl, by decide +kernel, by decide +kernel⟩
theorem D__law_common : Def P w K mg base (TT K) "_law_common" ["_law_one", "_law_other"] F__law_common 3 := def_of (k := 2) (N := ["_law_one", "_law_other"]) (m := m__law_common) (fn__law_common hh) (gl__law_common hh) sc__law_common (fun _ _ _ _ _ _ us hl => match us, hl with | [_, _], _ => rfl) fun A outer s H E hr =>
    (pbk_cons (pst_parF rfl nd__law_common rfl rfl (by decide) rfl rfl (pd_b1 cb_abs rfl (fr_abs hh) (by decide +kernel) (pb_var rfl (.inl rfl))) (pd_b1 cb_abs rfl (fr_abs hh) (by decide +kernel) (pb_var rfl (.inl rfl))) rfl)
    (pbk_cons (pst_while (fuInt 1) passesD (pc_cmp od_gt (pd_var rfl (.inl rfl)) pd_int) (pbk_one (pst_parF rfl nd__law_common rfl rfl (by decide) rfl rfl (pd_var rfl (.inl rfl)) (pd_bin od_mod (pd_var rfl (.inl rfl)) (pd_var rfl (.inl rfl))) rfl)))
    (pbk_one (pst_ret (pd_move rfl (.inl rfl))))))
omit hh in
theorem nd__law_low : (["_law_top", "_law_bottom", "_law_common_here"] : List Str).Nodup := by decide +kernel
omit hh in
theorem sc__law_low : FnScope ["_law_top", "_law_bottom", "_law_common_here"] ["_law_top", "_law_bottom"] (defScope (top 54)) := ⟨rfl, rfl, rfl, by decide +kernel, rfl, by decide +kernel, by decide +kernel⟩
theorem D__law_low : Def P w K mg base (TT K) "_law_low" ["_law_top", "_law_bottom"] F__law_low 4 := def_of (k := 3) (N := ["_law_top", "_law_bottom", "_law_common_here"]) (m := m__law_low) (fn__law_low hh) (gl__law_low hh) sc__law_low (fun _ _ _ _ _ _ us hl => match us, hl with | [_, _], _ => rfl) fun A outer s H E hr =>
    (pbk_cons (pst_set nd__law_low rfl (.inl rfl) (pd_if (pc_cmp od_gt (pd_var rfl (.inl rfl)) pd_int) (pd_call (D__law_common hh) (hr.mono (by decide)) takesD (pas_cons (pd_var rfl (.inl rfl)) (pas_cons (pd_var rfl (.inl rfl)) pas_nil)) (alen_cons (alen_cons alen_nil))) (pd_bin od_sub pd_int (pd_call (D__law_common hh) (hr.mono (by decide)) takesD (pas_cons (pd_var rfl (.inl rfl)) (pas_cons (pd_var rfl (.inl rfl)) pas_nil)) (alen_cons (alen_cons alen_nil))))))
    (pbk_one (pst_ret (pd_tup (pas_cons (pd_bin od_fdiv (pd_var rfl (.inl rfl)) (pd_var rfl (.inl rfl))) (pas_cons (pd_bin od_fdiv (pd_var rfl (.inl rfl)) (pd_var rfl (.inl rfl))) pas_nil))))))
omit hh in
theorem nd__law_plus : (["_law_one", "_law_other"] : List Str).Nodup := by decide +kernel
omit hh in
theorem sc__law_plus : FnScope ["_law_one", "_law_other"] ["_law_one", "_law_other"] (defScope (top 55)) := ⟨rfl, rfl, rfl, by decide +kernel, rfl, by decide +kernel, by decide +kernel⟩
theorem D__law_plus : Def P w K mg base (TT K) "_law_plus" ["_law_one", "_law_other"] F__law_plus 5 := def_of (k := 4) (N := ["_law_one", "_law_other"]) (m := m__law_plus) (fn__law_plus hh) (gl__law_plus hh) sc__law_plus (fun _ _ _ _ _ _ us hl => match us, hl with | [_, _], _ => rfl) fun A outer s H E hr =>
    (pbk_one (pst_ret (pd_call (D__law_low hh) (hr.mono (by decide)) takesD (pas_cons (pd_bin od_add (pd_bin od_mul (pd_ixV rfl (.inl rfl) pd_int) (pd_ixV rfl (.inl rfl) pd_int)) (pd_bin od_mul (pd_ixV rfl (.inl rfl) pd_int) (pd_ixV rfl (.inl rfl) pd_int))) (pas_cons (pd_bin od_mul (pd_ixV rfl (.inl rfl) pd_int) (pd_ixV rfl (.inl rfl) pd_int)) pas_nil)) (alen_cons (alen_cons alen_nil)))))
omit hh in
theorem nd__law_times : (["_law_one", "_law_other"] : List Str).Nodup := by decide +kernel
omit hh in
theorem sc__law_times : FnScope ["_law_one", "_law_other"] ["_law_one", "_law_other"] (defScope (top 56)) := ⟨rfl, rfl, rfl, by decide +kernel, rfl, by decide +kernel, by decide +kernel⟩
theorem D__law_times : Def P w K mg base (TT K) "_law_times" ["_law_one", "_law_other"] F__law_times 5 := def_of (k := 4) (N := ["_law_one", "_law_other"]) (m := m__law_times) (fn__law_times hh) (gl__law_times hh) sc__law_times (fun _ _ _ _ _ _ us hl => match us, hl with | [_, _], _ => rfl) fun A outer s H E hr =>
    (pbk_one (pst_ret (pd_call (D__law_low hh) (hr.mono (by decide)) takesD (pas_cons (pd_bin od_mul (pd_ixV rfl (.inl rfl) pd_int) (pd_ixV rfl (.inl rfl) pd_int)) (pas_cons (pd_bin od_mul (pd_ixV rfl (.inl rfl) pd_int) (pd_ixV rfl (.inl rfl) pd_int)) pas_nil)) (alen_cons (alen_cons alen_nil)))))
omit hh in
theorem nd__law_by : (["_law_one", "_law_other"] : List Str).Nodup := by decide +kernel
omit hh in
theorem sc__law_by : FnScope ["_law_one", "_law_other"] ["_law_one", "_law_other"] (defScope (top 57)) := ⟨rfl, rfl, rfl, by decide +kernel, rfl, by decide +kernel, by decide +kernel⟩
theorem D__law_by : Def P w K mg base (TT K) "_law_by" ["_law_one", "_law_other"] F__law_by 5 := def_of (k := 4) (N := ["_law_one", "_law_other"]) (m := m__law_by) (fn__law_by hh) (gl__law_by hh) sc__law_by (fun _ _ _ _ _ _ us hl => match us, hl with | [_, _], _ => rfl) fun A outer s H E hr =>
    (pbk_one (pst_ret (pd_call (D__law_low hh) (hr.mono (by decide)) takesD (pas_cons (pd_bin od_mul (pd_ixV rfl (.inl rfl) pd_int) (pd_ixV rfl (.inl rfl) pd_int)) (pas_cons (pd_bin od_mul (pd_ixV rfl (.inl rfl) pd_int) (pd_ixV rfl (.inl rfl) pd_int)) pas_nil)) (alen_cons (alen_cons alen_nil)))))
omit hh in
theorem nd__law_is_below : (["_law_one", "_law_other"] : List Str).Nodup := by decide +kernel
omit hh in
theorem sc__law_is_below : FnScope ["_law_one", "_law_other"] ["_law_one", "_law_other"] (defScope (top 58)) := ⟨rfl, rfl, rfl, by decide +kernel, rfl, by decide +kernel, by decide +kernel⟩
theorem D__law_is_below : Def P w K mg base (TT K) "_law_is_below" ["_law_one", "_law_other"] F__law_is_below 3 := def_of (k := 2) (N := ["_law_one", "_law_other"]) (m := m__law_is_below) (fn__law_is_below hh) (gl__law_is_below hh) sc__law_is_below (fun _ _ _ _ _ _ us hl => match us, hl with | [_, _], _ => rfl) fun A outer s H E hr =>
    (pbk_one (pst_ret (pd_cmp od_lt (pd_bin od_mul (pd_ixV rfl (.inl rfl) pd_int) (pd_ixV rfl (.inl rfl) pd_int)) (pd_bin od_mul (pd_ixV rfl (.inl rfl) pd_int) (pd_ixV rfl (.inl rfl) pd_int)))))
omit hh in
theorem nd__law_wishes : (["_law_stream_here", "_law_most", "_law_found", "_law_moment", "_law_bottom", "_law_k"] : List Str).Nodup := by decide +kernel
omit hh in
theorem sc__law_wishes : FnScope ["_law_stream_here", "_law_most", "_law_found", "_law_moment", "_law_bottom", "_law_k"] ["_law_stream_here", "_law_most"] (defScope (top 59)) := ⟨rfl, rfl, rfl, by decide +kernel, rfl, by decide +kernel, by decide +kernel⟩
theorem D__law_wishes : Def P w K mg base (TT K) "_law_wishes" ["_law_stream_here", "_law_most"] F__law_wishes 6 := def_of (k := 5) (N := ["_law_stream_here", "_law_most", "_law_found", "_law_moment", "_law_bottom", "_law_k"]) (m := m__law_wishes) (fn__law_wishes hh) (gl__law_wishes hh) sc__law_wishes (fun _ _ _ _ _ _ us hl => match us, hl with | [_, _], _ => rfl) fun A outer s H E hr =>
    (pbk_cons (pst_parF3 rfl nd__law_wishes rfl rfl rfl (by decide) (by decide) (by decide) rfl rfl rfl (pd_lst pas_nil) (pd_tup (pas_cons (pd_bin od_add pd_int (pd_call (D__law_draw hh) (hr.mono (by decide)) takesD (pas_cons (pd_var rfl (.inl rfl)) (pas_cons pd_int pas_nil)) (alen_cons (alen_cons alen_nil)))) (pas_cons pd_int pas_nil))) (pd_call (D__law_pick hh) (hr.mono (by decide)) takesD (pas_cons (pd_var rfl (.inl rfl)) (pas_cons (pd_lst (pas_cons pd_int (pas_cons pd_int (pas_cons pd_int (pas_cons pd_int pas_nil))))) pas_nil)) (alen_cons (alen_cons alen_nil))) rfl)
    (pbk_cons (pst_for passesD rfl (pit_range1 rfl (fr_range hh) (pas_cons (pd_bin od_add pd_int (pd_call (D__law_draw hh) (hr.mono (by decide)) takesD (pas_cons (pd_var rfl (.inl rfl)) (pas_cons (pd_var rfl (.inl rfl)) pas_nil)) (alen_cons (alen_cons alen_nil)))) pas_nil)) (pg_nm nd__law_wishes rfl (.inl rfl)) (pbk_cons (pst_expr (pd_mS md_app PySem.F.plainAttrs_list PySem.F.slot_list_append PySem.F.type_list_append rfl (.inl rfl) (pas_cons (pd_tup (pas_cons (pd_var rfl (.inl rfl)) (pas_cons (pd_call (D__law_low hh) (hr.mono (by decide)) takesD (pas_cons (pd_bin od_add pd_int (pd_call (D__law_draw hh) (hr.mono (by decide)) takesD (pas_cons (pd_var rfl (.inl rfl)) (pas_cons (pd_call (D__law_pick hh) (hr.mono (by decide)) takesD (pas_cons (pd_var rfl (.inl rfl)) (pas_cons (pd_lst (pas_cons pd_int (pas_cons pd_int (pas_cons pd_int pas_nil)))) pas_nil)) (alen_cons (alen_cons alen_nil))) pas_nil)) (alen_cons (alen_cons alen_nil)))) (pas_cons (pd_var rfl (.inl rfl)) pas_nil)) (alen_cons (alen_cons alen_nil))) pas_nil))) pas_nil)))
    (pbk_one (pst_set nd__law_wishes rfl (.inl rfl) (pd_call (D__law_plus hh) (hr.mono (by decide)) takesD (pas_cons (pd_var rfl (.inl rfl)) (pas_cons (pd_call (D__law_low hh) (hr.mono (by decide)) takesD (pas_cons (pd_bin od_add pd_int (pd_call (D__law_draw hh) (hr.mono (by decide)) takesD (pas_cons (pd_var rfl (.inl rfl)) (pas_cons (pd_call (D__law_pick hh) (hr.mono (by decide)) takesD (pas_cons (pd_var rfl (.inl rfl)) (pas_cons (pd_lst (pas_cons pd_int (pas_cons pd_int (pas_cons pd_int pas_nil)))) pas_nil)) (alen_cons (alen_cons alen_nil))) pas_nil)) (alen_cons (alen_cons alen_nil)))) (pas_cons (pd_var rfl (.inl rfl)) pas_nil)) (alen_cons (alen_cons alen_nil))) pas_nil)) (alen_cons (alen_cons alen_nil)))))))
    (pbk_one (pst_ret (pd_move rfl (.inl rfl))))))
omit hh in
theorem nd__law_worths : (["_law_stream_here", "_law_early", "_law_some"] : List Str).Nodup := by decide +kernel
omit hh in
theorem sc__law_worths : FnScope ["_law_stream_here", "_law_early", "_law_some"] ["_law_stream_here"] (defScope (top 60)) := ⟨rfl, rfl, rfl, by decide +kernel, rfl, by decide +kernel, by decide +kernel⟩
theorem D__law_worths : Def P w K mg base (TT K) "_law_worths" ["_law_stream_here"] F__law_worths 5 := def_of (k := 4) (N := ["_law_stream_here", "_law_early", "_law_some"]) (m := m__law_worths) (fn__law_worths hh) (gl__law_worths hh) sc__law_worths (fun _ _ _ _ _ _ us hl => match us, hl with | [_], _ => rfl) fun A outer s H E hr =>
    (pbk_cons (pst_set nd__law_worths rfl (.inl rfl) (pd_call (D__law_low hh) (hr.mono (by decide)) takesD (pas_cons (pd_bin od_add pd_int (pd_call (D__law_draw hh) (hr.mono (by decide)) takesD (pas_cons (pd_var rfl (.inl rfl)) (pas_cons pd_int pas_nil)) (alen_cons (alen_cons alen_nil)))) (pas_cons pd_int pas_nil)) (alen_cons (alen_cons alen_nil))))
    (pbk_cons (pst_set nd__law_worths rfl (.inl rfl) (pd_lst (pas_cons (pd_tup (pas_cons pd_int (pas_cons pd_int pas_nil))) (pas_cons (pd_tup (pas_cons pd_int (pas_cons pd_int pas_nil))) (pas_cons (pd_tup (pas_cons pd_int (pas_cons pd_int pas_nil))) (pas_cons (pd_var rfl (.inl rfl)) (pas_cons (pd_call (D__law_low hh) (hr.mono (by decide)) takesD (pas_cons (pd_bin od_add pd_int (pd_call (D__law_draw hh) (hr.mono (by decide)) takesD (pas_cons (pd_var rfl (.inl rfl)) (pas_cons pd_int pas_nil)) (alen_cons (alen_cons alen_nil)))) (pas_cons (pd_bin od_add pd_int (pd_call (D__law_draw hh) (hr.mono (by decide)) takesD (pas_cons (pd_var rfl (.inl rfl)) (pas_cons pd_int pas_nil)) (alen_cons (alen_cons alen_nil)))) pas_nil)) (alen_cons (alen_cons alen_nil))) pas_nil)))))))
    (pbk_one (pst_ret (pd_tup (pas_cons (pd_var rfl (.inl rfl)) (pas_cons (pd_call (D__law_pick hh) (hr.mono (by decide)) takesD (pas_cons (pd_var rfl (.inl rfl)) (pas_cons (pd_var rfl (.inl rfl)) pas_nil)) (alen_cons (alen_cons alen_nil))) pas_nil)))))))
omit hh in
theorem nd__law_none_more : (["_law_found", "_law_due", "_law_one", "_law_other"] : List Str).Nodup := by decide +kernel
omit hh in
theorem sc__law_none_more : FnScope ["_law_found", "_law_due", "_law_one", "_law_other"] ["_law_found", "_law_due"] (defScope (top 61)) := ⟨rfl, rfl, rfl, by decide +kernel, rfl, by decide +kernel, by decide +kernel⟩
theorem D__law_none_more : Def P w K mg base (TT K) "_law_none_more" ["_law_found", "_law_due"] F__law_none_more 4 := def_of (k := 3) (N := ["_law_found", "_law_due", "_law_one", "_law_other"]) (m := m__law_none_more) (fn__law_none_more hh) (gl__law_none_more hh) sc__law_none_more (fun _ _ _ _ _ _ us hl => match us, hl with | [_, _], _ => rfl) fun A outer s H E hr =>
    (pbk_one (pst_ret (pd_and (pd_cmp (od_eq (units_of hr)) (pd_b1 cb_len rfl (fr_len hh) (by decide +kernel) (pb_var rfl (.inl rfl))) (pd_b1 cb_len rfl (fr_len hh) (by decide +kernel) (pb_var rfl (.inl rfl)))) (pd_one (pd_not (pd_b1 (cb_any rfl) rfl (fr_any hh) (by decide +kernel) (pb_of (pd_lc (own := [("_law_one", 2), ("_law_other", 3)]) rfl nd__law_none_more (pit_zip2 rfl (fr_zip hh) (pas_cons (pd_var rfl (.inl rfl)) (pas_cons (pd_var rfl (.inl rfl)) pas_nil))) (blkOk_by (show blkC ["_law_found", "_law_due", "_law_one", "_law_other"] (defScope (top 61)) _ _ = true by decide +kernel)) (by decide) (fun _ _ _ _ _ => (pg_tp rfl (pgts_cons (pg_nm nd__law_none_more rfl (.inl rfl)) (pgts_cons (pg_nm nd__law_none_more rfl (.inl rfl)) pgts_nil)))) (fun _ _ _ _ _ => ptst_nil) (fun _ _ _ _ _ => (pd_call (D__law_is_below hh) (hr.mono (by decide)) TD.takes0 (pas_cons (pd_var rfl (.inl rfl)) (pas_cons (pd_var rfl (.inl rfl)) pas_nil)) (alen_cons (alen_cons alen_nil))))))))))))
omit hh in
theorem nd__law_times_as : (["_law_comers", "_law_many", "_law_moment", "_law_rate"] : List Str).Nodup := by decide +kernel
omit hh in
theorem sc__law_times_as : FnScope ["_law_comers", "_law_many", "_law_moment", "_law_rate"] ["_law_comers", "_law_many"] (defScope (top 62)) := ⟨rfl, rfl, rfl, by decide +kernel, rfl, by decide +kernel, by decide +kernel⟩
theorem D__law_times_as : Def P w K mg base (TT K) "_law_times_as" ["_law_comers", "_law_many"] F__law_times_as 6 := def_of (k := 5) (N := ["_law_comers", "_law_many", "_law_moment", "_law_rate"]) (m := m__law_times_as) (fn__law_times_as hh) (gl__law_times_as hh) sc__law_times_as (fun _ _ _ _ _ _ us hl => match us, hl with | [_, _], _ => rfl) fun A outer s H E hr =>
    (pbk_one (pst_ret (pd_lc (own := [("_law_moment", 2), ("_law_rate", 3)]) rfl nd__law_times_as (pit_seq (pd_var rfl (.inl rfl))) (blkOk_by (show blkC ["_law_comers", "_law_many", "_law_moment", "_law_rate"] (defScope (top 62)) _ _ = true by decide +kernel)) (by decide) (fun _ _ _ _ _ => (pg_tp rfl (pgts_cons (pg_nm nd__law_times_as rfl (.inl rfl)) (pgts_cons (pg_nm nd__law_times_as rfl (.inl rfl)) pgts_nil)))) (fun _ _ _ _ _ => ptst_nil) (fun _ _ _ _ _ => (pd_tup (pas_cons (pd_var rfl (.inl rfl)) (pas_cons (pd_call (D__law_times hh) (hr.mono (by decide)) TD.takes0 (pas_cons (pd_var rfl (.inl rfl)) (pas_cons (pd_tup (pas_cons (pd_var rfl (.inr (.inl rfl))) (pas_cons pd_int pas_nil))) pas_nil)) (alen_cons (alen_cons alen_nil))) pas_nil)))))))
omit hh in
theorem nd__law_put_off : (["_law_comers", "_law_beats", "_law_moved", "_law_moment", "_law_rate"] : List Str).Nodup := by decide +kernel
omit hh in
theorem sc__law_put_off : FnScope ["_law_comers", "_law_beats", "_law_moved", "_law_moment", "_law_rate"] ["_law_comers", "_law_beats"] (defScope (top 63)) := ⟨rfl, rfl, rfl, by decide +kernel, rfl, by decide +kernel, by decide +kernel⟩
theorem D__law_put_off : Def P w K mg base (TT K) "_law_put_off" ["_law_comers", "_law_beats"] F__law_put_off 6 := def_of (k := 5) (N := ["_law_comers", "_law_beats", "_law_moved", "_law_moment", "_law_rate"]) (m := m__law_put_off) (fn__law_put_off hh) (gl__law_put_off hh) sc__law_put_off (fun _ _ _ _ _ _ us hl => match us, hl with | [_, _], _ => rfl) fun A outer s H E hr =>
    (pbk_cons (pst_setLc (own := [("_law_moment", 3), ("_law_rate", 4)]) rfl nd__law_put_off rfl rfl (L2.sw_true rfl rfl rfl rfl) (pit_seq (pd_var rfl (.inl rfl))) (blkOk_by (show blkC ["_law_comers", "_law_beats", "_law_moved", "_law_moment", "_law_rate"] (defScope (top 63)) _ _ = true by decide +kernel)) (by decide) (fun _ _ _ _ _ => (pg_tp rfl (pgts_cons (pg_nm nd__law_put_off rfl (.inl rfl)) (pgts_cons (pg_nm nd__law_put_off rfl (.inl rfl)) pgts_nil)))) (fun _ _ _ _ _ => (ptst_one (pc_pw (pw_orM (pc_cmp od_gt (pd_ixV rfl (.inl rfl) pd_int) pd_int) (pw_one (pc_cmp od_gt (pd_ixV rfl (.inl rfl) pd_int) pd_int)))))) (fun _ _ _ _ _ => (pd_tup (pas_cons (pd_call (D__law_plus hh) (hr.mono (by decide)) TD.takes0 (pas_cons (pd_var rfl (.inl rfl)) (pas_cons (pd_var rfl (.inr (.inl rfl))) pas_nil)) (alen_cons (alen_cons alen_nil))) (pas_cons (pd_var rfl (.inl rfl)) pas_nil)))))
    (pbk_one (pst_ret (pd_bin od_add (pd_lst (pas_cons (pd_tup (pas_cons (pd_tup (pas_cons pd_int (pas_cons pd_int pas_nil))) (pas_cons (pd_tup (pas_cons pd_int (pas_cons pd_int pas_nil))) pas_nil))) pas_nil)) (pd_var rfl (.inl rfl))))))
omit hh in
theorem nd__law_alone_right : (["_law_room", "_law_length", "_law_wish", "_law_early", "_law_late", "_law_due", "_law_half", "_law_found"] : List Str).Nodup := by decide +kernel
omit hh in
theorem sc__law_alone_right : FnScope ["_law_room", "_law_length", "_law_wish", "_law_early", "_law_late", "_law_due", "_law_half", "_law_found"] ["_law_room", "_law_length", "_law_wish", "_law_early", "_law_late"] (defScope (top 64)) := ⟨rfl, rfl, rfl, by decide +kernel, rfl, by decide +kernel, by decide +kernel⟩
theorem D__law_alone_right : Def P w K mg base (TT K) "_law_alone_right" ["_law_room", "_law_length", "_law_wish", "_law_early", "_law_late"] F__law_alone_right 12 := def_of (k := 11) (N := ["_law_room", "_law_length", "_law_wish", "_law_early", "_law_late", "_law_due", "_law_half", "_law_found"]) (m := m__law_alone_right) (fn__law_alone_right hh) (gl__law_alone_right hh) sc__law_alone_right (fun _ _ _ _ _ _ us hl => match us, hl with | [_, _, _, _, _], _ => rfl) fun A outer s H E hr =>
    (pbk_cons (pst_set nd__law_alone_right rfl (.inl rfl) (pd_call (D__law_by hh) (hr.mono (by decide)) takesD (pas_cons (pd_call (D__law_times hh) (hr.mono (by decide)) takesD (pas_cons (pd_var rfl (.inl rfl)) (pas_cons (pd_var rfl (.inl rfl)) pas_nil)) (alen_cons (alen_cons alen_nil))) (pas_cons (pd_call (D__law_plus hh) (hr.mono (by decide)) takesD (pas_cons (pd_var rfl (.inl rfl)) (pas_cons (pd_var rfl (.inl rfl)) pas_nil)) (alen_cons (alen_cons alen_nil))) pas_nil)) (alen_cons (alen_cons alen_nil))))
    (pbk_cons (pst_set nd__law_alone_right rfl (.inl rfl) (pd_call (D__law_times hh) (hr.mono (by decide)) takesD (pas_cons (pd_var rfl (.inl rfl)) (pas_cons (pd_call (D__law_by hh) (hr.mono (by decide)) takesD (pas_cons (pd_ixV rfl (.inl rfl) pd_int) (pas_cons (pd_tup (pas_cons (pd_var rfl (.inl rfl)) (pas_cons pd_int pas_nil))) pas_nil)) (alen_cons (alen_cons alen_nil))) pas_nil)) (alen_cons (alen_cons alen_nil))))
    (pbk_cons (pst_set nd__law_alone_right rfl (.inl rfl) (pd_call (D__law_times hh) (hr.mono (by decide)) takesD (pas_cons (pd_call (D__law_times hh) (hr.mono (by decide)) takesD (pas_cons (pd_ixV rfl (.inl rfl) pd_int) (pas_cons (pd_var rfl (.inl rfl)) pas_nil)) (alen_cons (alen_cons alen_nil))) (pas_cons (pd_tup (pas_cons pd_int (pas_cons pd_int pas_nil))) pas_nil)) (alen_cons (alen_cons alen_nil))))
    (pbk_cons (pst_set nd__law_alone_right rfl (.inl rfl) (pd_lst (pas_cons (pd_call (D_troubles hh) (hr.mono (by decide)) takesD (pas_cons (pd_var rfl (.inl rfl)) (pas_cons (pd_var rfl (.inl rfl)) (pas_cons (pd_lst (pas_cons (pd_var rfl (.inl rfl)) pas_nil)) (pas_cons (pd_var rfl (.inl rfl)) (pas_cons (pd_var rfl (.inl rfl)) pas_nil))))) (alen_cons (alen_cons (alen_cons (alen_cons (alen_cons alen_nil)))))) (pas_cons (pd_call (D_paid hh) (hr.mono (by decide)) takesD (pas_cons (pd_var rfl (.inl rfl)) (pas_cons (pd_var rfl (.inl rfl)) (pas_cons (pd_lst (pas_cons (pd_var rfl (.inl rfl)) pas_nil)) (pas_cons (pd_var rfl (.inl rfl)) (pas_cons (pd_var rfl (.inl rfl)) pas_nil))))) (alen_cons (alen_cons (alen_cons (alen_cons (alen_cons alen_nil)))))) pas_nil))))
    (pbk_one (pst_ret (pd_call (D__law_same hh 8) (hr.mono (by decide)) takesD (pas_cons (pd_var rfl (.inl rfl)) (pas_cons (pd_lst (pas_cons (pd_lst (pas_cons (pd_var rfl (.inl rfl)) pas_nil)) (pas_cons (pd_var rfl (.inl rfl)) pas_nil))) pas_nil)) (alen_cons (alen_cons alen_nil)))))))))
omit hh in
theorem nd_law : (["_law_script", "_law_stream_here", "_law_turn", "_law_room", "_law_length", "_law_wishes_here", "_law_early", "_law_late", "_law_base", "_law_wide", "_law_at", "_law_more", "_law_greater", "_law_beats", "_law_many", "_law_later", "_law_twice", "_law_setting", "_law_due", "_law_moment", "_law_heap", "_law_comers"] : List Str).Nodup := by decide +kernel
omit hh in
theorem sc_law : FnScope ["_law_script", "_law_stream_here", "_law_turn", "_law_room", "_law_length", "_law_wishes_here", "_law_early", "_law_late", "_law_base", "_law_wide", "_law_at", "_law_more", "_law_greater", "_law_beats", "_law_many", "_law_later", "_law_twice", "_law_setting", "_law_due", "_law_moment", "_law_heap", "_law_comers"] ["_law_script"] (defScope (top 65)) := ⟨rfl, rfl, rfl, by decide +kernel, rfl, by decide +kernel, by decide +kernel⟩
theorem D_law : Def P w K mg base (TT K) "law" ["_law_script"] F_law 13 := def_of (k := 12) (N := ["_law_script", "_law_stream_here", "_law_turn", "_law_room", "_law_length", "_law_wishes_here", "_law_early", "_law_late", "_law_base", "_law_wide", "_law_at", "_law_more", "_law_greater", "_law_beats", "_law_many", "_law_later", "_law_twice", "_law_setting", "_law_due", "_law_moment", "_law_heap", "_law_comers"]) (m := m_law) (fn_law hh) (gl_law hh) sc_law (fun _ _ _ _ _ _ us hl => match us, hl with | [_], _ => rfl) fun A outer s H E hr =>
    (pbk_cons (pst_set nd_law rfl (.inl rfl) (pd_box (pd_call (D__law_stream hh) (hr.mono (by decide)) takesD (pas_cons (pd_var rfl (.inl rfl)) pas_nil) (alen_cons alen_nil))))
    (pbk_cons (pst_for passesD rfl (pit_range1 rfl (fr_range hh) (pas_cons pd_int pas_nil)) (pg_nm nd_law rfl (.inl rfl)) (pbk_cons (pst_parF rfl nd_law rfl rfl (by decide) rfl rfl (pd_bin od_add pd_int (pd_call (D__law_draw hh) (hr.mono (by decide)) takesD (pas_cons (pd_var rfl (.inl rfl)) (pas_cons pd_int pas_nil)) (alen_cons (alen_cons alen_nil)))) (pd_bin od_add pd_int (pd_call (D__law_draw hh) (hr.mono (by decide)) takesD (pas_cons (pd_var rfl (.inl rfl)) (pas_cons pd_int pas_nil)) (alen_cons (alen_cons alen_nil)))) rfl)
    (pbk_cons (pst_asg (pd_tup (pas_cons (pd_call (D__law_wishes hh) (hr.mono (by decide)) takesD (pas_cons (pd_var rfl (.inl rfl)) (pas_cons pd_int pas_nil)) (alen_cons (alen_cons alen_nil))) (pas_cons (pd_call (D__law_worths hh) (hr.mono (by decide)) takesD (pas_cons (pd_var rfl (.inl rfl)) pas_nil) (alen_cons alen_nil)) pas_nil))) (pg_tp rfl (pgts_cons (pg_nm nd_law rfl (.inl rfl)) (pgts_cons (pg_tp rfl (pgts_cons (pg_nm nd_law rfl (.inl rfl)) (pgts_cons (pg_nm nd_law rfl (.inl rfl)) pgts_nil))) pgts_nil))))
    (pbk_cons (pst_set nd_law rfl (.inl rfl) (pd_call (D_troubles hh) (hr.mono (by decide)) takesD (pas_cons (pd_var rfl (.inl rfl)) (pas_cons (pd_var rfl (.inl rfl)) (pas_cons (pd_var rfl (.inl rfl)) (pas_cons (pd_var rfl (.inl rfl)) (pas_cons (pd_var rfl (.inl rfl)) pas_nil))))) (alen_cons (alen_cons (alen_cons (alen_cons (alen_cons alen_nil)))))))
    (pbk_cons (pst_set nd_law rfl (.inl rfl) (pd_call (D_troubles hh) (hr.mono (by decide)) takesD (pas_cons (pd_bin od_add (pd_bin od_add (pd_var rfl (.inl rfl)) pd_int) (pd_call (D__law_draw hh) (hr.mono (by decide)) takesD (pas_cons (pd_var rfl (.inl rfl)) (pas_cons pd_int pas_nil)) (alen_cons (alen_cons alen_nil)))) (pas_cons (pd_var rfl (.inl rfl)) (pas_cons (pd_var rfl (.inl rfl)) (pas_cons (pd_var rfl (.inl rfl)) (pas_cons (pd_var rfl (.inl rfl)) pas_nil))))) (alen_cons (alen_cons (alen_cons (alen_cons (alen_cons alen_nil)))))))
    (pbk_cons (pst_parF rfl nd_law rfl rfl (by decide) rfl rfl (pd_call (D__law_draw hh) (hr.mono (by decide)) takesD (pas_cons (pd_var rfl (.inl rfl)) (pas_cons (pd_b1 cb_len rfl (fr_len hh) (by decide +kernel) (pb_var rfl (.inl rfl))) pas_nil)) (alen_cons (alen_cons alen_nil))) (pd_call (D__law_low hh) (hr.mono (by decide)) takesD (pas_cons (pd_bin od_add pd_int (pd_call (D__law_draw hh) (hr.mono (by decide)) takesD (pas_cons (pd_var rfl (.inl rfl)) (pas_cons pd_int pas_nil)) (alen_cons (alen_cons alen_nil)))) (pas_cons pd_int pas_nil)) (alen_cons (alen_cons alen_nil))) rfl)
    (pbk_cons (pst_set nd_law rfl (.inl rfl) (pd_bin od_add (pd_bin od_add (pd_slV rfl (.inl rfl) pp_none (pp_some (pd_var rfl (.inl rfl)))) (pd_lst (pas_cons (pd_tup (pas_cons (pd_ix (pd_ixV rfl (.inl rfl) (pd_var rfl (.inl rfl))) pd_int) (pas_cons (pd_call (D__law_plus hh) (hr.mono (by decide)) takesD (pas_cons (pd_ix (pd_ixV rfl (.inl rfl) (pd_var rfl (.inl rfl))) pd_int) (pas_cons (pd_var rfl (.inl rfl)) pas_nil)) (alen_cons (alen_cons alen_nil))) pas_nil))) pas_nil))) (pd_slV rfl (.inl rfl) (pp_some (pd_bin od_add (pd_var rfl (.inl rfl)) pd_int)) pp_none)))
    (pbk_cons (pst_if (pc_pw (pw_orM (pc_not (pc_val (pd_call (D__law_none_more hh) (hr.mono (by decide)) takesD (pas_cons (pd_var rfl (.inl rfl)) (pas_cons (pd_var rfl (.inl rfl)) pas_nil)) (alen_cons (alen_cons alen_nil))))) (pw_one (pc_not (pc_val (pd_call (D__law_none_more hh) (hr.mono (by decide)) takesD (pas_cons (pd_var rfl (.inl rfl)) (pas_cons (pd_call (D_troubles hh) (hr.mono (by decide)) takesD (pas_cons (pd_var rfl (.inl rfl)) (pas_cons (pd_var rfl (.inl rfl)) (pas_cons (pd_var rfl (.inl rfl)) (pas_cons (pd_var rfl (.inl rfl)) (pas_cons (pd_var rfl (.inl rfl)) pas_nil))))) (alen_cons (alen_cons (alen_cons (alen_cons (alen_cons alen_nil)))))) pas_nil)) (alen_cons (alen_cons alen_nil)))))))) (pbk_one (pst_ret pd_bl)) pbk_nil)
    (pbk_cons (pst_if (pc_not (pc_val (pd_call (D__law_alone_right hh) (hr.mono (by decide)) takesD (pas_cons (pd_var rfl (.inl rfl)) (pas_cons (pd_var rfl (.inl rfl)) (pas_cons (pd_ixV rfl (.inl rfl) (pd_var rfl (.inl rfl))) (pas_cons (pd_var rfl (.inl rfl)) (pas_cons (pd_var rfl (.inl rfl)) pas_nil))))) (alen_cons (alen_cons (alen_cons (alen_cons (alen_cons alen_nil)))))))) (pbk_one (pst_ret pd_bl)) pbk_nil)
    (pbk_cons (pst_asg (pd_tup (pas_cons (pd_tup (pas_cons (pd_bin od_add pd_int (pd_call (D__law_draw hh) (hr.mono (by decide)) takesD (pas_cons (pd_var rfl (.inl rfl)) (pas_cons pd_int pas_nil)) (alen_cons (alen_cons alen_nil)))) (pas_cons pd_int pas_nil))) (pas_cons pd_int pas_nil))) (pg_tp rfl (pgts_cons (pg_nm nd_law rfl (.inr rfl)) (pgts_cons (pg_nm nd_law rfl (.inr rfl)) pgts_nil))))
    (pbk_cons (pst_setLc (own := [("_law_moment", 19), ("_law_heap", 20)]) rfl nd_law rfl rfl (L2.sw_true rfl rfl rfl rfl) (pit_seq (pd_var rfl (.inl rfl))) (blkOk_by (show blkC ["_law_script", "_law_stream_here", "_law_turn", "_law_room", "_law_length", "_law_wishes_here", "_law_early", "_law_late", "_law_base", "_law_wide", "_law_at", "_law_more", "_law_greater", "_law_beats", "_law_many", "_law_later", "_law_twice", "_law_setting", "_law_due", "_law_moment", "_law_heap", "_law_comers"] (defScope (top 65)) _ _ = true by decide +kernel)) (by decide) (fun _ _ _ _ _ => (pg_tp rfl (pgts_cons (pg_nm nd_law rfl (.inl rfl)) (pgts_cons (pg_nm nd_law rfl (.inl rfl)) pgts_nil)))) (fun _ _ _ _ _ => ptst_nil) (fun _ _ _ _ _ => (pd_tup (pas_cons (pd_call (D__law_plus hh) (hr.mono (by decide)) TD.takes0 (pas_cons (pd_var rfl (.inl rfl)) (pas_cons (pd_var rfl (.inr (.inl rfl))) pas_nil)) (alen_cons (alen_cons alen_nil))) (pas_cons (pd_var rfl (.inl rfl)) pas_nil)))))
    (pbk_cons (pst_if (pc_not (pc_val (pd_call (D__law_same hh 8) (hr.mono (by decide)) takesD (pas_cons (pd_call (D_troubles hh) (hr.mono (by decide)) takesD (pas_cons (pd_var rfl (.inl rfl)) (pas_cons (pd_bin od_add pd_int (pd_call (D__law_draw hh) (hr.mono (by decide)) takesD (pas_cons (pd_var rfl (.inl rfl)) (pas_cons pd_int pas_nil)) (alen_cons (alen_cons alen_nil)))) (pas_cons (pd_var rfl (.inl rfl)) (pas_cons (pd_var rfl (.inl rfl)) (pas_cons (pd_var rfl (.inl rfl)) pas_nil))))) (alen_cons (alen_cons (alen_cons (alen_cons (alen_cons alen_nil)))))) (pas_cons (pd_var rfl (.inl rfl)) pas_nil)) (alen_cons (alen_cons alen_nil))))) (pbk_one (pst_ret pd_bl)) pbk_nil)
    (pbk_cons (pst_setLc (own := [("_law_moment", 19), ("_law_heap", 20)]) rfl nd_law rfl rfl (L2.sw_true rfl rfl rfl rfl) (pit_seq (pd_var rfl (.inl rfl))) (blkOk_by (show blkC ["_law_script", "_law_stream_here", "_law_turn", "_law_room", "_law_length", "_law_wishes_here", "_law_early", "_law_late", "_law_base", "_law_wide", "_law_at", "_law_more", "_law_greater", "_law_beats", "_law_many", "_law_later", "_law_twice", "_law_setting", "_law_due", "_law_moment", "_law_heap", "_law_comers"] (defScope (top 65)) _ _ = true by decide +kernel)) (by decide) (fun _ _ _ _ _ => (pg_tp rfl (pgts_cons (pg_nm nd_law rfl (.inl rfl)) (pgts_cons (pg_nm nd_law rfl (.inl rfl)) pgts_nil)))) (fun _ _ _ _ _ => (ptst_one (pc_not (pc_val (pd_call (D__law_is_below hh) (hr.mono (by decide)) TD.takes0 (pas_cons (pd_tup (pas_cons pd_int (pas_cons pd_int pas_nil))) (pas_cons (pd_var rfl (.inl rfl)) pas_nil)) (alen_cons (alen_cons alen_nil))))))) (fun _ _ _ _ _ => (pd_tup (pas_cons (pd_var rfl (.inl rfl)) (pas_cons (pd_call (D__law_times hh) (hr.mono (by decide)) TD.takes0 (pas_cons (pd_var rfl (.inl rfl)) (pas_cons (pd_tup (pas_cons (pd_var rfl (.inr (.inl rfl))) (pas_cons pd_int pas_nil))) pas_nil)) (alen_cons (alen_cons alen_nil))) pas_nil)))))
    (pbk_cons (pst_if (pc_pw (pw_andM (pc_cmp (od_eq (units_of hr)) (pd_b1 cb_len rfl (fr_len hh) (by decide +kernel) (pb_var rfl (.inl rfl))) (pd_b1 cb_len rfl (fr_len hh) (by decide +kernel) (pb_var rfl (.inl rfl)))) (pw_one (pc_not (pc_val (pd_call (D__law_same hh 8) (hr.mono (by decide)) takesD (pas_cons (pd_call (D_troubles hh) (hr.mono (by decide)) takesD (pas_cons (pd_bin od_mul (pd_var rfl (.inr (.inl rfl))) (pd_var rfl (.inl rfl))) (pas_cons (pd_var rfl (.inl rfl)) (pas_cons (pd_var rfl (.inl rfl)) (pas_cons (pd_var rfl (.inl rfl)) (pas_cons (pd_var rfl (.inl rfl)) pas_nil))))) (alen_cons (alen_cons (alen_cons (alen_cons (alen_cons alen_nil)))))) (pas_cons (pd_var rfl (.inl rfl)) pas_nil)) (alen_cons (alen_cons alen_nil)))))))) (pbk_one (pst_ret pd_bl)) pbk_nil)
    (pbk_cons (pst_if (pc_val (pd_call (D__law_is_below hh) (hr.mono (by decide)) takesD (pas_cons (pd_ix (pd_ix (pd_call (D_stretches hh) (hr.mono (by decide)) takesD (pas_cons (pd_var rfl (.inl rfl)) (pas_cons (pd_var rfl (.inl rfl)) (pas_cons (pd_var rfl (.inl rfl)) (pas_cons (pd_var rfl (.inl rfl)) (pas_cons (pd_var rfl (.inl rfl)) pas_nil))))) (alen_cons (alen_cons (alen_cons (alen_cons (alen_cons alen_nil)))))) pd_int) pd_int) (pas_cons (pd_tup (pas_cons (pd_var rfl (.inl rfl)) (pas_cons pd_int pas_nil))) pas_nil)) (alen_cons (alen_cons alen_nil)))) (pbk_one pst_continue) pbk_nil)
    (pbk_cons (pst_set nd_law rfl (.inl rfl) (pd_call (D_settled hh) (hr.mono (by decide)) takesD (pas_cons (pd_var rfl (.inl rfl)) (pas_cons (pd_var rfl (.inl rfl)) (pas_cons (pd_var rfl (.inl rfl)) (pas_cons (pd_var rfl (.inl rfl)) (pas_cons (pd_var rfl (.inl rfl)) pas_nil))))) (alen_cons (alen_cons (alen_cons (alen_cons (alen_cons alen_nil)))))))
    (pbk_cons (pst_setLc (own := [("_law_comers", 21)]) rfl nd_law rfl rfl (L2.sw_true rfl rfl rfl rfl) (pit_seq (pd_var rfl (.inl rfl))) (blkOk_by (show blkC ["_law_script", "_law_stream_here", "_law_turn", "_law_room", "_law_length", "_law_wishes_here", "_law_early", "_law_late", "_law_base", "_law_wide", "_law_at", "_law_more", "_law_greater", "_law_beats", "_law_many", "_law_later", "_law_twice", "_law_setting", "_law_due", "_law_moment", "_law_heap", "_law_comers"] (defScope (top 65)) _ _ = true by decide +kernel)) (by decide) (fun _ _ _ _ _ => (pg_nm nd_law rfl (.inl rfl))) (fun _ _ _ _ _ => ptst_nil) (fun _ _ _ _ _ => (pd_call (D__law_put_off hh) (hr.mono (by decide)) TD.takes0 (pas_cons (pd_var rfl (.inl rfl)) (pas_cons (pd_var rfl (.inr (.inl rfl))) pas_nil)) (alen_cons (alen_cons alen_nil)))))
    (pbk_cons (pst_if (pc_not (pc_val (pd_call (D__law_same hh 8) (hr.mono (by decide)) takesD (pas_cons (pd_call (D_settled hh) (hr.mono (by decide)) takesD (pas_cons (pd_var rfl (.inl rfl)) (pas_cons (pd_var rfl (.inl rfl)) (pas_cons (pd_var rfl (.inl rfl)) (pas_cons (pd_var rfl (.inl rfl)) (pas_cons (pd_var rfl (.inl rfl)) pas_nil))))) (alen_cons (alen_cons (alen_cons (alen_cons (alen_cons alen_nil)))))) (pas_cons (pd_var rfl (.inl rfl)) pas_nil)) (alen_cons (alen_cons alen_nil))))) (pbk_one (pst_ret pd_bl)) pbk_nil)
    (pbk_one (pst_if (pc_cmp (od_eq (units_of hr)) (pd_b1 cb_len rfl (fr_len hh) (by decide +kernel) (pb_var rfl (.inl rfl))) (pd_b1 cb_len rfl (fr_len hh) (by decide +kernel) (pb_var rfl (.inl rfl)))) (pbk_cons (pst_setLc (own := [("_law_comers", 21)]) rfl nd_law rfl rfl (L2.sw_true rfl rfl rfl rfl) (pit_seq (pd_var rfl (.inl rfl))) (blkOk_by (show blkC ["_law_script", "_law_stream_here", "_law_turn", "_law_room", "_law_length", "_law_wishes_here", "_law_early", "_law_late", "_law_base", "_law_wide", "_law_at", "_law_more", "_law_greater", "_law_beats", "_law_many", "_law_later", "_law_twice", "_law_setting", "_law_due", "_law_moment", "_law_heap", "_law_comers"] (defScope (top 65)) _ _ = true by decide +kernel)) (by decide) (fun _ _ _ _ _ => (pg_nm nd_law rfl (.inl rfl))) (fun _ _ _ _ _ => ptst_nil) (fun _ _ _ _ _ => (pd_call (D__law_times_as hh) (hr.mono (by decide)) TD.takes0 (pas_cons (pd_var rfl (.inl rfl)) (pas_cons (pd_var rfl (.inr (.inl rfl))) pas_nil)) (alen_cons (alen_cons alen_nil)))))
    (pbk_one (pst_if (pc_not (pc_val (pd_call (D__law_same hh 8) (hr.mono (by decide)) takesD (pas_cons (pd_call (D_settled hh) (hr.mono (by decide)) takesD (pas_cons (pd_bin od_mul (pd_var rfl (.inr (.inl rfl))) (pd_var rfl (.inl rfl))) (pas_cons (pd_var rfl (.inl rfl)) (pas_cons (pd_var rfl (.inl rfl)) (pas_cons (pd_var rfl (.inl rfl)) (pas_cons (pd_var rfl (.inl rfl)) pas_nil))))) (alen_cons (alen_cons (alen_cons (alen_cons (alen_cons alen_nil)))))) (pas_cons (pd_var rfl (.inl rfl)) pas_nil)) (alen_cons (alen_cons alen_nil))))) (pbk_one (pst_ret pd_bl)) pbk_nil))) pbk_nil))))))))))))))))))))
    (pbk_one (pst_ret pd_bl))))
theorem OK_law {fd : FuncData} (FD : FunD K "law" "law" (defArgs (top 65)) (defBody (top 65)) (defScope (top 65)) [] [] (He.ga K "law") fd) : FnOk P w K mg base (L2.CX P w) 13 (He.ga K "law") fd ["_law_script"] (spT K (TT K) F_law 1) := def_fd (k := 12) (N := ["_law_script", "_law_stream_here", "_law_turn", "_law_room", "_law_length", "_law_wishes_here", "_law_early", "_law_late", "_law_base", "_law_wide", "_law_at", "_law_more", "_law_greater", "_law_beats", "_law_many", "_law_later", "_law_twice", "_law_setting", "_law_due", "_law_moment", "_law_heap", "_law_comers"]) (m := m_law) FD sc_law (fun _ _ _ _ _ _ us hl => match us, hl with | [_], _ => rfl) fun A outer s H E hr =>
    (pbk_cons (pst_set nd_law rfl (.inl rfl) (pd_box (pd_call (D__law_stream hh) (hr.mono (by decide)) takesD (pas_cons (pd_var rfl (.inl rfl)) pas_nil) (alen_cons alen_nil))))
    (pbk_cons (pst_for passesD rfl (pit_range1 rfl (fr_range hh) (pas_cons pd_int pas_nil)) (pg_nm nd_law rfl (.inl rfl)) (pbk_cons (pst_parF rfl nd_law rfl rfl (by decide) rfl rfl (pd_bin od_add pd_int (pd_call (D__law_draw hh) (hr.mono (by decide)) takesD (pas_cons (pd_var rfl (.inl rfl)) (pas_cons pd_int pas_nil)) (alen_cons (alen_cons alen_nil)))) (pd_bin od_add pd_int (pd_call (D__law_draw hh) (hr.mono (by decide)) takesD (pas_cons (pd_var rfl (.inl rfl)) (pas_cons pd_int pas_nil)) (alen_cons (alen_cons alen_nil)))) rfl)
    (pbk_cons (pst_asg (pd_tup (pas_cons (pd_call (D__law_wishes hh) (hr.mono (by decide)) takesD (pas_cons (pd_var rfl (.inl rfl)) (pas_cons pd_int pas_nil)) (alen_cons (alen_cons alen_nil))) (pas_cons (pd_call (D__law_worths hh) (hr.mono (by decide)) takesD (pas_cons (pd_var rfl (.inl rfl)) pas_nil) (alen_cons alen_nil)) pas_nil))) (pg_tp rfl (pgts_cons (pg_nm nd_law rfl (.inl rfl)) (pgts_cons (pg_tp rfl (pgts_cons (pg_nm nd_law rfl (.inl rfl)) (pgts_cons (pg_nm nd_law rfl (.inl rfl)) pgts_nil))) pgts_nil))))
    (pbk_cons (pst_set nd_law rfl (.inl rfl) (pd_call (D_troubles hh) (hr.mono (by decide)) takesD (pas_cons (pd_var rfl (.inl rfl)) (pas_cons (pd_var rfl (.inl rfl)) (pas_cons (pd_var rfl (.inl rfl)) (pas_cons (pd_var rfl (.inl rfl)) (pas_cons (pd_var rfl (.inl rfl)) pas_nil))))) (alen_cons (alen_cons (alen_cons (alen_cons (alen_cons alen_nil)))))))
    (pbk_cons (pst_set nd_law rfl (.inl rfl) (pd_call (D_troubles hh) (hr.mono (by decide)) takesD (pas_cons (pd_bin od_add (pd_bin od_add (pd_var rfl (.inl rfl)) pd_int) (pd_call (D__law_draw hh) (hr.mono (by decide)) takesD (pas_cons (pd_var rfl (.inl rfl)) (pas_cons pd_int pas_nil)) (alen_cons (alen_cons alen_nil)))) (pas_cons (pd_var rfl (.inl rfl)) (pas_cons (pd_var rfl (.inl rfl)) (pas_cons (pd_var rfl (.inl rfl)) (pas_cons (pd_var rfl (.inl rfl)) pas_nil))))) (alen_cons (alen_cons (alen_cons (alen_cons (alen_cons alen_nil)))))))
    (pbk_cons (pst_parF rfl nd_law rfl rfl (by decide) rfl rfl (pd_call (D__law_draw hh) (hr.mono (by decide)) takesD (pas_cons (pd_var rfl (.inl rfl)) (pas_cons (pd_b1 cb_len rfl (fr_len hh) (by decide +kernel) (pb_var rfl (.inl rfl))) pas_nil)) (alen_cons (alen_cons alen_nil))) (pd_call (D__law_low hh) (hr.mono (by decide)) takesD (pas_cons (pd_bin od_add pd_int (pd_call (D__law_draw hh) (hr.mono (by decide)) takesD (pas_cons (pd_var rfl (.inl rfl)) (pas_cons pd_int pas_nil)) (alen_cons (alen_cons alen_nil)))) (pas_cons pd_int pas_nil)) (alen_cons (alen_cons alen_nil))) rfl)
    (pbk_cons (pst_set nd_law rfl (.inl rfl) (pd_bin od_add (pd_bin od_add (pd_slV rfl (.inl rfl) pp_none (pp_some (pd_var rfl (.inl rfl)))) (pd_lst (pas_cons (pd_tup (pas_cons (pd_ix (pd_ixV rfl (.inl rfl) (pd_var rfl (.inl rfl))) pd_int) (pas_cons (pd_call (D__law_plus hh) (hr.mono (by decide)) takesD (pas_cons (pd_ix (pd_ixV rfl (.inl rfl) (pd_var rfl (.inl rfl))) pd_int) (pas_cons (pd_var rfl (.inl rfl)) pas_nil)) (alen_cons (alen_cons alen_nil))) pas_nil))) pas_nil))) (pd_slV rfl (.inl rfl) (pp_some (pd_bin od_add (pd_var rfl (.inl rfl)) pd_int)) pp_none)))
    (pbk_cons (pst_if (pc_pw (pw_orM (pc_not (pc_val (pd_call (D__law_none_more hh) (hr.mono (by decide)) takesD (pas_cons (pd_var rfl (.inl rfl)) (pas_cons (pd_var rfl (.inl rfl)) pas_nil)) (alen_cons (alen_cons alen_nil))))) (pw_one (pc_not (pc_val (pd_call (D__law_none_more hh) (hr.mono (by decide)) takesD (pas_cons (pd_var rfl (.inl rfl)) (pas_cons (pd_call (D_troubles hh) (hr.mono (by decide)) takesD (pas_cons (pd_var rfl (.inl rfl)) (pas_cons (pd_var rfl (.inl rfl)) (pas_cons (pd_var rfl (.inl rfl)) (pas_cons (pd_var rfl (.inl rfl)) (pas_cons (pd_var rfl (.inl rfl)) pas_nil))))) (alen_cons (alen_cons (alen_cons (alen_cons (alen_cons alen_nil)))))) pas_nil)) (alen_cons (alen_cons alen_nil)))))))) (pbk_one (pst_ret pd_bl)) pbk_nil)
    (pbk_cons (pst_if (pc_not (pc_val (pd_call (D__law_alone_right hh) (hr.mono (by decide)) takesD (pas_cons (pd_var rfl (.inl rfl)) (pas_cons (pd_var rfl (.inl rfl)) (pas_cons (pd_ixV rfl (.inl rfl) (pd_var rfl (.inl rfl))) (pas_cons (pd_var rfl (.inl rfl)) (pas_cons (pd_var rfl (.inl rfl)) pas_nil))))) (alen_cons (alen_cons (alen_cons (alen_cons (alen_cons alen_nil)))))))) (pbk_one (pst_ret pd_bl)) pbk_nil)
    (pbk_cons (pst_asg (pd_tup (pas_cons (pd_tup (pas_cons (pd_bin od_add pd_int (pd_call (D__law_draw hh) (hr.mono (by decide)) takesD (pas_cons (pd_var rfl (.inl rfl)) (pas_cons pd_int pas_nil)) (alen_cons (alen_cons alen_nil)))) (pas_cons pd_int pas_nil))) (pas_cons pd_int pas_nil))) (pg_tp rfl (pgts_cons (pg_nm nd_law rfl (.inr rfl)) (pgts_cons (pg_nm nd_law rfl (.inr rfl)) pgts_nil))))
    (pbk_cons (pst_setLc (own := [("_law_moment", 19), ("_law_heap", 20)]) rfl nd_law rfl rfl (L2.sw_true rfl rfl rfl rfl) (pit_seq (pd_var rfl (.inl rfl))) (blkOk_by (show blkC ["_law_script", "_law_stream_here", "_law_turn", "_law_room", "_law_length", "_law_wishes_here", "_law_early", "_law_late", "_law_base", "_law_wide", "_law_at", "_law_more", "_law_greater", "_law_beats", "_law_many", "_law_later", "_law_twice", "_law_setting", "_law_due", "_law_moment", "_law_heap", "_law_comers"] (defScope (top 65)) _ _ = true by decide +kernel)) (by decide) (fun _ _ _ _ _ => (pg_tp rfl (pgts_cons (pg_nm nd_law rfl (.inl rfl)) (pgts_cons (pg_nm nd_law rfl (.inl rfl)) pgts_nil)))) (fun _ _ _ _ _ => ptst_nil) (fun _ _ _ _ _ => (pd_tup (pas_cons (pd_call (D__law_plus hh) (hr.mono (by decide)) TD.takes0 (pas_cons (pd_var rfl (.inl rfl)) (pas_cons (pd_var rfl (.inr (.inl rfl))) pas_nil)) (alen_cons (alen_cons alen_nil))) (pas_cons (pd_var rfl (.inl rfl)) pas_nil)))))
    (pbk_cons (pst_if (pc_not (pc_val (pd_call (D__law_same hh 8) (hr.mono (by decide)) takesD (pas_cons (pd_call (D_troubles hh) (hr.mono (by decide)) takesD (pas_cons (pd_var rfl (.inl rfl)) (pas_cons (pd_bin od_add pd_int (pd_call (D__law_draw hh) (hr.mono (by decide)) takesD (pas_cons (pd_var rfl (.inl rfl)) (pas_cons pd_int pas_nil)) (alen_cons (alen_cons alen_nil)))) (pas_cons (pd_var rfl (.inl rfl)) (pas_cons (pd_var rfl (.inl rfl)) (pas_cons (pd_var rfl (.inl rfl)) pas_nil))))) (alen_cons (alen_cons (alen_cons (alen_cons (alen_cons alen_nil)))))) (pas_cons (pd_var rfl (.inl rfl)) pas_nil)) (alen_cons (alen_cons alen_nil))))) (pbk_one (pst_ret pd_bl)) pbk_nil)
    (pbk_cons (pst_setLc (own := [("_law_moment", 19), ("_law_heap", 20)]) rfl nd_law rfl rfl (L2.sw_true rfl rfl rfl rfl) (pit_seq (pd_var rfl (.inl rfl))) (blkOk_by (show blkC ["_law_script", "_law_stream_here", "_law_turn", "_law_room", "_law_length", "_law_wishes_here", "_law_early", "_law_late", "_law_base", "_law_wide", "_law_at", "_law_more", "_law_greater", "_law_beats", "_law_many", "_law_later", "_law_twice", "_law_setting", "_law_due", "_law_moment", "_law_heap", "_law_comers"] (defScope (top 65)) _ _ = true by decide +kernel)) (by decide) (fun _ _ _ _ _ => (pg_tp rfl (pgts_cons (pg_nm nd_law rfl (.inl rfl)) (pgts_cons (pg_nm nd_law rfl (.inl rfl)) pgts_nil)))) (fun _ _ _ _ _ => (ptst_one (pc_not (pc_val (pd_call (D__law_is_below hh) (hr.mono (by decide)) TD.takes0 (pas_cons (pd_tup (pas_cons pd_int (pas_cons pd_int pas_nil))) (pas_cons (pd_var rfl (.inl rfl)) pas_nil)) (alen_cons (alen_cons alen_nil))))))) (fun _ _ _ _ _ => (pd_tup (pas_cons (pd_var rfl (.inl rfl)) (pas_cons (pd_call (D__law_times hh) (hr.mono (by decide)) TD.takes0 (pas_cons (pd_var rfl (.inl rfl)) (pas_cons (pd_tup (pas_cons (pd_var rfl (.inr (.inl rfl))) (pas_cons pd_int pas_nil))) pas_nil)) (alen_cons (alen_cons alen_nil))) pas_nil)))))
    (pbk_cons (pst_if (pc_pw (pw_andM (pc_cmp (od_eq (units_of hr)) (pd_b1 cb_len rfl (fr_len hh) (by decide +kernel) (pb_var rfl (.inl rfl))) (pd_b1 cb_len rfl (fr_len hh) (by decide +kernel) (pb_var rfl (.inl rfl)))) (pw_one (pc_not (pc_val (pd_call (D__law_same hh 8) (hr.mono (by decide)) takesD (pas_cons (pd_call (D_troubles hh) (hr.mono (by decide)) takesD (pas_cons (pd_bin od_mul (pd_var rfl (.inr (.inl rfl))) (pd_var rfl (.inl rfl))) (pas_cons (pd_var rfl (.inl rfl)) (pas_cons (pd_var rfl (.inl rfl)) (pas_cons (pd_var rfl (.inl rfl)) (pas_cons (pd_var rfl (.inl rfl)) pas_nil))))) (alen_cons (alen_cons (alen_cons (alen_cons (alen_cons alen_nil)))))) (pas_cons (pd_var rfl (.inl rfl)) pas_nil)) (alen_cons (alen_cons alen_nil)))))))) (pbk_one (pst_ret pd_bl)) pbk_nil)
    (pbk_cons (pst_if (pc_val (pd_call (D__law_is_below hh) (hr.mono (by decide)) takesD (pas_cons (pd_ix (pd_ix (pd_call (D_stretches hh) (hr.mono (by decide)) takesD (pas_cons (pd_var rfl (.inl rfl)) (pas_cons (pd_var rfl (.inl rfl)) (pas_cons (pd_var rfl (.inl rfl)) (pas_cons (pd_var rfl (.inl rfl)) (pas_cons (pd_var rfl (.inl rfl)) pas_nil))))) (alen_cons (alen_cons (alen_cons (alen_cons (alen_cons alen_nil)))))) pd_int) pd_int) (pas_cons (pd_tup (pas_cons (pd_var rfl (.inl rfl)) (pas_cons pd_int pas_nil))) pas_nil)) (alen_cons (alen_cons alen_nil)))) (pbk_one pst_continue) pbk_nil)
    (pbk_cons (pst_set nd_law rfl (.inl rfl) (pd_call (D_settled hh) (hr.mono (by decide)) takesD (pas_cons (pd_var rfl (.inl rfl)) (pas_cons (pd_var rfl (.inl rfl)) (pas_cons (pd_var rfl (.inl rfl)) (pas_cons (pd_var rfl (.inl rfl)) (pas_cons (pd_var rfl (.inl rfl)) pas_nil))))) (alen_cons (alen_cons (alen_cons (alen_cons (alen_cons alen_nil)))))))
    (pbk_cons (pst_setLc (own := [("_law_comers", 21)]) rfl nd_law rfl rfl (L2.sw_true rfl rfl rfl rfl) (pit_seq (pd_var rfl (.inl rfl))) (blkOk_by (show blkC ["_law_script", "_law_stream_here", "_law_turn", "_law_room", "_law_length", "_law_wishes_here", "_law_early", "_law_late", "_law_base", "_law_wide", "_law_at", "_law_more", "_law_greater", "_law_beats", "_law_many", "_law_later", "_law_twice", "_law_setting", "_law_due", "_law_moment", "_law_heap", "_law_comers"] (defScope (top 65)) _ _ = true by decide +kernel)) (by decide) (fun _ _ _ _ _ => (pg_nm nd_law rfl (.inl rfl))) (fun _ _ _ _ _ => ptst_nil) (fun _ _ _ _ _ => (pd_call (D__law_put_off hh) (hr.mono (by decide)) TD.takes0 (pas_cons (pd_var rfl (.inl rfl)) (pas_cons (pd_var rfl (.inr (.inl rfl))) pas_nil)) (alen_cons (alen_cons alen_nil)))))
    (pbk_cons (pst_if (pc_not (pc_val (pd_call (D__law_same hh 8) (hr.mono (by decide)) takesD (pas_cons (pd_call (D_settled hh) (hr.mono (by decide)) takesD (pas_cons (pd_var rfl (.inl rfl)) (pas_cons (pd_var rfl (.inl rfl)) (pas_cons (pd_var rfl (.inl rfl)) (pas_cons (pd_var rfl (.inl rfl)) (pas_cons (pd_var rfl (.inl rfl)) pas_nil))))) (alen_cons (alen_cons (alen_cons (alen_cons (alen_cons alen_nil)))))) (pas_cons (pd_var rfl (.inl rfl)) pas_nil)) (alen_cons (alen_cons alen_nil))))) (pbk_one (pst_ret pd_bl)) pbk_nil)
    (pbk_one (pst_if (pc_cmp (od_eq (units_of hr)) (pd_b1 cb_len rfl (fr_len hh) (by decide +kernel) (pb_var rfl (.inl rfl))) (pd_b1 cb_len rfl (fr_len hh) (by decide +kernel) (pb_var rfl (.inl rfl)))) (pbk_cons (pst_setLc (own := [("_law_comers", 21)]) rfl nd_law rfl rfl (L2.sw_true rfl rfl rfl rfl) (pit_seq (pd_var rfl (.inl rfl))) (blkOk_by (show blkC ["_law_script", "_law_stream_here", "_law_turn", "_law_room", "_law_length", "_law_wishes_here", "_law_early", "_law_late", "_law_base", "_law_wide", "_law_at", "_law_more", "_law_greater", "_law_beats", "_law_many", "_law_later", "_law_twice", "_law_setting", "_law_due", "_law_moment", "_law_heap", "_law_comers"] (defScope (top 65)) _ _ = true by decide +kernel)) (by decide) (fun _ _ _ _ _ => (pg_nm nd_law rfl (.inl rfl))) (fun _ _ _ _ _ => ptst_nil) (fun _ _ _ _ _ => (pd_call (D__law_times_as hh) (hr.mono (by decide)) TD.takes0 (pas_cons (pd_var rfl (.inl rfl)) (pas_cons (pd_var rfl (.inr (.inl rfl))) pas_nil)) (alen_cons (alen_cons alen_nil)))))
    (pbk_one (pst_if (pc_not (pc_val (pd_call (D__law_same hh 8) (hr.mono (by decide)) takesD (pas_cons (pd_call (D_settled hh) (hr.mono (by decide)) takesD (pas_cons (pd_bin od_mul (pd_var rfl (.inr (.inl rfl))) (pd_var rfl (.inl rfl))) (pas_cons (pd_var rfl (.inl rfl)) (pas_cons (pd_var rfl (.inl rfl)) (pas_cons (pd_var rfl (.inl rfl)) (pas_cons (pd_var rfl (.inl rfl)) pas_nil))))) (alen_cons (alen_cons (alen_cons (alen_cons (alen_cons alen_nil)))))) (pas_cons (pd_var rfl (.inl rfl)) pas_nil)) (alen_cons (alen_cons alen_nil))))) (pbk_one (pst_ret pd_bl)) pbk_nil))) pbk_nil))))))))))))))))))))
    (pbk_one (pst_ret pd_bl))))
end
end KX

set_option Elab.async false
set_option linter.all false
set_option maxRecDepth 100000
set_option maxHeartbeats 1000000
set_option autoImplicit false
namespace KX
open PySem PySem.Spec PyProof.Rows L2 TD
/-! ### fractions -/
def rep (x : Rat) : D := .tup [.int x.num, .int (x.den : Int)]
structure Sm (x : Rat) : Prop where
  n : x.num.natAbs.log2 < 4000
  d : x.den.log2 < 4000
theorem log2_mul (a b : Nat) : (a * b).log2 ≤ a.log2 + b.log2 + 1 := by
  by_cases z : a * b = 0
  · rw [z]; show Nat.log2 0 ≤ _; rw [show Nat.log2 0 = 0 by decide]; omega
  · have ha : a ≠ 0 := fun h => z (by rw [h, Nat.zero_mul])
    have hb : b ≠ 0 := fun h => z (by rw [h, Nat.mul_zero])
    have h1 : a < 2 ^ (a.log2 + 1) := Nat.lt_log2_self
    have h2 : b < 2 ^ (b.log2 + 1) := Nat.lt_log2_self
    have h3 : a * b < 2 ^ (a.log2 + b.log2 + 2) := by
      have := Nat.mul_lt_mul_of_lt_of_lt h1 h2
      rw [← Nat.pow_add] at this
      rw [show a.log2 + b.log2 + 2 = a.log2 + 1 + (b.log2 + 1) by omega]
      exact this
    have := (Nat.log2_lt z).mpr h3
    omega
theorem log2_mono {a b : Nat} (h : a ≤ b) : a.log2 ≤ b.log2 := by
  by_cases z : a = 0
  · rw [z, show Nat.log2 0 = 0 by decide]; omega
  · have := (Nat.le_log2 (show b ≠ 0 by omega) (k := a.log2)).mpr (Nat.le_trans (Nat.log2_self_le z) h)
    omega
theorem mulOk_of {i j : Int} {a b : Nat} (h1 : i.natAbs.log2 ≤ a) (h2 : j.natAbs.log2 ≤ b) (h : a + b < 900000) : mulOk i j = true := by
  unfold mulOk
  rw [decide_eq_true_eq]
  omega
theorem divOk_of {j : Int} (h : 0 < j) (k : j.natAbs.log2 < 8950) : divOk j = true := by
  unfold divOk
  rw [Bool.and_eq_true, decide_eq_true_eq, decide_eq_true_eq]
  exact ⟨h, by omega⟩
theorem Sm.mulnd {x y : Rat} (hx : Sm x) (hy : Sm y) : mulOk x.num (y.den : Int) = true := mulOk_of (a := 4000) (b := 4000) (Nat.le_of_lt hx.n) (by have := hy.d; rw [Int.natAbs_natCast]; omega) (by decide)
theorem Sm.muldn {x y : Rat} (hx : Sm x) (hy : Sm y) : mulOk (x.den : Int) y.num = true := mulOk_of (a := 4000) (b := 4000) (by have := hx.d; rw [Int.natAbs_natCast]; omega) (Nat.le_of_lt hy.n) (by decide)
theorem Sm.muldd {x y : Rat} (hx : Sm x) (hy : Sm y) : mulOk (x.den : Int) (y.den : Int) = true := mulOk_of (a := 4000) (b := 4000) (by have := hx.d; rw [Int.natAbs_natCast]; omega) (by have := hy.d; rw [Int.natAbs_natCast]; omega) (by decide)
theorem Sm.mulnn {x y : Rat} (hx : Sm x) (hy : Sm y) : mulOk x.num y.num = true := mulOk_of (a := 4000) (b := 4000) (Nat.le_of_lt hx.n) (Nat.le_of_lt hy.n) (by decide)
section
variable {S : Sto} {x y : Rat}
theorem lowest_rep (n d : Int) (hd : 0 < d) (hs : d.natAbs.log2 < 8900) : F_lowest [.int n, .int d] S = .ok (rep (Rat.divInt n d)) false S := by
  obtain ⟨k, rfl⟩ := Int.eq_ofNat_of_zero_le (show 0 ≤ d by omega)
  have k0 : 0 < k := by omega
  rw [Int.natAbs_natCast] at hs
  have g1 : n.natAbs.gcd k ≤ k := Nat.gcd_le_right _ k0
  have g0 : 0 < n.natAbs.gcd k := Nat.gcd_pos_of_pos_right _ k0
  have hg : divOk ((n.natAbs.gcd k : Nat) : Int) = true := divOk_of (by omega) (by have := log2_mono g1; rw [Int.natAbs_natCast]; omega)
  apply fw_eq
  unfold F_lowest m_lowest
  simp only [wpsA, wpsB, List.map_cons, List.map_nil, List.length_cons, List.length_nil, List.replicate_succ, List.replicate_zero, List.cons_append, List.nil_append, List.getElem?_cons_zero, List.getElem?_cons_succ, List.set_cons_zero, List.set_cons_succ, ow_true, ow_false, Option.bind_some, true_and, and_true, Nat.zero_add, Nat.reduceAdd, Nat.reduceSub, Nat.reduceLeDiff, Int.natAbs_natCast]
  rw [e_fdiv _ _ _ hg]
  simp only [wpsA, wpsB, List.map_cons, List.map_nil, List.length_cons, List.length_nil, List.replicate_succ, List.replicate_zero, List.cons_append, List.nil_append, List.getElem?_cons_zero, List.getElem?_cons_succ, List.set_cons_zero, List.set_cons_succ, ow_true, ow_false, Option.bind_some, true_and, and_true, Nat.zero_add, Nat.reduceAdd, Nat.reduceSub, Nat.reduceLeDiff]
  rw [e_fdiv _ _ _ hg]
  simp only [wpsA, wpsB, List.map_cons, List.map_nil, List.length_cons, List.length_nil, List.replicate_succ, List.replicate_zero, List.cons_append, List.nil_append, List.getElem?_cons_zero, List.getElem?_cons_succ, List.set_cons_zero, List.set_cons_succ, ow_true, ow_false, Option.bind_some, true_and, and_true, Nat.zero_add, Nat.reduceAdd, Nat.reduceSub, Nat.reduceLeDiff]
  unfold rep
  rw [Rat.divInt_ofNat, Rat.num_mkRat, Rat.den_mkRat, if_neg (by omega), if_neg (by omega), Nat.gcd_comm]
  simp
theorem den_log {x y : Rat} (hx : Sm x) (hy : Sm y) : ((x.den : Int) * (y.den : Int)).natAbs.log2 < 8900 := by
  rw [Int.natAbs_mul, Int.natAbs_natCast, Int.natAbs_natCast]
  have := log2_mul x.den y.den
  have := hx.d
  have := hy.d
  omega
theorem den_pos (x : Rat) : (0 : Int) < x.den := by have := x.den_pos; omega
theorem dd_pos (x y : Rat) : (0 : Int) < (x.den : Int) * (y.den : Int) := Int.mul_pos (den_pos x) (den_pos y)
theorem add_div (x y : Rat) : Rat.divInt (x.num * y.den + y.num * x.den) ((x.den : Int) * (y.den : Int)) = x + y := by
  rw [Rat.add_def', ← Int.natCast_mul, Rat.divInt_ofNat]
theorem sub_div (x y : Rat) : Rat.divInt (x.num * y.den - y.num * x.den) ((x.den : Int) * (y.den : Int)) = x - y := by
  rw [Rat.sub_def', ← Int.natCast_mul, Rat.divInt_ofNat]
theorem mul_div (x y : Rat) : Rat.divInt (x.num * y.num) ((x.den : Int) * (y.den : Int)) = x * y := by
  rw [Rat.mul_def', ← Int.natCast_mul, Rat.divInt_ofNat]
theorem div_div (x y : Rat) : Rat.divInt (x.num * y.den) ((x.den : Int) * y.num) = x / y := by
  rw [Rat.div_def]
  conv => rhs; rw [← Rat.num_divInt_den x, ← Rat.num_divInt_den y, Rat.inv_divInt, Rat.divInt_mul_divInt]
theorem plus_rep (hx : Sm x) (hy : Sm y) : F_plus [rep x, rep y] S = .ok (rep (x + y)) false S := by
  apply fw_eq
  unfold F_plus m_plus rep
  simp only [wpsA, wpsB, List.map_cons, List.map_nil, List.length_cons, List.length_nil, List.replicate_succ, List.replicate_zero, List.cons_append, List.nil_append, List.getElem?_cons_zero, List.getElem?_cons_succ, List.set_cons_zero, List.set_cons_succ, ow_true, ow_false, Option.bind_some, true_and, and_true, Nat.zero_add, Nat.reduceAdd, Nat.reduceSub, Nat.reduceLeDiff]
  rw [e_mul _ _ _ (hx.mulnd hy)]
  simp only [wpsA, wpsB, List.map_cons, List.map_nil, List.length_cons, List.length_nil, List.replicate_succ, List.replicate_zero, List.cons_append, List.nil_append, List.getElem?_cons_zero, List.getElem?_cons_succ, List.set_cons_zero, List.set_cons_succ, ow_true, ow_false, Option.bind_some, true_and, and_true, Nat.zero_add, Nat.reduceAdd, Nat.reduceSub, Nat.reduceLeDiff]
  rw [e_mul _ _ _ (hy.mulnd hx)]
  simp only [wpsA, wpsB, List.map_cons, List.map_nil, List.length_cons, List.length_nil, List.replicate_succ, List.replicate_zero, List.cons_append, List.nil_append, List.getElem?_cons_zero, List.getElem?_cons_succ, List.set_cons_zero, List.set_cons_succ, ow_true, ow_false, Option.bind_some, true_and, and_true, Nat.zero_add, Nat.reduceAdd, Nat.reduceSub, Nat.reduceLeDiff]
  rw [e_mul _ _ _ (hx.muldd hy)]
  simp only [wpsA, wpsB, List.map_cons, List.map_nil, List.length_cons, List.length_nil, List.replicate_succ, List.replicate_zero, List.cons_append, List.nil_append, List.getElem?_cons_zero, List.getElem?_cons_succ, List.set_cons_zero, List.set_cons_succ, ow_true, ow_false, Option.bind_some, true_and, and_true, Nat.zero_add, Nat.reduceAdd, Nat.reduceSub, Nat.reduceLeDiff, lowest_rep _ _ (dd_pos x y) (den_log hx hy), add_div]
  simp [rep]
theorem less_rep (hx : Sm x) (hy : Sm y) : F_less [rep x, rep y] S = .ok (rep (x - y)) false S := by
  apply fw_eq
  unfold F_less m_less rep
  simp only [wpsA, wpsB, List.map_cons, List.map_nil, List.length_cons, List.length_nil, List.replicate_succ, List.replicate_zero, List.cons_append, List.nil_append, List.getElem?_cons_zero, List.getElem?_cons_succ, List.set_cons_zero, List.set_cons_succ, ow_true, ow_false, Option.bind_some, true_and, and_true, Nat.zero_add, Nat.reduceAdd, Nat.reduceSub, Nat.reduceLeDiff]
  rw [e_mul _ _ _ (hx.mulnd hy)]
  simp only [wpsA, wpsB, List.map_cons, List.map_nil, List.length_cons, List.length_nil, List.replicate_succ, List.replicate_zero, List.cons_append, List.nil_append, List.getElem?_cons_zero, List.getElem?_cons_succ, List.set_cons_zero, List.set_cons_succ, ow_true, ow_false, Option.bind_some, true_and, and_true, Nat.zero_add, Nat.reduceAdd, Nat.reduceSub, Nat.reduceLeDiff]
  rw [e_mul _ _ _ (hy.mulnd hx)]
  simp only [wpsA, wpsB, List.map_cons, List.map_nil, List.length_cons, List.length_nil, List.replicate_succ, List.replicate_zero, List.cons_append, List.nil_append, List.getElem?_cons_zero, List.getElem?_cons_succ, List.set_cons_zero, List.set_cons_succ, ow_true, ow_false, Option.bind_some, true_and, and_true, Nat.zero_add, Nat.reduceAdd, Nat.reduceSub, Nat.reduceLeDiff]
  rw [e_mul _ _ _ (hx.muldd hy)]
  simp only [wpsA, wpsB, List.map_cons, List.map_nil, List.length_cons, List.length_nil, List.replicate_succ, List.replicate_zero, List.cons_append, List.nil_append, List.getElem?_cons_zero, List.getElem?_cons_succ, List.set_cons_zero, List.set_cons_succ, ow_true, ow_false, Option.bind_some, true_and, and_true, Nat.zero_add, Nat.reduceAdd, Nat.reduceSub, Nat.reduceLeDiff, lowest_rep _ _ (dd_pos x y) (den_log hx hy), sub_div]
  simp [rep]
theorem times_rep (hx : Sm x) (hy : Sm y) : F_times [rep x, rep y] S = .ok (rep (x * y)) false S := by
  apply fw_eq
  unfold F_times m_times rep
  simp only [wpsA, wpsB, List.map_cons, List.map_nil, List.length_cons, List.length_nil, List.replicate_succ, List.replicate_zero, List.cons_append, List.nil_append, List.getElem?_cons_zero, List.getElem?_cons_succ, List.set_cons_zero, List.set_cons_succ, ow_true, ow_false, Option.bind_some, true_and, and_true, Nat.zero_add, Nat.reduceAdd, Nat.reduceSub, Nat.reduceLeDiff]
  rw [e_mul _ _ _ (hx.mulnn hy)]
  simp only [wpsA, wpsB, List.map_cons, List.map_nil, List.length_cons, List.length_nil, List.replicate_succ, List.replicate_zero, List.cons_append, List.nil_append, List.getElem?_cons_zero, List.getElem?_cons_succ, List.set_cons_zero, List.set_cons_succ, ow_true, ow_false, Option.bind_some, true_and, and_true, Nat.zero_add, Nat.reduceAdd, Nat.reduceSub, Nat.reduceLeDiff]
  rw [e_mul _ _ _ (hx.muldd hy)]
  simp only [wpsA, wpsB, List.map_cons, List.map_nil, List.length_cons, List.length_nil, List.replicate_succ, List.replicate_zero, List.cons_append, List.nil_append, List.getElem?_cons_zero, List.getElem?_cons_succ, List.set_cons_zero, List.set_cons_succ, ow_true, ow_false, Option.bind_some, true_and, and_true, Nat.zero_add, Nat.reduceAdd, Nat.reduceSub, Nat.reduceLeDiff, lowest_rep _ _ (dd_pos x y) (den_log hx hy), mul_div]
  simp [rep]
theorem dn_log {x y : Rat} (hx : Sm x) (hy : Sm y) : ((x.den : Int) * y.num).natAbs.log2 < 8900 := by
  rw [Int.natAbs_mul, Int.natAbs_natCast]
  have := log2_mul x.den y.num.natAbs
  have := hx.d
  have := hy.n
  omega
theorem parted_rep (hx : Sm x) (hy : Sm y) (h0 : y ≠ 0) : F_parted [rep x, rep y] S = .ok (rep (x / y)) false S := by
  have n0 : y.num ≠ 0 := fun h => h0 (Rat.num_eq_zero.mp h)
  apply fw_eq
  unfold F_parted m_parted rep
  simp only [wpsA, wpsB, List.map_cons, List.map_nil, List.length_cons, List.length_nil, List.replicate_succ, List.replicate_zero, List.cons_append, List.nil_append, List.getElem?_cons_zero, List.getElem?_cons_succ, List.set_cons_zero, List.set_cons_succ, ow_true, ow_false, Option.bind_some, true_and, and_true, Nat.zero_add, Nat.reduceAdd, Nat.reduceSub, Nat.reduceLeDiff]
  by_cases h : y.num < 0
  · have ld : 0 < 0 - (x.den : Int) * y.num := by have := Int.mul_neg_of_pos_of_neg (den_pos x) h; omega
    have ll : (0 - (x.den : Int) * y.num).natAbs.log2 < 8900 := by rw [Int.zero_sub, Int.natAbs_neg]; exact dn_log hx hy
    rw [decide_eq_true h]
    simp only [wpsA, wpsB, List.map_cons, List.map_nil, List.length_cons, List.length_nil, List.replicate_succ, List.replicate_zero, List.cons_append, List.nil_append, List.getElem?_cons_zero, List.getElem?_cons_succ, List.set_cons_zero, List.set_cons_succ, ow_true, ow_false, Option.bind_some, true_and, and_true, Nat.zero_add, Nat.reduceAdd, Nat.reduceSub, Nat.reduceLeDiff]
    rw [e_mul _ _ _ (hx.mulnd hy)]
    simp only [wpsA, wpsB, List.map_cons, List.map_nil, List.length_cons, List.length_nil, List.replicate_succ, List.replicate_zero, List.cons_append, List.nil_append, List.getElem?_cons_zero, List.getElem?_cons_succ, List.set_cons_zero, List.set_cons_succ, ow_true, ow_false, Option.bind_some, true_and, and_true, Nat.zero_add, Nat.reduceAdd, Nat.reduceSub, Nat.reduceLeDiff]
    rw [e_mul _ _ _ (hx.muldn hy)]
    simp only [wpsA, wpsB, List.map_cons, List.map_nil, List.length_cons, List.length_nil, List.replicate_succ, List.replicate_zero, List.cons_append, List.nil_append, List.getElem?_cons_zero, List.getElem?_cons_succ, List.set_cons_zero, List.set_cons_succ, ow_true, ow_false, Option.bind_some, true_and, and_true, Nat.zero_add, Nat.reduceAdd, Nat.reduceSub, Nat.reduceLeDiff, lowest_rep _ _ ld ll]
    rw [Int.zero_sub, Int.zero_sub, Rat.neg_divInt_neg, div_div]
    simp [rep]
  · have ld : 0 < (x.den : Int) * y.num := Int.mul_pos (den_pos x) (by omega)
    rw [decide_eq_false h]
    simp only [wpsA, wpsB, List.map_cons, List.map_nil, List.length_cons, List.length_nil, List.replicate_succ, List.replicate_zero, List.cons_append, List.nil_append, List.getElem?_cons_zero, List.getElem?_cons_succ, List.set_cons_zero, List.set_cons_succ, ow_true, ow_false, Option.bind_some, true_and, and_true, Nat.zero_add, Nat.reduceAdd, Nat.reduceSub, Nat.reduceLeDiff]
    rw [e_mul _ _ _ (hx.mulnd hy)]
    simp only [wpsA, wpsB, List.map_cons, List.map_nil, List.length_cons, List.length_nil, List.replicate_succ, List.replicate_zero, List.cons_append, List.nil_append, List.getElem?_cons_zero, List.getElem?_cons_succ, List.set_cons_zero, List.set_cons_succ, ow_true, ow_false, Option.bind_some, true_and, and_true, Nat.zero_add, Nat.reduceAdd, Nat.reduceSub, Nat.reduceLeDiff]
    rw [e_mul _ _ _ (hx.muldn hy)]
    simp only [wpsA, wpsB, List.map_cons, List.map_nil, List.length_cons, List.length_nil, List.replicate_succ, List.replicate_zero, List.cons_append, List.nil_append, List.getElem?_cons_zero, List.getElem?_cons_succ, List.set_cons_zero, List.set_cons_succ, ow_true, ow_false, Option.bind_some, true_and, and_true, Nat.zero_add, Nat.reduceAdd, Nat.reduceSub, Nat.reduceLeDiff, lowest_rep _ _ ld (dn_log hx hy), div_div]
    simp [rep]
theorem below_rep (hx : Sm x) (hy : Sm y) : F_is_below [rep x, rep y] S = .ok (.bl (decide (x < y))) false S := by
  apply fw_eq
  unfold F_is_below m_is_below rep
  simp only [wpsA, wpsB, List.map_cons, List.map_nil, List.length_cons, List.length_nil, List.replicate_succ, List.replicate_zero, List.cons_append, List.nil_append, List.getElem?_cons_zero, List.getElem?_cons_succ, List.set_cons_zero, List.set_cons_succ, ow_true, ow_false, Option.bind_some, true_and, and_true, Nat.zero_add, Nat.reduceAdd, Nat.reduceSub, Nat.reduceLeDiff]
  rw [e_mul _ _ _ (hx.mulnd hy)]
  simp only [wpsA, wpsB, List.map_cons, List.map_nil, List.length_cons, List.length_nil, List.replicate_succ, List.replicate_zero, List.cons_append, List.nil_append, List.getElem?_cons_zero, List.getElem?_cons_succ, List.set_cons_zero, List.set_cons_succ, ow_true, ow_false, Option.bind_some, true_and, and_true, Nat.zero_add, Nat.reduceAdd, Nat.reduceSub, Nat.reduceLeDiff]
  rw [e_mul _ _ _ (hy.mulnd hx)]
  simp only [wpsA, wpsB, List.map_cons, List.map_nil, List.length_cons, List.length_nil, List.replicate_succ, List.replicate_zero, List.cons_append, List.nil_append, List.getElem?_cons_zero, List.getElem?_cons_succ, List.set_cons_zero, List.set_cons_succ, ow_true, ow_false, Option.bind_some, true_and, and_true, Nat.zero_add, Nat.reduceAdd, Nat.reduceSub, Nat.reduceLeDiff]
  exact congrArg D.bl (decide_eq_decide.mpr (Rat.lt_iff x y).symm)
theorem told_rep (hx : Sm x) : F_told [rep x] S = .ok (rep x) false S := by
  apply fw_eq
  unfold F_told m_told rep
  have hl : ((x.den : Int)).natAbs.log2 < 8900 := by have := hx.d; rw [Int.natAbs_natCast]; omega
  simp only [wpsA, wpsB, List.map_cons, List.map_nil, List.length_cons, List.length_nil, List.replicate_succ, List.replicate_zero, List.cons_append, List.nil_append, List.getElem?_cons_zero, List.getElem?_cons_succ, List.set_cons_zero, List.set_cons_succ, ow_true, ow_false, Option.bind_some, true_and, and_true, Nat.zero_add, Nat.reduceAdd, Nat.reduceSub, Nat.reduceLeDiff, lowest_rep x.num x.den (den_pos x) hl, Rat.num_divInt_den]
  simp [rep]
/-! ### the law's own fractions -/
def sPr : MS := sParF [0, 1] (fCons (eVar 1) (fCons (eb (eVar 0) fun x => eb (eVar 1) fun y => dMod x y) fNil))
theorem common_loop : ∀ (n a b : Nat) (S : Sto) (Q : Fl → Ev → Sto → Prop), b < n → (∀ c : Nat, c = a.gcd b → ∀ t, Q .nx [.sh (.int (c : Nat)), t] S) → WP (wloop n (tst (eb (eVar 1) fun x => eb (pur (.int 0)) fun y => dGt x y)) sPr) [.sh (.int a), .sh (.int b)] S Q
  | 0, _, _, _, _, h, _ => absurd h (Nat.not_lt_zero _)
  | n + 1, a, b, S, Q, h, hq => by
    show WP (bnd (tst (eb (eVar 1) fun x => eb (pur (.int 0)) fun y => dGt x y)) fun x => if x = true then bnd sPr fun fl => match fl with
      | .bk => ret .nx
      | .rt d f => ret (.rt d f)
      | _ => wloop n (tst (eb (eVar 1) fun x => eb (pur (.int 0)) fun y => dGt x y)) sPr
    else ret .nx) _ _ _
    simp only [wpsA, wpsB, List.map_cons, List.map_nil, List.length_cons, List.length_nil, List.replicate_succ, List.replicate_zero, List.cons_append, List.nil_append, List.getElem?_cons_zero, List.getElem?_cons_succ, List.set_cons_zero, List.set_cons_succ, ow_true, ow_false, Option.bind_some, true_and, and_true, Nat.zero_add, Nat.reduceAdd, Nat.reduceSub, Nat.reduceLeDiff]
    by_cases z : b = 0
    · subst z
      rw [if_neg (by simp)]
      exact hq a (by simp) _
    · rw [if_pos (by simpa using (by omega : 0 < b))]
      unfold sPr
      simp only [wpsA, wpsB, List.map_cons, List.map_nil, List.length_cons, List.length_nil, List.replicate_succ, List.replicate_zero, List.cons_append, List.nil_append, List.getElem?_cons_zero, List.getElem?_cons_succ, List.set_cons_zero, List.set_cons_succ, ow_true, ow_false, Option.bind_some, true_and, and_true, Nat.zero_add, Nat.reduceAdd, Nat.reduceSub, Nat.reduceLeDiff]
      rw [e_mod _ _ _ (by omega)]
      simp only [wpsA, wpsB, List.map_cons, List.map_nil, List.length_cons, List.length_nil, List.replicate_succ, List.replicate_zero, List.cons_append, List.nil_append, List.getElem?_cons_zero, List.getElem?_cons_succ, List.set_cons_zero, List.set_cons_succ, ow_true, ow_false, Option.bind_some, true_and, and_true, Nat.zero_add, Nat.reduceAdd, Nat.reduceSub, Nat.reduceLeDiff]
      have ih := common_loop n b (a % b) S Q (by have := Nat.mod_lt a (show 0 < b by omega); omega) (fun c hc => hq c (by rw [hc, Nat.gcd_comm a b, Nat.gcd_comm b (a % b), ← Nat.gcd_rec]))
      rw [Int.natCast_emod] at ih
      exact ih
theorem abs_nat (a : Nat) : (if (a : Int) < 0 then -(a : Int) else (a : Int)) = a := by rw [if_neg (by omega)]
theorem abs_int (a : Int) : (if a < 0 then -a else a) = (a.natAbs : Int) := by split <;> omega
theorem common_rep (a b : Int) : F__law_common [.int a, .int b] S = .ok (.int ((a.natAbs.gcd b.natAbs : Nat) : Int)) false S := by
  apply fw_eq
  unfold F__law_common m__law_common
  simp only [wpsA, wpsB, List.map_cons, List.map_nil, List.length_cons, List.length_nil, List.replicate_succ, List.replicate_zero, List.cons_append, List.nil_append, List.getElem?_cons_zero, List.getElem?_cons_succ, List.set_cons_zero, List.set_cons_succ, ow_true, ow_false, Option.bind_some, true_and, and_true, Nat.zero_add, Nat.reduceAdd, Nat.reduceSub, Nat.reduceLeDiff, abs_int]
  refine common_loop _ _ _ _ _ (by show b.natAbs < (fuInt 1 _ _); unfold fuInt; simp) fun c hc t => ?_
  subst hc
  simp only [wpsA, wpsB, List.map_cons, List.map_nil, List.length_cons, List.length_nil, List.replicate_succ, List.replicate_zero, List.cons_append, List.nil_append, List.getElem?_cons_zero, List.getElem?_cons_succ, List.set_cons_zero, List.set_cons_succ, ow_true, ow_false, Option.bind_some, true_and, and_true, Nat.zero_add, Nat.reduceAdd, Nat.reduceSub, Nat.reduceLeDiff]
theorem low_rep (n d : Int) (hd : 0 < d) (hs : d.natAbs.log2 < 8900) : F__law_low [.int n, .int d] S = .ok (rep (Rat.divInt n d)) false S := by
  obtain ⟨k, rfl⟩ := Int.eq_ofNat_of_zero_le (show 0 ≤ d by omega)
  have k0 : 0 < k := by omega
  rw [Int.natAbs_natCast] at hs
  have g1 : n.natAbs.gcd k ≤ k := Nat.gcd_le_right _ k0
  have g0 : 0 < n.natAbs.gcd k := Nat.gcd_pos_of_pos_right _ k0
  have hg : divOk ((n.natAbs.gcd k : Nat) : Int) = true := divOk_of (by omega) (by have := log2_mono g1; rw [Int.natAbs_natCast]; omega)
  apply fw_eq
  unfold F__law_low m__law_low
  simp only [wpsA, wpsB, List.map_cons, List.map_nil, List.length_cons, List.length_nil, List.replicate_succ, List.replicate_zero, List.cons_append, List.nil_append, List.getElem?_cons_zero, List.getElem?_cons_succ, List.set_cons_zero, List.set_cons_succ, ow_true, ow_false, Option.bind_some, true_and, and_true, Nat.zero_add, Nat.reduceAdd, Nat.reduceSub, Nat.reduceLeDiff, decide_eq_true hd, common_rep, Int.natAbs_natCast]
  rw [e_fdiv _ _ _ hg]
  simp only [wpsA, wpsB, List.map_cons, List.map_nil, List.length_cons, List.length_nil, List.replicate_succ, List.replicate_zero, List.cons_append, List.nil_append, List.getElem?_cons_zero, List.getElem?_cons_succ, List.set_cons_zero, List.set_cons_succ, ow_true, ow_false, Option.bind_some, true_and, and_true, Nat.zero_add, Nat.reduceAdd, Nat.reduceSub, Nat.reduceLeDiff]
  rw [e_fdiv _ _ _ hg]
  simp only [wpsA, wpsB, List.map_cons, List.map_nil, List.length_cons, List.length_nil, List.replicate_succ, List.replicate_zero, List.cons_append, List.nil_append, List.getElem?_cons_zero, List.getElem?_cons_succ, List.set_cons_zero, List.set_cons_succ, ow_true, ow_false, Option.bind_some, true_and, and_true, Nat.zero_add, Nat.reduceAdd, Nat.reduceSub, Nat.reduceLeDiff]
  unfold rep
  rw [Rat.divInt_ofNat, Rat.num_mkRat, Rat.den_mkRat, if_neg (by omega), if_neg (by omega), Nat.gcd_comm]
  simp
theorem lplus_rep (hx : Sm x) (hy : Sm y) : F__law_plus [rep x, rep y] S = .ok (rep (x + y)) false S := by
  apply fw_eq
  unfold F__law_plus m__law_plus rep
  simp only [wpsA, wpsB, List.map_cons, List.map_nil, List.length_cons, List.length_nil, List.replicate_succ, List.replicate_zero, List.cons_append, List.nil_append, List.getElem?_cons_zero, List.getElem?_cons_succ, List.set_cons_zero, List.set_cons_succ, ow_true, ow_false, Option.bind_some, true_and, and_true, Nat.zero_add, Nat.reduceAdd, Nat.reduceSub, Nat.reduceLeDiff]
  rw [e_mul _ _ _ (hx.mulnd hy)]
  simp only [wpsA, wpsB, List.map_cons, List.map_nil, List.length_cons, List.length_nil, List.replicate_succ, List.replicate_zero, List.cons_append, List.nil_append, List.getElem?_cons_zero, List.getElem?_cons_succ, List.set_cons_zero, List.set_cons_succ, ow_true, ow_false, Option.bind_some, true_and, and_true, Nat.zero_add, Nat.reduceAdd, Nat.reduceSub, Nat.reduceLeDiff]
  rw [e_mul _ _ _ (hy.mulnd hx)]
  simp only [wpsA, wpsB, List.map_cons, List.map_nil, List.length_cons, List.length_nil, List.replicate_succ, List.replicate_zero, List.cons_append, List.nil_append, List.getElem?_cons_zero, List.getElem?_cons_succ, List.set_cons_zero, List.set_cons_succ, ow_true, ow_false, Option.bind_some, true_and, and_true, Nat.zero_add, Nat.reduceAdd, Nat.reduceSub, Nat.reduceLeDiff]
  rw [e_mul _ _ _ (hx.muldd hy)]
  simp only [wpsA, wpsB, List.map_cons, List.map_nil, List.length_cons, List.length_nil, List.replicate_succ, List.replicate_zero, List.cons_append, List.nil_append, List.getElem?_cons_zero, List.getElem?_cons_succ, List.set_cons_zero, List.set_cons_succ, ow_true, ow_false, Option.bind_some, true_and, and_true, Nat.zero_add, Nat.reduceAdd, Nat.reduceSub, Nat.reduceLeDiff, low_rep _ _ (dd_pos x y) (den_log hx hy), add_div]
  simp [rep]
theorem ltimes_rep (hx : Sm x) (hy : Sm y) : F__law_times [rep x, rep y] S = .ok (rep (x * y)) false S := by
  apply fw_eq
  unfold F__law_times m__law_times rep
  simp only [wpsA, wpsB, List.map_cons, List.map_nil, List.length_cons, List.length_nil, List.replicate_succ, List.replicate_zero, List.cons_append, List.nil_append, List.getElem?_cons_zero, List.getElem?_cons_succ, List.set_cons_zero, List.set_cons_succ, ow_true, ow_false, Option.bind_some, true_and, and_true, Nat.zero_add, Nat.reduceAdd, Nat.reduceSub, Nat.reduceLeDiff]
  rw [e_mul _ _ _ (hx.mulnn hy)]
  simp only [wpsA, wpsB, List.map_cons, List.map_nil, List.length_cons, List.length_nil, List.replicate_succ, List.replicate_zero, List.cons_append, List.nil_append, List.getElem?_cons_zero, List.getElem?_cons_succ, List.set_cons_zero, List.set_cons_succ, ow_true, ow_false, Option.bind_some, true_and, and_true, Nat.zero_add, Nat.reduceAdd, Nat.reduceSub, Nat.reduceLeDiff]
  rw [e_mul _ _ _ (hx.muldd hy)]
  simp only [wpsA, wpsB, List.map_cons, List.map_nil, List.length_cons, List.length_nil, List.replicate_succ, List.replicate_zero, List.cons_append, List.nil_append, List.getElem?_cons_zero, List.getElem?_cons_succ, List.set_cons_zero, List.set_cons_succ, ow_true, ow_false, Option.bind_some, true_and, and_true, Nat.zero_add, Nat.reduceAdd, Nat.reduceSub, Nat.reduceLeDiff, low_rep _ _ (dd_pos x y) (den_log hx hy), mul_div]
  simp [rep]
theorem lby_rep (hx : Sm x) (hy : Sm y) (h0 : 0 < y) : F__law_by [rep x, rep y] S = .ok (rep (x / y)) false S := by
  have n0 : 0 < y.num := by
    have h1 := Rat.num_nonneg.mpr (Rat.le_of_lt h0)
    have h2 : y.num ≠ 0 := fun h => Rat.ne_of_gt h0 (Rat.num_eq_zero.mp h)
    omega
  have ld : 0 < (x.den : Int) * y.num := Int.mul_pos (den_pos x) n0
  apply fw_eq
  unfold F__law_by m__law_by rep
  simp only [wpsA, wpsB, List.map_cons, List.map_nil, List.length_cons, List.length_nil, List.replicate_succ, List.replicate_zero, List.cons_append, List.nil_append, List.getElem?_cons_zero, List.getElem?_cons_succ, List.set_cons_zero, List.set_cons_succ, ow_true, ow_false, Option.bind_some, true_and, and_true, Nat.zero_add, Nat.reduceAdd, Nat.reduceSub, Nat.reduceLeDiff]
  rw [e_mul _ _ _ (hx.mulnd hy)]
  simp only [wpsA, wpsB, List.map_cons, List.map_nil, List.length_cons, List.length_nil, List.replicate_succ, List.replicate_zero, List.cons_append, List.nil_append, List.getElem?_cons_zero, List.getElem?_cons_succ, List.set_cons_zero, List.set_cons_succ, ow_true, ow_false, Option.bind_some, true_and, and_true, Nat.zero_add, Nat.reduceAdd, Nat.reduceSub, Nat.reduceLeDiff]
  rw [e_mul _ _ _ (hx.muldn hy)]
  simp only [wpsA, wpsB, List.map_cons, List.map_nil, List.length_cons, List.length_nil, List.replicate_succ, List.replicate_zero, List.cons_append, List.nil_append, List.getElem?_cons_zero, List.getElem?_cons_succ, List.set_cons_zero, List.set_cons_succ, ow_true, ow_false, Option.bind_some, true_and, and_true, Nat.zero_add, Nat.reduceAdd, Nat.reduceSub, Nat.reduceLeDiff, low_rep _ _ ld (dn_log hx hy), div_div]
  simp [rep]
theorem lbelow_rep (hx : Sm x) (hy : Sm y) : F__law_is_below [rep x, rep y] S = .ok (.bl (decide (x < y))) false S := by
  apply fw_eq
  unfold F__law_is_below m__law_is_below rep
  simp only [wpsA, wpsB, List.map_cons, List.map_nil, List.length_cons, List.length_nil, List.replicate_succ, List.replicate_zero, List.cons_append, List.nil_append, List.getElem?_cons_zero, List.getElem?_cons_succ, List.set_cons_zero, List.set_cons_succ, ow_true, ow_false, Option.bind_some, true_and, and_true, Nat.zero_add, Nat.reduceAdd, Nat.reduceSub, Nat.reduceLeDiff]
  rw [e_mul _ _ _ (hx.mulnd hy)]
  simp only [wpsA, wpsB, List.map_cons, List.map_nil, List.length_cons, List.length_nil, List.replicate_succ, List.replicate_zero, List.cons_append, List.nil_append, List.getElem?_cons_zero, List.getElem?_cons_succ, List.set_cons_zero, List.set_cons_succ, ow_true, ow_false, Option.bind_some, true_and, and_true, Nat.zero_add, Nat.reduceAdd, Nat.reduceSub, Nat.reduceLeDiff]
  rw [e_mul _ _ _ (hy.mulnd hx)]
  simp only [wpsA, wpsB, List.map_cons, List.map_nil, List.length_cons, List.length_nil, List.replicate_succ, List.replicate_zero, List.cons_append, List.nil_append, List.getElem?_cons_zero, List.getElem?_cons_succ, List.set_cons_zero, List.set_cons_succ, ow_true, ow_false, Option.bind_some, true_and, and_true, Nat.zero_add, Nat.reduceAdd, Nat.reduceSub, Nat.reduceLeDiff]
  exact congrArg D.bl (decide_eq_decide.mpr (Rat.lt_iff x y).symm)
/-! ### sizes -/
/-- in the grid of 1 / N, at most B steps from nothing -/
def Gd (N B : Nat) (x : Rat) : Prop := ∃ z : Int, x * (N : Rat) = (z : Rat) ∧ z.natAbs ≤ B
theorem Gd.mono {N B B' : Nat} {x : Rat} (h : Gd N B x) (k : B ≤ B') : Gd N B' x := by
  obtain ⟨z, e, l⟩ := h
  exact ⟨z, e, by omega⟩
theorem Gd.add {N B C : Nat} {x y : Rat} (h : Gd N B x) (k : Gd N C y) : Gd N (B + C) (x + y) := by
  obtain ⟨z, e, l⟩ := h
  obtain ⟨w, f, m⟩ := k
  exact ⟨z + w, by rw [Rat.add_mul, e, f, Rat.intCast_add], by omega⟩
theorem Gd.neg {N B : Nat} {x : Rat} (h : Gd N B x) : Gd N B (-x) := by
  obtain ⟨z, e, l⟩ := h
  exact ⟨-z, by rw [Rat.neg_mul, e, Rat.intCast_neg], by omega⟩
theorem Gd.sub {N B C : Nat} {x y : Rat} (h : Gd N B x) (k : Gd N C y) : Gd N (B + C) (x - y) := by
  rw [Rat.sub_eq_add_neg]; exact h.add k.neg
theorem Gd.mul {N M B C : Nat} {x y : Rat} (h : Gd N B x) (k : Gd M C y) : Gd (N * M) (B * C) (x * y) := by
  obtain ⟨z, e, l⟩ := h
  obtain ⟨w, f, m⟩ := k
  refine ⟨z * w, ?_, by rw [Int.natAbs_mul]; exact Nat.mul_le_mul l m⟩
  rw [Rat.intCast_mul, ← e, ← f, Rat.natCast_mul]
  grind
theorem Gd.up {N B : Nat} (M : Nat) {x : Rat} (h : Gd N B x) : Gd (N * M) (B * M) x := by
  obtain ⟨z, e, l⟩ := h
  refine ⟨z * M, ?_, by rw [Int.natAbs_mul, Int.natAbs_natCast]; exact Nat.mul_le_mul_right _ l⟩
  rw [Rat.intCast_mul, ← e, Rat.natCast_mul, Rat.intCast_natCast]
  grind
theorem Gd.zero {N B : Nat} : Gd N B 0 := ⟨0, by rw [Rat.zero_mul]; rfl, by simp⟩
theorem Gd.of_eq {N B : Nat} {x y : Rat} (h : Gd N B x) (e : y = x) : Gd N B y := by rw [e]; exact h
theorem Gd.int {N : Nat} (z : Int) {B : Nat} (h : z.natAbs * N ≤ B) : Gd N B (z : Rat) := ⟨z * N, by rw [Rat.intCast_mul, Rat.intCast_natCast], by rw [Int.natAbs_mul, Int.natAbs_natCast]; exact h⟩
theorem Gd.eqM {N B : Nat} {x : Rat} (h : Gd N B x) (hN : 0 < N) : ∃ z : Int, x = mkRat z N ∧ z.natAbs ≤ B := by
  obtain ⟨z, e, l⟩ := h
  refine ⟨z, ?_, l⟩
  rw [Rat.mkRat_eq_div, ← e]
  exact (Rat.mul_div_cancel (fun h => by have := Rat.natCast_pos.mpr hN; rw [h] at this; exact Rat.lt_irrefl this)).symm
theorem Gd.sm {N B : Nat} {x : Rat} (h : Gd N B x) (hN : 0 < N) (lN : N.log2 < 4000) (lB : B.log2 < 4000) : Sm x := by
  obtain ⟨z, e, l⟩ := h.eqM hN
  subst e
  constructor
  · rw [Rat.num_mkRat, if_neg (by omega)]
    have : (z / (N.gcd z.natAbs : Nat)).natAbs ≤ z.natAbs := by
      rw [Int.natAbs_ediv_of_dvd (Int.ofNat_dvd_left.mpr (Nat.gcd_dvd_right _ _))]
      exact Nat.div_le_self _ _
    have := log2_mono (Nat.le_trans this l)
    omega
  · rw [Rat.den_mkRat, if_neg (by omega)]
    have := log2_mono (Nat.div_le_self N (N.gcd z.natAbs))
    omega
end
end KX

set_option Elab.async false
set_option linter.all false
set_option maxRecDepth 100000
set_option maxHeartbeats 1000000
set_option autoImplicit false
namespace KX
open PySem PySem.Spec PyProof.Rows L2 TD
/-! ### levels of sizes -/
def G (N a : Nat) (x : Rat) : Prop := Gd N (2 ^ a) x
structure Nok (N : Nat) : Prop where
  p : 0 < N
  l : N.log2 < 2000
section
variable {N a b : Nat} {x y : Rat} {S : Sto}
theorem G.mono (h : G N a x) (k : a ≤ b) : G N b x := Gd.mono h (Nat.pow_le_pow_right (by decide) k)
theorem G.add (h : G N a x) (k : G N a y) : G N (a + 1) (x + y) := (Gd.add h k).mono (by rw [Nat.pow_succ]; omega)
theorem G.sub (h : G N a x) (k : G N a y) : G N (a + 1) (x - y) := (Gd.sub h k).mono (by rw [Nat.pow_succ]; omega)
theorem G.neg (h : G N a x) : G N a (-x) := Gd.neg h
theorem G.zero : G N a 0 := Gd.zero
theorem G.sm (hN : Nok N) (h : G N a x) (ha : a < 3999) : Sm x := Gd.sm h hN.p (by have := hN.l; omega) (by rw [Nat.log2_two_pow]; omega)
theorem sum_gd {B : Nat} : ∀ {xs : List Rat}, (∀ x ∈ xs, Gd N B x) → Gd N (xs.length * B) xs.sum
  | [], _ => by rw [List.sum_nil]; exact Gd.zero
  | x :: xs, h => by
    rw [List.sum_cons]
    refine ((h x (by simp)).add (sum_gd fun y hy => h y (by simp [hy]))).mono ?_
    rw [List.length_cons, Nat.add_mul, Nat.one_mul, Nat.add_comm]; exact Nat.le_refl _
theorem sum_G {xs : List Rat} (h : ∀ x ∈ xs, G N a x) (hl : xs.length ≤ 1000) : G N (a + 10) xs.sum := by
  refine Gd.mono (sum_gd (B := 2 ^ a) h) ?_
  rw [Nat.pow_add, Nat.mul_comm]
  exact Nat.mul_le_mul_left _ (by omega)
theorem rep_zero : D.tup [.int 0, .int 1] = rep 0 := rfl
theorem rep_one : D.tup [.int 1, .int 1] = rep 1 := rfl
theorem rep_nat (n : Nat) : D.tup [.int (n : Int), .int 1] = rep (n : Rat) := rfl
theorem sm_zero : Sm 0 := ⟨by decide, by decide⟩
theorem sum_of_rep {xs : List Rat} (h : ∀ n, Sm (xs.take n).sum) (hs : ∀ x ∈ xs, Sm x) : F_sum_of [.lst (xs.map rep)] S = .ok (rep xs.sum) false S := by
  apply fw_eq
  unfold F_sum_of m_sum_of
  simp only [wpsA, wpsB, List.map_cons, List.map_nil, List.length_cons, List.length_nil, List.replicate_succ, List.replicate_zero, List.cons_append, List.nil_append, List.getElem?_cons_zero, List.getElem?_cons_succ, List.set_cons_zero, List.set_cons_succ, ow_true, ow_false, Option.bind_some, true_and, and_true, Nat.zero_add, Nat.reduceAdd, Nat.reduceSub, Nat.reduceLeDiff]
  rw [rep_zero]
  refine wp_for (fun pre t S' => (∃ s, t = [.sh (.lst (xs.map rep)), .sh (rep pre.sum), s]) ∧ S' = S) ⟨⟨_, rfl⟩, rfl⟩ (fun p x r t S' e ⟨⟨s, h1⟩, h2⟩ => ?_) (fun t S' ⟨⟨s, h1⟩, h2⟩ => ?_)
  · subst h1 h2
    have hx : Sm x := hs x (by rw [← e]; simp)
    have hp : Sm p.sum := by have := h p.length; rw [← e, List.take_left] at this; exact this
    simp only [wpsA, wpsB, List.map_cons, List.map_nil, List.length_cons, List.length_nil, List.replicate_succ, List.replicate_zero, List.cons_append, List.nil_append, List.getElem?_cons_zero, List.getElem?_cons_succ, List.set_cons_zero, List.set_cons_succ, ow_true, ow_false, Option.bind_some, true_and, and_true, Nat.zero_add, Nat.reduceAdd, Nat.reduceSub, Nat.reduceLeDiff, plus_rep hp hx, List.sum_append, List.sum_cons, List.sum_nil, Rat.add_zero]
    exact ⟨_, rfl⟩
  · subst h1 h2
    simp only [wpsA, wpsB, List.map_cons, List.map_nil, List.length_cons, List.length_nil, List.replicate_succ, List.replicate_zero, List.cons_append, List.nil_append, List.getElem?_cons_zero, List.getElem?_cons_succ, List.set_cons_zero, List.set_cons_succ, ow_true, ow_false, Option.bind_some, true_and, and_true, Nat.zero_add, Nat.reduceAdd, Nat.reduceSub, Nat.reduceLeDiff]
theorem sum_of_G {xs : List Rat} (hN : Nok N) (h : ∀ x ∈ xs, G N a x) (ha : a < 3900) (hl : xs.length ≤ 1000) : F_sum_of [.lst (xs.map rep)] S = .ok (rep xs.sum) false S :=
  sum_of_rep (fun n => (sum_G (fun x hx => h x (List.mem_of_mem_take hx)) (by rw [List.length_take]; omega)).sm hN (by omega)) fun x hx => (h x hx).sm hN (by omega)
def mn (x y : Rat) : Rat := if y < x then y else x
def mx (x y : Rat) : Rat := if x < y then y else x
theorem least2 (hx : Sm x) (hy : Sm y) : F_least [.lst [rep x, rep y]] S = .ok (rep (mn x y)) false S := by
  apply fw_eq
  unfold F_least m_least
  simp only [wpsA, wpsB, List.map_cons, List.map_nil, List.length_cons, List.length_nil, List.replicate_succ, List.replicate_zero, List.cons_append, List.nil_append, List.getElem?_cons_zero, List.getElem?_cons_succ, List.set_cons_zero, List.set_cons_succ, ow_true, ow_false, Option.bind_some, true_and, and_true, Nat.zero_add, Nat.reduceAdd, Nat.reduceSub, Nat.reduceLeDiff, loop_cons, loop_nil, below_rep hx hx, decide_eq_false (Rat.lt_irrefl (a := x)), below_rep hy hx]
  unfold mn
  by_cases h : y < x
  · rw [decide_eq_true h, if_pos h]
    simp only [wpsA, wpsB, List.map_cons, List.map_nil, List.length_cons, List.length_nil, List.replicate_succ, List.replicate_zero, List.cons_append, List.nil_append, List.getElem?_cons_zero, List.getElem?_cons_succ, List.set_cons_zero, List.set_cons_succ, ow_true, ow_false, Option.bind_some, true_and, and_true, Nat.zero_add, Nat.reduceAdd, Nat.reduceSub, Nat.reduceLeDiff, loop_nil]
  · rw [decide_eq_false h, if_neg h]
    simp only [wpsA, wpsB, List.map_cons, List.map_nil, List.length_cons, List.length_nil, List.replicate_succ, List.replicate_zero, List.cons_append, List.nil_append, List.getElem?_cons_zero, List.getElem?_cons_succ, List.set_cons_zero, List.set_cons_succ, ow_true, ow_false, Option.bind_some, true_and, and_true, Nat.zero_add, Nat.reduceAdd, Nat.reduceSub, Nat.reduceLeDiff, loop_nil]
theorem greatest2 (hx : Sm x) (hy : Sm y) : F_greatest [.lst [rep x, rep y]] S = .ok (rep (mx x y)) false S := by
  apply fw_eq
  unfold F_greatest m_greatest
  simp only [wpsA, wpsB, List.map_cons, List.map_nil, List.length_cons, List.length_nil, List.replicate_succ, List.replicate_zero, List.cons_append, List.nil_append, List.getElem?_cons_zero, List.getElem?_cons_succ, List.set_cons_zero, List.set_cons_succ, ow_true, ow_false, Option.bind_some, true_and, and_true, Nat.zero_add, Nat.reduceAdd, Nat.reduceSub, Nat.reduceLeDiff, loop_cons, loop_nil, below_rep hx hx, decide_eq_false (Rat.lt_irrefl (a := x)), below_rep hx hy]
  unfold mx
  by_cases h : x < y
  · rw [decide_eq_true h, if_pos h]
    simp only [wpsA, wpsB, List.map_cons, List.map_nil, List.length_cons, List.length_nil, List.replicate_succ, List.replicate_zero, List.cons_append, List.nil_append, List.getElem?_cons_zero, List.getElem?_cons_succ, List.set_cons_zero, List.set_cons_succ, ow_true, ow_false, Option.bind_some, true_and, and_true, Nat.zero_add, Nat.reduceAdd, Nat.reduceSub, Nat.reduceLeDiff, loop_nil]
  · rw [decide_eq_false h, if_neg h]
    simp only [wpsA, wpsB, List.map_cons, List.map_nil, List.length_cons, List.length_nil, List.replicate_succ, List.replicate_zero, List.cons_append, List.nil_append, List.getElem?_cons_zero, List.getElem?_cons_succ, List.set_cons_zero, List.set_cons_succ, ow_true, ow_false, Option.bind_some, true_and, and_true, Nat.zero_add, Nat.reduceAdd, Nat.reduceSub, Nat.reduceLeDiff, loop_nil]
theorem G.mn (h : G N a x) (k : G N a y) : G N a (mn x y) := by unfold KX.mn; split <;> assumption
theorem G.mx (h : G N a x) (k : G N a y) : G N a (mx x y) := by unfold KX.mx; split <;> assumption
/-! ### wishes -/
structure W where
  m : Rat
  h : Rat
  s : Rat
def encW (w : W) : D := .tup [rep w.m, rep w.h]
/-- sizes of a wish and its span -/
structure WG (N : Nat) (w : W) : Prop where
  m : G N 60 w.m
  h : G N 60 w.h
  s : G N 60 w.s
def offs : Rat → List W → List Rat
  | _, [] => []
  | o, w :: ws => o :: offs (o + w.s) ws
theorem offs_take : ∀ (ws : List W) (o : Rat), (List.range ws.length).map (fun i => rep (o + ((ws.map (·.s)).take i).sum)) = (offs o ws).map rep
  | [], _ => rfl
  | w :: ws, o => by
    rw [List.length_cons, List.range_succ_eq_map, List.map_cons, List.map_map]
    show _ :: _ = rep o :: (offs (o + w.s) ws).map rep
    rw [← offs_take ws (o + w.s)]
    congr 1
    · simp [Rat.add_zero]
    · apply List.map_congr_left
      intro i _
      show rep (o + (((w :: ws).map (·.s)).take (i + 1)).sum) = _
      rw [List.map_cons, List.take_succ_cons, List.sum_cons, Rat.add_assoc]
theorem rng_map (n : Nat) : rng 0 n = (List.range n).map fun i => D.int (i : Nat) := by
  unfold rng
  apply List.map_congr_left
  intro i _
  rw [Int.zero_add]
theorem back_clr1 (a : D) (s : Slot) : back [1] [.sh a, .no] (clr [1] [.sh a, s]) = [.sh a, .no] := rfl
theorem cut_to (ds : List D) (n : Nat) (h : n ≤ ds.length) : TD.cutD ds none (some (n : Int)) = ds.take n := by
  unfold TD.cutD
  rw [HT.sIx_none, HT.sIx_nat, Nat.min_eq_left h, List.drop_zero, Nat.sub_zero]
theorem cut_from (ds : List D) (n : Nat) (h : n ≤ ds.length) : TD.cutD ds (some (n : Int)) none = ds.drop n := by
  unfold TD.cutD
  rw [HT.sIx_none, HT.sIx_nat, Nat.min_eq_left h, List.take_of_length_le (by rw [List.length_drop]; omega)]
theorem cut_both (ds : List D) (i j : Nat) (hi : i ≤ j) (h : j ≤ ds.length) : TD.cutD ds (some (i : Int)) (some (j : Int)) = (ds.drop i).take (j - i) := by
  unfold TD.cutD
  rw [HT.sIx_nat, HT.sIx_nat, Nat.min_eq_left h, Nat.min_eq_left (by omega)]
theorem offsets_rep {ws : List W} (hN : Nok N) (h : ∀ w ∈ ws, WG N w) (hl : ws.length ≤ 1000) : F_offsets_of [.lst ((ws.map (·.s)).map rep)] S = .ok (.lst ((offs 0 ws).map rep)) true S := by
  apply fw_eq
  unfold F_offsets_of m_offsets_of
  simp only [wpsA, wpsB, List.map_cons, List.map_nil, List.length_cons, List.length_nil, List.replicate_succ, List.replicate_zero, List.cons_append, List.nil_append, List.getElem?_cons_zero, List.getElem?_cons_succ, List.set_cons_zero, List.set_cons_succ, ow_true, ow_false, Option.bind_some, true_and, and_true, Nat.zero_add, Nat.reduceAdd, Nat.reduceSub, Nat.reduceLeDiff, Int.toNat_natCast, List.length_map, rng_map]
  refine ⟨⟨by omega, by omega⟩, by rw [List.length_range]; omega, ?_⟩
  refine wp_lcP (fun _ => true) (fun i => rep (0 + ((ws.map (·.s)).take i).sum)) (fun i hi => ?_) ?_
  · have hi' : i ≤ ws.length := by have := List.mem_range.mp hi; simp only [List.length_map] at this; omega
    simp only [wpsA, wpsB, List.map_cons, List.map_nil, List.length_cons, List.length_nil, List.replicate_succ, List.replicate_zero, List.cons_append, List.nil_append, List.getElem?_cons_zero, List.getElem?_cons_succ, List.set_cons_zero, List.set_cons_succ, ow_true, ow_false, Option.bind_some, true_and, and_true, Nat.zero_add, Nat.reduceAdd, Nat.reduceSub, Nat.reduceLeDiff]
    refine fun _ => ?_
    rw [Int.zero_add, cut_to _ _ (by simp; omega)]
    refine ⟨by rw [List.length_take, List.length_map, List.length_map]; omega, ?_⟩
    rw [← List.map_take, sum_of_G (N := N) (a := 60) hN (fun x hx => by
      obtain ⟨w, hw, rfl⟩ := List.mem_map.mp (List.mem_of_mem_take hx)
      exact (h w hw).s) (by decide) (by rw [List.length_take, List.length_map]; omega)]
    simp only [wpsA, wpsB, List.map_cons, List.map_nil, List.length_cons, List.length_nil, List.replicate_succ, List.replicate_zero, List.cons_append, List.nil_append, List.getElem?_cons_zero, List.getElem?_cons_succ, List.set_cons_zero, List.set_cons_succ, ow_true, ow_false, Option.bind_some, true_and, and_true, Nat.zero_add, Nat.reduceAdd, Nat.reduceSub, Nat.reduceLeDiff, Rat.zero_add]
  · simp only [wpsA, wpsB, List.map_cons, List.map_nil, List.length_cons, List.length_nil, List.replicate_succ, List.replicate_zero, List.cons_append, List.nil_append, List.getElem?_cons_zero, List.getElem?_cons_succ, List.set_cons_zero, List.set_cons_succ, ow_true, ow_false, Option.bind_some, true_and, and_true, Nat.zero_add, Nat.reduceAdd, Nat.reduceSub, Nat.reduceLeDiff]
    rw [List.filter_eq_self.mpr (fun _ _ => rfl), List.length_map, List.length_map, offs_take]
end
end KX

set_option Elab.async false
set_option linter.all false
set_option maxRecDepth 100000
set_option maxHeartbeats 1000000
set_option autoImplicit false
namespace KX
open PySem PySem.Spec PyProof.Rows L2 TD
section
variable {N a b : Nat} {x y : Rat} {S : Sto}
theorem spans_rep {ws : List W} {R : Nat} (hN : Nok N) (h : ∀ w ∈ ws, WG N w) (hR : 0 < R) (hRs : R.log2 < 1000) (hs : ∀ w ∈ ws, w.s = w.h / (R : Rat)) (hl : ws.length ≤ 1000) :
    F_spans_of [.int R, .lst (ws.map encW)] S = .ok (.lst ((ws.map (·.s)).map rep)) true S := by
  have sR : Sm (R : Rat) := ⟨by rw [Rat.num_natCast, Int.natAbs_natCast]; omega, by rw [Rat.den_natCast]; decide⟩
  have nR : (R : Rat) ≠ 0 := fun z => by have := Rat.natCast_pos.mpr hR; rw [z] at this; exact Rat.lt_irrefl this
  apply fw_eq
  unfold F_spans_of m_spans_of
  simp only [wpsA, wpsB, List.map_cons, List.map_nil, List.length_cons, List.length_nil, List.replicate_succ, List.replicate_zero, List.cons_append, List.nil_append, List.getElem?_cons_zero, List.getElem?_cons_succ, List.set_cons_zero, List.set_cons_succ, ow_true, ow_false, Option.bind_some, true_and, and_true, Nat.zero_add, Nat.reduceAdd, Nat.reduceSub, Nat.reduceLeDiff]
  refine ⟨by rw [List.length_map]; omega, ?_⟩
  refine wp_lcP (fun _ => true) (fun w => rep w.s) (fun w hw => ?_) ?_
  · unfold encW
    simp only [wpsA, wpsB, List.map_cons, List.map_nil, List.length_cons, List.length_nil, List.replicate_succ, List.replicate_zero, List.cons_append, List.nil_append, List.getElem?_cons_zero, List.getElem?_cons_succ, List.set_cons_zero, List.set_cons_succ, ow_true, ow_false, Option.bind_some, true_and, and_true, Nat.zero_add, Nat.reduceAdd, Nat.reduceSub, Nat.reduceLeDiff]
    intro _
    rw [rep_nat, parted_rep ((h w hw).h.sm hN (by decide)) sR nR, ← hs w hw]
    simp only [wpsA, wpsB, List.map_cons, List.map_nil, List.length_cons, List.length_nil, List.replicate_succ, List.replicate_zero, List.cons_append, List.nil_append, List.getElem?_cons_zero, List.getElem?_cons_succ, List.set_cons_zero, List.set_cons_succ, ow_true, ow_false, Option.bind_some, true_and, and_true, Nat.zero_add, Nat.reduceAdd, Nat.reduceSub, Nat.reduceLeDiff]
  · rw [List.filter_eq_self.mpr (fun _ _ => rfl)]
    simp only [wpsA, wpsB, List.map_cons, List.map_nil, List.length_cons, List.length_nil, List.replicate_succ, List.replicate_zero, List.cons_append, List.nil_append, List.getElem?_cons_zero, List.getElem?_cons_succ, List.set_cons_zero, List.set_cons_succ, ow_true, ow_false, Option.bind_some, true_and, and_true, Nat.zero_add, Nat.reduceAdd, Nat.reduceSub, Nat.reduceLeDiff]
    rw [List.map_map]
    rfl
/-! ### the beats ahead of the wishes -/
def rows : Rat → List W → List (W × Rat)
  | _, [] => []
  | o, w :: ws => (w, o) :: rows (o + w.s) ws
def encR (r : W × Rat) : D := .tup [encW r.1, rep r.1.s, rep r.2]
theorem zip_rows : ∀ (ws : List W) (o : Rat), zip3D (ws.map encW) ((ws.map (·.s)).map rep) ((offs o ws).map rep) = (rows o ws).map encR
  | [], _ => rfl
  | w :: ws, o => by
    show .tup [encW w, rep w.s, rep o] :: zip3D (ws.map encW) ((ws.map (·.s)).map rep) ((offs (o + w.s) ws).map rep) = encR (w, o) :: (rows (o + w.s) ws).map encR
    rw [zip_rows ws]; rfl
def eterm (b : Rat) (r : W × Rat) : Rat := mx 0 (mn (r.1.m - (b + r.2)) r.1.s)
def E (ws : List W) (b : Rat) : Rat := ((rows 0 ws).map (eterm b)).sum
theorem rows_mem : ∀ {ws : List W} {o : Rat} {r : W × Rat}, r ∈ rows o ws → r.1 ∈ ws ∧ ∃ k : Nat, r.2 = o + ((ws.map (·.s)).take k).sum
  | [], _, _, h => nomatch h
  | w :: ws, o, r, h => by
    rcases List.mem_cons.mp h with rfl | h
    · exact ⟨by simp, 0, by simp [Rat.add_zero]⟩
    · obtain ⟨h1, k, h2⟩ := rows_mem h
      exact ⟨List.mem_cons_of_mem _ h1, k + 1, by rw [h2, List.map_cons, List.take_succ_cons, List.sum_cons, Rat.add_assoc]⟩
theorem rows_len : ∀ (ws : List W) (o : Rat), (rows o ws).length = ws.length
  | [], _ => rfl
  | w :: ws, o => by rw [rows, List.length_cons, rows_len ws, List.length_cons]
theorem rows_G {ws : List W} (h : ∀ w ∈ ws, WG N w) (hl : ws.length ≤ 1000) {r : W × Rat} (hr : r ∈ rows 0 ws) : G N 70 r.2 := by
  obtain ⟨_, k, e⟩ := rows_mem hr
  rw [e, Rat.zero_add]
  refine sum_G (a := 60) (fun x hx => ?_) (by rw [List.length_take, List.length_map]; omega)
  obtain ⟨w, hw, rfl⟩ := List.mem_map.mp (List.mem_of_mem_take hx)
  exact (h w hw).s
theorem eterm_G {ws : List W} (h : ∀ w ∈ ws, WG N w) (hl : ws.length ≤ 1000) {b : Rat} (hb : G N 80 b) {r : W × Rat} (hr : r ∈ rows 0 ws) : G N 82 (eterm b r) :=
  G.mx G.zero (G.mn (((h r.1 (rows_mem hr).1).m.mono (by decide)).sub (hb.add ((rows_G h hl hr).mono (by decide)))) ((h r.1 (rows_mem hr).1).s.mono (by decide)))
theorem E_G {ws : List W} (h : ∀ w ∈ ws, WG N w) (hl : ws.length ≤ 1000) {b : Rat} (hb : G N 80 b) : G N 92 (E ws b) := by
  refine sum_G (a := 82) (fun x hx => ?_) (by rw [List.length_map, rows_len]; omega)
  obtain ⟨r, hr, rfl⟩ := List.mem_map.mp hx
  exact eterm_G h hl hb hr
theorem early_rep {ws : List W} (hN : Nok N) (h : ∀ w ∈ ws, WG N w) (hl : ws.length ≤ 1000) {b : Rat} (hb : G N 80 b) :
    F_early_beats [.lst (ws.map encW), .lst ((ws.map (·.s)).map rep), rep b] S = .ok (rep (E ws b)) false S := by
  apply fw_eq
  unfold F_early_beats m_early_beats
  simp only [wpsA, wpsB, List.map_cons, List.map_nil, List.length_cons, List.length_nil, List.replicate_succ, List.replicate_zero, List.cons_append, List.nil_append, List.getElem?_cons_zero, List.getElem?_cons_succ, List.set_cons_zero, List.set_cons_succ, ow_true, ow_false, Option.bind_some, true_and, and_true, Nat.zero_add, Nat.reduceAdd, Nat.reduceSub, Nat.reduceLeDiff, offsets_rep hN h hl]
  rw [zip_rows, rep_zero]
  refine wp_for (fun pre t S' => (∃ s4 s5 s6 s7 s8, t = [.sh (.lst (ws.map encW)), .sh (.lst ((ws.map (·.s)).map rep)), .sh (rep b), .sh (rep ((pre.map (eterm b)).sum)), s4, s5, s6, s7, s8]) ∧ S' = S) ⟨⟨_, _, _, _, _, rfl⟩, rfl⟩ (fun p r q t S' e ⟨⟨s4, s5, s6, s7, s8, h1⟩, h2⟩ => ?_) (fun t S' ⟨⟨s4, s5, s6, s7, s8, h1⟩, h2⟩ => ?_)
  · subst h1 h2
    have hr : r ∈ rows 0 ws := by rw [← e]; simp
    have ho := rows_G h hl hr
    have hw := h r.1 (rows_mem hr).1
    have g1 : G N 81 (b + r.2) := hb.add (ho.mono (by decide))
    have g2 : G N 82 (r.1.m - (b + r.2)) := (hw.m.mono (by decide)).sub g1
    have g3 : G N 82 (mn (r.1.m - (b + r.2)) r.1.s) := G.mn g2 (hw.s.mono (by decide))
    have g4 : G N 92 ((p.map (eterm b)).sum) := by
      refine sum_G (a := 82) (fun x hx => ?_) (by rw [List.length_map]; have := rows_len ws 0; rw [← e, List.length_append] at this; omega)
      obtain ⟨u, hu, rfl⟩ := List.mem_map.mp hx
      exact eterm_G h hl hb (by rw [← e]; simp [hu])
    unfold encR encW
    simp only [wpsA, wpsB, List.map_cons, List.map_nil, List.length_cons, List.length_nil, List.replicate_succ, List.replicate_zero, List.cons_append, List.nil_append, List.getElem?_cons_zero, List.getElem?_cons_succ, List.set_cons_zero, List.set_cons_succ, ow_true, ow_false, Option.bind_some, true_and, and_true, Nat.zero_add, Nat.reduceAdd, Nat.reduceSub, Nat.reduceLeDiff, plus_rep (hb.sm hN (by decide)) (ho.sm hN (by decide)), less_rep (hw.m.sm hN (by decide)) (g1.sm hN (by decide)), least2 (g2.sm hN (by decide)) (hw.s.sm hN (by decide)), rep_zero, greatest2 sm_zero (g3.sm hN (by decide)), plus_rep (g4.sm hN (by decide)) ((G.mx G.zero g3).sm hN (by decide))]
    have e5 : ((p ++ [r]).map (eterm b)).sum = (p.map (eterm b)).sum + mx 0 (mn (r.1.m - (b + r.2)) r.1.s) := by
      rw [List.map_append, List.sum_append, List.map_cons, List.sum_cons, List.map_nil, List.sum_nil, Rat.add_zero]; rfl
    rw [e5]
    exact ⟨_, _, _, _, _, rfl⟩
  · subst h1 h2
    simp only [wpsA, wpsB, List.map_cons, List.map_nil, List.length_cons, List.length_nil, List.replicate_succ, List.replicate_zero, List.cons_append, List.nil_append, List.getElem?_cons_zero, List.getElem?_cons_succ, List.set_cons_zero, List.set_cons_succ, ow_true, ow_false, Option.bind_some, true_and, and_true, Nat.zero_add, Nat.reduceAdd, Nat.reduceSub, Nat.reduceLeDiff]
    rfl
/-! ### moments in order -/
def srtE (jc : Nat) (x : D) : ME := fun t S => match t[jc]?, x with
  | some (.sh (.int cm)), .lst ds => if ds.length ≤ lim then match sortFr cm ds with
      | some r => .ok (.lst r, true) t S
      | none => .bad
    else .bad
  | _, _ => .bad
theorem e_sortFr {t : Ev} (jc : Nat) (m : ME) (Q : D → Bool → Ev → Sto → Prop) : TD.WE (eSortFr jc m) t S Q = TD.WE m t S fun d _ t S => TD.WE (srtE jc d) t S Q := e_eb _ _ _
theorem e_srtE {t : Ev} {jc : Nat} {cm : Int} {ds r : List D} {Q : D → Bool → Ev → Sto → Prop} (h : t[jc]? = some (.sh (.int cm))) (hl : ds.length ≤ lim) (hs : sortFr cm ds = some r) : TD.WE (srtE jc (.lst ds)) t S Q = Q (.lst r) true t S := by
  have e : srtE jc (.lst ds) t S = .ok (.lst r, true) t S := by
    unfold srtE
    rw [h]
    simp only
    rw [if_pos hl, hs]
  unfold TD.WE WP
  rw [e]
theorem Gd.den {N B : Nat} {x : Rat} (h : Gd N B x) (hN : 0 < N) : x.den ∣ N := by
  obtain ⟨z, e, l⟩ := h.eqM hN
  subst e
  rw [Rat.den_mkRat, if_neg (by omega)]
  exact Nat.div_dvd_of_dvd (Nat.gcd_dvd_left _ _)
theorem lcm_step (c d : Nat) (hd : 0 < d) : ((c : Int) * (d : Int)) / (((c : Int).natAbs.gcd (d : Int).natAbs : Nat) : Int) = (c.lcm d : Nat) := by
  rw [Int.natAbs_natCast, Int.natAbs_natCast, ← Int.natCast_mul, ← Int.natCast_ediv]; rfl
def lcms : Nat → List Rat → Nat
  | c, [] => c
  | c, x :: xs => lcms (c.lcm x.den) xs
theorem lcms_dvd : ∀ {xs : List Rat} {c : Nat}, c ∣ N → (∀ x ∈ xs, x.den ∣ N) → lcms c xs ∣ N
  | [], _, h, _ => h
  | x :: xs, c, h, k => lcms_dvd (xs := xs) (Nat.lcm_dvd h (k x (by simp))) fun y hy => k y (by simp [hy])
theorem dvd_lcms : ∀ {xs : List Rat} {c : Nat}, c ∣ lcms c xs ∧ ∀ x ∈ xs, x.den ∣ lcms c xs
  | [], c => ⟨Nat.dvd_refl _, fun _ h => nomatch h⟩
  | x :: xs, c => by
    have ih := dvd_lcms (xs := xs) (c := c.lcm x.den)
    refine ⟨Nat.dvd_trans (Nat.dvd_lcm_left _ _) ih.1, fun y hy => ?_⟩
    rcases List.mem_cons.mp hy with rfl | hy
    · exact Nat.dvd_trans (Nat.dvd_lcm_right _ _) ih.1
    · exact ih.2 y hy
theorem lcms_app : ∀ (xs ys : List Rat) (c : Nat), lcms c (xs ++ ys) = lcms (lcms c xs) ys
  | [], _, _ => rfl
  | x :: xs, ys, c => lcms_app xs ys (c.lcm x.den)
theorem key_ok {cm : Nat} {x : Rat} (hx : Sm x) (hd : x.den ∣ cm) (hc : 0 < cm) (hl : cm.log2 < 2000) : keyFr cm (rep x) = some (x.num * ((cm : Int) / (x.den : Int))) := by
  unfold keyFr rep
  simp only
  rw [if_pos]
  have h1 : ((cm : Int) / (x.den : Int)).natAbs.log2 ≤ 2000 := by
    rw [← Int.natCast_ediv, Int.natAbs_natCast]
    have := log2_mono (Nat.div_le_self cm x.den)
    omega
  exact ⟨divOk_of (den_pos x) (by rw [Int.natAbs_natCast]; have := hx.d; omega), mulOk_of (Nat.le_of_lt hx.n) h1 (by decide)⟩
theorem keys_ok {cm : Nat} (hc : 0 < cm) (hl : cm.log2 < 2000) : ∀ {xs : List Rat}, (∀ x ∈ xs, Sm x ∧ x.den ∣ cm) → keysFr cm (xs.map rep) = some (xs.map fun x => x.num * ((cm : Int) / (x.den : Int)))
  | [], _ => rfl
  | x :: xs, h => by
    rw [List.map_cons, keysFr, key_ok (h x (by simp)).1 (h x (by simp)).2 hc hl, keys_ok hc hl fun y hy => h y (by simp [hy])]
    rfl
theorem key_le {cm : Nat} (hc : 0 < cm) {x y : Rat} (hx : x.den ∣ cm) (hy : y.den ∣ cm) (h : x.num * ((cm : Int) / (x.den : Int)) ≤ y.num * ((cm : Int) / (y.den : Int))) : x ≤ y := by
  obtain ⟨p, hp⟩ := hx
  obtain ⟨q, hq⟩ := hy
  have e1 : (cm : Int) / (x.den : Int) = p := by rw [hp, Int.natCast_mul, Int.mul_ediv_cancel_left _ (by have := den_pos x; omega)]
  have e2 : (cm : Int) / (y.den : Int) = q := by rw [hq, Int.natCast_mul, Int.mul_ediv_cancel_left _ (by have := den_pos y; omega)]
  rw [e1, e2] at h
  rw [Rat.le_iff]
  have cc : (x.den : Int) * p = (y.den : Int) * q := by rw [← Int.natCast_mul, ← Int.natCast_mul, ← hp, ← hq]
  have cp : (0 : Int) < (x.den : Int) * p := by rw [← Int.natCast_mul, ← hp]; omega
  have z : (x.num * p) * ((x.den : Int) * (y.den : Int)) ≤ (y.num * q) * ((x.den : Int) * (y.den : Int)) := Int.mul_le_mul_of_nonneg_right h (Int.le_of_lt (dd_pos x y))
  have e3 : (x.num * p) * ((x.den : Int) * (y.den : Int)) = (x.num * y.den) * ((x.den : Int) * p) := by ac_rfl
  have e4 : (y.num * q) * ((x.den : Int) * (y.den : Int)) = (y.num * x.den) * ((x.den : Int) * p) := by rw [cc]; ac_rfl
  rw [e3, e4] at z
  exact Int.le_of_mul_le_mul_right z cp
theorem in_order_rep {xs : List Rat} (hN : Nok N) (h : ∀ x ∈ xs, G N a x) (ha : a < 3900) (hl : xs.length ≤ 1000) :
    ∃ ys : List Rat, F_in_order [.lst (xs.map rep)] S = .ok (.lst (ys.map rep)) true S ∧ ys.Perm xs ∧ ys.Pairwise (· ≤ ·) := by
  have hd : ∀ x ∈ xs, x.den ∣ N := fun x hx => Gd.den (h x hx) hN.p
  have hs : ∀ x ∈ xs, Sm x := fun x hx => (h x hx).sm hN (by omega)
  have hdv : lcms 1 xs ∣ N := lcms_dvd (Nat.one_dvd _) hd
  have hc : 0 < lcms 1 xs := Nat.pos_of_dvd_of_pos hdv hN.p
  have hlog : (lcms 1 xs).log2 < 2000 := Nat.lt_of_le_of_lt (log2_mono (Nat.le_of_dvd hN.p hdv)) hN.l
  let key : Rat → Int := fun x => x.num * ((lcms 1 xs : Nat) / (x.den : Int))
  let ps : List (Rat × Int) := xs.map fun x => (x, key x)
  let qs := ps.mergeSort fun a b => decide (a.2 ≤ b.2)
  have hperm : qs.Perm ps := List.mergeSort_perm _ _
  have hsort : qs.Pairwise fun a b => decide (a.2 ≤ b.2) = true := List.pairwise_mergeSort (le := fun a b => decide (a.2 ≤ b.2)) (fun a b c h1 h2 => by simp only [decide_eq_true_eq] at *; omega) (fun a b => by simp only [Bool.or_eq_true, decide_eq_true_eq]; omega) ps
  refine ⟨qs.map (·.1), ?_, ?_, ?_⟩
  · apply fw_eq
    unfold F_in_order m_in_order
    simp only [wpsA, wpsB, List.map_cons, List.map_nil, List.length_cons, List.length_nil, List.replicate_succ, List.replicate_zero, List.cons_append, List.nil_append, List.getElem?_cons_zero, List.getElem?_cons_succ, List.set_cons_zero, List.set_cons_succ, ow_true, ow_false, Option.bind_some, true_and, and_true, Nat.zero_add, Nat.reduceAdd, Nat.reduceSub, Nat.reduceLeDiff]
    refine wp_for (fun pre t S' => (∃ s, t = [.sh (.lst (xs.map rep)), .sh (.int (lcms 1 pre : Nat)), s]) ∧ S' = S) ⟨⟨_, rfl⟩, rfl⟩ (fun p x r t S' e ⟨⟨s, h1⟩, h2⟩ => ?_) (fun t S' ⟨⟨s, h1⟩, h2⟩ => ?_)
    · subst h1 h2
      have hp : lcms 1 p ∣ N := lcms_dvd (Nat.one_dvd _) fun y hy => hd y (by rw [← e]; simp [hy])
      have hp0 : 0 < lcms 1 p := Nat.pos_of_dvd_of_pos hp hN.p
      have hpl : (lcms 1 p).log2 < 2000 := Nat.lt_of_le_of_lt (log2_mono (Nat.le_of_dvd hN.p hp)) hN.l
      have hx := hs x (by rw [← e]; simp)
      have hg : divOk (((lcms 1 p : Nat) : Int).natAbs.gcd (x.den : Int).natAbs : Nat) = true := by
        rw [Int.natAbs_natCast, Int.natAbs_natCast]
        have g0 : 0 < (lcms 1 p).gcd x.den := Nat.gcd_pos_of_pos_left _ hp0
        have g1 := log2_mono (Nat.gcd_le_left x.den hp0)
        exact divOk_of (by omega) (by rw [Int.natAbs_natCast]; omega)
      unfold rep
      simp only [wpsA, wpsB, List.map_cons, List.map_nil, List.length_cons, List.length_nil, List.replicate_succ, List.replicate_zero, List.cons_append, List.nil_append, List.getElem?_cons_zero, List.getElem?_cons_succ, List.set_cons_zero, List.set_cons_succ, ow_true, ow_false, Option.bind_some, true_and, and_true, Nat.zero_add, Nat.reduceAdd, Nat.reduceSub, Nat.reduceLeDiff]
      rw [e_mul _ _ _ (mulOk_of (a := 2000) (b := 4000) (by rw [Int.natAbs_natCast]; omega) (by rw [Int.natAbs_natCast]; have := hx.d; omega) (by decide))]
      simp only [wpsA, wpsB, List.map_cons, List.map_nil, List.length_cons, List.length_nil, List.replicate_succ, List.replicate_zero, List.cons_append, List.nil_append, List.getElem?_cons_zero, List.getElem?_cons_succ, List.set_cons_zero, List.set_cons_succ, ow_true, ow_false, Option.bind_some, true_and, and_true, Nat.zero_add, Nat.reduceAdd, Nat.reduceSub, Nat.reduceLeDiff]
      rw [e_fdiv _ _ _ hg]
      simp only [wpsA, wpsB, List.map_cons, List.map_nil, List.length_cons, List.length_nil, List.replicate_succ, List.replicate_zero, List.cons_append, List.nil_append, List.getElem?_cons_zero, List.getElem?_cons_succ, List.set_cons_zero, List.set_cons_succ, ow_true, ow_false, Option.bind_some, true_and, and_true, Nat.zero_add, Nat.reduceAdd, Nat.reduceSub, Nat.reduceLeDiff]
      rw [lcm_step _ _ x.den_pos, lcms_app]
      exact ⟨_, rfl⟩
    · subst h1 h2
      simp only [wpsA, wpsB, List.map_cons, List.map_nil, List.length_cons, List.length_nil, List.replicate_succ, List.replicate_zero, List.cons_append, List.nil_append, List.getElem?_cons_zero, List.getElem?_cons_succ, List.set_cons_zero, List.set_cons_succ, ow_true, ow_false, Option.bind_some, true_and, and_true, Nat.zero_add, Nat.reduceAdd, Nat.reduceSub, Nat.reduceLeDiff]
      have ks := keys_ok hc hlog (xs := xs) fun x hx => ⟨hs x hx, dvd_lcms.2 x hx⟩
      have so : sortFr (lcms 1 xs : Nat) (xs.map rep) = some ((qs.map (·.1)).map rep) := by
        unfold sortFr
        rw [ks]
        show some ((sortBy ((xs.map rep).zip (xs.map key))).map (·.1)) = _
        rw [sortBy_eq, List.zip_map']
        have e1 : xs.map (fun x => (rep x, key x)) = ps.map fun p => (rep p.1, p.2) := by
          show _ = (xs.map fun x => (x, key x)).map fun p => (rep p.1, p.2)
          rw [List.map_map]; rfl
        rw [e1, ← List.map_mergeSort (r := fun (a b : Rat × Int) => decide (a.2 ≤ b.2)) (s := fun (a b : D × Int) => decide (a.2 ≤ b.2)) (f := fun p : Rat × Int => (rep p.1, p.2)) (l := ps) (fun a _ b _ => rfl)]
        rw [List.map_map, List.map_map]; rfl
      rw [e_sortFr, e_var]
      simp only [wpsA, wpsB, List.map_cons, List.map_nil, List.length_cons, List.length_nil, List.replicate_succ, List.replicate_zero, List.cons_append, List.nil_append, List.getElem?_cons_zero, List.getElem?_cons_succ, List.set_cons_zero, List.set_cons_succ, ow_true, ow_false, Option.bind_some, true_and, and_true, Nat.zero_add, Nat.reduceAdd, Nat.reduceSub, Nat.reduceLeDiff]
      rw [e_srtE (cm := ((lcms 1 xs : Nat) : Int)) rfl (by rw [List.length_map, lim_eq]; omega) so]
      simp only [wpsA, wpsB, List.map_cons, List.map_nil, List.length_cons, List.length_nil, List.replicate_succ, List.replicate_zero, List.cons_append, List.nil_append, List.getElem?_cons_zero, List.getElem?_cons_succ, List.set_cons_zero, List.set_cons_succ, ow_true, ow_false, Option.bind_some, true_and, and_true, Nat.zero_add, Nat.reduceAdd, Nat.reduceSub, Nat.reduceLeDiff]
  · have := hperm.map (·.1)
    rw [show ps.map (·.1) = xs by show (xs.map fun x => (x, key x)).map (·.1) = xs; rw [List.map_map]; exact List.map_id' xs] at this
    exact this
  · rw [List.pairwise_map]
    refine List.Pairwise.imp_of_mem ?_ hsort
    intro u v hu hv huv
    have hu' := hperm.mem_iff.mp hu
    have hv' := hperm.mem_iff.mp hv
    obtain ⟨x, hx, rfl⟩ := List.mem_map.mp hu'
    obtain ⟨y, hy, rfl⟩ := List.mem_map.mp hv'
    exact key_le hc (dvd_lcms.2 x hx) (dvd_lcms.2 y hy) (of_decide_eq_true huv)
end
end KX

set_option Elab.async false
set_option linter.all false
set_option maxRecDepth 100000
set_option maxHeartbeats 1000000
set_option autoImplicit false
namespace KX
theorem eterm_anti {b c : Rat} {r : W × Rat} (h : b ≤ c) : eterm c r ≤ eterm b r := by
  unfold eterm mx mn; grind
theorem eterm_nonneg {b : Rat} {r : W × Rat} : 0 ≤ eterm b r := by
  unfold eterm mx mn; grind
theorem eterm_le {b : Rat} {r : W × Rat} (h : 0 ≤ r.1.s) : eterm b r ≤ r.1.s := by
  unfold eterm mx mn; grind
theorem sum_anti {b c : Rat} (h : b ≤ c) : ∀ rs : List (W × Rat), (rs.map (eterm c)).sum ≤ (rs.map (eterm b)).sum
  | [] => Rat.le_refl
  | r :: rs => by
    have := sum_anti h rs
    have := eterm_anti (r := r) h
    simp only [List.map_cons, List.sum_cons]
    grind
theorem E_anti {ws : List W} {b c : Rat} (h : b ≤ c) : E ws c ≤ E ws b := sum_anti h _
/-- r is straight between q and p -/
def Stt (r : W × Rat) (q p : Rat) : Prop := (r.1.m - r.2 ≤ q ∨ p ≤ r.1.m - r.2) ∧ (r.1.m - r.2 - r.1.s ≤ q ∨ p ≤ r.1.m - r.2 - r.1.s)
/-- .. how many are going there -/
def goes (q p : Rat) (r : W × Rat) : Nat := if r.1.m - r.2 - r.1.s ≤ q ∧ p ≤ r.1.m - r.2 then 1 else 0
theorem eterm_str {r : W × Rat} {q p b : Rat} (h : Stt r q p) (hs : 0 ≤ r.1.s) (h1 : q ≤ b) (h2 : b ≤ p) (h3 : q < p) : eterm b r = eterm p r + (goes q p r : Nat) * (p - b) := by
  unfold Stt at h
  by_cases g : r.1.m - r.2 - r.1.s ≤ q ∧ p ≤ r.1.m - r.2
  · have e : ((goes q p r : Nat) : Rat) = 1 := by unfold goes; rw [if_pos g]; rfl
    rw [e]
    unfold eterm mx mn
    grind
  · have e : ((goes q p r : Nat) : Rat) = 0 := by unfold goes; rw [if_neg g]; rfl
    rw [e]
    unfold eterm mx mn
    grind
theorem sum_str {q p b : Rat} (h1 : q ≤ b) (h2 : b ≤ p) (h3 : q < p) : ∀ rs : List (W × Rat), (∀ r ∈ rs, Stt r q p ∧ 0 ≤ r.1.s) → (rs.map (eterm b)).sum = (rs.map (eterm p)).sum + ((rs.map (goes q p)).sum : Nat) * (p - b)
  | [], _ => by
    have e : ((0 : Nat) : Rat) = 0 := rfl
    simp only [List.map_nil, List.sum_nil]
    rw [e]
    grind
  | r :: rs, h => by
    have ih := sum_str h1 h2 h3 rs fun x hx => h x (by simp [hx])
    have e := eterm_str (h r (by simp)).1 (h r (by simp)).2 h1 h2 h3
    simp only [List.map_cons, List.sum_cons]
    rw [ih, e, Rat.natCast_add]
    grind
theorem goes_le : ∀ (q p : Rat) (rs : List (W × Rat)), (rs.map (goes q p)).sum ≤ rs.length
  | _, _, [] => Nat.le_refl _
  | q, p, r :: rs => by
    have := goes_le q p rs
    have : goes q p r ≤ 1 := by unfold goes; split <;> omega
    simp only [List.map_cons, List.sum_cons, List.length_cons]
    omega
/-- b is the latest begin at which so many beats are early -/
structure IsBegin (ws : List W) (wanted b : Rat) : Prop where
  eq : E ws b = wanted
  lt : ∀ c, b < c → E ws c < wanted
theorem begin_of_pair {ws : List W} {wanted q p : Rat} (hq : q ≤ p) (hs : ∀ r ∈ rows 0 ws, Stt r q p ∧ 0 ≤ r.1.s) (h1 : E ws p < wanted) (h2 : wanted ≤ E ws q) :
    IsBegin ws wanted (p - (wanted - E ws p) / (E ws q - E ws p) * (p - q)) ∧ ∃ k : Nat, 0 < k ∧ k ≤ ws.length ∧ (p - (wanted - E ws p) / (E ws q - E ws p) * (p - q)) * (k : Rat) = p * (k : Rat) - (wanted - E ws p) := by
  have hqp : q < p := by
    by_cases z : q < p
    · exact z
    · have : q = p := by grind
      subst this
      grind
  let k := ((rows 0 ws).map (goes q p)).sum
  have eq : ∀ b, q ≤ b → b ≤ p → E ws b = E ws p + (k : Rat) * (p - b) := fun b h3 h4 => sum_str h3 h4 hqp _ hs
  have e1 : E ws q - E ws p = (k : Rat) * (p - q) := by rw [eq q Rat.le_refl hq]; grind
  have hk : 0 < k := by
    rcases Nat.eq_zero_or_pos k with z | z
    · rw [z] at e1
      have e : ((0 : Nat) : Rat) = 0 := rfl
      rw [e] at e1
      grind
    · exact z
  have hkr : (0 : Rat) < (k : Rat) := Rat.natCast_pos.mpr hk
  have hd : 0 < E ws q - E ws p := by grind
  have hdn : E ws q - E ws p ≠ 0 := by grind
  let u := (wanted - E ws p) / (E ws q - E ws p)
  have hu : u * (E ws q - E ws p) = wanted - E ws p := Rat.div_mul_cancel hdn
  have u0 : 0 < u := by
    have : 0 < u * (E ws q - E ws p) := by rw [hu]; grind
    exact (Rat.mul_pos_iff_of_pos_right hd).mp this
  have u1 : u ≤ 1 := by
    refine Rat.le_of_mul_le_mul_right (c := E ws q - E ws p) ?_ hd
    rw [hu]; grind
  have m1 : u * (p - q) ≤ 1 * (p - q) := Rat.mul_le_mul_of_nonneg_right u1 (by grind)
  have m2 : 0 ≤ u * (p - q) := Rat.mul_nonneg (Rat.le_of_lt u0) (by grind)
  have b1 : q ≤ p - u * (p - q) := by grind
  have b2 : p - u * (p - q) ≤ p := by grind
  have key : (k : Rat) * (u * (p - q)) = wanted - E ws p := by
    rw [← hu, e1]; grind
  have eb : E ws (p - u * (p - q)) = wanted := by
    rw [eq _ b1 b2]
    have : p - (p - u * (p - q)) = u * (p - q) := by grind
    rw [this, key]; grind
  refine ⟨⟨eb, fun c hc => ?_⟩, k, hk, ?_, ?_⟩
  · by_cases hcp : c ≤ p
    · have hlt : p - c < p - (p - u * (p - q)) := by
        have hc' : p - u * (p - q) < c := hc
        grind
      have := Rat.mul_lt_mul_of_pos_left hlt hkr
      rw [eq c (by have hc' : p - u * (p - q) < c := hc; grind) hcp]
      rw [eq _ b1 b2] at eb
      grind
    · have := E_anti (ws := ws) (show p ≤ c by grind)
      grind
  · have := goes_le q p (rows 0 ws)
    rw [rows_len] at this
    exact this
  · show (p - u * (p - q)) * (k : Rat) = _
    grind
theorem IsBegin.unique {ws : List W} {wanted b c : Rat} (h : IsBegin ws wanted b) (k : IsBegin ws wanted c) : b = c := by
  by_cases z : b < c
  · have := h.lt c z; have := k.eq; grind
  · by_cases y : c < b
    · have := k.lt b y; have := h.eq; grind
    · grind
/-! ### the points -/
def pts (ws : List W) : List Rat := (rows 0 ws).flatMap fun r => [r.1.m - r.2, r.1.m - r.2 - r.1.s]
theorem pts_mem {ws : List W} {r : W × Rat} (h : r ∈ rows 0 ws) : r.1.m - r.2 ∈ pts ws ∧ r.1.m - r.2 - r.1.s ∈ pts ws :=
  ⟨List.mem_flatMap.mpr ⟨r, h, by simp⟩, List.mem_flatMap.mpr ⟨r, h, by simp⟩⟩
theorem E_high {ws : List W} {p : Rat} (hs : ∀ w ∈ ws, 0 ≤ w.s) (h : ∀ x ∈ pts ws, x ≤ p) : E ws p = 0 := by
  unfold E
  have : ∀ rs : List (W × Rat), (∀ r ∈ rs, r ∈ rows 0 ws) → (rs.map (eterm p)).sum = 0 := by
    intro rs
    induction rs with
    | nil => intro _; rfl
    | cons r rs ih =>
      intro hr
      rw [List.map_cons, List.sum_cons, ih fun x hx => hr x (by simp [hx])]
      have h1 := h _ (pts_mem (hr r (by simp))).1
      have h2 := hs r.1 (rows_mem (hr r (by simp))).1
      have : eterm p r = 0 := by unfold eterm mx mn; grind
      rw [this, Rat.add_zero]
  exact this _ fun _ h => h
theorem sum_rows : ∀ (ws : List W) (o : Rat), ((rows o ws).map fun r => r.1.s).sum = (ws.map (·.s)).sum
  | [], _ => rfl
  | w :: ws, o => by
    show w.s + ((rows (o + w.s) ws).map fun r => r.1.s).sum = _
    rw [sum_rows ws]; rfl
theorem E_low {ws : List W} {p : Rat} (hs : ∀ w ∈ ws, 0 ≤ w.s) (h : ∀ x ∈ pts ws, p ≤ x) : E ws p = (ws.map (·.s)).sum := by
  rw [← sum_rows ws 0]
  unfold E
  congr 1
  apply List.map_congr_left
  intro r hr
  have h1 := h _ (pts_mem hr).2
  have h2 := hs r.1 (rows_mem hr).1
  unfold eterm mx mn
  grind
end KX

set_option Elab.async false
set_option linter.all false
set_option maxRecDepth 100000
set_option maxHeartbeats 4000000
set_option autoImplicit false
namespace KX
open PySem PySem.Spec PyProof.Rows L2 TD
section
variable {N V a b : Nat} {x y : Rat} {S : Sto}
theorem G.mul {M : Nat} (h : G N a x) (k : G M b y) : G (N * M) (a + b) (x * y) := (Gd.mul h k).mono (by rw [Nat.pow_add]; exact Nat.le_refl _)
theorem G.up {c : Nat} (M : Nat) (h : G N a x) (k : M ≤ 2 ^ c) : G (N * M) (a + c) x := (Gd.up M h).mono (by rw [Nat.pow_add]; exact Nat.mul_le_mul_left _ k)
/-- a product with a small whole number -/
theorem G.muln (h : G N a x) (k : Nat) {c : Nat} (hk : k ≤ 2 ^ c) : G N (a + c) (x * (k : Rat)) := by
  obtain ⟨z, e, l⟩ := h
  refine ⟨z * k, ?_, ?_⟩
  · rw [Rat.intCast_mul, ← e, Rat.intCast_natCast]; grind
  · rw [Int.natAbs_mul, Int.natAbs_natCast, Nat.pow_add]; exact Nat.mul_le_mul l hk
/-- a quotient of such ones is small -/
theorem div_sm {M : Nat} (hN : Nok N) (hM : Nok M) (h : G N a x) (k : G M b y) (hy : y ≠ 0) (ha : a < 1900) (hb : b < 1900) : Sm (x / y) := by
  obtain ⟨z, e, l⟩ := Gd.eqM h hN.p
  obtain ⟨w, f, m⟩ := Gd.eqM k hM.p
  subst e f
  have w0 : w ≠ 0 := fun h => hy (by rw [h, Rat.zero_mkRat])
  have eq : mkRat z N / mkRat w M = Rat.divInt (z * M) (N * w) := by
    rw [Rat.div_def, ← Rat.divInt_ofNat, ← Rat.divInt_ofNat, Rat.inv_divInt, Rat.divInt_mul_divInt]
  rw [eq]
  have l1 : (z * (M : Int)).natAbs.log2 < 4000 := by
    rw [Int.natAbs_mul, Int.natAbs_natCast]
    have := log2_mul z.natAbs M
    have := log2_mono l
    rw [Nat.log2_two_pow] at this
    have := hM.l
    omega
  have l2 : ((N : Int) * w).natAbs.log2 < 4000 := by
    rw [Int.natAbs_mul, Int.natAbs_natCast]
    have := log2_mul N w.natAbs
    have := log2_mono m
    rw [Nat.log2_two_pow] at this
    have := hN.l
    omega
  have d0 : (N : Int) * w ≠ 0 := Int.mul_ne_zero (by have := hN.p; omega) w0
  constructor
  · rw [Rat.num_divInt]
    have : (((N : Int) * w).sign * (z * M) / (((N : Int) * w).gcd (z * M) : Nat)).natAbs ≤ (z * (M : Int)).natAbs := by
      refine Nat.le_trans (Int.natAbs_ediv_le_natAbs _ _) ?_
      rw [Int.natAbs_mul, Int.natAbs_sign_of_ne_zero d0, Nat.one_mul]; exact Nat.le_refl _
    have := log2_mono this
    omega
  · rw [Rat.den_divInt, if_neg d0]
    have := log2_mono (Nat.div_le_self ((N : Int) * w).natAbs (((N : Int) * w).gcd (z * M)))
    omega
theorem pts_flat (ws : List W) : pts ws = (rows 0 ws).flatMap fun r => [r.1.m - r.2, r.1.m - r.2 - r.1.s] := rfl
theorem pts_len (ws : List W) : (pts ws).length = 2 * ws.length := by
  have : ∀ rs : List (W × Rat), (rs.flatMap fun r => [r.1.m - r.2, r.1.m - r.2 - r.1.s]).length = 2 * rs.length := by
    intro rs
    induction rs with
    | nil => rfl
    | cons r rs ih => rw [List.flatMap_cons, List.length_append, ih]; simp; omega
  rw [pts_flat, this, rows_len]
theorem pts_G {ws : List W} (h : ∀ w ∈ ws, WG N w) (hl : ws.length ≤ 1000) : ∀ x ∈ pts ws, G N 75 x := by
  intro x hx
  obtain ⟨r, hr, hx⟩ := List.mem_flatMap.mp hx
  have ho := rows_G h hl hr
  have hw := h r.1 (rows_mem hr).1
  have g1 : G N 71 (r.1.m - r.2) := (hw.m.mono (by decide)).sub ho
  rcases List.mem_cons.mp hx with rfl | hx
  · exact g1.mono (by decide)
  · rw [List.mem_singleton] at hx
    subst hx
    exact (g1.sub (hw.s.mono (by decide))).mono (by decide)
theorem zip_tail : ∀ (L : List Rat), zip2D (L.map rep) ((L.drop 1).map rep) = (L.zip L.tail).map fun p => .tup [rep p.1, rep p.2]
  | [] => rfl
  | [x] => rfl
  | x :: y :: L => by
    show .tup [rep x, rep y] :: zip2D ((y :: L).map rep) (L.map rep) = .tup [rep x, rep y] :: ((y :: L).zip L).map _
    exact congrArg _ (zip_tail (y :: L))
theorem zip_cut : ∀ (L : List Rat) (pre post : List (Rat × Rat)) (p q : Rat), pre ++ (p, q) :: post = L.zip L.tail → ∃ A B, L = A ++ p :: q :: B ∧ (pre = [] → A = []) ∧ (∀ u, pre.getLast? = some u → u.2 = p)
  | [], pre, post, p, q, h => by simp at h
  | [x], pre, post, p, q, h => by simp at h
  | x :: y :: L, [], post, p, q, h => by
    have h' : (p, q) = (x, y) := (List.cons.inj h).1
    cases h'
    exact ⟨[], L, rfl, fun _ => rfl, fun u z => by simp at z⟩
  | x :: y :: L, u :: pre, post, p, q, h => by
    have h' : pre ++ (p, q) :: post = (y :: L).zip (y :: L).tail := (List.cons.inj h).2
    have hu : u = (x, y) := (List.cons.inj h).1
    obtain ⟨A, B, e, e1, e2⟩ := zip_cut (y :: L) pre post p q h'
    refine ⟨x :: A, B, by rw [e]; rfl, fun z => by simp at z, fun v hv => ?_⟩
    cases pre with
    | nil =>
      have hv' : u = v := by simpa using hv
      rw [e1 rfl] at e
      have : y = p := (List.cons.inj e).1
      rw [← hv', hu, ← this]
    | cons w pre =>
      exact e2 v (by rw [List.getLast?_cons_cons] at hv; exact hv)
theorem zip_last : ∀ (M : List Rat) (u v : Rat), (u, v) ∈ (M ++ [u] ++ [v]).zip (M ++ [u] ++ [v]).tail
  | [], u, v => by simp
  | [m], u, v => by simp
  | m :: m2 :: M, u, v => by
    have := zip_last (m2 :: M) u v
    simp only [List.cons_append, List.tail_cons, List.zip_cons_cons, List.mem_cons] at this ⊢
    exact .inr this
theorem tail_sum (hN : Nok N) {ws : List W} (h : ∀ w ∈ ws, WG N w) (hl : ws.length ≤ 1000) : G N 70 ((ws.map (·.s)).sum) := by
  refine sum_G (a := 60) (fun x hx => ?_) (by rw [List.length_map]; exact hl)
  obtain ⟨w, hw, rfl⟩ := List.mem_map.mp hx
  exact (h w hw).s
theorem begin_rep {ws : List W} {e l : Rat} (hN : Nok N) (hV : Nok V) (hNV : Nok (N * V)) (lV : V ≤ 2 ^ 100) (h : ∀ w ∈ ws, WG N w) (hp : ∀ w ∈ ws, 0 < w.s) (hne : ws ≠ []) (hlen : ws.length ≤ 100) (e0 : 0 < e) (l0 : 0 < l) (se : Sm e) (sl : Sm l) (sel : Sm (e + l)) (hv : G V 60 (l / (e + l))) :
    ∃ b, F_begin_of [.lst (ws.map encW), .lst ((ws.map (·.s)).map rep), rep e, rep l] S = .ok (rep b) false S ∧ IsBegin ws (l / (e + l) * (ws.map (·.s)).sum) b ∧ ∃ k : Nat, 0 < k ∧ k ≤ ws.length ∧ G (N * V) 200 (b * (k : Rat)) := by
  have el0 : 0 < e + l := by grind
  have eln : e + l ≠ 0 := by grind
  have v0 : 0 < l / (e + l) := by rw [Rat.div_def]; exact Rat.mul_pos l0 (Rat.inv_pos.mpr el0)
  have v1 : l / (e + l) < 1 := by rw [Rat.div_lt_iff el0]; grind
  have gs := tail_sum hN h (show ws.length ≤ 1000 by omega)
  have s0 : 0 < (ws.map (·.s)).sum := by
    cases ws with
    | nil => exact absurd rfl hne
    | cons w ws =>
      have : 0 ≤ (ws.map (·.s)).sum := by
        clear hne hlen gs h
        induction ws with
        | nil => exact Rat.le_refl
        | cons v ws ih =>
          have := ih fun u hu => hp u (by rcases List.mem_cons.mp hu with rfl | hu <;> simp [*])
          have := hp v (by simp)
          rw [List.map_cons, List.sum_cons]; grind
      have := hp w (by simp)
      rw [List.map_cons, List.sum_cons]; grind
  let wt := l / (e + l) * (ws.map (·.s)).sum
  have gw : G (N * V) 130 wt := by have := G.mul hv gs; rw [Nat.mul_comm V N] at this; exact this
  have sw : Sm wt := gw.sm hNV (by decide)
  have w0 : 0 < wt := Rat.mul_pos v0 s0
  have w1 : wt < (ws.map (·.s)).sum := by
    have := Rat.mul_lt_mul_of_pos_right v1 s0
    rw [Rat.one_mul] at this
    exact this
  obtain ⟨ys, ey, py, so⟩ := in_order_rep (S := S) (a := 75) (xs := pts ws) hN (pts_G h (by omega)) (by decide) (by rw [pts_len]; omega)
  let L := ys.reverse
  have hL : ∀ x, x ∈ L ↔ x ∈ pts ws := fun x => by rw [List.mem_reverse]; exact py.mem_iff
  have dL : L.Pairwise (fun x y => y ≤ x) := List.pairwise_reverse.mpr so
  have gL : ∀ x ∈ L, G N 75 x := fun x hx => pts_G h (by omega) x ((hL x).mp hx)
  have lL : L.length = 2 * ws.length := by rw [List.length_reverse, py.length_eq, pts_len]
  have hgE : ∀ x ∈ L, G N 92 (E ws x) := fun x hx => E_G h (by omega) ((gL x hx).mono (by decide))
  have hs0 : ∀ w ∈ ws, 0 ≤ w.s := fun w hw => Rat.le_of_lt (hp w hw)
  have str : ∀ {A B : List Rat} {p q : Rat}, L = A ++ p :: q :: B → q ≤ p ∧ ∀ r ∈ rows 0 ws, Stt r q p ∧ 0 ≤ r.1.s := by
    intro A B p q e
    rw [e] at dL
    rw [List.pairwise_append] at dL
    obtain ⟨_, d2, d3⟩ := dL
    rw [List.pairwise_cons] at d2
    obtain ⟨d2, d4⟩ := d2
    rw [List.pairwise_cons] at d4
    have side : ∀ x ∈ pts ws, x ≤ q ∨ p ≤ x := by
      intro x hx
      have hx' := (hL x).mpr hx
      rw [e] at hx'
      rcases List.mem_append.mp hx' with z | z
      · exact .inr (d3 x z p (by simp))
      · rcases List.mem_cons.mp z with rfl | z
        · exact .inr Rat.le_refl
        · rcases List.mem_cons.mp z with rfl | z
          · exact .inl Rat.le_refl
          · exact .inl (d4.1 x z)
    refine ⟨d2 q (by simp), fun r hr => ⟨⟨side _ (pts_mem hr).1, side _ (pts_mem hr).2⟩, hs0 _ (rows_mem hr).1⟩⟩
  have high : ∀ x L', L = x :: L' → E ws x = 0 := fun x L' e => E_high hs0 fun y hy => by
    have hy' := (hL y).mpr hy
    rw [e] at hy' dL
    rcases List.mem_cons.mp hy' with rfl | hy'
    · exact Rat.le_refl
    · exact (List.pairwise_cons.mp dL).1 y hy'
  have low : ∀ x L', L = L' ++ [x] → E ws x = (ws.map (·.s)).sum := fun x L' e => E_low hs0 fun y hy => by
    have hy' := (hL y).mpr hy
    rw [e] at hy' dL
    rcases List.mem_append.mp hy' with hy' | hy'
    · exact (List.pairwise_append.mp dL).2.2 y hy' x (by simp)
    · rw [List.mem_singleton] at hy'; subst hy'; exact Rat.le_refl
  have goal : FW (F_begin_of [.lst (ws.map encW), .lst ((ws.map (·.s)).map rep), rep e, rep l] S) fun d f S' => ∃ b, d = rep b ∧ f = false ∧ S' = S ∧ IsBegin ws wt b ∧ ∃ k : Nat, 0 < k ∧ k ≤ ws.length ∧ G (N * V) 200 (b * (k : Rat)) := by
    unfold F_begin_of m_begin_of
    have e1 : F_sum_of [.lst ((ws.map (·.s)).map rep)] S = .ok (rep (ws.map (·.s)).sum) false S := sum_of_G (a := 60) hN (fun x hx => by obtain ⟨w, hw, rfl⟩ := List.mem_map.mp hx; exact (h w hw).s) (by decide) (by rw [List.length_map]; omega)
    have e2 : F_times [rep (l / (e + l)), rep (ws.map (·.s)).sum] S = .ok (rep wt) false S := times_rep (hv.sm hV (by decide)) (gs.sm hN (by decide))
    simp only [wpsA, wpsB, List.map_cons, List.map_nil, List.length_cons, List.length_nil, List.replicate_succ, List.replicate_zero, List.cons_append, List.nil_append, List.getElem?_cons_zero, List.getElem?_cons_succ, List.set_cons_zero, List.set_cons_succ, ow_true, ow_false, if_true, if_false, Option.bind_some, true_and, and_true, Nat.zero_add, Nat.reduceAdd, Nat.reduceSub, Nat.reduceLeDiff, plus_rep se sl, parted_rep sl sel eln, e1, e2, offsets_rep hN h (show ws.length ≤ 1000 by omega)]
    rw [zip_rows]
    refine wp_for (fun pre t S' => (∃ s6 s7 s8 s9, t = [.sh (.lst (ws.map encW)), .sh (.lst ((ws.map (·.s)).map rep)), .sh (rep e), .sh (rep l), .sh (rep wt), .ow (.lst ((pre.flatMap fun r => [r.1.m - r.2, r.1.m - r.2 - r.1.s]).map rep)), s6, s7, s8, s9, .no, .no, .no, .no, .no, .no]) ∧ S' = S) ⟨⟨_, _, _, _, rfl⟩, rfl⟩ (fun p r q t S' e ⟨⟨s6, s7, s8, s9, h1⟩, h2⟩ => ?_) (fun t S' ⟨⟨s6, s7, s8, s9, h1⟩, h2⟩ => ?_)
    · subst h1 h2
      have hr : r ∈ rows 0 ws := by rw [← e]; simp
      have ho := rows_G h (show ws.length ≤ 1000 by omega) hr
      have hw := h r.1 (rows_mem hr).1
      have g1 : G N 71 (r.1.m - r.2) := (hw.m.mono (by decide)).sub ho
      have hlr : (rows 0 ws).length = ws.length := rows_len _ _
      have hpl : (p.flatMap fun r => [r.1.m - r.2, r.1.m - r.2 - r.1.s]).length ≤ 400 := by
        have : ∀ rs : List (W × Rat), (rs.flatMap fun r => [r.1.m - r.2, r.1.m - r.2 - r.1.s]).length = 2 * rs.length := by
          intro rs
          induction rs with
          | nil => rfl
          | cons r rs ih => rw [List.flatMap_cons, List.length_append, ih]; simp; omega
        rw [this]
        have : p.length ≤ ws.length := by rw [← hlr, ← e, List.length_append]; omega
        omega
      have ex : fExt [.lst [rep (r.1.m - r.2), rep (r.1.m - r.2 - r.1.s)]] (.lst ((p.flatMap fun r => [r.1.m - r.2, r.1.m - r.2 - r.1.s]).map rep)) = some (.lst (((p ++ [r]).flatMap fun r => [r.1.m - r.2, r.1.m - r.2 - r.1.s]).map rep), .non) := by
        rw [fExt_ok _ _ (by rw [List.length_map, lim_eq]; simp only [List.length_cons, List.length_nil]; omega), List.flatMap_append, List.map_append, List.flatMap_cons, List.flatMap_nil]
        rfl
      unfold encR encW
      simp only [wpsA, wpsB, List.map_cons, List.map_nil, List.length_cons, List.length_nil, List.replicate_succ, List.replicate_zero, List.cons_append, List.nil_append, List.getElem?_cons_zero, List.getElem?_cons_succ, List.set_cons_zero, List.set_cons_succ, ow_true, ow_false, if_true, if_false, Option.bind_some, true_and, and_true, Nat.zero_add, Nat.reduceAdd, Nat.reduceSub, Nat.reduceLeDiff, less_rep (hw.m.sm hN (by decide)) (ho.sm hN (by decide)), less_rep (g1.sm hN (by decide)) (hw.s.sm hN (by decide)), ex]
      exact ⟨rfl, _, _, _, _, rfl⟩
    · subst h1 h2
      have ey' : F_in_order [.lst (((rows 0 ws).flatMap fun r => [r.1.m - r.2, r.1.m - r.2 - r.1.s]).map rep)] S' = .ok (.lst (ys.map rep)) true S' := ey
      simp only [wpsA, wpsB, List.map_cons, List.map_nil, List.length_cons, List.length_nil, List.replicate_succ, List.replicate_zero, List.cons_append, List.nil_append, List.getElem?_cons_zero, List.getElem?_cons_succ, List.set_cons_zero, List.set_cons_succ, ow_true, ow_false, if_true, if_false, Option.bind_some, true_and, and_true, Nat.zero_add, Nat.reduceAdd, Nat.reduceSub, Nat.reduceLeDiff, ey']
      refine ⟨by rw [List.length_reverse, List.length_map, py.length_eq, pts_len]; omega, ?_⟩
      rw [show (ys.map rep).reverse = L.map rep from List.map_reverse.symm]
      have hc : TD.cutD (L.map rep) (some 1) none = (L.drop 1).map rep := by
        rw [show (some (1 : Int)) = some ((1 : Nat) : Int) from rfl, cut_from _ _ (by rw [List.length_map, lL]; have := List.length_pos_iff.mpr hne; omega), List.map_drop]
      rw [hc]
      refine ⟨by rw [List.length_map, List.length_drop]; omega, ?_⟩
      rw [zip_tail]
      refine wp_for (fun pre t S2 => (∃ s11 s12 s13 s14, t = [.sh (.lst (ws.map encW)), .sh (.lst ((ws.map (·.s)).map rep)), .sh (rep e), .sh (rep l), .sh (rep wt), _, s6, s7, s8, s9, .sh (.lst (L.map rep)), s11, s12, s13, s14, .no]) ∧ S2 = S' ∧ (∀ u ∈ pre, E ws u.2 < wt)) ⟨⟨_, _, _, _, rfl⟩, rfl, fun _ h => nomatch h⟩ (fun pre u post t S2 eq ⟨⟨s11, s12, s13, s14, h1⟩, h2, h3⟩ => ?_) (fun t S2 ⟨⟨s11, s12, s13, s14, h1⟩, h2, h3⟩ => ?_)
      · subst h1 h2
        obtain ⟨p, q⟩ := u
        obtain ⟨A, B, eL, eA, eP⟩ := zip_cut L pre post p q eq
        have hpL : p ∈ L := by rw [eL]; simp
        have hqL : q ∈ L := by rw [eL]; simp
        have gp := gL p hpL
        have gq := gL q hqL
        have gEp := hgE p hpL
        have gEq := hgE q hqL
        have sEp := gEp.sm hN (by decide)
        have sEq := gEq.sm hN (by decide)
        obtain ⟨qp, st⟩ := str eL
        have hEp : E ws p < wt := by
          rcases List.eq_nil_or_concat pre with z | ⟨pre', u, z⟩
          · have := eA z
            rw [this] at eL
            rw [high p _ eL]
            exact w0
          · have := eP u (by rw [z]; simp)
            rw [← this]
            exact h3 u (by rw [z]; simp)
        simp only [wpsA, wpsB, List.map_cons, List.map_nil, List.length_cons, List.length_nil, List.replicate_succ, List.replicate_zero, List.cons_append, List.nil_append, List.getElem?_cons_zero, List.getElem?_cons_succ, List.set_cons_zero, List.set_cons_succ, ow_true, ow_false, if_true, if_false, Option.bind_some, true_and, and_true, Nat.zero_add, Nat.reduceAdd, Nat.reduceSub, Nat.reduceLeDiff, early_rep hN h (show ws.length ≤ 1000 by omega) (gp.mono (show 75 ≤ 80 by decide)), early_rep hN h (show ws.length ≤ 1000 by omega) (gq.mono (show 75 ≤ 80 by decide)), below_rep sEp sw, below_rep sEq sw, decide_eq_true hEp]
        by_cases hq : E ws q < wt
        · rw [decide_eq_true hq]
          simp only [wpsA, wpsB, List.map_cons, List.map_nil, List.length_cons, List.length_nil, List.replicate_succ, List.replicate_zero, List.cons_append, List.nil_append, List.getElem?_cons_zero, List.getElem?_cons_succ, List.set_cons_zero, List.set_cons_succ, ow_true, ow_false, if_true, if_false, Option.bind_some, true_and, and_true, Nat.zero_add, Nat.reduceAdd, Nat.reduceSub, Nat.reduceLeDiff, Bool.not_true]
          refine ⟨⟨_, _, _, _, rfl⟩, fun u hu => ?_⟩
          rcases List.mem_append.mp hu with hu | hu
          · exact h3 u hu
          · rw [List.mem_singleton] at hu; subst hu; exact hq
        · rw [decide_eq_false hq]
          obtain ⟨ib, k, k0, k1, kq⟩ := begin_of_pair qp st hEp (Rat.not_lt.mp hq)
          have dn : E ws q - E ws p ≠ 0 := by grind
          have g1 : G (N * V) 200 (wt - E ws p) := (((gw.mono (show 130 ≤ 192 by decide)).sub ((G.up V gEp lV).mono (by decide)))).mono (by decide)
          have g2 : G N 93 (E ws q - E ws p) := gEq.sub gEp
          have g3 : G N 76 (p - q) := gp.sub gq
          have sd := div_sm hNV hN g1 g2 dn (by decide) (by decide)
          have gb : G (N * V) 200 ((p - (wt - E ws p) / (E ws q - E ws p) * (p - q)) * (k : Rat)) := by
            rw [kq]
            have g4 : G N 85 (p * (k : Rat)) := G.muln (c := 10) gp k (by omega)
            have g5 := G.up V g4 lV
            have g6 := (g5.mono (show 85 + 100 ≤ 199 by decide)).sub (((gw.mono (show 130 ≤ 192 by decide)).sub ((G.up V gEp lV).mono (by decide))).mono (show 193 ≤ 199 by decide))
            exact g6
          have sm : Sm ((wt - E ws p) / (E ws q - E ws p) * (p - q)) := by
            have e3 : (E ws q - E ws p) ≠ 0 := dn
            have kr : (k : Rat) ≠ 0 := fun z => by have := Rat.natCast_pos.mpr k0; rw [z] at this; exact Rat.lt_irrefl this
            have e4 : (wt - E ws p) / (E ws q - E ws p) * (p - q) = (wt - E ws p) / (k : Rat) := by
              have g : ∀ u : Rat, (p - u * (p - q)) * (k : Rat) = p * (k : Rat) - (wt - E ws p) → u * (p - q) * (k : Rat) = wt - E ws p := fun u hu => by grind
              have := g _ kq
              exact (Rat.mul_div_cancel kr).symm.trans (by rw [this])
            rw [e4]
            have gk : G 1 7 (k : Rat) := by
              have := Gd.int (N := 1) (k : Int) (B := 2 ^ 7) (by rw [Int.natAbs_natCast, Nat.mul_one]; omega)
              rw [Rat.intCast_natCast] at this
              exact this
            exact div_sm (M := 1) hNV ⟨by decide, by decide⟩ g1 gk kr (by decide) (by decide)
          simp only [wpsA, wpsB, List.map_cons, List.map_nil, List.length_cons, List.length_nil, List.replicate_succ, List.replicate_zero, List.cons_append, List.nil_append, List.getElem?_cons_zero, List.getElem?_cons_succ, List.set_cons_zero, List.set_cons_succ, ow_true, ow_false, if_true, if_false, Option.bind_some, true_and, and_true, Nat.zero_add, Nat.reduceAdd, Nat.reduceSub, Nat.reduceLeDiff, Bool.not_false, less_rep sw sEp, less_rep sEq sEp, parted_rep (g1.sm hNV (by decide)) (g2.sm hN (by decide)) dn, less_rep (gp.sm hN (by decide)) (gq.sm hN (by decide)), times_rep sd (g3.sm hN (by decide)), less_rep (gp.sm hN (by decide)) sm]
          exact ⟨_, rfl, ib, k, k0, k1, gb⟩
      · subst h1 h2
        exfalso
        have hlp := List.length_pos_iff.mpr hne
        rcases List.eq_nil_or_concat L with z | ⟨L', x, z⟩
        · rw [z, List.length_nil] at lL
          omega
        · rw [List.concat_eq_append] at z
          have e5 := low x L' z
          have : E ws x < wt := by
            rcases List.eq_nil_or_concat L' with y | ⟨L2, x2, y⟩
            · rw [y] at z
              rw [high x [] z]
              exact w0
            · rw [List.concat_eq_append] at y
              have hz : (x2, x) ∈ L.zip L.tail := by
                rw [z, y]
                exact zip_last L2 x2 x
              exact h3 (x2, x) hz
          rw [e5] at this
          exact Rat.lt_irrefl (a := wt) (by grind)
  obtain ⟨d, f, S', e3, b, rfl, rfl, rfl, h3, h4⟩ := fw_ex goal
  exact ⟨b, e3, h3, h4⟩
end
end KX

set_option Elab.async false
set_option linter.all false
set_option maxRecDepth 100000
set_option maxHeartbeats 4000000
set_option autoImplicit false
namespace KX
/-! ### stretches -/
def tot (ws : List W) : Rat := (ws.map (·.s)).sum
theorem tot_app (xs ys : List W) : tot (xs ++ ys) = tot xs + tot ys := by unfold tot; rw [List.map_append, List.sum_append]
theorem tot_cons (x : W) (ys : List W) : tot (x :: ys) = x.s + tot ys := by unfold tot; rw [List.map_cons, List.sum_cons]
theorem tot_nil : tot [] = 0 := rfl
theorem tot_nonneg : ∀ {ws : List W}, (∀ w ∈ ws, 0 < w.s) → 0 ≤ tot ws
  | [], _ => Rat.le_refl
  | w :: ws, h => by
    have := tot_nonneg (ws := ws) fun u hu => h u (by simp [hu])
    have := h w (by simp)
    rw [tot_cons]; grind
theorem tot_pos {ws : List W} (h : ∀ w ∈ ws, 0 < w.s) (hn : ws ≠ []) : 0 < tot ws := by
  cases ws with
  | nil => exact absurd rfl hn
  | cons w ws =>
    have := tot_nonneg (ws := ws) fun u hu => h u (by simp [hu])
    have := h w (by simp)
    rw [tot_cons]; grind
theorem E_rows : ∀ (ws : List W) (o b : Rat), ((rows o ws).map (eterm b)).sum = E ws (b + o)
  | [], _, _ => rfl
  | w :: ws, o, b => by
    show eterm b (w, o) + ((rows (o + w.s) ws).map (eterm b)).sum = eterm (b + o) (w, 0) + ((rows (0 + w.s) ws).map (eterm (b + o))).sum
    rw [E_rows ws (o + w.s) b, E_rows ws (0 + w.s) (b + o)]
    have e1 : eterm b (w, o) = eterm (b + o) (w, 0) := by
      unfold eterm
      show mx 0 (mn (w.m - (b + o)) w.s) = mx 0 (mn (w.m - (b + o + 0)) w.s)
      rw [Rat.add_zero]
    have e2 : b + (o + w.s) = b + o + (0 + w.s) := by grind
    rw [e1, e2]
theorem E_cons (w : W) (ws : List W) (b : Rat) : E (w :: ws) b = eterm b (w, 0) + E ws (b + w.s) := by
  show eterm b (w, 0) + ((rows (0 + w.s) ws).map (eterm b)).sum = _
  rw [E_rows, Rat.zero_add]
theorem E_nil (b : Rat) : E [] b = 0 := rfl
theorem E_app : ∀ (xs ys : List W) (b : Rat), E (xs ++ ys) b = E xs b + E ys (b + tot xs)
  | [], ys, b => by rw [List.nil_append, E_nil, tot_nil, Rat.zero_add, Rat.add_zero]
  | x :: xs, ys, b => by
    rw [List.cons_append, E_cons, E_cons, E_app xs ys, tot_cons]
    have : b + x.s + tot xs = b + (x.s + tot xs) := by grind
    rw [this]; grind
/-- a stretch that is balanced, and never below nothing within -/
structure Good (v b : Rat) (ws : List W) : Prop where
  ne : ws ≠ []
  is : IsBegin ws (v * tot ws) b
  wt : ∀ p r, p ++ r = ws → v * tot p ≤ E p b
theorem Good.one {v b : Rat} {w : W} (h : IsBegin [w] (v * tot [w]) b) : Good v b [w] := by
  refine ⟨by simp, h, fun p r e => ?_⟩
  cases p with
  | nil => rw [tot_nil, E_nil]; grind
  | cons x p =>
    have e1 : x = w := (List.cons.inj e).1
    have e2 : p ++ r = [] := (List.cons.inj e).2
    have e3 : p = [] := (List.append_eq_nil_iff.mp e2).1
    subst e1 e3
    rw [h.eq]; exact Rat.le_refl
theorem Good.merge {v x y z : Rat} {X Y : List W} (hX : Good v x X) (hY : Good v y Y) (h : y ≤ x + tot X) (hz : IsBegin (X ++ Y) (v * tot (X ++ Y)) z) : Good v z (X ++ Y) ∧ z ≤ x := by
  have eZ : ∀ b, E (X ++ Y) b = E X b + E Y (b + tot X) := fun b => E_app X Y b
  have ht : v * tot (X ++ Y) = v * tot X + v * tot Y := by rw [tot_app]; grind
  have hx := hX.is.eq
  have hy := hY.is.eq
  have h1 : y - tot X ≤ z := by
    by_cases c : y - tot X ≤ z
    · exact c
    · exfalso
      have lt := hz.lt (y - tot X) (by grind)
      rw [eZ, ht] at lt
      have a1 := E_anti (ws := X) (show y - tot X ≤ x by grind)
      have a2 : y - tot X + tot X = y := by grind
      rw [a2] at lt
      grind
  have h2 : z ≤ x := by
    by_cases c : z ≤ x
    · exact c
    · exfalso
      have lt := hX.is.lt z (by grind)
      have a1 := E_anti (ws := Y) (show y ≤ z + tot X by grind)
      have e := hz.eq
      rw [eZ, ht] at e
      grind
  refine ⟨⟨fun e => hX.ne (List.append_eq_nil_iff.mp e).1, hz, fun p r e => ?_⟩, h2⟩
  rcases List.append_eq_append_iff.mp e with ⟨a, e1, e2⟩ | ⟨a, e1, e2⟩
  · -- p ++ a = X
    have := hX.wt p a e1.symm
    have a1 := E_anti (ws := p) h2
    grind
  · -- p = X ++ a, a ++ r = Y
    subst e1
    have w1 := hY.wt a r e2.symm
    have e3 := hz.eq
    rw [eZ, ht] at e3
    rw [E_app, tot_app]
    have e4 : E Y (z + tot X) = E a (z + tot X) + E r (z + tot X + tot a) := by rw [e2, E_app]
    have e5 : E Y y = E a y + E r (y + tot a) := by rw [e2, E_app]
    have e6 : tot Y = tot a + tot r := by rw [e2, tot_app]
    have a1 := E_anti (ws := r) (show y + tot a ≤ z + tot X + tot a by grind)
    have e7 : v * tot Y = v * tot a + v * tot r := by rw [e6]; grind
    have e8 : v * (tot X + tot a) = v * tot X + v * tot a := by grind
    grind
structure Bk where
  b : Rat
  i : Nat
  ws : List W
def Bk.e (B : Bk) : Rat := B.b + tot B.ws
def Bk.n (B : Bk) : Nat := B.i + B.ws.length
/-- stretches of the first n wishes: good ones, apart -/
inductive Ok (ws : List W) (v : Rat) : List Bk → Nat → Prop
  | nil : Ok ws v [] 0
  | snoc {bs : List Bk} {B : Bk} : Ok ws v bs B.i → Good v B.b B.ws → B.ws = (ws.drop B.i).take B.ws.length → B.i + B.ws.length ≤ ws.length → (∀ C, bs.getLast? = some C → C.e < B.b) → Ok ws v (bs ++ [B]) B.n
theorem Ok.inv {ws : List W} {v : Rat} {L : List Bk} {n : Nat} (h : Ok ws v L n) : ∀ bs B, L = bs ++ [B] → n = B.n ∧ Ok ws v bs B.i ∧ Good v B.b B.ws ∧ B.ws = (ws.drop B.i).take B.ws.length ∧ B.i + B.ws.length ≤ ws.length ∧ ∀ C, bs.getLast? = some C → C.e < B.b := by
  cases h with
  | nil => intro bs B e; cases bs <;> cases e
  | @snoc bs0 B0 h1 h2 h3 h4 h5 =>
    intro bs B e
    obtain ⟨e1, e2⟩ := List.append_inj' e rfl
    cases e1
    cases e2
    exact ⟨rfl, h1, h2, h3, h4, h5⟩
open Classical in
/-- the begin of a stretch of these wishes -/
noncomputable def beginQ (v : Rat) (us : List W) : Rat := if h : ∃ b, IsBegin us (v * tot us) b then h.choose else 0
theorem beginQ_eq {v b : Rat} {us : List W} (h : IsBegin us (v * tot us) b) : beginQ v us = b := by
  have h2 : ∃ b, IsBegin us (v * tot us) b := ⟨b, h⟩
  unfold beginQ
  rw [dif_pos h2]
  exact h2.choose_spec.unique h
/-- the wishes i to j -/
def sl (ws : List W) (i j : Nat) : List W := (ws.drop i).take (j - i)
noncomputable def pushQ (v : Rat) (ws : List W) (n : Nat) : List Bk → Nat → Rat → List Bk
  | [], i, b => [⟨b, i, sl ws i (n + 1)⟩]
  | C :: cs, i, b => if C.e < b then ⟨b, i, sl ws i (n + 1)⟩ :: C :: cs else pushQ v ws n cs C.i (beginQ v (sl ws C.i (n + 1)))
noncomputable def blkQ (v : Rat) (ws : List W) : Nat → List Bk
  | 0 => []
  | n + 1 => pushQ v ws n (blkQ v ws n) n (beginQ v (sl ws n (n + 1)))
noncomputable def blks (v : Rat) (ws : List W) : List Bk := (blkQ v ws ws.length).reverse
end KX

set_option Elab.async false
set_option linter.all false
set_option maxRecDepth 100000
set_option maxHeartbeats 4000000
set_option autoImplicit false
namespace KX
open PySem PySem.Spec PyProof.Rows L2 TD
/-- what is known of the road, its wishes, the worths of beats -/
structure Road (N V : Nat) (e l : Rat) : Prop where
  hN : Nok N
  hV : Nok V
  lV : V ≤ 2 ^ 100
  lN : N ≤ 2 ^ 30
  hNV : Nok (N * V)
  hM : Nok (N * V * 60)
  hMV : Nok (N * V * 60 * V)
  hP : Nok (N * V * 60 * (N * V * 60 * V * 2))
  e0 : 0 < e
  e1 : e < 1
  l0 : 0 < l
  ge : G V 60 e
  gl : G V 60 l
  gs : G V 60 (e + l)
  gv : G V 60 (l / (e + l))
structure Wish (N : Nat) (R : Nat) (ws : List W) : Prop where
  g : ∀ w ∈ ws, WG N w
  p : ∀ w ∈ ws, 0 < w.s
  s : ∀ w ∈ ws, w.s = w.h / (R : Rat)
  n : ws.length ≤ 5
  ne : ws ≠ []
def lam (e l : Rat) : Rat := l / (e + l)
def encB (B : Bk) : D := .tup [rep B.b, rep B.e, .int B.i, .int B.n]
section
variable {N V R : Nat} {e l : Rat} {ws : List W} {S : Sto}
theorem grid60 {M k : Nat} {x : Rat} {a : Nat} (hM : 0 < M) (k0 : 0 < k) (k5 : k ≤ 5) (h : G M a (x * (k : Rat))) : G (M * 60) (a + 6) x := by
  obtain ⟨z, e, hz⟩ := h
  have hk : k = 1 ∨ k = 2 ∨ k = 3 ∨ k = 4 ∨ k = 5 := by omega
  have key : ∀ j : Nat, k * j = 60 → j ≤ 60 → G (M * 60) (a + 6) x := by
    intro j hj j60
    refine ⟨z * j, ?_, ?_⟩
    · rw [Rat.intCast_mul, ← e, Rat.natCast_mul, Rat.intCast_natCast, ← hj, Rat.natCast_mul]; grind
    · rw [Int.natAbs_mul, Int.natAbs_natCast, Nat.pow_add]
      exact Nat.mul_le_mul hz (by omega)
  rcases hk with rfl | rfl | rfl | rfl | rfl
  · exact key 60 rfl (by decide)
  · exact key 30 rfl (by decide)
  · exact key 20 rfl (by decide)
  · exact key 15 rfl (by decide)
  · exact key 12 rfl (by decide)
theorem begin_road (hr : Road N V e l) (h : ∀ w ∈ ws, WG N w) (hp : ∀ w ∈ ws, 0 < w.s) (hne : ws ≠ []) (hlen : ws.length ≤ 5) :
    ∃ b, F_begin_of [.lst (ws.map encW), .lst ((ws.map (·.s)).map rep), rep e, rep l] S = .ok (rep b) false S ∧ IsBegin ws (lam e l * tot ws) b ∧ G (N * V * 60) 206 b := by
  obtain ⟨b, h1, h2, k, h3, h4, h5⟩ := begin_rep (S := S) hr.hN hr.hV hr.hNV hr.lV h hp hne (by omega) hr.e0 hr.l0 (hr.ge.sm hr.hV (by decide)) (hr.gl.sm hr.hV (by decide)) (hr.gs.sm hr.hV (by decide)) hr.gv
  exact ⟨b, h1, h2, grid60 hr.hNV.p h3 (by omega) h5⟩
theorem cutW (ws : List W) (i j : Nat) (hi : i ≤ j) (h : j ≤ ws.length) : TD.cutD (ws.map encW) (some (i : Int)) (some (j : Int)) = ((ws.drop i).take (j - i)).map encW := by
  rw [cut_both _ _ _ hi (by rw [List.length_map]; exact h), List.map_take, List.map_drop]
theorem cutS (ws : List W) (i j : Nat) (hi : i ≤ j) (h : j ≤ ws.length) : TD.cutD ((ws.map (·.s)).map rep) (some (i : Int)) (some (j : Int)) = (((ws.drop i).take (j - i)).map (·.s)).map rep := by
  rw [cut_both _ _ _ hi (by rw [List.length_map, List.length_map]; exact h), List.map_take, List.map_drop, List.map_take, List.map_drop]
theorem sl_len {i j : Nat} (hi : i ≤ j) (h : j ≤ ws.length) : (sl ws i j).length = j - i := by unfold sl; rw [List.length_take, List.length_drop]; omega
theorem sl_app {i j k : Nat} (h1 : i ≤ j) (h2 : j ≤ k) (h3 : k ≤ ws.length) : sl ws i j ++ sl ws j k = sl ws i k := by
  unfold sl
  have : ws.drop j = (ws.drop i).drop (j - i) := by rw [List.drop_drop]; congr 1; omega
  rw [this]
  have e : k - i = (j - i) + (k - j) := by omega
  rw [e, List.take_add]
theorem sl_one {i : Nat} (h : i < ws.length) : sl ws i (i + 1) = [ws[i]] := by
  unfold sl
  rw [Nat.add_sub_cancel_left, List.drop_eq_getElem_cons h]; rfl
theorem sl_mem {i j : Nat} {w : W} (h : w ∈ sl ws i j) : w ∈ ws := List.mem_of_mem_drop (List.mem_of_mem_take h)
theorem sl_ne {i j : Nat} (hi : i < j) (h : j ≤ ws.length) : sl ws i j ≠ [] := fun z => by
  have := sl_len (ws := ws) (Nat.le_of_lt hi) h
  rw [z] at this
  simp at this
  omega
theorem Ok.le {v : Rat} {bs : List Bk} {n : Nat} (h : Ok ws v bs n) : n ≤ ws.length := by
  cases h with
  | nil => exact Nat.zero_le _
  | snoc _ _ _ h _ => exact h
theorem Ok.len {v : Rat} {bs : List Bk} {n : Nat} (h : Ok ws v bs n) : bs.length ≤ n := by
  induction h with
  | nil => exact Nat.le_refl _
  | @snoc bs B h1 h2 h3 h4 h5 ih =>
    rw [List.length_append]
    have := List.length_pos_iff.mpr h2.ne
    show bs.length + 1 ≤ B.i + B.ws.length
    omega
theorem tot_G (hr : Road N V e l) {us : List W} (h : ∀ w ∈ us, WG N w) (hl : us.length ≤ 5) : G N 70 (tot us) := tail_sum hr.hN h (by omega)
theorem lM (hr : Road N V e l) : V * 60 ≤ 2 ^ 107 := by
  have := hr.lV
  rw [show (2 : Nat) ^ 107 = 2 ^ 100 * 128 by rw [show (128 : Nat) = 2 ^ 7 by decide, ← Nat.pow_add]]
  exact Nat.mul_le_mul this (by decide)
theorem toM (hr : Road N V e l) {a : Nat} {x : Rat} (h : G N a x) : G (N * V * 60) (a + 107) x := by
  rw [Nat.mul_assoc]
  exact G.up (V * 60) h (lM hr)
theorem sumM (hr : Road N V e l) {us : List W} {S : Sto} (h : ∀ w ∈ us, WG N w) (hl : us.length ≤ 5) : F_sum_of [.lst ((us.map (·.s)).map rep)] S = .ok (rep (tot us)) false S :=
  sum_of_G (a := 60) hr.hN (fun x hx => by obtain ⟨w, hw, rfl⟩ := List.mem_map.mp hx; exact (h w hw).s) (by decide) (by rw [List.length_map]; omega)
theorem Rsm {R : Nat} (h : R.log2 < 1000) : Sm (R : Rat) := ⟨by rw [Rat.num_natCast, Int.natAbs_natCast]; omega, by rw [Rat.den_natCast]; decide⟩
theorem blocks_rep (hr : Road N V e l) (hw : Wish N R ws) (hR : 0 < R) (lR : R.log2 < 1000) :
    F_blocks_of [.int R, .lst (ws.map encW), rep e, rep l] S = .ok (.lst ((blks (lam e l) ws).map encB)) true S ∧ Ok ws (lam e l) (blks (lam e l) ws) ws.length ∧ ∀ B ∈ blks (lam e l) ws, G (N * V * 60) 206 B.b := by
  have goal : FW (F_blocks_of [.int R, .lst (ws.map encW), rep e, rep l] S) fun d f S' => ∃ bs : List Bk, d = .lst (bs.map encB) ∧ f = true ∧ S' = S ∧ bs.reverse = blkQ (lam e l) ws ws.length ∧ Ok ws (lam e l) bs ws.length ∧ ∀ B ∈ bs, G (N * V * 60) 206 B.b := by
    have hn := hw.n
    unfold F_blocks_of m_blocks_of
    simp only [wpsA, wpsB, List.map_cons, List.map_nil, List.length_cons, List.length_nil, List.replicate_succ, List.replicate_zero, List.cons_append, List.nil_append, List.getElem?_cons_zero, List.getElem?_cons_succ, List.set_cons_zero, List.set_cons_succ, ow_true, ow_false, if_true, if_false, Option.bind_some, true_and, and_true, Nat.zero_add, Nat.reduceAdd, Nat.reduceSub, Nat.reduceLeDiff, spans_rep hr.hN hw.g hR lR hw.s (show ws.length ≤ 1000 by omega), List.length_map]
    refine ⟨⟨by omega, by omega⟩, ?_⟩
    rw [rng_map, Int.toNat_natCast, List.length_map]
    refine wp_for (fun pre t S' => (∃ bs s6 s7 s8, t = [.sh (.int R), .sh (.lst (ws.map encW)), .sh (rep e), .sh (rep l), .ow (.lst ((ws.map (·.s)).map rep)), .ow (.lst (bs.map encB)), s6, s7, s8] ∧ bs.reverse = blkQ (lam e l) ws pre.length ∧ Ok ws (lam e l) bs pre.length ∧ ∀ B ∈ bs, G (N * V * 60) 206 B.b) ∧ S' = S) ⟨⟨[], _, _, _, rfl, rfl, .nil, fun _ h => nomatch h⟩, rfl⟩ (fun pre at_ post t S' eq ⟨⟨bs, s6, s7, s8, h1, hq0, h3, h4⟩, h2⟩ => ?_) (fun t S' ⟨⟨bs, s6, s7, s8, h1, hq0, h3, h4⟩, h2⟩ => ?_)
    · subst h1 h2
      have eA : at_ = pre.length := by
        have : (List.range ws.length)[pre.length]? = some at_ := by rw [← eq]; simp
        rw [List.getElem?_range] at this
        · exact (Option.some.inj this).symm
        · have := congrArg List.length eq
          rw [List.length_append, List.length_cons, List.length_range] at this
          omega
      have lA : pre.length < ws.length := by
        have := congrArg List.length eq
        rw [List.length_append, List.length_cons, List.length_range] at this
        omega
      subst eA
      generalize hn' : pre.length = n at *
      have c1 : ((n : Int) + 1) = ((n + 1 : Nat) : Int) := by omega
      have bg : ∀ i, i ≤ n → ∃ b, F_begin_of [.lst ((sl ws i (n + 1)).map encW), .lst (((sl ws i (n + 1)).map (·.s)).map rep), rep e, rep l] S' = .ok (rep b) false S' ∧ IsBegin (sl ws i (n + 1)) (lam e l * tot (sl ws i (n + 1))) b ∧ G (N * V * 60) 206 b := fun i hi =>
        begin_road hr (fun w h => hw.g w (sl_mem h)) (fun w h => hw.p w (sl_mem h)) (sl_ne (by omega) (by omega)) (by rw [sl_len (by omega) (by omega)]; omega)
      obtain ⟨b0, q1, q2, q3⟩ := bg n (Nat.le_refl _)
      simp only [wpsA, wpsB, List.map_cons, List.map_nil, List.length_cons, List.length_nil, List.replicate_succ, List.replicate_zero, List.cons_append, List.nil_append, List.getElem?_cons_zero, List.getElem?_cons_succ, List.set_cons_zero, List.set_cons_succ, ow_true, ow_false, if_true, if_false, Option.bind_some, true_and, and_true, Nat.zero_add, Nat.reduceAdd, Nat.reduceSub, Nat.reduceLeDiff, c1, cutW ws n (n + 1) (by omega) (by omega), cutS ws n (n + 1) (by omega) (by omega)]
      refine ⟨by simp only [List.length_map, List.length_take]; omega, by simp only [List.length_map, List.length_take]; omega, ?_⟩
      rw [show (List.take (n + 1 - n) (List.drop n ws)) = sl ws n (n + 1) from rfl, q1]
      simp only [wpsA, wpsB, List.map_cons, List.map_nil, List.length_cons, List.length_nil, List.replicate_succ, List.replicate_zero, List.cons_append, List.nil_append, List.getElem?_cons_zero, List.getElem?_cons_succ, List.set_cons_zero, List.set_cons_succ, ow_true, ow_false, if_true, if_false, Option.bind_some, true_and, and_true, Nat.zero_add, Nat.reduceAdd, Nat.reduceSub, Nat.reduceLeDiff]
      refine wp_while (fun k t S2 => S2 = S' ∧ ∃ (bs : List Bk) (i : Nat) (b : Rat), t = [.sh (.int R), .sh (.lst (ws.map encW)), .sh (rep e), .sh (rep l), .ow (.lst ((ws.map (·.s)).map rep)), .ow (.lst (bs.map encB)), .sh (.int n), .sh (.int i), .sh (rep b)] ∧ bs.length = k ∧ pushQ (lam e l) ws n bs.reverse i b = blkQ (lam e l) ws (n + 1) ∧ Ok ws (lam e l) bs i ∧ (∀ B ∈ bs, G (N * V * 60) 206 B.b) ∧ i ≤ n ∧ Good (lam e l) b (sl ws i (n + 1)) ∧ G (N * V * 60) 206 b) (fun k t S2 ⟨h5, bs, i, b, h6, h7, hq1, h8, h9, h10, h11, h12⟩ => ?_) _ bs.length ?_ ⟨rfl, bs, n, b0, rfl, rfl, by rw [hq0, blkQ, beginQ_eq q2], h3, h4, Nat.le_refl _, by rw [sl_one lA] at q2 ⊢; exact Good.one q2, q3⟩
      · subst h5 h6
        have fin : WP (sExpr (mSlot "list" 5 (aCons (eTup (aCons (eVar 8) (aCons (bnd (aCons (eVar 8) (aCons (bnd (aCons (eSlV 4 (pInt (eVar 7)) (pInt (eb (eVar 6) fun x => eb (pur (.int 1)) fun y => dAdd x y))) aNil) (call F_sum_of)) aNil)) (call F_plus)) (aCons (eVar 7) (aCons (eb (eVar 6) fun x => eb (pur (.int 1)) fun y => dAdd x y) aNil))))) aNil) fApp)) [.sh (.int R), .sh (.lst (ws.map encW)), .sh (rep e), .sh (rep l), .ow (.lst ((ws.map (·.s)).map rep)), .ow (.lst (bs.map encB)), .sh (.int n), .sh (.int i), .sh (rep b)] S2 fun fl t S3 => S3 = S2 ∧ fl = .nx ∧ t = [.sh (.int R), .sh (.lst (ws.map encW)), .sh (rep e), .sh (rep l), .ow (.lst ((ws.map (·.s)).map rep)), .ow (.lst ((bs ++ [Bk.mk b i (sl ws i (n + 1))]).map encB)), .sh (.int n), .sh (.int i), .sh (rep b)] := by
          have lb : bs.length ≤ 5 := by have := h8.len; have := h8.le; omega
          have gt := tot_G hr (us := sl ws i (n + 1)) (fun w h => hw.g w (sl_mem h)) (by rw [sl_len (by omega) (by omega)]; omega)
          have sm := sumM (S := S2) hr (us := sl ws i (n + 1)) (fun w h => hw.g w (sl_mem h)) (by rw [sl_len (by omega) (by omega)]; omega)
          simp only [wpsA, wpsB, List.map_cons, List.map_nil, List.length_cons, List.length_nil, List.replicate_succ, List.replicate_zero, List.cons_append, List.nil_append, List.getElem?_cons_zero, List.getElem?_cons_succ, List.set_cons_zero, List.set_cons_succ, ow_true, ow_false, if_true, if_false, Option.bind_some, true_and, and_true, Nat.zero_add, Nat.reduceAdd, Nat.reduceSub, Nat.reduceLeDiff, c1, cutS ws i (n + 1) (by omega) (by omega), show tyD "list" (.lst (bs.map encB)) = true from rfl]
          refine ⟨by simp only [List.length_map, List.length_take]; omega, ?_⟩
          rw [show (List.take (n + 1 - i) (List.drop i ws)) = sl ws i (n + 1) from rfl, sm]
          simp only [wpsA, wpsB, List.map_cons, List.map_nil, List.length_cons, List.length_nil, List.replicate_succ, List.replicate_zero, List.cons_append, List.nil_append, List.getElem?_cons_zero, List.getElem?_cons_succ, List.set_cons_zero, List.set_cons_succ, ow_true, ow_false, if_true, if_false, Option.bind_some, true_and, and_true, Nat.zero_add, Nat.reduceAdd, Nat.reduceSub, Nat.reduceLeDiff, plus_rep (h12.sm hr.hM (by decide)) (gt.sm hr.hN (by decide))]
          rw [fApp_ok _ _ (by rw [List.length_map, lim_eq]; omega)]
          simp only [wpsA, wpsB, List.map_cons, List.map_nil, List.length_cons, List.length_nil, List.replicate_succ, List.replicate_zero, List.cons_append, List.nil_append, List.getElem?_cons_zero, List.getElem?_cons_succ, List.set_cons_zero, List.set_cons_succ, ow_true, ow_false, if_true, if_false, Option.bind_some, true_and, and_true, Nat.zero_add, Nat.reduceAdd, Nat.reduceSub, Nat.reduceLeDiff]
          have e9 : D.tup [rep b, rep (b + tot (sl ws i (n + 1))), .int i, .int ((n : Int) + 1)] = encB (Bk.mk b i (sl ws i (n + 1))) := by
            unfold encB Bk.n Bk.e
            simp only
            rw [sl_len (by omega) (by omega), show i + (n + 1 - i) = n + 1 by omega, c1]
          rw [e9, List.map_append]
          rfl
        have fin2 : (∀ C, bs.getLast? = some C → C.e < b) → (∃ (bs' : List Bk) (s6 s7 s8 : TD.Slot), [TD.Slot.sh (.int R), .sh (.lst (ws.map encW)), .sh (rep e), .sh (rep l), .ow (.lst ((ws.map (·.s)).map rep)), .ow (.lst ((bs ++ [Bk.mk b i (sl ws i (n + 1))]).map encB)), .sh (.int n), .sh (.int i), .sh (rep b)] = [.sh (.int R), .sh (.lst (ws.map encW)), .sh (rep e), .sh (rep l), .ow (.lst ((ws.map (·.s)).map rep)), .ow (.lst (bs'.map encB)), s6, s7, s8] ∧ bs'.reverse = blkQ (lam e l) ws (pre ++ [n]).length ∧ Ok ws (lam e l) bs' (pre ++ [n]).length ∧ ∀ B ∈ bs', G (N * V * 60) 206 B.b) ∧ S2 = S2 := fun hl => by
          refine ⟨⟨_, _, _, _, rfl, ?_, ?_, fun B hB => ?_⟩, rfl⟩
          · rw [List.length_append, List.length_singleton, hn', ← hq1, List.reverse_append]
            rcases List.eq_nil_or_concat bs with z | ⟨bs', C, z⟩
            · subst z; rfl
            · rw [List.concat_eq_append] at z
              subst z
              have := hl C (by rw [List.getLast?_concat])
              rw [List.reverse_append]
              show _ = if C.e < b then _ else _
              rw [if_pos this]; rfl
          · have lb := sl_len (ws := ws) (show i ≤ n + 1 by omega) (by omega)
            have := Ok.snoc (B := Bk.mk b i (sl ws i (n + 1))) h8 h11 (by show sl ws i (n + 1) = _; rw [lb]; rfl) (by show i + (sl ws i (n + 1)).length ≤ _; rw [lb]; omega) hl
            have e8 : (Bk.mk b i (sl ws i (n + 1))).n = (pre ++ [n]).length := by
              unfold Bk.n
              rw [lb, List.length_append]
              show i + (n + 1 - i) = pre.length + 1
              omega
            rw [e8] at this
            exact this
          · rcases List.mem_append.mp hB with hB | hB
            · exact h9 B hB
            · rw [List.mem_singleton] at hB; subst hB; exact h12
        rcases List.eq_nil_or_concat bs with z | ⟨bs', C, z⟩
        · subst z
          refine wp_mono (Q := fun x t' S3 => x = false ∧ t' = [.sh (.int R), .sh (.lst (ws.map encW)), .sh (rep e), .sh (rep l), .ow (.lst ((ws.map (·.s)).map rep)), .ow (.lst (([] : List Bk).map encB)), .sh (.int n), .sh (.int i), .sh (rep b)] ∧ S3 = S2) (by simp only [wpsA, wpsB, List.map_cons, List.map_nil, List.length_cons, List.length_nil, List.replicate_succ, List.replicate_zero, List.cons_append, List.nil_append, List.getElem?_cons_zero, List.getElem?_cons_succ, List.set_cons_zero, List.set_cons_succ, ow_true, ow_false, if_true, if_false, Option.bind_some, true_and, and_true, Nat.zero_add, Nat.reduceAdd, Nat.reduceSub, Nat.reduceLeDiff, List.isEmpty_nil, Bool.not_true]) fun x t' S3 ⟨y1, y2, y3⟩ => ?_
          subst y1 y2 y3
          simp only [it_false, sq_nx]
          refine wp_mono fin fun fl t S3 ⟨z1, z2, z3⟩ => ?_
          subst z1 z2 z3
          exact fin2 (fun C h => by simp at h)
        · rw [List.concat_eq_append] at z
          subst z
          have gC := h9 C (by simp)
          obtain ⟨o0, o1, o2, o3, o4, o5⟩ := h8.inv _ _ rfl
          subst o0
          have gC := h9 C (by simp)
          have lC : C.n ≤ n := h10
          have gt := tot_G hr (us := C.ws) (fun w h => hw.g w (by rw [o3] at h; exact List.mem_of_mem_drop (List.mem_of_mem_take h))) (by omega)
          have gCe : G (N * V * 60) 207 C.e := gC.add ((toM hr gt).mono (by decide))
          have enc : encB C = .tup [rep C.b, rep C.e, .int C.i, .int C.n] := rfl
          have lastA : ((bs' ++ [C]).map encB).getLast? = some (encB C) := by rw [List.map_append, List.map_cons, List.map_nil, List.getLast?_concat]
          have isE : ((bs' ++ [C]).map encB).isEmpty = false := by cases bs' <;> rfl
          refine wp_mono (Q := fun x t' S3 => x = !decide (C.e < b) ∧ t' = [.sh (.int R), .sh (.lst (ws.map encW)), .sh (rep e), .sh (rep l), .ow (.lst ((ws.map (·.s)).map rep)), .ow (.lst ((bs' ++ [C]).map encB)), .sh (.int n), .sh (.int C.n), .sh (rep b)] ∧ S3 = S2) (by simp only [wpsA, wpsB, List.map_cons, List.map_nil, List.length_cons, List.length_nil, List.replicate_succ, List.replicate_zero, List.cons_append, List.nil_append, List.getElem?_cons_zero, List.getElem?_cons_succ, List.set_cons_zero, List.set_cons_succ, ow_true, ow_false, if_true, if_false, Option.bind_some, true_and, and_true, Nat.zero_add, Nat.reduceAdd, Nat.reduceSub, Nat.reduceLeDiff, isE, Bool.not_false, lastA, enc, below_rep (gCe.sm hr.hM (by decide)) (h12.sm hr.hM (by decide))]) fun x t' S3 ⟨y1, y2, y3⟩ => ?_
          subst y1 y2 y3
          by_cases hb : C.e < b
          · rw [decide_eq_true hb]
            simp only [Bool.not_true, it_false, sq_nx]
            refine wp_mono fin fun fl t S3 ⟨z1, z2, z3⟩ => ?_
            subst z1 z2 z3
            exact fin2 (fun D h => by rw [List.getLast?_concat] at h; cases h; exact hb)
          · rw [decide_eq_false hb]
            have pop : fPop [] (.lst ((bs' ++ [C]).map encB)) = some (.lst (bs'.map encB), encB C) := by rw [List.map_append]; exact fPop_ok _ _
            obtain ⟨z0, r1, r2, r3⟩ := bg C.i (by have : C.i ≤ C.n := Nat.le_add_right _ _; omega)
            have lCi : C.i ≤ n + 1 := by have : C.i ≤ C.n := Nat.le_add_right _ _; omega
            simp only [wpsA, wpsB, List.map_cons, List.map_nil, List.length_cons, List.length_nil, List.replicate_succ, List.replicate_zero, List.cons_append, List.nil_append, List.getElem?_cons_zero, List.getElem?_cons_succ, List.set_cons_zero, List.set_cons_succ, ow_true, ow_false, if_true, if_false, Option.bind_some, true_and, and_true, Nat.zero_add, Nat.reduceAdd, Nat.reduceSub, Nat.reduceLeDiff, Bool.not_false, pop, show tyD "list" (.lst ((bs' ++ [C]).map encB)) = true from rfl, enc, c1, cutW ws C.i (n + 1) lCi (by omega), cutS ws C.i (n + 1) lCi (by omega)]
            refine ⟨by simp only [List.length_map, List.length_take]; omega, by simp only [List.length_map, List.length_take]; omega, ?_⟩
            rw [show (List.take (n + 1 - C.i) (List.drop C.i ws)) = sl ws C.i (n + 1) from rfl, r1]
            simp only [wpsA, wpsB, List.map_cons, List.map_nil, List.length_cons, List.length_nil, List.replicate_succ, List.replicate_zero, List.cons_append, List.nil_append, List.getElem?_cons_zero, List.getElem?_cons_succ, List.set_cons_zero, List.set_cons_succ, ow_true, ow_false, if_true, if_false, Option.bind_some, true_and, and_true, Nat.zero_add, Nat.reduceAdd, Nat.reduceSub, Nat.reduceLeDiff]
            have eZ : sl ws C.i (n + 1) = C.ws ++ sl ws C.n (n + 1) := by
              have e1 : C.ws = sl ws C.i C.n := by
                unfold sl Bk.n
                rw [Nat.add_sub_cancel_left]
                exact o3
              rw [← sl_app (j := C.n) (Nat.le_add_right _ _) (by omega) (by omega), ← e1]
            rw [eZ] at r2
            obtain ⟨m1, m2⟩ := Good.merge o2 h11 (Rat.not_lt.mp hb) r2
            refine ⟨bs'.length, by rw [← h7, List.length_append]; exact Nat.lt_succ_self _, bs', C.i, z0, rfl, rfl, by
              rw [← hq1, List.reverse_append]
              show _ = if C.e < b then _ else _
              rw [if_neg hb, beginQ_eq (by rw [eZ]; exact r2)]; rfl, o1, fun B hB => h9 B (by simp [hB]), by have : C.i ≤ C.n := Nat.le_add_right _ _; omega, by rw [eZ]; exact m1, r3⟩
      · show bs.length < fuLen 5 _ _
        unfold fuLen
        simp
    · subst h1 h2
      simp only [wpsA, wpsB, List.map_cons, List.map_nil, List.length_cons, List.length_nil, List.replicate_succ, List.replicate_zero, List.cons_append, List.nil_append, List.getElem?_cons_zero, List.getElem?_cons_succ, List.set_cons_zero, List.set_cons_succ, ow_true, ow_false, if_true, if_false, Option.bind_some, true_and, and_true, Nat.zero_add, Nat.reduceAdd, Nat.reduceSub, Nat.reduceLeDiff]
      exact ⟨bs, rfl, by rw [List.length_range] at hq0; exact hq0, by rw [List.length_range] at h3; exact h3, h4⟩
  obtain ⟨d, f, S', e3, bs, rfl, rfl, rfl, h2, h3, h4⟩ := fw_ex goal
  have e4 : bs = blks (lam e l) ws := by unfold blks; rw [← h2, List.reverse_reverse]
  rw [e4] at e3 h3 h4
  exact ⟨e3, h3, h4⟩
end
end KX

set_option Elab.async false
set_option linter.all false
set_option maxRecDepth 100000
set_option maxHeartbeats 4000000
set_option autoImplicit false
namespace KX
/-! ### pieces -/
structure Pc where
  i : Nat
  b : Rat
  u : Rat
  w : Rat
  g : Rat
def mid (h : Rat) (w : W) : Rat := mx h (mn (h + w.s) w.m)
def pc1 (e l : Rat) (i : Nat) (h wt : Rat) (w : W) : List Pc :=
  (if h < mid h w then [⟨i, h, mid h w, wt, e⟩] else []) ++ (if mid h w < h + w.s then [⟨i, mid h w, h + w.s, wt + e * (mid h w - h), 0 - l⟩] else [])
def nextw (e l h wt : Rat) (w : W) : Rat := wt + e * (mid h w - h) + (0 - l) * (h + w.s - mid h w)
def pcs (e l : Rat) : Nat → Rat → Rat → List W → List Pc
  | _, _, _, [] => []
  | i, h, wt, w :: ws => pc1 e l i h wt w ++ pcs e l (i + 1) (h + w.s) (nextw e l h wt w) ws
def wrun (e l : Rat) : Rat → Rat → List W → Rat
  | _, wt, [] => wt
  | h, wt, w :: ws => wrun e l (h + w.s) (nextw e l h wt w) ws
theorem pcs_app (e l : Rat) : ∀ (xs ys : List W) (i : Nat) (h wt : Rat), pcs e l i h wt (xs ++ ys) = pcs e l i h wt xs ++ pcs e l (i + xs.length) (h + tot xs) (wrun e l h wt xs) ys
  | [], ys, i, h, wt => by rw [tot_nil, Rat.add_zero]; rfl
  | x :: xs, ys, i, h, wt => by
    rw [List.cons_append, pcs, pcs, pcs_app e l xs ys, List.append_assoc, tot_cons, List.length_cons]
    have e1 : h + x.s + tot xs = h + (x.s + tot xs) := by grind
    have e2 : i + 1 + xs.length = i + (xs.length + 1) := by omega
    rw [e1, e2]
    rfl
theorem wrun_app (e l : Rat) : ∀ (xs ys : List W) (h wt : Rat), wrun e l h wt (xs ++ ys) = wrun e l (h + tot xs) (wrun e l h wt xs) ys
  | [], ys, h, wt => by rw [tot_nil, Rat.add_zero]; rfl
  | x :: xs, ys, h, wt => by
    rw [List.cons_append, wrun, wrun_app e l xs ys, tot_cons]
    have e1 : h + x.s + tot xs = h + (x.s + tot xs) := by grind
    rw [e1]
    rfl
theorem mid_lo {h : Rat} {w : W} : h ≤ mid h w := by unfold mid mx mn; grind
theorem mid_hi {h : Rat} {w : W} (hs : 0 ≤ w.s) : mid h w ≤ h + w.s := by unfold mid mx mn; grind
theorem mid_term {h : Rat} {w : W} (hs : 0 ≤ w.s) : mid h w - h = eterm h (w, 0) := by unfold mid eterm mx mn; grind
/-- the wait behind some wishes -/
theorem wrun_eq (e l : Rat) : ∀ (ws : List W) (h wt : Rat), (∀ w ∈ ws, 0 ≤ w.s) → wrun e l h wt ws = wt + e * E ws h - l * (tot ws - E ws h)
  | [], h, wt, _ => by rw [E_nil, tot_nil]; show wt = _; grind
  | w :: ws, h, wt, hs => by
    rw [wrun, wrun_eq e l ws _ _ fun x hx => hs x (by simp [hx]), E_cons, tot_cons, nextw]
    have := mid_term (h := h) (hs w (by simp))
    grind
def allP (e l : Rat) (bs : List Bk) : List Pc := bs.flatMap fun B => pcs e l B.i B.b 0 B.ws
theorem Ok.mem {ws : List W} {v : Rat} {bs : List Bk} {n : Nat} (h : Ok ws v bs n) : ∀ B ∈ bs, Good v B.b B.ws ∧ B.ws = (ws.drop B.i).take B.ws.length ∧ B.i + B.ws.length ≤ ws.length := by
  induction h with
  | nil => intro B hB; cases hB
  | @snoc bs B0 h1 h2 h3 h4 h5 ih =>
    intro B hB
    rcases List.mem_append.mp hB with hB | hB
    · exact ih B hB
    · rw [List.mem_singleton] at hB; subst hB; exact ⟨h2, h3, h4⟩
theorem slice_get {ws us : List W} {i j : Nat} (h : us = (ws.drop i).take us.length) (hj : j < us.length) : ws[i + j]? = some us[j] := by
  have : us[j]? = ((ws.drop i).take us.length)[j]? := by rw [← h]
  rw [List.getElem?_eq_getElem hj, List.getElem?_take_of_lt hj, List.getElem?_drop] at this
  exact this.symm
theorem pc1_len (e l : Rat) (i : Nat) (h wt : Rat) (w : W) : (pc1 e l i h wt w).length ≤ 2 := by
  unfold pc1
  rw [List.length_append]
  split <;> split <;> simp
theorem pcs_len (e l : Rat) : ∀ (ws : List W) (i : Nat) (h wt : Rat), (pcs e l i h wt ws).length ≤ 2 * ws.length
  | [], _, _, _ => Nat.le_refl _
  | w :: ws, i, h, wt => by
    rw [pcs, List.length_append, List.length_cons]
    have := pc1_len e l i h wt w
    have := pcs_len e l ws (i + 1) (h + w.s) (nextw e l h wt w)
    omega
theorem Ok.plen {ws : List W} {v : Rat} {bs : List Bk} {n : Nat} (e l : Rat) (h : Ok ws v bs n) : (allP e l bs).length ≤ 2 * n := by
  induction h with
  | nil => exact Nat.le_refl _
  | @snoc bs B0 h1 h2 h3 h4 h5 ih =>
    unfold allP at ih ⊢
    rw [List.flatMap_append, List.length_append, List.flatMap_cons, List.flatMap_nil, List.append_nil]
    have := pcs_len e l B0.ws B0.i B0.b 0
    show _ ≤ 2 * (B0.i + B0.ws.length)
    omega
theorem flat_le {α β : Type} (f : α → List β) (p : List α) (x : α) (q : List α) : (p.flatMap f).length + (f x).length ≤ ((p ++ x :: q).flatMap f).length := by
  rw [List.flatMap_append, List.flatMap_cons, List.length_append, List.length_append]; omega
end KX

set_option Elab.async false
set_option linter.all false
set_option maxRecDepth 100000
set_option maxHeartbeats 4000000
set_option autoImplicit false
namespace KX
open PySem PySem.Spec PyProof.Rows L2 TD
def encP (p : Pc) : D := .tup [.int p.i, rep p.b, rep p.u, rep p.w, rep p.g]
section
variable {N V R : Nat} {e l : Rat} {ws : List W} {S : Sto}
theorem toMV (hr : Road N V e l) {a : Nat} {x : Rat} (h : G (N * V * 60) a x) : G (N * V * 60 * V) (a + 100) x := G.up V h hr.lV
/-- a piece's product: what the wait grows -/
theorem prod_G (hr : Road N V e l) {x g : Rat} (h : G (N * V * 60) 209 x) (k : G V 60 g) : G (N * V * 60 * V) 269 (g * x) := by
  have := G.mul h k
  rw [Rat.mul_comm x g] at this
  exact this
theorem mid_G {M a : Nat} {h : Rat} {w : W} (h1 : G M a h) (h2 : G M a (h + w.s)) (h3 : G M a w.m) : G M a (mid h w) := G.mx h1 (G.mn h2 h3)
theorem nextw_G (hr : Road N V e l) {h wt : Rat} {w : W} {a : Nat} (h1 : G (N * V * 60) 207 h) (h2 : WG N w) (h3 : G (N * V * 60 * V) a wt) (ha : 269 ≤ a) : G (N * V * 60 * V) (a + 2) (nextw e l h wt w) := by
  have g1 := (h1.add ((toM hr h2.s).mono (show 60 + 107 ≤ 207 by decide)))
  have gm := mid_G (h1.mono (show 207 ≤ 208 by decide)) g1 ((toM hr h2.m).mono (by decide))
  have g2 := gm.sub (h1.mono (show 207 ≤ 208 by decide))
  have g3 := g1.sub gm
  have gz : G V 60 (0 - l) := by rw [show (0 : Rat) - l = -l by grind]; exact hr.gl.neg
  exact (h3.add ((prod_G hr g2 hr.ge).mono ha)).add ((prod_G hr g3 gz).mono (by omega))
theorem pieces_rep (hr : Road N V e l) (hw : Wish N R ws) (hR : 0 < R) (lR : R.log2 < 1000) :
    F_pieces_of [.int R, .lst (ws.map encW), rep e, rep l] S = .ok (.lst ((allP e l (blks (lam e l) ws)).map encP)) true S := by
  obtain ⟨e1, ok, hg⟩ := blocks_rep (S := S) hr hw hR lR
  generalize blks (lam e l) ws = bs at *
  have hn := hw.n
  apply fw_eq
  unfold F_pieces_of m_pieces_of
  simp only [wpsA, wpsB, List.map_cons, List.map_nil, List.length_cons, List.length_nil, List.replicate_succ, List.replicate_zero, List.cons_append, List.nil_append, List.getElem?_cons_zero, List.getElem?_cons_succ, List.set_cons_zero, List.set_cons_succ, ow_true, ow_false, if_true, if_false, Option.bind_some, true_and, and_true, Nat.zero_add, Nat.reduceAdd, Nat.reduceSub, Nat.reduceLeDiff, spans_rep hr.hN hw.g hR lR hw.s (show ws.length ≤ 1000 by omega), e1]
  refine wp_for (fun pre t S' => (∃ s6 s7 s8 s9 s10 s11 s12 s13 s14 s15 s16 s17, t = [.sh (.int R), .sh (.lst (ws.map encW)), .sh (rep e), .sh (rep l), .ow (.lst ((ws.map (·.s)).map rep)), .ow (.lst ((allP e l pre).map encP)), s6, s7, s8, s9, s10, s11, s12, s13, s14, s15, s16, s17]) ∧ S' = S) ⟨⟨_, _, _, _, _, _, _, _, _, _, _, _, rfl⟩, rfl⟩ (fun pre B post t S' eq ⟨⟨s6, s7, s8, s9, s10, s11, s12, s13, s14, s15, s16, s17, h1⟩, h2⟩ => ?_) (fun t S' ⟨⟨s6, s7, s8, s9, s10, s11, s12, s13, s14, s15, s16, s17, h1⟩, h2⟩ => ?_)
  · subst h1 h2
    have hB : B ∈ bs := by rw [← eq]; simp
    obtain ⟨gB, sB, lB⟩ := ok.mem B hB
    have gb := hg B hB
    have pl : (allP e l pre).length + (pcs e l B.i B.b 0 B.ws).length ≤ 10 := by
      have := ok.plen e l
      have z := flat_le (fun B => pcs e l B.i B.b 0 B.ws) pre B post
      rw [eq] at z
      unfold allP at this ⊢
      omega
    have nB : B.n = B.i + B.ws.length := rfl
    have memW : ∀ x ∈ B.ws, x ∈ ws := fun x hx => by
      rw [sB] at hx
      exact List.mem_of_mem_drop (List.mem_of_mem_take hx)
    have memB : ∀ {j : Nat} (hj : j < B.ws.length), B.ws[j] ∈ ws := fun {j} hj => memW _ (List.getElem_mem hj)
    unfold encB
    simp only [wpsA, wpsB, List.map_cons, List.map_nil, List.length_cons, List.length_nil, List.replicate_succ, List.replicate_zero, List.cons_append, List.nil_append, List.getElem?_cons_zero, List.getElem?_cons_succ, List.set_cons_zero, List.set_cons_succ, ow_true, ow_false, if_true, if_false, Option.bind_some, true_and, and_true, Nat.zero_add, Nat.reduceAdd, Nat.reduceSub, Nat.reduceLeDiff]
    refine ⟨by omega, ?_⟩
    unfold rng
    rw [show ((B.n : Int) - (B.i : Int)).toNat = B.ws.length by omega]
    refine wp_for (fun pre2 t S2 => (∃ s12 s13 s14 s15 s16 s17, t = [.sh (.int R), .sh (.lst (ws.map encW)), .sh (rep e), .sh (rep l), .ow (.lst ((ws.map (·.s)).map rep)), .ow (.lst ((allP e l pre ++ pcs e l B.i B.b 0 (B.ws.take pre2.length)).map encP)), .sh (rep B.b), .sh (rep B.e), .sh (.int B.i), .sh (.int B.n), .sh (rep (B.b + tot (B.ws.take pre2.length))), .sh (rep (wrun e l B.b 0 (B.ws.take pre2.length))), s12, s13, s14, s15, s16, s17]) ∧ S2 = S' ∧ G (N * V * 60 * V) (269 + 2 * pre2.length) (wrun e l B.b 0 (B.ws.take pre2.length))) ⟨⟨_, _, _, _, _, _, by rw [List.length_nil, List.take_zero, tot_nil, Rat.add_zero]; rw [show pcs e l B.i B.b 0 [] = [] from rfl, List.append_nil]; rfl⟩, rfl, by rw [List.length_nil, List.take_zero]; exact G.zero⟩ (fun pre2 j post2 t S2 eq2 ⟨⟨s12, s13, s14, s15, s16, s17, h1⟩, h2, h3⟩ => ?_) (fun t S2 ⟨⟨s12, s13, s14, s15, s16, s17, h1⟩, h2, h3⟩ => ?_)
    · subst h1 h2
      have lj : pre2.length < B.ws.length := by
        have := congrArg List.length eq2
        rw [List.length_append, List.length_cons, List.length_range] at this
        omega
      have ej : j = pre2.length := by
        have : (List.range B.ws.length)[pre2.length]? = some j := by rw [← eq2]; simp
        rw [List.getElem?_range lj] at this
        exact (Option.some.inj this).symm
      subst ej
      rw [List.length_append, List.length_singleton]
      generalize hk : pre2.length = k at *
      have tk : B.ws.take (k + 1) = B.ws.take k ++ [B.ws[k]] := (List.take_append_getElem lj).symm
      have gt := slice_get sB lj
      generalize hw0 : B.ws[k] = w0 at *
      have hw0m : w0 ∈ ws := by rw [← hw0]; exact memB lj
      have wg := hw.g w0 hw0m
      have wp := hw.p w0 hw0m
      generalize hhd : B.b + tot (B.ws.take k) = hd at *
      generalize hwt : wrun e l B.b 0 (B.ws.take k) = wt at *
      have ghd : G (N * V * 60) 207 hd := by
        rw [← hhd]
        exact gb.add ((toM hr (tot_G hr (fun w h => hw.g w (memW w (List.mem_of_mem_take h))) (by rw [List.length_take]; omega))).mono (by decide))
      have glast : G (N * V * 60) 208 (hd + w0.s) := ghd.add ((toM hr wg.s).mono (by decide))
      have gmid : G (N * V * 60) 208 (mid hd w0) := mid_G (ghd.mono (by decide)) glast ((toM hr wg.m).mono (by decide))
      have gmn : G (N * V * 60) 208 (mn (hd + w0.s) w0.m) := G.mn glast ((toM hr wg.m).mono (by decide))
      have gwt : G (N * V * 60 * V) 280 wt := h3.mono (by omega)
      have sm {a : Nat} {x : Rat} (h : G (N * V * 60) a x) (ha : a ≤ 300) : Sm x := h.sm hr.hM (by omega)
      have smv {a : Nat} {x : Rat} (h : G (N * V * 60 * V) a x) (ha : a ≤ 300) : Sm x := h.sm hr.hMV (by omega)
      have smN {a : Nat} {x : Rat} (h : G N a x) (ha : a ≤ 300) : Sm x := h.sm hr.hN (by omega)
      have smV {a : Nat} {x : Rat} (h : G V a x) (ha : a ≤ 300) : Sm x := h.sm hr.hV (by omega)
      have pse : pcs e l B.i B.b 0 (B.ws.take (k + 1)) = pcs e l B.i B.b 0 (B.ws.take k) ++ pc1 e l (B.i + k) hd wt w0 := by
        rw [tk, pcs_app, hhd, hwt, List.length_take, Nat.min_eq_left (Nat.le_of_lt lj)]
        show _ ++ (pc1 e l (B.i + k) hd wt w0 ++ []) = _
        rw [List.append_nil]
      have hde : B.b + tot (B.ws.take (k + 1)) = hd + w0.s := by
        rw [tk, tot_app, tot_cons, tot_nil, Rat.add_zero, ← hhd, Rat.add_assoc]
      have wte : wrun e l B.b 0 (B.ws.take (k + 1)) = nextw e l hd wt w0 := by
        rw [tk, wrun_app, hhd, hwt]; rfl
      have c2 : ((B.i : Int) + (k : Int)) = ((B.i + k : Nat) : Int) := by omega
      have sg : (((ws.map (·.s)).map rep))[B.i + k]? = some (rep w0.s) := by rw [List.getElem?_map, List.getElem?_map, gt]; rfl
      have wgk : (ws.map encW)[B.i + k]? = some (.tup [rep w0.m, rep w0.h]) := by rw [List.getElem?_map, gt]; rfl
      have ll : (allP e l pre ++ pcs e l B.i B.b 0 (B.ws.take k)).length ≤ 20 := by
        rw [List.length_append]
        have := pcs_len e l (B.ws.take k) B.i B.b 0
        rw [List.length_take] at this
        omega
      have g5 := gmid.sub (ghd.mono (show 207 ≤ 208 by decide))
      have g6 := glast.sub gmid
      have g7 := prod_G hr g5 hr.ge
      have g8 : G (N * V * 60 * V) 281 (wt + e * (mid hd w0 - hd)) := gwt.add (g7.mono (by decide))
      have gz : G V 60 (0 - l) := by rw [show (0 : Rat) - l = -l by grind]; exact hr.gl.neg
      have g9 := prod_G hr g6 gz
      have g10 : G (N * V * 60 * V) (269 + 2 * (k + 1)) (nextw e l hd wt w0) := by
        have := nextw_G hr (w := w0) ghd wg h3 (by omega)
        rw [show 269 + 2 * (k + 1) = 269 + 2 * k + 2 by omega]
        exact this
      have midg : mx hd (mn (hd + w0.s) w0.m) = mid hd w0 := rfl
      rw [pse, hde, wte]
      simp only [wpsA, wpsB, List.map_cons, List.map_nil, List.length_cons, List.length_nil, List.replicate_succ, List.replicate_zero, List.cons_append, List.nil_append, List.getElem?_cons_zero, List.getElem?_cons_succ, List.set_cons_zero, List.set_cons_succ, ow_true, ow_false, if_true, if_false, Option.bind_some, true_and, and_true, Nat.zero_add, Nat.reduceAdd, Nat.reduceSub, Nat.reduceLeDiff, c2, sg, wgk, plus_rep (sm ghd (by decide)) (smN wg.s (by decide)), least2 (sm glast (by decide)) (smN wg.m (by decide)), greatest2 (sm ghd (by decide)) (sm gmn (by decide)), midg, rep_zero, less_rep sm_zero (smV hr.gl (by decide)), loop_cons, loop_nil, below_rep (sm ghd (by decide)) (sm gmid (by decide))]
      have fa : ∀ (ps : List Pc) (b u w g : Rat), ps.length ≤ 30 → fApp [.tup [.int ((B.i + k : Nat) : Int), rep b, rep u, rep w, rep g]] (.lst (ps.map encP)) = some (.lst ((ps ++ [Pc.mk (B.i + k) b u w g]).map encP), .non) := fun ps b u w g hps => by
        rw [fApp_ok _ _ (by rw [List.length_map, lim_eq]; omega), List.map_append]; rfl
      have fa0 := fun b u w g => fa (allP e l pre ++ pcs e l B.i B.b 0 (B.ws.take k)) b u w g (by omega)
      have fa1 := fun b u w g => fa ((allP e l pre ++ pcs e l B.i B.b 0 (B.ws.take k)) ++ [Pc.mk (B.i + k) hd (mid hd w0) wt e]) b u w g (by rw [List.length_append, List.length_singleton]; omega)
      have tl : ∀ ps : List Pc, tyD "list" (.lst (ps.map encP)) = true := fun ps => rfl
      by_cases c1 : hd < mid hd w0
      · by_cases c2 : mid hd w0 < hd + w0.s
        · have p1 : pc1 e l (B.i + k) hd wt w0 = [Pc.mk (B.i + k) hd (mid hd w0) wt e, Pc.mk (B.i + k) (mid hd w0) (hd + w0.s) (wt + e * (mid hd w0 - hd)) (0 - l)] := by unfold pc1; rw [if_pos c1, if_pos c2]; rfl
          rw [decide_eq_true c1, p1]
          simp only [wpsA, wpsB, List.map_cons, List.map_nil, List.length_cons, List.length_nil, List.replicate_succ, List.replicate_zero, List.cons_append, List.nil_append, List.getElem?_cons_zero, List.getElem?_cons_succ, List.set_cons_zero, List.set_cons_succ, ow_true, ow_false, if_true, if_false, Option.bind_some, true_and, and_true, Nat.zero_add, Nat.reduceAdd, Nat.reduceSub, Nat.reduceLeDiff, tl, fa0, fa1, less_rep (sm gmid (by decide)) (sm ghd (by decide)), times_rep (smV hr.ge (by decide)) (sm g5 (by decide)), plus_rep (smv gwt (by decide)) (smv g7 (by decide)), loop_cons, loop_nil, below_rep (sm gmid (by decide)) (sm glast (by decide)), decide_eq_true c2, less_rep (sm glast (by decide)) (sm gmid (by decide)), times_rep (smV gz (by decide)) (sm g6 (by decide)), plus_rep (smv g8 (by decide)) (smv g9 (by decide))]
          rw [← List.append_assoc, List.append_assoc _ [_] [_]]
          exact ⟨⟨_, _, _, _, _, _, rfl⟩, g10⟩
        · have c2' : mid hd w0 = hd + w0.s := by have := mid_hi (h := hd) (Rat.le_of_lt wp); grind
          have p1 : pc1 e l (B.i + k) hd wt w0 = [Pc.mk (B.i + k) hd (mid hd w0) wt e] := by unfold pc1; rw [if_pos c1, if_neg c2]; rfl
          have nw : nextw e l hd wt w0 = wt + e * (mid hd w0 - hd) := by unfold nextw; rw [← c2']; grind
          rw [decide_eq_true c1, p1]
          simp only [wpsA, wpsB, List.map_cons, List.map_nil, List.length_cons, List.length_nil, List.replicate_succ, List.replicate_zero, List.cons_append, List.nil_append, List.getElem?_cons_zero, List.getElem?_cons_succ, List.set_cons_zero, List.set_cons_succ, ow_true, ow_false, if_true, if_false, Option.bind_some, true_and, and_true, Nat.zero_add, Nat.reduceAdd, Nat.reduceSub, Nat.reduceLeDiff, tl, fa0, less_rep (sm gmid (by decide)) (sm ghd (by decide)), times_rep (smV hr.ge (by decide)) (sm g5 (by decide)), plus_rep (smv gwt (by decide)) (smv g7 (by decide)), loop_cons, loop_nil, below_rep (sm gmid (by decide)) (sm glast (by decide)), decide_eq_false c2]
          rw [nw] at g10 ⊢
          rw [← c2']
          rw [← List.append_assoc]
          exact ⟨⟨_, _, _, _, _, _, rfl⟩, g10⟩
      · have c1' : mid hd w0 = hd := by have := mid_lo (h := hd) (w := w0); grind
        have e5 : wt + e * (mid hd w0 - hd) = wt := by rw [c1']; grind
        have c2 : mid hd w0 < hd + w0.s := by rw [c1']; grind
        have p1 : pc1 e l (B.i + k) hd wt w0 = [Pc.mk (B.i + k) hd (hd + w0.s) wt (0 - l)] := by unfold pc1; rw [if_neg c1, if_pos c2, e5, c1']; rfl
        have nw : nextw e l hd wt w0 = wt + (0 - l) * (hd + w0.s - hd) := by unfold nextw; rw [e5, c1']
        rw [c1'] at g6 g9 c2
        rw [decide_eq_false c1, p1]
        simp only [wpsA, wpsB, List.map_cons, List.map_nil, List.length_cons, List.length_nil, List.replicate_succ, List.replicate_zero, List.cons_append, List.nil_append, List.getElem?_cons_zero, List.getElem?_cons_succ, List.set_cons_zero, List.set_cons_succ, ow_true, ow_false, if_true, if_false, Option.bind_some, true_and, and_true, Nat.zero_add, Nat.reduceAdd, Nat.reduceSub, Nat.reduceLeDiff, loop_cons, loop_nil, tl, below_rep (sm ghd (by decide)) (sm glast (by decide)), decide_eq_true c2, less_rep (sm glast (by decide)) (sm ghd (by decide)), times_rep (smV gz (by decide)) (sm g6 (by decide)), plus_rep (smv gwt (by decide)) (smv g9 (by decide)), fa0]
        rw [nw] at g10 ⊢
        rw [← List.append_assoc]
        exact ⟨⟨_, _, _, _, _, _, rfl⟩, g10⟩
    · subst h1 h2
      rw [List.length_range, List.take_length]
      simp only [wpsA, wpsB, List.map_cons, List.map_nil, List.length_cons, List.length_nil, List.replicate_succ, List.replicate_zero, List.cons_append, List.nil_append, List.getElem?_cons_zero, List.getElem?_cons_succ, List.set_cons_zero, List.set_cons_succ, ow_true, ow_false, if_true, if_false, Option.bind_some, true_and, and_true, Nat.zero_add, Nat.reduceAdd, Nat.reduceSub, Nat.reduceLeDiff]
      have ap : allP e l (pre ++ [B]) = allP e l pre ++ pcs e l B.i B.b 0 B.ws := by
        unfold allP
        rw [List.flatMap_append, List.flatMap_cons, List.flatMap_nil, List.append_nil]
      rw [ap]
      exact ⟨_, _, _, _, _, _, _, _, _, _, _, _, rfl⟩
  · subst h1 h2
    simp only [wpsA, wpsB, List.map_cons, List.map_nil, List.length_cons, List.length_nil, List.replicate_succ, List.replicate_zero, List.cons_append, List.nil_append, List.getElem?_cons_zero, List.getElem?_cons_succ, List.set_cons_zero, List.set_cons_succ, ow_true, ow_false, if_true, if_false, Option.bind_some, true_and, and_true, Nat.zero_add, Nat.reduceAdd, Nat.reduceSub, Nat.reduceLeDiff]
end
end KX

set_option Elab.async false
set_option linter.all false
set_option maxRecDepth 100000
set_option maxHeartbeats 4000000
set_option autoImplicit false
namespace KX
open PySem PySem.Spec PyProof.Rows L2 TD
theorem rep_eq (x y : Rat) : eqD (rep x) (rep y) = some (decide (x = y)) := by
  show cmpP (rep x) (rep y) = _
  unfold cmpP rep
  show (if (SeqAt.shaped (.tuple [.int x.num, .int x.den]) && SeqAt.shaped (.tuple [.int y.num, .int y.den])) = true then some (PyData.eqv (.tuple [.int x.num, .int x.den]) (.tuple [.int y.num, .int y.den])) else none) = _
  rw [if_pos (by rfl)]
  congr 1
  show (decide (x.num = y.num) && (decide ((x.den : Int) = y.den) && true)) = _
  rw [Bool.and_true]
  by_cases h : x = y
  · subst h; simp
  · rw [decide_eq_false h]
    by_cases a : x.num = y.num
    · by_cases b : x.den = y.den
      · exact absurd (Rat.ext a b) h
      · simp; intro; omega
    · simp [a]
section
variable {N V R : Nat} {e l : Rat} {ws : List W} {S : Sto} {x y : Rat} {d a b : D}
/-! ### what is passed -/
/-- d is a fraction, as it may be passed -/
def FrD (d : D) (x : Rat) : Prop := ∃ (k : Bool) (p q : Int), d = dP k [.int p, .int q] ∧ 0 < q ∧ x = Rat.divInt p q ∧ p.natAbs.log2 < 4000 ∧ q.natAbs.log2 < 4000
theorem FrD.rep (h : Sm x) : FrD (rep x) x := ⟨true, x.num, x.den, rfl, den_pos x, (Rat.num_divInt_den x).symm, h.n, by rw [Int.natAbs_natCast]; exact h.d⟩
theorem is_list_dP (k : Bool) (ds : List D) : F_is_list [dP k ds] S = .ok (.bl true) false S := by
  cases k
  · apply fw_eq
    unfold F_is_list m_is_list dP
    simp only [wpsA, wpsB, List.map_cons, List.map_nil, List.length_cons, List.length_nil, List.replicate_succ, List.replicate_zero, List.cons_append, List.nil_append, List.getElem?_cons_zero, List.getElem?_cons_succ, List.set_cons_zero, List.set_cons_succ, ow_true, ow_false, if_true, if_false, Option.bind_some, true_and, and_true, Nat.zero_add, Nat.reduceAdd, Nat.reduceSub, Nat.reduceLeDiff, Bool.false_eq_true]
    rw [e_isiT _ _ _ .lst rfl]
    simp only [wpsA, wpsB, List.map_cons, List.map_nil, List.length_cons, List.length_nil, List.replicate_succ, List.replicate_zero, List.cons_append, List.nil_append, List.getElem?_cons_zero, List.getElem?_cons_succ, List.set_cons_zero, List.set_cons_succ, ow_true, ow_false, if_true, if_false, Option.bind_some, true_and, and_true, Nat.zero_add, Nat.reduceAdd, Nat.reduceSub, Nat.reduceLeDiff]
    rfl
  · apply fw_eq
    unfold F_is_list m_is_list dP
    simp only [wpsA, wpsB, List.map_cons, List.map_nil, List.length_cons, List.length_nil, List.replicate_succ, List.replicate_zero, List.cons_append, List.nil_append, List.getElem?_cons_zero, List.getElem?_cons_succ, List.set_cons_zero, List.set_cons_succ, ow_true, ow_false, if_true, if_false, Option.bind_some, true_and, and_true, Nat.zero_add, Nat.reduceAdd, Nat.reduceSub, Nat.reduceLeDiff]
    rw [e_isiT _ _ _ .tup rfl]
    simp only [wpsA, wpsB, List.map_cons, List.map_nil, List.length_cons, List.length_nil, List.replicate_succ, List.replicate_zero, List.cons_append, List.nil_append, List.getElem?_cons_zero, List.getElem?_cons_succ, List.set_cons_zero, List.set_cons_succ, ow_true, ow_false, if_true, if_false, Option.bind_some, true_and, and_true, Nat.zero_add, Nat.reduceAdd, Nat.reduceSub, Nat.reduceLeDiff]
    rfl
theorem is_whole_int (i : Int) : F_is_whole [.int i] S = .ok (.bl true) false S := by
  apply fw_eq
  unfold F_is_whole m_is_whole
  simp only [wpsA, wpsB, List.map_cons, List.map_nil, List.length_cons, List.length_nil, List.replicate_succ, List.replicate_zero, List.cons_append, List.nil_append, List.getElem?_cons_zero, List.getElem?_cons_succ, List.set_cons_zero, List.set_cons_succ, ow_true, ow_false, if_true, if_false, Option.bind_some, true_and, and_true, Nat.zero_add, Nat.reduceAdd, Nat.reduceSub, Nat.reduceLeDiff]
  rw [e_isi _ _ _ .int rfl]
  simp only [wpsA, wpsB, List.map_cons, List.map_nil, List.length_cons, List.length_nil, List.replicate_succ, List.replicate_zero, List.cons_append, List.nil_append, List.getElem?_cons_zero, List.getElem?_cons_succ, List.set_cons_zero, List.set_cons_succ, ow_true, ow_false, if_true, if_false, Option.bind_some, true_and, and_true, Nat.zero_add, Nat.reduceAdd, Nat.reduceSub, Nat.reduceLeDiff, show isK .int .int = true from rfl]
  rw [e_isi _ _ _ .int rfl]
  simp only [wpsA, wpsB, List.map_cons, List.map_nil, List.length_cons, List.length_nil, List.replicate_succ, List.replicate_zero, List.cons_append, List.nil_append, List.getElem?_cons_zero, List.getElem?_cons_succ, List.set_cons_zero, List.set_cons_succ, ow_true, ow_false, if_true, if_false, Option.bind_some, true_and, and_true, Nat.zero_add, Nat.reduceAdd, Nat.reduceSub, Nat.reduceLeDiff]
  rfl
theorem is_positive_int (i : Int) : F_is_positive [.int i] S = .ok (.bl (decide (1 ≤ i))) false S := by
  apply fw_eq
  unfold F_is_positive m_is_positive
  simp only [wpsA, wpsB, List.map_cons, List.map_nil, List.length_cons, List.length_nil, List.replicate_succ, List.replicate_zero, List.cons_append, List.nil_append, List.getElem?_cons_zero, List.getElem?_cons_succ, List.set_cons_zero, List.set_cons_succ, ow_true, ow_false, if_true, if_false, Option.bind_some, true_and, and_true, Nat.zero_add, Nat.reduceAdd, Nat.reduceSub, Nat.reduceLeDiff, is_whole_int]
theorem two : decide (((2 : Nat) : Int) = 2) = true := rfl
theorem is_fraction_fr (h : FrD d x) : F_is_fraction [d] S = .ok (.bl true) false S := by
  obtain ⟨k, p, q, rfl, h1, h2, h3, h4⟩ := h
  have il := is_list_dP (S := S) k [.int p, .int q]
  apply fw_eq
  unfold F_is_fraction m_is_fraction
  have h5 : (1 : Int) ≤ q := by omega
  cases k
  · simp only [dP, Bool.false_eq_true, if_false] at il ⊢
    simp only [wpsA, wpsB, List.map_cons, List.map_nil, List.length_cons, List.length_nil, List.replicate_succ, List.replicate_zero, List.cons_append, List.nil_append, List.getElem?_cons_zero, List.getElem?_cons_succ, List.set_cons_zero, List.set_cons_succ, ow_true, ow_false, if_true, if_false, Option.bind_some, true_and, and_true, Nat.zero_add, Nat.reduceAdd, Nat.reduceSub, Nat.reduceLeDiff, il, two, is_whole_int, is_positive_int, decide_eq_true h5]
  · simp only [dP, if_true] at il ⊢
    simp only [wpsA, wpsB, List.map_cons, List.map_nil, List.length_cons, List.length_nil, List.replicate_succ, List.replicate_zero, List.cons_append, List.nil_append, List.getElem?_cons_zero, List.getElem?_cons_succ, List.set_cons_zero, List.set_cons_succ, ow_true, ow_false, if_true, if_false, Option.bind_some, true_and, and_true, Nat.zero_add, Nat.reduceAdd, Nat.reduceSub, Nat.reduceLeDiff, il, two, is_whole_int, is_positive_int, decide_eq_true h5]
theorem num_sign {p q : Int} (hq : 0 < q) : 0 ≤ p ↔ (0 : Rat) ≤ Rat.divInt p q := (Rat.divInt_nonneg_iff_of_pos_right hq).symm
theorem is_heap_fr (h : FrD d x) : F_is_heap [d] S = .ok (.bl (decide (0 ≤ x))) false S := by
  have f := is_fraction_fr (S := S) h
  obtain ⟨k, p, q, rfl, h1, h2, h3, h4⟩ := h
  have e9 : decide (0 ≤ x) = decide (0 ≤ p) := decide_eq_decide.mpr (by rw [h2]; exact (num_sign h1).symm)
  rw [e9]
  apply fw_eq
  unfold F_is_heap m_is_heap
  cases k
  · simp only [dP, Bool.false_eq_true, if_false] at f ⊢
    simp only [wpsA, wpsB, List.map_cons, List.map_nil, List.length_cons, List.length_nil, List.replicate_succ, List.replicate_zero, List.cons_append, List.nil_append, List.getElem?_cons_zero, List.getElem?_cons_succ, List.set_cons_zero, List.set_cons_succ, ow_true, ow_false, if_true, if_false, Option.bind_some, true_and, and_true, Nat.zero_add, Nat.reduceAdd, Nat.reduceSub, Nat.reduceLeDiff, f]
  · simp only [dP, if_true] at f ⊢
    simp only [wpsA, wpsB, List.map_cons, List.map_nil, List.length_cons, List.length_nil, List.replicate_succ, List.replicate_zero, List.cons_append, List.nil_append, List.getElem?_cons_zero, List.getElem?_cons_succ, List.set_cons_zero, List.set_cons_succ, ow_true, ow_false, if_true, if_false, Option.bind_some, true_and, and_true, Nat.zero_add, Nat.reduceAdd, Nat.reduceSub, Nat.reduceLeDiff, f]
theorem told_fr (h : FrD d x) : F_told [d] S = .ok (rep x) false S := by
  obtain ⟨k, p, q, rfl, h1, h2, h3, h4⟩ := h
  rw [h2]
  apply fw_eq
  unfold F_told m_told
  cases k
  · simp only [dP, Bool.false_eq_true, if_false]
    simp only [wpsA, wpsB, List.map_cons, List.map_nil, List.length_cons, List.length_nil, List.replicate_succ, List.replicate_zero, List.cons_append, List.nil_append, List.getElem?_cons_zero, List.getElem?_cons_succ, List.set_cons_zero, List.set_cons_succ, ow_true, ow_false, if_true, if_false, Option.bind_some, true_and, and_true, Nat.zero_add, Nat.reduceAdd, Nat.reduceSub, Nat.reduceLeDiff, lowest_rep p q h1 (show q.natAbs.log2 < 8900 by omega)]
  · simp only [dP, if_true]
    simp only [wpsA, wpsB, List.map_cons, List.map_nil, List.length_cons, List.length_nil, List.replicate_succ, List.replicate_zero, List.cons_append, List.nil_append, List.getElem?_cons_zero, List.getElem?_cons_succ, List.set_cons_zero, List.set_cons_succ, ow_true, ow_false, if_true, if_false, Option.bind_some, true_and, and_true, Nat.zero_add, Nat.reduceAdd, Nat.reduceSub, Nat.reduceLeDiff, lowest_rep p q h1 (show q.natAbs.log2 < 8900 by omega)]
theorem FrD.sm (h : FrD d x) : Sm x := by
  obtain ⟨k, p, q, rfl, h1, h2, h3, h4⟩ := h
  subst h2
  have d0 : q ≠ 0 := by omega
  constructor
  · rw [Rat.num_divInt]
    have : (q.sign * p / (q.gcd p : Nat)).natAbs ≤ p.natAbs := by
      refine Nat.le_trans (Int.natAbs_ediv_le_natAbs _ _) ?_
      rw [Int.natAbs_mul, Int.natAbs_sign_of_ne_zero d0, Nat.one_mul]; exact Nat.le_refl _
    have := log2_mono this
    omega
  · rw [Rat.den_divInt, if_neg d0]
    have := log2_mono (Nat.div_le_self q.natAbs (q.gcd p))
    omega
theorem lt_divInt {p q : Int} (hq : 0 < q) (x : Rat) : x.num * q < p * (x.den : Int) ↔ x < Rat.divInt p q := by
  have e : Rat.divInt p q = (p : Rat) / (q : Rat) := Rat.divInt_eq_div p q
  have q0 : (0 : Rat) < (q : Rat) := Rat.intCast_pos.mpr hq
  rw [e, Rat.lt_div_iff q0]
  have x0 : (0 : Rat) < (x.den : Rat) := Rat.natCast_pos.mpr x.den_pos
  have ex : x * (x.den : Rat) = (x.num : Rat) := by
    have : x = (x.num : Rat) / (x.den : Rat) := by
      have := (Rat.mkRat_eq_div x.num x.den)
      rw [Rat.mkRat_self] at this
      exact this
    have h2 := Rat.div_mul_cancel (a := (x.num : Rat)) (b := (x.den : Rat)) (fun h => by rw [h] at x0; exact Rat.lt_irrefl x0)
    rw [← this] at h2
    exact h2
  rw [← Rat.mul_lt_mul_right x0]
  have e2 : x * (q : Rat) * (x.den : Rat) = ((x.num * q : Int) : Rat) := by rw [Rat.intCast_mul, ← ex]; grind
  have e3 : (p : Rat) * (x.den : Rat) = ((p * (x.den : Int) : Int) : Rat) := by rw [Rat.intCast_mul, Rat.intCast_natCast]
  rw [e2, e3, Rat.intCast_lt_intCast]
theorem below_fr (hx : Sm x) (h : FrD d y) : F_is_below [rep x, d] S = .ok (.bl (decide (x < y))) false S := by
  obtain ⟨k, p, q, rfl, h1, h2, h3, h4⟩ := h
  subst h2
  have m1 : mulOk x.num q = true := mulOk_of (a := 4000) (b := 4000) (Nat.le_of_lt hx.n) (Nat.le_of_lt h4) (by decide)
  have m2 : mulOk p (x.den : Int) = true := mulOk_of (a := 4000) (b := 4000) (Nat.le_of_lt h3) (by rw [Int.natAbs_natCast]; have := hx.d; omega) (by decide)
  apply fw_eq
  unfold F_is_below m_is_below
  cases k
  · simp only [dP, Bool.false_eq_true, if_false]
    unfold rep
    simp only [wpsA, wpsB, List.map_cons, List.map_nil, List.length_cons, List.length_nil, List.replicate_succ, List.replicate_zero, List.cons_append, List.nil_append, List.getElem?_cons_zero, List.getElem?_cons_succ, List.set_cons_zero, List.set_cons_succ, ow_true, ow_false, if_true, if_false, Option.bind_some, true_and, and_true, Nat.zero_add, Nat.reduceAdd, Nat.reduceSub, Nat.reduceLeDiff]
    rw [e_mul _ _ _ m1]
    simp only [wpsA, wpsB, List.map_cons, List.map_nil, List.length_cons, List.length_nil, List.replicate_succ, List.replicate_zero, List.cons_append, List.nil_append, List.getElem?_cons_zero, List.getElem?_cons_succ, List.set_cons_zero, List.set_cons_succ, ow_true, ow_false, if_true, if_false, Option.bind_some, true_and, and_true, Nat.zero_add, Nat.reduceAdd, Nat.reduceSub, Nat.reduceLeDiff]
    rw [e_mul _ _ _ m2]
    simp only [wpsA, wpsB, List.map_cons, List.map_nil, List.length_cons, List.length_nil, List.replicate_succ, List.replicate_zero, List.cons_append, List.nil_append, List.getElem?_cons_zero, List.getElem?_cons_succ, List.set_cons_zero, List.set_cons_succ, ow_true, ow_false, if_true, if_false, Option.bind_some, true_and, and_true, Nat.zero_add, Nat.reduceAdd, Nat.reduceSub, Nat.reduceLeDiff]
    exact congrArg D.bl (decide_eq_decide.mpr (lt_divInt h1 x))
  · simp only [dP, if_true]
    unfold rep
    simp only [wpsA, wpsB, List.map_cons, List.map_nil, List.length_cons, List.length_nil, List.replicate_succ, List.replicate_zero, List.cons_append, List.nil_append, List.getElem?_cons_zero, List.getElem?_cons_succ, List.set_cons_zero, List.set_cons_succ, ow_true, ow_false, if_true, if_false, Option.bind_some, true_and, and_true, Nat.zero_add, Nat.reduceAdd, Nat.reduceSub, Nat.reduceLeDiff]
    rw [e_mul _ _ _ m1]
    simp only [wpsA, wpsB, List.map_cons, List.map_nil, List.length_cons, List.length_nil, List.replicate_succ, List.replicate_zero, List.cons_append, List.nil_append, List.getElem?_cons_zero, List.getElem?_cons_succ, List.set_cons_zero, List.set_cons_succ, ow_true, ow_false, if_true, if_false, Option.bind_some, true_and, and_true, Nat.zero_add, Nat.reduceAdd, Nat.reduceSub, Nat.reduceLeDiff]
    rw [e_mul _ _ _ m2]
    simp only [wpsA, wpsB, List.map_cons, List.map_nil, List.length_cons, List.length_nil, List.replicate_succ, List.replicate_zero, List.cons_append, List.nil_append, List.getElem?_cons_zero, List.getElem?_cons_succ, List.set_cons_zero, List.set_cons_succ, ow_true, ow_false, if_true, if_false, Option.bind_some, true_and, and_true, Nat.zero_add, Nat.reduceAdd, Nat.reduceSub, Nat.reduceLeDiff]
    exact congrArg D.bl (decide_eq_decide.mpr (lt_divInt h1 x))
/-- a wish, as it may be passed -/
def WsD (d : D) (w : W) : Prop := ∃ (k : Bool) (a b : D), d = dP k [a, b] ∧ FrD a w.m ∧ FrD b w.h
theorem num_pos {p q : Int} (hq : 0 < q) : 0 < p ↔ (0 : Rat) < Rat.divInt p q := by
  have h1 := num_sign (p := -p) hq
  rw [← Rat.neg_divInt] at h1
  constructor
  · intro h
    refine Rat.not_le.mp fun z => ?_
    have := h1.mpr (by grind)
    omega
  · intro h
    by_cases z : 0 < p
    · exact z
    · have := h1.mp (by omega)
      grind
theorem is_wish_ws {w : W} (h : WsD d w) (h0 : 0 ≤ w.m) (h1 : 0 < w.h) : F_is_wish [d] S = .ok (.bl true) false S := by
  obtain ⟨k, a, b, rfl, ha, hb⟩ := h
  have il := is_list_dP (S := S) k [a, b]
  have f1 := is_heap_fr (S := S) ha
  have f2 := is_heap_fr (S := S) hb
  rw [decide_eq_true h0] at f1
  rw [decide_eq_true (Rat.le_of_lt h1)] at f2
  obtain ⟨k2, p, q, rfl, g1, g2, g3, g4⟩ := hb
  rw [g2] at h1
  have p0 := (num_pos g1).mpr h1
  apply fw_eq
  unfold F_is_wish m_is_wish
  cases k <;> cases k2 <;> simp only [dP, Bool.false_eq_true, if_false, if_true] at il f1 f2 ⊢ <;> simp only [wpsA, wpsB, List.map_cons, List.map_nil, List.length_cons, List.length_nil, List.replicate_succ, List.replicate_zero, List.cons_append, List.nil_append, List.getElem?_cons_zero, List.getElem?_cons_succ, List.set_cons_zero, List.set_cons_succ, ow_true, ow_false, if_true, if_false, Option.bind_some, true_and, and_true, Nat.zero_add, Nat.reduceAdd, Nat.reduceSub, Nat.reduceLeDiff, il, two, f1, f2, decide_eq_true p0]
/-- all wishes, as they may be passed -/
def WssD (d : D) (ws : List W) : Prop := ∃ ps : List (D × W), d = .lst (ps.map (·.1)) ∧ ps.map (·.2) = ws ∧ ∀ p ∈ ps, WsD p.1 p.2
/-- the wishes are later and later -/
def Inc (ws : List W) : Prop := ws.Pairwise fun v w => v.m < w.m
theorem enum_map (ps : List (D × W)) : ∀ n : Nat, enumD n (ps.map (·.1)) = (ps.zipIdx n).map fun q => .tup [.int q.2, q.1.1] := by
  induction ps with
  | nil => intro n; rfl
  | cons p ps ih =>
    intro n
    rw [List.zipIdx_cons, List.map_cons, List.map_cons, ← ih (n + 1)]
    rfl
theorem checked_wishes_rep {ws : List W} (h : WssD d ws) (ne : ws ≠ []) (hl : ws.length ≤ 100) (h0 : ∀ w ∈ ws, 0 ≤ w.m) (h1 : ∀ w ∈ ws, 0 < w.h) (hi : Inc ws) (hs : ∀ w ∈ ws, Sm w.m) : F_checked_wishes [d] S = .ok (.lst (ws.map encW)) true S := by
  obtain ⟨ps, rfl, rfl, hp⟩ := h
  have il := is_list_dP (S := S) false (ps.map (·.1))
  simp only [dP, Bool.false_eq_true, if_false] at il
  rw [List.length_map] at hl
  have nz : decide ((ps.length : Int) = 0) = false := by
    rw [decide_eq_false]
    intro z
    have : ps = [] := List.eq_nil_of_length_eq_zero (by omega)
    subst this
    exact ne rfl
  apply fw_eq
  unfold F_checked_wishes m_checked_wishes
  simp only [wpsA, wpsB, List.map_cons, List.map_nil, List.length_cons, List.length_nil, List.replicate_succ, List.replicate_zero, List.cons_append, List.nil_append, List.getElem?_cons_zero, List.getElem?_cons_succ, List.set_cons_zero, List.set_cons_succ, ow_true, ow_false, if_true, if_false, Option.bind_some, true_and, and_true, Nat.zero_add, Nat.reduceAdd, Nat.reduceSub, Nat.reduceLeDiff, il, List.length_map, nz, Bool.not_true]
  rw [enum_map]
  refine wp_for (fun pre t S' => (∃ s2 s3, t = [.sh (.lst (ps.map (·.1))), .ow (.lst ((pre.map (·.1)).map fun p => encW p.2)), s2, s3]) ∧ S' = S) ⟨⟨_, _, rfl⟩, rfl⟩ (fun pre x post t S' eq ⟨⟨s2, s3, h1'⟩, h2⟩ => ?_) (fun t S' ⟨⟨s2, s3, h1'⟩, h2⟩ => ?_)
  · subst h1' h2
    have eq' : pre.map (·.1) ++ x.1 :: post.map (·.1) = ps := by
      have := congrArg (List.map (·.1)) eq
      rw [List.map_append, List.map_cons, List.zipIdx_map_fst] at this
      exact this
    obtain ⟨⟨dx, w⟩, ix⟩ := x
    have hx : (dx, w) ∈ ps := by rw [← eq']; simp
    have wm : w ∈ ps.map (·.2) := List.mem_map.mpr ⟨_, hx, rfl⟩
    have iw := is_wish_ws (S := S') (hp _ hx) (h0 w wm) (h1 w wm)
    have hpl : (pre.map (·.1)).length ≤ 100 := by rw [← eq', List.length_append] at hl; omega
    have hbel : ∀ p, (pre.map (·.1)).getLast? = some p → p.2.m < w.m := by
      intro p hq
      have hpp : p ∈ pre.map (·.1) := List.mem_of_getLast? hq
      unfold Inc at hi
      rw [← eq', List.map_append, List.pairwise_append] at hi
      exact hi.2.2 _ (List.mem_map.mpr ⟨p, hpp, rfl⟩) _ (List.mem_map.mpr ⟨(dx, w), by simp, rfl⟩)
    have hpm : ∀ p ∈ pre.map (·.1), Sm p.2.m := fun p hq => hs _ (List.mem_map.mpr ⟨p, by rw [← eq']; exact List.mem_append_left _ hq, rfl⟩)
    obtain ⟨k, a, b, e1, ha, hb⟩ := hp _ hx
    simp only at e1
    subst e1
    have t1 := told_fr (S := S') ha
    have t2 := told_fr (S := S') hb
    have fin : fApp [.tup [rep w.m, rep w.h]] (.lst ((pre.map (·.1)).map fun p => encW p.2)) = some (.lst (((pre ++ [((dP k [a, b], w), ix)]).map (·.1)).map fun p => encW p.2), .non) := by
      rw [fApp_ok _ _ (by rw [List.length_map, lim_eq]; omega), List.map_append, List.map_append]; rfl
    have tl : tyD "list" (.lst ((pre.map (·.1)).map fun p => encW p.2)) = true := rfl
    rcases List.eq_nil_or_concat pre with z | ⟨pre', q, z⟩
    · subst z
      have isE : (((([] : List ((D × W) × Nat))).map (·.1)).map fun p => encW p.2).isEmpty = true := rfl
      cases k <;> simp only [dP, Bool.false_eq_true, if_false, if_true] at iw fin ⊢ <;> simp only [wpsA, wpsB, List.map_cons, List.map_nil, List.length_cons, List.length_nil, List.replicate_succ, List.replicate_zero, List.cons_append, List.nil_append, List.getElem?_cons_zero, List.getElem?_cons_succ, List.set_cons_zero, List.set_cons_succ, ow_true, ow_false, if_true, if_false, Option.bind_some, true_and, and_true, Nat.zero_add, Nat.reduceAdd, Nat.reduceSub, Nat.reduceLeDiff, iw, Bool.not_true, List.isEmpty_nil, t1, t2, fApp_ok, Nat.reduceLT, lim_eq] <;> exact ⟨rfl, _, _, rfl⟩
    · rw [List.concat_eq_append] at z
      subst z
      have bl := below_fr (S := S') (hpm q.1 (by simp)) ha
      rw [decide_eq_true (hbel q.1 (by rw [List.map_append, List.map_cons, List.map_nil, List.getLast?_concat]))] at bl
      have isE : (((pre' ++ [q]).map (·.1)).map fun p => encW p.2).isEmpty = false := by cases pre' <;> rfl
      have lastA : (((pre' ++ [q]).map (·.1)).map fun p => encW p.2).getLast? = some (.tup [rep q.1.2.m, rep q.1.2.h]) := by rw [List.map_append, List.map_append, List.map_cons, List.map_nil, List.map_cons, List.map_nil, List.getLast?_concat]; rfl
      cases k <;> simp only [dP, Bool.false_eq_true, if_false, if_true] at iw fin ⊢ <;> simp only [wpsA, wpsB, List.map_cons, List.map_nil, List.length_cons, List.length_nil, List.replicate_succ, List.replicate_zero, List.cons_append, List.nil_append, List.getElem?_cons_zero, List.getElem?_cons_succ, List.set_cons_zero, List.set_cons_succ, ow_true, ow_false, if_true, if_false, Option.bind_some, true_and, and_true, Nat.zero_add, Nat.reduceAdd, Nat.reduceSub, Nat.reduceLeDiff, iw, Bool.not_true, isE, Bool.not_false, lastA, bl, t1, t2, tl, fin] <;> exact ⟨_, _, rfl⟩
  · subst h1' h2
    simp only [wpsA, wpsB, List.map_cons, List.map_nil, List.length_cons, List.length_nil, List.replicate_succ, List.replicate_zero, List.cons_append, List.nil_append, List.getElem?_cons_zero, List.getElem?_cons_succ, List.set_cons_zero, List.set_cons_succ, ow_true, ow_false, if_true, if_false, Option.bind_some, true_and, and_true, Nat.zero_add, Nat.reduceAdd, Nat.reduceSub, Nat.reduceLeDiff, List.zipIdx_map_fst, List.map_map]
    rfl
theorem checked_troubles_rep {e l : Rat} {a b : D} (ha : FrD a e) (hb : FrD b l) (e0 : 0 < e) (e1 : e < 1) (l0 : 0 < l) : F_checked_troubles [a, b] S = .ok (.tup [rep e, rep l]) false S := by
  have f1 := is_fraction_fr (S := S) ha
  have f2 := is_fraction_fr (S := S) hb
  have t1 := told_fr (S := S) ha
  have t2 := told_fr (S := S) hb
  obtain ⟨k, p, q, rfl, g1, g2, g3, g4⟩ := ha
  obtain ⟨k2, p2, q2, rfl, u1, u2, u3, u4⟩ := hb
  rw [g2] at e0
  have p0 := (num_pos g1).mpr e0
  rw [u2] at l0
  have p20 := (num_pos u1).mpr l0
  have n1 : ¬ (p ≤ 0) := by omega
  have n2 : ¬ (p2 ≤ 0) := by omega
  have n3 : ¬ (q ≤ p) := by
    intro z
    rw [g2, Rat.divInt_eq_div, Rat.div_lt_iff (Rat.intCast_pos.mpr g1), Rat.one_mul, Rat.intCast_lt_intCast] at e1
    omega
  apply fw_eq
  unfold F_checked_troubles m_checked_troubles
  cases k <;> cases k2 <;> simp only [dP, Bool.false_eq_true, if_false, if_true] at f1 f2 t1 t2 ⊢ <;> simp only [wpsA, wpsB, List.map_cons, List.map_nil, List.length_cons, List.length_nil, List.replicate_succ, List.replicate_zero, List.cons_append, List.nil_append, List.getElem?_cons_zero, List.getElem?_cons_succ, List.set_cons_zero, List.set_cons_succ, ow_true, ow_false, if_true, if_false, Option.bind_some, true_and, and_true, Nat.zero_add, Nat.reduceAdd, Nat.reduceSub, Nat.reduceLeDiff, f1, f2, Bool.not_true, decide_eq_false n1, decide_eq_false n2, decide_eq_false n3, t1, t2]
theorem check_road_rep {R L : Nat} (hR : 0 < R) (hL : 0 < L) : F_check_road [.int R, .int L] S = .ok .non false S := by
  have h1 : decide ((1 : Int) ≤ (R : Int)) = true := decide_eq_true (by omega)
  have h2 : decide ((1 : Int) ≤ (L : Int)) = true := decide_eq_true (by omega)
  apply fw_eq
  unfold F_check_road m_check_road
  simp only [wpsA, wpsB, List.map_cons, List.map_nil, List.length_cons, List.length_nil, List.replicate_succ, List.replicate_zero, List.cons_append, List.nil_append, List.getElem?_cons_zero, List.getElem?_cons_succ, List.set_cons_zero, List.set_cons_succ, ow_true, ow_false, if_true, if_false, Option.bind_some, true_and, and_true, Nat.zero_add, Nat.reduceAdd, Nat.reduceSub, Nat.reduceLeDiff, is_positive_int, h1, h2, Bool.not_true]
theorem e_addT (xs ys : List D) {t : Ev} (Q : D → Bool → Ev → Sto → Prop) (hx : xs ≠ []) (hy : ys ≠ []) : TD.WE (dAdd (.tup xs) (.tup ys)) t S Q = ((xs ++ ys).length ≤ lim ∧ Q (.tup (xs ++ ys)) false t S) := by
  cases xs with
  | nil => exact absurd rfl hx
  | cons x xs =>
    cases ys with
    | nil => exact absurd rfl hy
    | cons y ys => exact e_newT _ _
theorem checked_all_rep {R L : Nat} {ws : List W} {e l : Rat} {a b : D} (hR : 0 < R) (hL : 0 < L) (h : WssD d ws) (ne : ws ≠ []) (hl : ws.length ≤ 100) (h0 : ∀ w ∈ ws, 0 ≤ w.m) (h1 : ∀ w ∈ ws, 0 < w.h) (hi : Inc ws) (hs : ∀ w ∈ ws, Sm w.m) (ha : FrD a e) (hb : FrD b l) (e0 : 0 < e) (e1 : e < 1) (l0 : 0 < l) :
    F_checked_all [.int R, .int L, d, a, b] S = .ok (.tup [.lst (ws.map encW), rep e, rep l]) false S := by
  apply fw_eq
  unfold F_checked_all m_checked_all
  simp only [wpsA, wpsB, List.map_cons, List.map_nil, List.length_cons, List.length_nil, List.replicate_succ, List.replicate_zero, List.cons_append, List.nil_append, List.getElem?_cons_zero, List.getElem?_cons_succ, List.set_cons_zero, List.set_cons_succ, ow_true, ow_false, if_true, if_false, Option.bind_some, true_and, and_true, Nat.zero_add, Nat.reduceAdd, Nat.reduceSub, Nat.reduceLeDiff, check_road_rep hR hL, checked_wishes_rep h ne hl h0 h1 hi hs, checked_troubles_rep ha hb e0 e1 l0]
  rw [e_addT _ _ _ (by simp) (by simp)]
  simp only [wpsA, wpsB, List.map_cons, List.map_nil, List.length_cons, List.length_nil, List.replicate_succ, List.replicate_zero, List.cons_append, List.nil_append, List.getElem?_cons_zero, List.getElem?_cons_succ, List.set_cons_zero, List.set_cons_succ, ow_true, ow_false, if_true, if_false, Option.bind_some, true_and, and_true, Nat.zero_add, Nat.reduceAdd, Nat.reduceSub, Nat.reduceLeDiff]
end
end KX

set_option Elab.async false
set_option linter.all false
set_option maxRecDepth 100000
set_option maxHeartbeats 4000000
set_option autoImplicit false
namespace KX
/-! ### troubles -/
def sorrowQ (e l m t : Rat) : Rat := if 0 < m - t then e * (m - t) else l * (0 - (m - t))
def costB (e l : Rat) : Rat → Rat → List W → List Rat
  | _, _, [] => []
  | h, wt, w :: ws => (wt + sorrowQ e l w.m h) :: costB e l (h + w.s) (nextw e l h wt w) ws
def costs (e l : Rat) (bs : List Bk) : List Rat := bs.flatMap fun B => costB e l B.b 0 B.ws
theorem costB_len (e l : Rat) : ∀ (ws : List W) (h wt : Rat), (costB e l h wt ws).length = ws.length
  | [], _, _ => rfl
  | w :: ws, h, wt => by rw [costB, List.length_cons, costB_len e l ws, List.length_cons]
theorem costs_len {ws : List W} {v : Rat} {bs : List Bk} {n : Nat} (e l : Rat) (h : Ok ws v bs n) : (costs e l bs).length = n := by
  induction h with
  | nil => rfl
  | @snoc bs B h1 h2 h3 h4 h5 ih =>
    unfold costs at ih ⊢
    rw [List.flatMap_append, List.length_append, ih, List.flatMap_cons, List.flatMap_nil, List.append_nil, costB_len]
    rfl
theorem costs_app (e l : Rat) (bs : List Bk) (B : Bk) : costs e l (bs ++ [B]) = costs e l bs ++ costB e l B.b 0 B.ws := by
  unfold costs
  rw [List.flatMap_append, List.flatMap_cons, List.flatMap_nil, List.append_nil]
theorem allP_app (e l : Rat) (bs : List Bk) (B : Bk) : allP e l (bs ++ [B]) = allP e l bs ++ pcs e l B.i B.b 0 B.ws := by
  unfold allP
  rw [List.flatMap_append, List.flatMap_cons, List.flatMap_nil, List.append_nil]
theorem pc1_idx {e l : Rat} {i : Nat} {h wt : Rat} {w : W} {p : Pc} (hp : p ∈ pc1 e l i h wt w) : p.i = i := by
  unfold pc1 at hp
  rcases List.mem_append.mp hp with hp | hp
  · split at hp
    · rw [List.mem_singleton] at hp; rw [hp]
    · cases hp
  · split at hp
    · rw [List.mem_singleton] at hp; rw [hp]
    · cases hp
theorem pcs_idx {e l : Rat} : ∀ {ws : List W} {i : Nat} {h wt : Rat} {p : Pc}, p ∈ pcs e l i h wt ws → i ≤ p.i ∧ p.i < i + ws.length
  | [], _, _, _, _, hp => nomatch hp
  | w :: ws, i, h, wt, p, hp => by
    rw [List.length_cons]
    rcases List.mem_append.mp hp with hp | hp
    · have := pc1_idx hp; omega
    · have := pcs_idx hp; omega
theorem allP_idx {ws : List W} {v : Rat} {bs : List Bk} {n : Nat} {e l : Rat} (h : Ok ws v bs n) : ∀ p ∈ allP e l bs, p.i < n := by
  induction h with
  | nil => intro p hp; cases hp
  | @snoc bs B h1 h2 h3 h4 h5 ih =>
    intro p hp
    rw [allP_app] at hp
    show p.i < B.i + B.ws.length
    rcases List.mem_append.mp hp with hp | hp
    · have := ih p hp; omega
    · exact (pcs_idx hp).2
/-- the first piece of a wish -/
theorem pc1_first (e l : Rat) (i : Nat) (h wt : Rat) (w : W) (hs : 0 < w.s) : ∃ p r, pc1 e l i h wt w = p :: r ∧ p.b = h ∧ p.w = wt := by
  unfold pc1
  by_cases c : h < mid h w
  · rw [if_pos c]; exact ⟨_, _, rfl, rfl, rfl⟩
  · have e1 : mid h w = h := by have := mid_lo (h := h) (w := w); grind
    rw [if_neg c, if_pos (by rw [e1]; grind)]
    refine ⟨_, _, rfl, e1, ?_⟩
    show wt + e * (mid h w - h) = wt
    rw [e1]; grind
theorem find_app_left {α : Type} {p : α → Bool} {xs ys : List α} {a : α} (h : xs.find? p = some a) : (xs ++ ys).find? p = some a := by rw [List.find?_append, h]; rfl
theorem find_app_right {α : Type} {p : α → Bool} {xs ys : List α} (h : ∀ x ∈ xs, p x = false) : (xs ++ ys).find? p = ys.find? p := by
  rw [List.find?_append, List.find?_eq_none.mpr (fun x hx => by rw [h x hx]; simp)]; rfl
theorem pcs_first (e l : Rat) : ∀ (ws : List W) (i : Nat) (h wt : Rat), (∀ w ∈ ws, 0 < w.s) → ∀ (j : Nat) (hj : j < ws.length), ∃ p, (pcs e l i h wt ws).find? (fun p => decide (p.i = i + j)) = some p ∧ (costB e l h wt ws)[j]? = some (p.w + sorrowQ e l ws[j].m p.b)
  | [], _, _, _, _, j, hj => absurd hj (Nat.not_lt_zero _)
  | w :: ws, i, h, wt, hs, 0, hj => by
    obtain ⟨p, r, e1, e2, e3⟩ := pc1_first e l i h wt w (hs w (by simp))
    have hi : p.i = i := pc1_idx (by rw [e1]; simp)
    refine ⟨p, ?_, ?_⟩
    · rw [pcs, e1, List.cons_append, List.find?_cons, decide_eq_true (by omega)]
    · rw [costB, e2, e3]; rfl
  | w :: ws, i, h, wt, hs, j + 1, hj => by
    obtain ⟨p, e1, e2⟩ := pcs_first e l ws (i + 1) (h + w.s) (nextw e l h wt w) (fun x hx => hs x (by simp [hx])) j (by rw [List.length_cons] at hj; omega)
    refine ⟨p, ?_, ?_⟩
    · rw [pcs, find_app_right (fun x hx => by have := pc1_idx hx; exact decide_eq_false (by omega))]
      rw [show i + (j + 1) = i + 1 + j by omega]
      exact e1
    · rw [costB, List.getElem?_cons_succ]
      exact e2
theorem allP_first {ws : List W} {v : Rat} {bs : List Bk} {n : Nat} {e l : Rat} (h : Ok ws v bs n) (hs : ∀ w ∈ ws, 0 < w.s) : ∀ (i : Nat), i < n → ∃ p w, (allP e l bs).find? (fun p => decide (p.i = i)) = some p ∧ ws[i]? = some w ∧ (costs e l bs)[i]? = some (p.w + sorrowQ e l w.m p.b) := by
  induction h with
  | nil => intro i hi; exact absurd hi (Nat.not_lt_zero _)
  | @snoc bs B h1 h2 h3 h4 h5 ih =>
    intro i hi
    rw [allP_app, costs_app]
    by_cases c : i < B.i
    · obtain ⟨p, w, e1, e2, e3⟩ := ih i c
      refine ⟨p, w, find_app_left e1, e2, ?_⟩
      rw [List.getElem?_append_left (by rw [costs_len e l h1]; exact c)]
      exact e3
    · have hi' : i - B.i < B.ws.length := by have : i < B.i + B.ws.length := hi; omega
      have sub : ∀ x ∈ B.ws, x ∈ ws := fun x hx => by
        rw [h3] at hx
        exact List.mem_of_mem_drop (List.mem_of_mem_take hx)
      obtain ⟨p, e1, e2⟩ := pcs_first e l B.ws B.i B.b 0 (fun w hw => hs w (sub w hw)) (i - B.i) hi'
      refine ⟨p, B.ws[i - B.i], ?_, ?_, ?_⟩
      · rw [find_app_right (fun x hx => by have := allP_idx h1 x hx; exact decide_eq_false (by omega))]
        rw [show B.i + (i - B.i) = i by omega] at e1
        exact e1
      · have := slice_get h3 hi'
        rw [show B.i + (i - B.i) = i by omega] at this
        exact this
      · rw [List.getElem?_append_right (by rw [costs_len e l h1]; omega), costs_len e l h1]
        exact e2
end KX

set_option Elab.async false
set_option linter.all false
set_option maxRecDepth 100000
set_option maxHeartbeats 4000000
set_option autoImplicit false
namespace KX
open PySem PySem.Spec PyProof.Rows L2 TD
/-- what is passed, and what it stands for -/
structure Giv (N V R L : Nat) (ws : List W) (e l : Rat) (d a b : D) : Prop where
  r : Road N V e l
  w : Wish N R ws
  R0 : 0 < R
  lR : R < 2 ^ 60
  L0 : 0 < L
  lL : L < 2 ^ 60
  d : WssD d ws
  m : ∀ w ∈ ws, 0 ≤ w.m
  h : ∀ w ∈ ws, 0 < w.h
  i : Inc ws
  a : FrD a e
  b : FrD b l
section
variable {N V R L : Nat} {e l : Rat} {ws : List W} {S : Sto} {d a b : D}
theorem log60 {R : Nat} (h : R < 2 ^ 60) : R.log2 < 1000 := by
  by_cases z : R = 0
  · subst z; decide
  · have := (Nat.log2_lt z).mpr h; omega
theorem Giv.all (g : Giv N V R L ws e l d a b) : F_checked_all [.int R, .int L, d, a, b] S = .ok (.tup [.lst (ws.map encW), rep e, rep l]) false S :=
  checked_all_rep g.R0 g.L0 g.d g.w.ne (by have := g.w.n; omega) g.m g.h g.i (fun w hw => (g.w.g w hw).m.sm g.r.hN (by decide)) g.a g.b g.r.e0 g.r.e1 g.r.l0
theorem Giv.bl (g : Giv N V R L ws e l d a b) : F_blocks_of [.int R, .lst (ws.map encW), rep e, rep l] S = .ok (.lst ((blks (lam e l) ws).map encB)) true S := (blocks_rep g.r g.w g.R0 (log60 g.lR)).1
theorem Giv.ok (g : Giv N V R L ws e l d a b) : Ok ws (lam e l) (blks (lam e l) ws) ws.length := (blocks_rep (S := []) g.r g.w g.R0 (log60 g.lR)).2.1
theorem Giv.g (g : Giv N V R L ws e l d a b) : ∀ B ∈ blks (lam e l) ws, G (N * V * 60) 206 B.b := (blocks_rep (S := []) g.r g.w g.R0 (log60 g.lR)).2.2
theorem Giv.pc (g : Giv N V R L ws e l d a b) : F_pieces_of [.int R, .lst (ws.map encW), rep e, rep l] S = .ok (.lst ((allP e l (blks (lam e l) ws)).map encP)) true S := pieces_rep g.r g.w g.R0 (log60 g.lR)
/-- sizes of a piece -/
structure PG (N V : Nat) (p : Pc) : Prop where
  b : G (N * V * 60) 208 p.b
  u : G (N * V * 60) 208 p.u
  w : G (N * V * 60 * V) 290 p.w
  g : G V 60 p.g
theorem gz (hr : Road N V e l) : G V 60 (0 - l) := by rw [show (0 : Rat) - l = -l by grind]; exact hr.gl.neg
theorem pcs_G (hr : Road N V e l) {us : List W} (hg : ∀ w ∈ us, WG N w) (hn : us.length ≤ 5) {b : Rat} (hb : G (N * V * 60) 206 b) : ∀ (vs : List W) (k i : Nat) (h wt : Rat), (∃ xs, us = xs ++ vs ∧ k = xs.length ∧ h = b + tot xs) → G (N * V * 60 * V) (269 + 2 * k) wt → ∀ p ∈ pcs e l i h wt vs, PG N V p
  | [], _, _, _, _, _, _, p, hp => nomatch hp
  | w :: vs, k, i, h, wt, ⟨xs, e1, e2, e3⟩, gw, p, hp => by
    have gx : G (N * V * 60) 207 h := by
      rw [e3]
      refine hb.add ((toM hr (tot_G hr (us := xs) (fun w hw => hg w (by rw [e1]; simp [hw])) (by rw [e1, List.length_append] at hn; omega))).mono (by decide))
    have wg := hg w (by rw [e1]; simp)
    have hk : k ≤ 5 := by rw [e1, List.length_append] at hn; omega
    have glast : G (N * V * 60) 208 (h + w.s) := gx.add ((toM hr wg.s).mono (by decide))
    have gmid : G (N * V * 60) 208 (mid h w) := mid_G (gx.mono (by decide)) glast ((toM hr wg.m).mono (by decide))
    have gw' : G (N * V * 60 * V) 280 wt := gw.mono (by omega)
    have g8 : G (N * V * 60 * V) 281 (wt + e * (mid h w - h)) := gw'.add ((prod_G hr (gmid.sub (gx.mono (show 207 ≤ 208 by decide))) hr.ge).mono (by decide))
    rcases List.mem_append.mp hp with hp | hp
    · unfold pc1 at hp
      rcases List.mem_append.mp hp with hp | hp
      · split at hp
        · rw [List.mem_singleton] at hp; subst hp
          exact ⟨gx.mono (by decide), gmid, gw'.mono (by decide), hr.ge⟩
        · cases hp
      · split at hp
        · rw [List.mem_singleton] at hp; subst hp
          exact ⟨gmid, glast, g8.mono (by decide), gz hr⟩
        · cases hp
    · refine pcs_G hr hg hn hb vs (k + 1) (i + 1) _ _ ⟨xs ++ [w], by rw [e1]; simp, by rw [List.length_append, e2]; rfl, ?_⟩ ?_ p hp
      · rw [e3, tot_app, tot_cons, tot_nil, Rat.add_zero, Rat.add_assoc]
      · have := nextw_G hr (w := w) gx wg gw (by omega)
        rw [show 269 + 2 * (k + 1) = 269 + 2 * k + 2 by omega]
        exact this
theorem Giv.pg (g : Giv N V R L ws e l d a b) : ∀ p ∈ allP e l (blks (lam e l) ws), PG N V p := by
  intro p hp
  obtain ⟨B, hB, hp⟩ := List.mem_flatMap.mp hp
  obtain ⟨_, sB, lB⟩ := g.ok.mem B hB
  refine pcs_G g.r (us := B.ws) (fun w hw => g.w.g w (by rw [sB] at hw; exact List.mem_of_mem_drop (List.mem_of_mem_take hw))) (by have := g.w.n; omega) (g.g B hB) B.ws 0 B.i B.b 0 ⟨[], rfl, rfl, by rw [tot_nil, Rat.add_zero]⟩ G.zero p hp
theorem sorrow_rep (hr : Road N V e l) {w : W} (wg : WG N w) {t : Rat} (ht : G (N * V * 60) 208 t) : F_sorrow [encW w, rep t, rep e, rep l] S = .ok (rep (sorrowQ e l w.m t)) false S ∧ G (N * V * 60 * V) 270 (sorrowQ e l w.m t) := by
  have gm := (toM hr wg.m).mono (show 60 + 107 ≤ 208 by decide)
  have gd := gm.sub ht
  have gd0 : G (N * V * 60) 209 (0 - (w.m - t)) := by rw [show (0 : Rat) - (w.m - t) = -(w.m - t) by grind]; exact gd.neg
  have s1 := gm.sm hr.hM (by decide)
  have s2 := ht.sm hr.hM (by decide)
  have s3 := gd.sm hr.hM (by decide)
  have s4 := gd0.sm hr.hM (by decide)
  have s5 := hr.ge.sm hr.hV (by decide)
  have s6 := hr.gl.sm hr.hV (by decide)
  have np : 0 < (w.m - t).num ↔ 0 < w.m - t := by
    have := num_pos (p := (w.m - t).num) (den_pos (w.m - t))
    rw [Rat.num_divInt_den] at this
    exact this
  constructor
  · apply fw_eq
    unfold F_sorrow m_sorrow encW
    simp only [wpsA, wpsB, List.map_cons, List.map_nil, List.length_cons, List.length_nil, List.replicate_succ, List.replicate_zero, List.cons_append, List.nil_append, List.getElem?_cons_zero, List.getElem?_cons_succ, List.set_cons_zero, List.set_cons_succ, ow_true, ow_false, if_true, if_false, Option.bind_some, true_and, and_true, Nat.zero_add, Nat.reduceAdd, Nat.reduceSub, Nat.reduceLeDiff, less_rep s1 s2]
    by_cases c : 0 < w.m - t
    · have c' := np.mpr c
      have e0 : sorrowQ e l w.m t = e * (w.m - t) := if_pos c
      rw [e0]
      have e1 : ∀ (t0 : Ev) Q, TD.WE (dIx (rep (w.m - t)) (.int 0)) t0 S Q = Q (.int (w.m - t).num) false t0 S := fun t0 Q => rfl
      have e2 : ∀ Q, VW S (rep (w.m - t)) Q = Q (rep (w.m - t)) := fun Q => rfl
      simp only [wpsA, wpsB, List.map_cons, List.map_nil, List.length_cons, List.length_nil, List.replicate_succ, List.replicate_zero, List.cons_append, List.nil_append, List.getElem?_cons_zero, List.getElem?_cons_succ, List.set_cons_zero, List.set_cons_succ, ow_true, ow_false, if_true, if_false, Option.bind_some, true_and, and_true, Nat.zero_add, Nat.reduceAdd, Nat.reduceSub, Nat.reduceLeDiff, e1, e2, decide_eq_true c', times_rep s5 s3]
    · have c' : ¬ (0 < (w.m - t).num) := fun z => c (np.mp z)
      have e0 : sorrowQ e l w.m t = l * (0 - (w.m - t)) := if_neg c
      rw [e0]
      have e1 : ∀ (t0 : Ev) Q, TD.WE (dIx (rep (w.m - t)) (.int 0)) t0 S Q = Q (.int (w.m - t).num) false t0 S := fun t0 Q => rfl
      have e2 : ∀ Q, VW S (rep (w.m - t)) Q = Q (rep (w.m - t)) := fun Q => rfl
      simp only [wpsA, wpsB, List.map_cons, List.map_nil, List.length_cons, List.length_nil, List.replicate_succ, List.replicate_zero, List.cons_append, List.nil_append, List.getElem?_cons_zero, List.getElem?_cons_succ, List.set_cons_zero, List.set_cons_succ, ow_true, ow_false, if_true, if_false, Option.bind_some, true_and, and_true, Nat.zero_add, Nat.reduceAdd, Nat.reduceSub, Nat.reduceLeDiff, e1, e2, decide_eq_false c', rep_zero, less_rep sm_zero s3, times_rep s6 s4]
  · unfold sorrowQ
    split
    · exact (prod_G hr gd hr.ge).mono (by decide)
    · exact (prod_G hr gd0 hr.gl).mono (by decide)
/-! ### a dict filled by setdefault -/
theorem e_setd {t : Ev} {i : Nat} {kvs : List (Key × D)} (mk mv : ME) (Q : D → Bool → Ev → Sto → Prop) (h : t[i]? = some (.ow (.dic kvs))) : TD.WE (mSetd i mk mv) t S Q = TD.WE mk t S fun y _ t S => TD.WE mv t S fun z _ t S => TD.WE (wrSetd i y z) t S Q := by
  have : TD.WE (mSetd i mk mv) t S Q = TD.WE (eb mk fun y => eb mv fun z => wrSetd i y z) t S Q := by unfold TD.WE WP mSetd; rw [h]
  rw [this, e_eb]
  congr 1; funext d f t S
  exact e_eb _ _ _
theorem e_wrSetd {t : Ev} {i : Nat} {kvs : List (Key × D)} {y z : D} {k : Key} (Q : D → Bool → Ev → Sto → Prop) (h : t[i]? = some (.ow (.dic kvs))) (hk : toKey y = some k) (hl : kvs.length < lim) :
    TD.WE (wrSetd i y z) t S Q = match dValD kvs k with
      | some d => Q d false t S
      | none => Q z false (t.set i (.ow (.dic (dPutD kvs k z)))) S := by
  unfold TD.WE WP wrSetd
  rw [h]
  simp only [hk, if_pos hl]
  cases dValD kvs k <;> rfl
def setd (kvs : List (Key × D)) (k : Key) (z : D) : List (Key × D) := match dValD kvs k with
  | some _ => kvs
  | none => dPutD kvs k z
theorem dPut_none {kvs : List (Key × D)} {k : Key} {z : D} (h : dValD kvs k = none) : dPutD kvs k z = kvs ++ [(k, z)] := by
  unfold dPutD
  rw [if_neg]
  intro c
  unfold dValD at h
  rw [Option.map_eq_none_iff, List.find?_eq_none] at h
  obtain ⟨x, hx, e⟩ := List.any_eq_true.mp c
  exact h x hx e
theorem setd_len (kvs : List (Key × D)) (k : Key) (z : D) : (setd kvs k z).length ≤ kvs.length + 1 := by
  unfold setd
  cases h : dValD kvs k with
  | some _ => exact Nat.le_succ _
  | none => simp only; rw [dPut_none h, List.length_append]; exact Nat.le_refl _
theorem dVal_app (kvs : List (Key × D)) (k k2 : Key) (z : D) : dValD (kvs ++ [(k, z)]) k2 = (dValD kvs k2).or (if k = k2 then some z else none) := by
  unfold dValD
  rw [List.find?_append]
  cases h : kvs.find? fun kv => decide (kv.1 = k2) with
  | some a => rfl
  | none =>
    simp only [Option.none_or, List.find?_cons, List.find?_nil, Option.map_none]
    by_cases c : k = k2
    · rw [if_pos c, decide_eq_true c]; rfl
    · rw [if_neg c, decide_eq_false c]; rfl
theorem setd_val (kvs : List (Key × D)) (k k2 : Key) (z : D) : dValD (setd kvs k z) k2 = (dValD kvs k2).or (if k = k2 then some z else none) := by
  unfold setd
  cases h : dValD kvs k with
  | some y =>
    simp only
    by_cases c : k = k2
    · subst c; rw [h]; rfl
    · rw [if_neg c, Option.or_none]
  | none => simp only; rw [dPut_none h, dVal_app]
end
end KX

set_option Elab.async false
set_option linter.all false
set_option maxRecDepth 100000
set_option maxHeartbeats 4000000
set_option autoImplicit false
namespace KX
open PySem PySem.Spec PyProof.Rows L2 TD
section
variable {N V R L : Nat} {e l : Rat} {ws : List W} {S : Sto} {d a b : D}
def mOf (ws : List W) (i : Nat) : Rat := ((ws[i]?).map (·.m)).getD 0
def cst (e l : Rat) (ws : List W) (p : Pc) : Rat := p.w + sorrowQ e l (mOf ws p.i) p.b
def dct (e l : Rat) (ws : List W) (ps : List Pc) : List (Key × D) := ps.foldl (fun kvs p => setd kvs (.inl p.i) (rep (cst e l ws p))) []
theorem dct_app (ps : List Pc) (p : Pc) : dct e l ws (ps ++ [p]) = setd (dct e l ws ps) (.inl p.i) (rep (cst e l ws p)) := by unfold dct; rw [List.foldl_append]; rfl
theorem dct_val : ∀ (n : Nat) (ps : List Pc), ps.length = n → ∀ i : Nat, dValD (dct e l ws ps) (.inl (i : Int)) = (ps.find? fun p => decide (p.i = i)).map fun p => rep (cst e l ws p)
  | 0, ps, h, i => by rw [List.length_eq_zero_iff] at h; subst h; rfl
  | n + 1, ps, h, i => by
    rcases List.eq_nil_or_concat ps with z | ⟨qs, q, z⟩
    · subst z; rfl
    · rw [List.concat_eq_append] at z
      subst z
      rw [dct_app, setd_val, dct_val n qs (by rw [List.length_append, List.length_singleton] at h; omega), List.find?_append]
      have e1 : ((Sum.inl (q.i : Int) : Key) = Sum.inl (i : Int)) ↔ q.i = i := ⟨fun h => by have := Sum.inl.inj h; omega, fun h => by rw [h]⟩
      cases hf : qs.find? fun p => decide (p.i = i) with
      | some p => rfl
      | none =>
        simp only [Option.map_none, Option.none_or, List.find?_cons, List.find?_nil]
        by_cases c : q.i = i
        · rw [if_pos (e1.mpr c), decide_eq_true c]; rfl
        · rw [if_neg (fun z => c (e1.mp z)), decide_eq_false c]; rfl
theorem dct_len : ∀ (n : Nat) (ps : List Pc), ps.length = n → (dct e l ws ps).length ≤ n
  | 0, ps, h => by rw [List.length_eq_zero_iff] at h; subst h; exact Nat.le_refl _
  | n + 1, ps, h => by
    rcases List.eq_nil_or_concat ps with z | ⟨qs, q, z⟩
    · subst z; exact Nat.zero_le _
    · rw [List.concat_eq_append] at z
      subst z
      rw [dct_app]
      have := dct_len n qs (by rw [List.length_append, List.length_singleton] at h; omega)
      have := setd_len (dct e l ws qs) (.inl q.i) (rep (cst e l ws q))
      omega
theorem get_enc (i : Nat) : atI (ws.map encW) (i : Int) = (ws[i]?).map encW := by rw [atI_cast, List.getElem?_map]
theorem troubles_rep (g : Giv N V R L ws e l d a b) : F_troubles [.int R, .int L, d, a, b] S = .ok (.lst ((costs e l (blks (lam e l) ws)).map rep)) true S := by
  have ok := g.ok
  have pgs := g.pg
  have pc := g.pc (S := S)
  have n5 := g.w.n
  have clen := costs_len e l ok
  have plen := ok.plen e l
  generalize blks (lam e l) ws = bs at *
  apply fw_eq
  unfold F_troubles m_troubles
  simp only [wpsA, wpsB, List.map_cons, List.map_nil, List.length_cons, List.length_nil, List.replicate_succ, List.replicate_zero, List.cons_append, List.nil_append, List.getElem?_cons_zero, List.getElem?_cons_succ, List.set_cons_zero, List.set_cons_succ, ow_true, ow_false, if_true, if_false, Option.bind_some, true_and, and_true, Nat.zero_add, Nat.reduceAdd, Nat.reduceSub, Nat.reduceLeDiff, g.all, pc]
  refine wp_for (fun pre t S' => (∃ s9 s10 s11 s12 s13, t = [.sh (.int R), .sh (.int L), .sh d, .sh a, .sh b, .sh (.lst (ws.map encW)), .sh (rep e), .sh (rep l), .ow (.dic (dct e l ws pre)), s9, s10, s11, s12, s13]) ∧ S' = S) ⟨⟨_, _, _, _, _, rfl⟩, rfl⟩ (fun pre p post t S' eq ⟨⟨s9, s10, s11, s12, s13, h1⟩, h2⟩ => ?_) (fun t S' ⟨⟨s9, s10, s11, s12, s13, h1⟩, h2⟩ => ?_)
  · subst h1 h2
    have hp : p ∈ allP e l bs := by rw [← eq]; simp
    have pg := pgs p hp
    have hi := allP_idx ok p hp
    have gw : ws[p.i]? = some ws[p.i] := List.getElem?_eq_getElem hi
    obtain ⟨e1, e2⟩ := sorrow_rep (S := S') g.r (g.w.g ws[p.i] (List.getElem_mem hi)) pg.b
    have em : mOf ws p.i = ws[p.i].m := by unfold mOf; rw [gw]; rfl
    have e3 : F_plus [rep p.w, rep (sorrowQ e l ws[p.i].m p.b)] S' = .ok (rep (cst e l ws p)) false S' := by
      rw [plus_rep (pg.w.sm g.r.hMV (by decide)) (e2.sm g.r.hMV (by decide))]
      unfold cst
      rw [em]
    have dl : (dct e l ws pre).length < lim := by
      have := dct_len (e := e) (l := l) (ws := ws) _ pre rfl
      rw [lim_eq]
      have : pre.length ≤ (allP e l bs).length := by rw [← eq, List.length_append]; omega
      omega
    have gE : (ws.map encW)[p.i]? = some (encW ws[p.i]) := by rw [List.getElem?_map, gw]; rfl
    unfold encP
    simp only [wpsA, wpsB, List.map_cons, List.map_nil, List.length_cons, List.length_nil, List.replicate_succ, List.replicate_zero, List.cons_append, List.nil_append, List.getElem?_cons_zero, List.getElem?_cons_succ, List.set_cons_zero, List.set_cons_succ, ow_true, ow_false, if_true, if_false, Option.bind_some, true_and, and_true, Nat.zero_add, Nat.reduceAdd, Nat.reduceSub, Nat.reduceLeDiff]
    rw [e_setd (kvs := dct e l ws pre) _ _ _ rfl]
    simp only [wpsA, wpsB, List.map_cons, List.map_nil, List.length_cons, List.length_nil, List.replicate_succ, List.replicate_zero, List.cons_append, List.nil_append, List.getElem?_cons_zero, List.getElem?_cons_succ, List.set_cons_zero, List.set_cons_succ, ow_true, ow_false, if_true, if_false, Option.bind_some, true_and, and_true, Nat.zero_add, Nat.reduceAdd, Nat.reduceSub, Nat.reduceLeDiff, gE, e1, e3]
    rw [e_wrSetd (kvs := dct e l ws pre) (k := .inl (p.i : Int)) _ rfl rfl dl]
    cases hv : dValD (dct e l ws pre) (.inl (p.i : Int)) with
    | some y =>
      have : dct e l ws (pre ++ [p]) = dct e l ws pre := by rw [dct_app]; unfold setd; rw [hv]
      rw [this]
      exact ⟨⟨_, _, _, _, _, rfl⟩, rfl⟩
    | none =>
      have : dct e l ws (pre ++ [p]) = dPutD (dct e l ws pre) (.inl p.i) (rep (cst e l ws p)) := by rw [dct_app]; unfold setd; rw [hv]
      rw [this]
      exact ⟨⟨_, _, _, _, _, rfl⟩, rfl⟩
  · subst h1 h2
    simp only [wpsA, wpsB, List.map_cons, List.map_nil, List.length_cons, List.length_nil, List.replicate_succ, List.replicate_zero, List.cons_append, List.nil_append, List.getElem?_cons_zero, List.getElem?_cons_succ, List.set_cons_zero, List.set_cons_succ, ow_true, ow_false, if_true, if_false, Option.bind_some, true_and, and_true, Nat.zero_add, Nat.reduceAdd, Nat.reduceSub, Nat.reduceLeDiff]
    refine ⟨⟨by simp only [List.length_map]; omega, by simp only [List.length_map]; omega⟩, ?_, ?_⟩
    · unfold rng; simp only [List.length_map, List.length_range]; omega
    rw [rng_map, Int.toNat_natCast, List.length_map]
    refine wp_lcP (fun _ => true) (fun i => ((costs e l bs)[i]?.map rep).getD .non) (fun i hi => ?_) ?_
    · have hi' : i < ws.length := List.mem_range.mp hi
      obtain ⟨p, w, f1, f2, f3⟩ := allP_first (e := e) (l := l) ok g.w.p i hi'
      have hm : mOf ws p.i = w.m := by
        have := List.find?_some f1
        simp only [decide_eq_true_eq] at this
        unfold mOf
        rw [this, f2]; rfl
      have dv : dValD (dct e l ws (allP e l bs)) (.inl (i : Int)) = some (rep (cst e l ws p)) := by rw [dct_val _ _ rfl, f1]; rfl
      have cv : (costs e l bs)[i]? = some (cst e l ws p) := by rw [f3]; unfold cst; rw [hm]
      have dg : ∀ (t0 : Ev) Q, TD.WE (dGetD (.dic (dct e l ws (allP e l bs))) (.int (i : Int))) t0 S' Q = Q (rep (cst e l ws p)) false t0 S' := fun t0 Q => by
        have : dGetD (.dic (dct e l ws (allP e l bs))) (.int (i : Int)) = pur (rep (cst e l ws p)) := by
          show (match dValD (dct e l ws (allP e l bs)) (.inl (i : Int)) with | some d => pur d | none => bad) = _
          rw [dv]
        rw [this]; rfl
      simp only [wpsA, wpsB, List.map_cons, List.map_nil, List.length_cons, List.length_nil, List.replicate_succ, List.replicate_zero, List.cons_append, List.nil_append, List.getElem?_cons_zero, List.getElem?_cons_succ, List.set_cons_zero, List.set_cons_succ, ow_true, ow_false, if_true, if_false, Option.bind_some, true_and, and_true, Nat.zero_add, Nat.reduceAdd, Nat.reduceSub, Nat.reduceLeDiff, e_vThen, dg, cv, Option.map_some, Option.getD_some]
      exact fun _ => trivial
    · simp only [wpsA, wpsB, List.map_cons, List.map_nil, List.length_cons, List.length_nil, List.replicate_succ, List.replicate_zero, List.cons_append, List.nil_append, List.getElem?_cons_zero, List.getElem?_cons_succ, List.set_cons_zero, List.set_cons_succ, ow_true, ow_false, if_true, if_false, Option.bind_some, true_and, and_true, Nat.zero_add, Nat.reduceAdd, Nat.reduceSub, Nat.reduceLeDiff]
      rw [List.filter_eq_self.mpr (fun _ _ => rfl)]
      have : (List.range ws.length).map (fun i => ((costs e l bs)[i]?.map rep).getD .non) = (costs e l bs).map rep := by
        apply List.ext_getElem
        · rw [List.length_map, List.length_range, List.length_map, clen]
        · intro i h1 h2
          rw [List.length_map] at h2
          rw [List.getElem_map, List.getElem_range, List.getElem_map, List.getElem?_eq_getElem h2]
          rfl
      rw [this]
/-! ### stretches -/
def encS (B : Bk) : D := .tup [rep B.b, rep B.e, .lst (rng B.i B.ws.length)]
theorem stretches_rep (g : Giv N V R L ws e l d a b) : F_stretches [.int R, .int L, d, a, b] S = .ok (.lst ((blks (lam e l) ws).map encS)) true S := by
  have ok := g.ok
  have bl := g.bl (S := S)
  have n5 := g.w.n
  generalize blks (lam e l) ws = bs at *
  have bn := ok.len
  apply fw_eq
  unfold F_stretches m_stretches
  simp only [wpsA, wpsB, List.map_cons, List.map_nil, List.length_cons, List.length_nil, List.replicate_succ, List.replicate_zero, List.cons_append, List.nil_append, List.getElem?_cons_zero, List.getElem?_cons_succ, List.set_cons_zero, List.set_cons_succ, ow_true, ow_false, if_true, if_false, Option.bind_some, true_and, and_true, Nat.zero_add, Nat.reduceAdd, Nat.reduceSub, Nat.reduceLeDiff, g.all, bl, List.length_map]
  refine ⟨by omega, ?_⟩
  refine wp_lcP (fun _ => true) encS (fun B hB => ?_) ?_
  · obtain ⟨_, _, hl⟩ := ok.mem B hB
    have en : ((B.n : Int) - (B.i : Int)).toNat = B.ws.length := by unfold Bk.n; omega
    have elr : ∀ (t0 : Ev) Q, TD.WE (dLRg (B.i : Int) (B.n : Int)) t0 S Q = Q (.lst (rng B.i B.ws.length)) true t0 S := fun t0 Q => by
      unfold dLRg
      have : B.n = B.i + B.ws.length := rfl
      rw [if_pos ⟨⟨by omega, by omega⟩, by omega, by omega, by rw [lim_eq]; omega⟩, en]
      rfl
    have er : ∀ (t0 : Ev) Q, TD.WE (eLRg (eVar 10) (eVar 11)) t0 S Q = TD.WE (eVar 10) t0 S fun x _ t1 S1 => TD.WE (eVar 11) t1 S1 fun y _ t2 S2 => TD.WE (match x, y with | .int i, .int j => dLRg i j | _, _ => bad) t2 S2 Q := fun t0 Q => by
      unfold eLRg
      rw [e_eb]; congr 1; funext x f t S; rw [e_eb] <;> congr 1
    unfold encB
    simp only [wpsA, wpsB, List.map_cons, List.map_nil, List.length_cons, List.length_nil, List.replicate_succ, List.replicate_zero, List.cons_append, List.nil_append, List.getElem?_cons_zero, List.getElem?_cons_succ, List.set_cons_zero, List.set_cons_succ, ow_true, ow_false, if_true, if_false, Option.bind_some, true_and, and_true, Nat.zero_add, Nat.reduceAdd, Nat.reduceSub, Nat.reduceLeDiff, er, elr]
    exact fun _ => rfl
  · simp only [wpsA, wpsB, List.map_cons, List.map_nil, List.length_cons, List.length_nil, List.replicate_succ, List.replicate_zero, List.cons_append, List.nil_append, List.getElem?_cons_zero, List.getElem?_cons_succ, List.set_cons_zero, List.set_cons_succ, ow_true, ow_false, if_true, if_false, Option.bind_some, true_and, and_true, Nat.zero_add, Nat.reduceAdd, Nat.reduceSub, Nat.reduceLeDiff]
    rw [List.filter_eq_self.mpr (fun _ _ => rfl)]
/-! ### comers -/
def comeQ (L : Nat) (p : Pc) (t : Rat) : Rat := (t - (L : Rat)) - (p.w + p.g * (t - p.b))
def rateQ (R : Nat) (p : Pc) : Rat := (R : Rat) / (1 - p.g)
def encC (c : Rat × Rat) : D := .tup [rep c.1, rep c.2]
def comersQ (rows : List (Rat × Rat)) (en : Rat) : List (Rat × Rat) := (if (rows.head?.map (·.1)) = some 0 then [] else [(0, 0)]) ++ rows ++ [(en, 0)]
def mine (ps : List Pc) (i : Nat) : List Pc := ps.filter fun p => decide (p.i = i)
def rowsOf (R L : Nat) (ps : List Pc) (i : Nat) : List (Rat × Rat) := (mine ps i).map fun p => (comeQ L p p.b, rateQ R p)
def endOf (L : Nat) (ps : List Pc) (i : Nat) : Rat := (((mine ps i).getLast?).map fun p => comeQ L p p.u).getD 0
def comersOf (R L : Nat) (ps : List Pc) (i : Nat) : List (Rat × Rat) := comersQ (rowsOf R L ps i) (endOf L ps i)
def settledQ (R L : Nat) (ps : List Pc) (n : Nat) : List (List (Rat × Rat)) := (List.range n).map (comersOf R L ps)
theorem Lsm {L : Nat} (h : L < 2 ^ 60) : Sm (L : Rat) := Rsm (log60 h)
theorem LG (hr : Road N V e l) {L : Nat} (h : L < 2 ^ 60) : G (N * V * 60) 208 (L : Rat) := by
  have hM : N * V * 60 ≤ 2 ^ 136 := by
    have h1 := Nat.mul_le_mul (Nat.mul_le_mul hr.lN hr.lV) (show 60 ≤ 2 ^ 6 by decide)
    rw [← Nat.pow_add, ← Nat.pow_add] at h1
    exact h1
  have g1 := Gd.int (N := N * V * 60) (L : Int) (B := 2 ^ 208) (by
    rw [Int.natAbs_natCast]
    have h1 := Nat.mul_le_mul (Nat.le_of_lt h) hM
    rw [← Nat.pow_add] at h1
    exact Nat.le_trans h1 (Nat.pow_le_pow_right (by decide) (by decide)))
  rw [Rat.intCast_natCast] at g1
  exact g1
theorem come_rep (hr : Road N V e l) {p : Pc} (pg : PG N V p) (lL : L < 2 ^ 60) {t : Rat} (ht : G (N * V * 60) 208 t) : F_come_at [.int L, encP p, rep t] S = .ok (rep (comeQ L p t)) false S ∧ Sm (comeQ L p t) := by
  have s1 := ht.sm hr.hM (by decide)
  have s2 := pg.b.sm hr.hM (by decide)
  have g1 := ht.sub pg.b
  have g2 := prod_G hr g1 pg.g
  have g3 := pg.w.add (g2.mono (show 269 ≤ 290 by decide))
  have gL := LG hr lL
  have g4 := ht.sub gL
  have g5 : G (N * V * 60 * V) 309 (t - (L : Rat)) := toMV hr g4
  have g6 := (g5.sub (g3.mono (show 291 ≤ 309 by decide)))
  constructor
  · apply fw_eq
    unfold F_come_at m_come_at encP
    simp only [wpsA, wpsB, List.map_cons, List.map_nil, List.length_cons, List.length_nil, List.replicate_succ, List.replicate_zero, List.cons_append, List.nil_append, List.getElem?_cons_zero, List.getElem?_cons_succ, List.set_cons_zero, List.set_cons_succ, ow_true, ow_false, if_true, if_false, Option.bind_some, true_and, and_true, Nat.zero_add, Nat.reduceAdd, Nat.reduceSub, Nat.reduceLeDiff, rep_nat, less_rep s1 (Lsm lL), less_rep s1 s2, times_rep (pg.g.sm hr.hV (by decide)) (g1.sm hr.hM (by decide)), plus_rep (pg.w.sm hr.hMV (by decide)) (g2.sm hr.hMV (by decide)), less_rep (g4.sm hr.hM (by decide)) (g3.sm hr.hMV (by decide))]
    rfl
  · exact g6.sm hr.hMV (by decide)
theorem rep_inj {x y : Rat} : (rep x = rep y) ↔ x = y := by
  constructor
  · intro h
    have h1 := congrArg (fun d => match d with | .tup [.int a, .int b] => some (a, b) | _ => none) h
    simp only [rep, Option.some.injEq, Prod.mk.injEq] at h1
    exact Rat.ext h1.1 (by omega)
  · rintro rfl; rfl
theorem comers_by_rep {rows : List (Rat × Rat)} {en : Rat} (hr : rows ≠ []) (hl : rows.length ≤ 1000) : F_comers_by [.lst (rows.map encC), rep en] S = .ok (.lst ((comersQ rows en).map encC)) true S := by
  cases rows with
  | nil => exact absurd rfl hr
  | cons c rows =>
    rw [List.length_cons] at hl
    apply fw_eq
    unfold F_comers_by m_comers_by
    have e0 : (c :: rows).map encC = .tup [rep c.1, rep c.2] :: rows.map encC := rfl
    have e3 : eqD (rep c.1) (.tup [.int 0, .int 1]) = some (decide (c.1 = 0)) := rep_eq c.1 0
    rw [e0]
    by_cases z : c.1 = 0
    · have e2 : comersQ (c :: rows) en = [] ++ (c :: rows) ++ [(en, 0)] := by unfold comersQ; rw [List.head?_cons, Option.map_some, if_pos (by rw [z])]
      simp only [wpsA, wpsB, List.map_cons, List.map_nil, List.length_cons, List.length_nil, List.replicate_succ, List.replicate_zero, List.cons_append, List.nil_append, List.getElem?_cons_zero, List.getElem?_cons_succ, List.set_cons_zero, List.set_cons_succ, ow_true, ow_false, if_true, if_false, Option.bind_some, true_and, and_true, Nat.zero_add, Nat.reduceAdd, Nat.reduceSub, Nat.reduceLeDiff, e_eq _ e3, decide_eq_true z]
      rw [e2]
      refine ⟨by simp only [List.length_map]; omega, by simp only [List.length_append, List.length_map, List.length_cons, List.length_nil]; omega, ?_⟩
      simp [encC, rep_zero]
    · have e2 : comersQ (c :: rows) en = [(0, 0)] ++ (c :: rows) ++ [(en, 0)] := by unfold comersQ; rw [List.head?_cons, Option.map_some, if_neg (by intro h; exact z (Option.some.inj h))]
      simp only [wpsA, wpsB, List.map_cons, List.map_nil, List.length_cons, List.length_nil, List.replicate_succ, List.replicate_zero, List.cons_append, List.nil_append, List.getElem?_cons_zero, List.getElem?_cons_succ, List.set_cons_zero, List.set_cons_succ, ow_true, ow_false, if_true, if_false, Option.bind_some, true_and, and_true, Nat.zero_add, Nat.reduceAdd, Nat.reduceSub, Nat.reduceLeDiff, e_eq _ e3, decide_eq_false z]
      rw [e2]
      refine ⟨by simp only [List.length_map]; omega, by simp only [List.length_append, List.length_map, List.length_cons, List.length_nil]; omega, ?_⟩
      simp [encC, rep_zero]
theorem check_soon_rep {x : Rat} (hx : Sm x) (lL : L < 2 ^ 60) (h : (L : Rat) ≤ x) : F_check_soon [rep x, .int L] S = .ok .non false S := by
  have np : ¬ ((x - (L : Rat)).num < 0) := by
    intro c
    have : ¬ (0 ≤ (x - (L : Rat)).num) := by omega
    exact this (Rat.num_nonneg.mpr (by grind))
  apply fw_eq
  unfold F_check_soon m_check_soon
  have e1 : ∀ (t0 : Ev) Q, TD.WE (dIx (rep (x - (L : Rat))) (.int 0)) t0 S Q = Q (.int (x - (L : Rat)).num) false t0 S := fun t0 Q => rfl
  have e2 : ∀ Q, VW S (rep (x - (L : Rat))) Q = Q (rep (x - (L : Rat))) := fun Q => rfl
  simp only [wpsA, wpsB, List.map_cons, List.map_nil, List.length_cons, List.length_nil, List.replicate_succ, List.replicate_zero, List.cons_append, List.nil_append, List.getElem?_cons_zero, List.getElem?_cons_succ, List.set_cons_zero, List.set_cons_succ, ow_true, ow_false, if_true, if_false, Option.bind_some, true_and, and_true, Nat.zero_add, Nat.reduceAdd, Nat.reduceSub, Nat.reduceLeDiff, rep_nat, less_rep hx (Lsm lL), e1, e2, decide_eq_false np]
theorem mine_G (g : Giv N V R L ws e l d a b) {i : Nat} : ∀ p ∈ mine (allP e l (blks (lam e l) ws)) i, PG N V p := fun p hp => g.pg p (List.mem_filter.mp hp).1
theorem pc_g {i : Nat} {h wt : Rat} {w : W} {p : Pc} (hp : p ∈ pc1 e l i h wt w) : p.g = e ∨ p.g = 0 - l := by
  unfold pc1 at hp
  rcases List.mem_append.mp hp with hp | hp
  · split at hp
    · rw [List.mem_singleton] at hp; rw [hp]; exact .inl rfl
    · cases hp
  · split at hp
    · rw [List.mem_singleton] at hp; rw [hp]; exact .inr rfl
    · cases hp
theorem pcs_g : ∀ {ws : List W} {i : Nat} {h wt : Rat} {p : Pc}, p ∈ pcs e l i h wt ws → p.g = e ∨ p.g = 0 - l
  | [], _, _, _, _, hp => nomatch hp
  | w :: ws, i, h, wt, p, hp => by
    rcases List.mem_append.mp hp with hp | hp
    · exact pc_g hp
    · exact pcs_g hp
theorem allP_g {bs : List Bk} {p : Pc} (hp : p ∈ allP e l bs) : p.g = e ∨ p.g = 0 - l := by
  obtain ⟨B, _, hp⟩ := List.mem_flatMap.mp hp
  exact pcs_g hp
theorem g_pos (hr : Road N V e l) {bs : List Bk} {p : Pc} (hp : p ∈ allP e l bs) : 0 < 1 - p.g := by
  have := hr.e1
  have := hr.l0
  rcases allP_g hp with h | h <;> rw [h] <;> grind
theorem rate_rep (hr : Road N V e l) (lR : R < 2 ^ 60) {p : Pc} (pg : PG N V p) (h0 : 0 < 1 - p.g) : F_less [.tup [.int 1, .int 1], rep p.g] S = .ok (rep (1 - p.g)) false S ∧ F_parted [.tup [.int R, .int 1], rep (1 - p.g)] S = .ok (rep (rateQ R p)) false S ∧ Sm (rateQ R p) := by
  have g1 : G V 100 (1 : Rat) := by
    have := Gd.int (N := V) (1 : Int) (B := 2 ^ 100) (by have := hr.lV; rw [show (1 : Int).natAbs = 1 from rfl, Nat.one_mul]; exact this)
    exact this
  have g2 : G V 101 (1 - p.g) := g1.sub (pg.g.mono (by decide))
  have gR : G 1 60 (R : Rat) := by
    have := Gd.int (N := 1) (R : Int) (B := 2 ^ 60) (by rw [Int.natAbs_natCast, Nat.mul_one]; exact Nat.le_of_lt lR)
    rw [Rat.intCast_natCast] at this
    exact this
  have nz : (1 - p.g) ≠ 0 := by grind
  refine ⟨?_, ?_, ?_⟩
  · rw [rep_one]; exact less_rep ⟨by decide, by decide⟩ (pg.g.sm hr.hV (by decide))
  · rw [rep_nat]; exact parted_rep (Lsm lR) (g2.sm hr.hV (by decide)) nz
  · exact div_sm (N := 1) ⟨by decide, by decide⟩ hr.hV gR g2 nz (by decide) (by decide)
theorem allP_ne {v : Rat} {bs : List Bk} {n : Nat} (h : Ok ws v bs n) (hs : ∀ w ∈ ws, 0 < w.s) {i : Nat} (hi : i < n) : mine (allP e l bs) i ≠ [] := by
  obtain ⟨p, w, h1, _, _⟩ := allP_first (e := e) (l := l) h hs i hi
  intro z
  have hp := List.mem_of_find?_eq_some h1
  have hq := List.find?_some h1
  have : p ∈ mine (allP e l bs) i := List.mem_filter.mpr ⟨hp, hq⟩
  rw [z] at this
  cases this
theorem settled_rep (g : Giv N V R L ws e l d a b) (hs : ∀ p, (allP e l (blks (lam e l) ws)).head? = some p → (L : Rat) ≤ p.b) :
    F_settled [.int R, .int L, d, a, b] S = .ok (.lst ((settledQ R L (allP e l (blks (lam e l) ws)) ws.length).map fun cs => .lst (cs.map encC))) true S := by
  have ok := g.ok
  have pgs := g.pg
  have pc := g.pc (S := S)
  have n5 := g.w.n
  have plen := ok.plen e l
  have hne := fun i => allP_ne (e := e) (l := l) ok g.w.p (i := i)
  have hgp : ∀ p ∈ allP e l (blks (lam e l) ws), 0 < 1 - p.g := fun p hp => g_pos g.r hp
  have wne := List.length_pos_iff.mpr g.w.ne
  generalize hps : allP e l (blks (lam e l) ws) = ps at *
  have pne : ps ≠ [] := fun z => by
    have := hne 0 wne
    rw [z] at this
    exact this rfl
  obtain ⟨p0, ps', hp0⟩ := List.exists_cons_of_ne_nil pne
  have h0 := hs p0 (by rw [hp0]; rfl)
  have pg0 := pgs p0 (by rw [hp0]; simp)
  have cs := check_soon_rep (S := S) (pg0.b.sm g.r.hM (by decide)) g.lL h0
  have e0 : atI (ps.map encP) 0 = some (.tup [.int p0.i, rep p0.b, rep p0.u, rep p0.w, rep p0.g]) := by rw [hp0, List.map_cons, at0]; rfl
  apply fw_eq
  unfold F_settled m_settled
  simp only [wpsA, wpsB, List.map_cons, List.map_nil, List.length_cons, List.length_nil, List.replicate_succ, List.replicate_zero, List.cons_append, List.nil_append, List.getElem?_cons_zero, List.getElem?_cons_succ, List.set_cons_zero, List.set_cons_succ, ow_true, ow_false, if_true, if_false, Option.bind_some, true_and, and_true, Nat.zero_add, Nat.reduceAdd, Nat.reduceSub, Nat.reduceLeDiff, g.all, pc, e0, cs, List.length_map]
  refine ⟨⟨by omega, by omega⟩, ?_⟩
  rw [rng_map, Int.toNat_natCast, List.length_map]
  refine wp_for (fun pre t S' => (∃ s8 s10 s11 s12 s13 s14, (s8 = .ow (.lst (ps.map encP)) ∨ s8 = .sh (.lst (ps.map encP))) ∧ t = [.sh (.int R), .sh (.int L), .sh d, .sh a, .sh b, .sh (.lst (ws.map encW)), .sh (rep e), .sh (rep l), s8, .ow (.lst ((pre.map (comersOf R L ps)).map fun cs => .lst (cs.map encC))), s10, s11, s12, s13, s14]) ∧ S' = S) ⟨⟨_, _, _, _, _, _, .inl rfl, rfl⟩, rfl⟩ (fun pre i post t S' eq ⟨⟨s8, s10, s11, s12, s13, s14, h8, h1⟩, h2⟩ => ?_) (fun t S' ⟨⟨s8, s10, s11, s12, s13, s14, h8, h1⟩, h2⟩ => ?_)
  · subst h1 h2
    have hi : i < ws.length := by
      have : i ∈ List.range ws.length := by rw [← eq]; simp
      exact List.mem_range.mp this
    have mne := hne i hi
    have mG : ∀ p ∈ mine ps i, PG N V p := fun p hp => pgs p (List.mem_filter.mp hp).1
    have mg : ∀ p ∈ mine ps i, 0 < 1 - p.g := fun p hp => hgp p (List.mem_filter.mp hp).1
    have ml : (mine ps i).length ≤ ps.length := List.length_filter_le _ _
    have step : WP (sSeq (sSet 11 (eLc (eb (eVar 8) dSeq) [13] (gNm 13) (tst (eb (eIxV 13 (pur (.int 0))) fun x => eb (eVar 10) fun y => dEq x y)) (eVar 13))) (sSeq (sSet 12 (eLc (eb (eVar 11) dSeq) [14] (gNm 14) cYes (eTup (aCons (bnd (aCons (eVar 1) (aCons (eVar 14) (aCons (eIxV 14 (pur (.int 1))) aNil))) (call F_come_at)) (aCons (bnd (aCons (eTup (aCons (eVar 0) (aCons (pur (.int 1)) aNil))) (aCons (bnd (aCons (eTup (aCons (pur (.int 1)) (aCons (pur (.int 1)) aNil))) (aCons (eIxV 14 (pur (.int 4))) aNil)) (call F_less)) aNil)) (call F_parted)) aNil))))) (sExpr (mSlot "list" 9 (aCons (bnd (aCons (eVar 12) (aCons (bnd (aCons (eVar 1) (aCons (eIxV 11 (eNeg (pur (.int 1)))) (aCons (eIx (eIxV 11 (eNeg (pur (.int 1)))) (pur (.int 2))) aNil))) (call F_come_at)) aNil)) (call F_comers_by)) aNil) fApp)))) [.sh (.int R), .sh (.int L), .sh d, .sh a, .sh b, .sh (.lst (ws.map encW)), .sh (rep e), .sh (rep l), s8, .ow (.lst ((pre.map (comersOf R L ps)).map fun cs => .lst (cs.map encC))), .sh (.int (i : Int)), s11, s12, s13, s14] S' fun fl t S2 => fl = .nx ∧ (∃ s10 s11 s12 s13 s14, t = [.sh (.int R), .sh (.int L), .sh d, .sh a, .sh b, .sh (.lst (ws.map encW)), .sh (rep e), .sh (rep l), .sh (.lst (ps.map encP)), .ow (.lst (((pre ++ [i]).map (comersOf R L ps)).map fun cs => .lst (cs.map encC))), s10, s11, s12, s13, s14]) ∧ S2 = S' := by
      rcases h8 with rfl | rfl <;> (
      simp only [wpsA, wpsB, List.map_cons, List.map_nil, List.length_cons, List.length_nil, List.replicate_succ, List.replicate_zero, List.cons_append, List.nil_append, List.getElem?_cons_zero, List.getElem?_cons_succ, List.set_cons_zero, List.set_cons_succ, ow_true, ow_false, if_true, if_false, Option.bind_some, true_and, and_true, Nat.zero_add, Nat.reduceAdd, Nat.reduceSub, Nat.reduceLeDiff]
      refine ⟨by simp only [List.length_map]; omega, ?_⟩
      refine wp_lcP (fun p => decide (p.i = i)) encP (fun p hp => ?_) ?_
      · have ec : decide ((p.i : Int) = (i : Int)) = decide (p.i = i) := decide_eq_decide.mpr (by omega)
        unfold encP
        simp only [wpsA, wpsB, List.map_cons, List.map_nil, List.length_cons, List.length_nil, List.replicate_succ, List.replicate_zero, List.cons_append, List.nil_append, List.getElem?_cons_zero, List.getElem?_cons_succ, List.set_cons_zero, List.set_cons_succ, ow_true, ow_false, if_true, if_false, Option.bind_some, true_and, and_true, Nat.zero_add, Nat.reduceAdd, Nat.reduceSub, Nat.reduceLeDiff, ec]
        exact fun _ => trivial
      simp only [wpsA, wpsB, List.map_cons, List.map_nil, List.length_cons, List.length_nil, List.replicate_succ, List.replicate_zero, List.cons_append, List.nil_append, List.getElem?_cons_zero, List.getElem?_cons_succ, List.set_cons_zero, List.set_cons_succ, ow_true, ow_false, if_true, if_false, Option.bind_some, true_and, and_true, Nat.zero_add, Nat.reduceAdd, Nat.reduceSub, Nat.reduceLeDiff]
      refine ⟨by simp only [List.length_map]; exact Nat.le_trans ml (by omega), ?_⟩
      refine wp_lcP (fun _ => true) (fun p => encC (comeQ L p p.b, rateQ R p)) (fun p hp => ?_) ?_
      · have hp' : p ∈ mine ps i := hp
        have pg := mG p hp'
        obtain ⟨c1, _⟩ := come_rep (S := S') g.r pg g.lL pg.b
        obtain ⟨r1, r2, _⟩ := rate_rep (S := S') g.r g.lR pg (mg p hp')
        have x1 : atI [D.int (p.i : Int), rep p.b, rep p.u, rep p.w, rep p.g] 1 = some (rep p.b) := rfl
        have x4 : atI [D.int (p.i : Int), rep p.b, rep p.u, rep p.w, rep p.g] 4 = some (rep p.g) := rfl
        unfold encP at c1 ⊢
        simp only [wpsA, wpsB, List.map_cons, List.map_nil, List.length_cons, List.length_nil, List.replicate_succ, List.replicate_zero, List.cons_append, List.nil_append, List.getElem?_cons_zero, List.getElem?_cons_succ, List.set_cons_zero, List.set_cons_succ, ow_true, ow_false, if_true, if_false, Option.bind_some, true_and, and_true, Nat.zero_add, Nat.reduceAdd, Nat.reduceSub, Nat.reduceLeDiff, c1, r1, r2]
        exact fun _ => rfl
      rw [List.filter_eq_self.mpr (fun _ _ => rfl)]
      obtain ⟨ms, q, hq⟩ := (List.eq_nil_or_concat (mine ps i)).resolve_left mne
      rw [List.concat_eq_append] at hq
      have pgq := mG q (by rw [hq]; simp)
      obtain ⟨c2, _⟩ := come_rep (S := S') g.r pgq g.lL pgq.u
      have la : ((ps.filter fun p => decide (p.i = i)).map encP).getLast? = some (encP q) := by
        show ((mine ps i).map encP).getLast? = _
        rw [hq, List.map_append, List.map_cons, List.map_nil, List.getLast?_concat]
      have cb := comers_by_rep (S := S') (rows := rowsOf R L ps i) (en := endOf L ps i) (fun z => mne (List.map_eq_nil_iff.mp z)) (by unfold rowsOf; rw [List.length_map]; omega)
      have er : (rowsOf R L ps i).map encC = ((ps.filter fun p => decide (p.i = i))).map fun p => encC (comeQ L p p.b, rateQ R p) := by unfold rowsOf; rw [List.map_map]; rfl
      have ee : endOf L ps i = comeQ L q q.u := by unfold endOf; rw [hq, List.getLast?_concat]; rfl
      rw [er, ee] at cb
      have fa : fApp [.lst ((comersQ (rowsOf R L ps i) (comeQ L q q.u)).map encC)] (.lst ((pre.map (comersOf R L ps)).map fun cs => .lst (cs.map encC))) = some (.lst (((pre ++ [i]).map (comersOf R L ps)).map fun cs => .lst (cs.map encC)), .non) := by
        rw [fApp_ok _ _ (by
          rw [List.length_map, List.length_map, lim_eq]
          have := congrArg List.length eq
          rw [List.length_append, List.length_range] at this
          omega), List.map_append, List.map_append, ← ee]
        rfl
      have tl : ∀ ds : List D, tyD "list" (.lst ds) = true := fun _ => rfl
      have lq : ∀ (t0 : Ev) Q, TD.WE (dIx (encP q) (.int 2)) t0 S' Q = Q (rep q.u) false t0 S' := fun t0 Q => rfl
      have vq : ∀ Q, VW S' (encP q) Q = Q (encP q) := fun Q => rfl
      simp only [wpsA, wpsB, List.map_cons, List.map_nil, List.length_cons, List.length_nil, List.replicate_succ, List.replicate_zero, List.cons_append, List.nil_append, List.getElem?_cons_zero, List.getElem?_cons_succ, List.set_cons_zero, List.set_cons_succ, ow_true, ow_false, if_true, if_false, Option.bind_some, true_and, and_true, Nat.zero_add, Nat.reduceAdd, Nat.reduceSub, Nat.reduceLeDiff, tl, la, lq, vq, c2, cb, fa]
      exact ⟨_, _, _, _, _, rfl⟩)
    rw [g_nm, oe_some]
    simp only [List.set_cons_zero, List.set_cons_succ]
    refine wp_mono step fun fl t S2 ⟨z1, ⟨s10, s11, s12, s13, s14, z2⟩, z3⟩ => ?_
    subst z1 z2 z3
    exact ⟨⟨_, _, _, _, _, _, .inr rfl, rfl⟩, rfl⟩
  · subst h1 h2
    simp only [wpsA, wpsB, List.map_cons, List.map_nil, List.length_cons, List.length_nil, List.replicate_succ, List.replicate_zero, List.cons_append, List.nil_append, List.getElem?_cons_zero, List.getElem?_cons_succ, List.set_cons_zero, List.set_cons_succ, ow_true, ow_false, if_true, if_false, Option.bind_some, true_and, and_true, Nat.zero_add, Nat.reduceAdd, Nat.reduceSub, Nat.reduceLeDiff]
    rfl
end
end KX

set_option Elab.async false
set_option linter.all false
set_option maxRecDepth 100000
set_option maxHeartbeats 0
set_option autoImplicit false
namespace KD
open PySem PySem.Spec PyProof.Rows L2 TD
open KX (F__law_draw m__law_draw F__law_pick m__law_pick fuBox)
/-- a worth of a def -/
def Wf (r : FR) (Q : D → Sto → Prop) : Prop := ∃ d S, r = .ok d false S ∧ Q d S
/-! ### the stream of draws -/
def st (xs : List Int) (cur cnt mix : Int) (r : Sto) : Sto := .lst (xs.map .int) :: .lst [.box 0, .int cur, .int cnt, .int mix] :: r
structure StOk (n : Nat) (r S : Sto) : Prop where
  ex : ∃ xs cur cnt mix, S = st xs cur cnt mix r ∧ 0 ≤ cur ∧ 0 ≤ cnt ∧ cnt ≤ n ∧ 0 ≤ mix ∧ mix < 2147483647
theorem StOk.mono {n m : Nat} {r S : Sto} (h : StOk n r S) (k : n ≤ m) : StOk m r S := by
  obtain ⟨xs, cur, cnt, mix, e, a, b, c, d⟩ := h
  exact ⟨xs, cur, cnt, mix, e, a, b, by omega, d⟩
theorem toPs_ints : ∀ xs : List Int, toPs (xs.map .int) = some (xs.map .int)
  | [] => rfl
  | x :: xs => by
    show (match toP (.int x), toPs (xs.map .int) with | some p, some ps => some (p :: ps) | _, _ => none) = _
    rw [toPs_ints xs]; rfl
theorem lay_ints : ∀ xs : List Int, PyData.canLayAll0 (xs.map .int) = true
  | [] => rfl
  | x :: xs => by
    show (PyData.canLay0 (.int x) && PyData.canLayAll0 (xs.map .int)) = true
    rw [lay_ints xs]; rfl
theorem dep_ints : ∀ xs : List Int, PyData.depthAll (xs.map .int) ≤ 1
  | [] => by decide
  | x :: xs => by
    have := dep_ints xs
    simp only [List.map_cons, PyData.depthAll, PyData.depth]
    omega
theorem cmp_ints (xs : List Int) : cmpP (.lst (xs.map .int)) (.lst []) = some xs.isEmpty := by
  unfold cmpP
  have e : toP (.lst (xs.map .int)) = some (.list (xs.map .int)) := by
    show (toPs (xs.map .int)).map PyData.list = _
    rw [toPs_ints]; rfl
  have e2 : toP (.lst []) = some (.list []) := rfl
  have s1 : SeqAt.shaped (.list (xs.map .int)) = true := by
    unfold SeqAt.shaped
    rw [Bool.and_eq_true, decide_eq_true_eq]
    refine ⟨lay_ints xs, ?_⟩
    have := dep_ints xs
    simp only [PyData.depth]
    omega
  have s2 : SeqAt.shaped (.list []) = true := by decide
  rw [e, e2]
  show (if (SeqAt.shaped (.list (xs.map .int)) && SeqAt.shaped (.list [])) = true then some (PyData.eqv (.list (xs.map .int)) (.list [])) else none) = _
  rw [s1, s2]
  cases xs <;> rfl

/-! ### one draw -/
def tC : MT := (tAndM (tst (eb (eIxV 0 (pur (.int 1))) fun x => eb (pur (.int 0)) fun y => dEq x y)) (tst (eNeB (eIxV 0 (pur (.int 0))) (eLst aNil))))
def sPop : MS := (sSet 2 (bnd (brD (mBox "list" (eIxV 0 (pur (.int 0))) (aCons (pur (.int 0)) aNil) fPopAt)) dAbs))
def sMix : MS := (sPutB (eb (bnd (brD (eb (eb (eb (eIxV 0 (pur (.int 3))) fun x => eb (pur (.int 8191)) fun y => dMul x y) fun x => eb (eVar 2) fun y => dAdd x y) fun x => eb (pur (.int 3)) fun y => dAdd x y)) dInt) fun x => eb (pur (.int 2147483647)) fun y => dMod x y) (eVar 0) (pur (.int 3)))
def sCur : MS := (sPutB (iff (tst (eb (eVar 2) fun x => eb (eb (pur (.int 10)) fun x => eb (pur (.int 18)) fun y => dPow x y) fun y => dGe x y)) (eVar 2) (pur (.int 0))) (eVar 0) (pur (.int 1)))
def evD (many : Int) (a b c : Slot) : Ev := [.sh (.box 1), .sh (.int many), a, b, c]
section
variable {xs : List Int} {x cur cnt mix many : Int} {r : Sto} {a b c : Slot}
theorem tC_eq : tC (evD many a b c) (st xs cur cnt mix r) = .ok (if decide (cur = 0) = true then !xs.isEmpty else false) (evD many a b c) (st xs cur cnt mix r) := by
  have e2 : tst (eNeB (eIxV 0 (pur (.int 0))) (eLst aNil)) (evD many a b c) (st xs cur cnt mix r) = .ok (!xs.isEmpty) (evD many a b c) (st xs cur cnt mix r) := by
    show tst (dNeP (.lst (xs.map .int)) (.lst [])) (evD many a b c) (st xs cur cnt mix r) = _
    unfold dNeP
    rw [cmp_ints]
    rfl
  show (if decide (cur = 0) = true then tst (eNeB (eIxV 0 (pur (.int 0))) (eLst aNil)) else ret false) (evD many a b c) (st xs cur cnt mix r) = _
  by_cases h : decide (cur = 0) = true
  · rw [if_pos h, if_pos h, e2]
  · rw [if_neg h, if_neg h]; rfl
theorem bnd_ok {α β : Type} {m : M α} {k : α → M β} {t t' : Ev} {S S' : Sto} {a : α} (e : m t S = .ok a t' S') : TD.bnd m k t S = k a t' S' := by unfold TD.bnd; rw [e]
theorem bnd_tr {α β : Type} {m : M α} {k : α → M β} {t t' : Ev} {S S' : Sto} {a : α} {z : R β} (e : m t S = .ok a t' S') (h : k a t' S' = z) : TD.bnd m k t S = z := (bnd_ok e).trans h
theorem fPop0 (l : List D) (d : D) : fPopAt [.int 0] (.lst (d :: l)) = some (.lst l, d) := by
  have e : seqIndex? 0 (d :: l).length = some 0 := by
    unfold seqIndex?
    simp
  unfold fPopAt
  simp only [e]
  rfl
theorem sPop_eq : sPop (evD many a b c) (st (x :: xs) cur cnt mix r) = .ok .nx (evD many (.sh (.int (if x < 0 then -x else x))) b c) (st xs cur cnt mix r) := by
  have e : mBox "list" (eIxV 0 (pur (.int 0))) (aCons (pur (.int 0)) aNil) fPopAt (evD many a b c) (st (x :: xs) cur cnt mix r) = .ok (.int x, false) (evD many a b c) (st xs cur cnt mix r) := by
    show (match fPopAt [.int 0] (.lst (.int x :: xs.map .int)) with | some (d', y) => R.ok (y, false) (evD many a b c) ((st (x :: xs) cur cnt mix r).set 0 d') | none => .bad) = _
    rw [fPop0]
    rfl
  have e2 : brD (mBox "list" (eIxV 0 (pur (.int 0))) (aCons (pur (.int 0)) aNil) fPopAt) (evD many a b c) (st (x :: xs) cur cnt mix r) = .ok (.int x) (evD many a b c) (st xs cur cnt mix r) := by
    unfold brD
    rw [e]
    rfl
  exact bnd_tr (bnd_tr e2 rfl) rfl
theorem mulOk_of {i j : Int} (h1 : i.natAbs < 2 ^ 400) (h2 : j.natAbs < 2 ^ 400) : mulOk i j = true := by
  unfold mulOk
  rw [decide_eq_true_eq]
  have g : ∀ n : Nat, n < 2 ^ 400 → n.log2 < 400 := fun n h => by
    by_cases z : n = 0
    · subst z; decide
    · exact (Nat.log2_lt z).mpr h
  have := g _ h1
  have := g _ h2
  omega
theorem sMix_eq {y : Int} (h0 : 0 ≤ mix) (h1 : mix < 2147483647) : sMix (evD many (.sh (.int y)) b c) (st xs cur cnt mix r) = .ok .nx (evD many (.sh (.int y)) b c) (st xs cur cnt ((mix * 8191 + y + 3) % 2147483647) r) := by
  have m : mulOk mix 8191 = true := mulOk_of (Nat.lt_of_lt_of_le (show mix.natAbs < 2 ^ 31 by omega) (by decide)) (by decide)
  have e : dMul (.int mix) (.int 8191) = pur (.int (mix * 8191)) := by
    show (if mulOk mix 8191 = true then pur (.int (mix * 8191)) else bad) = _
    rw [if_pos m]
  have e1 : (eb (eIxV 0 (pur (.int 3))) fun x => eb (pur (.int 8191)) fun y => dMul x y) (evD many (.sh (.int y)) b c) (st xs cur cnt mix r) = .ok (.int (mix * 8191), false) (evD many (.sh (.int y)) b c) (st xs cur cnt mix r) := by
    show dMul (.int mix) (.int 8191) (evD many (.sh (.int y)) b c) (st xs cur cnt mix r) = _
    rw [e]
    rfl
  have e2 : brD (eb (eb (eb (eIxV 0 (pur (.int 3))) fun x => eb (pur (.int 8191)) fun y => dMul x y) fun x => eb (eVar 2) fun y => dAdd x y) fun x => eb (pur (.int 3)) fun y => dAdd x y) (evD many (.sh (.int y)) b c) (st xs cur cnt mix r) = .ok (.int (mix * 8191 + y + 3)) (evD many (.sh (.int y)) b c) (st xs cur cnt mix r) := by
    unfold brD
    rw [show (eb (eb (eb (eIxV 0 (pur (.int 3))) fun x => eb (pur (.int 8191)) fun y => dMul x y) fun x => eb (eVar 2) fun y => dAdd x y) fun x => eb (pur (.int 3)) fun y => dAdd x y) (evD many (.sh (.int y)) b c) (st xs cur cnt mix r) = .ok (.int (mix * 8191 + y + 3), false) (evD many (.sh (.int y)) b c) (st xs cur cnt mix r) from bnd_tr (bnd_tr e1 rfl) rfl]
    rfl
  exact bnd_tr (bnd_tr (bnd_tr e2 rfl) rfl) rfl
theorem sCur_eq {y : Int} : sCur (evD many (.sh (.int y)) b c) (st xs cur cnt mix r) = .ok .nx (evD many (.sh (.int y)) b c) (st xs (if decide (10 ^ 18 ≤ y) = true then y else 0) cnt mix r) := by
  have e : (iff (tst (eb (eVar 2) fun x => eb (eb (pur (.int 10)) fun x => eb (pur (.int 18)) fun y => dPow x y) fun y => dGe x y)) (eVar 2) (pur (.int 0))) (evD many (.sh (.int y)) b c) (st xs cur cnt mix r) = .ok (.int (if decide (10 ^ 18 ≤ y) = true then y else 0), false) (evD many (.sh (.int y)) b c) (st xs cur cnt mix r) := by
    show (if decide ((10:Int) ^ 18 ≤ y) = true then eVar 2 else pur (.int 0)) (evD many (.sh (.int y)) b c) (st xs cur cnt mix r) = _
    by_cases h : decide ((10:Int) ^ 18 ≤ y) = true
    · rw [if_pos h, if_pos h]; rfl
    · rw [if_neg h, if_neg h]; rfl
  exact bnd_tr e rfl
theorem draw_loop : ∀ (n : Nat) (xs : List Int) (a : Slot) (cur mix : Int), xs.length < n → 0 ≤ cur → 0 ≤ mix → mix < 2147483647 →
    ∃ xs' a' cur' mix', wloop n tC (sSeq sPop (sSeq sMix sCur)) (evD many a b c) (st xs cur cnt mix r) = .ok .nx (evD many a' b c) (st xs' cur' cnt mix' r) ∧ 0 ≤ cur' ∧ 0 ≤ mix' ∧ mix' < 2147483647
  | 0, _, _, _, _, h, _, _, _ => absurd h (Nat.not_lt_zero _)
  | n + 1, [], a, cur, mix, h, h0, h1, h2 => by
    refine ⟨[], a, cur, mix, ?_, h0, h1, h2⟩
    refine bnd_tr tC_eq ?_
    by_cases z : decide (cur = 0) = true
    · rw [if_pos z]; rfl
    · rw [if_neg z]; rfl
  | n + 1, x :: xs, a, cur, mix, h, h0, h1, h2 => by
    by_cases z : decide (cur = 0) = true
    · have hy : ∃ y : Int, (if x < 0 then -x else x) = y ∧ 0 ≤ y := ⟨_, rfl, by split <;> omega⟩
      obtain ⟨y, ey, hy⟩ := hy
      have sp : sPop (evD many a b c) (st (x :: xs) cur cnt mix r) = .ok .nx (evD many (.sh (.int y)) b c) (st xs cur cnt mix r) := by rw [sPop_eq, ey]
      obtain ⟨xs', a', cur', mix', e, g⟩ := draw_loop n xs (.sh (.int y)) (if decide (10 ^ 18 ≤ y) = true then y else 0) ((mix * 8191 + y + 3) % 2147483647) (by simp only [List.length_cons] at h; omega) (by split <;> omega) (Int.emod_nonneg _ (by decide)) (Int.emod_lt_of_pos _ (by decide))
      refine ⟨xs', a', cur', mix', ?_, g⟩
      refine bnd_tr tC_eq ?_
      rw [if_pos z]
      refine bnd_tr (a := Fl.nx) (bnd_tr sp (bnd_tr (sMix_eq h1 h2) sCur_eq)) e
    · refine ⟨x :: xs, a, cur, mix, ?_, h0, h1, h2⟩
      refine bnd_tr tC_eq ?_
      rw [if_neg z]; rfl
def sFst : MS := (sPutB (eb (eIxV 0 (pur (.int 2))) fun x => eb (pur (.int 1)) fun y => dAdd x y) (eVar 0) (pur (.int 2)))
def sDig : MS := (sSeq (sSet 3 (eb (bnd (brD (eIxV 0 (pur (.int 1)))) dInt) fun x => eb (eVar 1) fun y => dMod x y))
    (sSeq (sPutB (eb (eIxV 0 (pur (.int 1))) fun x => eb (eVar 1) fun y => dFdiv x y) (eVar 0) (pur (.int 1)))
    (sRet (eMove 3))))
def eMx : ME := (eb (bnd (brD (eb (eb (eb (eIxV 0 (pur (.int 3))) fun x => eb (eb (pur (.int 7919)) fun x => eb (eIxV 0 (pur (.int 2))) fun y => dMul x y) fun y => dAdd x y) fun x => eb (pur (.int 104729)) fun y => dAdd x y) fun x => eb (pur (.int 5)) fun y => dPow x y)) dInt) fun x => eb (pur (.int 2147483629)) fun y => dMod x y)
def eRs : ME := (eb (eb (bnd (brD (eb (eb (eb (eb (eVar 4) fun x => eb (pur (.int 48271)) fun y => dMul x y) fun x => eb (eb (pur (.int 30011)) fun x => eb (eIxV 0 (pur (.int 2))) fun y => dMul x y) fun y => dAdd x y) fun x => eb (pur (.int 29)) fun y => dAdd x y) fun x => eb (pur (.int 3)) fun y => dPow x y)) dInt) fun x => eb (pur (.int 1000000007)) fun y => dMod x y) fun x => eb (eVar 1) fun y => dMod x y)
theorem draw_eq : m__law_draw = sSeq sFst (sSeq (sWhile fuBox tC (sSeq sPop (sSeq sMix sCur))) (sSeq (sIf (tst (eb (eIxV 0 (pur (.int 1))) fun x => eb (pur (.int 0)) fun y => dGt x y)) sDig sNx) (sSeq (sSet 4 eMx) (sRet eRs)))) := rfl
theorem dMul_ok {i j : Int} (h : mulOk i j = true) : dMul (.int i) (.int j) = pur (.int (i * j)) := by
  show (if mulOk i j = true then pur (.int (i * j)) else bad) = _
  rw [if_pos h]
theorem dPow_ok {i j : Int} (h : powOk i j = true) : dPow (.int i) (.int j) = pur (.int (i ^ j.toNat)) := by
  show (if powOk i j = true then pur (.int (i ^ j.toNat)) else bad) = _
  rw [if_pos h]
theorem dMod_ok {i j : Int} (h : 0 < j) : dMod (.int i) (.int j) = pur (.int (i % j)) := by
  show (if 0 < j then pur (.int (i % j)) else if j < 0 then pur (.int (i.fmod j)) else bad) = _
  rw [if_pos h]
theorem dFdiv_ok {i j : Int} (h : 0 < j) (k : j < 2 ^ 200) : dFdiv (.int i) (.int j) = pur (.int (i / j)) := by
  have d : divOk j = true := by
    unfold divOk
    rw [Bool.and_eq_true, decide_eq_true_eq, decide_eq_true_eq]
    refine ⟨h, ?_⟩
    have := (Nat.log2_lt (show j.natAbs ≠ 0 by omega)).mpr (show j.natAbs < 2 ^ 200 by omega)
    omega
  show (if divOk j = true then pur (.int (i / j)) else if divNOk j = true then pur (.int (i.fdiv j)) else bad) = _
  rw [if_pos d]
theorem powOk_of {i j : Int} (h0 : 0 ≤ j) (h1 : j ≤ 1000000) (h : i.natAbs < 18446744073709551616) : powOk i j = true := by
  unfold powOk
  rw [Bool.and_eq_true, Bool.and_eq_true, decide_eq_true_eq, decide_eq_true_eq, decide_eq_true_eq]
  exact ⟨⟨h0, h1⟩, h⟩
theorem brD_tr {m : ME} {t t' : Ev} {S S' : Sto} {x : D × Bool} {d : D} (e : m t S = .ok x t' S') (h : vw S' x.1 = d) : brD m t S = .ok d t' S' := by
  unfold brD
  rw [e, ← h]
theorem f_tr {α : Type} {m m' : M α} {t : Ev} {S : Sto} {z : R α} (e : m = m') (h : m' t S = z) : m t S = z := by rw [e]; exact h
theorem dMul_at {i j : Int} {t : Ev} {S : Sto} (h : mulOk i j = true) : dMul (.int i) (.int j) t S = .ok (.int (i * j), false) t S := by rw [dMul_ok h]; rfl
theorem dPow_at {i j : Int} {t : Ev} {S : Sto} (h : powOk i j = true) : dPow (.int i) (.int j) t S = .ok (.int (i ^ j.toNat), false) t S := by rw [dPow_ok h]; rfl
theorem dMod_at {i j : Int} {t : Ev} {S : Sto} (h : 0 < j) : dMod (.int i) (.int j) t S = .ok (.int (i % j), false) t S := by rw [dMod_ok h]; rfl
theorem dFdiv_at {i j : Int} {t : Ev} {S : Sto} (h : 0 < j) (k : j < 2 ^ 200) : dFdiv (.int i) (.int j) t S = .ok (.int (i / j), false) t S := by rw [dFdiv_ok h k]; rfl
theorem draw_ok {n : Nat} {S : Sto} (h : StOk n r S) (hn : n < 1000000) (m1 : 1 ≤ many) (m2 : many < 1000000000) : Wf (F__law_draw [.box 1, .int many] S) fun d S' => ∃ k : Int, d = .int k ∧ 0 ≤ k ∧ k < many ∧ StOk (n + 1) r S' := by
  obtain ⟨xs, cur, cnt, mix, rfl, h0, h1, h2, h3, h4⟩ := h
  have e1 : sFst (evD many .no .no .no) (st xs cur cnt mix r) = .ok .nx (evD many .no .no .no) (st xs cur (cnt + 1) mix r) := rfl
  obtain ⟨xs', a', cur', mix', e2, g1, g2, g3⟩ := draw_loop (b := .no) (c := .no) (cnt := cnt + 1) (r := r) (many := many) ((xs.map D.int).length + 1) xs .no cur mix (by rw [List.length_map]; omega) h0 h3 h4
  have e3 : (tst (eb (eIxV 0 (pur (.int 1))) fun x => eb (pur (.int 0)) fun y => dGt x y)) (evD many a' .no .no) (st xs' cur' (cnt + 1) mix' r) = .ok (decide (0 < cur')) (evD many a' .no .no) (st xs' cur' (cnt + 1) mix' r) := rfl
  have key : ∃ (k : Int) (t : Ev) (S' : Sto), m__law_draw (evD many .no .no .no) (st xs cur cnt mix r) = .ok (.rt (.int k) false) t S' ∧ 0 ≤ k ∧ k < many ∧ StOk (n + 1) r S' := by
    rw [draw_eq]
    by_cases z : decide (0 < cur') = true
    · have z' := of_decide_eq_true z
      have e4 : sDig (evD many a' .no .no) (st xs' cur' (cnt + 1) mix' r) = .ok (.rt (.int (cur' % many)) false) (evD many a' (.sh (.int (cur' % many))) .no) (st xs' (cur' / many) (cnt + 1) mix' r) := by
        have q1 : (eb (bnd (brD (eIxV 0 (pur (.int 1)))) dInt) fun x => eb (eVar 1) fun y => dMod x y) (evD many a' .no .no) (st xs' cur' (cnt + 1) mix' r) = .ok (.int (cur' % many), false) (evD many a' .no .no) (st xs' cur' (cnt + 1) mix' r) := dMod_at (by omega)
        have q2 : (eb (eIxV 0 (pur (.int 1))) fun x => eb (eVar 1) fun y => dFdiv x y) (evD many a' (.sh (.int (cur' % many))) .no) (st xs' cur' (cnt + 1) mix' r) = .ok (.int (cur' / many), false) (evD many a' (.sh (.int (cur' % many))) .no) (st xs' cur' (cnt + 1) mix' r) := dFdiv_at (by omega) (by omega)
        exact bnd_tr (a := Fl.nx) (t' := evD many a' (.sh (.int (cur' % many))) .no) (bnd_tr q1 rfl) (bnd_tr (a := Fl.nx) (t' := evD many a' (.sh (.int (cur' % many))) .no) (S' := st xs' (cur' / many) (cnt + 1) mix' r) (bnd_tr q2 rfl) rfl)
      refine ⟨cur' % many, _, st xs' (cur' / many) (cnt + 1) mix' r, bnd_tr e1 (bnd_tr e2 (bnd_tr (bnd_tr e3 ((congrFun (congrFun (if_pos z) _) _).trans e4)) rfl)), Int.emod_nonneg _ (by omega), Int.emod_lt_of_pos _ (by omega), ⟨xs', cur' / many, cnt + 1, mix', rfl, Int.ediv_nonneg g1 (by omega), by omega, by omega, g2, g3⟩⟩
    · have q1 : mulOk 7919 (cnt + 1) = true := mulOk_of (by decide) (Nat.lt_of_lt_of_le (show (cnt + 1).natAbs < 2 ^ 31 by omega) (by decide))
      have q2 : powOk (mix' + 7919 * (cnt + 1) + 104729) 5 = true := powOk_of (by decide) (by decide) (by omega)
      have e4 : eMx (evD many a' .no .no) (st xs' cur' (cnt + 1) mix' r) = .ok (.int ((mix' + 7919 * (cnt + 1) + 104729) ^ 5 % 2147483629), false) (evD many a' .no .no) (st xs' cur' (cnt + 1) mix' r) :=
        by
        have p1 : (eb (pur (.int 7919)) fun x => eb (eIxV 0 (pur (.int 2))) fun y => dMul x y) (evD many a' .no .no) (st xs' cur' (cnt + 1) mix' r) = .ok (.int (7919 * (cnt + 1)), false) (evD many a' .no .no) (st xs' cur' (cnt + 1) mix' r) := dMul_at q1
        have p2 : (eb (eb (eIxV 0 (pur (.int 3))) fun x => eb (eb (pur (.int 7919)) fun x => eb (eIxV 0 (pur (.int 2))) fun y => dMul x y) fun y => dAdd x y) fun x => eb (pur (.int 104729)) fun y => dAdd x y) (evD many a' .no .no) (st xs' cur' (cnt + 1) mix' r) = .ok (.int (mix' + 7919 * (cnt + 1) + 104729), false) (evD many a' .no .no) (st xs' cur' (cnt + 1) mix' r) := bnd_tr (bnd_tr (a := (.int mix', false)) rfl (bnd_tr p1 rfl)) rfl
        have p3 : (eb (eb (eb (eIxV 0 (pur (.int 3))) fun x => eb (eb (pur (.int 7919)) fun x => eb (eIxV 0 (pur (.int 2))) fun y => dMul x y) fun y => dAdd x y) fun x => eb (pur (.int 104729)) fun y => dAdd x y) fun x => eb (pur (.int 5)) fun y => dPow x y) (evD many a' .no .no) (st xs' cur' (cnt + 1) mix' r) = .ok (.int ((mix' + 7919 * (cnt + 1) + 104729) ^ 5), false) (evD many a' .no .no) (st xs' cur' (cnt + 1) mix' r) := bnd_tr p2 (dPow_at q2)
        have p4 : (eb (pur (.int 2147483629)) fun y => dMod (.int ((mix' + 7919 * (cnt + 1) + 104729) ^ 5)) y) (evD many a' .no .no) (st xs' cur' (cnt + 1) mix' r) = .ok (.int ((mix' + 7919 * (cnt + 1) + 104729) ^ 5 % 2147483629), false) (evD many a' .no .no) (st xs' cur' (cnt + 1) mix' r) := dMod_at (j := 2147483629) (by decide)
        exact bnd_tr (bnd_tr (brD_tr p3 rfl) rfl) p4
      have b1 := Int.emod_nonneg ((mix' + 7919 * (cnt + 1) + 104729) ^ 5) (show (2147483629 : Int) ≠ 0 by decide)
      have b2 := Int.emod_lt_of_pos ((mix' + 7919 * (cnt + 1) + 104729) ^ 5) (show (0 : Int) < 2147483629 by decide)
      generalize (mix' + 7919 * (cnt + 1) + 104729) ^ 5 % 2147483629 = y at e4 b1 b2
      have q3 : mulOk y 48271 = true := mulOk_of (Nat.lt_of_lt_of_le (show y.natAbs < 2 ^ 31 by omega) (by decide)) (by decide)
      have q4 : mulOk 30011 (cnt + 1) = true := mulOk_of (by decide) (Nat.lt_of_lt_of_le (show (cnt + 1).natAbs < 2 ^ 31 by omega) (by decide))
      have q5 : powOk (y * 48271 + 30011 * (cnt + 1) + 29) 3 = true := powOk_of (by decide) (by decide) (by omega)
      have e5 : eRs (evD many a' .no (.sh (.int y))) (st xs' cur' (cnt + 1) mix' r) = .ok (.int ((y * 48271 + 30011 * (cnt + 1) + 29) ^ 3 % 1000000007 % many), false) (evD many a' .no (.sh (.int y))) (st xs' cur' (cnt + 1) mix' r) :=
        by
        have p0 : (eb (eVar 4) fun x => eb (pur (.int 48271)) fun y => dMul x y) (evD many a' .no (.sh (.int y))) (st xs' cur' (cnt + 1) mix' r) = .ok (.int (y * 48271), false) (evD many a' .no (.sh (.int y))) (st xs' cur' (cnt + 1) mix' r) := dMul_at q3
        have p1 : (eb (pur (.int 30011)) fun x => eb (eIxV 0 (pur (.int 2))) fun y => dMul x y) (evD many a' .no (.sh (.int y))) (st xs' cur' (cnt + 1) mix' r) = .ok (.int (30011 * (cnt + 1)), false) (evD many a' .no (.sh (.int y))) (st xs' cur' (cnt + 1) mix' r) := dMul_at q4
        have p2 : (eb (eb (eb (eVar 4) fun x => eb (pur (.int 48271)) fun y => dMul x y) fun x => eb (eb (pur (.int 30011)) fun x => eb (eIxV 0 (pur (.int 2))) fun y => dMul x y) fun y => dAdd x y) fun x => eb (pur (.int 29)) fun y => dAdd x y) (evD many a' .no (.sh (.int y))) (st xs' cur' (cnt + 1) mix' r) = .ok (.int (y * 48271 + 30011 * (cnt + 1) + 29), false) (evD many a' .no (.sh (.int y))) (st xs' cur' (cnt + 1) mix' r) := bnd_tr (bnd_tr p0 (bnd_tr p1 rfl)) rfl
        have p3 : (eb (eb (eb (eb (eVar 4) fun x => eb (pur (.int 48271)) fun y => dMul x y) fun x => eb (eb (pur (.int 30011)) fun x => eb (eIxV 0 (pur (.int 2))) fun y => dMul x y) fun y => dAdd x y) fun x => eb (pur (.int 29)) fun y => dAdd x y) fun x => eb (pur (.int 3)) fun y => dPow x y) (evD many a' .no (.sh (.int y))) (st xs' cur' (cnt + 1) mix' r) = .ok (.int ((y * 48271 + 30011 * (cnt + 1) + 29) ^ 3), false) (evD many a' .no (.sh (.int y))) (st xs' cur' (cnt + 1) mix' r) := bnd_tr p2 (dPow_at q5)
        have p4 : (eb (bnd (brD (eb (eb (eb (eb (eVar 4) fun x => eb (pur (.int 48271)) fun y => dMul x y) fun x => eb (eb (pur (.int 30011)) fun x => eb (eIxV 0 (pur (.int 2))) fun y => dMul x y) fun y => dAdd x y) fun x => eb (pur (.int 29)) fun y => dAdd x y) fun x => eb (pur (.int 3)) fun y => dPow x y)) dInt) fun x => eb (pur (.int 1000000007)) fun y => dMod x y) (evD many a' .no (.sh (.int y))) (st xs' cur' (cnt + 1) mix' r) = .ok (.int ((y * 48271 + 30011 * (cnt + 1) + 29) ^ 3 % 1000000007), false) (evD many a' .no (.sh (.int y))) (st xs' cur' (cnt + 1) mix' r) := by
          have p5 : (eb (pur (.int 1000000007)) fun z => dMod (.int ((y * 48271 + 30011 * (cnt + 1) + 29) ^ 3)) z) (evD many a' .no (.sh (.int y))) (st xs' cur' (cnt + 1) mix' r) = .ok (.int ((y * 48271 + 30011 * (cnt + 1) + 29) ^ 3 % 1000000007), false) (evD many a' .no (.sh (.int y))) (st xs' cur' (cnt + 1) mix' r) := dMod_at (j := 1000000007) (by decide)
          exact bnd_tr (bnd_tr (brD_tr p3 rfl) rfl) p5
        exact bnd_tr p4 (dMod_at (by omega))
      refine ⟨_, _, st xs' cur' (cnt + 1) mix' r, bnd_tr e1 (bnd_tr e2 (bnd_tr (a := Fl.nx) (bnd_tr e3 (congrFun (congrFun (if_neg z) _) _)) (bnd_tr (a := Fl.nx) (t' := evD many a' .no (.sh (.int y))) (bnd_tr e4 rfl) (bnd_tr e5 rfl)))), Int.emod_nonneg _ (by omega), Int.emod_lt_of_pos _ (by omega), ⟨xs', cur', cnt + 1, mix', rfl, g1, by omega, by omega, g2, g3⟩⟩
  obtain ⟨k, t, S', e, b1, b2, b3⟩ := key
  refine ⟨.int k, S', ?_, k, rfl, b1, b2, b3⟩
  show endF (m__law_draw (evD many .no .no .no) (st xs cur cnt mix r)) = _
  rw [e]
  rfl
end
theorem call_tr {F : Fn} {ds : List D} {t : Ev} {S S' : Sto} {d : D} {f : Bool} (e : F ds S = .ok d f S') : TD.call F ds t S = .ok (d, f) t S' := by unfold TD.call; rw [e]
theorem fn_tr {n : Nat} {m : MS} {ds : List D} {S S' : Sto} {d : D} {f : Bool} {t : Ev} (e : m (ds.map Slot.sh ++ List.replicate (n - ds.length) .no) S = .ok (.rt d f) t S') : fnD n m ds S = .ok d f S' := by unfold fnD; rw [e]; rfl
theorem seq_tr {m r : MS} {t t' : Ev} {S S' : Sto} {z : R Fl} (e : m t S = .ok .nx t' S') (h : r t' S' = z) : sSeq m r t S = z := bnd_tr (a := Fl.nx) e h
theorem set_tr {i : Nat} {m : ME} {t t' : Ev} {S S' : Sto} {x : D × Bool} (e : m t S = .ok x t' S') : sSet i m t S = .ok .nx (t'.set i (if x.2 = true then .ow x.1 else .sh x.1)) S' := bnd_tr e rfl
theorem ret_tr {m : ME} {t t' : Ev} {S S' : Sto} {x : D × Bool} (e : m t S = .ok x t' S') : sRet m t S = .ok (.rt x.1 x.2) t' S' := bnd_tr e rfl
theorem expr_tr {m : ME} {t t' : Ev} {S S' : Sto} {x : D × Bool} (e : m t S = .ok x t' S') : sExpr m t S = .ok .nx t' S' := bnd_tr e rfl
theorem eb_tr {β : Type} {m : ME} {k : D → M β} {t t' : Ev} {S S' : Sto} {x : D × Bool} {z : R β} (e : m t S = .ok x t' S') (h : k x.1 t' S' = z) : TD.eb m k t S = z := bnd_tr e h
theorem cons_tr {m : ME} {r : MA} {t t' t2 : Ev} {S S' S2 : Sto} {x : D × Bool} {ds : List D} (e : m t S = .ok x t' S') (h : r t' S' = .ok ds t2 S2) : aCons m r t S = .ok (x.1 :: ds) t2 S2 := bnd_tr e (bnd_tr h rfl)
theorem fcons_tr {m : ME} {r : MF} {t t' t2 : Ev} {S S' S2 : Sto} {x : D × Bool} {ds : List (D × Bool)} (e : m t S = .ok x t' S') (h : r t' S' = .ok ds t2 S2) : fCons m r t S = .ok (x :: ds) t2 S2 := bnd_tr e (bnd_tr h rfl)
theorem parF_tr {is : List Nat} {m : MF} {t t' : Ev} {S S' : Sto} {xs : List (D × Bool)} (e : m t S = .ok xs t' S') (h : is.length = xs.length) : sParF is m t S = .ok .nx (setF is xs t') S' := by
  refine bnd_tr e ?_
  rw [if_pos h]
theorem tup_tr {m : MA} {t t' : Ev} {S S' : Sto} {ds : List D} (e : m t S = .ok ds t' S') (h : ds.length ≤ lim) : eTup m t S = .ok (.tup ds, false) t' S' := by
  refine bnd_tr e ?_
  rw [if_pos h]; rfl
theorem lst_tr {m : MA} {t t' : Ev} {S S' : Sto} {ds : List D} (e : m t S = .ok ds t' S') (h : ds.length ≤ lim) : eLst m t S = .ok (.lst ds, true) t' S' := by
  refine bnd_tr e ?_
  rw [if_pos h]; rfl
theorem ixV_tr {i : Nat} {m : ME} {t t' t2 : Ev} {S S' S2 : Sto} {x : D × Bool} {d : D} {z : R (D × Bool)} (h0 : chk i t S = .ok () t S) (e : m t S = .ok x t' S') (h : bVar i t' S' = .ok d t2 S2) (k : dIx d x.1 t2 S2 = z) : eIxV i m t S = z := bnd_tr h0 (bnd_tr e (bnd_tr h k))
theorem if_tr {c : MT} {a b : MS} {t t' : Ev} {S S' : Sto} {x : Bool} {z : R Fl} (e : c t S = .ok x t' S') (h : (if x = true then a else b) t' S' = z) : sIf c a b t S = z := bnd_tr e h
theorem iff_tr {α : Type} {c : MT} {a b : M α} {t t' : Ev} {S S' : Sto} {x : Bool} {z : R α} (e : c t S = .ok x t' S') (h : (if x = true then a else b) t' S' = z) : iff c a b t S = z := bnd_tr e h
theorem loop_tr {f : MG} {body : MS} {d : D} {ds : List D} {t t1 t2 : Ev} {S S2 : Sto} {z : R Fl} (e : f d t = some t1) (h : body t1 S = .ok .nx t2 S2) (k : loop f body [] ds t2 S2 = z) : loop f body [] (d :: ds) t S = z := by
  refine bnd_tr (m := asg f d) (a := ()) (t' := t1) (S' := S) (by unfold asg; rw [e]) (bnd_tr (a := Fl.nx) h k)
theorem atI_mem {ds : List D} {k : Int} (h0 : 0 ≤ k) (h1 : k < ds.length) : ∃ d, atI ds k = some d ∧ d ∈ ds := by
  have hk : k.toNat < ds.length := by omega
  refine ⟨ds[k.toNat], ?_, List.getElem_mem hk⟩
  unfold atI ixN
  rw [if_pos h0, if_pos h1]
  show ds[k.toNat]? = _
  exact List.getElem?_eq_getElem hk
theorem pick_ok {n : Nat} {r S : Sto} {ds : List D} (h : StOk n r S) (hn : n < 1000000) (m1 : 1 ≤ ds.length) (m2 : ds.length < 1000000000) : Wf (F__law_pick [.box 1, .lst ds] S) fun d S' => d ∈ ds ∧ StOk (n + 1) r S' := by
  obtain ⟨d, S', e, k, rfl, k0, k1, h'⟩ := draw_ok (many := ds.length) h hn (by omega) (by omega)
  obtain ⟨d, ed, hd⟩ := atI_mem k0 k1
  have e1 : (bnd (aCons (eVar 0) (aCons (bnd (bVar 1) dLen) aNil)) (call F__law_draw)) [.sh (.box 1), .sh (.lst ds)] S = .ok (.int k, false) [.sh (.box 1), .sh (.lst ds)] S' := call_tr (ds := [.box 1, .int ds.length]) e
  have e2 : m__law_pick [.sh (.box 1), .sh (.lst ds)] S = .ok (.rt d false) [.sh (.box 1), .sh (.lst ds)] S' := by
    refine ret_tr (x := (d, false)) (ixV_tr rfl e1 rfl ?_)
    show optD (atI ds k) _ _ = _
    rw [ed]; rfl
  exact ⟨d, S', fn_tr (n := 2) e2, hd, h'⟩
/-! ### fractions -/
end KD

set_option Elab.async false
set_option linter.all false
set_option maxRecDepth 100000
set_option maxHeartbeats 4000000
set_option autoImplicit false
namespace KX
open PySem PySem.Spec PyProof.Rows L2 TD
open KD (StOk)
section
variable {r S : Sto} {n : Nat}
theorem dr {many : Nat} (h : StOk n r S) (hn : n < 900000) (m1 : 1 ≤ many) (m2 : many < 1000000) : FW (F__law_draw [.box 1, .int many] S) fun d f S' => ∃ k : Nat, d = .int k ∧ f = false ∧ k < many ∧ StOk (n + 1) r S' := by
  obtain ⟨d, S', e, k, rfl, k0, k1, h'⟩ := KD.draw_ok (many := many) h (by omega) (by omega) (by omega)
  obtain ⟨k, rfl⟩ := Int.eq_ofNat_of_zero_le k0
  exact fw_of e ⟨k, rfl, rfl, by omega, h'⟩
theorem pk {ds : List D} (h : StOk n r S) (hn : n < 900000) (m1 : 1 ≤ ds.length) (m2 : ds.length < 1000000) : FW (F__law_pick [.box 1, .lst ds] S) fun d f S' => d ∈ ds ∧ f = false ∧ StOk (n + 1) r S' := by
  obtain ⟨d, S', e, hd, h'⟩ := KD.pick_ok h (by omega) m1 (by omega)
  exact fw_of e ⟨hd, rfl, h'⟩
/-! ### equal data are the same -/
def plain : Nat → D → Bool
  | 0, _ => false
  | n + 1, .lst ds => ds.all (plain n) && decide (ds.length ≤ lim)
  | n + 1, .tup ds => ds.all (plain n) && decide (ds.length ≤ lim)
  | _ + 1, .int _ => true
  | _ + 1, .non => true
  | _ + 1, .str _ => true
  | _ + 1, .bl _ => true
  | _ + 1, _ => false
theorem zip_self : ∀ ds : List D, zip2D ds ds = ds.map fun x => .tup [x, x]
  | [] => rfl
  | d :: ds => by show .tup [d, d] :: zip2D ds ds = _; rw [zip_self ds]; rfl
theorem same_seq {k : Bool} {F : Fn} {ds : List D} (ih : ∀ d ∈ ds, F [d, d] S = .ok (.bl true) false S) (hl : ds.length ≤ lim) : FW (fnD 4 (m__law_same F) [dP k ds, dP k ds] S) fun d f S' => d = .bl true ∧ f = false ∧ S' = S := by
  have tt : ∀ (i : Int), decide (i = i) = true := fun i => decide_eq_true rfl
  have ff : ∀ b : Bool, (!decide (b = b)) = false := fun b => by simp
  unfold m__law_same
  cases k
  · simp only [dP, Bool.false_eq_true, if_false]
    simp only [wpsA, wpsB, List.map_cons, List.map_nil, List.length_cons, List.length_nil, List.replicate_succ, List.replicate_zero, List.cons_append, List.nil_append, List.getElem?_cons_zero, List.getElem?_cons_succ, List.set_cons_zero, List.set_cons_succ, ow_true, ow_false, if_true, if_false, Option.bind_some, true_and, and_true, Nat.zero_add, Nat.reduceAdd, Nat.reduceSub, Nat.reduceLeDiff, e_isiT _ [.list, .tuple] (.lst ds) .lst rfl, e_isi _ .list (.lst ds) .lst rfl, e_isi _ .tuple (.lst ds) .lst rfl, show ([Cl.list, .tuple].any (isK .lst)) = true from rfl, decide_true, Bool.not_true]
    rw [zip_self]
    refine ⟨by rw [List.length_map]; rw [lim_eq] at hl; exact hl, ?_⟩
    refine wp_lcP (fun _ => true) (fun _ => .bl true) (fun d hd => ?_) ?_
    · simp only [wpsA, wpsB, List.map_cons, List.map_nil, List.length_cons, List.length_nil, List.replicate_succ, List.replicate_zero, List.cons_append, List.nil_append, List.getElem?_cons_zero, List.getElem?_cons_succ, List.set_cons_zero, List.set_cons_succ, ow_true, ow_false, if_true, if_false, Option.bind_some, true_and, and_true, Nat.zero_add, Nat.reduceAdd, Nat.reduceSub, Nat.reduceLeDiff, ih d hd]
      exact fun _ => trivial
    · rw [List.filter_eq_self.mpr (fun _ _ => rfl)]
      simp only [wpsA, wpsB, List.map_cons, List.map_nil, List.length_cons, List.length_nil, List.replicate_succ, List.replicate_zero, List.cons_append, List.nil_append, List.getElem?_cons_zero, List.getElem?_cons_succ, List.set_cons_zero, List.set_cons_succ, ow_true, ow_false, if_true, if_false, Option.bind_some, true_and, and_true, Nat.zero_add, Nat.reduceAdd, Nat.reduceSub, Nat.reduceLeDiff, e_allM (fun _ => true) ds]
      simp
  · simp only [dP, if_true]
    simp only [wpsA, wpsB, List.map_cons, List.map_nil, List.length_cons, List.length_nil, List.replicate_succ, List.replicate_zero, List.cons_append, List.nil_append, List.getElem?_cons_zero, List.getElem?_cons_succ, List.set_cons_zero, List.set_cons_succ, ow_true, ow_false, if_true, if_false, Option.bind_some, true_and, and_true, Nat.zero_add, Nat.reduceAdd, Nat.reduceSub, Nat.reduceLeDiff, e_isiT _ [.list, .tuple] (.tup ds) .tup rfl, e_isi _ .list (.tup ds) .tup rfl, e_isi _ .tuple (.tup ds) .tup rfl, show ([Cl.list, .tuple].any (isK .tup)) = true from rfl, decide_true, Bool.not_true]
    rw [zip_self]
    refine ⟨by rw [List.length_map]; rw [lim_eq] at hl; exact hl, ?_⟩
    refine wp_lcP (fun _ => true) (fun _ => .bl true) (fun d hd => ?_) ?_
    · simp only [wpsA, wpsB, List.map_cons, List.map_nil, List.length_cons, List.length_nil, List.replicate_succ, List.replicate_zero, List.cons_append, List.nil_append, List.getElem?_cons_zero, List.getElem?_cons_succ, List.set_cons_zero, List.set_cons_succ, ow_true, ow_false, if_true, if_false, Option.bind_some, true_and, and_true, Nat.zero_add, Nat.reduceAdd, Nat.reduceSub, Nat.reduceLeDiff, ih d hd]
      exact fun _ => trivial
    · rw [List.filter_eq_self.mpr (fun _ _ => rfl)]
      simp only [wpsA, wpsB, List.map_cons, List.map_nil, List.length_cons, List.length_nil, List.replicate_succ, List.replicate_zero, List.cons_append, List.nil_append, List.getElem?_cons_zero, List.getElem?_cons_succ, List.set_cons_zero, List.set_cons_succ, ow_true, ow_false, if_true, if_false, Option.bind_some, true_and, and_true, Nat.zero_add, Nat.reduceAdd, Nat.reduceSub, Nat.reduceLeDiff, e_allM (fun _ => true) ds]
      simp
theorem same_refl : ∀ (n : Nat) (d : D), plain n d = true → F__law_same n [d, d] S = .ok (.bl true) false S
  | 0, d, h => by cases d <;> exact absurd h (by simp [plain])
  | n + 1, d, h => by
    apply fw_eq
    unfold F__law_same
    cases d with
    | lst ds =>
      simp only [plain, Bool.and_eq_true, decide_eq_true_eq] at h
      exact same_seq (k := false) (fun d hd => same_refl n d (List.all_eq_true.mp h.1 d hd)) h.2
    | tup ds =>
      simp only [plain, Bool.and_eq_true, decide_eq_true_eq] at h
      exact same_seq (k := true) (fun d hd => same_refl n d (List.all_eq_true.mp h.1 d hd)) h.2
    | int i =>
      unfold m__law_same
      simp only [wpsA, wpsB, List.map_cons, List.map_nil, List.length_cons, List.length_nil, List.replicate_succ, List.replicate_zero, List.cons_append, List.nil_append, List.getElem?_cons_zero, List.getElem?_cons_succ, List.set_cons_zero, List.set_cons_succ, ow_true, ow_false, if_true, if_false, Option.bind_some, true_and, and_true, Nat.zero_add, Nat.reduceAdd, Nat.reduceSub, Nat.reduceLeDiff, e_isiT _ [.list, .tuple] (.int i) .int rfl, e_isi _ .dict (.int i) .int rfl, e_isi _ .bool (.int i) .int rfl, e_isiT _ [.list, .tuple, .dict] (.int i) .int rfl, show ([Cl.list, .tuple].any (isK .int)) = false from rfl, show ([Cl.list, .tuple, .dict].any (isK .int)) = false from rfl, show isK .int .dict = false from rfl, show isK .int .bool = false from rfl, Bool.not_false, decide_true]
    | non =>
      unfold m__law_same
      simp only [wpsA, wpsB, List.map_cons, List.map_nil, List.length_cons, List.length_nil, List.replicate_succ, List.replicate_zero, List.cons_append, List.nil_append, List.getElem?_cons_zero, List.getElem?_cons_succ, List.set_cons_zero, List.set_cons_succ, ow_true, ow_false, if_true, if_false, Option.bind_some, true_and, and_true, Nat.zero_add, Nat.reduceAdd, Nat.reduceSub, Nat.reduceLeDiff, e_isiT _ [.list, .tuple] .non .non rfl, e_isi _ .dict .non .non rfl, e_isi _ .bool .non .non rfl, e_isiT _ [.list, .tuple, .dict] .non .non rfl, show ([Cl.list, .tuple].any (isK .non)) = false from rfl, show ([Cl.list, .tuple, .dict].any (isK .non)) = false from rfl, show isK .non .dict = false from rfl, show isK .non .bool = false from rfl, Bool.not_false, e_eq _ (show eqD .non .non = some true from rfl)]
    | str i =>
      unfold m__law_same
      simp only [wpsA, wpsB, List.map_cons, List.map_nil, List.length_cons, List.length_nil, List.replicate_succ, List.replicate_zero, List.cons_append, List.nil_append, List.getElem?_cons_zero, List.getElem?_cons_succ, List.set_cons_zero, List.set_cons_succ, ow_true, ow_false, if_true, if_false, Option.bind_some, true_and, and_true, Nat.zero_add, Nat.reduceAdd, Nat.reduceSub, Nat.reduceLeDiff, e_isiT _ [.list, .tuple] (.str i) .str rfl, e_isi _ .dict (.str i) .str rfl, e_isi _ .bool (.str i) .str rfl, e_isiT _ [.list, .tuple, .dict] (.str i) .str rfl, show ([Cl.list, .tuple].any (isK .str)) = false from rfl, show ([Cl.list, .tuple, .dict].any (isK .str)) = false from rfl, show isK .str .dict = false from rfl, show isK .str .bool = false from rfl, Bool.not_false, decide_true]
    | bl i =>
      unfold m__law_same
      simp only [wpsA, wpsB, List.map_cons, List.map_nil, List.length_cons, List.length_nil, List.replicate_succ, List.replicate_zero, List.cons_append, List.nil_append, List.getElem?_cons_zero, List.getElem?_cons_succ, List.set_cons_zero, List.set_cons_succ, ow_true, ow_false, if_true, if_false, Option.bind_some, true_and, and_true, Nat.zero_add, Nat.reduceAdd, Nat.reduceSub, Nat.reduceLeDiff, e_isiT _ [.list, .tuple] (.bl i) .bl rfl, e_isi _ .dict (.bl i) .bl rfl, e_isi _ .bool (.bl i) .bl rfl, show ([Cl.list, .tuple].any (isK .bl)) = false from rfl, show isK .bl .dict = false from rfl, show isK .bl .bool = true from rfl, Bool.not_false, decide_true]
    | _ => exact absurd h (by simp [plain])
theorem plain_rep (x : Rat) : plain 2 (rep x) = true := by
  unfold rep
  simp [plain, lim_eq]
theorem plain_reps {k : Nat} (xs : List Rat) (hl : xs.length ≤ 1000) : plain 3 (.lst (xs.map rep)) = true := by
  simp only [plain, Bool.and_eq_true, decide_eq_true_eq, List.all_eq_true, List.length_map, lim_eq]
  refine ⟨fun d hd => ?_, by omega⟩
  obtain ⟨x, _, rfl⟩ := List.mem_map.mp hd
  exact plain_rep x
theorem plain_C (c : Rat × Rat) : plain 3 (encC c) = true := by
  unfold encC
  have h1 := plain_rep c.1
  have h2 := plain_rep c.2
  simp [plain, lim_eq] at h1 h2 ⊢
  exact ⟨h1, h2⟩
end
end KX

set_option Elab.async false
set_option linter.all false
set_option maxRecDepth 100000
set_option maxHeartbeats 4000000
set_option autoImplicit false
namespace KX
/-! ### a setting out as a row of turns -/
structure It where
  m : Rat
  b : Rat
  s : Rat
  c : Rat
/-- what a beat too early, too late is worth -/
abbrev sg (e l m t : Rat) : Rat := sorrowQ e l m t
def It.d (x : It) : Rat := x.b + x.s
def wB (e l : Rat) (x : It) : Rat := x.c - sg e l x.m x.b
def wE (e l : Rat) (x : It) : Rat := x.c - sg e l x.m x.d
structure Step (e l : Rat) (x y : It) : Prop where
  m : x.m < y.m
  o : (x.d = y.b ∧ wE e l x = wB e l y) ∨ (x.d < y.b ∧ wE e l x = 0 ∧ wB e l y = 0 ∧ x.m ≤ x.d ∧ y.b ≤ y.m)
structure SysF (e l : Rat) (n : Nat) (x : Nat → It) : Prop where
  e0 : 0 < e
  l0 : 0 < l
  sp : ∀ i, i < n → 0 < (x i).s
  nb : ∀ i, i < n → 0 ≤ wB e l (x i) ∧ 0 ≤ wE e l (x i)
  ch : ∀ i, i + 1 < n → Step e l (x i) (x (i + 1))
  hd : 0 < n → wB e l (x 0) = 0 ∧ (x 0).b ≤ (x 0).m
  lt : 0 < n → wE e l (x (n - 1)) = 0 ∧ (x (n - 1)).m ≤ (x (n - 1)).d
theorem sg_cvx {e l m t u v : Rat} (e0 : 0 < e) (l0 : 0 < l) (h1 : u ≤ t) (h2 : t ≤ v) : sg e l m t ≤ sg e l m u ∨ sg e l m t ≤ sg e l m v := by
  unfold sg sorrowQ
  by_cases c : 0 < m - t
  · left
    rw [if_pos c, if_pos (by grind)]
    exact Rat.mul_le_mul_of_nonneg_left (by grind) (Rat.le_of_lt e0)
  · right
    rw [if_neg c, if_neg (by grind)]
    exact Rat.mul_le_mul_of_nonneg_left (by grind) (Rat.le_of_lt l0)
/-- later wishes grow later -/
theorem sg_diff {e l m m' t u : Rat} (e0 : 0 < e) (l0 : 0 < l) (hm : m ≤ m') (h : t ≤ u) : sg e l m t - sg e l m' t ≤ sg e l m u - sg e l m' u := by
  have p1 : 0 ≤ e * (u - t) := Rat.mul_nonneg (Rat.le_of_lt e0) (by grind)
  have p2 : 0 ≤ l * (u - t) := Rat.mul_nonneg (Rat.le_of_lt l0) (by grind)
  unfold sg sorrowQ
  by_cases c1 : 0 < m - t <;> by_cases c2 : 0 < m' - t <;> by_cases c3 : 0 < m - u <;> by_cases c4 : 0 < m' - u <;> simp only [c1, c2, c3, c4, if_true, if_false] <;>
    first
    | grind
    | (have q1 : 0 ≤ e * (m - t) := Rat.mul_nonneg (Rat.le_of_lt e0) (by grind)
       have q2 : 0 ≤ l * (u - m) := Rat.mul_nonneg (Rat.le_of_lt l0) (by grind)
       grind)
    | (have q1 : 0 ≤ e * (u - m) := Rat.mul_nonneg (Rat.le_of_lt e0) (by grind)
       have q2 : 0 ≤ l * (u - m) := Rat.mul_nonneg (Rat.le_of_lt l0) (by grind)
       grind)
    | (have q1 : 0 ≤ e * (m' - t) := Rat.mul_nonneg (Rat.le_of_lt e0) (by grind)
       have q2 : 0 ≤ l * (m' - t) := Rat.mul_nonneg (Rat.le_of_lt l0) (by grind)
       grind)
    | (have q1 : 0 ≤ e * (m' - m) := Rat.mul_nonneg (Rat.le_of_lt e0) (by grind)
       have q2 : 0 ≤ l * (m' - m) := Rat.mul_nonneg (Rat.le_of_lt l0) (by grind)
       grind)
theorem sg_late {e l m t u : Rat} (l0 : 0 < l) (h1 : m ≤ t) (h2 : t ≤ u) : sg e l m t ≤ sg e l m u := by
  unfold sg sorrowQ
  rw [if_neg (by grind), if_neg (by grind)]
  exact Rat.mul_le_mul_of_nonneg_left (by grind) (Rat.le_of_lt l0)
theorem sg_early {e l m t u : Rat} (e0 : 0 < e) (h1 : t ≤ u) (h2 : u ≤ m) : sg e l m u ≤ sg e l m t := by
  unfold sg sorrowQ
  have p : 0 ≤ e * (u - t) := Rat.mul_nonneg (Rat.le_of_lt e0) (by grind)
  by_cases c1 : 0 < m - u <;> by_cases c2 : 0 < m - t <;> simp only [c1, c2, if_true, if_false] <;> first
    | grind
    | (have : u = m := by grind
       have q1 : 0 ≤ e * (m - t) := Rat.mul_nonneg (Rat.le_of_lt e0) (by grind)
       grind)
namespace SysF
variable {e l : Rat} {n : Nat} {x : Nat → It}
theorem mlt (h : SysF e l n x) {i : Nat} : ∀ {j : Nat}, i < j → j < n → (x i).m < (x j).m
  | 0, a, _ => absurd a (Nat.not_lt_zero _)
  | j + 1, a, b => by
    have s := (h.ch j b).m
    by_cases c : i = j
    · subst c; exact s
    · have := mlt h (i := i) (j := j) (by omega) (by omega)
      grind
theorem mle (h : SysF e l n x) {i j : Nat} (a : i ≤ j) (b : j < n) : (x i).m ≤ (x j).m := by
  by_cases c : i = j
  · subst c; exact Rat.le_refl
  · exact Rat.le_of_lt (h.mlt (by omega) b)
theorem db (h : SysF e l n x) {i : Nat} : ∀ {j : Nat}, i < j → j < n → (x i).d ≤ (x j).b
  | 0, a, _ => absurd a (Nat.not_lt_zero _)
  | j + 1, a, b => by
    have s : (x j).d ≤ (x (j + 1)).b := by
      rcases (h.ch j b).o with ⟨q, _⟩ | ⟨q, _⟩
      · rw [q]; exact Rat.le_refl
      · exact Rat.le_of_lt q
    by_cases c : i = j
    · subst c; exact s
    · have := db h (i := i) (j := j) (by omega) (by omega)
      have sp := h.sp j (by omega)
      unfold It.d at *
      grind
theorem bb (h : SysF e l n x) {i j : Nat} (a : i ≤ j) (b : j < n) : (x i).b ≤ (x j).b := by
  by_cases c : i = j
  · subst c; exact Rat.le_refl
  · have := h.db (i := i) (j := j) (by omega) b
    have sp := h.sp i (by omega)
    unfold It.d at this
    grind
theorem dd (h : SysF e l n x) {i j : Nat} (a : i ≤ j) (b : j < n) : (x i).d ≤ (x j).d := by
  by_cases c : i = j
  · subst c; exact Rat.le_refl
  · have := h.db (i := i) (j := j) (by omega) b
    have sp := h.sp j b
    unfold It.d at *
    grind
/-- from the left: at the begin of a turn an earlier wish would have no less -/
theorem left (h : SysF e l n x) {j : Nat} : ∀ {i : Nat}, j ≤ i → i < n → (x j).c - sg e l (x j).m (x i).b ≤ wB e l (x i)
  | 0, a, _ => by
    have : j = 0 := by omega
    subst this
    unfold wB; grind
  | i + 1, a, b => by
    by_cases c : j = i + 1
    · subst c; unfold wB; grind
    · have ih := left h (j := j) (i := i) (by omega) (by omega)
      have sp := h.sp i (by omega)
      have sd := sg_diff h.e0 h.l0 (h.mle (show j ≤ i by omega) (by omega)) (show (x i).b ≤ (x i).d by unfold It.d; grind)
      have q : (x j).c - sg e l (x j).m (x i).d ≤ wE e l (x i) := by unfold wE wB at *; grind
      rcases (h.ch i b).o with ⟨q1, q2⟩ | ⟨q1, q2, q3, q4, q5⟩
      · rw [← q1, ← q2]; exact q
      · have lt := sg_late (e := e) h.l0 (show (x j).m ≤ (x i).d by have := h.mle (show j ≤ i by omega) (show i < n by omega); grind) (Rat.le_of_lt q1)
        rw [q3]
        grind
theorem right (h : SysF e l n x) {i : Nat} : ∀ (k : Nat), i + k < n → (x (i + k)).c - sg e l (x (i + k)).m (x i).d ≤ wE e l (x i)
  | 0, _ => by unfold wE; exact Rat.le_refl
  | k + 1, b => by
    have ih := right h (i := i + 1) k (by omega)
    have e1 : i + 1 + k = i + (k + 1) := by omega
    rw [e1] at ih
    have sp := h.sp (i + 1) (by omega)
    have sd := sg_diff h.e0 h.l0 (h.mle (show i + 1 ≤ i + (k + 1) by omega) b) (show (x (i + 1)).b ≤ (x (i + 1)).d by unfold It.d; grind)
    have q : (x (i + (k + 1))).c - sg e l (x (i + (k + 1))).m (x (i + 1)).b ≤ wB e l (x (i + 1)) := by unfold wE wB at *; grind
    rcases (h.ch i (by omega)).o with ⟨q1, q2⟩ | ⟨q1, q2, q3, q4, q5⟩
    · rw [q1, q2]; exact q
    · have lt := sg_early (l := l) h.e0 (Rat.le_of_lt q1) (show (x (i + 1)).b ≤ (x (i + (k + 1))).m by have := h.mle (show i + 1 ≤ i + (k + 1) by omega) b; grind)
      rw [q2]
      grind
/-- at a moment of a turn no wish would have less than there -/
theorem opt (h : SysF e l n x) {i j : Nat} (hi : i < n) (hj : j < n) {t : Rat} (h1 : (x i).b ≤ t) (h2 : t ≤ (x i).d) : (x j).c - sg e l (x j).m t ≤ (x i).c - sg e l (x i).m t := by
  by_cases c : j ≤ i
  · have q := h.left c hi
    have sd := sg_diff h.e0 h.l0 (h.mle c hi) h1
    unfold wB at q
    grind
  · have q := h.right (i := i) (j - i) (by omega)
    rw [show i + (j - i) = j by omega] at q
    have sd := sg_diff h.e0 h.l0 (h.mle (show i ≤ j by omega) hj) h2
    unfold wE at q
    grind
theorem nonneg (h : SysF e l n x) {i : Nat} (hi : i < n) {t : Rat} (h1 : (x i).b ≤ t) (h2 : t ≤ (x i).d) : 0 ≤ (x i).c - sg e l (x i).m t := by
  obtain ⟨a, b⟩ := h.nb i hi
  unfold wB wE at *
  rcases sg_cvx (m := (x i).m) h.e0 h.l0 h1 h2 with q | q <;> grind
theorem find (h : SysF e l n x) {t : Rat} (h0 : (x 0).b ≤ t) : ∀ k, k < n → (x k).b ≤ t ∨ ∃ i, i < k ∧ (x i).b ≤ t ∧ t < (x (i + 1)).b
  | 0, _ => .inl h0
  | k + 1, hk => by
    rcases find h h0 k (by omega) with q | ⟨i, q1, q2⟩
    · by_cases c : (x (k + 1)).b ≤ t
      · exact .inl c
      · exact .inr ⟨k, by omega, q, by grind⟩
    · exact .inr ⟨i, by omega, q2⟩
/-- where nobody has a turn, no wish would have less than its trouble -/
theorem idle (h : SysF e l n x) {t : Rat} (ht : ∀ i, i < n → ¬ ((x i).b ≤ t ∧ t ≤ (x i).d)) {j : Nat} (hj : j < n) : (x j).c - sg e l (x j).m t ≤ 0 := by
  obtain ⟨f1, f2⟩ := h.hd (by omega)
  obtain ⟨g1, g2⟩ := h.lt (by omega)
  have sp0 := h.sp 0 (by omega)
  by_cases c0 : t < (x 0).b
  · have o := h.opt (i := 0) (j := j) (by omega) hj (t := (x 0).b) Rat.le_refl (by unfold It.d; grind)
    have lt := sg_early (l := l) h.e0 (Rat.le_of_lt c0) (show (x 0).b ≤ (x j).m by have := h.mle (Nat.zero_le j) hj; grind)
    unfold wB at f1
    grind
  · rcases h.find (t := t) (by grind) (n - 1) (by omega) with q | ⟨i, q1, q2, q3⟩
    · have nd : (x (n - 1)).d < t := by
        have := ht (n - 1) (by omega)
        grind
      have o := h.opt (i := n - 1) (j := j) (by omega) hj (t := (x (n - 1)).d) (by have := h.sp (n - 1) (by omega); unfold It.d; grind) Rat.le_refl
      have lt := sg_late (e := e) h.l0 (show (x j).m ≤ (x (n - 1)).d by have := h.mle (show j ≤ n - 1 by omega) (by omega); grind) (Rat.le_of_lt nd)
      unfold wE at g1
      grind
    · have nd : (x i).d < t := by
        have := ht i (by omega)
        grind
      have spi := h.sp i (by omega)
      have spi1 := h.sp (i + 1) (by omega)
      rcases (h.ch i (by omega)).o with ⟨r1, r2⟩ | ⟨r1, r2, r3, r4, r5⟩
      · grind
      · by_cases c : j ≤ i
        · have o := h.opt (i := i) (j := j) (by omega) hj (t := (x i).d) (by unfold It.d; grind) Rat.le_refl
          have lt := sg_late (e := e) h.l0 (show (x j).m ≤ (x i).d by have := h.mle c (by omega); grind) (Rat.le_of_lt nd)
          unfold wE at r2
          grind
        · have o := h.opt (i := i + 1) (j := j) (by omega) hj (t := (x (i + 1)).b) Rat.le_refl (by unfold It.d; grind)
          have lt := sg_early (l := l) h.e0 (Rat.le_of_lt q3) (show (x (i + 1)).b ≤ (x j).m by have := h.mle (show i + 1 ≤ j by omega) hj; grind)
          unfold wB at r3
          grind
theorem before (h : SysF e l n x) {k : Nat} (hk : k < n) (hw : 0 < wB e l (x k)) : ∃ i, k = i + 1 ∧ (x i).d = (x k).b := by
  cases k with
  | zero => have := (h.hd hk).1; grind
  | succ i =>
    refine ⟨i, rfl, ?_⟩
    rcases (h.ch i hk).o with ⟨q, _⟩ | ⟨_, _, q, _⟩
    · exact q
    · grind
end SysF
theorem max_at (f : Nat → Rat) : ∀ n : Nat, ∃ j, j < n + 1 ∧ ∀ i, i < n + 1 → f i ≤ f j
  | 0 => ⟨0, by omega, fun i h => by rw [show i = 0 by omega]; exact Rat.le_refl⟩
  | n + 1 => by
    obtain ⟨j, hj, h⟩ := max_at f n
    by_cases c : f (n + 1) ≤ f j
    · exact ⟨j, by omega, fun i hi => by
        by_cases z : i = n + 1
        · rw [z]; exact c
        · exact h i (by omega)⟩
    · refine ⟨n + 1, by omega, fun i hi => ?_⟩
      by_cases z : i = n + 1
      · rw [z]; exact Rat.le_refl
      · have := h i (by omega); grind
theorem min_at {P : Nat → Prop} : ∀ {n : Nat}, P n → ∃ k, P k ∧ ∀ j, j < k → ¬ P j := by
  intro n
  induction n using Nat.strongRecOn with
  | ind n ih =>
    intro h
    by_cases c : ∃ j, j < n ∧ P j
    · obtain ⟨j, hj, hp⟩ := c
      exact ih j hj hp
    · exact ⟨n, h, fun j hj hp => c ⟨j, hj, hp⟩⟩
/-- greater heaps: nobody has less trouble -/
theorem SysF.mono {e l : Rat} {n : Nat} {x y : Nat → It} (hx : SysF e l n x) (hy : SysF e l n y) (hm : ∀ i, i < n → (x i).m = (y i).m) (hs : ∀ i, i < n → (x i).s ≤ (y i).s) : ∀ i, i < n → (x i).c ≤ (y i).c := by
  intro i hi
  by_cases good : (x i).c ≤ (y i).c
  · exact good
  exfalso
  obtain ⟨j0, hj0, hmax⟩ := max_at (fun i => (x i).c - (y i).c) (n - 1)
  rw [show n - 1 + 1 = n by omega] at hj0 hmax
  have hmax : ∀ i, i < n → (x i).c - (y i).c ≤ (x j0).c - (y j0).c := hmax
  have hd0 := hmax i hi
  let J := fun k => k < n ∧ (x k).c - (y k).c = (x j0).c - (y j0).c
  have dpos : 0 < (x j0).c - (y j0).c := by grind
  have A : ∀ j, J j → ∀ t, (y j).b ≤ t → t ≤ (y j).d → ∃ k, J k ∧ (x k).b ≤ t ∧ t ≤ (x k).d := by
    intro j ⟨hj, ej⟩ t t1 t2
    have p1 := hy.nonneg hj t1 t2
    rw [← hm j hj] at p1
    by_cases c : ∃ k, k < n ∧ (x k).b ≤ t ∧ t ≤ (x k).d
    · obtain ⟨k, hk, k1, k2⟩ := c
      refine ⟨k, ⟨hk, ?_⟩, k1, k2⟩
      have o1 := hx.opt hk hj k1 k2
      have o2 := hy.opt hj hk t1 t2
      rw [← hm j hj, ← hm k hk] at o2
      have := hmax k hk
      grind
    · have := hx.idle (t := t) (fun k hk z => c ⟨k, hk, z⟩) hj
      grind
  have B : ∀ q j, n ≤ j + q → J j → (y j).d ≤ (x j).d := by
    intro q
    induction q with
    | zero => intro j h hj; have := hj.1; omega
    | succ q ih =>
      intro j h hj
      by_cases c : (y j).d ≤ (x j).d
      · exact c
      · exfalso
        have spj := hy.sp j hj.1
        have hyd : (y j).d = (y j).b + (y j).s := rfl
        let mxv := if (x j).d ≤ (y j).b then (y j).b else (x j).d
        have m1 : (x j).d ≤ mxv ∧ (y j).b ≤ mxv ∧ mxv < (y j).d := by
          show (x j).d ≤ (if (x j).d ≤ (y j).b then (y j).b else (x j).d) ∧ (y j).b ≤ (if (x j).d ≤ (y j).b then (y j).b else (x j).d) ∧ (if (x j).d ≤ (y j).b then (y j).b else (x j).d) < (y j).d
          split <;> grind
        obtain ⟨k, hk, k1, k2⟩ := A j hj ((mxv + (y j).d) / 2) (by grind) (by grind)
        by_cases kj : k ≤ j
        · have := hx.dd kj hj.1
          grind
        · have ihk := ih k (by omega) hk
          have dbk := hy.db (i := j) (j := k) (by omega) hk.1
          have sk := hs k hk.1
          have e1 : (x k).d = (x k).b + (x k).s := rfl
          have e2 : (y k).d = (y k).b + (y k).s := rfl
          grind
  obtain ⟨k0, hk0, hmin⟩ := min_at (P := J) (n := j0) ⟨hj0, rfl⟩
  have b1 := B n k0 (by omega) hk0
  have sk := hs k0 hk0.1
  have spy := hy.sp k0 hk0.1
  have spx := hx.sp k0 hk0.1
  have e1 : (x k0).d = (x k0).b + (x k0).s := rfl
  have e2 : (y k0).d = (y k0).b + (y k0).s := rfl
  obtain ⟨k, hk, k1, k2⟩ := A k0 hk0 (y k0).b Rat.le_refl (by grind)
  have kk : k0 ≤ k := by
    by_cases c : k0 ≤ k
    · exact c
    · exact absurd hk (hmin k (by omega))
  have bk := hx.bb kk hk.1
  have eb : (y k0).b = (x k0).b := by grind
  have p1 := hy.nonneg hk0.1 (t := (y k0).b) Rat.le_refl (by grind)
  rw [← hm k0 hk0.1, eb] at p1
  have wpos : 0 < wB e l (x k0) := by
    have := hk0.2
    unfold wB
    grind
  obtain ⟨i0, ei, ed⟩ := hx.before hk0.1 wpos
  have hi0 : i0 < n := by have := hk0.1; omega
  have spi := hx.sp i0 hi0
  have e3 : (x i0).d = (x i0).b + (x i0).s := rfl
  have o1 := hx.opt hi0 hk0.1 (t := (x k0).b) (by grind) (by grind)
  have o2 := hy.opt hk0.1 hi0 (t := (x k0).b) (by grind) (by grind)
  rw [← hm k0 hk0.1, ← hm i0 hi0] at o2
  have := hmax i0 hi0
  have := hk0.2
  exact hmin i0 (by omega) ⟨hi0, by grind⟩
end KX

set_option Elab.async false
set_option linter.all false
set_option maxRecDepth 100000
set_option maxHeartbeats 4000000
set_option autoImplicit false
namespace KX
/-! ### stretches as a row of turns -/
def Chn {α : Type} (R : α → α → Prop) : List α → Prop
  | [] => True
  | [_] => True
  | x :: y :: l => R x y ∧ Chn R (y :: l)
theorem chn_cons {α : Type} {R : α → α → Prop} {x : α} {l : List α} (h : ∀ y, l.head? = some y → R x y) (k : Chn R l) : Chn R (x :: l) := by
  cases l with
  | nil => trivial
  | cons y l => exact ⟨h y rfl, k⟩
theorem chn_app {α : Type} {R : α → α → Prop} : ∀ {l m : List α}, Chn R l → Chn R m → (∀ x y, l.getLast? = some x → m.head? = some y → R x y) → Chn R (l ++ m)
  | [], _, _, k, _ => k
  | [x], m, _, k, h => chn_cons (fun y hy => h x y rfl hy) k
  | x :: y :: l, m, h1, k, h => ⟨h1.1, chn_app (l := y :: l) h1.2 k fun a b ha hb => h a b (by rw [List.getLast?_cons_cons]; exact ha) hb⟩
theorem chn_get {α : Type} {R : α → α → Prop} : ∀ {l : List α}, Chn R l → ∀ (i : Nat) (x y : α), l[i]? = some x → l[i + 1]? = some y → R x y
  | [], _, i, x, y, h, _ => by simp at h
  | [a], _, i, x, y, _, h => by simp at h
  | a :: b :: l, h, 0, x, y, h1, h2 => by
    have e1 : a = x := by simpa using h1
    have e2 : b = y := by simpa using h2
    subst e1 e2
    exact h.1
  | a :: b :: l, h, i + 1, x, y, h1, h2 => chn_get (l := b :: l) h.2 i x y (by simpa using h1) (by simpa using h2)
theorem last_app {α : Type} {l m : List α} (h : m ≠ []) : (l ++ m).getLast? = m.getLast? := by
  rcases List.eq_nil_or_concat m with z | ⟨m', x, z⟩
  · exact absurd z h
  · rw [z, List.concat_eq_append, ← List.append_assoc, List.getLast?_concat, List.getLast?_concat]
def itB (e l : Rat) : Rat → Rat → List W → List It
  | _, _, [] => []
  | h, wt, w :: ws => ⟨w.m, h, w.s, wt + sorrowQ e l w.m h⟩ :: itB e l (h + w.s) (nextw e l h wt w) ws
def its (e l : Rat) (bs : List Bk) : List It := bs.flatMap fun B => itB e l B.b 0 B.ws
theorem its_app (e l : Rat) (bs : List Bk) (B : Bk) : its e l (bs ++ [B]) = its e l bs ++ itB e l B.b 0 B.ws := by
  unfold its
  rw [List.flatMap_append, List.flatMap_cons, List.flatMap_nil, List.append_nil]
theorem itB_c (e l : Rat) : ∀ (ws : List W) (h wt : Rat), (itB e l h wt ws).map (·.c) = costB e l h wt ws
  | [], _, _ => rfl
  | w :: ws, h, wt => by rw [itB, List.map_cons, itB_c e l ws, costB]
theorem its_c (e l : Rat) (bs : List Bk) : (its e l bs).map (·.c) = costs e l bs := by
  unfold its costs
  rw [List.map_flatMap]
  congr 1
  funext B
  exact itB_c e l _ _ _
theorem itB_ms (e l : Rat) : ∀ (ws : List W) (h wt : Rat), (itB e l h wt ws).map (fun x => (x.m, x.s)) = ws.map fun w => (w.m, w.s)
  | [], _, _ => rfl
  | w :: ws, h, wt => by rw [itB, List.map_cons, itB_ms e l ws, List.map_cons]
theorem its_ms {ws : List W} {v : Rat} {bs : List Bk} {n : Nat} (e l : Rat) (h : Ok ws v bs n) : (its e l bs).map (fun x => (x.m, x.s)) = (ws.take n).map fun w => (w.m, w.s) := by
  induction h with
  | nil => rfl
  | @snoc bs B h1 h2 h3 h4 h5 ih =>
    rw [its_app, List.map_append, ih, itB_ms, ← List.map_append]
    congr 1
    show _ = ws.take (B.i + B.ws.length)
    rw [List.take_add, ← h3]
theorem nextw_sg {e l h wt : Rat} {w : W} (hs : 0 ≤ w.s) : nextw e l h wt w = wt + sorrowQ e l w.m h - sorrowQ e l w.m (h + w.s) := by
  unfold nextw sorrowQ
  by_cases c1 : w.m ≤ h
  · have e1 : mid h w = h := by unfold mid mx mn; grind
    rw [e1, if_neg (by grind), if_neg (by grind)]; grind
  · by_cases c2 : w.m < h + w.s
    · have e1 : mid h w = w.m := by unfold mid mx mn; grind
      rw [e1, if_pos (by grind), if_neg (by grind)]; grind
    · have e1 : mid h w = h + w.s := by unfold mid mx mn; grind
      rw [e1, if_pos (by grind)]
      by_cases c3 : 0 < w.m - (h + w.s)
      · rw [if_pos c3]; grind
      · rw [if_neg c3]
        have : w.m = h + w.s := by grind
        rw [this]; grind
/-- the turns of a stretch -/
theorem itB_sys {e l : Rat} : ∀ (ws : List W) (h wt : Rat), (∀ w ∈ ws, 0 < w.s) → ws.Pairwise (fun v w => v.m < w.m) → (∀ p r, p ++ r = ws → 0 ≤ wrun e l h wt p) →
    Chn (Step e l) (itB e l h wt ws) ∧ (∀ x ∈ itB e l h wt ws, 0 < x.s ∧ 0 ≤ wB e l x ∧ 0 ≤ wE e l x) ∧ (∀ x, (itB e l h wt ws).head? = some x → wB e l x = wt ∧ x.b = h) ∧ ∀ x, (itB e l h wt ws).getLast? = some x → wE e l x = wrun e l h wt ws ∧ x.d = h + tot ws
  | [], h, wt, _, _, _ => ⟨trivial, fun _ z => (nomatch z), fun _ z => (nomatch z), fun _ z => (nomatch z)⟩
  | w :: ws, h, wt, hs, hm, hw => by
    have sp := hs w (by simp)
    have nsg := nextw_sg (e := e) (l := l) (h := h) (wt := wt) (Rat.le_of_lt sp)
    have w0 : 0 ≤ wt := hw [] (w :: ws) rfl
    have w1 : 0 ≤ nextw e l h wt w := hw [w] ws rfl
    obtain ⟨i1, i2, i3, i4⟩ := itB_sys ws (h + w.s) (nextw e l h wt w) (fun x hx => hs x (by simp [hx])) (List.pairwise_cons.mp hm).2 (fun p r e1 => hw (w :: p) r (by rw [← e1]; rfl))
    have xB : wB e l ⟨w.m, h, w.s, wt + sorrowQ e l w.m h⟩ = wt := by unfold wB; simp only; grind
    have xE : wE e l ⟨w.m, h, w.s, wt + sorrowQ e l w.m h⟩ = nextw e l h wt w := by unfold wE It.d; simp only; rw [nsg]
    refine ⟨?_, ?_, ?_, ?_⟩
    · rw [itB]
      refine chn_cons (fun y hy => ?_) i1
      obtain ⟨q1, q2⟩ := i3 y hy
      cases ws with
      | nil => simp [itB] at hy
      | cons v ws =>
        have ey : y = ⟨v.m, h + w.s, v.s, nextw e l h wt w + sorrowQ e l v.m (h + w.s)⟩ := by simpa [itB] using hy.symm
        refine ⟨?_, .inl ⟨?_, ?_⟩⟩
        · rw [ey]; exact (List.pairwise_cons.mp hm).1 v (by simp)
        · rw [q2]; rfl
        · rw [xE, q1]
    · intro x hx
      rw [itB] at hx
      rcases List.mem_cons.mp hx with rfl | hx
      · exact ⟨sp, by rw [xB]; exact w0, by rw [xE]; exact w1⟩
      · exact i2 x hx
    · intro x hx
      rw [itB, List.head?_cons] at hx
      cases hx
      exact ⟨xB, rfl⟩
    · intro x hx
      cases ws with
      | nil =>
        have ex : x = ⟨w.m, h, w.s, wt + sorrowQ e l w.m h⟩ := by
          have : some (It.mk w.m h w.s (wt + sorrowQ e l w.m h)) = some x := hx
          exact (Option.some.inj this).symm
        subst ex
        refine ⟨xE, ?_⟩
        unfold It.d
        rw [tot_cons, tot_nil, Rat.add_zero]
      | cons v ws =>
        have hx' : (itB e l (h + w.s) (nextw e l h wt w) (v :: ws)).getLast? = some x := by
          have : (It.mk w.m h w.s (wt + sorrowQ e l w.m h) :: itB e l (h + w.s) (nextw e l h wt w) (v :: ws)).getLast? = some x := hx
          rw [itB, List.getLast?_cons_cons, ← itB] at this
          exact this
        obtain ⟨q1, q2⟩ := i4 x hx'
        refine ⟨q1, ?_⟩
        rw [q2, tot_cons w]; grind
theorem lam_mul {e l : Rat} (e0 : 0 < e) (l0 : 0 < l) : (e + l) * lam e l = l := by
  unfold lam
  have : e + l ≠ 0 := by grind
  rw [Rat.mul_comm]
  exact Rat.div_mul_cancel this
theorem good_wait {e l b : Rat} {ws : List W} (e0 : 0 < e) (l0 : 0 < l) (hs : ∀ w ∈ ws, 0 < w.s) (h : Good (lam e l) b ws) : (∀ p r, p ++ r = ws → 0 ≤ wrun e l b 0 p) ∧ wrun e l b 0 ws = 0 := by
  have lm := lam_mul e0 l0
  have key : ∀ p r, p ++ r = ws → wrun e l b 0 p = (e + l) * (E p b - lam e l * tot p) := by
    intro p r e1
    rw [wrun_eq e l p b 0 fun w hw => Rat.le_of_lt (hs w (by rw [← e1]; simp [hw]))]
    have : l * tot p = (e + l) * lam e l * tot p := by rw [lm]
    grind
  refine ⟨fun p r e1 => ?_, ?_⟩
  · rw [key p r e1]
    exact Rat.mul_nonneg (by grind) (by have := h.wt p r e1; grind)
  · rw [key ws [] (by simp), h.is.eq]; grind
theorem lam_pos {e l : Rat} (e0 : 0 < e) (l0 : 0 < l) : 0 < lam e l := by unfold lam; rw [Rat.div_def]; exact Rat.mul_pos l0 (Rat.inv_pos.mpr (by grind))
theorem lam_lt {e l : Rat} (e0 : 0 < e) (l0 : 0 < l) : lam e l < 1 := by unfold lam; rw [Rat.div_lt_iff (by grind)]; grind
theorem good_first {e l b : Rat} {w : W} {ws : List W} (e0 : 0 < e) (l0 : 0 < l) (hs : 0 < w.s) (h : Good (lam e l) b (w :: ws)) : b ≤ w.m := by
  have q := h.wt [w] ws rfl
  have p : 0 < lam e l * w.s := Rat.mul_pos (lam_pos e0 l0) hs
  rw [tot_cons, tot_nil, E_cons, E_nil] at q
  unfold eterm mx mn at q
  simp only at q
  grind
theorem good_last {e l b : Rat} {w : W} {ws : List W} (e0 : 0 < e) (l0 : 0 < l) (hs : 0 < w.s) (h : Good (lam e l) b (ws ++ [w])) : w.m ≤ b + tot (ws ++ [w]) := by
  have q := h.wt ws [w] rfl
  have q2 := h.is.eq
  have p : lam e l * w.s < 1 * w.s := Rat.mul_lt_mul_of_pos_right (lam_lt e0 l0) hs
  rw [E_app, tot_app, E_cons, E_nil, tot_cons, tot_nil] at q2
  rw [tot_app, tot_cons, tot_nil]
  have q3 : lam e l * (tot ws + (w.s + 0)) = lam e l * tot ws + lam e l * w.s := by grind
  rw [q3] at q2
  unfold eterm mx mn at q2
  simp only at q2
  grind
theorem its_sys {ws : List W} {bs : List Bk} {n : Nat} {e l : Rat} (e0 : 0 < e) (l0 : 0 < l) (hs : ∀ w ∈ ws, 0 < w.s) (hi : ws.Pairwise fun v w => v.m < w.m) (h : Ok ws (lam e l) bs n) :
    Chn (Step e l) (its e l bs) ∧ (∀ x ∈ its e l bs, 0 < x.s ∧ 0 ≤ wB e l x ∧ 0 ≤ wE e l x) ∧ (∀ x, (its e l bs).head? = some x → wB e l x = 0 ∧ x.b ≤ x.m) ∧ (∀ x, (its e l bs).getLast? = some x → wE e l x = 0 ∧ x.m ≤ x.d ∧ ∃ C, bs.getLast? = some C ∧ x.d = C.e) := by
  induction h with
  | nil => exact ⟨trivial, fun _ z => (nomatch z), fun _ z => (nomatch z), fun _ z => (nomatch z)⟩
  | @snoc bs B h1 h2 h3 h4 h5 ih =>
    obtain ⟨i1, i2, i3, i4⟩ := ih
    have sub : ∀ w ∈ B.ws, w ∈ ws := fun w hw => by rw [h3] at hw; exact List.mem_of_mem_drop (List.mem_of_mem_take hw)
    have pw : B.ws.Pairwise fun v w => v.m < w.m := by
      rw [h3]
      exact (hi.sublist (List.drop_sublist _ _)).sublist (List.take_sublist _ _)
    obtain ⟨gw1, gw2⟩ := good_wait e0 l0 (fun w hw => hs w (sub w hw)) h2
    obtain ⟨j1, j2, j3, j4⟩ := itB_sys B.ws B.b 0 (fun w hw => hs w (sub w hw)) pw gw1
    have hne := h2.ne
    have head : ∀ x, (itB e l B.b 0 B.ws).head? = some x → wB e l x = 0 ∧ x.b ≤ x.m ∧ x.b = B.b := by
      intro x hx
      obtain ⟨q1, q2⟩ := j3 x hx
      refine ⟨q1, ?_, q2⟩
      cases hB : B.ws with
      | nil => exact absurd hB hne
      | cons w us =>
        rw [hB] at hx
        cases hx
        rw [hB] at h2
        exact good_first e0 l0 (hs w (sub w (by rw [hB]; simp))) h2
    have last : ∀ x, (itB e l B.b 0 B.ws).getLast? = some x → wE e l x = 0 ∧ x.m ≤ x.d ∧ x.d = B.e := by
      intro x hx
      obtain ⟨q1, q2⟩ := j4 x hx
      refine ⟨by rw [q1, gw2], ?_, q2⟩
      rcases List.eq_nil_or_concat B.ws with z | ⟨us, w, z⟩
      · exact absurd z hne
      · rw [List.concat_eq_append] at z
        have ex : x.m = w.m := by
          have e1 : ((itB e l B.b 0 B.ws).map fun x => (x.m, x.s)).getLast? = some (x.m, x.s) := by rw [List.getLast?_map, hx]; rfl
          rw [itB_ms, z, List.map_append, List.map_cons, List.map_nil, List.getLast?_concat] at e1
          exact (congrArg Prod.fst (Option.some.inj e1)).symm
        rw [ex, q2, z]
        rw [z] at h2
        exact good_last e0 l0 (hs w (sub w (by rw [z]; simp))) h2
    have ne : itB e l B.b 0 B.ws ≠ [] := by
      cases hB : B.ws with
      | nil => exact absurd hB hne
      | cons w us => simp [itB]
    refine ⟨?_, ?_, ?_, ?_⟩
    · rw [its_app]
      refine chn_app i1 j1 fun x y hx' hy' => ?_
      obtain ⟨a1, a2, C, a3, a4⟩ := i4 x hx'
      obtain ⟨b1, b2, b3⟩ := head y hy'
      refine ⟨?_, .inr ⟨?_, a1, b1, a2, b2⟩⟩
      · -- wishes in order
        have ms := its_ms e l h1
        have xm : (x.m, x.s) ∈ (ws.take B.i).map fun w => (w.m, w.s) := by
          rw [← ms]; exact List.mem_map.mpr ⟨x, List.mem_of_getLast? hx', rfl⟩
        have ym : (y.m, y.s) ∈ B.ws.map fun w => (w.m, w.s) := by
          rw [← itB_ms e l B.ws B.b 0]; exact List.mem_map.mpr ⟨y, List.mem_of_head? hy', rfl⟩
        obtain ⟨u, hu, eu⟩ := List.mem_map.mp xm
        obtain ⟨w, hw, ew⟩ := List.mem_map.mp ym
        have hw2 : w ∈ ws.drop B.i := by rw [h3] at hw; exact List.mem_of_mem_take hw
        have := hi
        rw [← List.take_append_drop B.i ws, List.pairwise_append] at this
        have lt := this.2.2 u hu w hw2
        have e1 : u.m = x.m := congrArg Prod.fst eu
        have e2 : w.m = y.m := congrArg Prod.fst ew
        rw [← e1, ← e2]
        exact lt
      · rw [a4, b3]; exact h5 C a3
    · intro x hx
      rw [its_app] at hx
      rcases List.mem_append.mp hx with hx | hx
      · exact i2 x hx
      · exact j2 x hx
    · intro x hx
      rw [its_app] at hx
      cases hb : its e l bs with
      | nil =>
        rw [hb, List.nil_append] at hx
        obtain ⟨q1, q2, _⟩ := head x hx
        exact ⟨q1, q2⟩
      | cons y ys =>
        rw [hb, List.cons_append, List.head?_cons] at hx
        exact i3 x (by rw [hb, List.head?_cons]; exact hx)
    · intro x hx
      rw [its_app, last_app ne] at hx
      obtain ⟨q1, q2, q3⟩ := last x hx
      exact ⟨q1, q2, B, by rw [List.getLast?_concat], q3⟩
def itD : It := ⟨0, 0, 0, 0⟩
theorem sysF {ws : List W} {bs : List Bk} {n : Nat} {e l : Rat} (e0 : 0 < e) (l0 : 0 < l) (hs : ∀ w ∈ ws, 0 < w.s) (hi : ws.Pairwise fun v w => v.m < w.m) (h : Ok ws (lam e l) bs n) : SysF e l n fun i => (its e l bs).getD i itD := by
  obtain ⟨h1, h2, h3, h4⟩ := its_sys e0 l0 hs hi h
  have len : (its e l bs).length = n := by
    have := costs_len e l h
    rw [← its_c, List.length_map] at this
    exact this
  have gt : ∀ i (hi : i < n), (its e l bs).getD i itD = (its e l bs)[i]'(by omega) := fun i hi => by
    rw [List.getD_eq_getElem?_getD, List.getElem?_eq_getElem (by omega)]; rfl
  refine ⟨e0, l0, fun i hi => ?_, fun i hi => ?_, fun i hi => ?_, fun hn => ?_, fun hn => ?_⟩
  · simp only [gt i hi]; exact (h2 _ (List.getElem_mem _)).1
  · simp only [gt i hi]; exact (h2 _ (List.getElem_mem _)).2
  · simp only [gt i (by omega), gt (i + 1) hi]
    exact chn_get h1 i _ _ (List.getElem?_eq_getElem (by omega)) (List.getElem?_eq_getElem (by omega))
  · simp only [gt 0 hn]
    exact h3 _ (by rw [List.head?_eq_getElem?, List.getElem?_eq_getElem (by omega)])
  · simp only [gt (n - 1) (by omega)]
    obtain ⟨q1, q2, _⟩ := h4 _ (by rw [List.getLast?_eq_getElem?, List.getElem?_eq_getElem (by omega)])
    simp only [len] at q1 q2
    exact ⟨q1, q2⟩
/-- troubles: greater heaps make none less -/
theorem costs_mono {ws us : List W} {bs cs : List Bk} {e l : Rat} (e0 : 0 < e) (l0 : 0 < l) (hs : ∀ w ∈ ws, 0 < w.s) (hi : ws.Pairwise fun v w => v.m < w.m) (h : Ok ws (lam e l) bs ws.length)
    (ks : ∀ w ∈ us, 0 < w.s) (ki : us.Pairwise fun v w => v.m < w.m) (k : Ok us (lam e l) cs us.length) (hl : ws.length = us.length) (hle : ∀ (i : Nat) (w u : W), ws[i]? = some w → us[i]? = some u → w.m = u.m ∧ w.s ≤ u.s) :
    ∀ (i : Nat) (a b : Rat), (costs e l bs)[i]? = some a → (costs e l cs)[i]? = some b → a ≤ b := by
  intro i a b ha hb
  have hx := sysF e0 l0 hs hi h
  have hy := sysF e0 l0 ks ki k
  rw [← hl] at hy
  have lx : (its e l bs).length = ws.length := by have := costs_len e l h; rw [← its_c, List.length_map] at this; exact this
  have ly : (its e l cs).length = us.length := by have := costs_len e l k; rw [← its_c, List.length_map] at this; exact this
  have gx : ∀ i, i < ws.length → ∃ x w, (its e l bs)[i]? = some x ∧ (its e l bs).getD i itD = x ∧ ws[i]? = some w ∧ x.m = w.m ∧ x.s = w.s := by
    intro i hi
    have ms := congrArg (fun L : List (Rat × Rat) => L[i]?) (its_ms e l h)
    simp only [List.getElem?_map, List.take_length] at ms
    rw [List.getElem?_eq_getElem (by omega), List.getElem?_eq_getElem hi] at ms
    have := Option.some.inj ms
    exact ⟨_, _, List.getElem?_eq_getElem (by omega), by rw [List.getD_eq_getElem?_getD, List.getElem?_eq_getElem (by omega)]; rfl, List.getElem?_eq_getElem hi, congrArg Prod.fst this, congrArg Prod.snd this⟩
  have gy : ∀ i, i < us.length → ∃ x w, (its e l cs)[i]? = some x ∧ (its e l cs).getD i itD = x ∧ us[i]? = some w ∧ x.m = w.m ∧ x.s = w.s := by
    intro i hi
    have ms := congrArg (fun L : List (Rat × Rat) => L[i]?) (its_ms e l k)
    simp only [List.getElem?_map, List.take_length] at ms
    rw [List.getElem?_eq_getElem (by omega), List.getElem?_eq_getElem hi] at ms
    have := Option.some.inj ms
    exact ⟨_, _, List.getElem?_eq_getElem (by omega), by rw [List.getD_eq_getElem?_getD, List.getElem?_eq_getElem (by omega)]; rfl, List.getElem?_eq_getElem hi, congrArg Prod.fst this, congrArg Prod.snd this⟩
  have key := SysF.mono hx hy (fun i hi => by
    obtain ⟨x, w, _, q1, q2, q3, q4⟩ := gx i hi
    obtain ⟨y, u, _, r1, r2, r3, r4⟩ := gy i (by omega)
    simp only [q1, r1, q3, r3]
    exact (hle i w u q2 r2).1) (fun i hi => by
    obtain ⟨x, w, _, q1, q2, q3, q4⟩ := gx i hi
    obtain ⟨y, u, _, r1, r2, r3, r4⟩ := gy i (by omega)
    simp only [q1, r1, q4, r4]
    exact (hle i w u q2 r2).2)
  rw [← its_c, List.getElem?_map] at ha hb
  have hi' : i < ws.length := by
    by_cases c : i < ws.length
    · exact c
    · rw [List.getElem?_eq_none (by omega)] at ha; cases ha
  obtain ⟨x, w, q0, q1, _⟩ := gx i hi'
  obtain ⟨y, u, r0, r1, _⟩ := gy i (by omega)
  rw [q0] at ha
  rw [r0] at hb
  have := key i hi'
  simp only [q1, r1] at this
  cases ha
  cases hb
  exact this
end KX

set_option Elab.async false
set_option linter.all false
set_option maxRecDepth 100000
set_option maxHeartbeats 4000000
set_option autoImplicit false
namespace KX
/-! ### put off, made wider together -/
structure Shf (f : W → W) (β : Rat) : Prop where
  m : ∀ w, (f w).m = w.m + β
  s : ∀ w, (f w).s = w.s
section
variable {f : W → W} {β : Rat} {ws : List W}
theorem tot_map (hf : Shf f β) : ∀ us : List W, tot (us.map f) = tot us
  | [] => rfl
  | u :: us => by rw [List.map_cons, tot_cons, tot_cons, tot_map hf us, hf.s]
theorem E_map (hf : Shf f β) : ∀ (us : List W) (b : Rat), E (us.map f) (b + β) = E us b
  | [], _ => rfl
  | u :: us, b => by
    rw [List.map_cons, E_cons, E_cons, hf.s]
    have e1 : eterm (b + β) (f u, 0) = eterm b (u, 0) := by
      unfold eterm
      simp only
      rw [hf.m, hf.s]
      have : u.m + β - (b + β + 0) = u.m - (b + 0) := by grind
      rw [this]
    have e2 : b + β + u.s = (b + u.s) + β := by grind
    rw [e1, e2, E_map hf us]
theorem isBegin_map (hf : Shf f β) {us : List W} {x b : Rat} (h : IsBegin us x b) : IsBegin (us.map f) x (b + β) := by
  refine ⟨by rw [E_map hf]; exact h.eq, fun c hc => ?_⟩
  have := h.lt (c - β) (by grind)
  rw [← E_map hf us] at this
  have e : c - β + β = c := by grind
  rw [e] at this
  exact this
theorem beginQ_map (hf : Shf f β) {us : List W} {v : Rat} (h : ∃ b, IsBegin us (v * tot us) b) : beginQ v (us.map f) = beginQ v us + β := by
  obtain ⟨b, hb⟩ := h
  rw [beginQ_eq hb]
  apply beginQ_eq
  rw [tot_map hf]
  exact isBegin_map hf hb
def mapB (f : W → W) (β : Rat) (B : Bk) : Bk := ⟨B.b + β, B.i, B.ws.map f⟩
theorem sl_map (f : W → W) (ws : List W) (i j : Nat) : sl (ws.map f) i j = (sl ws i j).map f := by unfold sl; rw [← List.map_drop, List.map_take]
theorem mapB_e (hf : Shf f β) (B : Bk) : (mapB f β B).e = B.e + β := by
  unfold Bk.e mapB
  simp only
  rw [tot_map hf]; grind
theorem pushQ_map (hf : Shf f β) {v : Rat} {n : Nat} (hex : ∀ i, i ≤ n → ∃ b, IsBegin (sl ws i (n + 1)) (v * tot (sl ws i (n + 1))) b) : ∀ (cs : List Bk) (i : Nat) (b : Rat), (∀ C ∈ cs, C.i ≤ n) → pushQ v (ws.map f) n (cs.map (mapB f β)) i (b + β) = (pushQ v ws n cs i b).map (mapB f β)
  | [], i, b, _ => by
    show [Bk.mk (b + β) i (sl (ws.map f) i (n + 1))] = [mapB f β ⟨b, i, sl ws i (n + 1)⟩]
    rw [sl_map]; rfl
  | C :: cs, i, b, h => by
    rw [List.map_cons, pushQ, pushQ, mapB_e hf]
    have iff : C.e + β < b + β ↔ C.e < b := by constructor <;> intro h <;> grind
    by_cases c : C.e < b
    · rw [if_pos c, if_pos (iff.mpr c), sl_map]; rfl
    · rw [if_neg c, if_neg (fun z => c (iff.mp z))]
      have hC := h C (by simp)
      have := pushQ_map hf hex cs C.i (beginQ v (sl ws C.i (n + 1))) fun D hD => h D (by simp [hD])
      rw [← this, sl_map, show (mapB f β C).i = C.i from rfl, beginQ_map hf (hex C.i hC)]
theorem pushQ_idx {v : Rat} {n : Nat} : ∀ (cs : List Bk) (i : Nat) (b : Rat), i ≤ n → (∀ C ∈ cs, C.i ≤ n) → ∀ C ∈ pushQ v ws n cs i b, C.i ≤ n
  | [], i, b, hi, _, C, hC => by
    rw [pushQ, List.mem_singleton] at hC; subst hC; exact hi
  | D :: cs, i, b, hi, h, C, hC => by
    rw [pushQ] at hC
    split at hC
    · rcases List.mem_cons.mp hC with rfl | hC
      · exact hi
      · exact h C hC
    · exact pushQ_idx cs D.i _ (h D (by simp)) (fun C hC => h C (by simp [hC])) C hC
theorem blkQ_idx {v : Rat} : ∀ n, ∀ C ∈ blkQ v ws n, C.i < n
  | 0, C, h => nomatch h
  | n + 1, C, h => by
    have := pushQ_idx (ws := ws) (blkQ v ws n) n _ (Nat.le_refl _) (fun C hC => Nat.le_of_lt (blkQ_idx n C hC)) C h
    omega
theorem blkQ_map (hf : Shf f β) {v : Rat} : ∀ n, (∀ k, k < n → ∀ i, i ≤ k → ∃ b, IsBegin (sl ws i (k + 1)) (v * tot (sl ws i (k + 1))) b) → blkQ v (ws.map f) n = (blkQ v ws n).map (mapB f β)
  | 0, _ => rfl
  | n + 1, h => by
    rw [blkQ, blkQ, blkQ_map hf n fun k hk => h k (by omega), sl_map, beginQ_map hf (h n (by omega) n (Nat.le_refl _))]
    exact pushQ_map hf (h n (by omega)) _ _ _ fun C hC => Nat.le_of_lt (blkQ_idx n C hC)
theorem blks_map (hf : Shf f β) {v : Rat} (h : ∀ k, k < ws.length → ∀ i, i ≤ k → ∃ b, IsBegin (sl ws i (k + 1)) (v * tot (sl ws i (k + 1))) b) : blks v (ws.map f) = (blks v ws).map (mapB f β) := by
  unfold blks
  rw [List.length_map, blkQ_map hf _ h, List.map_reverse]
def shP (β : Rat) (p : Pc) : Pc := ⟨p.i, p.b + β, p.u + β, p.w, p.g⟩
theorem mid_map (hf : Shf f β) (h : Rat) (w : W) : mid (h + β) (f w) = mid h w + β := by
  unfold mid mx mn
  rw [hf.m, hf.s]
  grind
theorem nextw_map (hf : Shf f β) (e l h wt : Rat) (w : W) : nextw e l (h + β) wt (f w) = nextw e l h wt w := by
  unfold nextw
  rw [mid_map hf, hf.s]
  have e1 : mid h w + β - (h + β) = mid h w - h := by grind
  have e2 : h + β + w.s - (mid h w + β) = h + w.s - mid h w := by grind
  rw [e1, e2]
theorem pc1_map (hf : Shf f β) (e l : Rat) (i : Nat) (h wt : Rat) (w : W) : pc1 e l i (h + β) wt (f w) = (pc1 e l i h wt w).map (shP β) := by
  unfold pc1
  rw [mid_map hf, hf.s]
  have e0 : mid h w + β - (h + β) = mid h w - h := by grind
  have e3 : h + β + w.s = h + w.s + β := by grind
  have e1 : (h + β < mid h w + β) = (h < mid h w) := propext ⟨fun z => by grind, fun z => by grind⟩
  have e2 : (mid h w + β < h + w.s + β) = (mid h w < h + w.s) := propext ⟨fun z => by grind, fun z => by grind⟩
  rw [e0, e3]
  by_cases c1 : h < mid h w <;> by_cases c2 : mid h w < h + w.s <;> simp [e1, e2, c1, c2, shP]
theorem pcs_map (hf : Shf f β) (e l : Rat) : ∀ (us : List W) (i : Nat) (h wt : Rat), pcs e l i (h + β) wt (us.map f) = (pcs e l i h wt us).map (shP β)
  | [], _, _, _ => rfl
  | u :: us, i, h, wt => by
    rw [List.map_cons, pcs, pcs, pc1_map hf, nextw_map hf, hf.s, List.map_append]
    have e1 : h + β + u.s = h + u.s + β := by grind
    rw [e1, pcs_map hf e l us]
theorem allP_map (hf : Shf f β) (e l : Rat) (bs : List Bk) : allP e l (bs.map (mapB f β)) = (allP e l bs).map (shP β) := by
  unfold allP
  rw [List.flatMap_map, List.map_flatMap]
  congr 1
  funext B
  exact pcs_map hf e l B.ws B.i B.b 0
theorem costB_map (hf : Shf f β) (e l : Rat) : ∀ (us : List W) (h wt : Rat), costB e l (h + β) wt (us.map f) = costB e l h wt us
  | [], _, _ => rfl
  | u :: us, h, wt => by
    rw [List.map_cons, costB, costB, nextw_map hf, hf.s, hf.m]
    have e1 : h + β + u.s = h + u.s + β := by grind
    have e2 : sorrowQ e l (u.m + β) (h + β) = sorrowQ e l u.m h := by
      unfold sorrowQ
      have : u.m + β - (h + β) = u.m - h := by grind
      rw [this]
    rw [e1, e2, costB_map hf e l us]
theorem costs_map (hf : Shf f β) (e l : Rat) (bs : List Bk) : costs e l (bs.map (mapB f β)) = costs e l bs := by
  unfold costs
  rw [List.flatMap_map]
  congr 1
  funext B
  exact costB_map hf e l B.ws B.b 0
end
/-! ### one wish alone -/
theorem alone_blks (v : Rat) (w : W) : blks v [w] = [⟨beginQ v [w], 0, [w]⟩] := rfl
theorem alone_begin {v b : Rat} {w : W} (v0 : 0 < v) (v1 : v < 1) (hs : 0 < w.s) (h : IsBegin [w] (v * tot [w]) b) : w.m - b = v * w.s := by
  have q := h.eq
  have p1 : v * w.s < 1 * w.s := Rat.mul_lt_mul_of_pos_right v1 hs
  have p0 : 0 < v * w.s := Rat.mul_pos v0 hs
  rw [E_cons, E_nil, tot_cons, tot_nil] at q
  unfold eterm mx mn at q
  simp only at q
  grind
end KX

set_option Elab.async false
set_option linter.all false
set_option maxRecDepth 100000
set_option maxHeartbeats 4000000
set_option autoImplicit false
namespace KX
/-! ### comers: later, more at a time -/
theorem pc1_slow {e l : Rat} (e0 : 0 < e) {i : Nat} {h wt : Rat} {w : W} (hs : 0 < w.s) {p : Pc} (hp : p ∈ pc1 e l i h wt w) : h ≤ p.b ∧ p.b < p.u ∧ p.w ≤ wt + e * (p.b - h) := by
  unfold pc1 at hp
  have ml := mid_lo (h := h) (w := w)
  rcases List.mem_append.mp hp with hp | hp
  · split at hp
    · rename_i c
      rw [List.mem_singleton] at hp; subst hp
      refine ⟨Rat.le_refl, c, ?_⟩
      simp only; grind
    · cases hp
  · split at hp
    · rename_i c
      rw [List.mem_singleton] at hp; subst hp
      exact ⟨ml, c, Rat.le_refl⟩
    · cases hp
theorem nextw_slow {e l : Rat} (l0 : 0 < l) {h wt : Rat} {w : W} (hs : 0 < w.s) (e0 : 0 < e) : nextw e l h wt w ≤ wt + e * w.s := by
  have ml := mid_lo (h := h) (w := w)
  have mh := mid_hi (h := h) (w := w) (Rat.le_of_lt hs)
  have p1 : 0 ≤ l * (h + w.s - mid h w) := Rat.mul_nonneg (Rat.le_of_lt l0) (by grind)
  have p2 : 0 ≤ e * (h + w.s - mid h w) := Rat.mul_nonneg (Rat.le_of_lt e0) (by grind)
  unfold nextw
  grind
theorem pcs_slow {e l : Rat} (e0 : 0 < e) (l0 : 0 < l) : ∀ (ws : List W) (i : Nat) (h wt : Rat), (∀ w ∈ ws, 0 < w.s) → ∀ p ∈ pcs e l i h wt ws, h ≤ p.b ∧ p.b < p.u ∧ p.w ≤ wt + e * (p.b - h)
  | [], _, _, _, _, p, hp => nomatch hp
  | w :: ws, i, h, wt, hs, p, hp => by
    have sp := hs w (by simp)
    rcases List.mem_append.mp hp with hp | hp
    · exact pc1_slow e0 sp hp
    · obtain ⟨q1, q2, q3⟩ := pcs_slow e0 l0 ws (i + 1) (h + w.s) (nextw e l h wt w) (fun x hx => hs x (by simp [hx])) p hp
      have := nextw_slow l0 sp e0 (h := h) (wt := wt)
      refine ⟨by grind, q2, by grind⟩
/-- the first piece's begin is the first stretch's -/
theorem pcs_head {e l : Rat} {ws : List W} {i : Nat} {h wt : Rat} (hs : ∀ w ∈ ws, 0 < w.s) (hn : ws ≠ []) : ∃ p r, pcs e l i h wt ws = p :: r ∧ p.b = h := by
  cases ws with
  | nil => exact absurd rfl hn
  | cons w ws =>
    obtain ⟨p, r, e1, e2, _⟩ := pc1_first e l i h wt w (hs w (by simp))
    exact ⟨p, r ++ pcs e l (i + 1) (h + w.s) (nextw e l h wt w) ws, by rw [pcs, e1]; rfl, e2⟩
theorem Ok.first {ws : List W} {v : Rat} {bs : List Bk} {n : Nat} (h : Ok ws v bs n) (hs : ∀ w ∈ ws, 0 < w.s) : ∀ C, bs.head? = some C → ∀ B ∈ bs, C.b ≤ B.b ∧ C.b ≤ B.e := by
  induction h with
  | nil => intro C h; cases h
  | @snoc bs B h1 h2 h3 h4 h5 ih =>
    have sub : ∀ w ∈ B.ws, w ∈ ws := fun w hw => by rw [h3] at hw; exact List.mem_of_mem_drop (List.mem_of_mem_take hw)
    have tb : 0 < tot B.ws := tot_pos (fun w hw => hs w (sub w hw)) h2.ne
    intro C hC D hD
    cases bs with
    | nil =>
      rw [List.nil_append, List.head?_cons] at hC
      cases hC
      rw [List.nil_append, List.mem_singleton] at hD
      subst hD
      refine ⟨Rat.le_refl, by unfold Bk.e; grind⟩
    | cons A bs =>
      have hC' : (A :: bs).head? = some C := by rw [List.cons_append, List.head?_cons] at hC; rw [List.head?_cons]; exact hC
      rcases List.mem_append.mp hD with hD | hD
      · exact ih C hC' D hD
      · rw [List.mem_singleton] at hD
        subst hD
        obtain ⟨z, hz⟩ : ∃ z, (A :: bs).getLast? = some z := ⟨_, List.getLast?_eq_some_getLast (by simp)⟩
        have l1 := h5 z hz
        have l2 := (ih C hC' z (List.mem_of_getLast? hz)).2
        refine ⟨by grind, by unfold Bk.e at *; grind⟩
theorem allP_head {ws : List W} {v e l : Rat} {bs : List Bk} {n : Nat} (h : Ok ws v bs n) (hs : ∀ w ∈ ws, 0 < w.s) (hn : bs ≠ []) : ∃ C p, bs.head? = some C ∧ (allP e l bs).head? = some p ∧ p.b = C.b := by
  cases bs with
  | nil => exact absurd rfl hn
  | cons C bs =>
    obtain ⟨gC, sC, _⟩ := h.mem C (by simp)
    obtain ⟨p, r, e1, e2⟩ := pcs_head (e := e) (l := l) (i := C.i) (h := C.b) (wt := 0) (fun w hw => hs w (by rw [sC] at hw; exact List.mem_of_mem_drop (List.mem_of_mem_take hw))) gC.ne
    refine ⟨C, p, rfl, ?_, e2⟩
    unfold allP
    rw [List.flatMap_cons, e1]; rfl
/-- when nobody would have to be there ahead of moment 0, nobody is -/
theorem come_nonneg {ws : List W} {v e l : Rat} {bs : List Bk} {n L : Nat} (h : Ok ws v bs n) (hs : ∀ w ∈ ws, 0 < w.s) (e0 : 0 < e) (e1 : e < 1) (l0 : 0 < l) (hC : ∀ C, bs.head? = some C → (L : Rat) ≤ C.b) :
    ∀ p ∈ allP e l bs, 0 ≤ comeQ L p p.b ∧ 0 < comeQ L p p.u := by
  intro p hp
  obtain ⟨B, hB, hpB⟩ := List.mem_flatMap.mp hp
  obtain ⟨gB, sB, _⟩ := h.mem B hB
  obtain ⟨q1, q2, q3⟩ := pcs_slow e0 l0 B.ws B.i B.b 0 (fun w hw => hs w (by rw [sB] at hw; exact List.mem_of_mem_drop (List.mem_of_mem_take hw))) p hpB
  cases hb : bs with
  | nil => rw [hb] at hB; cases hB
  | cons C cs =>
    have c1 := (h.first hs C (by rw [hb]; rfl) B hB).1
    have c2 := hC C (by rw [hb]; rfl)
    have g0 : 0 < 1 - p.g := by rcases allP_g hp with z | z <;> rw [z] <;> grind
    have m1 : 0 ≤ (1 - e) * (p.b - B.b) := Rat.mul_nonneg (by grind) (by grind)
    have m2 : 0 < (1 - p.g) * (p.u - p.b) := Rat.mul_pos g0 (by grind)
    have z1 : 0 ≤ comeQ L p p.b := by unfold comeQ; grind
    refine ⟨z1, ?_⟩
    unfold comeQ at z1 ⊢
    grind
def putOff (β : Rat) (cs : List (Rat × Rat)) : List (Rat × Rat) := (0, 0) :: ((cs.filter fun c => decide (0 < c.1) || decide (0 < c.2)).map fun c => (c.1 + β, c.2))
theorem comeQ_map (L : Nat) (β : Rat) (p : Pc) (t : Rat) : comeQ L (shP β p) (t + β) = comeQ L p t + β := by
  unfold comeQ shP
  simp only
  have : t + β - (p.b + β) = t - p.b := by grind
  rw [this]; grind
theorem mine_map (β : Rat) (ps : List Pc) (i : Nat) : mine (ps.map (shP β)) i = (mine ps i).map (shP β) := by
  unfold mine
  rw [List.filter_map]; rfl
theorem rows_map (R L : Nat) (β : Rat) (ps : List Pc) (i : Nat) : rowsOf R L (ps.map (shP β)) i = (rowsOf R L ps i).map fun c => (c.1 + β, c.2) := by
  unfold rowsOf
  rw [mine_map, List.map_map, List.map_map]
  apply List.map_congr_left
  intro p _
  show (comeQ L (shP β p) (p.b + β), rateQ R (shP β p)) = (comeQ L p p.b + β, rateQ R p)
  rw [comeQ_map]; rfl
theorem end_map (L : Nat) (β : Rat) (ps : List Pc) (i : Nat) (h : mine ps i ≠ []) : endOf L (ps.map (shP β)) i = endOf L ps i + β := by
  unfold endOf
  rw [mine_map, List.getLast?_map]
  obtain ⟨z, hz⟩ : ∃ z, (mine ps i).getLast? = some z := ⟨_, List.getLast?_eq_some_getLast h⟩
  rw [hz]
  exact comeQ_map L β z z.u
theorem rate_pos {R : Nat} (hR : 0 < R) {p : Pc} (h : 0 < 1 - p.g) : 0 < rateQ R p := by
  unfold rateQ
  rw [Rat.div_def]
  exact Rat.mul_pos (Rat.natCast_pos.mpr hR) (Rat.inv_pos.mpr h)
theorem comers_put {R L : Nat} {β : Rat} {ps : List Pc} {i : Nat} (hβ : 0 < β) (hR : 0 < R) (hne : mine ps i ≠ []) (hg : ∀ p ∈ ps, 0 < 1 - p.g) (hc : ∀ p ∈ ps, 0 ≤ comeQ L p p.b ∧ 0 < comeQ L p p.u) :
    comersOf R L (ps.map (shP β)) i = putOff β (comersOf R L ps i) := by
  have hm : ∀ p ∈ mine ps i, p ∈ ps := fun p hp => (List.mem_filter.mp hp).1
  have en : 0 < endOf L ps i := by
    unfold endOf
    obtain ⟨z, hz⟩ : ∃ z, (mine ps i).getLast? = some z := ⟨_, List.getLast?_eq_some_getLast hne⟩
    rw [hz]
    exact (hc z (hm z (List.mem_of_getLast? hz))).2
  have rp : ∀ c ∈ rowsOf R L ps i, 0 ≤ c.1 ∧ 0 < c.2 := by
    intro c hc'
    obtain ⟨p, hp, rfl⟩ := List.mem_map.mp hc'
    exact ⟨(hc p (hm p hp)).1, rate_pos hR (hg p (hm p hp))⟩
  have rne : rowsOf R L ps i ≠ [] := fun z => hne (List.map_eq_nil_iff.mp z)
  unfold comersOf
  rw [rows_map, end_map L β ps i hne]
  generalize rowsOf R L ps i = rows at *
  generalize endOf L ps i = en' at *
  unfold comersQ putOff
  have h1 : ((rows.map fun c => (c.1 + β, c.2)).head?.map (·.1)) ≠ some 0 := by
    cases rows with
    | nil => exact absurd rfl rne
    | cons c rows =>
      have := (rp c (by simp)).1
      intro z
      have : c.1 + β = 0 := by simpa using z
      grind
  rw [if_neg h1]
  have fl : (rows ++ [(en', (0 : Rat))]).filter (fun c => decide (0 < c.1) || decide (0 < c.2)) = rows ++ [(en', 0)] := by
    rw [List.filter_eq_self]
    intro c hc'
    rcases List.mem_append.mp hc' with hc' | hc'
    · simp [(rp c hc').2]
    · rw [List.mem_singleton] at hc'; subst hc'; simp [en]
  split
  · rw [List.nil_append, fl, List.map_append]; rfl
  · rw [List.append_assoc, List.append_assoc, List.filter_append, fl]
    simp
def timesAs (k : Rat) (cs : List (Rat × Rat)) : List (Rat × Rat) := cs.map fun c => (c.1, c.2 * k)
theorem comers_times {R k L : Nat} {ps : List Pc} {i : Nat} : comersOf (k * R) L ps i = timesAs k (comersOf R L ps i) := by
  have er : rowsOf (k * R) L ps i = (rowsOf R L ps i).map fun c => (c.1, c.2 * (k : Rat)) := by
    unfold rowsOf
    rw [List.map_map]
    apply List.map_congr_left
    intro p _
    show (comeQ L p p.b, rateQ (k * R) p) = (comeQ L p p.b, rateQ R p * (k : Rat))
    unfold rateQ
    rw [Rat.natCast_mul, Rat.div_def, Rat.div_def]
    congr 1; grind
  unfold comersOf comersQ timesAs
  rw [er]
  have hh : ((rowsOf R L ps i).map fun c => (c.1, c.2 * (k : Rat))).head?.map (·.1) = (rowsOf R L ps i).head?.map (·.1) := by
    cases rowsOf R L ps i <;> rfl
  rw [hh]
  split <;> simp [Rat.zero_mul]
end KX

set_option Elab.async false
set_option linter.all false
set_option maxRecDepth 100000
set_option maxHeartbeats 4000000
set_option autoImplicit false
namespace KX
open PySem PySem.Spec PyProof.Rows L2 TD
section
variable {N V R L : Nat} {e l : Rat} {ws : List W} {S : Sto} {d a b : D}
def half : Rat := Rat.divInt 1 2
theorem rep_half : D.tup [.int 1, .int 2] = rep half := by
  have h1 : half.num = 1 := by decide +kernel
  have h2 : half.den = 2 := by decide +kernel
  unfold rep
  rw [h1, h2]; rfl
theorem half_two : half * 2 = 1 := by decide +kernel
def paid1 (R : Nat) (p : Pc) : Rat := (R : Rat) * ((p.u - p.b) * (p.w + p.g * ((p.u - p.b) * half)))
def paidQ (R : Nat) (ps : List Pc) : Rat := (ps.map (paid1 R)).sum
theorem half_G : G 2 1 half := ⟨1, by rw [show ((2 : Nat) : Rat) = 2 from rfl, half_two]; rfl, by decide⟩
theorem RG (hR : R < 2 ^ 60) : G 1 60 (R : Rat) := by
  have := Gd.int (N := 1) (R : Int) (B := 2 ^ 60) (by rw [Int.natAbs_natCast, Nat.mul_one]; exact Nat.le_of_lt hR)
  rw [Rat.intCast_natCast] at this
  exact this
theorem paid1_rep (hr : Road N V e l) (hR : R < 2 ^ 60) {p : Pc} (pg : PG N V p) :
    (∀ S : Sto, F_less [rep p.u, rep p.b] S = .ok (rep (p.u - p.b)) false S ∧ F_times [rep (p.u - p.b), rep half] S = .ok (rep ((p.u - p.b) * half)) false S ∧ F_times [rep p.g, rep ((p.u - p.b) * half)] S = .ok (rep (p.g * ((p.u - p.b) * half))) false S ∧ F_plus [rep p.w, rep (p.g * ((p.u - p.b) * half))] S = .ok (rep (p.w + p.g * ((p.u - p.b) * half))) false S ∧ F_times [rep (p.u - p.b), rep (p.w + p.g * ((p.u - p.b) * half))] S = .ok (rep ((p.u - p.b) * (p.w + p.g * ((p.u - p.b) * half)))) false S ∧ F_times [rep (R : Rat), rep ((p.u - p.b) * (p.w + p.g * ((p.u - p.b) * half)))] S = .ok (rep (paid1 R p)) false S) ∧ G (N * V * 60 * (N * V * 60 * V * 2)) 700 (paid1 R p) := by
  have hP := hr.hP
  have h2 : Nok 2 := ⟨by decide, by decide⟩
  have hM2 : Nok (N * V * 60 * V * 2) := ⟨by have := hr.hMV.p; omega, by
    have h3 : N * V * 60 * V * 2 ≤ N * V * 60 * (N * V * 60 * V * 2) := Nat.le_mul_of_pos_left _ hr.hM.p
    exact Nat.lt_of_le_of_lt (log2_mono h3) hP.l⟩
  have hM22 : Nok (N * V * 60 * 2) := ⟨by have := hr.hM.p; omega, by
    have h3 : N * V * 60 * 2 ≤ N * V * 60 * V * 2 := Nat.mul_le_mul_right _ (Nat.le_mul_of_pos_right _ hr.hV.p)
    exact Nat.lt_of_le_of_lt (log2_mono h3) hM2.l⟩
  have g1 := pg.u.sub pg.b
  have g2 : G (N * V * 60 * 2) 210 ((p.u - p.b) * half) := G.mul g1 half_G
  have g3 : G (N * V * 60 * V * 2) 270 (p.g * ((p.u - p.b) * half)) := by
    have := G.mul g2 pg.g
    rw [Rat.mul_comm, show N * V * 60 * 2 * V = N * V * 60 * V * 2 by rw [Nat.mul_right_comm]] at this
    exact this
  have g4 : G (N * V * 60 * V * 2) 292 (p.w + p.g * ((p.u - p.b) * half)) := (G.up (c := 1) 2 pg.w (by decide)).add (g3.mono (by decide))
  have g5 : G (N * V * 60 * (N * V * 60 * V * 2)) 501 ((p.u - p.b) * (p.w + p.g * ((p.u - p.b) * half))) := G.mul g1 g4
  have g6 : G (N * V * 60 * (N * V * 60 * V * 2)) 561 (paid1 R p) := by
    have := G.mul (RG hR) g5
    rw [Nat.one_mul] at this
    exact this
  have s1 := g1.sm hr.hM (by decide)
  have sh := half_G.sm h2 (by decide)
  refine ⟨fun S => ⟨less_rep (pg.u.sm hr.hM (by decide)) (pg.b.sm hr.hM (by decide)), times_rep s1 sh, times_rep (pg.g.sm hr.hV (by decide)) (g2.sm hM22 (by decide)), plus_rep (pg.w.sm hr.hMV (by decide)) (g3.sm hM2 (by decide)), times_rep s1 (g4.sm hM2 (by decide)), times_rep (Lsm hR) (g5.sm hP (by decide))⟩, g6.mono (by decide)⟩
theorem paid_rep (g : Giv N V R L ws e l d a b) : F_paid [.int R, .int L, d, a, b] S = .ok (rep (paidQ R (allP e l (blks (lam e l) ws)))) false S := by
  have ok := g.ok
  have pgs := g.pg
  have pc := g.pc (S := S)
  have n5 := g.w.n
  have plen := ok.plen e l
  generalize allP e l (blks (lam e l) ws) = ps at *
  apply fw_eq
  unfold F_paid m_paid
  simp only [wpsA, wpsB, List.map_cons, List.map_nil, List.length_cons, List.length_nil, List.replicate_succ, List.replicate_zero, List.cons_append, List.nil_append, List.getElem?_cons_zero, List.getElem?_cons_succ, List.set_cons_zero, List.set_cons_succ, ow_true, ow_false, if_true, if_false, Option.bind_some, true_and, and_true, Nat.zero_add, Nat.reduceAdd, Nat.reduceSub, Nat.reduceLeDiff, g.all, pc]
  refine wp_for (fun pre t S' => (∃ s9 s10 s11 s12 s13 s14 s15, t = [.sh (.int R), .sh (.int L), .sh d, .sh a, .sh b, .sh (.lst (ws.map encW)), .sh (rep e), .sh (rep l), .ow (.lst ((pre.map (paid1 R)).map rep)), s9, s10, s11, s12, s13, s14, s15]) ∧ S' = S) ⟨⟨_, _, _, _, _, _, _, rfl⟩, rfl⟩ (fun pre p post t S' eq ⟨⟨s9, s10, s11, s12, s13, s14, s15, h1⟩, h2⟩ => ?_) (fun t S' ⟨⟨s9, s10, s11, s12, s13, s14, s15, h1⟩, h2⟩ => ?_)
  · subst h1 h2
    have hp : p ∈ ps := by rw [← eq]; simp
    have pl : pre.length ≤ ps.length := by rw [← eq, List.length_append]; omega
    obtain ⟨h, _⟩ := paid1_rep g.r g.lR (pgs p hp)
    obtain ⟨f1, f2, f3, f4, f5, f6⟩ := h S'
    have fa : fApp [rep (paid1 R p)] (.lst ((pre.map (paid1 R)).map rep)) = some (.lst (((pre ++ [p]).map (paid1 R)).map rep), .non) := by
      rw [fApp_ok _ _ (by rw [List.length_map, List.length_map, lim_eq]; omega), List.map_append, List.map_append]; rfl
    unfold encP
    simp only [wpsA, wpsB, List.map_cons, List.map_nil, List.length_cons, List.length_nil, List.replicate_succ, List.replicate_zero, List.cons_append, List.nil_append, List.getElem?_cons_zero, List.getElem?_cons_succ, List.set_cons_zero, List.set_cons_succ, ow_true, ow_false, if_true, if_false, Option.bind_some, true_and, and_true, Nat.zero_add, Nat.reduceAdd, Nat.reduceSub, Nat.reduceLeDiff, f1, rep_half, f2, f3, f4, f5, rep_nat, f6, fa, show tyD "list" (.lst ((pre.map (paid1 R)).map rep)) = true from rfl]
    exact ⟨_, _, _, _, _, _, _, rfl⟩
  · subst h1 h2
    have sm := sum_of_G (S := S') (xs := ps.map (paid1 R)) (a := 700) g.r.hP (fun x hx => by
      obtain ⟨p, hp, rfl⟩ := List.mem_map.mp hx
      exact (paid1_rep g.r g.lR (pgs p hp)).2) (by decide) (by rw [List.length_map]; omega)
    simp only [wpsA, wpsB, List.map_cons, List.map_nil, List.length_cons, List.length_nil, List.replicate_succ, List.replicate_zero, List.cons_append, List.nil_append, List.getElem?_cons_zero, List.getElem?_cons_succ, List.set_cons_zero, List.set_cons_succ, ow_true, ow_false, if_true, if_false, Option.bind_some, true_and, and_true, Nat.zero_add, Nat.reduceAdd, Nat.reduceSub, Nat.reduceLeDiff, sm]
    rfl
/-! ### one wish alone -/
theorem paid_alone {v e l : Rat} {w : W} {b : Rat} (R : Nat) (e0 : 0 < e) (l0 : 0 < l) (hs : 0 < w.s) (h : IsBegin [w] (lam e l * tot [w]) b) :
    costs e l [⟨b, 0, [w]⟩] = [e * (lam e l * w.s)] ∧ paidQ R (allP e l [⟨b, 0, [w]⟩]) = (R : Rat) * w.s * (e * (lam e l * w.s)) * half := by
  have v0 := lam_pos e0 l0
  have v1 := lam_lt e0 l0
  have q := alone_begin v0 v1 hs h
  have p0 : 0 < lam e l * w.s := Rat.mul_pos v0 hs
  have p1 : lam e l * w.s < 1 * w.s := Rat.mul_lt_mul_of_pos_right v1 hs
  have md : mid b w = w.m := by unfold mid mx mn; grind
  have lm := lam_mul e0 l0
  constructor
  · show [0 + sorrowQ e l w.m b] = _
    unfold sorrowQ
    rw [if_pos (by grind), q, Rat.zero_add]
  · have hp : allP e l [⟨b, 0, [w]⟩] = [⟨0, b, w.m, 0, e⟩, ⟨0, w.m, b + w.s, 0 + e * (w.m - b), 0 - l⟩] := by
      show (pc1 e l 0 b 0 w ++ []) ++ [] = _
      rw [List.append_nil, List.append_nil]
      unfold pc1
      rw [md, if_pos (by grind), if_pos (by grind)]; rfl
    rw [hp]
    show (paid1 R ⟨0, b, w.m, 0, e⟩ + (paid1 R ⟨0, w.m, b + w.s, 0 + e * (w.m - b), 0 - l⟩ + 0)) = _
    unfold paid1
    simp only
    rw [q]
    have e2 : b + w.s - w.m = w.s - lam e l * w.s := by grind
    rw [e2]
    have e3 : l * (w.s - lam e l * w.s) = e * (lam e l * w.s) := by
      have : l * w.s = (e + l) * lam e l * w.s := by rw [lm]
      grind
    generalize lam e l * w.s = p at *
    have e4 : (0 - l) * ((w.s - p) * half) = 0 - e * p * half := by rw [← e3]; grind
    rw [e4]
    have hh := half_two
    grind
end
end KX

set_option Elab.async false
set_option linter.all false
set_option maxRecDepth 100000
set_option maxHeartbeats 4000000
set_option autoImplicit false
namespace KX
open PySem PySem.Spec PyProof.Rows L2 TD
open KD (StOk)
section
variable {r S : Sto} {n : Nat}
/-- k / j, for small j -/
theorem low6 {k j : Nat} (hj : j = 1 ∨ j = 2 ∨ j = 3) : ∃ x : Rat, F__law_low [.int k, .int j] S = .ok (rep x) false S ∧ x * 6 = ((k * (6 / j) : Nat) : Rat) ∧ ((∃ z, x * 6 = ((z : Nat) : Rat) ∧ z = k * (6 / j))) := by
  have h1 := low_rep (S := S) (k : Int) (j : Int) (by omega) (by rw [Int.natAbs_natCast]; rcases hj with rfl | rfl | rfl <;> decide)
  have key : Rat.divInt (k : Int) (j : Int) * 6 = ((k * (6 / j) : Nat) : Rat) := by
    rw [Rat.divInt_eq_div, Rat.intCast_natCast, Rat.intCast_natCast]
    rcases hj with rfl | rfl | rfl
    · have : ((1 : Nat) : Rat) = 1 := rfl
      have e : ((k * (6 / 1) : Nat) : Rat) = (k : Rat) * 6 := by rw [Rat.natCast_mul]; rfl
      rw [this, e]; grind
    · have : ((2 : Nat) : Rat) = 2 := rfl
      have e : ((k * (6 / 2) : Nat) : Rat) = (k : Rat) * 3 := by rw [Rat.natCast_mul]; rfl
      rw [this, e]; grind
    · have : ((3 : Nat) : Rat) = 3 := rfl
      have e : ((k * (6 / 3) : Nat) : Rat) = (k : Rat) * 2 := by rw [Rat.natCast_mul]; rfl
      rw [this, e]; grind
  exact ⟨_, h1, key, _, key, rfl⟩
theorem G6 {x : Rat} {i : Nat} (h : x * 6 = (i : Rat)) {a : Nat} (ha : i ≤ 2 ^ a) : G 6 a x := ⟨i, by rw [Rat.intCast_natCast]; exact h, by rw [Int.natAbs_natCast]; exact ha⟩
theorem nok6 : Nok 6 := ⟨by decide, by decide⟩
theorem sm6 {x : Rat} {i : Nat} (h : x * 6 = (i : Rat)) (hi : i ≤ 2 ^ 60) : Sm x := (G6 h hi).sm nok6 (by decide)
/-- rows of wishes, as drawn -/
structure Wr (c : Rat × Rat) : Prop where
  m : ∃ i : Nat, c.1 * 6 = (i : Rat) ∧ 360 ≤ i ∧ i ≤ 10000
  h : ∃ j : Nat, c.2 * 6 = (j : Rat) ∧ 1 ≤ j ∧ j ≤ 1000
theorem lt_of6 {x y : Rat} {i j : Nat} (h : x * 6 = (i : Rat)) (k : y * 6 = (j : Rat)) (hij : i < j) : x < y := by
  have := Rat.natCast_lt_natCast.mpr hij
  rw [← h, ← k] at this
  grind
theorem hd3 {d : D} {i j k : Nat} (hd : d ∈ [D.int i, .int j, .int k]) (hi : 1 ≤ i ∧ i ≤ 40) (hj : 1 ≤ j ∧ j ≤ 40) (hk : 1 ≤ k ∧ k ≤ 40) : ∃ m : Nat, d = .int m ∧ 1 ≤ m ∧ m ≤ 40 := by
  simp only [List.mem_cons, List.not_mem_nil, or_false] at hd
  rcases hd with rfl | rfl | rfl
  · exact ⟨i, rfl, hi⟩
  · exact ⟨j, rfl, hj⟩
  · exact ⟨k, rfl, hk⟩
theorem one_add (v : Nat) : ((1 : Int) + (v : Int)) = ((1 + v : Nat) : Int) := by omega
/-- wishes, as drawn -/
structure Ws (cs : List (Rat × Rat)) : Prop where
  r : ∀ c ∈ cs, Wr c
  i : cs.Pairwise fun c d => c.1 < d.1
  n : cs.length ≤ 5
  ne : cs ≠ []
theorem wishes_rep {n : Nat} (h : StOk n r S) (hn : n < 700000) : FW (F__law_wishes [.box 1, .int 5] S) fun d f S' => ∃ cs : List (Rat × Rat), d = .lst (cs.map encC) ∧ f = true ∧ StOk (n + 30) r S' ∧ Ws cs := by
  unfold F__law_wishes m__law_wishes
  simp only [wpsA, wpsB, List.map_cons, List.map_nil, List.length_cons, List.length_nil, List.replicate_succ, List.replicate_zero, List.cons_append, List.nil_append, List.getElem?_cons_zero, List.getElem?_cons_succ, List.set_cons_zero, List.set_cons_succ, ow_true, ow_false, if_true, if_false, Option.bind_some, true_and, and_true, Nat.zero_add, Nat.reduceAdd, Nat.reduceSub, Nat.reduceLeDiff]
  refine fw_mono (dr (many := 90) h (by omega) (by omega) (by omega)) ?_
  rintro d f S1 ⟨v, rfl, rfl, v1, h1⟩
  simp only [wpsA, wpsB, List.map_cons, List.map_nil, List.length_cons, List.length_nil, List.replicate_succ, List.replicate_zero, List.cons_append, List.nil_append, List.getElem?_cons_zero, List.getElem?_cons_succ, List.set_cons_zero, List.set_cons_succ, ow_true, ow_false, if_true, if_false, Option.bind_some, true_and, and_true, Nat.zero_add, Nat.reduceAdd, Nat.reduceSub, Nat.reduceLeDiff]
  refine fw_mono (pk h1 (by omega) (by simp) (by simp)) ?_
  rintro d f S2 ⟨hd, rfl, h2⟩
  have hd' : ∃ bt : Nat, d = .int bt ∧ (bt = 1 ∨ bt = 2 ∨ bt = 3) := by
    simp only [List.mem_cons, List.not_mem_nil, or_false] at hd
    rcases hd with rfl | rfl | rfl | rfl
    · exact ⟨1, rfl, .inl rfl⟩
    · exact ⟨1, rfl, .inl rfl⟩
    · exact ⟨2, rfl, .inr (.inl rfl)⟩
    · exact ⟨3, rfl, .inr (.inr rfl)⟩
  obtain ⟨bt, rfl, hb⟩ := hd'
  simp only [wpsA, wpsB, List.map_cons, List.map_nil, List.length_cons, List.length_nil, List.replicate_succ, List.replicate_zero, List.cons_append, List.nil_append, List.getElem?_cons_zero, List.getElem?_cons_succ, List.set_cons_zero, List.set_cons_succ, ow_true, ow_false, if_true, if_false, Option.bind_some, true_and, and_true, Nat.zero_add, Nat.reduceAdd, Nat.reduceSub, Nat.reduceLeDiff]
  refine fw_mono (dr (many := 5) h2 (by omega) (by omega) (by omega)) ?_
  rintro d f S3 ⟨q, rfl, rfl, q1, h3⟩
  simp only [wpsA, wpsB, List.map_cons, List.map_nil, List.length_cons, List.length_nil, List.replicate_succ, List.replicate_zero, List.cons_append, List.nil_append, List.getElem?_cons_zero, List.getElem?_cons_succ, List.set_cons_zero, List.set_cons_succ, ow_true, ow_false, if_true, if_false, Option.bind_some, true_and, and_true, Nat.zero_add, Nat.reduceAdd, Nat.reduceSub, Nat.reduceLeDiff]
  refine ⟨⟨by omega, by omega⟩, ?_⟩
  have c1 : ((1 : Int) + (q : Int)).toNat = 1 + q := by omega
  rw [c1, rng_map]
  have m0 : D.tup [.int (60 + (v : Int)), .int 1] = rep ((60 + v : Nat) : Rat) := by
    rw [← rep_nat, Int.natCast_add]; rfl
  rw [m0]
  refine wp_for (fun pre t S' => ∃ (cs : List (Rat × Rat)) (m : Rat) (i : Nat) (s5 : Slot), t = [.sh (.box 1), .sh (.int 5), .ow (.lst (cs.map encC)), .sh (rep m), .sh (.int bt), s5] ∧ StOk (n + 3 + 4 * pre.length) r S' ∧ cs.length = pre.length ∧ (∀ c ∈ cs, Wr c ∧ c.1 < m) ∧ cs.Pairwise (fun c d => c.1 < d.1) ∧ m * 6 = (i : Rat) ∧ 360 ≤ i ∧ i ≤ 900 + 240 * pre.length) ⟨[], ((60 + v : Nat) : Rat), 6 * (60 + v), .no, rfl, by simpa using h3, rfl, (fun c hc => absurd hc (by simp)), List.Pairwise.nil, by rw [Rat.natCast_mul]; have : ((6 : Nat) : Rat) = 6 := rfl; rw [this]; grind, by omega, by rw [List.length_nil]; omega⟩ (fun pre x post t S' eq ⟨cs, m, i, s5, ht, hS, hl, hc, hp, hm, hi, hi2⟩ => ?_) (fun t S' ⟨cs, m, i, s5, ht, hS, hl, hc, hp, hm, hi, hi2⟩ => ?_)
  · subst ht
    have pl : pre.length < 1 + q := by
      have := congrArg List.length eq
      rw [List.length_append, List.length_cons, List.length_range] at this
      omega
    rw [g_nm, oe_some]
    simp only [List.set_cons_zero, List.set_cons_succ]
    simp only [wpsA, wpsB, List.map_cons, List.map_nil, List.length_cons, List.length_nil, List.replicate_succ, List.replicate_zero, List.cons_append, List.nil_append, List.getElem?_cons_zero, List.getElem?_cons_succ, List.set_cons_zero, List.set_cons_succ, ow_true, ow_false, if_true, if_false, Option.bind_some, true_and, and_true, Nat.zero_add, Nat.reduceAdd, Nat.reduceSub, Nat.reduceLeDiff, show tyD "list" (.lst (cs.map encC)) = true from rfl]
    have hS0 := hS
    refine fw_mono (pk hS0 (by omega) (by simp) (by simp)) ?_
    rintro d f SA ⟨hd, rfl, hA0⟩
    obtain ⟨mm0, rfl, ma0, mb0⟩ := hd3 (i := 3) (j := 12) (k := 40) hd (by decide) (by decide) (by decide)
    simp only [wpsA, wpsB, List.map_cons, List.map_nil, List.length_cons, List.length_nil, List.replicate_succ, List.replicate_zero, List.cons_append, List.nil_append, List.getElem?_cons_zero, List.getElem?_cons_succ, List.set_cons_zero, List.set_cons_succ, ow_true, ow_false, if_true, if_false, Option.bind_some, true_and, and_true, Nat.zero_add, Nat.reduceAdd, Nat.reduceSub, Nat.reduceLeDiff]
    refine fw_mono (dr hA0 (by omega) ma0 (by omega)) ?_
    rintro d f SB ⟨u0, rfl, rfl, uu0, hB0⟩
    obtain ⟨hh, ex0, z1, z, z2, z3⟩ := low6 (S := SB) (k := 1 + u0) (j := bt) hb
    have z4 : 1 ≤ z ∧ z ≤ 240 := by rw [z3]; rcases hb with rfl | rfl | rfl <;> omega
    have fa : fApp [.tup [rep m, rep hh]] (.lst (cs.map encC)) = some (.lst ((cs ++ [(m, hh)]).map encC), .non) := by
      rw [fApp_ok _ _ (by rw [List.length_map, lim_eq]; omega), List.map_append]; rfl
    simp only [wpsA, wpsB, List.map_cons, List.map_nil, List.length_cons, List.length_nil, List.replicate_succ, List.replicate_zero, List.cons_append, List.nil_append, List.getElem?_cons_zero, List.getElem?_cons_succ, List.set_cons_zero, List.set_cons_succ, ow_true, ow_false, if_true, if_false, Option.bind_some, true_and, and_true, Nat.zero_add, Nat.reduceAdd, Nat.reduceSub, Nat.reduceLeDiff, one_add, ex0, fa]
    have hS1 := hB0
    refine fw_mono (pk hS1 (by omega) (by simp) (by simp)) ?_
    rintro d f SC ⟨hd, rfl, hA1⟩
    obtain ⟨mm1, rfl, ma1, mb1⟩ := hd3 (i := 2) (j := 8) (k := 30) hd (by decide) (by decide) (by decide)
    simp only [wpsA, wpsB, List.map_cons, List.map_nil, List.length_cons, List.length_nil, List.replicate_succ, List.replicate_zero, List.cons_append, List.nil_append, List.getElem?_cons_zero, List.getElem?_cons_succ, List.set_cons_zero, List.set_cons_succ, ow_true, ow_false, if_true, if_false, Option.bind_some, true_and, and_true, Nat.zero_add, Nat.reduceAdd, Nat.reduceSub, Nat.reduceLeDiff]
    refine fw_mono (dr hA1 (by omega) ma1 (by omega)) ?_
    rintro d f SD ⟨u1, rfl, rfl, uu1, hB1⟩
    obtain ⟨g, ex1, y1, y, y2, y3⟩ := low6 (S := SD) (k := 1 + u1) (j := bt) hb
    have y4 : 1 ≤ y ∧ y ≤ 240 := by rw [y3]; rcases hb with rfl | rfl | rfl <;> omega
    have sm1 : Sm m := sm6 hm (by omega)
    have sg1 : Sm g := sm6 y2 (by omega)
    simp only [wpsA, wpsB, List.map_cons, List.map_nil, List.length_cons, List.length_nil, List.replicate_succ, List.replicate_zero, List.cons_append, List.nil_append, List.getElem?_cons_zero, List.getElem?_cons_succ, List.set_cons_zero, List.set_cons_succ, ow_true, ow_false, if_true, if_false, Option.bind_some, true_and, and_true, Nat.zero_add, Nat.reduceAdd, Nat.reduceSub, Nat.reduceLeDiff, one_add, ex1, lplus_rep sm1 sg1]
    have gp : 0 < g := by
      have := Rat.natCast_pos.mpr (show 0 < y by omega)
      rw [← y2] at this
      grind
    refine ⟨cs ++ [(m, hh)], m + g, i + y, _, rfl, by rw [List.length_append, List.length_singleton]; exact hB1.mono (by omega), by rw [List.length_append, List.length_append, hl]; rfl, fun c hc' => ?_, ?_, ?_, by omega, by rw [List.length_append, List.length_singleton]; omega⟩
    · rcases List.mem_append.mp hc' with hc' | hc'
      · obtain ⟨w1, w2⟩ := hc c hc'
        exact ⟨w1, by grind⟩
      · rw [List.mem_singleton] at hc'; subst hc'
        refine ⟨⟨⟨i, hm, hi, by omega⟩, ⟨z, z2, by omega, by omega⟩⟩, ?_⟩
        show m < m + g
        grind
    · rw [List.pairwise_append]
      refine ⟨hp, List.pairwise_singleton _ _, fun c hc' d hd => ?_⟩
      rw [List.mem_singleton] at hd; subst hd
      exact (hc c hc').2
    · rw [Rat.add_mul, hm, y2, Rat.natCast_add]
  · subst ht
    rw [List.length_range] at hS hl
    simp only [wpsA, wpsB, List.map_cons, List.map_nil, List.length_cons, List.length_nil, List.replicate_succ, List.replicate_zero, List.cons_append, List.nil_append, List.getElem?_cons_zero, List.getElem?_cons_succ, List.set_cons_zero, List.set_cons_succ, ow_true, ow_false, if_true, if_false, Option.bind_some, true_and, and_true, Nat.zero_add, Nat.reduceAdd, Nat.reduceSub, Nat.reduceLeDiff]
    exact ⟨cs, rfl, hS.mono (by omega), fun c hc' => (hc c hc').1, hp, by omega, fun z => by rw [z] at hl; simp at hl; omega⟩
end
end KX

set_option Elab.async false
set_option linter.all false
set_option maxRecDepth 100000
set_option maxHeartbeats 4000000
set_option autoImplicit false
namespace KX
open PySem PySem.Spec PyProof.Rows L2 TD
open KD (StOk)
/-- worths of a beat, as drawn -/
structure Wo (e l : Rat) (k p q : Nat) : Prop where
  e : e * 12 = (k : Rat)
  l : l * (q : Rat) = (p : Rat)
  k1 : 1 ≤ k
  k2 : k ≤ 11
  p1 : 1 ≤ p
  p2 : p ≤ 12
  q1 : 1 ≤ q
  q2 : q ≤ 12
theorem nok_of {n : Nat} (h0 : 0 < n) (h : n ≤ 2 ^ 1000) : Nok n := ⟨h0, by have := log2_mono h; rw [Nat.log2_two_pow] at this; omega⟩
theorem natR (n : Nat) (h : 0 < n) : (0 : Rat) < (n : Rat) := Rat.natCast_pos.mpr h
section
variable {r S : Sto} {n : Nat} {e l : Rat} {k p q R L : Nat}
theorem Wo.e0 (h : Wo e l k p q) : 0 < e := by
  have := natR k h.k1
  rw [← h.e] at this; grind
theorem Wo.e1 (h : Wo e l k p q) : e < 1 := by
  have : ((k : Nat) : Rat) < ((12 : Nat) : Rat) := Rat.natCast_lt_natCast.mpr (by have := h.k2; omega)
  rw [← h.e] at this
  have e12 : ((12 : Nat) : Rat) = 12 := rfl
  grind
theorem Wo.l0 (h : Wo e l k p q) : 0 < l := by
  have h1 := natR p h.p1
  rw [← h.l] at h1
  exact (Rat.mul_pos_iff_of_pos_right (natR q h.q1)).mp h1
def vOf (k p q : Nat) : Nat := 12 * q * (k * q + 12 * p)
theorem vOf_pos (h : Wo e l k p q) : 0 < vOf k p q := by
  unfold vOf
  have := h.q1
  have := h.p1
  exact Nat.mul_pos (by omega) (by omega)
theorem vOf_le (h : Wo e l k p q) : vOf k p q ≤ 2 ^ 16 := by
  unfold vOf
  have h1 : k * q ≤ 11 * 12 := Nat.mul_le_mul h.k2 h.q2
  have h2 := h.p2
  have h3 := h.q2
  exact Nat.le_trans (Nat.mul_le_mul (show 12 * q ≤ 144 by omega) (show k * q + 12 * p ≤ 276 by omega)) (by decide)
theorem lam_V (h : Wo e l k p q) : lam e l * (vOf k p q : Rat) = ((12 * p * (12 * q) : Nat) : Rat) := by
  have lm := lam_mul h.e0 h.l0
  have e12 : ((12 : Nat) : Rat) = 12 := rfl
  have w : (e + l) * (12 * (q : Rat)) = (k : Rat) * q + 12 * p := by rw [← h.e, ← h.l]; grind
  unfold vOf
  rw [Rat.natCast_mul, Rat.natCast_mul, Rat.natCast_add, Rat.natCast_mul, Rat.natCast_mul, Rat.natCast_mul, Rat.natCast_mul, Rat.natCast_mul, e12, ← w]
  have h2 := h.l
  have : lam e l * (12 * (q : Rat) * ((e + l) * (12 * (q : Rat)))) = (e + l) * lam e l * (12 * q) * (12 * q) := by grind
  rw [this, lm]
  grind
theorem mkRoad (h : Wo e l k p q) (hR : 1 ≤ R) (hR2 : R ≤ 24) : Road (6 * R) (vOf k p q) e l := by
  have v0 := vOf_pos h
  have v1 := vOf_le h
  have n0 : 0 < 6 * R := by omega
  have n1 : 6 * R ≤ 2 ^ 8 := by omega
  have nv : 6 * R * vOf k p q ≤ 2 ^ 24 := by have := Nat.mul_le_mul n1 v1; rw [← Nat.pow_add] at this; exact this
  have nm : 6 * R * vOf k p q * 60 ≤ 2 ^ 30 := by have := Nat.mul_le_mul nv (show 60 ≤ 2 ^ 6 by decide); rw [← Nat.pow_add] at this; exact this
  have nmv : 6 * R * vOf k p q * 60 * vOf k p q ≤ 2 ^ 46 := by have := Nat.mul_le_mul nm v1; rw [← Nat.pow_add] at this; exact this
  have n2 : 6 * R * vOf k p q * 60 * vOf k p q * 2 ≤ 2 ^ 47 := by have := Nat.mul_le_mul nmv (show 2 ≤ 2 ^ 1 by decide); rw [← Nat.pow_add] at this; exact this
  have np : 6 * R * vOf k p q * 60 * (6 * R * vOf k p q * 60 * vOf k p q * 2) ≤ 2 ^ 77 := by have := Nat.mul_le_mul nm n2; rw [← Nat.pow_add] at this; exact this
  have p0 : 0 < 6 * R * vOf k p q := Nat.mul_pos n0 v0
  have pm : 0 < 6 * R * vOf k p q * 60 := Nat.mul_pos p0 (by decide)
  have pmv : 0 < 6 * R * vOf k p q * 60 * vOf k p q := Nat.mul_pos pm v0
  have up : ∀ {a b : Nat}, a ≤ 2 ^ b → b ≤ 1000 → a ≤ 2 ^ 1000 := fun h1 h2 => Nat.le_trans h1 (Nat.pow_le_pow_right (by decide) h2)
  have e12 : ((12 : Nat) : Rat) = 12 := rfl
  have ge : G (vOf k p q) 40 e := by
    refine ⟨(k * q * (k * q + 12 * p) : Nat), ?_, ?_⟩
    · rw [Rat.intCast_natCast]
      unfold vOf
      rw [Rat.natCast_mul, Rat.natCast_mul, Rat.natCast_mul (k * q), Rat.natCast_mul k, e12, ← h.e]; grind
    · rw [Int.natAbs_natCast]
      have h1 : k * q ≤ 11 * 12 := Nat.mul_le_mul h.k2 h.q2
      have := h.p2
      exact Nat.le_trans (Nat.mul_le_mul h1 (show k * q + 12 * p ≤ 276 by omega)) (by decide)
  have gl : G (vOf k p q) 40 l := by
    refine ⟨(12 * p * (k * q + 12 * p) : Nat), ?_, ?_⟩
    · rw [Rat.intCast_natCast]
      unfold vOf
      rw [Rat.natCast_mul, Rat.natCast_mul, Rat.natCast_mul (12 * p), Rat.natCast_mul 12 p, e12, ← h.l]; grind
    · rw [Int.natAbs_natCast]
      have h1 : k * q ≤ 11 * 12 := Nat.mul_le_mul h.k2 h.q2
      have h2 := h.p2
      exact Nat.le_trans (Nat.mul_le_mul (show 12 * p ≤ 144 by omega) (show k * q + 12 * p ≤ 276 by omega)) (by decide)
  have gv : G (vOf k p q) 60 (l / (e + l)) := by
    refine ⟨(12 * p * (12 * q) : Nat), ?_, ?_⟩
    · rw [Rat.intCast_natCast]; exact lam_V h
    · rw [Int.natAbs_natCast]
      have h2 := h.p2
      have h3 := h.q2
      exact Nat.le_trans (Nat.mul_le_mul (show 12 * p ≤ 144 by omega) (show 12 * q ≤ 144 by omega)) (by decide)
  exact { hN := nok_of n0 (up n1 (by decide)), hV := nok_of v0 (up v1 (by decide)), lV := Nat.le_trans v1 (by decide), lN := Nat.le_trans n1 (by decide), hNV := nok_of p0 (up nv (by decide)), hM := nok_of pm (up nm (by decide)), hMV := nok_of pmv (up nmv (by decide)), hP := nok_of (Nat.mul_pos pm (Nat.mul_pos pmv (by decide))) (up np (by decide)), e0 := h.e0, e1 := h.e1, l0 := h.l0, ge := ge.mono (by decide), gl := gl.mono (by decide), gs := (ge.add gl).mono (by decide), gv := gv }
theorem worths_rep (h : StOk n r S) (hn : n < 700000) : FW (F__law_worths [.box 1] S) fun d f S' => ∃ e l k p q, d = .tup [rep e, rep l] ∧ f = false ∧ StOk (n + 4) r S' ∧ Wo e l k p q := by
  have lo : ∀ (S : Sto) (a b : Nat), 1 ≤ b → b ≤ 12 → ∃ x : Rat, F__law_low [.int a, .int b] S = .ok (rep x) false S ∧ x * (b : Rat) = (a : Rat) := fun S a b b1 b2 => by
    have hl : (b : Int).natAbs.log2 < 8900 := by
      rw [Int.natAbs_natCast]
      exact Nat.lt_of_le_of_lt (log2_mono b2) (by decide)
    have h1 := low_rep (S := S) (a : Int) (b : Int) (by omega) hl
    refine ⟨_, h1, ?_⟩
    rw [Rat.divInt_eq_div, Rat.intCast_natCast, Rat.intCast_natCast]
    exact Rat.div_mul_cancel (fun z => by have := natR b b1; rw [z] at this; exact Rat.lt_irrefl this)
  unfold F__law_worths m__law_worths
  simp only [wpsA, wpsB, List.map_cons, List.map_nil, List.length_cons, List.length_nil, List.replicate_succ, List.replicate_zero, List.cons_append, List.nil_append, List.getElem?_cons_zero, List.getElem?_cons_succ, List.set_cons_zero, List.set_cons_succ, ow_true, ow_false, if_true, if_false, Option.bind_some, true_and, and_true, Nat.zero_add, Nat.reduceAdd, Nat.reduceSub, Nat.reduceLeDiff]
  refine fw_mono (dr (many := 11) h (by omega) (by omega) (by omega)) ?_
  rintro d f S1 ⟨v, rfl, rfl, v1, h1⟩
  obtain ⟨e, e1, e2⟩ := lo S1 (1 + v) 12 (by decide) (by decide)
  have e1' : F__law_low [.int ((1 + v : Nat) : Int), .int 12] S1 = .ok (rep e) false S1 := e1
  simp only [wpsA, wpsB, List.map_cons, List.map_nil, List.length_cons, List.length_nil, List.replicate_succ, List.replicate_zero, List.cons_append, List.nil_append, List.getElem?_cons_zero, List.getElem?_cons_succ, List.set_cons_zero, List.set_cons_succ, ow_true, ow_false, if_true, if_false, Option.bind_some, true_and, and_true, Nat.zero_add, Nat.reduceAdd, Nat.reduceSub, Nat.reduceLeDiff, one_add, e1']
  refine fw_mono (dr (many := 12) h1 (by omega) (by omega) (by omega)) ?_
  rintro d f S2 ⟨a, rfl, rfl, a1, h2⟩
  simp only [wpsA, wpsB, List.map_cons, List.map_nil, List.length_cons, List.length_nil, List.replicate_succ, List.replicate_zero, List.cons_append, List.nil_append, List.getElem?_cons_zero, List.getElem?_cons_succ, List.set_cons_zero, List.set_cons_succ, ow_true, ow_false, if_true, if_false, Option.bind_some, true_and, and_true, Nat.zero_add, Nat.reduceAdd, Nat.reduceSub, Nat.reduceLeDiff]
  refine fw_mono (dr (many := 12) h2 (by omega) (by omega) (by omega)) ?_
  rintro d f S3 ⟨b, rfl, rfl, b1, h3⟩
  obtain ⟨x, x1, x2⟩ := lo S3 (1 + a) (1 + b) (by omega) (by omega)
  simp only [wpsA, wpsB, List.map_cons, List.map_nil, List.length_cons, List.length_nil, List.replicate_succ, List.replicate_zero, List.cons_append, List.nil_append, List.getElem?_cons_zero, List.getElem?_cons_succ, List.set_cons_zero, List.set_cons_succ, ow_true, ow_false, if_true, if_false, Option.bind_some, true_and, and_true, Nat.zero_add, Nat.reduceAdd, Nat.reduceSub, Nat.reduceLeDiff, one_add, x1]
  refine fw_mono (pk h3 (by omega) (by simp) (by simp)) ?_
  rintro d f S4 ⟨hd, rfl, h4⟩
  simp only [wpsA, wpsB, List.map_cons, List.map_nil, List.length_cons, List.length_nil, List.replicate_succ, List.replicate_zero, List.cons_append, List.nil_append, List.getElem?_cons_zero, List.getElem?_cons_succ, List.set_cons_zero, List.set_cons_succ, ow_true, ow_false, if_true, if_false, Option.bind_some, true_and, and_true, Nat.zero_add, Nat.reduceAdd, Nat.reduceSub, Nat.reduceLeDiff]
  have e12 : ((12 : Nat) : Rat) = 12 := rfl
  rw [e12] at e2
  have hd' : ∃ (l : Rat) (p q : Nat), d = rep l ∧ l * (q : Rat) = (p : Rat) ∧ 1 ≤ p ∧ p ≤ 12 ∧ 1 ≤ q ∧ q ≤ 12 := by
    simp only [List.mem_cons, List.not_mem_nil, or_false] at hd
    rcases hd with rfl | rfl | rfl | rfl | rfl
    · exact ⟨1, 1, 1, rfl, by decide +kernel, by omega, by omega, by omega, by omega⟩
    · exact ⟨2, 2, 1, rfl, by decide +kernel, by omega, by omega, by omega, by omega⟩
    · exact ⟨half, 1, 2, rep_half, by decide +kernel, by omega, by omega, by omega, by omega⟩
    · exact ⟨e, 1 + v, 12, rfl, by rw [e12]; exact e2, by omega, by omega, by omega, by omega⟩
    · exact ⟨x, 1 + a, 1 + b, rfl, x2, by omega, by omega, by omega, by omega⟩
  obtain ⟨l, p, q, rfl, hl, p1, p2, q1, q2⟩ := hd'
  exact ⟨e, l, 1 + v, p, q, rfl, h4.mono (by omega), ⟨e2, hl, by omega, by omega, p1, p2, q1, q2⟩⟩
/-! ### rows and what they stand for -/
structure Rw (c : Rat × Rat) : Prop where
  m : ∃ i : Nat, c.1 * 6 = (i : Rat) ∧ i ≤ 2 ^ 20
  h : ∃ j : Nat, c.2 * 6 = (j : Rat) ∧ 1 ≤ j ∧ j ≤ 2 ^ 20
structure Rs (cs : List (Rat × Rat)) : Prop where
  r : ∀ c ∈ cs, Rw c
  i : cs.Pairwise fun c d => c.1 < d.1
  n : cs.length ≤ 5
  ne : cs ≠ []
theorem Ws.rs {cs : List (Rat × Rat)} (h : Ws cs) : Rs cs := ⟨fun c hc => by
  obtain ⟨⟨i, i1, i2, i3⟩, j, j1, j2, j3⟩ := h.r c hc
  exact ⟨⟨i, i1, by omega⟩, j, j1, j2, by omega⟩, h.i, h.n, h.ne⟩
def mkW (R : Nat) (c : Rat × Rat) : W := ⟨c.1, c.2, c.2 / (R : Rat)⟩
theorem Rw.smm {c : Rat × Rat} (h : Rw c) : Sm c.1 := by obtain ⟨i, i1, i2⟩ := h.m; exact sm6 i1 (Nat.le_trans i2 (by decide))
theorem Rw.smh {c : Rat × Rat} (h : Rw c) : Sm c.2 := by obtain ⟨i, i1, _, i2⟩ := h.h; exact sm6 i1 (Nat.le_trans i2 (by decide))
theorem Rw.m0 {c : Rat × Rat} (h : Rw c) : 0 ≤ c.1 := by
  obtain ⟨i, i1, i2⟩ := h.m
  have : (0 : Rat) ≤ (i : Rat) := Rat.natCast_nonneg
  rw [← i1] at this; grind
theorem Rw.h0 {c : Rat × Rat} (h : Rw c) : 0 < c.2 := by
  obtain ⟨i, i1, i2, _⟩ := h.h
  have := natR i i2
  rw [← i1] at this; grind
theorem mkW_g {c : Rat × Rat} (h : Rw c) (hR : 1 ≤ R) (hR2 : R ≤ 24) : WG (6 * R) (mkW R c) ∧ 0 < (mkW R c).s := by
  have h0 := h.h0
  obtain ⟨⟨i, i1, i2⟩, j, j1, _, j2⟩ := h
  have R0 := natR R hR
  have e6 : ((6 : Nat) : Rat) = 6 := rfl
  have bd : ∀ x : Nat, x ≤ 2 ^ 20 → x * R ≤ 2 ^ 60 := fun x hx => Nat.le_trans (Nat.mul_le_mul hx (show R ≤ 2 ^ 5 by omega)) (by decide)
  have hc : c.2 / (R : Rat) * (R : Rat) = c.2 := Rat.div_mul_cancel (fun z => by rw [z] at R0; exact Rat.lt_irrefl R0)
  refine ⟨⟨⟨(i * R : Nat), ?_, ?_⟩, ⟨(j * R : Nat), ?_, ?_⟩, ⟨(j : Nat), ?_, ?_⟩⟩, ?_⟩
  · rw [Rat.intCast_natCast, Rat.natCast_mul, Rat.natCast_mul, e6, ← i1]; show c.1 * _ = _; grind
  · rw [Int.natAbs_natCast]; exact bd i i2
  · rw [Rat.intCast_natCast, Rat.natCast_mul, Rat.natCast_mul, e6, ← j1]; show c.2 * _ = _; grind
  · rw [Int.natAbs_natCast]; exact bd j j2
  · rw [Rat.intCast_natCast, Rat.natCast_mul, e6, ← j1]; show c.2 / (R : Rat) * _ = _; grind
  · rw [Int.natAbs_natCast]; exact Nat.le_trans j2 (by decide)
  · show 0 < c.2 / (R : Rat)
    rw [Rat.div_def]
    exact Rat.mul_pos h0 (Rat.inv_pos.mpr R0)
theorem giv {cs : List (Rat × Rat)} (h : Wo e l k p q) (hc : Rs cs) (hR : 1 ≤ R) (hR2 : R ≤ 24) (hL : 1 ≤ L) (hL2 : L ≤ 1000) : Giv (6 * R) (vOf k p q) R L (cs.map (mkW R)) e l (.lst (cs.map encC)) (rep e) (rep l) := by
  have rd := mkRoad h hR hR2
  have mem : ∀ {w : W}, w ∈ cs.map (mkW R) → ∃ c ∈ cs, mkW R c = w := fun hw => List.mem_map.mp hw
  refine { r := rd, w := ⟨?_, ?_, ?_, ?_, ?_⟩, R0 := by omega, lR := by omega, L0 := by omega, lL := by omega, d := ?_, m := ?_, h := ?_, i := ?_, a := FrD.rep (rd.ge.sm rd.hV (by decide)), b := FrD.rep (rd.gl.sm rd.hV (by decide)) }
  · intro w hw; obtain ⟨c, hc', rfl⟩ := mem hw; exact (mkW_g (hc.r c hc') hR hR2).1
  · intro w hw; obtain ⟨c, hc', rfl⟩ := mem hw; exact (mkW_g (hc.r c hc') hR hR2).2
  · intro w hw; obtain ⟨c, hc', rfl⟩ := mem hw; rfl
  · rw [List.length_map]; exact hc.n
  · exact fun z => hc.ne (List.map_eq_nil_iff.mp z)
  · refine ⟨cs.map fun c => (encC c, mkW R c), by rw [List.map_map]; rfl, by rw [List.map_map]; rfl, fun x hx => ?_⟩
    obtain ⟨c, hc', rfl⟩ := List.mem_map.mp hx
    exact ⟨true, rep c.1, rep c.2, rfl, FrD.rep (hc.r c hc').smm, FrD.rep (hc.r c hc').smh⟩
  · intro w hw; obtain ⟨c, hc', rfl⟩ := mem hw; exact (hc.r c hc').m0
  · intro w hw; obtain ⟨c, hc', rfl⟩ := mem hw; exact (hc.r c hc').h0
  · show List.Pairwise _ _
    rw [List.pairwise_map]
    exact hc.i
end
end KX

set_option Elab.async false
set_option linter.all false
set_option maxRecDepth 100000
set_option maxHeartbeats 4000000
set_option autoImplicit false
namespace KX
open PySem PySem.Spec PyProof.Rows L2 TD
open KD (StOk)
section
variable {N V : Nat} {ws : List W} {d a b : D} {S : Sto} {e l : Rat} {k p q R R' L L' : Nat} {cs us : List (Rat × Rat)}
noncomputable def bk (e l : Rat) (R : Nat) (cs : List (Rat × Rat)) : List Bk := blks (lam e l) (cs.map (mkW R))
noncomputable def tr (e l : Rat) (R : Nat) (cs : List (Rat × Rat)) : List Rat := costs e l (bk e l R cs)
theorem Giv.csm (g : Giv N V R L ws e l d a b) : ∀ x ∈ costs e l (blks (lam e l) ws), Sm x := by
  intro x hx
  obtain ⟨i, hi, e1⟩ := List.mem_iff_getElem.mp hx
  have hl := costs_len e l g.ok
  obtain ⟨p, w, f1, f2, f3⟩ := allP_first (e := e) (l := l) g.ok g.w.p i (by omega)
  rw [List.getElem?_eq_getElem hi, e1] at f3
  have pg := g.pg p (List.mem_of_find?_eq_some f1)
  have wg := g.w.g w (List.mem_of_getElem? f2)
  have gs := (sorrow_rep (S := []) g.r wg pg.b).2
  rw [Option.some.inj f3]
  exact (pg.w.add (gs.mono (show 270 ≤ 290 by decide))).sm g.r.hMV (by decide)
theorem Giv.ex (g : Giv N V R L ws e l d a b) : ∀ k, k < ws.length → ∀ i, i ≤ k → ∃ b, IsBegin (sl ws i (k + 1)) (lam e l * tot (sl ws i (k + 1))) b := by
  intro k hk i hi
  have hn := g.w.n
  obtain ⟨b, _, h, _⟩ := begin_road (S := []) g.r (ws := sl ws i (k + 1)) (fun w h => g.w.g w (sl_mem h)) (fun w h => g.w.p w (sl_mem h)) (sl_ne (by omega) (by omega)) (by rw [sl_len (by omega) (by omega)]; omega)
  exact ⟨b, h⟩
theorem tr_len (h : Wo e l k p q) (hc : Rs cs) (hR : 1 ≤ R) (hR2 : R ≤ 24) : (tr e l R cs).length = cs.length := by
  have g := giv h hc hR hR2 (L := 1) (by decide) (by decide)
  have := costs_len e l g.ok
  rw [List.length_map] at this
  exact this
theorem tr_sm (h : Wo e l k p q) (hc : Rs cs) (hR : 1 ≤ R) (hR2 : R ≤ 24) : ∀ x ∈ tr e l R cs, Sm x := (giv h hc hR hR2 (L := 1) (by decide) (by decide)).csm
theorem tr_rep (h : Wo e l k p q) (hc : Rs cs) (hR : 1 ≤ R) (hR2 : R ≤ 24) (hL : 1 ≤ L) (hL2 : L ≤ 1000) : F_troubles [.int R, .int L, .lst (cs.map encC), rep e, rep l] S = .ok (.lst ((tr e l R cs).map rep)) true S := troubles_rep (giv h hc hR hR2 hL hL2)
/-- greater heaps, or a road less wide: nobody has less trouble -/
theorem tr_mono (h : Wo e l k p q) (hc : Rs cs) (hu : Rs us) (hR : 1 ≤ R) (hR2 : R ≤ 24) (hR' : 1 ≤ R') (hR2' : R' ≤ 24) (hl : cs.length = us.length) (hle : ∀ (i : Nat) (c u : Rat × Rat), cs[i]? = some c → us[i]? = some u → c.1 = u.1 ∧ c.2 / (R : Rat) ≤ u.2 / (R' : Rat)) :
    ∀ (i : Nat) (x y : Rat), (tr e l R cs)[i]? = some x → (tr e l R' us)[i]? = some y → x ≤ y := by
  have g := giv h hc hR hR2 (L := 1) (by decide) (by decide)
  have g' := giv h hu hR' hR2' (L := 1) (by decide) (by decide)
  refine costs_mono h.e0 h.l0 g.w.p g.i g.ok g'.w.p g'.i g'.ok (by rw [List.length_map, List.length_map, hl]) (fun i w u hw hu => ?_)
  rw [List.getElem?_map] at hw hu
  cases hc' : cs[i]? with
  | none => rw [hc'] at hw; cases hw
  | some c =>
    cases hu' : us[i]? with
    | none => rw [hu'] at hu; cases hu
    | some v =>
      rw [hc'] at hw
      rw [hu'] at hu
      cases hw
      cases hu
      exact hle i c v hc' hu'
theorem bk_off (h : Wo e l k p q) (hc : Rs cs) (hR : 1 ≤ R) (hR2 : R ≤ 24) (β : Rat) : bk e l R (cs.map fun c => (c.1 + β, c.2)) = (bk e l R cs).map (mapB (fun w => ⟨w.m + β, w.h, w.s⟩) β) := by
  have g := giv h hc hR hR2 (L := 1) (by decide) (by decide)
  unfold bk
  rw [← blks_map (f := fun w => ⟨w.m + β, w.h, w.s⟩) ⟨fun _ => rfl, fun _ => rfl⟩ g.ex, List.map_map, List.map_map]
  rfl
theorem bk_as (h : Wo e l k p q) (hc : Rs cs) (hR : 1 ≤ R) (hR2 : R ≤ 24) (j : Nat) (hj : 0 < j) : bk e l (j * R) (cs.map fun c => (c.1, c.2 * (j : Rat))) = (bk e l R cs).map (mapB (fun w => ⟨w.m, w.h * (j : Rat), w.s⟩) 0) := by
  have g := giv h hc hR hR2 (L := 1) (by decide) (by decide)
  unfold bk
  rw [← blks_map (f := fun w => ⟨w.m, w.h * (j : Rat), w.s⟩) ⟨fun w => (Rat.add_zero _).symm, fun _ => rfl⟩ g.ex, List.map_map, List.map_map]
  congr 1
  apply List.map_congr_left
  intro c _
  show W.mk c.1 (c.2 * (j : Rat)) (c.2 * (j : Rat) / ((j * R : Nat) : Rat)) = W.mk c.1 (c.2 * (j : Rat)) (c.2 / (R : Rat))
  have j0 := natR j hj
  have R0 := natR R (by omega)
  have e1 : c.2 * (j : Rat) / ((j * R : Nat) : Rat) = c.2 / (R : Rat) := by
    rw [Rat.natCast_mul]
    have h1 : c.2 / (R : Rat) * (R : Rat) = c.2 := Rat.div_mul_cancel (fun z => by rw [z] at R0; exact Rat.lt_irrefl R0)
    have h2 : c.2 * (j : Rat) = c.2 / (R : Rat) * ((j : Rat) * (R : Rat)) := by
      have : c.2 / (R : Rat) * ((j : Rat) * (R : Rat)) = c.2 / (R : Rat) * (R : Rat) * (j : Rat) := by grind
      rw [this, h1]
    rw [h2]
    exact Rat.mul_div_cancel (fun z => by have := Rat.mul_pos j0 R0; rw [z] at this; exact Rat.lt_irrefl this)
  rw [e1]
theorem tr_off (h : Wo e l k p q) (hc : Rs cs) (hR : 1 ≤ R) (hR2 : R ≤ 24) (β : Rat) : tr e l R (cs.map fun c => (c.1 + β, c.2)) = tr e l R cs := by
  unfold tr
  rw [bk_off h hc hR hR2]
  exact costs_map (f := fun w => ⟨w.m + β, w.h, w.s⟩) ⟨fun _ => rfl, fun _ => rfl⟩ e l _
theorem tr_as (h : Wo e l k p q) (hc : Rs cs) (hR : 1 ≤ R) (hR2 : R ≤ 24) (j : Nat) (hj : 0 < j) : tr e l (j * R) (cs.map fun c => (c.1, c.2 * (j : Rat))) = tr e l R cs := by
  unfold tr
  rw [bk_as h hc hR hR2 j hj]
  exact costs_map (f := fun w => ⟨w.m, w.h * (j : Rat), w.s⟩) ⟨fun w => (Rat.add_zero _).symm, fun _ => rfl⟩ e l _
/-! ### settings out -/
noncomputable def st (e l : Rat) (R L : Nat) (cs : List (Rat × Rat)) : List (List (Rat × Rat)) := settledQ R L (allP e l (bk e l R cs)) cs.length
theorem st_rep (h : Wo e l k p q) (hc : Rs cs) (hR : 1 ≤ R) (hR2 : R ≤ 24) (hL : 1 ≤ L) (hL2 : L ≤ 1000) (hs : ∀ C, (bk e l R cs).head? = some C → (L : Rat) ≤ C.b) : F_settled [.int R, .int L, .lst (cs.map encC), rep e, rep l] S = .ok (.lst ((st e l R L cs).map fun cs => .lst (cs.map encC))) true S := by
  have g := giv h hc hR hR2 hL hL2
  have nb : bk e l R cs ≠ [] := fun z => by
    have := g.ok.len
    have ok := g.ok
    unfold bk at z
    rw [z] at ok
    have wne := List.length_pos_iff.mpr g.w.ne
    cases hn : (cs.map (mkW R)).length with
    | zero => omega
    | succ m =>
      have := costs_len e l ok
      rw [hn] at this
      cases this
  have := settled_rep (S := S) g (fun p hp => by
    obtain ⟨C, p', h1, h2, h3⟩ := allP_head (e := e) (l := l) g.ok g.w.p nb
    rw [hp] at h2
    cases h2
    rw [h3]
    exact hs C h1)
  rw [List.length_map] at this
  exact this
theorem st_off (h : Wo e l k p q) (hc : Rs cs) (hR : 1 ≤ R) (hR2 : R ≤ 24) {β : Rat} (hβ : 0 < β) (hs : ∀ C, (bk e l R cs).head? = some C → (L : Rat) ≤ C.b) : st e l R L (cs.map fun c => (c.1 + β, c.2)) = (st e l R L cs).map (putOff β) := by
  have g := giv h hc hR hR2 (L := 1) (by decide) (by decide)
  unfold st settledQ
  rw [bk_off h hc hR hR2, allP_map (f := fun w => ⟨w.m + β, w.h, w.s⟩) ⟨fun _ => rfl, fun _ => rfl⟩, List.length_map, List.map_map]
  apply List.map_congr_left
  intro i hi
  have hi' : i < (cs.map (mkW R)).length := by rw [List.length_map]; exact List.mem_range.mp hi
  exact comers_put hβ (by omega) (allP_ne g.ok g.w.p hi') (fun p hp => g_pos g.r hp) (come_nonneg g.ok g.w.p h.e0 h.e1 h.l0 hs)
theorem allP_same (f : W → W) (hf : Shf f 0) (e l : Rat) (bs : List Bk) : allP e l (bs.map (mapB f 0)) = allP e l bs := by
  rw [allP_map hf]
  have : shP 0 = id := by
    funext p
    unfold shP
    rw [Rat.add_zero, Rat.add_zero]; rfl
  rw [this, List.map_id]
theorem st_as (h : Wo e l k p q) (hc : Rs cs) (hR : 1 ≤ R) (hR2 : R ≤ 24) (j : Nat) (hj : 0 < j) : st e l (j * R) L (cs.map fun c => (c.1, c.2 * (j : Rat))) = (st e l R L cs).map (timesAs (j : Rat)) := by
  unfold st settledQ
  rw [bk_as h hc hR hR2 j hj, allP_same (fun w => ⟨w.m, w.h * (j : Rat), w.s⟩) ⟨fun w => (Rat.add_zero _).symm, fun _ => rfl⟩, List.length_map, List.map_map]
  apply List.map_congr_left
  intro i _
  exact comers_times
theorem st_sm (h : Wo e l k p q) (hc : Rs cs) (hR : 1 ≤ R) (hR2 : R ≤ 24) (hL : 1 ≤ L) (hL2 : L ≤ 1000) : ∀ ys ∈ st e l R L cs, (∀ c ∈ ys, Sm c.1 ∧ Sm c.2) ∧ ys.length ≤ 100 := by
  have g := giv h hc hR hR2 hL hL2
  intro ys hy
  obtain ⟨i, hi, rfl⟩ := List.mem_map.mp hy
  have pg : ∀ p' ∈ mine (allP e l (bk e l R cs)) i, PG (6 * R) (vOf k p q) p' := fun p' hp => g.pg p' (List.mem_filter.mp hp).1
  have gp : ∀ p' ∈ mine (allP e l (bk e l R cs)) i, 0 < 1 - p'.g := fun p' hp => g_pos g.r (List.mem_filter.mp hp).1
  have ml : (mine (allP e l (bk e l R cs)) i).length ≤ 10 := by
    have h1 := g.ok.plen e l
    have h2 : (mine (allP e l (bk e l R cs)) i).length ≤ (allP e l (bk e l R cs)).length := List.length_filter_le _ _
    have h3 := hc.n
    rw [List.length_map] at h1
    unfold bk at h2 ⊢
    omega
  have rs : ∀ c ∈ rowsOf R L (allP e l (bk e l R cs)) i, Sm c.1 ∧ Sm c.2 := by
    intro c hc'
    obtain ⟨p', hp, rfl⟩ := List.mem_map.mp hc'
    exact ⟨(come_rep (S := []) g.r (pg p' hp) g.lL (pg p' hp).b).2, (rate_rep (S := []) g.r g.lR (pg p' hp) (gp p' hp)).2.2⟩
  have es : Sm (endOf L (allP e l (bk e l R cs)) i) := by
    unfold endOf
    cases hz : (mine (allP e l (bk e l R cs)) i).getLast? with
    | none => exact sm_zero
    | some z =>
      have hz' := List.mem_of_getLast? hz
      exact (come_rep (S := []) g.r (pg z hz') g.lL (pg z hz').u).2
  have rl : (rowsOf R L (allP e l (bk e l R cs)) i).length ≤ 10 := by unfold rowsOf; rw [List.length_map]; exact ml
  unfold comersOf comersQ
  refine ⟨fun c hc' => ?_, ?_⟩
  · rcases List.mem_append.mp hc' with hc' | hc'
    · rcases List.mem_append.mp hc' with hc' | hc'
      · split at hc'
        · cases hc'
        · rw [List.mem_singleton] at hc'; subst hc'; exact ⟨sm_zero, sm_zero⟩
      · exact rs c hc'
    · rw [List.mem_singleton] at hc'; subst hc'; exact ⟨es, sm_zero⟩
  · rw [List.length_append, List.length_append]
    split
    · simp only [List.length_nil, List.length_singleton]; omega
    · simp only [List.length_singleton]; omega
end
end KX

set_option Elab.async false
set_option linter.all false
set_option maxRecDepth 100000
set_option maxHeartbeats 4000000
set_option autoImplicit false
namespace KX
open PySem PySem.Spec PyProof.Rows L2 TD
open KD (StOk)
section
variable {S : Sto} {e l : Rat} {k p q R L : Nat} {cs : List (Rat × Rat)}
theorem zip_reps : ∀ (xs ys : List Rat), zip2D (xs.map rep) (ys.map rep) = (xs.zip ys).map fun p => .tup [rep p.1, rep p.2]
  | [], _ => by simp [zip2D]
  | x :: xs, [] => by simp [zip2D]
  | x :: xs, y :: ys => by
    show .tup [rep x, rep y] :: zip2D (xs.map rep) (ys.map rep) = _
    rw [zip_reps xs ys]; rfl
theorem none_more_rep {xs ys : List Rat} (hl : xs.length = ys.length) (h : ∀ (i : Nat) (x y : Rat), xs[i]? = some x → ys[i]? = some y → x ≤ y) (hx : ∀ x ∈ xs, Sm x) (hy : ∀ y ∈ ys, Sm y) (hn : xs.length ≤ 100) :
    F__law_none_more [.lst (xs.map rep), .lst (ys.map rep)] S = .ok (.bl true) false S := by
  apply fw_eq
  unfold F__law_none_more m__law_none_more
  simp only [wpsA, wpsB, List.map_cons, List.map_nil, List.length_cons, List.length_nil, List.replicate_succ, List.replicate_zero, List.cons_append, List.nil_append, List.getElem?_cons_zero, List.getElem?_cons_succ, List.set_cons_zero, List.set_cons_succ, ow_true, ow_false, if_true, if_false, Option.bind_some, true_and, and_true, Nat.zero_add, Nat.reduceAdd, Nat.reduceSub, Nat.reduceLeDiff, List.length_map, hl, decide_true]
  rw [zip_reps]
  refine ⟨by rw [List.length_map, List.length_zip]; omega, ?_⟩
  refine wp_lcP (fun _ => true) (fun _ => .bl false) (fun p hp => ?_) ?_
  · obtain ⟨i, hi, e1⟩ := List.mem_iff_getElem.mp hp
    rw [List.getElem_zip] at e1
    have hi' := hi
    rw [List.length_zip] at hi'
    have le := h i p.1 p.2 (by rw [List.getElem?_eq_getElem (by omega), ← e1]) (by rw [List.getElem?_eq_getElem (by omega), ← e1])
    have s1 := hx p.1 (List.of_mem_zip hp).1
    have s2 := hy p.2 (List.of_mem_zip hp).2
    have nl : decide (p.2 < p.1) = false := decide_eq_false (Rat.not_lt.mpr le)
    simp only [wpsA, wpsB, List.map_cons, List.map_nil, List.length_cons, List.length_nil, List.replicate_succ, List.replicate_zero, List.cons_append, List.nil_append, List.getElem?_cons_zero, List.getElem?_cons_succ, List.set_cons_zero, List.set_cons_succ, ow_true, ow_false, if_true, if_false, Option.bind_some, true_and, and_true, Nat.zero_add, Nat.reduceAdd, Nat.reduceSub, Nat.reduceLeDiff, lbelow_rep s2 s1, nl]
    exact fun _ => trivial
  · rw [List.filter_eq_self.mpr (fun _ _ => rfl)]
    simp only [wpsA, wpsB, List.map_cons, List.map_nil, List.length_cons, List.length_nil, List.replicate_succ, List.replicate_zero, List.cons_append, List.nil_append, List.getElem?_cons_zero, List.getElem?_cons_succ, List.set_cons_zero, List.set_cons_succ, ow_true, ow_false, if_true, if_false, Option.bind_some, true_and, and_true, Nat.zero_add, Nat.reduceAdd, Nat.reduceSub, Nat.reduceLeDiff, e_anyM (fun _ => false) (xs.zip ys)]
    simp
theorem num_gt {x : Rat} : decide (0 < x.num) = decide (0 < x) := decide_eq_decide.mpr (by
  have := num_pos (p := x.num) (den_pos x)
  rw [Rat.num_divInt_den] at this
  exact this)
theorem ix_num {x : Rat} {t : Ev} (Q : D → Bool → Ev → Sto → Prop) : TD.WE (dIx (rep x) (.int 0)) t S Q = Q (.int x.num) false t S := rfl
theorem vw_rep {x : Rat} (Q : D → Prop) : VW S (rep x) Q = Q (rep x) := rfl
theorem put_off_rep {β : Rat} (hβ : Sm β) (h : ∀ c ∈ cs, Sm c.1 ∧ Sm c.2) (hn : cs.length ≤ 100) : F__law_put_off [.lst (cs.map encC), rep β] S = .ok (.lst ((putOff β cs).map encC)) true S := by
  apply fw_eq
  unfold F__law_put_off m__law_put_off
  simp only [wpsA, wpsB, List.map_cons, List.map_nil, List.length_cons, List.length_nil, List.replicate_succ, List.replicate_zero, List.cons_append, List.nil_append, List.getElem?_cons_zero, List.getElem?_cons_succ, List.set_cons_zero, List.set_cons_succ, ow_true, ow_false, if_true, if_false, Option.bind_some, true_and, and_true, Nat.zero_add, Nat.reduceAdd, Nat.reduceSub, Nat.reduceLeDiff]
  refine ⟨by rw [List.length_map]; omega, ?_⟩
  refine wp_lcP (fun c => decide (0 < c.1) || decide (0 < c.2)) (fun c => encC (c.1 + β, c.2)) (fun c hc => ?_) ?_
  · obtain ⟨s1, s2⟩ := h c hc
    unfold encC
    simp only [wpsA, wpsB, List.map_cons, List.map_nil, List.length_cons, List.length_nil, List.replicate_succ, List.replicate_zero, List.cons_append, List.nil_append, List.getElem?_cons_zero, List.getElem?_cons_succ, List.set_cons_zero, List.set_cons_succ, ow_true, ow_false, if_true, if_false, Option.bind_some, true_and, and_true, Nat.zero_add, Nat.reduceAdd, Nat.reduceSub, Nat.reduceLeDiff, ix_num, vw_rep, num_gt, lplus_rep s1 hβ]
    by_cases c1 : 0 < c.1
    · rw [decide_eq_true c1]
      simp only [wpsA, wpsB, List.map_cons, List.map_nil, List.length_cons, List.length_nil, List.replicate_succ, List.replicate_zero, List.cons_append, List.nil_append, List.getElem?_cons_zero, List.getElem?_cons_succ, List.set_cons_zero, List.set_cons_succ, ow_true, ow_false, if_true, if_false, Option.bind_some, true_and, and_true, Nat.zero_add, Nat.reduceAdd, Nat.reduceSub, Nat.reduceLeDiff, ix_num, vw_rep, num_gt, lplus_rep s1 hβ, Bool.true_or]
      exact fun _ => trivial
    · rw [decide_eq_false c1]
      simp only [wpsA, wpsB, List.map_cons, List.map_nil, List.length_cons, List.length_nil, List.replicate_succ, List.replicate_zero, List.cons_append, List.nil_append, List.getElem?_cons_zero, List.getElem?_cons_succ, List.set_cons_zero, List.set_cons_succ, ow_true, ow_false, if_true, if_false, Option.bind_some, true_and, and_true, Nat.zero_add, Nat.reduceAdd, Nat.reduceSub, Nat.reduceLeDiff, ix_num, vw_rep, num_gt, lplus_rep s1 hβ, Bool.false_or]
      exact fun _ => trivial
  · have fl : (cs.filter fun c => decide (0 < c.1) || decide (0 < c.2)).length ≤ 100 := Nat.le_trans (List.length_filter_le _ _) hn
    simp only [wpsA, wpsB, List.map_cons, List.map_nil, List.length_cons, List.length_nil, List.replicate_succ, List.replicate_zero, List.cons_append, List.nil_append, List.getElem?_cons_zero, List.getElem?_cons_succ, List.set_cons_zero, List.set_cons_succ, ow_true, ow_false, if_true, if_false, Option.bind_some, true_and, and_true, Nat.zero_add, Nat.reduceAdd, Nat.reduceSub, Nat.reduceLeDiff]
    refine ⟨by rw [List.length_map]; omega, ?_⟩
    unfold putOff
    rw [List.map_cons, List.map_map]
    rfl
theorem times_as_rep {j : Nat} (hj : j < 2 ^ 60) (h : ∀ c ∈ cs, Sm c.1 ∧ Sm c.2) (hn : cs.length ≤ 100) : F__law_times_as [.lst (cs.map encC), .int j] S = .ok (.lst ((timesAs (j : Rat) cs).map encC)) true S := by
  apply fw_eq
  unfold F__law_times_as m__law_times_as
  simp only [wpsA, wpsB, List.map_cons, List.map_nil, List.length_cons, List.length_nil, List.replicate_succ, List.replicate_zero, List.cons_append, List.nil_append, List.getElem?_cons_zero, List.getElem?_cons_succ, List.set_cons_zero, List.set_cons_succ, ow_true, ow_false, if_true, if_false, Option.bind_some, true_and, and_true, Nat.zero_add, Nat.reduceAdd, Nat.reduceSub, Nat.reduceLeDiff]
  refine ⟨by rw [List.length_map]; omega, ?_⟩
  refine wp_lcP (fun _ => true) (fun c => encC (c.1, c.2 * (j : Rat))) (fun c hc => ?_) ?_
  · obtain ⟨s1, s2⟩ := h c hc
    unfold encC
    simp only [wpsA, wpsB, List.map_cons, List.map_nil, List.length_cons, List.length_nil, List.replicate_succ, List.replicate_zero, List.cons_append, List.nil_append, List.getElem?_cons_zero, List.getElem?_cons_succ, List.set_cons_zero, List.set_cons_succ, ow_true, ow_false, if_true, if_false, Option.bind_some, true_and, and_true, Nat.zero_add, Nat.reduceAdd, Nat.reduceSub, Nat.reduceLeDiff, rep_nat, ltimes_rep s2 (Lsm hj)]
    exact fun _ => trivial
  · rw [List.filter_eq_self.mpr (fun _ _ => rfl)]
    simp only [wpsA, wpsB, List.map_cons, List.map_nil, List.length_cons, List.length_nil, List.replicate_succ, List.replicate_zero, List.cons_append, List.nil_append, List.getElem?_cons_zero, List.getElem?_cons_succ, List.set_cons_zero, List.set_cons_succ, ow_true, ow_false, if_true, if_false, Option.bind_some, true_and, and_true, Nat.zero_add, Nat.reduceAdd, Nat.reduceSub, Nat.reduceLeDiff]
    unfold timesAs
    rw [List.map_map]; rfl
theorem field1 {e l h s R v : Rat} (hel : 0 < e + l) (hR : 0 < R) (hs : s = h / R) (hv : v = l / (e + l)) : e * l / (e + l) * (h / R) = e * (v * s) ∧ h = R * s := by
  have e1 : e * l / (e + l) = e * (l / (e + l)) := by rw [Rat.div_def, Rat.div_def, Rat.mul_assoc]
  have e2 : h / R * R = h := Rat.div_mul_cancel (fun z => by rw [z] at hR; exact Rat.lt_irrefl hR)
  constructor
  · rw [e1, hv, hs]; grind
  · rw [hs]; grind
theorem alone_rep (h : Wo e l k p q) {c : Rat × Rat} (hc : Rw c) (hR : 1 ≤ R) (hR2 : R ≤ 24) (hL : 1 ≤ L) (hL2 : L ≤ 1000) : F__law_alone_right [.int R, .int L, encC c, rep e, rep l] S = .ok (.bl true) false S := by
  have rs : Rs [c] := ⟨fun d hd => by rw [List.mem_singleton] at hd; subst hd; exact hc, List.pairwise_singleton _ _, by simp, by simp⟩
  have g := giv h rs hR hR2 hL hL2
  have r := g.r
  have e0 := h.e0
  have l0 := h.l0
  have el : 0 < e + l := by grind
  have R0 := natR R (by omega)
  have tr1 := troubles_rep (S := S) g
  have pd := paid_rep (S := S) g
  have ws1 : [c].map (mkW R) = [mkW R c] := rfl
  have sp := (mkW_g hc hR hR2).2
  obtain ⟨b, _, hb, _⟩ := begin_road (S := []) r (ws := [mkW R c]) (fun w hw => by rw [List.mem_singleton] at hw; subst hw; exact (mkW_g hc hR hR2).1) (fun w hw => by rw [List.mem_singleton] at hw; subst hw; exact sp) (by simp) (by simp)
  obtain ⟨ca, pa⟩ := paid_alone (v := 0) R e0 l0 sp hb
  have bl : blks (lam e l) [mkW R c] = [⟨b, 0, [mkW R c]⟩] := by rw [alone_blks, beginQ_eq hb]
  rw [ws1, bl] at tr1 pd
  rw [ca] at tr1
  rw [pa] at pd
  have smc := g.csm
  rw [ws1, bl, ca] at smc
  obtain ⟨f1, f2⟩ := field1 (h := c.2) (s := (mkW R c).s) (v := lam e l) el R0 rfl rfl
  have se := r.ge.sm r.hV (by decide)
  have sl := r.gl.sm r.hV (by decide)
  have sel := r.gs.sm r.hV (by decide)
  have hVV : Nok (vOf k p q * vOf k p q) := nok_of (Nat.mul_pos (vOf_pos h) (vOf_pos h)) (Nat.le_trans (Nat.mul_le_mul (vOf_le h) (vOf_le h)) (by decide))
  have gpr : G (vOf k p q * vOf k p q) 120 (e * l) := G.mul r.ge r.gl
  have spr := gpr.sm hVV (by decide)
  have sq : Sm (e * l / (e + l)) := div_sm hVV r.hV gpr r.gs (by grind) (by decide) (by decide)
  have wg := (mkW_g hc hR hR2).1
  have sh := hc.smh
  have sR : Sm (R : Rat) := Lsm (show R < 2 ^ 60 by omega)
  have ss : Sm (c.2 / (R : Rat)) := wg.s.sm r.hN (by decide)
  have sdue : Sm (e * l / (e + l) * (c.2 / (R : Rat))) := by rw [f1]; exact smc _ (by simp)
  have gh : G 6 20 c.2 := by obtain ⟨j, j1, _, j2⟩ := hc.h; exact G6 j1 j2
  have gdue : G (vOf k p q * (vOf k p q * (6 * R))) 200 (e * (lam e l * (mkW R c).s)) := (G.mul r.ge (G.mul r.gv wg.s)).mono (by decide)
  have v1 := vOf_le h
  have v0 := vOf_pos h
  have nb : vOf k p q * (vOf k p q * (6 * R)) ≤ 2 ^ 40 := by
    have h1 := Nat.mul_le_mul v1 (Nat.mul_le_mul v1 (show 6 * R ≤ 2 ^ 8 by omega))
    rw [← Nat.pow_add, ← Nat.pow_add] at h1
    exact h1
  have np : 0 < vOf k p q * (vOf k p q * (6 * R)) := Nat.mul_pos v0 (Nat.mul_pos v0 (by omega))
  have gp : G (6 * (vOf k p q * (vOf k p q * (6 * R)))) 220 (c.2 * (e * (lam e l * (mkW R c).s))) := (G.mul gh gdue).mono (by decide)
  have sp6 : Sm (c.2 * (e * l / (e + l) * (c.2 / (R : Rat)))) := by
    rw [f1]
    exact gp.sm (nok_of (Nat.mul_pos (by decide) np) (Nat.le_trans (Nat.mul_le_mul_left 6 nb) (by decide))) (by decide)
  have shf : Sm half := half_G.sm ⟨by decide, by decide⟩ (by decide)
  have pe : (R : Rat) * (mkW R c).s * (e * (lam e l * (mkW R c).s)) * half = c.2 * (e * l / (e + l) * (c.2 / (R : Rat))) * half := by rw [f1, ← f2]
  have d1 : ([c].map encC) = [encC c] := rfl
  rw [d1] at tr1 pd
  rw [← f1] at tr1
  rw [pe] at pd
  have sm8 : plain 8 (.lst [.lst [rep (e * l / (e + l) * (c.2 / (R : Rat)))], rep (c.2 * (e * l / (e + l) * (c.2 / (R : Rat))) * half)]) = true := by
    unfold rep
    simp [plain, lim_eq]
  apply fw_eq
  unfold F__law_alone_right m__law_alone_right
  have ie : ∀ (t : Ev) Q, TD.WE (dIx (encC c) (.int 1)) t S Q = Q (rep c.2) false t S := fun t Q => rfl
  have ve : ∀ Q, VW S (encC c) Q = Q (encC c) := fun Q => rfl
  simp only [wpsA, wpsB, List.map_cons, List.map_nil, List.length_cons, List.length_nil, List.replicate_succ, List.replicate_zero, List.cons_append, List.nil_append, List.getElem?_cons_zero, List.getElem?_cons_succ, List.set_cons_zero, List.set_cons_succ, ow_true, ow_false, if_true, if_false, Option.bind_some, true_and, and_true, Nat.zero_add, Nat.reduceAdd, Nat.reduceSub, Nat.reduceLeDiff, ltimes_rep se sl, lplus_rep se sl, lby_rep spr sel el, ie, ve, rep_nat, lby_rep sh sR R0, ltimes_rep sq ss, ltimes_rep sh sdue, rep_half, ltimes_rep sp6 shf, tr1, pd, same_refl 8 _ sm8]
end
end KX

set_option Elab.async false
set_option linter.all false
set_option maxRecDepth 100000
set_option maxHeartbeats 8000000
set_option autoImplicit false
namespace KX
open PySem PySem.Spec PyProof.Rows L2 TD
open KD (StOk)
theorem e_box {t : Ev} {S : Sto} (m : ME) (Q : D → Bool → Ev → Sto → Prop) : TD.WE (eBox m) t S Q = TD.WE m t S fun d f t S => f = true ∧ Q (.box S.length) false t (S ++ [d]) := by
  unfold TD.WE WP eBox bnd
  cases m t S with
  | ok x t' S' =>
    obtain ⟨d, f⟩ := x
    cases f
    · show (match (bad : ME) t' S' with | .ok a t S => Q a.1 a.2 t S | _ => False) = _
      exact propext ⟨fun z => z.elim, fun z => by cases z.1⟩
    · exact propext ⟨fun z => ⟨rfl, z⟩, fun z => z.2⟩
  | ex _ _ _ _ => rfl
  | bad => rfl
theorem set_map {cs : List (Rat × Rat)} {i : Nat} {c : Rat × Rat} (hi : i < cs.length) : (cs.map encC).take i ++ [encC c] ++ (cs.map encC).drop (i + 1) = (cs.set i c).map encC := by
  rw [List.set_eq_take_append_cons_drop, if_pos hi, List.map_append, List.map_cons, List.map_take, List.map_drop, List.append_assoc]; rfl
section
variable {S : Sto} {r : Sto} {n : Nat}
theorem stream_ok (ds : List D) (hl : ds.length ≤ 1000000) : F__law_stream [.scr ds] [] = .ok (.lst [.box 0, .int 0, .int 0, .int 17]) true [.lst ds] := by
  apply fw_eq
  unfold F__law_stream m__law_stream
  simp only [wpsA, wpsB, List.map_cons, List.map_nil, List.length_cons, List.length_nil, List.replicate_succ, List.replicate_zero, List.cons_append, List.nil_append, List.getElem?_cons_zero, List.getElem?_cons_succ, List.set_cons_zero, List.set_cons_succ, ow_true, ow_false, if_true, if_false, Option.bind_some, true_and, and_true, Nat.zero_add, Nat.reduceAdd, Nat.reduceSub, Nat.reduceLeDiff, e_box]
  exact hl
/-- a slot that matters no more -/
abbrev TurnP (s0 : Slot) (n : Nat) (t : Ev) (S : Sto) : Prop := ∃ s2 s3 s4 s5 s6 s7 s8 s9 s10 s11 s12 s13 s14 s15 s16 s17 s18 s19 s20 s21, t = [s0, .sh (.box 1), s2, s3, s4, s5, s6, s7, s8, s9, s10, s11, s12, s13, s14, s15, s16, s17, s18, s19, s20, s21] ∧ StOk n [] S
theorem law_ok {ns : List Int} (hl : ns.length ≤ 100000) : ∃ S', F_law [.scr (ns.map .int)] [] = .ok (.bl true) false S' := by
  have goal : FW (F_law [.scr (ns.map .int)] []) fun d f S' => d = .bl true ∧ f = false := by
    unfold F_law m_law
    simp only [wpsA, wpsB, List.map_cons, List.map_nil, List.length_cons, List.length_nil, List.replicate_succ, List.replicate_zero, List.cons_append, List.nil_append, List.getElem?_cons_zero, List.getElem?_cons_succ, List.set_cons_zero, List.set_cons_succ, ow_true, ow_false, if_true, if_false, Option.bind_some, true_and, and_true, Nat.zero_add, Nat.reduceAdd, Nat.reduceSub, Nat.reduceLeDiff, e_box, stream_ok (ns.map .int) (by rw [List.length_map]; omega)]
    refine ⟨by omega, ?_⟩
    have r4 : rng 0 (Int.toNat 4) = (List.range 4).map fun i => D.int (i : Nat) := rng_map 4
    rw [r4]
    refine wp_for (fun pre t S' => TurnP (.sh (.scr (ns.map .int))) (100 * pre.length) t S') ⟨_, _, _, _, _, _, _, _, _, _, _, _, _, _, _, _, _, _, _, _, rfl, ⟨ns, 0, 0, 17, rfl, by omega, by omega, by omega, by omega, by omega⟩⟩ (fun pre x post t S' eq ⟨s2, s3, s4, s5, s6, s7, s8, s9, s10, s11, s12, s13, s14, s15, s16, s17, s18, s19, s20, s21, ht, hS⟩ => ?_) (fun t S' ⟨s2, s3, s4, s5, s6, s7, s8, s9, s10, s11, s12, s13, s14, s15, s16, s17, s18, s19, s20, s21, ht, hS⟩ => ?_)
    · subst ht
      have pl : pre.length < 4 := by
        have := congrArg List.length eq
        rw [List.length_append, List.length_cons, List.length_range] at this
        omega
      generalize hm : 100 * pre.length = m at *
      have hm2 : m ≤ 400 := by omega
      have hm3 : 100 * (pre ++ [x]).length = m + 100 := by rw [List.length_append, List.length_singleton]; omega
      rw [hm3]
      simp only [wpsA, wpsB, List.map_cons, List.map_nil, List.length_cons, List.length_nil, List.replicate_succ, List.replicate_zero, List.cons_append, List.nil_append, List.getElem?_cons_zero, List.getElem?_cons_succ, List.set_cons_zero, List.set_cons_succ, ow_true, ow_false, if_true, if_false, Option.bind_some, true_and, and_true, Nat.zero_add, Nat.reduceAdd, Nat.reduceSub, Nat.reduceLeDiff]
      refine fw_mono (dr (many := 5) hS (by omega) (by omega) (by omega)) ?_
      rintro d f S1 ⟨u, rfl, rfl, hu, h1⟩
      simp only [wpsA, wpsB, List.map_cons, List.map_nil, List.length_cons, List.length_nil, List.replicate_succ, List.replicate_zero, List.cons_append, List.nil_append, List.getElem?_cons_zero, List.getElem?_cons_succ, List.set_cons_zero, List.set_cons_succ, ow_true, ow_false, if_true, if_false, Option.bind_some, true_and, and_true, Nat.zero_add, Nat.reduceAdd, Nat.reduceSub, Nat.reduceLeDiff]
      refine fw_mono (dr (many := 12) h1 (by omega) (by omega) (by omega)) ?_
      rintro d f S2 ⟨v, rfl, rfl, hv, h2⟩
      simp only [wpsA, wpsB, List.map_cons, List.map_nil, List.length_cons, List.length_nil, List.replicate_succ, List.replicate_zero, List.cons_append, List.nil_append, List.getElem?_cons_zero, List.getElem?_cons_succ, List.set_cons_zero, List.set_cons_succ, ow_true, ow_false, if_true, if_false, Option.bind_some, true_and, and_true, Nat.zero_add, Nat.reduceAdd, Nat.reduceSub, Nat.reduceLeDiff, one_add]
      obtain ⟨R, eR⟩ : ∃ R, R = 1 + u := ⟨_, rfl⟩
      obtain ⟨L, eL⟩ : ∃ L, L = 1 + v := ⟨_, rfl⟩
      rw [← eR, ← eL]
      have R1 : 1 ≤ R := by omega
      have R5 : R ≤ 5 := by omega
      have L1 : 1 ≤ L := by omega
      have L12 : L ≤ 1000 := by omega
      refine fw_mono (wishes_rep h2 (by omega)) ?_
      rintro d f S3 ⟨cs, rfl, rfl, h3, hcs⟩
      simp only [wpsA, wpsB, List.map_cons, List.map_nil, List.length_cons, List.length_nil, List.replicate_succ, List.replicate_zero, List.cons_append, List.nil_append, List.getElem?_cons_zero, List.getElem?_cons_succ, List.set_cons_zero, List.set_cons_succ, ow_true, ow_false, if_true, if_false, Option.bind_some, true_and, and_true, Nat.zero_add, Nat.reduceAdd, Nat.reduceSub, Nat.reduceLeDiff]
      refine fw_mono (worths_rep h3 (by omega)) ?_
      rintro d f S4 ⟨e, l, k, p, q, rfl, rfl, h4, hw⟩
      have rs := hcs.rs
      have t0 : ∀ S, F_troubles [.int R, .int L, .lst (cs.map encC), rep e, rep l] S = .ok (.lst ((tr e l R cs).map rep)) true S := fun S => tr_rep hw rs R1 (by omega) L1 L12
      simp only [wpsA, wpsB, List.map_cons, List.map_nil, List.length_cons, List.length_nil, List.replicate_succ, List.replicate_zero, List.cons_append, List.nil_append, List.getElem?_cons_zero, List.getElem?_cons_succ, List.set_cons_zero, List.set_cons_succ, ow_true, ow_false, if_true, if_false, Option.bind_some, true_and, and_true, Nat.zero_add, Nat.reduceAdd, Nat.reduceSub, Nat.reduceLeDiff, t0]
      refine fw_mono (dr (many := 4) h4 (by omega) (by omega) (by omega)) ?_
      rintro d f S5 ⟨y, rfl, rfl, hy, h5⟩
      have c4 : ((R : Int) + 1 + (y : Int)) = ((R + 1 + y : Nat) : Int) := by omega
      have t1 : ∀ S, F_troubles [.int ((R + 1 + y : Nat) : Int), .int L, .lst (cs.map encC), rep e, rep l] S = .ok (.lst ((tr e l (R + 1 + y) cs).map rep)) true S := fun S => tr_rep hw rs (by omega) (by omega) L1 L12
      simp only [wpsA, wpsB, List.map_cons, List.map_nil, List.length_cons, List.length_nil, List.replicate_succ, List.replicate_zero, List.cons_append, List.nil_append, List.getElem?_cons_zero, List.getElem?_cons_succ, List.set_cons_zero, List.set_cons_succ, ow_true, ow_false, if_true, if_false, Option.bind_some, true_and, and_true, Nat.zero_add, Nat.reduceAdd, Nat.reduceSub, Nat.reduceLeDiff, c4, t1, List.length_map]
      have cl := hcs.n
      have c1 : 1 ≤ cs.length := List.length_pos_iff.mpr hcs.ne
      refine fw_mono (dr (many := cs.length) h5 (by omega) c1 (by omega)) ?_
      rintro d f S6 ⟨at_, rfl, rfl, hat, h6⟩
      simp only [wpsA, wpsB, List.map_cons, List.map_nil, List.length_cons, List.length_nil, List.replicate_succ, List.replicate_zero, List.cons_append, List.nil_append, List.getElem?_cons_zero, List.getElem?_cons_succ, List.set_cons_zero, List.set_cons_succ, ow_true, ow_false, if_true, if_false, Option.bind_some, true_and, and_true, Nat.zero_add, Nat.reduceAdd, Nat.reduceSub, Nat.reduceLeDiff]
      refine fw_mono (dr (many := 15) h6 (by omega) (by omega) (by omega)) ?_
      rintro d f S7 ⟨mo, rfl, rfl, hmo, h7⟩
      obtain ⟨more, em, m6, _⟩ := low6 (S := S7) (k := 1 + mo) (j := 2) (.inr (.inl rfl))
      have em' : F__law_low [.int ((1 + mo : Nat) : Int), .int 2] S7 = .ok (rep more) false S7 := em
      have hc := List.getElem_mem hat
      obtain ⟨c, ec⟩ : ∃ c, c = cs[at_] := ⟨_, rfl⟩
      rw [← ec] at hc
      have wr := hcs.r c hc
      have rw_ := rs.r c hc
      have gAt : (cs.map encC)[at_]? = some (encC c) := by rw [List.getElem?_map, List.getElem?_eq_getElem hat, ← ec]; rfl
      have i0 : ∀ (S : Sto) (t : Ev) Q, TD.WE (dIx (encC c) (.int 0)) t S Q = Q (rep c.1) false t S := fun S t Q => rfl
      have i1 : ∀ (S : Sto) (t : Ev) Q, TD.WE (dIx (encC c) (.int 1)) t S Q = Q (rep c.2) false t S := fun S t Q => rfl
      have ve : ∀ (S : Sto) Q, VW S (encC c) Q = Q (encC c) := fun S Q => rfl
      have sMore : Sm more := sm6 m6 (by omega)
      have cA : ((at_ : Int) + 1) = ((at_ + 1 : Nat) : Int) := by omega
      have u1 : TD.cutD (cs.map encC) none (some (at_ : Int)) = (cs.map encC).take at_ := cut_to _ _ (by rw [List.length_map]; omega)
      have u2 : TD.cutD (cs.map encC) (some ((at_ : Int) + 1)) none = (cs.map encC).drop (at_ + 1) := by rw [cA]; exact cut_from _ _ (by rw [List.length_map]; omega)
      simp only [wpsA, wpsB, List.map_cons, List.map_nil, List.length_cons, List.length_nil, List.replicate_succ, List.replicate_zero, List.cons_append, List.nil_append, List.getElem?_cons_zero, List.getElem?_cons_succ, List.set_cons_zero, List.set_cons_succ, ow_true, ow_false, if_true, if_false, Option.bind_some, true_and, and_true, Nat.zero_add, Nat.reduceAdd, Nat.reduceSub, Nat.reduceLeDiff, one_add, em', u1, u2, gAt, i0, i1, ve, lplus_rep rw_.smh sMore]
      refine ⟨by simp only [List.length_take, List.length_map]; omega, by simp only [List.length_append, List.length_take, List.length_map, List.length_cons, List.length_nil]; omega, by simp only [List.length_drop, List.length_map]; omega, by simp only [List.length_append, List.length_take, List.length_drop, List.length_map, List.length_cons, List.length_nil]; omega, ?_⟩
      obtain ⟨us, eus⟩ : ∃ us, us = cs.set at_ (c.1, c.2 + more) := ⟨_, rfl⟩
      have eset : (cs.map encC).take at_ ++ [D.tup [rep c.1, rep (c.2 + more)]] ++ (cs.map encC).drop (at_ + 1) = us.map encC := by rw [eus]; exact set_map (c := (c.1, c.2 + more)) hat
      rw [eset]
      obtain ⟨ci, ci1, ci2, ci3⟩ := wr.m
      obtain ⟨cj, cj1, cj2, cj3⟩ := wr.h
      have mpos : 0 < more := by
        have := natR ((1 + mo) * (6 / 2)) (by omega)
        rw [← m6] at this; grind
      have lus : us.length = cs.length := by rw [eus, List.length_set]
      have gus : ∀ (i : Nat) (x y : Rat × Rat), cs[i]? = some x → us[i]? = some y → x.1 = y.1 ∧ x.2 ≤ y.2 := by
        intro i x y hx hy
        rw [eus, List.getElem?_set] at hy
        by_cases z : at_ = i
        · subst z
          rw [if_pos rfl, if_pos hat] at hy
          cases hy
          rw [List.getElem?_eq_getElem hat, ← ec] at hx
          cases hx
          exact ⟨rfl, by simp only; grind⟩
        · rw [if_neg z, hx] at hy
          cases hy
          exact ⟨rfl, Rat.le_refl⟩
      have ru : Rs us := by
        refine ⟨fun z hz => ?_, ?_, by omega, fun z => by rw [z] at lus; simp at lus; omega⟩
        · rw [eus] at hz
          rcases List.mem_or_eq_of_mem_set hz with hz | hz
          · exact rs.r z hz
          · subst hz
            refine ⟨⟨ci, ci1, by omega⟩, ⟨cj + (1 + mo) * (6 / 2), ?_, by omega, by omega⟩⟩
            show (c.2 + more) * 6 = _
            rw [Rat.add_mul, cj1, m6, Rat.natCast_add]
        · have : us.map (·.1) = cs.map (·.1) := by
            apply List.ext_getElem
            · rw [List.length_map, List.length_map, lus]
            · intro i h1 h2
              rw [List.length_map] at h1 h2
              rw [List.getElem_map, List.getElem_map]
              exact (gus i cs[i] us[i] (List.getElem?_eq_getElem h2) (List.getElem?_eq_getElem h1)).1.symm
          have pc := List.pairwise_map.mpr rs.i
          rw [← this] at pc
          exact List.pairwise_map.mp pc
      have R0 := natR R R1
      have t2 : ∀ S, F_troubles [.int R, .int L, .lst (us.map encC), rep e, rep l] S = .ok (.lst ((tr e l R us).map rep)) true S := fun S => tr_rep hw ru R1 (by omega) L1 L12
      have lt0 := tr_len hw rs R1 (show R ≤ 24 by omega)
      have lt1 := tr_len (R := R + 1 + y) hw rs (by omega) (by omega)
      have lt2 := tr_len hw ru R1 (show R ≤ 24 by omega)
      have mono1 : ∀ (i : Nat) (a b : Rat), (tr e l (R + 1 + y) cs)[i]? = some a → (tr e l R cs)[i]? = some b → a ≤ b := tr_mono hw rs rs (by omega) (by omega) R1 (by omega) rfl (fun i x z hx hz => by
        rw [hx] at hz
        cases hz
        refine ⟨rfl, ?_⟩
        have hh := (rs.r x (List.mem_of_getElem? hx)).h0
        have R2 := natR (R + 1 + y) (by omega)
        have le : (R : Rat) ≤ ((R + 1 + y : Nat) : Rat) := Rat.natCast_le_natCast.mpr (by omega)
        have q1 : x.2 / (R : Rat) * (R : Rat) = x.2 := Rat.div_mul_cancel (fun z => by rw [z] at R0; exact Rat.lt_irrefl R0)
        have q2 : x.2 / ((R + 1 + y : Nat) : Rat) * ((R + 1 + y : Nat) : Rat) = x.2 := Rat.div_mul_cancel (fun z => by rw [z] at R2; exact Rat.lt_irrefl R2)
        have q3 : 0 ≤ x.2 / (R : Rat) := by rw [Rat.div_def]; exact Rat.le_of_lt (Rat.mul_pos hh (Rat.inv_pos.mpr R0))
        have q4 := Rat.mul_le_mul_of_nonneg_left le q3
        exact Rat.le_of_mul_le_mul_right (by rw [q2]; grind) R2)
      have mono2 : ∀ (i : Nat) (a b : Rat), (tr e l R cs)[i]? = some a → (tr e l R us)[i]? = some b → a ≤ b := tr_mono hw rs ru R1 (by omega) R1 (by omega) lus.symm (fun i x z hx hz => by
        obtain ⟨g1, g2⟩ := gus i x z hx hz
        refine ⟨g1, ?_⟩
        rw [Rat.div_def, Rat.div_def]
        exact Rat.mul_le_mul_of_nonneg_right g2 (Rat.le_of_lt (Rat.inv_pos.mpr R0)))
      have nm1 : ∀ S, F__law_none_more [.lst ((tr e l (R + 1 + y) cs).map rep), .lst ((tr e l R cs).map rep)] S = .ok (.bl true) false S := fun S => none_more_rep (by omega) mono1 (tr_sm hw rs (by omega) (by omega)) (tr_sm hw rs R1 (by omega)) (by omega)
      have nm2 : ∀ S, F__law_none_more [.lst ((tr e l R cs).map rep), .lst ((tr e l R us).map rep)] S = .ok (.bl true) false S := fun S => none_more_rep (by omega) mono2 (tr_sm hw rs R1 (by omega)) (tr_sm hw ru R1 (by omega)) (by omega)
      have al : ∀ S, F__law_alone_right [.int R, .int L, encC c, rep e, rep l] S = .ok (.bl true) false S := fun S => alone_rep hw rw_ R1 (by omega) L1 L12
      simp only [wpsA, wpsB, List.map_cons, List.map_nil, List.length_cons, List.length_nil, List.replicate_succ, List.replicate_zero, List.cons_append, List.nil_append, List.getElem?_cons_zero, List.getElem?_cons_succ, List.set_cons_zero, List.set_cons_succ, ow_true, ow_false, if_true, if_false, Option.bind_some, true_and, and_true, Nat.zero_add, Nat.reduceAdd, Nat.reduceSub, Nat.reduceLeDiff, nm1, Bool.not_true, t2, nm2, gAt, al]
      refine fw_mono (dr (many := 40) h7 (by omega) (by omega) (by omega)) ?_
      rintro d f S8 ⟨bt, rfl, rfl, hbt, h8⟩
      obtain ⟨β, eβ⟩ : ∃ β : Rat, β = ((1 + bt : Nat) : Rat) := ⟨_, rfl⟩
      have sβ : Sm β := by rw [eβ]; exact Lsm (by omega)
      have β0 : 0 < β := by rw [eβ]; exact natR _ (by omega)
      simp only [wpsA, wpsB, List.map_cons, List.map_nil, List.length_cons, List.length_nil, List.replicate_succ, List.replicate_zero, List.cons_append, List.nil_append, List.getElem?_cons_zero, List.getElem?_cons_succ, List.set_cons_zero, List.set_cons_succ, ow_true, ow_false, if_true, if_false, Option.bind_some, true_and, and_true, Nat.zero_add, Nat.reduceAdd, Nat.reduceSub, Nat.reduceLeDiff, one_add, rep_nat]
      rw [← eβ]
      refine ⟨by rw [List.length_map]; omega, ?_⟩
      refine wp_lcP (fun _ => true) (fun c => encC (c.1 + β, c.2)) (fun z hz => ?_) ?_
      · unfold encC
        simp only [wpsA, wpsB, List.map_cons, List.map_nil, List.length_cons, List.length_nil, List.replicate_succ, List.replicate_zero, List.cons_append, List.nil_append, List.getElem?_cons_zero, List.getElem?_cons_succ, List.set_cons_zero, List.set_cons_succ, ow_true, ow_false, if_true, if_false, Option.bind_some, true_and, and_true, Nat.zero_add, Nat.reduceAdd, Nat.reduceSub, Nat.reduceLeDiff, lplus_rep (rs.r z hz).smm sβ]
        exact fun _ => trivial
      rw [List.filter_eq_self.mpr (fun _ _ => rfl)]
      obtain ⟨ls, els⟩ : ∃ ls, ls = cs.map fun c => (c.1 + β, c.2) := ⟨_, rfl⟩
      have el2 : (cs.map fun c => encC (c.1 + β, c.2)) = ls.map encC := by rw [els, List.map_map]; rfl
      rw [el2]
      have rl : Rs ls := by
        rw [els]
        refine ⟨fun z hz => ?_, ?_, by rw [List.length_map]; omega, fun z => hcs.ne (List.map_eq_nil_iff.mp z)⟩
        · obtain ⟨x, hx, rfl⟩ := List.mem_map.mp hz
          obtain ⟨⟨i, a1, a2, a3⟩, j, b1, b2, b3⟩ := hcs.r x hx
          refine ⟨⟨i + 6 * (1 + bt), ?_, by omega⟩, ⟨j, b1, b2, by omega⟩⟩
          show (x.1 + β) * 6 = _
          have e6 : ((6 : Nat) : Rat) = 6 := rfl
          rw [Rat.add_mul, a1, eβ, Rat.natCast_add i, Rat.natCast_mul, e6]; grind
        · rw [List.pairwise_map]
          exact rs.i.imp (fun {a b} h => by show a.1 + β < b.1 + β; grind)
      simp only [wpsA, wpsB, List.map_cons, List.map_nil, List.length_cons, List.length_nil, List.replicate_succ, List.replicate_zero, List.cons_append, List.nil_append, List.getElem?_cons_zero, List.getElem?_cons_succ, List.set_cons_zero, List.set_cons_succ, ow_true, ow_false, if_true, if_false, Option.bind_some, true_and, and_true, Nat.zero_add, Nat.reduceAdd, Nat.reduceSub, Nat.reduceLeDiff]
      refine fw_mono (dr (many := 12) h8 (by omega) (by omega) (by omega)) ?_
      rintro d f S9 ⟨w, rfl, rfl, hw12, h9⟩
      have t3 : ∀ (S : Sto) (L : Nat), 1 ≤ L → L ≤ 1000 → F_troubles [.int R, .int L, .lst (ls.map encC), rep e, rep l] S = .ok (.lst ((tr e l R cs).map rep)) true S := fun S L a1 a2 => by
        have := tr_rep (S := S) hw rl R1 (show R ≤ 24 by omega) a1 a2
        rw [els, tr_off hw rs R1 (by omega)] at this
        rw [els]
        exact this
      have plT : plain 8 (.lst ((tr e l R cs).map rep)) = true := by
        have : ∀ x : Rat, plain 7 (rep x) = true := fun x => by unfold rep; simp [plain, lim_eq]
        simp only [plain, Bool.and_eq_true, decide_eq_true_eq, List.all_eq_true, List.length_map, lim_eq]
        refine ⟨fun d hd => ?_, by omega⟩
        obtain ⟨x, _, rfl⟩ := List.mem_map.mp hd
        exact this x
      simp only [wpsA, wpsB, List.map_cons, List.map_nil, List.length_cons, List.length_nil, List.replicate_succ, List.replicate_zero, List.cons_append, List.nil_append, List.getElem?_cons_zero, List.getElem?_cons_succ, List.set_cons_zero, List.set_cons_succ, ow_true, ow_false, if_true, if_false, Option.bind_some, true_and, and_true, Nat.zero_add, Nat.reduceAdd, Nat.reduceSub, Nat.reduceLeDiff, one_add, t3 S9 (1 + w) (by omega) (by omega), same_refl 8 _ plT, Bool.not_true]
      refine ⟨by rw [List.length_map]; omega, ?_⟩
      have s30 : Sm (30 : Rat) := by have := Lsm (L := 30) (by decide); exact this
      have r30 : D.tup [.int 30, .int 1] = rep (30 : Rat) := rfl
      have r2 : D.tup [.int 2, .int 1] = rep (((2 : Nat) : Nat) : Rat) := rfl
      have s2' : Sm (((2 : Nat) : Nat) : Rat) := Lsm (by decide)
      refine wp_lcP (fun c => !decide ((30 : Rat) < c.2)) (fun c => encC (c.1, c.2 * ((2 : Nat) : Rat))) (fun z hz => ?_) ?_
      · have zs := (rs.r z hz).smh
        unfold encC
        simp only [wpsA, wpsB, List.map_cons, List.map_nil, List.length_cons, List.length_nil, List.replicate_succ, List.replicate_zero, List.cons_append, List.nil_append, List.getElem?_cons_zero, List.getElem?_cons_succ, List.set_cons_zero, List.set_cons_succ, ow_true, ow_false, if_true, if_false, Option.bind_some, true_and, and_true, Nat.zero_add, Nat.reduceAdd, Nat.reduceSub, Nat.reduceLeDiff, r30, lbelow_rep s30 zs, r2, ltimes_rep zs s2']
        by_cases c30 : (30 : Rat) < z.2
        · rw [decide_eq_true c30]; exact fun h => absurd h (by decide)
        · rw [decide_eq_false c30]; exact fun _ => trivial
      simp only [wpsA, wpsB, List.map_cons, List.map_nil, List.length_cons, List.length_nil, List.replicate_succ, List.replicate_zero, List.cons_append, List.nil_append, List.getElem?_cons_zero, List.getElem?_cons_succ, List.set_cons_zero, List.set_cons_succ, ow_true, ow_false, if_true, if_false, Option.bind_some, true_and, and_true, Nat.zero_add, Nat.reduceAdd, Nat.reduceSub, Nat.reduceLeDiff, List.length_map]
      -- with as many, twice as wide
      have full : (cs.filter fun c => !decide ((30 : Rat) < c.2)).length = cs.length → (cs.filter fun c => !decide ((30 : Rat) < c.2)) = cs := fun h => List.filter_eq_self.mpr (fun c hc => (List.length_filter_eq_length_iff.mp h) c hc)
      obtain ⟨tw, etw⟩ : ∃ tw, tw = cs.map fun c => (c.1, c.2 * ((2 : Nat) : Rat)) := ⟨_, rfl⟩
      have etw2 : (cs.map fun c => encC (c.1, c.2 * ((2 : Nat) : Rat))) = tw.map encC := by rw [etw, List.map_map]; rfl
      have rt : Rs tw := by
        rw [etw]
        refine ⟨fun z hz => ?_, ?_, by rw [List.length_map]; omega, fun z => hcs.ne (List.map_eq_nil_iff.mp z)⟩
        · obtain ⟨x, hx, rfl⟩ := List.mem_map.mp hz
          obtain ⟨⟨i, a1, a2, a3⟩, j, b1, b2, b3⟩ := hcs.r x hx
          refine ⟨⟨i, a1, by omega⟩, ⟨j * 2, ?_, by omega, by omega⟩⟩
          show x.2 * ((2 : Nat) : Rat) * 6 = _
          rw [Rat.natCast_mul, ← b1]; grind
        · rw [List.pairwise_map]
          exact rs.i
      have t4 : ∀ S, F_troubles [.int ((2 * R : Nat) : Int), .int L, .lst (tw.map encC), rep e, rep l] S = .ok (.lst ((tr e l R cs).map rep)) true S := fun S => by
        have := tr_rep (S := S) hw rt (show 1 ≤ 2 * R by omega) (show 2 * R ≤ 24 by omega) L1 L12
        rw [etw, tr_as hw rs R1 (by omega) 2 (by decide)] at this
        rw [etw]
        exact this
      have m2 : mulOk 2 (R : Int) = true := mulOk_of (a := 10) (b := 10) (by decide) (by rw [Int.natAbs_natCast]; exact Nat.le_trans (log2_mono R5) (by decide)) (by decide)
      have c2R : ((2 : Int) * (R : Int)) = ((2 * R : Nat) : Int) := by omega
      -- the rest of the turn, whatever was kept
      have gv := giv hw rs R1 (show R ≤ 24 by omega) L1 L12
      have nb : bk e l R cs ≠ [] := fun z => by
        have ok := gv.ok
        unfold bk at z
        rw [z] at ok
        have := costs_len e l ok
        rw [List.length_map] at this
        have : 0 = cs.length := this
        omega
      obtain ⟨C, bs', ebk⟩ := List.exists_cons_of_ne_nil nb
      have str : ∀ S, F_stretches [.int R, .int L, .lst (cs.map encC), rep e, rep l] S = .ok (.lst ((bk e l R cs).map encS)) true S := fun S => stretches_rep gv
      have x0 : atI ((bk e l R cs).map encS) 0 = some (encS C) := by rw [ebk, List.map_cons, at0]
      have y0 : ∀ (S : Sto) (t : Ev) Q, TD.WE (dIx (encS C) (.int 0)) t S Q = Q (rep C.b) false t S := fun S t Q => rfl
      have vS : ∀ (S : Sto) Q, VW S (encS C) Q = Q (encS C) := fun S Q => rfl
      have sC : Sm C.b := (gv.g C (by show C ∈ bk e l R cs; rw [ebk]; simp)).sm gv.r.hM (by decide)
      have sL : Sm (L : Rat) := Lsm (by omega)
      have plS : ∀ yss : List (List (Rat × Rat)), yss.length ≤ 100 → (∀ ys ∈ yss, ys.length ≤ 1000) → plain 8 (.lst (yss.map fun cs => .lst (cs.map encC))) = true := fun yss h1 h2 => by
        have p1 : ∀ x : Rat, plain 5 (rep x) = true := fun x => by unfold rep; simp [plain, lim_eq]
        have p2 : ∀ c : Rat × Rat, plain 6 (encC c) = true := fun c => by unfold encC; simp [plain, lim_eq, p1]
        have p3 : ∀ cs : List (Rat × Rat), cs.length ≤ 1000 → plain 7 (.lst (cs.map encC)) = true := fun cs h => by
          simp only [plain, Bool.and_eq_true, decide_eq_true_eq, List.all_eq_true, List.length_map, lim_eq]
          refine ⟨fun d hd => ?_, by omega⟩
          obtain ⟨x, _, rfl⟩ := List.mem_map.mp hd
          exact p2 x
        simp only [plain, Bool.and_eq_true, decide_eq_true_eq, List.all_eq_true, List.length_map, lim_eq]
        refine ⟨fun d hd => ?_, by omega⟩
        obtain ⟨x, hx, rfl⟩ := List.mem_map.mp hd
        exact p3 x (h2 x hx)
      have lst0 : (st e l R L cs).length = cs.length := by unfold st settledQ; rw [List.length_map, List.length_range]
      have sst := st_sm hw rs R1 (show R ≤ 24 by omega) L1 L12
      have plO : plain 8 (.lst (((st e l R L cs).map (putOff β)).map fun cs => .lst (cs.map encC))) = true := plS _ (by rw [List.length_map]; omega) (fun ys hy => by
        obtain ⟨zs, hz, rfl⟩ := List.mem_map.mp hy
        have h1 := (sst zs hz).2
        unfold putOff
        rw [List.length_cons, List.length_map]
        have := List.length_filter_le (fun c : Rat × Rat => decide (0 < c.1) || decide (0 < c.2)) zs
        omega)
      have plA : plain 8 (.lst (((st e l R L cs).map (timesAs ((2 : Nat) : Rat))).map fun cs => .lst (cs.map encC))) = true := plS _ (by rw [List.length_map]; omega) (fun ys hy => by
        obtain ⟨zs, hz, rfl⟩ := List.mem_map.mp hy
        have h1 := (sst zs hz).2
        unfold timesAs
        rw [List.length_map]
        omega)
      have s0 : ¬ C.b < (L : Rat) → ∀ S, F_settled [.int R, .int L, .lst (cs.map encC), rep e, rep l] S = .ok (.lst ((st e l R L cs).map fun cs => .lst (cs.map encC))) true S := fun hs S => st_rep hw rs R1 (by omega) L1 L12 (fun D hD => by rw [ebk] at hD; cases hD; exact Rat.not_lt.mp hs)
      have s1 : ¬ C.b < (L : Rat) → ∀ S, F_settled [.int R, .int L, .lst (ls.map encC), rep e, rep l] S = .ok (.lst (((st e l R L cs).map (putOff β)).map fun cs => .lst (cs.map encC))) true S := fun hs S => by
        have hb := bk_off hw rs R1 (show R ≤ 24 by omega) β
        rw [← els] at hb
        have := st_rep (S := S) hw rl R1 (show R ≤ 24 by omega) L1 L12 (fun D hD => by
          rw [hb, ebk] at hD
          cases hD
          show (L : Rat) ≤ C.b + β
          have := Rat.not_lt.mp hs
          grind)
        rw [els, st_off hw rs R1 (show R ≤ 24 by omega) β0 (fun D hD => by rw [ebk] at hD; cases hD; exact Rat.not_lt.mp hs)] at this
        rw [els]
        exact this
      have s2 : ¬ C.b < (L : Rat) → ∀ S, F_settled [.int ((2 * R : Nat) : Int), .int L, .lst (tw.map encC), rep e, rep l] S = .ok (.lst (((st e l R L cs).map (timesAs ((2 : Nat) : Rat))).map fun cs => .lst (cs.map encC))) true S := fun hs S => by
        have hb := bk_as hw rs R1 (show R ≤ 24 by omega) 2 (by decide)
        rw [← etw] at hb
        have := st_rep (S := S) hw rt (show 1 ≤ 2 * R by omega) (show 2 * R ≤ 24 by omega) L1 L12 (fun D hD => by
          rw [hb, ebk] at hD
          cases hD
          show (L : Rat) ≤ C.b + 0
          have := Rat.not_lt.mp hs
          grind)
        rw [etw, st_as hw rs R1 (show R ≤ 24 by omega) 2 (by decide)] at this
        rw [etw]
        exact this
      have pO : ∀ S, ∀ ys ∈ st e l R L cs, F__law_put_off [.lst (ys.map encC), rep β] S = .ok (.lst ((putOff β ys).map encC)) true S := fun S ys hy => put_off_rep sβ (sst ys hy).1 (sst ys hy).2
      have pA : ∀ S, ∀ ys ∈ st e l R L cs, F__law_times_as [.lst (ys.map encC), .int 2] S = .ok (.lst ((timesAs ((2 : Nat) : Rat) ys).map encC)) true S := fun S ys hy => times_as_rep (j := 2) (by decide) (sst ys hy).1 (sst ys hy).2
      have mO : ((st e l R L cs).map fun ys => D.lst ((putOff β ys).map encC)) = (((st e l R L cs).map (putOff β)).map fun cs => .lst (cs.map encC)) := by rw [List.map_map]; rfl
      have mA : ((st e l R L cs).map fun ys => D.lst ((timesAs ((2 : Nat) : Rat) ys).map encC)) = (((st e l R L cs).map (timesAs ((2 : Nat) : Rat))).map fun cs => .lst (cs.map encC)) := by rw [List.map_map]; rfl
      by_cases hfl : (cs.filter fun c => !decide ((30 : Rat) < c.2)).length = cs.length
      · have lTw : tw.length = cs.length := by rw [etw, List.length_map]
        rw [full hfl, etw2, decide_eq_true (by rfl)]
        simp only [wpsA, wpsB, List.map_cons, List.map_nil, List.length_cons, List.length_nil, List.replicate_succ, List.replicate_zero, List.cons_append, List.nil_append, List.getElem?_cons_zero, List.getElem?_cons_succ, List.set_cons_zero, List.set_cons_succ, ow_true, ow_false, if_true, if_false, Option.bind_some, true_and, and_true, Nat.zero_add, Nat.reduceAdd, Nat.reduceSub, Nat.reduceLeDiff]
        rw [e_mul _ _ _ m2]
        simp only [wpsA, wpsB, List.map_cons, List.map_nil, List.length_cons, List.length_nil, List.replicate_succ, List.replicate_zero, List.cons_append, List.nil_append, List.getElem?_cons_zero, List.getElem?_cons_succ, List.set_cons_zero, List.set_cons_succ, ow_true, ow_false, if_true, if_false, Option.bind_some, true_and, and_true, Nat.zero_add, Nat.reduceAdd, Nat.reduceSub, Nat.reduceLeDiff, c2R, t4, same_refl 8 _ plT, Bool.not_true, str, x0, y0, vS, rep_nat, lbelow_rep sC sL]
        by_cases hs : C.b < (L : Rat)
        · rw [decide_eq_true hs]
          simp only [wpsA, wpsB, List.map_cons, List.map_nil, List.length_cons, List.length_nil, List.replicate_succ, List.replicate_zero, List.cons_append, List.nil_append, List.getElem?_cons_zero, List.getElem?_cons_succ, List.set_cons_zero, List.set_cons_succ, ow_true, ow_false, if_true, if_false, Option.bind_some, true_and, and_true, Nat.zero_add, Nat.reduceAdd, Nat.reduceSub, Nat.reduceLeDiff]
          exact ⟨_, _, _, _, _, _, _, _, _, _, _, _, _, _, _, _, _, _, _, _, rfl, h9.mono (by omega)⟩
        · have eqL : decide ((tw.length : Int) = (cs.length : Int)) = true := decide_eq_true (by rw [lTw])
          rw [decide_eq_false hs]
          simp only [wpsA, wpsB, List.map_cons, List.map_nil, List.length_cons, List.length_nil, List.replicate_succ, List.replicate_zero, List.cons_append, List.nil_append, List.getElem?_cons_zero, List.getElem?_cons_succ, List.set_cons_zero, List.set_cons_succ, ow_true, ow_false, if_true, if_false, Option.bind_some, true_and, and_true, Nat.zero_add, Nat.reduceAdd, Nat.reduceSub, Nat.reduceLeDiff, s0 hs]
          refine ⟨by rw [List.length_map]; omega, ?_⟩
          refine wp_lcP (fun _ => true) (fun ys => .lst ((putOff β ys).map encC)) (fun ys hy => ?_) ?_
          · simp only [wpsA, wpsB, List.map_cons, List.map_nil, List.length_cons, List.length_nil, List.replicate_succ, List.replicate_zero, List.cons_append, List.nil_append, List.getElem?_cons_zero, List.getElem?_cons_succ, List.set_cons_zero, List.set_cons_succ, ow_true, ow_false, if_true, if_false, Option.bind_some, true_and, and_true, Nat.zero_add, Nat.reduceAdd, Nat.reduceSub, Nat.reduceLeDiff, pO S9 ys hy]
            exact fun _ => trivial
          rw [List.filter_eq_self.mpr (fun _ _ => rfl), mO]
          simp only [wpsA, wpsB, List.map_cons, List.map_nil, List.length_cons, List.length_nil, List.replicate_succ, List.replicate_zero, List.cons_append, List.nil_append, List.getElem?_cons_zero, List.getElem?_cons_succ, List.set_cons_zero, List.set_cons_succ, ow_true, ow_false, if_true, if_false, Option.bind_some, true_and, and_true, Nat.zero_add, Nat.reduceAdd, Nat.reduceSub, Nat.reduceLeDiff, s1 hs, same_refl 8 _ plO, Bool.not_true, List.length_map]
          rw [eqL]
          simp only [wpsA, wpsB, List.map_cons, List.map_nil, List.length_cons, List.length_nil, List.replicate_succ, List.replicate_zero, List.cons_append, List.nil_append, List.getElem?_cons_zero, List.getElem?_cons_succ, List.set_cons_zero, List.set_cons_succ, ow_true, ow_false, if_true, if_false, Option.bind_some, true_and, and_true, Nat.zero_add, Nat.reduceAdd, Nat.reduceSub, Nat.reduceLeDiff]
          refine ⟨by rw [List.length_map]; omega, ?_⟩
          refine wp_lcP (fun _ => true) (fun ys => .lst ((timesAs ((2 : Nat) : Rat) ys).map encC)) (fun ys hy => ?_) ?_
          · simp only [wpsA, wpsB, List.map_cons, List.map_nil, List.length_cons, List.length_nil, List.replicate_succ, List.replicate_zero, List.cons_append, List.nil_append, List.getElem?_cons_zero, List.getElem?_cons_succ, List.set_cons_zero, List.set_cons_succ, ow_true, ow_false, if_true, if_false, Option.bind_some, true_and, and_true, Nat.zero_add, Nat.reduceAdd, Nat.reduceSub, Nat.reduceLeDiff, pA S9 ys hy]
            exact fun _ => trivial
          rw [List.filter_eq_self.mpr (fun _ _ => rfl), mA]
          simp only [wpsA, wpsB, List.map_cons, List.map_nil, List.length_cons, List.length_nil, List.replicate_succ, List.replicate_zero, List.cons_append, List.nil_append, List.getElem?_cons_zero, List.getElem?_cons_succ, List.set_cons_zero, List.set_cons_succ, ow_true, ow_false, if_true, if_false, Option.bind_some, true_and, and_true, Nat.zero_add, Nat.reduceAdd, Nat.reduceSub, Nat.reduceLeDiff]
          rw [e_mul _ _ _ m2]
          simp only [wpsA, wpsB, List.map_cons, List.map_nil, List.length_cons, List.length_nil, List.replicate_succ, List.replicate_zero, List.cons_append, List.nil_append, List.getElem?_cons_zero, List.getElem?_cons_succ, List.set_cons_zero, List.set_cons_succ, ow_true, ow_false, if_true, if_false, Option.bind_some, true_and, and_true, Nat.zero_add, Nat.reduceAdd, Nat.reduceSub, Nat.reduceLeDiff, c2R, s2 hs, same_refl 8 _ plA, Bool.not_true]
          exact ⟨_, _, _, _, _, _, _, _, _, _, _, _, _, _, _, _, _, _, _, _, rfl, h9.mono (by omega)⟩
      · have neL : decide (((cs.filter fun c => !decide ((30 : Rat) < c.2)).length : Int) = (cs.length : Int)) = false := decide_eq_false (by omega)
        rw [neL]
        simp only [wpsA, wpsB, List.map_cons, List.map_nil, List.length_cons, List.length_nil, List.replicate_succ, List.replicate_zero, List.cons_append, List.nil_append, List.getElem?_cons_zero, List.getElem?_cons_succ, List.set_cons_zero, List.set_cons_succ, ow_true, ow_false, if_true, if_false, Option.bind_some, true_and, and_true, Nat.zero_add, Nat.reduceAdd, Nat.reduceSub, Nat.reduceLeDiff, str, x0, y0, vS, rep_nat, lbelow_rep sC sL]
        by_cases hs : C.b < (L : Rat)
        · rw [decide_eq_true hs]
          simp only [wpsA, wpsB, List.map_cons, List.map_nil, List.length_cons, List.length_nil, List.replicate_succ, List.replicate_zero, List.cons_append, List.nil_append, List.getElem?_cons_zero, List.getElem?_cons_succ, List.set_cons_zero, List.set_cons_succ, ow_true, ow_false, if_true, if_false, Option.bind_some, true_and, and_true, Nat.zero_add, Nat.reduceAdd, Nat.reduceSub, Nat.reduceLeDiff]
          exact ⟨_, _, _, _, _, _, _, _, _, _, _, _, _, _, _, _, _, _, _, _, rfl, h9.mono (by omega)⟩
        · skip
          rw [decide_eq_false hs]
          simp only [wpsA, wpsB, List.map_cons, List.map_nil, List.length_cons, List.length_nil, List.replicate_succ, List.replicate_zero, List.cons_append, List.nil_append, List.getElem?_cons_zero, List.getElem?_cons_succ, List.set_cons_zero, List.set_cons_succ, ow_true, ow_false, if_true, if_false, Option.bind_some, true_and, and_true, Nat.zero_add, Nat.reduceAdd, Nat.reduceSub, Nat.reduceLeDiff, s0 hs]
          refine ⟨by rw [List.length_map]; omega, ?_⟩
          refine wp_lcP (fun _ => true) (fun ys => .lst ((putOff β ys).map encC)) (fun ys hy => ?_) ?_
          · simp only [wpsA, wpsB, List.map_cons, List.map_nil, List.length_cons, List.length_nil, List.replicate_succ, List.replicate_zero, List.cons_append, List.nil_append, List.getElem?_cons_zero, List.getElem?_cons_succ, List.set_cons_zero, List.set_cons_succ, ow_true, ow_false, if_true, if_false, Option.bind_some, true_and, and_true, Nat.zero_add, Nat.reduceAdd, Nat.reduceSub, Nat.reduceLeDiff, pO S9 ys hy]
            exact fun _ => trivial
          rw [List.filter_eq_self.mpr (fun _ _ => rfl), mO]
          simp only [wpsA, wpsB, List.map_cons, List.map_nil, List.length_cons, List.length_nil, List.replicate_succ, List.replicate_zero, List.cons_append, List.nil_append, List.getElem?_cons_zero, List.getElem?_cons_succ, List.set_cons_zero, List.set_cons_succ, ow_true, ow_false, if_true, if_false, Option.bind_some, true_and, and_true, Nat.zero_add, Nat.reduceAdd, Nat.reduceSub, Nat.reduceLeDiff, s1 hs, same_refl 8 _ plO, Bool.not_true, List.length_map]
          rw [neL]
          simp only [wpsA, wpsB, List.map_cons, List.map_nil, List.length_cons, List.length_nil, List.replicate_succ, List.replicate_zero, List.cons_append, List.nil_append, List.getElem?_cons_zero, List.getElem?_cons_succ, List.set_cons_zero, List.set_cons_succ, ow_true, ow_false, if_true, if_false, Option.bind_some, true_and, and_true, Nat.zero_add, Nat.reduceAdd, Nat.reduceSub, Nat.reduceLeDiff]
          exact ⟨_, _, _, _, _, _, _, _, _, _, _, _, _, _, _, _, _, _, _, _, rfl, h9.mono (by omega)⟩
    · subst ht
      simp only [wpsA, wpsB, List.map_cons, List.map_nil, List.length_cons, List.length_nil, List.replicate_succ, List.replicate_zero, List.cons_append, List.nil_append, List.getElem?_cons_zero, List.getElem?_cons_succ, List.set_cons_zero, List.set_cons_succ, ow_true, ow_false, if_true, if_false, Option.bind_some, true_and, and_true, Nat.zero_add, Nat.reduceAdd, Nat.reduceSub, Nat.reduceLeDiff]
  obtain ⟨d, f, S', e1, rfl, rfl⟩ := fw_ex goal
  exact ⟨S', e1⟩
end
end KX

set_option Elab.async false
set_option linter.all false
set_option maxRecDepth 100000
set_option maxHeartbeats 0
set_option autoImplicit false
namespace KX
open PySem PySem.Spec PyProof.Rows L2 TD
theorem ats_ints {K : PySem.W.Frag} {H : Hp} {O : Addr → Prop} {b : List Addr} : ∀ ns : List Int, Ats K H O b (ns.map D.int) (ns.map V.int)
  | [] => rfl
  | n :: ns => ⟨_, _, rfl, rfl, ats_ints ns⟩
theorem start0 {K : PySem.W.Frag} {H : Hp} (hT : LamX.Tabs (TT K) H) : Rel K (TT K) ⟨H, fun _ => False, [], []⟩ (fun _ => False) [] [] [] [] H where
  len := rfl
  sl := fun i s e => by cases i <;> cases e
  inj := fun i j p h => by obtain ⟨⟨d, e⟩, _⟩ := h; cases i <;> cases e
  nb := fun i p h => by obtain ⟨⟨d, e⟩, _⟩ := h; cases i <;> cases e
  fr := fun i p h => by obtain ⟨⟨d, e⟩, _⟩ := h; cases i <;> cases e
  bl := rfl
  st := fun n d p e => by cases n <;> cases e
  bnd := List.nodup_nil
  bfr := fun p h => nomatch h
  ext := fun a o h _ _ => h
  grow := fun a h => h
  pre := List.prefix_refl _
  o0 := fun a h => h
  o0t := fun a h => h.elim
  ot := fun a h => h.elim
  ofr := fun a h => h.elim
  b0 := fun a h => nomatch h
  tabs := hT
  tmp := fun q h => nomatch h
theorem sp_law {K : PySem.W.Frag} {H : Hp} {a : Addr} {ns : List Int} (hl : ns.length ≤ 100000) (hT : LamX.Tabs (TT K) H) (hS : SqL K H a (ns.map V.int)) : spT K (TT K) F_law 1 [.ref a] H (fun v _ => v = .bl true) fun _ _ _ => False := by
  obtain ⟨S', e⟩ := law_ok (ns := ns) hl
  refine ⟨rfl, fun _ => False, [], [], [.scr (ns.map .int)], start0 hT, ⟨_, _, rfl, ⟨a, ns.map V.int, rfl, ?_, ats_ints ns⟩, rfl⟩, ?_⟩
  · rcases hS with r | r
    · exact .inl ⟨fun z => z, r⟩
    · exact .inr (.inr r)
  · rw [e]
    intro v H' O' b' R' hv
    rcases hv with ⟨_, hv⟩ | ⟨z, _⟩
    · exact hv
    · cases z
theorem law_at {w : World} {K : PySem.W.Frag} {h : Heap} {mg : Str → Option Value} {f : Addr} (X : K.In h) (G : h.Ns mainGlobals mg) (hfa : mg ("law" : Str) = some (.ref f)) (c : He.SaysX fa fn [] tf exK w h K) :
    LamX.LawAtS PySem.Challenge.rw_quickbythen_k77_whole_more_room_more_dro w K (L2.CX (PySem.Challenge.rw_quickbythen_k77_whole_more_room_more_dro).prog w) 13 63 "_law_script" mg f h := by
  have e := hfa.symm.trans (He.glo_ok X G (c.t.d.fact 51 (f := .glo "law") rfl))
  cases e
  obtain ⟨fd, FD⟩ := c.t.d.def_ 51 (d := dd "law" 65) rfl
  have bb := FunD.bindsA (ps := ["_law_script"]) FD fun _ _ _ _ _ _ us hl => match us, hl with | [_], _ => rfl
  refine ⟨fd, tf.map (He.cT K), spT K (TT K) F_law 1, fun p hp => ?_, fun p hp => ?_, fun p hp => ?_, fun s u => bb s [u] rfl, fun H a ns hl _ hT hS => sp_law (by omega) (fun p hp => ?_) hS, fun base hb hn hT => ?_⟩
  · obtain ⟨q, hq, rfl⟩ := List.mem_map.mp hp
    exact c.empty q hq
  · obtain ⟨q, hq, rfl⟩ := List.mem_map.mp hp
    exact c.out q hq
  · obtain ⟨q, hq, rfl⟩ := List.mem_map.mp hp
    exact PySem.W.codeHd_of_K X (c.hd q hq)
  · obtain ⟨q, hq, rfl⟩ := List.mem_map.mp hp
    exact ⟨#[], hT _ (List.mem_map.mpr ⟨q, hq, rfl⟩), trivial, fun pos cv hc => nomatch hc⟩
  · exact OK_law (h := h) ⟨c, X, G, fun p hp => hT _ (List.mem_map.mpr ⟨p, hp, rfl⟩)⟩ FD
end KX
open PySem PySem.W PySem.Calls PyProof.Rows
theorem PySem.Challenge.cw_quickbythen_k77_whole_more_room_more_dro_holds : PySem.Challenge.rw_quickbythen_k77_whole_more_room_more_dro.Holds := by
  w_on; o_law
  refine HandSHeadRun.head_imp (r := OpenLaw.row PySem.Challenge.rw_quickbythen_k77_whole_more_room_more_dro) (q := view (OpenLaw.row PySem.Challenge.rw_quickbythen_k77_whole_more_room_more_dro).prog [0, 65]) (H := KX.hk) (ob := KX.ob) (M := 8000) (loose := KX.names) (d := HandSHeadRun.topDef (OpenLaw.row PySem.Challenge.rw_quickbythen_k77_whole_more_room_more_dro).prog 65) (kwd := []) KX.ob_eq KX.run (by kernel_rfl) (by kernel_rfl) (by kernel_rfl) (by rfl) (by first | assumption | decide +kernel) (by decide +kernel) ⟨rfl, rfl, rfl, rfl, rfl, by decide +kernel⟩ ?hw ?hc
  case hw => w_witness2
  case hc =>
    refine LamX.walk_ofTsE (l := PySem.Challenge.rw_quickbythen_k77_whole_more_room_more_dro) (n := 63) (k := 13) (x := "_law_script") (CX := fun w => L2.CX (PySem.Challenge.rw_quickbythen_k77_whole_more_room_more_dro).prog w) rfl (by decide) (by kernel_rfl) ⟨rfl, by decide, by decide⟩ ?F (fun w H s e s' z => by obtain ⟨_, _, _, _, _, _, _, _, _, _, _, _, _, _, _, _, q⟩ := z)
    · intro w mg fa h Y G hmg0
      obtain ⟨K, XI, c⟩ := Y
      have hmg : mg ("law" : PySem.Str) = some (.ref fa) := by
        have e : (HandSHeadRun.topDef (OpenLaw.row PySem.Challenge.rw_quickbythen_k77_whole_more_room_more_dro).prog 65).name = ("law" : PySem.Str) := by kernel_rfl
        rw [← e]
        exact hmg0
      exact ⟨K, XI, KX.law_at XI G hmg c⟩

