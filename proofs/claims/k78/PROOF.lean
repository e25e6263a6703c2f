import PyProof.Rows.All
import Wide.All
import OpenK.AllK
import Wide.FinOn
import HandS.Base
import HandS.ExcOwn
import HandS.ExcField
import HandS.HeadHook1
import KE.KStateDown
import Lean
import HandS.Ends
import HandS.More
import HandS.Words
import HandS.WordsExc
import HandS.Defaults
import HandS.Head0
import HandS.Head1
import HandS.Head2
import HandS.HeadEnd
import HandS.HeadHook2
import HandS.HeadHook4
import HandS.HeadWalk
import KE.KNestM
import HandS.Head3
import HandS.IsInst
import PyProof.InstEq
import PyProof.IsiBase
import PyProof.FactsAll.set
import KE.KIsAll
import PyProof.EqAt
import PyProof.EqKinds
import PyProof.TupleCall
import HandS.Call
import HandS.List
import HandS.Comp
import HandS.Dict
import HandS.Iter
import HandS.Text
import HandS.WordsList
import HandS.WordsDict
import HandS.Exc
import HandS.TryOnly
import HandS.TryMany
import HandS.ExcInit
import HandS.Lambda
import HandS.Gcd
import HandS.Wide
import HandS.Style
import HandS.Flow
import HandS.TupLen
import HandS.NoneIn
import HandS.SetKeys
import HandS.Small
import HandS.ListItems
import KE.GoesNew
import KE.GoesMore
import KE.GoesZip
import KE.GoesEnum
import HandS.CallLocal
import HandS.EndTab
import KE.SortKeyHeap
import KE.SortData
import HandS.Nested
import HandS.Conv
import KE.KDictPairs
import PySem.Challenge.RW_quickbythen_k78_settings_refused
set_option Elab.async false
set_option linter.all false
set_option maxRecDepth 100000
set_option maxHeartbeats 1000000
set_option autoImplicit false
namespace TD
open PySem PySem.Spec PyProof.Rows L2
def oexB (K : PySem.W.Frag) (C : Addr) : Bool := (match K.lookup C with
    | some o => (match o.cls, o.data, o.slots.toList with
      | .type "type", .cls cd, [_, _, _, _, some (.builtin n), _] => (match cd.mro with
        | .ref C' :: bm => decide (C' = C) && decide (n = "ValueError.__new__") && cd.hasDict && !cd.hasDel && PySem.HandSPX.refsVE bm
        | _ => false)
      | _, _, _ => false)
    | none => false) && decide (PySem.W.findIn K (.ref C) "__setattr__" = some (some (.builtin "object.__setattr__"))) && decide (PySem.W.subIn K (.ref C) (.type "BaseException") = some true) && decide (PySem.W.typeIn K (.ref C) = some (.type "type")) && PySem.W.keepIn K (.ref C)
def exB (K : PySem.W.Frag) (c f : Str) : Bool := oexB K (He.ga K c) && xfB K (He.ga K c) && decide (PySem.W.findIn K (.ref (He.ga K c)) f = some none) && decide (PySem.W.findIn K (.ref (He.ga K c)) "__init__" = some (some (.ref (He.ma K (He.ga K c) "__init__")))) && decide (PySem.W.typeIn K (.ref (He.ma K (He.ga K c) "__init__")) = some (.type "function"))
end TD

set_option Elab.async false
set_option linter.all false
set_option maxRecDepth 100000
set_option maxHeartbeats 0
set_option autoImplicit false
namespace K78
open PySem PySem.Spec PyProof.Rows L2 TD
def top (i : Nat) : Stmt := PySem.Challenge.pw_quickbythen_k78_settings_refused.main.body.getD i (.Pass ⟨0, 0, 0, 0⟩)
def inCls (st : Stmt) (j : Nat) : Stmt := match st with
  | .ClassDef (body := b) .. => b.getD j (.Pass ⟨0, 0, 0, 0⟩)
  | _ => .Pass ⟨0, 0, 0, 0⟩
def dd (n : Str) (i : Nat) : He.DefD := ⟨(n, none), n, n, defArgs (top i), defBody (top i), defScope (top i), [], []⟩
def di (c : Str) (i j : Nat) : He.DefD := ⟨(c, some "__init__"), "__init__", c ++ ".__init__", defArgs (inCls (top i) j), defBody (inCls (top i) j), defScope (inCls (top i) j), [], []⟩
def fn : List He.DefD := [dd "is_list" 5, dd "is_whole" 6, dd "is_positive" 7, dd "lowest" 8, dd "is_fraction" 9, dd "is_heap" 10, dd "told" 11, dd "plus" 12, dd "less" 13, dd "times" 14, dd "parted" 15, dd "is_below" 16, dd "least" 17, dd "greatest" 18, dd "sum_of" 19, dd "in_order" 20, dd "check_road" 36, dd "is_wish" 37, dd "checked_wishes" 38, dd "checked_troubles" 39, dd "spans_of" 40, dd "offsets_of" 41, dd "early_beats" 42, dd "begin_of" 43, dd "blocks_of" 44, dd "pieces_of" 45, dd "checked_all" 46, dd "check_soon" 47, dd "settled" 50, dd "stretches" 51, dd "sorrow" 52, dd "troubles" 53, dd "checked_setting" 54, dd "gains" 58, dd "toll" 62, dd "tolled" 63, dd "paid" 64, dd "_law_stream" 66, dd "_law_draw" 67, dd "_law_pick" 68, dd "_law_same" 69, dd "_law_common" 70, dd "_law_low" 71, dd "_law_plus" 72, dd "_law_wishes" 73, dd "_law_worths" 74, dd "_law_met" 75, dd "_law_all" 76, dd "_law_bad_wishes" 77, dd "law" 78, di "BadRoom" 28 0, di "BadLength" 29 0, di "BadWishes" 30 0, di "BadEarly" 31 0, di "BadLate" 32 0, di "BadSetting" 33 0, di "TooSoon" 34 0]
def fa : List He.Fa := [.glo "is_list", .glo "is_whole", .glo "is_positive", .glo "lowest", .glo "is_fraction", .glo "is_heap", .glo "told", .glo "plus", .glo "less", .glo "times", .glo "parted", .glo "is_below", .glo "least", .glo "greatest", .glo "sum_of", .glo "in_order", .glo "check_road", .glo "is_wish", .glo "checked_wishes", .glo "checked_troubles", .glo "spans_of", .glo "offsets_of", .glo "early_beats", .glo "begin_of", .glo "blocks_of", .glo "pieces_of", .glo "checked_all", .glo "check_soon", .glo "settled", .glo "stretches", .glo "sorrow", .glo "troubles", .glo "checked_setting", .glo "gains", .glo "toll", .glo "tolled", .glo "paid", .glo "_law_stream", .glo "_law_draw", .glo "_law_pick", .glo "_law_same", .glo "_law_common", .glo "_law_low", .glo "_law_plus", .glo "_law_wishes", .glo "_law_worths", .glo "_law_met", .glo "_law_all", .glo "_law_bad_wishes", .glo "law", .glo "BadRoom", .glo "BadLength", .glo "BadWishes", .glo "BadEarly", .glo "BadLate", .glo "BadSetting", .glo "TooSoon", .free "abs", .free "all", .free "bool", .free "dict", .free "enumerate", .free "int", .free "isinstance", .free "len", .free "list", .free "range", .free "sorted", .free "tuple", .free "zip"]
def tf : List He.Defn := [("in_order", none), ("_law_all", none), ("law", none)]
def tyN : List Str := ["_law_pick", "paid", "settled", "stretches", "toll", "tolled", "troubles"]
def excN : List (Str × Str) := [("BadRoom", "room"), ("BadLength", "length"), ("BadWishes", "index"), ("BadEarly", "early"), ("BadLate", "late"), ("BadSetting", "index"), ("TooSoon", "moment")]
def exK (K : PySem.W.Frag) : Bool := tyN.all (fun x => decide (PySem.W.typeIn K (.ref (He.ga K x)) = some (.type "function"))) && excN.all (fun q => exB K q.1 q.2) && excN.all (fun q => excN.all fun r => decide (PySem.W.exmOne K (.ref (He.ga K q.1)) (.ref (He.ga K r.1)) = some (decide (r.1 = q.1)))) && decide (PySem.W.nsIn K mainGlobals "gcd" = some (some (.builtin "math.gcd"))) && decide ((tf.map fun p => (He.cT K p).2).Nodup)
def names : List PySem.Str := (["QuickError", "BadComers", "is_list", "is_whole", "is_positive", "lowest", "is_fraction", "is_heap", "told", "plus", "less", "times", "parted", "is_below", "least", "greatest", "sum_of", "in_order", "is_comer", "bad_comers", "checked_comers", "rate_from", "heap_by", "BadRoom", "BadLength", "BadWishes", "BadEarly", "BadLate", "BadSetting", "TooSoon"] : List PySem.Str) ++ (["check_road", "is_wish", "checked_wishes", "checked_troubles", "spans_of", "offsets_of", "early_beats", "begin_of", "blocks_of", "pieces_of", "checked_all", "check_soon", "comers_by", "come_at", "settled", "stretches", "sorrow", "troubles", "checked_setting", "waits_of", "marked", "better", "gains", "corners_of", "slope_to", "toll", "tolled", "paid"] : List PySem.Str) ++ (["_law_stream", "_law_draw", "_law_pick", "_law_same", "_law_common", "_law_low", "_law_plus", "_law_wishes", "_law_worths", "_law_met", "_law_all", "_law_bad_wishes", "gcd"] : List PySem.Str)
abbrev RWL : PySem.W.OpenRow := PySem.W.OpenLaw.row PySem.Challenge.rw_quickbythen_k78_settings_refused
abbrev hk : PySem.W.Hook := He.hookX 4 fa fn [] tf exK
def ob (s : PySem.W.SharedT) : He.AlX := He.obsX 4 fa fn [] tf exK (HandSHeadRun.getT s)
theorem ob_eq (s : PySem.W.SharedT) : ob s = hk.obs s.abs := He.obsX_eq (HandSHeadRun.getT_eq s)
theorem run (w : World) : HandSHeadRun.RunEqI RWL (PySem.W.view RWL.prog [0, 78]) hk ob 8000 names w := by
  unfold HandSHeadRun.RunEqI
  kernel_rfl
end K78

set_option Elab.async false
set_option linter.all false
set_option maxRecDepth 100000
namespace PySem
open Sem (wp)
namespace FnA
theorem lk_ga : typeLookup (.type "function") "__getattribute__" = pure (some (.builtin "object.__getattribute__")) := by rw [typeLookup_type, builtinLookup_eq_fast]; kernel_rfl
theorem lk_class : typeLookup (.type "function") "__class__" = pure (some (.builtin "object.__class__")) := by rw [typeLookup_type, builtinLookup_eq_fast]; kernel_rfl
theorem slot_ga : Slot "function" "__getattribute__" "object.__getattribute__" :=
  .of (owner := "object") (n := "__getattribute__") lk_ga (by decide +kernel) (by decide +kernel) (by decide +kernel)
    (by first | exact .inl (by decide +kernel) | exact .inr (by decide +kernel)) (by rw [isSubtype_type]; kernel_rfl)
theorem entry_ga : entryFor table "object.__getattribute__" = some Builtin.«object.__getattribute__» := entryFor_of_tree (by kernel_rfl)
theorem args_ga (a b : Value) : argsOk "object.__getattribute__" ⟨[a, b], []⟩ := by
  unfold argsOk; kernel_rfl
theorem sub_owner : isSubtype (.type "function") (.type (".".intercalate ("object.__class__".cutAt '.').dropLast)) = pure true := by
  rw [F.owner_object_class, isSubtype_type]; kernel_rfl
end FnA
section
variable {prog : Program} {w : World} {A : Around} {E : Value → Shared → Prop} {h : Heap} {g : Array GenState} {d : Drawn} {t : Nat} {os : OsState} {a : Addr} {o : Obj}
theorem fn_class_get {R : Result → Shared → Prop} (hx : h.get? a = some o) (hc : o.cls = .type "function") (hq : R (.ok (.ret (.type "function"))) ⟨h, g, d, t, os⟩) :
    codeAny (model prog w) A (.call (.builtin "getset_descriptor.__get__") ⟨[.builtin "object.__class__", .ref a, .type "function"], []⟩) R ⟨h, g, d, t, os⟩ := by
  have hT : (⟨h, g, d, t, os⟩ : Shared).TypeIs (.ref a) "function" := ⟨_, hx, hc⟩
  have hT5 : (⟨h, g, d, t, os⟩ : Shared).TypeIs (.builtin "object.__class__") "getset_descriptor" := F.typeOf_object_class
  have f8 := FnA.sub_owner
  refine codeAny_call_builtin F.slot_gs_get.plain F.entry_gs_get (F.slot_gs_get.check _ _ _ _ _ _ _ _ hT5 (F.args_gs_get _ _ _) ?_)
  repeat (any_goals (first | assumption | wp_step))
  refine ⟨Code.quiet_builtin _ (by decide +kernel), codeAny_builtin F.entry_object_class ?_⟩
  repeat (any_goals (first | assumption | wp_step))
theorem fn_class_entry {tk : Tok} {Q : Fin → Shared → Prop} (hx : h.get? a = some o) (hc : o.cls = .type "function") (hq : Q (.done (.ret (.type "function"))) ⟨h, g, d, t, os⟩) :
    wpAny (model prog w) A (Builtin.«object.__getattribute__» ⟨[.ref a, .str "__class__" tk], []⟩) Q E ⟨h, g, d, t, os⟩ := by
  have hT : (⟨h, g, d, t, os⟩ : Shared).TypeIs (.ref a) "function" := ⟨_, hx, hc⟩
  have hT5 : (⟨h, g, d, t, os⟩ : Shared).TypeIs (.builtin "object.__class__") "getset_descriptor" := F.typeOf_object_class
  have f4 := FnA.lk_class
  have f5 := F.typeOf_object_class
  have f6 := F.slot_gs_get.lookup
  have f7 := F.slot_gs_set.lookup
  repeat (any_goals (first | assumption | wp_step))
  refine fn_class_get hx hc ?_
  repeat (any_goals (first | assumption | wp_step))
theorem fn_class_call {tk : Tok} {R : Result → Shared → Prop} (hx : h.get? a = some o) (hc : o.cls = .type "function") (hq : R (.ok (.ret (.type "function"))) ⟨h, g, d, t, os⟩) :
    codeAny (model prog w) A (.call (.builtin "object.__getattribute__") ⟨[.ref a, .str "__class__" tk], []⟩) R ⟨h, g, d, t, os⟩ :=
  codeAny_call_builtin FnA.slot_ga.plain FnA.entry_ga (FnA.slot_ga.check _ _ _ _ _ _ _ _ (show (⟨h, g, d, t, os⟩ : Shared).TypeIs (.ref a) "function" from ⟨_, hx, hc⟩) (FnA.args_ga _ _) (fn_class_entry hx hc hq))
theorem fn_class_by {tk : Tok} {Q : Value → Shared → Prop} (hx : h.get? a = some o) (hc : o.cls = .type "function") (hq : Q (.type "function") ⟨h, g, d, t, os⟩) : wpAny (model prog w) A (getAttrBy (.ref a) (.str "__class__" tk) false) Q E ⟨h, g, d, t, os⟩ := by
  have hT : (⟨h, g, d, t, os⟩ : Shared).TypeIs (.ref a) "function" := ⟨_, hx, hc⟩
  have f2 := FnA.slot_ga.lookup
  have f3 := FnA.slot_ga.bind (.ref a)
  repeat (any_goals (first | assumption | wp_step))
  refine fn_class_call hx hc ?_
  repeat (any_goals (first | assumption | wp_step))
theorem fn_class_attr {Q : Option Value → Shared → Prop} (hx : h.get? a = some o) (hc : o.cls = .type "function") (hq : Q (some (.type "function")) ⟨h, g, d, t + 1, os⟩) : wpAny (model prog w) A (getAttr? (.ref a) "__class__") Q E ⟨h, g, d, t, os⟩ := by
  unfold getAttr? getAttrBy?
  repeat (any_goals (first | assumption | with_reducible apply fn_class_by hx hc | wp_step))
end
namespace W
theorem kitx_fn {K : Frag} {a : Addr} : KitX K (.ref a) (.type "function") (KitAt a "function") := kitx_of kitAt_ty (fun {_ _ _ _ _ s} p k => by obtain ⟨h, g, d, t, os⟩ := s; obtain ⟨o, h1, h2⟩ := p; exact fn_class_attr h1 h2 k)
end W
end PySem
namespace TD
open PySem PySem.Spec PyProof.Rows L2
theorem slot_fn_eq : PySem.Slot "function" (cmpInfo .Eq).2.1 "object.__eq__" :=
  .of (owner := "object") (n := "__eq__") (by rw [typeLookup_type, builtinLookup_eq_fast]; kernel_rfl) (by decide +kernel) (by decide +kernel) (by decide +kernel)
    (by first | exact .inl (by decide +kernel) | exact .inr (by decide +kernel)) (by rw [isSubtype_type]; kernel_rfl)
theorem fn_at {K : PySem.W.Frag} {h : Heap} {a : Addr} (X : K.In h) (e : PySem.W.typeIn K (.ref a) = some (.type "function")) : PySem.W.KitAt a "function" h := by
  obtain ⟨o, e1, e2⟩ := Option.map_eq_some_iff.mp (show (K.lookup a).map (·.cls) = some (.type "function") from e)
  exact ⟨o, X _ _ e1, e2⟩
/-- a function is equal to itself -/
theorem eq_fn {P : Program} {w : World} {A : Around} {E : Value → Shared → Prop} {s : Shared} {a : Addr} {Q : Value → Shared → Prop} (hu : A.units < cLine) (hx : PySem.W.KitAt a "function" s.heap) (h : Q (.bool true) s) : wpAny (model P w) A (compareOp .Eq (.ref a) (.ref a)) Q E s := by
  show wpAny _ _ (richCompare .Eq (.ref a) (.ref a)) _ _ _
  refine wpAny_richCompare_same_room (op := .Eq) hx hx slot_fn_eq (wpAny_call (codeAny_call_builtin slot_fn_eq.plain PySem.F.cmpEntry_eq (slot_fn_eq.check _ _ _ _ _ _ _ _ hx (PySem.F.cmpArgs_eq _ _) (objEq_entry_same ?_)))) hu
  exact ⟨fun z => (nomatch z), h⟩
/-- what isinstance is asked of: the library's kinds, and functions -/
def TyF (K : PySem.W.Frag) (H : Hp) (v : V) (t : Value) : Prop := TyX K H v t ∨ ∃ a, v = .ref a ∧ t = .type "function" ∧ PySem.W.typeIn K (.ref a) = some (.type "function")
section
variable {X : Cx} {pins : List (Addr × Obj)} {σ : L2.St} {H : Hp} {s : Shared}
theorem kitF {x : V} {u t : Value} (I : Inv X pins σ H s) (rx : RelV x u) (ty : TyF X.K H x t) : ∃ P : Heap → Prop, PySem.W.KitX X.K u t P ∧ P s.heap ∧ u ≠ .builtin "__main__.__loader__#opaque" := by
  rcases ty with ty | ⟨a, e1, e2, e3⟩
  · exact kit_of I rx ty
  · subst e1 e2
    cases rx
    exact ⟨_, PySem.W.kitx_fn, fn_at I.kIn e3, fun z => nomatch z⟩
def rIsiF (K : PySem.W.Frag) : List V → Hp → VK → Prop := fun xs H Q => ∃ (x c : V) (t u : Value) (b : Bool), xs = [x, c] ∧ ClsV c u ∧ TyF K H x t ∧ PySem.W.kitOne K t u = some b ∧ Q (.bl b) H
def rIsiTF (K : PySem.W.Frag) : List V → Hp → VK → Prop := fun xs H Q => ∃ (x : V) (tp : Addr) (cs : List V) (t : Value) (us : List Value) (b : Bool), xs = [x, .ref tp] ∧ H tp = some (.tup cs) ∧ Paired ClsV cs us ∧ TyF K H x t ∧ PySem.W.kitAny K t us = some b ∧ Q (.bl b) H
theorem call_isiF : CallR X (.builtin "isinstance") (rIsiF X.K) := by
  intro pn sh sg Hh xs us Q J r hh
  obtain ⟨x, c, t, u, b, rfl, k, ty, e, q⟩ := hh
  obtain ⟨u1, u2, rfl, r1, r2⟩ := vals2 r
  obtain ⟨P, Z, p, hx⟩ := kitF J r1 ty
  rw [k.eq r2]
  exact PySem.W.kia_one Z J.kIn p e hx fun tk => ⟨.bl b, Hh, J.tok tk, rfl, q⟩
theorem call_isiTF : CallR X (.builtin "isinstance") (rIsiTF X.K) := by
  intro pn sh sg Hh xs us Q J r hh
  obtain ⟨x, tp, cs, t, ws, b, rfl, hT, k, ty, e, q⟩ := hh
  obtain ⟨u1, u2, rfl, r1, r2⟩ := vals2 r
  cases (show u2 = Value.ref tp from r2)
  obtain ⟨P, Z, p, hx⟩ := kitF J r1 ty
  obtain ⟨_, its, rv, ⟨oc, od, dt, sl⟩, h1, h2, n, h3⟩ := (show ObjOk X.prog X.w Hh sh.heap tp (.tup cs) from J.hok tp _ hT)
  simp only at h2 h3
  subst h2 h3
  have e3 := ClsV.all k rv
  subst e3
  exact PySem.W.kia_tup Z J.kIn p h1 e hx fun tk => ⟨.bl b, Hh, J.tok tk, rfl, q⟩
/-- == of one function -/
def rEqFn (K : PySem.W.Frag) : R2 := fun x y H Q => ∃ a, x = .ref a ∧ y = .ref a ∧ PySem.W.typeIn K (.ref a) = some (.type "function") ∧ Q (.bl true) H
theorem op_eqFn (hu : X.A.units < cLine) : OpR X (compareOp .Eq) (rEqFn X.K) := by
  intro pn sh sg Hh x y v u Q J rx ry h
  obtain ⟨a, rfl, rfl, e, q⟩ := h
  cases rx
  cases ry
  exact eq_fn hu (fn_at J.kIn e) ⟨.bl true, Hh, J, rfl, q⟩
end
end TD

set_option Elab.async false
set_option linter.all false
set_option maxRecDepth 100000
set_option maxHeartbeats 1000000
set_option autoImplicit false
namespace TD
open PySem PySem.Spec PyProof.Rows L2

/-! ### trees of data -/
inductive D where
  | non
  | bl (b : Bool)
  | int (i : Int)
  | str (x : Str)
  | ty (n : String)
  | gl (x : Str)
  | lst (ds : List D)
  | tup (ds : List D)
  | dic (kvs : List (Key × D))
  | dct (kvs : List (List Key × D))
  | ins (c : Str) (fs : List (Str × D))
  | box (n : Nat)
  | scr (ds : List D)

inductive Slot where
  | no
  | sh (d : D)
  | ow (d : D)

abbrev Ev := List Slot
abbrev Sto := List D

inductive R (α : Type) where
  | ok (a : α) (t : Ev) (S : Sto)
  | ex (c : Str) (fs : List (Str × D)) (t : Ev) (S : Sto)
  | bad

inductive FR where
  | ok (d : D) (f : Bool) (S : Sto)
  | ex (c : Str) (fs : List (Str × D)) (S : Sto)
  | bad
abbrev Fn := List D → Sto → FR

inductive Fl where
  | nx
  | rt (d : D) (f : Bool)
  | bk
  | ct

abbrev M (α : Type) := Ev → Sto → R α
/-- an expression: its value, whether it is a new container of nobody else's -/
abbrev ME := M (D × Bool)
abbrev MB := M D
abbrev MT := M Bool
abbrev MA := M (List D)
abbrev MS := M Fl

def bnd {α β : Type} (m : M α) (k : α → M β) : M β := fun t S => match m t S with
  | .ok a t' S' => k a t' S'
  | .ex c fs t' S' => .ex c fs t' S'
  | .bad => .bad
def ret {α : Type} (a : α) : M α := fun t S => .ok a t S
def bad {α : Type} : M α := fun _ _ => .bad

/-! ### how a tree stands in the heap -/
def keyD : Key → D
  | .inl i => .int i
  | .inr x => .str x

section
variable (K : PySem.W.Frag) (H : Hp) (O : Addr → Prop) (b : List Addr)
mutual
def At : D → V → Prop
  | .non, v => v = .non
  | .bl c, v => v = .bl c
  | .int i, v => v = .int i
  | .str x, v => v = .str x
  | .ty n, v => v = .ty n
  | .gl x, v => v = V.ref (He.ga K x) ∧ PySem.W.typeIn K (.ref (He.ga K x)) = some (.type "function")
  | .lst ds, v => ∃ a xs, v = V.ref a ∧ ¬ O a ∧ H a = some (.lst xs) ∧ Ats ds xs
  | .tup ds, v => ∃ a xs, v = V.ref a ∧ ¬ O a ∧ H a = some (.tup xs) ∧ Ats ds xs
  | .dic kvs, v => ∃ a xs, v = V.ref a ∧ ¬ O a ∧ H a = some (.dK xs) ∧ Atk kvs xs
  | .dct kvs, v => ∃ a xs, v = V.ref a ∧ ¬ O a ∧ H a = some (.dT xs) ∧ Att kvs xs
  | .ins c fs, v => ∃ a dx xs, v = V.ref a ∧ ¬ O a ∧ ¬ O dx ∧ H a = some (.ins (He.ga K c) dx xs) ∧ H dx = some (.own a) ∧ Atf fs xs
  | .box n, v => ∃ a, v = V.ref a ∧ b[n]? = some a
  | .scr ds, v => ∃ a xs, v = V.ref a ∧ ((¬ O a ∧ Rd H a (.lst xs)) ∨ SqL K (fun _ => none) a xs) ∧ Ats ds xs
def Ats : List D → List V → Prop
  | [], xs => xs = []
  | d :: ds, xs => ∃ y ys, xs = y :: ys ∧ At d y ∧ Ats ds ys
def Atk : List (Key × D) → List (Key × V) → Prop
  | [], xs => xs = []
  | (k, d) :: ds, xs => ∃ y ys, xs = (k, y) :: ys ∧ At d y ∧ Atk ds ys
def Att : List (List Key × D) → List (List Key × V) → Prop
  | [], xs => xs = []
  | (k, d) :: ds, xs => ∃ y ys, xs = (k, y) :: ys ∧ At d y ∧ Att ds ys
def Atf : List (Str × D) → List (Str × V) → Prop
  | [], xs => xs = []
  | (k, d) :: ds, xs => ∃ y ys, xs = (k, y) :: ys ∧ At d y ∧ Atf ds ys
end
/-- an owned container's content -/
def Own : D → Addr → Prop
  | .lst ds, a => ∃ xs, H a = some (.lst xs) ∧ Ats K H O b ds xs
  | .dic kvs, a => ∃ xs, H a = some (.dK xs) ∧ Atk K H O b kvs xs
  | .dct kvs, a => ∃ xs, H a = some (.dT xs) ∧ Att K H O b kvs xs
  | .ins c fs, a => ∃ dx xs, H a = some (.ins (He.ga K c) dx xs) ∧ ¬ O dx ∧ H dx = some (.own a) ∧ Atf K H O b fs xs
  | _, _ => False
end

/-- not a table of code objects -/
def nt (o : HO) : Prop := ∀ ps, o ≠ .tbl ps
/-- what stands unlocked stands on, unlocked -/
def Stays (H : Hp) (O : Addr → Prop) (H' : Hp) (O' : Addr → Prop) : Prop := ∀ a o, H a = some o → nt o → ¬ O a → H' a = some o ∧ ¬ O' a

section
variable {K : PySem.W.Frag} {H H' : Hp} {O O' : Addr → Prop} {b b' : List Addr}
theorem nt_lst {xs : List V} : nt (.lst xs) := fun _ z => nomatch z
theorem nt_tup {xs : List V} : nt (.tup xs) := fun _ z => nomatch z
theorem nt_frz {o : Obj} {xs : HO} : nt (.frz o xs) := fun _ z => nomatch z
theorem nt_dK {xs : List (Key × V)} : nt (.dK xs) := fun _ z => nomatch z
theorem nt_dT {xs : List (List Key × V)} : nt (.dT xs) := fun _ z => nomatch z
theorem nt_ins {c d : Addr} {xs : List (Str × V)} : nt (.ins c d xs) := fun _ z => nomatch z
theorem nt_own {x : Addr} : nt (.own x) := fun _ z => nomatch z
theorem nt_xd {x : List (Str × V)} : nt (.xd x) := fun _ z => nomatch z
theorem Rd.stays {a : Addr} {u : HO} (h : Stays H O H' O') (hu : nt u) (hO : ¬ O a) (r : Rd H a u) : Rd H' a u ∧ ¬ O' a := by
  rcases r with r | ⟨o, r⟩
  · exact ⟨.inl (h _ _ r hu hO).1, (h _ _ r hu hO).2⟩
  · exact ⟨.inr ⟨o, (h _ _ r nt_frz hO).1⟩, (h _ _ r nt_frz hO).2⟩
theorem pre_get {b b' : List Addr} (hb : b <+: b') {n : Nat} {a : Addr} (h : b[n]? = some a) : b'[n]? = some a := by
  obtain ⟨c, rfl⟩ := hb
  rw [List.getElem?_append_left (List.getElem?_eq_some_iff.mp h).1]
  exact h
mutual
theorem At.mono (h : Stays H O H' O') (hb : b <+: b') : ∀ {d : D} {v : V}, At K H O b d v → At K H' O' b' d v
  | .non, _, z => z
  | .bl _, _, z => z
  | .int _, _, z => z
  | .str _, _, z => z
  | .ty _, _, z => z
  | .gl _, _, z => z
  | .lst ds, _, ⟨a, xs, e, o, r, q⟩ => ⟨a, xs, e, (h _ _ r nt_lst o).2, (h _ _ r nt_lst o).1, Ats.mono h hb q⟩
  | .tup ds, _, ⟨a, xs, e, o, r, q⟩ => ⟨a, xs, e, (h _ _ r nt_tup o).2, (h _ _ r nt_tup o).1, Ats.mono h hb q⟩
  | .dic kvs, _, ⟨a, xs, e, o, r, q⟩ => ⟨a, xs, e, (h _ _ r nt_dK o).2, (h _ _ r nt_dK o).1, Atk.mono h hb q⟩
  | .dct kvs, _, ⟨a, xs, e, o, r, q⟩ => ⟨a, xs, e, (h _ _ r nt_dT o).2, (h _ _ r nt_dT o).1, Att.mono h hb q⟩
  | .ins c fs, _, ⟨a, dx, xs, e, o, o2, r, r2, q⟩ => ⟨a, dx, xs, e, (h _ _ r nt_ins o).2, (h _ _ r2 nt_own o2).2, (h _ _ r nt_ins o).1, (h _ _ r2 nt_own o2).1, Atf.mono h hb q⟩
  | .box n, _, ⟨a, e, q⟩ => ⟨a, e, pre_get hb q⟩
  | .scr ds, _, ⟨a, xs, e, r, q⟩ => ⟨a, xs, e, r.imp (fun z => ⟨(Rd.stays h nt_lst z.1 z.2).2, (Rd.stays h nt_lst z.1 z.2).1⟩) id, Ats.mono h hb q⟩
theorem Ats.mono (h : Stays H O H' O') (hb : b <+: b') : ∀ {ds : List D} {vs : List V}, Ats K H O b ds vs → Ats K H' O' b' ds vs
  | [], _, z => z
  | d :: ds, _, ⟨y, ys, e, q, r⟩ => ⟨y, ys, e, At.mono h hb q, Ats.mono h hb r⟩
theorem Atk.mono (h : Stays H O H' O') (hb : b <+: b') : ∀ {ds : List (Key × D)} {vs : List (Key × V)}, Atk K H O b ds vs → Atk K H' O' b' ds vs
  | [], _, z => z
  | (k, d) :: ds, _, ⟨y, ys, e, q, r⟩ => ⟨y, ys, e, At.mono h hb q, Atk.mono h hb r⟩
theorem Att.mono (h : Stays H O H' O') (hb : b <+: b') : ∀ {ds : List (List Key × D)} {vs : List (List Key × V)}, Att K H O b ds vs → Att K H' O' b' ds vs
  | [], _, z => z
  | (k, d) :: ds, _, ⟨y, ys, e, q, r⟩ => ⟨y, ys, e, At.mono h hb q, Att.mono h hb r⟩
theorem Atf.mono (h : Stays H O H' O') (hb : b <+: b') : ∀ {ds : List (Str × D)} {vs : List (Str × V)}, Atf K H O b ds vs → Atf K H' O' b' ds vs
  | [], _, z => z
  | (k, d) :: ds, _, ⟨y, ys, e, q, r⟩ => ⟨y, ys, e, At.mono h hb q, Atf.mono h hb r⟩
end
/-- an owned container: its own object stands, its dict's too -/
theorem Own.mono {d : D} {p : Addr} (h : Stays H O H' O') (hb : b <+: b') (hp : ∀ o, H p = some o → nt o → H' p = some o) (z : Own K H O b d p) : Own K H' O' b' d p := by
  cases d with
  | lst ds => obtain ⟨xs, e, q⟩ := z; exact ⟨xs, hp _ e nt_lst, q.mono h hb⟩
  | dic kvs => obtain ⟨xs, e, q⟩ := z; exact ⟨xs, hp _ e nt_dK, q.mono h hb⟩
  | dct kvs => obtain ⟨xs, e, q⟩ := z; exact ⟨xs, hp _ e nt_dT, q.mono h hb⟩
  | ins c fs => obtain ⟨dx, xs, e, o, e2, q⟩ := z; exact ⟨dx, xs, hp _ e nt_ins, (h _ _ e2 nt_own o).2, (h _ _ e2 nt_own o).1, q.mono h hb⟩
  | _ => exact z
theorem Own.there {d : D} {p : Addr} (z : Own K H O b d p) : ∃ o, H p = some o ∧ nt o := by
  cases d with
  | lst ds => obtain ⟨xs, e, q⟩ := z; exact ⟨_, e, nt_lst⟩
  | dic kvs => obtain ⟨xs, e, q⟩ := z; exact ⟨_, e, nt_dK⟩
  | dct kvs => obtain ⟨xs, e, q⟩ := z; exact ⟨_, e, nt_dT⟩
  | ins c fs => obtain ⟨dx, xs, e, o, e2, q⟩ := z; exact ⟨_, e, nt_ins⟩
  | _ => exact False.elim z
/-- let go: it stands for everybody -/
theorem Own.at_ {d : D} {p : Addr} (z : Own K H O b d p) (hp : ¬ O p) : At K H O b d (V.ref p) := by
  cases d with
  | lst ds => obtain ⟨xs, e, q⟩ := z; exact ⟨p, xs, rfl, hp, e, q⟩
  | dic kvs => obtain ⟨xs, e, q⟩ := z; exact ⟨p, xs, rfl, hp, e, q⟩
  | dct kvs => obtain ⟨xs, e, q⟩ := z; exact ⟨p, xs, rfl, hp, e, q⟩
  | ins c fs => obtain ⟨dx, xs, e, o, e2, q⟩ := z; exact ⟨p, dx, xs, rfl, hp, o, e, e2, q⟩
  | _ => exact False.elim z
theorem Ats.length : ∀ {ds : List D} {vs : List V}, Ats K H O b ds vs → vs.length = ds.length
  | [], _, z => by rw [show _ = [] from z]; rfl
  | d :: ds, _, ⟨y, ys, e, q, r⟩ => by rw [e, List.length_cons, List.length_cons, Ats.length r]
theorem Ats.get : ∀ {ds : List D} {vs : List V} {i : Nat} {d : D}, Ats K H O b ds vs → ds[i]? = some d → ∃ v, vs[i]? = some v ∧ At K H O b d v
  | [], _, _, _, _, h => by simp at h
  | e :: ds, _, 0, d, ⟨y, ys, e2, q, r⟩, h => ⟨y, by rw [e2]; rfl, by rw [← show e = d from by simpa using h]; exact q⟩
  | e :: ds, _, i + 1, d, ⟨y, ys, e2, q, r⟩, h => by
    obtain ⟨v, h1, h2⟩ := Ats.get (i := i) r (by simpa using h)
    exact ⟨v, by rw [e2]; simpa using h1, h2⟩
theorem Ats.getV : ∀ {ds : List D} {vs : List V} {i : Nat} {v : V}, Ats K H O b ds vs → vs[i]? = some v → ∃ d, ds[i]? = some d ∧ At K H O b d v
  | [], _, _, _, z, h => by rw [show _ = [] from z] at h; simp at h
  | e :: ds, _, 0, v, ⟨y, ys, e2, q, r⟩, h => ⟨e, rfl, by rw [e2] at h; rw [← show y = v from by simpa using h]; exact q⟩
  | e :: ds, _, i + 1, v, ⟨y, ys, e2, q, r⟩, h => by
    obtain ⟨d, h1, h2⟩ := Ats.getV (i := i) r (by rw [e2] at h; simpa using h)
    exact ⟨d, by simpa using h1, h2⟩
theorem Ats.append : ∀ {ds es : List D} {vs ws : List V}, Ats K H O b ds vs → Ats K H O b es ws → Ats K H O b (ds ++ es) (vs ++ ws)
  | [], _, _, _, z, y => by rw [show _ = [] from z]; exact y
  | d :: ds, _, _, _, ⟨y, ys, e, q, r⟩, z => by rw [e]; exact ⟨y, _, rfl, q, Ats.append r z⟩
theorem Ats.one {d : D} {v : V} (h : At K H O b d v) : Ats K H O b [d] [v] := ⟨v, [], rfl, h, rfl⟩
theorem Ats.take : ∀ {ds : List D} {vs : List V} (n : Nat), Ats K H O b ds vs → Ats K H O b (ds.take n) (vs.take n)
  | _, _, 0, _ => by rw [List.take_zero, List.take_zero]; rfl
  | [], _, n + 1, z => by rw [show _ = [] from z]; rfl
  | d :: ds, _, n + 1, ⟨y, ys, e, q, r⟩ => by rw [e]; exact ⟨y, _, rfl, q, Ats.take n r⟩
theorem Ats.drop : ∀ {ds : List D} {vs : List V} (n : Nat), Ats K H O b ds vs → Ats K H O b (ds.drop n) (vs.drop n)
  | _, _, 0, z => z
  | [], _, n + 1, z => by rw [show _ = [] from z]; rfl
  | d :: ds, _, n + 1, ⟨y, ys, e, q, r⟩ => by rw [e]; exact Ats.drop n r
theorem Ats.set : ∀ {ds : List D} {vs : List V} (i : Nat) {d : D} {v : V}, Ats K H O b ds vs → At K H O b d v → Ats K H O b (ds.set i d) (vs.set i v)
  | [], _, _, _, _, z, _ => by rw [show _ = [] from z]; rfl
  | e :: ds, _, 0, _, _, ⟨y, ys, e2, q, r⟩, h => by rw [e2]; exact ⟨_, _, rfl, h, r⟩
  | e :: ds, _, i + 1, _, _, ⟨y, ys, e2, q, r⟩, h => by rw [e2]; exact ⟨_, _, rfl, q, Ats.set i r h⟩
end

/-! ### the state of a frame -/
/-- nothing of ours stands there -/
def Fr (H : Hp) (p : Addr) : Prop := ∀ o, H p = some o → ¬ nt o
theorem fr_none {H : Hp} {p : Addr} (h : H p = none) : Fr H p := fun o e => by rw [h] at e; cases e
/-- the heap, the locked addresses, the boxes at the frame's entry -/
structure Gh where
  H0 : Hp
  O0 : Addr → Prop
  b0 : List Addr
  tm : List (Addr × HO) := []

def SlotOk (K : PySem.W.Frag) (H : Hp) (O : Addr → Prop) (b : List Addr) : Slot → Option V → Prop
  | .no, _ => True
  | .sh d, o => ∃ v, o = some v ∧ At K H O b d v
  | .ow d, o => ∃ p, o = some (V.ref p) ∧ O p ∧ Own K H O b d p
/-- slot i owns what stands at p -/
def OwAt (t : Ev) (σ : L2.St) (i : Nat) (p : Addr) : Prop := (∃ d, t[i]? = some (.ow d)) ∧ σ[i]? = some (some (V.ref p))

structure Rel (K : PySem.W.Frag) (T : List (Addr × Str)) (G : Gh) (O : Addr → Prop) (b : List Addr) (t : Ev) (S : Sto) (σ : L2.St) (H : Hp) : Prop where
  len : t.length = σ.length
  sl : ∀ (i : Nat) (s : Slot), t[i]? = some s → ∃ o, σ[i]? = some o ∧ SlotOk K H O b s o
  inj : ∀ (i j : Nat) (p : Addr), OwAt t σ i p → OwAt t σ j p → i = j
  nb : ∀ (i : Nat) (p : Addr), OwAt t σ i p → p ∉ b
  fr : ∀ (i : Nat) (p : Addr), OwAt t σ i p → Fr G.H0 p
  bl : b.length = S.length
  st : ∀ (n : Nat) (d : D) (p : Addr), S[n]? = some d → b[n]? = some p → O p ∧ Own K H O b d p
  bnd : b.Nodup
  bfr : ∀ p ∈ b, p ∈ G.b0 ∨ Fr G.H0 p
  ext : ∀ a o, G.H0 a = some o → nt o → a ∉ G.b0 → H a = some o
  grow : ∀ a, Fr H a → Fr G.H0 a
  pre : G.b0 <+: b
  o0 : ∀ a, G.O0 a → O a
  o0t : ∀ a, G.O0 a → ∃ o, G.H0 a = some o ∧ nt o
  ot : ∀ a, O a → ∃ o, H a = some o ∧ nt o
  ofr : ∀ a, O a → G.O0 a ∨ Fr G.H0 a
  b0 : ∀ a ∈ G.b0, G.O0 a
  tabs : LamX.Tabs T H
  tmp : ∀ q ∈ G.tm, H q.1 = some q.2 ∧ nt q.2 ∧ O q.1 ∧ (∀ i : Nat, ¬ OwAt t σ i q.1) ∧ q.1 ∉ b ∧ Fr G.H0 q.1

section
variable {K : PySem.W.Frag} {T : List (Addr × Str)} {G : Gh} {O O' : Addr → Prop} {b b' : List Addr} {t t' : Ev} {S S' : Sto} {σ σ' : L2.St} {H H' : Hp}
/-- what the outer state needs of a step that a call, a new object makes -/
theorem Rel.stays (R : Rel K T G O b t S σ H) (R1 : Rel K T ⟨H, O, b, []⟩ O' b' [] S' [] H') : Stays H O H' O' := fun a o e n hO => by
  have hb : a ∉ b := fun z => by
    have := R1.b0 a z
    exact hO this
  refine ⟨R1.ext a o e n hb, fun z => ?_⟩
  rcases R1.ofr a z with q | q
  · exact hO q
  · exact q o e n
theorem Rel.keepO (R : Rel K T G O b t S σ H) (R1 : Rel K T ⟨H, O, b, []⟩ O' b' [] S' [] H') {p : Addr} (hp : O p) (hb : p ∉ b) : O' p ∧ ∀ o, H p = some o → nt o → H' p = some o :=
  ⟨R1.o0 p hp, fun o e n => R1.ext p o e n hb⟩
theorem Rel.step (R : Rel K T G O b t S σ H) (R1 : Rel K T ⟨H, O, b, []⟩ O' b' [] S' [] H') : Rel K T G O' b' t S' σ H' := by
  have hs := R.stays R1
  have hb : b <+: b' := R1.pre
  refine ⟨R.len, fun i s e => ?_, R.inj, fun i p w z => ?_, R.fr, R1.bl, R1.st, R1.bnd, fun p hp => ?_, fun a o e n hn => ?_, fun a z => R.grow a (R1.grow a z), R.pre.trans hb, fun a z => R1.o0 a (R.o0 a z), R.o0t, R1.ot, fun a z => ?_, R.b0, R1.tabs, fun q hq => ?_⟩
  · obtain ⟨o, e1, q⟩ := R.sl i s e
    refine ⟨o, e1, ?_⟩
    cases s with
    | no => trivial
    | sh d => obtain ⟨v, e2, q⟩ := q; exact ⟨v, e2, q.mono hs hb⟩
    | ow d =>
      obtain ⟨p, e2, h1, q⟩ := q
      have hpb : p ∉ b := R.nb i p ⟨⟨d, e⟩, by rw [e1, e2]⟩
      exact ⟨p, e2, (R.keepO R1 h1 hpb).1, q.mono hs hb (R.keepO R1 h1 hpb).2⟩
  · rcases R1.bfr p z with q | q
    · exact R.nb i p w q
    · obtain ⟨⟨d, e⟩, e1⟩ := w
      obtain ⟨o, e2, z⟩ := R.sl i _ e
      obtain ⟨p', e3, h1, z⟩ := z
      rw [e1] at e2
      cases e2; cases e3
      obtain ⟨u, e4, n4⟩ := z.there
      exact q u e4 n4
  · rcases R1.bfr p hp with q | q
    · exact R.bfr p q
    · exact .inr (R.grow p q)
  · by_cases ha : a ∈ b
    · rcases R.bfr a ha with q | q
      · exact absurd q hn
      · exact absurd n (q o e)
    · exact R1.ext a o (R.ext a o e n hn) n ha
  · rcases R1.ofr a z with q | q
    · exact R.ofr a q
    · exact .inr (R.grow a q)
  · obtain ⟨h1, h2, h3, h4, h5, h6⟩ := R.tmp q hq
    refine ⟨R1.ext _ _ h1 h2 h5, h2, R1.o0 _ h3, h4, fun z => ?_, h6⟩
    rcases R1.bfr _ z with y | y
    · exact h5 y
    · exact y _ h1 h2
end
end TD

set_option Elab.async false
set_option linter.all false
set_option maxRecDepth 100000
set_option maxHeartbeats 1000000
set_option autoImplicit false
namespace TD
open PySem PySem.Spec PyProof.Rows L2

/-- a new container that nobody else holds -/
structure Tmp (K : PySem.W.Frag) (G : Gh) (O : Addr → Prop) (b : List Addr) (t : Ev) (σ : L2.St) (H : Hp) (d : D) (p : Addr) : Prop where
  o : O p
  own : Own K H O b d p
  fr : Fr G.H0 p
  ns : ∀ (i : Nat) (q : Addr), OwAt t σ i q → q ≠ p
  nb : p ∉ b
  nq : ∀ q ∈ G.tm, q.1 ≠ p
def Val (K : PySem.W.Frag) (G : Gh) (O : Addr → Prop) (b : List Addr) (t : Ev) (σ : L2.St) (H : Hp) (v : V) (x : D × Bool) : Prop :=
  (x.2 = false ∧ At K H O b x.1 v) ∨ (x.2 = true ∧ ∃ p, v = V.ref p ∧ Tmp K G O b t σ H x.1 p)

theorem Stays.refl (H : Hp) (O : Addr → Prop) : Stays H O H O := fun _ _ e _ o => ⟨e, o⟩
theorem Stays.trans {H H1 H2 : Hp} {O O1 O2 : Addr → Prop} (x : Stays H O H1 O1) (y : Stays H1 O1 H2 O2) : Stays H O H2 O2 := fun a o e n h =>
  y a o (x a o e n h).1 n (x a o e n h).2

section
variable {K : PySem.W.Frag} {T : List (Addr × Str)} {G : Gh} {O O' : Addr → Prop} {b b' : List Addr} {t t' : Ev} {S S' : Sto} {σ σ' : L2.St} {H H' : Hp}
/-- a locked address that is nobody's is let go -/
theorem Rel.unlock (R : Rel K T G O b t S σ H) {p : Addr} (fr : Fr G.H0 p) (ns : ∀ (i : Nat) (q : Addr), OwAt t σ i q → q ≠ p) (nb : p ∉ b) (nq : ∀ q ∈ G.tm, q.1 ≠ p) :
    Rel K T G (fun a => O a ∧ a ≠ p) b t S σ H ∧ Stays H O H (fun a => O a ∧ a ≠ p) := by
  have hs : Stays H O H (fun a => O a ∧ a ≠ p) := fun a o e n h => ⟨e, fun z => h z.1⟩
  refine ⟨⟨R.len, fun i s e => ?_, R.inj, R.nb, R.fr, R.bl, fun n d q e1 e2 => ?_, R.bnd, R.bfr, R.ext, R.grow, R.pre, fun a z => ⟨R.o0 a z, fun e => ?_⟩, R.o0t, fun a z => R.ot a z.1, fun a z => R.ofr a z.1, R.b0, R.tabs, fun q hq => let ⟨h1, h2, h3, h4⟩ := R.tmp q hq; ⟨h1, h2, ⟨h3, nq q hq⟩, h4⟩⟩, hs⟩
  · obtain ⟨o, e1, q⟩ := R.sl i s e
    refine ⟨o, e1, ?_⟩
    cases s with
    | no => trivial
    | sh d => obtain ⟨v, e2, q⟩ := q; exact ⟨v, e2, q.mono hs (List.prefix_refl _)⟩
    | ow d =>
      obtain ⟨r, e2, h1, q⟩ := q
      exact ⟨r, e2, ⟨h1, ns i r ⟨⟨d, e⟩, by rw [e1, e2]⟩⟩, q.mono hs (List.prefix_refl _) fun _ z _ => z⟩
  · obtain ⟨h1, h2⟩ := R.st n d q e1 e2
    have hm : q ∈ b := List.mem_of_getElem? e2
    exact ⟨⟨h1, fun z => nb (z ▸ hm)⟩, h2.mono hs (List.prefix_refl _) fun _ z _ => z⟩
  · obtain ⟨o, q, n⟩ := R.o0t a z
    rw [e] at q; exact fr o q n
/-- whatever came is let go -/
theorem Rel.share (R : Rel K T G O b t S σ H) {v : V} {x : D × Bool} (h : Val K G O b t σ H v x) : ∃ O', Rel K T G O' b t S σ H ∧ Stays H O H O' ∧ At K H O' b x.1 v := by
  rcases h with ⟨_, h⟩ | ⟨_, p, e, h⟩
  · exact ⟨O, R, Stays.refl _ _, h⟩
  · obtain ⟨R', hs⟩ := R.unlock h.fr h.ns h.nb h.nq
    refine ⟨_, R', hs, ?_⟩
    rw [e]
    exact (h.own.mono hs (List.prefix_refl _) fun _ z _ => z).at_ fun z => z.2 rfl
/-- a slot that is changed: lists by set -/
theorem owAt_set {i j : Nat} {s : Slot} {v : Option V} {p : Addr} (h : OwAt (t.set i s) (σ.set i v) j p) : (j ≠ i ∧ OwAt t σ j p) ∨ (j = i ∧ (∃ d, s = .ow d) ∧ v = some (V.ref p)) := by
  obtain ⟨⟨d, e1⟩, e2⟩ := h
  by_cases hj : j = i
  · subst hj
    refine .inr ⟨rfl, ?_⟩
    have l1 : j < t.length := by
      have := (List.getElem?_eq_some_iff.mp e1).1
      rw [List.length_set] at this; exact this
    have l2 : j < σ.length := by
      have := (List.getElem?_eq_some_iff.mp e2).1
      rw [List.length_set] at this; exact this
    rw [List.getElem?_set_self l1] at e1
    rw [List.getElem?_set_self l2] at e2
    exact ⟨⟨d, Option.some.inj e1⟩, Option.some.inj e2⟩
  · refine .inl ⟨hj, ⟨d, ?_⟩, ?_⟩
    · rw [List.getElem?_set_ne (Ne.symm hj)] at e1; exact e1
    · rw [List.getElem?_set_ne (Ne.symm hj)] at e2; exact e2
/-- slot i is given another worth: what is put there is nobody else's -/
theorem Rel.put (R : Rel K T G O b t S σ H) {i : Nat} {s : Slot} {v : Option V} (hs : SlotOk K H O b s v) (ho : ∀ d p, s = .ow d → v = some (V.ref p) → Fr G.H0 p ∧ p ∉ b ∧ (∀ (j : Nat) (q : Addr), j ≠ i → OwAt t σ j q → q ≠ p) ∧ ∀ q ∈ G.tm, q.1 ≠ p) :
    Rel K T G O b (t.set i s) S (σ.set i v) H := by
  refine ⟨by rw [List.length_set, List.length_set]; exact R.len, fun j s' e => ?_, fun j k p h1 h2 => ?_, fun j p h => ?_, fun j p h => ?_, R.bl, R.st, R.bnd, R.bfr, R.ext, R.grow, R.pre, R.o0, R.o0t, R.ot, R.ofr, R.b0, R.tabs, fun q hq => ?_⟩
  · by_cases hj : j = i
    · subst hj
      have hl : j < t.length := by
        have := (List.getElem?_eq_some_iff.mp e).1
        rw [List.length_set] at this; exact this
      rw [List.getElem?_set_self hl] at e
      cases e
      exact ⟨v, List.getElem?_set_self (by rw [← R.len]; exact hl), hs⟩
    · rw [List.getElem?_set_ne (Ne.symm hj)] at e
      rw [List.getElem?_set_ne (Ne.symm hj)]
      exact R.sl j s' e
  · rcases owAt_set h1 with ⟨n1, h1⟩ | ⟨n1, ⟨d1, e1⟩, q1⟩
    · rcases owAt_set h2 with ⟨n2, h2⟩ | ⟨n2, ⟨d2, e2⟩, q2⟩
      · exact R.inj j k p h1 h2
      · exact absurd rfl ((ho d2 p e2 q2).2.2.1 j p n1 h1)
    · rcases owAt_set h2 with ⟨n2, h2⟩ | ⟨n2, ⟨d2, e2⟩, q2⟩
      · exact absurd rfl ((ho d1 p e1 q1).2.2.1 k p n2 h2)
      · rw [n1, n2]
  · rcases owAt_set h with ⟨n, h⟩ | ⟨n, ⟨d, e⟩, q⟩
    · exact R.nb j p h
    · exact (ho d p e q).2.1
  · rcases owAt_set h with ⟨n, h⟩ | ⟨n, ⟨d, e⟩, q⟩
    · exact R.fr j p h
    · exact (ho d p e q).1
  · obtain ⟨h1, h2, h3, h4, h5⟩ := R.tmp q hq
    refine ⟨h1, h2, h3, fun j w => ?_, h5⟩
    rcases owAt_set w with ⟨n, w⟩ | ⟨n, ⟨d, e⟩, e2⟩
    · exact h4 j w
    · exact (ho d q.1 e e2).2.2.2 q hq rfl
/-- the slots are told anew, the frame's own stay (weaker) -/
theorem Rel.set_t (R : Rel K T G O b t S σ H) {i : Nat} {s : Slot} (hs : ∀ v, σ[i]? = some v → SlotOk K H O b s v) (ho : ∀ d, s ≠ .ow d) : Rel K T G O b (t.set i s) S σ H := by
  have q : ∀ {j : Nat} {p : Addr}, OwAt (t.set i s) σ j p → OwAt t σ j p := fun {j p} h => by
    obtain ⟨⟨d, e1⟩, e2⟩ := h
    by_cases hj : j = i
    · subst hj
      have l1 : j < t.length := by
        have := (List.getElem?_eq_some_iff.mp e1).1
        rw [List.length_set] at this; exact this
      rw [List.getElem?_set_self l1] at e1
      exact absurd (Option.some.inj e1) (ho d)
    · rw [List.getElem?_set_ne (Ne.symm hj)] at e1
      exact ⟨⟨d, e1⟩, e2⟩
  refine ⟨by rw [List.length_set]; exact R.len, fun j s' e => ?_, fun j k p h1 h2 => R.inj j k p (q h1) (q h2), fun j p h => R.nb j p (q h), fun j p h => R.fr j p (q h), R.bl, R.st, R.bnd, R.bfr, R.ext, R.grow, R.pre, R.o0, R.o0t, R.ot, R.ofr, R.b0, R.tabs, fun x hx => let ⟨h1, h2, h3, h4, h5⟩ := R.tmp x hx; ⟨h1, h2, h3, fun j w => h4 j (q w), h5⟩⟩
  by_cases hj : j = i
  · subst hj
    have hl : j < t.length := by
      have := (List.getElem?_eq_some_iff.mp e).1
      rw [List.length_set] at this; exact this
    rw [List.getElem?_set_self hl] at e
    cases e
    obtain ⟨o, e1, _⟩ := R.sl j t[j] (by simp [hl])
    exact ⟨o, e1, hs o e1⟩
  · rw [List.getElem?_set_ne (Ne.symm hj)] at e
    exact R.sl j s' e
/-- the slots are forgotten -/
theorem Rel.drop (R : Rel K T G O b t S σ H) : Rel K T G O b [] S [] H :=
  ⟨rfl, fun i s e => by simp at e, fun i j p h => by obtain ⟨⟨d, e⟩, _⟩ := h; simp at e, fun i p h => by obtain ⟨⟨d, e⟩, _⟩ := h; simp at e, fun i p h => by obtain ⟨⟨d, e⟩, _⟩ := h; simp at e, R.bl, R.st, R.bnd, R.bfr, R.ext, R.grow, R.pre, R.o0, R.o0t, R.ot, R.ofr, R.b0, R.tabs, fun q hq => let ⟨h1, h2, h3, h4, h5⟩ := R.tmp q hq; ⟨h1, h2, h3, fun i w => by obtain ⟨⟨d, e⟩, _⟩ := w; simp at e, h5⟩⟩
/-- the entry -/
theorem Rel.self (R : Rel K T G O b t S σ H) : Rel K T ⟨H, O, b, []⟩ O b [] S [] H :=
  ⟨rfl, fun i s e => by simp at e, fun i j p h => by obtain ⟨⟨d, e⟩, _⟩ := h; simp at e, fun i p h => by obtain ⟨⟨d, e⟩, _⟩ := h; simp at e, fun i p h => by obtain ⟨⟨d, e⟩, _⟩ := h; simp at e, R.bl, R.st, R.bnd, fun p z => .inl z,
    fun a o e _ _ => e, fun a e => e, List.prefix_refl _, fun a z => z, R.ot, R.ot, fun a z => .inl z, fun a z => by
      obtain ⟨n, hn⟩ := List.mem_iff_getElem?.mp z
      have hl : n < S.length := by rw [← R.bl]; exact (List.getElem?_eq_some_iff.mp hn).1
      exact (R.st n S[n] a (by simp [hl]) hn).1, R.tabs, fun q hq => by cases hq⟩
/-- a new object stands at p, locked or not -/
theorem Rel.newG (R : Rel K T G O b t S σ H) {p : Addr} {o : HO} (hp : H p = none) (hn : nt o) {O' : Addr → Prop} (h1 : ∀ a, O a → O' a) (h2 : ∀ a, O' a → O a ∨ a = p) : Rel K T G O' b t S σ (upd H p o) ∧ Stays H O (upd H p o) O' := by
  have keep : ∀ a u, H a = some u → upd H p o a = some u := fun a u e => by
    rw [upd_ne (ne_of_none e hp)]; exact e
  have hs : Stays H O (upd H p o) O' := fun a u e n h => ⟨keep a u e, fun z => (h2 a z).elim h fun q => by rw [q, hp] at e; cases e⟩
  have z := R.self
  have R1 : Rel K T ⟨H, O, b, []⟩ O' b [] S [] (upd H p o) := by
    refine ⟨rfl, fun i s e => by simp at e, z.inj, z.nb, z.fr, z.bl, fun n d q e1 e2 => ?_, z.bnd, z.bfr, fun a u e n _ => keep a u e, fun a e => ?_, z.pre, fun a q => h1 a q, z.o0t, fun a h => ?_, fun a h => ?_, z.b0, R.tabs.ext keep, fun q hq => by cases hq⟩
    · obtain ⟨q1, q2⟩ := R.st n d q e1 e2
      exact ⟨h1 _ q1, q2.mono hs (List.prefix_refl _) fun u e _ => keep q u e⟩
    · exact fun u e2 n2 => e u (keep a u e2) n2
    · rcases h2 a h with h | h
      · obtain ⟨u, e, n⟩ := R.ot a h
        exact ⟨u, keep a u e, n⟩
      · rw [h]; exact ⟨o, upd_same, hn⟩
    · rcases h2 a h with h | h
      · exact .inl h
      · rw [h]; exact .inr (fr_none hp)
  exact ⟨R.step R1, hs⟩
theorem Rel.free (R : Rel K T G O b t S σ H) {p : Addr} (hp : H p = none) : ¬ O p := fun z => by
  obtain ⟨u, e, _⟩ := R.ot p z
  rw [hp] at e; cases e
/-- a new object, not locked -/
theorem Rel.new (R : Rel K T G O b t S σ H) {p : Addr} {o : HO} (hp : H p = none) (hn : nt o) : Rel K T G O b t S σ (upd H p o) ∧ Stays H O (upd H p o) O := R.newG hp hn (fun _ z => z) fun _ z => .inl z
/-- a new object, locked: a new container of nobody else's -/
theorem Rel.newL (R : Rel K T G O b t S σ H) {p : Addr} {o : HO} (hp : H p = none) (hn : nt o) : Rel K T G (fun a => O a ∨ a = p) b t S σ (upd H p o) ∧ Stays H O (upd H p o) (fun a => O a ∨ a = p) := R.newG hp hn (fun _ z => .inl z) fun _ z => z
theorem Rel.tmpOf (R : Rel K T G O b t S σ H) {p : Addr} {o : HO} {d : D} (hp : H p = none) (hn : nt o) (hd : Own K (upd H p o) (fun a => O a ∨ a = p) b d p) : Tmp K G (fun a => O a ∨ a = p) b t σ (upd H p o) d p := by
  refine ⟨.inr rfl, hd, R.grow p (fr_none hp), fun i q h e => ?_, fun h => ?_, fun q hq z => by rw [← z, (R.tmp q hq).1] at hp; cases hp⟩
  · obtain ⟨⟨d, e1⟩, e2⟩ := h
    obtain ⟨o, e3, r, e4, h1, _⟩ := R.sl i _ e1
    rw [e2] at e3
    cases e3; cases e4
    exact R.free hp (e ▸ h1)
  · obtain ⟨n, hn⟩ := List.mem_iff_getElem?.mp h
    have hl : n < S.length := by rw [← R.bl]; exact (List.getElem?_eq_some_iff.mp hn).1
    exact R.free hp (R.st n S[n] p (by simp [hl]) hn).1
/-- the slot's container is taken out -/
theorem Rel.take (R : Rel K T G O b t S σ H) {i : Nat} {d : D} (e : t[i]? = some (.ow d)) : ∃ p, σ[i]? = some (some (V.ref p)) ∧ Rel K T G O b (t.set i .no) S σ H ∧ Tmp K G O b (t.set i .no) σ H d p := by
  obtain ⟨o, e1, p, e2, h1, h2⟩ := R.sl i _ e
  subst e2
  have w : OwAt t σ i p := ⟨⟨d, e⟩, e1⟩
  refine ⟨p, e1, R.set_t (fun _ _ => trivial) (fun d z => nomatch z), h1, h2, R.fr i p w, fun j q h z => ?_, R.nb i p w, fun q hq z => (R.tmp q hq).2.2.2.1 i (z ▸ w)⟩
  subst z
  obtain ⟨⟨d', e3⟩, e4⟩ := h
  by_cases hj : j = i
  · subst hj
    have l1 : j < t.length := by
      have := (List.getElem?_eq_some_iff.mp e3).1
      rw [List.length_set] at this; exact this
    rw [List.getElem?_set_self l1] at e3
    cases e3
  · rw [List.getElem?_set_ne (Ne.symm hj)] at e3
    exact hj (R.inj j i q ⟨⟨d', e3⟩, e4⟩ w)
/-- a container that nobody else holds is written -/
theorem Rel.mutT (R : Rel K T G O b t S σ H) {p : Addr} {d d' : D} {o : HO} (h : Tmp K G O b t σ H d p) (hn : nt o) (hd : Stays H O (upd H p o) O → Own K (upd H p o) O b d' p) :
    Rel K T G O b t S σ (upd H p o) ∧ Stays H O (upd H p o) O ∧ Tmp K G O b t σ (upd H p o) d' p := by
  obtain ⟨u0, ep, np⟩ := h.own.there
  have hs : Stays H O (upd H p o) O := fun a u e n q => ⟨by rw [upd_ne (fun z : a = p => q (by rw [z]; exact h.o))]; exact e, q⟩
  have oth : ∀ q, q ≠ p → ∀ u, H q = some u → nt u → upd H p o q = some u := fun q z u e _ => by rw [upd_ne z]; exact e
  refine ⟨⟨R.len, fun i s e => ?_, R.inj, R.nb, R.fr, R.bl, fun n d q e1 e2 => ?_, R.bnd, R.bfr, fun a u e n z => ?_, fun a e => ?_, R.pre, R.o0, R.o0t, fun a z => ?_, R.ofr, R.b0, ?_, fun q hq => let ⟨h1, h2, h3⟩ := R.tmp q hq; ⟨oth _ (h.nq q hq) _ h1 h2, h2, h3⟩⟩, hs, h.o, hd hs, h.fr, h.ns, h.nb, h.nq⟩
  · obtain ⟨v, e1, q⟩ := R.sl i s e
    refine ⟨v, e1, ?_⟩
    cases s with
    | no => trivial
    | sh d => obtain ⟨v, e2, q⟩ := q; exact ⟨v, e2, q.mono hs (List.prefix_refl _)⟩
    | ow d =>
      obtain ⟨r, e2, h1, q⟩ := q
      exact ⟨r, e2, h1, q.mono hs (List.prefix_refl _) (oth r (h.ns i r ⟨⟨d, e⟩, by rw [e1, e2]⟩))⟩
  · obtain ⟨q1, q2⟩ := R.st n d q e1 e2
    exact ⟨q1, q2.mono hs (List.prefix_refl _) (oth q fun z => h.nb (z ▸ List.mem_of_getElem? e2))⟩
  · exact oth a (fun q => by rw [q] at e; exact h.fr u e n) u (R.ext a u e n z) n
  · refine R.grow a fun u eu nu => ?_
    by_cases z : a = p
    · rw [z] at e; exact e o upd_same hn
    · exact e u (by rw [upd_ne z]; exact eu) nu
  · obtain ⟨u, e, n⟩ := R.ot a z
    by_cases q : a = p
    · rw [q, upd_same]; exact ⟨o, rfl, hn⟩
    · exact ⟨u, oth a q u e n, n⟩
  · intro x hx
    obtain ⟨ps, h1, h2, h3⟩ := R.tabs x hx
    have np1 : x.1 ≠ p := fun z => by
      rw [z, ep] at h1
      exact np ps (Option.some.inj h1)
    refine ⟨ps, by rw [upd_ne np1]; exact h1, h2, fun pos cv hc => ?_⟩
    obtain ⟨c, e1, e2⟩ := h3 pos cv hc
    have nc : c ≠ p := fun z => by
      rw [z] at e2
      have : d = d := rfl
      cases d with
      | lst ds => obtain ⟨xs, e, _⟩ := h.own; rw [e] at e2; cases e2
      | dic kvs => obtain ⟨xs, e, _⟩ := h.own; rw [e] at e2; cases e2
      | dct kvs => obtain ⟨xs, e, _⟩ := h.own; rw [e] at e2; cases e2
      | ins c fs => obtain ⟨dx, xs, e, _⟩ := h.own; rw [e] at e2; cases e2
      | _ => exact h.own.elim
    exact ⟨c, e1, by rw [upd_ne nc]; exact e2⟩
theorem Rel.hold (R : Rel K T G O b t S σ H) {i : Nat} {p : Addr} {d : D} (h : Tmp K G O b t σ H d p) (e : σ[i]? = some (some (V.ref p))) : Rel K T G O b (t.set i (.ow d)) S σ H := by
  have z := R.put (i := i) (s := .ow d) (v := some (V.ref p)) ⟨p, rfl, h.o, h.own⟩ fun d' q e1 e2 => by
    cases e1; cases e2
    exact ⟨h.fr, h.nb, fun j q _ w => h.ns j q w, h.nq⟩
  have es : σ.set i (some (V.ref p)) = σ := by
    obtain ⟨hl, e2⟩ := List.getElem?_eq_some_iff.mp e
    rw [← e2]; exact List.set_getElem_self hl
  rw [es] at z
  exact z
end

/-! ### what is wanted behind a run -/
section
variable (K : PySem.W.Frag) (T : List (Addr × Str)) (W : WX) (G : Gh)
/-- behind an expression -/
def Post {α : Type} (O : Addr → Prop) (b : List Addr) (σ : L2.St) (H : Hp) (r : R α) (k : (Addr → Prop) → List Addr → α → Ev → Sto → Hp → Prop) : Prop :=
  match r with
  | .ok x t' S' => ∀ (H' : Hp) (O' : Addr → Prop) (b' : List Addr), Rel K T G O' b' t' S' σ H' → b <+: b' → Stays H O H' O' → k O' b' x t' S' H'
  | .ex c fs t' S' => ∀ (H' : Hp) (O' : Addr → Prop) (b' : List Addr) (d : Addr) (xs : List (Str × V)), Rel K T G O' b' t' S' σ H' → b <+: b' → Stays H O H' O' → H' d = some (.xd xs) → Atf K H' O' b' fs xs → W (.ref (He.ga K c)) (some d) σ H'
  | .bad => False
/-- behind a statement -/
def PostS (O : Addr → Prop) (b : List Addr) (H : Hp) (r : R Fl) (Dn : Ends) : Prop :=
  match r with
  | .ok .nx t' S' => ∀ (σ' : L2.St) (H' : Hp) (O' : Addr → Prop) (b' : List Addr), Rel K T G O' b' t' S' σ' H' → b <+: b' → Stays H O H' O' → Dn.nx σ' H'
  | .ok .bk t' S' => ∀ (σ' : L2.St) (H' : Hp) (O' : Addr → Prop) (b' : List Addr), Rel K T G O' b' t' S' σ' H' → b <+: b' → Stays H O H' O' → Dn.bk σ' H'
  | .ok .ct t' S' => ∀ (σ' : L2.St) (H' : Hp) (O' : Addr → Prop) (b' : List Addr), Rel K T G O' b' t' S' σ' H' → b <+: b' → Stays H O H' O' → Dn.ct σ' H'
  | .ok (.rt d f) t' S' => ∀ (v : V) (σ' : L2.St) (H' : Hp) (O' : Addr → Prop) (b' : List Addr), Rel K T G O' b' t' S' σ' H' → b <+: b' → Stays H O H' O' → Val K G O' b' t' σ' H' v (d, f) → Dn.rt v H'
  | .ex c fs t' S' => ∀ (σ' : L2.St) (H' : Hp) (O' : Addr → Prop) (b' : List Addr) (d : Addr) (xs : List (Str × V)), Rel K T G O' b' t' S' σ' H' → b <+: b' → Stays H O H' O' → H' d = some (.xd xs) → Atf K H' O' b' fs xs → W (.ref (He.ga K c)) (some d) σ' H'
  | .bad => False
end
section
variable (K : PySem.W.Frag) (T : List (Addr × Str)) (W : WX)
def tD (m : ME) : TE := fun σ H Q => ∃ G O b t S, Rel K T G O b t S σ H ∧ Post K T W G O b σ H (m t S) fun O' b' x t' _ H' => ∀ v, Val K G O' b' t' σ H' v x → Q v H'
/-- what may be held by a slot or a box, and is only looked at -/
def Bor (H : Hp) (O : Addr → Prop) (b : List Addr) (d : D) (v : V) : Prop := At K H O b d v ∨ ∃ p, v = V.ref p ∧ Own K H O b d p
def tBr (m : MB) : TE := fun σ H Q => ∃ G O b t S, Rel K T G O b t S σ H ∧ Post K T W G O b σ H (m t S) fun O' b' x _ _ H' => ∀ v, Bor K H' O' b' x v → Q v H'
def tT (m : MT) : TT := fun σ H Q => ∃ G O b t S, Rel K T G O b t S σ H ∧ Post K T W G O b σ H (m t S) fun _ _ x _ _ H' => Q x H'
def tA (m : MA) : TA := fun σ H Q => ∃ G O b t S, Rel K T G O b t S σ H ∧ Post K T W G O b σ H (m t S) fun O' b' x _ _ H' => ∀ vs, Ats K H' O' b' x vs → Q vs H'
def tS (m : MS) : TS := fun Dn σ H => ∃ G O b t S, Rel K T G O b t S σ H ∧ PostS K T W G O b H (m t S) Dn
end
section
variable {K : PySem.W.Frag} {T : List (Addr × Str)} {W : WX} {G : Gh} {O O1 : Addr → Prop} {b b1 : List Addr} {t t1 : Ev} {S S1 : Sto} {σ : L2.St} {H H1 : Hp} {α β : Type}
theorem Post.imp {r : R α} {k k' : (Addr → Prop) → List Addr → α → Ev → Sto → Hp → Prop} (h : Post K T W G O b σ H r k)
    (f : ∀ (O' : Addr → Prop) (b' : List Addr) (x : α) (t' : Ev) (S' : Sto) (H' : Hp), Rel K T G O' b' t' S' σ H' → b <+: b' → Stays H O H' O' → k O' b' x t' S' H' → k' O' b' x t' S' H') : Post K T W G O b σ H r k' := by
  cases r with
  | ok x t' S' => exact fun H' O' b' R hb hs => f O' b' x t' S' H' R hb hs (h H' O' b' R hb hs)
  | ex c fs t' S' => exact h
  | bad => exact h
/-- from a later state -/
theorem Post.later {r : R α} {k : (Addr → Prop) → List Addr → α → Ev → Sto → Hp → Prop} (h : Post K T W G O b σ H r k) (hb : b <+: b1) (hs : Stays H O H1 O1) : Post K T W G O1 b1 σ H1 r k := by
  cases r with
  | ok x t' S' => exact fun H' O' b' R hb' hs' => h H' O' b' R (hb.trans hb') (hs.trans hs')
  | ex c fs t' S' => exact fun H' O' b' d xs R hb' hs' => h H' O' b' d xs R (hb.trans hb') (hs.trans hs')
  | bad => exact h
theorem Post.bnd {m : M α} {f : α → M β} {k : (Addr → Prop) → List Addr → β → Ev → Sto → Hp → Prop} (h : Post K T W G O b σ H (bnd m f t S) k) :
    Post K T W G O b σ H (m t S) fun O' b' x t' S' H' => Post K T W G O' b' σ H' (f x t' S') k := by
  unfold TD.bnd at h
  revert h
  cases m t S with
  | ok x t' S' => exact fun h H' O' b' R hb hs => h.later hb hs
  | ex c fs t' S' => exact fun h => h
  | bad => exact fun h => h
theorem PostS.later {r : R Fl} {Dn : Ends} (h : PostS K T W G O b H r Dn) (hb : b <+: b1) (hs : Stays H O H1 O1) : PostS K T W G O1 b1 H1 r Dn := by
  cases r with
  | ok x t' S' =>
    cases x with
    | nx => exact fun s' H' O' b' R hb' hs' => h s' H' O' b' R (hb.trans hb') (hs.trans hs')
    | bk => exact fun s' H' O' b' R hb' hs' => h s' H' O' b' R (hb.trans hb') (hs.trans hs')
    | ct => exact fun s' H' O' b' R hb' hs' => h s' H' O' b' R (hb.trans hb') (hs.trans hs')
    | rt d f => exact fun v s' H' O' b' R hb' hs' => h v s' H' O' b' R (hb.trans hb') (hs.trans hs')
  | ex c fs t' S' => exact fun s' H' O' b' d xs R hb' hs' => h s' H' O' b' d xs R (hb.trans hb') (hs.trans hs')
  | bad => exact h
/-- an expression ahead of a statement's rest -/
theorem PostS.bnd {m : M α} {f : α → MS} {Dn : Ends} (h : PostS K T W G O b H (bnd m f t S) Dn) :
    Post K T W G O b σ H (m t S) fun O' b' x t' S' H' => PostS K T W G O' b' H' (f x t' S') Dn := by
  unfold TD.bnd at h
  revert h
  cases m t S with
  | ok x t' S' => exact fun h H' O' b' R hb hs => h.later hb hs
  | ex c fs t' S' => exact fun h H' O' b' d xs => h σ H' O' b' d xs
  | bad => exact fun h => h
end
end TD

set_option Elab.async false
set_option linter.all false
set_option maxRecDepth 100000
set_option maxHeartbeats 1000000
set_option autoImplicit false
namespace TD
open PySem PySem.Spec PyProof.Rows L2

/-! ### words of the semantics -/
def pur (d : D) : ME := ret (d, false)
def eb {β : Type} (m : ME) (f : D → M β) : M β := bnd m fun x => f x.1
/-- a box is looked into -/
def vw (S : Sto) : D → D
  | .box n => (S[n]?).getD (.box n)
  | d => d
def eVar (i : Nat) : ME := fun t S => match t[i]? with
  | some (.sh d) => .ok (d, false) t S
  | some (.ow d) => .ok (d, false) (t.set i (.sh d)) S
  | _ => .bad
def bVar (i : Nat) : MB := fun t S => match t[i]? with
  | some (.sh d) => .ok (vw S d) t S
  | some (.ow d) => .ok d t S
  | _ => .bad
def eMove (i : Nat) : ME := fun t S => match t[i]? with
  | some (.sh d) => .ok (d, false) t S
  | some (.ow d) => .ok (d, true) (t.set i .no) S
  | _ => .bad
def brD (m : ME) : MB := fun t S => match m t S with
  | .ok x t' S' => .ok (vw S' x.1) t' S'
  | .ex c fs t' S' => .ex c fs t' S'
  | .bad => .bad
def iff {α : Type} (c : MT) (a b : M α) : M α := bnd c fun x => if x = true then a else b

section
variable (X : Cx) (T : List (Addr × Str)) (W : WX)
abbrev PD (e : Expr) (m : ME) : Prop := PE X e (tD X.K T W m)
abbrev PB (e : Expr) (m : MB) : Prop := PE X e (tBr X.K T W m)
abbrev PC (e : Expr) (m : MT) : Prop := PT X e (tT X.K T W m)
abbrev PAs (es : List Expr) (m : MA) : Prop := PA X es (tA X.K T W m)
abbrev PSt (s : Stmt) (m : MS) : Prop := PS X s (tS X.K T W m)
abbrev PBk (s : List Stmt) (m : MS) : Prop := PSs X s (tS X.K T W m)
end

section
variable {X : Cx} {e : Expr} {es : List Expr} {st : Stmt} {sts : List Stmt}
theorem PE.imp' {t u : TE} (h : PE X e t) (f : ∀ σ H Q, u σ H Q → t σ H Q) : PE X e u := ⟨fun p s σ H Q I q => h.run p s σ H Q I (f σ H Q q)⟩
theorem PT.imp' {t u : TT} (h : PT X e t) (f : ∀ σ H Q, u σ H Q → t σ H Q) : PT X e u := ⟨fun p s σ H Q I q => h.run p s σ H Q I (f σ H Q q)⟩
theorem PA.imp' {t u : TA} (h : PA X es t) (f : ∀ σ H Q, u σ H Q → t σ H Q) : PA X es u := ⟨fun p z s σ H Q I q => h.run p z s σ H Q I (f σ H Q q)⟩
theorem PS.imp' {t u : TS} (h : PS X st t) (f : ∀ Dn σ H, u Dn σ H → t Dn σ H) : PS X st u := ⟨fun p s σ H Dn I q => h.run p s σ H Dn I (f Dn σ H q)⟩
theorem PSs.imp' {t u : TS} (h : PSs X sts t) (f : ∀ Dn σ H, u Dn σ H → t Dn σ H) : PSs X sts u := ⟨fun p s σ H Dn I q => h.run p s σ H Dn I (f Dn σ H q)⟩
end

section
variable {K : PySem.W.Frag} {T : List (Addr × Str)} {W : WX} {G : Gh} {O : Addr → Prop} {b : List Addr} {t : Ev} {S : Sto} {σ : L2.St} {H : Hp} {α β : Type}
abbrev KT (α : Type) := (Addr → Prop) → List Addr → α → Ev → Sto → Hp → Prop
theorem Post.here {x : α} {k : KT α} (h : Post K T W G O b σ H (.ok x t S) k) (R : Rel K T G O b t S σ H) : k O b x t S H := h H O b R (List.prefix_refl _) (Stays.refl _ _)
theorem Post.mk {x : α} {k : KT α} (h : ∀ (H' : Hp) (O' : Addr → Prop) (b' : List Addr), Rel K T G O' b' t S σ H' → b <+: b' → Stays H O H' O' → k O' b' x t S H') : Post K T W G O b σ H (.ok x t S) k := h
theorem ex_bor {d : D} {v : V} (R : Rel K T G O b t S σ H) (h : At K H O b d v) : Bor K H O b (vw S d) v := by
  cases d with
  | box n =>
    obtain ⟨a, e, hn⟩ := h
    show Bor K H O b ((S[n]?).getD (.box n)) v
    cases hS : S[n]? with
    | none => exact .inl ⟨a, e, hn⟩
    | some d' => exact .inr ⟨a, e, (R.st n d' a hS hn).2⟩
  | _ => exact .inl h
/-- an expression's worth, shared, then the rest -/
theorem useD {m : ME} {f : D → M β} {k : KT β} (R : Rel K T G O b t S σ H) (h : Post K T W G O b σ H (eb m f t S) k) {Q : VK}
    (g : ∀ (O1 : Addr → Prop) (b1 : List Addr) (d : D) (t1 : Ev) (S1 : Sto) (H1 : Hp) (v : V), Rel K T G O1 b1 t1 S1 σ H1 → b <+: b1 → Stays H O H1 O1 → At K H1 O1 b1 d v → Post K T W G O1 b1 σ H1 (f d t1 S1) k → Q v H1) : tD K T W m σ H Q :=
  ⟨G, O, b, t, S, R, (Post.bnd h).imp fun O' b' x t' S' H' R' hb hs h' v hv =>
    let ⟨O2, R2, s2, a2⟩ := R'.share hv
    g O2 b' x.1 t' S' H' v R2 hb (hs.trans s2) a2 (Post.later h' (List.prefix_refl _) s2)⟩
theorem useB {m : MB} {f : D → M β} {k : KT β} (R : Rel K T G O b t S σ H) (h : Post K T W G O b σ H (bnd m f t S) k) {Q : VK}
    (g : ∀ (O1 : Addr → Prop) (b1 : List Addr) (d : D) (t1 : Ev) (S1 : Sto) (H1 : Hp) (v : V), Rel K T G O1 b1 t1 S1 σ H1 → b <+: b1 → Stays H O H1 O1 → Bor K H1 O1 b1 d v → Post K T W G O1 b1 σ H1 (f d t1 S1) k → Q v H1) : tBr K T W m σ H Q :=
  ⟨G, O, b, t, S, R, (Post.bnd h).imp fun O' b' x t' S' H' R' hb hs h' v hv => g O' b' x t' S' H' v R' hb hs hv h'⟩
theorem useT {m : MT} {f : Bool → M β} {k : KT β} (R : Rel K T G O b t S σ H) (h : Post K T W G O b σ H (bnd m f t S) k) {Q : Bool → Hp → Prop}
    (g : ∀ (O1 : Addr → Prop) (b1 : List Addr) (d : Bool) (t1 : Ev) (S1 : Sto) (H1 : Hp), Rel K T G O1 b1 t1 S1 σ H1 → b <+: b1 → Stays H O H1 O1 → Post K T W G O1 b1 σ H1 (f d t1 S1) k → Q d H1) : tT K T W m σ H Q :=
  ⟨G, O, b, t, S, R, (Post.bnd h).imp fun O' b' x t' S' H' R' hb hs h' => g O' b' x t' S' H' R' hb hs h'⟩
theorem useA {m : MA} {f : List D → M β} {k : KT β} (R : Rel K T G O b t S σ H) (h : Post K T W G O b σ H (bnd m f t S) k) {Q : List V → Hp → Prop}
    (g : ∀ (O1 : Addr → Prop) (b1 : List Addr) (d : List D) (t1 : Ev) (S1 : Sto) (H1 : Hp) (v : List V), Rel K T G O1 b1 t1 S1 σ H1 → b <+: b1 → Stays H O H1 O1 → Ats K H1 O1 b1 d v → Post K T W G O1 b1 σ H1 (f d t1 S1) k → Q v H1) : tA K T W m σ H Q :=
  ⟨G, O, b, t, S, R, (Post.bnd h).imp fun O' b' x t' S' H' R' hb hs h' v hv => g O' b' x t' S' H' v R' hb hs hv h'⟩
/-- what an expression's end wants, of a plain worth -/
abbrev KD (K : PySem.W.Frag) (G : Gh) (σ : L2.St) (Q : VK) : KT (D × Bool) := fun O' b' x t' _ H' => ∀ v, Val K G O' b' t' σ H' v x → Q v H'
theorem endD {d : D} {v : V} {Q : VK} (R : Rel K T G O b t S σ H) (h : Post K T W G O b σ H (pur d t S) (KD K G σ Q)) (hv : At K H O b d v) : Q v H := Post.here h R v (.inl ⟨rfl, hv⟩)
/-- a new object that nobody holds comes out -/
theorem endN {d : D} {p : Addr} {o : HO} {Q : VK} (R : Rel K T G O b t S σ H) (h : Post K T W G O b σ H (.ok (d, true) t S) (KD K G σ Q)) (hp : H p = none) (hn : nt o) (hd : Stays H O (upd H p o) (fun a => O a ∨ a = p) → Own K (upd H p o) (fun a => O a ∨ a = p) b d p) : Q (.ref p) (upd H p o) := by
  obtain ⟨R1, s1⟩ := R.newL hp hn
  exact h _ _ _ R1 (List.prefix_refl _) s1 _ (.inr ⟨rfl, p, rfl, R.tmpOf hp hn (hd s1)⟩)
/-- a new object for everybody -/
theorem endO {d : D} {p : Addr} {o : HO} {Q : VK} (R : Rel K T G O b t S σ H) (h : Post K T W G O b σ H (pur d t S) (KD K G σ Q)) (hp : H p = none) (hn : nt o) (hd : Stays H O (upd H p o) O → ¬ O p → At K (upd H p o) O b d (V.ref p)) : Q (.ref p) (upd H p o) := by
  obtain ⟨R1, s1⟩ := R.new hp hn
  exact h _ _ _ R1 (List.prefix_refl _) s1 _ (.inl ⟨rfl, hd s1 (R.free hp)⟩)
end

/-! ### names, constants -/
section
variable {X : Cx} {T : List (Addr × Str)} {W : WX} {e a c : Expr} {es : List Expr} {pos : Pos}
theorem pd_var {i : Nat} {x : Str} (hN : X.N[i]? = some x) (hv : Vis X.env.scope x) (hd : (x == ("__debug__" : Str)) = false := by decide) (hcd : (x == ("__classdict__" : Str)) = false := by decide) : PD X T W (.Name x pos) (eVar i) := by
  refine PE.imp' (pe_var hN hv hd hcd) fun σ H Q ⟨G, O, b, t, S, R, h⟩ => ?_
  unfold eVar at h
  cases ht : t[i]? with
  | none => rw [ht] at h; exact h.elim
  | some s =>
    rw [ht] at h
    obtain ⟨o, e1, q⟩ := R.sl i s ht
    cases s with
    | no => exact h.elim
    | sh d =>
      obtain ⟨v, e2, q⟩ := q
      exact ⟨v, by rw [e1, e2], endD R h q⟩
    | ow d =>
      obtain ⟨p, e2, R1, tm⟩ := R.take ht
      obtain ⟨R2, s2⟩ := R1.unlock tm.fr tm.ns tm.nb tm.nq
      have ha : At X.K H (fun a => O a ∧ a ≠ p) b d (V.ref p) := (tm.own.mono s2 (List.prefix_refl _) fun _ z _ => z).at_ fun z => z.2 rfl
      have R3 := R2.set_t (i := i) (s := .sh d) (fun v ev => by
        rw [e2] at ev
        cases ev
        exact ⟨_, rfl, ha⟩) (fun d z => nomatch z)
      rw [List.set_set] at R3
      exact ⟨_, e2, h _ _ _ R3 (List.prefix_refl _) s2 _ (.inl ⟨rfl, ha⟩)⟩
theorem pd_move {i : Nat} {x : Str} (hN : X.N[i]? = some x) (hv : Vis X.env.scope x) (hd : (x == ("__debug__" : Str)) = false := by decide) (hcd : (x == ("__classdict__" : Str)) = false := by decide) : PD X T W (.Name x pos) (eMove i) := by
  refine PE.imp' (pe_var hN hv hd hcd) fun σ H Q ⟨G, O, b, t, S, R, h⟩ => ?_
  unfold eMove at h
  cases ht : t[i]? with
  | none => rw [ht] at h; exact h.elim
  | some s =>
    rw [ht] at h
    obtain ⟨o, e1, q⟩ := R.sl i s ht
    cases s with
    | no => exact h.elim
    | sh d =>
      obtain ⟨v, e2, q⟩ := q
      exact ⟨v, by rw [e1, e2], endD R h q⟩
    | ow d =>
      obtain ⟨p, e2, R1, tm⟩ := R.take ht
      exact ⟨_, e2, h _ _ _ R1 (List.prefix_refl _) (Stays.refl _ _) _ (.inr ⟨rfl, p, rfl, tm⟩)⟩
theorem pb_var {i : Nat} {x : Str} (hN : X.N[i]? = some x) (hv : Vis X.env.scope x) (hd : (x == ("__debug__" : Str)) = false := by decide) (hcd : (x == ("__classdict__" : Str)) = false := by decide) : PB X T W (.Name x pos) (bVar i) := by
  refine PE.imp' (pe_var hN hv hd hcd) fun σ H Q ⟨G, O, b, t, S, R, h⟩ => ?_
  unfold bVar at h
  cases ht : t[i]? with
  | none => rw [ht] at h; exact h.elim
  | some s =>
    rw [ht] at h
    obtain ⟨o, e1, q⟩ := R.sl i s ht
    cases s with
    | no => exact h.elim
    | sh d =>
      obtain ⟨v, e2, q⟩ := q
      exact ⟨v, by rw [e1, e2], Post.here h R v (ex_bor R q)⟩
    | ow d =>
      obtain ⟨p, e2, h1, q⟩ := q
      exact ⟨_, by rw [e1, e2], Post.here h R _ (.inr ⟨p, rfl, q⟩)⟩
theorem pb_of {m : ME} (h : PD X T W e m) : PB X T W e (brD m) := by
  refine PE.imp' h fun σ H Q ⟨G, O, b, t, S, R, h⟩ => ⟨G, O, b, t, S, R, ?_⟩
  unfold brD at h
  revert h
  cases m t S with
  | ok x t' S' =>
    intro h H' O' b' R' hb hs v hv
    obtain ⟨O2, R2, s2, a2⟩ := R'.share hv
    exact h H' O2 b' R2 hb (hs.trans s2) v (ex_bor R2 a2)
  | ex c fs t' S' => exact fun h => h
  | bad => exact fun h => h
theorem pd_int {i : Int} {j : Nat} : PD X T W (.Constant (.int i) j pos) (pur (.int i)) := PE.imp' pe_int fun σ H Q ⟨G, O, b, t, S, R, h⟩ => endD R h rfl
theorem pd_bl {c : Bool} {j : Nat} : PD X T W (.Constant (.bool c) j pos) (pur (.bl c)) := PE.imp' pe_bl fun σ H Q ⟨G, O, b, t, S, R, h⟩ => endD R h rfl
theorem pd_non {j : Nat} : PD X T W (.Constant .none j pos) (pur .non) := PE.imp' pe_non fun σ H Q ⟨G, O, b, t, S, R, h⟩ => endD R h rfl
theorem pd_str {x : Str} {j : Nat} : PD X T W (.Constant (.str x) j pos) (pur (.str x)) := PE.imp' pe_str fun σ H Q ⟨G, O, b, t, S, R, h⟩ => endD R h rfl
/-- a def, a class of the module, as a value -/
theorem pd_glob {x : Str} (hg : Gl X x) (hm : X.mg x = some (.ref (He.ga X.K x))) (hty : PySem.W.typeIn X.K (.ref (He.ga X.K x)) = some (.type "function")) (hd : (x == ("__debug__" : Str)) = false := by decide) : PD X T W (.Name x pos) (pur (.gl x)) :=
  PE.imp' (pe_glob (v := V.ref (He.ga X.K x)) hg hm rfl hd) fun σ H Q ⟨G, O, b, t, S, R, h⟩ => endD R h ⟨rfl, hty⟩
/-- a built-in class as a value -/
theorem pd_ty {x : Str} {n : String} (hg : Gl X x) (hm : X.mg x = none) (hv : bootBuiltins x = some (.type n)) (hn : x ≠ "__name__" := by decide) (hd : (x == ("__debug__" : Str)) = false := by decide) : PD X T W (.Name x pos) (pur (.ty n)) :=
  PE.imp' (pe_bltn (v := V.ty n) hg hm hv rfl hn hd) fun σ H Q ⟨G, O, b, t, S, R, h⟩ => endD R h rfl

/-! ### lists of expressions -/
def aNil : MA := ret []
def aCons (m : ME) (r : MA) : MA := eb m fun d => bnd r fun ds => ret (d :: ds)
theorem pas_nil : PAs X T W [] aNil := PA.imp' pa_nil fun σ H Q ⟨G, O, b, t, S, R, h⟩ => Post.here h R [] rfl
theorem pas_cons {m : ME} {r : MA} (ha : PD X T W e m) (hr : PAs X T W es r) (hs : starEach (e :: es) X.env = (false, eval e X.env) :: starEach es X.env := by rfl) : PAs X T W (e :: es) (aCons m r) := by
  refine PA.imp' (pa_cons ha hr hs) fun σ H Q ⟨G, O, b, t, S, R, h⟩ => ?_
  refine useD R h fun O1 b1 d t1 S1 H1 v R1 hb1 s1 hv h1 => ?_
  refine useA R1 h1 fun O2 b2 ds t2 S2 H2 vs R2 hb2 s2 hvs h2 => ?_
  exact Post.here h2 R2 _ ⟨v, vs, rfl, hv.mono s2 hb2, hvs⟩
def lim : Nat := 1000000
theorem lim_lt : lim < sizeLine := by rw [sizeLine_eq]; decide
def eTup (m : MA) : ME := bnd m fun ds => if ds.length ≤ lim then pur (.tup ds) else bad
def eLst (m : MA) : ME := bnd m fun ds => if ds.length ≤ lim then ret (.lst ds, true) else bad
theorem pd_tup {m : MA} {x1 : Nat} (h : PAs X T W es m) : PD X T W (.Tuple es x1 pos) (eTup m) := by
  refine PE.imp' (pe_tup h) fun σ H Q ⟨G, O, b, t, S, R, h⟩ => ?_
  refine useA R h fun O1 b1 ds t1 S1 H1 vs R1 hb1 s1 hvs h1 => ?_
  have hl := hvs.length
  by_cases c : ds.length ≤ lim
  · rw [if_pos c] at h1
    refine ⟨by rw [hl]; exact Nat.le_trans c (Nat.le_of_lt lim_lt), fun p hp => endO R1 h1 hp nt_tup fun s2 no => ⟨p, vs, rfl, no, upd_same, hvs.mono s2 (List.prefix_refl _)⟩⟩
  · rw [if_neg c] at h1; exact h1.elim
theorem pd_lst {m : MA} (h : PAs X T W es m) : PD X T W (.List es pos) (eLst m) := by
  refine PE.imp' (pe_lst h) fun σ H Q ⟨G, O, b, t, S, R, h⟩ => ?_
  refine useA R h fun O1 b1 ds t1 S1 H1 vs R1 hb1 s1 hvs h1 => ?_
  have hl := hvs.length
  by_cases c : ds.length ≤ lim
  · rw [if_pos c] at h1
    refine ⟨by rw [hl]; exact Nat.le_trans c (Nat.le_of_lt lim_lt), fun p hp => endN R1 h1 hp nt_lst fun s2 => ⟨vs, upd_same, hvs.mono s2 (List.prefix_refl _)⟩⟩
  · rw [if_neg c] at h1; exact h1.elim

/-! ### operators -/
/-- what an operator on two worths is -/
def OpD (X : Cx) (T : List (Addr × Str)) (W : WX) (g : Value → Value → Sem Value) (f : D → D → ME) : Prop :=
  ∃ r, OpR X g r ∧ ∀ {σ : L2.St} {H : Hp} {Q : VK} {G : Gh} {O : Addr → Prop} {b : List Addr} {t : Ev} {S : Sto} {x y : D} {v w : V}, Rel X.K T G O b t S σ H → At X.K H O b x v → At X.K H O b y w → Post X.K T W G O b σ H (f x y t S) (KD X.K G σ Q) → r v w H Q
theorem pd_bin {op : Operator} {f : D → D → ME} {ma mc : ME} (ho : OpD X T W (binaryOp op) f) (ha : PD X T W a ma) (hc : PD X T W c mc) : PD X T W (.BinOp a op c pos) (eb ma fun x => eb mc fun y => f x y) := by
  obtain ⟨r, h1, h2⟩ := ho
  refine PE.imp' (pe_op h1 ha hc) fun σ H Q ⟨G, O, b, t, S, R, h⟩ => ?_
  refine useD R h fun O1 b1 x t1 S1 H1 v R1 hb1 s1 hv h1 => ?_
  refine useD R1 h1 fun O2 b2 y t2 S2 H2 w R2 hb2 s2 hw h2' => ?_
  exact h2 R2 (hv.mono s2 hb2) hw h2'
theorem pd_cmp {op : CmpOp} {f : D → D → ME} {ma mc : ME} (ho : OpD X T W (compareOp op) f) (ha : PD X T W a ma) (hc : PD X T W c mc) (hm : behindInMarks op c = false := by first | exact nomark _ | rfl) : PD X T W (.Compare a [op] [c] pos) (eb ma fun x => eb mc fun y => f x y) := by
  obtain ⟨r, h1, h2⟩ := ho
  refine PE.imp' (pe_cmpR h1 ha hc hm) fun σ H Q ⟨G, O, b, t, S, R, h⟩ => ?_
  refine useD R h fun O1 b1 x t1 S1 H1 v R1 hb1 s1 hv h1 => ?_
  refine useD R1 h1 fun O2 b2 y t2 S2 H2 w R2 hb2 s2 hw h2' => ?_
  exact h2 R2 (hv.mono s2 hb2) hw h2'
/-- with both sides only looked at -/
def OpB (X : Cx) (T : List (Addr × Str)) (W : WX) (g : Value → Value → Sem Value) (f : D → D → ME) : Prop :=
  ∃ r, OpR X g r ∧ ∀ {σ : L2.St} {H : Hp} {Q : VK} {G : Gh} {O : Addr → Prop} {b : List Addr} {t : Ev} {S : Sto} {x y : D} {v w : V}, Rel X.K T G O b t S σ H → Bor X.K H O b x v → Bor X.K H O b y w → Post X.K T W G O b σ H (f x y t S) (KD X.K G σ Q) → r v w H Q
end
end TD

set_option Elab.async false
set_option linter.all false
set_option maxRecDepth 100000
set_option maxHeartbeats 1000000
set_option autoImplicit false
namespace TD
open PySem PySem.Spec PyProof.Rows L2

/-! ### the operators' answers -/
def mulOk (i j : Int) : Bool := decide (i.natAbs.log2 + j.natAbs.log2 < 1000000)
def divOk (j : Int) : Bool := decide (0 < j) && decide (j.natAbs.log2 < 9000)
def divNOk (j : Int) : Bool := decide (j ≠ 0) && decide (j.natAbs < 1073741824)
def powOk (i j : Int) : Bool := decide (0 ≤ j) && decide (j ≤ 1000000) && decide (i.natAbs < 18446744073709551616)
def newL (ds : List D) : ME := if ds.length ≤ lim then ret (.lst ds, true) else bad
def newT (ds : List D) : ME := if ds.length ≤ lim then pur (.tup ds) else bad
def dAdd : D → D → ME
  | .int i, .int j => pur (.int (i + j))
  | .str x, .str y => if x.length + y.length ≤ lim then pur (.str (x ++ y)) else bad
  | .lst xs, .lst ys => newL (xs ++ ys)
  | .tup xs, .tup ys => match xs, ys with
    | [], _ => bad
    | _, [] => if xs.length ≤ lim then pur (.tup xs) else bad
    | _, _ => newT (xs ++ ys)
  | _, _ => bad
def dSub : D → D → ME
  | .int i, .int j => pur (.int (i - j))
  | _, _ => bad
def dMul : D → D → ME
  | .int i, .int j => if mulOk i j = true then pur (.int (i * j)) else bad
  | .lst xs, .int k => if xs.length * k.toNat ≤ lim ∧ -1000000 ≤ k ∧ k ≤ 1000000 then newL (List.replicate k.toNat xs).flatten else bad
  | _, _ => bad
def dFdiv : D → D → ME
  | .int i, .int j => if divOk j = true then pur (.int (i / j)) else if divNOk j = true then pur (.int (i.fdiv j)) else bad
  | _, _ => bad
def dMod : D → D → ME
  | .int i, .int j => if 0 < j then pur (.int (i % j)) else if j < 0 then pur (.int (i.fmod j)) else bad
  | _, _ => bad
def dPow : D → D → ME
  | .int i, .int j => if powOk i j = true then pur (.int (i ^ j.toNat)) else bad
  | _, _ => bad
def dLt : D → D → ME
  | .int i, .int j => pur (.bl (decide (i < j)))
  | _, _ => bad
def dLe : D → D → ME
  | .int i, .int j => pur (.bl (decide (i ≤ j)))
  | _, _ => bad
def dGt : D → D → ME
  | .int i, .int j => pur (.bl (decide (j < i)))
  | _, _ => bad
def dGe : D → D → ME
  | .int i, .int j => pur (.bl (decide (j ≤ i)))
  | _, _ => bad
mutual
def toP : D → Option PyData
  | .non => some .none
  | .bl c => some (.bool c)
  | .int i => some (.int i)
  | .str x => some (.str x)
  | .lst ds => (toPs ds).map .list
  | .tup ds => (toPs ds).map .tuple
  | .ty _ => none
  | .gl _ => none
  | .dic _ => none
  | .dct _ => none
  | .ins _ _ => none
  | .box _ => none
  | .scr _ => none
def toPs : List D → Option (List PyData)
  | [] => some []
  | d :: ds => match toP d, toPs ds with
    | some p, some ps => some (p :: ps)
    | _, _ => none
end
def cmpP (x y : D) : Option Bool := match toP x, toP y with
  | some p, some q => if (SeqAt.shaped p && SeqAt.shaped q) = true then some (PyData.eqv p q) else none
  | _, _ => none
/-- two worths by ==; none: not told here -/
def eqD : D → D → Option Bool
  | .int i, .int j => some (decide (i = j))
  | .non, .non => some true
  | .bl i, .bl j => some (decide (i = j))
  | .str i, .str j => some (decide (i = j))
  | x, y => cmpP x y
def sameGl : D → D → Bool
  | .gl x, .gl y => decide (x = y)
  | _, _ => false
def dEq (x y : D) : ME := match eqD x y with
  | some c => pur (.bl c)
  | none => if sameGl x y = true then pur (.bl true) else bad
def dNe (x y : D) : ME := match eqD x y with
  | some c => pur (.bl (!c))
  | none => bad
def isNon : D → Bool
  | .non => true
  | _ => false
def dIs : D → D → ME
  | x, .non => pur (.bl (isNon x))
  | .bl a, .bl c => pur (.bl (decide (a = c)))
  | _, _ => bad
def dIsN : D → D → ME
  | x, .non => pur (.bl (!isNon x))
  | .bl a, .bl c => pur (.bl (!decide (a = c)))
  | _, _ => bad

section
variable {K : PySem.W.Frag} {H : Hp} {O : Addr → Prop} {b : List Addr}
theorem At.non_iff {d : D} {v : V} (h : At K H O b d v) : decide (v = .non) = isNon d := by
  cases d <;> first
    | (rw [show v = _ from h]; rfl)
    | (rw [h.1]; rfl)
    | (obtain ⟨a, e, _⟩ := h; rw [e]; rfl)
    | (obtain ⟨a, xs, e, _⟩ := h; rw [e]; rfl)
    | (obtain ⟨a, dx, xs, e, _⟩ := h; rw [e]; rfl)
mutual
theorem toP_dp : ∀ {d : D} {v : V} {p : PyData}, At K H O b d v → toP d = some p → Dp K H v p
  | .non, v, p, h, e => by rw [show v = _ from h]; cases e; exact .non
  | .bl _, v, p, h, e => by rw [show v = _ from h]; cases e; exact .bl _
  | .int _, v, p, h, e => by rw [show v = _ from h]; cases e; exact .int _
  | .str _, v, p, h, e => by rw [show v = _ from h]; cases e; exact .str _
  | .lst ds, v, p, ⟨a, xs, e1, o, r, q⟩, e => by
    rw [e1]
    obtain ⟨ps, e2, e3⟩ := Option.map_eq_some_iff.mp (show (toPs ds).map PyData.list = some p from e)
    rw [← e3]
    exact .lst (.inl (.inl r)) (toPs_dp q e2)
  | .tup ds, v, p, ⟨a, xs, e1, o, r, q⟩, e => by
    rw [e1]
    obtain ⟨ps, e2, e3⟩ := Option.map_eq_some_iff.mp (show (toPs ds).map PyData.tuple = some p from e)
    rw [← e3]
    exact .tup (.inl (.inl r)) (toPs_dp q e2)
  | .ty _, _, _, _, e => nomatch e
  | .gl _, _, _, _, e => nomatch e
  | .dic _, _, _, _, e => nomatch e
  | .dct _, _, _, _, e => nomatch e
  | .ins _ _, _, _, _, e => nomatch e
  | .box _, _, _, _, e => nomatch e
  | .scr _, _, _, _, e => nomatch e
theorem toPs_dp : ∀ {ds : List D} {vs : List V} {ps : List PyData}, Ats K H O b ds vs → toPs ds = some ps → DpAll K H vs ps
  | [], vs, ps, h, e => by rw [show vs = _ from h]; cases e; exact .nil
  | d :: ds, vs, ps, ⟨y, ys, e1, q, r⟩, e => by
    rw [e1]
    have e2 : (match toP d, toPs ds with | some p, some ps => some (p :: ps) | _, _ => none) = some ps := e
    cases h1 : toP d with
    | none => rw [h1] at e2; cases e2
    | some p =>
      cases h2 : toPs ds with
      | none => rw [h1, h2] at e2; cases e2
      | some qs =>
        rw [h1, h2] at e2
        cases e2
        exact .cons (toP_dp q h1) (toPs_dp r h2)
end
end

section
variable {X : Cx} {T : List (Addr × Str)} {W : WX}
theorem OpD.of {g : Value → Value → Sem Value} {f : D → D → ME} {r : R2} (h : OpR X g r) (k : ∀ {σ : L2.St} {H : Hp} {Q : VK} {G : Gh} {O : Addr → Prop} {b : List Addr} {t : Ev} {S : Sto} {x y : D} {v w : V}, Rel X.K T G O b t S σ H → At X.K H O b x v → At X.K H O b y w → Post X.K T W G O b σ H (f x y t S) (KD X.K G σ Q) → r v w H Q) : OpD X T W g f := ⟨r, h, k⟩
theorem newL_end {σ : L2.St} {H : Hp} {Q : VK} {G : Gh} {O : Addr → Prop} {b : List Addr} {t : Ev} {S : Sto} {ds : List D} {vs : List V} (R : Rel X.K T G O b t S σ H) (hv : Ats X.K H O b ds vs) (h : Post X.K T W G O b σ H (newL ds t S) (KD X.K G σ Q)) :
    vs.length ≤ sizeLine ∧ ∀ p, H p = none → Q (.ref p) (upd H p (.lst vs)) := by
  unfold newL at h
  by_cases c : ds.length ≤ lim
  · rw [if_pos c] at h
    exact ⟨by rw [hv.length]; exact Nat.le_trans c (Nat.le_of_lt lim_lt), fun p hp => endN R h hp nt_lst fun s2 => ⟨vs, upd_same, hv.mono s2 (List.prefix_refl _)⟩⟩
  · rw [if_neg c] at h; exact h.elim
theorem newT_end {σ : L2.St} {H : Hp} {Q : VK} {G : Gh} {O : Addr → Prop} {b : List Addr} {t : Ev} {S : Sto} {ds : List D} {vs : List V} (R : Rel X.K T G O b t S σ H) (hv : Ats X.K H O b ds vs) (h : Post X.K T W G O b σ H (newT ds t S) (KD X.K G σ Q)) :
    vs.length ≤ sizeLine ∧ ∀ p, H p = none → Q (.ref p) (upd H p (.tup vs)) := by
  unfold newT at h
  by_cases c : ds.length ≤ lim
  · rw [if_pos c] at h
    exact ⟨by rw [hv.length]; exact Nat.le_trans c (Nat.le_of_lt lim_lt), fun p hp => endO R h hp nt_tup fun s2 no => ⟨p, vs, rfl, no, upd_same, hv.mono s2 (List.prefix_refl _)⟩⟩
  · rw [if_neg c] at h; exact h.elim
theorem od_add : OpD X T W (binaryOp .Add) dAdd := by
  refine OpD.of (op_add.or (op_add_str.or (op_cat.or op_catT))) fun {σ H Q G O b t S x y v w} R hv hw h => ?_
  unfold dAdd at h
  split at h
  · rw [show v = _ from hv, show w = _ from hw]
    exact .inl ⟨_, _, rfl, rfl, endD R h rfl⟩
  · rename_i x y
    rw [show v = _ from hv, show w = _ from hw]
    by_cases c : x.length + y.length ≤ lim
    · rw [if_pos c] at h
      exact .inr (.inl ⟨_, _, rfl, rfl, Nat.le_trans c (Nat.le_of_lt lim_lt), endD R h rfl⟩)
    · rw [if_neg c] at h; exact h.elim
  · obtain ⟨a, vs, e, o, r, q⟩ := hv
    obtain ⟨a2, ws, e2, o2, r2, q2⟩ := hw
    obtain ⟨h1, h2⟩ := newL_end R (q.append q2) h
    exact .inr (.inr (.inl ⟨a, a2, vs, ws, e, e2, r, r2, by rw [List.length_append] at h1; exact h1, h2⟩))
  · rename_i xs ys
    obtain ⟨a, vs, e, o, r, q⟩ := hv
    obtain ⟨a2, ws, e2, o2, r2, q2⟩ := hw
    split at h
    · exact h.elim
    · rename_i z
      have ew : ws = [] := q2
      subst ew
      have hne : vs ≠ [] := fun z1 => by
        have := q.length
        rw [z1] at this
        exact z (List.eq_nil_of_length_eq_zero this.symm)
      by_cases c : xs.length ≤ lim
      · rw [if_pos c] at h
        refine .inr (.inr (.inr ⟨a, a2, vs, [], e, e2, .inl (.inl r), .inl (.inl r2), hne, ?_, fun _ => ?_, fun z => absurd rfl z⟩))
        · rw [q.length]; exact Nat.le_trans c (Nat.le_of_lt lim_lt)
        · rw [← e]; exact endD R h ⟨a, vs, e, o, r, q⟩
      · rw [if_neg c] at h; exact h.elim
    · rename_i z1 z2
      obtain ⟨h1, h2⟩ := newT_end R (q.append q2) h
      have hne : vs ≠ [] := fun z => by
        have := q.length
        rw [z] at this
        exact z1 (List.eq_nil_of_length_eq_zero this.symm)
      have hnw : ws ≠ [] := fun z => by
        have := q2.length
        rw [z] at this
        exact z2 (List.eq_nil_of_length_eq_zero this.symm)
      exact .inr (.inr (.inr ⟨a, a2, vs, ws, e, e2, .inl (.inl r), .inl (.inl r2), hne, by rw [List.length_append] at h1; exact h1, fun z => absurd z hnw, fun _ => h2⟩))
  · exact h.elim
theorem od_sub : OpD X T W (binaryOp .Sub) dSub := by
  refine OpD.of op_sub fun {σ H Q G O b t S x y v w} R hv hw h => ?_
  unfold dSub at h
  split at h
  · rw [show v = _ from hv, show w = _ from hw]
    exact ⟨_, _, rfl, rfl, endD R h rfl⟩
  · exact h.elim
theorem od_mul : OpD X T W (binaryOp .Mult) dMul := by
  refine OpD.of (op_mulW.or op_rep) fun {σ H Q G O b t S x y v w} R hv hw h => ?_
  unfold dMul at h
  split at h
  · rename_i i j
    rw [show v = _ from hv, show w = _ from hw]
    by_cases c : mulOk i j = true
    · rw [if_pos c] at h
      exact .inl ⟨_, _, rfl, rfl, (show i.natAbs.log2 + j.natAbs.log2 < 1000000 from of_decide_eq_true c), endD R h rfl⟩
    · rw [if_neg c] at h; exact h.elim
  · rename_i xs k
    obtain ⟨a, vs, e, o, r, q⟩ := hv
    by_cases c : xs.length * k.toNat ≤ lim ∧ -1000000 ≤ k ∧ k ≤ 1000000
    · rw [if_pos c] at h
      have key : ∀ n : Nat, Ats X.K H O b (List.replicate n xs).flatten (List.replicate n vs).flatten := fun n => by
        induction n with
        | zero => rfl
        | succ n ih => rw [List.replicate_succ, List.replicate_succ, List.flatten_cons, List.flatten_cons]; exact q.append ih
      obtain ⟨h1, h2⟩ := newL_end R (key k.toNat) h
      refine .inr ⟨a, k, vs, e, hw, r, by omega, by omega, ?_, h2⟩
      rw [q.length]
      exact Nat.le_trans c.1 (Nat.le_of_lt lim_lt)
    · rw [if_neg c] at h; exact h.elim
  · exact h.elim
theorem od_fdiv : OpD X T W (binaryOp .FloorDiv) dFdiv := by
  refine OpD.of (op_fdivW.or op_fdivN) fun {σ H Q G O b t S x y v w} R hv hw h => ?_
  unfold dFdiv at h
  split at h
  · rename_i i j
    rw [show v = _ from hv, show w = _ from hw]
    by_cases c : divOk j = true
    · rw [if_pos c] at h
      have c2 : (decide (0 < j) && decide (j.natAbs.log2 < 9000)) = true := c
      rw [Bool.and_eq_true, decide_eq_true_eq, decide_eq_true_eq] at c2
      exact .inl ⟨_, _, rfl, rfl, c2, endD R h rfl⟩
    · rw [if_neg c] at h
      by_cases c2 : divNOk j = true
      · rw [if_pos c2] at h
        have c3 : (decide (j ≠ 0) && decide (j.natAbs < 1073741824)) = true := c2
        rw [Bool.and_eq_true, decide_eq_true_eq, decide_eq_true_eq] at c3
        exact .inr ⟨_, _, rfl, rfl, c3, endD R h rfl⟩
      · rw [if_neg c2] at h; exact h.elim
  · exact h.elim
theorem od_mod : OpD X T W (binaryOp .Mod) dMod := by
  refine OpD.of (op_mod.or op_modN) fun {σ H Q G O b t S x y v w} R hv hw h => ?_
  unfold dMod at h
  split at h
  · rename_i i j
    rw [show v = _ from hv, show w = _ from hw]
    by_cases c : 0 < j
    · rw [if_pos c] at h
      exact .inl ⟨_, _, rfl, rfl, c, endD R h rfl⟩
    · rw [if_neg c] at h
      by_cases c2 : j < 0
      · rw [if_pos c2] at h
        exact .inr ⟨_, _, rfl, rfl, by omega, endD R h rfl⟩
      · rw [if_neg c2] at h; exact h.elim
  · exact h.elim
theorem od_pow : OpD X T W (binaryOp .Pow) dPow := by
  refine OpD.of op_pow fun {σ H Q G O b t S x y v w} R hv hw h => ?_
  unfold dPow at h
  split at h
  · rename_i i j
    rw [show v = _ from hv, show w = _ from hw]
    by_cases c : powOk i j = true
    · rw [if_pos c] at h
      have c2 : (decide (0 ≤ j) && decide (j ≤ 1000000) && decide (i.natAbs < 18446744073709551616)) = true := c
      rw [Bool.and_eq_true, Bool.and_eq_true, decide_eq_true_eq, decide_eq_true_eq, decide_eq_true_eq] at c2
      exact ⟨_, _, rfl, rfl, ⟨c2.1.1, c2.1.2, c2.2⟩, endD R h rfl⟩
    · rw [if_neg c] at h; exact h.elim
  · exact h.elim
theorem od_lt : OpD X T W (compareOp .Lt) dLt := by
  refine OpD.of op_lt fun {σ H Q G O b t S x y v w} R hv hw h => ?_
  unfold dLt at h
  split at h
  · rw [show v = _ from hv, show w = _ from hw]
    exact ⟨_, _, rfl, rfl, endD R h rfl⟩
  · exact h.elim
theorem od_le : OpD X T W (compareOp .LtE) dLe := by
  refine OpD.of op_le fun {σ H Q G O b t S x y v w} R hv hw h => ?_
  unfold dLe at h
  split at h
  · rw [show v = _ from hv, show w = _ from hw]
    exact ⟨_, _, rfl, rfl, endD R h rfl⟩
  · exact h.elim
theorem od_gt : OpD X T W (compareOp .Gt) dGt := by
  refine OpD.of op_gt fun {σ H Q G O b t S x y v w} R hv hw h => ?_
  unfold dGt at h
  split at h
  · rw [show v = _ from hv, show w = _ from hw]
    exact ⟨_, _, rfl, rfl, endD R h rfl⟩
  · exact h.elim
theorem od_ge : OpD X T W (compareOp .GtE) dGe := by
  refine OpD.of op_ge fun {σ H Q G O b t S x y v w} R hv hw h => ?_
  unfold dGe at h
  split at h
  · rw [show v = _ from hv, show w = _ from hw]
    exact ⟨_, _, rfl, rfl, endD R h rfl⟩
  · exact h.elim
/-- what == tells, by values -/
theorem eqD_V {H : Hp} {O : Addr → Prop} {b : List Addr} {x y : D} {v w : V} {c : Bool} (hv : At X.K H O b x v) (hw : At X.K H O b y w) (h : eqD x y = some c) :
    (scal v w = true ∧ decide (v = w) = c) ∨ ∃ d e, Dp X.K H v d ∧ Dp X.K H w e ∧ SeqAt.shaped d = true ∧ SeqAt.shaped e = true ∧ PyData.eqv d e = c := by
  have gen : cmpP x y = some c → ∃ d e, Dp X.K H v d ∧ Dp X.K H w e ∧ SeqAt.shaped d = true ∧ SeqAt.shaped e = true ∧ PyData.eqv d e = c := fun h => by
    unfold cmpP at h
    split at h
    · rename_i p q e1 e2
      by_cases z : (SeqAt.shaped p && SeqAt.shaped q) = true
      · rw [if_pos z] at h
        rw [Bool.and_eq_true] at z
        exact ⟨p, q, toP_dp hv e1, toP_dp hw e2, z.1, z.2, Option.some.inj h⟩
      · rw [if_neg z] at h; cases h
    · cases h
  unfold eqD at h
  split at h
  · rw [show v = _ from hv, show w = _ from hw]
    exact .inl ⟨rfl, by rw [← Option.some.inj h]; simp⟩
  · rw [show v = _ from hv, show w = _ from hw]
    exact .inl ⟨rfl, by rw [← Option.some.inj h]; simp⟩
  · rw [show v = _ from hv, show w = _ from hw]
    exact .inl ⟨rfl, by rw [← Option.some.inj h]; simp⟩
  · rw [show v = _ from hv, show w = _ from hw]
    exact .inl ⟨rfl, by rw [← Option.some.inj h]; simp⟩
  · exact .inr (gen h)
theorem od_eq (hu : X.A.units + 64 < cLine) : OpD X T W (compareOp .Eq) dEq := by
  refine OpD.of ((op_eq.or (op_eqD hu)).or (op_eqFn (by omega))) fun {σ H Q G O b t S x y v w} R hv hw h => ?_
  unfold dEq at h
  cases e : eqD x y with
  | none =>
    rw [e] at h
    simp only at h
    split at h
    · rename_i hs
      unfold sameGl at hs
      split at hs
      · rename_i a c
        obtain rfl := of_decide_eq_true hs
        obtain ⟨e1, e2⟩ := hv
        exact .inr ⟨_, e1, hw.1, e2, endD R h rfl⟩
      · cases hs
    · exact h.elim
  | some c =>
    rw [e] at h
    rcases eqD_V hv hw e with ⟨h1, h2⟩ | ⟨d1, d2, q1, q2, q3, q4, q5⟩
    · exact .inl (.inl ⟨h1, by rw [h2]; exact endD R h rfl⟩)
    · exact .inl (.inr ⟨d1, d2, q1, q2, q3, q4, by rw [q5]; exact endD R h rfl⟩)
theorem od_ne (hu : X.A.units + 64 < cLine) : OpD X T W (compareOp .NotEq) dNe := by
  refine OpD.of (op_ne.or (op_neD hu)) fun {σ H Q G O b t S x y v w} R hv hw h => ?_
  unfold dNe at h
  cases e : eqD x y with
  | none => rw [e] at h; exact h.elim
  | some c =>
    rw [e] at h
    rcases eqD_V hv hw e with ⟨h1, h2⟩ | ⟨d1, d2, q1, q2, q3, q4, q5⟩
    · exact .inl ⟨h1, by rw [h2]; exact endD R h rfl⟩
    · exact .inr ⟨d1, d2, q1, q2, q3, q4, by rw [q5]; exact endD R h rfl⟩
theorem od_is : OpD X T W (compareOp .Is) dIs := by
  refine OpD.of (op_isN.or op_isBl) fun {σ H Q G O b t S x y v w} R hv hw h => ?_
  unfold dIs at h
  split at h
  · exact .inl ⟨hw, by rw [hv.non_iff]; exact endD R h rfl⟩
  · rw [show v = _ from hv, show w = _ from hw]
    exact .inr ⟨_, _, rfl, rfl, endD R h rfl⟩
  · exact h.elim
theorem od_isn : OpD X T W (compareOp .IsNot) dIsN := by
  refine OpD.of (op_notN.or op_notBl) fun {σ H Q G O b t S x y v w} R hv hw h => ?_
  unfold dIsN at h
  split at h
  · exact .inl ⟨hw, by rw [hv.non_iff]; exact endD R h rfl⟩
  · rw [show v = _ from hv, show w = _ from hw]
    exact .inr ⟨_, _, rfl, rfl, endD R h rfl⟩
  · exact h.elim
end
end TD

set_option Elab.async false
set_option linter.all false
set_option maxRecDepth 100000
set_option maxHeartbeats 1000000
set_option autoImplicit false
namespace TD
open PySem PySem.Spec PyProof.Rows L2

/-! ### and, or, not, tests -/
def eAnd (m r : ME) : ME := eb m fun d => match d with
  | .bl true => r
  | .bl false => pur (.bl false)
  | _ => bad
def eOr (m r : ME) : ME := eb m fun d => match d with
  | .bl true => pur (.bl true)
  | .bl false => r
  | _ => bad
def eNot (m : ME) : ME := eb m fun d => match d with
  | .bl c => pur (.bl (!c))
  | _ => bad
def tst (m : ME) : MT := eb m fun d => match d with
  | .bl c => ret c
  | _ => bad
def dTru : D → MT
  | .non => ret false
  | .bl c => ret c
  | .int i => ret (i != 0)
  | .str y => if y.length ≤ lim then ret ((y.length : Int) != 0) else bad
  | .lst ds => ret (!ds.isEmpty)
  | .tup ds => ret (!ds.isEmpty)
  | _ => bad
def tTru (m : MB) : MT := bnd m dTru
def tAndM (m r : MT) : MT := bnd m fun c => if c = true then r else ret false
def tOrM (m r : MT) : MT := bnd m fun c => if c = true then ret true else r
def tNotM (m : MT) : MT := bnd m fun c => ret (!c)

theorem bnd_assoc {α β γ : Type} (m : M α) (f : α → M β) (g : β → M γ) : bnd (bnd m f) g = bnd m fun x => bnd (f x) g := by
  funext t S
  unfold bnd
  cases m t S <;> rfl
section
variable {X : Cx} {T : List (Addr × Str)} {W : WX} {e a c : Expr} {es : List Expr} {pos : Pos}
theorem pd_one {op : BoolOp} {m : ME} (h : PD X T W a m) : PD X T W (.BoolOp op [a] pos) m := pe_one h
theorem pd_and {m r : ME} (ha : PD X T W a m) (hc : PD X T W (.BoolOp .And (c :: es) pos) r) : PD X T W (.BoolOp .And (a :: c :: es) pos) (eAnd m r) := by
  refine PE.imp' (pe_and ha hc) fun σ H Q ⟨G, O, b, t, S, R, h⟩ => ?_
  refine useD R h fun O1 b1 x t1 S1 H1 v R1 hb1 s1 hv h1 => ?_
  split at h1
  · exact ⟨true, hv, by rw [if_pos rfl]; exact ⟨G, O1, b1, t1, S1, R1, h1⟩⟩
  · exact ⟨false, hv, by rw [if_neg Bool.false_ne_true]; exact endD R1 h1 rfl⟩
  · exact h1.elim
theorem pd_or {m r : ME} (ha : PD X T W a m) (hc : PD X T W (.BoolOp .Or (c :: es) pos) r) : PD X T W (.BoolOp .Or (a :: c :: es) pos) (eOr m r) := by
  refine PE.imp' (pe_or ha hc) fun σ H Q ⟨G, O, b, t, S, R, h⟩ => ?_
  refine useD R h fun O1 b1 x t1 S1 H1 v R1 hb1 s1 hv h1 => ?_
  split at h1
  · exact ⟨true, hv, by rw [if_pos rfl]; exact endD R1 h1 rfl⟩
  · exact ⟨false, hv, by rw [if_neg Bool.false_ne_true]; exact ⟨G, O1, b1, t1, S1, R1, h1⟩⟩
  · exact h1.elim
theorem pd_not {m : ME} (ha : PD X T W a m) : PD X T W (.UnaryOp .Not a pos) (eNot m) := by
  refine PE.imp' (pe_not ha) fun σ H Q ⟨G, O, b, t, S, R, h⟩ => ?_
  refine useD R h fun O1 b1 x t1 S1 H1 v R1 hb1 s1 hv h1 => ?_
  split at h1
  · exact ⟨_, hv, endD R1 h1 rfl⟩
  · exact h1.elim
/-- a comparison as a test -/
theorem pc_cmp {op : CmpOp} {f : D → D → ME} {ma mc : ME} (ho : OpD X T W (compareOp op) f) (ha : PD X T W a ma) (hc : PD X T W c mc) (hm : behindInMarks op c = false := by first | exact nomark _ | rfl) : PC X T W (.Compare a [op] [c] pos) (tst (eb ma fun x => eb mc fun y => f x y)) := by
  obtain ⟨r, h1, h2⟩ := ho
  refine PT.imp' (pt_cmpR h1 ha hc hm) fun σ H Q ⟨G, O, b, t, S, R, h⟩ => ?_
  have h' : Post X.K T W G O b σ H (eb ma (fun x => eb mc fun y => tst (f x y)) t S) fun _ _ x _ _ H' => Q x H' := by
    unfold tst eb at h ⊢
    rw [bnd_assoc] at h
    simp only [bnd_assoc] at h
    exact h
  refine useD R h' fun O1 b1 x t1 S1 H1 v R1 hb1 s1 hv h1 => ?_
  refine useD R1 h1 fun O2 b2 y t2 S2 H2 w R2 hb2 s2 hw h2' => ?_
  refine h2 R2 (hv.mono s2 hb2) hw ((Post.bnd h2').imp fun O' b' z t' S' H' R' hb hs h' v hv => ?_)
  obtain ⟨O3, R3, s3, a3⟩ := R'.share hv
  obtain ⟨z1, z2⟩ := z
  cases z1 with
  | bl k => exact ⟨k, a3, Post.here h' R'⟩
  | _ => exact h'.elim
theorem pc_val {m : ME} (h : PD X T W e m) (he : ∀ whole, isTrue e X.env whole = (do let v ← whole; standAt e.pos; holding [v] (truthy v)) := by intro _; rfl) : PC X T W e (tst m) := by
  refine PT.imp' (pt_val h he) fun σ H Q ⟨G, O, b, t, S, R, h⟩ => ?_
  refine useD R h fun O1 b1 x t1 S1 H1 v R1 hb1 s1 hv h1 => ?_
  split at h1
  · exact ⟨_, hv, Post.here h1 R1⟩
  · exact h1.elim
theorem pc_truth {m : MB} (h : PB X T W e m) (he : ∀ whole, isTrue e X.env whole = (do let v ← whole; standAt e.pos; holding [v] (truthy v)) := by intro _; rfl) : PC X T W e (tTru m) := by
  refine PT.imp' (pt_truth h he) fun σ H Q ⟨G, O, b, t, S, R, h⟩ => ?_
  refine useB R h fun O1 b1 x t1 S1 H1 v R1 hb1 s1 hv h1 => ?_
  have em : ∀ {ds : List D} {vs : List V}, Ats X.K H1 O1 b1 ds vs → (!vs.isEmpty) = !ds.isEmpty := fun {ds vs} q => by
    cases ds with
    | nil => rw [show vs = [] from q]; rfl
    | cons d ds => obtain ⟨y, ys, e, _⟩ := q; rw [e]; rfl
  rcases hv with hv | ⟨p, ep, hv⟩
  · unfold dTru at h1
    split at h1
    · rw [show v = _ from hv]; exact ⟨_, rfl, Post.here h1 R1⟩
    · rw [show v = _ from hv]; exact ⟨_, rfl, Post.here h1 R1⟩
    · rw [show v = _ from hv]; exact ⟨_, rfl, Post.here h1 R1⟩
    · rename_i y
      rw [show v = _ from hv]
      by_cases q : y.length ≤ lim
      · rw [if_pos q] at h1; exact ⟨_, ⟨Nat.le_trans q (Nat.le_of_lt lim_lt), rfl⟩, Post.here h1 R1⟩
      · rw [if_neg q] at h1; exact h1.elim
    · obtain ⟨a, vs, e1, o, r, q⟩ := hv
      rw [e1]
      exact ⟨_, .inl ⟨vs, .inl (.inl r), rfl⟩, by rw [em q]; exact Post.here h1 R1⟩
    · obtain ⟨a, vs, e1, o, r, q⟩ := hv
      rw [e1]
      exact ⟨_, .inr (.inl ⟨vs, .inl (.inl r), rfl⟩), by rw [em q]; exact Post.here h1 R1⟩
    · exact h1.elim
  · cases x with
    | lst ds =>
      obtain ⟨vs, r, q⟩ := hv
      rw [ep]
      exact ⟨_, .inl ⟨vs, .inl (.inl r), rfl⟩, by rw [em q]; exact Post.here h1 R1⟩
    | _ => first | exact hv.elim | exact h1.elim
theorem pw_one {op : BoolOp} {m : MT} (h : PC X T W a m) (ho : op = .And ∨ op = .Or := by first | exact .inl rfl | exact .inr rfl) : PW X (.BoolOp op [a] pos) (tT X.K T W m) := by
  rcases ho with rfl | rfl
  · exact pw_and1 h
  · exact pw_or1 h
theorem pw_andM {m r : MT} (ha : PC X T W a m) (hc : PW X (.BoolOp .And (c :: es) pos) (tT X.K T W r)) : PW X (.BoolOp .And (a :: c :: es) pos) (tT X.K T W (tAndM m r)) := by
  refine ⟨fun wh pins s σ H Q I h => (pw_and ha hc).run wh pins s σ H Q I ?_⟩
  obtain ⟨G, O, b, t, S, R, h⟩ := h
  refine useT R h fun O1 b1 x t1 S1 H1 R1 hb1 s1 h1 => ?_
  cases x with
  | true => rw [if_pos rfl] at h1 ⊢; exact ⟨G, O1, b1, t1, S1, R1, h1⟩
  | false => rw [if_neg Bool.false_ne_true] at h1 ⊢; exact Post.here h1 R1
theorem pw_orM {m r : MT} (ha : PC X T W a m) (hc : PW X (.BoolOp .Or (c :: es) pos) (tT X.K T W r)) : PW X (.BoolOp .Or (a :: c :: es) pos) (tT X.K T W (tOrM m r)) := by
  refine ⟨fun wh pins s σ H Q I h => (pw_or ha hc).run wh pins s σ H Q I ?_⟩
  obtain ⟨G, O, b, t, S, R, h⟩ := h
  refine useT R h fun O1 b1 x t1 S1 H1 R1 hb1 s1 h1 => ?_
  cases x with
  | true => rw [if_pos rfl] at h1 ⊢; exact Post.here h1 R1
  | false => rw [if_neg Bool.false_ne_true] at h1 ⊢; exact ⟨G, O1, b1, t1, S1, R1, h1⟩
theorem pc_pw {m : MT} (h : PW X e (tT X.K T W m)) : PC X T W e m := h.pt
theorem pc_not {m : MT} (ha : PC X T W a m) : PC X T W (.UnaryOp .Not a pos) (tNotM m) := by
  refine PT.imp' (pt_not ha) fun σ H Q ⟨G, O, b, t, S, R, h⟩ => ?_
  exact useT R h fun O1 b1 x t1 S1 H1 R1 hb1 s1 h1 => Post.here h1 R1
theorem pd_if {mc : MT} {ma mb : ME} {d : Expr} (hc : PC X T W c mc) (ha : PD X T W a ma) (hb : PD X T W d mb) : PD X T W (.IfExp c a d pos) (iff mc ma mb) := by
  refine PE.imp' (pe_ifExp hc ha hb) fun σ H Q ⟨G, O, b, t, S, R, h⟩ => ?_
  refine useT R h fun O1 b1 x t1 S1 H1 R1 hb1 s1 h1 => ?_
  cases x with
  | true => rw [if_pos rfl] at h1 ⊢; exact ⟨G, O1, b1, t1, S1, R1, h1⟩
  | false => rw [if_neg Bool.false_ne_true] at h1 ⊢; exact ⟨G, O1, b1, t1, S1, R1, h1⟩
/-- -e, of an int -/
def eNeg (m : ME) : ME := eb m fun d => match d with
  | .int i => pur (.int (-i))
  | _ => bad
theorem pd_neg {m : ME} (ha : PD X T W a m) : PD X T W (.UnaryOp .USub a pos) (eNeg m) := by
  refine PE.imp' (pe_un un_neg ha) fun σ H Q ⟨G, O, b, t, S, R, h⟩ => ?_
  refine useD R h fun O1 b1 x t1 S1 H1 v R1 hb1 s1 hv h1 => ?_
  split at h1
  · exact ⟨_, hv, endD R1 h1 rfl⟩
  · exact h1.elim

/-! ### subscripts -/
def optD : Option D → ME
  | some d => pur d
  | none => bad
def dIx (x y : D) : ME := match x, y with
  | .lst ds, .int i => optD (atI ds i)
  | .tup ds, .int i => optD (atI ds i)
  | .str z, .int i => if z.length ≤ lim then optD ((atI z.cps.toList i).map fun k => .str ⟨#[k]⟩) else bad
  | _, _ => bad
theorem atI_ats {K : PySem.W.Frag} {H : Hp} {O : Addr → Prop} {b : List Addr} {ds : List D} {vs : List V} {i : Int} {d : D} (q : Ats K H O b ds vs) (h : atI ds i = some d) : ∃ v, atI vs i = some v ∧ At K H O b d v := by
  unfold atI at h ⊢
  rw [q.length]
  cases e : ixN ds.length i with
  | none => rw [e] at h; cases h
  | some j => rw [e] at h; exact q.get h
theorem ix_end {σ : L2.St} {H : Hp} {Q : VK} {G : Gh} {O : Addr → Prop} {b : List Addr} {t : Ev} {S : Sto} {x y : D} {v w : V} (R : Rel X.K T G O b t S σ H) (hv : Bor X.K H O b x v) (hw : At X.K H O b y w) (h : Post X.K T W G O b σ H (dIx x y t S) (KD X.K G σ Q)) : rIx X.K v w H Q := by
  unfold dIx at h
  split at h
  · rename_i ds i
    have key : ∃ a vs, v = V.ref a ∧ H a = some (.lst vs) ∧ Ats X.K H O b ds vs := by
      rcases hv with ⟨a, vs, e, _, r, q⟩ | ⟨p, e, vs, r, q⟩
      · exact ⟨a, vs, e, r, q⟩
      · exact ⟨p, vs, e, r, q⟩
    obtain ⟨a, vs, e, r, q⟩ := key
    cases ed : atI ds i with
    | none => rw [ed] at h; exact h.elim
    | some d =>
      rw [ed] at h
      obtain ⟨u, e2, q2⟩ := atI_ats q ed
      exact .inl ⟨a, vs, i, u, e, hw, .inl (.inl r), e2, endD R h q2⟩
  · rename_i ds i
    have key : ∃ a vs, v = V.ref a ∧ H a = some (.tup vs) ∧ Ats X.K H O b ds vs := by
      rcases hv with ⟨a, vs, e, _, r, q⟩ | ⟨p, e, z⟩
      · exact ⟨a, vs, e, r, q⟩
      · exact z.elim
    obtain ⟨a, vs, e, r, q⟩ := key
    cases ed : atI ds i with
    | none => rw [ed] at h; exact h.elim
    | some d =>
      rw [ed] at h
      obtain ⟨u, e2, q2⟩ := atI_ats q ed
      exact .inr (.inl ⟨a, vs, i, u, e, hw, .inl (.inl r), e2, endD R h q2⟩)
  · rename_i z i
    have key : v = V.str z := by
      rcases hv with hv | ⟨p, e, z⟩
      · exact hv
      · exact z.elim
    by_cases c : z.length ≤ lim
    · rw [if_pos c] at h
      cases ek : atI z.cps.toList i with
      | none => rw [ek] at h; exact h.elim
      | some k =>
        rw [ek] at h
        exact .inr (.inr ⟨z, i, k, key, hw, Nat.le_trans c (Nat.le_of_lt lim_lt), ek, endD R h rfl⟩)
    · rw [if_neg c] at h; exact h.elim
  · exact h.elim
/-- a name that has a worth -/
def chk (i : Nat) : M Unit := fun t S => match t[i]? with
  | some (.sh _) => .ok () t S
  | some (.ow _) => .ok () t S
  | _ => .bad
theorem chk_ok {K : PySem.W.Frag} {σ : L2.St} {H : Hp} {G : Gh} {O : Addr → Prop} {b : List Addr} {t : Ev} {S : Sto} {β : Type} {i : Nat} {f : Unit → M β} {k : KT β} (R : Rel K T G O b t S σ H) (h : Post K T W G O b σ H (bnd (chk i) f t S) k) :
    ∃ v, σ[i]? = some (some v) ∧ Post K T W G O b σ H (f () t S) k := by
  unfold bnd chk at h
  cases ht : t[i]? with
  | none => rw [ht] at h; exact h.elim
  | some s =>
    rw [ht] at h
    obtain ⟨o, e1, q⟩ := R.sl i s ht
    cases s with
    | no => exact h.elim
    | sh d =>
      obtain ⟨v, e2, q⟩ := q
      exact ⟨v, by rw [e1, e2], h⟩
    | ow d =>
      obtain ⟨p, e2, h1, q⟩ := q
      exact ⟨_, by rw [e1, e2], h⟩
theorem bVar_bor {K : PySem.W.Frag} {σ : L2.St} {H : Hp} {G : Gh} {O : Addr → Prop} {b : List Addr} {t : Ev} {S : Sto} {β : Type} {i : Nat} {f : D → M β} {k : KT β} (R : Rel K T G O b t S σ H) (h : Post K T W G O b σ H (bnd (bVar i) f t S) k) :
    ∃ v x, σ[i]? = some (some v) ∧ Bor K H O b x v ∧ Post K T W G O b σ H (f x t S) k := by
  unfold bnd bVar at h
  cases ht : t[i]? with
  | none => rw [ht] at h; exact h.elim
  | some s =>
    rw [ht] at h
    obtain ⟨o, e1, q⟩ := R.sl i s ht
    cases s with
    | no => exact h.elim
    | sh d =>
      obtain ⟨v, e2, q⟩ := q
      exact ⟨v, _, by rw [e1, e2], ex_bor R q, h⟩
    | ow d =>
      obtain ⟨p, e2, h1, q⟩ := q
      exact ⟨_, _, by rw [e1, e2], .inr ⟨p, rfl, q⟩, h⟩
/-- f(x, e), x a name that is only looked at -/
def vThen {β : Type} (i : Nat) (m : ME) (f : D → D → M β) : M β := bnd (chk i) fun _ => eb m fun y => bnd (bVar i) fun x => f x y
theorem useV {K : PySem.W.Frag} {σ : L2.St} {H : Hp} {G : Gh} {O : Addr → Prop} {b : List Addr} {t : Ev} {S : Sto} {β : Type} {i : Nat} {m : ME} {f : D → D → M β} {k : KT β} {Q : V → VK} (R : Rel K T G O b t S σ H) (h : Post K T W G O b σ H (vThen i m f t S) k)
    (g : ∀ (O1 : Addr → Prop) (b1 : List Addr) (x y : D) (t1 : Ev) (S1 : Sto) (H1 : Hp) (v w : V), Rel K T G O1 b1 t1 S1 σ H1 → b <+: b1 → Stays H O H1 O1 → Bor K H1 O1 b1 x v → At K H1 O1 b1 y w → Post K T W G O1 b1 σ H1 (f x y t1 S1) k → Q v w H1) :
    ∃ v, σ[i]? = some (some v) ∧ tD K T W m σ H (Q v) := by
  obtain ⟨v, e1, h1⟩ := chk_ok R h
  refine ⟨v, e1, useD R h1 fun O1 b1 y t1 S1 H1 w R1 hb1 s1 hw h2 => ?_⟩
  obtain ⟨v', x, e2, hv, h3⟩ := bVar_bor R1 h2
  rw [e1] at e2
  cases e2
  exact g O1 b1 x y t1 S1 H1 v w R1 hb1 s1 hv hw h3
/-- x[e], x a name -/
def eIxV (i : Nat) (m : ME) : ME := vThen i m dIx
theorem pd_ixV {i : Nat} {x : Str} {m : ME} {p1 : Pos} (hN : X.N[i]? = some x) (hv : Vis X.env.scope x) (hc : PD X T W c m) (hs : PlainIx c := by intro _ _; rfl) (hd : (x == ("__debug__" : Str)) = false := by decide) (hcd : (x == ("__classdict__" : Str)) = false := by decide) : PD X T W (.Subscript (.Name x p1) c pos) (eIxV i m) :=
  PE.imp' (pe_ix ix_seq (pe_var hN hv hd hcd) hc hs) fun σ H Q ⟨G, O, b, t, S, R, h⟩ =>
    useV R h fun O1 b1 x y t1 S1 H1 v w R1 hb1 s1 hv hw h1 => ix_end R1 hv hw h1
/-- e[e'], any e -/
def eIx (m r : ME) : ME := eb m fun x => eb r fun y => fun t S => dIx (vw S x) y t S
theorem pd_ix {m r : ME} (ha : PD X T W a m) (hc : PD X T W c r) (hs : PlainIx c := by intro _ _; rfl) : PD X T W (.Subscript a c pos) (eIx m r) := by
  refine PE.imp' (pe_ix ix_seq ha hc hs) fun σ H Q ⟨G, O, b, t, S, R, h⟩ => ?_
  refine useD R h fun O1 b1 x t1 S1 H1 v R1 hb1 s1 hv h1 => ?_
  refine useD R1 h1 fun O2 b2 y t2 S2 H2 w R2 hb2 s2 hw h2 => ?_
  exact ix_end R2 (ex_bor R2 (hv.mono s2 hb2)) hw h2

/-! ### slices -/
def cutD (ds : List D) (lo hi : Option Int) : List D := (ds.drop (HT.sIx ds.length 0 lo)).take (HT.sIx ds.length ds.length hi - HT.sIx ds.length 0 lo)
theorem cutD_ats {K : PySem.W.Frag} {H : Hp} {O : Addr → Prop} {b : List Addr} {ds : List D} {vs : List V} (lo hi : Option Int) (q : Ats K H O b ds vs) : Ats K H O b (cutD ds lo hi) (cutV vs lo hi) := by
  unfold cutD cutV
  rw [q.length]
  exact (q.drop _).take _
def dSl (x : D) (lo hi : Option Int) : ME := match x with
  | .lst ds => newL (cutD ds lo hi)
  | .tup ds => if HT.sIx ds.length 0 lo = 0 ∧ HT.sIx ds.length ds.length hi = ds.length then bad else newT (cutD ds lo hi)
  | .str z => if z.length ≤ lim then pur (.str (cutS z lo hi)) else bad
  | _ => bad
abbrev MP := M (Option Int)
def pNone : MP := ret none
def pInt (m : ME) : MP := eb m fun d => match d with
  | .int i => ret (some i)
  | _ => bad
def tP (K : PySem.W.Frag) (T : List (Addr × Str)) (W : WX) (m : MP) : TO := fun σ H Q => ∃ G O b t S, Rel K T G O b t S σ H ∧ Post K T W G O b σ H (m t S) fun _ _ x _ _ H' => Q x H'
theorem pp_none : PO X none (tP X.K T W pNone) := ⟨fun pins s σ H Q I h => po_none.run pins s σ H Q I (by obtain ⟨G, O, b, t, S, R, h⟩ := h; exact Post.here h R)⟩
theorem pp_some {m : ME} (h : PD X T W a m) : PO X (some a) (tP X.K T W (pInt m)) := ⟨fun pins s σ H Q I hh => (po_some h).run pins s σ H Q I (by
  obtain ⟨G, O, b, t, S, R, hh⟩ := hh
  refine useD R hh fun O1 b1 x t1 S1 H1 v R1 hb1 s1 hv h1 => ?_
  split at h1
  · exact ⟨_, hv, Post.here h1 R1⟩
  · exact h1.elim)⟩
theorem useP {K : PySem.W.Frag} {σ : L2.St} {H : Hp} {G : Gh} {O : Addr → Prop} {b : List Addr} {t : Ev} {S : Sto} {β : Type} {m : MP} {f : Option Int → M β} {k : KT β} (R : Rel K T G O b t S σ H) (h : Post K T W G O b σ H (bnd m f t S) k) {Q : Option Int → Hp → Prop}
    (g : ∀ (O1 : Addr → Prop) (b1 : List Addr) (d : Option Int) (t1 : Ev) (S1 : Sto) (H1 : Hp), Rel K T G O1 b1 t1 S1 σ H1 → b <+: b1 → Stays H O H1 O1 → Post K T W G O1 b1 σ H1 (f d t1 S1) k → Q d H1) : tP K T W m σ H Q :=
  ⟨G, O, b, t, S, R, (Post.bnd h).imp fun O' b' x t' S' H' R' hb hs h' => g O' b' x t' S' H' R' hb hs h'⟩
theorem sl_end {σ : L2.St} {H : Hp} {Q : VK} {G : Gh} {O : Addr → Prop} {b : List Addr} {t : Ev} {S : Sto} {x : D} {v : V} {lo hi : Option Int} (R : Rel X.K T G O b t S σ H) (hv : Bor X.K H O b x v) (h : Post X.K T W G O b σ H (dSl x lo hi t S) (KD X.K G σ Q)) :
    rSlL X.K v lo hi H Q ∨ rSlT X.K v lo hi H Q ∨ rSlS v lo hi H Q := by
  unfold dSl at h
  split at h
  · rename_i ds
    have key : ∃ a vs, v = V.ref a ∧ H a = some (.lst vs) ∧ Ats X.K H O b ds vs := by
      rcases hv with ⟨a, vs, e, _, r, q⟩ | ⟨p, e, vs, r, q⟩
      · exact ⟨a, vs, e, r, q⟩
      · exact ⟨p, vs, e, r, q⟩
    obtain ⟨a, vs, e, r, q⟩ := key
    exact .inl ⟨a, vs, e, .inl (.inl r), (newL_end R (cutD_ats lo hi q) h).2⟩
  · rename_i ds
    have key : ∃ a vs, v = V.ref a ∧ H a = some (.tup vs) ∧ Ats X.K H O b ds vs := by
      rcases hv with ⟨a, vs, e, _, r, q⟩ | ⟨p, e, z⟩
      · exact ⟨a, vs, e, r, q⟩
      · exact z.elim
    obtain ⟨a, vs, e, r, q⟩ := key
    by_cases c : HT.sIx ds.length 0 lo = 0 ∧ HT.sIx ds.length ds.length hi = ds.length
    · rw [if_pos c] at h; exact h.elim
    · rw [if_neg c] at h
      exact .inr (.inl ⟨a, vs, e, .inl (.inl r), by rw [q.length]; exact c, (newT_end R (cutD_ats lo hi q) h).2⟩)
  · rename_i z
    have key : v = V.str z := by
      rcases hv with hv | ⟨p, e, z⟩
      · exact hv
      · exact z.elim
    by_cases c : z.length ≤ lim
    · rw [if_pos c] at h
      exact .inr (.inr ⟨z, key, Nat.le_trans c (Nat.le_of_lt lim_lt), endD R h rfl⟩)
    · rw [if_neg c] at h; exact h.elim
  · exact h.elim
def eSlV (i : Nat) (lo hi : MP) : ME := bnd (chk i) fun _ => bnd lo fun l => bnd hi fun u => bnd (bVar i) fun x => dSl x l u
theorem pd_slV {i : Nat} {x : Str} {lo hi : Option Expr} {ml mh : MP} {p1 p2 : Pos} (hN : X.N[i]? = some x) (hv : Vis X.env.scope x) (hl : PO X lo (tP X.K T W ml)) (hh : PO X hi (tP X.K T W mh)) (hd : (x == ("__debug__" : Str)) = false := by decide) (hcd : (x == ("__classdict__" : Str)) = false := by decide) : PD X T W (.Subscript (.Name x p1) (.Slice lo hi none p2) pos) (eSlV i ml mh) := by
  refine PE.imp' (pe_slice (sl_list.or (sl_tup.or sl_str)) (pe_var hN hv hd hcd) hl hh) fun σ H Q ⟨G, O, b, t, S, R, h⟩ => ?_
  obtain ⟨v, e1, h1⟩ := chk_ok R h
  refine ⟨v, e1, useP R h1 fun O1 b1 l t1 S1 H1 R1 hb1 s1 h2 => useP R1 h2 fun O2 b2 u t2 S2 H2 R2 hb2 s2 h3 => ?_⟩
  obtain ⟨v', x, e2, hv, h4⟩ := bVar_bor R2 h3
  rw [e1] at e2
  cases e2
  exact sl_end R2 hv h4
def eSl (m : ME) (lo hi : MP) : ME := eb m fun x => bnd lo fun l => bnd hi fun u => fun t S => dSl (vw S x) l u t S
theorem pd_sl {m : ME} {lo hi : Option Expr} {ml mh : MP} {p2 : Pos} (ha : PD X T W a m) (hl : PO X lo (tP X.K T W ml)) (hh : PO X hi (tP X.K T W mh)) : PD X T W (.Subscript a (.Slice lo hi none p2) pos) (eSl m ml mh) := by
  refine PE.imp' (pe_slice (sl_list.or (sl_tup.or sl_str)) ha hl hh) fun σ H Q ⟨G, O, b, t, S, R, h⟩ => ?_
  refine useD R h fun O0 b0 x t0 S0 H0 v R0 hb0 s0 hv h1 => ?_
  refine useP R0 h1 fun O1 b1 l t1 S1 H1 R1 hb1 s1 h2 => useP R1 h2 fun O2 b2 u t2 S2 H2 R2 hb2 s2 h3 => ?_
  exact sl_end R2 (ex_bor R2 ((hv.mono s1 hb1).mono s2 hb2)) h3
/-- x[::-1] -/
def dRev : D → ME
  | .lst ds => newL ds.reverse
  | _ => bad
theorem ats_rev {K : PySem.W.Frag} {H : Hp} {O : Addr → Prop} {b : List Addr} : ∀ {ds : List D} {vs : List V}, Ats K H O b ds vs → Ats K H O b ds.reverse vs.reverse
  | [], vs, q => by rw [show vs = [] from q]; rfl
  | d :: ds, vs, ⟨y, ys, e, q, r⟩ => by
    rw [e, List.reverse_cons, List.reverse_cons]
    exact (ats_rev r).append (Ats.one q)
theorem pd_rev {m : MB} {k : Nat} {p1 p2 p3 : Pos} (ha : PB X T W a m) : PD X T W (.Subscript a (.Slice none none (some (.UnaryOp .USub (.Constant (.int 1) k p1) p2)) p3) pos) (bnd m dRev) := by
  refine PE.imp' (pe_revL ha) fun σ H Q ⟨G, O, b, t, S, R, h⟩ => ?_
  refine useB R h fun O1 b1 x t1 S1 H1 v R1 hb1 s1 hv h1 => ?_
  unfold dRev at h1
  split at h1
  · rename_i ds
    have key : ∃ a vs, v = V.ref a ∧ H1 a = some (.lst vs) ∧ Ats X.K H1 O1 b1 ds vs := by
      rcases hv with ⟨a, vs, e, _, r, q⟩ | ⟨p, e, vs, r, q⟩
      · exact ⟨a, vs, e, r, q⟩
      · exact ⟨p, vs, e, r, q⟩
    obtain ⟨a, vs, e, r, q⟩ := key
    exact ⟨a, vs, e, .inl (.inl r), (newL_end R1 (ats_rev q) h1).2⟩
  · exact h1.elim
end
end TD

set_option Elab.async false
set_option linter.all false
set_option maxRecDepth 100000
set_option maxHeartbeats 1000000
set_option autoImplicit false
namespace TD
open PySem PySem.Spec PyProof.Rows L2

/-! ### built-in functions of one thing that is only looked at -/
def CB1 (X : Cx) (T : List (Addr × Str)) (W : WX) (fv : Value) (f : D → ME) : Prop :=
  ∃ r, CallR X fv r ∧ ∀ {σ : L2.St} {H : Hp} {Q : VK} {G : Gh} {O : Addr → Prop} {b : List Addr} {t : Ev} {S : Sto} {x : D} {v : V}, Rel X.K T G O b t S σ H → Bor X.K H O b x v → Post X.K T W G O b σ H (f x t S) (KD X.K G σ Q) → r [v] H Q
/-- of any number of worths -/
def CBn (X : Cx) (T : List (Addr × Str)) (W : WX) (fv : Value) (f : List D → ME) : Prop :=
  ∃ r, CallR X fv r ∧ ∀ {σ : L2.St} {H : Hp} {Q : VK} {G : Gh} {O : Addr → Prop} {b : List Addr} {t : Ev} {S : Sto} {xs : List D} {vs : List V}, Rel X.K T G O b t S σ H → Ats X.K H O b xs vs → Post X.K T W G O b σ H (f xs t S) (KD X.K G σ Q) → r vs H Q
def dLen : D → ME
  | .lst ds => pur (.int ds.length)
  | .tup ds => pur (.int ds.length)
  | .str y => if y.length ≤ lim then pur (.int y.length) else bad
  | .dic kvs => pur (.int kvs.length)
  | .dct kvs => pur (.int kvs.length)
  | _ => bad
def dAbs : D → ME
  | .int i => pur (.int (if i < 0 then -i else i))
  | _ => bad
def dInt : D → ME
  | .int i => pur (.int i)
  | .bl c => pur (.int (if c then 1 else 0))
  | _ => bad
def dList : D → ME
  | .lst ds => newL ds
  | .tup ds => newL ds
  | .scr ds => newL ds
  | _ => bad
def dTuple : D → ME
  | .lst ds => newT ds
  | .tup ds => pur (.tup ds)
  | _ => bad
def intsD : List D → Option (List Int)
  | [] => some []
  | .int i :: ds => (intsD ds).map (i :: ·)
  | _ => none
def boolsD : List D → Option (List Bool)
  | [] => some []
  | .bl i :: ds => (boolsD ds).map (i :: ·)
  | _ => none
def optI (o : Option Int) : ME := match o with
  | some i => pur (.int i)
  | none => bad
def optB (o : Option Bool) : ME := match o with
  | some i => pur (.bl i)
  | none => bad
def dSum : D → ME
  | .lst ds => optI ((intsD ds).map List.sum)
  | _ => bad
def dAll : D → ME
  | .lst ds => optB ((boolsD ds).map fun l => l.all id)
  | _ => bad
def dAny : D → ME
  | .lst ds => optB ((boolsD ds).map fun l => l.any id)
  | _ => bad
def maxI : List Int → Option Int
  | [] => none
  | i :: l => some (l.foldl (fun a j => if j > a then j else a) i)
def minI : List Int → Option Int
  | [] => none
  | i :: l => some (l.foldl (fun a j => if j < a then j else a) i)
def dMax1 : D → ME
  | .lst ds => optI ((intsD ds).bind maxI)
  | _ => bad
def dMin1 : D → ME
  | .lst ds => optI ((intsD ds).bind minI)
  | _ => bad
def dMax2 : List D → ME
  | [.int i, .int j] => pur (.int (if j > i then j else i))
  | _ => bad
def dMin2 : List D → ME
  | [.int i, .int j] => pur (.int (if j < i then j else i))
  | _ => bad
def dGcd : List D → ME
  | [.int i, .int j] => pur (.int ((Nat.gcd i.natAbs j.natAbs : Nat) : Int))
  | _ => bad

section
variable {K : PySem.W.Frag} {H : Hp} {O : Addr → Prop} {b : List Addr}
theorem ints_ats : ∀ {ds : List D} {vs : List V} {ns : List Int}, Ats K H O b ds vs → intsD ds = some ns → vs = ns.map V.int
  | [], vs, ns, q, e => by rw [show vs = [] from q]; cases e; rfl
  | d :: ds, vs, ns, ⟨y, ys, e, q, r⟩, h => by
    cases d with
    | int i =>
      obtain ⟨ms, h1, h2⟩ := Option.map_eq_some_iff.mp (show (intsD ds).map (i :: ·) = some ns from h)
      rw [e, ← h2, List.map_cons, ints_ats r h1, show y = _ from q]
    | _ => cases h
theorem bools_ats : ∀ {ds : List D} {vs : List V} {ns : List Bool}, Ats K H O b ds vs → boolsD ds = some ns → vs = ns.map V.bl
  | [], vs, ns, q, e => by rw [show vs = [] from q]; cases e; rfl
  | d :: ds, vs, ns, ⟨y, ys, e, q, r⟩, h => by
    cases d with
    | bl i =>
      obtain ⟨ms, h1, h2⟩ := Option.map_eq_some_iff.mp (show (boolsD ds).map (i :: ·) = some ns from h)
      rw [e, ← h2, List.map_cons, bools_ats r h1, show y = _ from q]
    | _ => cases h
theorem bor_lst {ds : List D} {v : V} (h : Bor K H O b (.lst ds) v) : ∃ a vs, v = V.ref a ∧ H a = some (.lst vs) ∧ Ats K H O b ds vs := by
  rcases h with ⟨a, vs, e, _, r, q⟩ | ⟨p, e, vs, r, q⟩
  · exact ⟨a, vs, e, r, q⟩
  · exact ⟨p, vs, e, r, q⟩
theorem bor_tup {ds : List D} {v : V} (h : Bor K H O b (.tup ds) v) : ∃ a vs, v = V.ref a ∧ H a = some (.tup vs) ∧ Ats K H O b ds vs := by
  rcases h with ⟨a, vs, e, _, r, q⟩ | ⟨p, e, z⟩
  · exact ⟨a, vs, e, r, q⟩
  · exact z.elim
theorem bor_scr {ds : List D} {v : V} (h : Bor K H O b (.scr ds) v) : ∃ a vs, v = V.ref a ∧ SqL K H a vs ∧ Ats K H O b ds vs := by
  rcases h with ⟨a, vs, e, r, q⟩ | ⟨p, e, z⟩
  · refine ⟨a, vs, e, ?_, q⟩
    rcases r with ⟨_, r⟩ | (r | r)
    · exact .inl r
    · rcases r with r | ⟨o, r⟩ <;> cases r
    · exact .inr r
  · exact z.elim
theorem bor_str {x : Str} {v : V} (h : Bor K H O b (.str x) v) : v = V.str x := by
  rcases h with h | ⟨p, e, z⟩
  · exact h
  · exact z.elim
theorem bor_int {x : Int} {v : V} (h : Bor K H O b (.int x) v) : v = V.int x := by
  rcases h with h | ⟨p, e, z⟩
  · exact h
  · exact z.elim
theorem bor_bl {x : Bool} {v : V} (h : Bor K H O b (.bl x) v) : v = V.bl x := by
  rcases h with h | ⟨p, e, z⟩
  · exact h
  · exact z.elim
theorem Atk.length : ∀ {ds : List (Key × D)} {vs : List (Key × V)}, Atk K H O b ds vs → vs.length = ds.length
  | [], _, z => by rw [show _ = [] from z]; rfl
  | (k, d) :: ds, _, ⟨y, ys, e, q, r⟩ => by rw [e, List.length_cons, List.length_cons, Atk.length r]
theorem Att.length : ∀ {ds : List (List Key × D)} {vs : List (List Key × V)}, Att K H O b ds vs → vs.length = ds.length
  | [], _, z => by rw [show _ = [] from z]; rfl
  | (k, d) :: ds, _, ⟨y, ys, e, q, r⟩ => by rw [e, List.length_cons, List.length_cons, Att.length r]
theorem bor_dic {kvs : List (Key × D)} {v : V} (h : Bor K H O b (.dic kvs) v) : ∃ a xs, v = V.ref a ∧ H a = some (.dK xs) ∧ Atk K H O b kvs xs := by
  rcases h with ⟨a, xs, e, _, r, q⟩ | ⟨p, e, xs, r, q⟩
  · exact ⟨a, xs, e, r, q⟩
  · exact ⟨p, xs, e, r, q⟩
theorem bor_dct {kvs : List (List Key × D)} {v : V} (h : Bor K H O b (.dct kvs) v) : ∃ a xs, v = V.ref a ∧ H a = some (.dT xs) ∧ Att K H O b kvs xs := by
  rcases h with ⟨a, xs, e, _, r, q⟩ | ⟨p, e, xs, r, q⟩
  · exact ⟨a, xs, e, r, q⟩
  · exact ⟨p, xs, e, r, q⟩
end
theorem maxI_spec : ∀ {ns : List Int} {m : Int}, m ∈ ns → (∀ y, y ∈ ns → y ≤ m) → maxI ns = some m
  | [], m, h, _ => by cases h
  | i :: l, m, h, hm => by
    have key : ∀ (l : List Int) (a : Int), (∀ y ∈ l, y ≤ m) → a ≤ m → (a = m ∨ m ∈ l) → l.foldl (fun a j => if j > a then j else a) a = m := by
      intro l
      induction l with
      | nil => intro a _ h1 h2; rcases h2 with h2 | h2; exact h2; cases h2
      | cons j l ih =>
        intro a h1 h2 h3
        rw [List.foldl_cons]
        have hj := h1 j List.mem_cons_self
        refine ih _ (fun y hy => h1 y (List.mem_cons_of_mem _ hy)) ?_ ?_
        · split <;> assumption
        · rcases h3 with h3 | h3
          · left; split <;> omega
          · rcases List.mem_cons.mp h3 with h3 | h3
            · left; split <;> omega
            · right; exact h3
    show some _ = some m
    rw [key l i (fun y hy => hm y (List.mem_cons_of_mem _ hy)) (hm i List.mem_cons_self) ?_]
    rcases List.mem_cons.mp h with h | h
    · left; exact h.symm
    · right; exact h
theorem minI_spec : ∀ {ns : List Int} {m : Int}, m ∈ ns → (∀ y, y ∈ ns → m ≤ y) → minI ns = some m
  | [], m, h, _ => by cases h
  | i :: l, m, h, hm => by
    have key : ∀ (l : List Int) (a : Int), (∀ y ∈ l, m ≤ y) → m ≤ a → (a = m ∨ m ∈ l) → l.foldl (fun a j => if j < a then j else a) a = m := by
      intro l
      induction l with
      | nil => intro a _ h1 h2; rcases h2 with h2 | h2; exact h2; cases h2
      | cons j l ih =>
        intro a h1 h2 h3
        rw [List.foldl_cons]
        have hj := h1 j List.mem_cons_self
        refine ih _ (fun y hy => h1 y (List.mem_cons_of_mem _ hy)) ?_ ?_
        · split <;> assumption
        · rcases h3 with h3 | h3
          · left; split <;> omega
          · rcases List.mem_cons.mp h3 with h3 | h3
            · left; split <;> omega
            · right; exact h3
    show some _ = some m
    rw [key l i (fun y hy => hm y (List.mem_cons_of_mem _ hy)) (hm i List.mem_cons_self) ?_]
    rcases List.mem_cons.mp h with h | h
    · left; exact h.symm
    · right; exact h

section
variable {X : Cx} {T : List (Addr × Str)} {W : WX} {e a c : Expr} {es : List Expr} {pos p : Pos} {x : Str} {id : String}
theorem CB1.of {fv : Value} {f : D → ME} {r : List V → Hp → VK → Prop} (h : CallR X fv r) (k : ∀ {σ : L2.St} {H : Hp} {Q : VK} {G : Gh} {O : Addr → Prop} {b : List Addr} {t : Ev} {S : Sto} {x : D} {v : V}, Rel X.K T G O b t S σ H → Bor X.K H O b x v → Post X.K T W G O b σ H (f x t S) (KD X.K G σ Q) → r [v] H Q) : CB1 X T W fv f := ⟨r, h, k⟩
theorem CBn.of {fv : Value} {f : List D → ME} {r : List V → Hp → VK → Prop} (h : CallR X fv r) (k : ∀ {σ : L2.St} {H : Hp} {Q : VK} {G : Gh} {O : Addr → Prop} {b : List Addr} {t : Ev} {S : Sto} {xs : List D} {vs : List V}, Rel X.K T G O b t S σ H → Ats X.K H O b xs vs → Post X.K T W G O b σ H (f xs t S) (KD X.K G σ Q) → r vs H Q) : CBn X T W fv f := ⟨r, h, k⟩
theorem pd_b1 {f : D → ME} {m : MB} (hc : CB1 X T W (.builtin id) f) (hg : Gl X x) (hm : X.mg x = none) (hv : bootBuiltins x = some (.builtin id)) (ha : PB X T W e m) (hn : x ≠ "__name__" := by decide) (hdb : (x == ("__debug__" : Str)) = false := by decide)
    (he : starEach (e :: []) X.env = (false, eval e X.env) :: starEach [] X.env := by rfl) : PD X T W (.Call (.Name x p) [e] [] pos) (bnd m f) := by
  obtain ⟨r, h1, h2⟩ := hc
  exact PE.imp' (pe_callB h1 hg hm hv (pa_cons ha pa_nil he) hn hdb he) fun σ H Q ⟨G, O, b, t, S, R, h⟩ =>
    useB R h fun O1 b1 x t1 S1 H1 v R1 hb1 s1 hv h3 => h2 R1 hv h3
theorem pd_t1 {f : D → ME} {m : MB} (hc : CB1 X T W (.type id) f) (hg : Gl X x) (hm : X.mg x = none) (hv : bootBuiltins x = some (.type id)) (ha : PB X T W e m) (hn : x ≠ "__name__" := by decide) (hdb : (x == ("__debug__" : Str)) = false := by decide)
    (he : starEach (e :: []) X.env = (false, eval e X.env) :: starEach [] X.env := by rfl) : PD X T W (.Call (.Name x p) [e] [] pos) (bnd m f) := by
  obtain ⟨r, h1, h2⟩ := hc
  exact PE.imp' (pe_callTy h1 hg hm hv (pa_cons ha pa_nil he) hn hdb he) fun σ H Q ⟨G, O, b, t, S, R, h⟩ =>
    useB R h fun O1 b1 x t1 S1 H1 v R1 hb1 s1 hv h3 => h2 R1 hv h3
theorem pd_bn {f : List D → ME} {m : MA} (hc : CBn X T W (.builtin id) f) (hg : Gl X x) (hm : X.mg x = none) (hv : bootBuiltins x = some (.builtin id)) (ha : PAs X T W (e :: es) m) (hn : x ≠ "__name__" := by decide) (hdb : (x == ("__debug__" : Str)) = false := by decide)
    (he : starEach (e :: es) X.env = (false, eval e X.env) :: starEach es X.env := by rfl) (hpl : (backTo pos (starEach es X.env)).any (·.1) = false := by rfl) : PD X T W (.Call (.Name x p) (e :: es) [] pos) (bnd m f) := by
  obtain ⟨r, h1, h2⟩ := hc
  exact PE.imp' (pe_callB h1 hg hm hv ha hn hdb he hpl) fun σ H Q ⟨G, O, b, t, S, R, h⟩ =>
    useA R h fun O1 b1 x t1 S1 H1 v R1 hb1 s1 hv h3 => h2 R1 hv h3
/-- a module's name for a built-in function (gcd) -/
theorem pd_bf {f : List D → ME} {m : MA} (hc : CBn X T W (.builtin id) f) (hg : Gl X x) (hm : X.mg x = some (.builtin id)) (ha : PAs X T W (e :: es) m) (hdb : (x == ("__debug__" : Str)) = false := by decide)
    (he : starEach (e :: es) X.env = (false, eval e X.env) :: starEach es X.env := by rfl) (hpl : (backTo pos (starEach es X.env)).any (·.1) = false := by rfl) : PD X T W (.Call (.Name x p) (e :: es) [] pos) (bnd m f) := by
  obtain ⟨r, h1, h2⟩ := hc
  exact PE.imp' (pe_callBfun h1 hg hm ha hdb he hpl) fun σ H Q ⟨G, O, b, t, S, R, h⟩ =>
    useA R h fun O1 b1 x t1 S1 H1 v R1 hb1 s1 hv h3 => h2 R1 hv h3
theorem cb_len : CB1 X T W (.builtin "len") dLen := by
  refine CB1.of (call_len.or (call_lenD.or call_len_dT)) fun {σ H Q G O b t S x v} R hv h => ?_
  unfold dLen at h
  split at h
  · obtain ⟨a, vs, e, r, q⟩ := bor_lst hv
    exact .inl ⟨v, _, rfl, by rw [e]; exact .inl ⟨vs, .inl (.inl r), rfl⟩, by rw [q.length]; exact endD R h rfl⟩
  · obtain ⟨a, vs, e, r, q⟩ := bor_tup hv
    exact .inl ⟨v, _, rfl, by rw [e]; exact .inr ⟨vs, .inl (.inl r), rfl⟩, by rw [q.length]; exact endD R h rfl⟩
  · rename_i y
    by_cases c : y.length ≤ lim
    · rw [if_pos c] at h
      exact .inl ⟨v, _, rfl, by rw [bor_str hv]; exact ⟨Nat.le_trans c (Nat.le_of_lt lim_lt), rfl⟩, endD R h rfl⟩
    · rw [if_neg c] at h; exact h.elim
  · obtain ⟨a, xs, e, r, q⟩ := bor_dic hv
    exact .inr (.inl ⟨a, xs, by rw [e], r, by rw [q.length]; exact endD R h rfl⟩)
  · obtain ⟨a, xs, e, r, q⟩ := bor_dct hv
    exact .inr (.inr ⟨a, xs, by rw [e], r, by rw [q.length]; exact endD R h rfl⟩)
  · exact h.elim
theorem cb_abs : CB1 X T W (.builtin "abs") dAbs := by
  refine CB1.of call_abs fun {σ H Q G O b t S x v} R hv h => ?_
  unfold dAbs at h
  split at h
  · exact ⟨_, by rw [bor_int hv], endD R h rfl⟩
  · exact h.elim
theorem cb_int : CB1 X T W (.type "int") dInt := by
  refine CB1.of call_int1 fun {σ H Q G O b t S x v} R hv h => ?_
  unfold dInt at h
  split at h
  · exact .inl ⟨_, by rw [bor_int hv], endD R h rfl⟩
  · exact .inr ⟨_, by rw [bor_bl hv], endD R h rfl⟩
  · exact h.elim
theorem cb_list : CB1 X T W (.type "list") dList := by
  refine CB1.of call_list_of fun {σ H Q G O b t S x v} R hv h => ?_
  unfold dList at h
  split at h
  · obtain ⟨a, vs, e, r, q⟩ := bor_lst hv
    exact ⟨a, vs, by rw [e], .inl (.inl (.inl r)), (newL_end R q h).2⟩
  · obtain ⟨a, vs, e, r, q⟩ := bor_tup hv
    exact ⟨a, vs, by rw [e], .inr (.inl (.inl r)), (newL_end R q h).2⟩
  · obtain ⟨a, vs, e, r, q⟩ := bor_scr hv
    exact ⟨a, vs, by rw [e], .inl r, (newL_end R q h).2⟩
  · exact h.elim
theorem cb_tuple : CB1 X T W (.type "tuple") dTuple := by
  refine CB1.of call_tuple_of fun {σ H Q G O b t S x v} R hv h => ?_
  unfold dTuple at h
  split at h
  · obtain ⟨a, vs, e, r, q⟩ := bor_lst hv
    exact ⟨a, vs, by rw [e], .inl ⟨.inl (.inl r), (newT_end R q h).2⟩⟩
  · obtain ⟨a, vs, e, r, q⟩ := bor_tup hv
    refine ⟨a, vs, by rw [e], .inr ⟨.inl (.inl r), ?_⟩⟩
    rw [← e]
    rcases hv with hv | ⟨p, e, z⟩
    · exact endD R h hv
    · exact z.elim
  · exact h.elim
theorem cb_sum (hc : X.calm = true) : CB1 X T W (.builtin "sum") dSum := by
  refine CB1.of (cr_sum hc) fun {σ H Q G O b t S x v} R hv h => ?_
  unfold dSum at h
  split at h
  · rename_i ds
    obtain ⟨a, vs, e, r, q⟩ := bor_lst hv
    cases en : intsD ds with
    | none => rw [en] at h; exact h.elim
    | some ns =>
      rw [en] at h
      have ev := ints_ats q en
      subst ev
      exact ⟨a, ns, by rw [e], .inl (.inl r), endD R h rfl⟩
  · exact h.elim
theorem cb_all (hc : X.calm = true) : CB1 X T W (.builtin "all") dAll := by
  refine CB1.of (cr_all hc) fun {σ H Q G O b t S x v} R hv h => ?_
  unfold dAll at h
  split at h
  · rename_i ds
    obtain ⟨a, vs, e, r, q⟩ := bor_lst hv
    cases en : boolsD ds with
    | none => rw [en] at h; exact h.elim
    | some ns =>
      rw [en] at h
      have ev := bools_ats q en
      subst ev
      exact ⟨a, ns, by rw [e], .inl (.inl r), endD R h rfl⟩
  · exact h.elim
theorem cb_any (hc : X.calm = true) : CB1 X T W (.builtin "any") dAny := by
  refine CB1.of (cr_any hc) fun {σ H Q G O b t S x v} R hv h => ?_
  unfold dAny at h
  split at h
  · rename_i ds
    obtain ⟨a, vs, e, r, q⟩ := bor_lst hv
    cases en : boolsD ds with
    | none => rw [en] at h; exact h.elim
    | some ns =>
      rw [en] at h
      have ev := bools_ats q en
      subst ev
      exact ⟨a, ns, by rw [e], .inl (.inl r), endD R h rfl⟩
  · exact h.elim
theorem cb_max1 (hc : X.calm = true) : CB1 X T W (.builtin "max") dMax1 := by
  refine CB1.of (cr_max hc) fun {σ H Q G O b t S x v} R hv h => ?_
  unfold dMax1 at h
  split at h
  · rename_i ds
    obtain ⟨a, vs, e, r, q⟩ := bor_lst hv
    cases en : intsD ds with
    | none => rw [en] at h; exact h.elim
    | some ns =>
      rw [en] at h
      have ev := ints_ats q en
      subst ev
      refine ⟨a, ns, by rw [e], .inl (.inl r), ?_, fun m hm hle => ?_⟩
      · cases ns with
        | nil => exact h.elim
        | cons _ _ => simp
      · rw [show (some ns).bind maxI = some m from maxI_spec hm hle] at h
        exact endD R h rfl
  · exact h.elim
theorem cb_min1 (hc : X.calm = true) : CB1 X T W (.builtin "min") dMin1 := by
  refine CB1.of (cr_min hc) fun {σ H Q G O b t S x v} R hv h => ?_
  unfold dMin1 at h
  split at h
  · rename_i ds
    obtain ⟨a, vs, e, r, q⟩ := bor_lst hv
    cases en : intsD ds with
    | none => rw [en] at h; exact h.elim
    | some ns =>
      rw [en] at h
      have ev := ints_ats q en
      subst ev
      refine ⟨a, ns, by rw [e], .inl (.inl r), ?_, fun m hm hle => ?_⟩
      · cases ns with
        | nil => exact h.elim
        | cons _ _ => simp
      · rw [show (some ns).bind minI = some m from minI_spec hm hle] at h
        exact endD R h rfl
  · exact h.elim
theorem ats2 {K : PySem.W.Frag} {H : Hp} {O : Addr → Prop} {b : List Addr} {d e : D} {vs : List V} (h : Ats K H O b [d, e] vs) : ∃ v w, vs = [v, w] ∧ At K H O b d v ∧ At K H O b e w := by
  obtain ⟨v, r, e1, q, w, r2, e2, q2, e3⟩ := h
  exact ⟨v, w, by rw [e1, e2, e3], q, q2⟩
theorem cb_max2 (hc : X.calm = true) : CBn X T W (.builtin "max") dMax2 := by
  refine CBn.of (call_max2 hc) fun {σ H Q G O b t S x v} R hv h => ?_
  unfold dMax2 at h
  split at h
  · obtain ⟨v, w, e, h1, h2⟩ := ats2 hv
    exact ⟨_, _, by rw [e, show v = _ from h1, show w = _ from h2], endD R h rfl⟩
  · exact h.elim
theorem cb_min2 (hc : X.calm = true) : CBn X T W (.builtin "min") dMin2 := by
  refine CBn.of (call_min2 hc) fun {σ H Q G O b t S x v} R hv h => ?_
  unfold dMin2 at h
  split at h
  · obtain ⟨v, w, e, h1, h2⟩ := ats2 hv
    exact ⟨_, _, by rw [e, show v = _ from h1, show w = _ from h2], endD R h rfl⟩
  · exact h.elim
theorem cb_gcd : CBn X T W (.builtin "math.gcd") dGcd := by
  refine CBn.of cr_gcd fun {σ H Q G O b t S x v} R hv h => ?_
  unfold dGcd at h
  split at h
  · obtain ⟨v, w, e, h1, h2⟩ := ats2 hv
    exact ⟨_, _, by rw [e, show v = _ from h1, show w = _ from h2], endD R h rfl⟩
  · exact h.elim

/-! ### isinstance -/
inductive Cl where
  | int | bool | list | tuple | dict | str
def Cl.name : Cl → String
  | .int => "int"
  | .bool => "bool"
  | .list => "list"
  | .tuple => "tuple"
  | .dict => "dict"
  | .str => "str"
inductive Kd where
  | non | bl | int | str | lst | tup | dic | fn
def Kd.name : Kd → String
  | .non => "NoneType"
  | .bl => "bool"
  | .int => "int"
  | .str => "str"
  | .lst => "list"
  | .tup => "tuple"
  | .dic => "dict"
  | .fn => "function"
def kd : D → Option Kd
  | .non => some .non
  | .bl _ => some .bl
  | .int _ => some .int
  | .str _ => some .str
  | .lst _ => some .lst
  | .tup _ => some .tup
  | .dic _ => some .dic
  | .dct _ => some .dic
  | .gl _ => some .fn
  | _ => none
def isK : Kd → Cl → Bool
  | .bl, .bool => true
  | .bl, .int => true
  | .int, .int => true
  | .str, .str => true
  | .lst, .list => true
  | .tup, .tuple => true
  | .dic, .dict => true
  | _, _ => false
theorem isK_kit {K : PySem.W.Frag} (k : Kd) (c : Cl) : PySem.W.kitOne K (.type k.name) (.type c.name) = some (isK k c) := by
  refine kit_ty ?_
  cases k <;> cases c <;> decide +kernel
theorem kd_ty {H : Hp} {O : Addr → Prop} {b : List Addr} {K : PySem.W.Frag} {d : D} {v : V} {n : Kd} (h : kd d = some n) (hv : Bor K H O b d v) : TyF K H v (.type n.name) := by
  cases d with
  | gl x =>
    cases h
    rcases hv with ⟨e, hv⟩ | ⟨_, _, z⟩
    · exact .inr ⟨_, e, rfl, hv⟩
    · exact z.elim
  | non => cases h; rcases hv with hv | ⟨_, _, z⟩; rw [show v = _ from hv]; exact .inl (.base .non); exact z.elim
  | bl _ => cases h; rw [bor_bl hv]; exact .inl (.base (.bl _))
  | int _ => cases h; rw [bor_int hv]; exact .inl (.base (.int _))
  | str _ => cases h; rw [bor_str hv]; exact .inl (.base (.str _))
  | lst _ => cases h; obtain ⟨a, vs, e, r, q⟩ := bor_lst hv; rw [e]; exact .inl (.base (.lst r))
  | tup _ => cases h; obtain ⟨a, vs, e, r, q⟩ := bor_tup hv; rw [e]; exact .inl (.base (.tup r))
  | dic _ => cases h; obtain ⟨a, xs, e, r, q⟩ := bor_dic hv; rw [e]; exact .inl (.base (.dK r))
  | dct _ => cases h; obtain ⟨a, xs, e, r, q⟩ := bor_dct hv; rw [e]; exact .inl (.base (.dT r))
  | _ => cases h
def dIsi (c : Cl) (d : D) : ME := optB ((kd d).map fun k => isK k c)
def dIsiT (cs : List Cl) (d : D) : ME := optB ((kd d).map fun k => cs.any (isK k))
theorem pd_isi {k : Cl} {y : Str} {m : MB} {p2 : Pos} (hg : Gl X "isinstance") (hm : X.mg "isinstance" = none) (ha : PB X T W e m) (hg2 : Gl X y) (hm2 : X.mg y = none) (hb : bootBuiltins y = some (.type k.name)) (hn2 : y ≠ "__name__" := by decide) (hd2 : (y == ("__debug__" : Str)) = false := by decide)
    (he : starEach (e :: [.Name y p2]) X.env = (false, eval e X.env) :: starEach [.Name y p2] X.env := by rfl) (he2 : starEach ([.Name y p2]) X.env = (false, eval (.Name y p2) X.env) :: starEach [] X.env := by rfl) : PD X T W (.Call (.Name "isinstance" p) [e, .Name y p2] [] pos) (bnd m (dIsi k)) := by
  refine PE.imp' (pe_callB call_isiF hg hm (by decide +kernel) (pa_cons ha (pa_cons (pe_bltn (v := V.ty k.name) hg2 hm2 hb rfl hn2 hd2) pa_nil he2) he) (he := he) (hpl := by rw [he2]; rfl)) fun σ H Q ⟨G, O, b, t, S, R, h⟩ => ?_
  refine useB R h fun O1 b1 x t1 S1 H1 v R1 hb1 s1 hv h3 => ?_
  unfold dIsi at h3
  cases en : kd x with
  | none => rw [en] at h3; exact h3.elim
  | some n =>
    rw [en] at h3
    exact ⟨v, V.ty k.name, .type n.name, .type k.name, _, rfl, .ty _, kd_ty en hv, isK_kit n k, endD R1 h3 rfl⟩
/-- the classes that are written -/
inductive Clss (X : Cx) : List Expr → List Cl → Prop
  | nil : Clss X [] []
  | cons {y : Str} {p : Pos} {k : Cl} {es : List Expr} {ks : List Cl} (hg : Gl X y) (hm : X.mg y = none) (hb : bootBuiltins y = some (.type k.name)) (hn : y ≠ "__name__") (hd : (y == ("__debug__" : Str)) = false) (hs : starEach (.Name y p :: es) X.env = (false, eval (.Name y p) X.env) :: starEach es X.env) (r : Clss X es ks) : Clss X (.Name y p :: es) (k :: ks)
theorem Clss.pa {es : List Expr} {ks : List Cl} (h : Clss X es ks) : PA X es (fun _ H Q => Q (ks.map fun k => V.ty k.name) H) := by
  induction h with
  | nil => exact pa_nil
  | @cons y p k es ks hg hm hb hn hd hs r ih => exact PA.imp' (pa_cons (pe_bltn (v := V.ty k.name) hg hm hb rfl hn hd) ih hs) fun σ H Q h => h
theorem clss_kit {K : PySem.W.Frag} (n : Kd) : ∀ cs : List Cl, PySem.W.kitAny K (.type n.name) (cs.map fun k => .type k.name) = some (cs.any (isK n))
  | [] => rfl
  | c :: cs => by
    rw [List.map_cons]
    refine kitAny_cons (isK_kit n c) (fun e => ?_) fun e => ?_
    · rw [clss_kit n cs, List.any_cons, e, Bool.false_or]
    · rw [List.any_cons, e, Bool.true_or]
theorem cl_paired : ∀ ks : List Cl, Paired ClsV (ks.map fun k => V.ty k.name) (ks.map fun k => Value.type k.name)
  | [] => .nil
  | k :: ks => .cons (.ty _) (cl_paired ks)
theorem pd_isiT {ks : List Cl} {m : MB} {es : List Expr} {x1 : Nat} {p2 : Pos} (hg : Gl X "isinstance") (hm : X.mg "isinstance" = none) (ha : PB X T W e m) (hk : Clss X es ks)
    (he : starEach (e :: [.Tuple es x1 p2]) X.env = (false, eval e X.env) :: starEach [.Tuple es x1 p2] X.env := by rfl) (he2 : starEach ([.Tuple es x1 p2]) X.env = (false, eval (.Tuple es x1 p2) X.env) :: starEach [] X.env := by rfl) (hl : ks.length ≤ 10 := by decide) : PD X T W (.Call (.Name "isinstance" p) [e, .Tuple es x1 p2] [] pos) (bnd m (dIsiT ks)) := by
  refine PE.imp' (pe_callB call_isiTF hg hm (by decide +kernel) (pa_cons ha (pa_cons (pe_tup hk.pa) pa_nil he2) he) (he := he) (hpl := by rw [he2]; rfl)) fun σ H Q ⟨G, O, b, t, S, R, h⟩ => ?_
  refine useB R h fun O1 b1 x t1 S1 H1 v R1 hb1 s1 hv h3 => ⟨by rw [List.length_map, sizeLine_eq]; omega, fun q hq => ?_⟩
  obtain ⟨R2, s2⟩ := R1.new hq (nt_tup (xs := ks.map fun k => V.ty k.name))
  have hv2 : Bor X.K (upd H1 q (.tup (ks.map fun k => V.ty k.name))) O1 b1 x v := by
    rcases hv with hv | ⟨p, e, hv⟩
    · exact .inl (hv.mono s2 (List.prefix_refl _))
    · exact .inr ⟨p, e, hv.mono s2 (List.prefix_refl _) fun o e _ => by rw [upd_ne (ne_of_none e hq)]; exact e⟩
  have h4 := h3.later (List.prefix_refl _) s2
  unfold dIsiT at h4
  cases en : kd x with
  | none => rw [en] at h4; exact h4.elim
  | some n =>
    rw [en] at h4
    exact ⟨v, q, ks.map fun k => V.ty k.name, .type n.name, ks.map fun k => .type k.name, _, rfl, upd_same, cl_paired ks, kd_ty en hv2, clss_kit n ks, endD R2 h4 rfl⟩
end
end TD

set_option Elab.async false
set_option linter.all false
set_option maxRecDepth 100000
set_option maxHeartbeats 1000000
set_option autoImplicit false
namespace TD
open PySem PySem.Spec PyProof.Rows L2

/-! ### defs -/
def spT (K : PySem.W.Frag) (T : List (Addr × Str)) (F : Fn) (n : Nat) : Sp := fun vs H Q E => vs.length = n ∧ ∃ O b S ds, Rel K T ⟨H, O, b, []⟩ O b [] S [] H ∧ Ats K H O b ds vs ∧
  (match F ds S with
  | .ok d f S' => ∀ (v : V) (H' : Hp) (O' : Addr → Prop) (b' : List Addr), Rel K T ⟨H, O, b, []⟩ O' b' [] S' [] H' → Val K ⟨H, O, b, []⟩ O' b' [] [] H' v (d, f) → Q v H'
  | .ex c fs S' => ∀ (H' : Hp) (O' : Addr → Prop) (b' : List Addr) (d : Addr) (xs : List (Str × V)), Rel K T ⟨H, O, b, []⟩ O' b' [] S' [] H' → H' d = some (.xd xs) → Atf K H' O' b' fs xs → E (.ref (He.ga K c)) (some d) H'
  | .bad => False)
/-- a def of the module that computes F -/
structure Def (P : Program) (w : World) (K : PySem.W.Frag) (mg : Str → Option Value) (base : Heap) (T : List (Addr × Str)) (x : Str) (ps : List Str) (F : Fn) (k : Nat) : Prop where
  ok : ∃ fd, FnOk P w K mg base (L2.CX P w) k (He.ga K x) fd ps (spT K T F ps.length) ∧ Binds K fd ps []
  gl : mg x = some (.ref (He.ga K x))
  kp : PySem.W.keepIn K (.ref (He.ga K x)) = true
def call (F : Fn) (ds : List D) : ME := fun t S => match F ds S with
  | .ok d f S' => .ok (d, f) t S'
  | .ex c fs S' => .ex c fs t S'
  | .bad => .bad
section
variable {K : PySem.W.Frag} {T : List (Addr × Str)} {W : WX} {G : Gh} {O : Addr → Prop} {b : List Addr} {t : Ev} {S : Sto} {σ : L2.St} {H : Hp}
/-- what stands fresh at a callee's end is fresh for the caller -/
theorem Val.out {O' : Addr → Prop} {b' : List Addr} {S' : Sto} {H' : Hp} {v : V} {x : D × Bool} (R : Rel K T G O b t S σ H) (R1 : Rel K T ⟨H, O, b, []⟩ O' b' [] S' [] H') (h : Val K ⟨H, O, b, []⟩ O' b' [] [] H' v x) : Val K G O' b' t σ H' v x := by
  rcases h with h | ⟨e, p, ev, h⟩
  · exact .inl h
  · refine .inr ⟨e, p, ev, h.o, h.own, R.grow p h.fr, fun i q w z => ?_, h.nb, fun q hq z => ?_⟩
    subst z
    obtain ⟨⟨d, e1⟩, e2⟩ := w
    obtain ⟨o, e3, r, e4, h1, h2⟩ := R.sl i _ e1
    rw [e2] at e3
    cases e3; cases e4
    obtain ⟨u, e5, n5⟩ := h2.there
    exact (h.fr : Fr H q) u e5 n5
    obtain ⟨e6, n6, _⟩ := R.tmp q hq
    rw [z] at e6
    exact (h.fr : Fr H p) _ e6 n6
theorem sp_of {F : Fn} {n : Nat} {ds : List D} {vs : List V} {Q : VK} {E : XK} (R : Rel K T G O b t S σ H) (hv : Ats K H O b ds vs) (hn : ds.length = n) (h : Post K T W G O b σ H (call F ds t S) (KD K G σ Q)) (hE : ∀ cls d H', W cls d σ H' → E cls d H') : spT K T F n vs H Q E := by
  refine ⟨by rw [hv.length, hn], O, b, S, ds, R.self, hv, ?_⟩
  unfold call at h
  cases e : F ds S with
  | ok d f S' =>
    rw [e] at h
    exact fun v H' O' b' R1 hv1 => h H' O' b' (R.step R1) R1.pre (R.stays R1) v (Val.out R R1 hv1)
  | ex c fs S' =>
    rw [e] at h
    exact fun H' O' b' d xs R1 hd hf => hE _ _ _ (h H' O' b' d xs (R.step R1) R1.pre (R.stays R1) hd hf)
  | bad => rw [e] at h; exact h
end
section
variable {X : Cx} {T : List (Addr × Str)} {W : WX} {e a c : Expr} {es : List Expr} {pos p : Pos} {x : Str}
def chkLen (n : Nat) (F : Fn) : Fn := fun ds S => if ds.length = n then F ds S else .bad
/-- f(e, ..) -/
theorem pd_call {ps : List Str} {F : Fn} {k : Nat} {m : MA} (D : Def X.prog X.w X.K X.mg X.base T x ps F k) (hr : Room k X.A) (tk : Takes X W) (ha : PAs X T W (e :: es) m) (hl : ∀ t S ds t' S', m t S = .ok ds t' S' → ds.length = ps.length) (hg : Gl X x := by rfl)
    (hdb : (x == ("__debug__" : Str)) = false := by decide) (he : starEach (e :: es) X.env = (false, eval e X.env) :: starEach es X.env := by rfl) (hpl : (backTo pos (starEach es X.env)).any (·.1) = false := by rfl) :
    PD X T W (.Call (.Name x p) (e :: es) [] pos) (bnd m (call F)) := by
  obtain ⟨fd, G1, B⟩ := D.ok
  refine PE.imp' (pe_callS G1 hr hg D.gl D.kp B (fun σ => passAt tk σ) ha hdb he hpl) fun σ H Q ⟨G, O, b, t, S, R, h⟩ => ?_
  have h0 := Post.bnd h
  refine ⟨G, O, b, t, S, R, ?_⟩
  revert h0
  cases em : m t S with
  | ok ds t' S' => exact fun h0 H' O' b' R' hb hs vs hvs => sp_of R' hvs (hl t S ds t' S' em) (h0 H' O' b' R' hb hs) fun _ _ _ z => z
  | ex cc fs t' S' => exact fun h0 => h0
  | bad => exact fun h0 => h0
end
theorem alen_nil : ∀ t S ds t' S', aNil t S = .ok ds t' S' → ds.length = 0 := fun t S ds t' S' h => by cases h; rfl
theorem alen_cons {m : ME} {r : MA} {n : Nat} (hr : ∀ t S ds t' S', r t S = .ok ds t' S' → ds.length = n) : ∀ t S ds t' S', aCons m r t S = .ok ds t' S' → ds.length = n + 1 := fun t S ds t' S' h => by
  unfold aCons eb bnd at h
  cases e : m t S with
  | ok x t1 S1 =>
    rw [e] at h
    cases e2 : r t1 S1 with
    | ok ys t2 S2 =>
      simp only [e2] at h
      cases h
      rw [List.length_cons, hr _ _ _ _ _ e2]
    | ex _ _ _ _ => simp only [e2] at h; cases h
    | bad => simp only [e2] at h; cases h
  | ex _ _ _ _ => rw [e] at h; cases h
  | bad => rw [e] at h; cases h

/-! ### statements -/
def sSeq (m r : MS) : MS := bnd m fun f => match f with
  | .nx => r
  | f => ret f
def sNx : MS := ret .nx
def sRet (m : ME) : MS := bnd m fun x => ret (.rt x.1 x.2)
def sRetN : MS := ret (.rt .non false)
def sIf (c : MT) (a b : MS) : MS := bnd c fun x => if x = true then a else b
def sExpr (m : ME) : MS := bnd m fun _ => ret .nx
/-- x = e -/
def sSet (i : Nat) (m : ME) : MS := bnd m fun x => fun t S => .ok .nx (t.set i (if x.2 = true then .ow x.1 else .sh x.1)) S
def sBk : MS := ret .bk
def sCt : MS := ret .ct
section
variable {X : Cx} {T : List (Addr × Str)} {W : WX} {e a c : Expr} {es : List Expr} {pos p : Pos} {st : Stmt} {sts sts' : List Stmt}
theorem PostS.here {G : Gh} {O : Addr → Prop} {b : List Addr} {t : Ev} {S : Sto} {σ : L2.St} {H : Hp} {Dn : Ends} (R : Rel X.K T G O b t S σ H) (h : PostS X.K T W G O b H (.ok .nx t S) Dn) : Dn.nx σ H := h σ H O b R (List.prefix_refl _) (Stays.refl _ _)
theorem pbk_nil : PBk X T W [] sNx := PSs.imp' pss_nil fun Dn σ H ⟨G, O, b, t, S, R, h⟩ => PostS.here R h
theorem pbk_cons {m r : MS} (h1 : PSt X T W st m) (h2 : PBk X T W sts r) : PBk X T W (st :: sts) (sSeq m r) := by
  refine PSs.imp' (pss_cons h1 h2) fun Dn σ H ⟨G, O, b, t, S, R, h⟩ => ⟨G, O, b, t, S, R, ?_⟩
  unfold sSeq bnd at h
  revert h
  cases m t S with
  | ok f t' S' =>
    cases f with
    | nx => exact fun h s' H' O' b' R' hb hs => ⟨G, O', b', t', S', R', h.later hb hs⟩
    | rt d f => exact fun h => h
    | bk => exact fun h => h
    | ct => exact fun h => h
  | ex cc fs t' S' => exact fun h => h
  | bad => exact fun h => h
theorem pbk_one {m : MS} (h1 : PSt X T W st m) : PBk X T W [st] m := pss_one h1
theorem pst_pass : PSt X T W (.Pass pos) sNx := PS.imp' ps_pass fun Dn σ H ⟨G, O, b, t, S, R, h⟩ => PostS.here R h
theorem pst_break : PSt X T W (.Break pos) sBk := PS.imp' ps_break fun Dn σ H ⟨G, O, b, t, S, R, h⟩ => h σ H O b R (List.prefix_refl _) (Stays.refl _ _)
theorem pst_continue : PSt X T W (.Continue pos) sCt := PS.imp' ps_continue fun Dn σ H ⟨G, O, b, t, S, R, h⟩ => h σ H O b R (List.prefix_refl _) (Stays.refl _ _)
theorem pst_expr {m : ME} (he : PD X T W e m) (hs : swapsWith e none pos.line X.env = pure false := by rfl) : PSt X T W (.Expr e pos) (sExpr m) := by
  refine PS.imp' (ps_expr he hs) fun Dn σ H ⟨G, O, b, t, S, R, h⟩ => ⟨G, O, b, t, S, R, ?_⟩
  exact (PostS.bnd (σ := σ) h).imp fun O' b' x t' S' H' R' hb hs h' v hv => PostS.here R' h'
theorem pst_ret {m : ME} (he : PD X T W e m) : PSt X T W (.Return (some e) pos) (sRet m) := by
  refine PS.imp' (ps_ret he) fun Dn σ H ⟨G, O, b, t, S, R, h⟩ => ⟨G, O, b, t, S, R, ?_⟩
  exact (PostS.bnd (σ := σ) h).imp fun O' b' x t' S' H' R' hb hs h' v hv => h' v σ H' O' b' R' (List.prefix_refl _) (Stays.refl _ _) hv
theorem pst_retN : PSt X T W (.Return none pos) sRetN := PS.imp' ps_retN fun Dn σ H ⟨G, O, b, t, S, R, h⟩ => h .non σ H O b R (List.prefix_refl _) (Stays.refl _ _) (.inl ⟨rfl, rfl⟩)
theorem pst_if {mc : MT} {ma mb : MS} (hc : PC X T W c mc) (ha : PBk X T W sts ma) (hb : PBk X T W sts' mb) : PSt X T W (.If c sts sts' pos) (sIf mc ma mb) := by
  refine PS.imp' (ps_if hc ha hb) fun Dn σ H ⟨G, O, b, t, S, R, h⟩ => ⟨G, O, b, t, S, R, ?_⟩
  refine (PostS.bnd (σ := σ) h).imp fun O' b' x t' S' H' R' hb hs h' => ?_
  cases x with
  | true => rw [if_pos rfl] at h' ⊢; exact ⟨G, O', b', t', S', R', h'⟩
  | false => rw [if_neg Bool.false_ne_true] at h' ⊢; exact ⟨G, O', b', t', S', R', h'⟩
theorem set_end {G : Gh} {O : Addr → Prop} {b : List Addr} {t : Ev} {S : Sto} {σ : L2.St} {H : Hp} {i : Nat} {x : D × Bool} {v : V} (R : Rel X.K T G O b t S σ H) (hv : Val X.K G O b t σ H v x) : Rel X.K T G O b (t.set i (if x.2 = true then .ow x.1 else .sh x.1)) S (σ.set i (some v)) H := by
  rcases hv with ⟨e, h⟩ | ⟨e, q, ev, h⟩
  · rw [e, if_neg Bool.false_ne_true]
    exact R.put ⟨v, rfl, h⟩ fun d q z => by cases z
  · rw [e, if_pos rfl, ev]
    exact R.put ⟨q, rfl, h.o, h.own⟩ fun d r z1 z2 => by
      cases z1; cases z2
      exact ⟨h.fr, h.nb, fun j q _ w => h.ns j q w, h.nq⟩
theorem pst_set {i : Nat} {x : Str} {m : ME} {pos' : Pos} (hN : X.N.Nodup) (hi : X.N[i]? = some x) (hx : Loc X.env.scope x) (he : PD X T W e m) (hs : swapsWith e (some (.Name x pos')) pos.line X.env = pure false := by rfl) (hf : X.fn x = true ∨ X.env.scope.names.lookup x = some .local := by first | exact .inl rfl | exact .inr rfl | assumption) : PSt X T W (.Assign [.Name x pos'] e pos) (sSet i m) := by
  refine PS.imp' (ps_set hN hi hx he hs hf) fun Dn σ H ⟨G, O, b, t, S, R, h⟩ => ⟨G, O, b, t, S, R, ?_⟩
  exact (PostS.bnd (σ := σ) h).imp fun O' b' x t' S' H' R' hb hs h' v hv => h' _ H' O' b' (set_end R' hv) (List.prefix_refl _) (Stays.refl _ _)
/-- a, b = e1, e2: two local names -/
def sPar (i j : Nat) (m r : ME) : MS := eb m fun x => eb r fun y => fun t S => .ok .nx ((t.set i (.sh x)).set j (.sh y)) S
theorem pst_par {i j : Nat} {x y : Str} {m r : ME} {px py pt : Pos} {kt k2 : Nat} {pt2 : Pos} (hc : X.calm = true) (hN : X.N.Nodup) (hi : X.N[i]? = some x) (hj : X.N[j]? = some y) (hij : i ≠ j)
    (hx : X.env.scope.names.lookup x = some .local) (hy : X.env.scope.names.lookup y = some .local) (ha : PD X T W a m) (hd : PD X T W c r)
    (hw : swappedStores [.Tuple [.Name x px, .Name y py] kt pt] (.Tuple [a, c] k2 pt2) X.env = pure (some [x, y])) (h1 : starEach [a, c] X.env = (false, eval a X.env) :: starEach [c] X.env := by rfl) (h2 : starEach [c] X.env = (false, eval c X.env) :: starEach [] X.env := by rfl)
    (hs : swapsWithSole [.Tuple [.Name x px, .Name y py] kt pt] (.Tuple [a, c] k2 pt2) pos.line X.env = pure false := by rfl) :
    PSt X T W (.Assign [.Tuple [.Name x px, .Name y py] kt pt] (.Tuple [a, c] k2 pt2) pos) (sPar i j m r) := by
  refine PS.imp' (ps_par hc hN hi hj hij hx hy (pa_cons ha (pa_cons hd pa_nil h2) h1) hw hs) fun Dn σ H ⟨G, O, b, t, S, R, h⟩ => ?_
  have h0 := PostS.bnd (σ := σ) h
  refine ⟨G, O, b, t, S, R, h0.imp fun O' b' x t' S' H' R' hb hs h' v hv => ?_⟩
  obtain ⟨O2, R2, s2, a2⟩ := R'.share hv
  have h3 := PostS.bnd (σ := σ) (h'.later (List.prefix_refl _) s2)
  refine ⟨G, O2, b', t', S', R2, h3.imp fun O3 b3 y t3 S3 H3 R3 hb3 s3 h4 w hw => ?_⟩
  obtain ⟨O4, R4, s4, a4⟩ := R3.share hw
  refine ⟨v, w, rfl, h4 _ H3 O4 b3 ?_ (List.prefix_refl _) s4⟩
  have R5 := R4.put (i := i) (s := .sh x.1) (v := some v) ⟨v, rfl, (a2.mono s3 hb3).mono s4 (List.prefix_refl _)⟩ fun d q z => by cases z
  exact R5.put (i := j) (s := .sh y.1) (v := some w) ⟨w, rfl, a4⟩ fun d q z => by cases z
end
end TD

set_option Elab.async false
set_option linter.all false
set_option maxRecDepth 100000
set_option maxHeartbeats 1000000
set_option autoImplicit false
namespace TD
open PySem PySem.Spec PyProof.Rows L2

/-! ### targets -/
abbrev MG := D → Ev → Option Ev
def gNm (i : Nat) : MG := fun d t => some (t.set i (.sh d))
def gNil : List D → Ev → Option Ev
  | [], t => some t
  | _, _ => none
def gCons (f : MG) (r : List D → Ev → Option Ev) : List D → Ev → Option Ev
  | d :: ds, t => (f d t).bind (r ds)
  | [], _ => none
def gTp (r : List D → Ev → Option Ev) : MG := fun d t => match d with
  | .tup ds => r ds t
  | .lst ds => r ds t
  | _ => none
def asg (f : MG) (d : D) : M Unit := fun t S => match f d t with
  | some t' => .ok () t' S
  | none => .bad
/-- what is wanted behind a store: the slots at is may have changed -/
def PostG (K : PySem.W.Frag) (T : List (Addr × Str)) (G : Gh) (O : Addr → Prop) (b : List Addr) (is : List Nat) (S : Sto) (σ : L2.St) (H : Hp) (r : Option Ev) (Q : L2.St → Hp → Prop) : Prop :=
  match r with
  | some t' => ∀ σ' : L2.St, Rel K T G O b t' S σ' H → σ'.length = σ.length → (∀ j, j ∉ is → σ'[j]? = σ[j]?) → Q σ' H
  | none => False
def PGt (X : Cx) (T : List (Addr × Str)) (tg : Expr) (is : List Nat) (f : MG) : Prop := ∃ g, PG X tg g ∧ ∀ {σ : L2.St} {H : Hp} {Q : L2.St → Hp → Prop} {G : Gh} {O : Addr → Prop} {b : List Addr} {t : Ev} {S : Sto} {d : D} {v : V},
  Rel X.K T G O b t S σ H → At X.K H O b d v → PostG X.K T G O b is S σ H (f d t) Q → g v σ H Q
def PGts (X : Cx) (T : List (Addr × Str)) (ts : List Expr) (is : List Nat) (f : List D → Ev → Option Ev) (n : Nat) : Prop := ∃ g, PGs X ts g ∧ (∀ ds t t', f ds t = some t' → ds.length = n) ∧ ∀ {σ : L2.St} {H : Hp} {Q : L2.St → Hp → Prop} {G : Gh} {O : Addr → Prop} {b : List Addr} {t : Ev} {S : Sto} {ds : List D} {vs : List V},
  Rel X.K T G O b t S σ H → Ats X.K H O b ds vs → PostG X.K T G O b is S σ H (f ds t) Q → g vs σ H Q
section
variable {X : Cx} {T : List (Addr × Str)} {W : WX} {pos : Pos}
theorem pg_nm {i : Nat} {x : Str} (hN : X.N.Nodup) (hi : X.N[i]? = some x) (hx : Loc X.env.scope x) (hf : X.fn x = true ∨ X.env.scope.names.lookup x = some .local := by first | exact .inl rfl | exact .inr rfl | assumption) : PGt X T (.Name x pos) [i] (gNm i) := by
  refine ⟨_, pg_name hN hi hx hf, fun {σ H Q G O b t S d v} R hv h => ?_⟩
  have R1 := R.put (i := i) (s := .sh d) (v := some v) ⟨v, rfl, hv⟩ fun d q z => by cases z
  exact h _ R1 (by rw [List.length_set]) fun j hj => List.getElem?_set_ne (fun z => hj (by rw [z]; exact List.mem_singleton_self _))
theorem pgts_nil : PGts X T [] [] gNil 0 := by
  refine ⟨_, pgs_nil, fun ds t t' h => ?_, fun {σ H Q G O b t S ds vs} R hv h => ?_⟩
  · cases ds with
    | nil => rfl
    | cons d ds => cases h
  cases ds with
  | nil => exact ⟨hv, h σ R rfl fun _ _ => rfl⟩
  | cons d ds => exact h.elim
theorem pgts_cons {e : Expr} {es : List Expr} {is js : List Nat} {f : MG} {r : List D → Ev → Option Ev} {n : Nat} (h1 : PGt X T e is f) (h2 : PGts X T es js r n)
    (hs : (assignEach (e :: es) X.env).map (·.2) = assign e X.env :: (assignEach es X.env).map (·.2) := by rfl) : PGts X T (e :: es) (is ++ js) (gCons f r) (n + 1) := by
  obtain ⟨g1, p1, k1⟩ := h1
  obtain ⟨g2, p2, l2, k2⟩ := h2
  refine ⟨_, pgs_cons p1 p2 hs, fun ds t t' h => ?_, fun {σ H Q G O b t S ds vs} R hv h => ?_⟩
  · cases ds with
    | nil => cases h
    | cons d ds =>
      obtain ⟨t1, _, e2⟩ := Option.bind_eq_some_iff.mp (show (f d t).bind (r ds) = some t' from h)
      rw [List.length_cons, l2 ds t1 t' e2]
  cases ds with
  | nil => exact h.elim
  | cons d ds =>
    obtain ⟨v, vr, e1, q1, q2⟩ := hv
    refine ⟨v, vr, e1, k1 R q1 ?_⟩
    have h' : PostG X.K T G O b (is ++ js) S σ H ((f d t).bind (r ds)) Q := h
    cases e2 : f d t with
    | none => rw [e2] at h'; exact h'.elim
    | some t1 =>
      rw [e2] at h'
      intro σ1 R1 hl1 he1
      refine k2 R1 q2 ?_
      have h3 : PostG X.K T G O b (is ++ js) S σ H (r ds t1) Q := h'
      cases e3 : r ds t1 with
      | none => rw [e3] at h3; exact h3.elim
      | some t2 =>
        rw [e3] at h3
        exact fun σ2 R2 hl2 he2 => h3 σ2 R2 (hl2.trans hl1) fun j hj => (he2 j fun z => hj (List.mem_append_right _ z)).trans (he1 j fun z => hj (List.mem_append_left _ z))
/-- two rules for one target: by what comes -/
theorem pg_or {tg : Expr} {g g' : TG} (h : PG X tg g) (h' : PG X tg g') : PG X tg (fun v σ H Q => g v σ H Q ∨ g' v σ H Q) :=
  ⟨fun pins s σ H v u Q I r q => q.elim (fun q => h.run pins s σ H v u Q I r q) fun q => h'.run pins s σ H v u Q I r q⟩
theorem pg_tp {es : List Expr} {k : Nat} {is : List Nat} {r : List D → Ev → Option Ev} {n : Nat} (hc : X.calm = true) (h : PGts X T es is r n) (hn : (assignEach es X.env).length = n := by rfl) (hst : (assignEach es X.env).findIdx? (·.1) = none := by rfl) : PGt X T (.Tuple es k pos) is (gTp r) := by
  obtain ⟨g, p, hl, q⟩ := h
  refine ⟨_, pg_or (pg_tup hc p hn hst) (pg_unl hc p hn hst), fun {σ H Q G O b t S d v} R hv h => ?_⟩
  have lens : ∀ ds, PostG X.K T G O b is S σ H (r ds t) Q → ds.length = n := fun ds h => by
    cases e : r ds t with
    | some t' => exact hl ds t t' e
    | none => rw [e] at h; exact h.elim
  unfold gTp at h
  split at h
  · rename_i ds
    obtain ⟨a, vs, e, o, r1, q1⟩ := hv
    exact .inl ⟨a, vs, e, .inl (.inl r1), by rw [q1.length]; exact lens ds h, q R q1 h⟩
  · rename_i ds
    obtain ⟨a, vs, e, o, r1, q1⟩ := hv
    exact .inr ⟨a, vs, e, .inl (.inl r1), by rw [q1.length]; exact lens ds h, q R q1 h⟩
  · exact h.elim
end
section
variable {X : Cx} {T : List (Addr × Str)} {W : WX} {e : Expr} {pos : Pos}
/-- target = e -/
def sAsg (m : ME) (f : MG) : MS := eb m fun d => bnd (asg f d) fun _ => ret .nx
theorem pst_asg {tg : Expr} {is : List Nat} {m : ME} {f : MG} (he : PD X T W e m) (hg : PGt X T tg is f) (hs : swapsWithSole [tg] e pos.line X.env = pure false := by rfl) (hw : swappedStores [tg] e X.env = pure none := by rfl)
    (h1 : (assignEach [tg] X.env).map (·.2) = [assign tg X.env] := by rfl) : PSt X T W (.Assign [tg] e pos) (sAsg m f) := by
  obtain ⟨g, p, q⟩ := hg
  refine PS.imp' (ps_asg he p hs hw h1) fun Dn σ H ⟨G, O, b, t, S, R, h⟩ => ?_
  have h0 := PostS.bnd (σ := σ) h
  refine ⟨G, O, b, t, S, R, h0.imp fun O' b' x t' S' H' R' hb hs h' v hv => ?_⟩
  obtain ⟨O2, R2, s2, a2⟩ := R'.share hv
  refine q R2 a2 ?_
  have h3 : PostS X.K T W G O2 b' H' (bnd (asg f x.1) (fun _ => ret .nx) t' S') Dn := PostS.later h' (List.prefix_refl _) s2
  unfold bnd asg at h3
  cases ef : f x.1 t' with
  | some t3 =>
    rw [ef] at h3
    exact fun σ3 R3 _ _ => PostS.here (W := W) R3 h3
  | none => rw [ef] at h3; exact h3.elim
end

/-! ### equal trees -/
mutual
def beqD : D → D → Bool
  | .non, .non => true
  | .bl a, .bl b => decide (a = b)
  | .int a, .int b => decide (a = b)
  | .str a, .str b => decide (a = b)
  | .ty a, .ty b => decide (a = b)
  | .gl a, .gl b => decide (a = b)
  | .lst a, .lst b => beqDs a b
  | .tup a, .tup b => beqDs a b
  | .box a, .box b => decide (a = b)
  | _, _ => false
def beqDs : List D → List D → Bool
  | [], [] => true
  | x :: xs, y :: ys => beqD x y && beqDs xs ys
  | _, _ => false
end
mutual
theorem beqD_eq : ∀ {x y : D}, beqD x y = true → x = y
  | .non, y, h => by cases y <;> first | rfl | exact absurd h (by simp [beqD])
  | .bl a, y, h => by cases y <;> first | (rw [of_decide_eq_true (show decide (_ = _) = true from h)]) | exact absurd h (by simp [beqD])
  | .int a, y, h => by cases y <;> first | (rw [of_decide_eq_true (show decide (_ = _) = true from h)]) | exact absurd h (by simp [beqD])
  | .str a, y, h => by cases y <;> first | (rw [of_decide_eq_true (show decide (_ = _) = true from h)]) | exact absurd h (by simp [beqD])
  | .ty a, y, h => by cases y <;> first | (rw [of_decide_eq_true (show decide (_ = _) = true from h)]) | exact absurd h (by simp [beqD])
  | .gl a, y, h => by cases y <;> first | (rw [of_decide_eq_true (show decide (_ = _) = true from h)]) | exact absurd h (by simp [beqD])
  | .box a, y, h => by cases y <;> first | (rw [of_decide_eq_true (show decide (_ = _) = true from h)]) | exact absurd h (by simp [beqD])
  | .lst a, y, h => by cases y <;> first | (rw [beqDs_eq (show beqDs a _ = true from h)]) | exact absurd h (by simp [beqD])
  | .tup a, y, h => by cases y <;> first | (rw [beqDs_eq (show beqDs a _ = true from h)]) | exact absurd h (by simp [beqD])
  | .dic a, y, h => by cases y <;> exact absurd h (by simp [beqD])
  | .dct a, y, h => by cases y <;> exact absurd h (by simp [beqD])
  | .ins a b, y, h => by cases y <;> exact absurd h (by simp [beqD])
  | .scr a, y, h => by cases y <;> exact absurd h (by simp [beqD])
theorem beqDs_eq : ∀ {xs ys : List D}, beqDs xs ys = true → xs = ys
  | [], ys, h => by cases ys with
    | nil => rfl
    | cons y ys => exact absurd h (by simp [beqDs])
  | x :: xs, ys, h => by cases ys with
    | nil => exact absurd h (by simp [beqDs])
    | cons y ys =>
      have h' : (beqD x y && beqDs xs ys) = true := h
      rw [Bool.and_eq_true] at h'
      rw [beqD_eq h'.1, beqDs_eq h'.2]
end
/-- boxes whose content must stay as it is -/
abbrev Anc := List (Nat × D)
def ancB (l : Anc) (S : Sto) : Bool := l.all fun q => match S[q.1]? with
  | some d => beqD d q.2
  | none => false
theorem ancB_ok {l : Anc} {S : Sto} (h : ancB l S = true) : ∀ q ∈ l, S[q.1]? = some q.2 := fun q hq => by
  have := List.all_eq_true.mp h q hq
  split at this
  · rename_i d e
    rw [e, beqD_eq this]
  · cases this
/-- how they stand in the heap -/
def AncAt (K : PySem.W.Frag) (H : Hp) (O : Addr → Prop) (b : List Addr) (l : Anc) : Prop := ∀ q ∈ l, ∃ p, b[q.1]? = some p ∧ Own K H O b q.2 p
theorem anc_at {K : PySem.W.Frag} {T : List (Addr × Str)} {G : Gh} {O : Addr → Prop} {b : List Addr} {t : Ev} {S : Sto} {σ : L2.St} {H : Hp} {l : Anc} (R : Rel K T G O b t S σ H) (h : ancB l S = true) : AncAt K H O b l := fun q hq => by
  have e := ancB_ok h q hq
  have hl : q.1 < b.length := by rw [R.bl]; exact (List.getElem?_eq_some_iff.mp e).1
  exact ⟨b[q.1], by simp [hl], (R.st q.1 q.2 b[q.1] e (by simp [hl])).2⟩

/-! ### what is walked -/
abbrev Itm := List D × Anc
/-- J walks the things ds, whatever is done meanwhile to what is not locked (but for the boxes l) -/
def Wk (K : PySem.W.Frag) (J : It) (H : Hp) (O : Addr → Prop) (b : List Addr) (ds : List D) (l : Anc) : Prop := ∀ (i : Nat) (H' : Hp) (O' : Addr → Prop) (b' : List Addr), Stays H O H' O' → b <+: b' → AncAt K H' O' b' l →
  (i = ds.length → J.stop i H') ∧ ∀ d, ds[i]? = some d → J.go i H' ∧ ∀ x H'', J.yld i H' x H'' → (H'' = H' ∧ At K H' O' b' d x) ∨ ∃ p o, H' p = none ∧ nt o ∧ H'' = upd H' p o ∧ ((∀ a, O' a → ∃ u, H' a = some u) → At K H'' O' b' d x)
abbrev MI := M Itm
def PIt (X : Cx) (T : List (Addr × Str)) (W : WX) (tg iter : Expr) (m : MI) : Prop := ∃ wi, PI X tg iter wi ∧ ∀ {σ : L2.St} {H : Hp} {Rr : It → Hp → Prop} {G : Gh} {O : Addr → Prop} {b : List Addr} {t : Ev} {S : Sto},
  Rel X.K T G O b t S σ H → Post X.K T W G O b σ H (m t S) (fun O' b' ds _ _ H' => ∀ J, Wk X.K J H' O' b' ds.1 ds.2 → Rr J H') → wi σ H Rr
def retI (ds : List D) : MI := ret (ds, [])
def dSeq : D → MI
  | .lst ds => retI ds
  | .tup ds => retI ds
  | _ => bad
theorem pi_or {X : Cx} {tg iter : Expr} {w w' : TI} (h : PI X tg iter w) (h' : PI X tg iter w') : PI X tg iter (fun σ H R => w σ H R ∨ w' σ H R) :=
  ⟨fun pins s σ H R I q => q.elim (fun q => h.run pins s σ H R I q) fun q => h'.run pins s σ H R I q⟩
section
variable {X : Cx} {T : List (Addr × Str)} {W : WX} {e a c tg : Expr} {pos p : Pos}
theorem wk_list {K : PySem.W.Frag} {H : Hp} {O : Addr → Prop} {b : List Addr} {ds : List D} {a : Addr} {vs : List V} (o : ¬ O a) (r : H a = some (.lst vs)) (q : Ats K H O b ds vs) : Wk K (Itl K a) H O b ds [] := fun i H' O' b' hs hb _ => by
  have r' : SqL K H' a vs := .inl (.inl (hs _ _ r nt_lst o).1)
  have q' := q.mono hs hb
  refine ⟨fun e => ⟨vs, r', by rw [q.length]; omega⟩, fun d hd => ?_⟩
  obtain ⟨v, h1, h2⟩ := q'.get hd
  refine ⟨⟨vs, v, r', h1⟩, fun x H'' y => ?_⟩
  obtain ⟨e1, e2⟩ := y
  have := e2 vs r'
  rw [h1] at this
  cases this
  exact .inl ⟨e1, h2⟩
theorem wk_tup {K : PySem.W.Frag} {H : Hp} {O : Addr → Prop} {b : List Addr} {ds : List D} {a : Addr} {vs : List V} (o : ¬ O a) (r : H a = some (.tup vs)) (q : Ats K H O b ds vs) : Wk K (Itt K a) H O b ds [] := fun i H' O' b' hs hb _ => by
  have r' : SqT K H' a vs := .inl (.inl (hs _ _ r nt_tup o).1)
  have q' := q.mono hs hb
  refine ⟨fun e => ⟨vs, r', by rw [q.length]; omega⟩, fun d hd => ?_⟩
  obtain ⟨v, h1, h2⟩ := q'.get hd
  refine ⟨⟨vs, v, r', h1⟩, fun x H'' y => ?_⟩
  obtain ⟨e1, e2⟩ := y
  have := e2 vs r'
  rw [h1] at this
  cases this
  exact .inl ⟨e1, h2⟩
theorem pit_seq {m : ME} (h : PD X T W e m) : PIt X T W tg e (eb m dSeq) := by
  refine ⟨_, pi_or (pi_list h) (pi_tup h), fun {σ H Rr G O b t S} R hh => ?_⟩
  have h0 := Post.bnd hh
  -- by what comes
  cases em : m t S with
  | ok x t' S' =>
    rw [em] at h0
    obtain ⟨x1, x2⟩ := x
    have key : (∀ (v : V) (H' : Hp) (O' : Addr → Prop) (b' : List Addr), Rel X.K T G O' b' t' S' σ H' → b <+: b' → Stays H O H' O' → At X.K H' O' b' x1 v → ∃ a, v = V.ref a ∧ (∃ xs, SqL X.K H' a xs) ∧ Rr (Itl X.K a) H') ∨
        (∀ (v : V) (H' : Hp) (O' : Addr → Prop) (b' : List Addr), Rel X.K T G O' b' t' S' σ H' → b <+: b' → Stays H O H' O' → At X.K H' O' b' x1 v → ∃ a, v = V.ref a ∧ (∃ xs, SqT X.K H' a xs) ∧ Rr (Itt X.K a) H') := by
      cases x1 with
      | lst ds =>
        refine .inl fun v H' O' b' R' hb hs hv => ?_
        obtain ⟨a, vs, e, o, r, q⟩ := hv
        exact ⟨a, e, ⟨vs, .inl (.inl r)⟩, Post.here ((h0 H' O' b' R' hb hs)) R' _ (wk_list o r q)⟩
      | tup ds =>
        refine .inr fun v H' O' b' R' hb hs hv => ?_
        obtain ⟨a, vs, e, o, r, q⟩ := hv
        exact ⟨a, e, ⟨vs, .inl (.inl r)⟩, Post.here ((h0 H' O' b' R' hb hs)) R' _ (wk_tup o r q)⟩
      | _ => exact .inl fun v H' O' b' R' hb hs hv => (h0 H' O' b' R' hb hs).elim
    rcases key with key | key
    · refine .inl ⟨G, O, b, t, S, R, ?_⟩
      rw [em]
      intro H' O' b' R' hb hs v hv
      obtain ⟨O2, R2, s2, a2⟩ := R'.share hv
      exact key v H' O2 b' R2 hb (hs.trans s2) a2
    · refine .inr ⟨G, O, b, t, S, R, ?_⟩
      rw [em]
      intro H' O' b' R' hb hs v hv
      obtain ⟨O2, R2, s2, a2⟩ := R'.share hv
      exact key v H' O2 b' R2 hb (hs.trans s2) a2
  | ex cc fs t' S' =>
    rw [em] at h0
    exact .inl ⟨G, O, b, t, S, R, by rw [em]; exact h0⟩
  | bad => rw [em] at h0; exact h0.elim
def rng (lo : Int) (n : Nat) : List D := (List.range n).map fun i => D.int (lo + (i : Nat))
theorem wk_range {K : PySem.W.Frag} {H : Hp} {O : Addr → Prop} {b : List Addr} {lo : Int} {n : Nat} : Wk K (Itr lo n) H O b (rng lo n) [] := fun i H' O' b' hs hb _ => by
  refine ⟨fun e => ?_, fun d hd => ?_⟩
  · rw [e, rng, List.length_map, List.length_range]; exact Nat.le_refl _
  · have hi : i < n := by
      have := (List.getElem?_eq_some_iff.mp hd).1
      rw [rng, List.length_map, List.length_range] at this; exact this
    refine ⟨hi, fun x H'' y => ?_⟩
    obtain ⟨e1, e2⟩ := y
    refine .inl ⟨e1, ?_⟩
    have : d = .int (lo + (i : Nat)) := by
      rw [rng, List.getElem?_map, List.getElem?_range hi] at hd
      exact (Option.some.inj hd).symm
    rw [this]; exact e2
def dRng1 : List D → MI
  | [.int j] => if -1000000000 ≤ j ∧ j ≤ 1000000000 then retI (rng 0 j.toNat) else bad
  | _ => bad
def dRng2 : List D → MI
  | [.int i, .int j] => if (-1000000000 ≤ i ∧ i ≤ 1000000000) ∧ -1000000000 ≤ j ∧ j ≤ 1000000000 then retI (rng i (j - i).toNat) else bad
  | _ => bad
theorem pit_range1 {m : MA} (hg : Gl X "range") (hm : X.mg "range" = none) (ha : PAs X T W [a] m) (hs : starEach [a] X.env = [(false, eval a X.env)] := by rfl) : PIt X T W tg (.Call (.Name "range" p) [a] [] pos) (bnd m dRng1) := by
  refine ⟨_, pi_range1 hg hm ha hs, fun {σ H Rr G O b t S} R hh => ?_⟩
  refine useA R hh fun O1 b1 ds t1 S1 H1 vs R1 hb1 s1 hv h1 => ?_
  unfold dRng1 at h1
  split at h1
  · rename_i j
    obtain ⟨y, ys, e, q, e2⟩ := hv
    by_cases c : -1000000000 ≤ j ∧ j ≤ 1000000000
    · rw [if_pos c] at h1
      exact ⟨j, by rw [e, e2, show y = _ from q], by omega, by omega, Post.here h1 R1 _ wk_range⟩
    · rw [if_neg c] at h1; exact h1.elim
  · exact h1.elim
theorem pit_range2 {m : MA} (hg : Gl X "range") (hm : X.mg "range" = none) (ha : PAs X T W [a, c] m) (hs : starEach [a, c] X.env = [(false, eval a X.env), (false, eval c X.env)] := by rfl) (hs2 : starEach [c] X.env = [(false, eval c X.env)] := by rfl) : PIt X T W tg (.Call (.Name "range" p) [a, c] [] pos) (bnd m dRng2) := by
  refine ⟨_, pi_range2 hg hm ha hs hs2, fun {σ H Rr G O b t S} R hh => ?_⟩
  refine useA R hh fun O1 b1 ds t1 S1 H1 vs R1 hb1 s1 hv h1 => ?_
  unfold dRng2 at h1
  split at h1
  · rename_i i j
    obtain ⟨v, w, e, q1, q2⟩ := ats2 hv
    by_cases c : (-1000000000 ≤ i ∧ i ≤ 1000000000) ∧ -1000000000 ≤ j ∧ j ≤ 1000000000
    · rw [if_pos c] at h1
      exact ⟨i, j, by rw [e, show v = _ from q1, show w = _ from q2], by omega, Post.here h1 R1 _ wk_range⟩
    · rw [if_neg c] at h1; exact h1.elim
  · exact h1.elim

/-! ### for -/
def loop (f : MG) (body : MS) (l : Anc) : List D → MS
  | [] => fun t S => if ancB l S = true then .ok .nx t S else .bad
  | d :: ds => fun t S => if ancB l S = true then bnd (asg f d) (fun _ => bnd body fun fl => match fl with
    | .bk => ret .nx
    | .rt d f => ret (.rt d f)
    | _ => loop f body l ds) t S else .bad
def sFor (m : MI) (f : MG) (body : MS) : MS := bnd m fun ds => loop f body ds.2 ds.1
theorem pst_for {iter : Expr} {body : List Stmt} {m : MI} {f : MG} {is : List Nat} {mb : MS} (hp : PassesOwn (model X.prog X.w) X.A X.env X.xe) (hc : X.calm = true) (hi : PIt X T W tg iter m) (hg : PGt X T tg is f) (hb : PBk X T W body mb)
    (hs : ∀ x, foldedSetIterable iter X.env x = pure x := by intro _; rfl) : PSt X T W (.For tg iter body [] pos) (sFor m f mb) := by
  obtain ⟨wi, p1, k1⟩ := hi
  obtain ⟨g, p2, k2⟩ := hg
  refine PS.imp' (ps_for hp hc p1 p2 hb hs) fun Dn σ H ⟨G, O, b, t, S, R, h⟩ => ?_
  refine k1 R ((PostS.bnd (σ := σ) h).imp fun O' b' itm t' S' H' R' hb hs h' J hJ => ?_)
  obtain ⟨ds, l⟩ := itm
  refine ⟨fun i n σ H => n = ds.length - i ∧ i ≤ ds.length ∧ ∃ O2 b2 t2 S2, Rel X.K T G O2 b2 t2 S2 σ H ∧ b' <+: b2 ∧ Stays H' O' H O2 ∧ PostS X.K T W G O2 b2 H (loop f mb l (ds.drop i) t2 S2) Dn, ⟨_, rfl, Nat.zero_le _, O', b', t', S', R', List.prefix_refl _, Stays.refl _ _, h'⟩, ?_⟩
  rintro i n σ2 H2 ⟨rfl, hle, O2, b2, t2, S2, R2, hb2, hs2, h2⟩
  by_cases hlt : i < ds.length
  · rw [List.drop_eq_getElem_cons hlt] at h2
    have h2 : PostS X.K T W G O2 b2 H2 (if ancB l S2 = true then bnd (asg f ds[i]) (fun _ => bnd mb fun fl => match fl with
        | .bk => ret .nx
        | .rt d f => ret (.rt d f)
        | _ => loop f mb l (ds.drop (i + 1))) t2 S2 else .bad) Dn := h2
    refine Classical.byCases (p := ancB l S2 = true) (fun anc => ?_) fun anc => by rw [if_neg anc] at h2; exact h2.elim
    rw [if_pos anc] at h2
    obtain ⟨w1, w2⟩ := hJ i H2 O2 b2 hs2 hb2 (anc_at R2 anc)
    obtain ⟨g1, g2⟩ := w2 ds[i] (by simp [hlt])
    refine .inr ⟨g1, fun σ3 H3 => ∃ O3 b3 t3 S3, Rel X.K T G O3 b3 t3 S3 σ3 H3 ∧ b' <+: b3 ∧ Stays H' O' H3 O3 ∧ PostS X.K T W G O3 b3 H3 (loop f mb l (ds.drop (i + 1)) t3 S3) Dn, fun σ3 H3 q => ⟨ds.length - (i + 1), by omega, rfl, hlt, q⟩, fun x H3 y => ?_⟩
    have key : ∀ (Rx : Rel X.K T G O2 b2 t2 S2 σ2 H3) (sx : Stays H2 O2 H3 O2) (hx : At X.K H3 O2 b2 ds[i] x), g x σ2 H3 fun σ3 H4 => tS X.K T W mb { Dn with nx := fun σ3 H3 => ∃ O3 b3 t3 S3, Rel X.K T G O3 b3 t3 S3 σ3 H3 ∧ b' <+: b3 ∧ Stays H' O' H3 O3 ∧ PostS X.K T W G O3 b3 H3 (loop f mb l (ds.drop (i + 1)) t3 S3) Dn, ct := fun σ3 H3 => ∃ O3 b3 t3 S3, Rel X.K T G O3 b3 t3 S3 σ3 H3 ∧ b' <+: b3 ∧ Stays H' O' H3 O3 ∧ PostS X.K T W G O3 b3 H3 (loop f mb l (ds.drop (i + 1)) t3 S3) Dn, bk := Dn.nx } σ3 H4 := fun Rx sx hx => by
      refine k2 Rx hx ?_
      have h4 := PostS.later h2 (List.prefix_refl b2) sx
      unfold bnd asg at h4
      cases ef : f ds[i] t2 with
      | none => rw [ef] at h4; exact h4.elim
      | some t3 =>
        rw [ef] at h4
        intro σ3 R3 _ _
        refine ⟨G, O2, b2, t3, S2, R3, ?_⟩
        revert h4
        cases em : mb t3 S2 with
        | ok fl t4 S4 =>
          intro h4
          simp only [em] at h4
          cases fl with
          | nx => exact fun σ5 H5 O5 b5 R5 hb5 hs5 => ⟨O5, b5, t4, S4, R5, hb2.trans hb5, (hs2.trans sx).trans hs5, PostS.later h4 hb5 hs5⟩
          | ct => exact fun σ5 H5 O5 b5 R5 hb5 hs5 => ⟨O5, b5, t4, S4, R5, hb2.trans hb5, (hs2.trans sx).trans hs5, PostS.later h4 hb5 hs5⟩
          | bk => exact fun σ5 H5 O5 b5 R5 hb5 hs5 => h4 σ5 H5 O5 b5 R5 hb5 hs5
          | rt d ff => exact h4
        | ex cc fs t4 S4 => intro h4; simp only [em] at h4; exact h4
        | bad => intro h4; simp only [em] at h4; exact h4
    rcases g2 x H3 y with ⟨e1, hx⟩ | ⟨q, o, hq, hn, e1, hx⟩
    · subst e1; exact key R2 (Stays.refl _ _) hx
    · subst e1
      obtain ⟨Rx, sx⟩ := R2.new hq hn
      exact key Rx sx (hx fun a z => let ⟨u, e, _⟩ := R2.ot a z; ⟨u, e⟩)
  · have e : i = ds.length := by omega
    subst e
    rw [List.drop_length] at h2
    have h2 : PostS X.K T W G O2 b2 H2 (if ancB l S2 = true then .ok .nx t2 S2 else .bad) Dn := h2
    refine Classical.byCases (p := ancB l S2 = true) (fun anc => ?_) fun anc => by rw [if_neg anc] at h2; exact h2.elim
    rw [if_pos anc] at h2
    exact .inl ⟨(hJ ds.length H2 O2 b2 hs2 hb2 (anc_at R2 anc)).1 rfl, PostS.here (W := W) R2 h2⟩
end
end TD

set_option Elab.async false
set_option linter.all false
set_option maxRecDepth 100000
set_option maxHeartbeats 1000000
set_option autoImplicit false
namespace TD
open PySem PySem.Spec PyProof.Rows L2

section
variable {K : PySem.W.Frag} {T : List (Addr × Str)} {G : Gh} {O O' : Addr → Prop} {b b' : List Addr} {t t' t2 : Ev} {S S' : Sto} {σ σ' : L2.St} {H H' : Hp}
/-- the slots told anew: each as before, or shared -/
theorem Rel.reslot (R : Rel K T G O b t S σ H) (hl : t2.length = σ'.length) (hs : ∀ (i : Nat) (s : Slot), t2[i]? = some s → (t[i]? = some s ∧ σ[i]? = σ'[i]?) ∨ ((∀ d, s ≠ .ow d) ∧ ∃ o, σ'[i]? = some o ∧ SlotOk K H O b s o)) : Rel K T G O b t2 S σ' H := by
  have q : ∀ {j : Nat} {p : Addr}, OwAt t2 σ' j p → OwAt t σ j p := fun {j p} h => by
    obtain ⟨⟨d, e1⟩, e2⟩ := h
    rcases hs j _ e1 with ⟨h1, h2⟩ | ⟨h1, _⟩
    · exact ⟨⟨d, h1⟩, h2.trans e2⟩
    · exact absurd rfl (h1 d)
  refine ⟨hl, fun i s e => ?_, fun j k p h1 h2 => R.inj j k p (q h1) (q h2), fun j p h => R.nb j p (q h), fun j p h => R.fr j p (q h), R.bl, R.st, R.bnd, R.bfr, R.ext, R.grow, R.pre, R.o0, R.o0t, R.ot, R.ofr, R.b0, R.tabs, fun x hx => let ⟨h1, h2, h3, h4, h5⟩ := R.tmp x hx; ⟨h1, h2, h3, fun j w => h4 j (q w), h5⟩⟩
  rcases hs i s e with ⟨h1, h2⟩ | ⟨_, h⟩
  · obtain ⟨o, e1, z⟩ := R.sl i s h1
    exact ⟨o, h2 ▸ e1, z⟩
  · exact h
/-- a container of nobody else's is set aside, as it stands -/
theorem Rel.push (R : Rel K T G O b t S σ H) {p : Addr} {d : D} {o : HO} (h : Tmp K G O b t σ H d p) (e : H p = some o) (hn : nt o) : Rel K T { G with tm := (p, o) :: G.tm } O b t S σ H := by
  refine ⟨R.len, R.sl, R.inj, R.nb, R.fr, R.bl, R.st, R.bnd, R.bfr, R.ext, R.grow, R.pre, R.o0, R.o0t, R.ot, R.ofr, R.b0, R.tabs, fun q hq => ?_⟩
  rcases List.mem_cons.mp hq with z | z
  · rw [z]; exact ⟨e, hn, h.o, fun i w => h.ns i p w rfl, h.nb, h.fr⟩
  · exact R.tmp q z
theorem Rel.pop {p : Addr} {o : HO} (R : Rel K T { G with tm := (p, o) :: G.tm } O b t S σ H) (hq : ∀ q ∈ G.tm, q.1 ≠ p) : Rel K T G O b t S σ H ∧ H p = some o ∧ ∀ d, Own K H O b d p → Tmp K G O b t σ H d p := by
  obtain ⟨h1, h2, h3, h4, h5, h6⟩ := R.tmp (p, o) List.mem_cons_self
  refine ⟨⟨R.len, R.sl, R.inj, R.nb, R.fr, R.bl, R.st, R.bnd, R.bfr, R.ext, R.grow, R.pre, R.o0, R.o0t, R.ot, R.ofr, R.b0, R.tabs, fun q z => R.tmp q (List.mem_cons_of_mem _ z)⟩, h1, fun d hd => ⟨h3, hd, h6, fun i q w z => ?_, h5, hq⟩⟩
  exact h4 i (z ▸ w)
end

/-! ### slots of a comprehension's block -/
def clr (vs : List Nat) (t : Ev) : Ev := vs.foldr (fun v t => t.set v .no) t
def shOf : Option Slot → Slot
  | some (.sh d) => .sh d
  | _ => .no
def back (vs : List Nat) (t0 t : Ev) : Ev := vs.foldr (fun v t => t.set v (shOf t0[v]?)) t
theorem clr_len (t : Ev) : ∀ vs : List Nat, (clr vs t).length = t.length
  | [] => rfl
  | v :: vs => by show ((clr vs t).set v .no).length = _; rw [List.length_set, clr_len t vs]
theorem back_len (t0 t : Ev) : ∀ vs : List Nat, (back vs t0 t).length = t.length
  | [] => rfl
  | v :: vs => by show ((back vs t0 t).set v _).length = _; rw [List.length_set, back_len t0 t vs]
theorem clr_get {t : Ev} {i : Nat} {s : Slot} : ∀ {vs : List Nat}, (clr vs t)[i]? = some s → (i ∈ vs ∧ s = .no) ∨ (i ∉ vs ∧ t[i]? = some s)
  | [], h => .inr ⟨by simp, h⟩
  | v :: vs, h => by
    have h : ((clr vs t).set v .no)[i]? = some s := h
    by_cases e : v = i
    · subst e
      have hl : v < (clr vs t).length := by
        have := (List.getElem?_eq_some_iff.mp h).1
        rw [List.length_set] at this; exact this
      rw [List.getElem?_set_self hl] at h
      exact .inl ⟨List.mem_cons_self, (Option.some.inj h).symm⟩
    · rw [List.getElem?_set_ne e] at h
      rcases clr_get h with ⟨h1, h2⟩ | ⟨h1, h2⟩
      · exact .inl ⟨List.mem_cons_of_mem _ h1, h2⟩
      · exact .inr ⟨by simp only [List.mem_cons, not_or]; exact ⟨fun z => e z.symm, h1⟩, h2⟩
theorem back_get {t0 t : Ev} {i : Nat} {s : Slot} : ∀ {vs : List Nat}, (back vs t0 t)[i]? = some s → (i ∈ vs ∧ s = shOf t0[i]?) ∨ (i ∉ vs ∧ t[i]? = some s)
  | [], h => .inr ⟨by simp, h⟩
  | v :: vs, h => by
    have h : ((back vs t0 t).set v (shOf t0[v]?))[i]? = some s := h
    by_cases e : v = i
    · subst e
      have hl : v < (back vs t0 t).length := by
        have := (List.getElem?_eq_some_iff.mp h).1
        rw [List.length_set] at this; exact this
      rw [List.getElem?_set_self hl] at h
      exact .inl ⟨List.mem_cons_self, (Option.some.inj h).symm⟩
    · rw [List.getElem?_set_ne e] at h
      rcases back_get h with ⟨h1, h2⟩ | ⟨h1, h2⟩
      · exact .inl ⟨List.mem_cons_of_mem _ h1, h2⟩
      · exact .inr ⟨by simp only [List.mem_cons, not_or]; exact ⟨fun z => e z.symm, h1⟩, h2⟩
theorem wipe_in {σ : L2.St} {i : Nat} : ∀ {vs : List Nat}, i ∈ vs → i < σ.length → (wipe σ vs)[i]? = some none
  | v :: vs, h, hl => by
    unfold wipe
    by_cases e : v = i
    · subst e; exact List.getElem?_set_self (by rw [wipe_length]; exact hl)
    · rw [List.getElem?_set_ne e]
      exact wipe_in ((List.mem_cons.mp h).resolve_left fun z => e z.symm) hl
theorem wipe_eq {σ σ2 : L2.St} {vs : List Nat} (hl : σ2.length = σ.length) (h : ∀ j, j ∉ vs → σ2[j]? = σ[j]?) : wipe σ2 vs = wipe σ vs := by
  apply List.ext_getElem?
  intro j
  by_cases m : j ∈ vs
  · by_cases l : j < σ.length
    · rw [wipe_in m (by rw [hl]; exact l), wipe_in m l]
    · rw [List.getElem?_eq_none (by rw [wipe_length, hl]; omega), List.getElem?_eq_none (by rw [wipe_length]; omega)]
  · rw [wipe_out m, wipe_out m]; exact h j m
section
variable {K : PySem.W.Frag} {T : List (Addr × Str)} {G : Gh} {O O' : Addr → Prop} {b b' : List Addr} {t t' t2 : Ev} {S S' : Sto} {σ σ' : L2.St} {H H' : Hp}
theorem Rel.wipe (R : Rel K T G O b t S σ H) (vs : List Nat) : Rel K T G O b (clr vs t) S (L2.wipe σ vs) H := by
  refine R.reslot (by rw [clr_len, wipe_length]; exact R.len) fun i s e => ?_
  have hl : i < σ.length := by
    have := (List.getElem?_eq_some_iff.mp e).1
    rw [clr_len, R.len] at this; exact this
  rcases clr_get e with ⟨h1, h2⟩ | ⟨h1, h2⟩
  · exact .inr ⟨fun d z => (by rw [h2] at z; cases z), none, wipe_in h1 hl, by rw [h2]; trivial⟩
  · exact .inl ⟨h2, (wipe_out h1).symm⟩
/-- back in the def's frame -/
theorem Rel.back (R : Rel K T G O b t S σ H) {vs : List Nat} (R1 : Rel K T G O' b' t' S' (L2.wipe σ vs) H') (hs : Stays H O H' O') (hb : b <+: b') : Rel K T G O' b' (back vs t t') S' σ H' := by
  refine R1.reslot (by rw [back_len, R1.len, wipe_length]) fun i s e => ?_
  rcases back_get e with ⟨h1, h2⟩ | ⟨h1, h2⟩
  · have hl : i < t.length := by
      have := (List.getElem?_eq_some_iff.mp e).1
      rw [back_len, R1.len, wipe_length] at this
      rw [R.len]; exact this
    refine .inr ?_
    obtain ⟨o, e1, q⟩ := R.sl i t[i] (by simp [hl])
    rw [show t[i]? = some t[i] by simp [hl]] at h2
    cases ht : t[i] with
    | sh d =>
      rw [ht] at h2 q
      obtain ⟨v, e2, q⟩ := q
      exact ⟨fun d' z => (by rw [h2] at z; cases z), o, e1, by rw [h2]; exact ⟨v, e2, q.mono hs hb⟩⟩
    | no => rw [ht] at h2; exact ⟨fun d' z => (by rw [h2] at z; cases z), o, e1, by rw [h2]; trivial⟩
    | ow d => rw [ht] at h2; exact ⟨fun d' z => (by rw [h2] at z; cases z), o, e1, by rw [h2]; trivial⟩
  · exact .inl ⟨h2, wipe_out h1⟩
end

/-! ### targets and sources, of one form -/
def gOf (K : PySem.W.Frag) (T : List (Addr × Str)) (is : List Nat) (f : MG) : TG := fun v σ H Q => ∃ G O b t S d, Rel K T G O b t S σ H ∧ At K H O b d v ∧ PostG K T G O b is S σ H (f d t) Q
theorem pgt_can {X : Cx} {T : List (Addr × Str)} {tg : Expr} {is : List Nat} {f : MG} (h : PGt X T tg is f) : PG X tg (gOf X.K T is f) := by
  obtain ⟨g, p, q⟩ := h
  exact ⟨fun pins s σ H v u Q I r ⟨G, O, b, t, S, d, R, hv, z⟩ => p.run pins s σ H v u Q I r (q R hv z)⟩
def wOf (K : PySem.W.Frag) (T : List (Addr × Str)) (W : WX) (m : MI) : TI := fun σ H Rr => ∃ G O b t S, Rel K T G O b t S σ H ∧ Post K T W G O b σ H (m t S) (fun O' b' ds _ _ H' => ∀ J, Wk K J H' O' b' ds.1 ds.2 → Rr J H')
theorem pit_can {X : Cx} {T : List (Addr × Str)} {W : WX} {tg iter : Expr} {m : MI} (h : PIt X T W tg iter m) : PI X tg iter (wOf X.K T W m) := by
  obtain ⟨w, p, q⟩ := h
  exact ⟨fun pins s σ H Rr I ⟨G, O, b, t, S, R, z⟩ => p.run pins s σ H Rr I (q R z)⟩

/-! ### comprehensions -/
abbrev W0 : WX := fun _ _ _ _ => False
theorem takes0 {X : Cx} : Takes X W0 := fun u s' h => by
  obtain ⟨a, B, sI, pins, σ, H, cls, d, e, I, nb, up, sky, na, os, ag, w⟩ := h
  exact w.elim
def lcGo (vs : List Nat) (f : MG) (c : MT) (e : ME) (l : Anc) : List D → List D → MA
  | [], acc => fun t S => if ancB l S = true then .ok acc t S else .bad
  | d :: ds, acc => fun t S => if ancB l S = true then bnd (asg f d) (fun _ => bnd c fun x => if x = true then eb e fun y => fun t S => lcGo vs f c e l ds (acc ++ [y]) (clr vs t) S else fun t S => lcGo vs f c e l ds acc (clr vs t) S) t S else .bad
def noEx {α : Type} : R α → R α
  | .ex _ _ _ _ => .bad
  | r => r
def lcL (vs : List Nat) (f : MG) (c : MT) (e : ME) (l : Anc) (ds : List D) : MA := fun t S => match lcGo vs f c e l ds [] (clr vs t) S with
  | .ok acc t' S' => .ok acc (back vs t t') S'
  | _ => .bad
def eLc (m : MI) (vs : List Nat) (f : MG) (c : MT) (e : ME) : ME := bnd m fun ds => if ds.1.length ≤ lim then bnd (lcL vs f c e ds.2 ds.1) fun acc => ret (.lst acc, true) else bad
def cYes : MT := ret true
def PTst (X : Cx) (T : List (Addr × Str)) (W : WX) (ifs : List Expr) (m : MT) : Prop := PTs X ifs (tT X.K T W m)
theorem ptst_nil {X : Cx} {T : List (Addr × Str)} {W : WX} : PTst X T W [] cYes := ⟨fun pins s σ H Q I ⟨G, O, b, t, S, R, h⟩ => pts_nil.run pins s σ H Q I (Post.here h R)⟩
theorem ptst_one {X : Cx} {T : List (Addr × Str)} {W : WX} {c : Expr} {m : MT} (h : PC X T W c m) : PTst X T W [c] m := pts_one h
section
variable {X : Cx} {T : List (Addr × Str)} {W : WX}
/-- what the runs of a comprehension need -/
theorem lc_sem {σ : L2.St} {H : Hp} {Q : VK} {G : Gh} {O : Addr → Prop} {b : List Addr} {t : Ev} {S : Sto} {mi : MI} {vs is : List Nat} {f : MG} {c : MT} {e : ME} (hsub : ∀ i ∈ is, i ∈ vs) (R : Rel X.K T G O b t S σ H) (h : Post X.K T W G O b σ H (eLc mi vs f c e t S) (KD X.K G σ Q)) :
    tLc (wOf X.K T W mi) (gOf X.K T is f) (tT X.K T W0 c) (tD X.K T W0 e) vs σ H Q := by
  refine ⟨G, O, b, t, S, R, (Post.bnd h).imp fun O1 b1 itm t1 S1 H1 R1 hb1 s1 h1 J hJ D hD => ?_⟩
  obtain ⟨ds, l⟩ := itm
  have h1 : Post X.K T W G O1 b1 σ H1 ((if ds.length ≤ lim then bnd (lcL vs f c e l ds) fun acc => ret (.lst acc, true) else bad) t1 S1) (KD X.K G σ Q) := h1
  have hJ : Wk X.K J H1 O1 b1 ds l := hJ
  refine Classical.byCases (p := ds.length ≤ lim) (fun cl => ?_) fun cl => by rw [if_neg cl] at h1; exact h1.elim
  rw [if_pos cl] at h1
  -- the new list
  obtain ⟨R2, s2⟩ := R1.newL (o := .lst []) hD nt_lst
  have tm2 := R1.tmpOf (d := .lst []) hD nt_lst ⟨[], upd_same, rfl⟩
  have hq : ∀ q ∈ G.tm, q.1 ≠ D := tm2.nq
  have fin : ∀ (O' : Addr → Prop) (b' : List Addr) (acc : List TD.D) (t' : Ev) (S' : Sto) (H' : Hp) (xs : List V), lcGo vs f c e l ds [] (clr vs t1) S1 = .ok acc t' S' → Rel X.K T { G with tm := (D, .lst xs) :: G.tm } O' b' t' S' (L2.wipe σ vs) H' → b1 <+: b' → Stays H1 O1 H' O' → Ats X.K H' O' b' acc xs → Q (.ref D) H' := by
    intro O' b' acc t' S' H' xs eg R' hb' s' ha
    obtain ⟨R3, e3, tm3⟩ := R'.pop hq
    unfold lcL bnd at h1
    simp only [eg] at h1
    have R4 := R1.back R3 s' hb'
    refine h1 H' O' b' R4 hb' s' _ (.inr ⟨rfl, D, rfl, ?_⟩)
    have z := tm3 (.lst acc) ⟨xs, e3, ha⟩
    refine ⟨z.o, z.own, z.fr, fun i q w hqD => ?_, z.nb, z.nq⟩
    obtain ⟨⟨d, e1⟩, e2⟩ := w
    rcases back_get e1 with ⟨_, h2⟩ | ⟨h1', h2⟩
    · cases ht : t1[i]? with
      | none => rw [ht] at h2; cases h2
      | some s => cases s <;> (rw [ht] at h2; cases h2)
    · exact z.ns i q ⟨⟨d, h2⟩, by rw [wipe_out h1']; exact e2⟩ hqD
  have ok0 : ∃ acc t' S', lcGo vs f c e l ds [] (clr vs t1) S1 = .ok acc t' S' := by
    unfold lcL bnd at h1
    cases eg : lcGo vs f c e l ds [] (clr vs t1) S1 with
    | ok acc t' S' => exact ⟨acc, t', S', rfl⟩
    | ex _ _ _ _ => simp only [eg] at h1; exact h1.elim
    | bad => simp only [eg] at h1; exact h1.elim
  obtain ⟨accF, tF, SF, eF⟩ := ok0
  refine ⟨fun i n H => n = ds.length - i ∧ i ≤ ds.length ∧ ∃ O' b' t' S' acc xs, Rel X.K T { G with tm := (D, .lst xs) :: G.tm } O' b' t' S' (L2.wipe σ vs) H ∧ b1 <+: b' ∧ Stays H1 O1 H O' ∧ Ats X.K H O' b' acc xs ∧ acc.length ≤ i ∧ lcGo vs f c e l (ds.drop i) acc t' S' = .ok accF tF SF,
    ⟨_, rfl, Nat.zero_le _, _, b1, _, S1, [], [], (R2.push tm2 upd_same nt_lst).wipe vs, List.prefix_refl _, s2, rfl, Nat.zero_le _, eF⟩, ?_⟩
  rintro i n H2 ⟨rfl, hle, O2, b2, t2, S2, acc, xs, R3, hb2, s3, ha, hal, eg⟩
  by_cases hlt : i < ds.length
  · rw [List.drop_eq_getElem_cons hlt] at eg
    have eg : (if ancB l S2 = true then bnd (asg f ds[i]) (fun _ => bnd c fun x => if x = true then eb e fun y => fun t S => lcGo vs f c e l (ds.drop (i + 1)) (acc ++ [y]) (clr vs t) S else fun t S => lcGo vs f c e l (ds.drop (i + 1)) acc (clr vs t) S) t2 S2 else .bad) = .ok accF tF SF := eg
    refine Classical.byCases (p := ancB l S2 = true) (fun anc => ?_) fun anc => by rw [if_neg anc] at eg; cases eg
    rw [if_pos anc] at eg
    obtain ⟨w1, w2⟩ := hJ i H2 O2 b2 s3 hb2 (anc_at R3 anc)
    obtain ⟨g1, g2⟩ := w2 ds[i] (by simp [hlt])
    refine .inr ⟨g1, fun H4 => ∃ O' b' t' S' acc xs, Rel X.K T { G with tm := (D, .lst xs) :: G.tm } O' b' t' S' (L2.wipe σ vs) H4 ∧ b1 <+: b' ∧ Stays H1 O1 H4 O' ∧ Ats X.K H4 O' b' acc xs ∧ acc.length ≤ i + 1 ∧ lcGo vs f c e l (ds.drop (i + 1)) acc t' S' = .ok accF tF SF,
      fun H4 q => ⟨ds.length - (i + 1), by omega, rfl, hlt, q⟩, fun x H3 y => ?_⟩
    have key : ∀ (Rx : Rel X.K T { G with tm := (D, .lst xs) :: G.tm } O2 b2 t2 S2 (L2.wipe σ vs) H3) (sx : Stays H2 O2 H3 O2) (hx : At X.K H3 O2 b2 ds[i] x), gOf X.K T is f x (L2.wipe σ vs) H3 fun σ2 H4 => L2.wipe σ2 vs = L2.wipe σ vs ∧ tT X.K T W0 c σ2 H4 fun b H5 =>
        if b = true then tD X.K T W0 e σ2 H5 fun y H6 => ∃ acc, H6 D = some (.lst acc) ∧ acc.length < sizeLine ∧ (fun H4 => ∃ O' b' t' S' acc xs, Rel X.K T { G with tm := (D, .lst xs) :: G.tm } O' b' t' S' (L2.wipe σ vs) H4 ∧ b1 <+: b' ∧ Stays H1 O1 H4 O' ∧ Ats X.K H4 O' b' acc xs ∧ acc.length ≤ i + 1 ∧ lcGo vs f c e l (ds.drop (i + 1)) acc t' S' = .ok accF tF SF) (upd H6 D (.lst (acc ++ [y])))
        else (fun H4 => ∃ O' b' t' S' acc xs, Rel X.K T { G with tm := (D, .lst xs) :: G.tm } O' b' t' S' (L2.wipe σ vs) H4 ∧ b1 <+: b' ∧ Stays H1 O1 H4 O' ∧ Ats X.K H4 O' b' acc xs ∧ acc.length ≤ i + 1 ∧ lcGo vs f c e l (ds.drop (i + 1)) acc t' S' = .ok accF tF SF) H5 := by
      intro Rx sx hx
      have eg' : bnd (asg f ds[i]) (fun _ => bnd c fun x => if x = true then eb e fun y => fun t S => lcGo vs f c e l (ds.drop (i + 1)) (acc ++ [y]) (clr vs t) S else fun t S => lcGo vs f c e l (ds.drop (i + 1)) acc (clr vs t) S) t2 S2 = .ok accF tF SF := eg
      refine ⟨_, O2, b2, t2, S2, _, Rx, hx, ?_⟩
      unfold bnd asg at eg'
      cases ef : f ds[i] t2 with
      | none => simp only [ef] at eg'; cases eg'
      | some t3 =>
        simp only [ef] at eg'
        intro σ2 R4 hl2 he2
        have ew : L2.wipe σ2 vs = L2.wipe σ vs := by
          have : L2.wipe σ2 vs = L2.wipe (L2.wipe σ vs) vs := wipe_eq hl2 fun j hj => he2 j fun z => hj (hsub j z)
          rw [this]
          exact wipe_eq (wipe_length σ vs) fun j hj => wipe_out hj
        refine ⟨ew, _, O2, b2, t3, S2, R4, ?_⟩
        cases ec : c t3 S2 with
        | bad => simp only [ec] at eg'; cases eg'
        | ex _ _ _ _ => simp only [ec] at eg'; cases eg'
        | ok x4 t4 S4 =>
          simp only [ec] at eg'
          intro H5 O5 b5 R5 hb5 s5
          cases x4 with
          | false =>
            rw [if_neg Bool.false_ne_true] at eg' ⊢
            have R6 := R5.wipe vs
            rw [ew] at R6
            exact ⟨O5, b5, _, S4, acc, xs, R6, hb2.trans hb5, (s3.trans sx).trans s5, ha.mono (sx.trans s5) hb5, Nat.le_succ_of_le hal, eg'⟩
          | true =>
            rw [if_pos rfl] at eg' ⊢
            refine ⟨_, O5, b5, t4, S4, R5, ?_⟩
            have eg2 : bnd e (fun x => fun t S => lcGo vs f c e l (ds.drop (i + 1)) (acc ++ [x.1]) (clr vs t) S) t4 S4 = .ok accF tF SF := eg'
            unfold bnd at eg2
            cases ee : e t4 S4 with
            | bad => simp only [ee] at eg2; cases eg2
            | ex _ _ _ _ => simp only [ee] at eg2; cases eg2
            | ok x6 t6 S6 =>
              simp only [ee] at eg2
              intro H6 O6 b6 R6 hb6 s6 v hv
              obtain ⟨O7, R7, s7, a7⟩ := R6.share hv
              obtain ⟨R8, e8, tm8⟩ := R7.pop hq
              have ha7 := ha.mono ((sx.trans s5).trans (s6.trans s7)) (hb5.trans hb6)
              have hxl := ha7.length
              refine ⟨xs, e8, by rw [hxl]; exact Nat.lt_of_le_of_lt hal (Nat.lt_of_lt_of_le hlt (Nat.le_trans cl (Nat.le_of_lt lim_lt))), ?_⟩
              have tm9 := tm8 (.lst acc) ⟨xs, e8, ha7⟩
              obtain ⟨R10, s10, tm10⟩ := R8.mutT (d' := .lst (acc ++ [x6.1])) (o := .lst (xs ++ [v])) tm9 nt_lst fun s => ⟨_, upd_same, (ha7.mono s (List.prefix_refl _)).append (Ats.one (a7.mono s (List.prefix_refl _)))⟩
              have R11 := (R10.push tm10 upd_same nt_lst).wipe vs
              rw [ew] at R11
              obtain ⟨xs', e', q'⟩ := tm10.own
              rw [upd_same] at e'
              cases e'
              exact ⟨O7, b6, _, S6, acc ++ [x6.1], xs ++ [v], R11, (hb2.trans hb5).trans hb6, ((((s3.trans sx).trans s5).trans s6).trans s7).trans s10, q', by rw [List.length_append]; exact Nat.succ_le_succ hal, eg2⟩
    rcases g2 x H3 y with ⟨e1, hx⟩ | ⟨q, o, hq', hn, e1, hx⟩
    · subst e1; exact key R3 (Stays.refl _ _) hx
    · subst e1
      obtain ⟨Rx, sx⟩ := R3.new hq' hn
      exact key Rx sx (hx fun a z => let ⟨u, e, _⟩ := R3.ot a z; ⟨u, e⟩)
  · have e : i = ds.length := by omega
    subst e
    rw [List.drop_length] at eg
    have eg : (if ancB l S2 = true then .ok acc t2 S2 else .bad) = TD.R.ok accF tF SF := eg
    refine Classical.byCases (p := ancB l S2 = true) (fun anc => ?_) fun anc => by rw [if_neg anc] at eg; cases eg
    rw [if_pos anc] at eg
    cases eg
    exact .inl ⟨(hJ ds.length H2 O2 b2 s3 hb2 (anc_at R3 anc)).1 rfl, fin O2 b2 _ _ _ H2 xs eF R3 hb2 s3 ha⟩
theorem pd_lc {elt tg iter : Expr} {ifs : List Expr} {scope : Scope} {own : List (Str × Nat)} {pos : Pos} {mi : MI} {is : List Nat} {f : MG} {c : MT} {e : ME} (hc : X.calm = true) (hN : X.N.Nodup) (hi : PIt X T W tg iter mi) (ok : BlkOk X.N X.env.scope scope own)
    (hsub : ∀ i ∈ is, i ∈ own.map (·.2))
    (hg : ∀ (s : Shared) (H : Hp) (C : Addr) (cl : List (Str × Addr)) (fp : List Addr), PGt (X.blk s H scope (compEnvC scope cl C X.env) fp) T tg is f) (ht : ∀ (s : Shared) (H : Hp) (C : Addr) (cl : List (Str × Addr)) (fp : List Addr), PTst (X.blk s H scope (compEnvC scope cl C X.env) fp) T W0 ifs c)
    (he : ∀ (s : Shared) (H : Hp) (C : Addr) (cl : List (Str × Addr)) (fp : List Addr), PD (X.blk s H scope (compEnvC scope cl C X.env) fp) T W0 elt e) (hs : ∀ x, foldedSetIterable iter X.env x = pure x := by intro _; rfl) :
    PD X T W (.ListComp elt [⟨tg, iter, ifs, 0⟩] scope pos) (eLc mi (own.map (·.2)) f c e) :=
  PE.imp' (pe_lc (tt := tT X.K T W0 c) (te := tD X.K T W0 e) (g := gOf X.K T is f) hc hN (pit_can hi) ok (fun s H C cl fp => pgt_can (hg s H C cl fp)) ht he hs) fun σ H Q ⟨G, O, b, t, S, R, h⟩ => lc_sem hsub R h
theorem pst_setLc {i : Nat} {y : Str} {py spos : Pos} {elt tg iter : Expr} {ifs : List Expr} {scope : Scope} {own : List (Str × Nat)} {pos : Pos} {mi : MI} {is : List Nat} {f : MG} {c : MT} {e : ME} (hc : X.calm = true) (hN : X.N.Nodup) (hy : X.N[i]? = some y) (hyl : X.env.scope.names.lookup y = some .local)
    (hsw : swapsWith (.ListComp elt [⟨tg, iter, ifs, 0⟩] scope pos) (some (.Name y py)) spos.line X.env = pure true) (hi : PIt X T W tg iter mi) (ok : BlkOk X.N X.env.scope scope own)
    (hsub : ∀ i ∈ is, i ∈ own.map (·.2))
    (hg : ∀ (s : Shared) (H : Hp) (C : Addr) (cl : List (Str × Addr)) (fp : List Addr), PGt (X.blk s H scope (compEnvC scope cl C X.env) fp) T tg is f) (ht : ∀ (s : Shared) (H : Hp) (C : Addr) (cl : List (Str × Addr)) (fp : List Addr), PTst (X.blk s H scope (compEnvC scope cl C X.env) fp) T W0 ifs c)
    (he : ∀ (s : Shared) (H : Hp) (C : Addr) (cl : List (Str × Addr)) (fp : List Addr), PD (X.blk s H scope (compEnvC scope cl C X.env) fp) T W0 elt e) (hs : ∀ x, foldedSetIterable iter X.env x = pure x := by intro _; rfl) :
    PSt X T W (.Assign [.Name y py] (.ListComp elt [⟨tg, iter, ifs, 0⟩] scope pos) spos) (sSet i (eLc mi (own.map (·.2)) f c e)) := by
  refine PS.imp' (ps_setLc (tt := tT X.K T W0 c) (te := tD X.K T W0 e) (g := gOf X.K T is f) hc hN hy hyl hsw (pit_can hi) ok (fun s H C cl fp => pgt_can (hg s H C cl fp)) ht he hs) fun Dn σ H ⟨G, O, b, t, S, R, h⟩ => ?_
  refine lc_sem hsub R ?_
  exact (PostS.bnd (σ := σ) h).imp fun O' b' x t' S' H' R' hb hs h' v hv => h' _ H' O' b' (set_end R' hv) (List.prefix_refl _) (Stays.refl _ _)

/-! ### while -/
def wloop : Nat → MT → MS → MS
  | 0, _, _ => bad
  | n + 1, c, body => bnd c fun x => if x = true then bnd body fun fl => match fl with
      | .bk => ret .nx
      | .rt d f => ret (.rt d f)
      | _ => wloop n c body
    else ret .nx
def sWhile (fu : Ev → Sto → Nat) (c : MT) (body : MS) : MS := fun t S => wloop (fu t S) c body t S
theorem pst_while {pos : Pos} {c : Expr} {body : List Stmt} {mc : MT} {mb : MS} (fu : Ev → Sto → Nat) (hp : PassesOwn (model X.prog X.w) X.A X.env X.xe) (hc : PC X T W c mc) (hb : PBk X T W body mb) : PSt X T W (.While c body [] pos) (sWhile fu mc mb) := by
  refine PS.imp' (ps_while hp hc hb) fun Dn σ H ⟨G, O, b, t, S, R, h⟩ => ?_
  refine ⟨fun n σ H => ∃ O b t S, Rel X.K T G O b t S σ H ∧ PostS X.K T W G O b H (wloop n mc mb t S) Dn, ⟨_, O, b, t, S, R, h⟩, ?_⟩
  rintro m σ1 H1 ⟨O1, b1, t1, S1, R1, h1⟩
  cases m with
  | zero => exact h1.elim
  | succ n =>
    have h1 : PostS X.K T W G O1 b1 H1 (bnd mc (fun x => if x = true then bnd mb fun fl => match fl with
      | .bk => ret .nx
      | .rt d f => ret (.rt d f)
      | _ => wloop n mc mb
    else ret .nx) t1 S1) Dn := h1
    refine ⟨G, O1, b1, t1, S1, R1, (PostS.bnd (σ := σ1) h1).imp fun O2 b2 x t2 S2 H2 R2 hb2 s2 h2 => ?_⟩
    cases x with
    | false =>
      rw [if_neg Bool.false_ne_true] at h2 ⊢
      exact PostS.here (W := W) R2 h2
    | true =>
      rw [if_pos rfl] at h2 ⊢
      refine ⟨fun σ' H' => ∃ O b t S, Rel X.K T G O b t S σ' H' ∧ PostS X.K T W G O b H' (wloop n mc mb t S) Dn, fun σ' H' q => ⟨n, Nat.lt_succ_self n, q⟩, G, O2, b2, t2, S2, R2, ?_⟩
      unfold bnd at h2
      revert h2
      cases mb t2 S2 with
      | ok fl t3 S3 =>
        intro h2
        cases fl with
        | nx => exact fun σ5 H5 O5 b5 R5 hb5 s5 => ⟨O5, b5, t3, S3, R5, PostS.later h2 hb5 s5⟩
        | ct => exact fun σ5 H5 O5 b5 R5 hb5 s5 => ⟨O5, b5, t3, S3, R5, PostS.later h2 hb5 s5⟩
        | bk => exact fun σ5 H5 O5 b5 R5 hb5 s5 => h2 σ5 H5 O5 b5 R5 hb5 s5
        | rt d ff => exact h2
      | ex cc fs t3 S3 => exact fun h2 => h2
      | bad => exact fun h2 => h2
end
end TD

set_option Elab.async false
set_option linter.all false
set_option maxRecDepth 100000
set_option maxHeartbeats 1000000
set_option autoImplicit false
namespace TD
open PySem PySem.Spec PyProof.Rows L2

/-! ### containers that are written: a slot's own, a box's -/
section
variable {K : PySem.W.Frag} {T : List (Addr × Str)} {G : Gh} {O O' : Addr → Prop} {b b' : List Addr} {t t' t2 : Ev} {S S' : Sto} {σ σ' : L2.St} {H H' : Hp}
/-- a box's container is written -/
theorem Rel.mutB (R : Rel K T G O b t S σ H) {n : Nat} {p : Addr} {d d' : D} {o : HO} (hS : S[n]? = some d) (hb : b[n]? = some p) (hn : nt o) (hd : Stays H O (upd H p o) O → Own K (upd H p o) O b d' p) :
    Rel K T G O b t (S.set n d') σ (upd H p o) ∧ Stays H O (upd H p o) O := by
  obtain ⟨hO, own⟩ := R.st n d p hS hb
  have hm : p ∈ b := List.mem_of_getElem? hb
  obtain ⟨u0, ep, np⟩ := own.there
  have hs : Stays H O (upd H p o) O := fun a u e n q => ⟨by rw [upd_ne (fun z : a = p => q (by rw [z]; exact hO))]; exact e, q⟩
  have oth : ∀ q, q ≠ p → ∀ u, H q = some u → nt u → upd H p o q = some u := fun q z u e _ => by rw [upd_ne z]; exact e
  refine ⟨⟨R.len, fun i s e => ?_, R.inj, R.nb, R.fr, by rw [List.length_set]; exact R.bl, fun m d1 q e1 e2 => ?_, R.bnd, R.bfr, fun a u e n z => ?_, fun a e => ?_, R.pre, R.o0, R.o0t, fun a z => ?_, R.ofr, R.b0, ?_, fun q hq => ?_⟩, hs⟩
  · obtain ⟨v, e1, q⟩ := R.sl i s e
    refine ⟨v, e1, ?_⟩
    cases s with
    | no => trivial
    | sh d => obtain ⟨v, e2, q⟩ := q; exact ⟨v, e2, q.mono hs (List.prefix_refl _)⟩
    | ow d =>
      obtain ⟨r, e2, h1, q⟩ := q
      exact ⟨r, e2, h1, q.mono hs (List.prefix_refl _) (oth r fun z => R.nb i r ⟨⟨d, e⟩, by rw [e1, e2]⟩ (z ▸ hm))⟩
  · by_cases hmn : m = n
    · subst hmn
      rw [hb] at e2
      cases e2
      have hl : m < S.length := (List.getElem?_eq_some_iff.mp hS).1
      rw [List.getElem?_set_self hl] at e1
      cases e1
      exact ⟨hO, hd hs⟩
    · rw [List.getElem?_set_ne (Ne.symm hmn)] at e1
      obtain ⟨q1, q2⟩ := R.st m d1 q e1 e2
      refine ⟨q1, q2.mono hs (List.prefix_refl _) (oth q fun z => hmn ?_)⟩
      subst z
      exact (List.getElem?_inj (List.getElem?_eq_some_iff.mp e2).1 R.bnd).mp (e2.trans hb.symm)
  · refine oth a (fun q => ?_) u (R.ext a u e n z) n
    rw [q] at z e
    rcases R.bfr p hm with h | h
    · exact z h
    · exact h u e n
  · refine R.grow a fun u eu nu => ?_
    by_cases z : a = p
    · rw [z] at e; exact e o upd_same hn
    · exact e u (by rw [upd_ne z]; exact eu) nu
  · obtain ⟨u, e, n⟩ := R.ot a z
    by_cases q : a = p
    · rw [q, upd_same]; exact ⟨o, rfl, hn⟩
    · exact ⟨u, oth a q u e n, n⟩
  · intro x hx
    obtain ⟨ps, h1, h2, h3⟩ := R.tabs x hx
    have np1 : x.1 ≠ p := fun z => by
      rw [z, ep] at h1
      exact np ps (Option.some.inj h1)
    refine ⟨ps, by rw [upd_ne np1]; exact h1, h2, fun pos cv hc => ?_⟩
    obtain ⟨c, e1, e2⟩ := h3 pos cv hc
    have nc : c ≠ p := fun z => by
      rw [z] at e2
      cases d with
      | lst ds => obtain ⟨xs, e, _⟩ := own; rw [e] at e2; cases e2
      | dic kvs => obtain ⟨xs, e, _⟩ := own; rw [e] at e2; cases e2
      | dct kvs => obtain ⟨xs, e, _⟩ := own; rw [e] at e2; cases e2
      | ins c fs => obtain ⟨dx, xs, e, _⟩ := own; rw [e] at e2; cases e2
      | _ => exact own.elim
    exact ⟨c, e1, by rw [upd_ne nc]; exact e2⟩
  · obtain ⟨h1, h2, h3, h4, h5, h6⟩ := R.tmp q hq
    exact ⟨oth q.1 (fun z => h5 (by rw [z]; exact hm)) _ h1 h2, h2, h3, h4, h5, h6⟩
/-- a container of nobody else's becomes a box -/
theorem Rel.mkBox (R : Rel K T G O b t S σ H) {p : Addr} {d : D} (h : Tmp K G O b t σ H d p) : Rel K T G O (b ++ [p]) t (S ++ [d]) σ H := by
  have hp : b <+: b ++ [p] := List.prefix_append _ _
  have hs := Stays.refl H O
  refine ⟨R.len, fun i s e => ?_, R.inj, fun i q w z => ?_, R.fr, by rw [List.length_append, List.length_append, R.bl]; rfl, fun m d1 q e1 e2 => ?_, ?_, fun q hq => ?_, R.ext, R.grow, R.pre.trans hp, R.o0, R.o0t, R.ot, R.ofr, R.b0, R.tabs, fun q hq => ?_⟩
  · obtain ⟨v, e1, q⟩ := R.sl i s e
    refine ⟨v, e1, ?_⟩
    cases s with
    | no => trivial
    | sh d => obtain ⟨v, e2, q⟩ := q; exact ⟨v, e2, q.mono hs hp⟩
    | ow d => obtain ⟨r, e2, h1, q⟩ := q; exact ⟨r, e2, h1, q.mono hs hp fun _ z _ => z⟩
  · rcases List.mem_append.mp z with z | z
    · exact R.nb i q w z
    · exact h.ns i q w (List.mem_singleton.mp z)
  · by_cases hm : m < b.length
    · rw [List.getElem?_append_left hm] at e2
      rw [List.getElem?_append_left (by rw [← R.bl]; exact hm)] at e1
      obtain ⟨q1, q2⟩ := R.st m d1 q e1 e2
      exact ⟨q1, q2.mono hs hp fun _ z _ => z⟩
    · rw [List.getElem?_append_right (by omega)] at e2
      rw [List.getElem?_append_right (by rw [← R.bl]; omega)] at e1
      have hz : m - b.length = 0 := by
        have := (List.getElem?_eq_some_iff.mp e2).1
        rw [List.length_singleton] at this; omega
      rw [hz] at e2
      rw [← R.bl, hz] at e1
      cases e1; cases e2
      exact ⟨h.o, h.own.mono hs hp fun _ z _ => z⟩
  · rw [List.nodup_append]
    exact ⟨R.bnd, by simp, fun a ha c hc => by rw [List.mem_singleton.mp hc]; exact fun z => h.nb (z ▸ ha)⟩
  · rcases List.mem_append.mp hq with z | z
    · exact R.bfr q z
    · rw [List.mem_singleton.mp z]; exact .inr h.fr
  · obtain ⟨h1, h2, h3, h4, h5, h6⟩ := R.tmp q hq
    refine ⟨h1, h2, h3, h4, fun z => ?_, h6⟩
    rcases List.mem_append.mp z with z | z
    · exact h5 z
    · exact h.nq q hq (List.mem_singleton.mp z)
end
def eBox (m : ME) : ME := bnd m fun x => if x.2 = true then fun t S => .ok (.box S.length, false) t (S ++ [x.1]) else bad
section
variable {X : Cx} {T : List (Addr × Str)} {W : WX} {e o : Expr} {es : List Expr} {pos : Pos}
theorem pd_box {m : ME} (h : PD X T W e m) : PD X T W e (eBox m) := by
  refine PE.imp' h fun σ H Q ⟨G, O, b, t, S, R, h⟩ => ⟨G, O, b, t, S, R, (Post.bnd h).imp fun O' b' x t' S' H' R' hb hs h' v hv => ?_⟩
  rcases hv with ⟨e, hv⟩ | ⟨e, p, ev, hv⟩
  · rw [e, if_neg Bool.false_ne_true] at h'; exact h'.elim
  · rw [e, if_pos rfl] at h'
    subst ev
    exact h' H' O' _ (R'.mkBox hv) (List.prefix_append _ _) (Stays.refl _ _) _ (.inl ⟨rfl, p, rfl, by rw [← R'.bl]; simp⟩)

/-! ### methods that write -/
abbrev FM := List D → D → Option (D × D)
def MtD (X : Cx) (T : List (Addr × Str)) (id : String) (f : FM) : Prop :=
  ∃ r, MtR X id r ∧ ∀ {σ : L2.St} {H : Hp} {Q : VK} {G : Gh} {O : Addr → Prop} {b : List Addr} {t : Ev} {S : Sto} {p : Addr} {ds : List D} {d d' y : D} {vs : List V}, Rel X.K T G O b t S σ H → O p → Own X.K H O b d p → Ats X.K H O b ds vs → f ds d = some (d', y) →
    (∀ (o : HO) (w : V), nt o → (Stays H O (upd H p o) O → Own X.K (upd H p o) O b d' p ∧ At X.K (upd H p o) O b y w) → Q w (upd H p o)) → r (.ref p) vs H Q
def fApp : FM
  | [d], .lst ds => if ds.length < lim then some (.lst (ds ++ [d]), .non) else none
  | _, _ => none
def fExt : FM
  | [.lst es], .lst ds => if ds.length + es.length ≤ lim then some (.lst (ds ++ es), .non) else none
  | _, _ => none
def fPop : FM
  | [], .lst ds => match ds[ds.length - 1]? with
    | some d => some (.lst ds.dropLast, d)
    | none => none
  | _, _ => none
def fPopAt : FM
  | [.int i], .lst ds => if -1000000000 ≤ i ∧ i ≤ 1000000000 then match seqIndex? i ds.length with
      | some k => match ds[k]? with
        | some d => some (.lst (ds.eraseIdx k), d)
        | none => none
      | none => none
    else none
  | _, _ => none
theorem Ats.dropLast {K : PySem.W.Frag} {H : Hp} {O : Addr → Prop} {b : List Addr} {ds : List D} {vs : List V} (h : Ats K H O b ds vs) : Ats K H O b ds.dropLast vs.dropLast := by
  rw [List.dropLast_eq_take, List.dropLast_eq_take, h.length]
  exact h.take _
theorem Ats.erase {K : PySem.W.Frag} {H : Hp} {O : Addr → Prop} {b : List Addr} {ds : List D} {vs : List V} (h : Ats K H O b ds vs) (k : Nat) : Ats K H O b (ds.eraseIdx k) (vs.eraseIdx k) := by
  rw [List.eraseIdx_eq_take_drop_succ, List.eraseIdx_eq_take_drop_succ]
  exact (h.take _).append (h.drop _)
theorem md_app : MtD X T "list.append" fApp := by
  refine ⟨_, mt_append, fun {σ H Q G O b t S p ds d d' y vs} R hO own hv hf k => ?_⟩
  unfold fApp at hf
  split at hf
  · rename_i x zs
    by_cases c : zs.length < lim
    · rw [if_pos c] at hf
      cases hf
      obtain ⟨xs, e, q⟩ := own
      obtain ⟨v, ys, ev, hx, e2⟩ := hv
      subst ev
      rw [show ys = [] from e2]
      refine ⟨p, xs, v, rfl, rfl, e, by rw [q.length]; exact Nat.lt_trans c lim_lt, k _ _ nt_lst fun s => ⟨⟨_, upd_same, (q.mono s (List.prefix_refl _)).append (Ats.one (hx.mono s (List.prefix_refl _)))⟩, rfl⟩⟩
    · rw [if_neg c] at hf; cases hf
  · cases hf
theorem md_ext : MtD X T "list.extend" fExt := by
  refine ⟨_, mt_extend, fun {σ H Q G O b t S p ds d d' y vs} R hO own hv hf k => ?_⟩
  unfold fExt at hf
  split at hf
  · rename_i x zs
    by_cases c : zs.length + x.length ≤ lim
    · rw [if_pos c] at hf
      cases hf
      obtain ⟨xs, e, q⟩ := own
      obtain ⟨v, ys, ev, ⟨a, us, ea, ho, r, hx⟩, e2⟩ := hv
      subst ev
      rw [show ys = [] from e2, ea]
      have := lim_lt
      refine ⟨p, a, xs, us, rfl, rfl, e, r, by rw [q.length, hx.length]; omega, k _ _ nt_lst fun s => ⟨⟨_, upd_same, (q.mono s (List.prefix_refl _)).append (hx.mono s (List.prefix_refl _))⟩, rfl⟩⟩
    · rw [if_neg c] at hf; cases hf
  · cases hf
theorem md_pop : MtD X T "list.pop" fPop := by
  refine ⟨_, mt_pop, fun {σ H Q G O b t S p ds d d' y vs} R hO own hv hf k => ?_⟩
  unfold fPop at hf
  split at hf
  · rename_i zs
    cases e1 : zs[zs.length - 1]? with
    | none => simp only [e1] at hf; cases hf
    | some z =>
      simp only [e1] at hf
      cases hf
      obtain ⟨xs, e, q⟩ := own
      obtain ⟨w, h1, h2⟩ := q.get e1
      refine ⟨p, xs, w, rfl, hv, e, by rw [q.length]; exact h1, k _ _ nt_lst fun s => ⟨⟨_, upd_same, (q.mono s (List.prefix_refl _)).dropLast⟩, h2.mono s (List.prefix_refl _)⟩⟩
  · cases hf
theorem md_popAt : MtD X T "list.pop" fPopAt := by
  refine ⟨_, mt_popAt, fun {σ H Q G O b t S p ds d d' y vs} R hO own hv hf k => ?_⟩
  unfold fPopAt at hf
  split at hf
  · rename_i i zs
    by_cases c : -1000000000 ≤ i ∧ i ≤ 1000000000
    · rw [if_pos c] at hf
      cases e0 : seqIndex? i zs.length with
      | none => simp only [e0] at hf; cases hf
      | some j =>
        simp only [e0] at hf
        cases e1 : zs[j]? with
        | none => simp only [e1] at hf; cases hf
        | some z =>
          simp only [e1] at hf
          cases hf
          obtain ⟨xs, e, q⟩ := own
          obtain ⟨w, h1, h2⟩ := q.get e1
          obtain ⟨v, ys, ev, hx, e2⟩ := hv
          subst ev
          rw [show ys = [] from e2, show v = _ from hx]
          refine ⟨p, xs, i, j, w, rfl, rfl, e, by omega, by omega, by rw [q.length]; exact e0, h1, k _ _ nt_lst fun s => ⟨⟨_, upd_same, (q.mono s (List.prefix_refl _)).erase _⟩, h2.mono s (List.prefix_refl _)⟩⟩
    · rw [if_neg c] at hf; cases hf
  · cases hf
def tyD : String → D → Bool
  | "list", .lst _ => true
  | "dict", .dic _ => true
  | "dict", .dct _ => true
  | _, _ => false
theorem tyD_own {K : PySem.W.Frag} {H : Hp} {O : Addr → Prop} {b : List Addr} {ty : String} {d : D} {p : Addr} (h : tyD ty d = true) (own : Own K H O b d p) : tyV K ty (.ref p) H := by
  unfold tyD at h
  split at h
  · obtain ⟨xs, e, _⟩ := own
    exact .inl ⟨rfl, xs, .inl (.inl e)⟩
  · obtain ⟨xs, e, _⟩ := own; exact .inr (.inr (.inl ⟨rfl, .inl ⟨xs, e⟩⟩))
  · obtain ⟨xs, e, _⟩ := own; exact .inr (.inr (.inl ⟨rfl, .inr ⟨xs, e⟩⟩))
  · cases h
end
end TD

set_option Elab.async false
set_option linter.all false
set_option maxRecDepth 100000
set_option maxHeartbeats 1000000
set_option autoImplicit false
namespace TD
open PySem PySem.Spec PyProof.Rows L2

/-! ### methods that write, at a slot, at a box -/
def wrS (i : Nat) (f : FM) (ds : List D) : ME := fun t S => match t[i]? with
  | some (.ow d) => match f ds d with
    | some (d', y) => .ok (y, false) (t.set i (.ow d')) S
    | none => .bad
  | _ => .bad
def mSlot (ty : String) (i : Nat) (ma : MA) (f : FM) : ME := fun t S => match t[i]? with
  | some (.ow d0) => if tyD ty d0 = true then bnd ma (wrS i f) t S else .bad
  | _ => .bad
def wrB (n : Nat) (f : FM) (ds : List D) : ME := fun t S => match S[n]? with
  | some d => match f ds d with
    | some (d', y) => .ok (y, false) t (S.set n d')
    | none => .bad
  | none => .bad
def atB (n : Nat) (ty : String) (ma : MA) (f : FM) : ME := fun t S => match S[n]? with
  | some d0 => if tyD ty d0 = true then bnd ma (wrB n f) t S else .bad
  | none => .bad
def mBox (ty : String) (m : ME) (ma : MA) (f : FM) : ME := eb m fun x => match x with
  | .box n => atB n ty ma f
  | _ => bad
section
variable {X : Cx} {T : List (Addr × Str)} {W : WX} {e o a c : Expr} {es : List Expr} {pos apos cpos : Pos} {ty id : String} {name : Str}
theorem wrS_end {r : V → List V → Hp → VK → Prop} {f : FM} {i : Nat} {σ : L2.St} {H : Hp} {Q : VK} {G : Gh} {O : Addr → Prop} {b : List Addr} {t : Ev} {S : Sto} {ds : List D} {vs : List V} {v : V}
    (h2 : ∀ {σ : L2.St} {H : Hp} {Q : VK} {G : Gh} {O : Addr → Prop} {b : List Addr} {t : Ev} {S : Sto} {p : Addr} {ds : List D} {d d' y : D} {vs : List V}, Rel X.K T G O b t S σ H → O p → Own X.K H O b d p → Ats X.K H O b ds vs → f ds d = some (d', y) →
      (∀ (o : HO) (w : V), nt o → (Stays H O (upd H p o) O → Own X.K (upd H p o) O b d' p ∧ At X.K (upd H p o) O b y w) → Q w (upd H p o)) → r (.ref p) vs H Q)
    (R : Rel X.K T G O b t S σ H) (hv : Ats X.K H O b ds vs) (e1 : σ[i]? = some (some v)) (h : Post X.K T W G O b σ H (wrS i f ds t S) (KD X.K G σ Q)) : r v vs H Q := by
  unfold wrS at h
  split at h
  · rename_i d ht
    split at h
    · rename_i d' y hf
      obtain ⟨p, e2, R1, tm⟩ := R.take ht
      rw [e1] at e2
      cases e2
      refine h2 R tm.o tm.own hv hf fun o w hn k => ?_
      have hs : Stays H O (upd H p o) O := fun a u e n q => ⟨by rw [upd_ne (fun z : a = p => q (by rw [z]; exact tm.o))]; exact e, q⟩
      obtain ⟨k1, k2⟩ := k hs
      obtain ⟨R2, s2, tm2⟩ := R1.mutT (d' := d') tm hn fun _ => k1
      have R3 := R2.hold tm2 e1
      rw [List.set_set] at R3
      exact h _ _ _ R3 (List.prefix_refl _) s2 w (.inl ⟨rfl, k2⟩)
    · exact h.elim
  · exact h.elim
theorem wrB_end {r : V → List V → Hp → VK → Prop} {f : FM} {n : Nat} {σ : L2.St} {H : Hp} {Q : VK} {G : Gh} {O : Addr → Prop} {b : List Addr} {t : Ev} {S : Sto} {ds : List D} {vs : List V} {v : V}
    (h2 : ∀ {σ : L2.St} {H : Hp} {Q : VK} {G : Gh} {O : Addr → Prop} {b : List Addr} {t : Ev} {S : Sto} {p : Addr} {ds : List D} {d d' y : D} {vs : List V}, Rel X.K T G O b t S σ H → O p → Own X.K H O b d p → Ats X.K H O b ds vs → f ds d = some (d', y) →
      (∀ (o : HO) (w : V), nt o → (Stays H O (upd H p o) O → Own X.K (upd H p o) O b d' p ∧ At X.K (upd H p o) O b y w) → Q w (upd H p o)) → r (.ref p) vs H Q)
    (R : Rel X.K T G O b t S σ H) (hv : Ats X.K H O b ds vs) (hb : At X.K H O b (.box n) v) (h : Post X.K T W G O b σ H (wrB n f ds t S) (KD X.K G σ Q)) : r v vs H Q := by
  unfold wrB at h
  split at h
  · rename_i d hS
    split at h
    · rename_i d' y hf
      obtain ⟨p, ev, hp⟩ := hb
      subst ev
      obtain ⟨hO, own⟩ := R.st n d p hS hp
      refine h2 R hO own hv hf fun o w hn k => ?_
      have hs : Stays H O (upd H p o) O := fun a u e n q => ⟨by rw [upd_ne (fun z : a = p => q (by rw [z]; exact hO))]; exact e, q⟩
      obtain ⟨k1, k2⟩ := k hs
      obtain ⟨R2, s2⟩ := R.mutB (d' := d') hS hp hn fun _ => k1
      exact h _ _ _ R2 (List.prefix_refl _) s2 w (.inl ⟨rfl, k2⟩)
    · exact h.elim
  · exact h.elim
/-- x.method(..), x a slot's own -/
theorem pd_mS {ma : MA} {f : FM} {i : Nat} {x : Str} {p1 : Pos} (hd : MtD X T id f) (pa : PlainAttrs ty) (slot : PySem.Slot ty name id) (hty : typeOf (.builtin id) = pure (.type "method_descriptor")) (hN : X.N[i]? = some x) (hv : Vis X.env.scope x) (ha : PAs X T W (e :: es) ma) (hdb : (x == ("__debug__" : Str)) = false := by decide) (hcd : (x == ("__classdict__" : Str)) = false := by decide)
    (hbase : attributeBase (.Name x p1) name X.env (eval (.Name x p1) X.env) = eval (.Name x p1) X.env := by rfl)
    (hfew : ((backTo cpos (starEach (e :: es) X.env)).all (fun x => !x.1) && (backToKw cpos (keywordEach [] X.env)).all (fun x => x.1.isSome)
      && decide ((e :: es).length + ([] : List Keyword).length + (if ([] : List Keyword).isEmpty then 0 else 1) < 30)) = true := by rfl)
    (hline : (apos.endLine == cpos.line) = true := by rfl) (hs : starEach (e :: es) X.env = (false, eval e X.env) :: starEach es X.env := by rfl) (hplain : (backTo cpos (starEach es X.env)).any (·.1) = false := by rfl) :
    PD X T W (.Call (.Attribute (.Name x p1) name apos) (e :: es) [] cpos) (mSlot ty i ma f) := by
  obtain ⟨r, h1, h2⟩ := hd
  refine PE.imp' (pe_bm pa slot hty h1 (pe_var hN hv hdb hcd) ha hbase hfew hline hs hplain) fun σ H Q ⟨G, O, b, t, S, R, h⟩ => ?_
  unfold mSlot at h
  split at h
  · rename_i d0 ht
    by_cases c : tyD ty d0 = true
    · rw [if_pos c] at h
      obtain ⟨oo, e1, p, e2, h3, own⟩ := R.sl i _ ht
      rw [e2] at e1
      exact ⟨V.ref p, e1, tyD_own c own, useA R h fun O1 b1 ds t1 S1 H1 vs R1 hb1 s1 hvs h4 => wrS_end h2 R1 hvs e1 h4⟩
    · rw [if_neg c] at h; exact h.elim
  · exact h.elim
theorem pd_mS0 {f : FM} {i : Nat} {x : Str} {p1 : Pos} (hd : MtD X T id f) (pa : PlainAttrs ty) (slot : PySem.Slot ty name id) (hty : typeOf (.builtin id) = pure (.type "method_descriptor")) (hN : X.N[i]? = some x) (hv : Vis X.env.scope x) (hdb : (x == ("__debug__" : Str)) = false := by decide) (hcd : (x == ("__classdict__" : Str)) = false := by decide)
    (hbase : attributeBase (.Name x p1) name X.env (eval (.Name x p1) X.env) = eval (.Name x p1) X.env := by rfl) (hline : (apos.endLine == cpos.line) = true := by rfl) :
    PD X T W (.Call (.Attribute (.Name x p1) name apos) [] [] cpos) (mSlot ty i aNil f) := by
  obtain ⟨r, h1, h2⟩ := hd
  refine PE.imp' (pe_bm0 pa slot hty h1 (pe_var hN hv hdb hcd) hbase hline) fun σ H Q ⟨G, O, b, t, S, R, h⟩ => ?_
  unfold mSlot at h
  split at h
  · rename_i d0 ht
    by_cases c : tyD ty d0 = true
    · rw [if_pos c] at h
      obtain ⟨oo, e1, p, e2, h3, own⟩ := R.sl i _ ht
      rw [e2] at e1
      exact ⟨V.ref p, e1, tyD_own c own, wrS_end (ds := []) h2 R rfl e1 h⟩
    · rw [if_neg c] at h; exact h.elim
  · exact h.elim
/-- e.method(..), e a box -/
theorem pd_mB {ma : MA} {f : FM} {m : ME} (hd : MtD X T id f) (pa : PlainAttrs ty) (slot : PySem.Slot ty name id) (hty : typeOf (.builtin id) = pure (.type "method_descriptor")) (ho : PD X T W o m) (ha : PAs X T W (e :: es) ma)
    (hbase : attributeBase o name X.env (eval o X.env) = eval o X.env := by rfl)
    (hfew : ((backTo cpos (starEach (e :: es) X.env)).all (fun x => !x.1) && (backToKw cpos (keywordEach [] X.env)).all (fun x => x.1.isSome)
      && decide ((e :: es).length + ([] : List Keyword).length + (if ([] : List Keyword).isEmpty then 0 else 1) < 30)) = true := by rfl)
    (hline : (apos.endLine == cpos.line) = true := by rfl) (hs : starEach (e :: es) X.env = (false, eval e X.env) :: starEach es X.env := by rfl) (hplain : (backTo cpos (starEach es X.env)).any (·.1) = false := by rfl) :
    PD X T W (.Call (.Attribute o name apos) (e :: es) [] cpos) (mBox ty m ma f) := by
  obtain ⟨r, h1, h2⟩ := hd
  refine PE.imp' (pe_bm pa slot hty h1 ho ha hbase hfew hline hs hplain) fun σ H Q ⟨G, O, b, t, S, R, h⟩ => ?_
  refine useD R h fun O0 b0 x t0 S0 H0 v R0 hb0 s0 hv h0 => ?_
  split at h0
  · rename_i n
    unfold atB at h0
    split at h0
    · rename_i d0 hS
      by_cases c : tyD ty d0 = true
      · rw [if_pos c] at h0
        obtain ⟨p, ev, hp⟩ := (_root_.id hv : At _ _ _ _ _ _)
        subst ev
        exact ⟨tyD_own c (R0.st n d0 p hS hp).2, useA R0 h0 fun O1 b1 ds t1 S1 H1 vs R1 hb1 s1 hvs h4 => wrB_end h2 R1 hvs (hv.mono s1 hb1) h4⟩
      · rw [if_neg c] at h0; exact h0.elim
    · exact h0.elim
  · exact h0.elim
theorem pd_mB0 {f : FM} {m : ME} (hd : MtD X T id f) (pa : PlainAttrs ty) (slot : PySem.Slot ty name id) (hty : typeOf (.builtin id) = pure (.type "method_descriptor")) (ho : PD X T W o m)
    (hbase : attributeBase o name X.env (eval o X.env) = eval o X.env := by rfl) (hline : (apos.endLine == cpos.line) = true := by rfl) :
    PD X T W (.Call (.Attribute o name apos) [] [] cpos) (mBox ty m aNil f) := by
  obtain ⟨r, h1, h2⟩ := hd
  refine PE.imp' (pe_bm0 pa slot hty h1 ho hbase hline) fun σ H Q ⟨G, O, b, t, S, R, h⟩ => ?_
  refine useD R h fun O0 b0 x t0 S0 H0 v R0 hb0 s0 hv h0 => ?_
  split at h0
  · rename_i n
    unfold atB at h0
    split at h0
    · rename_i d0 hS
      by_cases c : tyD ty d0 = true
      · rw [if_pos c] at h0
        obtain ⟨p, ev, hp⟩ := (_root_.id hv : At _ _ _ _ _ _)
        subst ev
        exact ⟨tyD_own c (R0.st n d0 p hS hp).2, wrB_end (ds := []) h2 R0 rfl hv h0⟩
      · rw [if_neg c] at h0; exact h0.elim
    · exact h0.elim
  · exact h0.elim

/-! ### o[i] = v, o a box of a list -/
def putB (x k y : D) : MS := match x, k with
  | .box n, .int j => fun t S => match S[n]? with
    | some (.lst ds) => match ixN ds.length j with
      | some q => .ok .nx t (S.set n (.lst (ds.set q y)))
      | none => .bad
    | _ => .bad
  | _, _ => bad
theorem putB_end {σ : L2.St} {H : Hp} {G : Gh} {O : Addr → Prop} {b : List Addr} {t : Ev} {S : Sto} {x k y : D} {vo vi v : V} {Dn : Ends} (R : Rel X.K T G O b t S σ H) (hx : At X.K H O b x vo) (hk : At X.K H O b k vi) (hy : At X.K H O b y v) (h : PostS X.K T W G O b H (putB x k y t S) Dn) : rSetL vo vi v H (Dn.nx σ) := by
  unfold putB at h
  split at h
  · rename_i n j
    split at h
    · rename_i ds hS
      split at h
      · rename_i q hq
        obtain ⟨p, ev, hp⟩ := hx
        subst ev
        rw [show vi = _ from hk]
        obtain ⟨hO, xs, e1, q1⟩ := R.st n _ p hS hp
        refine ⟨p, xs, j, q, rfl, rfl, e1, by rw [q1.length]; exact hq, ?_⟩
        obtain ⟨R10, s10⟩ := R.mutB (d' := .lst (ds.set q y)) (o := .lst (xs.set q v)) hS hp nt_lst fun s => ⟨_, upd_same, (q1.mono s (List.prefix_refl _)).set q (hy.mono s (List.prefix_refl _))⟩
        exact PostS.here (W := W) R10 (PostS.later h (List.prefix_refl _) s10)
      · exact h.elim
    · exact h.elim
  · exact h.elim
def sPutB (mv mo mi : ME) : MS := eb mv fun y => eb mo fun x => eb mi fun k => putB x k y
theorem pst_putB {tpos : Pos} {mv mo mi : ME} (he : PD X T W e mv) (ho : PD X T W o mo) (hi : PD X T W a mi) (hs : swapsWithSole [.Subscript o a tpos] e pos.line X.env = pure false := by rfl) (hw : swappedStores [.Subscript o a tpos] e X.env = pure none := by rfl)
    (h1 : (assignEach [.Subscript o a tpos] X.env).map (·.2) = [assign (.Subscript o a tpos) X.env] := by rfl)
    (ha : ∀ v, assign (.Subscript o a tpos) X.env v = (do
      let ov ← holding [v] (eval o X.env)
      let iv ← holding [v, ov] (eval a X.env)
      standAt tpos
      holding [v, ov, iv] (setItem ov iv v)
      release [v, ov, iv] []) := by intro _; rfl) : PSt X T W (.Assign [.Subscript o a tpos] e pos) (sPutB mv mo mi) := by
  refine PS.imp' (ps_asg he (pg_sub ho hi set_list ha) hs hw h1) fun Dn σ H ⟨G, O, b, t, S, R, h⟩ => ?_
  have h0 := PostS.bnd (σ := σ) h
  refine ⟨G, O, b, t, S, R, h0.imp fun O' b' y t' S' H' R' hb hs h' v hv => ?_⟩
  obtain ⟨O2, R2, s2, a2⟩ := R'.share hv
  have h3 := PostS.bnd (σ := σ) (PostS.later h' (List.prefix_refl _) s2)
  refine ⟨G, O2, b', t', S', R2, h3.imp fun O3 b3 x t3 S3 H3 R3 hb3 s3 h4 vo hvo => ?_⟩
  obtain ⟨O4, R4, s4, a4⟩ := R3.share hvo
  have h5 := PostS.bnd (σ := σ) (PostS.later h4 (List.prefix_refl _) s4)
  refine ⟨G, O4, b3, t3, S3, R4, h5.imp fun O6 b6 k t6 S6 H6 R6 hb6 s6 h7 vi hvi => ?_⟩
  obtain ⟨O8, R8, s8, a8⟩ := R6.share hvi
  exact putB_end R8 ((a4.mono s6 hb6).mono s8 (List.prefix_refl _)) a8 ((((a2.mono s3 hb3).mono s4 (List.prefix_refl _)).mono s6 hb6).mono s8 (List.prefix_refl _)) (PostS.later h7 (List.prefix_refl _) s8)

/-! ### == of what is only looked at -/
theorem toP_dpB {K : PySem.W.Frag} {H : Hp} {O : Addr → Prop} {b : List Addr} {d : D} {v : V} {p : PyData} (h : Bor K H O b d v) (e : toP d = some p) : Dp K H v p := by
  rcases h with h | ⟨a, ev, h⟩
  · exact toP_dp h e
  · subst ev
    cases d with
    | lst ds =>
      obtain ⟨xs, r, q⟩ := h
      obtain ⟨ps, e2, e3⟩ := Option.map_eq_some_iff.mp (show (toPs ds).map PyData.list = some p from e)
      rw [← e3]
      exact .lst (.inl (.inl r)) (toPs_dp q e2)
    | _ => first | exact h.elim | cases e
def dEqP (x y : D) : ME := match cmpP x y with
  | some c => pur (.bl c)
  | none => bad
def dNeP (x y : D) : ME := match cmpP x y with
  | some c => pur (.bl (!c))
  | none => bad
theorem cmpP_B {H : Hp} {O : Addr → Prop} {b : List Addr} {x y : D} {v w : V} {c : Bool} (hv : Bor X.K H O b x v) (hw : Bor X.K H O b y w) (h : cmpP x y = some c) :
    ∃ d e, Dp X.K H v d ∧ Dp X.K H w e ∧ SeqAt.shaped d = true ∧ SeqAt.shaped e = true ∧ PyData.eqv d e = c := by
  unfold cmpP at h
  split at h
  · rename_i p q e1 e2
    by_cases z : (SeqAt.shaped p && SeqAt.shaped q) = true
    · rw [if_pos z] at h
      rw [Bool.and_eq_true] at z
      exact ⟨p, q, toP_dpB hv e1, toP_dpB hw e2, z.1, z.2, Option.some.inj h⟩
    · rw [if_neg z] at h; cases h
  · cases h
/-- e == e', e maybe a box -/
def eEqB (m r : ME) : ME := eb m fun x => eb r fun y => fun t S => dEqP (vw S x) (vw S y) t S
def eNeB (m r : ME) : ME := eb m fun x => eb r fun y => fun t S => dNeP (vw S x) (vw S y) t S
theorem pd_eqB {m r : ME} (hu : X.A.units + 64 < cLine) (ha : PD X T W a m) (hc : PD X T W c r) (hm : behindInMarks .Eq c = false := by first | exact nomark _ | rfl) : PD X T W (.Compare a [.Eq] [c] pos) (eEqB m r) := by
  refine PE.imp' (pe_cmpR (op_eqD hu) ha hc hm) fun σ H Q ⟨G, O, b, t, S, R, h⟩ => ?_
  refine useD R h fun O1 b1 x t1 S1 H1 v R1 hb1 s1 hv h1 => ?_
  refine useD R1 h1 fun O2 b2 y t2 S2 H2 w R2 hb2 s2 hw h2 => ?_
  unfold dEqP at h2
  cases e : cmpP (vw S2 x) (vw S2 y) with
  | none => rw [e] at h2; exact h2.elim
  | some c =>
    rw [e] at h2
    obtain ⟨d1, d2, q1, q2, q3, q4, q5⟩ := cmpP_B (ex_bor R2 (hv.mono s2 hb2)) (ex_bor R2 hw) e
    exact ⟨d1, d2, q1, q2, q3, q4, by rw [q5]; exact endD R2 h2 rfl⟩
theorem pd_neB {m r : ME} (hu : X.A.units + 64 < cLine) (ha : PD X T W a m) (hc : PD X T W c r) (hm : behindInMarks .NotEq c = false := by first | exact nomark _ | rfl) : PD X T W (.Compare a [.NotEq] [c] pos) (eNeB m r) := by
  refine PE.imp' (pe_cmpR (op_neD hu) ha hc hm) fun σ H Q ⟨G, O, b, t, S, R, h⟩ => ?_
  refine useD R h fun O1 b1 x t1 S1 H1 v R1 hb1 s1 hv h1 => ?_
  refine useD R1 h1 fun O2 b2 y t2 S2 H2 w R2 hb2 s2 hw h2 => ?_
  unfold dNeP at h2
  cases e : cmpP (vw S2 x) (vw S2 y) with
  | none => rw [e] at h2; exact h2.elim
  | some c =>
    rw [e] at h2
    obtain ⟨d1, d2, q1, q2, q3, q4, q5⟩ := cmpP_B (ex_bor R2 (hv.mono s2 hb2)) (ex_bor R2 hw) e
    exact ⟨d1, d2, q1, q2, q3, q4, by rw [q5]; exact endD R2 h2 rfl⟩
end

/-! ### dicts -/
def toKey : D → Option Key
  | .int i => some (.inl i)
  | .str x => some (.inr x)
  | _ => none
def dValD {κ : Type} [DecidableEq κ] (kvs : List (κ × D)) (k : κ) : Option D := (kvs.find? fun kv => decide (kv.1 = k)).map (·.2)
def dPutD {κ : Type} [DecidableEq κ] (kvs : List (κ × D)) (k : κ) (v : D) : List (κ × D) :=
  if (kvs.any fun kv => decide (kv.1 = k)) = true then kvs.map (fun kv => if kv.1 = k then (kv.1, v) else kv) else kvs ++ [(k, v)]
section
variable {K : PySem.W.Frag} {H : Hp} {O : Addr → Prop} {b : List Addr}
theorem toKey_at {d : D} {v : V} {k : Key} (h : At K H O b d v) (e : toKey d = some k) : v = kV k := by
  cases d with
  | int i => cases e; exact h
  | str x => cases e; exact h
  | _ => cases e
theorem Atk.val {k : Key} : ∀ {ds : List (Key × D)} {vs : List (Key × V)}, Atk K H O b ds vs → (∀ d, dValD ds k = some d → ∃ v, valV vs k = some v ∧ At K H O b d v) ∧ (dValD ds k = none → valV vs k = none)
  | [], _, z => by rw [show _ = [] from z]; exact ⟨fun d e => (nomatch (show (none : Option D) = some d from e)), fun _ => rfl⟩
  | (q, d) :: ds, _, ⟨y, ys, e, h, r⟩ => by
    rw [e]
    obtain ⟨i1, i2⟩ := Atk.val (k := k) r
    by_cases c : q = k
    · have e1 : dValD ((q, d) :: ds) k = some d := by simp [dValD, List.find?_cons, c]
      rw [e1, valV_pos (p := (q, y)) c]
      exact ⟨fun d' e => ⟨y, rfl, Option.some.inj e ▸ h⟩, fun e => (nomatch e)⟩
    · have e1 : dValD ((q, d) :: ds) k = dValD ds k := by simp [dValD, List.find?_cons, c]
      rw [e1, valV_neg (p := (q, y)) c]
      exact ⟨i1, i2⟩
theorem Atk.repl {k : Key} {d : D} {v : V} (hd : At K H O b d v) : ∀ {ds : List (Key × D)} {vs : List (Key × V)}, Atk K H O b ds vs → Atk K H O b (ds.map fun kv => if kv.1 = k then (kv.1, d) else kv) (vs.map fun kv => if kv.1 = k then (kv.1, v) else kv)
  | [], _, z => by rw [show _ = [] from z]; rfl
  | (q, d') :: ds, _, ⟨y, ys, e, h, r⟩ => by
    rw [e, List.map_cons, List.map_cons]
    by_cases c : q = k
    · rw [if_pos c, if_pos c]; exact ⟨v, _, rfl, hd, Atk.repl hd r⟩
    · rw [if_neg c, if_neg c]; exact ⟨y, _, rfl, h, Atk.repl hd r⟩
theorem Atk.snoc {k : Key} {d : D} {v : V} (hd : At K H O b d v) : ∀ {ds : List (Key × D)} {vs : List (Key × V)}, Atk K H O b ds vs → Atk K H O b (ds ++ [(k, d)]) (vs ++ [(k, v)])
  | [], _, z => by rw [show _ = [] from z]; exact ⟨v, [], rfl, hd, rfl⟩
  | (q, d') :: ds, _, ⟨y, ys, e, h, r⟩ => by rw [e]; exact ⟨y, _, rfl, h, Atk.snoc hd r⟩
theorem Atk.any {k : Key} : ∀ {ds : List (Key × D)} {vs : List (Key × V)}, Atk K H O b ds vs → (ds.any fun kv => decide (kv.1 = k)) = vs.any fun kv => decide (kv.1 = k)
  | [], _, z => by rw [show _ = [] from z]; rfl
  | (q, d') :: ds, _, ⟨y, ys, e, h, r⟩ => by rw [e, List.any_cons, List.any_cons, Atk.any r]
theorem Atk.put {k : Key} {d : D} {v : V} (hd : At K H O b d v) {ds : List (Key × D)} {vs : List (Key × V)} (h : Atk K H O b ds vs) : Atk K H O b (dPutD ds k d) (putK vs k v) := by
  unfold dPutD putK
  rw [h.any]
  split
  · exact Atk.repl hd h
  · exact Atk.snoc hd h
end
def dGetD : D → D → ME
  | .dic kvs, k => match toKey k with
    | some q => match dValD kvs q with
      | some d => pur d
      | none => bad
    | none => bad
  | _, _ => bad
section
variable {X : Cx} {T : List (Addr × Str)} {W : WX} {e f o a c : Expr} {es : List Expr} {pos apos cpos : Pos} {ty id : String} {name : Str}
theorem pd_dnew : PD X T W (.Dict [] [] pos) (ret (.dic [], true)) := PE.imp' pe_dnewK fun σ H Q ⟨G, O, b, t, S, R, h⟩ => fun p hp => endN R h hp nt_dK fun s => ⟨[], upd_same, rfl⟩
theorem pd_dgetV {i : Nat} {x : Str} {m : ME} {p1 : Pos} (hu : X.A.units + 1 < cLine) (hN : X.N[i]? = some x) (hv : Vis X.env.scope x) (hc : PD X T W c m) (hs : NoSl c := by intro _ _; rfl) (hd : (x == ("__debug__" : Str)) = false := by decide) (hcd : (x == ("__classdict__" : Str)) = false := by decide) : PD X T W (.Subscript (.Name x p1) c pos) (vThen i m dGetD) :=
  PE.imp' (pe_dget hu (pe_var hN hv hd hcd) hc hs) fun σ H Q ⟨G, O, b, t, S, R, h⟩ =>
    useV R h fun O1 b1 x y t1 S1 H1 v w R1 hb1 s1 hv hw h1 => by
      unfold dGetD at h1
      split at h1
      · rename_i kvs
        obtain ⟨a, xs, ea, r, q⟩ := bor_dic hv
        cases ek : toKey y with
        | none => rw [ek] at h1; exact h1.elim
        | some k =>
          rw [ek] at h1
          cases ed : dValD kvs k with
          | none => simp only [ed] at h1; exact h1.elim
          | some d =>
            simp only [ed] at h1
            obtain ⟨u, g1, g2⟩ := (q.val (k := k)).1 d ed
            exact ⟨a, u, ea, .inl ⟨xs, k, .inl r, toKey_at hw ek, g1.symm⟩, endD R1 h1 g2⟩
      · exact h1.elim
/-- x.setdefault(k, v), x a slot's own -/
def wrSetd (i : Nat) (y z : D) : ME := fun t S => match t[i]? with
  | some (.ow (.dic kvs)) => match toKey y with
    | some k => if kvs.length < lim then match dValD kvs k with
        | some d => .ok (d, false) t S
        | none => .ok (z, false) (t.set i (.ow (.dic (dPutD kvs k z)))) S
      else .bad
    | none => .bad
  | _ => .bad
def mSetd (i : Nat) (mk mv : ME) : ME := fun t S => match t[i]? with
  | some (.ow (.dic _)) => (eb mk fun y => eb mv fun z => wrSetd i y z) t S
  | _ => .bad
theorem pd_setdS {i : Nat} {x : Str} {mk mv : ME} {p1 : Pos} (hN : X.N[i]? = some x) (hv : Vis X.env.scope x) (hk : PD X T W e mk) (hz : PD X T W f mv) (m : M2 X (.Name x p1) "setdefault" apos e f cpos) (hd : (x == ("__debug__" : Str)) = false := by decide) (hcd : (x == ("__classdict__" : Str)) = false := by decide) :
    PD X T W (.Call (.Attribute (.Name x p1) "setdefault" apos) [e, f] [] cpos) (mSetd i mk mv) := by
  refine PE.imp' (pe_dsetd (pe_var hN hv hd hcd) hk hz m) fun σ H Q ⟨G, O, b, t, S, R, h⟩ => ?_
  unfold mSetd at h
  split at h
  · rename_i kvs0 ht
    obtain ⟨oo, e1, p, e2, h3, xs0, er, q0⟩ := R.sl i _ ht
    rw [e2] at e1
    refine ⟨V.ref p, e1, p, rfl, .inl ⟨xs0, .inl er⟩, useD R h fun O1 b1 y t1 S1 H1 v R1 hb1 s1 hv h1 => useD R1 h1 fun O2 b2 z t2 S2 H2 w R2 hb2 s2 hw h2 => ?_⟩
    unfold wrSetd at h2
    split at h2
    · rename_i kvs ht2
      obtain ⟨p', e3, R3, tm⟩ := R2.take ht2
      rw [e1] at e3
      cases e3
      obtain ⟨xs, r, q⟩ := id tm.own
      cases ek : toKey y with
      | none => rw [ek] at h2; exact h2.elim
      | some k =>
        rw [ek] at h2
        have ev := toKey_at (hv.mono s2 hb2) ek
        have hl : xs.length = kvs.length := q.length
        by_cases c : kvs.length < lim
        · simp only [if_pos c] at h2
          have hlt : xs.length < sizeLine := by rw [hl]; exact Nat.lt_trans c lim_lt
          cases ed : dValD kvs k with
          | some d =>
            simp only [ed] at h2
            obtain ⟨u, g1, g2⟩ := (q.val (k := k)).1 d ed
            refine ⟨xs, k, r, ev, hlt, fun v' e => ?_, fun e => ?_⟩
            · rw [g1] at e; cases e
              exact endD (d := d) R2 h2 g2
            · rw [g1] at e; cases e
          | none =>
            simp only [ed] at h2
            have g1 := (q.val (k := k)).2 ed
            refine ⟨xs, k, r, ev, hlt, fun v' e => ?_, fun _ => ?_⟩
            · rw [g1] at e; cases e
            · obtain ⟨R4, s4, tm4⟩ := R3.mutT (d' := .dic (dPutD kvs k z)) (o := .dK (putK xs k w)) tm nt_dK fun s => ⟨_, upd_same, Atk.put (hw.mono s (List.prefix_refl _)) (q.mono s (List.prefix_refl _))⟩
              have R5 := R4.hold tm4 e1
              rw [List.set_set] at R5
              exact h2 _ _ _ R5 (List.prefix_refl _) s4 w (.inl ⟨rfl, hw.mono s4 (List.prefix_refl _)⟩)
        · simp only [if_neg c] at h2; exact h2.elim
    · exact h2.elim
  · exact h.elim
/-- the heap has grown -/
theorem Rel.grown {K : PySem.W.Frag} {G : Gh} {O : Addr → Prop} {b : List Addr} {t : Ev} {S : Sto} {σ : L2.St} {H H' : Hp} (R : Rel K T G O b t S σ H) (hk : ∀ a o, H a = some o → H' a = some o) : Rel K T G O b t S σ H' ∧ Stays H O H' O := by
  have hs : Stays H O H' O := fun a o e n h => ⟨hk a o e, h⟩
  have z := R.self
  have R1 : Rel K T ⟨H, O, b, []⟩ O b [] S [] H' := by
    refine ⟨rfl, fun i s e => by simp at e, z.inj, z.nb, z.fr, z.bl, fun n d q e1 e2 => ?_, z.bnd, z.bfr, fun a u e n _ => hk a u e, fun a e => ?_, z.pre, fun a q => q, z.o0t, fun a h => ?_, fun a h => .inl h, z.b0, R.tabs.ext hk, fun q hq => by cases hq⟩
    · obtain ⟨q1, q2⟩ := R.st n d q e1 e2
      exact ⟨q1, q2.mono hs (List.prefix_refl _) fun u e _ => hk q u e⟩
    · exact fun u e2 n2 => e u (hk a u e2) n2
    · obtain ⟨u, e, n⟩ := R.ot a h
      exact ⟨u, hk a u e, n⟩
  exact ⟨R.step R1, hs⟩
def dItems : D → ME
  | .dic kvs => pur (.lst (kvs.map fun kv => .tup [keyD kv.1, kv.2]))
  | _ => bad
theorem At.key {K : PySem.W.Frag} {H : Hp} {O : Addr → Prop} {b : List Addr} (k : Key) : At K H O b (keyD k) (kV k) := by
  cases k <;> rfl
theorem items_ats {K : PySem.W.Frag} {H : Hp} {O : Addr → Prop} {b : List Addr} : ∀ {kvs : List (Key × D)} {xs : List (Key × V)} {ts : List Addr}, Atk K H O b kvs xs → Paired (fun (t : Addr) (q : Key × V) => H t = some (.tup [kV q.1, q.2])) ts xs → (∀ t ∈ ts, ¬ O t) → Ats K H O b (kvs.map fun kv => .tup [keyD kv.1, kv.2]) (ts.map V.ref)
  | [], xs, ts, q, r, ho => by
    rw [show xs = [] from q] at r
    cases r
    rfl
  | (k, d) :: kvs, xs, ts, ⟨y, ys, e, q, q2⟩, r, ho => by
    subst e
    cases r with
    | @cons t p ts' ps h r =>
      refine ⟨V.ref t, _, rfl, ⟨t, _, rfl, ho t List.mem_cons_self, h, kV k, [y], rfl, At.key k, y, [], rfl, q, rfl⟩, items_ats q2 r fun t ht => ho t (List.mem_cons_of_mem _ ht)⟩
/-- list(e.items()) -/
theorem pd_items {m : MB} {p : Pos} (hc : X.calm = true) (he : PB X T W e m) (hg : Gl X "list") (hm : X.mg "list" = none) (hv : bootBuiltins "list" = some (.type "list")) (hbase : attributeBase e "items" X.env (eval e X.env) = eval e X.env := by rfl) (hline : (apos.endLine == cpos.line) = true := by rfl)
    (hs : starEach [.Call (.Attribute e "items" apos) [] [] cpos] X.env = (false, eval (.Call (.Attribute e "items" apos) [] [] cpos) X.env) :: starEach [] X.env := by rfl) :
    PD X T W (.Call (.Name "list" p) [.Call (.Attribute e "items" apos) [] [] cpos] [] pos) (bnd m dItems) := by
  refine PE.imp' (LiI.pe_listItems hc he hg hm hv hbase hline hs) fun σ H Q ⟨G, O, b, t, S, R, h⟩ => ?_
  refine useB R h fun O1 b1 x t1 S1 H1 v R1 hb1 s1 hv h1 => ?_
  unfold dItems at h1
  split at h1
  · rename_i kvs
    obtain ⟨a, xs, ea, r, q⟩ := bor_dic hv
    refine ⟨a, xs, ea, r, fun H' p ts hk hp hts hpt hp' pr => ?_⟩
    obtain ⟨R2, s2⟩ := R1.grown hk
    exact endD (R2) (h1.later (List.prefix_refl _) s2) ⟨p, _, rfl, R1.free hp, hp', items_ats (q.mono s2 (List.prefix_refl _)) pr fun t ht => R1.free (hts t ht)⟩
  · exact h1.elim
end
end TD

set_option Elab.async false
set_option linter.all false
set_option maxRecDepth 100000
set_option maxHeartbeats 1000000
set_option autoImplicit false
namespace TD
open PySem PySem.Spec PyProof.Rows L2

/-! ### iterators that give out new tuples -/
def rowsIt (F : Hp → Nat → List V → Prop) (Nn : Hp → Nat → Prop) : It :=
  ⟨fun i H => ∃ r, F H i r, fun i H v H' => ∃ Tt r, v = .ref Tt ∧ H Tt = none ∧ H' = upd H Tt (.tup r) ∧ ∀ r', F H i r' → r' = r, fun i H => Nn H i⟩
theorem turn_rows {P : Program} {w : World} {K : PySem.W.Frag} {elts : List Expr} {kk : Nat} {tpos : Pos} {I : Addr} {fp wr : List Addr} {tn : Nat → Heap → Prop} {F : Hp → Nat → List V → Prop} {Nn : Hp → Nat → Prop}
    (mem : I ∈ fp) (sub : ∀ b ∈ wr, b ∈ fp) (obj : ∀ i h, tn i h → ∀ b ∈ fp, ∃ o, h.get? b = some o ∧ ∀ v, o.data ≠ .cell v)
    (keep : ∀ i h h', tn i h → (∀ b ∈ fp, ∀ o, h.get? b = some o → h'.get? b = some o) → tn i h')
    (self : ∀ (A : Around) (i : Nat) (s : Shared) (Q : Value → Shared → Prop) (E : Value → Shared → Prop), tn i s.heap → Q (.ref I) s → wpAny (model P w) A (pyIter (.ref I)) Q E s)
    (inj : ∀ (X : Cx) (pins : List (Addr × Obj)) (s : Shared) (σ : L2.St) (H : Hp), X.K = K → Inv X pins σ H s → ∀ i r r', F H i r → F H i r' → r' = r)
    (dat : ∀ (X : Cx), X.prog = P → X.w = w → X.K = K → X.A.handled = none → ∀ (i : Nat) (pins : List (Addr × Obj)) (s : Shared) (σ : L2.St) (H : Hp), Inv X pins σ H s → tn i s.heap → ((∃ r, F H i r) ∨ Nn H i) → ∃ (fp' : List Addr) (nn : Nat) (Pt : Nat → Array Value → Prop) (St : Nat → Heap → Prop),
      GoesN P w X.A (.Tuple elts kk tpos) I fp' wr nn (fun i h₀ v h => ∃ T vals, v = .ref T ∧ h₀.objs.size ≤ T ∧ Pt i vals ∧ h.IsTuple T vals) St ∧ St i s.heap ∧ (∀ h', St (i + 1) h' → tn (i + 1) h') ∧ ((∃ r, F H i r) → i < nn) ∧ (Nn H i → i = nn) ∧ (∀ r vals, F H i r → Pt i vals → Vals r vals.toList ∧ r.length ≤ sizeLine)) :
    Turn P w K (.Tuple elts kk tpos) (rowsIt F Nn) fp I tn where
  mem := mem
  obj := obj
  keep := keep
  item := by
    intro X hP hw hK hc i pins s σ H E Iv hf st hg
    obtain ⟨fp', nn, Pt, St, W, hSt, htn, hlt, _, hv⟩ := dat X hP hw hK (Iv.ok.hd hc) i pins s σ H Iv st (.inl hg)
    obtain ⟨r, hr⟩ := id hg
    subst hP hw hK
    refine W.goes i s (fun u s2 => ∃ x H', Inv X pins σ H' s2 ∧ RelV x u ∧ (rowsIt F Nn).yld i H x H' ∧ tn (i + 1) s2.heap ∧ ∀ b ∈ fp, H' b = none) E (hlt hg) hSt fun v h' tk hY hSt' hk htk => ?_
    obtain ⟨T, vals, ev, hT, hPt, hTup⟩ := hY
    subst ev
    obtain ⟨hv1, hv2⟩ := hv r vals hr hPt
    have new : ObjOk X.prog X.w (upd H T (.tup r)) h' T (.tup r) := ⟨hv2, vals.toList, hv1, by obtain ⟨o, e1, e2, n, e3⟩ := hTup; exact ⟨o, e1, e2, n, by rw [e3, Array.toArray_toList]⟩⟩
    have I1 : Inv X pins σ (upd H T (.tup r)) { s with heap := h', toks := tk } := Iv.turnedNew (ch := wr) hk (fun b hb => hf b (sub b hb)) hT new
    refine ⟨.ref T, _, I1, rfl, ⟨T, r, rfl, Iv.hok.fresh hT, rfl, fun r' h => inj X pins s σ H rfl Iv i r r' hr h⟩, htn h' hSt', fun b hb => ?_⟩
    obtain ⟨o, e, _⟩ := obj i s.heap st b hb
    rw [upd_ne (Nat.ne_of_lt (Nat.lt_of_lt_of_le (Heap.lt_size e) hT))]
    exact (hf b hb).1
  done := by
    intro X hP hw hK hc i pins s σ H E Iv hf st hg
    obtain ⟨fp', nn, Pt, St, W, hSt, htn, _, heq, hv⟩ := dat X hP hw hK (Iv.ok.hd hc) i pins s σ H Iv st (.inr hg)
    subst hP hw hK
    have e := heq hg
    subst e
    exact W.stops s _ E hSt fun h' tk hk htk => Iv.turnedL (ch := wr) hk fun b hb => hf b (sub b hb)
  self := self

/-- a list or a tuple -/
def Sq (K : PySem.W.Frag) (k : Bool) (H : Hp) (a : Addr) (xs : List V) : Prop := match k with
  | true => SqL K H a xs
  | false => SqT K H a xs
def SqIter (k : Bool) (h : Heap) (it a : Addr) (i : Nat) : Prop := match k with
  | true => h.IsListIter it a i
  | false => h.IsTupleIter it a i
def SqHeap (k : Bool) (h : Heap) (a : Addr) (items : Array Value) : Prop := match k with
  | true => h.IsList a items
  | false => h.IsTuple a items
theorem SqIter.obj {k : Bool} {h : Heap} {it a : Addr} {i : Nat} (s : SqIter k h it a i) : ∃ o, h.get? it = some o ∧ ∀ v, o.data ≠ .cell v := by
  cases k <;> (obtain ⟨o, e, _, d⟩ := s; exact ⟨o, e, fun v q => by rw [d] at q; cases q⟩)
theorem SqIter.keep {k : Bool} {h h' : Heap} {it a : Addr} {i : Nat} (s : SqIter k h it a i) (q : ∀ o, h.get? it = some o → h'.get? it = some o) : SqIter k h' it a i := by
  cases k <;> (obtain ⟨o, e, c, d⟩ := s; exact ⟨o, q o e, c, d⟩)
theorem sq_draws {prog : Program} {w : World} {A : Around} (hh : A.handled = none) (k : Bool) (it a : Addr) (hne : a ≠ it) (items : Array Value) : Draws prog w A it [it, a] items.size (fun i v => items[i]? = some v) (fun i h => SqIter k h it a i ∧ SqHeap k h a items) := by
  cases k
  · exact Draws.tuple hh it a hne items
  · exact Draws.list hh it a hne items
def sqObj (k : Bool) (a : Addr) : Obj := match k with
  | true => { cls := .type "list_iterator", data := .fields #[.ref a, .int 0 0] }
  | false => { cls := .type "tuple_iterator", data := .fields #[.ref a, .int 0 0] }
theorem sq_begins (k : Bool) (a : Addr) (items : Array Value) : Begins (.ref a) (sqObj k a) fun h => SqHeap k h a items := by
  cases k
  · exact begins_tuple a items
  · exact begins_list a items
theorem sq_iter0 {k : Bool} {h : Heap} {it a : Addr} (e : h.get? it = some (sqObj k a)) : SqIter k h it a 0 := by
  cases k <;> exact ⟨_, e, rfl, rfl⟩
section
variable {X : Cx} {pins : List (Addr × Obj)} {σ : L2.St} {H : Hp} {s : Shared} {k : Bool} {a : Addr} {xs ys : List V}
theorem sq_inv (I : Inv X pins σ H s) (h : Sq X.K k H a xs) : ∃ its : List Value, Vals xs its ∧ SqHeap k s.heap a its.toArray ∧ xs.length ≤ sizeLine := by
  cases k
  · obtain ⟨its, r, t, z⟩ := I.tuple h; exact ⟨its, r, t, z⟩
  · obtain ⟨its, r, t, z⟩ := I.list h; exact ⟨its, r, t.isList, z⟩
theorem sq_inj (I : Inv X pins σ H s) (h : Sq X.K k H a xs) (h' : Sq X.K k H a ys) : xs = ys := by
  cases k
  · exact I.tuple_inj h h'
  · exact I.list_inj h h'
theorem sq_lt {h : Heap} {items : Array Value} (t : SqHeap k h a items) : a < h.objs.size := by
  cases k <;> (obtain ⟨o, e, _⟩ := t; exact Heap.lt_size e)
end
/-! ### zip of two, of three -/
def F2 (K : PySem.W.Frag) (k1 k2 : Bool) (a b : Addr) (H : Hp) (i : Nat) (r : List V) : Prop := ∃ xs ys x y, Sq K k1 H a xs ∧ Sq K k2 H b ys ∧ xs[i]? = some x ∧ ys[i]? = some y ∧ r = [x, y]
def N2 (K : PySem.W.Frag) (k1 k2 : Bool) (a b : Addr) (H : Hp) (i : Nat) : Prop := ∃ xs ys, Sq K k1 H a xs ∧ Sq K k2 H b ys ∧ i = min xs.length ys.length
def F3 (K : PySem.W.Frag) (k1 k2 k3 : Bool) (a b c : Addr) (H : Hp) (i : Nat) (r : List V) : Prop := ∃ xs ys zs x y z, Sq K k1 H a xs ∧ Sq K k2 H b ys ∧ Sq K k3 H c zs ∧ xs[i]? = some x ∧ ys[i]? = some y ∧ zs[i]? = some z ∧ r = [x, y, z]
def N3 (K : PySem.W.Frag) (k1 k2 k3 : Bool) (a b c : Addr) (H : Hp) (i : Nat) : Prop := ∃ xs ys zs, Sq K k1 H a xs ∧ Sq K k2 H b ys ∧ Sq K k3 H c zs ∧ i = min (min xs.length ys.length) zs.length
theorem vals_at {xs : List V} {its : List Value} {i : Nat} {x : V} {u : Value} (r : Vals xs its) (h : xs[i]? = some x) (e : its.toArray[i]? = some u) : RelV x u := by
  obtain ⟨u', h1, h2⟩ := r.get h
  rw [show its.toArray[i]? = its[i]? by simp, h1] at e
  cases e; exact h2
theorem turn_zip2 {P : Program} {w : World} {K : PySem.W.Frag} {elts : List Expr} {kk : Nat} {tpos : Pos} {k1 k2 : Bool} {a b : Addr} (N : Nat) (ha : a < N) (hb : b < N) :
    Turn P w K (.Tuple elts kk tpos) (rowsIt (F2 K k1 k2 a b) (N2 K k1 k2 a b)) [N + 4, N + 2, N + 3, N, N + 1] (N + 4)
      (fun i h => IsZip h (N + 4) (N + 2) (N + 3) .none ∧ IsTupOf2 h (N + 2) (.ref N) (.ref (N + 1)) ∧ (∃ a1 a2, IsTupOf2 h (N + 3) a1 a2) ∧ SqIter k1 h N a i ∧ SqIter k2 h (N + 1) b i) := by
  refine turn_rows (wr := [N + 4, N + 3, N, N + 1]) (by simp) (fun c hc => ?_) (fun i h st c hc => ?_) (fun i h h' st q => ?_) (fun A i s Q E st h => wpAny_pyIter_zip st.1 h) (fun X pins s σ H hK I i r r' h h' => ?_) fun X hP hw hK hh i pins s σ H I st hg => ?_
  · simp only [List.mem_cons, List.not_mem_nil, or_false] at hc ⊢
    rcases hc with z | z | z | z <;> (rw [z]; simp)
  · obtain ⟨hz, hTI, ⟨x, y, hTO⟩, h1, h2⟩ := st
    have e' : c = N + 4 ∨ c = N + 2 ∨ c = N + 3 ∨ c = N ∨ c = N + 1 := by simpa using hc
    rcases e' with q | q | q | q | q
    · rw [q]; exact ⟨_, hz, fun v q => nomatch q⟩
    · rw [q]; exact ⟨_, hTI, fun v q => nomatch q⟩
    · rw [q]; exact ⟨_, hTO, fun v q => nomatch q⟩
    · rw [q]; exact h1.obj
    · rw [q]; exact h2.obj
  · obtain ⟨hz, hTI, ⟨x, y, hTO⟩, h1, h2⟩ := st
    exact ⟨q _ (by simp) _ hz, q _ (by simp) _ hTI, ⟨x, y, q _ (by simp) _ hTO⟩, h1.keep (q _ (by simp)), h2.keep (q _ (by simp))⟩
  · subst hK
    obtain ⟨xs, ys, x, y, q1, q2, g1, g2, e⟩ := h
    obtain ⟨xs', ys', x', y', q1', q2', g1', g2', e'⟩ := h'
    rw [sq_inj I q1 q1', g1'] at g1
    rw [sq_inj I q2 q2', g2'] at g2
    cases g1; cases g2
    rw [e, e']
  · subst hP hw hK
    have seqs : ∃ xs ys, Sq X.K k1 H a xs ∧ Sq X.K k2 H b ys := by
      rcases hg with ⟨r, xs, ys, x, y, q1, q2, _⟩ | ⟨xs, ys, q1, q2, _⟩
      · exact ⟨xs, ys, q1, q2⟩
      · exact ⟨xs, ys, q1, q2⟩
    obtain ⟨xs, ys, q1, q2⟩ := seqs
    obtain ⟨its1, r1, t1, z1⟩ := sq_inv I q1
    obtain ⟨its2, r2, t2, z2⟩ := sq_inv I q2
    have l1 := r1.length
    have l2 := r2.length
    obtain ⟨hz, hTI, hTO, h1, h2⟩ := st
    have W := GoesN.ofWalksT (elts := elts) (k := kk) (pos := tpos) (WalksT.zipD2 (zip_sep2 (N := N) (fp1 := [a]) (fp2 := [b]) (by simpa using ha) (by simpa using hb)) (sq_draws (prog := X.prog) (w := X.w) (A := X.A.in1) hh k1 N a (Nat.ne_of_lt ha) its1.toArray) (sq_draws (A := X.A.in1) hh k2 (N + 1) b (Nat.ne_of_lt (Nat.lt_succ_of_lt hb)) its2.toArray))
    refine ⟨_, _, _, _, W, ⟨hz, hTI, hTO, ⟨h1, t1⟩, h2, t2⟩, fun h' st' => ⟨st'.1, st'.2.1, st'.2.2.1, st'.2.2.2.1.1, st'.2.2.2.2.1⟩, fun ⟨r, xs', ys', x, y, q1', q2', g1, g2, e⟩ => ?_, fun ⟨xs', ys', q1', q2', e⟩ => ?_, fun r vals ⟨xs', ys', x, y, q1', q2', g1, g2, e⟩ ⟨u, v, hu, hv, ev⟩ => ?_⟩
    · rw [← sq_inj I q1 q1'] at g1
      rw [← sq_inj I q2 q2'] at g2
      have := (List.getElem?_eq_some_iff.mp g1).1
      have := (List.getElem?_eq_some_iff.mp g2).1
      simp only [List.size_toArray]
      omega
    · rw [e, ← sq_inj I q1 q1', ← sq_inj I q2 q2', l1, l2]
      simp only [List.size_toArray]
    · rw [← sq_inj I q1 q1'] at g1
      rw [← sq_inj I q2 q2'] at g2
      subst ev
      rw [e]
      exact ⟨.cons (vals_at r1 g1 hu) (.cons (vals_at r2 g2 hv) .nil), by show 2 ≤ sizeLine; decide⟩
theorem turn_zip3 {P : Program} {w : World} {K : PySem.W.Frag} {elts : List Expr} {kk : Nat} {tpos : Pos} {k1 k2 k3 : Bool} {a b c : Addr} (N : Nat) (ha : a < N) (hb : b < N) (hc : c < N) :
    Turn P w K (.Tuple elts kk tpos) (rowsIt (F3 K k1 k2 k3 a b c) (N3 K k1 k2 k3 a b c)) [N + 5, N + 3, N + 4, N, N + 1, N + 2] (N + 5)
      (fun i h => IsZip h (N + 5) (N + 3) (N + 4) .none ∧ IsTupOf3 h (N + 3) (.ref N) (.ref (N + 1)) (.ref (N + 2)) ∧ (∃ a1 a2 a3, IsTupOf3 h (N + 4) a1 a2 a3) ∧ SqIter k1 h N a i ∧ SqIter k2 h (N + 1) b i ∧ SqIter k3 h (N + 2) c i) := by
  refine turn_rows (wr := [N + 5, N + 4, N, N + 1, N + 2]) (by simp) (fun d hd => ?_) (fun i h st d hd => ?_) (fun i h h' st q => ?_) (fun A i s Q E st h => wpAny_pyIter_zip st.1 h) (fun X pins s σ H hK I i r r' h h' => ?_) fun X hP hw hK hh i pins s σ H I st hg => ?_
  · simp only [List.mem_cons, List.not_mem_nil, or_false] at hd ⊢
    rcases hd with z | z | z | z | z <;> (rw [z]; simp)
  · obtain ⟨hz, hTI, ⟨x, y, z, hTO⟩, h1, h2, h3⟩ := st
    have e' : d = N + 5 ∨ d = N + 3 ∨ d = N + 4 ∨ d = N ∨ d = N + 1 ∨ d = N + 2 := by simpa using hd
    rcases e' with q | q | q | q | q | q
    · rw [q]; exact ⟨_, hz, fun v q => nomatch q⟩
    · rw [q]; exact ⟨_, hTI, fun v q => nomatch q⟩
    · rw [q]; exact ⟨_, hTO, fun v q => nomatch q⟩
    · rw [q]; exact h1.obj
    · rw [q]; exact h2.obj
    · rw [q]; exact h3.obj
  · obtain ⟨hz, hTI, ⟨x, y, z, hTO⟩, h1, h2, h3⟩ := st
    exact ⟨q _ (by simp) _ hz, q _ (by simp) _ hTI, ⟨x, y, z, q _ (by simp) _ hTO⟩, h1.keep (q _ (by simp)), h2.keep (q _ (by simp)), h3.keep (q _ (by simp))⟩
  · subst hK
    obtain ⟨xs, ys, zs, x, y, z, q1, q2, q3, g1, g2, g3, e⟩ := h
    obtain ⟨xs', ys', zs', x', y', z', q1', q2', q3', g1', g2', g3', e'⟩ := h'
    rw [sq_inj I q1 q1', g1'] at g1
    rw [sq_inj I q2 q2', g2'] at g2
    rw [sq_inj I q3 q3', g3'] at g3
    cases g1; cases g2; cases g3
    rw [e, e']
  · subst hP hw hK
    have seqs : ∃ xs ys zs, Sq X.K k1 H a xs ∧ Sq X.K k2 H b ys ∧ Sq X.K k3 H c zs := by
      rcases hg with ⟨r, xs, ys, zs, x, y, z, q1, q2, q3, _⟩ | ⟨xs, ys, zs, q1, q2, q3, _⟩
      · exact ⟨xs, ys, zs, q1, q2, q3⟩
      · exact ⟨xs, ys, zs, q1, q2, q3⟩
    obtain ⟨xs, ys, zs, q1, q2, q3⟩ := seqs
    obtain ⟨its1, r1, t1, z1⟩ := sq_inv I q1
    obtain ⟨its2, r2, t2, z2⟩ := sq_inv I q2
    obtain ⟨its3, r3, t3, z3⟩ := sq_inv I q3
    have l1 := r1.length
    have l2 := r2.length
    have l3 := r3.length
    obtain ⟨hz, hTI, hTO, h1, h2, h3⟩ := st
    have W := GoesN.ofWalksT (elts := elts) (k := kk) (pos := tpos) (WalksT.zipD3 (zip_sep3 (N := N) (fp1 := [a]) (fp2 := [b]) (fp3 := [c]) (by simpa using ha) (by simpa using hb) (by simpa using hc)) (sq_draws (prog := X.prog) (w := X.w) (A := X.A.in1) hh k1 N a (Nat.ne_of_lt ha) its1.toArray) (sq_draws (A := X.A.in1) hh k2 (N + 1) b (Nat.ne_of_lt (Nat.lt_succ_of_lt hb)) its2.toArray)
      (sq_draws (A := X.A.in1) hh k3 (N + 2) c (Nat.ne_of_lt (Nat.lt_succ_of_lt (Nat.lt_succ_of_lt hc))) its3.toArray))
    refine ⟨_, _, _, _, W, ⟨hz, hTI, hTO, ⟨h1, t1⟩, ⟨h2, t2⟩, h3, t3⟩, fun h' st' => ⟨st'.1, st'.2.1, st'.2.2.1, st'.2.2.2.1.1, st'.2.2.2.2.1.1, st'.2.2.2.2.2.1⟩, fun ⟨r, xs', ys', zs', x, y, z, q1', q2', q3', g1, g2, g3, e⟩ => ?_, fun ⟨xs', ys', zs', q1', q2', q3', e⟩ => ?_, fun r vals ⟨xs', ys', zs', x, y, z, q1', q2', q3', g1, g2, g3, e⟩ ⟨u, v, w', hu, hv, hw, ev⟩ => ?_⟩
    · rw [← sq_inj I q1 q1'] at g1
      rw [← sq_inj I q2 q2'] at g2
      rw [← sq_inj I q3 q3'] at g3
      have := (List.getElem?_eq_some_iff.mp g1).1
      have := (List.getElem?_eq_some_iff.mp g2).1
      have := (List.getElem?_eq_some_iff.mp g3).1
      simp only [List.size_toArray]
      omega
    · rw [e, ← sq_inj I q1 q1', ← sq_inj I q2 q2', ← sq_inj I q3 q3', l1, l2, l3]
      simp only [List.size_toArray]
    · rw [← sq_inj I q1 q1'] at g1
      rw [← sq_inj I q2 q2'] at g2
      rw [← sq_inj I q3 q3'] at g3
      subst ev
      rw [e]
      exact ⟨.cons (vals_at r1 g1 hu) (.cons (vals_at r2 g2 hv) (.cons (vals_at r3 g3 hw) .nil)), by show 3 ≤ sizeLine; decide⟩

/-! ### sources of loops -/
def seqD : D → Option (List D)
  | .lst ds => some ds
  | .tup ds => some ds
  | _ => none
def zip2D : List D → List D → List D
  | x :: xs, y :: ys => .tup [x, y] :: zip2D xs ys
  | _, _ => []
def zip3D : List D → List D → List D → List D
  | x :: xs, y :: ys, z :: zs => .tup [x, y, z] :: zip3D xs ys zs
  | _, _, _ => []
def enumD : Nat → List D → List D
  | _, [] => []
  | n, x :: xs => .tup [.int (n : Int), x] :: enumD (n + 1) xs
def seqS (S : Sto) : D → Option Itm
  | .lst ds => some (ds, [])
  | .tup ds => some (ds, [])
  | .box n => match S[n]? with
    | some (.lst ds) => some (ds, [(n, .lst ds)])
    | _ => none
  | _ => none
def zip2O : Option Itm → Option Itm → MI
  | some xs, some ys => ret (zip2D xs.1 ys.1, xs.2 ++ ys.2)
  | _, _ => bad
def zip3O : Option (List D) → Option (List D) → Option (List D) → MI
  | some xs, some ys, some zs => retI (zip3D xs ys zs)
  | _, _, _ => bad
def dZip2 : List D → MI
  | [x, y] => fun t S => zip2O (seqS S x) (seqS S y) t S
  | _ => bad
def dZip3 : List D → MI
  | [x, y, z] => zip3O (seqD x) (seqD y) (seqD z)
  | _ => bad
def dEnum : List D → MI
  | [.lst xs] => retI (enumD 0 xs)
  | _ => bad
theorem zip2D_len : ∀ xs ys : List D, (zip2D xs ys).length = min xs.length ys.length
  | [], ys => by simp [zip2D]
  | x :: xs, [] => by simp [zip2D]
  | x :: xs, y :: ys => by rw [zip2D, List.length_cons, List.length_cons, List.length_cons, zip2D_len xs ys]; omega
theorem zip3D_len : ∀ xs ys zs : List D, (zip3D xs ys zs).length = min (min xs.length ys.length) zs.length
  | [], ys, zs => by simp [zip3D]
  | x :: xs, [], zs => by simp [zip3D]
  | x :: xs, y :: ys, [] => by simp [zip3D]
  | x :: xs, y :: ys, z :: zs => by rw [zip3D, List.length_cons, List.length_cons, List.length_cons, List.length_cons, zip3D_len xs ys zs]; omega
theorem enumD_len : ∀ (n : Nat) (xs : List D), (enumD n xs).length = xs.length
  | _, [] => rfl
  | n, x :: xs => by rw [enumD, List.length_cons, List.length_cons, enumD_len]
theorem zip2D_get : ∀ {xs ys : List D} {i : Nat} {d : D}, (zip2D xs ys)[i]? = some d → ∃ x y, xs[i]? = some x ∧ ys[i]? = some y ∧ d = .tup [x, y]
  | [], ys, i, d, h => by simp [zip2D] at h
  | x :: xs, [], i, d, h => by simp [zip2D] at h
  | x :: xs, y :: ys, 0, d, h => ⟨x, y, rfl, rfl, (Option.some.inj h).symm⟩
  | x :: xs, y :: ys, i + 1, d, h => by
    have h : (zip2D xs ys)[i]? = some d := by simpa [zip2D] using h
    simpa using zip2D_get h
theorem zip3D_get : ∀ {xs ys zs : List D} {i : Nat} {d : D}, (zip3D xs ys zs)[i]? = some d → ∃ x y z, xs[i]? = some x ∧ ys[i]? = some y ∧ zs[i]? = some z ∧ d = .tup [x, y, z]
  | [], ys, zs, i, d, h => by simp [zip3D] at h
  | x :: xs, [], zs, i, d, h => by simp [zip3D] at h
  | x :: xs, y :: ys, [], i, d, h => by simp [zip3D] at h
  | x :: xs, y :: ys, z :: zs, 0, d, h => ⟨x, y, z, rfl, rfl, rfl, (Option.some.inj h).symm⟩
  | x :: xs, y :: ys, z :: zs, i + 1, d, h => by
    have h : (zip3D xs ys zs)[i]? = some d := by simpa [zip3D] using h
    simpa using zip3D_get h
theorem enumD_get : ∀ {n : Nat} {xs : List D} {i : Nat} {d : D}, (enumD n xs)[i]? = some d → ∃ x, xs[i]? = some x ∧ d = .tup [.int ((n + i : Nat) : Int), x]
  | n, [], i, d, h => by simp [enumD] at h
  | n, x :: xs, 0, d, h => ⟨x, rfl, (Option.some.inj h).symm⟩
  | n, x :: xs, i + 1, d, h => by
    have h : (enumD (n + 1) xs)[i]? = some d := by simpa [enumD] using h
    obtain ⟨y, h1, h2⟩ := enumD_get h
    exact ⟨y, by simpa using h1, by rw [h2]; congr 4; omega⟩
section
variable {K : PySem.W.Frag} {H H' : Hp} {O O' : Addr → Prop} {b b' : List Addr}
/-- how a sequence stands -/
def SqAt (K : PySem.W.Frag) (H : Hp) (O : Addr → Prop) (b : List Addr) (k : Bool) (a : Addr) (ds : List D) : Prop := ∃ vs, ¬ O a ∧ H a = some (if k = true then .lst vs else .tup vs) ∧ Ats K H O b ds vs
theorem seqD_at {d : D} {ds : List D} {v : V} (h : At K H O b d v) (e : seqD d = some ds) : ∃ k a, v = V.ref a ∧ SqAt K H O b k a ds := by
  cases d with
  | lst xs => cases e; obtain ⟨a, vs, ev, o, r, q⟩ := h; exact ⟨true, a, ev, vs, o, r, q⟩
  | tup xs => cases e; obtain ⟨a, vs, ev, o, r, q⟩ := h; exact ⟨false, a, ev, vs, o, r, q⟩
  | _ => cases e
theorem SqAt.mono {k : Bool} {a : Addr} {ds : List D} (h : SqAt K H O b k a ds) (hs : Stays H O H' O') (hb : b <+: b') : SqAt K H' O' b' k a ds := by
  obtain ⟨vs, o, r, q⟩ := h
  have n : nt (if k = true then HO.lst vs else .tup vs) := by cases k; exact nt_tup; exact nt_lst
  exact ⟨vs, (hs _ _ r n o).2, (hs _ _ r n o).1, q.mono hs hb⟩
theorem SqAt.sq {k : Bool} {a : Addr} {ds : List D} (h : SqAt K H O b k a ds) : ∃ vs, Sq K k H a vs ∧ Ats K H O b ds vs := by
  obtain ⟨vs, o, r, q⟩ := h
  cases k
  · exact ⟨vs, .inl (.inl r), q⟩
  · exact ⟨vs, .inl (.inl r), q⟩
/-- .. or as a box's, that stays -/
def SqW (K : PySem.W.Frag) (H : Hp) (O : Addr → Prop) (b : List Addr) (k : Bool) (a : Addr) (q : Itm) : Prop := (SqAt K H O b k a q.1 ∧ q.2 = []) ∨ (k = true ∧ ∃ n, q.2 = [(n, .lst q.1)] ∧ b[n]? = some a)
theorem SqW.sq {k : Bool} {a : Addr} {q : Itm} (h : SqW K H O b k a q) (hs : Stays H O H' O') (hb : b <+: b') (hc : AncAt K H' O' b' q.2) : ∃ vs, Sq K k H' a vs ∧ Ats K H' O' b' q.1 vs := by
  rcases h with ⟨h, _⟩ | ⟨rfl, n, e, hn⟩
  · exact (h.mono hs hb).sq
  · obtain ⟨p, hp, vs, r, z⟩ := hc (n, .lst q.1) (by rw [e]; exact List.mem_cons_self)
    rw [pre_get hb hn] at hp
    cases hp
    exact ⟨vs, .inl (.inl r), z⟩
theorem seqS_at {T : List (Addr × Str)} {G : Gh} {t : Ev} {S : Sto} {σ : L2.St} {d : D} {q : Itm} {v : V} (R : Rel K T G O b t S σ H) (h : At K H O b d v) (e : seqS S d = some q) : ∃ k a, v = V.ref a ∧ SqW K H O b k a q ∧ ∃ vs, Sq K k H a vs := by
  cases d with
  | lst xs => cases e; obtain ⟨a, vs, ev, o, r, q⟩ := h; exact ⟨true, a, ev, .inl ⟨⟨vs, o, r, q⟩, rfl⟩, vs, .inl (.inl r)⟩
  | tup xs => cases e; obtain ⟨a, vs, ev, o, r, q⟩ := h; exact ⟨false, a, ev, .inl ⟨⟨vs, o, r, q⟩, rfl⟩, vs, .inl (.inl r)⟩
  | box n =>
    obtain ⟨a, ev, hn⟩ := h
    have e : (match S[n]? with
      | some (.lst ds) => some (ds, [(n, .lst ds)])
      | _ => none) = some q := e
    split at e
    · rename_i ds hS
      cases e
      obtain ⟨_, vs, r, z⟩ := R.st n _ a hS hn
      exact ⟨true, a, ev, .inr ⟨rfl, n, rfl, hn⟩, vs, .inl (.inl r)⟩
    · cases e
  | _ => cases e
theorem wk_zip2 {k1 k2 : Bool} {a c : Addr} {xs ys : Itm} (h1 : SqW K H O b k1 a xs) (h2 : SqW K H O b k2 c ys) : Wk K (rowsIt (F2 K k1 k2 a c) (N2 K k1 k2 a c)) H O b (zip2D xs.1 ys.1) (xs.2 ++ ys.2) := fun i H' O' b' hs hb hc => by
  obtain ⟨vs, s1, q1⟩ := h1.sq hs hb fun q hq => hc q (List.mem_append_left _ hq)
  obtain ⟨ws, s2, q2⟩ := h2.sq hs hb fun q hq => hc q (List.mem_append_right _ hq)
  refine ⟨fun e => ⟨vs, ws, s1, s2, by rw [e, zip2D_len, q1.length, q2.length]⟩, fun d hd => ?_⟩
  obtain ⟨x, y, g1, g2, ed⟩ := zip2D_get hd
  obtain ⟨v, e1, a1⟩ := q1.get g1
  obtain ⟨w, e2, a2⟩ := q2.get g2
  have hF : F2 K k1 k2 a c H' i [v, w] := ⟨vs, ws, v, w, s1, s2, e1, e2, rfl⟩
  refine ⟨⟨_, hF⟩, fun z H'' ⟨Tt, r, ez, hT, eH, inj⟩ => .inr ⟨Tt, .tup r, hT, nt_tup, eH, fun hO => ?_⟩⟩
  subst ed
  have e := inj _ hF
  subst e
  have hsx : Stays H' O' H'' O' := fun p o e n q => ⟨by rw [eH, upd_ne (ne_of_none e hT)]; exact e, q⟩
  exact ⟨Tt, _, ez, (fun q => by obtain ⟨u, e⟩ := hO Tt q; rw [hT] at e; cases e), (by rw [eH, upd_same]), v, [w], rfl, a1.mono hsx (List.prefix_refl _), w, [], rfl, a2.mono hsx (List.prefix_refl _), rfl⟩
theorem wk_zip3 {k1 k2 k3 : Bool} {a c f : Addr} {xs ys zs : List D} (h1 : SqAt K H O b k1 a xs) (h2 : SqAt K H O b k2 c ys) (h3 : SqAt K H O b k3 f zs) : Wk K (rowsIt (F3 K k1 k2 k3 a c f) (N3 K k1 k2 k3 a c f)) H O b (zip3D xs ys zs) [] := fun i H' O' b' hs hb _ => by
  obtain ⟨vs, s1, q1⟩ := (h1.mono hs hb).sq
  obtain ⟨ws, s2, q2⟩ := (h2.mono hs hb).sq
  obtain ⟨us, s3, q3⟩ := (h3.mono hs hb).sq
  refine ⟨fun e => ⟨vs, ws, us, s1, s2, s3, by rw [e, zip3D_len, q1.length, q2.length, q3.length]⟩, fun d hd => ?_⟩
  obtain ⟨x, y, z0, g1, g2, g3, ed⟩ := zip3D_get hd
  obtain ⟨v, e1, a1⟩ := q1.get g1
  obtain ⟨w, e2, a2⟩ := q2.get g2
  obtain ⟨u, e3, a3⟩ := q3.get g3
  have hF : F3 K k1 k2 k3 a c f H' i [v, w, u] := ⟨vs, ws, us, v, w, u, s1, s2, s3, e1, e2, e3, rfl⟩
  refine ⟨⟨_, hF⟩, fun z H'' ⟨Tt, r, ez, hT, eH, inj⟩ => .inr ⟨Tt, .tup r, hT, nt_tup, eH, fun hO => ?_⟩⟩
  subst ed
  have e := inj _ hF
  subst e
  have hsx : Stays H' O' H'' O' := fun p o e n q => ⟨by rw [eH, upd_ne (ne_of_none e hT)]; exact e, q⟩
  exact ⟨Tt, _, ez, (fun q => by obtain ⟨u, e⟩ := hO Tt q; rw [hT] at e; cases e), (by rw [eH, upd_same]), v, [w, u], rfl, a1.mono hsx (List.prefix_refl _), w, [u], rfl, a2.mono hsx (List.prefix_refl _), u, [], rfl, a3.mono hsx (List.prefix_refl _), rfl⟩
theorem wk_enum {a : Addr} {xs : List D} (h1 : SqAt K H O b true a xs) : Wk K (Ite K a) H O b (enumD 0 xs) [] := fun i H' O' b' hs hb _ => by
  obtain ⟨vs, s1, q1⟩ := (h1.mono hs hb).sq
  refine ⟨fun e => ⟨vs, s1, by rw [e, enumD_len, q1.length]; exact Nat.le_refl _⟩, fun d hd => ?_⟩
  obtain ⟨x, g1, ed⟩ := enumD_get hd
  obtain ⟨v, e1, a1⟩ := q1.get g1
  refine ⟨⟨vs, v, s1, e1⟩, fun z H'' ⟨Tt, y, ez, hT, eH, inj⟩ => .inr ⟨Tt, .tup [.int (i : Nat), y], hT, nt_tup, eH, fun hO => ?_⟩⟩
  subst ed
  have e := inj _ s1
  rw [e1] at e
  cases e
  have hsx : Stays H' O' H'' O' := fun p o e n q => ⟨by rw [eH, upd_ne (ne_of_none e hT)]; exact e, q⟩
  exact ⟨Tt, _, ez, (fun q => by obtain ⟨u, e⟩ := hO Tt q; rw [hT] at e; cases e), (by rw [eH, upd_same]), _, [v], rfl, by rw [Nat.zero_add]; rfl, v, [], rfl, a1.mono hsx (List.prefix_refl _), rfl⟩
end
section
variable {X : Cx} {T : List (Addr × Str)} {W : WX} {e e2 e3 : Expr} {elts : List Expr} {kk : Nat} {pos p tpos : Pos}
def iZ2 (K : PySem.W.Frag) (ta : TA) : TI := fun σ H R => ta σ H fun vs H1 => ∃ k1 k2 a b xs ys, vs = [.ref a, .ref b] ∧ Sq K k1 H1 a xs ∧ Sq K k2 H1 b ys ∧ R (rowsIt (F2 K k1 k2 a b) (N2 K k1 k2 a b)) H1
theorem pi_z2 {ta : TA} (hg : Gl X "zip") (hm : X.mg "zip" = none) (ha : PA X [e, e2] ta)
    (hs : starEach [e, e2] X.env = (false, eval e X.env) :: starEach [e2] X.env := by rfl) (hpl : (backTo pos (starEach [e2] X.env)).any (·.1) = false := by rfl) :
    PI X (.Tuple elts kk tpos) (.Call (.Name "zip" p) [e, e2] [] pos) (iZ2 X.K ta) := by
  refine ⟨fun pins s σ H R I h => ?_⟩
  refine Call_ (ld_blt I hg hm PyProof.Rows.boot_zip (PyProof.Rows.callWith_type1 (thn (ha.run pos pins s σ H _ I h) fun us s1 ⟨vs, H1, I1, r1, q1⟩ => ?_) hs hpl))
  obtain ⟨k1, k2, a, b, xs, ys, ex, hqx, hqy, q⟩ := q1
  subst ex
  cases r1 with
  | cons r rr =>
    cases rr with
    | cons r' rr =>
      cases rr
      cases r
      cases r'
      obtain ⟨its, rv, p1, _⟩ := sq_inv I1 hqx
      obtain ⟨its2, rv2, p2, _⟩ := sq_inv I1 hqy
      refine zip_begins2 (sq_begins k1 a its.toArray) (sq_begins k2 b its2.toArray) p1 p2 fun h' hz hTI hTO h1 h2 hsz hk => wpAny_pyIter_zip hz ?_
      have I2 : Inv X pins σ H1 { s1 with heap := h' } := I1.kept (t' := s1.toks) hk
      refine ⟨s1.heap.objs.size + 4, [s1.heap.objs.size + 4, s1.heap.objs.size + 2, s1.heap.objs.size + 3, s1.heap.objs.size, s1.heap.objs.size + 1], _, _, H1, rfl, I2, turn_zip2 s1.heap.objs.size (sq_lt p1) (sq_lt p2), ⟨hz, hTI, ⟨_, _, hTO⟩, sq_iter0 h1, sq_iter0 h2⟩, fun c hcm => ?_, q⟩
      have e' : c = s1.heap.objs.size + 4 ∨ c = s1.heap.objs.size + 2 ∨ c = s1.heap.objs.size + 3 ∨ c = s1.heap.objs.size ∨ c = s1.heap.objs.size + 1 := by simpa using hcm
      have hle : s1.heap.objs.size ≤ c := by
        rcases e' with z | z | z | z | z <;> (rw [z]; first | exact Nat.le_add_right _ _ | exact Nat.le_refl _)
      exact I1.fpOk hle (I1.hok.fresh hle)
def iZ3 (K : PySem.W.Frag) (ta : TA) : TI := fun σ H R => ta σ H fun vs H1 => ∃ k1 k2 k3 a b c xs ys zs, vs = [.ref a, .ref b, .ref c] ∧ Sq K k1 H1 a xs ∧ Sq K k2 H1 b ys ∧ Sq K k3 H1 c zs ∧ R (rowsIt (F3 K k1 k2 k3 a b c) (N3 K k1 k2 k3 a b c)) H1
theorem pi_z3 {ta : TA} (hg : Gl X "zip") (hm : X.mg "zip" = none) (ha : PA X [e, e2, e3] ta)
    (hs : starEach [e, e2, e3] X.env = (false, eval e X.env) :: starEach [e2, e3] X.env := by rfl) (hpl : (backTo pos (starEach [e2, e3] X.env)).any (·.1) = false := by rfl) :
    PI X (.Tuple elts kk tpos) (.Call (.Name "zip" p) [e, e2, e3] [] pos) (iZ3 X.K ta) := by
  refine ⟨fun pins s σ H R I h => ?_⟩
  refine Call_ (ld_blt I hg hm PyProof.Rows.boot_zip (PyProof.Rows.callWith_type1 (thn (ha.run pos pins s σ H _ I h) fun us s1 ⟨vs, H1, I1, r1, q1⟩ => ?_) hs hpl))
  obtain ⟨k1, k2, k3, a, b, c, xs, ys, zs, ex, hqx, hqy, hqz, q⟩ := q1
  subst ex
  cases r1 with
  | cons r rr =>
    cases rr with
    | cons r' rr =>
      cases rr with
      | cons r'' rr =>
        cases rr
        cases r
        cases r'
        cases r''
        obtain ⟨its, rv, p1, _⟩ := sq_inv I1 hqx
        obtain ⟨its2, rv2, p2, _⟩ := sq_inv I1 hqy
        obtain ⟨its3, rv3, p3, _⟩ := sq_inv I1 hqz
        refine zip_begins3 (sq_begins k1 a its.toArray) (sq_begins k2 b its2.toArray) (sq_begins k3 c its3.toArray) p1 p2 p3 fun h' hz hTI hTO h1 h2 h3 hsz hk => wpAny_pyIter_zip hz ?_
        have I2 : Inv X pins σ H1 { s1 with heap := h' } := I1.kept (t' := s1.toks) hk
        refine ⟨s1.heap.objs.size + 5, [s1.heap.objs.size + 5, s1.heap.objs.size + 3, s1.heap.objs.size + 4, s1.heap.objs.size, s1.heap.objs.size + 1, s1.heap.objs.size + 2], _, _, H1, rfl, I2, turn_zip3 s1.heap.objs.size (sq_lt p1) (sq_lt p2) (sq_lt p3), ⟨hz, hTI, ⟨_, _, _, hTO⟩, sq_iter0 h1, sq_iter0 h2, sq_iter0 h3⟩, fun c hcm => ?_, q⟩
        have e' : c = s1.heap.objs.size + 5 ∨ c = s1.heap.objs.size + 3 ∨ c = s1.heap.objs.size + 4 ∨ c = s1.heap.objs.size ∨ c = s1.heap.objs.size + 1 ∨ c = s1.heap.objs.size + 2 := by simpa using hcm
        have hle : s1.heap.objs.size ≤ c := by
          rcases e' with z | z | z | z | z | z <;> (rw [z]; first | exact Nat.le_add_right _ _ | exact Nat.le_refl _)
        exact I1.fpOk hle (I1.hok.fresh hle)
theorem pit_zip2 {m : MA} (hg : Gl X "zip") (hm : X.mg "zip" = none) (ha : PAs X T W [e, e2] m)
    (hs : starEach [e, e2] X.env = (false, eval e X.env) :: starEach [e2] X.env := by rfl) (hpl : (backTo pos (starEach [e2] X.env)).any (·.1) = false := by rfl) :
    PIt X T W (.Tuple elts kk tpos) (.Call (.Name "zip" p) [e, e2] [] pos) (bnd m dZip2) := by
  refine ⟨_, pi_z2 hg hm ha hs hpl, fun {σ H Rr G O b t S} R hh => ?_⟩
  refine useA R hh fun O1 b1 ds t1 S1 H1 vs R1 hb1 s1 hv h1 => ?_
  unfold dZip2 at h1
  split at h1
  · rename_i x y
    generalize ex : seqS S1 x = ox at h1
    generalize ey : seqS S1 y = oy at h1
    unfold zip2O at h1
    split at h1
    · rename_i xs ys
      obtain ⟨v, _, ev, q1, w, _, ew, q2, e0⟩ := hv
      obtain ⟨k1, a, e1, a1, us, g1⟩ := seqS_at R1 q1 ex
      obtain ⟨k2, c, e2, a2, ws, g2⟩ := seqS_at R1 q2 ey
      refine ⟨k1, k2, a, c, us, ws, by rw [ev, ew, e0, e1, e2], g1, g2, Post.here h1 R1 _ (wk_zip2 a1 a2)⟩
    · exact h1.elim
  · exact h1.elim
theorem pit_zip3 {m : MA} (hg : Gl X "zip") (hm : X.mg "zip" = none) (ha : PAs X T W [e, e2, e3] m)
    (hs : starEach [e, e2, e3] X.env = (false, eval e X.env) :: starEach [e2, e3] X.env := by rfl) (hpl : (backTo pos (starEach [e2, e3] X.env)).any (·.1) = false := by rfl) :
    PIt X T W (.Tuple elts kk tpos) (.Call (.Name "zip" p) [e, e2, e3] [] pos) (bnd m dZip3) := by
  refine ⟨_, pi_z3 hg hm ha hs hpl, fun {σ H Rr G O b t S} R hh => ?_⟩
  refine useA R hh fun O1 b1 ds t1 S1 H1 vs R1 hb1 s1 hv h1 => ?_
  unfold dZip3 at h1
  split at h1
  · rename_i x y z
    generalize ex : seqD x = ox at h1
    generalize ey : seqD y = oy at h1
    generalize ez : seqD z = oz at h1
    unfold zip3O at h1
    split at h1
    · rename_i xs ys zs
      obtain ⟨v, _, ev, q1, w, _, ew, q2, u, _, eu, q3, e0⟩ := hv
      obtain ⟨k1, a, e1, a1⟩ := seqD_at q1 ex
      obtain ⟨k2, c, e2, a2⟩ := seqD_at q2 ey
      obtain ⟨k3, f, e3, a3⟩ := seqD_at q3 ez
      obtain ⟨us, g1, _⟩ := a1.sq
      obtain ⟨ws, g2, _⟩ := a2.sq
      obtain ⟨ts, g3, _⟩ := a3.sq
      refine ⟨k1, k2, k3, a, c, f, us, ws, ts, by rw [ev, ew, eu, e0, e1, e2, e3], g1, g2, g3, Post.here h1 R1 _ (wk_zip3 a1 a2 a3)⟩
    · exact h1.elim
  · exact h1.elim
theorem pit_enum {m : MA} (hg : Gl X "enumerate") (hm : X.mg "enumerate" = none) (ha : PAs X T W [e] m) (hs : starEach [e] X.env = [(false, eval e X.env)] := by rfl) :
    PIt X T W (.Tuple elts kk tpos) (.Call (.Name "enumerate" p) [e] [] pos) (bnd m dEnum) := by
  refine ⟨_, pi_enum hg hm ha hs, fun {σ H Rr G O b t S} R hh => ?_⟩
  refine useA R hh fun O1 b1 ds t1 S1 H1 vs R1 hb1 s1 hv h1 => ?_
  unfold dEnum at h1
  split at h1
  · rename_i xs
    obtain ⟨v, _, ev, q1, e0⟩ := hv
    obtain ⟨a, us, e1, o, r, q⟩ := q1
    exact ⟨a, us, by rw [ev, e0, e1], .inl (.inl r), Post.here h1 R1 _ (wk_enum ⟨us, o, r, q⟩)⟩
  · exact h1.elim
end
end TD

set_option Elab.async false
set_option linter.all false
set_option maxRecDepth 100000
set_option maxHeartbeats 1000000
set_option autoImplicit false
namespace TD
open PySem PySem.Spec PyProof.Rows L2

/-! ### try with several clauses, some of them with a name -/
/-- how a clause's suite begins and ends: with a name at slot i, or without -/
def inS : Option Nat → Addr → L2.St → L2.St
  | none, _, σ => σ
  | some i, a, σ => σ.set i (some (.ref a))
def outS : Option Nat → L2.St → L2.St
  | none, σ => σ
  | some i, σ => σ.set i none
def outE (o : Option Nat) (E : Ends) : Ends := { nx := fun σ H => E.nx (outS o σ) H, rt := E.rt, bk := fun σ H => E.bk (outS o σ) H, ct := fun σ H => E.ct (outS o σ) H }
abbrev Cla := Value × Option Nat × (Addr → Value → Option Addr → TS)
def wCla (K : PySem.W.Frag) (Wr : WX) (E : Ends) : List Cla → WX
  | [] => Wr
  | (c, o, ts) :: r => fun cls d σ H => ∃ hit, PySem.W.exmOne K cls c = some hit ∧ (hit = true → ∀ a, H a = none → ts a cls d (outE o E) (inS o a σ) H) ∧ (hit = false → wCla K Wr E r cls d σ H)
/-- of a frame of n slots -/
def wLen (n : Nat) (W : WX) : WX := fun cls d σ H => σ.length = n → W cls d σ H
/-- the name of a clause -/
def NmOk (X : Cx) : Option Str → Option Nat → Prop
  | none, none => True
  | some n, some i => X.N[i]? = some n ∧ X.env.kindOf n = some .local
  | _, _ => False
inductive ClaOk (X : Cx) : List ExceptHandler → List Cla → Prop
  | nil : ClaOk X [] []
  | cons {x : Str} {c : Value} {o : Option Nat} {n : Option Str} {ts : Addr → Value → Option Addr → TS} {st : Stmt} {sts : List Stmt} {p1 p2 : Pos} {hs : List ExceptHandler} {l : List Cla} (hc : Names X x c) (hn : NmOk X n o)
      (hb : ∀ (a : Addr) (oe : Obj) (cls : Value) (d : Option Addr) (pn : List (Addr × Obj)), Zc cls d oe → (∃ vs, oe.data = .fields vs) → PSs (X.suite a ((a, oe) :: pn)) (st :: sts) (ts a cls d)) (r : ClaOk X hs l) :
      ClaOk X (.ExceptHandler (some (.Name x p1)) n (st :: sts) p2 :: hs) ((c, o, ts) :: l)
section
variable {X : Cx} {body : List Stmt} {h₀ : ExceptHandler} {hds : List ExceptHandler} {cl : List Cla} {pos : Pos} {tb : WX → TS} {Wr : WX} {pins : List (Addr × Obj)} {σ1 : L2.St} {H1 : Hp} {sI : Shared} {B : Heap} {a : Addr} {cls : Value} {d : Option Addr} {E : Ends}
/-- the clauses looked at, one after the other -/
theorem cla_go (hst : X.stack = X.env :: X.outer) (hf : X.env.frame = some X.env.locals) (hN : X.N.Nodup) (ok : X.Ok) (tk : Takes X Wr) (J : Inv X pins σ1 H1 sI) (nb : ∀ b o, sI.heap.get? b = some o → b ∉ frs X.stack → B.get? b = some o) (na : H1 a = none) {hs : List ExceptHandler} {l : List Cla} (hk : ClaOk X hs l) :
    ∀ {s3 : Shared}, sI.heap.UpToSlots s3.heap → HandSPX.FlyingZ B (X.env :: X.outer) a (Zc cls d) s3.heap → s3.os = sI.os → AllBare s3.gens → wCla X.K Wr E l cls d σ1 H1 → wpAny (model X.prog X.w) X.A (handleBy (.ref a) X.env hs) (SP X pins E) X.xe s3 := by
  induction hk with
  | nil =>
    intro s3 up fl os ag w
    refine wpAny_handleBy_nil ?_
    obtain ⟨_, _, _, o3, v3, _, _, _, g1, _, g3, g4, _⟩ := id fl
    unfold PySem.passOn
    refine wpAny_bind (wpAny_field g1 g3 g4 ?_)
    rw [if_neg (show ¬ ((Value.ref _ == Value.none) = true) from by simp)]
    have out : wpAny (model X.prog X.w) X.A (setFlight (.ref a) X.env.frame) (fun _ s4 => wpAny (model X.prog X.w) X.A (throw (.ref a) : Sem Flow) (SP X pins E) X.xe s4) X.xe s3 := by
      rw [hf]
      refine HandSPX.setFlight_upZ fl fun h4 hd4 up4 => wpAny_throw (tk _ _ ⟨a, B, sI, pins, σ1, H1, cls, d, rfl, J, nb, up.trans up4, .inr (.inr ?_), na, os, ag, w⟩)
      rw [hst]; exact hd4
    first
      | exact wpAny_bind (wpAny_pure (wpAny_bind out))
      | exact wpAny_bind out
  | @cons x c o n ts st sts p1 p2 hs l hc hn hb r ih =>
    intro s3 up fl os ag ⟨hit, hm, hyes, hno⟩
    have J3 : Inv X pins σ1 H1 s3 := J.landed nb fl.1 up os ag
    obtain ⟨o3, v3, g3, z3, d3⟩ := fl.there
    have apart : ∀ {h : Heap} {ox : Obj} {vs : Array Value}, h.FunFrames B (X.env :: X.outer) → h.get? a = some ox → ox.data = .fields vs → a ∉ frs (X.env :: X.outer) := fun {h ox vs} ff e dd hm => by
      obtain ⟨_, oy, ey, bad⟩ := ff.mem hm
      rw [e] at ey
      cases ey
      exact bad _ dd
    have nfr := apart fl.2.2.1 g3 d3
    have nL : a ≠ X.env.locals := fun z => nfr (List.mem_filterMap.mpr ⟨X.env, List.mem_cons_self, by rw [hf, z]⟩)
    have nF : a ∉ X.fs := fun hm => by
      obtain ⟨en, he, q⟩ := List.mem_filterMap.mp hm
      exact nfr (List.mem_filterMap.mpr ⟨en, List.mem_cons_of_mem _ he, q⟩)
    have S3 := J3.suite g3 d3 na nL nF
    refine wpAny_handleBy_cons (codeAny_handlers_test ?_) (by intro q; cases q)
    have looks : PySem.W.Looks (model X.prog X.w) s3.heap (typeOf (.ref a)) cls := fun A Q E s k q => wpAny_typeOf_ref (k _ _ g3) (by rw [z3.1]; exact q)
    have name : ∀ {Q : Value → Shared → Prop} {E' : Value → Shared → Prop}, Q c s3 → wpAny (model X.prog X.w) (X.A.mark (some (.ref a))) (eval (.Name x p1) X.env) Q E' s3 := fun {Q E'} q => by
      obtain ⟨c1, c2, c3 | ⟨c3, c4, c5⟩⟩ := hc
      · exact ld_glob (X := X.suite a ((a, o3) :: (X.pn ++ pins))) S3 c1 c3 q c2
      · exact ld_blt (X := X.suite a ((a, o3) :: (X.pn ++ pins))) S3 c1 c3 c4 q c5 c2
    refine name ((PySem.W.exm_one (M := model X.prog X.w) J3.kIn looks hm).here ?_)
    cases hit with
    | false =>
      show wpAny _ X.A (handleBy (.ref a) X.env hs) _ _ _
      exact ih up fl os ag (hno rfl)
    | true =>
      have again : ∀ {h4 : Heap}, HandSPX.FlyingZ B (X.env :: X.outer) a (Zc cls d) h4 → s3.heap.UpToSlots h4 → ∃ o4, Zc cls d o4 ∧ (∃ vs, o4.data = .fields vs) ∧ Inv (X.suite a ((a, o4) :: (X.pn ++ pins))) [] σ1 H1 { s3 with heap := h4 } := fun {h4} fl4 up4 => by
        obtain ⟨o4, v4, g4, z4, d4⟩ := fl4.there
        have J4 : Inv X pins σ1 H1 { s3 with heap := h4 } := J.landed nb fl4.1 (up.trans up4) os ag
        exact ⟨o4, z4, ⟨_, d4⟩, J4.suite g4 d4 na nL nF⟩
      cases o with
      | none =>
        cases n with
        | some n => exact hn.elim
        | none =>
          refine codeAny_handlers_suite (HandSPX.lands_againZ fl fun h4 fl4 up4 => ?_)
          obtain ⟨o4, z4, d4, S4⟩ := again fl4 up4
          refine wpAny_mono ((hb a o4 cls d (X.pn ++ pins) z4 d4).run [] _ _ H1 _ S4 (hyes rfl a na)) (fun f s6 hsp => ?_) (fun _ _ z => False.elim z)
          cases f with
          | ret u => obtain ⟨v6, σ6, H6, S6, r6, q6⟩ := hsp; exact ⟨_, _, _, S6.unsuite ok, r6, q6⟩
          | next => obtain ⟨σ6, H6, S6, q6⟩ := hsp; exact ⟨_, _, S6.unsuite ok, q6⟩
          | brk => obtain ⟨σ6, H6, S6, q6⟩ := hsp; exact ⟨_, _, S6.unsuite ok, q6⟩
          | cont => obtain ⟨σ6, H6, S6, q6⟩ := hsp; exact ⟨_, _, S6.unsuite ok, q6⟩
      | some i =>
        cases n with
        | none => exact hn.elim
        | some n =>
          obtain ⟨hi, hl⟩ := hn
          refine codeAny_handlers_suite_as (HandSPX.lands_againZ fl fun h4 fl4 up4 => ?_)
          obtain ⟨o4, z4, d4, S4⟩ := again fl4 up4
          refine store_ok (X := X.suite a ((a, o4) :: (X.pn ++ pins))) (v := .ref a) S4 hN hi (.inl hl) rfl (fun s5 S5 => ?_) (.inr hl)
          refine wpAny_mono ((hb a o4 cls d (X.pn ++ pins) z4 d4).run [] s5 _ H1 _ S5 (hyes rfl a na)) (fun f s6 hsp => ?_) (fun _ _ z => False.elim z)
          have fin : ∀ {σ6 : L2.St} {H6 : Hp} {Q : Shared → Prop}, Inv (X.suite a ((a, o4) :: (X.pn ++ pins))) [] σ6 H6 s6 → (∀ s7, Inv X pins (σ6.set i none) H6 s7 → Q s7) → wpAny (model X.prog X.w) X.A (do bindName X.env n .none; unbindBehindTheSuite X.env n p2) (fun _ s7 => Q s7) X.xe s6 :=
            fun {σ6 H6 Q} S6 hq => gone_ok (S6.unsuite ok) hN hi hl hq
          cases f with
          | ret u => obtain ⟨v6, σ6, H6, S6, r6, q6⟩ := hsp; exact fin S6 fun s7 J7 => ⟨_, _, _, J7, r6, q6⟩
          | next => obtain ⟨σ6, H6, S6, q6⟩ := hsp; exact fin S6 fun s7 J7 => ⟨_, _, J7, q6⟩
          | brk => obtain ⟨σ6, H6, S6, q6⟩ := hsp; exact fin S6 fun s7 J7 => ⟨_, _, J7, q6⟩
          | cont => obtain ⟨σ6, H6, S6, q6⟩ := hsp; exact fin S6 fun s7 J7 => ⟨_, _, J7, q6⟩
theorem ps_try_cla (hst : X.stack = X.env :: X.outer) (hf : X.env.frame = some X.env.locals) (hN : X.N.Nodup) (tk : Takes X Wr)
    (hb : ∀ (W : WX) (pn : List (Addr × Obj)) (xe : Value → Shared → Prop), Takes (X.tr pn xe) W → PassesOwn (model X.prog X.w) X.A X.env xe → PSs (X.tr pn xe) body (tb W))
    (hh : ClaOk X (h₀ :: hds) cl) : PS X (.Try body (h₀ :: hds) [] [] pos) (fun E σ H => tb (wLen X.N.length (wCla X.K Wr E cl)) E σ H) := by
  refine ⟨fun pins s σ H E I h => ?_⟩
  have ok := I.ok
  have hfr : X.A.frames = some (X.env :: X.outer) := by rw [ok.frames, hst]
  refine wpAny_Try_except (wpAny_mono ((hb (wLen X.N.length (wCla X.K Wr E cl)) (X.pn ++ pins) _ (fun u s' xx => ?_) PassesOwn.looking).run [] s σ H E (I.toTry _) h) (fun f s1 hsp => ?_) (fun e s1 he => he))
  · obtain ⟨a, B, sI, pins', σ1, H1, cls, d, rfl, J', nb, up, sky, na, os, ag, w⟩ := xx
    have sky1 : Sky B (X.env :: X.outer) a (Zc cls d) X.env.locals s'.heap := by rw [← hst]; exact sky
    exact Sky.land Zc.steady hfr hf sky1 fun h3 fl3 up3 => cla_go (s3 := { s' with heap := h3 }) hst hf hN ok tk (J'.ofTry ok) nb na hh (up.trans up3) fl3 os ag (w J'.len)
  · cases f with
    | ret u => obtain ⟨v, σ1, H1, J1, r, q⟩ := hsp; exact ⟨v, σ1, H1, J1.ofTry ok, r, q⟩
    | next => obtain ⟨σ1, H1, J1, q⟩ := hsp; exact wpAny_execs_nil ⟨σ1, H1, J1.ofTry ok, q⟩
    | brk => obtain ⟨σ1, H1, J1, q⟩ := hsp; exact ⟨σ1, H1, J1.ofTry ok, q⟩
    | cont => obtain ⟨σ1, H1, J1, q⟩ := hsp; exact ⟨σ1, H1, J1.ofTry ok, q⟩
end
end TD

set_option Elab.async false
set_option linter.all false
set_option maxRecDepth 100000
set_option maxHeartbeats 1000000
set_option autoImplicit false
namespace TD
open PySem PySem.Spec PyProof.Rows L2

/-! ### own exceptions of one field -/
theorem oexB_ok {K : PySem.W.Frag} {C : Addr} (h : oexB K C = true) : OexC K C := by
  unfold oexB at h
  simp only [Bool.and_eq_true, decide_eq_true_eq] at h
  obtain ⟨⟨⟨⟨h1, h2⟩, h3⟩, h4⟩, h5⟩ := h
  refine ⟨?_, h2, h3, h4, h5⟩
  split at h1
  · rename_i o ho
    split at h1
    · rename_i cd k0 k1 k2 k3 n k5 e1 e2 e3
      split at h1
      · rename_i C' bm em
        simp only [Bool.and_eq_true, decide_eq_true_eq, Bool.not_eq_true'] at h1
        obtain ⟨⟨⟨⟨q1, q2⟩, q3⟩, q4⟩, q5⟩ := h1
        obtain ⟨nm, bs, mro, ns, qn, hd, sn, sub, ab, col, del⟩ := cd
        dsimp only at em q3 q4
        subst em q3 q4 q1 q2
        obtain ⟨oc, od, dt, sl⟩ := o
        dsimp only at e1 e2 e3
        subst e1 e2
        have hsl : sl = #[k0, k1, k2, k3, some (.builtin "ValueError.__new__"), k5] := by
          obtain ⟨l⟩ := sl
          simp only at e3
          rw [e3]
        subst hsl
        exact ⟨nm, qn, ns, bs, bm, sn, sub, ab, col, od, k0, k1, k2, k3, k5, ho, q5⟩
      · cases h1
    · cases h1
  · cases h1
/-- the __init__ of such a class: self.f = .. -/
def initSp (C : Addr) (f : Str) : Sp := fun vs H Q _ => ∃ a v, vs = [.ref a, v] ∧ H a = some (exo a C none) ∧ ∀ d, H d = none → d ≠ a → Q .non (upd (upd H d (exd d [(f, v)])) a (exo a C (some d)))
/-- an own exception class c whose instances bear the field f -/
structure ExD (P : Program) (w : World) (K : PySem.W.Frag) (mg : Str → Option Value) (base : Heap) (c f : Str) (k : Nat) : Prop where
  b : exB K c f = true
  gl : mg c = some (.ref (He.ga K c))
  init : ∃ fd ps, FnOk P w K mg base (fun _ _ _ _ _ _ => False) k (He.ma K (He.ga K c) "__init__") fd ps (initSp (He.ga K c) f) ∧ L2.Binds K fd ps []
theorem exB_ok {K : PySem.W.Frag} {c f : Str} (h : exB K c f = true) : OexC K (He.ga K c) ∧ XfC K (He.ga K c) ∧ PySem.W.findIn K (.ref (He.ga K c)) f = some none ∧ PySem.W.findIn K (.ref (He.ga K c)) "__init__" = some (some (.ref (He.ma K (He.ga K c) "__init__"))) ∧ PySem.W.typeIn K (.ref (He.ma K (He.ga K c) "__init__")) = some (.type "function") := by
  unfold exB at h
  simp only [Bool.and_eq_true, decide_eq_true_eq] at h
  obtain ⟨⟨⟨⟨h1, h2⟩, h3⟩, h4⟩, h5⟩ := h
  exact ⟨oexB_ok h1, xfB_ok h2, h3, h4, h5⟩
/-- the text of such an __init__ -/
theorem init_ok {P : Program} {w : World} {K : PySem.W.Frag} {mg : Str → Option Value} {base : Heap} {qual sf x f : Str} {params : Arguments} {scope : Scope} {g : Addr} {fd : FuncData} {C : Addr} {p1 p2 p3 p4 : Pos}
    (F : FunD K "__init__" qual params [.Assign [.Attribute (.Name sf p1) f p2] (.Name x p3) p4] scope [] [] g fd) (T : OexC K C) (hno : PySem.W.findIn K (.ref C) f = some none) (S : FnScope [sf, x] [sf, x] scope)
    (h1 : (sf == ("__debug__" : Str)) = false) (h2 : (sf == ("__classdict__" : Str)) = false) (h3 : (x == ("__debug__" : Str)) = false) (h4 : (x == ("__classdict__" : Str)) = false)
    (hs : ∀ env, swapsWith (.Name x p3) (some (.Attribute (.Name sf p1) f p2)) p4.line env = pure false) : FnOk P w K mg base (fun _ _ _ _ _ _ => False) 1 g fd [sf, x] (initSp C f) := by
  refine F.ok S (fun vs H Q E h => ?_) fun cdv A outer s H vs Q E hr h => ?_
  · obtain ⟨a, v, rfl, _⟩ := h
    rfl
  · have vis : ∀ y ∈ [sf, x], Vis scope y := fun y hy => (S.par y hy).elim .inl fun z => .inr (.inl z)
    refine ⟨_, PSs.nox (pss_one (ps_ost (pe_var (i := 0) rfl (vis _ (by simp)) h1 h2) (pe_var (i := 1) rfl (vis _ (by simp)) h3 h4) (hs _))), ?_⟩
    obtain ⟨a, v, rfl, ea, hq⟩ := h
    refine ⟨v, rfl, .ref a, rfl, a, C, rfl, T, hno, .inl ⟨ea, fun dx n1 n2 => hq dx n1 n2⟩⟩
section
variable {X : Cx} {T : List (Addr × Str)} {W : WX} {e : Expr} {es : List Expr} {pos p pos2 : Pos} {c f : Str}
def sRaise (c f : Str) (m : ME) : MS := eb m fun d => fun t S => .ex c [(f, d)] t S
/-- raise c(e) -/
theorem pst_raise {m : ME} {k : Nat} (hcalm : X.calm = true) (D : ExD X.prog X.w X.K X.mg X.base c f k) (hr : Room (k + 1) X.A) (tk : Takes X W) (he : PD X T W e m) (hg : Gl X c := by rfl)
    (hdb : (c == ("__debug__" : Str)) = false := by decide) (hse : starEach (e :: []) X.env = (false, eval e X.env) :: starEach [] X.env := by rfl) (hpl : (backTo pos (starEach [] X.env)).any (·.1) = false := by rfl) :
    PSt X T W (.Raise (some (.Call (.Name c p) [e] [] pos)) none pos2) (sRaise c f m) := by
  obtain ⟨To, _, hno, iC, tI⟩ := exB_ok D.b
  obtain ⟨fd, ps, G1, B⟩ := D.init
  refine PS.imp' (ps_raise hcalm tk (pmk_oex To iC tI G1 hr B .nil (fun _ _ _ _ _ _ _ z => z.elim) hg D.gl (pa_cons he pa_nil hse) hdb hse hpl)) fun Dn σ H ⟨G, O, b, t, S, R, h⟩ => ?_
  refine ⟨G, O, b, t, S, R, (PostS.bnd (σ := σ) h).imp fun O1 b1 x t1 S1 H1 R1 hb1 s1 h1 v hv => ?_⟩
  obtain ⟨O2, R2, s2, a2⟩ := R1.share hv
  refine ⟨by show 1 ≤ 1000; omega, fun a ha => ⟨a, v, rfl, upd_same, fun d hd hda => ⟨rfl, d, [(f, v)], by rw [upd_same], by rw [upd_ne hda, upd_same], ?_, ?_⟩⟩⟩
  · rw [upd_ne hda] at hd; exact hd
  · have hd1 : H1 d = none := by rw [upd_ne hda] at hd; exact hd
    have eH : upd (del (upd (upd (upd H1 a (exo a (He.ga X.K c) none)) d (exd d [(f, v)])) a (exo a (He.ga X.K c) (some d))) a) d (.xd [(f, v)]) = upd H1 d (.xd [(f, v)]) := by
      funext q
      by_cases h1 : q = d
      · rw [h1, upd_same, upd_same]
      · rw [upd_ne h1, upd_ne h1]
        by_cases h2 : q = a
        · rw [h2, del_same, ha]
        · rw [del_ne h2, upd_ne h2, upd_ne h1, upd_ne h2]
    rw [eH]
    obtain ⟨R3, s3⟩ := R2.new (o := .xd [(f, v)]) hd1 nt_xd
    exact PostS.later h1 (List.prefix_refl _) s2 σ _ O2 b1 d _ R3 (List.prefix_refl _) s3 upd_same ⟨v, [], rfl, a2.mono s3 (List.prefix_refl _), rfl⟩
end
end TD

set_option Elab.async false
set_option linter.all false
set_option maxRecDepth 100000
set_option maxHeartbeats 1000000
set_option autoImplicit false
namespace TD
open PySem PySem.Spec PyProof.Rows L2

/-! ### a def keeps its promise -/
def endF : R Fl → FR
  | .ok .nx _ S => .ok .non false S
  | .ok (.rt d f) _ S => .ok d f S
  | .ok _ _ _ => .bad
  | .ex c fs _ S => .ex c fs S
  | .bad => .bad
/-- what a body of n slots computes -/
def fnD (n : Nat) (m : MS) : Fn := fun ds S => endF (m (ds.map Slot.sh ++ List.replicate (n - ds.length) .no) S)
theorem start_rel {K : PySem.W.Frag} {T : List (Addr × Str)} {O : Addr → Prop} {b : List Addr} {S : Sto} {H : Hp} {ds : List D} {vs : List V} {N : List Str} (R : Rel K T ⟨H, O, b, []⟩ O b [] S [] H) (hv : Ats K H O b ds vs) :
    Rel K T ⟨H, O, b, []⟩ O b (ds.map Slot.sh ++ List.replicate (N.length - ds.length) .no) S (L2.start N vs) H := by
  have hl := hv.length
  refine R.reslot (by unfold L2.start; rw [List.length_append, List.length_append, List.length_map, List.length_map, List.length_replicate, List.length_replicate, hl]) fun i s e => .inr ?_
  by_cases hi : i < ds.length
  · rw [List.getElem?_append_left (by rw [List.length_map]; exact hi), List.getElem?_map] at e
    obtain ⟨d, e1, e2⟩ := Option.map_eq_some_iff.mp e
    obtain ⟨v, e3, q⟩ := hv.get e1
    subst e2
    refine ⟨fun d z => (nomatch z), some v, ?_, v, rfl, q⟩
    unfold L2.start
    rw [List.getElem?_append_left (by rw [List.length_map, hl]; exact hi), List.getElem?_map, e3]
    rfl
  · rw [List.getElem?_append_right (by rw [List.length_map]; omega), List.length_map] at e
    have hs : s = .no := by
      rw [List.getElem?_replicate] at e
      split at e
      · exact (Option.some.inj e).symm
      · cases e
    subst hs
    have hlt : i - ds.length < N.length - ds.length := by
      rw [List.getElem?_replicate] at e
      split at e
      · assumption
      · cases e
    refine ⟨fun d z => (nomatch z), none, ?_, trivial⟩
    unfold L2.start
    rw [List.getElem?_append_right (by rw [List.length_map, hl]; omega), List.length_map, hl, List.getElem?_replicate, if_pos hlt]
/-- how a run's end is told to the caller -/
theorem end_sp {K : PySem.W.Frag} {T : List (Addr × Str)} {O : Addr → Prop} {b : List Addr} {H : Hp} {Q : VK} {E : XK} {r : R Fl}
    (h : match endF r with
      | .ok d f S' => ∀ (v : V) (H' : Hp) (O' : Addr → Prop) (b' : List Addr), Rel K T ⟨H, O, b, []⟩ O' b' [] S' [] H' → Val K ⟨H, O, b, []⟩ O' b' [] [] H' v (d, f) → Q v H'
      | .ex c fs S' => ∀ (H' : Hp) (O' : Addr → Prop) (b' : List Addr) (d : Addr) (xs : List (Str × V)), Rel K T ⟨H, O, b, []⟩ O' b' [] S' [] H' → H' d = some (.xd xs) → Atf K H' O' b' fs xs → E (.ref (He.ga K c)) (some d) H'
      | .bad => False) : PostS K T (fun cls d _ H => E cls d H) ⟨H, O, b, []⟩ O b H r { nx := fun _ H' => Q .non H', rt := Q } := by
  cases r with
  | bad => exact h
  | ex c fs t S' => exact fun σ' H' O' b' d xs R' _ _ hd hf => h H' O' b' d xs R'.drop hd hf
  | ok fl t S' =>
    cases fl with
    | nx => exact fun σ' H' O' b' R' _ _ => h .non H' O' b' R'.drop (.inl ⟨rfl, rfl⟩)
    | bk => exact h.elim
    | ct => exact h.elim
    | rt d f =>
      intro v σ' H' O' b' R' _ _ hv
      refine h v H' O' b' R'.drop ?_
      rcases hv with ⟨e, hv⟩ | ⟨e, p, ev, hv⟩
      · exact .inl ⟨e, hv⟩
      · exact .inr ⟨e, p, ev, hv.o, hv.own, hv.fr, fun i q w _ => by obtain ⟨⟨d, e⟩, _⟩ := w; simp at e, hv.nb, hv.nq⟩
section
variable {P : Program} {w : World} {K : PySem.W.Frag} {mg : Str → Option Value} {base : Heap} {T : List (Addr × Str)} {x : Str} {N ps : List Str} {params : Arguments} {body : List Stmt} {scope : Scope} {m : MS} {k : Nat}
abbrev cxD (P : Program) (w : World) (K : PySem.W.Frag) (mg : Str → Option Value) (base : Heap) (N : List Str) (x : Str) (scope : Scope) (A : Around) (outer : List Env) (s : Shared) (H : Hp) (E : XK) : Cx :=
  cxOf (L2.CX P w) P w K mg base N x scope (He.ga K x) (.ref (He.codeOf K (x, none))) A outer s H E
abbrev wE (E : XK) : WX := fun cls d _ H => E cls d H
theorem takesD {A : Around} {outer : List Env} {s : Shared} {H : Hp} {E : XK} : Takes (cxD P w K mg base N x scope A outer s H E) (wE E) := takes_of rfl rfl rfl rfl
theorem passesD {A : Around} {outer : List Env} {s : Shared} {H : Hp} {E : XK} : PassesOwn (model P w) (cxD P w K mg base N x scope A outer s H E).A (cxD P w K mg base N x scope A outer s H E).env (cxD P w K mg base N x scope A outer s H E).xe := passes_of rfl
/-- THE RULE for a def -/
theorem def_of (F : ∃ fd, FunD K x x params body scope [] [] (He.ga K x) fd) (gl : mg x = some (.ref (He.ga K x))) (S : FnScope N ps scope)
    (hb : ∀ (kV doc pm : Value) (an : Option Addr) (cdv ct : Value) (us : List Value), us.length = ps.length → bindArgs (PySem.W.fnOf x x params body scope .none kV doc pm an cdv ct) ⟨us, []⟩ = pure (ps.zip us))
    (hbody : ∀ (A : Around) (outer : List Env) (s : Shared) (H : Hp) (E : XK), Room k (cxD P w K mg base N x scope A outer s H E).A → PBk (cxD P w K mg base N x scope A outer s H E) T (wE E) body m) :
    Def P w K mg base T x ps (fnD N.length m) (k + 1) := by
  obtain ⟨fd, F⟩ := F
  have B := FunD.bindsN F hb
  have kp := F.kp
  obtain ⟨oc, od, dV, kV, doc, pm, an, cdv, ct, osl, rfl, lk, hcd, _, _⟩ := F.ex
  obtain ⟨c, ec⟩ := He.codeIn_ref hcd
  have e2 : cdv = .ref (He.codeOf K (x, none)) := by rw [ec, He.codeOf_eq (p := (x, none)) lk (by rw [ec] <;> rfl)]
  subst e2
  refine ⟨⟨_, fn_of lk hcd S (fun vs H Q E h => h.1) fun A outer s H vs Q E hr hsp => ?_, B⟩, gl, kp⟩
  refine ⟨_, hbody A outer s H E hr, ?_⟩
  obtain ⟨hl, O, b, S0, ds, R, hv, hq⟩ := hsp
  exact ⟨⟨H, O, b, []⟩, O, b, _, S0, start_rel R hv, end_sp hq⟩
end

/-! ### a local name that holds a def -/
def fnOfD (l : List (Str × Fn)) : D → Option Fn
  | .gl x => l.lookup x
  | _ => none
def eCallL (i : Nat) (l : List (Str × Fn)) (ma : MA) : ME := fun t S => match t[i]? with
  | some (.sh d) => match fnOfD l d with
    | some F => bnd ma (call F) t S
    | none => .bad
  | _ => .bad
section
variable {X : Cx} {T : List (Addr × Str)} {W : WX} {e : Expr} {es : List Expr} {pos p : Pos} {x : Str}
theorem pd_callL {i : Nat} {l : List (Str × Fn)} {n k : Nat} {m : MA} (hl : ∀ y F, l.lookup y = some F → ∃ ps, ps.length = n ∧ Def X.prog X.w X.K X.mg X.base T y ps F k) (hr : Room k X.A) (tk : Takes X W) (hN : X.N[i]? = some x) (hv : Vis X.env.scope x) (ha : PAs X T W (e :: es) m) (hal : ∀ t S ds t' S', m t S = .ok ds t' S' → ds.length = n)
    (hdb : (x == ("__debug__" : Str)) = false := by decide) (hcd : (x == ("__classdict__" : Str)) = false := by decide) (he : starEach (e :: es) X.env = (false, eval e X.env) :: starEach es X.env := by rfl) (hpl : (backTo pos (starEach es X.env)).any (·.1) = false := by rfl) :
    PD X T W (.Call (.Name x p) (e :: es) [] pos) (eCallL i l m) := by
  refine ⟨fun pins s σ H Q I ⟨G, O, b, t, S, R, h⟩ => ?_⟩
  unfold eCallL at h
  split at h
  · rename_i d ht
    split at h
    · rename_i F hF
      cases d with
      | gl y =>
        obtain ⟨ps, hps, Dd⟩ := hl y F hF
        obtain ⟨fd, G1, B⟩ := Dd.ok
        obtain ⟨o, e1, v, e2, hv2⟩ := R.sl i _ ht
        rw [e2, hv2.1] at e1
        refine wpAny_Call_Name_kw (thn ((pe_var (pos := p) hN hv hdb hcd).run pins s σ H (fun v H1 => v = .ref (He.ga X.K y) ∧ H1 = H) I ⟨_, e1, rfl, rfl⟩) fun u s1 ⟨v, H1, I1, r1, q1⟩ => ?_)
        obtain ⟨rfl, rfl⟩ := q1
        cases r1
        refine PySem.W.callWith_K (h₀ := X.base) I.ok.mod.kin Dd.kp (thn (ha.run pos pins s1 σ _ (fun vs H1 => spT X.K T F ps.length vs H1 Q (WE W σ)) I1 ?_) fun us s2 ⟨vs, H2, I2, r, q⟩ => ⟨I2.kIn, ?_⟩) he hpl
        · have h0 := Post.bnd h
          refine ⟨G, O, b, t, S, R, ?_⟩
          revert h0
          cases em : m t S with
          | ok ds t' S' => exact fun h0 H' O' b' R' hb hs vs hvs => sp_of R' hvs (by rw [hps]; exact hal t S ds t' S' em) (h0 H' O' b' R' hb hs) fun _ _ _ z => z
          | ex cc fs t' S' => exact fun h0 => h0
          | bad => exact fun h0 => h0
        · exact run_fnS G1 hr B (passAt tk σ) I2 r q
      | _ => cases hF
    · exact h.elim
  · exact h.elim
end

/-! ### a lambda handed to a def that tries it -/
abbrev Tg := Str × Str × Str
def tagT (k : Bool) (tag : Str) (te : TE) : TE := if k = true then tTup (tCons (tC (.str tag)) (tCons te tNil)) else tLst (tCons (tC (.str tag)) (tCons te tNil))
def hoP (k : Bool) (xs : List V) : HO := if k = true then .tup xs else .lst xs
def dP (k : Bool) (ds : List D) : D := if k = true then .tup ds else .lst ds
def claOf (K : PySem.W.Frag) (i : Nat) (k : Bool) (q : Tg) : Cla := (.ref (He.ga K q.1), some i, fun a cls d => tRet (tagT k q.2.1 (tXf a cls d (He.ga K q.1) q.2.2 (tVar i))))
def metX (k : Bool) (tb : List Tg) (c : Str) (fs : List (Str × D)) : Option D := match tb.find? fun q => decide (q.1 = c) with
  | some q => (fs.lookup q.2.2).map fun d => dP k [.str q.2.1, d]
  | none => none
def eMet (k : Bool) (told : Str) (tb : List Tg) (m : ME) : ME := fun t S => match m t S with
  | .ok x t' S' => .ok (dP k [.str told, x.1], false) t' S'
  | .ex c fs t' S' => match metX k tb c fs with
    | some d => .ok (d, false) t' S'
    | none => .bad
  | .bad => .bad
def TTm (K : PySem.W.Frag) (n : Nat) (cl : List Cla) (k : Bool) (told : Str) : (XK → Hp → VK → Prop) → Hp → VK → Prop := fun tl H Q =>
  tl (fun cls d H' => ∀ σ' : L2.St, σ'.length = n → wCla K W0 { nx := fun _ H' => Q .non H', rt := Q } cl cls d σ' H') H fun v H1 => ([V.str told, v] : List V).length ≤ sizeLine ∧ ∀ p, H1 p = none → Q (.ref p) (upd H1 p (hoP k [.str told, v]))
section
variable {X : Cx} {T : List (Addr × Str)} {W : WX}
/-- the clauses of such a def, one by one -/
theorem cla_tag {k : Bool} {c n tag f : Str} {i j : Nat} {p1 p2 p3 p4 p6 p7 : Pos} {mk : List Expr → Expr} {hds : List ExceptHandler} {tb : List Tg} (hmk : ∀ (X : Cx) (es : List Expr) (ta : TA), PA X es ta → PE X (mk es) (if k = true then tTup ta else tLst ta))
    (hb : exB X.K c f = true) (hc : Names X c (.ref (He.ga X.K c))) (hi : X.N[i]? = some n) (hl : X.env.kindOf n = some .local) (r : ClaOk X hds (tb.map (claOf X.K i k)))
    (hat : attributeBase (.Name n p3) f X.env (eval (.Name n p3) X.env) = eval (.Name n p3) X.env := by rfl) (hd : (n == ("__debug__" : Str)) = false := by decide) (hcd : (n == ("__classdict__" : Str)) = false := by decide)
    (hs1 : starEach [.Constant (.str tag) j p2, .Attribute (.Name n p3) f p4] X.env = (false, eval (.Constant (.str tag) j p2) X.env) :: starEach [.Attribute (.Name n p3) f p4] X.env := by rfl) (hs2 : starEach [.Attribute (.Name n p3) f p4] X.env = (false, eval (.Attribute (.Name n p3) f p4) X.env) :: starEach [] X.env := by rfl) :
    ClaOk X (.ExceptHandler (some (.Name c p1)) (some n) [.Return (some (mk [.Constant (.str tag) j p2, .Attribute (.Name n p3) f p4])) p6] p7 :: hds) (((c, tag, f) :: tb).map (claOf X.K i k)) := by
  obtain ⟨_, hxf, hno, _, _⟩ := exB_ok hb
  refine .cons hc ⟨hi, hl⟩ (fun a oe cls d pn hz hf => pss_one (ps_ret ?_)) r
  have he : PE (X.suite a ((a, oe) :: pn)) (.Attribute (.Name n p3) f p4) (tXf a cls d (He.ga X.K c) f (tVar i)) := pe_xf hxf hno hz hf (pe_var hi (.inl hl) hd hcd) hat
  have := hmk (X.suite a ((a, oe) :: pn)) _ _ (pa_cons (pe_str (x := tag)) (pa_cons he pa_nil hs2) hs1)
  unfold tagT
  cases k <;> exact this
/-- the def: try: return (told, a()) / except c as n: return (tag, n.f) .. -/
theorem met_gives {Ng : List Str} {x a q told : Str} {sg : Scope} {g : Addr} {cdg : Value} {k : Bool} {j : Nat} {p1 p2 p3 p5 p8 : Pos} {mk : List Expr → Expr} {h₀ : ExceptHandler} {hds : List ExceptHandler} {cl : List Cla} (hmk : ∀ (X : Cx) (es : List Expr) (ta : TA), PA X es ta → PE X (mk es) (if k = true then tTup ta else tLst ta))
    (hNd : Ng.Nodup) (hn : Ng[0]? = some a) (hh : ∀ (s : Shared) (H : Hp), ClaOk (cxOf C8.CX0 X.prog X.w X.K X.mg X.base Ng x sg g cdg X.A X.stack s H C8.E0).nox (h₀ :: hds) cl)
    (hs1 : ∀ env, starEach [.Constant (.str told) j p5, .Call (.Name a p1) [] [] p2] env = (false, eval (.Constant (.str told) j p5) env) :: starEach [.Call (.Name a p1) [] [] p2] env) (hs2 : ∀ env, starEach [.Call (.Name a p1) [] [] p2] env = (false, eval (.Call (.Name a p1) [] [] p2) env) :: starEach [] env) :
    LamX.GivesTo X Ng x sg g cdg [.Try [.Return (some (mk [.Constant (.str told) j p5, .Call (.Name a p1) [] [] p2])) p3] (h₀ :: hds) [] [] p8] a q (TTm X.K Ng.length cl k told) := by
  intro f c' s H Q tl act hc h
  have h0 : (L2.start Ng [V.ref f])[0]? = some (some (V.ref f)) := rfl
  refine ⟨_, pss_one (ps_try_cla (X := (cxOf C8.CX0 X.prog X.w X.K X.mg X.base Ng x sg g cdg X.A X.stack s H C8.E0).nox) (Wr := W0)
      (tb := fun W D σ H => ∃ Ech : XK, (∀ cls d σ' H', Ech cls d H' → W cls d σ' H') ∧ σ[0]? = some (some (.ref f)) ∧ H c' = some (LamX.CodeO c' q) ∧ tl Ech H fun v H1 => ([V.str told, v] : List V).length ≤ sizeLine ∧ ∀ p, H1 p = none → D.rt (.ref p) (upd H1 p (hoP k [.str told, v])))
      rfl rfl hNd takes0 (fun W pn xe tk _ => ?_) (hh s H)), ?_⟩
  · refine ⟨fun pins s' σ H' D I h' => ?_⟩
    obtain ⟨Ech, hW, h1, h2, h3⟩ := h'
    have hp := act W pn xe Ech p1 p2 tk hW
    have hq := hmk _ _ _ (pa_cons (pe_str (x := told) (j := j) (pos := p5)) (pa_cons hp pa_nil (hs2 _)) (hs1 _))
    refine (pss_one (ps_ret (pos := p3) hq)).run pins s' σ H' D I ?_
    cases k <;> exact ⟨h1, h2, h3⟩
  · exact ⟨_, fun cls d σ' H' z hl => z σ' hl, h0, hc, h⟩
end
end TD

set_option Elab.async false
set_option linter.all false
set_option maxRecDepth 100000
set_option maxHeartbeats 1000000
set_option autoImplicit false
namespace TD
open PySem PySem.Spec PyProof.Rows L2

section
variable {K : PySem.W.Frag} {T : List (Addr × Str)} {G : Gh} {O : Addr → Prop} {b : List Addr} {t : Ev} {S : Sto} {σ : L2.St} {H H' : Hp}
/-- all but the tables stands -/
theorem Rel.grownN (R : Rel K T G O b t S σ H) (hk : LamX.ExtN H H') (hT : LamX.Tabs T H') : Rel K T G O b t S σ H' ∧ Stays H O H' O := by
  have hs : Stays H O H' O := fun a o e n h => ⟨hk a o e n, h⟩
  have z := R.self
  have R1 : Rel K T ⟨H, O, b, []⟩ O b [] S [] H' := by
    refine ⟨rfl, fun i s e => by simp at e, z.inj, z.nb, z.fr, z.bl, fun n d q e1 e2 => ?_, z.bnd, z.bfr, fun a u e n _ => hk a u e n, fun a e => ?_, z.pre, fun a q => q, z.o0t, fun a h => ?_, fun a h => .inl h, z.b0, hT, fun q hq => by cases hq⟩
    · obtain ⟨q1, q2⟩ := R.st n d q e1 e2
      exact ⟨q1, q2.mono hs (List.prefix_refl _) fun u e n => hk q u e n⟩
    · exact fun u e2 n2 => e u (hk a u e2 n2) n2
    · obtain ⟨u, e, n⟩ := R.ot a h
      exact ⟨u, hk a u e n, n⟩
  exact ⟨R.step R1, hs⟩
theorem Atf.lookup {f : Str} {d : D} : ∀ {fs : List (Str × D)} {xs : List (Str × V)}, Atf K H O b fs xs → fs.lookup f = some d → ∃ v, xs.lookup f = some v ∧ At K H O b d v
  | [], _, _, h => by simp at h
  | (g, d') :: fs, _, ⟨y, ys, e, q, r⟩, h => by
    subst e
    rw [List.lookup_cons] at h ⊢
    cases hb : f == g with
    | true =>
      rw [hb] at h
      cases h
      exact ⟨y, rfl, q⟩
    | false =>
      rw [hb] at h
      exact Atf.lookup r h
theorem dP_at {k : Bool} {p : Addr} {x y : D} {v w : V} (ho : ¬ O p) (e : H p = some (hoP k [v, w])) (hx : At K H O b x v) (hy : At K H O b y w) : At K H O b (dP k [x, y]) (V.ref p) := by
  cases k
  · exact ⟨p, _, rfl, ho, e, v, [w], rfl, hx, w, [], rfl, hy, rfl⟩
  · exact ⟨p, _, rfl, ho, e, v, [w], rfl, hx, w, [], rfl, hy, rfl⟩
theorem nt_hoP {k : Bool} {xs : List V} : nt (hoP k xs) := by
  cases k
  · exact nt_lst
  · exact nt_tup
/-- which clause takes it -/
theorem met_cla {k : Bool} {i n : Nat} {E : Ends} {c : Str} {fs : List (Str × D)} {xs : List (Str × V)} {d : D} {dx : Addr} {σ' : L2.St} (hi : i < n) (hl : σ'.length = n) (hdx : H dx = some (.xd xs)) (hf : Atf K H O b fs xs) :
    ∀ {tb : List Tg}, (∀ q ∈ tb, PySem.W.exmOne K (.ref (He.ga K c)) (.ref (He.ga K q.1)) = some (decide (q.1 = c))) → metX k tb c fs = some d →
      (∀ tag v d', At K H O b d' v → d = dP k [.str tag, d'] → ∀ p, H p = none → E.rt (.ref p) (upd H p (hoP k [.str tag, v]))) → wCla K W0 E (tb.map (claOf K i k)) (.ref (He.ga K c)) (some dx) σ' H
  | [], _, h, _ => by simp [metX] at h
  | q :: tb, hE, h, hQ => by
    refine ⟨decide (q.1 = c), hE q List.mem_cons_self, fun hc a ha => ?_, fun hc => met_cla hi hl hdx hf (fun q' hq' => hE q' (List.mem_cons_of_mem _ hq')) ?_ hQ⟩
    · have ec : q.1 = c := of_decide_eq_true hc
      have h' : (fs.lookup q.2.2).map (fun d => dP k [.str q.2.1, d]) = some d := by
        unfold metX at h
        rw [List.find?_cons, hc] at h
        exact h
      obtain ⟨d', e1, e2⟩ := Option.map_eq_some_iff.mp h'
      obtain ⟨v, e3, hv⟩ := Atf.lookup hf e1
      have hs : (σ'.set i (some (V.ref a)))[i]? = some (some (V.ref a)) := List.getElem?_set_self (by rw [hl]; exact hi)
      have key := hQ q.2.1 v d' hv e2.symm
      have h2 : ([V.str q.2.1, v] : List V).length ≤ sizeLine := by show 2 ≤ sizeLine; decide
      show tRet (tagT k q.2.1 (tXf a (.ref (He.ga K c)) (some dx) (He.ga K q.1) q.2.2 (tVar i))) (outE (some i) E) (σ'.set i (some (V.ref a))) H
      cases k
      · exact ⟨_, hs, rfl, by rw [ec], dx, xs, v, rfl, hdx, e3, h2, key⟩
      · exact ⟨_, hs, rfl, by rw [ec], dx, xs, v, rfl, hdx, e3, h2, key⟩
    · unfold metX at h ⊢
      rw [List.find?_cons, hc] at h
      exact h
end
section
variable {X : Cx} {T : List (Addr × Str)} {W : WX}
/-- x(lambda: body), x a def that tries it -/
theorem pd_met {k : Bool} {told x a : Str} {tb : List Tg} {i kk : Nat} {m : ME} {c P : Addr} {pg : Arguments} {bg : List Stmt} {sg : Scope} {Ng : List Str} {params : Arguments} {body : Expr} {scope : Scope} {p lpos pos : Pos} (hg : Gl X x) (gl : X.mg x = some (.ref (He.ga X.K x)))
    (F : ∃ fd, FunD X.K x x pg bg sg [] [] (He.ga X.K x) fd) (hb : ∀ (kV doc pm : Value) (an : Option Addr) (cdv ct : Value) (us : List Value), us.length = [a].length → bindArgs (PySem.W.fnOf x x pg bg sg .none kV doc pm an cdv ct) ⟨us, []⟩ = pure ([a].zip us))
    (Sg : FnScope Ng [a] sg) (hNg : Ng[0]? = some a) (hva : Vis sg a) (hi : i < Ng.length)
    (hG : ∀ q, LamX.GivesTo X Ng x sg (He.ga X.K x) (.ref (He.codeOf X.K (x, none))) bg a q (TTm X.K Ng.length (tb.map (claOf X.K i k)) k told))
    (hE : ∀ q ∈ tb, ∀ q' ∈ tb, PySem.W.exmOne X.K (.ref (He.ga X.K q.1)) (.ref (He.ga X.K q'.1)) = some (decide (q'.1 = q.1)))
    (TB : LamX.TabB X.base X.mg c P) (hcode : X.env.code = .ref c) (hmT : (P, X.env.qual ++ "<lambda>") ∈ T) (hu : ∀ p ∈ T, p.1 = P → p.2 = X.env.qual ++ "<lambda>") (hr : Room (kk + 2) X.A) (L : LamX.LamS X.env.scope scope) (hdef : defaultsOf params X.env = ([], []))
    (hbind : ∀ (q : Str) (cl : List (Str × Addr)) (pm cv ctv : Value), bindArgs (PySem.W.kla_fn "<lambda>" q params body scope cl pm cv ctv) ⟨[], []⟩ = pure [])
    (hbody : ∀ (A : Around) (outer : List Env) (s : Shared) (H : Hp) (E : XK) (f c' : Addr), Room kk (A.deeper (LamX.lamEnv X scope s.heap.objs.size f c')) → PD (LamX.lamCx X A outer s H E scope f c') T (wE E) body m)
    (hdb : (x == ("__debug__" : Str)) = false := by decide) (hd : (a == ("__debug__" : Str)) = false := by decide) (hcd : (a == ("__classdict__" : Str)) = false := by decide) :
    PD X T W (.Call (.Name x p) [.Lambda params body scope lpos] [] pos) (eMet k told tb m) := by
  obtain ⟨fd, F⟩ := F
  have B := FunD.bindsN F hb
  have kp := F.kp
  obtain ⟨oc, od, dV, kV, doc, pm, an, cdv, ct, osl, rfl, lk, hcdi, _, _⟩ := F.ex
  obtain ⟨c0, ec⟩ := He.codeIn_ref hcdi
  have e2 : cdv = .ref (He.codeOf X.K (x, none)) := by rw [ec, He.codeOf_eq (p := (x, none)) lk (by rw [ec] <;> rfl)]
  subst e2
  refine PE.imp' (LamX.pe_lamcall (t := fun E => tD X.K T (wE E) m) hg gl kp lk hcdi B Sg hNg hva (hG _) TB hcode hmT hu hr L hdef hbind hbody hdb hd hcd) fun σ H Q ⟨G, O, b, t, S, R, h⟩ => ?_
  refine ⟨R.tabs, fun H1 hx T1 => ?_⟩
  obtain ⟨R1, s1⟩ := R.grownN hx T1
  have h1 := h.later (List.prefix_refl _) s1
  refine ⟨G, O, b, t, S, R1, ?_⟩
  unfold eMet at h1
  cases em : m t S with
  | bad => simp only [em] at h1; exact h1.elim
  | ok x1 t1 S1 =>
    simp only [em] at h1
    intro H2 O2 b2 R2 hb2 s2 v hv
    obtain ⟨O3, R3, s3, a3⟩ := R2.share hv
    refine ⟨by show 2 ≤ sizeLine; decide, fun q hq => ?_⟩
    obtain ⟨R4, s4⟩ := R3.new hq nt_hoP
    exact h1 _ O3 b2 R4 hb2 ((s2.trans s3).trans s4) _ (.inl ⟨rfl, dP_at (R3.free hq) upd_same rfl (a3.mono s4 (List.prefix_refl _))⟩)
  | ex cc fs t1 S1 =>
    simp only [em] at h1
    intro H2 O2 b2 d xs R2 hb2 s2 hdx hf
    cases ex : metX k tb cc fs with
    | none => simp only [ex] at h1; exact h1.elim
    | some dd =>
      simp only [ex] at h1
      intro σ' hl
      have hcc : ∃ q ∈ tb, q.1 = cc := by
        unfold metX at ex
        split at ex
        · rename_i q e
          exact ⟨q, List.mem_of_find?_eq_some e, by have := List.find?_some e; exact of_decide_eq_true this⟩
        · cases ex
      obtain ⟨q0, hq0, e0⟩ := hcc
      refine met_cla hi hl hdx hf (fun q hq => by rw [← e0]; exact hE q0 hq0 q hq) ex fun tag v d' hv ed p hp => ?_
      obtain ⟨R4, s4⟩ := R2.new hp nt_hoP
      subst ed
      exact h1 _ O2 b2 R4 hb2 (s2.trans s4) _ (.inl ⟨rfl, dP_at (R2.free hp) upd_same rfl (hv.mono s4 (List.prefix_refl _))⟩)
end
end TD

set_option Elab.async false
set_option linter.all false
set_option maxRecDepth 100000
set_option maxHeartbeats 1000000
set_option autoImplicit false
namespace TD
open PySem PySem.Spec PyProof.Rows L2

/-! ### sorted(xs, key=lambda a: a[0] * (c // a[1])) -/
def keyFr (cm : Int) : D → Option Int
  | .tup [.int n, .int d] => if divOk d = true ∧ mulOk n (cm / d) = true then some (n * (cm / d)) else none
  | _ => none
def keysFr (cm : Int) : List D → Option (List Int)
  | [] => some []
  | d :: ds => match keyFr cm d, keysFr cm ds with
    | some k, some ks => some (k :: ks)
    | _, _ => none
/-- merging and sorting with fuel, so that the kernel can run them -/
def mgF {α : Type} (le : α → α → Bool) : Nat → List α → List α → List α
  | 0, _, _ => []
  | _ + 1, [], ys => ys
  | _ + 1, x :: xs, [] => x :: xs
  | n + 1, x :: xs, y :: ys => if le x y = true then x :: mgF le n xs (y :: ys) else y :: mgF le n (x :: xs) ys
theorem mgF_eq {α : Type} (le : α → α → Bool) : ∀ (n : Nat) (xs ys : List α), xs.length + ys.length < n → mgF le n xs ys = List.merge xs ys le
  | 0, _, _, h => absurd h (Nat.not_lt_zero _)
  | _ + 1, [], ys, _ => by rw [List.merge.eq_def]; rfl
  | _ + 1, x :: xs, [], _ => by rw [List.merge.eq_def]; rfl
  | n + 1, x :: xs, y :: ys, h => by
    rw [List.cons_merge_cons]
    show (if le x y = true then x :: mgF le n xs (y :: ys) else y :: mgF le n (x :: xs) ys) = _
    simp only [List.length_cons] at h
    rw [mgF_eq le n xs (y :: ys) (by simp only [List.length_cons]; omega), mgF_eq le n (x :: xs) ys (by simp only [List.length_cons]; omega)]
def msF {α : Type} (le : α → α → Bool) : Nat → List α → List α
  | _, [] => []
  | _, [a] => [a]
  | 0, _ => []
  | n + 1, l => mgF le (l.length + 1) (msF le n (l.take ((l.length + 1) / 2))) (msF le n (l.drop ((l.length + 1) / 2)))
theorem msF_eq {α : Type} (le : α → α → Bool) : ∀ (n : Nat) (l : List α), l.length ≤ n → msF le n l = List.mergeSort l le
  | _, [], _ => by rw [List.mergeSort.eq_1]; cases ‹Nat› <;> rfl
  | _, [a], _ => by rw [List.mergeSort.eq_2]; cases ‹Nat› <;> rfl
  | 0, _ :: _ :: _, h => absurd h (by simp)
  | n + 1, a :: b :: l, h => by
    rw [List.mergeSort.eq_3]
    simp only [List.length_cons] at h
    have h1 : ((a :: b :: l).take (((a :: b :: l).length + 1) / 2)).length ≤ n := by rw [List.length_take]; simp only [List.length_cons]; omega
    have h2 : ((a :: b :: l).drop (((a :: b :: l).length + 1) / 2)).length ≤ n := by rw [List.length_drop]; simp only [List.length_cons]; omega
    show mgF le ((a :: b :: l).length + 1) (msF le n ((a :: b :: l).take (((a :: b :: l).length + 1) / 2))) (msF le n ((a :: b :: l).drop (((a :: b :: l).length + 1) / 2))) = _
    rw [msF_eq le n _ h1, msF_eq le n _ h2, mgF_eq le _ _ _ (by rw [List.length_mergeSort, List.length_mergeSort, List.length_take, List.length_drop]; omega)]
    unfold List.MergeSort.Internal.splitInTwo
    simp only [List.splitAt_eq]
def sortBy (ps : List (D × Int)) : List (D × Int) := msF (fun a b => decide (a.2 ≤ b.2)) ps.length ps
theorem sortBy_eq (ps : List (D × Int)) : sortBy ps = ps.mergeSort fun a b => decide (a.2 ≤ b.2) := msF_eq _ _ _ (Nat.le_refl _)
def sortFr (cm : Int) (ds : List D) : Option (List D) := (keysFr cm ds).map fun ks => (sortBy (ds.zip ks)).map (·.1)
def eSortFr (jc : Nat) (m : ME) : ME := eb m fun x => fun t S => match t[jc]?, x with
  | some (.sh (.int cm)), .lst ds => if ds.length ≤ lim then match sortFr cm ds with
      | some r => .ok (.lst r, true) t S
      | none => .bad
    else .bad
  | _, _ => .bad
section
variable {M : Program} {w : World} {A : Around} {E : Value → Shared → Prop} {s : Shared} {Q : Value → Shared → Prop} {env : Env} {m : Str → Option Value} {c pa : Addr} {n d cm : Int} {t1 t2 t3 : Tok} {nT nC : Str} {p1 p2 p3 p4 p5 p6 p7 p8 p9 : Pos} {j0 j1 : Nat}
/-- the body of such a lambda -/
theorem keyBody (hk : env.scope.kind = .function) (hl : env.kindOf nT = some .local) (hf : env.kindOf nC = some .free) (hn : s.heap.Ns env.locals m) (hv : m nT = some (.ref pa)) (hc : env.cells.lookup nC = some c) (hcell : s.heap.IsCell c (some (.int cm t3))) (ht : IsTup s.heap pa #[.int n t1, .int d t2])
    (hd : divOk d = true) (hm : mulOk n (cm / d) = true) (d1 : (nT == ("__debug__" : Str)) = false) (d2 : (nC == ("__debug__" : Str)) = false) (d3 : (nC == ("__classdict__" : Str)) = false)
    (h : ∀ t tk, Q (.int (n * (cm / d)) t) { s with toks := tk }) :
    wpAny (model M w) A (eval (.BinOp (.Subscript (.Name nT p1) (.Constant (.int 0) j0 p2) p3) .Mult (.BinOp (.Name nC p4) .FloorDiv (.Subscript (.Name nT p5) (.Constant (.int 1) j1 p6) p7) p8) p9) env) Q E s := by
  have nm : ∀ {s' : Shared} {Q' : Value → Shared → Prop} {p : Pos}, s'.heap = s.heap → Q' (.ref pa) s' → wpAny (model M w) A (eval (.Name nT p) env) Q' E s' := fun {s' Q' p} e q => wpAny_Name (wpAny_loadName_local hk hl (by rw [e]; exact hn) hv q) d1
  have cn : ∀ {s' : Shared} {Q' : Value → Shared → Prop} {p : Pos}, s'.heap = s.heap → Q' (.int cm t3) s' → wpAny (model M w) A (eval (.Name nC p) env) Q' E s' := fun {s' Q' p} e q => wpAny_Name (wpAny_loadName_free (hn := d3) hk hf hc (by rw [e]; exact hcell) q) d2
  have ix : ∀ {s' : Shared} {Q' : Value → Shared → Prop} {i j : Nat} {x : Value} {q1 q2 q3 : Pos}, s'.heap = s.heap → i < 2 → (#[Value.int n t1, .int d t2] : Array Value)[i]? = some x → (∀ s'' : Shared, s''.heap = s.heap → (∃ tk, s'' = { s' with toks := tk }) → Q' x s'') → wpAny (model M w) A (eval (.Subscript (.Name nT q1) (.Constant (.int (i : Int)) j q2) q3) env) Q' E s' := fun {s' Q' i j x q1 q2 q3} e hi hx q => by
    refine Subscript_ (nm e (wpAny_Constant_int ?_))
    refine subscriptTail_builtinR (x := x) (T := "tuple") ⟨_, (by rw [show ({ s' with toks := s'.toks + 1 } : Shared).heap = s.heap from e]; exact ht.choose_spec.1), ht.choose_spec.2.1⟩ slot_tuple_getitem.lookup ?_ (by rfl)
    refine getItem_tuple (j := i) (by rw [show ({ s' with toks := s'.toks + 1 } : Shared).heap = s.heap from e]; exact ht) (by omega) (by omega) ?_ hx ⟨rfl, q _ e ⟨_, rfl⟩⟩
    rcases (show i = 0 ∨ i = 1 by omega) with z | z <;> subst z <;> rfl
  refine wpAny_BinOp (ix (i := 0) rfl (by omega) rfl fun s1 e1 ⟨k1, h1⟩ => ?_)
  refine wpAny_BinOp (cn e1 (ix (i := 1) e1 (by omega) rfl fun s2 e2 ⟨k2, h2⟩ => ?_))
  unfold divOk at hd
  rw [Bool.and_eq_true, decide_eq_true_eq, decide_eq_true_eq] at hd
  refine floordiv_int (by omega) ?_ (.inl (PyProof.noPylong_of_log2 hd.2))
  rw [Int.fdiv_eq_ediv_of_nonneg cm (by omega)]
  refine mul_int ?_ (L2.CMulW.ok (show n.natAbs.log2 + (cm / d).natAbs.log2 < 1000000 from of_decide_eq_true hm))
  subst h2
  subst h1
  exact h _ _
end

/-- the function's call -/
theorem keyCall {f c' cc : Addr} {oc : Obj} {vs0 : Array Value} {tq t1 t2 t3 : Tok} {params : Arguments} {q : Str} {scope : Scope} {cl : List (Str × Addr)} {pm ctv : Value} {nT nC : Str} {P : Program} {w : World} {A : Around} {s : Shared} {pa : Addr} {n d cm : Int} {p1 p2 p3 p4 p5 p6 p7 p8 p9 : Pos} {j0 j1 : Nat}
    (hroom : A.depth < recursionLimit) (ho : s.heap.get? f = some (PySem.W.kla_obj "<lambda>" q params (.BinOp (.Subscript (.Name nT p1) (.Constant (.int 0) j0 p2) p3) .Mult (.BinOp (.Name nC p4) .FloorDiv (.Subscript (.Name nT p5) (.Constant (.int 1) j1 p6) p7) p8) p9) scope cl pm c' ctv))
    (hcode : s.heap.get? c' = some oc) (hcd : oc.data = .fields vs0) (hcq : vs0[1]? = some (.str q tq)) (hlim : s.heap.NoLimit) (hS : scope.kind = .function) (hco : scope.isCoroutine = false) (hge : scope.isGenerator = false) (hnc : ∀ y ∈ scope.names, y.2 ≠ .cell) (hT : scope.names.lookup nT = some .local) (hF : scope.names.lookup nC = some .free)
    (hb : ∀ v : Value, bindArgs (PySem.W.kla_fn "<lambda>" q params (.BinOp (.Subscript (.Name nT p1) (.Constant (.int 0) j0 p2) p3) .Mult (.BinOp (.Name nC p4) .FloorDiv (.Subscript (.Name nT p5) (.Constant (.int 1) j1 p6) p7) p8) p9) scope cl pm (.ref c') ctv) ⟨[v], []⟩ = pure [(nT, v)])
    (hc : cl.lookup nC = some cc) (hcell : s.heap.IsCell cc (some (.int cm t3))) (ht : IsTup s.heap pa #[.int n t1, .int d t2]) (hd : divOk d = true) (hm : mulOk n (cm / d) = true) (d1 : (nT == ("__debug__" : Str)) = false) (d2 : (nC == ("__debug__" : Str)) = false) (d3 : (nC == ("__classdict__" : Str)) = false) :
    wpAny (model P w) A (PySem.call (.ref f) [.ref pa]) (PySem.W.KeyPure (.int (n * (cm / d))) s) (fun _ _ => False) s := by
  have z : codeAny (model P w) A (.call (.ref f) ⟨[.ref pa], []⟩) (fun r s' => ∃ v, r = .ok (.ret v) ∧ PySem.W.KeyPure (.int (n * (cm / d))) s v s') s := by
    refine PySem.W.kla_callFunE hroom ho rfl hco hge rfl ⟨c', oc, vs0, tq, rfl, hcode, hcd, hcq⟩ ?_
    rw [hb]
    refine wpAny_pure (wpAny_newFunctionEnv hnc (fun y hy => by rw [List.mem_singleton.mp hy]; exact hT) (fun h₁ hns hsb => ⟨hlim.fresh _ hsb, ?_⟩) hS)
    have kp : ∀ b o, s.heap.get? b = some o → h₁.get? b = some o := fun b o e => hsb.extBut b o (Nat.ne_of_lt (Heap.lt_size e)) (Heap.get?_push_of_some _ e)
    refine PySem.W.kla_codeExpr ?_
    refine keyBody (t1 := t1) (t2 := t2) (t3 := t3) (c := cc) (pa := pa) hS hT hF hns (by simp [List.lookup]) hc ?_ ?_ hd hm d1 d2 d3 fun t tk => ?_
    · obtain ⟨oo, e1, e2⟩ := hcell
      exact ⟨oo, kp _ _ e1, e2⟩
    · obtain ⟨oo, e1, e2⟩ := ht
      exact ⟨oo, kp _ _ e1, e2⟩
    · exact ⟨_, rfl, h₁, _, rfl, kp, .int _ _⟩
  refine wpAny_call (codeAny_mono z fun r s' hq => ?_)
  obtain ⟨v, e, hq⟩ := hq
  subst e
  exact hq
theorem keysFr_len {cm : Int} : ∀ {ds : List D} {ks : List Int}, keysFr cm ds = some ks → ks.length = ds.length
  | [], ks, h => by cases h; rfl
  | d :: ds, ks, h => by
    unfold keysFr at h
    split at h
    · rename_i k ks' e1 e2
      cases h
      rw [List.length_cons, List.length_cons, keysFr_len e2]
    · cases h
theorem keyFr_inv {cm : Int} {d : D} {k : Int} (h : keyFr cm d = some k) : ∃ n e, d = .tup [.int n, .int e] ∧ divOk e = true ∧ mulOk n (cm / e) = true ∧ k = n * (cm / e) := by
  unfold keyFr at h
  split at h
  · rename_i n e
    split at h
    · rename_i c
      exact ⟨n, e, rfl, c.1, c.2, (Option.some.inj h).symm⟩
    · cases h
  · cases h
/-- the rows that are sorted -/
theorem each_rows {K : PySem.W.Frag} {H : Hp} {O : Addr → Prop} {b : List Addr} {cm : Int} : ∀ {ds : List D} {ks : List Int} {vs : List V} {us : List Value}, keysFr cm ds = some ks → Ats K H O b ds vs → Vals vs us →
    ∃ bs : List (V × D × Int), bs.map (·.1) = vs ∧ bs.map (·.2) = ds.zip ks ∧ PySem.W.EachIs (fun v x => RelV x.1 v ∧ At K H O b x.2.1 x.1 ∧ keyFr cm x.2.1 = some x.2.2) us bs
  | [], ks, vs, us, hk, ha, hv => by
    cases hk
    rw [show vs = [] from ha] at hv ⊢
    cases hv
    exact ⟨[], rfl, rfl, .nil⟩
  | d :: ds, ks, vs, us, hk, ⟨y, ys, ev, h1, h2⟩, hv => by
    subst ev
    cases hv with
    | @cons _ u _ us' r rr =>
      unfold keysFr at hk
      split at hk
      · rename_i k ks' e1 e2
        cases hk
        obtain ⟨bs, g1, g2, g3⟩ := each_rows e2 h2 rr
        exact ⟨(y, d, k) :: bs, by rw [List.map_cons, g1], by rw [List.map_cons, g2]; rfl, .cons ⟨r, h1, e1⟩ g3⟩
      · cases hk
theorem ats_of {K : PySem.W.Frag} {H : Hp} {O : Addr → Prop} {b : List Addr} : ∀ {bs : List (V × D × Int)}, (∀ x ∈ bs, At K H O b x.2.1 x.1) → Ats K H O b (bs.map fun x => x.2.1) (bs.map (·.1))
  | [], _ => rfl
  | x :: bs, h => ⟨x.1, _, rfl, h x List.mem_cons_self, ats_of fun y hy => h y (List.mem_cons_of_mem _ hy)⟩
theorem vals_of_each {R : Value → V × D × Int → Prop} : ∀ {us : List Value} {bs : List (V × D × Int)}, (∀ v x, R v x → RelV x.1 v) → PySem.W.EachIs R us bs → Vals (bs.map (·.1)) us
  | _, _, _, .nil => .nil
  | _, _, hR, .cons h t => .cons (hR _ _ h) (vals_of_each hR t)
theorem each_mem {R : Value → V × D × Int → Prop} : ∀ {us : List Value} {bs : List (V × D × Int)}, PySem.W.EachIs R us bs → ∀ x ∈ bs, ∃ v, R v x
  | _, _, .nil, x, h => by cases h
  | _, _, .cons h t, x, hx => by
    rcases List.mem_cons.mp hx with e | hx
    · rw [e]; exact ⟨_, h⟩
    · exact each_mem t x hx
section
variable {X : Cx} {T : List (Addr × Str)} {W : WX}
theorem pd_sortFr {e : Expr} {m : ME} {jc : Nat} {c P : Addr} {params : Arguments} {scope : Scope} {nT nC : Str} {p0 pos lpos kpos p1 p2 p3 p4 p5 p6 p7 p8 p9 : Pos} {j0 j1 : Nat}
    (hg : Gl X "sorted") (hm : X.mg "sorted" = none) (hv : bootBuiltins "sorted" = some (.builtin "sorted")) (he : PD X T W e m) (hN : X.N[jc]? = some nC)
    (TB : LamX.TabB X.base X.mg c P) (hcode : X.env.code = .ref c) (hmT : (P, X.env.qual ++ "<lambda>") ∈ T) (hu : ∀ p ∈ T, p.1 = P → p.2 = X.env.qual ++ "<lambda>") (hr : Room 3 X.A) (hdef : defaultsOf params X.env = ([], []))
    (hS : scope.kind = .function) (hco : scope.isCoroutine = false) (hge : scope.isGenerator = false) (hnc : ∀ y ∈ scope.names, y.2 ≠ .cell) (hT : scope.names.lookup nT = some .local) (hF : scope.names.lookup nC = some .free)
    (hfree : ∀ y ∈ scope.names, y.2 = .free → X.env.scope.names.lookup y.1 = some .cell)
    (hb : ∀ (q : Str) (cl : List (Str × Addr)) (pm cv ctv : Value) (v : Value), bindArgs (PySem.W.kla_fn "<lambda>" q params (.BinOp (.Subscript (.Name nT p1) (.Constant (.int 0) j0 p2) p3) .Mult (.BinOp (.Name nC p4) .FloorDiv (.Subscript (.Name nT p5) (.Constant (.int 1) j1 p6) p7) p8) p9) scope cl pm cv ctv) ⟨[v], []⟩ = pure [(nT, v)])
    (d1 : (nT == ("__debug__" : Str)) = false := by decide) (d2 : (nC == ("__debug__" : Str)) = false := by decide) (d3 : (nC == ("__classdict__" : Str)) = false := by decide)
    (hs0 : starEach (e :: []) X.env = (false, eval e X.env) :: starEach [] X.env := by rfl) (hse : backTo pos (starEach (e :: []) X.env) = (false, eval e X.env) :: backTo pos (starEach [] X.env) := by rfl) (hpl : (backTo pos (starEach (e :: []) X.env)).any (·.1) = false := by rfl)
    (hall : (backToKw pos (keywordEach [⟨some "key", .Lambda params (.BinOp (.Subscript (.Name nT p1) (.Constant (.int 0) j0 p2) p3) .Mult (.BinOp (.Name nC p4) .FloorDiv (.Subscript (.Name nT p5) (.Constant (.int 1) j1 p6) p7) p8) p9) scope lpos, kpos⟩] X.env)).all (·.1.isSome) = true := by rfl)
    (hnone : (backToKw pos (keywordEach [⟨some "key", .Lambda params (.BinOp (.Subscript (.Name nT p1) (.Constant (.int 0) j0 p2) p3) .Mult (.BinOp (.Name nC p4) .FloorDiv (.Subscript (.Name nT p5) (.Constant (.int 1) j1 p6) p7) p8) p9) scope lpos, kpos⟩] X.env)).any (·.1.isNone) = false := by rfl)
    (hks : (backToKw pos (keywordEach [⟨some "key", .Lambda params (.BinOp (.Subscript (.Name nT p1) (.Constant (.int 0) j0 p2) p3) .Mult (.BinOp (.Name nC p4) .FloorDiv (.Subscript (.Name nT p5) (.Constant (.int 1) j1 p6) p7) p8) p9) scope lpos, kpos⟩] X.env)).filterMap (·.1) = [("key" : Str)] := by rfl) :
    PD X T W (.Call (.Name "sorted" p0) [e] [⟨some "key", .Lambda params (.BinOp (.Subscript (.Name nT p1) (.Constant (.int 0) j0 p2) p3) .Mult (.BinOp (.Name nC p4) .FloorDiv (.Subscript (.Name nT p5) (.Constant (.int 1) j1 p6) p7) p8) p9) scope lpos, kpos⟩] pos) (eSortFr jc m) := by
  refine ⟨fun pins s σ H Q I ⟨G, O, b, t, S, R, h⟩ => ?_⟩
  refine wpAny_Call_Name_kw (ld_blt I hg hm hv ?_)
  refine PyProof.Rows.callWith_kw (thn ((pa_cons he pa_nil hs0).run pos pins s σ H (fun vs H1 => ∃ v O1 b1 ds cm t1 S1 r, vs = [v] ∧ Rel X.K T G O1 b1 t1 S1 σ H1 ∧ b <+: b1 ∧ Stays H O H1 O1 ∧ At X.K H1 O1 b1 (.lst ds) v ∧ t1[jc]? = some (.sh (.int cm)) ∧ ds.length ≤ lim ∧ sortFr cm ds = some r ∧ Post X.K T W G O1 b1 σ H1 (.ok (.lst r, true) t1 S1) (KD X.K G σ Q)) I ?_) fun us s1 ⟨vs, H1, I1, r1, v, O1, b1, ds, cm, t1, S1, r, ev, R1, hb1, st1, hv1, hj, hlen, hsort, h1⟩ => ?_) hse hpl hall hnone
  · refine useD R h fun O1 b1 x t1 S1 H1 v R1 hb1 s1 hv h1 => ?_
    split at h1
    · rename_i cm ds hj
      split at h1
      · rename_i hl
        split at h1
        · rename_i r hs
          exact ⟨v, O1, b1, ds, cm, t1, S1, r, rfl, R1, hb1, s1, hv, hj, hl, hs, h1⟩
        · exact h1.elim
      · exact h1.elim
    · exact h1.elim
  · -- the lambda is made
    rw [hks]
    show wpAny _ _ (evalAll [(do let v ← eval (.Lambda params _ scope lpos) X.env; standAt pos; pure v)]) _ _ s1
    refine wpAny_evalAll_cons (wpAny_bind (LamX.lam_make2 I1 TB hcode hmT hu R1.tabs hdef (fun y hy e => I1.ok.has _ (.inl (hfree y hy e))) fun f c' pm ctv H2 s2 I2 eN T2 hf hfn hfr hco' => wpAny_bind (wpAny_standAt (wpAny_pure (wpAny_evalAll_nil ?_)))))
    obtain ⟨R2, st2⟩ := R1.grownN eN T2
    have hv2 := hv1.mono st2 (List.prefix_refl _)
    obtain ⟨a, xs, ea, hoa, ra, qa⟩ := hv2
    subst ev
    subst ea
    obtain ⟨u, eu, ru⟩ := r1.one
    subst eu
    cases ru
    obtain ⟨its, rv, pl, hz⟩ := I2.list (.inl (.inl ra))
    obtain ⟨ks, hks1, hks2⟩ := Option.map_eq_some_iff.mp hsort
    obtain ⟨bs, g1, g2, g3⟩ := each_rows hks1 qa rv
    have hlb : bs.length = ds.length := by
      have := congrArg List.length g1
      rw [List.length_map, qa.length] at this
      exact this
    -- the captured name
    obtain ⟨oj, ej, vj, ej2, hvj⟩ := R2.sl jc _ hj
    rw [ej2, show vj = _ from hvj] at ej
    have hcellk : X.env.scope.names.lookup nC = some .cell := hfree (nC, .free) (PySem.mem_of_lookup hF) rfl
    obtain ⟨mm, hnm, hlk⟩ := I2.loc
    obtain ⟨uc, rc, lc⟩ := hlk jc nC _ hN ej (.inr (.inl hcellk))
    obtain ⟨tc, euc⟩ := rc
    subst euc
    obtain ⟨cc, hcc, hcell⟩ : ∃ cc, X.env.cells.lookup nC = some cc ∧ s2.heap.IsCell cc (some (.int cm tc)) := by
      rcases lc with ⟨z, _⟩ | ⟨_, cc, z1, z2⟩
      · have z' : X.env.scope.names.lookup nC = some .local := z
        rw [hcellk] at z'; cases z'
      · exact ⟨cc, z1, z2⟩
    have hclo : (cloFrom X.env.cells scope.names []).lookup nC = some cc := NdefX.clo_has (fun y hy e => I2.ok.has _ (.inl (hfree y hy e))) (PySem.mem_of_lookup hF) hcc
    obtain ⟨⟨oc, vs0, tq, hoc, hdc, hvc⟩, _, _⟩ := I2.hok c' _ hco'
    have dp := hr.dp
    have un := hr.un
    refine PySem.W.sorted_key_data (β := V × D × Int) (vs := its) (bs := bs) (R := fun v x => RelV x.1 v ∧ At X.K H2 O1 b1 x.2.1 x.1 ∧ keyFr cm x.2.1 = some x.2.2) (fun x => PyData.int x.2.2) (f := .ref f) (b := false) pl.isList g3 ?_ ?_ ?_ ?_ (PyProof.Rows.ksk_s1 _ _) (fun x => PyProof.Rows.ksk_l1 _ _) (fun x => PyProof.Rows.ksk_t1 _ _) (fun v x hx hm' h' tk hk => ?_) fun out c2 h' tk hk hfresh hout hol hoe => ?_
    · intro d hd d' hd'
      obtain ⟨x, _, rfl⟩ := List.mem_map.mp hd
      obtain ⟨y, _, rfl⟩ := List.mem_map.mp hd'
      rfl
    · refine .inr fun d hd => ?_
      obtain ⟨x, _, rfl⟩ := List.mem_map.mp hd
      exact ⟨fun z => (nomatch z), fun xs z => (nomatch z)⟩
    · rw [hlb]; exact Nat.le_trans hlen (Nat.le_of_lt lim_lt)
    · intro x _
      show X.A.units + 2 + PyData.depth (.int x.2.2) < cLine
      have : PyData.depth (.int x.2.2) ≤ 1 := by simp [PyData.depth]
      omega
    · obtain ⟨q1, q2, q3⟩ := hx
      obtain ⟨n, d, ed, dk, mk, ek⟩ := keyFr_inv q3
      rw [ed] at q2
      obtain ⟨p, ws, ep, op, rp, y1, _, e1, a1, y2, _, e2, a2, e3⟩ := q2
      have ew : ws = [.int n, .int d] := by rw [e1, e2, e3, show y1 = _ from a1, show y2 = _ from a2]
      subst ew
      rw [ep] at q1
      cases q1
      have I3 : Inv X pins σ H2 { s2 with heap := h', toks := tk } := I2.kept hk
      obtain ⟨its3, rv3, pt3, _⟩ := I3.tuple (.inl (.inl rp))
      obtain ⟨u1, u2, eits, ru1, ru2⟩ := vals2 rv3
      obtain ⟨k1, hk1⟩ := ru1
      obtain ⟨k2, hk2⟩ := ru2
      subst eits hk1 hk2
      rw [ek]
      obtain ⟨oo, co1, co2⟩ := hcell
      exact keyCall (A := X.A.in1.in1) (s := { s2 with heap := h', toks := tk }) (show X.A.depth < recursionLimit by omega) (hk _ _ hf) (hk _ _ hoc) hdc hvc I3.nolimit hS hco hge hnc hT hF (hb _ _ _ _ _) hclo ⟨oo, hk _ _ co1, co2⟩ pt3 dk mk d1 d2 d3
    · have I3 : Inv X pins σ H2 { s2 with heap := h', toks := tk } := I2.kept hk
      rw [PySem.W.dataLe_int] at hoe
      have vo : Vals ((bs.mergeSort fun a b => decide (a.2.2 ≤ b.2.2)).map (·.1)) out := vals_of_each (fun v x h => h.1) hoe
      have hn2 : H2 (s2.heap.objs.size + 1) = none := I2.hok.fresh (Nat.le_succ _)
      have er : r = (bs.mergeSort fun a b => decide (a.2.2 ≤ b.2.2)).map fun x => x.2.1 := by
        rw [← hks2, sortBy_eq, ← g2, ← List.map_mergeSort (f := fun x : V × D × Int => x.2) (r := fun a b => decide (a.2.2 ≤ b.2.2)) (fun a _ b _ => rfl), List.map_map]
        rfl
      have lo : out.length ≤ sizeLine := by rw [hol, hlb]; exact Nat.le_trans hlen (Nat.le_of_lt lim_lt)
      have I4 : Inv X pins σ (upd H2 (s2.heap.objs.size + 1) (.lst ((bs.mergeSort fun a b => decide (a.2.2 ≤ b.2.2)).map (·.1)))) { s2 with heap := h', toks := tk } := by
        refine I2.laid (t' := tk) hk (Nat.le_succ _) ⟨by rw [vo.length]; exact lo, out, c2, vo, hout⟩
      refine ⟨.ref (s2.heap.objs.size + 1), _, I4, rfl, ?_⟩
      have h2 := h1.later (List.prefix_refl _) st2
      refine endN R2 h2 hn2 nt_lst fun s5 => ⟨_, upd_same, ?_⟩
      rw [er]
      refine ats_of fun x hx => ?_
      obtain ⟨v, q⟩ := each_mem hoe x hx
      exact q.2.1.mono s5 (List.prefix_refl _)
end
end TD

set_option Elab.async false
set_option linter.all false
set_option maxRecDepth 100000
set_option maxHeartbeats 1000000
set_option autoImplicit false
namespace TD
open PySem PySem.Spec PyProof.Rows L2

/-! ### several worths, new ones among them -/
section
variable {K : PySem.W.Frag} {T : List (Addr × Str)} {W : WX} {G : Gh} {O O' : Addr → Prop} {b b' : List Addr} {t t' : Ev} {S S' : Sto} {σ : L2.St} {H H' : Hp} {α : Type}
/-- the new ones among them stand apart -/
def ValsF (K : PySem.W.Frag) (G : Gh) (O : Addr → Prop) (b : List Addr) (t : Ev) (σ : L2.St) (H : Hp) : List (D × Bool) → List V → Prop
  | [], vs => vs = []
  | x :: xs, vs => ∃ v ws, vs = v :: ws ∧ Val K G O b t σ H v x ∧ ValsF K G O b t σ H xs ws ∧ (x.2 = true → ∀ (i : Nat) (y : D × Bool) (w : V), xs[i]? = some y → ws[i]? = some w → y.2 = true → w ≠ v)
theorem Post.tm {r : R α} {k : KT α} {p : Addr} {o : HO} (hq : ∀ q ∈ G.tm, q.1 ≠ p) (h : Post K T W G O b σ H r k) : Post K T W { G with tm := (p, o) :: G.tm } O b σ H r k := by
  cases r with
  | ok x t' S' => exact fun H' O' b' R' hb hs => h H' O' b' (R'.pop hq).1 hb hs
  | ex c fs t' S' => exact fun H' O' b' d xs R' hb hs => h H' O' b' d xs (R'.pop hq).1 hb hs
  | bad => exact h
theorem ValsF.get : ∀ {xs : List (D × Bool)} {vs : List V} {i : Nat} {y : D × Bool} {w : V}, ValsF K G O b t σ H xs vs → xs[i]? = some y → vs[i]? = some w → Val K G O b t σ H w y
  | [], _, i, _, _, _, h, _ => by simp at h
  | x :: xs, _, 0, y, w, ⟨v, ws, e, h1, _⟩, hx, hv => by
    subst e
    cases hx
    cases hv
    exact h1
  | x :: xs, _, i + 1, y, w, ⟨v, ws, e, _, h2, _⟩, hx, hv => by
    subst e
    exact h2.get (i := i) (by simpa using hx) (by simpa using hv)
/-- what holds with one more thing set aside holds without -/
theorem ValsF.pop {p : Addr} {o : HO} : ∀ {xs : List (D × Bool)} {vs : List V}, ValsF K { G with tm := (p, o) :: G.tm } O b t σ H xs vs → ValsF K G O b t σ H xs vs ∧ ∀ (i : Nat) (y : D × Bool) (w : V), xs[i]? = some y → vs[i]? = some w → y.2 = true → w ≠ V.ref p
  | [], _, h => ⟨h, fun i y w e => by simp at e⟩
  | x :: xs, _, ⟨v, ws, e, h1, h2, h3⟩ => by
    obtain ⟨q1, q2⟩ := ValsF.pop h2
    have hv : Val K G O b t σ H v x ∧ (x.2 = true → v ≠ V.ref p) := by
      rcases h1 with ⟨e1, h1⟩ | ⟨e1, p', e2, h1⟩
      · exact ⟨.inl ⟨e1, h1⟩, fun z => by rw [e1] at z; cases z⟩
      · refine ⟨.inr ⟨e1, p', e2, h1.o, h1.own, h1.fr, h1.ns, h1.nb, fun q hq => h1.nq q (List.mem_cons_of_mem _ hq)⟩, fun _ z => ?_⟩
        rw [e2] at z
        cases z
        exact h1.nq (p, o) List.mem_cons_self rfl
    refine ⟨⟨v, ws, e, hv.1, q1, h3⟩, fun i y w hx hw ht => ?_⟩
    subst e
    cases i with
    | zero => cases hx; cases hw; exact hv.2 ht
    | succ i => exact q2 i y w (by simpa using hx) (by simpa using hw) ht
end
abbrev MF := M (List (D × Bool))
def tF (K : PySem.W.Frag) (T : List (Addr × Str)) (W : WX) (m : MF) : TA := fun σ H Q => ∃ G O b t S, Rel K T G O b t S σ H ∧ Post K T W G O b σ H (m t S) fun O' b' x t' _ H' => ∀ vs, ValsF K G O' b' t' σ H' x vs → Q vs H'
def fNil : MF := ret []
/-- what a new one's slot bears while the others are made: nothing -/
def fCons (m : ME) (r : MF) : MF := bnd m fun x => bnd r fun xs => ret (x :: xs)
section
variable {X : Cx} {T : List (Addr × Str)} {W : WX} {e : Expr} {es : List Expr}
theorem pf_nil : PA X [] (tF X.K T W fNil) := PA.imp' pa_nil fun σ H Q ⟨G, O, b, t, S, R, h⟩ => Post.here h R [] rfl
theorem pf_cons {m : ME} {r : MF} (ha : PD X T W e m) (hr : PA X es (tF X.K T W r)) (hs : starEach (e :: es) X.env = (false, eval e X.env) :: starEach es X.env := by rfl) : PA X (e :: es) (tF X.K T W (fCons m r)) := by
  refine PA.imp' (pa_cons ha hr hs) fun σ H Q ⟨G, O, b, t, S, R, h⟩ => ?_
  refine ⟨G, O, b, t, S, R, (Post.bnd h).imp fun O1 b1 x t1 S1 H1 R1 hb1 s1 h1 v hv => ?_⟩
  have h2 := Post.bnd h1
  rcases hv with ⟨e1, hv⟩ | ⟨e1, p, e2, hv⟩
  · refine ⟨G, O1, b1, t1, S1, R1, h2.imp fun O2 b2 xs t2 S2 H2 R2 hb2 s2 h3 vs hvs => ?_⟩
    exact Post.here h3 R2 _ ⟨v, vs, rfl, .inl ⟨e1, hv.mono s2 hb2⟩, hvs, fun z => by rw [e1] at z; cases z⟩
  · obtain ⟨o, eo, no⟩ := hv.own.there
    refine ⟨{ G with tm := (p, o) :: G.tm }, O1, b1, t1, S1, R1.push hv eo no, (Post.tm hv.nq h2).imp fun O2 b2 xs t2 S2 H2 R2 hb2 s2 h3 vs hvs => ?_⟩
    obtain ⟨R3, eo2, tm3⟩ := R2.pop hv.nq
    obtain ⟨hvs1, hvs2⟩ := hvs.pop
    have own2 : Own X.K H2 O2 b2 x.1 p := hv.own.mono s2 hb2 fun o' eo' _ => by rw [eo] at eo'; cases eo'; exact eo2
    exact Post.here h3 R3 _ ⟨v, vs, rfl, .inr ⟨e1, p, e2, tm3 _ own2⟩, hvs1, fun _ i y w hx hw ht => by rw [e2]; exact hvs2 i y w hx hw ht⟩
end
def flS (x : D × Bool) : Slot := if x.2 = true then .ow x.1 else .sh x.1
def setF : List Nat → List (D × Bool) → Ev → Ev
  | i :: is, x :: xs, t => setF is xs (t.set i (flS x))
  | _, _, t => t
def setVs : List Nat → List V → L2.St → L2.St
  | i :: is, v :: vs, σ => setVs is vs (σ.set i (some v))
  | _, _, σ => σ
section
variable {K : PySem.W.Frag} {T : List (Addr × Str)} {W : WX} {G : Gh} {O O' : Addr → Prop} {b b' : List Addr} {S S' : Sto} {H H' : Hp}
theorem ValsF.set {i : Nat} {s : Slot} {v : V} {t : Ev} {σ : L2.St} : ∀ {xs : List (D × Bool)} {vs : List V}, ValsF K G O b t σ H xs vs → ((∃ d, s = .ow d) → ∀ (j : Nat) (y : D × Bool) (w : V), xs[j]? = some y → vs[j]? = some w → y.2 = true → w ≠ v) → ValsF K G O b (t.set i s) (σ.set i (some v)) H xs vs
  | [], _, h, _ => h
  | x :: xs, _, ⟨v1, ws, e, h1, h2, h3⟩, hd => by
    subst e
    refine ⟨v1, ws, rfl, ?_, h2.set fun ho j y w hx hw ht => hd ho (j + 1) y w (by simpa using hx) (by simpa using hw) ht, h3⟩
    rcases h1 with ⟨e1, h1⟩ | ⟨e1, p, e2, h1⟩
    · exact .inl ⟨e1, h1⟩
    · refine .inr ⟨e1, p, e2, h1.o, h1.own, h1.fr, fun j q w z => ?_, h1.nb, h1.nq⟩
      rcases owAt_set w with ⟨_, w⟩ | ⟨_, ho, ev⟩
      · exact h1.ns j q w z
      · refine hd ho 0 x v1 rfl rfl e1 ?_
        rw [e2, ← z]
        exact (Option.some.inj ev).symm
theorem put_list : ∀ {is : List Nat} {xs : List (D × Bool)} {vs : List V} {t : Ev} {σ : L2.St}, Rel K T G O b t S σ H → ValsF K G O b t σ H xs vs → is.length = xs.length → Rel K T G O b (setF is xs t) S (setVs is vs σ) H
  | [], [], _, t, σ, R, h, _ => by rw [show _ = [] from h]; exact R
  | i :: is, x :: xs, _, t, σ, R, ⟨v, ws, e, h1, h2, h3⟩, hl => by
    subst e
    refine put_list (is := is) (t := t.set i (flS x)) (σ := σ.set i (some v)) (set_endK R h1) (h2.set fun ⟨d, ho⟩ j y w hx hw ht => ?_) (by simpa using hl)
    refine h3 ?_ j y w hx hw ht
    unfold flS at ho
    by_cases c : x.2 = true
    · exact c
    · rw [if_neg c] at ho; cases ho
where
  set_endK {G : Gh} {O : Addr → Prop} {b : List Addr} {t : Ev} {S : Sto} {σ : L2.St} {H : Hp} {i : Nat} {x : D × Bool} {v : V} (R : Rel K T G O b t S σ H) (hv : Val K G O b t σ H v x) : Rel K T G O b (t.set i (flS x)) S (σ.set i (some v)) H := by
    unfold flS
    rcases hv with ⟨e, h⟩ | ⟨e, q, ev, h⟩
    · rw [e, if_neg Bool.false_ne_true]
      exact R.put ⟨v, rfl, h⟩ fun d q z => by cases z
    · rw [e, if_pos rfl, ev]
      exact R.put ⟨q, rfl, h.o, h.own⟩ fun d r z1 z2 => by
        cases z1; cases z2
        exact ⟨h.fr, h.nb, fun j q _ w => h.ns j q w, h.nq⟩
end
/-- names = worths -/
def sParF (is : List Nat) (m : MF) : MS := bnd m fun xs => if is.length = xs.length then fun t S => .ok .nx (setF is xs t) S else bad
theorem ValsF.length {K : PySem.W.Frag} {G : Gh} {O : Addr → Prop} {b : List Addr} {t : Ev} {σ : L2.St} {H : Hp} : ∀ {xs : List (D × Bool)} {vs : List V}, ValsF K G O b t σ H xs vs → vs.length = xs.length
  | [], _, h => by rw [show _ = [] from h]; rfl
  | x :: xs, _, ⟨v, ws, e, _, h, _⟩ => by rw [e, List.length_cons, List.length_cons, h.length]
section
variable {X : Cx} {T : List (Addr × Str)} {W : WX} {a c e : Expr} {pos : Pos}
theorem pst_parF {i j : Nat} {x y : Str} {m r : ME} {px py pt : Pos} {kt k2 : Nat} {pt2 : Pos} (hc : X.calm = true) (hN : X.N.Nodup) (hi : X.N[i]? = some x) (hj : X.N[j]? = some y) (hij : i ≠ j)
    (hx : X.env.scope.names.lookup x = some .local) (hy : X.env.scope.names.lookup y = some .local) (ha : PD X T W a m) (hd : PD X T W c r)
    (hw : swappedStores [.Tuple [.Name x px, .Name y py] kt pt] (.Tuple [a, c] k2 pt2) X.env = pure (some [x, y])) (h1 : starEach [a, c] X.env = (false, eval a X.env) :: starEach [c] X.env := by rfl) (h2 : starEach [c] X.env = (false, eval c X.env) :: starEach [] X.env := by rfl)
    (hs : swapsWithSole [.Tuple [.Name x px, .Name y py] kt pt] (.Tuple [a, c] k2 pt2) pos.line X.env = pure false := by rfl) :
    PSt X T W (.Assign [.Tuple [.Name x px, .Name y py] kt pt] (.Tuple [a, c] k2 pt2) pos) (sParF [i, j] (fCons m (fCons r fNil))) := by
  refine PS.imp' (ps_par hc hN hi hj hij hx hy (pf_cons (r := fCons r fNil) ha (pf_cons hd pf_nil h2) h1) hw hs) fun Dn σ H ⟨G, O, b, t, S, R, h⟩ => ?_
  have h0 := PostS.bnd (σ := σ) h
  refine ⟨G, O, b, t, S, R, h0.imp fun O' b' xs t' S' H' R' hb hs h' vs hv => ?_⟩
  refine Classical.byCases (p := [i, j].length = xs.length) (fun c => ?_) fun c => by rw [if_neg c] at h'; exact h'.elim
  rw [if_pos c] at h'
  have hl := hv.length
  rw [← c] at hl
  match vs, hl, hv with
  | [v, w], _, hv => exact ⟨v, w, rfl, h' _ H' O' b' (put_list R' hv c) (List.prefix_refl _) (Stays.refl _ _)⟩
theorem pst_parF3 {i j l : Nat} {x y z : Str} {m r q : ME} {px py pz pt : Pos} {kt k2 : Nat} {pt2 : Pos} (hc : X.calm = true) (hN : X.N.Nodup) (hi : X.N[i]? = some x) (hj : X.N[j]? = some y) (hl : X.N[l]? = some z) (hij : i ≠ j) (hil : i ≠ l) (hjl : j ≠ l)
    (hx : X.env.scope.names.lookup x = some .local) (hy : X.env.scope.names.lookup y = some .local) (hz : X.env.scope.names.lookup z = some .local) (ha : PD X T W a m) (hd : PD X T W c r) (he : PD X T W e q)
    (hw : swappedStores [.Tuple [.Name x px, .Name y py, .Name z pz] kt pt] (.Tuple [a, c, e] k2 pt2) X.env = pure (some [x, y, z])) (h1 : starEach [a, c, e] X.env = (false, eval a X.env) :: starEach [c, e] X.env := by rfl) (h2 : starEach [c, e] X.env = (false, eval c X.env) :: starEach [e] X.env := by rfl) (h3 : starEach [e] X.env = (false, eval e X.env) :: starEach [] X.env := by rfl)
    (hs : swapsWithSole [.Tuple [.Name x px, .Name y py, .Name z pz] kt pt] (.Tuple [a, c, e] k2 pt2) pos.line X.env = pure false := by rfl) :
    PSt X T W (.Assign [.Tuple [.Name x px, .Name y py, .Name z pz] kt pt] (.Tuple [a, c, e] k2 pt2) pos) (sParF [i, j, l] (fCons m (fCons r (fCons q fNil)))) := by
  refine PS.imp' (ps_par3 hc hN hi hj hl hij hil hjl hx hy hz (pf_cons (r := fCons r (fCons q fNil)) ha (pf_cons (r := fCons q fNil) hd (pf_cons he pf_nil h3) h2) h1) hw hs) fun Dn σ H ⟨G, O, b, t, S, R, h⟩ => ?_
  have h0 := PostS.bnd (σ := σ) h
  refine ⟨G, O, b, t, S, R, h0.imp fun O' b' xs t' S' H' R' hb hs h' vs hv => ?_⟩
  refine Classical.byCases (p := [i, j, l].length = xs.length) (fun c => ?_) fun c => by rw [if_neg c] at h'; exact h'.elim
  rw [if_pos c] at h'
  have hl := hv.length
  rw [← c] at hl
  match vs, hl, hv with
  | [u, v, w], _, hv => exact ⟨u, v, w, rfl, h' _ H' O' b' (put_list R' hv c) (List.prefix_refl _) (Stays.refl _ _)⟩
end
end TD

set_option Elab.async false
set_option linter.all false
set_option maxRecDepth 100000
set_option maxHeartbeats 1000000
set_option autoImplicit false
namespace TD
open PySem PySem.Spec PyProof.Rows L2

/-! ### code that is not reached -/
section
variable {X : Cx} {T : List (Addr × Str)} {W : WX} {e a c : Expr} {es : List Expr} {st : Stmt} {sts : List Stmt} {pos p : Pos}
theorem pd_bad : PD X T W e bad := ⟨fun pins s σ H Q I ⟨G, O, b, t, S, R, h⟩ => h.elim⟩
theorem pc_bad : PC X T W e bad := ⟨fun pins s σ H Q I ⟨G, O, b, t, S, R, h⟩ => h.elim⟩
theorem pst_bad : PSt X T W st bad := ⟨fun pins s σ H D I ⟨G, O, b, t, S, R, h⟩ => h.elim⟩
theorem pbk_bad : PBk X T W sts bad := ⟨fun pins s σ H D I ⟨G, O, b, t, S, R, h⟩ => h.elim⟩
theorem def_bad {P : Program} {w : World} {K : PySem.W.Frag} {mg : Str → Option Value} {base : Heap} {x : Str} {params : Arguments} {body : List Stmt} {scope : Scope} {ps : List Str} {k : Nat} (F : ∃ fd, FunD K x x params body scope [] [] (He.ga K x) fd) (gl : mg x = some (.ref (He.ga K x)))
    (hb : ∀ (kV doc pm : Value) (an : Option Addr) (cdv ct : Value) (us : List Value), us.length = ps.length → bindArgs (PySem.W.fnOf x x params body scope .none kV doc pm an cdv ct) ⟨us, []⟩ = pure (ps.zip us)) : Def P w K mg base T x ps (fun _ _ => .bad) k := by
  obtain ⟨fd, F⟩ := F
  exact ⟨⟨fd, ⟨fun vs H Q E h => h.1, fun A outer s H args us vs Q E hr e0 hbb r hsp => by obtain ⟨_, O, b, S, ds, R, hv, z⟩ := hsp; exact z.elim⟩, FunD.bindsN F hb⟩, gl, F.kp⟩
theorem Def.mono {P : Program} {w : World} {K : PySem.W.Frag} {mg : Str → Option Value} {base : Heap} {x : Str} {ps : List Str} {F : Fn} {j k : Nat} (D : Def P w K mg base T x ps F j) (h : j ≤ k) : Def P w K mg base T x ps F k := by
  obtain ⟨fd, G1, B⟩ := D.ok
  exact ⟨⟨fd, G1.mono h, B⟩, D.gl, D.kp⟩
theorem units_of {k : Nat} {A : Around} (h : Room k A) : A.units + 64 < cLine := by have := h.un; omega
theorem units1 {k : Nat} {A : Around} (h : Room k A) : A.units + 1 < cLine := by have := h.un; omega
theorem units2 {k : Nat} {A : Around} (h : Room k A) : A.units + 100 < cLine := by have := h.un; omega
theorem takesL {A : Around} {outer : List Env} {s : Shared} {H : Hp} {E : XK} {scope : Scope} {f c' : Addr} : Takes (LamX.lamCx X A outer s H E scope f c') (wE E) := takes_of rfl rfl rfl rfl
theorem pc_eqB {m r : ME} (hu : X.A.units + 64 < cLine) (ha : PD X T W a m) (hc : PD X T W c r) (hm : behindInMarks .Eq c = false := by first | exact nomark _ | rfl) : PC X T W (.Compare a [.Eq] [c] pos) (tst (eEqB m r)) := by
  refine PT.imp' (pt_cmpR (op_eqD hu) ha hc hm) fun σ H Q ⟨G, O, b, t, S, R, h⟩ => ?_
  have h' : Post X.K T W G O b σ H (eb m (fun x => eb r fun y => tst fun t S => dEqP (vw S x) (vw S y) t S) t S) fun _ _ x _ _ H' => Q x H' := by
    unfold tst eEqB eb at h
    rw [bnd_assoc] at h
    simp only [bnd_assoc] at h
    exact h
  refine useD R h' fun O1 b1 x t1 S1 H1 v R1 hb1 s1 hv h1 => ?_
  refine useD R1 h1 fun O2 b2 y t2 S2 H2 w R2 hb2 s2 hw h2 => ?_
  unfold tst eb bnd dEqP at h2
  cases e : cmpP (vw S2 x) (vw S2 y) with
  | none => simp only [e] at h2; exact h2.elim
  | some k =>
    simp only [e] at h2
    obtain ⟨d1, d2, q1, q2, q3, q4, q5⟩ := cmpP_B (ex_bor R2 (hv.mono s2 hb2)) (ex_bor R2 hw) e
    exact ⟨d1, d2, q1, q2, q3, q4, k, by rw [q5], Post.here h2 R2⟩
theorem pc_neB {m r : ME} (hu : X.A.units + 64 < cLine) (ha : PD X T W a m) (hc : PD X T W c r) (hm : behindInMarks .NotEq c = false := by first | exact nomark _ | rfl) : PC X T W (.Compare a [.NotEq] [c] pos) (tst (eNeB m r)) := by
  refine PT.imp' (pt_cmpR (op_neD hu) ha hc hm) fun σ H Q ⟨G, O, b, t, S, R, h⟩ => ?_
  have h' : Post X.K T W G O b σ H (eb m (fun x => eb r fun y => tst fun t S => dNeP (vw S x) (vw S y) t S) t S) fun _ _ x _ _ H' => Q x H' := by
    unfold tst eNeB eb at h
    rw [bnd_assoc] at h
    simp only [bnd_assoc] at h
    exact h
  refine useD R h' fun O1 b1 x t1 S1 H1 v R1 hb1 s1 hv h1 => ?_
  refine useD R1 h1 fun O2 b2 y t2 S2 H2 w R2 hb2 s2 hw h2 => ?_
  unfold tst eb bnd dNeP at h2
  cases e : cmpP (vw S2 x) (vw S2 y) with
  | none => simp only [e] at h2; exact h2.elim
  | some k =>
    simp only [e] at h2
    obtain ⟨d1, d2, q1, q2, q3, q4, q5⟩ := cmpP_B (ex_bor R2 (hv.mono s2 hb2)) (ex_bor R2 hw) e
    exact ⟨d1, d2, q1, q2, q3, q4, !k, by rw [q5], Post.here h2 R2⟩

end
/-! ### dict displays -/
def kM : List (ME × ME) → M (List (D × D))
  | [] => ret []
  | q :: r => eb q.1 fun x => eb q.2 fun y => bnd (kM r) fun ps => ret ((x, y) :: ps)
def keysD : List (D × D) → Option (List (Key × D))
  | [] => some []
  | (k, v) :: r => match toKey k, keysD r with
    | some q, some kvs => some ((q, v) :: kvs)
    | _, _ => none
def mergeD (kvs : List (Key × D)) (more : List (Key × D)) : List (Key × D) := more.foldl (fun acc kv => dPutD acc kv.1 kv.2) kvs
def eDic (ms : List (ME × ME)) : ME := bnd (kM ms) fun ps => match keysD ps with
  | some kvs => if kvs.length ≤ 15 then ret (.dic (mergeD [] kvs), true) else bad
  | none => bad
def Prs2 (K : PySem.W.Frag) (H : Hp) (O : Addr → Prop) (b : List Addr) : List (D × D) → List (V × V) → Prop
  | [], ps => ps = []
  | q :: r, ps => ∃ v w ws, ps = (v, w) :: ws ∧ At K H O b q.1 v ∧ At K H O b q.2 w ∧ Prs2 K H O b r ws
theorem keysD_at {K : PySem.W.Frag} {H : Hp} {O : Addr → Prop} {b : List Addr} : ∀ {ps : List (D × D)} {ws : List (V × V)} {kvs : List (Key × D)}, Prs2 K H O b ps ws → keysD ps = some kvs → ∃ xs : List (Key × V), ws = xs.map (fun kv => (kV kv.1, kv.2)) ∧ Atk K H O b kvs xs
  | [], ws, kvs, h, e => by cases e; exact ⟨[], h, rfl⟩
  | (k, d) :: ps, ws, kvs, ⟨v, w, r, e1, h1, h2, h3⟩, e => by
    unfold keysD at e
    split at e
    · rename_i q kv' e2 e3
      cases e
      obtain ⟨xs, g1, g2⟩ := keysD_at h3 e3
      exact ⟨(q, w) :: xs, by rw [e1, g1, toKey_at h1 e2]; rfl, w, xs, rfl, h2, g2⟩
    · cases e
theorem merge_at {K : PySem.W.Frag} {H : Hp} {O : Addr → Prop} {b : List Addr} : ∀ {more : List (Key × D)} {ms : List (Key × V)} {kvs : List (Key × D)} {xs : List (Key × V)}, Atk K H O b more ms → Atk K H O b kvs xs → Atk K H O b (mergeD kvs more) (mergeK xs ms)
  | [], _, _, _, h, q => by rw [show _ = [] from h]; exact q
  | (k, d) :: more, _, _, _, ⟨y, ys, e, h, r⟩, q => by subst e; exact (merge_at (more := more) (ms := ys) r (Atk.put h q) : Atk K H O b (mergeD (dPutD _ k d) more) (mergeK (putK _ k y) ys))
theorem Atk.length2 {K : PySem.W.Frag} {H : Hp} {O : Addr → Prop} {b : List Addr} {ds : List (Key × D)} {vs : List (Key × V)} (h : Atk K H O b ds vs) : vs.length = ds.length := h.length
section
variable {X : Cx} {T : List (Addr × Str)} {W : WX} {pos p : Pos}
theorem useK {β : Type} {σ : L2.St} {f : List (D × D) → M β} {k : KT β} {G : Gh} : ∀ {ms : List (ME × ME)} {H : Hp} {O : Addr → Prop} {b : List Addr} {t : Ev} {S : Sto} {Q : List (V × V) → Hp → Prop}, Rel X.K T G O b t S σ H → Post X.K T W G O b σ H (bnd (kM ms) f t S) k →
    (∀ (O1 : Addr → Prop) (b1 : List Addr) (ps : List (D × D)) (t1 : Ev) (S1 : Sto) (H1 : Hp) (ws : List (V × V)), Rel X.K T G O1 b1 t1 S1 σ H1 → b <+: b1 → Stays H O H1 O1 → Prs2 X.K H1 O1 b1 ps ws → Post X.K T W G O1 b1 σ H1 (f ps t1 S1) k → Q ws H1) →
    tPairs (ms.map fun q => (tD X.K T W q.1, tD X.K T W q.2)) σ H Q
  | [], H, O, b, t, S, Q, R, h, g => g O b [] t S H [] R (List.prefix_refl _) (Stays.refl _ _) rfl h
  | q :: ms, H, O, b, t, S, Q, R, h, g => by
    have h' : Post X.K T W G O b σ H (eb q.1 (fun x => eb q.2 fun y => bnd (kM ms) fun ps => f ((x, y) :: ps)) t S) k := by
      unfold kM eb at h
      rw [bnd_assoc] at h
      simp only [bnd_assoc] at h
      exact h
    refine useD R h' fun O1 b1 x t1 S1 H1 v R1 hb1 s1 hv h1 => ?_
    refine useD R1 h1 fun O2 b2 y t2 S2 H2 w R2 hb2 s2 hw h2 => ?_
    refine useK (ms := ms) R2 h2 fun O3 b3 ps t3 S3 H3 ws R3 hb3 s3 hps h3 => ?_
    exact g O3 b3 ((x, y) :: ps) t3 S3 H3 ((v, w) :: ws) R3 ((hb1.trans hb2).trans hb3) ((s1.trans s2).trans s3) ⟨v, w, ws, rfl, (hv.mono s2 hb2).mono s3 hb3, hw.mono s3 hb3, hps⟩ h3
theorem pd_dic {ms : List (ME × ME)} {keys : List (Option Expr)} {values : List Expr} (h : PPs X pos keys values (ms.map fun q => (tD X.K T W q.1, tD X.K T W q.2))) (hall : keys.all (·.isSome) = true) (hl : keys.length = values.length) (h0 : keys ≠ []) (h15 : keys.length ≤ 15) : PD X T W (.Dict keys values pos) (eDic ms) := by
  refine PE.imp' (pe_disp h hall hl h0 h15) fun σ H Q ⟨G, O, b, t, S, R, hh⟩ => fun p hp => ?_
  obtain ⟨R1, s1⟩ := R.newL (o := .dK []) hp nt_dK
  have tm1 := R.tmpOf (d := .dic []) hp nt_dK ⟨[], upd_same, rfl⟩
  have R2 := R1.push tm1 upd_same nt_dK
  have h1 := Post.bnd (hh.later (List.prefix_refl _) s1)
  have h2 : Post X.K T W { G with tm := (p, .dK []) :: G.tm } (fun a => O a ∨ a = p) b σ (upd H p (.dK [])) (bnd (kM ms) ret t S) (fun O' b' ps t' S' H' => Post X.K T W G O' b' σ H' ((match keysD ps with
    | some kvs => if kvs.length ≤ 15 then ret (.dic (mergeD [] kvs), true) else bad
    | none => bad : ME) t' S') (KD X.K G σ Q)) := by
    have z := Post.tm (o := .dK []) tm1.nq h1
    unfold bnd
    revert z
    cases kM ms t S with
    | ok x t' S' => exact fun z => z
    | ex c fs t' S' => exact fun z => z
    | bad => exact fun z => z
  refine useK R2 h2 fun O3 b3 ps t3 S3 H3 ws R3 hb3 s3 hps h3' => ?_
  have h3 := Post.here h3' R3
  obtain ⟨R4, e4, tm4⟩ := R3.pop tm1.nq
  refine ⟨e4, ?_⟩
  cases ek : keysD ps with
  | none => simp only [ek] at h3; exact h3.elim
  | some kvs =>
    simp only [ek] at h3
    by_cases hl15 : kvs.length ≤ 15
    · rw [if_pos hl15] at h3
      obtain ⟨xs, g1, g2⟩ := keysD_at hps ek
      refine ⟨xs, g1, by rw [g2.length]; exact hl15, ?_⟩
      obtain ⟨R5, s5, tm5⟩ := R4.mutT (d' := .dic (mergeD [] kvs)) (o := .dK (mergeK [] xs)) (tm4 (.dic []) ⟨[], e4, rfl⟩) nt_dK fun s => ⟨_, upd_same, merge_at (g2.mono s (List.prefix_refl _)) (show Atk X.K _ _ _ [] [] from rfl)⟩
      exact h3 _ O3 b3 R5 (List.prefix_refl _) s5 _ (.inr ⟨rfl, p, rfl, tm5⟩)
    · rw [if_neg hl15] at h3; exact h3.elim

/-! ### list(range(..)) -/
def dLRg (i j : Int) : ME := if (-1000000000 ≤ i ∧ i ≤ 1000000000) ∧ -1000000000 ≤ j ∧ j ≤ 1000000000 ∧ (j - i).toNat ≤ lim then ret (.lst (rng i (j - i).toNat), true) else bad
def eLRg (a c : ME) : ME := eb a fun x => eb c fun y => match x, y with
  | .int i, .int j => dLRg i j
  | _, _ => bad
def eLRg1 (a : ME) : ME := eb a fun x => match x with
  | .int j => dLRg 0 j
  | _ => bad
theorem rng_ats {K : PySem.W.Frag} {H : Hp} {O : Addr → Prop} {b : List Addr} {f : Nat → D} {g : Nat → V} (hfg : ∀ i, At K H O b (f i) (g i)) : ∀ l : List Nat, Ats K H O b (l.map f) (l.map g)
  | [] => rfl
  | i :: l => ⟨g i, _, rfl, hfg i, rng_ats hfg l⟩
theorem lrg_end {σ : L2.St} {H : Hp} {Q : VK} {G : Gh} {O : Addr → Prop} {b : List Addr} {t : Ev} {S : Sto} {i j : Int} (R : Rel X.K T G O b t S σ H) (h : Post X.K T W G O b σ H (dLRg i j t S) (KD X.K G σ Q)) : RgOk i j ∧ ∀ q, H q = none → Q (.ref q) (upd H q (.lst (rgV i j))) := by
  unfold dLRg at h
  split at h
  · rename_i c
    have hm : lim = 1000000 := rfl
    refine ⟨⟨by omega, by omega, by omega, by omega, by omega⟩, fun q hq => endN R h hq nt_lst fun s => ⟨_, upd_same, rng_ats (f := fun n => D.int (i + (n : Nat))) (g := fun n => V.int (i + (n : Nat))) (fun n => rfl) _⟩⟩
  · exact h.elim
theorem pd_lrg {a c : Expr} {m r : ME} {p1 pos1 : Pos} (hc : X.calm = true) (hg : Gl X "list") (hm : X.mg "list" = none) (hg2 : Gl X "range") (hm2 : X.mg "range" = none) (ha : PD X T W a m) (hd : PD X T W c r)
    (na : starEach [.Call (.Name "range" p1) [a, c] [] pos1] X.env = (false, eval (.Call (.Name "range" p1) [a, c] [] pos1) X.env) :: starEach [] X.env := by rfl)
    (nb : starEach [a, c] X.env = (false, eval a X.env) :: starEach [c] X.env := by rfl) (nc : starEach [c] X.env = (false, eval c X.env) :: starEach [] X.env := by rfl) (hpp : (backTo pos1 (starEach [c] X.env)).any (·.1) = false := by rfl) :
    PD X T W (.Call (.Name "list" p) [.Call (.Name "range" p1) [a, c] [] pos1] [] pos) (eLRg m r) := by
  refine PE.imp' (pe_listRg hc hg hm (prg_2 hg2 hm2 ha hd nb nc hpp) na) fun σ H Q ⟨G, O, b, t, S, R, h⟩ => ?_
  refine useD R h fun O1 b1 x t1 S1 H1 v R1 hb1 s1 hv h1 => ?_
  refine useD R1 h1 fun O2 b2 y t2 S2 H2 w R2 hb2 s2 hw h2 => ?_
  split at h2
  · rename_i i j
    exact ⟨i, j, hv, hw, lrg_end R2 h2⟩
  · exact h2.elim
theorem pd_lrg1 {a : Expr} {m : ME} {p1 pos1 : Pos} (hc : X.calm = true) (hg : Gl X "list") (hm : X.mg "list" = none) (hg2 : Gl X "range") (hm2 : X.mg "range" = none) (ha : PD X T W a m)
    (na : starEach [.Call (.Name "range" p1) [a] [] pos1] X.env = (false, eval (.Call (.Name "range" p1) [a] [] pos1) X.env) :: starEach [] X.env := by rfl) (nb : starEach [a] X.env = (false, eval a X.env) :: starEach [] X.env := by rfl) :
    PD X T W (.Call (.Name "list" p) [.Call (.Name "range" p1) [a] [] pos1] [] pos) (eLRg1 m) := by
  refine PE.imp' (pe_listRg hc hg hm (prg_1 hg2 hm2 ha nb) na) fun σ H Q ⟨G, O, b, t, S, R, h⟩ => ?_
  refine useD R h fun O1 b1 x t1 S1 H1 v R1 hb1 s1 hv h1 => ?_
  split at h1
  · rename_i j
    exact ⟨j, hv, lrg_end R1 h1⟩
  · exact h1.elim
end
end TD

set_option Elab.async false
set_option linter.all false
set_option maxRecDepth 100000
set_option maxHeartbeats 1000000
set_option autoImplicit false
namespace TD
open PySem PySem.Spec PyProof.Rows L2

/-! ### dict(..) of pairs whose keys are tuples -/
abbrev RowT := Addr × List Key × V
def mergeV (acc : List (List Key × V)) (rows : List RowT) : List (List Key × V) := rows.foldl (fun acc r => putK acc r.2.1 r.2.2) acc
theorem kt_merge {H : Hp} : ∀ {rows : List RowT} {kps : List (List Key × Addr × Value)} {acc : List (List Key × V)} {xs : List (List Key × Addr × Value)}, Paired (fun (r : RowT) (q : List Key × Addr × Value) => r.2.1 = q.1 ∧ r.1 = q.2.1 ∧ H r.1 = some (.tup (r.2.1.map kV)) ∧ RelV r.2.2 q.2.2) rows kps → L2.KT H acc xs → L2.KT H (mergeV acc rows) (storedAllH xs kps)
  | [], _, acc, xs, .nil, h => h
  | r :: rows, _, acc, xs, .cons (b := q) ⟨e1, e2, e3, e4⟩ t, h => by
    have z := L2.KT.put h r.2.1 (b := r.1) e3 e4
    have w := kt_merge t z
    rw [e1, e2] at w
    rw [show mergeV acc (r :: rows) = mergeV (putK acc r.2.1 r.2.2) rows from rfl, e1]
    exact w
theorem length_mergeV : ∀ (rows : List RowT) (acc : List (List Key × V)), (mergeV acc rows).length ≤ acc.length + rows.length
  | [], acc => Nat.le_refl _
  | r :: rows, acc => by
    have h1 := length_mergeV rows (putK acc r.2.1 r.2.2)
    have h2 := length_putK acc r.2.1 r.2.2
    show (mergeV (putK acc r.2.1 r.2.2) rows).length ≤ _
    rw [List.length_cons]; omega
section
variable {X : Cx}
theorem rows_of {pins : List (Addr × Obj)} {σ : L2.St} {H : Hp} {s : Shared} (I : Inv X pins σ H s) : ∀ {ps : List Addr} {rows : List RowT}, Paired (fun (p : Addr) (r : RowT) => H p = some (.tup [.ref r.1, r.2.2]) ∧ H r.1 = some (.tup (r.2.1.map kV))) ps rows →
    ∃ kps : List (List Key × Addr × Value), kps.length = ps.length ∧ Paired (fun (r : RowT) (q : List Key × Addr × Value) => r.2.1 = q.1 ∧ r.1 = q.2.1 ∧ H r.1 = some (.tup (r.2.1.map kV)) ∧ RelV r.2.2 q.2.2) rows kps ∧
      ∀ (j : Nat) (q : List Key × Addr × Value), kps[j]? = some q → ∃ p, ps[j]? = some p ∧ s.heap.IsTuple p #[.ref q.2.1, q.2.2] ∧ H q.2.1 = some (.tup (q.1.map kV))
  | _, _, .nil => ⟨[], rfl, .nil, fun j q e => by simp at e⟩
  | _, _, .cons (a := p) (b := r) ⟨h1, h2⟩ t => by
    obtain ⟨kps, hl, hp, hq⟩ := rows_of I t
    obtain ⟨its, rv, ht, _⟩ := I.tuple (.inl (.inl h1))
    obtain ⟨u, y, ei, ru, ry⟩ := vals2 rv
    subst ei
    cases ru
    refine ⟨(r.2.1, r.1, y) :: kps, by rw [List.length_cons, List.length_cons, hl], .cons ⟨rfl, rfl, h2, ry⟩ hp, fun j q e => ?_⟩
    cases j with
    | zero => cases e; exact ⟨p, rfl, ht, h2⟩
    | succ j =>
      obtain ⟨p', e1, e2, e3⟩ := hq j q (by simpa using e)
      exact ⟨p', by simpa using e1, e2, e3⟩
theorem call_dictT (hcalm : X.calm = true) (hu : X.A.units + 100 < cLine) : CallR X (.type "dict") (fun xs H Q => ∃ (a : Addr) (ps : List Addr) (rows : List RowT), xs = [.ref a] ∧ H a = some (.lst (ps.map V.ref)) ∧ Paired (fun (p : Addr) (r : RowT) => H p = some (.tup [.ref r.1, r.2.2]) ∧ H r.1 = some (.tup (r.2.1.map kV))) ps rows ∧
    ∀ p, H p = none → Q (.ref p) (upd H p (.dT (mergeV [] rows)))) := by
  intro pins s σ H xs us Q I r q
  obtain ⟨a, ps, rows, ex, hq, hp, q⟩ := q
  subst ex
  obtain ⟨u, eu, rx⟩ := vals1 r
  subst eu
  cases rx
  obtain ⟨its, rv, pl, hz⟩ := I.list (.inl (.inl hq))
  have ei := refs_at rv
  subst ei
  rw [List.length_map] at hz
  obtain ⟨kps, hl, hrk, hkq⟩ := rows_of I hp
  have hrows : rows.length = ps.length := (Paired.length hp).symm
  obtain ⟨o, n, ho, hc, hd, hdat⟩ := pl
  have PA := PairArg.list (prog := X.prog) (w := X.w) a (ps.map Value.ref).toArray (fun j => ps.getD j 0) (kps.map fun q => (Value.ref q.2.1, q.2.2))
  refine call_dict_pairsH (knd := tupleKind (mixKind X.prog X.w)) (ps := kps) PA (I.ok.hd hcalm) (show X.A.in1.in1.units < cLine from ?_) ⟨⟨o, n, ho, hc, hd, hdat⟩, by simp [hl], fun j k v e => ?_⟩ ⟨by rw [List.length_map], fun i key v e => ?_⟩ (fun h' hk x hx => ?_) (by rw [List.length_map, hl]; exact hz) fun h' tk hd' hk => ?_
  · show X.A.units + 1 + 1 < cLine
    omega
  · rw [List.getElem?_map] at e
    obtain ⟨q0, e1, e2⟩ := Option.map_eq_some_iff.mp e
    cases e2
    obtain ⟨p, g1, g2, g3⟩ := hkq j q0 e1
    have g4 : ps.getD j 0 = p := by rw [List.getD_eq_getElem?_getD, g1]; rfl
    exact ⟨by show _ = some (Value.ref (ps.getD j 0)); rw [g4]; simp [g1], .inl (by show s.heap.IsTuple (ps.getD j 0) _; rw [g4]; exact g2)⟩
  · have e : (kps.map fun q => (Value.ref q.2.1, q.2.2))[i]? = some (key, v) := e
    rw [List.getElem?_map] at e
    obtain ⟨q0, e1, e2⟩ := Option.map_eq_some_iff.mp e
    cases e2
    exact ⟨q0.1, q0.2.1, e1, rfl⟩
  · obtain ⟨j, hj⟩ := List.mem_iff_getElem?.mp hx
    obtain ⟨p, g1, g2, g3⟩ := hkq j x hj
    have I2 : Inv X pins σ H { s with heap := h', toks := s.toks } := I.kept fun b o' e => hk b o' (Nat.ne_of_lt (Heap.lt_size e)) (by simp) e
    exact key_of I2.hok g3
  · obtain ⟨oo, es, ep, d1, d2, d3, d4, d5, d6⟩ := hd'
    have kold : ∀ b o', s.heap.get? b = some o' → h'.get? b = some o' := fun b o' e => hk b o' (by simp) e
    have hn : H s.heap.objs.size = none := I.hok.fresh (Nat.le_refl _)
    have hm : (s.heap.objs.size == sysModules) = false := beq_eq_false_iff_ne.mpr (Nat.ne_of_gt I.big)
    have hlen : (mergeV [] rows).length ≤ sizeLine := by
      refine Nat.le_trans (length_mergeV rows []) ?_
      rw [List.length_nil, Nat.zero_add, hrows]
      exact hz
    have rel : L2.KT H (mergeV [] rows) (storedAllH [] kps) := kt_merge hrk .nil
    refine ⟨.ref s.heap.objs.size, upd H s.heap.objs.size (.dT (mergeV [] rows)), I.laid (t' := tk) kold (Nat.le_refl _) (show ObjOk X.prog X.w _ _ _ (.dT (mergeV [] rows)) from ⟨hlen, hm, storedAllH [] kps, rel.keeps fun b ys e => by rw [upd_ne (ne_of_none e hn)]; exact e, oo, es, ep, d1, d2, d3, d4, d6⟩), rfl, q _ hn⟩
end
def keysT : List D → Option (List Key)
  | [] => some []
  | d :: ds => match toKey d, keysT ds with
    | some k, some ks => some (k :: ks)
    | _, _ => none
def rowD : D → Option (List Key × D)
  | .tup [.tup ks, d] => (keysT ks).map fun k => (k, d)
  | _ => none
def rowsD : List D → Option (List (List Key × D))
  | [] => some []
  | d :: ds => match rowD d, rowsD ds with
    | some k, some ks => some (k :: ks)
    | _, _ => none
def mergeDT (acc : List (List Key × D)) (rows : List (List Key × D)) : List (List Key × D) := rows.foldl (fun acc r => dPutD acc r.1 r.2) acc
def eDictT (m : ME) : ME := eb m fun x => match x with
  | .lst ds => match rowsD ds with
    | some rows => pur (.dct (mergeDT [] rows))
    | none => bad
  | _ => bad
section
variable {K : PySem.W.Frag} {H : Hp} {O : Addr → Prop} {b : List Addr}
theorem Att.repl {k : List Key} {d : D} {v : V} (hd : At K H O b d v) : ∀ {ds : List (List Key × D)} {vs : List (List Key × V)}, Att K H O b ds vs → Att K H O b (ds.map fun kv => if kv.1 = k then (kv.1, d) else kv) (vs.map fun kv => if kv.1 = k then (kv.1, v) else kv)
  | [], _, z => by rw [show _ = [] from z]; rfl
  | (q, d') :: ds, _, ⟨y, ys, e, h, r⟩ => by
    rw [e, List.map_cons, List.map_cons]
    by_cases c : q = k
    · rw [if_pos c, if_pos c]; exact ⟨v, _, rfl, hd, Att.repl hd r⟩
    · rw [if_neg c, if_neg c]; exact ⟨y, _, rfl, h, Att.repl hd r⟩
theorem Att.snoc {k : List Key} {d : D} {v : V} (hd : At K H O b d v) : ∀ {ds : List (List Key × D)} {vs : List (List Key × V)}, Att K H O b ds vs → Att K H O b (ds ++ [(k, d)]) (vs ++ [(k, v)])
  | [], _, z => by rw [show _ = [] from z]; exact ⟨v, [], rfl, hd, rfl⟩
  | (q, d') :: ds, _, ⟨y, ys, e, h, r⟩ => by rw [e]; exact ⟨y, _, rfl, h, Att.snoc hd r⟩
theorem Att.any {k : List Key} : ∀ {ds : List (List Key × D)} {vs : List (List Key × V)}, Att K H O b ds vs → (ds.any fun kv => decide (kv.1 = k)) = vs.any fun kv => decide (kv.1 = k)
  | [], _, z => by rw [show _ = [] from z]; rfl
  | (q, d') :: ds, _, ⟨y, ys, e, h, r⟩ => by rw [e, List.any_cons, List.any_cons, Att.any r]
theorem Att.put {k : List Key} {d : D} {v : V} (hd : At K H O b d v) {ds : List (List Key × D)} {vs : List (List Key × V)} (h : Att K H O b ds vs) : Att K H O b (dPutD ds k d) (putK vs k v) := by
  unfold dPutD putK
  rw [h.any]
  split
  · exact Att.repl hd h
  · exact Att.snoc hd h
theorem keysT_at : ∀ {ds : List D} {vs : List V} {ks : List Key}, Ats K H O b ds vs → keysT ds = some ks → vs = ks.map kV
  | [], vs, ks, h, e => by cases e; exact h
  | d :: ds, vs, ks, ⟨y, ys, ev, h, r⟩, e => by
    unfold keysT at e
    split at e
    · rename_i k ks' e1 e2
      cases e
      rw [ev, toKey_at h e1, keysT_at r e2]
      rfl
    · cases e
/-- how the rows stand -/
theorem rowsD_at : ∀ {ds : List D} {vs : List V} {rows : List (List Key × D)}, Ats K H O b ds vs → rowsD ds = some rows → ∃ (ps : List Addr) (rs : List RowT), vs = ps.map V.ref ∧ Paired (fun (p : Addr) (r : RowT) => H p = some (.tup [.ref r.1, r.2.2]) ∧ H r.1 = some (.tup (r.2.1.map kV))) ps rs ∧
    Paired (fun (q : List Key × D) (r : RowT) => q.1 = r.2.1 ∧ At K H O b q.2 r.2.2) rows rs
  | [], vs, rows, h, e => by cases e; exact ⟨[], [], h, .nil, .nil⟩
  | d :: ds, vs, rows, ⟨y, ys, ev, h, r⟩, e => by
    unfold rowsD at e
    split at e
    · rename_i k ks' e1 e2
      cases e
      obtain ⟨ps, rs, g1, g2, g3⟩ := rowsD_at r e2
      unfold rowD at e1
      split at e1
      · rename_i kds d0
        obtain ⟨kk, e3, e4⟩ := Option.map_eq_some_iff.mp e1
        subst e4
        obtain ⟨p, ws, ep, _, rp, y1, _, f1, a1, y2, _, f2, a2, f3⟩ := h
        obtain ⟨bk, zs, eb1, _, rb, ab⟩ := a1
        have hks := keysT_at ab e3
        refine ⟨p :: ps, (bk, kk, y2) :: rs, by rw [ev, ep, g1]; rfl, .cons ⟨?_, ?_⟩ g2, .cons ⟨rfl, a2⟩ g3⟩
        · rw [rp, f1, f2, f3, eb1]
        · rw [rb, hks]
      · cases e1
    · cases e
theorem mergeT_at : ∀ {rows : List (List Key × D)} {rs : List RowT} {acc : List (List Key × D)} {xs : List (List Key × V)}, Paired (fun (q : List Key × D) (r : RowT) => q.1 = r.2.1 ∧ At K H O b q.2 r.2.2) rows rs → Att K H O b acc xs → Att K H O b (mergeDT acc rows) (mergeV xs rs)
  | [], _, acc, xs, .nil, h => h
  | q :: rows, _, acc, xs, .cons (b := r) ⟨e, hq⟩ t, h => by
    have z := mergeT_at t (Att.put (k := q.1) hq h)
    rw [show mergeDT acc (q :: rows) = mergeDT (dPutD acc q.1 q.2) rows from rfl]
    rw [show mergeV xs (r :: _) = mergeV (putK xs r.2.1 r.2.2) _ from rfl, ← e]
    exact z
end
section
variable {X : Cx} {T : List (Addr × Str)} {W : WX} {pos p : Pos} {e : Expr}
theorem pd_dictT {m : ME} (hcalm : X.calm = true) (hu : X.A.units + 100 < cLine) (hg : Gl X "dict") (hm : X.mg "dict" = none) (hv : bootBuiltins "dict" = some (.type "dict")) (he : PD X T W e m)
    (hs : starEach (e :: []) X.env = (false, eval e X.env) :: starEach [] X.env := by rfl) : PD X T W (.Call (.Name "dict" p) [e] [] pos) (eDictT m) := by
  refine PE.imp' (pe_callTy (call_dictT hcalm hu) hg hm hv (pa_cons he pa_nil hs) (by decide) (by decide) hs) fun σ H Q ⟨G, O, b, t, S, R, h⟩ => ?_
  refine useD R h fun O1 b1 x t1 S1 H1 v R1 hb1 s1 hv h1 => ?_
  split at h1
  · rename_i ds
    cases er : rowsD ds with
    | none => simp only [er] at h1; exact h1.elim
    | some rows =>
      simp only [er] at h1
      obtain ⟨a, vs, ea, ho, ra, qa⟩ := hv
      obtain ⟨ps, rs, g1, g2, g3⟩ := rowsD_at qa er
      refine ⟨a, ps, rs, by rw [ea], by rw [ra, g1], g2, fun q hq => endO R1 h1 hq nt_dT fun s2 no => ⟨q, _, rfl, no, upd_same, ?_⟩⟩
      refine mergeT_at (Paired.mapP g3 fun _ _ z => ⟨z.1, z.2.mono s2 (List.prefix_refl _)⟩) (show Att X.K _ _ _ [] [] from rfl)
  · exact h1.elim
end
end TD

set_option Elab.async false
set_option linter.all false
set_option maxRecDepth 100000
set_option maxHeartbeats 0
set_option autoImplicit false
namespace TD
open PySem PySem.Spec PyProof.Rows L2
section
variable {P : Program} {w : World} {K : PySem.W.Frag} {mg : Str → Option Value} {base : Heap} {T : List (Addr × Str)} {x : Str} {N ps : List Str} {params : Arguments} {body : List Stmt} {scope : Scope} {m : MS} {k : Nat}
theorem def_fd {fd : FuncData} (F : FunD K x x params body scope [] [] (He.ga K x) fd) (S : FnScope N ps scope)
    (hb : ∀ (kV doc pm : Value) (an : Option Addr) (cdv ct : Value) (us : List Value), us.length = ps.length → bindArgs (PySem.W.fnOf x x params body scope .none kV doc pm an cdv ct) ⟨us, []⟩ = pure (ps.zip us))
    (hbody : ∀ (A : Around) (outer : List Env) (s : Shared) (H : Hp) (E : XK), Room k (cxD P w K mg base N x scope A outer s H E).A → PBk (cxD P w K mg base N x scope A outer s H E) T (wE E) body m) :
    FnOk P w K mg base (L2.CX P w) (k + 1) (He.ga K x) fd ps (spT K T (fnD N.length m) ps.length) := by
  have B := FunD.bindsN F hb
  have kp := F.kp
  obtain ⟨oc, od, dV, kV, doc, pm, an, cdv, ct, osl, rfl, lk, hcd, _, _⟩ := F.ex
  obtain ⟨c, ec⟩ := He.codeIn_ref hcd
  have e2 : cdv = .ref (He.codeOf K (x, none)) := by rw [ec, He.codeOf_eq (p := (x, none)) lk (by rw [ec] <;> rfl)]
  subst e2
  refine fn_of lk hcd S (fun vs H Q E h => h.1) fun A outer s H vs Q E hr hsp => ?_
  refine ⟨_, hbody A outer s H E hr, ?_⟩
  obtain ⟨hl, O, b, S0, ds, R, hv, hq⟩ := hsp
  exact ⟨⟨H, O, b, []⟩, O, b, _, S0, start_rel R hv, end_sp hq⟩
end
end TD

set_option Elab.async false
set_option linter.all false
set_option maxRecDepth 100000
set_option maxHeartbeats 0
set_option autoImplicit false
namespace K78
open PySem PySem.Spec PyProof.Rows L2 TD

def TT (K : PySem.W.Frag) : List (Addr × Str) := tf.map fun p => ((He.cT K p).2, p.1 ++ ".<locals>." ++ "<lambda>")
def metT : List Tg := [("BadRoom", "room", "room"), ("BadLength", "length", "length"), ("BadWishes", "wishes", "index"), ("BadEarly", "early", "early"), ("BadLate", "late", "late"), ("BadSetting", "setting", "index"), ("TooSoon", "soon", "moment")]
def fuBox : Ev → Sto → Nat := fun _ S => match (S[0]? : Option D) with
  | some (.lst ds) => ds.length + 1
  | _ => 1
def fuInt (i : Nat) : Ev → Sto → Nat := fun t _ => match (t[i]? : Option Slot) with
  | some (.sh (.int k)) => k.natAbs + 1
  | _ => 1
def fuLen (i : Nat) : Ev → Sto → Nat := fun t _ => match (t[i]? : Option Slot) with
  | some (.ow (.lst ds)) => ds.length + 1
  | _ => 1
/-- all that the written part says -/
structure Hh (w : World) (K : PySem.W.Frag) (mg : Str → Option Value) (base h : Heap) : Prop where
  c : He.SaysX fa fn [] tf exK w h K
  x : K.In h
  g : h.Ns mainGlobals mg
  tb : ∀ p ∈ tf, LamX.TabB base mg (He.cT K p).1 (He.cT K p).2
section
variable {P : Program} {w : World} {K : PySem.W.Frag} {mg : Str → Option Value} {base h : Heap}
theorem gl_at (hh : Hh w K mg base h) (i : Nat) {x : Str} (e : fa[i]? = some (.glo x)) : mg x = some (.ref (He.ga K x)) := He.glo_ok hh.x hh.g (hh.c.t.d.fact i e)
theorem fr_at (hh : Hh w K mg base h) (i : Nat) {x : Str} (e : fa[i]? = some (.free x)) : mg x = none := He.free_ok hh.x hh.g (hh.c.t.d.fact i e)
theorem ex_all (hh : Hh w K mg base h) : (((tyN.all (fun x => decide (PySem.W.typeIn K (.ref (He.ga K x)) = some (.type "function"))) = true ∧ excN.all (fun q => exB K q.1 q.2) = true) ∧ excN.all (fun q => excN.all fun r => decide (PySem.W.exmOne K (.ref (He.ga K q.1)) (.ref (He.ga K r.1)) = some (decide (r.1 = q.1)))) = true) ∧ PySem.W.nsIn K mainGlobals "gcd" = some (some (.builtin "math.gcd"))) ∧ (tf.map fun p => (He.cT K p).2).Nodup := by
  have z := hh.c.more
  unfold exK at z
  rw [Bool.and_eq_true, Bool.and_eq_true, Bool.and_eq_true, Bool.and_eq_true, decide_eq_true_eq, decide_eq_true_eq] at z
  exact z
theorem ty_at (hh : Hh w K mg base h) {x : Str} (e : x ∈ tyN) : PySem.W.typeIn K (.ref (He.ga K x)) = some (.type "function") := of_decide_eq_true (List.all_eq_true.mp (ex_all hh).1.1.1.1 x e)
theorem exb_at (hh : Hh w K mg base h) {q : Str × Str} (e : q ∈ excN) : exB K q.1 q.2 = true := List.all_eq_true.mp (ex_all hh).1.1.1.2 q e
theorem exm_at (hh : Hh w K mg base h) {q r : Str × Str} (e : q ∈ excN) (f : r ∈ excN) : PySem.W.exmOne K (.ref (He.ga K q.1)) (.ref (He.ga K r.1)) = some (decide (r.1 = q.1)) := of_decide_eq_true (List.all_eq_true.mp (List.all_eq_true.mp (ex_all hh).1.1.2 q e) r f)
theorem gl_gcd (hh : Hh w K mg base h) : mg "gcd" = some (.builtin "math.gcd") := PySem.W.mg_of hh.x hh.g (ex_all hh).1.2
theorem fn_at (hh : Hh w K mg base h) (i : Nat) {d : He.DefD} (e : fn[i]? = some d) : ∃ fd, FunD K d.name d.qual d.params d.body d.scope (d.dvs K) (d.kws K) (He.fAd K d.at_) fd := hh.c.t.d.def_ i e
theorem tab_ne (hh : Hh w K mg base h) : ∀ i j : Nat, ∀ p q : He.Defn, tf[i]? = some p → tf[j]? = some q → (He.cT K p).2 = (He.cT K q).2 → i = j := fun i j p q e1 e2 e => by
  have nd := (ex_all hh).2
  have l1 : (tf.map fun p => (He.cT K p).2)[i]? = some (He.cT K p).2 := by rw [List.getElem?_map, e1]; rfl
  have l2 : (tf.map fun p => (He.cT K p).2)[j]? = some (He.cT K q).2 := by rw [List.getElem?_map, e2]; rfl
  exact (List.getElem?_inj (List.getElem?_eq_some_iff.mp l1).1 nd).mp (by rw [l1, l2, e])
theorem tu_at (hh : Hh w K mg base h) (i : Nat) {p : He.Defn} (e : tf[i]? = some p) : ∀ r ∈ TT K, r.1 = (He.cT K p).2 → r.2 = p.1 ++ ".<locals>." ++ "<lambda>" := fun r hr e2 => by
  obtain ⟨q, hq, rfl⟩ := List.mem_map.mp hr
  obtain ⟨j, hj⟩ := List.mem_iff_getElem?.mp hq
  have := tab_ne hh j i q p hj e e2
  subst this
  rw [hj] at e
  cases e
  rfl
theorem tm_at (i : Nat) {p : He.Defn} (e : tf[i]? = some p) : ((He.cT K p).2, p.1 ++ ".<locals>." ++ "<lambda>") ∈ TT K := List.mem_map.mpr ⟨p, List.mem_of_getElem? e, rfl⟩
theorem tb_at (hh : Hh w K mg base h) (i : Nat) {p : He.Defn} (e : tf[i]? = some p) : LamX.TabB base mg (He.cT K p).1 (He.cT K p).2 := hh.tb p (List.mem_of_getElem? e)
theorem held_nil {n k : Nat} : ∀ y G, ([] : List (Str × Fn)).lookup y = some G → ∃ ps : List Str, ps.length = n ∧ Def P w K mg base (TT K) y ps G k := fun y G e => by cases e
theorem held_cons {n k : Nat} {x : Str} {F : Fn} {ps : List Str} {l : List (Str × Fn)} (D : Def P w K mg base (TT K) x ps F k) (hn : ps.length = n) (r : ∀ y G, l.lookup y = some G → ∃ ps : List Str, ps.length = n ∧ Def P w K mg base (TT K) y ps G k) :
    ∀ y G, ((x, F) :: l).lookup y = some G → ∃ ps : List Str, ps.length = n ∧ Def P w K mg base (TT K) y ps G k := fun y G e => by
  rw [List.lookup_cons] at e
  cases hb : y == x with
  | true =>
    rw [hb] at e
    cases e
    rw [eq_of_beq hb]
    exact ⟨ps, hn, D⟩
  | false =>
    rw [hb] at e
    exact r y G e
theorem gl_is_list (hh : Hh w K mg base h) : mg "is_list" = some (.ref (He.ga K "is_list")) := gl_at hh 0 rfl
theorem fn_is_list (hh : Hh w K mg base h) : ∃ fd, FunD K "is_list" "is_list" (defArgs (top 5)) (defBody (top 5)) (defScope (top 5)) [] [] (He.ga K "is_list") fd := fn_at hh 0 (d := dd "is_list" 5) rfl
theorem gl_is_whole (hh : Hh w K mg base h) : mg "is_whole" = some (.ref (He.ga K "is_whole")) := gl_at hh 1 rfl
theorem fn_is_whole (hh : Hh w K mg base h) : ∃ fd, FunD K "is_whole" "is_whole" (defArgs (top 6)) (defBody (top 6)) (defScope (top 6)) [] [] (He.ga K "is_whole") fd := fn_at hh 1 (d := dd "is_whole" 6) rfl
theorem gl_is_positive (hh : Hh w K mg base h) : mg "is_positive" = some (.ref (He.ga K "is_positive")) := gl_at hh 2 rfl
theorem fn_is_positive (hh : Hh w K mg base h) : ∃ fd, FunD K "is_positive" "is_positive" (defArgs (top 7)) (defBody (top 7)) (defScope (top 7)) [] [] (He.ga K "is_positive") fd := fn_at hh 2 (d := dd "is_positive" 7) rfl
theorem gl_lowest (hh : Hh w K mg base h) : mg "lowest" = some (.ref (He.ga K "lowest")) := gl_at hh 3 rfl
theorem fn_lowest (hh : Hh w K mg base h) : ∃ fd, FunD K "lowest" "lowest" (defArgs (top 8)) (defBody (top 8)) (defScope (top 8)) [] [] (He.ga K "lowest") fd := fn_at hh 3 (d := dd "lowest" 8) rfl
theorem gl_is_fraction (hh : Hh w K mg base h) : mg "is_fraction" = some (.ref (He.ga K "is_fraction")) := gl_at hh 4 rfl
theorem fn_is_fraction (hh : Hh w K mg base h) : ∃ fd, FunD K "is_fraction" "is_fraction" (defArgs (top 9)) (defBody (top 9)) (defScope (top 9)) [] [] (He.ga K "is_fraction") fd := fn_at hh 4 (d := dd "is_fraction" 9) rfl
theorem gl_is_heap (hh : Hh w K mg base h) : mg "is_heap" = some (.ref (He.ga K "is_heap")) := gl_at hh 5 rfl
theorem fn_is_heap (hh : Hh w K mg base h) : ∃ fd, FunD K "is_heap" "is_heap" (defArgs (top 10)) (defBody (top 10)) (defScope (top 10)) [] [] (He.ga K "is_heap") fd := fn_at hh 5 (d := dd "is_heap" 10) rfl
theorem gl_told (hh : Hh w K mg base h) : mg "told" = some (.ref (He.ga K "told")) := gl_at hh 6 rfl
theorem fn_told (hh : Hh w K mg base h) : ∃ fd, FunD K "told" "told" (defArgs (top 11)) (defBody (top 11)) (defScope (top 11)) [] [] (He.ga K "told") fd := fn_at hh 6 (d := dd "told" 11) rfl
theorem gl_plus (hh : Hh w K mg base h) : mg "plus" = some (.ref (He.ga K "plus")) := gl_at hh 7 rfl
theorem fn_plus (hh : Hh w K mg base h) : ∃ fd, FunD K "plus" "plus" (defArgs (top 12)) (defBody (top 12)) (defScope (top 12)) [] [] (He.ga K "plus") fd := fn_at hh 7 (d := dd "plus" 12) rfl
theorem gl_less (hh : Hh w K mg base h) : mg "less" = some (.ref (He.ga K "less")) := gl_at hh 8 rfl
theorem fn_less (hh : Hh w K mg base h) : ∃ fd, FunD K "less" "less" (defArgs (top 13)) (defBody (top 13)) (defScope (top 13)) [] [] (He.ga K "less") fd := fn_at hh 8 (d := dd "less" 13) rfl
theorem gl_times (hh : Hh w K mg base h) : mg "times" = some (.ref (He.ga K "times")) := gl_at hh 9 rfl
theorem fn_times (hh : Hh w K mg base h) : ∃ fd, FunD K "times" "times" (defArgs (top 14)) (defBody (top 14)) (defScope (top 14)) [] [] (He.ga K "times") fd := fn_at hh 9 (d := dd "times" 14) rfl
theorem gl_parted (hh : Hh w K mg base h) : mg "parted" = some (.ref (He.ga K "parted")) := gl_at hh 10 rfl
theorem fn_parted (hh : Hh w K mg base h) : ∃ fd, FunD K "parted" "parted" (defArgs (top 15)) (defBody (top 15)) (defScope (top 15)) [] [] (He.ga K "parted") fd := fn_at hh 10 (d := dd "parted" 15) rfl
theorem gl_is_below (hh : Hh w K mg base h) : mg "is_below" = some (.ref (He.ga K "is_below")) := gl_at hh 11 rfl
theorem fn_is_below (hh : Hh w K mg base h) : ∃ fd, FunD K "is_below" "is_below" (defArgs (top 16)) (defBody (top 16)) (defScope (top 16)) [] [] (He.ga K "is_below") fd := fn_at hh 11 (d := dd "is_below" 16) rfl
theorem gl_least (hh : Hh w K mg base h) : mg "least" = some (.ref (He.ga K "least")) := gl_at hh 12 rfl
theorem fn_least (hh : Hh w K mg base h) : ∃ fd, FunD K "least" "least" (defArgs (top 17)) (defBody (top 17)) (defScope (top 17)) [] [] (He.ga K "least") fd := fn_at hh 12 (d := dd "least" 17) rfl
theorem gl_greatest (hh : Hh w K mg base h) : mg "greatest" = some (.ref (He.ga K "greatest")) := gl_at hh 13 rfl
theorem fn_greatest (hh : Hh w K mg base h) : ∃ fd, FunD K "greatest" "greatest" (defArgs (top 18)) (defBody (top 18)) (defScope (top 18)) [] [] (He.ga K "greatest") fd := fn_at hh 13 (d := dd "greatest" 18) rfl
theorem gl_sum_of (hh : Hh w K mg base h) : mg "sum_of" = some (.ref (He.ga K "sum_of")) := gl_at hh 14 rfl
theorem fn_sum_of (hh : Hh w K mg base h) : ∃ fd, FunD K "sum_of" "sum_of" (defArgs (top 19)) (defBody (top 19)) (defScope (top 19)) [] [] (He.ga K "sum_of") fd := fn_at hh 14 (d := dd "sum_of" 19) rfl
theorem gl_in_order (hh : Hh w K mg base h) : mg "in_order" = some (.ref (He.ga K "in_order")) := gl_at hh 15 rfl
theorem fn_in_order (hh : Hh w K mg base h) : ∃ fd, FunD K "in_order" "in_order" (defArgs (top 20)) (defBody (top 20)) (defScope (top 20)) [] [] (He.ga K "in_order") fd := fn_at hh 15 (d := dd "in_order" 20) rfl
theorem gl_check_road (hh : Hh w K mg base h) : mg "check_road" = some (.ref (He.ga K "check_road")) := gl_at hh 16 rfl
theorem fn_check_road (hh : Hh w K mg base h) : ∃ fd, FunD K "check_road" "check_road" (defArgs (top 36)) (defBody (top 36)) (defScope (top 36)) [] [] (He.ga K "check_road") fd := fn_at hh 16 (d := dd "check_road" 36) rfl
theorem gl_is_wish (hh : Hh w K mg base h) : mg "is_wish" = some (.ref (He.ga K "is_wish")) := gl_at hh 17 rfl
theorem fn_is_wish (hh : Hh w K mg base h) : ∃ fd, FunD K "is_wish" "is_wish" (defArgs (top 37)) (defBody (top 37)) (defScope (top 37)) [] [] (He.ga K "is_wish") fd := fn_at hh 17 (d := dd "is_wish" 37) rfl
theorem gl_checked_wishes (hh : Hh w K mg base h) : mg "checked_wishes" = some (.ref (He.ga K "checked_wishes")) := gl_at hh 18 rfl
theorem fn_checked_wishes (hh : Hh w K mg base h) : ∃ fd, FunD K "checked_wishes" "checked_wishes" (defArgs (top 38)) (defBody (top 38)) (defScope (top 38)) [] [] (He.ga K "checked_wishes") fd := fn_at hh 18 (d := dd "checked_wishes" 38) rfl
theorem gl_checked_troubles (hh : Hh w K mg base h) : mg "checked_troubles" = some (.ref (He.ga K "checked_troubles")) := gl_at hh 19 rfl
theorem fn_checked_troubles (hh : Hh w K mg base h) : ∃ fd, FunD K "checked_troubles" "checked_troubles" (defArgs (top 39)) (defBody (top 39)) (defScope (top 39)) [] [] (He.ga K "checked_troubles") fd := fn_at hh 19 (d := dd "checked_troubles" 39) rfl
theorem gl_spans_of (hh : Hh w K mg base h) : mg "spans_of" = some (.ref (He.ga K "spans_of")) := gl_at hh 20 rfl
theorem fn_spans_of (hh : Hh w K mg base h) : ∃ fd, FunD K "spans_of" "spans_of" (defArgs (top 40)) (defBody (top 40)) (defScope (top 40)) [] [] (He.ga K "spans_of") fd := fn_at hh 20 (d := dd "spans_of" 40) rfl
theorem gl_offsets_of (hh : Hh w K mg base h) : mg "offsets_of" = some (.ref (He.ga K "offsets_of")) := gl_at hh 21 rfl
theorem fn_offsets_of (hh : Hh w K mg base h) : ∃ fd, FunD K "offsets_of" "offsets_of" (defArgs (top 41)) (defBody (top 41)) (defScope (top 41)) [] [] (He.ga K "offsets_of") fd := fn_at hh 21 (d := dd "offsets_of" 41) rfl
theorem gl_early_beats (hh : Hh w K mg base h) : mg "early_beats" = some (.ref (He.ga K "early_beats")) := gl_at hh 22 rfl
theorem fn_early_beats (hh : Hh w K mg base h) : ∃ fd, FunD K "early_beats" "early_beats" (defArgs (top 42)) (defBody (top 42)) (defScope (top 42)) [] [] (He.ga K "early_beats") fd := fn_at hh 22 (d := dd "early_beats" 42) rfl
theorem gl_begin_of (hh : Hh w K mg base h) : mg "begin_of" = some (.ref (He.ga K "begin_of")) := gl_at hh 23 rfl
theorem fn_begin_of (hh : Hh w K mg base h) : ∃ fd, FunD K "begin_of" "begin_of" (defArgs (top 43)) (defBody (top 43)) (defScope (top 43)) [] [] (He.ga K "begin_of") fd := fn_at hh 23 (d := dd "begin_of" 43) rfl
theorem gl_blocks_of (hh : Hh w K mg base h) : mg "blocks_of" = some (.ref (He.ga K "blocks_of")) := gl_at hh 24 rfl
theorem fn_blocks_of (hh : Hh w K mg base h) : ∃ fd, FunD K "blocks_of" "blocks_of" (defArgs (top 44)) (defBody (top 44)) (defScope (top 44)) [] [] (He.ga K "blocks_of") fd := fn_at hh 24 (d := dd "blocks_of" 44) rfl
theorem gl_pieces_of (hh : Hh w K mg base h) : mg "pieces_of" = some (.ref (He.ga K "pieces_of")) := gl_at hh 25 rfl
theorem fn_pieces_of (hh : Hh w K mg base h) : ∃ fd, FunD K "pieces_of" "pieces_of" (defArgs (top 45)) (defBody (top 45)) (defScope (top 45)) [] [] (He.ga K "pieces_of") fd := fn_at hh 25 (d := dd "pieces_of" 45) rfl
theorem gl_checked_all (hh : Hh w K mg base h) : mg "checked_all" = some (.ref (He.ga K "checked_all")) := gl_at hh 26 rfl
theorem fn_checked_all (hh : Hh w K mg base h) : ∃ fd, FunD K "checked_all" "checked_all" (defArgs (top 46)) (defBody (top 46)) (defScope (top 46)) [] [] (He.ga K "checked_all") fd := fn_at hh 26 (d := dd "checked_all" 46) rfl
theorem gl_check_soon (hh : Hh w K mg base h) : mg "check_soon" = some (.ref (He.ga K "check_soon")) := gl_at hh 27 rfl
theorem fn_check_soon (hh : Hh w K mg base h) : ∃ fd, FunD K "check_soon" "check_soon" (defArgs (top 47)) (defBody (top 47)) (defScope (top 47)) [] [] (He.ga K "check_soon") fd := fn_at hh 27 (d := dd "check_soon" 47) rfl
theorem gl_settled (hh : Hh w K mg base h) : mg "settled" = some (.ref (He.ga K "settled")) := gl_at hh 28 rfl
theorem fn_settled (hh : Hh w K mg base h) : ∃ fd, FunD K "settled" "settled" (defArgs (top 50)) (defBody (top 50)) (defScope (top 50)) [] [] (He.ga K "settled") fd := fn_at hh 28 (d := dd "settled" 50) rfl
theorem gl_stretches (hh : Hh w K mg base h) : mg "stretches" = some (.ref (He.ga K "stretches")) := gl_at hh 29 rfl
theorem fn_stretches (hh : Hh w K mg base h) : ∃ fd, FunD K "stretches" "stretches" (defArgs (top 51)) (defBody (top 51)) (defScope (top 51)) [] [] (He.ga K "stretches") fd := fn_at hh 29 (d := dd "stretches" 51) rfl
theorem gl_sorrow (hh : Hh w K mg base h) : mg "sorrow" = some (.ref (He.ga K "sorrow")) := gl_at hh 30 rfl
theorem fn_sorrow (hh : Hh w K mg base h) : ∃ fd, FunD K "sorrow" "sorrow" (defArgs (top 52)) (defBody (top 52)) (defScope (top 52)) [] [] (He.ga K "sorrow") fd := fn_at hh 30 (d := dd "sorrow" 52) rfl
theorem gl_troubles (hh : Hh w K mg base h) : mg "troubles" = some (.ref (He.ga K "troubles")) := gl_at hh 31 rfl
theorem fn_troubles (hh : Hh w K mg base h) : ∃ fd, FunD K "troubles" "troubles" (defArgs (top 53)) (defBody (top 53)) (defScope (top 53)) [] [] (He.ga K "troubles") fd := fn_at hh 31 (d := dd "troubles" 53) rfl
theorem gl_checked_setting (hh : Hh w K mg base h) : mg "checked_setting" = some (.ref (He.ga K "checked_setting")) := gl_at hh 32 rfl
theorem fn_checked_setting (hh : Hh w K mg base h) : ∃ fd, FunD K "checked_setting" "checked_setting" (defArgs (top 54)) (defBody (top 54)) (defScope (top 54)) [] [] (He.ga K "checked_setting") fd := fn_at hh 32 (d := dd "checked_setting" 54) rfl
theorem gl_gains (hh : Hh w K mg base h) : mg "gains" = some (.ref (He.ga K "gains")) := gl_at hh 33 rfl
theorem fn_gains (hh : Hh w K mg base h) : ∃ fd, FunD K "gains" "gains" (defArgs (top 58)) (defBody (top 58)) (defScope (top 58)) [] [] (He.ga K "gains") fd := fn_at hh 33 (d := dd "gains" 58) rfl
theorem gl_toll (hh : Hh w K mg base h) : mg "toll" = some (.ref (He.ga K "toll")) := gl_at hh 34 rfl
theorem fn_toll (hh : Hh w K mg base h) : ∃ fd, FunD K "toll" "toll" (defArgs (top 62)) (defBody (top 62)) (defScope (top 62)) [] [] (He.ga K "toll") fd := fn_at hh 34 (d := dd "toll" 62) rfl
theorem gl_tolled (hh : Hh w K mg base h) : mg "tolled" = some (.ref (He.ga K "tolled")) := gl_at hh 35 rfl
theorem fn_tolled (hh : Hh w K mg base h) : ∃ fd, FunD K "tolled" "tolled" (defArgs (top 63)) (defBody (top 63)) (defScope (top 63)) [] [] (He.ga K "tolled") fd := fn_at hh 35 (d := dd "tolled" 63) rfl
theorem gl_paid (hh : Hh w K mg base h) : mg "paid" = some (.ref (He.ga K "paid")) := gl_at hh 36 rfl
theorem fn_paid (hh : Hh w K mg base h) : ∃ fd, FunD K "paid" "paid" (defArgs (top 64)) (defBody (top 64)) (defScope (top 64)) [] [] (He.ga K "paid") fd := fn_at hh 36 (d := dd "paid" 64) rfl
theorem gl__law_stream (hh : Hh w K mg base h) : mg "_law_stream" = some (.ref (He.ga K "_law_stream")) := gl_at hh 37 rfl
theorem fn__law_stream (hh : Hh w K mg base h) : ∃ fd, FunD K "_law_stream" "_law_stream" (defArgs (top 66)) (defBody (top 66)) (defScope (top 66)) [] [] (He.ga K "_law_stream") fd := fn_at hh 37 (d := dd "_law_stream" 66) rfl
theorem gl__law_draw (hh : Hh w K mg base h) : mg "_law_draw" = some (.ref (He.ga K "_law_draw")) := gl_at hh 38 rfl
theorem fn__law_draw (hh : Hh w K mg base h) : ∃ fd, FunD K "_law_draw" "_law_draw" (defArgs (top 67)) (defBody (top 67)) (defScope (top 67)) [] [] (He.ga K "_law_draw") fd := fn_at hh 38 (d := dd "_law_draw" 67) rfl
theorem gl__law_pick (hh : Hh w K mg base h) : mg "_law_pick" = some (.ref (He.ga K "_law_pick")) := gl_at hh 39 rfl
theorem fn__law_pick (hh : Hh w K mg base h) : ∃ fd, FunD K "_law_pick" "_law_pick" (defArgs (top 68)) (defBody (top 68)) (defScope (top 68)) [] [] (He.ga K "_law_pick") fd := fn_at hh 39 (d := dd "_law_pick" 68) rfl
theorem gl__law_same (hh : Hh w K mg base h) : mg "_law_same" = some (.ref (He.ga K "_law_same")) := gl_at hh 40 rfl
theorem fn__law_same (hh : Hh w K mg base h) : ∃ fd, FunD K "_law_same" "_law_same" (defArgs (top 69)) (defBody (top 69)) (defScope (top 69)) [] [] (He.ga K "_law_same") fd := fn_at hh 40 (d := dd "_law_same" 69) rfl
theorem gl__law_common (hh : Hh w K mg base h) : mg "_law_common" = some (.ref (He.ga K "_law_common")) := gl_at hh 41 rfl
theorem fn__law_common (hh : Hh w K mg base h) : ∃ fd, FunD K "_law_common" "_law_common" (defArgs (top 70)) (defBody (top 70)) (defScope (top 70)) [] [] (He.ga K "_law_common") fd := fn_at hh 41 (d := dd "_law_common" 70) rfl
theorem gl__law_low (hh : Hh w K mg base h) : mg "_law_low" = some (.ref (He.ga K "_law_low")) := gl_at hh 42 rfl
theorem fn__law_low (hh : Hh w K mg base h) : ∃ fd, FunD K "_law_low" "_law_low" (defArgs (top 71)) (defBody (top 71)) (defScope (top 71)) [] [] (He.ga K "_law_low") fd := fn_at hh 42 (d := dd "_law_low" 71) rfl
theorem gl__law_plus (hh : Hh w K mg base h) : mg "_law_plus" = some (.ref (He.ga K "_law_plus")) := gl_at hh 43 rfl
theorem fn__law_plus (hh : Hh w K mg base h) : ∃ fd, FunD K "_law_plus" "_law_plus" (defArgs (top 72)) (defBody (top 72)) (defScope (top 72)) [] [] (He.ga K "_law_plus") fd := fn_at hh 43 (d := dd "_law_plus" 72) rfl
theorem gl__law_wishes (hh : Hh w K mg base h) : mg "_law_wishes" = some (.ref (He.ga K "_law_wishes")) := gl_at hh 44 rfl
theorem fn__law_wishes (hh : Hh w K mg base h) : ∃ fd, FunD K "_law_wishes" "_law_wishes" (defArgs (top 73)) (defBody (top 73)) (defScope (top 73)) [] [] (He.ga K "_law_wishes") fd := fn_at hh 44 (d := dd "_law_wishes" 73) rfl
theorem gl__law_worths (hh : Hh w K mg base h) : mg "_law_worths" = some (.ref (He.ga K "_law_worths")) := gl_at hh 45 rfl
theorem fn__law_worths (hh : Hh w K mg base h) : ∃ fd, FunD K "_law_worths" "_law_worths" (defArgs (top 74)) (defBody (top 74)) (defScope (top 74)) [] [] (He.ga K "_law_worths") fd := fn_at hh 45 (d := dd "_law_worths" 74) rfl
theorem gl__law_met (hh : Hh w K mg base h) : mg "_law_met" = some (.ref (He.ga K "_law_met")) := gl_at hh 46 rfl
theorem fn__law_met (hh : Hh w K mg base h) : ∃ fd, FunD K "_law_met" "_law_met" (defArgs (top 75)) (defBody (top 75)) (defScope (top 75)) [] [] (He.ga K "_law_met") fd := fn_at hh 46 (d := dd "_law_met" 75) rfl
theorem gl__law_all (hh : Hh w K mg base h) : mg "_law_all" = some (.ref (He.ga K "_law_all")) := gl_at hh 47 rfl
theorem fn__law_all (hh : Hh w K mg base h) : ∃ fd, FunD K "_law_all" "_law_all" (defArgs (top 76)) (defBody (top 76)) (defScope (top 76)) [] [] (He.ga K "_law_all") fd := fn_at hh 47 (d := dd "_law_all" 76) rfl
theorem gl__law_bad_wishes (hh : Hh w K mg base h) : mg "_law_bad_wishes" = some (.ref (He.ga K "_law_bad_wishes")) := gl_at hh 48 rfl
theorem fn__law_bad_wishes (hh : Hh w K mg base h) : ∃ fd, FunD K "_law_bad_wishes" "_law_bad_wishes" (defArgs (top 77)) (defBody (top 77)) (defScope (top 77)) [] [] (He.ga K "_law_bad_wishes") fd := fn_at hh 48 (d := dd "_law_bad_wishes" 77) rfl
theorem gl_law (hh : Hh w K mg base h) : mg "law" = some (.ref (He.ga K "law")) := gl_at hh 49 rfl
theorem fn_law (hh : Hh w K mg base h) : ∃ fd, FunD K "law" "law" (defArgs (top 78)) (defBody (top 78)) (defScope (top 78)) [] [] (He.ga K "law") fd := fn_at hh 49 (d := dd "law" 78) rfl
theorem ty__law_pick (hh : Hh w K mg base h) : PySem.W.typeIn K (.ref (He.ga K "_law_pick")) = some (.type "function") := ty_at hh (by decide +kernel)
theorem ty_paid (hh : Hh w K mg base h) : PySem.W.typeIn K (.ref (He.ga K "paid")) = some (.type "function") := ty_at hh (by decide +kernel)
theorem ty_settled (hh : Hh w K mg base h) : PySem.W.typeIn K (.ref (He.ga K "settled")) = some (.type "function") := ty_at hh (by decide +kernel)
theorem ty_stretches (hh : Hh w K mg base h) : PySem.W.typeIn K (.ref (He.ga K "stretches")) = some (.type "function") := ty_at hh (by decide +kernel)
theorem ty_toll (hh : Hh w K mg base h) : PySem.W.typeIn K (.ref (He.ga K "toll")) = some (.type "function") := ty_at hh (by decide +kernel)
theorem ty_tolled (hh : Hh w K mg base h) : PySem.W.typeIn K (.ref (He.ga K "tolled")) = some (.type "function") := ty_at hh (by decide +kernel)
theorem ty_troubles (hh : Hh w K mg base h) : PySem.W.typeIn K (.ref (He.ga K "troubles")) = some (.type "function") := ty_at hh (by decide +kernel)
theorem fr_abs (hh : Hh w K mg base h) : mg "abs" = none := fr_at hh 57 rfl
theorem fr_all (hh : Hh w K mg base h) : mg "all" = none := fr_at hh 58 rfl
theorem fr_bool (hh : Hh w K mg base h) : mg "bool" = none := fr_at hh 59 rfl
theorem fr_dict (hh : Hh w K mg base h) : mg "dict" = none := fr_at hh 60 rfl
theorem fr_enumerate (hh : Hh w K mg base h) : mg "enumerate" = none := fr_at hh 61 rfl
theorem fr_int (hh : Hh w K mg base h) : mg "int" = none := fr_at hh 62 rfl
theorem fr_isinstance (hh : Hh w K mg base h) : mg "isinstance" = none := fr_at hh 63 rfl
theorem fr_len (hh : Hh w K mg base h) : mg "len" = none := fr_at hh 64 rfl
theorem fr_list (hh : Hh w K mg base h) : mg "list" = none := fr_at hh 65 rfl
theorem fr_range (hh : Hh w K mg base h) : mg "range" = none := fr_at hh 66 rfl
theorem fr_sorted (hh : Hh w K mg base h) : mg "sorted" = none := fr_at hh 67 rfl
theorem fr_tuple (hh : Hh w K mg base h) : mg "tuple" = none := fr_at hh 68 rfl
theorem fr_zip (hh : Hh w K mg base h) : mg "zip" = none := fr_at hh 69 rfl
theorem tb_in_order (hh : Hh w K mg base h) : LamX.TabB base mg (He.codeOf K ("in_order", none)) (He.cT K ("in_order", none)).2 := tb_at hh 0 rfl
theorem tu_in_order (hh : Hh w K mg base h) : ∀ r ∈ TT K, r.1 = (He.cT K ("in_order", none)).2 → r.2 = "in_order" ++ ".<locals>." ++ "<lambda>" := tu_at hh 0 rfl
theorem tm_in_order : ((He.cT K ("in_order", none)).2, ("in_order" ++ ".<locals>." ++ "<lambda>" : Str)) ∈ TT K := tm_at 0 rfl
theorem tb__law_all (hh : Hh w K mg base h) : LamX.TabB base mg (He.codeOf K ("_law_all", none)) (He.cT K ("_law_all", none)).2 := tb_at hh 1 rfl
theorem tu__law_all (hh : Hh w K mg base h) : ∀ r ∈ TT K, r.1 = (He.cT K ("_law_all", none)).2 → r.2 = "_law_all" ++ ".<locals>." ++ "<lambda>" := tu_at hh 1 rfl
theorem tm__law_all : ((He.cT K ("_law_all", none)).2, ("_law_all" ++ ".<locals>." ++ "<lambda>" : Str)) ∈ TT K := tm_at 1 rfl
theorem tb_law (hh : Hh w K mg base h) : LamX.TabB base mg (He.codeOf K ("law", none)) (He.cT K ("law", none)).2 := tb_at hh 2 rfl
theorem tu_law (hh : Hh w K mg base h) : ∀ r ∈ TT K, r.1 = (He.cT K ("law", none)).2 → r.2 = "law" ++ ".<locals>." ++ "<lambda>" := tu_at hh 2 rfl
theorem tm_law : ((He.cT K ("law", none)).2, ("law" ++ ".<locals>." ++ "<lambda>" : Str)) ∈ TT K := tm_at 2 rfl
theorem ex_BadRoom (hh : Hh w K mg base h) : ExD P w K mg base "BadRoom" "room" 1 := by
  obtain ⟨fd, F⟩ := fn_at hh 50 (d := di "BadRoom" 28 0) rfl
  obtain ⟨h1, h2, h3, h4, h5⟩ := exB_ok (exb_at hh (q := ("BadRoom", "room")) (by decide +kernel))
  exact ⟨exb_at hh (q := ("BadRoom", "room")) (by decide +kernel), gl_at hh 50 rfl, fd, ["self", "room"], init_ok (sf := "self") (x := "room") F h1 h3 ⟨rfl, rfl, rfl, by decide +kernel, rfl, by decide +kernel, by decide +kernel⟩ (by decide) (by decide) (by decide) (by decide) (fun _ => rfl), FunD.bindsN F fun _ _ _ _ _ _ us hl => match us, hl with | [_, _], _ => rfl⟩
theorem ex_BadLength (hh : Hh w K mg base h) : ExD P w K mg base "BadLength" "length" 1 := by
  obtain ⟨fd, F⟩ := fn_at hh 51 (d := di "BadLength" 29 0) rfl
  obtain ⟨h1, h2, h3, h4, h5⟩ := exB_ok (exb_at hh (q := ("BadLength", "length")) (by decide +kernel))
  exact ⟨exb_at hh (q := ("BadLength", "length")) (by decide +kernel), gl_at hh 51 rfl, fd, ["self", "length"], init_ok (sf := "self") (x := "length") F h1 h3 ⟨rfl, rfl, rfl, by decide +kernel, rfl, by decide +kernel, by decide +kernel⟩ (by decide) (by decide) (by decide) (by decide) (fun _ => rfl), FunD.bindsN F fun _ _ _ _ _ _ us hl => match us, hl with | [_, _], _ => rfl⟩
theorem ex_BadWishes (hh : Hh w K mg base h) : ExD P w K mg base "BadWishes" "index" 1 := by
  obtain ⟨fd, F⟩ := fn_at hh 52 (d := di "BadWishes" 30 0) rfl
  obtain ⟨h1, h2, h3, h4, h5⟩ := exB_ok (exb_at hh (q := ("BadWishes", "index")) (by decide +kernel))
  exact ⟨exb_at hh (q := ("BadWishes", "index")) (by decide +kernel), gl_at hh 52 rfl, fd, ["self", "index"], init_ok (sf := "self") (x := "index") F h1 h3 ⟨rfl, rfl, rfl, by decide +kernel, rfl, by decide +kernel, by decide +kernel⟩ (by decide) (by decide) (by decide) (by decide) (fun _ => rfl), FunD.bindsN F fun _ _ _ _ _ _ us hl => match us, hl with | [_, _], _ => rfl⟩
theorem ex_BadEarly (hh : Hh w K mg base h) : ExD P w K mg base "BadEarly" "early" 1 := by
  obtain ⟨fd, F⟩ := fn_at hh 53 (d := di "BadEarly" 31 0) rfl
  obtain ⟨h1, h2, h3, h4, h5⟩ := exB_ok (exb_at hh (q := ("BadEarly", "early")) (by decide +kernel))
  exact ⟨exb_at hh (q := ("BadEarly", "early")) (by decide +kernel), gl_at hh 53 rfl, fd, ["self", "early"], init_ok (sf := "self") (x := "early") F h1 h3 ⟨rfl, rfl, rfl, by decide +kernel, rfl, by decide +kernel, by decide +kernel⟩ (by decide) (by decide) (by decide) (by decide) (fun _ => rfl), FunD.bindsN F fun _ _ _ _ _ _ us hl => match us, hl with | [_, _], _ => rfl⟩
theorem ex_BadLate (hh : Hh w K mg base h) : ExD P w K mg base "BadLate" "late" 1 := by
  obtain ⟨fd, F⟩ := fn_at hh 54 (d := di "BadLate" 32 0) rfl
  obtain ⟨h1, h2, h3, h4, h5⟩ := exB_ok (exb_at hh (q := ("BadLate", "late")) (by decide +kernel))
  exact ⟨exb_at hh (q := ("BadLate", "late")) (by decide +kernel), gl_at hh 54 rfl, fd, ["self", "late"], init_ok (sf := "self") (x := "late") F h1 h3 ⟨rfl, rfl, rfl, by decide +kernel, rfl, by decide +kernel, by decide +kernel⟩ (by decide) (by decide) (by decide) (by decide) (fun _ => rfl), FunD.bindsN F fun _ _ _ _ _ _ us hl => match us, hl with | [_, _], _ => rfl⟩
theorem ex_BadSetting (hh : Hh w K mg base h) : ExD P w K mg base "BadSetting" "index" 1 := by
  obtain ⟨fd, F⟩ := fn_at hh 55 (d := di "BadSetting" 33 0) rfl
  obtain ⟨h1, h2, h3, h4, h5⟩ := exB_ok (exb_at hh (q := ("BadSetting", "index")) (by decide +kernel))
  exact ⟨exb_at hh (q := ("BadSetting", "index")) (by decide +kernel), gl_at hh 55 rfl, fd, ["self", "index"], init_ok (sf := "self") (x := "index") F h1 h3 ⟨rfl, rfl, rfl, by decide +kernel, rfl, by decide +kernel, by decide +kernel⟩ (by decide) (by decide) (by decide) (by decide) (fun _ => rfl), FunD.bindsN F fun _ _ _ _ _ _ us hl => match us, hl with | [_, _], _ => rfl⟩
theorem ex_TooSoon (hh : Hh w K mg base h) : ExD P w K mg base "TooSoon" "moment" 1 := by
  obtain ⟨fd, F⟩ := fn_at hh 56 (d := di "TooSoon" 34 0) rfl
  obtain ⟨h1, h2, h3, h4, h5⟩ := exB_ok (exb_at hh (q := ("TooSoon", "moment")) (by decide +kernel))
  exact ⟨exb_at hh (q := ("TooSoon", "moment")) (by decide +kernel), gl_at hh 56 rfl, fd, ["self", "moment"], init_ok (sf := "self") (x := "moment") F h1 h3 ⟨rfl, rfl, rfl, by decide +kernel, rfl, by decide +kernel, by decide +kernel⟩ (by decide) (by decide) (by decide) (by decide) (fun _ => rfl), FunD.bindsN F fun _ _ _ _ _ _ us hl => match us, hl with | [_, _], _ => rfl⟩

theorem mkT {kk : Nat} {pos : Pos} (X : Cx) (es : List Expr) (ta : TA) (h : PA X es ta) : PE X (.Tuple es kk pos) (if true = true then tTup ta else tLst ta) := pe_tup h
theorem sc__law_met : FnScope ["_law_ask", "e"] ["_law_ask"] (defScope (top 75)) := ⟨rfl, rfl, rfl, by decide +kernel, rfl, by decide +kernel, by decide +kernel⟩
theorem mem_met : ∀ q ∈ metT, (q.1, q.2.2) ∈ excN := by decide +kernel
theorem exm_met (hh : Hh w K mg base h) : ∀ q ∈ metT, ∀ q' ∈ metT, PySem.W.exmOne K (.ref (He.ga K q.1)) (.ref (He.ga K q'.1)) = some (decide (q'.1 = q.1)) := fun q hq q' hq' =>
  exm_at hh (q := (q.1, q.2.2)) (r := (q'.1, q'.2.2)) (mem_met q hq) (mem_met q' hq')
theorem gives_met (hh : Hh w K mg base h) {X : Cx} (hK : X.K = K) (hM : X.mg = mg) (q : Str) : LamX.GivesTo X ["_law_ask", "e"] "_law_met" (defScope (top 75)) (He.ga X.K "_law_met") (.ref (He.codeOf X.K ("_law_met", none))) (defBody (top 75)) "_law_ask" q (TTm X.K 2 (metT.map (claOf X.K 1 true)) true "told") := by
  subst hK hM
  exact met_gives (k := true) (mk := fun es => .Tuple es _ _) mkT (by decide +kernel) rfl (fun s H => (cla_tag (k := true) (mk := fun es => .Tuple es _ _) mkT (exb_at hh (q := ("BadRoom", "room")) (by decide +kernel)) ⟨rfl, rfl, .inl (gl_at hh 50 rfl)⟩ rfl rfl (cla_tag (k := true) (mk := fun es => .Tuple es _ _) mkT (exb_at hh (q := ("BadLength", "length")) (by decide +kernel)) ⟨rfl, rfl, .inl (gl_at hh 51 rfl)⟩ rfl rfl (cla_tag (k := true) (mk := fun es => .Tuple es _ _) mkT (exb_at hh (q := ("BadWishes", "index")) (by decide +kernel)) ⟨rfl, rfl, .inl (gl_at hh 52 rfl)⟩ rfl rfl (cla_tag (k := true) (mk := fun es => .Tuple es _ _) mkT (exb_at hh (q := ("BadEarly", "early")) (by decide +kernel)) ⟨rfl, rfl, .inl (gl_at hh 53 rfl)⟩ rfl rfl (cla_tag (k := true) (mk := fun es => .Tuple es _ _) mkT (exb_at hh (q := ("BadLate", "late")) (by decide +kernel)) ⟨rfl, rfl, .inl (gl_at hh 54 rfl)⟩ rfl rfl (cla_tag (k := true) (mk := fun es => .Tuple es _ _) mkT (exb_at hh (q := ("BadSetting", "index")) (by decide +kernel)) ⟨rfl, rfl, .inl (gl_at hh 55 rfl)⟩ rfl rfl (cla_tag (k := true) (mk := fun es => .Tuple es _ _) mkT (exb_at hh (q := ("TooSoon", "moment")) (by decide +kernel)) ⟨rfl, rfl, .inl (gl_at hh 56 rfl)⟩ rfl rfl .nil)))))))) (fun _ => rfl) (fun _ => rfl)
theorem met_of {N : List Str} {x : Str} {scope : Scope} {A : Around} {outer : List Env} {s : Shared} {H : Hp} {E : XK} {kk : Nat} {m : ME} {Pt : Addr} {params : Arguments} {body : Expr} {lsc : Scope} {p lpos pos : Pos} (hh : Hh w K mg base h) (hg : Gl (cxD P w K mg base N x scope A outer s H E) "_law_met")
    (hr : Room (kk + 2) (cxD P w K mg base N x scope A outer s H E).A) (TB : LamX.TabB base mg (He.codeOf K (x, none)) Pt) (hmT : (Pt, x ++ ".<locals>." ++ "<lambda>") ∈ TT K) (hu : ∀ r ∈ TT K, r.1 = Pt → r.2 = x ++ ".<locals>." ++ "<lambda>") (L : LamX.LamS scope lsc) (hdef : defaultsOf params (cxD P w K mg base N x scope A outer s H E).env = ([], []))
    (hbind : ∀ (q : Str) (cl : List (Str × Addr)) (pm cv ctv : Value), bindArgs (PySem.W.kla_fn "<lambda>" q params body lsc cl pm cv ctv) ⟨[], []⟩ = pure [])
    (hbody : ∀ (A2 : Around) (outer2 : List Env) (s2 : Shared) (H2 : Hp) (E2 : XK) (f2 c2 : Addr), Room kk (A2.deeper (LamX.lamEnv (cxD P w K mg base N x scope A outer s H E) lsc s2.heap.objs.size f2 c2)) → PD (LamX.lamCx (cxD P w K mg base N x scope A outer s H E) A2 outer2 s2 H2 E2 lsc f2 c2) (TT K) (wE E2) body m) {W : WX} :
    PD (cxD P w K mg base N x scope A outer s H E) (TT K) W (.Call (.Name "_law_met" p) [.Lambda params body lsc lpos] [] pos) (eMet true "told" metT m) :=
  pd_met (Ng := ["_law_ask", "e"]) (a := "_law_ask") (i := 1) hg (gl__law_met hh) (fn__law_met hh) (fun _ _ _ _ _ _ us hl => match us, hl with | [_], _ => rfl) sc__law_met rfl (.inl rfl) (by decide) (fun q => gives_met hh rfl rfl q) (exm_met hh) TB rfl hmT hu hr L hdef hbind hbody
end
end K78

set_option Elab.async false
set_option linter.all false
set_option maxRecDepth 100000
set_option maxHeartbeats 0
set_option autoImplicit false
namespace K78
open PySem PySem.Spec PyProof.Rows L2 TD
section
variable {P : Program} {w : World} {K : PySem.W.Frag} {mg : Str → Option Value} {base h : Heap} (hh : Hh w K mg base h)
include hh
omit hh in
theorem nd_is_list : (["thing"] : List Str).Nodup := by decide +kernel
omit hh in
theorem sc_is_list : FnScope ["thing"] ["thing"] (defScope (top 5)) := ⟨rfl, rfl, rfl, by decide +kernel, rfl, by decide +kernel, by decide +kernel⟩
def m_is_list : MS := (sRet (bnd (bVar 0) (dIsiT [.list, .tuple])))
def F_is_list : Fn := fnD 1 m_is_list
theorem D_is_list : Def P w K mg base (TT K) "is_list" ["thing"] F_is_list 3 := def_of (k := 2) (N := ["thing"]) (m := m_is_list) (fn_is_list hh) (gl_is_list hh) sc_is_list (fun _ _ _ _ _ _ us hl => match us, hl with | [_], _ => rfl) fun A outer s H E hr =>
    (pbk_one (pst_ret (pd_isiT rfl (fr_isinstance hh) (pb_var rfl (.inl rfl)) (.cons rfl (fr_list hh) (by decide +kernel) (by decide) (by decide) rfl (.cons rfl (fr_tuple hh) (by decide +kernel) (by decide) (by decide) rfl .nil)))))
omit hh in
theorem nd_is_whole : (["thing"] : List Str).Nodup := by decide +kernel
omit hh in
theorem sc_is_whole : FnScope ["thing"] ["thing"] (defScope (top 6)) := ⟨rfl, rfl, rfl, by decide +kernel, rfl, by decide +kernel, by decide +kernel⟩
def m_is_whole : MS := (sRet (eAnd (bnd (bVar 0) (dIsi .int)) (eNot (bnd (bVar 0) (dIsi .bool)))))
def F_is_whole : Fn := fnD 1 m_is_whole
theorem D_is_whole : Def P w K mg base (TT K) "is_whole" ["thing"] F_is_whole 3 := def_of (k := 2) (N := ["thing"]) (m := m_is_whole) (fn_is_whole hh) (gl_is_whole hh) sc_is_whole (fun _ _ _ _ _ _ us hl => match us, hl with | [_], _ => rfl) fun A outer s H E hr =>
    (pbk_one (pst_ret (pd_and (pd_isi rfl (fr_isinstance hh) (pb_var rfl (.inl rfl)) rfl (fr_int hh) (by decide +kernel)) (pd_one (pd_not (pd_isi rfl (fr_isinstance hh) (pb_var rfl (.inl rfl)) rfl (fr_bool hh) (by decide +kernel)))))))
omit hh in
theorem nd_is_positive : (["thing"] : List Str).Nodup := by decide +kernel
omit hh in
theorem sc_is_positive : FnScope ["thing"] ["thing"] (defScope (top 7)) := ⟨rfl, rfl, rfl, by decide +kernel, rfl, by decide +kernel, by decide +kernel⟩
def m_is_positive : MS := (sRet (eAnd (bnd (aCons (eVar 0) aNil) (call F_is_whole)) (eb (eVar 0) fun x => eb (pur (.int 1)) fun y => dGe x y)))
def F_is_positive : Fn := fnD 1 m_is_positive
theorem D_is_positive : Def P w K mg base (TT K) "is_positive" ["thing"] F_is_positive 4 := def_of (k := 3) (N := ["thing"]) (m := m_is_positive) (fn_is_positive hh) (gl_is_positive hh) sc_is_positive (fun _ _ _ _ _ _ us hl => match us, hl with | [_], _ => rfl) fun A outer s H E hr =>
    (pbk_one (pst_ret (pd_and (pd_call (D_is_whole hh) (hr.mono (by decide)) takesD (pas_cons (pd_var rfl (.inl rfl)) pas_nil) (alen_cons alen_nil)) (pd_one (pd_cmp od_ge (pd_var rfl (.inl rfl)) pd_int)))))
omit hh in
theorem nd_lowest : (["top", "bottom", "common"] : List Str).Nodup := by decide +kernel
omit hh in
theorem sc_lowest : FnScope ["top", "bottom", "common"] ["top", "bottom"] (defScope (top 8)) := ⟨rfl, rfl, rfl, by decide +kernel, rfl, by decide +kernel, by decide +kernel⟩
def m_lowest : MS := (sSeq (sSet 2 (bnd (aCons (eVar 0) (aCons (eVar 1) aNil)) dGcd))
    (sRet (eTup (aCons (eb (eVar 0) fun x => eb (eVar 2) fun y => dFdiv x y) (aCons (eb (eVar 1) fun x => eb (eVar 2) fun y => dFdiv x y) aNil)))))
def F_lowest : Fn := fnD 3 m_lowest
theorem D_lowest : Def P w K mg base (TT K) "lowest" ["top", "bottom"] F_lowest 3 := def_of (k := 2) (N := ["top", "bottom", "common"]) (m := m_lowest) (fn_lowest hh) (gl_lowest hh) sc_lowest (fun _ _ _ _ _ _ us hl => match us, hl with | [_, _], _ => rfl) fun A outer s H E hr =>
    (pbk_cons (pst_set nd_lowest rfl (.inl rfl) (pd_bf cb_gcd rfl (gl_gcd hh) (pas_cons (pd_var rfl (.inl rfl)) (pas_cons (pd_var rfl (.inl rfl)) pas_nil))))
    (pbk_one (pst_ret (pd_tup (pas_cons (pd_bin od_fdiv (pd_var rfl (.inl rfl)) (pd_var rfl (.inl rfl))) (pas_cons (pd_bin od_fdiv (pd_var rfl (.inl rfl)) (pd_var rfl (.inl rfl))) pas_nil))))))
omit hh in
theorem nd_is_fraction : (["thing"] : List Str).Nodup := by decide +kernel
omit hh in
theorem sc_is_fraction : FnScope ["thing"] ["thing"] (defScope (top 9)) := ⟨rfl, rfl, rfl, by decide +kernel, rfl, by decide +kernel, by decide +kernel⟩
def m_is_fraction : MS := (sRet (eAnd (bnd (aCons (eVar 0) aNil) (call F_is_list)) (eAnd (eb (bnd (bVar 0) dLen) fun x => eb (pur (.int 2)) fun y => dEq x y) (eAnd (bnd (aCons (eIxV 0 (pur (.int 0))) aNil) (call F_is_whole)) (bnd (aCons (eIxV 0 (pur (.int 1))) aNil) (call F_is_positive))))))
def F_is_fraction : Fn := fnD 1 m_is_fraction
theorem D_is_fraction : Def P w K mg base (TT K) "is_fraction" ["thing"] F_is_fraction 5 := def_of (k := 4) (N := ["thing"]) (m := m_is_fraction) (fn_is_fraction hh) (gl_is_fraction hh) sc_is_fraction (fun _ _ _ _ _ _ us hl => match us, hl with | [_], _ => rfl) fun A outer s H E hr =>
    (pbk_one (pst_ret (pd_and (pd_call (D_is_list hh) (hr.mono (by decide)) takesD (pas_cons (pd_var rfl (.inl rfl)) pas_nil) (alen_cons alen_nil)) (pd_and (pd_cmp (od_eq (units_of hr)) (pd_b1 cb_len rfl (fr_len hh) (by decide +kernel) (pb_var rfl (.inl rfl))) pd_int) (pd_and (pd_call (D_is_whole hh) (hr.mono (by decide)) takesD (pas_cons (pd_ixV rfl (.inl rfl) pd_int) pas_nil) (alen_cons alen_nil)) (pd_one (pd_call (D_is_positive hh) (hr.mono (by decide)) takesD (pas_cons (pd_ixV rfl (.inl rfl) pd_int) pas_nil) (alen_cons alen_nil))))))))
omit hh in
theorem nd_is_heap : (["thing"] : List Str).Nodup := by decide +kernel
omit hh in
theorem sc_is_heap : FnScope ["thing"] ["thing"] (defScope (top 10)) := ⟨rfl, rfl, rfl, by decide +kernel, rfl, by decide +kernel, by decide +kernel⟩
def m_is_heap : MS := (sRet (eAnd (bnd (aCons (eVar 0) aNil) (call F_is_fraction)) (eb (eIxV 0 (pur (.int 0))) fun x => eb (pur (.int 0)) fun y => dGe x y)))
def F_is_heap : Fn := fnD 1 m_is_heap
theorem D_is_heap : Def P w K mg base (TT K) "is_heap" ["thing"] F_is_heap 6 := def_of (k := 5) (N := ["thing"]) (m := m_is_heap) (fn_is_heap hh) (gl_is_heap hh) sc_is_heap (fun _ _ _ _ _ _ us hl => match us, hl with | [_], _ => rfl) fun A outer s H E hr =>
    (pbk_one (pst_ret (pd_and (pd_call (D_is_fraction hh) (hr.mono (by decide)) takesD (pas_cons (pd_var rfl (.inl rfl)) pas_nil) (alen_cons alen_nil)) (pd_one (pd_cmp od_ge (pd_ixV rfl (.inl rfl) pd_int) pd_int)))))
omit hh in
theorem nd_told : (["thing"] : List Str).Nodup := by decide +kernel
omit hh in
theorem sc_told : FnScope ["thing"] ["thing"] (defScope (top 11)) := ⟨rfl, rfl, rfl, by decide +kernel, rfl, by decide +kernel, by decide +kernel⟩
def m_told : MS := (sRet (bnd (aCons (eIxV 0 (pur (.int 0))) (aCons (eIxV 0 (pur (.int 1))) aNil)) (call F_lowest)))
def F_told : Fn := fnD 1 m_told
theorem D_told : Def P w K mg base (TT K) "told" ["thing"] F_told 4 := def_of (k := 3) (N := ["thing"]) (m := m_told) (fn_told hh) (gl_told hh) sc_told (fun _ _ _ _ _ _ us hl => match us, hl with | [_], _ => rfl) fun A outer s H E hr =>
    (pbk_one (pst_ret (pd_call (D_lowest hh) (hr.mono (by decide)) takesD (pas_cons (pd_ixV rfl (.inl rfl) pd_int) (pas_cons (pd_ixV rfl (.inl rfl) pd_int) pas_nil)) (alen_cons (alen_cons alen_nil)))))
omit hh in
theorem nd_plus : (["one", "other"] : List Str).Nodup := by decide +kernel
omit hh in
theorem sc_plus : FnScope ["one", "other"] ["one", "other"] (defScope (top 12)) := ⟨rfl, rfl, rfl, by decide +kernel, rfl, by decide +kernel, by decide +kernel⟩
def m_plus : MS := (sRet (bnd (aCons (eb (eb (eIxV 0 (pur (.int 0))) fun x => eb (eIxV 1 (pur (.int 1))) fun y => dMul x y) fun x => eb (eb (eIxV 1 (pur (.int 0))) fun x => eb (eIxV 0 (pur (.int 1))) fun y => dMul x y) fun y => dAdd x y) (aCons (eb (eIxV 0 (pur (.int 1))) fun x => eb (eIxV 1 (pur (.int 1))) fun y => dMul x y) aNil)) (call F_lowest)))
def F_plus : Fn := fnD 2 m_plus
theorem D_plus : Def P w K mg base (TT K) "plus" ["one", "other"] F_plus 4 := def_of (k := 3) (N := ["one", "other"]) (m := m_plus) (fn_plus hh) (gl_plus hh) sc_plus (fun _ _ _ _ _ _ us hl => match us, hl with | [_, _], _ => rfl) fun A outer s H E hr =>
    (pbk_one (pst_ret (pd_call (D_lowest hh) (hr.mono (by decide)) takesD (pas_cons (pd_bin od_add (pd_bin od_mul (pd_ixV rfl (.inl rfl) pd_int) (pd_ixV rfl (.inl rfl) pd_int)) (pd_bin od_mul (pd_ixV rfl (.inl rfl) pd_int) (pd_ixV rfl (.inl rfl) pd_int))) (pas_cons (pd_bin od_mul (pd_ixV rfl (.inl rfl) pd_int) (pd_ixV rfl (.inl rfl) pd_int)) pas_nil)) (alen_cons (alen_cons alen_nil)))))
omit hh in
theorem nd_less : (["one", "other"] : List Str).Nodup := by decide +kernel
omit hh in
theorem sc_less : FnScope ["one", "other"] ["one", "other"] (defScope (top 13)) := ⟨rfl, rfl, rfl, by decide +kernel, rfl, by decide +kernel, by decide +kernel⟩
def m_less : MS := (sRet (bnd (aCons (eb (eb (eIxV 0 (pur (.int 0))) fun x => eb (eIxV 1 (pur (.int 1))) fun y => dMul x y) fun x => eb (eb (eIxV 1 (pur (.int 0))) fun x => eb (eIxV 0 (pur (.int 1))) fun y => dMul x y) fun y => dSub x y) (aCons (eb (eIxV 0 (pur (.int 1))) fun x => eb (eIxV 1 (pur (.int 1))) fun y => dMul x y) aNil)) (call F_lowest)))
def F_less : Fn := fnD 2 m_less
theorem D_less : Def P w K mg base (TT K) "less" ["one", "other"] F_less 4 := def_of (k := 3) (N := ["one", "other"]) (m := m_less) (fn_less hh) (gl_less hh) sc_less (fun _ _ _ _ _ _ us hl => match us, hl with | [_, _], _ => rfl) fun A outer s H E hr =>
    (pbk_one (pst_ret (pd_call (D_lowest hh) (hr.mono (by decide)) takesD (pas_cons (pd_bin od_sub (pd_bin od_mul (pd_ixV rfl (.inl rfl) pd_int) (pd_ixV rfl (.inl rfl) pd_int)) (pd_bin od_mul (pd_ixV rfl (.inl rfl) pd_int) (pd_ixV rfl (.inl rfl) pd_int))) (pas_cons (pd_bin od_mul (pd_ixV rfl (.inl rfl) pd_int) (pd_ixV rfl (.inl rfl) pd_int)) pas_nil)) (alen_cons (alen_cons alen_nil)))))
omit hh in
theorem nd_times : (["one", "other"] : List Str).Nodup := by decide +kernel
omit hh in
theorem sc_times : FnScope ["one", "other"] ["one", "other"] (defScope (top 14)) := ⟨rfl, rfl, rfl, by decide +kernel, rfl, by decide +kernel, by decide +kernel⟩
def m_times : MS := (sRet (bnd (aCons (eb (eIxV 0 (pur (.int 0))) fun x => eb (eIxV 1 (pur (.int 0))) fun y => dMul x y) (aCons (eb (eIxV 0 (pur (.int 1))) fun x => eb (eIxV 1 (pur (.int 1))) fun y => dMul x y) aNil)) (call F_lowest)))
def F_times : Fn := fnD 2 m_times
theorem D_times : Def P w K mg base (TT K) "times" ["one", "other"] F_times 4 := def_of (k := 3) (N := ["one", "other"]) (m := m_times) (fn_times hh) (gl_times hh) sc_times (fun _ _ _ _ _ _ us hl => match us, hl with | [_, _], _ => rfl) fun A outer s H E hr =>
    (pbk_one (pst_ret (pd_call (D_lowest hh) (hr.mono (by decide)) takesD (pas_cons (pd_bin od_mul (pd_ixV rfl (.inl rfl) pd_int) (pd_ixV rfl (.inl rfl) pd_int)) (pas_cons (pd_bin od_mul (pd_ixV rfl (.inl rfl) pd_int) (pd_ixV rfl (.inl rfl) pd_int)) pas_nil)) (alen_cons (alen_cons alen_nil)))))
omit hh in
theorem nd_parted : (["one", "other"] : List Str).Nodup := by decide +kernel
omit hh in
theorem sc_parted : FnScope ["one", "other"] ["one", "other"] (defScope (top 15)) := ⟨rfl, rfl, rfl, by decide +kernel, rfl, by decide +kernel, by decide +kernel⟩
def m_parted : MS := (sSeq (sIf (tst (eb (eIxV 1 (pur (.int 0))) fun x => eb (pur (.int 0)) fun y => dLt x y)) (sRet (bnd (aCons (eb (pur (.int 0)) fun x => eb (eb (eIxV 0 (pur (.int 0))) fun x => eb (eIxV 1 (pur (.int 1))) fun y => dMul x y) fun y => dSub x y) (aCons (eb (pur (.int 0)) fun x => eb (eb (eIxV 0 (pur (.int 1))) fun x => eb (eIxV 1 (pur (.int 0))) fun y => dMul x y) fun y => dSub x y) aNil)) (call F_lowest))) sNx)
    (sRet (bnd (aCons (eb (eIxV 0 (pur (.int 0))) fun x => eb (eIxV 1 (pur (.int 1))) fun y => dMul x y) (aCons (eb (eIxV 0 (pur (.int 1))) fun x => eb (eIxV 1 (pur (.int 0))) fun y => dMul x y) aNil)) (call F_lowest))))
def F_parted : Fn := fnD 2 m_parted
theorem D_parted : Def P w K mg base (TT K) "parted" ["one", "other"] F_parted 4 := def_of (k := 3) (N := ["one", "other"]) (m := m_parted) (fn_parted hh) (gl_parted hh) sc_parted (fun _ _ _ _ _ _ us hl => match us, hl with | [_, _], _ => rfl) fun A outer s H E hr =>
    (pbk_cons (pst_if (pc_cmp od_lt (pd_ixV rfl (.inl rfl) pd_int) pd_int) (pbk_one (pst_ret (pd_call (D_lowest hh) (hr.mono (by decide)) takesD (pas_cons (pd_bin od_sub pd_int (pd_bin od_mul (pd_ixV rfl (.inl rfl) pd_int) (pd_ixV rfl (.inl rfl) pd_int))) (pas_cons (pd_bin od_sub pd_int (pd_bin od_mul (pd_ixV rfl (.inl rfl) pd_int) (pd_ixV rfl (.inl rfl) pd_int))) pas_nil)) (alen_cons (alen_cons alen_nil))))) pbk_nil)
    (pbk_one (pst_ret (pd_call (D_lowest hh) (hr.mono (by decide)) takesD (pas_cons (pd_bin od_mul (pd_ixV rfl (.inl rfl) pd_int) (pd_ixV rfl (.inl rfl) pd_int)) (pas_cons (pd_bin od_mul (pd_ixV rfl (.inl rfl) pd_int) (pd_ixV rfl (.inl rfl) pd_int)) pas_nil)) (alen_cons (alen_cons alen_nil))))))
omit hh in
theorem nd_is_below : (["one", "other"] : List Str).Nodup := by decide +kernel
omit hh in
theorem sc_is_below : FnScope ["one", "other"] ["one", "other"] (defScope (top 16)) := ⟨rfl, rfl, rfl, by decide +kernel, rfl, by decide +kernel, by decide +kernel⟩
def m_is_below : MS := (sRet (eb (eb (eIxV 0 (pur (.int 0))) fun x => eb (eIxV 1 (pur (.int 1))) fun y => dMul x y) fun x => eb (eb (eIxV 1 (pur (.int 0))) fun x => eb (eIxV 0 (pur (.int 1))) fun y => dMul x y) fun y => dLt x y))
def F_is_below : Fn := fnD 2 m_is_below
theorem D_is_below : Def P w K mg base (TT K) "is_below" ["one", "other"] F_is_below 3 := def_of (k := 2) (N := ["one", "other"]) (m := m_is_below) (fn_is_below hh) (gl_is_below hh) sc_is_below (fun _ _ _ _ _ _ us hl => match us, hl with | [_, _], _ => rfl) fun A outer s H E hr =>
    (pbk_one (pst_ret (pd_cmp od_lt (pd_bin od_mul (pd_ixV rfl (.inl rfl) pd_int) (pd_ixV rfl (.inl rfl) pd_int)) (pd_bin od_mul (pd_ixV rfl (.inl rfl) pd_int) (pd_ixV rfl (.inl rfl) pd_int)))))
omit hh in
theorem nd_least : (["things", "found", "thing"] : List Str).Nodup := by decide +kernel
omit hh in
theorem sc_least : FnScope ["things", "found", "thing"] ["things"] (defScope (top 17)) := ⟨rfl, rfl, rfl, by decide +kernel, rfl, by decide +kernel, by decide +kernel⟩
def m_least : MS := (sSeq (sSet 1 (eIxV 0 (pur (.int 0))))
    (sSeq (sFor (eb (eVar 0) dSeq) (gNm 2) (sSet 1 (iff (tst (bnd (aCons (eVar 2) (aCons (eVar 1) aNil)) (call F_is_below))) (eVar 2) (eVar 1))))
    (sRet (eMove 1))))
def F_least : Fn := fnD 3 m_least
theorem D_least : Def P w K mg base (TT K) "least" ["things"] F_least 4 := def_of (k := 3) (N := ["things", "found", "thing"]) (m := m_least) (fn_least hh) (gl_least hh) sc_least (fun _ _ _ _ _ _ us hl => match us, hl with | [_], _ => rfl) fun A outer s H E hr =>
    (pbk_cons (pst_set nd_least rfl (.inl rfl) (pd_ixV rfl (.inl rfl) pd_int))
    (pbk_cons (pst_for passesD rfl (pit_seq (pd_var rfl (.inl rfl))) (pg_nm nd_least rfl (.inl rfl)) (pbk_one (pst_set nd_least rfl (.inl rfl) (pd_if (pc_val (pd_call (D_is_below hh) (hr.mono (by decide)) takesD (pas_cons (pd_var rfl (.inl rfl)) (pas_cons (pd_var rfl (.inl rfl)) pas_nil)) (alen_cons (alen_cons alen_nil)))) (pd_var rfl (.inl rfl)) (pd_var rfl (.inl rfl))))))
    (pbk_one (pst_ret (pd_move rfl (.inl rfl))))))
omit hh in
theorem nd_greatest : (["things", "found", "thing"] : List Str).Nodup := by decide +kernel
omit hh in
theorem sc_greatest : FnScope ["things", "found", "thing"] ["things"] (defScope (top 18)) := ⟨rfl, rfl, rfl, by decide +kernel, rfl, by decide +kernel, by decide +kernel⟩
def m_greatest : MS := (sSeq (sSet 1 (eIxV 0 (pur (.int 0))))
    (sSeq (sFor (eb (eVar 0) dSeq) (gNm 2) (sSet 1 (iff (tst (bnd (aCons (eVar 1) (aCons (eVar 2) aNil)) (call F_is_below))) (eVar 2) (eVar 1))))
    (sRet (eMove 1))))
def F_greatest : Fn := fnD 3 m_greatest
theorem D_greatest : Def P w K mg base (TT K) "greatest" ["things"] F_greatest 4 := def_of (k := 3) (N := ["things", "found", "thing"]) (m := m_greatest) (fn_greatest hh) (gl_greatest hh) sc_greatest (fun _ _ _ _ _ _ us hl => match us, hl with | [_], _ => rfl) fun A outer s H E hr =>
    (pbk_cons (pst_set nd_greatest rfl (.inl rfl) (pd_ixV rfl (.inl rfl) pd_int))
    (pbk_cons (pst_for passesD rfl (pit_seq (pd_var rfl (.inl rfl))) (pg_nm nd_greatest rfl (.inl rfl)) (pbk_one (pst_set nd_greatest rfl (.inl rfl) (pd_if (pc_val (pd_call (D_is_below hh) (hr.mono (by decide)) takesD (pas_cons (pd_var rfl (.inl rfl)) (pas_cons (pd_var rfl (.inl rfl)) pas_nil)) (alen_cons (alen_cons alen_nil)))) (pd_var rfl (.inl rfl)) (pd_var rfl (.inl rfl))))))
    (pbk_one (pst_ret (pd_move rfl (.inl rfl))))))
omit hh in
theorem nd_sum_of : (["things", "found", "thing"] : List Str).Nodup := by decide +kernel
omit hh in
theorem sc_sum_of : FnScope ["things", "found", "thing"] ["things"] (defScope (top 19)) := ⟨rfl, rfl, rfl, by decide +kernel, rfl, by decide +kernel, by decide +kernel⟩
def m_sum_of : MS := (sSeq (sSet 1 (eTup (aCons (pur (.int 0)) (aCons (pur (.int 1)) aNil))))
    (sSeq (sFor (eb (eVar 0) dSeq) (gNm 2) (sSet 1 (bnd (aCons (eVar 1) (aCons (eVar 2) aNil)) (call F_plus))))
    (sRet (eMove 1))))
def F_sum_of : Fn := fnD 3 m_sum_of
theorem D_sum_of : Def P w K mg base (TT K) "sum_of" ["things"] F_sum_of 5 := def_of (k := 4) (N := ["things", "found", "thing"]) (m := m_sum_of) (fn_sum_of hh) (gl_sum_of hh) sc_sum_of (fun _ _ _ _ _ _ us hl => match us, hl with | [_], _ => rfl) fun A outer s H E hr =>
    (pbk_cons (pst_set nd_sum_of rfl (.inl rfl) (pd_tup (pas_cons pd_int (pas_cons pd_int pas_nil))))
    (pbk_cons (pst_for passesD rfl (pit_seq (pd_var rfl (.inl rfl))) (pg_nm nd_sum_of rfl (.inl rfl)) (pbk_one (pst_set nd_sum_of rfl (.inl rfl) (pd_call (D_plus hh) (hr.mono (by decide)) takesD (pas_cons (pd_var rfl (.inl rfl)) (pas_cons (pd_var rfl (.inl rfl)) pas_nil)) (alen_cons (alen_cons alen_nil))))))
    (pbk_one (pst_ret (pd_move rfl (.inl rfl))))))
omit hh in
theorem nd_in_order : (["things", "common", "thing"] : List Str).Nodup := by decide +kernel
omit hh in
theorem sc_in_order : FnScope ["things", "common", "thing"] ["things"] (defScope (top 20)) := ⟨rfl, rfl, rfl, by decide +kernel, rfl, by decide +kernel, by decide +kernel⟩
def m_in_order : MS := (sSeq (sSet 1 (pur (.int 1)))
    (sSeq (sFor (eb (eVar 0) dSeq) (gNm 2) (sSet 1 (eb (eb (eVar 1) fun x => eb (eIxV 2 (pur (.int 1))) fun y => dMul x y) fun x => eb (bnd (aCons (eVar 1) (aCons (eIxV 2 (pur (.int 1))) aNil)) dGcd) fun y => dFdiv x y)))
    (sRet (eSortFr 1 (eVar 0)))))
def F_in_order : Fn := fnD 3 m_in_order
theorem D_in_order : Def P w K mg base (TT K) "in_order" ["things"] F_in_order 4 := def_of (k := 3) (N := ["things", "common", "thing"]) (m := m_in_order) (fn_in_order hh) (gl_in_order hh) sc_in_order (fun _ _ _ _ _ _ us hl => match us, hl with | [_], _ => rfl) fun A outer s H E hr =>
    (pbk_cons (pst_set nd_in_order rfl (.inr rfl) pd_int)
    (pbk_cons (pst_for passesD rfl (pit_seq (pd_var rfl (.inl rfl))) (pg_nm nd_in_order rfl (.inl rfl)) (pbk_one (pst_set nd_in_order rfl (.inr rfl) (pd_bin od_fdiv (pd_bin od_mul (pd_var rfl (.inr (.inl rfl))) (pd_ixV rfl (.inl rfl) pd_int)) (pd_bf cb_gcd rfl (gl_gcd hh) (pas_cons (pd_var rfl (.inr (.inl rfl))) (pas_cons (pd_ixV rfl (.inl rfl) pd_int) pas_nil)))))))
    (pbk_one (pst_ret (pd_sortFr (nT := "thing") (nC := "common") rfl (fr_sorted hh) (by decide +kernel) (pd_var rfl (.inl rfl)) rfl (tb_in_order hh) rfl tm_in_order (tu_in_order hh) (hr.mono (by decide)) rfl rfl rfl rfl (by decide +kernel) rfl rfl (show ∀ y ∈ (_ : Scope).names, y.2 = .free → (defScope (top 20)).names.lookup y.1 = some .cell by decide +kernel) (fun _ _ _ _ _ _ => rfl))))))
omit hh in
theorem nd_check_road : (["room", "length"] : List Str).Nodup := by decide +kernel
omit hh in
theorem sc_check_road : FnScope ["room", "length"] ["room", "length"] (defScope (top 36)) := ⟨rfl, rfl, rfl, by decide +kernel, rfl, by decide +kernel, by decide +kernel⟩
def m_check_road : MS := (sSeq (sIf (tNotM (tst (bnd (aCons (eVar 0) aNil) (call F_is_positive)))) (sRaise "BadRoom" "room" (eVar 0)) sNx)
    (sIf (tNotM (tst (bnd (aCons (eVar 1) aNil) (call F_is_positive)))) (sRaise "BadLength" "length" (eVar 1)) sNx))
def F_check_road : Fn := fnD 2 m_check_road
theorem D_check_road : Def P w K mg base (TT K) "check_road" ["room", "length"] F_check_road 5 := def_of (k := 4) (N := ["room", "length"]) (m := m_check_road) (fn_check_road hh) (gl_check_road hh) sc_check_road (fun _ _ _ _ _ _ us hl => match us, hl with | [_, _], _ => rfl) fun A outer s H E hr =>
    (pbk_cons (pst_if (pc_not (pc_val (pd_call (D_is_positive hh) (hr.mono (by decide)) takesD (pas_cons (pd_var rfl (.inl rfl)) pas_nil) (alen_cons alen_nil)))) (pbk_one (pst_raise rfl (ex_BadRoom hh) (hr.mono (by decide)) takesD (pd_var rfl (.inl rfl)))) pbk_nil)
    (pbk_one (pst_if (pc_not (pc_val (pd_call (D_is_positive hh) (hr.mono (by decide)) takesD (pas_cons (pd_var rfl (.inl rfl)) pas_nil) (alen_cons alen_nil)))) (pbk_one (pst_raise rfl (ex_BadLength hh) (hr.mono (by decide)) takesD (pd_var rfl (.inl rfl)))) pbk_nil)))
omit hh in
theorem nd_is_wish : (["thing"] : List Str).Nodup := by decide +kernel
omit hh in
theorem sc_is_wish : FnScope ["thing"] ["thing"] (defScope (top 37)) := ⟨rfl, rfl, rfl, by decide +kernel, rfl, by decide +kernel, by decide +kernel⟩
def m_is_wish : MS := (sRet (eAnd (bnd (aCons (eVar 0) aNil) (call F_is_list)) (eAnd (eb (bnd (bVar 0) dLen) fun x => eb (pur (.int 2)) fun y => dEq x y) (eAnd (bnd (aCons (eIxV 0 (pur (.int 0))) aNil) (call F_is_heap)) (eAnd (bnd (aCons (eIxV 0 (pur (.int 1))) aNil) (call F_is_heap)) (eb (eIx (eIxV 0 (pur (.int 1))) (pur (.int 0))) fun x => eb (pur (.int 0)) fun y => dGt x y))))))
def F_is_wish : Fn := fnD 1 m_is_wish
theorem D_is_wish : Def P w K mg base (TT K) "is_wish" ["thing"] F_is_wish 7 := def_of (k := 6) (N := ["thing"]) (m := m_is_wish) (fn_is_wish hh) (gl_is_wish hh) sc_is_wish (fun _ _ _ _ _ _ us hl => match us, hl with | [_], _ => rfl) fun A outer s H E hr =>
    (pbk_one (pst_ret (pd_and (pd_call (D_is_list hh) (hr.mono (by decide)) takesD (pas_cons (pd_var rfl (.inl rfl)) pas_nil) (alen_cons alen_nil)) (pd_and (pd_cmp (od_eq (units_of hr)) (pd_b1 cb_len rfl (fr_len hh) (by decide +kernel) (pb_var rfl (.inl rfl))) pd_int) (pd_and (pd_call (D_is_heap hh) (hr.mono (by decide)) takesD (pas_cons (pd_ixV rfl (.inl rfl) pd_int) pas_nil) (alen_cons alen_nil)) (pd_and (pd_call (D_is_heap hh) (hr.mono (by decide)) takesD (pas_cons (pd_ixV rfl (.inl rfl) pd_int) pas_nil) (alen_cons alen_nil)) (pd_one (pd_cmp od_gt (pd_ix (pd_ixV rfl (.inl rfl) pd_int) pd_int) pd_int))))))))
omit hh in
theorem nd_checked_wishes : (["wishes", "found", "index", "thing"] : List Str).Nodup := by decide +kernel
omit hh in
theorem sc_checked_wishes : FnScope ["wishes", "found", "index", "thing"] ["wishes"] (defScope (top 38)) := ⟨rfl, rfl, rfl, by decide +kernel, rfl, by decide +kernel, by decide +kernel⟩
def m_checked_wishes : MS := (sSeq (sIf (tOrM (tNotM (tst (bnd (aCons (eVar 0) aNil) (call F_is_list)))) (tst (eb (bnd (bVar 0) dLen) fun x => eb (pur (.int 0)) fun y => dEq x y))) (sRaise "BadWishes" "index" (pur (.int 0))) sNx)
    (sSeq (sSet 1 (eLst aNil))
    (sSeq (sFor (bnd (aCons (eVar 0) aNil) dEnum) (gTp (gCons (gNm 2) (gCons (gNm 3) gNil))) (sSeq (sIf (tOrM (tNotM (tst (bnd (aCons (eVar 3) aNil) (call F_is_wish)))) (tAndM (tTru (bVar 1)) (tNotM (tst (bnd (aCons (eIx (eIxV 1 (eNeg (pur (.int 1)))) (pur (.int 0))) (aCons (eIxV 3 (pur (.int 0))) aNil)) (call F_is_below)))))) (sRaise "BadWishes" "index" (eVar 2)) sNx)
    (sExpr (mSlot "list" 1 (aCons (eTup (aCons (bnd (aCons (eIxV 3 (pur (.int 0))) aNil) (call F_told)) (aCons (bnd (aCons (eIxV 3 (pur (.int 1))) aNil) (call F_told)) aNil))) aNil) fApp))))
    (sRet (eMove 1)))))
def F_checked_wishes : Fn := fnD 4 m_checked_wishes
theorem D_checked_wishes : Def P w K mg base (TT K) "checked_wishes" ["wishes"] F_checked_wishes 8 := def_of (k := 7) (N := ["wishes", "found", "index", "thing"]) (m := m_checked_wishes) (fn_checked_wishes hh) (gl_checked_wishes hh) sc_checked_wishes (fun _ _ _ _ _ _ us hl => match us, hl with | [_], _ => rfl) fun A outer s H E hr =>
    (pbk_cons (pst_if (pc_pw (pw_orM (pc_not (pc_val (pd_call (D_is_list hh) (hr.mono (by decide)) takesD (pas_cons (pd_var rfl (.inl rfl)) pas_nil) (alen_cons alen_nil)))) (pw_one (pc_cmp (od_eq (units_of hr)) (pd_b1 cb_len rfl (fr_len hh) (by decide +kernel) (pb_var rfl (.inl rfl))) pd_int)))) (pbk_one (pst_raise rfl (ex_BadWishes hh) (hr.mono (by decide)) takesD pd_int)) pbk_nil)
    (pbk_cons (pst_set nd_checked_wishes rfl (.inl rfl) (pd_lst pas_nil))
    (pbk_cons (pst_for passesD rfl (pit_enum rfl (fr_enumerate hh) (pas_cons (pd_var rfl (.inl rfl)) pas_nil)) (pg_tp rfl (pgts_cons (pg_nm nd_checked_wishes rfl (.inl rfl)) (pgts_cons (pg_nm nd_checked_wishes rfl (.inl rfl)) pgts_nil))) (pbk_cons (pst_if (pc_pw (pw_orM (pc_not (pc_val (pd_call (D_is_wish hh) (hr.mono (by decide)) takesD (pas_cons (pd_var rfl (.inl rfl)) pas_nil) (alen_cons alen_nil)))) (pw_one (pc_pw (pw_andM (pc_truth (pb_var rfl (.inl rfl))) (pw_one (pc_not (pc_val (pd_call (D_is_below hh) (hr.mono (by decide)) takesD (pas_cons (pd_ix (pd_ixV rfl (.inl rfl) (pd_neg pd_int)) pd_int) (pas_cons (pd_ixV rfl (.inl rfl) pd_int) pas_nil)) (alen_cons (alen_cons alen_nil))))))))))) (pbk_one (pst_raise rfl (ex_BadWishes hh) (hr.mono (by decide)) takesD (pd_var rfl (.inl rfl)))) pbk_nil)
    (pbk_one (pst_expr (pd_mS md_app PySem.F.plainAttrs_list PySem.F.slot_list_append PySem.F.type_list_append rfl (.inl rfl) (pas_cons (pd_tup (pas_cons (pd_call (D_told hh) (hr.mono (by decide)) takesD (pas_cons (pd_ixV rfl (.inl rfl) pd_int) pas_nil) (alen_cons alen_nil)) (pas_cons (pd_call (D_told hh) (hr.mono (by decide)) takesD (pas_cons (pd_ixV rfl (.inl rfl) pd_int) pas_nil) (alen_cons alen_nil)) pas_nil))) pas_nil))))))
    (pbk_one (pst_ret (pd_move rfl (.inl rfl)))))))
omit hh in
theorem nd_checked_troubles : (["early", "late"] : List Str).Nodup := by decide +kernel
omit hh in
theorem sc_checked_troubles : FnScope ["early", "late"] ["early", "late"] (defScope (top 39)) := ⟨rfl, rfl, rfl, by decide +kernel, rfl, by decide +kernel, by decide +kernel⟩
def m_checked_troubles : MS := (sSeq (sIf (tOrM (tNotM (tst (bnd (aCons (eVar 0) aNil) (call F_is_fraction)))) (tOrM (tst (eb (eIxV 0 (pur (.int 0))) fun x => eb (pur (.int 0)) fun y => dLe x y)) (tst (eb (eIxV 0 (pur (.int 0))) fun x => eb (eIxV 0 (pur (.int 1))) fun y => dGe x y)))) (sRaise "BadEarly" "early" (eVar 0)) sNx)
    (sSeq (sIf (tOrM (tNotM (tst (bnd (aCons (eVar 1) aNil) (call F_is_fraction)))) (tst (eb (eIxV 1 (pur (.int 0))) fun x => eb (pur (.int 0)) fun y => dLe x y))) (sRaise "BadLate" "late" (eVar 1)) sNx)
    (sRet (eTup (aCons (bnd (aCons (eVar 0) aNil) (call F_told)) (aCons (bnd (aCons (eVar 1) aNil) (call F_told)) aNil))))))
def F_checked_troubles : Fn := fnD 2 m_checked_troubles
theorem D_checked_troubles : Def P w K mg base (TT K) "checked_troubles" ["early", "late"] F_checked_troubles 6 := def_of (k := 5) (N := ["early", "late"]) (m := m_checked_troubles) (fn_checked_troubles hh) (gl_checked_troubles hh) sc_checked_troubles (fun _ _ _ _ _ _ us hl => match us, hl with | [_, _], _ => rfl) fun A outer s H E hr =>
    (pbk_cons (pst_if (pc_pw (pw_orM (pc_not (pc_val (pd_call (D_is_fraction hh) (hr.mono (by decide)) takesD (pas_cons (pd_var rfl (.inl rfl)) pas_nil) (alen_cons alen_nil)))) (pw_orM (pc_cmp od_le (pd_ixV rfl (.inl rfl) pd_int) pd_int) (pw_one (pc_cmp od_ge (pd_ixV rfl (.inl rfl) pd_int) (pd_ixV rfl (.inl rfl) pd_int)))))) (pbk_one (pst_raise rfl (ex_BadEarly hh) (hr.mono (by decide)) takesD (pd_var rfl (.inl rfl)))) pbk_nil)
    (pbk_cons (pst_if (pc_pw (pw_orM (pc_not (pc_val (pd_call (D_is_fraction hh) (hr.mono (by decide)) takesD (pas_cons (pd_var rfl (.inl rfl)) pas_nil) (alen_cons alen_nil)))) (pw_one (pc_cmp od_le (pd_ixV rfl (.inl rfl) pd_int) pd_int)))) (pbk_one (pst_raise rfl (ex_BadLate hh) (hr.mono (by decide)) takesD (pd_var rfl (.inl rfl)))) pbk_nil)
    (pbk_one (pst_ret (pd_tup (pas_cons (pd_call (D_told hh) (hr.mono (by decide)) takesD (pas_cons (pd_var rfl (.inl rfl)) pas_nil) (alen_cons alen_nil)) (pas_cons (pd_call (D_told hh) (hr.mono (by decide)) takesD (pas_cons (pd_var rfl (.inl rfl)) pas_nil) (alen_cons alen_nil)) pas_nil)))))))
omit hh in
theorem nd_spans_of : (["room", "wishes", "moment", "heap"] : List Str).Nodup := by decide +kernel
omit hh in
theorem sc_spans_of : FnScope ["room", "wishes", "moment", "heap"] ["room", "wishes"] (defScope (top 40)) := ⟨rfl, rfl, rfl, by decide +kernel, rfl, by decide +kernel, by decide +kernel⟩
def m_spans_of : MS := (sRet (eLc (eb (eVar 1) dSeq) [2, 3] (gTp (gCons (gNm 2) (gCons (gNm 3) gNil))) cYes (bnd (aCons (eVar 3) (aCons (eTup (aCons (eVar 0) (aCons (pur (.int 1)) aNil))) aNil)) (call F_parted))))
def F_spans_of : Fn := fnD 4 m_spans_of
theorem D_spans_of : Def P w K mg base (TT K) "spans_of" ["room", "wishes"] F_spans_of 5 := def_of (k := 4) (N := ["room", "wishes", "moment", "heap"]) (m := m_spans_of) (fn_spans_of hh) (gl_spans_of hh) sc_spans_of (fun _ _ _ _ _ _ us hl => match us, hl with | [_, _], _ => rfl) fun A outer s H E hr =>
    (pbk_one (pst_ret (pd_lc (own := [("moment", 2), ("heap", 3)]) rfl nd_spans_of (pit_seq (pd_var rfl (.inl rfl))) (blkOk_by (show blkC ["room", "wishes", "moment", "heap"] (defScope (top 40)) _ _ = true by decide +kernel)) (by decide) (fun _ _ _ _ _ => (pg_tp rfl (pgts_cons (pg_nm nd_spans_of rfl (.inl rfl)) (pgts_cons (pg_nm nd_spans_of rfl (.inl rfl)) pgts_nil)))) (fun _ _ _ _ _ => ptst_nil) (fun _ _ _ _ _ => (pd_call (D_parted hh) (hr.mono (by decide)) TD.takes0 (pas_cons (pd_var rfl (.inl rfl)) (pas_cons (pd_tup (pas_cons (pd_var rfl (.inr (.inl rfl))) (pas_cons pd_int pas_nil))) pas_nil)) (alen_cons (alen_cons alen_nil)))))))
omit hh in
theorem nd_offsets_of : (["spans", "at"] : List Str).Nodup := by decide +kernel
omit hh in
theorem sc_offsets_of : FnScope ["spans", "at"] ["spans"] (defScope (top 41)) := ⟨rfl, rfl, rfl, by decide +kernel, rfl, by decide +kernel, by decide +kernel⟩
def m_offsets_of : MS := (sRet (eLc (bnd (aCons (bnd (bVar 0) dLen) aNil) dRng1) [1] (gNm 1) cYes (bnd (aCons (eSlV 0 pNone (pInt (eVar 1))) aNil) (call F_sum_of))))
def F_offsets_of : Fn := fnD 2 m_offsets_of
theorem D_offsets_of : Def P w K mg base (TT K) "offsets_of" ["spans"] F_offsets_of 6 := def_of (k := 5) (N := ["spans", "at"]) (m := m_offsets_of) (fn_offsets_of hh) (gl_offsets_of hh) sc_offsets_of (fun _ _ _ _ _ _ us hl => match us, hl with | [_], _ => rfl) fun A outer s H E hr =>
    (pbk_one (pst_ret (pd_lc (own := [("at", 1)]) rfl nd_offsets_of (pit_range1 rfl (fr_range hh) (pas_cons (pd_b1 cb_len rfl (fr_len hh) (by decide +kernel) (pb_var rfl (.inr (.inl rfl)))) pas_nil)) (blkOk_by (show blkC ["spans", "at"] (defScope (top 41)) _ _ = true by decide +kernel)) (by decide) (fun _ _ _ _ _ => (pg_nm nd_offsets_of rfl (.inl rfl))) (fun _ _ _ _ _ => ptst_nil) (fun _ _ _ _ _ => (pd_call (D_sum_of hh) (hr.mono (by decide)) TD.takes0 (pas_cons (pd_slV rfl (.inr (.inl rfl)) pp_none (pp_some (pd_var rfl (.inl rfl)))) pas_nil) (alen_cons alen_nil))))))
omit hh in
theorem nd_early_beats : (["some", "spans", "begin", "found", "moment", "heap", "span", "offset", "beats"] : List Str).Nodup := by decide +kernel
omit hh in
theorem sc_early_beats : FnScope ["some", "spans", "begin", "found", "moment", "heap", "span", "offset", "beats"] ["some", "spans", "begin"] (defScope (top 42)) := ⟨rfl, rfl, rfl, by decide +kernel, rfl, by decide +kernel, by decide +kernel⟩
def m_early_beats : MS := (sSeq (sSet 3 (eTup (aCons (pur (.int 0)) (aCons (pur (.int 1)) aNil))))
    (sSeq (sFor (bnd (aCons (eVar 0) (aCons (eVar 1) (aCons (bnd (aCons (eVar 1) aNil) (call F_offsets_of)) aNil))) dZip3) (gTp (gCons (gTp (gCons (gNm 4) (gCons (gNm 5) gNil))) (gCons (gNm 6) (gCons (gNm 7) gNil)))) (sSeq (sSet 8 (bnd (aCons (eVar 4) (aCons (bnd (aCons (eVar 2) (aCons (eVar 7) aNil)) (call F_plus)) aNil)) (call F_less)))
    (sSet 3 (bnd (aCons (eVar 3) (aCons (bnd (aCons (eLst (aCons (eTup (aCons (pur (.int 0)) (aCons (pur (.int 1)) aNil))) (aCons (bnd (aCons (eLst (aCons (eVar 8) (aCons (eVar 6) aNil))) aNil) (call F_least)) aNil))) aNil) (call F_greatest)) aNil)) (call F_plus)))))
    (sRet (eMove 3))))
def F_early_beats : Fn := fnD 9 m_early_beats
theorem D_early_beats : Def P w K mg base (TT K) "early_beats" ["some", "spans", "begin"] F_early_beats 7 := def_of (k := 6) (N := ["some", "spans", "begin", "found", "moment", "heap", "span", "offset", "beats"]) (m := m_early_beats) (fn_early_beats hh) (gl_early_beats hh) sc_early_beats (fun _ _ _ _ _ _ us hl => match us, hl with | [_, _, _], _ => rfl) fun A outer s H E hr =>
    (pbk_cons (pst_set nd_early_beats rfl (.inl rfl) (pd_tup (pas_cons pd_int (pas_cons pd_int pas_nil))))
    (pbk_cons (pst_for passesD rfl (pit_zip3 rfl (fr_zip hh) (pas_cons (pd_var rfl (.inl rfl)) (pas_cons (pd_var rfl (.inl rfl)) (pas_cons (pd_call (D_offsets_of hh) (hr.mono (by decide)) takesD (pas_cons (pd_var rfl (.inl rfl)) pas_nil) (alen_cons alen_nil)) pas_nil)))) (pg_tp rfl (pgts_cons (pg_tp rfl (pgts_cons (pg_nm nd_early_beats rfl (.inl rfl)) (pgts_cons (pg_nm nd_early_beats rfl (.inl rfl)) pgts_nil))) (pgts_cons (pg_nm nd_early_beats rfl (.inl rfl)) (pgts_cons (pg_nm nd_early_beats rfl (.inl rfl)) pgts_nil)))) (pbk_cons (pst_set nd_early_beats rfl (.inl rfl) (pd_call (D_less hh) (hr.mono (by decide)) takesD (pas_cons (pd_var rfl (.inl rfl)) (pas_cons (pd_call (D_plus hh) (hr.mono (by decide)) takesD (pas_cons (pd_var rfl (.inl rfl)) (pas_cons (pd_var rfl (.inl rfl)) pas_nil)) (alen_cons (alen_cons alen_nil))) pas_nil)) (alen_cons (alen_cons alen_nil))))
    (pbk_one (pst_set nd_early_beats rfl (.inl rfl) (pd_call (D_plus hh) (hr.mono (by decide)) takesD (pas_cons (pd_var rfl (.inl rfl)) (pas_cons (pd_call (D_greatest hh) (hr.mono (by decide)) takesD (pas_cons (pd_lst (pas_cons (pd_tup (pas_cons pd_int (pas_cons pd_int pas_nil))) (pas_cons (pd_call (D_least hh) (hr.mono (by decide)) takesD (pas_cons (pd_lst (pas_cons (pd_var rfl (.inl rfl)) (pas_cons (pd_var rfl (.inl rfl)) pas_nil))) pas_nil) (alen_cons alen_nil)) pas_nil))) pas_nil) (alen_cons alen_nil)) pas_nil)) (alen_cons (alen_cons alen_nil)))))))
    (pbk_one (pst_ret (pd_move rfl (.inl rfl))))))
omit hh in
theorem nd_begin_of : (["some", "spans", "early", "late", "wanted", "points", "moment", "heap", "span", "offset", "later", "one", "other", "mine", "theirs", "part"] : List Str).Nodup := by decide +kernel
omit hh in
theorem sc_begin_of : FnScope ["some", "spans", "early", "late", "wanted", "points", "moment", "heap", "span", "offset", "later", "one", "other", "mine", "theirs", "part"] ["some", "spans", "early", "late"] (defScope (top 43)) := ⟨rfl, rfl, rfl, by decide +kernel, rfl, by decide +kernel, by decide +kernel⟩
def m_begin_of : MS := (sSeq (sSet 4 (bnd (aCons (bnd (aCons (eVar 3) (aCons (bnd (aCons (eVar 2) (aCons (eVar 3) aNil)) (call F_plus)) aNil)) (call F_parted)) (aCons (bnd (aCons (eVar 1) aNil) (call F_sum_of)) aNil)) (call F_times)))
    (sSeq (sSet 5 (eLst aNil))
    (sSeq (sFor (bnd (aCons (eVar 0) (aCons (eVar 1) (aCons (bnd (aCons (eVar 1) aNil) (call F_offsets_of)) aNil))) dZip3) (gTp (gCons (gTp (gCons (gNm 6) (gCons (gNm 7) gNil))) (gCons (gNm 8) (gCons (gNm 9) gNil)))) (sExpr (mSlot "list" 5 (aCons (eLst (aCons (bnd (aCons (eVar 6) (aCons (eVar 9) aNil)) (call F_less)) (aCons (bnd (aCons (bnd (aCons (eVar 6) (aCons (eVar 9) aNil)) (call F_less)) (aCons (eVar 8) aNil)) (call F_less)) aNil))) aNil) fExt)))
    (sSeq (sSet 10 (bnd (brD (bnd (aCons (eVar 5) aNil) (call F_in_order))) dRev))
    (sSeq (sFor (bnd (aCons (eVar 10) (aCons (eSlV 10 (pInt (pur (.int 1))) pNone) aNil)) dZip2) (gTp (gCons (gNm 11) (gCons (gNm 12) gNil))) (sSeq (sParF [13, 14] (fCons (bnd (aCons (eVar 0) (aCons (eVar 1) (aCons (eVar 11) aNil))) (call F_early_beats)) (fCons (bnd (aCons (eVar 0) (aCons (eVar 1) (aCons (eVar 12) aNil))) (call F_early_beats)) fNil)))
    (sIf (tAndM (tst (bnd (aCons (eVar 13) (aCons (eVar 4) aNil)) (call F_is_below))) (tNotM (tst (bnd (aCons (eVar 14) (aCons (eVar 4) aNil)) (call F_is_below))))) (sSeq (sSet 15 (bnd (aCons (bnd (aCons (eVar 4) (aCons (eVar 13) aNil)) (call F_less)) (aCons (bnd (aCons (eVar 14) (aCons (eVar 13) aNil)) (call F_less)) aNil)) (call F_parted)))
    (sRet (bnd (aCons (eVar 11) (aCons (bnd (aCons (eVar 15) (aCons (bnd (aCons (eVar 11) (aCons (eVar 12) aNil)) (call F_less)) aNil)) (call F_times)) aNil)) (call F_less)))) sNx)))
    (sRet (eIxV 10 (pur (.int 0)))))))))
def F_begin_of : Fn := fnD 16 m_begin_of
theorem D_begin_of : Def P w K mg base (TT K) "begin_of" ["some", "spans", "early", "late"] F_begin_of 8 := def_of (k := 7) (N := ["some", "spans", "early", "late", "wanted", "points", "moment", "heap", "span", "offset", "later", "one", "other", "mine", "theirs", "part"]) (m := m_begin_of) (fn_begin_of hh) (gl_begin_of hh) sc_begin_of (fun _ _ _ _ _ _ us hl => match us, hl with | [_, _, _, _], _ => rfl) fun A outer s H E hr =>
    (pbk_cons (pst_set nd_begin_of rfl (.inl rfl) (pd_call (D_times hh) (hr.mono (by decide)) takesD (pas_cons (pd_call (D_parted hh) (hr.mono (by decide)) takesD (pas_cons (pd_var rfl (.inl rfl)) (pas_cons (pd_call (D_plus hh) (hr.mono (by decide)) takesD (pas_cons (pd_var rfl (.inl rfl)) (pas_cons (pd_var rfl (.inl rfl)) pas_nil)) (alen_cons (alen_cons alen_nil))) pas_nil)) (alen_cons (alen_cons alen_nil))) (pas_cons (pd_call (D_sum_of hh) (hr.mono (by decide)) takesD (pas_cons (pd_var rfl (.inl rfl)) pas_nil) (alen_cons alen_nil)) pas_nil)) (alen_cons (alen_cons alen_nil))))
    (pbk_cons (pst_set nd_begin_of rfl (.inl rfl) (pd_lst pas_nil))
    (pbk_cons (pst_for passesD rfl (pit_zip3 rfl (fr_zip hh) (pas_cons (pd_var rfl (.inl rfl)) (pas_cons (pd_var rfl (.inl rfl)) (pas_cons (pd_call (D_offsets_of hh) (hr.mono (by decide)) takesD (pas_cons (pd_var rfl (.inl rfl)) pas_nil) (alen_cons alen_nil)) pas_nil)))) (pg_tp rfl (pgts_cons (pg_tp rfl (pgts_cons (pg_nm nd_begin_of rfl (.inl rfl)) (pgts_cons (pg_nm nd_begin_of rfl (.inl rfl)) pgts_nil))) (pgts_cons (pg_nm nd_begin_of rfl (.inl rfl)) (pgts_cons (pg_nm nd_begin_of rfl (.inl rfl)) pgts_nil)))) (pbk_one (pst_expr (pd_mS md_ext PySem.F.plainAttrs_list PySem.F.slot_list_extend PySem.F.type_list_extend rfl (.inl rfl) (pas_cons (pd_lst (pas_cons (pd_call (D_less hh) (hr.mono (by decide)) takesD (pas_cons (pd_var rfl (.inl rfl)) (pas_cons (pd_var rfl (.inl rfl)) pas_nil)) (alen_cons (alen_cons alen_nil))) (pas_cons (pd_call (D_less hh) (hr.mono (by decide)) takesD (pas_cons (pd_call (D_less hh) (hr.mono (by decide)) takesD (pas_cons (pd_var rfl (.inl rfl)) (pas_cons (pd_var rfl (.inl rfl)) pas_nil)) (alen_cons (alen_cons alen_nil))) (pas_cons (pd_var rfl (.inl rfl)) pas_nil)) (alen_cons (alen_cons alen_nil))) pas_nil))) pas_nil)))))
    (pbk_cons (pst_set nd_begin_of rfl (.inl rfl) (pd_rev (pb_of (pd_call (D_in_order hh) (hr.mono (by decide)) takesD (pas_cons (pd_var rfl (.inl rfl)) pas_nil) (alen_cons alen_nil)))))
    (pbk_cons (pst_for passesD rfl (pit_zip2 rfl (fr_zip hh) (pas_cons (pd_var rfl (.inl rfl)) (pas_cons (pd_slV rfl (.inl rfl) (pp_some pd_int) pp_none) pas_nil))) (pg_tp rfl (pgts_cons (pg_nm nd_begin_of rfl (.inl rfl)) (pgts_cons (pg_nm nd_begin_of rfl (.inl rfl)) pgts_nil))) (pbk_cons (pst_parF rfl nd_begin_of rfl rfl (by decide) rfl rfl (pd_call (D_early_beats hh) (hr.mono (by decide)) takesD (pas_cons (pd_var rfl (.inl rfl)) (pas_cons (pd_var rfl (.inl rfl)) (pas_cons (pd_var rfl (.inl rfl)) pas_nil))) (alen_cons (alen_cons (alen_cons alen_nil)))) (pd_call (D_early_beats hh) (hr.mono (by decide)) takesD (pas_cons (pd_var rfl (.inl rfl)) (pas_cons (pd_var rfl (.inl rfl)) (pas_cons (pd_var rfl (.inl rfl)) pas_nil))) (alen_cons (alen_cons (alen_cons alen_nil)))) rfl)
    (pbk_one (pst_if (pc_pw (pw_andM (pc_val (pd_call (D_is_below hh) (hr.mono (by decide)) takesD (pas_cons (pd_var rfl (.inl rfl)) (pas_cons (pd_var rfl (.inl rfl)) pas_nil)) (alen_cons (alen_cons alen_nil)))) (pw_one (pc_not (pc_val (pd_call (D_is_below hh) (hr.mono (by decide)) takesD (pas_cons (pd_var rfl (.inl rfl)) (pas_cons (pd_var rfl (.inl rfl)) pas_nil)) (alen_cons (alen_cons alen_nil)))))))) (pbk_cons (pst_set nd_begin_of rfl (.inl rfl) (pd_call (D_parted hh) (hr.mono (by decide)) takesD (pas_cons (pd_call (D_less hh) (hr.mono (by decide)) takesD (pas_cons (pd_var rfl (.inl rfl)) (pas_cons (pd_var rfl (.inl rfl)) pas_nil)) (alen_cons (alen_cons alen_nil))) (pas_cons (pd_call (D_less hh) (hr.mono (by decide)) takesD (pas_cons (pd_var rfl (.inl rfl)) (pas_cons (pd_var rfl (.inl rfl)) pas_nil)) (alen_cons (alen_cons alen_nil))) pas_nil)) (alen_cons (alen_cons alen_nil))))
    (pbk_one (pst_ret (pd_call (D_less hh) (hr.mono (by decide)) takesD (pas_cons (pd_var rfl (.inl rfl)) (pas_cons (pd_call (D_times hh) (hr.mono (by decide)) takesD (pas_cons (pd_var rfl (.inl rfl)) (pas_cons (pd_call (D_less hh) (hr.mono (by decide)) takesD (pas_cons (pd_var rfl (.inl rfl)) (pas_cons (pd_var rfl (.inl rfl)) pas_nil)) (alen_cons (alen_cons alen_nil))) pas_nil)) (alen_cons (alen_cons alen_nil))) pas_nil)) (alen_cons (alen_cons alen_nil)))))) pbk_nil))))
    (pbk_one (pst_ret (pd_ixV rfl (.inl rfl) pd_int))))))))
omit hh in
theorem nd_blocks_of : (["room", "wishes", "early", "late", "spans", "found", "at", "first", "begin"] : List Str).Nodup := by decide +kernel
omit hh in
theorem sc_blocks_of : FnScope ["room", "wishes", "early", "late", "spans", "found", "at", "first", "begin"] ["room", "wishes", "early", "late"] (defScope (top 44)) := ⟨rfl, rfl, rfl, by decide +kernel, rfl, by decide +kernel, by decide +kernel⟩
def m_blocks_of : MS := (sSeq (sParF [4, 5] (fCons (bnd (aCons (eVar 0) (aCons (eVar 1) aNil)) (call F_spans_of)) (fCons (eLst aNil) fNil)))
    (sSeq (sFor (bnd (aCons (bnd (bVar 1) dLen) aNil) dRng1) (gNm 6) (sSeq (sSet 7 (eVar 6))
    (sSeq (sSet 8 (bnd (aCons (eSlV 1 (pInt (eVar 6)) (pInt (eb (eVar 6) fun x => eb (pur (.int 1)) fun y => dAdd x y))) (aCons (eSlV 4 (pInt (eVar 6)) (pInt (eb (eVar 6) fun x => eb (pur (.int 1)) fun y => dAdd x y))) (aCons (eVar 2) (aCons (eVar 3) aNil)))) (call F_begin_of)))
    (sSeq (sWhile (fuLen 5) (tAndM (tTru (bVar 5)) (tNotM (tst (bnd (aCons (eIx (eIxV 5 (eNeg (pur (.int 1)))) (pur (.int 1))) (aCons (eVar 8) aNil)) (call F_is_below))))) (sSeq (sSet 7 (eIx (mSlot "list" 5 aNil fPop) (pur (.int 2))))
    (sSet 8 (bnd (aCons (eSlV 1 (pInt (eVar 7)) (pInt (eb (eVar 6) fun x => eb (pur (.int 1)) fun y => dAdd x y))) (aCons (eSlV 4 (pInt (eVar 7)) (pInt (eb (eVar 6) fun x => eb (pur (.int 1)) fun y => dAdd x y))) (aCons (eVar 2) (aCons (eVar 3) aNil)))) (call F_begin_of)))))
    (sExpr (mSlot "list" 5 (aCons (eTup (aCons (eVar 8) (aCons (bnd (aCons (eVar 8) (aCons (bnd (aCons (eSlV 4 (pInt (eVar 7)) (pInt (eb (eVar 6) fun x => eb (pur (.int 1)) fun y => dAdd x y))) aNil) (call F_sum_of)) aNil)) (call F_plus)) (aCons (eVar 7) (aCons (eb (eVar 6) fun x => eb (pur (.int 1)) fun y => dAdd x y) aNil))))) aNil) fApp))))))
    (sRet (eMove 5))))
def F_blocks_of : Fn := fnD 9 m_blocks_of
theorem D_blocks_of : Def P w K mg base (TT K) "blocks_of" ["room", "wishes", "early", "late"] F_blocks_of 9 := def_of (k := 8) (N := ["room", "wishes", "early", "late", "spans", "found", "at", "first", "begin"]) (m := m_blocks_of) (fn_blocks_of hh) (gl_blocks_of hh) sc_blocks_of (fun _ _ _ _ _ _ us hl => match us, hl with | [_, _, _, _], _ => rfl) fun A outer s H E hr =>
    (pbk_cons (pst_parF rfl nd_blocks_of rfl rfl (by decide) rfl rfl (pd_call (D_spans_of hh) (hr.mono (by decide)) takesD (pas_cons (pd_var rfl (.inl rfl)) (pas_cons (pd_var rfl (.inl rfl)) pas_nil)) (alen_cons (alen_cons alen_nil))) (pd_lst pas_nil) rfl)
    (pbk_cons (pst_for passesD rfl (pit_range1 rfl (fr_range hh) (pas_cons (pd_b1 cb_len rfl (fr_len hh) (by decide +kernel) (pb_var rfl (.inl rfl))) pas_nil)) (pg_nm nd_blocks_of rfl (.inl rfl)) (pbk_cons (pst_set nd_blocks_of rfl (.inl rfl) (pd_var rfl (.inl rfl)))
    (pbk_cons (pst_set nd_blocks_of rfl (.inl rfl) (pd_call (D_begin_of hh) (hr.mono (by decide)) takesD (pas_cons (pd_slV rfl (.inl rfl) (pp_some (pd_var rfl (.inl rfl))) (pp_some (pd_bin od_add (pd_var rfl (.inl rfl)) pd_int))) (pas_cons (pd_slV rfl (.inl rfl) (pp_some (pd_var rfl (.inl rfl))) (pp_some (pd_bin od_add (pd_var rfl (.inl rfl)) pd_int))) (pas_cons (pd_var rfl (.inl rfl)) (pas_cons (pd_var rfl (.inl rfl)) pas_nil)))) (alen_cons (alen_cons (alen_cons (alen_cons alen_nil))))))
    (pbk_cons (pst_while (fuLen 5) passesD (pc_pw (pw_andM (pc_truth (pb_var rfl (.inl rfl))) (pw_one (pc_not (pc_val (pd_call (D_is_below hh) (hr.mono (by decide)) takesD (pas_cons (pd_ix (pd_ixV rfl (.inl rfl) (pd_neg pd_int)) pd_int) (pas_cons (pd_var rfl (.inl rfl)) pas_nil)) (alen_cons (alen_cons alen_nil)))))))) (pbk_cons (pst_set nd_blocks_of rfl (.inl rfl) (pd_ix (pd_mS0 md_pop PySem.F.plainAttrs_list PySem.F.slot_list_pop PySem.F.type_list_pop rfl (.inl rfl)) pd_int))
    (pbk_one (pst_set nd_blocks_of rfl (.inl rfl) (pd_call (D_begin_of hh) (hr.mono (by decide)) takesD (pas_cons (pd_slV rfl (.inl rfl) (pp_some (pd_var rfl (.inl rfl))) (pp_some (pd_bin od_add (pd_var rfl (.inl rfl)) pd_int))) (pas_cons (pd_slV rfl (.inl rfl) (pp_some (pd_var rfl (.inl rfl))) (pp_some (pd_bin od_add (pd_var rfl (.inl rfl)) pd_int))) (pas_cons (pd_var rfl (.inl rfl)) (pas_cons (pd_var rfl (.inl rfl)) pas_nil)))) (alen_cons (alen_cons (alen_cons (alen_cons alen_nil)))))))))
    (pbk_one (pst_expr (pd_mS md_app PySem.F.plainAttrs_list PySem.F.slot_list_append PySem.F.type_list_append rfl (.inl rfl) (pas_cons (pd_tup (pas_cons (pd_var rfl (.inl rfl)) (pas_cons (pd_call (D_plus hh) (hr.mono (by decide)) takesD (pas_cons (pd_var rfl (.inl rfl)) (pas_cons (pd_call (D_sum_of hh) (hr.mono (by decide)) takesD (pas_cons (pd_slV rfl (.inl rfl) (pp_some (pd_var rfl (.inl rfl))) (pp_some (pd_bin od_add (pd_var rfl (.inl rfl)) pd_int))) pas_nil) (alen_cons alen_nil)) pas_nil)) (alen_cons (alen_cons alen_nil))) (pas_cons (pd_var rfl (.inl rfl)) (pas_cons (pd_bin od_add (pd_var rfl (.inl rfl)) pd_int) pas_nil))))) pas_nil))))))))
    (pbk_one (pst_ret (pd_move rfl (.inl rfl))))))
omit hh in
theorem nd_pieces_of : (["room", "wishes", "early", "late", "spans", "found", "begin", "end", "first", "behind", "here", "wait", "index", "last", "moment", "middle", "until", "grows"] : List Str).Nodup := by decide +kernel
omit hh in
theorem sc_pieces_of : FnScope ["room", "wishes", "early", "late", "spans", "found", "begin", "end", "first", "behind", "here", "wait", "index", "last", "moment", "middle", "until", "grows"] ["room", "wishes", "early", "late"] (defScope (top 45)) := ⟨rfl, rfl, rfl, by decide +kernel, rfl, by decide +kernel, by decide +kernel⟩
def m_pieces_of : MS := (sSeq (sParF [4, 5] (fCons (bnd (aCons (eVar 0) (aCons (eVar 1) aNil)) (call F_spans_of)) (fCons (eLst aNil) fNil)))
    (sSeq (sFor (eb (bnd (aCons (eVar 0) (aCons (eVar 1) (aCons (eVar 2) (aCons (eVar 3) aNil)))) (call F_blocks_of)) dSeq) (gTp (gCons (gNm 6) (gCons (gNm 7) (gCons (gNm 8) (gCons (gNm 9) gNil))))) (sSeq (sParF [10, 11] (fCons (eVar 6) (fCons (eTup (aCons (pur (.int 0)) (aCons (pur (.int 1)) aNil))) fNil)))
    (sFor (bnd (aCons (eVar 8) (aCons (eVar 9) aNil)) dRng2) (gNm 12) (sSeq (sParF [13, 14] (fCons (bnd (aCons (eVar 10) (aCons (eIxV 4 (eVar 12)) aNil)) (call F_plus)) (fCons (eIx (eIxV 1 (eVar 12)) (pur (.int 0))) fNil)))
    (sSeq (sSet 15 (bnd (aCons (eLst (aCons (eVar 10) (aCons (bnd (aCons (eLst (aCons (eVar 13) (aCons (eVar 14) aNil))) aNil) (call F_least)) aNil))) aNil) (call F_greatest)))
    (sFor (eb (eTup (aCons (eTup (aCons (eVar 15) (aCons (eVar 2) aNil))) (aCons (eTup (aCons (eVar 13) (aCons (bnd (aCons (eTup (aCons (pur (.int 0)) (aCons (pur (.int 1)) aNil))) (aCons (eVar 3) aNil)) (call F_less)) aNil))) aNil))) dSeq) (gTp (gCons (gNm 16) (gCons (gNm 17) gNil))) (sIf (tst (bnd (aCons (eVar 10) (aCons (eVar 16) aNil)) (call F_is_below))) (sSeq (sExpr (mSlot "list" 5 (aCons (eTup (aCons (eVar 12) (aCons (eVar 10) (aCons (eVar 16) (aCons (eVar 11) (aCons (eVar 17) aNil)))))) aNil) fApp))
    (sSeq (sSet 11 (bnd (aCons (eVar 11) (aCons (bnd (aCons (eVar 17) (aCons (bnd (aCons (eVar 16) (aCons (eVar 10) aNil)) (call F_less)) aNil)) (call F_times)) aNil)) (call F_plus)))
    (sSet 10 (eVar 16)))) sNx)))))))
    (sRet (eMove 5))))
def F_pieces_of : Fn := fnD 18 m_pieces_of
theorem D_pieces_of : Def P w K mg base (TT K) "pieces_of" ["room", "wishes", "early", "late"] F_pieces_of 10 := def_of (k := 9) (N := ["room", "wishes", "early", "late", "spans", "found", "begin", "end", "first", "behind", "here", "wait", "index", "last", "moment", "middle", "until", "grows"]) (m := m_pieces_of) (fn_pieces_of hh) (gl_pieces_of hh) sc_pieces_of (fun _ _ _ _ _ _ us hl => match us, hl with | [_, _, _, _], _ => rfl) fun A outer s H E hr =>
    (pbk_cons (pst_parF rfl nd_pieces_of rfl rfl (by decide) rfl rfl (pd_call (D_spans_of hh) (hr.mono (by decide)) takesD (pas_cons (pd_var rfl (.inl rfl)) (pas_cons (pd_var rfl (.inl rfl)) pas_nil)) (alen_cons (alen_cons alen_nil))) (pd_lst pas_nil) rfl)
    (pbk_cons (pst_for passesD rfl (pit_seq (pd_call (D_blocks_of hh) (hr.mono (by decide)) takesD (pas_cons (pd_var rfl (.inl rfl)) (pas_cons (pd_var rfl (.inl rfl)) (pas_cons (pd_var rfl (.inl rfl)) (pas_cons (pd_var rfl (.inl rfl)) pas_nil)))) (alen_cons (alen_cons (alen_cons (alen_cons alen_nil)))))) (pg_tp rfl (pgts_cons (pg_nm nd_pieces_of rfl (.inl rfl)) (pgts_cons (pg_nm nd_pieces_of rfl (.inl rfl)) (pgts_cons (pg_nm nd_pieces_of rfl (.inl rfl)) (pgts_cons (pg_nm nd_pieces_of rfl (.inl rfl)) pgts_nil))))) (pbk_cons (pst_parF rfl nd_pieces_of rfl rfl (by decide) rfl rfl (pd_var rfl (.inl rfl)) (pd_tup (pas_cons pd_int (pas_cons pd_int pas_nil))) rfl)
    (pbk_one (pst_for passesD rfl (pit_range2 rfl (fr_range hh) (pas_cons (pd_var rfl (.inl rfl)) (pas_cons (pd_var rfl (.inl rfl)) pas_nil))) (pg_nm nd_pieces_of rfl (.inl rfl)) (pbk_cons (pst_parF rfl nd_pieces_of rfl rfl (by decide) rfl rfl (pd_call (D_plus hh) (hr.mono (by decide)) takesD (pas_cons (pd_var rfl (.inl rfl)) (pas_cons (pd_ixV rfl (.inl rfl) (pd_var rfl (.inl rfl))) pas_nil)) (alen_cons (alen_cons alen_nil))) (pd_ix (pd_ixV rfl (.inl rfl) (pd_var rfl (.inl rfl))) pd_int) rfl)
    (pbk_cons (pst_set nd_pieces_of rfl (.inl rfl) (pd_call (D_greatest hh) (hr.mono (by decide)) takesD (pas_cons (pd_lst (pas_cons (pd_var rfl (.inl rfl)) (pas_cons (pd_call (D_least hh) (hr.mono (by decide)) takesD (pas_cons (pd_lst (pas_cons (pd_var rfl (.inl rfl)) (pas_cons (pd_var rfl (.inl rfl)) pas_nil))) pas_nil) (alen_cons alen_nil)) pas_nil))) pas_nil) (alen_cons alen_nil)))
    (pbk_one (pst_for passesD rfl (pit_seq (pd_tup (pas_cons (pd_tup (pas_cons (pd_var rfl (.inl rfl)) (pas_cons (pd_var rfl (.inl rfl)) pas_nil))) (pas_cons (pd_tup (pas_cons (pd_var rfl (.inl rfl)) (pas_cons (pd_call (D_less hh) (hr.mono (by decide)) takesD (pas_cons (pd_tup (pas_cons pd_int (pas_cons pd_int pas_nil))) (pas_cons (pd_var rfl (.inl rfl)) pas_nil)) (alen_cons (alen_cons alen_nil))) pas_nil))) pas_nil)))) (pg_tp rfl (pgts_cons (pg_nm nd_pieces_of rfl (.inl rfl)) (pgts_cons (pg_nm nd_pieces_of rfl (.inl rfl)) pgts_nil))) (pbk_one (pst_if (pc_val (pd_call (D_is_below hh) (hr.mono (by decide)) takesD (pas_cons (pd_var rfl (.inl rfl)) (pas_cons (pd_var rfl (.inl rfl)) pas_nil)) (alen_cons (alen_cons alen_nil)))) (pbk_cons (pst_expr (pd_mS md_app PySem.F.plainAttrs_list PySem.F.slot_list_append PySem.F.type_list_append rfl (.inl rfl) (pas_cons (pd_tup (pas_cons (pd_var rfl (.inl rfl)) (pas_cons (pd_var rfl (.inl rfl)) (pas_cons (pd_var rfl (.inl rfl)) (pas_cons (pd_var rfl (.inl rfl)) (pas_cons (pd_var rfl (.inl rfl)) pas_nil)))))) pas_nil)))
    (pbk_cons (pst_set nd_pieces_of rfl (.inl rfl) (pd_call (D_plus hh) (hr.mono (by decide)) takesD (pas_cons (pd_var rfl (.inl rfl)) (pas_cons (pd_call (D_times hh) (hr.mono (by decide)) takesD (pas_cons (pd_var rfl (.inl rfl)) (pas_cons (pd_call (D_less hh) (hr.mono (by decide)) takesD (pas_cons (pd_var rfl (.inl rfl)) (pas_cons (pd_var rfl (.inl rfl)) pas_nil)) (alen_cons (alen_cons alen_nil))) pas_nil)) (alen_cons (alen_cons alen_nil))) pas_nil)) (alen_cons (alen_cons alen_nil))))
    (pbk_one (pst_set nd_pieces_of rfl (.inl rfl) (pd_var rfl (.inl rfl)))))) pbk_nil))))))))))
    (pbk_one (pst_ret (pd_move rfl (.inl rfl))))))
omit hh in
theorem nd_checked_all : (["room", "length", "wishes", "early", "late", "known"] : List Str).Nodup := by decide +kernel
omit hh in
theorem sc_checked_all : FnScope ["room", "length", "wishes", "early", "late", "known"] ["room", "length", "wishes", "early", "late"] (defScope (top 46)) := ⟨rfl, rfl, rfl, by decide +kernel, rfl, by decide +kernel, by decide +kernel⟩
def m_checked_all : MS := (sSeq (sExpr (bnd (aCons (eVar 0) (aCons (eVar 1) aNil)) (call F_check_road)))
    (sSeq (sSet 5 (bnd (aCons (eVar 2) aNil) (call F_checked_wishes)))
    (sRet (eb (eTup (aCons (eVar 5) aNil)) fun x => eb (bnd (aCons (eVar 3) (aCons (eVar 4) aNil)) (call F_checked_troubles)) fun y => dAdd x y))))
def F_checked_all : Fn := fnD 6 m_checked_all
theorem D_checked_all : Def P w K mg base (TT K) "checked_all" ["room", "length", "wishes", "early", "late"] F_checked_all 9 := def_of (k := 8) (N := ["room", "length", "wishes", "early", "late", "known"]) (m := m_checked_all) (fn_checked_all hh) (gl_checked_all hh) sc_checked_all (fun _ _ _ _ _ _ us hl => match us, hl with | [_, _, _, _, _], _ => rfl) fun A outer s H E hr =>
    (pbk_cons (pst_expr (pd_call (D_check_road hh) (hr.mono (by decide)) takesD (pas_cons (pd_var rfl (.inl rfl)) (pas_cons (pd_var rfl (.inl rfl)) pas_nil)) (alen_cons (alen_cons alen_nil))))
    (pbk_cons (pst_set nd_checked_all rfl (.inl rfl) (pd_call (D_checked_wishes hh) (hr.mono (by decide)) takesD (pas_cons (pd_var rfl (.inl rfl)) pas_nil) (alen_cons alen_nil)))
    (pbk_one (pst_ret (pd_bin od_add (pd_tup (pas_cons (pd_var rfl (.inl rfl)) pas_nil)) (pd_call (D_checked_troubles hh) (hr.mono (by decide)) takesD (pas_cons (pd_var rfl (.inl rfl)) (pas_cons (pd_var rfl (.inl rfl)) pas_nil)) (alen_cons (alen_cons alen_nil))))))))
omit hh in
theorem nd_check_soon : (["begin", "length", "first"] : List Str).Nodup := by decide +kernel
omit hh in
theorem sc_check_soon : FnScope ["begin", "length", "first"] ["begin", "length"] (defScope (top 47)) := ⟨rfl, rfl, rfl, by decide +kernel, rfl, by decide +kernel, by decide +kernel⟩
def m_check_soon : MS := (sSeq (sSet 2 (bnd (aCons (eVar 0) (aCons (eTup (aCons (eVar 1) (aCons (pur (.int 1)) aNil))) aNil)) (call F_less)))
    (sIf (tst (eb (eIxV 2 (pur (.int 0))) fun x => eb (pur (.int 0)) fun y => dLt x y)) (sRaise "TooSoon" "moment" (eVar 2)) sNx))
def F_check_soon : Fn := fnD 3 m_check_soon
theorem D_check_soon : Def P w K mg base (TT K) "check_soon" ["begin", "length"] F_check_soon 5 := def_of (k := 4) (N := ["begin", "length", "first"]) (m := m_check_soon) (fn_check_soon hh) (gl_check_soon hh) sc_check_soon (fun _ _ _ _ _ _ us hl => match us, hl with | [_, _], _ => rfl) fun A outer s H E hr =>
    (pbk_cons (pst_set nd_check_soon rfl (.inl rfl) (pd_call (D_less hh) (hr.mono (by decide)) takesD (pas_cons (pd_var rfl (.inl rfl)) (pas_cons (pd_tup (pas_cons (pd_var rfl (.inl rfl)) (pas_cons pd_int pas_nil))) pas_nil)) (alen_cons (alen_cons alen_nil))))
    (pbk_one (pst_if (pc_cmp od_lt (pd_ixV rfl (.inl rfl) pd_int) pd_int) (pbk_one (pst_raise rfl (ex_TooSoon hh) (hr.mono (by decide)) takesD (pd_var rfl (.inl rfl)))) pbk_nil)))
omit hh in
theorem nd_settled : (["room", "length", "wishes", "early", "late", "known", "soon", "behind", "pieces", "found", "index", "mine", "rows", "piece", "one"] : List Str).Nodup := by decide +kernel
omit hh in
theorem sc_settled : FnScope ["room", "length", "wishes", "early", "late", "known", "soon", "behind", "pieces", "found", "index", "mine", "rows", "piece", "one"] ["room", "length", "wishes", "early", "late"] (defScope (top 50)) := ⟨rfl, rfl, rfl, by decide +kernel, rfl, by decide +kernel, by decide +kernel⟩
def m_settled : MS := (sSeq (sAsg (bnd (aCons (eVar 0) (aCons (eVar 1) (aCons (eVar 2) (aCons (eVar 3) (aCons (eVar 4) aNil))))) (call F_checked_all)) (gTp (gCons (gNm 5) (gCons (gNm 6) (gCons (gNm 7) gNil)))))
    (sSeq (sSet 8 (bnd (aCons (eVar 0) (aCons (eVar 5) (aCons (eVar 6) (aCons (eVar 7) aNil)))) (call F_pieces_of)))
    (sSeq (sExpr (bnd (aCons (eIx (eIxV 8 (pur (.int 0))) (pur (.int 1))) (aCons (eVar 1) aNil)) (call F_check_soon)))
    (sSeq (sSet 9 (eLst aNil))
    (sSeq (sFor (bnd (aCons (bnd (bVar 5) dLen) aNil) dRng1) (gNm 10) (sSeq (sSet 11 (eLc (eb (eVar 8) dSeq) [13] (gNm 13) (tst (eb (eIxV 13 (pur (.int 0))) fun x => eb (eVar 10) fun y => dEq x y)) (eVar 13)))
    (sSeq (sSet 12 (eLc (eb (eVar 11) dSeq) [14] (gNm 14) cYes (eTup (aCons bad (aCons (bnd (aCons (eTup (aCons (eVar 0) (aCons (pur (.int 1)) aNil))) (aCons (bnd (aCons (eTup (aCons (pur (.int 1)) (aCons (pur (.int 1)) aNil))) (aCons (eIxV 14 (pur (.int 4))) aNil)) (call F_less)) aNil)) (call F_parted)) aNil)))))
    (sExpr (mSlot "list" 9 (aCons bad aNil) fApp)))))
    (sRet (eMove 9)))))))
def F_settled : Fn := fnD 15 m_settled
theorem D_settled : Def P w K mg base (TT K) "settled" ["room", "length", "wishes", "early", "late"] F_settled 11 := def_of (k := 10) (N := ["room", "length", "wishes", "early", "late", "known", "soon", "behind", "pieces", "found", "index", "mine", "rows", "piece", "one"]) (m := m_settled) (fn_settled hh) (gl_settled hh) sc_settled (fun _ _ _ _ _ _ us hl => match us, hl with | [_, _, _, _, _], _ => rfl) fun A outer s H E hr =>
    (pbk_cons (pst_asg (pd_call (D_checked_all hh) (hr.mono (by decide)) takesD (pas_cons (pd_var rfl (.inr (.inl rfl))) (pas_cons (pd_var rfl (.inr (.inl rfl))) (pas_cons (pd_var rfl (.inl rfl)) (pas_cons (pd_var rfl (.inl rfl)) (pas_cons (pd_var rfl (.inl rfl)) pas_nil))))) (alen_cons (alen_cons (alen_cons (alen_cons (alen_cons alen_nil)))))) (pg_tp rfl (pgts_cons (pg_nm nd_settled rfl (.inl rfl)) (pgts_cons (pg_nm nd_settled rfl (.inl rfl)) (pgts_cons (pg_nm nd_settled rfl (.inl rfl)) pgts_nil)))))
    (pbk_cons (pst_set nd_settled rfl (.inl rfl) (pd_call (D_pieces_of hh) (hr.mono (by decide)) takesD (pas_cons (pd_var rfl (.inr (.inl rfl))) (pas_cons (pd_var rfl (.inl rfl)) (pas_cons (pd_var rfl (.inl rfl)) (pas_cons (pd_var rfl (.inl rfl)) pas_nil)))) (alen_cons (alen_cons (alen_cons (alen_cons alen_nil))))))
    (pbk_cons (pst_expr (pd_call (D_check_soon hh) (hr.mono (by decide)) takesD (pas_cons (pd_ix (pd_ixV rfl (.inl rfl) pd_int) pd_int) (pas_cons (pd_var rfl (.inr (.inl rfl))) pas_nil)) (alen_cons (alen_cons alen_nil))))
    (pbk_cons (pst_set nd_settled rfl (.inl rfl) (pd_lst pas_nil))
    (pbk_cons (pst_for passesD rfl (pit_range1 rfl (fr_range hh) (pas_cons (pd_b1 cb_len rfl (fr_len hh) (by decide +kernel) (pb_var rfl (.inl rfl))) pas_nil)) (pg_nm nd_settled rfl (.inr rfl)) (pbk_cons (pst_setLc (own := [("piece", 13)]) rfl nd_settled rfl rfl (L2.sw_true rfl rfl rfl rfl) (pit_seq (pd_var rfl (.inl rfl))) (blkOk_by (show blkC ["room", "length", "wishes", "early", "late", "known", "soon", "behind", "pieces", "found", "index", "mine", "rows", "piece", "one"] (defScope (top 50)) _ _ = true by decide +kernel)) (by decide) (fun _ _ _ _ _ => (pg_nm nd_settled rfl (.inl rfl))) (fun _ _ _ _ _ => (ptst_one (pc_cmp (od_eq (units_of hr)) (pd_ixV rfl (.inl rfl) pd_int) (pd_var rfl (.inr (.inl rfl)))))) (fun _ _ _ _ _ => (pd_var rfl (.inl rfl))))
    (pbk_cons (pst_setLc (own := [("one", 14)]) rfl nd_settled rfl rfl (L2.sw_true rfl rfl rfl rfl) (pit_seq (pd_var rfl (.inl rfl))) (blkOk_by (show blkC ["room", "length", "wishes", "early", "late", "known", "soon", "behind", "pieces", "found", "index", "mine", "rows", "piece", "one"] (defScope (top 50)) _ _ = true by decide +kernel)) (by decide) (fun _ _ _ _ _ => (pg_nm nd_settled rfl (.inl rfl))) (fun _ _ _ _ _ => ptst_nil) (fun _ _ _ _ _ => (pd_tup (pas_cons pd_bad (pas_cons (pd_call (D_parted hh) (hr.mono (by decide)) TD.takes0 (pas_cons (pd_tup (pas_cons (pd_var rfl (.inr (.inl rfl))) (pas_cons pd_int pas_nil))) (pas_cons (pd_call (D_less hh) (hr.mono (by decide)) TD.takes0 (pas_cons (pd_tup (pas_cons pd_int (pas_cons pd_int pas_nil))) (pas_cons (pd_ixV rfl (.inl rfl) pd_int) pas_nil)) (alen_cons (alen_cons alen_nil))) pas_nil)) (alen_cons (alen_cons alen_nil))) pas_nil)))))
    (pbk_one (pst_expr (pd_mS md_app PySem.F.plainAttrs_list PySem.F.slot_list_append PySem.F.type_list_append rfl (.inl rfl) (pas_cons pd_bad pas_nil)))))))
    (pbk_one (pst_ret (pd_move rfl (.inl rfl)))))))))
omit hh in
theorem nd_stretches : (["room", "length", "wishes", "early", "late", "known", "soon", "behind", "begin", "end", "first", "past"] : List Str).Nodup := by decide +kernel
omit hh in
theorem sc_stretches : FnScope ["room", "length", "wishes", "early", "late", "known", "soon", "behind", "begin", "end", "first", "past"] ["room", "length", "wishes", "early", "late"] (defScope (top 51)) := ⟨rfl, rfl, rfl, by decide +kernel, rfl, by decide +kernel, by decide +kernel⟩
def m_stretches : MS := (sSeq (sAsg (bnd (aCons (eVar 0) (aCons (eVar 1) (aCons (eVar 2) (aCons (eVar 3) (aCons (eVar 4) aNil))))) (call F_checked_all)) (gTp (gCons (gNm 5) (gCons (gNm 6) (gCons (gNm 7) gNil)))))
    (sRet (eLc (eb (bnd (aCons (eVar 0) (aCons (eVar 5) (aCons (eVar 6) (aCons (eVar 7) aNil)))) (call F_blocks_of)) dSeq) [8, 9, 10, 11] (gTp (gCons (gNm 8) (gCons (gNm 9) (gCons (gNm 10) (gCons (gNm 11) gNil))))) cYes (eTup (aCons (eVar 8) (aCons (eVar 9) (aCons (eLRg (eVar 10) (eVar 11)) aNil)))))))
def F_stretches : Fn := fnD 12 m_stretches
theorem D_stretches : Def P w K mg base (TT K) "stretches" ["room", "length", "wishes", "early", "late"] F_stretches 10 := def_of (k := 9) (N := ["room", "length", "wishes", "early", "late", "known", "soon", "behind", "begin", "end", "first", "past"]) (m := m_stretches) (fn_stretches hh) (gl_stretches hh) sc_stretches (fun _ _ _ _ _ _ us hl => match us, hl with | [_, _, _, _, _], _ => rfl) fun A outer s H E hr =>
    (pbk_cons (pst_asg (pd_call (D_checked_all hh) (hr.mono (by decide)) takesD (pas_cons (pd_var rfl (.inl rfl)) (pas_cons (pd_var rfl (.inl rfl)) (pas_cons (pd_var rfl (.inl rfl)) (pas_cons (pd_var rfl (.inl rfl)) (pas_cons (pd_var rfl (.inl rfl)) pas_nil))))) (alen_cons (alen_cons (alen_cons (alen_cons (alen_cons alen_nil)))))) (pg_tp rfl (pgts_cons (pg_nm nd_stretches rfl (.inl rfl)) (pgts_cons (pg_nm nd_stretches rfl (.inl rfl)) (pgts_cons (pg_nm nd_stretches rfl (.inl rfl)) pgts_nil)))))
    (pbk_one (pst_ret (pd_lc (own := [("begin", 8), ("end", 9), ("first", 10), ("past", 11)]) rfl nd_stretches (pit_seq (pd_call (D_blocks_of hh) (hr.mono (by decide)) takesD (pas_cons (pd_var rfl (.inl rfl)) (pas_cons (pd_var rfl (.inl rfl)) (pas_cons (pd_var rfl (.inl rfl)) (pas_cons (pd_var rfl (.inl rfl)) pas_nil)))) (alen_cons (alen_cons (alen_cons (alen_cons alen_nil)))))) (blkOk_by (show blkC ["room", "length", "wishes", "early", "late", "known", "soon", "behind", "begin", "end", "first", "past"] (defScope (top 51)) _ _ = true by decide +kernel)) (by decide) (fun _ _ _ _ _ => (pg_tp rfl (pgts_cons (pg_nm nd_stretches rfl (.inl rfl)) (pgts_cons (pg_nm nd_stretches rfl (.inl rfl)) (pgts_cons (pg_nm nd_stretches rfl (.inl rfl)) (pgts_cons (pg_nm nd_stretches rfl (.inl rfl)) pgts_nil)))))) (fun _ _ _ _ _ => ptst_nil) (fun _ _ _ _ _ => (pd_tup (pas_cons (pd_var rfl (.inl rfl)) (pas_cons (pd_var rfl (.inl rfl)) (pas_cons (pd_lrg rfl rfl (fr_list hh) rfl (fr_range hh) (pd_var rfl (.inl rfl)) (pd_var rfl (.inl rfl))) pas_nil)))))))))
omit hh in
theorem nd_sorrow : (["wish", "moment", "early", "late", "beats"] : List Str).Nodup := by decide +kernel
omit hh in
theorem sc_sorrow : FnScope ["wish", "moment", "early", "late", "beats"] ["wish", "moment", "early", "late"] (defScope (top 52)) := ⟨rfl, rfl, rfl, by decide +kernel, rfl, by decide +kernel, by decide +kernel⟩
def m_sorrow : MS := (sSeq (sSet 4 (bnd (aCons (eIxV 0 (pur (.int 0))) (aCons (eVar 1) aNil)) (call F_less)))
    (sRet (iff (tst (eb (eIxV 4 (pur (.int 0))) fun x => eb (pur (.int 0)) fun y => dGt x y)) (bnd (aCons (eVar 2) (aCons (eVar 4) aNil)) (call F_times)) (bnd (aCons (eVar 3) (aCons (bnd (aCons (eTup (aCons (pur (.int 0)) (aCons (pur (.int 1)) aNil))) (aCons (eVar 4) aNil)) (call F_less)) aNil)) (call F_times)))))
def F_sorrow : Fn := fnD 5 m_sorrow
theorem D_sorrow : Def P w K mg base (TT K) "sorrow" ["wish", "moment", "early", "late"] F_sorrow 5 := def_of (k := 4) (N := ["wish", "moment", "early", "late", "beats"]) (m := m_sorrow) (fn_sorrow hh) (gl_sorrow hh) sc_sorrow (fun _ _ _ _ _ _ us hl => match us, hl with | [_, _, _, _], _ => rfl) fun A outer s H E hr =>
    (pbk_cons (pst_set nd_sorrow rfl (.inl rfl) (pd_call (D_less hh) (hr.mono (by decide)) takesD (pas_cons (pd_ixV rfl (.inl rfl) pd_int) (pas_cons (pd_var rfl (.inl rfl)) pas_nil)) (alen_cons (alen_cons alen_nil))))
    (pbk_one (pst_ret (pd_if (pc_cmp od_gt (pd_ixV rfl (.inl rfl) pd_int) pd_int) (pd_call (D_times hh) (hr.mono (by decide)) takesD (pas_cons (pd_var rfl (.inl rfl)) (pas_cons (pd_var rfl (.inl rfl)) pas_nil)) (alen_cons (alen_cons alen_nil))) (pd_call (D_times hh) (hr.mono (by decide)) takesD (pas_cons (pd_var rfl (.inl rfl)) (pas_cons (pd_call (D_less hh) (hr.mono (by decide)) takesD (pas_cons (pd_tup (pas_cons pd_int (pas_cons pd_int pas_nil))) (pas_cons (pd_var rfl (.inl rfl)) pas_nil)) (alen_cons (alen_cons alen_nil))) pas_nil)) (alen_cons (alen_cons alen_nil)))))))
omit hh in
theorem nd_troubles : (["room", "length", "wishes", "early", "late", "known", "soon", "behind", "found", "index", "begin", "end", "wait", "grows"] : List Str).Nodup := by decide +kernel
omit hh in
theorem sc_troubles : FnScope ["room", "length", "wishes", "early", "late", "known", "soon", "behind", "found", "index", "begin", "end", "wait", "grows"] ["room", "length", "wishes", "early", "late"] (defScope (top 53)) := ⟨rfl, rfl, rfl, by decide +kernel, rfl, by decide +kernel, by decide +kernel⟩
def m_troubles : MS := (sSeq (sAsg (bnd (aCons (eVar 0) (aCons (eVar 1) (aCons (eVar 2) (aCons (eVar 3) (aCons (eVar 4) aNil))))) (call F_checked_all)) (gTp (gCons (gNm 5) (gCons (gNm 6) (gCons (gNm 7) gNil)))))
    (sSeq (sSet 8 (ret (.dic [], true)))
    (sSeq (sFor (eb (bnd (aCons (eVar 0) (aCons (eVar 5) (aCons (eVar 6) (aCons (eVar 7) aNil)))) (call F_pieces_of)) dSeq) (gTp (gCons (gNm 9) (gCons (gNm 10) (gCons (gNm 11) (gCons (gNm 12) (gCons (gNm 13) gNil)))))) (sExpr (mSetd 8 (eVar 9) (bnd (aCons (eVar 12) (aCons (bnd (aCons (eIxV 5 (eVar 9)) (aCons (eVar 10) (aCons (eVar 6) (aCons (eVar 7) aNil)))) (call F_sorrow)) aNil)) (call F_plus)))))
    (sRet (eLc (bnd (aCons (bnd (bVar 5) dLen) aNil) dRng1) [9] (gNm 9) cYes (vThen 8 (eVar 9) dGetD))))))
def F_troubles : Fn := fnD 14 m_troubles
theorem D_troubles : Def P w K mg base (TT K) "troubles" ["room", "length", "wishes", "early", "late"] F_troubles 11 := def_of (k := 10) (N := ["room", "length", "wishes", "early", "late", "known", "soon", "behind", "found", "index", "begin", "end", "wait", "grows"]) (m := m_troubles) (fn_troubles hh) (gl_troubles hh) sc_troubles (fun _ _ _ _ _ _ us hl => match us, hl with | [_, _, _, _, _], _ => rfl) fun A outer s H E hr =>
    (pbk_cons (pst_asg (pd_call (D_checked_all hh) (hr.mono (by decide)) takesD (pas_cons (pd_var rfl (.inl rfl)) (pas_cons (pd_var rfl (.inl rfl)) (pas_cons (pd_var rfl (.inl rfl)) (pas_cons (pd_var rfl (.inl rfl)) (pas_cons (pd_var rfl (.inl rfl)) pas_nil))))) (alen_cons (alen_cons (alen_cons (alen_cons (alen_cons alen_nil)))))) (pg_tp rfl (pgts_cons (pg_nm nd_troubles rfl (.inl rfl)) (pgts_cons (pg_nm nd_troubles rfl (.inl rfl)) (pgts_cons (pg_nm nd_troubles rfl (.inl rfl)) pgts_nil)))))
    (pbk_cons (pst_set nd_troubles rfl (.inr rfl) pd_dnew)
    (pbk_cons (pst_for passesD rfl (pit_seq (pd_call (D_pieces_of hh) (hr.mono (by decide)) takesD (pas_cons (pd_var rfl (.inl rfl)) (pas_cons (pd_var rfl (.inl rfl)) (pas_cons (pd_var rfl (.inl rfl)) (pas_cons (pd_var rfl (.inl rfl)) pas_nil)))) (alen_cons (alen_cons (alen_cons (alen_cons alen_nil)))))) (pg_tp rfl (pgts_cons (pg_nm nd_troubles rfl (.inl rfl)) (pgts_cons (pg_nm nd_troubles rfl (.inl rfl)) (pgts_cons (pg_nm nd_troubles rfl (.inl rfl)) (pgts_cons (pg_nm nd_troubles rfl (.inl rfl)) (pgts_cons (pg_nm nd_troubles rfl (.inl rfl)) pgts_nil)))))) (pbk_one (pst_expr (pd_setdS rfl (.inr (.inl rfl)) (pd_var rfl (.inl rfl)) (pd_call (D_plus hh) (hr.mono (by decide)) takesD (pas_cons (pd_var rfl (.inl rfl)) (pas_cons (pd_call (D_sorrow hh) (hr.mono (by decide)) takesD (pas_cons (pd_ixV rfl (.inl rfl) (pd_var rfl (.inl rfl))) (pas_cons (pd_var rfl (.inl rfl)) (pas_cons (pd_var rfl (.inl rfl)) (pas_cons (pd_var rfl (.inl rfl)) pas_nil)))) (alen_cons (alen_cons (alen_cons (alen_cons alen_nil))))) pas_nil)) (alen_cons (alen_cons alen_nil))) ⟨rfl, rfl, rfl, rfl⟩))))
    (pbk_one (pst_ret (pd_lc (own := [("index", 9)]) rfl nd_troubles (pit_range1 rfl (fr_range hh) (pas_cons (pd_b1 cb_len rfl (fr_len hh) (by decide +kernel) (pb_var rfl (.inl rfl))) pas_nil)) (blkOk_by (show blkC ["room", "length", "wishes", "early", "late", "known", "soon", "behind", "found", "index", "begin", "end", "wait", "grows"] (defScope (top 53)) _ _ = true by decide +kernel)) (by decide) (fun _ _ _ _ _ => (pg_nm nd_troubles rfl (.inl rfl))) (fun _ _ _ _ _ => ptst_nil) (fun _ _ _ _ _ => (pd_dgetV (units1 hr) rfl (.inr (.inl rfl)) (pd_var rfl (.inl rfl))))))))))
omit hh in
theorem nd_checked_setting : (["wishes", "thing", "found", "index", "comers", "known"] : List Str).Nodup := by decide +kernel
omit hh in
theorem sc_checked_setting : FnScope ["wishes", "thing", "found", "index", "comers", "known"] ["wishes", "thing"] (defScope (top 54)) := ⟨rfl, rfl, rfl, by decide +kernel, rfl, by decide +kernel, by decide +kernel⟩
def m_checked_setting : MS := (sSeq (sIf (tNotM (tst (bnd (aCons (eVar 1) aNil) (call F_is_list)))) (sRaise "BadSetting" "index" (pur (.int 0))) sNx)
    (sSeq (sSet 2 (eLst aNil))
    (sSeq (sFor (bnd (aCons (eVar 1) aNil) dEnum) (gTp (gCons (gNm 3) (gCons (gNm 4) gNil))) (sSeq (sIf (tOrM (tst (eb (eVar 3) fun x => eb (bnd (bVar 0) dLen) fun y => dGe x y)) (tst (eb bad fun x => eb (pur .non) fun y => dIsN x y))) (sRaise "BadSetting" "index" (eVar 3)) sNx)
    (sSeq (sSet 5 bad)
    (sSeq (sIf (tOrM (tst (eb (eIx (eIx (eIxV 5 (eNeg (pur (.int 1)))) (pur (.int 1))) (pur (.int 0))) fun x => eb (pur (.int 0)) fun y => dNe x y)) (tst (eb bad fun x => eb (eIx (eIxV 0 (eVar 3)) (pur (.int 1))) fun y => dNe x y))) (sRaise "BadSetting" "index" (eVar 3)) sNx)
    (sExpr (mSlot "list" 2 (aCons (eVar 5) aNil) fApp))))))
    (sSeq (sIf (tst (eb (bnd (bVar 2) dLen) fun x => eb (bnd (bVar 0) dLen) fun y => dLt x y)) (sRaise "BadSetting" "index" (bnd (bVar 2) dLen)) sNx)
    (sRet (eMove 2))))))
def F_checked_setting : Fn := fnD 6 m_checked_setting
theorem D_checked_setting : Def P w K mg base (TT K) "checked_setting" ["wishes", "thing"] F_checked_setting 4 := def_of (k := 3) (N := ["wishes", "thing", "found", "index", "comers", "known"]) (m := m_checked_setting) (fn_checked_setting hh) (gl_checked_setting hh) sc_checked_setting (fun _ _ _ _ _ _ us hl => match us, hl with | [_, _], _ => rfl) fun A outer s H E hr =>
    (pbk_cons (pst_if (pc_not (pc_val (pd_call (D_is_list hh) (hr.mono (by decide)) takesD (pas_cons (pd_var rfl (.inl rfl)) pas_nil) (alen_cons alen_nil)))) (pbk_one (pst_raise rfl (ex_BadSetting hh) (hr.mono (by decide)) takesD pd_int)) pbk_nil)
    (pbk_cons (pst_set nd_checked_setting rfl (.inl rfl) (pd_lst pas_nil))
    (pbk_cons (pst_for passesD rfl (pit_enum rfl (fr_enumerate hh) (pas_cons (pd_var rfl (.inl rfl)) pas_nil)) (pg_tp rfl (pgts_cons (pg_nm nd_checked_setting rfl (.inl rfl)) (pgts_cons (pg_nm nd_checked_setting rfl (.inl rfl)) pgts_nil))) (pbk_cons (pst_if (pc_pw (pw_orM (pc_cmp od_ge (pd_var rfl (.inl rfl)) (pd_b1 cb_len rfl (fr_len hh) (by decide +kernel) (pb_var rfl (.inl rfl)))) (pw_one (pc_cmp od_isn pd_bad pd_non)))) (pbk_one (pst_raise rfl (ex_BadSetting hh) (hr.mono (by decide)) takesD (pd_var rfl (.inl rfl)))) pbk_nil)
    (pbk_cons (pst_set nd_checked_setting rfl (.inl rfl) pd_bad)
    (pbk_cons (pst_if (pc_pw (pw_orM (pc_cmp (od_ne (units_of hr)) (pd_ix (pd_ix (pd_ixV rfl (.inl rfl) (pd_neg pd_int)) pd_int) pd_int) pd_int) (pw_one (pc_cmp (od_ne (units_of hr)) pd_bad (pd_ix (pd_ixV rfl (.inl rfl) (pd_var rfl (.inl rfl))) pd_int))))) (pbk_one (pst_raise rfl (ex_BadSetting hh) (hr.mono (by decide)) takesD (pd_var rfl (.inl rfl)))) pbk_nil)
    (pbk_one (pst_expr (pd_mS md_app PySem.F.plainAttrs_list PySem.F.slot_list_append PySem.F.type_list_append rfl (.inl rfl) (pas_cons (pd_var rfl (.inl rfl)) pas_nil))))))))
    (pbk_cons (pst_if (pc_cmp od_lt (pd_b1 cb_len rfl (fr_len hh) (by decide +kernel) (pb_var rfl (.inl rfl))) (pd_b1 cb_len rfl (fr_len hh) (by decide +kernel) (pb_var rfl (.inl rfl)))) (pbk_one (pst_raise rfl (ex_BadSetting hh) (hr.mono (by decide)) takesD (pd_b1 cb_len rfl (fr_len hh) (by decide +kernel) (pb_var rfl (.inl rfl))))) pbk_nil)
    (pbk_one (pst_ret (pd_move rfl (.inl rfl))))))))
omit hh in
theorem nd_gains : (["room", "length", "wishes", "early", "late", "thing", "known", "soon", "behind", "setting", "waits", "index", "wish", "comers", "found"] : List Str).Nodup := by decide +kernel
omit hh in
theorem sc_gains : FnScope ["room", "length", "wishes", "early", "late", "thing", "known", "soon", "behind", "setting", "waits", "index", "wish", "comers", "found"] ["room", "length", "wishes", "early", "late", "thing"] (defScope (top 58)) := ⟨rfl, rfl, rfl, by decide +kernel, rfl, by decide +kernel, by decide +kernel⟩
def m_gains : MS := (sSeq (sAsg (bnd (aCons (eVar 0) (aCons (eVar 1) (aCons (eVar 2) (aCons (eVar 3) (aCons (eVar 4) aNil))))) (call F_checked_all)) (gTp (gCons (gNm 6) (gCons (gNm 7) (gCons (gNm 8) gNil)))))
    (sSeq (sSet 9 (bnd (aCons (eVar 6) (aCons (eVar 5) aNil)) (call F_checked_setting)))
    (sSeq (sSet 10 bad)
    (sSeq (sFor (bnd (aCons bad aNil) dEnum) (gTp (gCons (gNm 11) (gCons (gTp (gCons (gNm 12) (gCons (gNm 13) gNil))) gNil))) (sSeq (sSet 14 bad)
    (sIf (tst (eb (eVar 14) fun x => eb (pur .non) fun y => dIsN x y)) (sRet (eb (eTup (aCons (eVar 11) aNil)) fun x => eb (eVar 14) fun y => dAdd x y)) sNx)))
    (sRet (pur .non))))))
def F_gains : Fn := fnD 15 m_gains
theorem D_gains : Def P w K mg base (TT K) "gains" ["room", "length", "wishes", "early", "late", "thing"] F_gains 10 := def_of (k := 9) (N := ["room", "length", "wishes", "early", "late", "thing", "known", "soon", "behind", "setting", "waits", "index", "wish", "comers", "found"]) (m := m_gains) (fn_gains hh) (gl_gains hh) sc_gains (fun _ _ _ _ _ _ us hl => match us, hl with | [_, _, _, _, _, _], _ => rfl) fun A outer s H E hr =>
    (pbk_cons (pst_asg (pd_call (D_checked_all hh) (hr.mono (by decide)) takesD (pas_cons (pd_var rfl (.inl rfl)) (pas_cons (pd_var rfl (.inl rfl)) (pas_cons (pd_var rfl (.inl rfl)) (pas_cons (pd_var rfl (.inl rfl)) (pas_cons (pd_var rfl (.inl rfl)) pas_nil))))) (alen_cons (alen_cons (alen_cons (alen_cons (alen_cons alen_nil)))))) (pg_tp rfl (pgts_cons (pg_nm nd_gains rfl (.inl rfl)) (pgts_cons (pg_nm nd_gains rfl (.inl rfl)) (pgts_cons (pg_nm nd_gains rfl (.inl rfl)) pgts_nil)))))
    (pbk_cons (pst_set nd_gains rfl (.inl rfl) (pd_call (D_checked_setting hh) (hr.mono (by decide)) takesD (pas_cons (pd_var rfl (.inl rfl)) (pas_cons (pd_var rfl (.inl rfl)) pas_nil)) (alen_cons (alen_cons alen_nil))))
    (pbk_cons (pst_set nd_gains rfl (.inl rfl) pd_bad)
    (pbk_cons (pst_for passesD rfl (pit_enum rfl (fr_enumerate hh) (pas_cons pd_bad pas_nil)) (pg_tp rfl (pgts_cons (pg_nm nd_gains rfl (.inl rfl)) (pgts_cons (pg_tp rfl (pgts_cons (pg_nm nd_gains rfl (.inl rfl)) (pgts_cons (pg_nm nd_gains rfl (.inl rfl)) pgts_nil))) pgts_nil))) (pbk_cons (pst_set nd_gains rfl (.inl rfl) pd_bad)
    (pbk_one (pst_if (pc_cmp od_isn (pd_var rfl (.inl rfl)) pd_non) (pbk_one (pst_ret (pd_bin od_add (pd_tup (pas_cons (pd_var rfl (.inl rfl)) pas_nil)) (pd_var rfl (.inl rfl))))) pbk_nil))))
    (pbk_one (pst_ret pd_non))))))
omit hh in
theorem nd_toll : (["room", "length", "wishes", "early", "late", "known", "soon", "behind", "pieces", "points", "index", "begin", "end", "wait", "grows"] : List Str).Nodup := by decide +kernel
omit hh in
theorem sc_toll : FnScope ["room", "length", "wishes", "early", "late", "known", "soon", "behind", "pieces", "points", "index", "begin", "end", "wait", "grows"] ["room", "length", "wishes", "early", "late"] (defScope (top 62)) := ⟨rfl, rfl, rfl, by decide +kernel, rfl, by decide +kernel, by decide +kernel⟩
def m_toll : MS := (sSeq (sAsg (bnd (aCons (eVar 0) (aCons (eVar 1) (aCons (eVar 2) (aCons (eVar 3) (aCons (eVar 4) aNil))))) (call F_checked_all)) (gTp (gCons (gNm 5) (gCons (gNm 6) (gCons (gNm 7) gNil)))))
    (sSeq (sSet 8 (bnd (aCons (eVar 0) (aCons (eVar 5) (aCons (eVar 6) (aCons (eVar 7) aNil)))) (call F_pieces_of)))
    (sSeq (sExpr (bnd (aCons (eIx (eIxV 8 (pur (.int 0))) (pur (.int 1))) (aCons (eVar 1) aNil)) (call F_check_soon)))
    (sSeq (sSet 9 (eLst (aCons (eTup (aCons (eTup (aCons (pur (.int 0)) (aCons (pur (.int 1)) aNil))) (aCons (eTup (aCons (pur (.int 0)) (aCons (pur (.int 1)) aNil))) aNil))) aNil)))
    (sSeq (sFor (eb (eVar 8) dSeq) (gTp (gCons (gNm 10) (gCons (gNm 11) (gCons (gNm 12) (gCons (gNm 13) (gCons (gNm 14) gNil)))))) (sSeq (sIf (tst (eb (eIx (eIxV 9 (eNeg (pur (.int 1)))) (pur (.int 0))) fun x => eb (eVar 11) fun y => dNe x y)) (sExpr (mSlot "list" 9 (aCons (eTup (aCons (eVar 11) (aCons (eVar 13) aNil))) aNil) fApp)) sNx)
    (sExpr (mSlot "list" 9 (aCons (eTup (aCons (eVar 12) (aCons (bnd (aCons (eVar 13) (aCons (bnd (aCons (eVar 14) (aCons (bnd (aCons (eVar 12) (aCons (eVar 11) aNil)) (call F_less)) aNil)) (call F_times)) aNil)) (call F_plus)) aNil))) aNil) fApp))))
    (sRet (eTup (aCons bad (aCons (eTup (aCons (pur (.int 0)) (aCons (pur (.int 1)) aNil))) aNil)))))))))
def F_toll : Fn := fnD 15 m_toll
theorem D_toll : Def P w K mg base (TT K) "toll" ["room", "length", "wishes", "early", "late"] F_toll 11 := def_of (k := 10) (N := ["room", "length", "wishes", "early", "late", "known", "soon", "behind", "pieces", "points", "index", "begin", "end", "wait", "grows"]) (m := m_toll) (fn_toll hh) (gl_toll hh) sc_toll (fun _ _ _ _ _ _ us hl => match us, hl with | [_, _, _, _, _], _ => rfl) fun A outer s H E hr =>
    (pbk_cons (pst_asg (pd_call (D_checked_all hh) (hr.mono (by decide)) takesD (pas_cons (pd_var rfl (.inl rfl)) (pas_cons (pd_var rfl (.inl rfl)) (pas_cons (pd_var rfl (.inl rfl)) (pas_cons (pd_var rfl (.inl rfl)) (pas_cons (pd_var rfl (.inl rfl)) pas_nil))))) (alen_cons (alen_cons (alen_cons (alen_cons (alen_cons alen_nil)))))) (pg_tp rfl (pgts_cons (pg_nm nd_toll rfl (.inl rfl)) (pgts_cons (pg_nm nd_toll rfl (.inl rfl)) (pgts_cons (pg_nm nd_toll rfl (.inl rfl)) pgts_nil)))))
    (pbk_cons (pst_set nd_toll rfl (.inl rfl) (pd_call (D_pieces_of hh) (hr.mono (by decide)) takesD (pas_cons (pd_var rfl (.inl rfl)) (pas_cons (pd_var rfl (.inl rfl)) (pas_cons (pd_var rfl (.inl rfl)) (pas_cons (pd_var rfl (.inl rfl)) pas_nil)))) (alen_cons (alen_cons (alen_cons (alen_cons alen_nil))))))
    (pbk_cons (pst_expr (pd_call (D_check_soon hh) (hr.mono (by decide)) takesD (pas_cons (pd_ix (pd_ixV rfl (.inl rfl) pd_int) pd_int) (pas_cons (pd_var rfl (.inl rfl)) pas_nil)) (alen_cons (alen_cons alen_nil))))
    (pbk_cons (pst_set nd_toll rfl (.inl rfl) (pd_lst (pas_cons (pd_tup (pas_cons (pd_tup (pas_cons pd_int (pas_cons pd_int pas_nil))) (pas_cons (pd_tup (pas_cons pd_int (pas_cons pd_int pas_nil))) pas_nil))) pas_nil)))
    (pbk_cons (pst_for passesD rfl (pit_seq (pd_var rfl (.inl rfl))) (pg_tp rfl (pgts_cons (pg_nm nd_toll rfl (.inl rfl)) (pgts_cons (pg_nm nd_toll rfl (.inl rfl)) (pgts_cons (pg_nm nd_toll rfl (.inl rfl)) (pgts_cons (pg_nm nd_toll rfl (.inl rfl)) (pgts_cons (pg_nm nd_toll rfl (.inl rfl)) pgts_nil)))))) (pbk_cons (pst_if (pc_cmp (od_ne (units_of hr)) (pd_ix (pd_ixV rfl (.inl rfl) (pd_neg pd_int)) pd_int) (pd_var rfl (.inl rfl))) (pbk_one (pst_expr (pd_mS md_app PySem.F.plainAttrs_list PySem.F.slot_list_append PySem.F.type_list_append rfl (.inl rfl) (pas_cons (pd_tup (pas_cons (pd_var rfl (.inl rfl)) (pas_cons (pd_var rfl (.inl rfl)) pas_nil))) pas_nil)))) pbk_nil)
    (pbk_one (pst_expr (pd_mS md_app PySem.F.plainAttrs_list PySem.F.slot_list_append PySem.F.type_list_append rfl (.inl rfl) (pas_cons (pd_tup (pas_cons (pd_var rfl (.inl rfl)) (pas_cons (pd_call (D_plus hh) (hr.mono (by decide)) takesD (pas_cons (pd_var rfl (.inl rfl)) (pas_cons (pd_call (D_times hh) (hr.mono (by decide)) takesD (pas_cons (pd_var rfl (.inl rfl)) (pas_cons (pd_call (D_less hh) (hr.mono (by decide)) takesD (pas_cons (pd_var rfl (.inl rfl)) (pas_cons (pd_var rfl (.inl rfl)) pas_nil)) (alen_cons (alen_cons alen_nil))) pas_nil)) (alen_cons (alen_cons alen_nil))) pas_nil)) (alen_cons (alen_cons alen_nil))) pas_nil))) pas_nil))))))
    (pbk_one (pst_ret (pd_tup (pas_cons pd_bad (pas_cons (pd_tup (pas_cons pd_int (pas_cons pd_int pas_nil))) pas_nil))))))))))
omit hh in
theorem nd_tolled : (["room", "length", "wishes", "early", "late", "known", "soon", "behind", "pieces", "found", "index", "mine", "rows", "piece"] : List Str).Nodup := by decide +kernel
omit hh in
theorem sc_tolled : FnScope ["room", "length", "wishes", "early", "late", "known", "soon", "behind", "pieces", "found", "index", "mine", "rows", "piece"] ["room", "length", "wishes", "early", "late"] (defScope (top 63)) := ⟨rfl, rfl, rfl, by decide +kernel, rfl, by decide +kernel, by decide +kernel⟩
def m_tolled : MS := (sSeq (sAsg (bnd (aCons (eVar 0) (aCons (eVar 1) (aCons (eVar 2) (aCons (eVar 3) (aCons (eVar 4) aNil))))) (call F_checked_all)) (gTp (gCons (gNm 5) (gCons (gNm 6) (gCons (gNm 7) gNil)))))
    (sSeq (sSet 8 (bnd (aCons (eVar 0) (aCons (eVar 5) (aCons (eVar 6) (aCons (eVar 7) aNil)))) (call F_pieces_of)))
    (sSeq (sExpr (bnd (aCons (eIx (eIxV 8 (pur (.int 0))) (pur (.int 1))) (aCons (eVar 1) aNil)) (call F_check_soon)))
    (sSeq (sSet 9 (eLst aNil))
    (sSeq (sFor (bnd (aCons (bnd (bVar 5) dLen) aNil) dRng1) (gNm 10) (sSeq (sSet 11 (eLc (eb (eVar 8) dSeq) [13] (gNm 13) (tst (eb (eIxV 13 (pur (.int 0))) fun x => eb (eVar 10) fun y => dEq x y)) (eVar 13)))
    (sSeq (sSet 12 (eLst (aCons (eTup (aCons (bnd (aCons (eIx (eIxV 11 (pur (.int 0))) (pur (.int 1))) (aCons (eTup (aCons (eVar 1) (aCons (pur (.int 1)) aNil))) aNil)) (call F_less)) (aCons (eTup (aCons (eVar 0) (aCons (pur (.int 1)) aNil))) aNil))) aNil)))
    (sExpr (mSlot "list" 9 (aCons bad aNil) fApp)))))
    (sRet (eMove 9)))))))
def F_tolled : Fn := fnD 14 m_tolled
theorem D_tolled : Def P w K mg base (TT K) "tolled" ["room", "length", "wishes", "early", "late"] F_tolled 11 := def_of (k := 10) (N := ["room", "length", "wishes", "early", "late", "known", "soon", "behind", "pieces", "found", "index", "mine", "rows", "piece"]) (m := m_tolled) (fn_tolled hh) (gl_tolled hh) sc_tolled (fun _ _ _ _ _ _ us hl => match us, hl with | [_, _, _, _, _], _ => rfl) fun A outer s H E hr =>
    (pbk_cons (pst_asg (pd_call (D_checked_all hh) (hr.mono (by decide)) takesD (pas_cons (pd_var rfl (.inl rfl)) (pas_cons (pd_var rfl (.inl rfl)) (pas_cons (pd_var rfl (.inl rfl)) (pas_cons (pd_var rfl (.inl rfl)) (pas_cons (pd_var rfl (.inl rfl)) pas_nil))))) (alen_cons (alen_cons (alen_cons (alen_cons (alen_cons alen_nil)))))) (pg_tp rfl (pgts_cons (pg_nm nd_tolled rfl (.inl rfl)) (pgts_cons (pg_nm nd_tolled rfl (.inl rfl)) (pgts_cons (pg_nm nd_tolled rfl (.inl rfl)) pgts_nil)))))
    (pbk_cons (pst_set nd_tolled rfl (.inl rfl) (pd_call (D_pieces_of hh) (hr.mono (by decide)) takesD (pas_cons (pd_var rfl (.inl rfl)) (pas_cons (pd_var rfl (.inl rfl)) (pas_cons (pd_var rfl (.inl rfl)) (pas_cons (pd_var rfl (.inl rfl)) pas_nil)))) (alen_cons (alen_cons (alen_cons (alen_cons alen_nil))))))
    (pbk_cons (pst_expr (pd_call (D_check_soon hh) (hr.mono (by decide)) takesD (pas_cons (pd_ix (pd_ixV rfl (.inl rfl) pd_int) pd_int) (pas_cons (pd_var rfl (.inl rfl)) pas_nil)) (alen_cons (alen_cons alen_nil))))
    (pbk_cons (pst_set nd_tolled rfl (.inl rfl) (pd_lst pas_nil))
    (pbk_cons (pst_for passesD rfl (pit_range1 rfl (fr_range hh) (pas_cons (pd_b1 cb_len rfl (fr_len hh) (by decide +kernel) (pb_var rfl (.inl rfl))) pas_nil)) (pg_nm nd_tolled rfl (.inr rfl)) (pbk_cons (pst_setLc (own := [("piece", 13)]) rfl nd_tolled rfl rfl (L2.sw_true rfl rfl rfl rfl) (pit_seq (pd_var rfl (.inl rfl))) (blkOk_by (show blkC ["room", "length", "wishes", "early", "late", "known", "soon", "behind", "pieces", "found", "index", "mine", "rows", "piece"] (defScope (top 63)) _ _ = true by decide +kernel)) (by decide) (fun _ _ _ _ _ => (pg_nm nd_tolled rfl (.inl rfl))) (fun _ _ _ _ _ => (ptst_one (pc_cmp (od_eq (units_of hr)) (pd_ixV rfl (.inl rfl) pd_int) (pd_var rfl (.inr (.inl rfl)))))) (fun _ _ _ _ _ => (pd_var rfl (.inl rfl))))
    (pbk_cons (pst_set nd_tolled rfl (.inl rfl) (pd_lst (pas_cons (pd_tup (pas_cons (pd_call (D_less hh) (hr.mono (by decide)) takesD (pas_cons (pd_ix (pd_ixV rfl (.inl rfl) pd_int) pd_int) (pas_cons (pd_tup (pas_cons (pd_var rfl (.inl rfl)) (pas_cons pd_int pas_nil))) pas_nil)) (alen_cons (alen_cons alen_nil))) (pas_cons (pd_tup (pas_cons (pd_var rfl (.inl rfl)) (pas_cons pd_int pas_nil))) pas_nil))) pas_nil)))
    (pbk_one (pst_expr (pd_mS md_app PySem.F.plainAttrs_list PySem.F.slot_list_append PySem.F.type_list_append rfl (.inl rfl) (pas_cons pd_bad pas_nil)))))))
    (pbk_one (pst_ret (pd_move rfl (.inl rfl)))))))))
omit hh in
theorem nd_paid : (["room", "length", "wishes", "early", "late", "known", "soon", "behind", "found", "index", "begin", "end", "wait", "grows", "beats", "middle"] : List Str).Nodup := by decide +kernel
omit hh in
theorem sc_paid : FnScope ["room", "length", "wishes", "early", "late", "known", "soon", "behind", "found", "index", "begin", "end", "wait", "grows", "beats", "middle"] ["room", "length", "wishes", "early", "late"] (defScope (top 64)) := ⟨rfl, rfl, rfl, by decide +kernel, rfl, by decide +kernel, by decide +kernel⟩
def m_paid : MS := (sSeq (sAsg (bnd (aCons (eVar 0) (aCons (eVar 1) (aCons (eVar 2) (aCons (eVar 3) (aCons (eVar 4) aNil))))) (call F_checked_all)) (gTp (gCons (gNm 5) (gCons (gNm 6) (gCons (gNm 7) gNil)))))
    (sSeq (sSet 8 (eLst aNil))
    (sSeq (sFor (eb (bnd (aCons (eVar 0) (aCons (eVar 5) (aCons (eVar 6) (aCons (eVar 7) aNil)))) (call F_pieces_of)) dSeq) (gTp (gCons (gNm 9) (gCons (gNm 10) (gCons (gNm 11) (gCons (gNm 12) (gCons (gNm 13) gNil)))))) (sSeq (sSet 14 (bnd (aCons (eVar 11) (aCons (eVar 10) aNil)) (call F_less)))
    (sSeq (sSet 15 (bnd (aCons (eVar 12) (aCons (bnd (aCons (eVar 13) (aCons (bnd (aCons (eVar 14) (aCons (eTup (aCons (pur (.int 1)) (aCons (pur (.int 2)) aNil))) aNil)) (call F_times)) aNil)) (call F_times)) aNil)) (call F_plus)))
    (sExpr (mSlot "list" 8 (aCons (bnd (aCons (eTup (aCons (eVar 0) (aCons (pur (.int 1)) aNil))) (aCons (bnd (aCons (eVar 14) (aCons (eVar 15) aNil)) (call F_times)) aNil)) (call F_times)) aNil) fApp)))))
    (sRet (bnd (aCons (eVar 8) aNil) (call F_sum_of))))))
def F_paid : Fn := fnD 16 m_paid
theorem D_paid : Def P w K mg base (TT K) "paid" ["room", "length", "wishes", "early", "late"] F_paid 11 := def_of (k := 10) (N := ["room", "length", "wishes", "early", "late", "known", "soon", "behind", "found", "index", "begin", "end", "wait", "grows", "beats", "middle"]) (m := m_paid) (fn_paid hh) (gl_paid hh) sc_paid (fun _ _ _ _ _ _ us hl => match us, hl with | [_, _, _, _, _], _ => rfl) fun A outer s H E hr =>
    (pbk_cons (pst_asg (pd_call (D_checked_all hh) (hr.mono (by decide)) takesD (pas_cons (pd_var rfl (.inl rfl)) (pas_cons (pd_var rfl (.inl rfl)) (pas_cons (pd_var rfl (.inl rfl)) (pas_cons (pd_var rfl (.inl rfl)) (pas_cons (pd_var rfl (.inl rfl)) pas_nil))))) (alen_cons (alen_cons (alen_cons (alen_cons (alen_cons alen_nil)))))) (pg_tp rfl (pgts_cons (pg_nm nd_paid rfl (.inl rfl)) (pgts_cons (pg_nm nd_paid rfl (.inl rfl)) (pgts_cons (pg_nm nd_paid rfl (.inl rfl)) pgts_nil)))))
    (pbk_cons (pst_set nd_paid rfl (.inl rfl) (pd_lst pas_nil))
    (pbk_cons (pst_for passesD rfl (pit_seq (pd_call (D_pieces_of hh) (hr.mono (by decide)) takesD (pas_cons (pd_var rfl (.inl rfl)) (pas_cons (pd_var rfl (.inl rfl)) (pas_cons (pd_var rfl (.inl rfl)) (pas_cons (pd_var rfl (.inl rfl)) pas_nil)))) (alen_cons (alen_cons (alen_cons (alen_cons alen_nil)))))) (pg_tp rfl (pgts_cons (pg_nm nd_paid rfl (.inl rfl)) (pgts_cons (pg_nm nd_paid rfl (.inl rfl)) (pgts_cons (pg_nm nd_paid rfl (.inl rfl)) (pgts_cons (pg_nm nd_paid rfl (.inl rfl)) (pgts_cons (pg_nm nd_paid rfl (.inl rfl)) pgts_nil)))))) (pbk_cons (pst_set nd_paid rfl (.inl rfl) (pd_call (D_less hh) (hr.mono (by decide)) takesD (pas_cons (pd_var rfl (.inl rfl)) (pas_cons (pd_var rfl (.inl rfl)) pas_nil)) (alen_cons (alen_cons alen_nil))))
    (pbk_cons (pst_set nd_paid rfl (.inl rfl) (pd_call (D_plus hh) (hr.mono (by decide)) takesD (pas_cons (pd_var rfl (.inl rfl)) (pas_cons (pd_call (D_times hh) (hr.mono (by decide)) takesD (pas_cons (pd_var rfl (.inl rfl)) (pas_cons (pd_call (D_times hh) (hr.mono (by decide)) takesD (pas_cons (pd_var rfl (.inl rfl)) (pas_cons (pd_tup (pas_cons pd_int (pas_cons pd_int pas_nil))) pas_nil)) (alen_cons (alen_cons alen_nil))) pas_nil)) (alen_cons (alen_cons alen_nil))) pas_nil)) (alen_cons (alen_cons alen_nil))))
    (pbk_one (pst_expr (pd_mS md_app PySem.F.plainAttrs_list PySem.F.slot_list_append PySem.F.type_list_append rfl (.inl rfl) (pas_cons (pd_call (D_times hh) (hr.mono (by decide)) takesD (pas_cons (pd_tup (pas_cons (pd_var rfl (.inl rfl)) (pas_cons pd_int pas_nil))) (pas_cons (pd_call (D_times hh) (hr.mono (by decide)) takesD (pas_cons (pd_var rfl (.inl rfl)) (pas_cons (pd_var rfl (.inl rfl)) pas_nil)) (alen_cons (alen_cons alen_nil))) pas_nil)) (alen_cons (alen_cons alen_nil))) pas_nil)))))))
    (pbk_one (pst_ret (pd_call (D_sum_of hh) (hr.mono (by decide)) takesD (pas_cons (pd_var rfl (.inl rfl)) pas_nil) (alen_cons alen_nil)))))))
omit hh in
theorem nd__law_stream : (["_law_script"] : List Str).Nodup := by decide +kernel
omit hh in
theorem sc__law_stream : FnScope ["_law_script"] ["_law_script"] (defScope (top 66)) := ⟨rfl, rfl, rfl, by decide +kernel, rfl, by decide +kernel, by decide +kernel⟩
def m__law_stream : MS := (sRet (eLst (aCons (eBox (bnd (bVar 0) dList)) (aCons (pur (.int 0)) (aCons (pur (.int 0)) (aCons (pur (.int 17)) aNil))))))
def F__law_stream : Fn := fnD 1 m__law_stream
theorem D__law_stream : Def P w K mg base (TT K) "_law_stream" ["_law_script"] F__law_stream 3 := def_of (k := 2) (N := ["_law_script"]) (m := m__law_stream) (fn__law_stream hh) (gl__law_stream hh) sc__law_stream (fun _ _ _ _ _ _ us hl => match us, hl with | [_], _ => rfl) fun A outer s H E hr =>
    (pbk_one (pst_ret (pd_lst (pas_cons (pd_box (pd_t1 cb_list rfl (fr_list hh) (by decide +kernel) (pb_var rfl (.inl rfl)))) (pas_cons pd_int (pas_cons pd_int (pas_cons pd_int pas_nil)))))))
omit hh in
theorem nd__law_draw : (["_law_stream_here", "_law_many", "_law_cell", "_law_digit", "_law_mixed"] : List Str).Nodup := by decide +kernel
omit hh in
theorem sc__law_draw : FnScope ["_law_stream_here", "_law_many", "_law_cell", "_law_digit", "_law_mixed"] ["_law_stream_here", "_law_many"] (defScope (top 67)) := ⟨rfl, rfl, rfl, by decide +kernel, rfl, by decide +kernel, by decide +kernel⟩
def m__law_draw : MS := (sSeq (sPutB (eb (eIxV 0 (pur (.int 2))) fun x => eb (pur (.int 1)) fun y => dAdd x y) (eVar 0) (pur (.int 2)))
    (sSeq (sWhile fuBox (tAndM (tst (eb (eIxV 0 (pur (.int 1))) fun x => eb (pur (.int 0)) fun y => dEq x y)) (tst (eNeB (eIxV 0 (pur (.int 0))) (eLst aNil)))) (sSeq (sSet 2 (bnd (brD (mBox "list" (eIxV 0 (pur (.int 0))) (aCons (pur (.int 0)) aNil) fPopAt)) dAbs))
    (sSeq (sPutB (eb (bnd (brD (eb (eb (eb (eIxV 0 (pur (.int 3))) fun x => eb (pur (.int 8191)) fun y => dMul x y) fun x => eb (eVar 2) fun y => dAdd x y) fun x => eb (pur (.int 3)) fun y => dAdd x y)) dInt) fun x => eb (pur (.int 2147483647)) fun y => dMod x y) (eVar 0) (pur (.int 3)))
    (sPutB (iff (tst (eb (eVar 2) fun x => eb (eb (pur (.int 10)) fun x => eb (pur (.int 18)) fun y => dPow x y) fun y => dGe x y)) (eVar 2) (pur (.int 0))) (eVar 0) (pur (.int 1))))))
    (sSeq (sIf (tst (eb (eIxV 0 (pur (.int 1))) fun x => eb (pur (.int 0)) fun y => dGt x y)) (sSeq (sSet 3 (eb (bnd (brD (eIxV 0 (pur (.int 1)))) dInt) fun x => eb (eVar 1) fun y => dMod x y))
    (sSeq (sPutB (eb (eIxV 0 (pur (.int 1))) fun x => eb (eVar 1) fun y => dFdiv x y) (eVar 0) (pur (.int 1)))
    (sRet (eMove 3)))) sNx)
    (sSeq (sSet 4 (eb (bnd (brD (eb (eb (eb (eIxV 0 (pur (.int 3))) fun x => eb (eb (pur (.int 7919)) fun x => eb (eIxV 0 (pur (.int 2))) fun y => dMul x y) fun y => dAdd x y) fun x => eb (pur (.int 104729)) fun y => dAdd x y) fun x => eb (pur (.int 5)) fun y => dPow x y)) dInt) fun x => eb (pur (.int 2147483629)) fun y => dMod x y))
    (sRet (eb (eb (bnd (brD (eb (eb (eb (eb (eVar 4) fun x => eb (pur (.int 48271)) fun y => dMul x y) fun x => eb (eb (pur (.int 30011)) fun x => eb (eIxV 0 (pur (.int 2))) fun y => dMul x y) fun y => dAdd x y) fun x => eb (pur (.int 29)) fun y => dAdd x y) fun x => eb (pur (.int 3)) fun y => dPow x y)) dInt) fun x => eb (pur (.int 1000000007)) fun y => dMod x y) fun x => eb (eVar 1) fun y => dMod x y))))))
def F__law_draw : Fn := fnD 5 m__law_draw
theorem D__law_draw : Def P w K mg base (TT K) "_law_draw" ["_law_stream_here", "_law_many"] F__law_draw 3 := def_of (k := 2) (N := ["_law_stream_here", "_law_many", "_law_cell", "_law_digit", "_law_mixed"]) (m := m__law_draw) (fn__law_draw hh) (gl__law_draw hh) sc__law_draw (fun _ _ _ _ _ _ us hl => match us, hl with | [_, _], _ => rfl) fun A outer s H E hr =>
    (pbk_cons (pst_putB (pd_bin od_add (pd_ixV rfl (.inl rfl) pd_int) pd_int) (pd_var rfl (.inl rfl)) pd_int)
    (pbk_cons (pst_while fuBox passesD (pc_pw (pw_andM (pc_cmp (od_eq (units_of hr)) (pd_ixV rfl (.inl rfl) pd_int) pd_int) (pw_one (pc_neB (units_of hr) (pd_ixV rfl (.inl rfl) pd_int) (pd_lst pas_nil))))) (pbk_cons (pst_set nd__law_draw rfl (.inl rfl) (pd_b1 cb_abs rfl (fr_abs hh) (by decide +kernel) (pb_of (pd_mB md_popAt PySem.F.plainAttrs_list PySem.F.slot_list_pop PySem.F.type_list_pop (pd_ixV rfl (.inl rfl) pd_int) (pas_cons pd_int pas_nil)))))
    (pbk_cons (pst_putB (pd_bin od_mod (pd_t1 cb_int rfl (fr_int hh) (by decide +kernel) (pb_of (pd_bin od_add (pd_bin od_add (pd_bin od_mul (pd_ixV rfl (.inl rfl) pd_int) pd_int) (pd_var rfl (.inl rfl))) pd_int))) pd_int) (pd_var rfl (.inl rfl)) pd_int)
    (pbk_one (pst_putB (pd_if (pc_cmp od_ge (pd_var rfl (.inl rfl)) (pd_bin od_pow pd_int pd_int)) (pd_var rfl (.inl rfl)) pd_int) (pd_var rfl (.inl rfl)) pd_int)))))
    (pbk_cons (pst_if (pc_cmp od_gt (pd_ixV rfl (.inl rfl) pd_int) pd_int) (pbk_cons (pst_set nd__law_draw rfl (.inl rfl) (pd_bin od_mod (pd_t1 cb_int rfl (fr_int hh) (by decide +kernel) (pb_of (pd_ixV rfl (.inl rfl) pd_int))) (pd_var rfl (.inl rfl))))
    (pbk_cons (pst_putB (pd_bin od_fdiv (pd_ixV rfl (.inl rfl) pd_int) (pd_var rfl (.inl rfl))) (pd_var rfl (.inl rfl)) pd_int)
    (pbk_one (pst_ret (pd_move rfl (.inl rfl)))))) pbk_nil)
    (pbk_cons (pst_set nd__law_draw rfl (.inl rfl) (pd_bin od_mod (pd_t1 cb_int rfl (fr_int hh) (by decide +kernel) (pb_of (pd_bin od_pow (pd_bin od_add (pd_bin od_add (pd_ixV rfl (.inl rfl) pd_int) (pd_bin od_mul pd_int (pd_ixV rfl (.inl rfl) pd_int))) pd_int) pd_int))) pd_int))
    (pbk_one (pst_ret (pd_bin od_mod (pd_bin od_mod (pd_t1 cb_int rfl (fr_int hh) (by decide +kernel) (pb_of (pd_bin od_pow (pd_bin od_add (pd_bin od_add (pd_bin od_mul (pd_var rfl (.inl rfl)) pd_int) (pd_bin od_mul pd_int (pd_ixV rfl (.inl rfl) pd_int))) pd_int) pd_int))) pd_int) (pd_var rfl (.inl rfl)))))))))
omit hh in
theorem nd__law_pick : (["_law_stream_here", "_law_things"] : List Str).Nodup := by decide +kernel
omit hh in
theorem sc__law_pick : FnScope ["_law_stream_here", "_law_things"] ["_law_stream_here", "_law_things"] (defScope (top 68)) := ⟨rfl, rfl, rfl, by decide +kernel, rfl, by decide +kernel, by decide +kernel⟩
def m__law_pick : MS := (sRet (eIxV 1 (bnd (aCons (eVar 0) (aCons (bnd (bVar 1) dLen) aNil)) (call F__law_draw))))
def F__law_pick : Fn := fnD 2 m__law_pick
theorem D__law_pick : Def P w K mg base (TT K) "_law_pick" ["_law_stream_here", "_law_things"] F__law_pick 4 := def_of (k := 3) (N := ["_law_stream_here", "_law_things"]) (m := m__law_pick) (fn__law_pick hh) (gl__law_pick hh) sc__law_pick (fun _ _ _ _ _ _ us hl => match us, hl with | [_, _], _ => rfl) fun A outer s H E hr =>
    (pbk_one (pst_ret (pd_ixV rfl (.inl rfl) (pd_call (D__law_draw hh) (hr.mono (by decide)) takesD (pas_cons (pd_var rfl (.inl rfl)) (pas_cons (pd_b1 cb_len rfl (fr_len hh) (by decide +kernel) (pb_var rfl (.inl rfl))) pas_nil)) (alen_cons (alen_cons alen_nil))))))
omit hh in
theorem nd__law_same : (["_law_found", "_law_due", "_law_mine", "_law_theirs"] : List Str).Nodup := by decide +kernel
omit hh in
theorem sc__law_same : FnScope ["_law_found", "_law_due", "_law_mine", "_law_theirs"] ["_law_found", "_law_due"] (defScope (top 69)) := ⟨rfl, rfl, rfl, by decide +kernel, rfl, by decide +kernel, by decide +kernel⟩
def m__law_same (F : Fn) : MS := (sSeq (sIf (tst (bnd (bVar 1) (dIsiT [.list, .tuple]))) (sSeq (sIf (tOrM (tst (eb (bnd (bVar 0) (dIsi .list)) fun x => eb (bnd (bVar 1) (dIsi .list)) fun y => dNe x y)) (tst (eb (bnd (bVar 0) (dIsi .tuple)) fun x => eb (bnd (bVar 1) (dIsi .tuple)) fun y => dNe x y))) (sRet (pur (.bl false))) sNx)
    (sRet (eAnd (eb (bnd (bVar 0) dLen) fun x => eb (bnd (bVar 1) dLen) fun y => dEq x y) (bnd (brD (eLc (bnd (aCons (eVar 0) (aCons (eVar 1) aNil)) dZip2) [2, 3] (gTp (gCons (gNm 2) (gCons (gNm 3) gNil))) cYes (bnd (aCons (eVar 2) (aCons (eVar 3) aNil)) (call F)))) dAll)))) sNx)
    (sSeq (sIf (tst (bnd (bVar 1) (dIsi .dict))) (sRet (eAnd (bnd (bVar 0) (dIsi .dict)) (bnd (aCons (bnd (bVar 0) dItems) (aCons (bnd (bVar 1) dItems) aNil)) (call F)))) sNx)
    (sSeq (sIf (tOrM (tst (bnd (bVar 1) (dIsi .bool))) (tst (bnd (bVar 0) (dIsi .bool)))) (sRet (eAnd (bnd (bVar 1) (dIsi .bool)) (eAnd (bnd (bVar 0) (dIsi .bool)) (eb (eVar 0) fun x => eb (eVar 1) fun y => dEq x y)))) sNx)
    (sRet (eAnd (eNot (bnd (bVar 0) (dIsiT [.list, .tuple, .dict]))) (eb (eVar 0) fun x => eb (eVar 1) fun y => dEq x y))))))
def F__law_same : Nat → Fn
  | 0 => fun _ _ => .bad
  | n + 1 => fnD 4 (m__law_same (F__law_same n))
theorem D__law_same : ∀ n : Nat, Def P w K mg base (TT K) "_law_same" ["_law_found", "_law_due"] (F__law_same n) (n + 3)
  | 0 => def_bad (fn__law_same hh) (gl__law_same hh) (fun _ _ _ _ _ _ us hl => match us, hl with | [_, _], _ => rfl)
  | n + 1 => by
    have D := D__law_same n
    exact def_of (k := n + 3) (N := ["_law_found", "_law_due", "_law_mine", "_law_theirs"]) (m := m__law_same (F__law_same n)) (fn__law_same hh) (gl__law_same hh) sc__law_same (fun _ _ _ _ _ _ us hl => match us, hl with | [_, _], _ => rfl) fun A outer s H E hr =>
      (pbk_cons (pst_if (pc_val (pd_isiT rfl (fr_isinstance hh) (pb_var rfl (.inl rfl)) (.cons rfl (fr_list hh) (by decide +kernel) (by decide) (by decide) rfl (.cons rfl (fr_tuple hh) (by decide +kernel) (by decide) (by decide) rfl .nil)))) (pbk_cons (pst_if (pc_pw (pw_orM (pc_cmp (od_ne (units_of hr)) (pd_isi rfl (fr_isinstance hh) (pb_var rfl (.inl rfl)) rfl (fr_list hh) (by decide +kernel)) (pd_isi rfl (fr_isinstance hh) (pb_var rfl (.inl rfl)) rfl (fr_list hh) (by decide +kernel))) (pw_one (pc_cmp (od_ne (units_of hr)) (pd_isi rfl (fr_isinstance hh) (pb_var rfl (.inl rfl)) rfl (fr_tuple hh) (by decide +kernel)) (pd_isi rfl (fr_isinstance hh) (pb_var rfl (.inl rfl)) rfl (fr_tuple hh) (by decide +kernel)))))) (pbk_one (pst_ret pd_bl)) pbk_nil)
    (pbk_one (pst_ret (pd_and (pd_cmp (od_eq (units_of hr)) (pd_b1 cb_len rfl (fr_len hh) (by decide +kernel) (pb_var rfl (.inl rfl))) (pd_b1 cb_len rfl (fr_len hh) (by decide +kernel) (pb_var rfl (.inl rfl)))) (pd_one (pd_b1 (cb_all rfl) rfl (fr_all hh) (by decide +kernel) (pb_of (pd_lc (own := [("_law_mine", 2), ("_law_theirs", 3)]) rfl nd__law_same (pit_zip2 rfl (fr_zip hh) (pas_cons (pd_var rfl (.inl rfl)) (pas_cons (pd_var rfl (.inl rfl)) pas_nil))) (blkOk_by (show blkC ["_law_found", "_law_due", "_law_mine", "_law_theirs"] (defScope (top 69)) _ _ = true by decide +kernel)) (by decide) (fun _ _ _ _ _ => (pg_tp rfl (pgts_cons (pg_nm nd__law_same rfl (.inl rfl)) (pgts_cons (pg_nm nd__law_same rfl (.inl rfl)) pgts_nil)))) (fun _ _ _ _ _ => ptst_nil) (fun _ _ _ _ _ => (pd_call D (hr.mono (by omega)) TD.takes0 (pas_cons (pd_var rfl (.inl rfl)) (pas_cons (pd_var rfl (.inl rfl)) pas_nil)) (alen_cons (alen_cons alen_nil)))))))))))) pbk_nil)
    (pbk_cons (pst_if (pc_val (pd_isi rfl (fr_isinstance hh) (pb_var rfl (.inl rfl)) rfl (fr_dict hh) (by decide +kernel))) (pbk_one (pst_ret (pd_and (pd_isi rfl (fr_isinstance hh) (pb_var rfl (.inl rfl)) rfl (fr_dict hh) (by decide +kernel)) (pd_one (pd_call D (hr.mono (by omega)) takesD (pas_cons (pd_items rfl (pb_var rfl (.inl rfl)) rfl (fr_list hh) (by decide +kernel)) (pas_cons (pd_items rfl (pb_var rfl (.inl rfl)) rfl (fr_list hh) (by decide +kernel)) pas_nil)) (alen_cons (alen_cons alen_nil))))))) pbk_nil)
    (pbk_cons (pst_if (pc_pw (pw_orM (pc_val (pd_isi rfl (fr_isinstance hh) (pb_var rfl (.inl rfl)) rfl (fr_bool hh) (by decide +kernel))) (pw_one (pc_val (pd_isi rfl (fr_isinstance hh) (pb_var rfl (.inl rfl)) rfl (fr_bool hh) (by decide +kernel)))))) (pbk_one (pst_ret (pd_and (pd_isi rfl (fr_isinstance hh) (pb_var rfl (.inl rfl)) rfl (fr_bool hh) (by decide +kernel)) (pd_and (pd_isi rfl (fr_isinstance hh) (pb_var rfl (.inl rfl)) rfl (fr_bool hh) (by decide +kernel)) (pd_one (pd_cmp (od_eq (units_of hr)) (pd_var rfl (.inl rfl)) (pd_var rfl (.inl rfl)))))))) pbk_nil)
    (pbk_one (pst_ret (pd_and (pd_not (pd_isiT rfl (fr_isinstance hh) (pb_var rfl (.inl rfl)) (.cons rfl (fr_list hh) (by decide +kernel) (by decide) (by decide) rfl (.cons rfl (fr_tuple hh) (by decide +kernel) (by decide) (by decide) rfl (.cons rfl (fr_dict hh) (by decide +kernel) (by decide) (by decide) rfl .nil))))) (pd_one (pd_cmp (od_eq (units_of hr)) (pd_var rfl (.inl rfl)) (pd_var rfl (.inl rfl))))))))))
omit hh in
theorem nd__law_common : (["_law_one", "_law_other"] : List Str).Nodup := by decide +kernel
omit hh in
theorem sc__law_common : FnScope ["_law_one", "_law_other"] ["_law_one", "_law_other"] (defScope (top 70)) := ⟨rfl, rfl, rfl, by decide +kernel, rfl, by decide +kernel, by decide +kernel⟩
def m__law_common : MS := (sSeq (sParF [0, 1] (fCons (bnd (bVar 0) dAbs) (fCons (bnd (bVar 1) dAbs) fNil)))
    (sSeq (sWhile (fuInt 1) (tst (eb (eVar 1) fun x => eb (pur (.int 0)) fun y => dGt x y)) (sParF [0, 1] (fCons (eVar 1) (fCons (eb (eVar 0) fun x => eb (eVar 1) fun y => dMod x y) fNil))))
    (sRet (eMove 0))))
def F__law_common : Fn := fnD 2 m__law_common
theorem D__law_common : Def P w K mg base (TT K) "_law_common" ["_law_one", "_law_other"] F__law_common 3 := def_of (k := 2) (N := ["_law_one", "_law_other"]) (m := m__law_common) (fn__law_common hh) (gl__law_common hh) sc__law_common (fun _ _ _ _ _ _ us hl => match us, hl with | [_, _], _ => rfl) fun A outer s H E hr =>
    (pbk_cons (pst_parF rfl nd__law_common rfl rfl (by decide) rfl rfl (pd_b1 cb_abs rfl (fr_abs hh) (by decide +kernel) (pb_var rfl (.inl rfl))) (pd_b1 cb_abs rfl (fr_abs hh) (by decide +kernel) (pb_var rfl (.inl rfl))) rfl)
    (pbk_cons (pst_while (fuInt 1) passesD (pc_cmp od_gt (pd_var rfl (.inl rfl)) pd_int) (pbk_one (pst_parF rfl nd__law_common rfl rfl (by decide) rfl rfl (pd_var rfl (.inl rfl)) (pd_bin od_mod (pd_var rfl (.inl rfl)) (pd_var rfl (.inl rfl))) rfl)))
    (pbk_one (pst_ret (pd_move rfl (.inl rfl))))))
omit hh in
theorem nd__law_low : (["_law_top", "_law_bottom", "_law_common_here"] : List Str).Nodup := by decide +kernel
omit hh in
theorem sc__law_low : FnScope ["_law_top", "_law_bottom", "_law_common_here"] ["_law_top", "_law_bottom"] (defScope (top 71)) := ⟨rfl, rfl, rfl, by decide +kernel, rfl, by decide +kernel, by decide +kernel⟩
def m__law_low : MS := (sSeq (sSet 2 (iff (tst (eb (eVar 1) fun x => eb (pur (.int 0)) fun y => dGt x y)) (bnd (aCons (eVar 0) (aCons (eVar 1) aNil)) (call F__law_common)) (eb (pur (.int 0)) fun x => eb (bnd (aCons (eVar 0) (aCons (eVar 1) aNil)) (call F__law_common)) fun y => dSub x y)))
    (sRet (eTup (aCons (eb (eVar 0) fun x => eb (eVar 2) fun y => dFdiv x y) (aCons (eb (eVar 1) fun x => eb (eVar 2) fun y => dFdiv x y) aNil)))))
def F__law_low : Fn := fnD 3 m__law_low
theorem D__law_low : Def P w K mg base (TT K) "_law_low" ["_law_top", "_law_bottom"] F__law_low 4 := def_of (k := 3) (N := ["_law_top", "_law_bottom", "_law_common_here"]) (m := m__law_low) (fn__law_low hh) (gl__law_low hh) sc__law_low (fun _ _ _ _ _ _ us hl => match us, hl with | [_, _], _ => rfl) fun A outer s H E hr =>
    (pbk_cons (pst_set nd__law_low rfl (.inl rfl) (pd_if (pc_cmp od_gt (pd_var rfl (.inl rfl)) pd_int) (pd_call (D__law_common hh) (hr.mono (by decide)) takesD (pas_cons (pd_var rfl (.inl rfl)) (pas_cons (pd_var rfl (.inl rfl)) pas_nil)) (alen_cons (alen_cons alen_nil))) (pd_bin od_sub pd_int (pd_call (D__law_common hh) (hr.mono (by decide)) takesD (pas_cons (pd_var rfl (.inl rfl)) (pas_cons (pd_var rfl (.inl rfl)) pas_nil)) (alen_cons (alen_cons alen_nil))))))
    (pbk_one (pst_ret (pd_tup (pas_cons (pd_bin od_fdiv (pd_var rfl (.inl rfl)) (pd_var rfl (.inl rfl))) (pas_cons (pd_bin od_fdiv (pd_var rfl (.inl rfl)) (pd_var rfl (.inl rfl))) pas_nil))))))
omit hh in
theorem nd__law_plus : (["_law_one", "_law_other"] : List Str).Nodup := by decide +kernel
omit hh in
theorem sc__law_plus : FnScope ["_law_one", "_law_other"] ["_law_one", "_law_other"] (defScope (top 72)) := ⟨rfl, rfl, rfl, by decide +kernel, rfl, by decide +kernel, by decide +kernel⟩
def m__law_plus : MS := (sRet (bnd (aCons (eb (eb (eIxV 0 (pur (.int 0))) fun x => eb (eIxV 1 (pur (.int 1))) fun y => dMul x y) fun x => eb (eb (eIxV 1 (pur (.int 0))) fun x => eb (eIxV 0 (pur (.int 1))) fun y => dMul x y) fun y => dAdd x y) (aCons (eb (eIxV 0 (pur (.int 1))) fun x => eb (eIxV 1 (pur (.int 1))) fun y => dMul x y) aNil)) (call F__law_low)))
def F__law_plus : Fn := fnD 2 m__law_plus
theorem D__law_plus : Def P w K mg base (TT K) "_law_plus" ["_law_one", "_law_other"] F__law_plus 5 := def_of (k := 4) (N := ["_law_one", "_law_other"]) (m := m__law_plus) (fn__law_plus hh) (gl__law_plus hh) sc__law_plus (fun _ _ _ _ _ _ us hl => match us, hl with | [_, _], _ => rfl) fun A outer s H E hr =>
    (pbk_one (pst_ret (pd_call (D__law_low hh) (hr.mono (by decide)) takesD (pas_cons (pd_bin od_add (pd_bin od_mul (pd_ixV rfl (.inl rfl) pd_int) (pd_ixV rfl (.inl rfl) pd_int)) (pd_bin od_mul (pd_ixV rfl (.inl rfl) pd_int) (pd_ixV rfl (.inl rfl) pd_int))) (pas_cons (pd_bin od_mul (pd_ixV rfl (.inl rfl) pd_int) (pd_ixV rfl (.inl rfl) pd_int)) pas_nil)) (alen_cons (alen_cons alen_nil)))))
omit hh in
theorem nd__law_wishes : (["_law_stream_here", "_law_most", "_law_found", "_law_moment", "_law_bottom", "_law_k"] : List Str).Nodup := by decide +kernel
omit hh in
theorem sc__law_wishes : FnScope ["_law_stream_here", "_law_most", "_law_found", "_law_moment", "_law_bottom", "_law_k"] ["_law_stream_here", "_law_most"] (defScope (top 73)) := ⟨rfl, rfl, rfl, by decide +kernel, rfl, by decide +kernel, by decide +kernel⟩
def m__law_wishes : MS := (sSeq (sParF [2, 3, 4] (fCons (eLst aNil) (fCons (eTup (aCons (eb (pur (.int 60)) fun x => eb (bnd (aCons (eVar 0) (aCons (pur (.int 90)) aNil)) (call F__law_draw)) fun y => dAdd x y) (aCons (pur (.int 1)) aNil))) (fCons (bnd (aCons (eVar 0) (aCons (eLst (aCons (pur (.int 1)) (aCons (pur (.int 1)) (aCons (pur (.int 2)) (aCons (pur (.int 3)) aNil))))) aNil)) (call F__law_pick)) fNil))))
    (sSeq (sFor (bnd (aCons (eb (pur (.int 1)) fun x => eb (bnd (aCons (eVar 0) (aCons (eVar 1) aNil)) (call F__law_draw)) fun y => dAdd x y) aNil) dRng1) (gNm 5) (sSeq (sExpr (mSlot "list" 2 (aCons (eTup (aCons (eVar 3) (aCons (bnd (aCons (eb (pur (.int 1)) fun x => eb (bnd (aCons (eVar 0) (aCons (bnd (aCons (eVar 0) (aCons (eLst (aCons (pur (.int 3)) (aCons (pur (.int 12)) (aCons (pur (.int 40)) aNil)))) aNil)) (call F__law_pick)) aNil)) (call F__law_draw)) fun y => dAdd x y) (aCons (eVar 4) aNil)) (call F__law_low)) aNil))) aNil) fApp))
    (sSet 3 (bnd (aCons (eVar 3) (aCons (bnd (aCons (eb (pur (.int 1)) fun x => eb (bnd (aCons (eVar 0) (aCons (bnd (aCons (eVar 0) (aCons (eLst (aCons (pur (.int 2)) (aCons (pur (.int 8)) (aCons (pur (.int 30)) aNil)))) aNil)) (call F__law_pick)) aNil)) (call F__law_draw)) fun y => dAdd x y) (aCons (eVar 4) aNil)) (call F__law_low)) aNil)) (call F__law_plus)))))
    (sRet (eMove 2))))
def F__law_wishes : Fn := fnD 6 m__law_wishes
theorem D__law_wishes : Def P w K mg base (TT K) "_law_wishes" ["_law_stream_here", "_law_most"] F__law_wishes 6 := def_of (k := 5) (N := ["_law_stream_here", "_law_most", "_law_found", "_law_moment", "_law_bottom", "_law_k"]) (m := m__law_wishes) (fn__law_wishes hh) (gl__law_wishes hh) sc__law_wishes (fun _ _ _ _ _ _ us hl => match us, hl with | [_, _], _ => rfl) fun A outer s H E hr =>
    (pbk_cons (pst_parF3 rfl nd__law_wishes rfl rfl rfl (by decide) (by decide) (by decide) rfl rfl rfl (pd_lst pas_nil) (pd_tup (pas_cons (pd_bin od_add pd_int (pd_call (D__law_draw hh) (hr.mono (by decide)) takesD (pas_cons (pd_var rfl (.inl rfl)) (pas_cons pd_int pas_nil)) (alen_cons (alen_cons alen_nil)))) (pas_cons pd_int pas_nil))) (pd_call (D__law_pick hh) (hr.mono (by decide)) takesD (pas_cons (pd_var rfl (.inl rfl)) (pas_cons (pd_lst (pas_cons pd_int (pas_cons pd_int (pas_cons pd_int (pas_cons pd_int pas_nil))))) pas_nil)) (alen_cons (alen_cons alen_nil))) rfl)
    (pbk_cons (pst_for passesD rfl (pit_range1 rfl (fr_range hh) (pas_cons (pd_bin od_add pd_int (pd_call (D__law_draw hh) (hr.mono (by decide)) takesD (pas_cons (pd_var rfl (.inl rfl)) (pas_cons (pd_var rfl (.inl rfl)) pas_nil)) (alen_cons (alen_cons alen_nil)))) pas_nil)) (pg_nm nd__law_wishes rfl (.inl rfl)) (pbk_cons (pst_expr (pd_mS md_app PySem.F.plainAttrs_list PySem.F.slot_list_append PySem.F.type_list_append rfl (.inl rfl) (pas_cons (pd_tup (pas_cons (pd_var rfl (.inl rfl)) (pas_cons (pd_call (D__law_low hh) (hr.mono (by decide)) takesD (pas_cons (pd_bin od_add pd_int (pd_call (D__law_draw hh) (hr.mono (by decide)) takesD (pas_cons (pd_var rfl (.inl rfl)) (pas_cons (pd_call (D__law_pick hh) (hr.mono (by decide)) takesD (pas_cons (pd_var rfl (.inl rfl)) (pas_cons (pd_lst (pas_cons pd_int (pas_cons pd_int (pas_cons pd_int pas_nil)))) pas_nil)) (alen_cons (alen_cons alen_nil))) pas_nil)) (alen_cons (alen_cons alen_nil)))) (pas_cons (pd_var rfl (.inl rfl)) pas_nil)) (alen_cons (alen_cons alen_nil))) pas_nil))) pas_nil)))
    (pbk_one (pst_set nd__law_wishes rfl (.inl rfl) (pd_call (D__law_plus hh) (hr.mono (by decide)) takesD (pas_cons (pd_var rfl (.inl rfl)) (pas_cons (pd_call (D__law_low hh) (hr.mono (by decide)) takesD (pas_cons (pd_bin od_add pd_int (pd_call (D__law_draw hh) (hr.mono (by decide)) takesD (pas_cons (pd_var rfl (.inl rfl)) (pas_cons (pd_call (D__law_pick hh) (hr.mono (by decide)) takesD (pas_cons (pd_var rfl (.inl rfl)) (pas_cons (pd_lst (pas_cons pd_int (pas_cons pd_int (pas_cons pd_int pas_nil)))) pas_nil)) (alen_cons (alen_cons alen_nil))) pas_nil)) (alen_cons (alen_cons alen_nil)))) (pas_cons (pd_var rfl (.inl rfl)) pas_nil)) (alen_cons (alen_cons alen_nil))) pas_nil)) (alen_cons (alen_cons alen_nil)))))))
    (pbk_one (pst_ret (pd_move rfl (.inl rfl))))))
omit hh in
theorem nd__law_worths : (["_law_stream_here", "_law_early", "_law_some"] : List Str).Nodup := by decide +kernel
omit hh in
theorem sc__law_worths : FnScope ["_law_stream_here", "_law_early", "_law_some"] ["_law_stream_here"] (defScope (top 74)) := ⟨rfl, rfl, rfl, by decide +kernel, rfl, by decide +kernel, by decide +kernel⟩
def m__law_worths : MS := (sSeq (sSet 1 (bnd (aCons (eb (pur (.int 1)) fun x => eb (bnd (aCons (eVar 0) (aCons (pur (.int 11)) aNil)) (call F__law_draw)) fun y => dAdd x y) (aCons (pur (.int 12)) aNil)) (call F__law_low)))
    (sSeq (sSet 2 (eLst (aCons (eTup (aCons (pur (.int 1)) (aCons (pur (.int 1)) aNil))) (aCons (eTup (aCons (pur (.int 2)) (aCons (pur (.int 1)) aNil))) (aCons (eTup (aCons (pur (.int 1)) (aCons (pur (.int 2)) aNil))) (aCons (eVar 1) (aCons (bnd (aCons (eb (pur (.int 1)) fun x => eb (bnd (aCons (eVar 0) (aCons (pur (.int 12)) aNil)) (call F__law_draw)) fun y => dAdd x y) (aCons (eb (pur (.int 1)) fun x => eb (bnd (aCons (eVar 0) (aCons (pur (.int 12)) aNil)) (call F__law_draw)) fun y => dAdd x y) aNil)) (call F__law_low)) aNil)))))))
    (sRet (eTup (aCons (eVar 1) (aCons (bnd (aCons (eVar 0) (aCons (eVar 2) aNil)) (call F__law_pick)) aNil))))))
def F__law_worths : Fn := fnD 3 m__law_worths
theorem D__law_worths : Def P w K mg base (TT K) "_law_worths" ["_law_stream_here"] F__law_worths 5 := def_of (k := 4) (N := ["_law_stream_here", "_law_early", "_law_some"]) (m := m__law_worths) (fn__law_worths hh) (gl__law_worths hh) sc__law_worths (fun _ _ _ _ _ _ us hl => match us, hl with | [_], _ => rfl) fun A outer s H E hr =>
    (pbk_cons (pst_set nd__law_worths rfl (.inl rfl) (pd_call (D__law_low hh) (hr.mono (by decide)) takesD (pas_cons (pd_bin od_add pd_int (pd_call (D__law_draw hh) (hr.mono (by decide)) takesD (pas_cons (pd_var rfl (.inl rfl)) (pas_cons pd_int pas_nil)) (alen_cons (alen_cons alen_nil)))) (pas_cons pd_int pas_nil)) (alen_cons (alen_cons alen_nil))))
    (pbk_cons (pst_set nd__law_worths rfl (.inl rfl) (pd_lst (pas_cons (pd_tup (pas_cons pd_int (pas_cons pd_int pas_nil))) (pas_cons (pd_tup (pas_cons pd_int (pas_cons pd_int pas_nil))) (pas_cons (pd_tup (pas_cons pd_int (pas_cons pd_int pas_nil))) (pas_cons (pd_var rfl (.inl rfl)) (pas_cons (pd_call (D__law_low hh) (hr.mono (by decide)) takesD (pas_cons (pd_bin od_add pd_int (pd_call (D__law_draw hh) (hr.mono (by decide)) takesD (pas_cons (pd_var rfl (.inl rfl)) (pas_cons pd_int pas_nil)) (alen_cons (alen_cons alen_nil)))) (pas_cons (pd_bin od_add pd_int (pd_call (D__law_draw hh) (hr.mono (by decide)) takesD (pas_cons (pd_var rfl (.inl rfl)) (pas_cons pd_int pas_nil)) (alen_cons (alen_cons alen_nil)))) pas_nil)) (alen_cons (alen_cons alen_nil))) pas_nil)))))))
    (pbk_one (pst_ret (pd_tup (pas_cons (pd_var rfl (.inl rfl)) (pas_cons (pd_call (D__law_pick hh) (hr.mono (by decide)) takesD (pas_cons (pd_var rfl (.inl rfl)) (pas_cons (pd_var rfl (.inl rfl)) pas_nil)) (alen_cons (alen_cons alen_nil))) pas_nil)))))))
theorem held__law_all : ∀ y G, ([("settled", F_settled), ("stretches", F_stretches), ("troubles", F_troubles), ("toll", F_toll), ("tolled", F_tolled), ("paid", F_paid)] : List (Str × Fn)).lookup y = some G → ∃ ps, ps.length = 5 ∧ Def P w K mg base (TT K) y ps G 11 := (held_cons ((D_settled hh).mono (by decide)) rfl (held_cons ((D_stretches hh).mono (by decide)) rfl (held_cons ((D_troubles hh).mono (by decide)) rfl (held_cons ((D_toll hh).mono (by decide)) rfl (held_cons ((D_tolled hh).mono (by decide)) rfl (held_cons ((D_paid hh).mono (by decide)) rfl held_nil))))))
omit hh in
theorem nd__law_all : (["_law_room", "_law_length", "_law_wishes_here", "_law_early", "_law_late", "_law_asks", "_law_found", "_law_ask"] : List Str).Nodup := by decide +kernel
omit hh in
theorem sc__law_all : FnScope ["_law_room", "_law_length", "_law_wishes_here", "_law_early", "_law_late", "_law_asks", "_law_found", "_law_ask"] ["_law_room", "_law_length", "_law_wishes_here", "_law_early", "_law_late"] (defScope (top 76)) := ⟨rfl, rfl, rfl, by decide +kernel, rfl, by decide +kernel, by decide +kernel⟩
def m__law_all : MS := (sSeq (sParF [5, 6] (fCons (eTup (aCons (pur (.gl "settled")) (aCons (pur (.gl "stretches")) (aCons (pur (.gl "troubles")) (aCons (pur (.gl "toll")) (aCons (pur (.gl "tolled")) (aCons (pur (.gl "paid")) aNil))))))) (fCons (eLst aNil) fNil)))
    (sSeq (sFor (eb (eVar 5) dSeq) (gNm 7) (sExpr (mSlot "list" 6 (aCons (eMet true "told" metT (eCallL 7 [("settled", F_settled), ("stretches", F_stretches), ("troubles", F_troubles), ("toll", F_toll), ("tolled", F_tolled), ("paid", F_paid)] (aCons (eVar 0) (aCons (eVar 1) (aCons (eVar 2) (aCons (eVar 3) (aCons (eVar 4) aNil))))))) aNil) fApp)))
    (sRet (eb (eVar 6) fun x => eb (eLst (aCons (eMet true "told" metT (bnd (aCons (eVar 0) (aCons (eVar 1) (aCons (eVar 2) (aCons (eVar 3) (aCons (eVar 4) (aCons (pur .non) aNil)))))) (call F_gains))) aNil)) fun y => dAdd x y))))
def F__law_all : Fn := fnD 8 m__law_all
theorem D__law_all : Def P w K mg base (TT K) "_law_all" ["_law_room", "_law_length", "_law_wishes_here", "_law_early", "_law_late"] F__law_all 14 := def_of (k := 13) (N := ["_law_room", "_law_length", "_law_wishes_here", "_law_early", "_law_late", "_law_asks", "_law_found", "_law_ask"]) (m := m__law_all) (fn__law_all hh) (gl__law_all hh) sc__law_all (fun _ _ _ _ _ _ us hl => match us, hl with | [_, _, _, _, _], _ => rfl) fun A outer s H E hr =>
    (pbk_cons (pst_parF rfl nd__law_all rfl rfl (by decide) rfl rfl (pd_tup (pas_cons (pd_glob rfl (gl_settled hh) (ty_settled hh)) (pas_cons (pd_glob rfl (gl_stretches hh) (ty_stretches hh)) (pas_cons (pd_glob rfl (gl_troubles hh) (ty_troubles hh)) (pas_cons (pd_glob rfl (gl_toll hh) (ty_toll hh)) (pas_cons (pd_glob rfl (gl_tolled hh) (ty_tolled hh)) (pas_cons (pd_glob rfl (gl_paid hh) (ty_paid hh)) pas_nil))))))) (pd_lst pas_nil) rfl)
    (pbk_cons (pst_for passesD rfl (pit_seq (pd_var rfl (.inl rfl))) (pg_nm nd__law_all rfl (.inr rfl)) (pbk_one (pst_expr (pd_mS md_app PySem.F.plainAttrs_list PySem.F.slot_list_append PySem.F.type_list_append rfl (.inl rfl) (pas_cons (met_of (kk := 11) hh (by rfl) (hr.mono (by decide)) (tb__law_all hh) tm__law_all (tu__law_all hh) (LamX.lamS_by (by decide +kernel)) rfl (fun _ _ _ _ _ => rfl) fun A2 outer2 s2 H2 E2 f2 c2 hr2 => (pd_callL (n := 5) (held__law_all hh) (hr2.mono (by decide)) takesL rfl (.inr (.inr rfl)) (pas_cons (pd_var rfl (.inr (.inr rfl))) (pas_cons (pd_var rfl (.inr (.inr rfl))) (pas_cons (pd_var rfl (.inr (.inr rfl))) (pas_cons (pd_var rfl (.inr (.inr rfl))) (pas_cons (pd_var rfl (.inr (.inr rfl))) pas_nil))))) (alen_cons (alen_cons (alen_cons (alen_cons (alen_cons alen_nil))))))) pas_nil)))))
    (pbk_one (pst_ret (pd_bin od_add (pd_var rfl (.inl rfl)) (pd_lst (pas_cons (met_of (kk := 10) hh (by rfl) (hr.mono (by decide)) (tb__law_all hh) tm__law_all (tu__law_all hh) (LamX.lamS_by (by decide +kernel)) rfl (fun _ _ _ _ _ => rfl) fun A2 outer2 s2 H2 E2 f2 c2 hr2 => (pd_call (D_gains hh) (hr2.mono (by decide)) takesL (pas_cons (pd_var rfl (.inr (.inr rfl))) (pas_cons (pd_var rfl (.inr (.inr rfl))) (pas_cons (pd_var rfl (.inr (.inr rfl))) (pas_cons (pd_var rfl (.inr (.inr rfl))) (pas_cons (pd_var rfl (.inr (.inr rfl))) (pas_cons pd_non pas_nil)))))) (alen_cons (alen_cons (alen_cons (alen_cons (alen_cons (alen_cons alen_nil)))))))) pas_nil)))))))
omit hh in
theorem nd__law_bad_wishes : (["_law_stream_here", "_law_wishes_here", "_law_at", "_law_odds", "_law_rows"] : List Str).Nodup := by decide +kernel
omit hh in
theorem sc__law_bad_wishes : FnScope ["_law_stream_here", "_law_wishes_here", "_law_at", "_law_odds", "_law_rows"] ["_law_stream_here", "_law_wishes_here"] (defScope (top 77)) := ⟨rfl, rfl, rfl, by decide +kernel, rfl, by decide +kernel, by decide +kernel⟩
def m__law_bad_wishes : MS := (sSeq (sSet 2 (bnd (aCons (eVar 0) (aCons (eb (bnd (bVar 1) dLen) fun x => eb (pur (.int 1)) fun y => dAdd x y) aNil)) (call F__law_draw)))
    (sSeq (sSet 3 (eLst (aCons (pur .non) (aCons (pur (.int 5)) (aCons (pur (.str "ab")) (aCons (eTup (aCons (pur (.int 1)) (aCons (pur (.int 2)) aNil))) (aCons (eTup (aCons (eTup (aCons (eNeg (pur (.int 1))) (aCons (pur (.int 2)) aNil))) (aCons (eTup (aCons (pur (.int 1)) (aCons (pur (.int 1)) aNil))) aNil))) (aCons (eTup (aCons (eTup (aCons (pur (.int 400)) (aCons (pur (.int 1)) aNil))) (aCons (eTup (aCons (pur (.int 0)) (aCons (pur (.int 1)) aNil))) aNil))) (aCons (eTup (aCons (eTup (aCons (pur (.int 400)) (aCons (pur (.int 1)) aNil))) (aCons (eTup (aCons (eNeg (pur (.int 1))) (aCons (pur (.int 1)) aNil))) aNil))) (aCons (eTup (aCons (eTup (aCons (pur (.int 400)) (aCons (pur (.int 1)) aNil))) (aCons (pur (.int 3)) aNil))) aNil))))))))))
    (sSeq (sExpr (mSlot "list" 3 (aCons (eLst (aCons (eTup (aCons (eTup (aCons (pur (.int 400)) (aCons (pur (.int 1)) aNil))) (aCons (eTup (aCons (pur (.int 0)) (aCons (pur (.int 2)) aNil))) aNil))) (aCons (eLst (aCons (eTup (aCons (pur (.int 400)) (aCons (pur (.int 1)) aNil))) (aCons (eLst (aCons (pur (.int 0)) (aCons (pur (.int 3)) aNil))) aNil))) (aCons (eTup (aCons (eTup (aCons (pur (.int 400)) (aCons (pur (.int 1)) aNil))) (aCons (eDic [((pur (.int 3)), (pur (.int 0))), ((pur (.int 2)), (pur (.int 0)))]) aNil))) (aCons (eDictT (eLst (aCons (eTup (aCons (eTup (aCons (pur (.int 400)) (aCons (pur (.int 1)) aNil))) (aCons (pur (.int 0)) aNil))) (aCons (eTup (aCons (eTup (aCons (pur (.int 3)) (aCons (pur (.int 1)) aNil))) (aCons (pur (.int 0)) aNil))) aNil)))) aNil))))) aNil) fExt))
    (sSeq (sExpr (mSlot "list" 3 (aCons (eLst (aCons (eTup (aCons (eTup (aCons (pur (.int 400)) (aCons (pur (.int 1)) aNil))) (aCons (eTup (aCons (pur (.int 1)) (aCons (pur (.int 1)) aNil))) (aCons (pur (.int 0)) aNil)))) (aCons (eTup (aCons (eTup (aCons (pur (.int 400)) (aCons (pur (.int 1)) aNil))) aNil)) (aCons (eTup (aCons (eTup (aCons (pur (.bl true)) (aCons (pur (.int 1)) aNil))) (aCons (eTup (aCons (pur (.int 1)) (aCons (pur (.int 1)) aNil))) aNil))) (aCons (ret (.dic [], true)) (aCons (eLst aNil) (aCons (eTup (aCons (pur .non) (aCons (eTup (aCons (pur (.int 1)) (aCons (pur (.int 1)) aNil))) aNil))) (aCons (eTup (aCons (eTup (aCons (pur (.int 400)) (aCons (pur (.int 1)) aNil))) (aCons (eTup (aCons (pur (.int 1)) (aCons (pur (.int 0)) aNil))) aNil))) aNil)))))))) aNil) fExt))
    (sSeq (sExpr (mSlot "list" 3 (aCons (eTup (aCons (eTup (aCons (pur (.int 400)) (aCons (pur (.int 0)) aNil))) (aCons (eTup (aCons (pur (.int 1)) (aCons (pur (.int 1)) aNil))) aNil))) aNil) fApp))
    (sSeq (sExpr (mSlot "list" 3 (aCons (iff (tst (eb (eVar 2) fun x => eb (pur (.int 0)) fun y => dGt x y)) (eLst (aCons (eIxV 1 (eb (eVar 2) fun x => eb (pur (.int 1)) fun y => dSub x y)) (aCons (eTup (aCons (eIx (eIxV 1 (eb (eVar 2) fun x => eb (pur (.int 1)) fun y => dSub x y)) (pur (.int 0))) (aCons (eTup (aCons (pur (.int 1)) (aCons (pur (.int 1)) aNil))) aNil))) (aCons (eTup (aCons (eTup (aCons (pur (.int 0)) (aCons (pur (.int 1)) aNil))) (aCons (eTup (aCons (pur (.int 1)) (aCons (pur (.int 1)) aNil))) aNil))) aNil)))) (eLst aNil)) aNil) fExt))
    (sSeq (sSet 4 (eb (eLst (aCons (eTup (aCons (eb (eb (eSlV 1 pNone (pInt (eVar 2))) fun x => eb (eLst (aCons (bnd (aCons (eVar 0) (aCons (eVar 3) aNil)) (call F__law_pick)) aNil)) fun y => dAdd x y) fun x => eb (eSlV 1 (pInt (eVar 2)) pNone) fun y => dAdd x y) (aCons (eVar 2) aNil))) aNil)) fun x => eb (pur (.int 3)) fun y => dMul x y))
    (sRet (bnd (aCons (eVar 0) (aCons (eb (eVar 4) fun x => eb (eLst (aCons (eTup (aCons (pur .non) (aCons (pur (.int 0)) aNil))) (aCons (eTup (aCons (eLst aNil) (aCons (pur (.int 0)) aNil))) (aCons (eTup (aCons (eTup aNil) (aCons (pur (.int 0)) aNil))) (aCons (eTup (aCons (pur (.str "ab")) (aCons (pur (.int 0)) aNil))) (aCons (eTup (aCons (ret (.dic [], true)) (aCons (pur (.int 0)) aNil))) (aCons (eTup (aCons (pur (.int 5)) (aCons (pur (.int 0)) aNil))) aNil))))))) fun y => dAdd x y) aNil)) (call F__law_pick))))))))))
def F__law_bad_wishes : Fn := fnD 5 m__law_bad_wishes
theorem D__law_bad_wishes : Def P w K mg base (TT K) "_law_bad_wishes" ["_law_stream_here", "_law_wishes_here"] F__law_bad_wishes 5 := def_of (k := 4) (N := ["_law_stream_here", "_law_wishes_here", "_law_at", "_law_odds", "_law_rows"]) (m := m__law_bad_wishes) (fn__law_bad_wishes hh) (gl__law_bad_wishes hh) sc__law_bad_wishes (fun _ _ _ _ _ _ us hl => match us, hl with | [_, _], _ => rfl) fun A outer s H E hr =>
    (pbk_cons (pst_set nd__law_bad_wishes rfl (.inl rfl) (pd_call (D__law_draw hh) (hr.mono (by decide)) takesD (pas_cons (pd_var rfl (.inl rfl)) (pas_cons (pd_bin od_add (pd_b1 cb_len rfl (fr_len hh) (by decide +kernel) (pb_var rfl (.inl rfl))) pd_int) pas_nil)) (alen_cons (alen_cons alen_nil))))
    (pbk_cons (pst_set nd__law_bad_wishes rfl (.inl rfl) (pd_lst (pas_cons pd_non (pas_cons pd_int (pas_cons pd_str (pas_cons (pd_tup (pas_cons pd_int (pas_cons pd_int pas_nil))) (pas_cons (pd_tup (pas_cons (pd_tup (pas_cons (pd_neg pd_int) (pas_cons pd_int pas_nil))) (pas_cons (pd_tup (pas_cons pd_int (pas_cons pd_int pas_nil))) pas_nil))) (pas_cons (pd_tup (pas_cons (pd_tup (pas_cons pd_int (pas_cons pd_int pas_nil))) (pas_cons (pd_tup (pas_cons pd_int (pas_cons pd_int pas_nil))) pas_nil))) (pas_cons (pd_tup (pas_cons (pd_tup (pas_cons pd_int (pas_cons pd_int pas_nil))) (pas_cons (pd_tup (pas_cons (pd_neg pd_int) (pas_cons pd_int pas_nil))) pas_nil))) (pas_cons (pd_tup (pas_cons (pd_tup (pas_cons pd_int (pas_cons pd_int pas_nil))) (pas_cons pd_int pas_nil))) pas_nil))))))))))
    (pbk_cons (pst_expr (pd_mS md_ext PySem.F.plainAttrs_list PySem.F.slot_list_extend PySem.F.type_list_extend rfl (.inl rfl) (pas_cons (pd_lst (pas_cons (pd_tup (pas_cons (pd_tup (pas_cons pd_int (pas_cons pd_int pas_nil))) (pas_cons (pd_tup (pas_cons pd_int (pas_cons pd_int pas_nil))) pas_nil))) (pas_cons (pd_lst (pas_cons (pd_tup (pas_cons pd_int (pas_cons pd_int pas_nil))) (pas_cons (pd_lst (pas_cons pd_int (pas_cons pd_int pas_nil))) pas_nil))) (pas_cons (pd_tup (pas_cons (pd_tup (pas_cons pd_int (pas_cons pd_int pas_nil))) (pas_cons (pd_dic (ms := [((pur (.int 3)), (pur (.int 0))), ((pur (.int 2)), (pur (.int 0)))]) (pps_cons pd_int pd_int (pps_cons pd_int pd_int pps_nil)) rfl rfl (by simp) (by decide)) pas_nil))) (pas_cons (pd_dictT rfl (units2 hr) rfl (fr_dict hh) (by decide +kernel) (pd_lst (pas_cons (pd_tup (pas_cons (pd_tup (pas_cons pd_int (pas_cons pd_int pas_nil))) (pas_cons pd_int pas_nil))) (pas_cons (pd_tup (pas_cons (pd_tup (pas_cons pd_int (pas_cons pd_int pas_nil))) (pas_cons pd_int pas_nil))) pas_nil)))) pas_nil))))) pas_nil)))
    (pbk_cons (pst_expr (pd_mS md_ext PySem.F.plainAttrs_list PySem.F.slot_list_extend PySem.F.type_list_extend rfl (.inl rfl) (pas_cons (pd_lst (pas_cons (pd_tup (pas_cons (pd_tup (pas_cons pd_int (pas_cons pd_int pas_nil))) (pas_cons (pd_tup (pas_cons pd_int (pas_cons pd_int pas_nil))) (pas_cons pd_int pas_nil)))) (pas_cons (pd_tup (pas_cons (pd_tup (pas_cons pd_int (pas_cons pd_int pas_nil))) pas_nil)) (pas_cons (pd_tup (pas_cons (pd_tup (pas_cons pd_bl (pas_cons pd_int pas_nil))) (pas_cons (pd_tup (pas_cons pd_int (pas_cons pd_int pas_nil))) pas_nil))) (pas_cons pd_dnew (pas_cons (pd_lst pas_nil) (pas_cons (pd_tup (pas_cons pd_non (pas_cons (pd_tup (pas_cons pd_int (pas_cons pd_int pas_nil))) pas_nil))) (pas_cons (pd_tup (pas_cons (pd_tup (pas_cons pd_int (pas_cons pd_int pas_nil))) (pas_cons (pd_tup (pas_cons pd_int (pas_cons pd_int pas_nil))) pas_nil))) pas_nil)))))))) pas_nil)))
    (pbk_cons (pst_expr (pd_mS md_app PySem.F.plainAttrs_list PySem.F.slot_list_append PySem.F.type_list_append rfl (.inl rfl) (pas_cons (pd_tup (pas_cons (pd_tup (pas_cons pd_int (pas_cons pd_int pas_nil))) (pas_cons (pd_tup (pas_cons pd_int (pas_cons pd_int pas_nil))) pas_nil))) pas_nil)))
    (pbk_cons (pst_expr (pd_mS md_ext PySem.F.plainAttrs_list PySem.F.slot_list_extend PySem.F.type_list_extend rfl (.inl rfl) (pas_cons (pd_if (pc_cmp od_gt (pd_var rfl (.inl rfl)) pd_int) (pd_lst (pas_cons (pd_ixV rfl (.inl rfl) (pd_bin od_sub (pd_var rfl (.inl rfl)) pd_int)) (pas_cons (pd_tup (pas_cons (pd_ix (pd_ixV rfl (.inl rfl) (pd_bin od_sub (pd_var rfl (.inl rfl)) pd_int)) pd_int) (pas_cons (pd_tup (pas_cons pd_int (pas_cons pd_int pas_nil))) pas_nil))) (pas_cons (pd_tup (pas_cons (pd_tup (pas_cons pd_int (pas_cons pd_int pas_nil))) (pas_cons (pd_tup (pas_cons pd_int (pas_cons pd_int pas_nil))) pas_nil))) pas_nil)))) (pd_lst pas_nil)) pas_nil)))
    (pbk_cons (pst_set nd__law_bad_wishes rfl (.inl rfl) (pd_bin od_mul (pd_lst (pas_cons (pd_tup (pas_cons (pd_bin od_add (pd_bin od_add (pd_slV rfl (.inl rfl) pp_none (pp_some (pd_var rfl (.inl rfl)))) (pd_lst (pas_cons (pd_call (D__law_pick hh) (hr.mono (by decide)) takesD (pas_cons (pd_var rfl (.inl rfl)) (pas_cons (pd_var rfl (.inl rfl)) pas_nil)) (alen_cons (alen_cons alen_nil))) pas_nil))) (pd_slV rfl (.inl rfl) (pp_some (pd_var rfl (.inl rfl))) pp_none)) (pas_cons (pd_var rfl (.inl rfl)) pas_nil))) pas_nil)) pd_int))
    (pbk_one (pst_ret (pd_call (D__law_pick hh) (hr.mono (by decide)) takesD (pas_cons (pd_var rfl (.inl rfl)) (pas_cons (pd_bin od_add (pd_var rfl (.inl rfl)) (pd_lst (pas_cons (pd_tup (pas_cons pd_non (pas_cons pd_int pas_nil))) (pas_cons (pd_tup (pas_cons (pd_lst pas_nil) (pas_cons pd_int pas_nil))) (pas_cons (pd_tup (pas_cons (pd_tup pas_nil) (pas_cons pd_int pas_nil))) (pas_cons (pd_tup (pas_cons pd_str (pas_cons pd_int pas_nil))) (pas_cons (pd_tup (pas_cons pd_dnew (pas_cons pd_int pas_nil))) (pas_cons (pd_tup (pas_cons pd_int (pas_cons pd_int pas_nil))) pas_nil)))))))) pas_nil)) (alen_cons (alen_cons alen_nil))))))))))))
omit hh in
theorem nd_law : (["_law_script", "_law_stream_here", "_law_turn", "_law_room", "_law_length", "_law_wishes_here", "_law_early", "_law_late", "_law_bad", "_law_at", "_law_odd", "_law_few", "_law_held", "_law_found", "_law_one", "_law_due"] : List Str).Nodup := by decide +kernel
omit hh in
theorem sc_law : FnScope ["_law_script", "_law_stream_here", "_law_turn", "_law_room", "_law_length", "_law_wishes_here", "_law_early", "_law_late", "_law_bad", "_law_at", "_law_odd", "_law_few", "_law_held", "_law_found", "_law_one", "_law_due"] ["_law_script"] (defScope (top 78)) := ⟨rfl, rfl, rfl, by decide +kernel, rfl, by decide +kernel, by decide +kernel⟩
def m_law : MS := (sSeq (sSet 1 (eBox (bnd (aCons (eVar 0) aNil) (call F__law_stream))))
    (sSeq (sFor (bnd (aCons (pur (.int 3)) aNil) dRng1) (gNm 2) (sSeq (sParF [3, 4] (fCons (eb (pur (.int 1)) fun x => eb (bnd (aCons (eVar 1) (aCons (pur (.int 5)) aNil)) (call F__law_draw)) fun y => dAdd x y) (fCons (eb (pur (.int 1)) fun x => eb (bnd (aCons (eVar 1) (aCons (pur (.int 12)) aNil)) (call F__law_draw)) fun y => dAdd x y) fNil)))
    (sSeq (sAsg (eTup (aCons (bnd (aCons (eVar 1) (aCons (pur (.int 4)) aNil)) (call F__law_wishes)) (aCons (bnd (aCons (eVar 1) aNil) (call F__law_worths)) aNil))) (gTp (gCons (gNm 5) (gCons (gTp (gCons (gNm 6) (gCons (gNm 7) gNil))) gNil))))
    (sSeq (sAsg (bnd (aCons (eVar 1) (aCons (eVar 5) aNil)) (call F__law_bad_wishes)) (gTp (gCons (gNm 8) (gCons (gNm 9) gNil))))
    (sSeq (sFor (eb (eTup (aCons (pur .non) (aCons (pur (.int 0)) (aCons (eNeg (pur (.int 1))) (aCons (pur (.bl true)) (aCons (pur (.str "1")) (aCons (eTup (aCons (pur (.int 1)) (aCons (pur (.int 1)) aNil))) (aCons (eLst aNil) (aCons (ret (.dic [], true)) (aCons (pur (.gl "_law_pick")) aNil)))))))))) dSeq) (gNm 10) (sSeq (sIf (tNotM (tst (bnd (aCons (bnd (aCons (eVar 10) (aCons (eVar 10) (aCons (eVar 8) (aCons (eVar 10) (aCons (eVar 10) aNil))))) (call F__law_all)) (aCons (eb (eLst (aCons (eTup (aCons (pur (.str "room")) (aCons (eVar 10) aNil))) aNil)) fun x => eb (pur (.int 7)) fun y => dMul x y) aNil)) (call (F__law_same 8))))) (sRet (pur (.bl false))) sNx)
    (sIf (tNotM (tst (bnd (aCons (bnd (aCons (eVar 3) (aCons (eVar 10) (aCons (eVar 8) (aCons (eVar 10) (aCons (eVar 10) aNil))))) (call F__law_all)) (aCons (eb (eLst (aCons (eTup (aCons (pur (.str "length")) (aCons (eVar 10) aNil))) aNil)) fun x => eb (pur (.int 7)) fun y => dMul x y) aNil)) (call (F__law_same 8))))) (sRet (pur (.bl false))) sNx)))
    (sSeq (sIf (tNotM (tst (bnd (aCons (bnd (aCons (eVar 3) (aCons (eVar 4) (aCons (eVar 8) (aCons (pur .non) (aCons (pur .non) aNil))))) (call F__law_all)) (aCons (eb (eLst (aCons (eTup (aCons (pur (.str "wishes")) (aCons (eVar 9) aNil))) aNil)) fun x => eb (pur (.int 7)) fun y => dMul x y) aNil)) (call (F__law_same 8))))) (sRet (pur (.bl false))) sNx)
    (sSeq (sSet 11 (eLst (aCons (pur .non) (aCons (pur (.int 1)) (aCons (eTup (aCons (pur (.int 0)) (aCons (pur (.int 1)) aNil))) (aCons (eTup (aCons (pur (.int 0)) (aCons (pur (.int 2)) aNil))) (aCons (eLst (aCons (pur (.int 0)) (aCons (pur (.int 3)) aNil))) (aCons (eTup (aCons (eNeg (pur (.int 1))) (aCons (pur (.int 2)) aNil))) (aCons (eTup (aCons (pur (.int 1)) (aCons (pur (.int 0)) aNil))) (aCons (eTup (aCons (pur (.bl true)) (aCons (pur (.int 2)) aNil))) (aCons (pur (.str "12")) (aCons (eLst aNil) (aCons (ret (.dic [], true)) (aCons (eTup (aCons (pur (.int 1)) (aCons (pur (.int 2)) (aCons (pur (.int 3)) aNil)))) (aCons (eDic [((pur (.int 1)), (pur (.int 0))), ((pur (.int 2)), (pur (.int 0)))]) aNil)))))))))))))))
    (sSeq (sFor (eb (eb (eVar 11) fun x => eb (eLst (aCons (eTup (aCons (pur (.int 1)) (aCons (pur (.int 1)) aNil))) (aCons (eTup (aCons (pur (.int 2)) (aCons (pur (.int 2)) aNil))) (aCons (eTup (aCons (pur (.int 3)) (aCons (pur (.int 2)) aNil))) aNil)))) fun y => dAdd x y) dSeq) (gNm 10) (sIf (tNotM (tst (bnd (aCons (bnd (aCons (eVar 3) (aCons (eVar 4) (aCons (eVar 5) (aCons (eVar 10) (aCons (pur .non) aNil))))) (call F__law_all)) (aCons (eb (eLst (aCons (eTup (aCons (pur (.str "early")) (aCons (eVar 10) aNil))) aNil)) fun x => eb (pur (.int 7)) fun y => dMul x y) aNil)) (call (F__law_same 8))))) (sRet (pur (.bl false))) sNx))
    (sSeq (sFor (eb (eVar 11) dSeq) (gNm 10) (sIf (tNotM (tst (bnd (aCons (bnd (aCons (eVar 3) (aCons (eVar 4) (aCons (eVar 5) (aCons (eVar 6) (aCons (eVar 10) aNil))))) (call F__law_all)) (aCons (eb (eLst (aCons (eTup (aCons (pur (.str "late")) (aCons (eVar 10) aNil))) aNil)) fun x => eb (pur (.int 7)) fun y => dMul x y) aNil)) (call (F__law_same 8))))) (sRet (pur (.bl false))) sNx))
    (sSeq (sSet 12 (eLst (aCons (eBox (eLst (aCons (pur (.str "a")) aNil))) (aCons (eBox (eLst (aCons (pur (.str "b")) aNil))) (aCons (eBox (eLst (aCons (pur (.str "c")) aNil))) (aCons (eBox (eLst (aCons (pur (.str "d")) aNil))) aNil))))))
    (sSeq (sSet 13 (eLst (aCons (eMet true "told" metT (bnd (aCons (eIxV 12 (pur (.int 0))) (aCons (pur (.int 1)) (aCons (pur .non) (aCons (pur .non) (aCons (pur .non) aNil))))) (call F_settled))) aNil)))
    (sSeq (sExpr (mSlot "list" 13 (aCons (eMet true "told" metT (bnd (aCons (pur (.int 1)) (aCons (eIxV 12 (pur (.int 1))) (aCons (pur .non) (aCons (pur .non) (aCons (pur .non) aNil))))) (call F_toll))) aNil) fApp))
    (sSeq (sExpr (mSlot "list" 13 (aCons (eMet true "told" metT (bnd (aCons (pur (.int 1)) (aCons (pur (.int 1)) (aCons (eVar 5) (aCons (eIxV 12 (pur (.int 2))) (aCons (pur .non) aNil))))) (call F_paid))) aNil) fApp))
    (sSeq (sExpr (mSlot "list" 13 (aCons (eMet true "told" metT (bnd (aCons (pur (.int 1)) (aCons (pur (.int 1)) (aCons (eVar 5) (aCons (eVar 6) (aCons (eIxV 12 (pur (.int 3))) (aCons (pur .non) aNil)))))) (call F_gains))) aNil) fApp))
    (sSeq (sFor (eb (eVar 12) dSeq) (gNm 14) (sExpr (mBox "list" (eVar 14) (aCons (pur (.str "late")) aNil) fApp)))
    (sSeq (sSet 15 (eLst (aCons (eTup (aCons (pur (.str "room")) (aCons (eLst (aCons (pur (.str "a")) (aCons (pur (.str "late")) aNil))) aNil))) (aCons (eTup (aCons (pur (.str "length")) (aCons (eLst (aCons (pur (.str "b")) (aCons (pur (.str "late")) aNil))) aNil))) (aCons (eTup (aCons (pur (.str "early")) (aCons (eLst (aCons (pur (.str "c")) (aCons (pur (.str "late")) aNil))) aNil))) (aCons (eTup (aCons (pur (.str "late")) (aCons (eLst (aCons (pur (.str "d")) (aCons (pur (.str "late")) aNil))) aNil))) aNil))))))
    (sSeq (sIf (tNotM (tst (bnd (aCons (eVar 13) (aCons (eVar 15) aNil)) (call (F__law_same 8))))) (sRet (pur (.bl false))) sNx)
    (sSeq (sSet 13 (bnd (aCons (pur (.int 1)) (aCons (pur (.int 1)) (aCons (eLst (aCons (eTup (aCons (eTup (aCons (pur (.int 1)) (aCons (pur (.int 1)) aNil))) (aCons (eTup (aCons (pur (.int 30)) (aCons (pur (.int 1)) aNil))) aNil))) aNil)) (aCons (eTup (aCons (pur (.int 1)) (aCons (pur (.int 2)) aNil))) (aCons (eTup (aCons (pur (.int 1)) (aCons (pur (.int 2)) aNil))) aNil))))) (call F__law_all)))
    (sSeq (sSet 15 (eLst (aCons (eTup (aCons (pur (.str "soon")) (aCons (eTup (aCons (eNeg (pur (.int 15))) (aCons (pur (.int 1)) aNil))) aNil))) (aCons (eTup (aCons (pur (.str "told")) (aCons (eLst (aCons (eTup (aCons (eTup (aCons (eNeg (pur (.int 14))) (aCons (pur (.int 1)) aNil))) (aCons (eTup (aCons (pur (.int 16)) (aCons (pur (.int 1)) aNil))) (aCons (eLst (aCons (pur (.int 0)) aNil)) aNil)))) aNil)) aNil))) (aCons (eTup (aCons (pur (.str "told")) (aCons (eLst (aCons (eTup (aCons (pur (.int 15)) (aCons (pur (.int 2)) aNil))) aNil)) aNil))) (aCons (eTup (aCons (pur (.str "soon")) (aCons (eTup (aCons (eNeg (pur (.int 15))) (aCons (pur (.int 1)) aNil))) aNil))) aNil))))))
    (sIf (tNotM (tst (bnd (aCons (eVar 13) (aCons (eb (eVar 15) fun x => eb (eLst (aCons (eTup (aCons (pur (.str "soon")) (aCons (eTup (aCons (eNeg (pur (.int 15))) (aCons (pur (.int 1)) aNil))) aNil))) (aCons (eTup (aCons (pur (.str "told")) (aCons (eTup (aCons (pur (.int 225)) (aCons (pur (.int 2)) aNil))) aNil))) (aCons (eTup (aCons (pur (.str "setting")) (aCons (pur (.int 0)) aNil))) aNil)))) fun y => dAdd x y) aNil)) (call (F__law_same 8))))) (sRet (pur (.bl false))) sNx))))))))))))))))))))
    (sRet (pur (.bl true)))))
def F_law : Fn := fnD 16 m_law
theorem D_law : Def P w K mg base (TT K) "law" ["_law_script"] F_law 15 := def_of (k := 14) (N := ["_law_script", "_law_stream_here", "_law_turn", "_law_room", "_law_length", "_law_wishes_here", "_law_early", "_law_late", "_law_bad", "_law_at", "_law_odd", "_law_few", "_law_held", "_law_found", "_law_one", "_law_due"]) (m := m_law) (fn_law hh) (gl_law hh) sc_law (fun _ _ _ _ _ _ us hl => match us, hl with | [_], _ => rfl) fun A outer s H E hr =>
    (pbk_cons (pst_set nd_law rfl (.inl rfl) (pd_box (pd_call (D__law_stream hh) (hr.mono (by decide)) takesD (pas_cons (pd_var rfl (.inl rfl)) pas_nil) (alen_cons alen_nil))))
    (pbk_cons (pst_for passesD rfl (pit_range1 rfl (fr_range hh) (pas_cons pd_int pas_nil)) (pg_nm nd_law rfl (.inl rfl)) (pbk_cons (pst_parF rfl nd_law rfl rfl (by decide) rfl rfl (pd_bin od_add pd_int (pd_call (D__law_draw hh) (hr.mono (by decide)) takesD (pas_cons (pd_var rfl (.inl rfl)) (pas_cons pd_int pas_nil)) (alen_cons (alen_cons alen_nil)))) (pd_bin od_add pd_int (pd_call (D__law_draw hh) (hr.mono (by decide)) takesD (pas_cons (pd_var rfl (.inl rfl)) (pas_cons pd_int pas_nil)) (alen_cons (alen_cons alen_nil)))) rfl)
    (pbk_cons (pst_asg (pd_tup (pas_cons (pd_call (D__law_wishes hh) (hr.mono (by decide)) takesD (pas_cons (pd_var rfl (.inl rfl)) (pas_cons pd_int pas_nil)) (alen_cons (alen_cons alen_nil))) (pas_cons (pd_call (D__law_worths hh) (hr.mono (by decide)) takesD (pas_cons (pd_var rfl (.inl rfl)) pas_nil) (alen_cons alen_nil)) pas_nil))) (pg_tp rfl (pgts_cons (pg_nm nd_law rfl (.inr rfl)) (pgts_cons (pg_tp rfl (pgts_cons (pg_nm nd_law rfl (.inr rfl)) (pgts_cons (pg_nm nd_law rfl (.inl rfl)) pgts_nil))) pgts_nil))))
    (pbk_cons (pst_asg (pd_call (D__law_bad_wishes hh) (hr.mono (by decide)) takesD (pas_cons (pd_var rfl (.inl rfl)) (pas_cons (pd_var rfl (.inr (.inl rfl))) pas_nil)) (alen_cons (alen_cons alen_nil))) (pg_tp rfl (pgts_cons (pg_nm nd_law rfl (.inl rfl)) (pgts_cons (pg_nm nd_law rfl (.inl rfl)) pgts_nil))))
    (pbk_cons (pst_for passesD rfl (pit_seq (pd_tup (pas_cons pd_non (pas_cons pd_int (pas_cons (pd_neg pd_int) (pas_cons pd_bl (pas_cons pd_str (pas_cons (pd_tup (pas_cons pd_int (pas_cons pd_int pas_nil))) (pas_cons (pd_lst pas_nil) (pas_cons pd_dnew (pas_cons (pd_glob rfl (gl__law_pick hh) (ty__law_pick hh)) pas_nil))))))))))) (pg_nm nd_law rfl (.inl rfl)) (pbk_cons (pst_if (pc_not (pc_val (pd_call (D__law_same hh 8) (hr.mono (by decide)) takesD (pas_cons (pd_call (D__law_all hh) (hr.mono (by decide)) takesD (pas_cons (pd_var rfl (.inl rfl)) (pas_cons (pd_var rfl (.inl rfl)) (pas_cons (pd_var rfl (.inl rfl)) (pas_cons (pd_var rfl (.inl rfl)) (pas_cons (pd_var rfl (.inl rfl)) pas_nil))))) (alen_cons (alen_cons (alen_cons (alen_cons (alen_cons alen_nil)))))) (pas_cons (pd_bin od_mul (pd_lst (pas_cons (pd_tup (pas_cons pd_str (pas_cons (pd_var rfl (.inl rfl)) pas_nil))) pas_nil)) pd_int) pas_nil)) (alen_cons (alen_cons alen_nil))))) (pbk_one (pst_ret pd_bl)) pbk_nil)
    (pbk_one (pst_if (pc_not (pc_val (pd_call (D__law_same hh 8) (hr.mono (by decide)) takesD (pas_cons (pd_call (D__law_all hh) (hr.mono (by decide)) takesD (pas_cons (pd_var rfl (.inl rfl)) (pas_cons (pd_var rfl (.inl rfl)) (pas_cons (pd_var rfl (.inl rfl)) (pas_cons (pd_var rfl (.inl rfl)) (pas_cons (pd_var rfl (.inl rfl)) pas_nil))))) (alen_cons (alen_cons (alen_cons (alen_cons (alen_cons alen_nil)))))) (pas_cons (pd_bin od_mul (pd_lst (pas_cons (pd_tup (pas_cons pd_str (pas_cons (pd_var rfl (.inl rfl)) pas_nil))) pas_nil)) pd_int) pas_nil)) (alen_cons (alen_cons alen_nil))))) (pbk_one (pst_ret pd_bl)) pbk_nil))))
    (pbk_cons (pst_if (pc_not (pc_val (pd_call (D__law_same hh 8) (hr.mono (by decide)) takesD (pas_cons (pd_call (D__law_all hh) (hr.mono (by decide)) takesD (pas_cons (pd_var rfl (.inl rfl)) (pas_cons (pd_var rfl (.inl rfl)) (pas_cons (pd_var rfl (.inl rfl)) (pas_cons pd_non (pas_cons pd_non pas_nil))))) (alen_cons (alen_cons (alen_cons (alen_cons (alen_cons alen_nil)))))) (pas_cons (pd_bin od_mul (pd_lst (pas_cons (pd_tup (pas_cons pd_str (pas_cons (pd_var rfl (.inl rfl)) pas_nil))) pas_nil)) pd_int) pas_nil)) (alen_cons (alen_cons alen_nil))))) (pbk_one (pst_ret pd_bl)) pbk_nil)
    (pbk_cons (pst_set nd_law rfl (.inl rfl) (pd_lst (pas_cons pd_non (pas_cons pd_int (pas_cons (pd_tup (pas_cons pd_int (pas_cons pd_int pas_nil))) (pas_cons (pd_tup (pas_cons pd_int (pas_cons pd_int pas_nil))) (pas_cons (pd_lst (pas_cons pd_int (pas_cons pd_int pas_nil))) (pas_cons (pd_tup (pas_cons (pd_neg pd_int) (pas_cons pd_int pas_nil))) (pas_cons (pd_tup (pas_cons pd_int (pas_cons pd_int pas_nil))) (pas_cons (pd_tup (pas_cons pd_bl (pas_cons pd_int pas_nil))) (pas_cons pd_str (pas_cons (pd_lst pas_nil) (pas_cons pd_dnew (pas_cons (pd_tup (pas_cons pd_int (pas_cons pd_int (pas_cons pd_int pas_nil)))) (pas_cons (pd_dic (ms := [((pur (.int 1)), (pur (.int 0))), ((pur (.int 2)), (pur (.int 0)))]) (pps_cons pd_int pd_int (pps_cons pd_int pd_int pps_nil)) rfl rfl (by simp) (by decide)) pas_nil)))))))))))))))
    (pbk_cons (pst_for passesD rfl (pit_seq (pd_bin od_add (pd_var rfl (.inl rfl)) (pd_lst (pas_cons (pd_tup (pas_cons pd_int (pas_cons pd_int pas_nil))) (pas_cons (pd_tup (pas_cons pd_int (pas_cons pd_int pas_nil))) (pas_cons (pd_tup (pas_cons pd_int (pas_cons pd_int pas_nil))) pas_nil)))))) (pg_nm nd_law rfl (.inl rfl)) (pbk_one (pst_if (pc_not (pc_val (pd_call (D__law_same hh 8) (hr.mono (by decide)) takesD (pas_cons (pd_call (D__law_all hh) (hr.mono (by decide)) takesD (pas_cons (pd_var rfl (.inl rfl)) (pas_cons (pd_var rfl (.inl rfl)) (pas_cons (pd_var rfl (.inr (.inl rfl))) (pas_cons (pd_var rfl (.inl rfl)) (pas_cons pd_non pas_nil))))) (alen_cons (alen_cons (alen_cons (alen_cons (alen_cons alen_nil)))))) (pas_cons (pd_bin od_mul (pd_lst (pas_cons (pd_tup (pas_cons pd_str (pas_cons (pd_var rfl (.inl rfl)) pas_nil))) pas_nil)) pd_int) pas_nil)) (alen_cons (alen_cons alen_nil))))) (pbk_one (pst_ret pd_bl)) pbk_nil)))
    (pbk_cons (pst_for passesD rfl (pit_seq (pd_var rfl (.inl rfl))) (pg_nm nd_law rfl (.inl rfl)) (pbk_one (pst_if (pc_not (pc_val (pd_call (D__law_same hh 8) (hr.mono (by decide)) takesD (pas_cons (pd_call (D__law_all hh) (hr.mono (by decide)) takesD (pas_cons (pd_var rfl (.inl rfl)) (pas_cons (pd_var rfl (.inl rfl)) (pas_cons (pd_var rfl (.inr (.inl rfl))) (pas_cons (pd_var rfl (.inr (.inl rfl))) (pas_cons (pd_var rfl (.inl rfl)) pas_nil))))) (alen_cons (alen_cons (alen_cons (alen_cons (alen_cons alen_nil)))))) (pas_cons (pd_bin od_mul (pd_lst (pas_cons (pd_tup (pas_cons pd_str (pas_cons (pd_var rfl (.inl rfl)) pas_nil))) pas_nil)) pd_int) pas_nil)) (alen_cons (alen_cons alen_nil))))) (pbk_one (pst_ret pd_bl)) pbk_nil)))
    (pbk_cons (pst_set nd_law rfl (.inr rfl) (pd_lst (pas_cons (pd_box (pd_lst (pas_cons pd_str pas_nil))) (pas_cons (pd_box (pd_lst (pas_cons pd_str pas_nil))) (pas_cons (pd_box (pd_lst (pas_cons pd_str pas_nil))) (pas_cons (pd_box (pd_lst (pas_cons pd_str pas_nil))) pas_nil))))))
    (pbk_cons (pst_set nd_law rfl (.inl rfl) (pd_lst (pas_cons (met_of (kk := 11) hh (by rfl) (hr.mono (by decide)) (tb_law hh) tm_law (tu_law hh) (LamX.lamS_by (by decide +kernel)) rfl (fun _ _ _ _ _ => rfl) fun A2 outer2 s2 H2 E2 f2 c2 hr2 => (pd_call (D_settled hh) (hr2.mono (by decide)) takesL (pas_cons (pd_ixV rfl (.inr (.inr rfl)) pd_int) (pas_cons pd_int (pas_cons pd_non (pas_cons pd_non (pas_cons pd_non pas_nil))))) (alen_cons (alen_cons (alen_cons (alen_cons (alen_cons alen_nil))))))) pas_nil)))
    (pbk_cons (pst_expr (pd_mS md_app PySem.F.plainAttrs_list PySem.F.slot_list_append PySem.F.type_list_append rfl (.inl rfl) (pas_cons (met_of (kk := 11) hh (by rfl) (hr.mono (by decide)) (tb_law hh) tm_law (tu_law hh) (LamX.lamS_by (by decide +kernel)) rfl (fun _ _ _ _ _ => rfl) fun A2 outer2 s2 H2 E2 f2 c2 hr2 => (pd_call (D_toll hh) (hr2.mono (by decide)) takesL (pas_cons pd_int (pas_cons (pd_ixV rfl (.inr (.inr rfl)) pd_int) (pas_cons pd_non (pas_cons pd_non (pas_cons pd_non pas_nil))))) (alen_cons (alen_cons (alen_cons (alen_cons (alen_cons alen_nil))))))) pas_nil)))
    (pbk_cons (pst_expr (pd_mS md_app PySem.F.plainAttrs_list PySem.F.slot_list_append PySem.F.type_list_append rfl (.inl rfl) (pas_cons (met_of (kk := 11) hh (by rfl) (hr.mono (by decide)) (tb_law hh) tm_law (tu_law hh) (LamX.lamS_by (by decide +kernel)) rfl (fun _ _ _ _ _ => rfl) fun A2 outer2 s2 H2 E2 f2 c2 hr2 => (pd_call (D_paid hh) (hr2.mono (by decide)) takesL (pas_cons pd_int (pas_cons pd_int (pas_cons (pd_var rfl (.inr (.inr rfl))) (pas_cons (pd_ixV rfl (.inr (.inr rfl)) pd_int) (pas_cons pd_non pas_nil))))) (alen_cons (alen_cons (alen_cons (alen_cons (alen_cons alen_nil))))))) pas_nil)))
    (pbk_cons (pst_expr (pd_mS md_app PySem.F.plainAttrs_list PySem.F.slot_list_append PySem.F.type_list_append rfl (.inl rfl) (pas_cons (met_of (kk := 10) hh (by rfl) (hr.mono (by decide)) (tb_law hh) tm_law (tu_law hh) (LamX.lamS_by (by decide +kernel)) rfl (fun _ _ _ _ _ => rfl) fun A2 outer2 s2 H2 E2 f2 c2 hr2 => (pd_call (D_gains hh) (hr2.mono (by decide)) takesL (pas_cons pd_int (pas_cons pd_int (pas_cons (pd_var rfl (.inr (.inr rfl))) (pas_cons (pd_var rfl (.inr (.inr rfl))) (pas_cons (pd_ixV rfl (.inr (.inr rfl)) pd_int) (pas_cons pd_non pas_nil)))))) (alen_cons (alen_cons (alen_cons (alen_cons (alen_cons (alen_cons alen_nil)))))))) pas_nil)))
    (pbk_cons (pst_for passesD rfl (pit_seq (pd_var rfl (.inr (.inl rfl)))) (pg_nm nd_law rfl (.inl rfl)) (pbk_one (pst_expr (pd_mB md_app PySem.F.plainAttrs_list PySem.F.slot_list_append PySem.F.type_list_append (pd_var rfl (.inl rfl)) (pas_cons pd_str pas_nil)))))
    (pbk_cons (pst_set nd_law rfl (.inl rfl) (pd_lst (pas_cons (pd_tup (pas_cons pd_str (pas_cons (pd_lst (pas_cons pd_str (pas_cons pd_str pas_nil))) pas_nil))) (pas_cons (pd_tup (pas_cons pd_str (pas_cons (pd_lst (pas_cons pd_str (pas_cons pd_str pas_nil))) pas_nil))) (pas_cons (pd_tup (pas_cons pd_str (pas_cons (pd_lst (pas_cons pd_str (pas_cons pd_str pas_nil))) pas_nil))) (pas_cons (pd_tup (pas_cons pd_str (pas_cons (pd_lst (pas_cons pd_str (pas_cons pd_str pas_nil))) pas_nil))) pas_nil))))))
    (pbk_cons (pst_if (pc_not (pc_val (pd_call (D__law_same hh 8) (hr.mono (by decide)) takesD (pas_cons (pd_var rfl (.inl rfl)) (pas_cons (pd_var rfl (.inl rfl)) pas_nil)) (alen_cons (alen_cons alen_nil))))) (pbk_one (pst_ret pd_bl)) pbk_nil)
    (pbk_cons (pst_set nd_law rfl (.inl rfl) (pd_call (D__law_all hh) (hr.mono (by decide)) takesD (pas_cons pd_int (pas_cons pd_int (pas_cons (pd_lst (pas_cons (pd_tup (pas_cons (pd_tup (pas_cons pd_int (pas_cons pd_int pas_nil))) (pas_cons (pd_tup (pas_cons pd_int (pas_cons pd_int pas_nil))) pas_nil))) pas_nil)) (pas_cons (pd_tup (pas_cons pd_int (pas_cons pd_int pas_nil))) (pas_cons (pd_tup (pas_cons pd_int (pas_cons pd_int pas_nil))) pas_nil))))) (alen_cons (alen_cons (alen_cons (alen_cons (alen_cons alen_nil)))))))
    (pbk_cons (pst_set nd_law rfl (.inl rfl) (pd_lst (pas_cons (pd_tup (pas_cons pd_str (pas_cons (pd_tup (pas_cons (pd_neg pd_int) (pas_cons pd_int pas_nil))) pas_nil))) (pas_cons (pd_tup (pas_cons pd_str (pas_cons (pd_lst (pas_cons (pd_tup (pas_cons (pd_tup (pas_cons (pd_neg pd_int) (pas_cons pd_int pas_nil))) (pas_cons (pd_tup (pas_cons pd_int (pas_cons pd_int pas_nil))) (pas_cons (pd_lst (pas_cons pd_int pas_nil)) pas_nil)))) pas_nil)) pas_nil))) (pas_cons (pd_tup (pas_cons pd_str (pas_cons (pd_lst (pas_cons (pd_tup (pas_cons pd_int (pas_cons pd_int pas_nil))) pas_nil)) pas_nil))) (pas_cons (pd_tup (pas_cons pd_str (pas_cons (pd_tup (pas_cons (pd_neg pd_int) (pas_cons pd_int pas_nil))) pas_nil))) pas_nil))))))
    (pbk_one (pst_if (pc_not (pc_val (pd_call (D__law_same hh 8) (hr.mono (by decide)) takesD (pas_cons (pd_var rfl (.inl rfl)) (pas_cons (pd_bin od_add (pd_var rfl (.inl rfl)) (pd_lst (pas_cons (pd_tup (pas_cons pd_str (pas_cons (pd_tup (pas_cons (pd_neg pd_int) (pas_cons pd_int pas_nil))) pas_nil))) (pas_cons (pd_tup (pas_cons pd_str (pas_cons (pd_tup (pas_cons pd_int (pas_cons pd_int pas_nil))) pas_nil))) (pas_cons (pd_tup (pas_cons pd_str (pas_cons pd_int pas_nil))) pas_nil))))) pas_nil)) (alen_cons (alen_cons alen_nil))))) (pbk_one (pst_ret pd_bl)) pbk_nil)))))))))))))))))))))
    (pbk_one (pst_ret pd_bl))))
end
end K78

set_option Elab.async false
set_option linter.all false
set_option maxRecDepth 100000
set_option maxHeartbeats 0
set_option autoImplicit false
namespace K78
open PySem PySem.Spec PyProof.Rows L2 TD
/-- a worth of a def -/
def Wf (r : FR) (Q : D → Sto → Prop) : Prop := ∃ d S, r = .ok d false S ∧ Q d S
/-! ### the stream of draws -/
def st (xs : List Int) (cur cnt mix : Int) (r : Sto) : Sto := .lst (xs.map .int) :: .lst [.box 0, .int cur, .int cnt, .int mix] :: r
structure StOk (n : Nat) (r S : Sto) : Prop where
  ex : ∃ xs cur cnt mix, S = st xs cur cnt mix r ∧ 0 ≤ cur ∧ 0 ≤ cnt ∧ cnt ≤ n ∧ 0 ≤ mix ∧ mix < 2147483647
theorem StOk.mono {n m : Nat} {r S : Sto} (h : StOk n r S) (k : n ≤ m) : StOk m r S := by
  obtain ⟨xs, cur, cnt, mix, e, a, b, c, d⟩ := h
  exact ⟨xs, cur, cnt, mix, e, a, b, by omega, d⟩
theorem toPs_ints : ∀ xs : List Int, toPs (xs.map .int) = some (xs.map .int)
  | [] => rfl
  | x :: xs => by
    show (match toP (.int x), toPs (xs.map .int) with | some p, some ps => some (p :: ps) | _, _ => none) = _
    rw [toPs_ints xs]; rfl
theorem lay_ints : ∀ xs : List Int, PyData.canLayAll0 (xs.map .int) = true
  | [] => rfl
  | x :: xs => by
    show (PyData.canLay0 (.int x) && PyData.canLayAll0 (xs.map .int)) = true
    rw [lay_ints xs]; rfl
theorem dep_ints : ∀ xs : List Int, PyData.depthAll (xs.map .int) ≤ 1
  | [] => by decide
  | x :: xs => by
    have := dep_ints xs
    simp only [List.map_cons, PyData.depthAll, PyData.depth]
    omega
theorem cmp_ints (xs : List Int) : cmpP (.lst (xs.map .int)) (.lst []) = some xs.isEmpty := by
  unfold cmpP
  have e : toP (.lst (xs.map .int)) = some (.list (xs.map .int)) := by
    show (toPs (xs.map .int)).map PyData.list = _
    rw [toPs_ints]; rfl
  have e2 : toP (.lst []) = some (.list []) := rfl
  have s1 : SeqAt.shaped (.list (xs.map .int)) = true := by
    unfold SeqAt.shaped
    rw [Bool.and_eq_true, decide_eq_true_eq]
    refine ⟨lay_ints xs, ?_⟩
    have := dep_ints xs
    simp only [PyData.depth]
    omega
  have s2 : SeqAt.shaped (.list []) = true := by decide
  rw [e, e2]
  show (if (SeqAt.shaped (.list (xs.map .int)) && SeqAt.shaped (.list [])) = true then some (PyData.eqv (.list (xs.map .int)) (.list [])) else none) = _
  rw [s1, s2]
  cases xs <;> rfl

/-! ### one draw -/
def tC : MT := (tAndM (tst (eb (eIxV 0 (pur (.int 1))) fun x => eb (pur (.int 0)) fun y => dEq x y)) (tst (eNeB (eIxV 0 (pur (.int 0))) (eLst aNil))))
def sPop : MS := (sSet 2 (bnd (brD (mBox "list" (eIxV 0 (pur (.int 0))) (aCons (pur (.int 0)) aNil) fPopAt)) dAbs))
def sMix : MS := (sPutB (eb (bnd (brD (eb (eb (eb (eIxV 0 (pur (.int 3))) fun x => eb (pur (.int 8191)) fun y => dMul x y) fun x => eb (eVar 2) fun y => dAdd x y) fun x => eb (pur (.int 3)) fun y => dAdd x y)) dInt) fun x => eb (pur (.int 2147483647)) fun y => dMod x y) (eVar 0) (pur (.int 3)))
def sCur : MS := (sPutB (iff (tst (eb (eVar 2) fun x => eb (eb (pur (.int 10)) fun x => eb (pur (.int 18)) fun y => dPow x y) fun y => dGe x y)) (eVar 2) (pur (.int 0))) (eVar 0) (pur (.int 1)))
def evD (many : Int) (a b c : Slot) : Ev := [.sh (.box 1), .sh (.int many), a, b, c]
section
variable {xs : List Int} {x cur cnt mix many : Int} {r : Sto} {a b c : Slot}
theorem tC_eq : tC (evD many a b c) (st xs cur cnt mix r) = .ok (if decide (cur = 0) = true then !xs.isEmpty else false) (evD many a b c) (st xs cur cnt mix r) := by
  have e2 : tst (eNeB (eIxV 0 (pur (.int 0))) (eLst aNil)) (evD many a b c) (st xs cur cnt mix r) = .ok (!xs.isEmpty) (evD many a b c) (st xs cur cnt mix r) := by
    show tst (dNeP (.lst (xs.map .int)) (.lst [])) (evD many a b c) (st xs cur cnt mix r) = _
    unfold dNeP
    rw [cmp_ints]
    rfl
  show (if decide (cur = 0) = true then tst (eNeB (eIxV 0 (pur (.int 0))) (eLst aNil)) else ret false) (evD many a b c) (st xs cur cnt mix r) = _
  by_cases h : decide (cur = 0) = true
  · rw [if_pos h, if_pos h, e2]
  · rw [if_neg h, if_neg h]; rfl
theorem bnd_ok {α β : Type} {m : M α} {k : α → M β} {t t' : Ev} {S S' : Sto} {a : α} (e : m t S = .ok a t' S') : TD.bnd m k t S = k a t' S' := by unfold TD.bnd; rw [e]
theorem bnd_tr {α β : Type} {m : M α} {k : α → M β} {t t' : Ev} {S S' : Sto} {a : α} {z : R β} (e : m t S = .ok a t' S') (h : k a t' S' = z) : TD.bnd m k t S = z := (bnd_ok e).trans h
theorem fPop0 (l : List D) (d : D) : fPopAt [.int 0] (.lst (d :: l)) = some (.lst l, d) := by
  have e : seqIndex? 0 (d :: l).length = some 0 := by
    unfold seqIndex?
    simp
  unfold fPopAt
  simp only [e]
  rfl
theorem sPop_eq : sPop (evD many a b c) (st (x :: xs) cur cnt mix r) = .ok .nx (evD many (.sh (.int (if x < 0 then -x else x))) b c) (st xs cur cnt mix r) := by
  have e : mBox "list" (eIxV 0 (pur (.int 0))) (aCons (pur (.int 0)) aNil) fPopAt (evD many a b c) (st (x :: xs) cur cnt mix r) = .ok (.int x, false) (evD many a b c) (st xs cur cnt mix r) := by
    show (match fPopAt [.int 0] (.lst (.int x :: xs.map .int)) with | some (d', y) => R.ok (y, false) (evD many a b c) ((st (x :: xs) cur cnt mix r).set 0 d') | none => .bad) = _
    rw [fPop0]
    rfl
  have e2 : brD (mBox "list" (eIxV 0 (pur (.int 0))) (aCons (pur (.int 0)) aNil) fPopAt) (evD many a b c) (st (x :: xs) cur cnt mix r) = .ok (.int x) (evD many a b c) (st xs cur cnt mix r) := by
    unfold brD
    rw [e]
    rfl
  exact bnd_tr (bnd_tr e2 rfl) rfl
theorem mulOk_of {i j : Int} (h1 : i.natAbs < 2 ^ 400) (h2 : j.natAbs < 2 ^ 400) : mulOk i j = true := by
  unfold mulOk
  rw [decide_eq_true_eq]
  have g : ∀ n : Nat, n < 2 ^ 400 → n.log2 < 400 := fun n h => by
    by_cases z : n = 0
    · subst z; decide
    · exact (Nat.log2_lt z).mpr h
  have := g _ h1
  have := g _ h2
  omega
theorem sMix_eq {y : Int} (h0 : 0 ≤ mix) (h1 : mix < 2147483647) : sMix (evD many (.sh (.int y)) b c) (st xs cur cnt mix r) = .ok .nx (evD many (.sh (.int y)) b c) (st xs cur cnt ((mix * 8191 + y + 3) % 2147483647) r) := by
  have m : mulOk mix 8191 = true := mulOk_of (Nat.lt_of_lt_of_le (show mix.natAbs < 2 ^ 31 by omega) (by decide)) (by decide)
  have e : dMul (.int mix) (.int 8191) = pur (.int (mix * 8191)) := by
    show (if mulOk mix 8191 = true then pur (.int (mix * 8191)) else bad) = _
    rw [if_pos m]
  have e1 : (eb (eIxV 0 (pur (.int 3))) fun x => eb (pur (.int 8191)) fun y => dMul x y) (evD many (.sh (.int y)) b c) (st xs cur cnt mix r) = .ok (.int (mix * 8191), false) (evD many (.sh (.int y)) b c) (st xs cur cnt mix r) := by
    show dMul (.int mix) (.int 8191) (evD many (.sh (.int y)) b c) (st xs cur cnt mix r) = _
    rw [e]
    rfl
  have e2 : brD (eb (eb (eb (eIxV 0 (pur (.int 3))) fun x => eb (pur (.int 8191)) fun y => dMul x y) fun x => eb (eVar 2) fun y => dAdd x y) fun x => eb (pur (.int 3)) fun y => dAdd x y) (evD many (.sh (.int y)) b c) (st xs cur cnt mix r) = .ok (.int (mix * 8191 + y + 3)) (evD many (.sh (.int y)) b c) (st xs cur cnt mix r) := by
    unfold brD
    rw [show (eb (eb (eb (eIxV 0 (pur (.int 3))) fun x => eb (pur (.int 8191)) fun y => dMul x y) fun x => eb (eVar 2) fun y => dAdd x y) fun x => eb (pur (.int 3)) fun y => dAdd x y) (evD many (.sh (.int y)) b c) (st xs cur cnt mix r) = .ok (.int (mix * 8191 + y + 3), false) (evD many (.sh (.int y)) b c) (st xs cur cnt mix r) from bnd_tr (bnd_tr e1 rfl) rfl]
    rfl
  exact bnd_tr (bnd_tr (bnd_tr e2 rfl) rfl) rfl
theorem sCur_eq {y : Int} : sCur (evD many (.sh (.int y)) b c) (st xs cur cnt mix r) = .ok .nx (evD many (.sh (.int y)) b c) (st xs (if decide (10 ^ 18 ≤ y) = true then y else 0) cnt mix r) := by
  have e : (iff (tst (eb (eVar 2) fun x => eb (eb (pur (.int 10)) fun x => eb (pur (.int 18)) fun y => dPow x y) fun y => dGe x y)) (eVar 2) (pur (.int 0))) (evD many (.sh (.int y)) b c) (st xs cur cnt mix r) = .ok (.int (if decide (10 ^ 18 ≤ y) = true then y else 0), false) (evD many (.sh (.int y)) b c) (st xs cur cnt mix r) := by
    show (if decide ((10:Int) ^ 18 ≤ y) = true then eVar 2 else pur (.int 0)) (evD many (.sh (.int y)) b c) (st xs cur cnt mix r) = _
    by_cases h : decide ((10:Int) ^ 18 ≤ y) = true
    · rw [if_pos h, if_pos h]; rfl
    · rw [if_neg h, if_neg h]; rfl
  exact bnd_tr e rfl
theorem draw_loop : ∀ (n : Nat) (xs : List Int) (a : Slot) (cur mix : Int), xs.length < n → 0 ≤ cur → 0 ≤ mix → mix < 2147483647 →
    ∃ xs' a' cur' mix', wloop n tC (sSeq sPop (sSeq sMix sCur)) (evD many a b c) (st xs cur cnt mix r) = .ok .nx (evD many a' b c) (st xs' cur' cnt mix' r) ∧ 0 ≤ cur' ∧ 0 ≤ mix' ∧ mix' < 2147483647
  | 0, _, _, _, _, h, _, _, _ => absurd h (Nat.not_lt_zero _)
  | n + 1, [], a, cur, mix, h, h0, h1, h2 => by
    refine ⟨[], a, cur, mix, ?_, h0, h1, h2⟩
    refine bnd_tr tC_eq ?_
    by_cases z : decide (cur = 0) = true
    · rw [if_pos z]; rfl
    · rw [if_neg z]; rfl
  | n + 1, x :: xs, a, cur, mix, h, h0, h1, h2 => by
    by_cases z : decide (cur = 0) = true
    · have hy : ∃ y : Int, (if x < 0 then -x else x) = y ∧ 0 ≤ y := ⟨_, rfl, by split <;> omega⟩
      obtain ⟨y, ey, hy⟩ := hy
      have sp : sPop (evD many a b c) (st (x :: xs) cur cnt mix r) = .ok .nx (evD many (.sh (.int y)) b c) (st xs cur cnt mix r) := by rw [sPop_eq, ey]
      obtain ⟨xs', a', cur', mix', e, g⟩ := draw_loop n xs (.sh (.int y)) (if decide (10 ^ 18 ≤ y) = true then y else 0) ((mix * 8191 + y + 3) % 2147483647) (by simp only [List.length_cons] at h; omega) (by split <;> omega) (Int.emod_nonneg _ (by decide)) (Int.emod_lt_of_pos _ (by decide))
      refine ⟨xs', a', cur', mix', ?_, g⟩
      refine bnd_tr tC_eq ?_
      rw [if_pos z]
      refine bnd_tr (a := Fl.nx) (bnd_tr sp (bnd_tr (sMix_eq h1 h2) sCur_eq)) e
    · refine ⟨x :: xs, a, cur, mix, ?_, h0, h1, h2⟩
      refine bnd_tr tC_eq ?_
      rw [if_neg z]; rfl
def sFst : MS := (sPutB (eb (eIxV 0 (pur (.int 2))) fun x => eb (pur (.int 1)) fun y => dAdd x y) (eVar 0) (pur (.int 2)))
def sDig : MS := (sSeq (sSet 3 (eb (bnd (brD (eIxV 0 (pur (.int 1)))) dInt) fun x => eb (eVar 1) fun y => dMod x y))
    (sSeq (sPutB (eb (eIxV 0 (pur (.int 1))) fun x => eb (eVar 1) fun y => dFdiv x y) (eVar 0) (pur (.int 1)))
    (sRet (eMove 3))))
def eMx : ME := (eb (bnd (brD (eb (eb (eb (eIxV 0 (pur (.int 3))) fun x => eb (eb (pur (.int 7919)) fun x => eb (eIxV 0 (pur (.int 2))) fun y => dMul x y) fun y => dAdd x y) fun x => eb (pur (.int 104729)) fun y => dAdd x y) fun x => eb (pur (.int 5)) fun y => dPow x y)) dInt) fun x => eb (pur (.int 2147483629)) fun y => dMod x y)
def eRs : ME := (eb (eb (bnd (brD (eb (eb (eb (eb (eVar 4) fun x => eb (pur (.int 48271)) fun y => dMul x y) fun x => eb (eb (pur (.int 30011)) fun x => eb (eIxV 0 (pur (.int 2))) fun y => dMul x y) fun y => dAdd x y) fun x => eb (pur (.int 29)) fun y => dAdd x y) fun x => eb (pur (.int 3)) fun y => dPow x y)) dInt) fun x => eb (pur (.int 1000000007)) fun y => dMod x y) fun x => eb (eVar 1) fun y => dMod x y)
theorem draw_eq : m__law_draw = sSeq sFst (sSeq (sWhile fuBox tC (sSeq sPop (sSeq sMix sCur))) (sSeq (sIf (tst (eb (eIxV 0 (pur (.int 1))) fun x => eb (pur (.int 0)) fun y => dGt x y)) sDig sNx) (sSeq (sSet 4 eMx) (sRet eRs)))) := rfl
theorem dMul_ok {i j : Int} (h : mulOk i j = true) : dMul (.int i) (.int j) = pur (.int (i * j)) := by
  show (if mulOk i j = true then pur (.int (i * j)) else bad) = _
  rw [if_pos h]
theorem dPow_ok {i j : Int} (h : powOk i j = true) : dPow (.int i) (.int j) = pur (.int (i ^ j.toNat)) := by
  show (if powOk i j = true then pur (.int (i ^ j.toNat)) else bad) = _
  rw [if_pos h]
theorem dMod_ok {i j : Int} (h : 0 < j) : dMod (.int i) (.int j) = pur (.int (i % j)) := by
  show (if 0 < j then pur (.int (i % j)) else if j < 0 then pur (.int (i.fmod j)) else bad) = _
  rw [if_pos h]
theorem dFdiv_ok {i j : Int} (h : 0 < j) (k : j < 2 ^ 200) : dFdiv (.int i) (.int j) = pur (.int (i / j)) := by
  have d : divOk j = true := by
    unfold divOk
    rw [Bool.and_eq_true, decide_eq_true_eq, decide_eq_true_eq]
    refine ⟨h, ?_⟩
    have := (Nat.log2_lt (show j.natAbs ≠ 0 by omega)).mpr (show j.natAbs < 2 ^ 200 by omega)
    omega
  show (if divOk j = true then pur (.int (i / j)) else if divNOk j = true then pur (.int (i.fdiv j)) else bad) = _
  rw [if_pos d]
theorem powOk_of {i j : Int} (h0 : 0 ≤ j) (h1 : j ≤ 1000000) (h : i.natAbs < 18446744073709551616) : powOk i j = true := by
  unfold powOk
  rw [Bool.and_eq_true, Bool.and_eq_true, decide_eq_true_eq, decide_eq_true_eq, decide_eq_true_eq]
  exact ⟨⟨h0, h1⟩, h⟩
theorem brD_tr {m : ME} {t t' : Ev} {S S' : Sto} {x : D × Bool} {d : D} (e : m t S = .ok x t' S') (h : vw S' x.1 = d) : brD m t S = .ok d t' S' := by
  unfold brD
  rw [e, ← h]
theorem f_tr {α : Type} {m m' : M α} {t : Ev} {S : Sto} {z : R α} (e : m = m') (h : m' t S = z) : m t S = z := by rw [e]; exact h
theorem dMul_at {i j : Int} {t : Ev} {S : Sto} (h : mulOk i j = true) : dMul (.int i) (.int j) t S = .ok (.int (i * j), false) t S := by rw [dMul_ok h]; rfl
theorem dPow_at {i j : Int} {t : Ev} {S : Sto} (h : powOk i j = true) : dPow (.int i) (.int j) t S = .ok (.int (i ^ j.toNat), false) t S := by rw [dPow_ok h]; rfl
theorem dMod_at {i j : Int} {t : Ev} {S : Sto} (h : 0 < j) : dMod (.int i) (.int j) t S = .ok (.int (i % j), false) t S := by rw [dMod_ok h]; rfl
theorem dFdiv_at {i j : Int} {t : Ev} {S : Sto} (h : 0 < j) (k : j < 2 ^ 200) : dFdiv (.int i) (.int j) t S = .ok (.int (i / j), false) t S := by rw [dFdiv_ok h k]; rfl
theorem draw_ok {n : Nat} {S : Sto} (h : StOk n r S) (hn : n < 1000000) (m1 : 1 ≤ many) (m2 : many < 1000000000) : Wf (F__law_draw [.box 1, .int many] S) fun d S' => ∃ k : Int, d = .int k ∧ 0 ≤ k ∧ k < many ∧ StOk (n + 1) r S' := by
  obtain ⟨xs, cur, cnt, mix, rfl, h0, h1, h2, h3, h4⟩ := h
  have e1 : sFst (evD many .no .no .no) (st xs cur cnt mix r) = .ok .nx (evD many .no .no .no) (st xs cur (cnt + 1) mix r) := rfl
  obtain ⟨xs', a', cur', mix', e2, g1, g2, g3⟩ := draw_loop (b := .no) (c := .no) (cnt := cnt + 1) (r := r) (many := many) ((xs.map D.int).length + 1) xs .no cur mix (by rw [List.length_map]; omega) h0 h3 h4
  have e3 : (tst (eb (eIxV 0 (pur (.int 1))) fun x => eb (pur (.int 0)) fun y => dGt x y)) (evD many a' .no .no) (st xs' cur' (cnt + 1) mix' r) = .ok (decide (0 < cur')) (evD many a' .no .no) (st xs' cur' (cnt + 1) mix' r) := rfl
  have key : ∃ (k : Int) (t : Ev) (S' : Sto), m__law_draw (evD many .no .no .no) (st xs cur cnt mix r) = .ok (.rt (.int k) false) t S' ∧ 0 ≤ k ∧ k < many ∧ StOk (n + 1) r S' := by
    rw [draw_eq]
    by_cases z : decide (0 < cur') = true
    · have z' := of_decide_eq_true z
      have e4 : sDig (evD many a' .no .no) (st xs' cur' (cnt + 1) mix' r) = .ok (.rt (.int (cur' % many)) false) (evD many a' (.sh (.int (cur' % many))) .no) (st xs' (cur' / many) (cnt + 1) mix' r) := by
        have q1 : (eb (bnd (brD (eIxV 0 (pur (.int 1)))) dInt) fun x => eb (eVar 1) fun y => dMod x y) (evD many a' .no .no) (st xs' cur' (cnt + 1) mix' r) = .ok (.int (cur' % many), false) (evD many a' .no .no) (st xs' cur' (cnt + 1) mix' r) := dMod_at (by omega)
        have q2 : (eb (eIxV 0 (pur (.int 1))) fun x => eb (eVar 1) fun y => dFdiv x y) (evD many a' (.sh (.int (cur' % many))) .no) (st xs' cur' (cnt + 1) mix' r) = .ok (.int (cur' / many), false) (evD many a' (.sh (.int (cur' % many))) .no) (st xs' cur' (cnt + 1) mix' r) := dFdiv_at (by omega) (by omega)
        exact bnd_tr (a := Fl.nx) (t' := evD many a' (.sh (.int (cur' % many))) .no) (bnd_tr q1 rfl) (bnd_tr (a := Fl.nx) (t' := evD many a' (.sh (.int (cur' % many))) .no) (S' := st xs' (cur' / many) (cnt + 1) mix' r) (bnd_tr q2 rfl) rfl)
      refine ⟨cur' % many, _, st xs' (cur' / many) (cnt + 1) mix' r, bnd_tr e1 (bnd_tr e2 (bnd_tr (bnd_tr e3 ((congrFun (congrFun (if_pos z) _) _).trans e4)) rfl)), Int.emod_nonneg _ (by omega), Int.emod_lt_of_pos _ (by omega), ⟨xs', cur' / many, cnt + 1, mix', rfl, Int.ediv_nonneg g1 (by omega), by omega, by omega, g2, g3⟩⟩
    · have q1 : mulOk 7919 (cnt + 1) = true := mulOk_of (by decide) (Nat.lt_of_lt_of_le (show (cnt + 1).natAbs < 2 ^ 31 by omega) (by decide))
      have q2 : powOk (mix' + 7919 * (cnt + 1) + 104729) 5 = true := powOk_of (by decide) (by decide) (by omega)
      have e4 : eMx (evD many a' .no .no) (st xs' cur' (cnt + 1) mix' r) = .ok (.int ((mix' + 7919 * (cnt + 1) + 104729) ^ 5 % 2147483629), false) (evD many a' .no .no) (st xs' cur' (cnt + 1) mix' r) :=
        by
        have p1 : (eb (pur (.int 7919)) fun x => eb (eIxV 0 (pur (.int 2))) fun y => dMul x y) (evD many a' .no .no) (st xs' cur' (cnt + 1) mix' r) = .ok (.int (7919 * (cnt + 1)), false) (evD many a' .no .no) (st xs' cur' (cnt + 1) mix' r) := dMul_at q1
        have p2 : (eb (eb (eIxV 0 (pur (.int 3))) fun x => eb (eb (pur (.int 7919)) fun x => eb (eIxV 0 (pur (.int 2))) fun y => dMul x y) fun y => dAdd x y) fun x => eb (pur (.int 104729)) fun y => dAdd x y) (evD many a' .no .no) (st xs' cur' (cnt + 1) mix' r) = .ok (.int (mix' + 7919 * (cnt + 1) + 104729), false) (evD many a' .no .no) (st xs' cur' (cnt + 1) mix' r) := bnd_tr (bnd_tr (a := (.int mix', false)) rfl (bnd_tr p1 rfl)) rfl
        have p3 : (eb (eb (eb (eIxV 0 (pur (.int 3))) fun x => eb (eb (pur (.int 7919)) fun x => eb (eIxV 0 (pur (.int 2))) fun y => dMul x y) fun y => dAdd x y) fun x => eb (pur (.int 104729)) fun y => dAdd x y) fun x => eb (pur (.int 5)) fun y => dPow x y) (evD many a' .no .no) (st xs' cur' (cnt + 1) mix' r) = .ok (.int ((mix' + 7919 * (cnt + 1) + 104729) ^ 5), false) (evD many a' .no .no) (st xs' cur' (cnt + 1) mix' r) := bnd_tr p2 (dPow_at q2)
        have p4 : (eb (pur (.int 2147483629)) fun y => dMod (.int ((mix' + 7919 * (cnt + 1) + 104729) ^ 5)) y) (evD many a' .no .no) (st xs' cur' (cnt + 1) mix' r) = .ok (.int ((mix' + 7919 * (cnt + 1) + 104729) ^ 5 % 2147483629), false) (evD many a' .no .no) (st xs' cur' (cnt + 1) mix' r) := dMod_at (j := 2147483629) (by decide)
        exact bnd_tr (bnd_tr (brD_tr p3 rfl) rfl) p4
      have b1 := Int.emod_nonneg ((mix' + 7919 * (cnt + 1) + 104729) ^ 5) (show (2147483629 : Int) ≠ 0 by decide)
      have b2 := Int.emod_lt_of_pos ((mix' + 7919 * (cnt + 1) + 104729) ^ 5) (show (0 : Int) < 2147483629 by decide)
      generalize (mix' + 7919 * (cnt + 1) + 104729) ^ 5 % 2147483629 = y at e4 b1 b2
      have q3 : mulOk y 48271 = true := mulOk_of (Nat.lt_of_lt_of_le (show y.natAbs < 2 ^ 31 by omega) (by decide)) (by decide)
      have q4 : mulOk 30011 (cnt + 1) = true := mulOk_of (by decide) (Nat.lt_of_lt_of_le (show (cnt + 1).natAbs < 2 ^ 31 by omega) (by decide))
      have q5 : powOk (y * 48271 + 30011 * (cnt + 1) + 29) 3 = true := powOk_of (by decide) (by decide) (by omega)
      have e5 : eRs (evD many a' .no (.sh (.int y))) (st xs' cur' (cnt + 1) mix' r) = .ok (.int ((y * 48271 + 30011 * (cnt + 1) + 29) ^ 3 % 1000000007 % many), false) (evD many a' .no (.sh (.int y))) (st xs' cur' (cnt + 1) mix' r) :=
        by
        have p0 : (eb (eVar 4) fun x => eb (pur (.int 48271)) fun y => dMul x y) (evD many a' .no (.sh (.int y))) (st xs' cur' (cnt + 1) mix' r) = .ok (.int (y * 48271), false) (evD many a' .no (.sh (.int y))) (st xs' cur' (cnt + 1) mix' r) := dMul_at q3
        have p1 : (eb (pur (.int 30011)) fun x => eb (eIxV 0 (pur (.int 2))) fun y => dMul x y) (evD many a' .no (.sh (.int y))) (st xs' cur' (cnt + 1) mix' r) = .ok (.int (30011 * (cnt + 1)), false) (evD many a' .no (.sh (.int y))) (st xs' cur' (cnt + 1) mix' r) := dMul_at q4
        have p2 : (eb (eb (eb (eVar 4) fun x => eb (pur (.int 48271)) fun y => dMul x y) fun x => eb (eb (pur (.int 30011)) fun x => eb (eIxV 0 (pur (.int 2))) fun y => dMul x y) fun y => dAdd x y) fun x => eb (pur (.int 29)) fun y => dAdd x y) (evD many a' .no (.sh (.int y))) (st xs' cur' (cnt + 1) mix' r) = .ok (.int (y * 48271 + 30011 * (cnt + 1) + 29), false) (evD many a' .no (.sh (.int y))) (st xs' cur' (cnt + 1) mix' r) := bnd_tr (bnd_tr p0 (bnd_tr p1 rfl)) rfl
        have p3 : (eb (eb (eb (eb (eVar 4) fun x => eb (pur (.int 48271)) fun y => dMul x y) fun x => eb (eb (pur (.int 30011)) fun x => eb (eIxV 0 (pur (.int 2))) fun y => dMul x y) fun y => dAdd x y) fun x => eb (pur (.int 29)) fun y => dAdd x y) fun x => eb (pur (.int 3)) fun y => dPow x y) (evD many a' .no (.sh (.int y))) (st xs' cur' (cnt + 1) mix' r) = .ok (.int ((y * 48271 + 30011 * (cnt + 1) + 29) ^ 3), false) (evD many a' .no (.sh (.int y))) (st xs' cur' (cnt + 1) mix' r) := bnd_tr p2 (dPow_at q5)
        have p4 : (eb (bnd (brD (eb (eb (eb (eb (eVar 4) fun x => eb (pur (.int 48271)) fun y => dMul x y) fun x => eb (eb (pur (.int 30011)) fun x => eb (eIxV 0 (pur (.int 2))) fun y => dMul x y) fun y => dAdd x y) fun x => eb (pur (.int 29)) fun y => dAdd x y) fun x => eb (pur (.int 3)) fun y => dPow x y)) dInt) fun x => eb (pur (.int 1000000007)) fun y => dMod x y) (evD many a' .no (.sh (.int y))) (st xs' cur' (cnt + 1) mix' r) = .ok (.int ((y * 48271 + 30011 * (cnt + 1) + 29) ^ 3 % 1000000007), false) (evD many a' .no (.sh (.int y))) (st xs' cur' (cnt + 1) mix' r) := by
          have p5 : (eb (pur (.int 1000000007)) fun z => dMod (.int ((y * 48271 + 30011 * (cnt + 1) + 29) ^ 3)) z) (evD many a' .no (.sh (.int y))) (st xs' cur' (cnt + 1) mix' r) = .ok (.int ((y * 48271 + 30011 * (cnt + 1) + 29) ^ 3 % 1000000007), false) (evD many a' .no (.sh (.int y))) (st xs' cur' (cnt + 1) mix' r) := dMod_at (j := 1000000007) (by decide)
          exact bnd_tr (bnd_tr (brD_tr p3 rfl) rfl) p5
        exact bnd_tr p4 (dMod_at (by omega))
      refine ⟨_, _, st xs' cur' (cnt + 1) mix' r, bnd_tr e1 (bnd_tr e2 (bnd_tr (a := Fl.nx) (bnd_tr e3 (congrFun (congrFun (if_neg z) _) _)) (bnd_tr (a := Fl.nx) (t' := evD many a' .no (.sh (.int y))) (bnd_tr e4 rfl) (bnd_tr e5 rfl)))), Int.emod_nonneg _ (by omega), Int.emod_lt_of_pos _ (by omega), ⟨xs', cur', cnt + 1, mix', rfl, g1, by omega, by omega, g2, g3⟩⟩
  obtain ⟨k, t, S', e, b1, b2, b3⟩ := key
  refine ⟨.int k, S', ?_, k, rfl, b1, b2, b3⟩
  show endF (m__law_draw (evD many .no .no .no) (st xs cur cnt mix r)) = _
  rw [e]
  rfl
end
theorem call_tr {F : Fn} {ds : List D} {t : Ev} {S S' : Sto} {d : D} {f : Bool} (e : F ds S = .ok d f S') : TD.call F ds t S = .ok (d, f) t S' := by unfold TD.call; rw [e]
theorem fn_tr {n : Nat} {m : MS} {ds : List D} {S S' : Sto} {d : D} {f : Bool} {t : Ev} (e : m (ds.map Slot.sh ++ List.replicate (n - ds.length) .no) S = .ok (.rt d f) t S') : fnD n m ds S = .ok d f S' := by unfold fnD; rw [e]; rfl
theorem seq_tr {m r : MS} {t t' : Ev} {S S' : Sto} {z : R Fl} (e : m t S = .ok .nx t' S') (h : r t' S' = z) : sSeq m r t S = z := bnd_tr (a := Fl.nx) e h
theorem set_tr {i : Nat} {m : ME} {t t' : Ev} {S S' : Sto} {x : D × Bool} (e : m t S = .ok x t' S') : sSet i m t S = .ok .nx (t'.set i (if x.2 = true then .ow x.1 else .sh x.1)) S' := bnd_tr e rfl
theorem ret_tr {m : ME} {t t' : Ev} {S S' : Sto} {x : D × Bool} (e : m t S = .ok x t' S') : sRet m t S = .ok (.rt x.1 x.2) t' S' := bnd_tr e rfl
theorem expr_tr {m : ME} {t t' : Ev} {S S' : Sto} {x : D × Bool} (e : m t S = .ok x t' S') : sExpr m t S = .ok .nx t' S' := bnd_tr e rfl
theorem eb_tr {β : Type} {m : ME} {k : D → M β} {t t' : Ev} {S S' : Sto} {x : D × Bool} {z : R β} (e : m t S = .ok x t' S') (h : k x.1 t' S' = z) : TD.eb m k t S = z := bnd_tr e h
theorem cons_tr {m : ME} {r : MA} {t t' t2 : Ev} {S S' S2 : Sto} {x : D × Bool} {ds : List D} (e : m t S = .ok x t' S') (h : r t' S' = .ok ds t2 S2) : aCons m r t S = .ok (x.1 :: ds) t2 S2 := bnd_tr e (bnd_tr h rfl)
theorem fcons_tr {m : ME} {r : MF} {t t' t2 : Ev} {S S' S2 : Sto} {x : D × Bool} {ds : List (D × Bool)} (e : m t S = .ok x t' S') (h : r t' S' = .ok ds t2 S2) : fCons m r t S = .ok (x :: ds) t2 S2 := bnd_tr e (bnd_tr h rfl)
theorem parF_tr {is : List Nat} {m : MF} {t t' : Ev} {S S' : Sto} {xs : List (D × Bool)} (e : m t S = .ok xs t' S') (h : is.length = xs.length) : sParF is m t S = .ok .nx (setF is xs t') S' := by
  refine bnd_tr e ?_
  rw [if_pos h]
theorem tup_tr {m : MA} {t t' : Ev} {S S' : Sto} {ds : List D} (e : m t S = .ok ds t' S') (h : ds.length ≤ lim) : eTup m t S = .ok (.tup ds, false) t' S' := by
  refine bnd_tr e ?_
  rw [if_pos h]; rfl
theorem lst_tr {m : MA} {t t' : Ev} {S S' : Sto} {ds : List D} (e : m t S = .ok ds t' S') (h : ds.length ≤ lim) : eLst m t S = .ok (.lst ds, true) t' S' := by
  refine bnd_tr e ?_
  rw [if_pos h]; rfl
theorem ixV_tr {i : Nat} {m : ME} {t t' t2 : Ev} {S S' S2 : Sto} {x : D × Bool} {d : D} {z : R (D × Bool)} (h0 : chk i t S = .ok () t S) (e : m t S = .ok x t' S') (h : bVar i t' S' = .ok d t2 S2) (k : dIx d x.1 t2 S2 = z) : eIxV i m t S = z := bnd_tr h0 (bnd_tr e (bnd_tr h k))
theorem if_tr {c : MT} {a b : MS} {t t' : Ev} {S S' : Sto} {x : Bool} {z : R Fl} (e : c t S = .ok x t' S') (h : (if x = true then a else b) t' S' = z) : sIf c a b t S = z := bnd_tr e h
theorem iff_tr {α : Type} {c : MT} {a b : M α} {t t' : Ev} {S S' : Sto} {x : Bool} {z : R α} (e : c t S = .ok x t' S') (h : (if x = true then a else b) t' S' = z) : iff c a b t S = z := bnd_tr e h
theorem loop_tr {f : MG} {body : MS} {d : D} {ds : List D} {t t1 t2 : Ev} {S S2 : Sto} {z : R Fl} (e : f d t = some t1) (h : body t1 S = .ok .nx t2 S2) (k : loop f body [] ds t2 S2 = z) : loop f body [] (d :: ds) t S = z := by
  refine bnd_tr (m := asg f d) (a := ()) (t' := t1) (S' := S) (by unfold asg; rw [e]) (bnd_tr (a := Fl.nx) h k)
theorem atI_mem {ds : List D} {k : Int} (h0 : 0 ≤ k) (h1 : k < ds.length) : ∃ d, atI ds k = some d ∧ d ∈ ds := by
  have hk : k.toNat < ds.length := by omega
  refine ⟨ds[k.toNat], ?_, List.getElem_mem hk⟩
  unfold atI ixN
  rw [if_pos h0, if_pos h1]
  show ds[k.toNat]? = _
  exact List.getElem?_eq_getElem hk
theorem pick_ok {n : Nat} {r S : Sto} {ds : List D} (h : StOk n r S) (hn : n < 1000000) (m1 : 1 ≤ ds.length) (m2 : ds.length < 1000000000) : Wf (F__law_pick [.box 1, .lst ds] S) fun d S' => d ∈ ds ∧ StOk (n + 1) r S' := by
  obtain ⟨d, S', e, k, rfl, k0, k1, h'⟩ := draw_ok (many := ds.length) h hn (by omega) (by omega)
  obtain ⟨d, ed, hd⟩ := atI_mem k0 k1
  have e1 : (bnd (aCons (eVar 0) (aCons (bnd (bVar 1) dLen) aNil)) (call F__law_draw)) [.sh (.box 1), .sh (.lst ds)] S = .ok (.int k, false) [.sh (.box 1), .sh (.lst ds)] S' := call_tr (ds := [.box 1, .int ds.length]) e
  have e2 : m__law_pick [.sh (.box 1), .sh (.lst ds)] S = .ok (.rt d false) [.sh (.box 1), .sh (.lst ds)] S' := by
    refine ret_tr (x := (d, false)) (ixV_tr rfl e1 rfl ?_)
    show optD (atI ds k) _ _ = _
    rw [ed]; rfl
  exact ⟨d, S', fn_tr (n := 2) e2, hd, h'⟩
/-! ### fractions -/
def pr (a b : Int) : D := .tup [.int a, .int b]
theorem common_loop : ∀ (n a b : Nat) (S : Sto), b < n → wloop n (tst (eb (eVar 1) fun x => eb (pur (.int 0)) fun y => dGt x y)) (sParF [0, 1] (fCons (eVar 1) (fCons (eb (eVar 0) fun x => eb (eVar 1) fun y => dMod x y) fNil))) [.sh (.int a), .sh (.int b)] S = .ok .nx [.sh (.int (Nat.gcd a b : Nat)), .sh (.int 0)] S
  | 0, _, _, _, h => absurd h (Nat.not_lt_zero _)
  | n + 1, a, b, S, h => by
    refine bnd_tr (a := decide ((0 : Int) < (b : Int))) rfl ?_
    by_cases z : b = 0
    · subst z
      rw [Nat.gcd_zero_right]
      rfl
    · rw [if_pos (decide_eq_true (by omega))]
      have e : (eb (eVar 0) fun x => eb (eVar 1) fun y => dMod x y) [.sh (.int a), .sh (.int b)] S = .ok (.int ((a % b : Nat) : Int), false) [.sh (.int a), .sh (.int b)] S := by
        refine (dMod_at (i := a) (j := b) (t := [.sh (.int a), .sh (.int b)]) (S := S) (by omega)).trans ?_
        rw [Int.natCast_emod]
      have e2 : (sParF [0, 1] (fCons (eVar 1) (fCons (eb (eVar 0) fun x => eb (eVar 1) fun y => dMod x y) fNil))) [.sh (.int a), .sh (.int b)] S = .ok .nx [.sh (.int b), .sh (.int ((a % b : Nat) : Int))] S :=
        bnd_tr (a := [(.int b, false), (.int ((a % b : Nat) : Int), false)]) (bnd_tr (a := (.int b, false)) rfl (bnd_tr (a := [(.int ((a % b : Nat) : Int), false)]) (bnd_tr e rfl) rfl)) rfl
      have g : Nat.gcd b (a % b) = Nat.gcd a b := by rw [Nat.gcd_comm b (a % b), ← Nat.gcd_rec, Nat.gcd_comm]
      have ih := common_loop n b (a % b) S (by have := Nat.mod_lt a (show 0 < b by omega); omega)
      rw [g] at ih
      exact bnd_tr (a := Fl.nx) e2 ih
theorem common_ok {a b : Nat} {S : Sto} : F__law_common [.int a, .int b] S = .ok (.int (Nat.gcd a b : Nat)) false S := by
  refine fn_tr (n := 2) (t := [.sh (.int (Nat.gcd a b : Nat)), .sh (.int 0)]) ?_
  have e0 : (sParF [0, 1] (fCons (bnd (bVar 0) dAbs) (fCons (bnd (bVar 1) dAbs) fNil))) [.sh (.int a), .sh (.int b)] S = .ok .nx [.sh (.int a), .sh (.int b)] S := by
    have g : ∀ k : Nat, (if (k : Int) < 0 then -(k : Int) else (k : Int)) = k := fun k => if_neg (by omega)
    refine (show _ = R.ok Fl.nx [.sh (.int (if (a : Int) < 0 then -(a : Int) else (a : Int))), .sh (.int (if (b : Int) < 0 then -(b : Int) else (b : Int)))] S from rfl).trans ?_
    rw [g, g]
  unfold m__law_common
  exact seq_tr e0 (seq_tr (common_loop _ a b S (by show b < (b : Int).natAbs + 1; omega)) rfl)
/-- the lowest terms of it -/
theorem low_ok {a b : Nat} {S : Sto} (hb : 1 ≤ b) (hl : b < 2 ^ 200) : F__law_low [.int a, .int b] S = .ok (pr ((a / Nat.gcd a b : Nat) : Int) ((b / Nat.gcd a b : Nat) : Int)) false S := by
  have gp : 0 < Nat.gcd a b := Nat.gcd_pos_of_pos_right _ hb
  have gl : Nat.gcd a b ≤ b := Nat.gcd_le_right _ hb
  refine fn_tr (n := 3) (t := [.sh (.int a), .sh (.int b), .sh (.int (Nat.gcd a b : Nat))]) ?_
  have e0 : (iff (tst (eb (eVar 1) fun x => eb (pur (.int 0)) fun y => dGt x y)) (bnd (aCons (eVar 0) (aCons (eVar 1) aNil)) (call F__law_common)) (eb (pur (.int 0)) fun x => eb (bnd (aCons (eVar 0) (aCons (eVar 1) aNil)) (call F__law_common)) fun y => dSub x y)) [.sh (.int a), .sh (.int b), .no] S = .ok (.int (Nat.gcd a b : Nat), false) [.sh (.int a), .sh (.int b), .no] S := by
    refine bnd_tr (a := decide ((0 : Int) < (b : Int))) rfl ?_
    rw [if_pos (decide_eq_true (by omega))]
    exact call_tr (ds := [.int a, .int b]) common_ok
  have e1 : (eb (eVar 0) fun x => eb (eVar 2) fun y => dFdiv x y) [.sh (.int a), .sh (.int b), .sh (.int (Nat.gcd a b : Nat))] S = .ok (.int ((a / Nat.gcd a b : Nat) : Int), false) [.sh (.int a), .sh (.int b), .sh (.int (Nat.gcd a b : Nat))] S := by
    refine (dFdiv_at (i := a) (j := (Nat.gcd a b : Nat)) (t := [.sh (.int a), .sh (.int b), .sh (.int (Nat.gcd a b : Nat))]) (S := S) (by omega) (by omega)).trans ?_
    rw [Int.natCast_ediv]
  have e2 : (eb (eVar 1) fun x => eb (eVar 2) fun y => dFdiv x y) [.sh (.int a), .sh (.int b), .sh (.int (Nat.gcd a b : Nat))] S = .ok (.int ((b / Nat.gcd a b : Nat) : Int), false) [.sh (.int a), .sh (.int b), .sh (.int (Nat.gcd a b : Nat))] S := by
    refine (dFdiv_at (i := b) (j := (Nat.gcd a b : Nat)) (t := [.sh (.int a), .sh (.int b), .sh (.int (Nat.gcd a b : Nat))]) (S := S) (by omega) (by omega)).trans ?_
    rw [Int.natCast_ediv]
  unfold m__law_low
  exact seq_tr (set_tr e0) (ret_tr (tup_tr (cons_tr e1 (cons_tr e2 (ds := []) rfl)) (show (2 : Nat) ≤ lim by decide)))
/-! ### lowest terms -/
abbrev fr (a b : Nat) : D := pr a b
structure Lw (a b p q : Nat) : Prop where
  p1 : 1 ≤ a → 1 ≤ p
  q1 : 1 ≤ q
  ple : p ≤ a
  qle : q ≤ b
  eq : p * b = a * q
theorem lw_gcd {a b : Nat} (hb : 1 ≤ b) : Lw a b (a / Nat.gcd a b) (b / Nat.gcd a b) := by
  have gp : 0 < Nat.gcd a b := Nat.gcd_pos_of_pos_right _ hb
  obtain ⟨p, hp⟩ := Nat.gcd_dvd_left a b
  obtain ⟨q, hq⟩ := Nat.gcd_dvd_right a b
  have ea : a / Nat.gcd a b = p := by rw [Nat.div_eq_of_eq_mul_right gp hp]
  have eb : b / Nat.gcd a b = q := by rw [Nat.div_eq_of_eq_mul_right gp hq]
  refine ⟨fun h => ?_, ?_, Nat.div_le_self _ _, Nat.div_le_self _ _, ?_⟩
  · rw [ea]
    cases p with
    | zero => rw [Nat.mul_zero] at hp; omega
    | succ p => omega
  · rw [eb]
    cases q with
    | zero => rw [Nat.mul_zero] at hq; omega
    | succ q => omega
  · rw [ea, eb]
    generalize Nat.gcd a b = g at *
    subst hp hq
    rw [Nat.mul_left_comm, Nat.mul_assoc]
theorem low_of {a b : Nat} {S : Sto} (hb : 1 ≤ b) (hl : b < 2 ^ 200) : ∃ p q, F__law_low [.int a, .int b] S = .ok (fr p q) false S ∧ Lw a b p q := ⟨_, _, low_ok hb hl, lw_gcd hb⟩
theorem natMul {i j : Nat} (h1 : i < 2 ^ 200) (h2 : j < 2 ^ 200) : mulOk i j = true := mulOk_of (Nat.lt_of_lt_of_le (show (i : Int).natAbs < 2 ^ 200 by omega) (by decide)) (Nat.lt_of_lt_of_le (show (j : Int).natAbs < 2 ^ 200 by omega) (by decide))
theorem plus_of {a b c d : Nat} {S : Sto} (ha : a < 2 ^ 60) (hb : b < 2 ^ 60) (hc : c < 2 ^ 60) (hd : d < 2 ^ 60) (b1 : 1 ≤ b) (d1 : 1 ≤ d) : ∃ p q, F__law_plus [fr a b, fr c d] S = .ok (fr p q) false S ∧ Lw (a * d + c * b) (b * d) p q := by
  have l1 : b * d < 2 ^ 200 := Nat.lt_of_lt_of_le (Nat.mul_lt_mul'' hb hd) (by decide)
  obtain ⟨p, q, e, L⟩ := low_of (a := a * d + c * b) (S := S) (Nat.mul_pos b1 d1) l1
  refine ⟨p, q, ?_, L⟩
  have x1 : (eb (eIxV 0 (pur (.int 0))) fun x => eb (eIxV 1 (pur (.int 1))) fun y => dMul x y) [.sh (fr a b), .sh (fr c d)] S = .ok (.int ((a : Int) * d), false) [.sh (fr a b), .sh (fr c d)] S := dMul_at (natMul (by omega) (by omega))
  have x2 : (eb (eIxV 1 (pur (.int 0))) fun x => eb (eIxV 0 (pur (.int 1))) fun y => dMul x y) [.sh (fr a b), .sh (fr c d)] S = .ok (.int ((c : Int) * b), false) [.sh (fr a b), .sh (fr c d)] S := dMul_at (natMul (by omega) (by omega))
  have x3 : (eb (eIxV 0 (pur (.int 1))) fun x => eb (eIxV 1 (pur (.int 1))) fun y => dMul x y) [.sh (fr a b), .sh (fr c d)] S = .ok (.int ((b : Int) * d), false) [.sh (fr a b), .sh (fr c d)] S := dMul_at (natMul (by omega) (by omega))
  have e' : F__law_low [.int ((a : Int) * d + (c : Int) * b), .int ((b : Int) * d)] S = .ok (fr p q) false S := by
    have := e
    rw [Int.natCast_add, Int.natCast_mul, Int.natCast_mul, Int.natCast_mul] at this
    exact this
  refine fn_tr (n := 2) (t := [.sh (fr a b), .sh (fr c d)]) ?_
  unfold m__law_plus
  exact ret_tr (x := (fr p q, false)) (bnd_tr (cons_tr (x := (.int ((a : Int) * d + (c : Int) * b), false)) (eb_tr x1 (eb_tr x2 rfl)) (cons_tr x3 rfl)) (call_tr e'))
/-! ### wishes -/
def eStep (i j k : Int) : ME := (bnd (aCons (eb (pur (.int 1)) fun x => eb (bnd (aCons (eVar 0) (aCons (bnd (aCons (eVar 0) (aCons (eLst (aCons (pur (.int i)) (aCons (pur (.int j)) (aCons (pur (.int k)) aNil)))) aNil)) (call F__law_pick)) aNil)) (call F__law_draw)) fun y => dAdd x y) (aCons (eVar 4) aNil)) (call F__law_low))
theorem step_ok {n : Nat} {r S : Sto} {i j k : Nat} {bt : Nat} {s1 s2 s3 s5 : Slot} (h : StOk n r S) (hn : n < 900000) (hi : 1 ≤ i ∧ i ≤ 40) (hj : 1 ≤ j ∧ j ≤ 40) (hk : 1 ≤ k ∧ k ≤ 40) (hb : 1 ≤ bt ∧ bt ≤ 3) :
    ∃ p q S', eStep i j k [.sh (.box 1), s1, s2, s3, .sh (.int bt), s5] S = .ok (fr p q, false) [.sh (.box 1), s1, s2, s3, .sh (.int bt), s5] S' ∧ 1 ≤ p ∧ p ≤ 40 ∧ 1 ≤ q ∧ q ≤ 3 ∧ StOk (n + 2) r S' := by
  obtain ⟨d, S1, e1, hd, h1⟩ := pick_ok (ds := [.int i, .int j, .int k]) h (by omega) (by simp) (by simp)
  have hd' : ∃ m : Nat, d = .int m ∧ 1 ≤ m ∧ m ≤ 40 := by
    simp only [List.mem_cons, List.not_mem_nil, or_false] at hd
    rcases hd with rfl | rfl | rfl
    · exact ⟨i, rfl, hi⟩
    · exact ⟨j, rfl, hj⟩
    · exact ⟨k, rfl, hk⟩
  obtain ⟨m, rfl, m1, m2⟩ := hd'
  obtain ⟨d, S2, e2, v, rfl, v0, v1, h2⟩ := draw_ok (many := m) h1 (by omega) (by omega) (by omega)
  obtain ⟨v, rfl⟩ := Int.eq_ofNat_of_zero_le v0
  obtain ⟨p, q, e3, L⟩ := low_of (a := 1 + v) (b := bt) (S := S2) hb.1 (by omega)
  have ple := L.ple
  have qle := L.qle
  refine ⟨p, q, S2, ?_, L.p1 (by omega), by omega, L.q1, by omega, h2⟩
  have x1 : (bnd (aCons (eVar 0) (aCons (eLst (aCons (pur (.int i)) (aCons (pur (.int j)) (aCons (pur (.int k)) aNil)))) aNil)) (call F__law_pick)) [.sh (.box 1), s1, s2, s3, .sh (.int bt), s5] S = .ok (.int m, false) [.sh (.box 1), s1, s2, s3, .sh (.int bt), s5] S1 := call_tr (ds := [.box 1, .lst [.int i, .int j, .int k]]) e1
  have x2 : (bnd (aCons (eVar 0) (aCons (bnd (aCons (eVar 0) (aCons (eLst (aCons (pur (.int i)) (aCons (pur (.int j)) (aCons (pur (.int k)) aNil)))) aNil)) (call F__law_pick)) aNil)) (call F__law_draw)) [.sh (.box 1), s1, s2, s3, .sh (.int bt), s5] S = .ok (.int v, false) [.sh (.box 1), s1, s2, s3, .sh (.int bt), s5] S2 :=
    bnd_tr (cons_tr (x := (.box 1, false)) rfl (cons_tr x1 (ds := []) rfl)) (call_tr e2)
  have e3' : F__law_low [.int (1 + (v : Int)), .int bt] S2 = .ok (fr p q) false S2 := by
    have := e3
    rw [Int.natCast_add] at this
    exact this
  exact bnd_tr (cons_tr (x := (.int (1 + (v : Int)), false)) (eb_tr (x := (.int 1, false)) rfl (eb_tr x2 rfl)) (cons_tr (x := (.int bt, false)) (ds := []) rfl rfl)) (call_tr e3')
structure W4 where
  a : Nat
  b : Nat
  c : Nat
  d : Nat
def wD (w : W4) : D := .tup [fr w.a w.b, fr w.c w.d]
structure OkW (w : W4) : Prop where
  a1 : 1 ≤ w.a
  b1 : 1 ≤ w.b
  c1 : 1 ≤ w.c
  d1 : 1 ≤ w.d
  al : w.a < 2 ^ 60
  bl : w.b < 2 ^ 60
  cl : w.c < 2 ^ 60
  dl : w.d < 2 ^ 60
def blw (w v : W4) : Prop := w.a * v.b < v.a * w.b
def incP : W4 → List W4 → Prop
  | _, [] => True
  | p, w :: l => blw p w ∧ incP w l
def Inc : List W4 → Prop
  | [] => True
  | w :: l => incP w l
def lastP : W4 → List W4 → W4
  | p, [] => p
  | _, w :: l => lastP w l
theorem incP_app : ∀ {l : List W4} {p w : W4}, incP p l → blw (lastP p l) w → incP p (l ++ [w])
  | [], _, _, _, h => ⟨h, trivial⟩
  | _ :: _, _, _, ⟨h1, h2⟩, h => ⟨h1, incP_app h2 h⟩
theorem lastP_app : ∀ {l : List W4} {p w : W4}, lastP p (l ++ [w]) = w
  | [], _, _ => rfl
  | _ :: l, _, _ => lastP_app (l := l)
/-- the last of them is below that moment -/
def Before : List W4 → Nat → Nat → Prop
  | [], _, _ => True
  | w :: l, a, b => (lastP w l).a * b < a * (lastP w l).b
theorem Inc.app {ws : List W4} {w : W4} (h : Inc ws) (k : Before ws w.a w.b) : Inc (ws ++ [w]) := by
  cases ws with
  | nil => trivial
  | cons v l => exact incP_app h k
theorem Before.app {ws : List W4} {w : W4} {a b : Nat} (h : w.a * b < a * w.b) : Before (ws ++ [w]) a b := by
  cases ws with
  | nil => exact h
  | cons v l =>
    show (lastP v (l ++ [w])).a * b < a * (lastP v (l ++ [w])).b
    rw [lastP_app]
    exact h
def sWsh : MS := (sSeq (sExpr (mSlot "list" 2 (aCons (eTup (aCons (eVar 3) (aCons (eStep 3 12 40) aNil))) aNil) fApp))
    (sSet 3 (bnd (aCons (eVar 3) (aCons (eStep 2 8 30) aNil)) (call F__law_plus))))
theorem wsh_loop : ∀ (ds : List D) (ws : List W4) (a b M n : Nat) (S : Sto) (s5 : Slot) {r : Sto} {mo : D} {bt : Nat}, StOk n r S → n + 4 * ds.length < 900000 → 1 ≤ bt ∧ bt ≤ 3 → (∀ w ∈ ws, OkW w) → Inc ws → Before ws a b → 1 ≤ a → 1 ≤ b → a ≤ M → b ≤ M → 1 ≤ M → M * 64 ^ ds.length < 2 ^ 50 → ws.length + ds.length < 1000 →
    ∃ ws' S' s3 s5', loop (gNm 5) sWsh [] ds [.sh (.box 1), .sh mo, .ow (.lst (ws.map wD)), .sh (fr a b), .sh (.int bt), s5] S = .ok .nx [.sh (.box 1), .sh mo, .ow (.lst (ws'.map wD)), s3, .sh (.int bt), s5'] S' ∧ StOk (n + 4 * ds.length) r S' ∧ (∀ w ∈ ws', OkW w) ∧ Inc ws' ∧ ws'.length = ws.length + ds.length
  | [], ws, a, b, M, n, S, s5, r, mo, bt, h, _, _, ho, hi, _, _, _, _, _, _, _, _ => ⟨ws, S, _, _, rfl, h, ho, hi, rfl⟩
  | x :: ds, ws, a, b, M, n, S, s5, r, mo, bt, h, hn, hb, ho, hi, hbf, a1, b1, aM, bM, M1, hM, hl => by
    simp only [List.length_cons] at hn hM hl
    have M2 : M * 64 * 64 ^ ds.length < 2 ^ 50 := by rw [Nat.pow_succ, Nat.mul_comm (64 ^ ds.length), ← Nat.mul_assoc] at hM; exact hM
    have M3 : M * 64 < 2 ^ 50 := Nat.lt_of_le_of_lt (Nat.le_mul_of_pos_right _ (Nat.pow_pos (by decide))) M2
    obtain ⟨p, q, S1, e1, p1, p2, q1, q2, h1⟩ := step_ok (i := 3) (j := 12) (k := 40) (s1 := .sh mo) (s2 := .ow (.lst (ws.map wD))) (s3 := .sh (fr a b)) (s5 := .sh x) h (by omega) (by decide) (by decide) (by decide) hb
    obtain ⟨p', q', S2, e2, p1', p2', q1', q2', h2⟩ := step_ok (i := 2) (j := 8) (k := 30) (s1 := .sh mo) (s2 := .ow (.lst ((ws ++ [(W4.mk a b p q)]).map wD))) (s3 := .sh (fr a b)) (s5 := .sh x) h1 (by omega) (by decide) (by decide) (by decide) hb
    obtain ⟨u, v, e3, L⟩ := plus_of (a := a) (b := b) (c := p') (d := q') (S := S2) (by omega) (by omega) (by omega) (by omega) b1 q1'
    have k1 : a * q' ≤ M * 3 := Nat.mul_le_mul aM q2'
    have k2 : p' * b ≤ 40 * M := Nat.mul_le_mul p2' bM
    have k3 : b * q' ≤ M * 3 := Nat.mul_le_mul bM q2'
    have ple := L.ple
    have qle := L.qle
    have u1 : 1 ≤ u := L.p1 (Nat.le_add_right_of_le (Nat.mul_pos a1 q1'))
    have lt : a * v < u * b := by
      have e := L.eq
      have z : 0 < p' * b * v := Nat.mul_pos (Nat.mul_pos p1' b1) L.q1
      have e' : u * b * q' = a * v * q' + p' * b * v := by
        calc u * b * q' = u * (b * q') := Nat.mul_assoc _ _ _
          _ = (a * q' + p' * b) * v := e
          _ = a * q' * v + p' * b * v := Nat.add_mul _ _ _
          _ = a * v * q' + p' * b * v := by rw [Nat.mul_right_comm a q' v]
      exact Nat.lt_of_mul_lt_mul_right (a := q') (by omega)
    have hin : Inc (ws ++ [(W4.mk a b p q)]) := hi.app hbf
    have hok : ∀ w ∈ ws ++ [(W4.mk a b p q)], OkW w := fun w hw => by
      rcases List.mem_append.mp hw with hw | hw
      · exact ho w hw
      · rw [List.mem_singleton] at hw
        subst hw
        exact ⟨a1, b1, p1, q1, by show a < _; omega, by show b < _; omega, by show p < _; omega, by show q < _; omega⟩
    obtain ⟨ws', S', s3, s5', e4, h4, ho4, hi4, hl4⟩ := wsh_loop ds (ws ++ [(W4.mk a b p q)]) u v (M * 64) (n + 4) S2 (.sh x) (r := r) (mo := mo) (bt := bt) (h2.mono (by omega)) (by omega) hb hok hin (Before.app lt) u1 L.q1 (by omega) (by omega) (by omega) M2 (by rw [List.length_append]; show ws.length + 1 + ds.length < 1000; omega)
    refine ⟨ws', S', s3, s5', ?_, by show StOk (n + 4 * (ds.length + 1)) r S'; rw [show n + 4 * (ds.length + 1) = n + 4 + 4 * ds.length by omega]; exact h4, ho4, hi4, by rw [hl4, List.length_append]; show ws.length + 1 + ds.length = ws.length + (ds.length + 1); omega⟩
    have y1 : (sExpr (mSlot "list" 2 (aCons (eTup (aCons (eVar 3) (aCons (eStep 3 12 40) aNil))) aNil) fApp)) [.sh (.box 1), .sh mo, .ow (.lst (ws.map wD)), .sh (fr a b), .sh (.int bt), .sh x] S = .ok .nx [.sh (.box 1), .sh mo, .ow (.lst ((ws ++ [(W4.mk a b p q)]).map wD)), .sh (fr a b), .sh (.int bt), .sh x] S1 := by
      refine expr_tr (x := (.non, false)) (bnd_tr (m := aCons (eTup (aCons (eVar 3) (aCons (eStep 3 12 40) aNil))) aNil) (cons_tr (tup_tr (cons_tr (x := (fr a b, false)) rfl (cons_tr e1 (ds := []) rfl)) (show (2 : Nat) ≤ lim by decide)) (ds := []) rfl) ?_)
      have f : fApp [wD (W4.mk a b p q)] (.lst (ws.map wD)) = some (.lst ((ws ++ [(W4.mk a b p q)]).map wD), .non) := by
        show (if (ws.map wD).length < lim then some (D.lst (ws.map wD ++ [wD (W4.mk a b p q)]), D.non) else none) = _
        rw [if_pos (by rw [List.length_map]; have : lim = 1000000 := rfl; omega), List.map_append]
        rfl
      show (match fApp [wD (W4.mk a b p q)] (.lst (ws.map wD)) with | some (d', y) => R.ok (y, false) ([Slot.sh (.box 1), .sh mo, .ow (.lst (ws.map wD)), .sh (fr a b), .sh (.int bt), .sh x].set 2 (.ow d')) S1 | none => .bad) = _
      rw [f]
      rfl
    have y2 : (sSet 3 (bnd (aCons (eVar 3) (aCons (eStep 2 8 30) aNil)) (call F__law_plus))) [.sh (.box 1), .sh mo, .ow (.lst ((ws ++ [(W4.mk a b p q)]).map wD)), .sh (fr a b), .sh (.int bt), .sh x] S1 = .ok .nx [.sh (.box 1), .sh mo, .ow (.lst ((ws ++ [(W4.mk a b p q)]).map wD)), .sh (fr u v), .sh (.int bt), .sh x] S2 :=
      set_tr (x := (fr u v, false)) (bnd_tr (cons_tr (x := (fr a b, false)) rfl (cons_tr e2 (ds := []) rfl)) (call_tr e3))
    have y : sWsh [.sh (.box 1), .sh mo, .ow (.lst (ws.map wD)), .sh (fr a b), .sh (.int bt), .sh x] S = .ok .nx [.sh (.box 1), .sh mo, .ow (.lst ((ws ++ [(W4.mk a b p q)]).map wD)), .sh (fr u v), .sh (.int bt), .sh x] S2 := seq_tr y1 y2
    exact loop_tr rfl y e4
theorem for_tr {m : MI} {f : MG} {body : MS} {t t' : Ev} {S S' : Sto} {ds : List D} {z : R Fl} (e : m t S = .ok (ds, []) t' S') (h : loop f body [] ds t' S' = z) : sFor m f body t S = z := bnd_tr e h
theorem wishes_ok {n : Nat} {r S : Sto} (h : StOk n r S) (hn : n < 800000) : ∃ ws S', F__law_wishes [.box 1, .int 4] S = .ok (.lst (ws.map wD)) true S' ∧ StOk (n + 19) r S' ∧ (∀ w ∈ ws, OkW w) ∧ Inc ws ∧ 1 ≤ ws.length ∧ ws.length ≤ 4 := by
  obtain ⟨d, S1, e1, v, rfl, v0, v1, h1⟩ := draw_ok (many := 90) h (by omega) (by omega) (by omega)
  obtain ⟨v, rfl⟩ := Int.eq_ofNat_of_zero_le v0
  obtain ⟨d, S2, e2, hd, h2⟩ := pick_ok (ds := [.int 1, .int 1, .int 2, .int 3]) h1 (by omega) (by simp) (by simp)
  have hd' : ∃ m : Nat, d = .int m ∧ 1 ≤ m ∧ m ≤ 3 := by
    simp only [List.mem_cons, List.not_mem_nil, or_false] at hd
    rcases hd with rfl | rfl | rfl | rfl
    · exact ⟨1, rfl, by decide⟩
    · exact ⟨1, rfl, by decide⟩
    · exact ⟨2, rfl, by decide⟩
    · exact ⟨3, rfl, by decide⟩
  obtain ⟨bt, rfl, hb⟩ := hd'
  obtain ⟨d, S3, e3, j, rfl, j0, j1, h3⟩ := draw_ok (many := 4) h2 (by omega) (by omega) (by omega)
  obtain ⟨j, rfl⟩ := Int.eq_ofNat_of_zero_le j0
  have hlr : (rng 0 (1 + j)).length = 1 + j := by unfold rng; rw [List.length_map, List.length_range]
  have hpw : 200 * 64 ^ (1 + j) < 2 ^ 50 := Nat.lt_of_le_of_lt (Nat.mul_le_mul_left _ (Nat.pow_le_pow_right (by decide) (show 1 + j ≤ 4 by omega))) (by decide)
  obtain ⟨ws, S4, s3, s5, e4, h4, ho, hi, hl⟩ := wsh_loop (rng 0 (1 + j)) [] (60 + v) 1 200 (n + 3) S3 .no (r := r) (mo := .int 4) (bt := bt) h3 (by rw [hlr]; omega) hb (fun w hw => nomatch hw) trivial trivial (by omega) (by omega) (by omega) (by omega) (by omega) (by rw [hlr]; exact hpw) (by rw [hlr]; show 0 + (1 + j) < 1000; omega)
  rw [hlr] at h4 hl
  refine ⟨ws, S4, ?_, h4.mono (by omega), ho, hi, by rw [hl]; show 1 ≤ 0 + (1 + j); omega, by rw [hl]; show 0 + (1 + j) ≤ 4; omega⟩
  have y1 : (sParF [2, 3, 4] (fCons (eLst aNil) (fCons (eTup (aCons (eb (pur (.int 60)) fun x => eb (bnd (aCons (eVar 0) (aCons (pur (.int 90)) aNil)) (call F__law_draw)) fun y => dAdd x y) (aCons (pur (.int 1)) aNil))) (fCons (bnd (aCons (eVar 0) (aCons (eLst (aCons (pur (.int 1)) (aCons (pur (.int 1)) (aCons (pur (.int 2)) (aCons (pur (.int 3)) aNil))))) aNil)) (call F__law_pick)) fNil)))) [.sh (.box 1), .sh (.int 4), .no, .no, .no, .no] S = .ok .nx [.sh (.box 1), .sh (.int 4), .ow (.lst []), .sh (fr (60 + v) 1), .sh (.int bt), .no] S2 := by
    have z1 : (bnd (aCons (eVar 0) (aCons (pur (.int 90)) aNil)) (call F__law_draw)) [.sh (.box 1), .sh (.int 4), .no, .no, .no, .no] S = .ok (.int v, false) [.sh (.box 1), .sh (.int 4), .no, .no, .no, .no] S1 := call_tr (ds := [.box 1, .int 90]) e1
    have z2 : (bnd (aCons (eVar 0) (aCons (eLst (aCons (pur (.int 1)) (aCons (pur (.int 1)) (aCons (pur (.int 2)) (aCons (pur (.int 3)) aNil))))) aNil)) (call F__law_pick)) [.sh (.box 1), .sh (.int 4), .no, .no, .no, .no] S1 = .ok (.int bt, false) [.sh (.box 1), .sh (.int 4), .no, .no, .no, .no] S2 := call_tr (ds := [.box 1, .lst [.int 1, .int 1, .int 2, .int 3]]) e2
    have z3 : (eTup (aCons (eb (pur (.int 60)) fun x => eb (bnd (aCons (eVar 0) (aCons (pur (.int 90)) aNil)) (call F__law_draw)) fun y => dAdd x y) (aCons (pur (.int 1)) aNil))) [.sh (.box 1), .sh (.int 4), .no, .no, .no, .no] S = .ok (fr (60 + v) 1, false) [.sh (.box 1), .sh (.int 4), .no, .no, .no, .no] S1 := by
      have := tup_tr (cons_tr (x := (.int (60 + (v : Int)), false)) (eb_tr (x := (.int 60, false)) (m := pur (.int 60)) (k := fun x => eb (bnd (aCons (eVar 0) (aCons (pur (.int 90)) aNil)) (call F__law_draw)) fun y => dAdd x y) rfl (eb_tr z1 rfl)) (r := aCons (pur (.int 1)) aNil) (ds := [.int 1]) rfl) (show (2 : Nat) ≤ lim by decide)
      rw [show fr (60 + v) 1 = .tup [.int (60 + (v : Int)), .int 1] by show D.tup [.int ((60 + v : Nat) : Int), .int ((1 : Nat) : Int)] = _; rw [Int.natCast_add]; rfl]
      exact this
    exact parF_tr (xs := [(.lst [], true), (fr (60 + v) 1, false), (.int bt, false)]) (fcons_tr (x := (.lst [], true)) rfl (fcons_tr z3 (fcons_tr z2 (show fNil _ _ = .ok [] _ _ from rfl)))) rfl
  have y2 : (bnd (aCons (eb (pur (.int 1)) fun x => eb (bnd (aCons (eVar 0) (aCons (eVar 1) aNil)) (call F__law_draw)) fun y => dAdd x y) aNil) dRng1) [.sh (.box 1), .sh (.int 4), .ow (.lst []), .sh (fr (60 + v) 1), .sh (.int bt), .no] S2 = .ok (rng 0 (1 + j), []) [.sh (.box 1), .sh (.int 4), .ow (.lst []), .sh (fr (60 + v) 1), .sh (.int bt), .no] S3 := by
    have z1 : (bnd (aCons (eVar 0) (aCons (eVar 1) aNil)) (call F__law_draw)) [.sh (.box 1), .sh (.int 4), .ow (.lst []), .sh (fr (60 + v) 1), .sh (.int bt), .no] S2 = .ok (.int j, false) [.sh (.box 1), .sh (.int 4), .ow (.lst []), .sh (fr (60 + v) 1), .sh (.int bt), .no] S3 := call_tr (ds := [.box 1, .int 4]) e3
    refine bnd_tr (cons_tr (x := (.int (1 + (j : Int)), false)) (eb_tr (x := (.int 1, false)) rfl (eb_tr z1 rfl)) (ds := []) rfl) ?_
    show (if -1000000000 ≤ (1 + (j : Int)) ∧ (1 + (j : Int)) ≤ 1000000000 then retI (rng 0 (1 + (j : Int)).toNat) else bad) _ _ = _
    rw [if_pos ⟨by omega, by omega⟩, show (1 + (j : Int)).toNat = 1 + j by omega]
    rfl
  refine fn_tr (n := 6) (t := [.sh (.box 1), .sh (.int 4), .no, s3, .sh (.int bt), s5]) ?_
  unfold m__law_wishes
  exact seq_tr y1 (seq_tr (for_tr y2 e4) rfl)
end K78

set_option Elab.async false
set_option linter.all false
set_option maxRecDepth 100000
set_option maxHeartbeats 0
set_option autoImplicit false
namespace K78
open PySem PySem.Spec PyProof.Rows L2 TD
theorem worths_ok {n : Nat} {r S : Sto} (h : StOk n r S) (hn : n < 800000) : ∃ p q c d S', F__law_worths [.box 1] S = .ok (.tup [fr p q, fr c d]) false S' ∧ StOk (n + 4) r S' ∧ 1 ≤ p ∧ p < q ∧ q ≤ 12 ∧ 1 ≤ c ∧ 1 ≤ d ∧ c ≤ 12 ∧ d ≤ 12 := by
  obtain ⟨d, S1, e1, v, rfl, v0, v1, h1⟩ := draw_ok (many := 11) h (by omega) (by omega) (by omega)
  obtain ⟨v, rfl⟩ := Int.eq_ofNat_of_zero_le v0
  obtain ⟨p, q, e2, L⟩ := low_of (a := 1 + v) (b := 12) (S := S1) (by decide) (by decide)
  obtain ⟨d, S2, e3, u, rfl, u0, u1, h2⟩ := draw_ok (many := 12) h1 (by omega) (by omega) (by omega)
  obtain ⟨u, rfl⟩ := Int.eq_ofNat_of_zero_le u0
  obtain ⟨d, S3, e4, z, rfl, z0, z1, h3⟩ := draw_ok (many := 12) h2 (by omega) (by omega) (by omega)
  obtain ⟨z, rfl⟩ := Int.eq_ofNat_of_zero_le z0
  obtain ⟨p', q', e5, L'⟩ := low_of (a := 1 + u) (b := 1 + z) (S := S3) (by omega) (by omega)
  obtain ⟨d, S4, e6, hd, h4⟩ := pick_ok (ds := [fr 1 1, fr 2 1, fr 1 2, fr p q, fr p' q']) h3 (by omega) (by simp) (by simp)
  have p1 := L.p1 (by omega)
  have q1 := L.q1
  have qle := L.qle
  have ple := L.ple
  have p1' := L'.p1 (by omega)
  have q1' := L'.q1
  have qle' := L'.qle
  have ple' := L'.ple
  have pq : p < q := by
    have e := L.eq
    have : (1 + v) * q ≤ 11 * q := Nat.mul_le_mul_right _ (by omega)
    omega
  have hd' : ∃ c e : Nat, d = fr c e ∧ 1 ≤ c ∧ 1 ≤ e ∧ c ≤ 12 ∧ e ≤ 12 := by
    simp only [List.mem_cons, List.not_mem_nil, or_false] at hd
    rcases hd with rfl | rfl | rfl | rfl | rfl
    · exact ⟨1, 1, rfl, by decide⟩
    · exact ⟨2, 1, rfl, by decide⟩
    · exact ⟨1, 2, rfl, by decide⟩
    · exact ⟨p, q, rfl, by omega⟩
    · exact ⟨p', q', rfl, by omega⟩
  obtain ⟨c, e, rfl, g⟩ := hd'
  refine ⟨p, q, c, e, S4, ?_, h4, p1, pq, qle, g⟩
  have e2' : F__law_low [.int (1 + (v : Int)), .int 12] S1 = .ok (fr p q) false S1 := by
    have := e2
    rw [Int.natCast_add] at this
    exact this
  have e5' : F__law_low [.int (1 + (u : Int)), .int (1 + (z : Int))] S3 = .ok (fr p' q') false S3 := by
    have := e5
    rw [Int.natCast_add, Int.natCast_add] at this
    exact this
  have y1 : (bnd (aCons (eb (pur (.int 1)) fun x => eb (bnd (aCons (eVar 0) (aCons (pur (.int 11)) aNil)) (call F__law_draw)) fun y => dAdd x y) (aCons (pur (.int 12)) aNil)) (call F__law_low)) [.sh (.box 1), .no, .no] S = .ok (fr p q, false) [.sh (.box 1), .no, .no] S1 := by
    have z1 : (bnd (aCons (eVar 0) (aCons (pur (.int 11)) aNil)) (call F__law_draw)) [.sh (.box 1), .no, .no] S = .ok (.int v, false) [.sh (.box 1), .no, .no] S1 := call_tr (ds := [.box 1, .int 11]) e1
    exact bnd_tr (cons_tr (x := (.int (1 + (v : Int)), false)) (eb_tr (x := (.int 1, false)) rfl (eb_tr z1 rfl)) (r := aCons (pur (.int 12)) aNil) (ds := [.int 12]) rfl) (call_tr e2')
  have y2 : (bnd (aCons (eb (pur (.int 1)) fun x => eb (bnd (aCons (eVar 0) (aCons (pur (.int 12)) aNil)) (call F__law_draw)) fun y => dAdd x y) (aCons (eb (pur (.int 1)) fun x => eb (bnd (aCons (eVar 0) (aCons (pur (.int 12)) aNil)) (call F__law_draw)) fun y => dAdd x y) aNil)) (call F__law_low)) [.sh (.box 1), .sh (fr p q), .no] S1 = .ok (fr p' q', false) [.sh (.box 1), .sh (fr p q), .no] S3 := by
    have z1 : (bnd (aCons (eVar 0) (aCons (pur (.int 12)) aNil)) (call F__law_draw)) [.sh (.box 1), .sh (fr p q), .no] S1 = .ok (.int u, false) [.sh (.box 1), .sh (fr p q), .no] S2 := call_tr (ds := [.box 1, .int 12]) e3
    have z2 : (bnd (aCons (eVar 0) (aCons (pur (.int 12)) aNil)) (call F__law_draw)) [.sh (.box 1), .sh (fr p q), .no] S2 = .ok (.int z, false) [.sh (.box 1), .sh (fr p q), .no] S3 := call_tr (ds := [.box 1, .int 12]) e4
    exact bnd_tr (cons_tr (x := (.int (1 + (u : Int)), false)) (eb_tr (x := (.int 1, false)) rfl (eb_tr z1 rfl)) (cons_tr (x := (.int (1 + (z : Int)), false)) (eb_tr (x := (.int 1, false)) rfl (eb_tr z2 rfl)) (r := aNil) (ds := []) rfl)) (call_tr e5')
  have y3 : (bnd (aCons (eVar 0) (aCons (eVar 2) aNil)) (call F__law_pick)) [.sh (.box 1), .sh (fr p q), .ow (.lst [fr 1 1, fr 2 1, fr 1 2, fr p q, fr p' q'])] S3 = .ok (fr c e, false) [.sh (.box 1), .sh (fr p q), .sh (.lst [fr 1 1, fr 2 1, fr 1 2, fr p q, fr p' q'])] S4 := call_tr (ds := [.box 1, .lst [fr 1 1, fr 2 1, fr 1 2, fr p q, fr p' q']]) e6
  refine fn_tr (n := 3) (t := [.sh (.box 1), .sh (fr p q), .sh (.lst [fr 1 1, fr 2 1, fr 1 2, fr p q, fr p' q'])]) ?_
  unfold m__law_worths
  exact seq_tr (set_tr y1) (seq_tr (set_tr (lst_tr (cons_tr (x := (fr 1 1, false)) rfl (cons_tr (x := (fr 2 1, false)) rfl (cons_tr (x := (fr 1 2, false)) rfl (cons_tr (x := (fr p q, false)) rfl (cons_tr y2 (r := aNil) (ds := []) rfl))))) (show (5 : Nat) ≤ lim by decide))) (ret_tr (tup_tr (cons_tr (x := (fr p q, false)) rfl (cons_tr y3 (r := aNil) (ds := []) rfl)) (show (2 : Nat) ≤ lim by decide))))
/-! ### what raises -/
theorem bnd_ex {α β : Type} {m : M α} {k : α → M β} {t t' : Ev} {S S' : Sto} {c : Str} {fs : List (Str × D)} (e : m t S = .ex c fs t' S') : TD.bnd m k t S = .ex c fs t' S' := by unfold TD.bnd; rw [e]
theorem seq_ex {m r : MS} {t t' : Ev} {S S' : Sto} {c : Str} {fs : List (Str × D)} (e : m t S = .ex c fs t' S') : sSeq m r t S = .ex c fs t' S' := bnd_ex e
theorem call_ex {F : Fn} {ds : List D} {t : Ev} {S S' : Sto} {c : Str} {fs : List (Str × D)} (e : F ds S = .ex c fs S') : TD.call F ds t S = .ex c fs t S' := by unfold TD.call; rw [e]
theorem fn_ex {n : Nat} {m : MS} {ds : List D} {S S' : Sto} {c : Str} {fs : List (Str × D)} {t : Ev} (e : m (ds.map Slot.sh ++ List.replicate (n - ds.length) .no) S = .ex c fs t S') : fnD n m ds S = .ex c fs S' := by unfold fnD; rw [e]; rfl
theorem fn_nx {n : Nat} {m : MS} {ds : List D} {S S' : Sto} {t : Ev} (e : m (ds.map Slot.sh ++ List.replicate (n - ds.length) .no) S = .ok .nx t S') : fnD n m ds S = .ok .non false S' := by unfold fnD; rw [e]; rfl
section
variable {a b c d e : D} {S S' : Sto} {x : Str} {fs : List (Str × D)}
theorem settled_ex (h : F_checked_all [a, b, c, d, e] S = .ex x fs S) : F_settled [a, b, c, d, e] S = .ex x fs S :=
  fn_ex (n := 15) (t := [.sh a, .sh b, .sh c, .sh d, .sh e, .no, .no, .no, .no, .no, .no, .no, .no, .no, .no]) (seq_ex (bnd_ex (call_ex (ds := [a, b, c, d, e]) h)))
theorem stretches_ex (h : F_checked_all [a, b, c, d, e] S = .ex x fs S) : F_stretches [a, b, c, d, e] S = .ex x fs S := by
  unfold F_stretches
  exact fn_ex (seq_ex (bnd_ex (call_ex (ds := [a, b, c, d, e]) h)))
theorem troubles_ex (h : F_checked_all [a, b, c, d, e] S = .ex x fs S) : F_troubles [a, b, c, d, e] S = .ex x fs S := by
  unfold F_troubles
  exact fn_ex (seq_ex (bnd_ex (call_ex (ds := [a, b, c, d, e]) h)))
theorem toll_ex (h : F_checked_all [a, b, c, d, e] S = .ex x fs S) : F_toll [a, b, c, d, e] S = .ex x fs S := by
  unfold F_toll
  exact fn_ex (seq_ex (bnd_ex (call_ex (ds := [a, b, c, d, e]) h)))
theorem tolled_ex (h : F_checked_all [a, b, c, d, e] S = .ex x fs S) : F_tolled [a, b, c, d, e] S = .ex x fs S := by
  unfold F_tolled
  exact fn_ex (seq_ex (bnd_ex (call_ex (ds := [a, b, c, d, e]) h)))
theorem paid_ex (h : F_checked_all [a, b, c, d, e] S = .ex x fs S) : F_paid [a, b, c, d, e] S = .ex x fs S := by
  unfold F_paid
  exact fn_ex (seq_ex (bnd_ex (call_ex (ds := [a, b, c, d, e]) h)))
theorem gains_ex {z : D} (h : F_checked_all [a, b, c, d, e] S = .ex x fs S) : F_gains [a, b, c, d, e, z] S = .ex x fs S := by
  unfold F_gains
  exact fn_ex (seq_ex (bnd_ex (call_ex (ds := [a, b, c, d, e]) h)))
end
end K78

set_option Elab.async false
set_option linter.all false
set_option maxRecDepth 100000
set_option maxHeartbeats 0
set_option autoImplicit false
namespace K78
open PySem PySem.Spec PyProof.Rows L2 TD
/-! ### all the asks -/
def tblA : List (Str × Fn) := [("settled", F_settled), ("stretches", F_stretches), ("troubles", F_troubles), ("toll", F_toll), ("tolled", F_tolled), ("paid", F_paid)]
def eAsk : ME := (eMet true "told" metT (eCallL 7 [("settled", F_settled), ("stretches", F_stretches), ("troubles", F_troubles), ("toll", F_toll), ("tolled", F_tolled), ("paid", F_paid)] (aCons (eVar 0) (aCons (eVar 1) (aCons (eVar 2) (aCons (eVar 3) (aCons (eVar 4) aNil)))))))
theorem met_ex {k : Bool} {told : Str} {tb : List Tg} {m : ME} {t t' : Ev} {S S' : Sto} {c : Str} {fs : List (Str × D)} {z : D} (e : m t S = .ex c fs t' S') (h : metX k tb c fs = some z) : eMet k told tb m t S = .ok (z, false) t' S' := by unfold eMet; rw [e]; simp only [h]
theorem met_ok {k : Bool} {told : Str} {tb : List Tg} {m : ME} {t t' : Ev} {S S' : Sto} {x : D × Bool} (e : m t S = .ok x t' S') : eMet k told tb m t S = .ok (dP k [.str told, x.1], false) t' S' := by unfold eMet; rw [e]
theorem callL_tr {i : Nat} {l : List (Str × Fn)} {ma : MA} {t : Ev} {S : Sto} {y : Str} {F : Fn} {z : R (D × Bool)} (e : t[i]? = some (.sh (.gl y))) (h : l.lookup y = some F) (k : bnd ma (call F) t S = z) : eCallL i l ma t S = z := by
  unfold eCallL
  rw [e]
  simp only [fnOfD, h]
  exact k
section
variable {a b c d e : D} {S : Sto} {x : Str} {fs : List (Str × D)} {z : D}
theorem ask_ex {y : Str} {F : Fn} {ds : List D} {asks : D} (hl : ds.length < 1000) (hy : tblA.lookup y = some F) (h : F [a, b, c, d, e] S = .ex x fs S) (hz : metX true metT x fs = some z) :
    (sExpr (mSlot "list" 6 (aCons eAsk aNil) fApp)) [.sh a, .sh b, .sh c, .sh d, .sh e, .sh asks, .ow (.lst ds), .sh (.gl y)] S = .ok .nx [.sh a, .sh b, .sh c, .sh d, .sh e, .sh asks, .ow (.lst (ds ++ [z])), .sh (.gl y)] S := by
  have e1 : eAsk [.sh a, .sh b, .sh c, .sh d, .sh e, .sh asks, .ow (.lst ds), .sh (.gl y)] S = .ok (z, false) [.sh a, .sh b, .sh c, .sh d, .sh e, .sh asks, .ow (.lst ds), .sh (.gl y)] S :=
    met_ex (callL_tr rfl hy (call_ex (ds := [a, b, c, d, e]) h)) hz
  refine expr_tr (x := (.non, false)) (bnd_tr (m := aCons eAsk aNil) (cons_tr e1 (r := aNil) (ds := []) rfl) ?_)
  have f : fApp [z] (.lst ds) = some (.lst (ds ++ [z]), .non) := by
    show (if ds.length < lim then some (D.lst (ds ++ [z]), D.non) else none) = _
    rw [if_pos (by have : lim = 1000000 := rfl; omega)]
  show (match fApp [z] (.lst ds) with | some (d', w) => R.ok (w, false) ([Slot.sh a, .sh b, .sh c, .sh d, .sh e, .sh asks, .ow (.lst ds), .sh (.gl y)].set 6 (.ow d')) S | none => .bad) = _
  rw [f]
  rfl
theorem all_ex (h : F_checked_all [a, b, c, d, e] S = .ex x fs S) (hz : metX true metT x fs = some z) : F__law_all [a, b, c, d, e] S = .ok (.lst [z, z, z, z, z, z, z]) true S := by
  have lp : ∀ (y : Str) (F : Fn) (asks : D) (ds : List D) (s7 : Slot) (rest : List D) (w : R Fl), ds.length < 1000 → tblA.lookup y = some F → F [a, b, c, d, e] S = .ex x fs S →
      loop (gNm 7) (sExpr (mSlot "list" 6 (aCons eAsk aNil) fApp)) [] rest [.sh a, .sh b, .sh c, .sh d, .sh e, .sh asks, .ow (.lst (ds ++ [z])), .sh (.gl y)] S = w →
      loop (gNm 7) (sExpr (mSlot "list" 6 (aCons eAsk aNil) fApp)) [] (.gl y :: rest) [.sh a, .sh b, .sh c, .sh d, .sh e, .sh asks, .ow (.lst ds), s7] S = w := fun y F asks ds s7 rest w hl hy hF k =>
    loop_tr rfl (ask_ex hl hy hF hz) k
  have g1 : (eMet true "told" metT (bnd (aCons (eVar 0) (aCons (eVar 1) (aCons (eVar 2) (aCons (eVar 3) (aCons (eVar 4) (aCons (pur .non) aNil)))))) (call F_gains))) [.sh a, .sh b, .sh c, .sh d, .sh e, .sh (.tup [.gl "settled", .gl "stretches", .gl "troubles", .gl "toll", .gl "tolled", .gl "paid"]), .sh (.lst [z, z, z, z, z, z]), .sh (.gl "paid")] S = .ok (z, false) [.sh a, .sh b, .sh c, .sh d, .sh e, .sh (.tup [.gl "settled", .gl "stretches", .gl "troubles", .gl "toll", .gl "tolled", .gl "paid"]), .sh (.lst [z, z, z, z, z, z]), .sh (.gl "paid")] S :=
    met_ex (call_ex (ds := [a, b, c, d, e, .non]) (gains_ex h)) hz
  refine fn_tr (n := 8) (t := [.sh a, .sh b, .sh c, .sh d, .sh e, .sh (.tup [.gl "settled", .gl "stretches", .gl "troubles", .gl "toll", .gl "tolled", .gl "paid"]), .sh (.lst [z, z, z, z, z, z]), .sh (.gl "paid")]) ?_
  unfold m__law_all
  refine seq_tr (parF_tr (xs := [(.tup [.gl "settled", .gl "stretches", .gl "troubles", .gl "toll", .gl "tolled", .gl "paid"], false), (.lst [], true)]) rfl rfl) (seq_tr (for_tr (S' := S) (t' := [.sh a, .sh b, .sh c, .sh d, .sh e, .sh (.tup [.gl "settled", .gl "stretches", .gl "troubles", .gl "toll", .gl "tolled", .gl "paid"]), .ow (.lst []), .no]) (ds := [.gl "settled", .gl "stretches", .gl "troubles", .gl "toll", .gl "tolled", .gl "paid"]) rfl
    (lp "settled" F_settled _ [] .no _ _ (by decide) rfl (settled_ex h) (lp "stretches" F_stretches _ [z] _ _ _ (show 1 < 1000 by decide) rfl (stretches_ex h) (lp "troubles" F_troubles _ [z, z] _ _ _ (show 2 < 1000 by decide) rfl (troubles_ex h) (lp "toll" F_toll _ [z, z, z] _ _ _ (show 3 < 1000 by decide) rfl (toll_ex h) (lp "tolled" F_tolled _ [z, z, z, z] _ _ _ (show 4 < 1000 by decide) rfl (tolled_ex h) (lp "paid" F_paid _ [z, z, z, z, z] _ _ _ (show 5 < 1000 by decide) rfl (paid_ex h) rfl)))))))
    (ret_tr (x := (.lst [z, z, z, z, z, z, z], true)) (eb_tr (x := (.lst [z, z, z, z, z, z], false)) rfl (eb_tr (lst_tr (cons_tr g1 (r := aNil) (ds := []) rfl) (show (1 : Nat) ≤ lim by decide)) rfl))))
end
/-! ### what is the same as itself -/
theorem zip_len : ∀ xs : List D, (zip2D xs xs).length = xs.length
  | [] => rfl
  | x :: xs => congrArg (· + 1) (zip_len xs)
def eEach (F : Fn) : ME := bnd (aCons (eVar 2) (aCons (eVar 3) aNil)) (call F)
theorem lc_tr {vs : List Nat} {f : MG} {c : MT} {e : ME} {d : D} {ds acc : List D} {t t1 t2 t3 : Ev} {S S3 : Sto} {y : D × Bool} {z : R (List D)} (e1 : f d t = some t1) (e2 : c t1 S = .ok true t2 S) (e3 : e t2 S = .ok y t3 S3) (k : lcGo vs f c e [] ds (acc ++ [y.1]) (clr vs t3) S3 = z) : lcGo vs f c e [] (d :: ds) acc t S = z := by
  unfold lcGo
  rw [if_pos (show ancB [] S = true from rfl), bnd_ok (m := asg f d) (a := ()) (t' := t1) (S' := S) (by unfold asg; rw [e1]), bnd_ok e2, if_pos rfl]
  exact eb_tr e3 k
theorem same_go {F : Fn} {S : Sto} {u v s2 s3 : Slot} : ∀ (xs acc : List D), (∀ x ∈ xs, F [x, x] S = .ok (.bl true) false S) → ∃ acc' s2' s3', lcGo [2, 3] (gTp (gCons (gNm 2) (gCons (gNm 3) gNil))) cYes (eEach F) [] (zip2D xs xs) acc [u, v, s2, s3] S = .ok (acc ++ acc') [u, v, s2', s3'] S ∧ (boolsD acc') = some (List.replicate xs.length true)
  | [], acc, _ => ⟨[], s2, s3, by rw [List.append_nil]; rfl, rfl⟩
  | x :: xs, acc, h => by
    obtain ⟨acc', s2', s3', e, k⟩ := same_go (s2 := .no) (s3 := .no) (u := u) (v := v) xs (acc ++ [.bl true]) fun y hy => h y (List.mem_cons_of_mem _ hy)
    refine ⟨.bl true :: acc', s2', s3', ?_, ?_⟩
    · have e1 : eEach F [u, v, .sh x, .sh x] S = .ok (.bl true, false) [u, v, .sh x, .sh x] S := call_tr (ds := [x, x]) (h x (List.mem_cons_self ..))
      rw [show acc ++ .bl true :: acc' = acc ++ [.bl true] ++ acc' by rw [List.append_assoc]; rfl]
      exact lc_tr rfl rfl e1 e
    · show (boolsD acc').map (true :: ·) = _
      rw [k]
      rfl
theorem all_rep (n : Nat) : (List.replicate n true).all id = true := by
  induction n with
  | zero => rfl
  | succ n ih => rw [List.replicate_succ, List.all_cons, ih]; rfl
theorem same_seq {F : Fn} {S : Sto} {w : D} {xs : List D} (hk : w = .lst xs ∨ w = .tup xs) (hl : xs.length ≤ 100000) (h : ∀ x ∈ xs, F [x, x] S = .ok (.bl true) false S) : fnD 4 (m__law_same F) [w, w] S = .ok (.bl true) false S := by
  obtain ⟨acc, s2, s3, e, k⟩ := same_go (F := F) (u := .sh w) (v := .sh w) (s2 := .no) (s3 := .no) xs [] h
  have hw : seqS S w = some (xs, []) := by rcases hk with rfl | rfl <;> rfl
  have c1 : (tst (bnd (bVar 1) (dIsiT [.list, .tuple]))) [.sh w, .sh w, .no, .no] S = .ok true [.sh w, .sh w, .no, .no] S := by rcases hk with rfl | rfl <;> rfl
  have c2 : (tOrM (tst (eb (bnd (bVar 0) (dIsi .list)) fun x => eb (bnd (bVar 1) (dIsi .list)) fun y => dNe x y)) (tst (eb (bnd (bVar 0) (dIsi .tuple)) fun x => eb (bnd (bVar 1) (dIsi .tuple)) fun y => dNe x y))) [.sh w, .sh w, .no, .no] S = .ok false [.sh w, .sh w, .no, .no] S := by rcases hk with rfl | rfl <;> rfl
  have l1 : (bnd (bVar 0) dLen) [.sh w, .sh w, .no, .no] S = .ok (.int xs.length, false) [.sh w, .sh w, .no, .no] S := by rcases hk with rfl | rfl <;> rfl
  have l2 : (bnd (bVar 1) dLen) [.sh w, .sh w, .no, .no] S = .ok (.int xs.length, false) [.sh w, .sh w, .no, .no] S := by rcases hk with rfl | rfl <;> rfl
  have q : (eb (bnd (bVar 0) dLen) fun x => eb (bnd (bVar 1) dLen) fun y => dEq x y) [.sh w, .sh w, .no, .no] S = .ok (.bl true, false) [.sh w, .sh w, .no, .no] S := by
    refine eb_tr l1 (eb_tr l2 ?_)
    show pur (.bl (decide ((xs.length : Int) = xs.length))) _ _ = _
    rw [decide_eq_true rfl]
    rfl
  have z : (bnd (aCons (eVar 0) (aCons (eVar 1) aNil)) dZip2) [.sh w, .sh w, .no, .no] S = .ok (zip2D xs xs, []) [.sh w, .sh w, .no, .no] S := by
    refine bnd_tr (a := [w, w]) (t' := [.sh w, .sh w, .no, .no]) (S' := S) rfl ?_
    show zip2O (seqS S w) (seqS S w) _ _ = _
    rw [hw]
    rfl
  have lc : (eLc (bnd (aCons (eVar 0) (aCons (eVar 1) aNil)) dZip2) [2, 3] (gTp (gCons (gNm 2) (gCons (gNm 3) gNil))) cYes (eEach F)) [.sh w, .sh w, .no, .no] S = .ok (.lst acc, true) [.sh w, .sh w, .no, .no] S := by
    refine bnd_tr z ?_
    rw [if_pos (by rw [zip_len]; have : lim = 1000000 := rfl; omega)]
    refine bnd_tr (m := lcL [2, 3] (gTp (gCons (gNm 2) (gCons (gNm 3) gNil))) cYes (eEach F) [] (zip2D xs xs)) (a := acc) (t' := [.sh w, .sh w, .no, .no]) (S' := S) ?_ rfl
    unfold lcL
    rw [show lcGo [2, 3] (gTp (gCons (gNm 2) (gCons (gNm 3) gNil))) cYes (eEach F) [] (zip2D xs xs) [] (clr [2, 3] [.sh w, .sh w, .no, .no]) S = _ from e]
    rfl
  have al : (bnd (brD (eLc (bnd (aCons (eVar 0) (aCons (eVar 1) aNil)) dZip2) [2, 3] (gTp (gCons (gNm 2) (gCons (gNm 3) gNil))) cYes (eEach F))) dAll) [.sh w, .sh w, .no, .no] S = .ok (.bl true, false) [.sh w, .sh w, .no, .no] S := by
    refine bnd_tr (brD_tr lc rfl) ?_
    show optB ((boolsD acc).map fun l => l.all id) _ _ = _
    rw [k]
    show pur (.bl ((List.replicate xs.length true).all id)) _ _ = _
    rw [all_rep]
    rfl
  refine fn_tr (n := 4) (t := [.sh w, .sh w, .no, .no]) ?_
  unfold m__law_same
  refine bnd_tr (a := .rt (.bl true) false) (t' := [.sh w, .sh w, .no, .no]) (S' := S) (if_tr c1 ?_) rfl
  exact seq_tr (if_tr c2 rfl) (ret_tr (x := (.bl true, false)) (eb_tr (x := (.bl true, false)) q al))
theorem same_int {n : Nat} {i : Int} {S : Sto} : F__law_same (n + 1) [.int i, .int i] S = .ok (.bl true) false S := by
  have e : (eAnd (eNot (bnd (bVar 0) (dIsiT [.list, .tuple, .dict]))) (eb (eVar 0) fun x => eb (eVar 1) fun y => dEq x y)) [.sh (.int i), .sh (.int i), .no, .no] S = .ok (.bl true, false) [.sh (.int i), .sh (.int i), .no, .no] S := by
    show pur (.bl (decide (i = i))) _ _ = _
    rw [decide_eq_true rfl]
    rfl
  refine fn_tr (n := 4) (t := [.sh (.int i), .sh (.int i), .no, .no]) ?_
  unfold m__law_same
  exact seq_tr rfl (seq_tr rfl (seq_tr rfl (ret_tr (x := (.bl true, false)) e)))
end K78

set_option Elab.async false
set_option linter.all false
set_option maxRecDepth 100000
set_option maxHeartbeats 0
set_option autoImplicit false
namespace K78
open PySem PySem.Spec PyProof.Rows L2 TD
section
variable {S : Sto}
theorem and_tr {m r : ME} {t t' : Ev} {S S' : Sto} {f : Bool} {z : R (D × Bool)} (e : m t S = .ok (.bl true, f) t' S') (h : r t' S' = z) : eAnd m r t S = z := eb_tr e h
theorem whole_ok {k : Int} : F_is_whole [.int k] S = .ok (.bl true) false S := rfl
theorem pos_ok {k : Nat} (h : 1 ≤ k) : F_is_positive [.int k] S = .ok (.bl true) false S := by
  refine fn_tr (n := 1) (t := [.sh (.int k)]) ?_
  unfold m_is_positive
  refine ret_tr (x := (.bl true, false)) (and_tr (f := false) (call_tr (ds := [.int k]) whole_ok) ?_)
  show pur (.bl (decide ((1 : Int) ≤ k))) _ _ = _
  rw [decide_eq_true (by omega)]
  rfl
theorem list_ok {ds : List D} : F_is_list [.tup ds] S = .ok (.bl true) false S := rfl
theorem frac_ok {a b : Nat} (h : 1 ≤ b) : F_is_fraction [fr a b] S = .ok (.bl true) false S := by
  refine fn_tr (n := 1) (t := [.sh (fr a b)]) ?_
  unfold m_is_fraction
  exact ret_tr (x := (.bl true, false)) (and_tr (f := false) (call_tr (ds := [fr a b]) list_ok) (and_tr (f := false) (t' := [.sh (fr a b)]) (S' := S) rfl (and_tr (f := false) (call_tr (ds := [.int a]) whole_ok) (call_tr (ds := [.int b]) (pos_ok h)))))
theorem heap_ok {a b : Nat} (h : 1 ≤ b) : F_is_heap [fr a b] S = .ok (.bl true) false S := by
  refine fn_tr (n := 1) (t := [.sh (fr a b)]) ?_
  unfold m_is_heap
  refine ret_tr (x := (.bl true, false)) (and_tr (f := false) (call_tr (ds := [fr a b]) (frac_ok h)) ?_)
  show pur (.bl (decide ((0 : Int) ≤ a))) _ _ = _
  rw [decide_eq_true (by omega)]
  rfl
theorem wish_ok {a b c d : Nat} (hb : 1 ≤ b) (hc : 1 ≤ c) (hd : 1 ≤ d) : F_is_wish [.tup [fr a b, fr c d]] S = .ok (.bl true) false S := by
  refine fn_tr (n := 1) (t := [.sh (.tup [fr a b, fr c d])]) ?_
  unfold m_is_wish
  refine ret_tr (x := (.bl true, false)) (and_tr (f := false) (call_tr (ds := [.tup [fr a b, fr c d]]) list_ok) (and_tr (f := false) (t' := [.sh (.tup [fr a b, fr c d])]) (S' := S) rfl (and_tr (f := false) (call_tr (ds := [fr a b]) (heap_ok hb)) (and_tr (f := false) (call_tr (ds := [fr c d]) (heap_ok hd)) ?_))))
  show pur (.bl (decide ((0 : Int) < c))) _ _ = _
  rw [decide_eq_true (by omega)]
  rfl
theorem below_ok {a b c d : Nat} (ha : a < 2 ^ 200) (hb : b < 2 ^ 200) (hc : c < 2 ^ 200) (hd : d < 2 ^ 200) : F_is_below [fr a b, fr c d] S = .ok (.bl (decide (a * d < c * b))) false S := by
  have e1 : (eb (eIxV 0 (pur (.int 0))) fun x => eb (eIxV 1 (pur (.int 1))) fun y => dMul x y) [.sh (fr a b), .sh (fr c d)] S = .ok (.int ((a : Int) * d), false) [.sh (fr a b), .sh (fr c d)] S := dMul_at (natMul ha hd)
  have e2 : (eb (eIxV 1 (pur (.int 0))) fun x => eb (eIxV 0 (pur (.int 1))) fun y => dMul x y) [.sh (fr a b), .sh (fr c d)] S = .ok (.int ((c : Int) * b), false) [.sh (fr a b), .sh (fr c d)] S := dMul_at (natMul hc hb)
  refine fn_tr (n := 2) (t := [.sh (fr a b), .sh (fr c d)]) ?_
  unfold m_is_below
  refine ret_tr (x := (.bl (decide (a * d < c * b)), false)) (eb_tr e1 (eb_tr e2 ?_))
  show pur (.bl (decide ((a : Int) * d < (c : Int) * b))) _ _ = _
  rw [show decide ((a : Int) * d < (c : Int) * b) = decide (a * d < c * b) from decide_eq_decide.mpr (by rw [← Int.natCast_mul, ← Int.natCast_mul]; omega)]
  rfl
theorem told_ok {a b : Nat} (hb : 1 ≤ b) (hl : b < 2 ^ 200) : F_told [fr a b] S = .ok (fr (a / Nat.gcd a b) (b / Nat.gcd a b)) false S := by
  have gp : 0 < Nat.gcd a b := Nat.gcd_pos_of_pos_right _ hb
  have gl : Nat.gcd a b ≤ b := Nat.gcd_le_right _ hb
  have e : F_lowest [.int a, .int b] S = .ok (fr (a / Nat.gcd a b) (b / Nat.gcd a b)) false S := by
    have e1 : (eb (eVar 0) fun x => eb (eVar 2) fun y => dFdiv x y) [.sh (.int a), .sh (.int b), .sh (.int (Nat.gcd a b : Nat))] S = .ok (.int ((a / Nat.gcd a b : Nat) : Int), false) [.sh (.int a), .sh (.int b), .sh (.int (Nat.gcd a b : Nat))] S := by
      refine (dFdiv_at (i := a) (j := (Nat.gcd a b : Nat)) (t := [.sh (.int a), .sh (.int b), .sh (.int (Nat.gcd a b : Nat))]) (S := S) (by omega) (by omega)).trans ?_
      rw [Int.natCast_ediv]
    have e2 : (eb (eVar 1) fun x => eb (eVar 2) fun y => dFdiv x y) [.sh (.int a), .sh (.int b), .sh (.int (Nat.gcd a b : Nat))] S = .ok (.int ((b / Nat.gcd a b : Nat) : Int), false) [.sh (.int a), .sh (.int b), .sh (.int (Nat.gcd a b : Nat))] S := by
      refine (dFdiv_at (i := b) (j := (Nat.gcd a b : Nat)) (t := [.sh (.int a), .sh (.int b), .sh (.int (Nat.gcd a b : Nat))]) (S := S) (by omega) (by omega)).trans ?_
      rw [Int.natCast_ediv]
    have e0 : (bnd (aCons (eVar 0) (aCons (eVar 1) aNil)) dGcd) [.sh (.int a), .sh (.int b), .no] S = .ok (.int (Nat.gcd a b : Nat), false) [.sh (.int a), .sh (.int b), .no] S := rfl
    refine fn_tr (n := 3) (t := [.sh (.int a), .sh (.int b), .sh (.int (Nat.gcd a b : Nat))]) ?_
    unfold m_lowest
    exact seq_tr (set_tr e0) (ret_tr (tup_tr (cons_tr e1 (cons_tr e2 (ds := []) rfl)) (show (2 : Nat) ≤ lim by decide)))
  refine fn_tr (n := 1) (t := [.sh (fr a b)]) ?_
  unfold m_told
  exact ret_tr (x := (fr (a / Nat.gcd a b) (b / Nat.gcd a b), false)) (call_tr (ds := [.int a, .int b]) e)
theorem road_ok {k l : Nat} (hk : 1 ≤ k) (hl : 1 ≤ l) : F_check_road [.int k, .int l] S = .ok .non false S := by
  refine fn_nx (n := 2) (t := [.sh (.int k), .sh (.int l)]) ?_
  have e1 : (tNotM (tst (bnd (aCons (eVar 0) aNil) (call F_is_positive)))) [.sh (.int k), .sh (.int l)] S = .ok false [.sh (.int k), .sh (.int l)] S := bnd_tr (a := true) (eb_tr (x := (.bl true, false)) (call_tr (ds := [.int k]) (pos_ok hk)) rfl) rfl
  have e2 : (tNotM (tst (bnd (aCons (eVar 1) aNil) (call F_is_positive)))) [.sh (.int k), .sh (.int l)] S = .ok false [.sh (.int k), .sh (.int l)] S := bnd_tr (a := true) (eb_tr (x := (.bl true, false)) (call_tr (ds := [.int l]) (pos_ok hl)) rfl) rfl
  exact seq_tr (if_tr e1 rfl) (if_tr e2 rfl)
theorem road_len {k : Nat} {x : D} (hk : 1 ≤ k) (h : F_is_positive [x] S = .ok (.bl false) false S) : F_check_road [.int k, x] S = .ex "BadLength" [("length", x)] S := by
  refine fn_ex (n := 2) (t := [.sh (.int k), .sh x]) ?_
  have e1 : (tNotM (tst (bnd (aCons (eVar 0) aNil) (call F_is_positive)))) [.sh (.int k), .sh x] S = .ok false [.sh (.int k), .sh x] S := bnd_tr (a := true) (eb_tr (x := (.bl true, false)) (call_tr (ds := [.int k]) (pos_ok hk)) rfl) rfl
  have e2 : (tNotM (tst (bnd (aCons (eVar 1) aNil) (call F_is_positive)))) [.sh (.int k), .sh x] S = .ok true [.sh (.int k), .sh x] S := bnd_tr (a := false) (eb_tr (x := (.bl false, false)) (call_tr (ds := [x]) h) rfl) rfl
  exact seq_tr (if_tr e1 rfl) (if_tr e2 rfl)
theorem road_room {y x : D} (h : F_is_positive [x] S = .ok (.bl false) false S) : F_check_road [x, y] S = .ex "BadRoom" [("room", x)] S := by
  refine fn_ex (n := 2) (t := [.sh x, .sh y]) ?_
  have e2 : (tNotM (tst (bnd (aCons (eVar 0) aNil) (call F_is_positive)))) [.sh x, .sh y] S = .ok true [.sh x, .sh y] S := bnd_tr (a := false) (eb_tr (x := (.bl false, false)) (call_tr (ds := [x]) h) rfl) rfl
  exact seq_ex (if_tr e2 rfl)
/-! ### wishes, looked over -/
def tD (w : W4) : D := .tup [fr (w.a / Nat.gcd w.a w.b) (w.b / Nat.gcd w.a w.b), fr (w.c / Nat.gcd w.c w.d) (w.d / Nat.gcd w.c w.d)]
def tBad : MT := (tOrM (tNotM (tst (bnd (aCons (eVar 3) aNil) (call F_is_wish)))) (tAndM (tTru (bVar 1)) (tNotM (tst (bnd (aCons (eIx (eIxV 1 (eNeg (pur (.int 1)))) (pur (.int 0))) (aCons (eIxV 3 (pur (.int 0))) aNil)) (call F_is_below))))))
def sChk : MS := (sSeq (sIf tBad (sRaise "BadWishes" "index" (eVar 2)) sNx)
    (sExpr (mSlot "list" 1 (aCons (eTup (aCons (bnd (aCons (eIxV 3 (pur (.int 0))) aNil) (call F_told)) (aCons (bnd (aCons (eIxV 3 (pur (.int 1))) aNil) (call F_told)) aNil))) aNil) fApp)))
theorem last_at : ∀ (l : List W4) (p : W4), ((p :: l).map tD)[l.length]? = some (tD (lastP p l))
  | [], p => rfl
  | w :: l, p => by
    show ((w :: l).map tD)[l.length]? = _
    rw [last_at l w]
    rfl
theorem atI_last (l : List W4) (p : W4) : atI ((p :: l).map tD) (-1) = some (tD (lastP p l)) := by
  unfold atI ixN
  rw [if_neg (by omega), if_pos (by rw [List.length_map, List.length_cons]; omega)]
  show ((p :: l).map tD)[((-1 : Int) + ((p :: l).map tD).length).toNat]? = _
  rw [show ((-1 : Int) + ((p :: l).map tD).length).toNat = l.length by rw [List.length_map, List.length_cons]; omega]
  exact last_at l p
/-- it stands in its place -/
theorem tBad_wish {w0 : D} {done : List W4} {i : Int} {a b c d : Nat} (hb : 1 ≤ b) (hc : 1 ≤ c) (hd : 1 ≤ d) (ha : a < 2 ^ 60) (hl : b < 2 ^ 60) (hw : ∀ w ∈ done, OkW w) {z : Bool}
    (hz : ∀ p l, done = p :: l → z = !decide ((lastP p l).a / Nat.gcd (lastP p l).a (lastP p l).b * b < a * ((lastP p l).b / Nat.gcd (lastP p l).a (lastP p l).b))) (hn : done = [] → z = false) :
    tBad [.sh w0, .ow (.lst (done.map tD)), .sh (.int i), .sh (.tup [fr a b, fr c d])] S = .ok z [.sh w0, .ow (.lst (done.map tD)), .sh (.int i), .sh (.tup [fr a b, fr c d])] S := by
  have e1 : (tNotM (tst (bnd (aCons (eVar 3) aNil) (call F_is_wish)))) [.sh w0, .ow (.lst (done.map tD)), .sh (.int i), .sh (.tup [fr a b, fr c d])] S = .ok false [.sh w0, .ow (.lst (done.map tD)), .sh (.int i), .sh (.tup [fr a b, fr c d])] S :=
    bnd_tr (a := true) (eb_tr (x := (.bl true, false)) (call_tr (ds := [.tup [fr a b, fr c d]]) (wish_ok hb hc hd)) rfl) rfl
  refine bnd_tr e1 ?_
  cases done with
  | nil =>
    rw [hn rfl]
    rfl
  | cons p l =>
    rw [hz p l rfl]
    have ok : ∀ (l : List W4) (p : W4), (∀ w ∈ p :: l, OkW w) → OkW (lastP p l) := fun l => by
      induction l with
      | nil => exact fun p h => h p (List.mem_cons_self ..)
      | cons w l ih => exact fun p h => ih w fun v hv => h v (List.mem_cons_of_mem _ hv)
    have hk := ok l p hw
    have L := lw_gcd (a := (lastP p l).a) (b := (lastP p l).b) hk.b1
    have ple := L.ple
    have qle := L.qle
    have al := hk.al
    have bl := hk.bl
    have e3 : (eIxV 1 (eNeg (pur (.int 1)))) [.sh w0, .ow (.lst ((p :: l).map tD)), .sh (.int i), .sh (.tup [fr a b, fr c d])] S = .ok (tD (lastP p l), false) [.sh w0, .ow (.lst ((p :: l).map tD)), .sh (.int i), .sh (.tup [fr a b, fr c d])] S := by
      show optD (atI ((p :: l).map tD) (-1)) _ _ = _
      rw [atI_last]
      rfl
    have e4 : (bnd (aCons (eIx (eIxV 1 (eNeg (pur (.int 1)))) (pur (.int 0))) (aCons (eIxV 3 (pur (.int 0))) aNil)) (call F_is_below)) [.sh w0, .ow (.lst ((p :: l).map tD)), .sh (.int i), .sh (.tup [fr a b, fr c d])] S = _ :=
      bnd_tr (cons_tr (x := (fr ((lastP p l).a / Nat.gcd (lastP p l).a (lastP p l).b) ((lastP p l).b / Nat.gcd (lastP p l).a (lastP p l).b), false)) (eb_tr e3 rfl) (cons_tr (x := (fr a b, false)) rfl (r := aNil) (ds := []) rfl)) (call_tr (below_ok (by omega) (by omega) (by omega) (by omega)))
    have e5 : (tTru (bVar 1)) [.sh w0, .ow (.lst ((p :: l).map tD)), .sh (.int i), .sh (.tup [fr a b, fr c d])] S = .ok true [.sh w0, .ow (.lst ((p :: l).map tD)), .sh (.int i), .sh (.tup [fr a b, fr c d])] S := rfl
    show tAndM (tTru (bVar 1)) (tNotM (tst (bnd (aCons (eIx (eIxV 1 (eNeg (pur (.int 1)))) (pur (.int 0))) (aCons (eIxV 3 (pur (.int 0))) aNil)) (call F_is_below)))) _ _ = _
    unfold tAndM
    rw [bnd_ok e5, if_pos rfl]
    unfold tNotM
    exact bnd_tr (m := tst (bnd (aCons (eIx (eIxV 1 (eNeg (pur (.int 1)))) (pur (.int 0))) (aCons (eIxV 3 (pur (.int 0))) aNil)) (call F_is_below))) (eb_tr e4 rfl) rfl
theorem lw_below {a b p q c d : Nat} (L : Lw a b p q) (hb : 1 ≤ b) (h : a * d < c * b) : p * d < c * q := by
  have e := L.eq
  refine Nat.lt_of_mul_lt_mul_right (a := b) ?_
  calc p * d * b = p * b * d := Nat.mul_right_comm _ _ _
    _ = a * q * d := by rw [e]
    _ = a * d * q := Nat.mul_right_comm _ _ _
    _ < c * b * q := Nat.mul_lt_mul_of_pos_right h L.q1
    _ = c * q * b := Nat.mul_right_comm _ _ _
theorem lw_nbelow {a b p q c d : Nat} (L : Lw a b p q) (hb : 1 ≤ b) (h : c * b ≤ a * d) : ¬ p * d < c * q := fun z => by
  have e := L.eq
  have : c * q * b ≤ p * d * b := by
    calc c * q * b = c * b * q := Nat.mul_right_comm _ _ _
      _ ≤ a * d * q := Nat.mul_le_mul_right _ h
      _ = a * q * d := Nat.mul_right_comm _ _ _
      _ = p * b * d := by rw [e]
      _ = p * d * b := Nat.mul_right_comm _ _ _
  exact absurd (Nat.le_of_mul_le_mul_right this hb) (by omega)
end
end K78

set_option Elab.async false
set_option linter.all false
set_option maxRecDepth 100000
set_option maxHeartbeats 0
set_option autoImplicit false
namespace K78
open PySem PySem.Spec PyProof.Rows L2 TD
section
variable {S : Sto}
theorem loop_ex {f : MG} {body : MS} {d : D} {ds : List D} {t t1 t2 : Ev} {S2 : Sto} {c : Str} {fs : List (Str × D)} (e : f d t = some t1) (h : body t1 S = .ex c fs t2 S2) : loop f body [] (d :: ds) t S = .ex c fs t2 S2 := by
  unfold loop
  rw [if_pos (show ancB [] S = true from rfl), bnd_ok (m := asg f d) (a := ()) (t' := t1) (S' := S) (by unfold asg; rw [e])]
  exact bnd_ex h
theorem inc_mid : ∀ {l : List W4} {p w : W4} {r : List W4}, incP p (l ++ w :: r) → blw (lastP p l) w
  | [], _, _, _, h => h.1
  | _ :: l, _, _, _, h => inc_mid (l := l) h.2
theorem okw_last : ∀ (l : List W4) (p : W4), (∀ w ∈ p :: l, OkW w) → OkW (lastP p l)
  | [], p, h => h p (List.mem_cons_self ..)
  | w :: l, p, h => okw_last l w fun v hv => h v (List.mem_cons_of_mem _ hv)
def gIx : MG := gTp (gCons (gNm 2) (gCons (gNm 3) gNil))
theorem chk_step {w0 : D} {done : List W4} {i : Int} {w : W4} {r : List W4} (hd : ∀ w ∈ done, OkW w) (hw : OkW w) (hi : Inc (done ++ w :: r)) (hl : done.length < 1000) :
    sChk [.sh w0, .ow (.lst (done.map tD)), .sh (.int i), .sh (wD w)] S = .ok .nx [.sh w0, .ow (.lst ((done ++ [w]).map tD)), .sh (.int i), .sh (wD w)] S := by
  have e1 : tBad [.sh w0, .ow (.lst (done.map tD)), .sh (.int i), .sh (wD w)] S = .ok false [.sh w0, .ow (.lst (done.map tD)), .sh (.int i), .sh (wD w)] S := by
    refine tBad_wish hw.b1 hw.c1 hw.d1 hw.al hw.bl hd (fun p l e => ?_) (fun _ => rfl)
    subst e
    have hk := okw_last l p hd
    rw [decide_eq_true (lw_below (lw_gcd hk.b1) hk.b1 (inc_mid hi))]
    rfl
  have bl := hw.bl
  have dl := hw.dl
  have t1 : (bnd (aCons (eIxV 3 (pur (.int 0))) aNil) (call F_told)) [.sh w0, .ow (.lst (done.map tD)), .sh (.int i), .sh (wD w)] S = _ := call_tr (ds := [fr w.a w.b]) (told_ok hw.b1 (by omega))
  have t2 : (bnd (aCons (eIxV 3 (pur (.int 1))) aNil) (call F_told)) [.sh w0, .ow (.lst (done.map tD)), .sh (.int i), .sh (wD w)] S = _ := call_tr (ds := [fr w.c w.d]) (told_ok hw.d1 (by omega))
  refine seq_tr (if_tr e1 rfl) (expr_tr (x := (.non, false)) (bnd_tr (m := aCons (eTup (aCons (bnd (aCons (eIxV 3 (pur (.int 0))) aNil) (call F_told)) (aCons (bnd (aCons (eIxV 3 (pur (.int 1))) aNil) (call F_told)) aNil))) aNil) (cons_tr (tup_tr (cons_tr t1 (cons_tr t2 (r := aNil) (ds := []) rfl)) (show (2 : Nat) ≤ lim by decide)) (r := aNil) (ds := []) rfl) ?_))
  have f : fApp [tD w] (.lst (done.map tD)) = some (.lst ((done ++ [w]).map tD), .non) := by
    show (if (done.map tD).length < lim then some (D.lst (done.map tD ++ [tD w]), D.non) else none) = _
    rw [if_pos (by rw [List.length_map]; have : lim = 1000000 := rfl; omega), List.map_append]
    rfl
  show (match fApp [tD w] (.lst (done.map tD)) with | some (d', y) => R.ok (y, false) ([Slot.sh w0, .ow (.lst (done.map tD)), .sh (.int i), .sh (wD w)].set 1 (.ow d')) S | none => .bad) = _
  rw [f]
  rfl
theorem chk_loop {w0 : D} {rest : List D} : ∀ (ws done : List W4) (i : Nat) (x2 x3 : Slot), (∀ w ∈ done, OkW w) → (∀ w ∈ ws, OkW w) → Inc (done ++ ws) → done.length + ws.length < 1000 →
    ∃ y2 y3, loop gIx sChk [] (enumD i (ws.map wD ++ rest)) [.sh w0, .ow (.lst (done.map tD)), x2, x3] S = loop gIx sChk [] (enumD (i + ws.length) rest) [.sh w0, .ow (.lst ((done ++ ws).map tD)), y2, y3] S
  | [], done, i, x2, x3, _, _, _, _ => ⟨x2, x3, by rw [List.append_nil]; rfl⟩
  | w :: ws, done, i, x2, x3, hd, hw, hi, hl => by
    simp only [List.length_cons] at hl
    obtain ⟨y2, y3, e⟩ := chk_loop (w0 := w0) (rest := rest) ws (done ++ [w]) (i + 1) (.sh (.int i)) (.sh (wD w)) (fun v hv => by
      rcases List.mem_append.mp hv with hv | hv
      · exact hd v hv
      · rw [List.mem_singleton] at hv; subst hv; exact hw v (List.mem_cons_self ..)) (fun v hv => hw v (List.mem_cons_of_mem _ hv)) (by rw [List.append_assoc]; exact hi) (by rw [List.length_append]; show done.length + 1 + ws.length < 1000; omega)
    refine ⟨y2, y3, ?_⟩
    rw [show i + (w :: ws).length = i + 1 + ws.length by simp only [List.length_cons]; omega, show done ++ w :: ws = done ++ [w] ++ ws by rw [List.append_assoc]; rfl]
    exact loop_tr rfl (chk_step hd (hw w (List.mem_cons_self ..)) hi (by omega)) e
theorem wishes_eq : m_checked_wishes = sSeq (sIf (tOrM (tNotM (tst (bnd (aCons (eVar 0) aNil) (call F_is_list)))) (tst (eb (bnd (bVar 0) dLen) fun x => eb (pur (.int 0)) fun y => dEq x y))) (sRaise "BadWishes" "index" (pur (.int 0))) sNx)
    (sSeq (sSet 1 (eLst aNil)) (sSeq (sFor (bnd (aCons (eVar 0) aNil) dEnum) gIx sChk) (sRet (eMove 1)))) := rfl
theorem wishes_top {x : D} {ds : List D} {z : R Fl} (h : loop gIx sChk [] (enumD 0 (x :: ds)) [.sh (.lst (x :: ds)), .ow (.lst []), .no, .no] S = z) {z' : R Fl} (k : ∀ t' , z = .ok .nx t' S → sRet (eMove 1) t' S = z') (k2 : ∀ c fs t', z = .ex c fs t' S → z' = z) (hz : (∃ t', z = .ok .nx t' S) ∨ ∃ c fs t', z = .ex c fs t' S) :
    m_checked_wishes [.sh (.lst (x :: ds)), .no, .no, .no] S = z' := by
  rw [wishes_eq]
  have c : (tOrM (tNotM (tst (bnd (aCons (eVar 0) aNil) (call F_is_list)))) (tst (eb (bnd (bVar 0) dLen) fun x => eb (pur (.int 0)) fun y => dEq x y))) [.sh (.lst (x :: ds)), .no, .no, .no] S = .ok false [.sh (.lst (x :: ds)), .no, .no, .no] S := by
    have q : (tst (eb (bnd (bVar 0) dLen) fun x => eb (pur (.int 0)) fun y => dEq x y)) [.sh (.lst (x :: ds)), .no, .no, .no] S = .ok false [.sh (.lst (x :: ds)), .no, .no, .no] S := by
      show tst (pur (.bl (decide (((x :: ds).length : Int) = 0)))) _ _ = _
      rw [decide_eq_false (by rw [List.length_cons]; omega)]
      rfl
    exact bnd_tr (m := tNotM (tst (bnd (aCons (eVar 0) aNil) (call F_is_list)))) (a := false) rfl q
  refine seq_tr (if_tr c rfl) (seq_tr (t' := [.sh (.lst (x :: ds)), .ow (.lst []), .no, .no]) (S' := S) rfl ?_)
  have f : sFor (bnd (aCons (eVar 0) aNil) dEnum) gIx sChk [.sh (.lst (x :: ds)), .ow (.lst []), .no, .no] S = z := for_tr (ds := enumD 0 (x :: ds)) (t' := [.sh (.lst (x :: ds)), .ow (.lst []), .no, .no]) (S' := S) rfl h
  rcases hz with ⟨t', e⟩ | ⟨c, fs, t', e⟩
  · exact seq_tr (f.trans e) (k t' e)
  · rw [k2 c fs t' e, e]
    exact seq_ex (f.trans e)
theorem checked_ok {ws : List W4} (h1 : 1 ≤ ws.length) (hl : ws.length < 1000) (hw : ∀ w ∈ ws, OkW w) (hi : Inc ws) : F_checked_wishes [.lst (ws.map wD)] S = .ok (.lst (ws.map tD)) true S := by
  cases ws with
  | nil => exact absurd h1 (by decide)
  | cons w l =>
    obtain ⟨y2, y3, e⟩ := chk_loop (S := S) (w0 := .lst ((w :: l).map wD)) (rest := []) (w :: l) [] 0 .no .no (fun w h => nomatch h) hw hi (by show 0 + _ < _; omega)
    rw [List.append_nil] at e
    refine fn_tr (n := 4) (t := [.sh (.lst ((w :: l).map wD)), .no, y2, y3]) ?_
    exact wishes_top (x := wD w) (ds := l.map wD) e (fun t' e' => by cases e'; rfl) (fun c fs t' e' => nomatch e') (.inl ⟨_, rfl⟩)
theorem checked_bad {pre : List W4} {x : D} {rest : List D} (hl : pre.length < 1000) (hw : ∀ w ∈ pre, OkW w) (hi : Inc pre) (hx : ∀ (w0 : D) (i : Int), tBad [.sh w0, .ow (.lst (pre.map tD)), .sh (.int i), .sh x] S = .ok true [.sh w0, .ow (.lst (pre.map tD)), .sh (.int i), .sh x] S) :
    F_checked_wishes [.lst (pre.map wD ++ x :: rest)] S = .ex "BadWishes" [("index", .int pre.length)] S := by
  obtain ⟨y2, y3, e⟩ := chk_loop (S := S) (w0 := .lst (pre.map wD ++ x :: rest)) (rest := x :: rest) pre [] 0 .no .no (fun w h => nomatch h) hw hi (by show 0 + _ < _; omega)
  have e2 : loop gIx sChk [] (enumD (0 + pre.length) (x :: rest)) [.sh (.lst (pre.map wD ++ x :: rest)), .ow (.lst (([] ++ pre).map tD)), y2, y3] S = .ex "BadWishes" [("index", .int pre.length)] [.sh (.lst (pre.map wD ++ x :: rest)), .ow (.lst (pre.map tD)), .sh (.int pre.length), .sh x] S := by
    rw [Nat.zero_add, List.nil_append]
    have b : sChk [.sh (.lst (pre.map wD ++ x :: rest)), .ow (.lst (pre.map tD)), .sh (.int pre.length), .sh x] S = .ex "BadWishes" [("index", .int pre.length)] [.sh (.lst (pre.map wD ++ x :: rest)), .ow (.lst (pre.map tD)), .sh (.int pre.length), .sh x] S := seq_ex (if_tr (hx _ _) rfl)
    exact loop_ex (d := .tup [.int pre.length, x]) (ds := enumD (pre.length + 1) rest) rfl b
  have g : ∃ y ys, pre.map wD ++ x :: rest = y :: ys := by
    cases pre with
    | nil => exact ⟨_, _, rfl⟩
    | cons w l => exact ⟨_, _, rfl⟩
  obtain ⟨y, ys, eg⟩ := g
  have e3 := e.trans e2
  rw [List.map_nil] at e3
  rw [eg] at e3 ⊢
  refine fn_ex (n := 4) (t := [.sh (.lst (y :: ys)), .ow (.lst (pre.map tD)), .sh (.int pre.length), .sh x]) ?_
  exact wishes_top e3 (fun t' e' => nomatch e') (fun c fs t' e' => rfl) (.inr ⟨_, _, _, rfl⟩)
theorem tBad_not {w0 x : D} {f : Slot} {i : Int} (h : F_is_wish [x] S = .ok (.bl false) false S) : tBad [.sh w0, f, .sh (.int i), .sh x] S = .ok true [.sh w0, f, .sh (.int i), .sh x] S := by
  have e1 : (tNotM (tst (bnd (aCons (eVar 3) aNil) (call F_is_wish)))) [.sh w0, f, .sh (.int i), .sh x] S = .ok true [.sh w0, f, .sh (.int i), .sh x] S :=
    bnd_tr (a := false) (eb_tr (x := (.bl false, false)) (call_tr (ds := [x]) h) rfl) rfl
  unfold tBad tOrM
  rw [bnd_ok e1]
  rfl
end
end K78

set_option Elab.async false
set_option linter.all false
set_option maxRecDepth 100000
set_option maxHeartbeats 0
set_option autoImplicit false
namespace K78
open PySem PySem.Spec PyProof.Rows L2 TD
def OD : List D := [.non, .int 5, .str "ab", pr 1 2, .tup [pr (-1) 2, pr 1 1], .tup [pr 400 1, pr 0 1], .tup [pr 400 1, pr (-1) 1], .tup [pr 400 1, .int 3],
  .tup [pr 400 1, pr 0 2], .lst [pr 400 1, .lst [.int 0, .int 3]], .tup [pr 400 1, .dic [(.inl 3, .int 0), (.inl 2, .int 0)]], .dct [([.inl 400, .inl 1], .int 0), ([.inl 3, .inl 1], .int 0)],
  .tup [pr 400 1, pr 1 1, .int 0], .tup [pr 400 1], .tup [.tup [.bl true, .int 1], pr 1 1], .dic [], .lst [], .tup [.non, pr 1 1], .tup [pr 400 1, pr 1 0], .tup [pr 400 0, pr 1 1]]
theorem od_bad {S : Sto} : ∀ x ∈ OD, F_is_wish [x] S = .ok (.bl false) false S := fun x hx => by
  simp only [OD, List.mem_cons, List.not_mem_nil, or_false] at hx
  rcases hx with rfl | rfl | rfl | rfl | rfl | rfl | rfl | rfl | rfl | rfl | rfl | rfl | rfl | rfl | rfl | rfl | rfl | rfl | rfl | rfl <;> rfl
theorem last_get : ∀ (l : List W4) (p : W4), (p :: l)[l.length]? = some (lastP p l)
  | [], p => rfl
  | w :: l, p => by
    show (w :: l)[l.length]? = _
    exact last_get l w
section
variable {S : Sto}
theorem take_last {ws : List W4} {k : Nat} {w : W4} (h : ws[k]? = some w) {p : W4} {l : List W4} (e : ws.take (k + 1) = p :: l) : lastP p l = w := by
  have hk := (List.getElem?_eq_some_iff.mp h).1
  have hl : l.length = k := by
    have := congrArg List.length e
    rw [List.length_take, List.length_cons] at this
    omega
  have := last_get l p
  rw [← e, hl, List.getElem?_take_of_lt (by omega), h] at this
  exact (Option.some.inj this).symm
theorem tBad_late {ws : List W4} {k : Nat} {w : W4} (hw : ∀ w ∈ ws, OkW w) (h : ws[k]? = some w) {a b c d : Nat} (hb : 1 ≤ b) (hc : 1 ≤ c) (hd : 1 ≤ d) (ha : a < 2 ^ 60) (hl : b < 2 ^ 60) (hz : a * w.b ≤ w.a * b) (w0 : D) (i : Int) :
    tBad [.sh w0, .ow (.lst ((ws.take (k + 1)).map tD)), .sh (.int i), .sh (.tup [fr a b, fr c d])] S = .ok true [.sh w0, .ow (.lst ((ws.take (k + 1)).map tD)), .sh (.int i), .sh (.tup [fr a b, fr c d])] S := by
  refine tBad_wish hb hc hd ha hl (fun v hv => hw v (List.mem_of_mem_take hv)) (fun p l e => ?_) (fun e => ?_)
  · rw [take_last h e]
    have hk := hw w (List.mem_of_getElem? h)
    rw [decide_eq_false (lw_nbelow (lw_gcd hk.b1) hk.b1 hz)]
    rfl
  · have := congrArg List.length e
    rw [List.length_take] at this
    have hk := (List.getElem?_eq_some_iff.mp h).1
    simp only [List.length_nil] at this
    omega
theorem incP_take : ∀ (l : List W4) (p : W4) (n : Nat), incP p l → incP p (l.take n)
  | [], p, n, h => by rw [List.take_nil]; trivial
  | w :: l, p, 0, h => trivial
  | w :: l, p, n + 1, h => ⟨h.1, incP_take l w n h.2⟩
theorem inc_take : ∀ (ws : List W4) (n : Nat), Inc ws → Inc (ws.take n)
  | [], n, _ => by rw [List.take_nil]; trivial
  | w :: l, 0, _ => trivial
  | w :: l, n + 1, h => incP_take l w n h
/-- a thing that is refused at the place v -/
def BadX (ws : List W4) (v : Nat) (x : D) : Prop := ∀ (S : Sto) (w0 : D) (i : Int), tBad [.sh w0, .ow (.lst ((ws.take v).map tD)), .sh (.int i), .sh x] S = .ok true [.sh w0, .ow (.lst ((ws.take v).map tD)), .sh (.int i), .sh x] S
theorem od_badX {ws : List W4} {v : Nat} {x : D} (h : x ∈ OD) : BadX ws v x := fun S w0 i => tBad_not (od_bad x h)
def eOdd : ME := (iff (tst (eb (eVar 2) fun x => eb (pur (.int 0)) fun y => dGt x y)) (eLst (aCons (eIxV 1 (eb (eVar 2) fun x => eb (pur (.int 1)) fun y => dSub x y)) (aCons (eTup (aCons (eIx (eIxV 1 (eb (eVar 2) fun x => eb (pur (.int 1)) fun y => dSub x y)) (pur (.int 0))) (aCons (eTup (aCons (pur (.int 1)) (aCons (pur (.int 1)) aNil))) aNil))) (aCons (eTup (aCons (eTup (aCons (pur (.int 0)) (aCons (pur (.int 1)) aNil))) (aCons (eTup (aCons (pur (.int 1)) (aCons (pur (.int 1)) aNil))) aNil))) aNil)))) (eLst aNil))
theorem odd_ok {ws : List W4} {v : Nat} {s3 s4 : Slot} (hw : ∀ w ∈ ws, OkW w) (hv : v ≤ ws.length) : ∃ ext, eOdd [.sh (.box 1), .sh (.lst (ws.map wD)), .sh (.int v), s3, s4] S = .ok (.lst ext, true) [.sh (.box 1), .sh (.lst (ws.map wD)), .sh (.int v), s3, s4] S ∧ ext.length ≤ 3 ∧ ∀ x ∈ ext, BadX ws v x := by
  have c : (tst (eb (eVar 2) fun x => eb (pur (.int 0)) fun y => dGt x y)) [.sh (.box 1), .sh (.lst (ws.map wD)), .sh (.int v), s3, s4] S = .ok (decide ((0 : Int) < v)) [.sh (.box 1), .sh (.lst (ws.map wD)), .sh (.int v), s3, s4] S := rfl
  cases v with
  | zero => exact ⟨[], iff_tr c rfl, Nat.zero_le _, fun x h => nomatch h⟩
  | succ k =>
    obtain ⟨w, ew⟩ : ∃ w, ws[k]? = some w := ⟨ws[k], List.getElem?_eq_getElem (by omega)⟩
    have hk := hw w (List.mem_of_getElem? ew)
    have e1 : (eIxV 1 (eb (eVar 2) fun x => eb (pur (.int 1)) fun y => dSub x y)) [.sh (.box 1), .sh (.lst (ws.map wD)), .sh (.int (k + 1 : Nat)), s3, s4] S = .ok (wD w, false) [.sh (.box 1), .sh (.lst (ws.map wD)), .sh (.int (k + 1 : Nat)), s3, s4] S := by
      show optD (atI (ws.map wD) (((k + 1 : Nat) : Int) - 1)) _ _ = _
      rw [show ((k + 1 : Nat) : Int) - 1 = (k : Nat) by omega]
      have : atI (ws.map wD) (k : Nat) = some (wD w) := by
        unfold atI ixN
        rw [if_pos (by omega), if_pos (by rw [List.length_map]; omega)]
        show (ws.map wD)[((k : Nat) : Int).toNat]? = _
        rw [Int.toNat_natCast, List.getElem?_map, ew]
        rfl
      rw [this]
      rfl
    refine ⟨[wD w, .tup [fr w.a w.b, fr 1 1], .tup [fr 0 1, fr 1 1]], iff_tr c ?_, Nat.le_refl _, fun x hx => ?_⟩
    · rw [decide_eq_true (by omega), if_pos rfl]
      exact lst_tr (cons_tr e1 (cons_tr (x := (.tup [fr w.a w.b, fr 1 1], false)) (tup_tr (cons_tr (x := (fr w.a w.b, false)) (eb_tr e1 rfl) (r := aCons (eTup (aCons (pur (.int 1)) (aCons (pur (.int 1)) aNil))) aNil) (ds := [fr 1 1]) rfl) (show (2 : Nat) ≤ lim by decide)) (r := aCons (eTup (aCons (eTup (aCons (pur (.int 0)) (aCons (pur (.int 1)) aNil))) (aCons (eTup (aCons (pur (.int 1)) (aCons (pur (.int 1)) aNil))) aNil))) aNil) (ds := [.tup [fr 0 1, fr 1 1]]) rfl)) (show (3 : Nat) ≤ lim by decide)
    · simp only [List.mem_cons, List.not_mem_nil, or_false] at hx
      rcases hx with rfl | rfl | rfl
      · exact fun S w0 i => tBad_late (c := w.c) (d := w.d) hw ew hk.b1 hk.c1 hk.d1 hk.al hk.bl (Nat.le_refl _) w0 i
      · exact fun S w0 i => tBad_late (c := 1) (d := 1) hw ew hk.b1 (by decide) (by decide) hk.al hk.bl (Nat.le_refl _) w0 i
      · exact fun S w0 i => tBad_late (c := 1) (d := 1) hw ew (by decide) (by decide) (by decide) (by decide) (by decide) (by rw [Nat.zero_mul]; exact Nat.zero_le _) w0 i
theorem newL_ok {ds : List D} {t : Ev} (h : ds.length ≤ 100000) : newL ds t S = .ok (.lst ds, true) t S := by
  unfold newL
  rw [if_pos (by have : lim = 1000000 := rfl; omega)]
  rfl
theorem badw_ok {n : Nat} {r : Sto} {ws : List W4} (h : StOk n r S) (hn : n < 800000) (hw : ∀ w ∈ ws, OkW w) (hi : Inc ws) (hl : ws.length ≤ 4) : ∃ bad v S', F__law_bad_wishes [.box 1, .lst (ws.map wD)] S = .ok (.tup [bad, .int v]) false S' ∧ StOk (n + 3) r S' ∧ ∀ S, F_checked_wishes [bad] S = .ex "BadWishes" [("index", .int v)] S := by
  obtain ⟨d, S1, e1, v, rfl, v0, v1, h1⟩ := draw_ok (many := (ws.map wD).length + 1) h (by omega) (by omega) (by rw [List.length_map]; omega)
  rw [List.length_map] at v1
  obtain ⟨v, rfl⟩ := Int.eq_ofNat_of_zero_le v0
  have hv : v ≤ ws.length := by omega
  obtain ⟨ext, e2, l2, bx⟩ := odd_ok (S := S1) (s3 := .ow (.lst OD)) (s4 := .no) hw hv
  obtain ⟨x, S2, e3, hx, h2⟩ := pick_ok (ds := OD ++ ext) h1 (by omega) (by rw [List.length_append]; show 1 ≤ 20 + ext.length; omega) (by rw [List.length_append]; show 20 + ext.length < _; omega)
  have hb : BadX ws v x := by
    rcases List.mem_append.mp hx with hx | hx
    · exact od_badX hx
    · exact bx x hx
  obtain ⟨y, S3, e4, hy, h3⟩ := pick_ok (ds := [.tup [.lst ((ws.map wD).take v ++ [x] ++ (ws.map wD).drop v), .int v], .tup [.lst ((ws.map wD).take v ++ [x] ++ (ws.map wD).drop v), .int v], .tup [.lst ((ws.map wD).take v ++ [x] ++ (ws.map wD).drop v), .int v], .tup [.non, .int 0], .tup [.lst [], .int 0], .tup [.tup [], .int 0], .tup [.str "ab", .int 0], .tup [.dic [], .int 0], .tup [.int 5, .int 0]]) h2 (by omega) (by simp) (by simp)
  have row : ∀ S, F_checked_wishes [.lst ((ws.map wD).take v ++ [x] ++ (ws.map wD).drop v)] S = .ex "BadWishes" [("index", .int v)] S := fun S => by
    have := checked_bad (S := S) (pre := ws.take v) (x := x) (rest := (ws.map wD).drop v) (by rw [List.length_take]; omega) (fun w hw' => hw w (List.mem_of_mem_take hw')) (inc_take ws v hi) (hb S)
    rw [List.length_take, Nat.min_eq_left hv, List.map_take] at this
    rw [List.append_assoc]
    exact this
  have fin : ∃ bad u, y = .tup [bad, .int u] ∧ ∀ S, F_checked_wishes [bad] S = .ex "BadWishes" [("index", .int u)] S := by
    simp only [List.mem_cons, List.not_mem_nil, or_false] at hy
    rcases hy with rfl | rfl | rfl | rfl | rfl | rfl | rfl | rfl | rfl
    · exact ⟨_, _, rfl, row⟩
    · exact ⟨_, _, rfl, row⟩
    · exact ⟨_, _, rfl, row⟩
    · exact ⟨_, _, rfl, fun S => rfl⟩
    · exact ⟨_, _, rfl, fun S => rfl⟩
    · exact ⟨_, _, rfl, fun S => rfl⟩
    · exact ⟨_, _, rfl, fun S => rfl⟩
    · exact ⟨_, _, rfl, fun S => rfl⟩
    · exact ⟨_, _, rfl, fun S => rfl⟩
  obtain ⟨bd, u, rfl, hu⟩ := fin
  refine ⟨bd, u, S3, ?_, h3, hu⟩
  have y1 : (bnd (aCons (eVar 0) (aCons (eb (bnd (bVar 1) dLen) fun x => eb (pur (.int 1)) fun y => dAdd x y) aNil)) (call F__law_draw)) [.sh (.box 1), .sh (.lst (ws.map wD)), .no, .no, .no] S = .ok (.int v, false) [.sh (.box 1), .sh (.lst (ws.map wD)), .no, .no, .no] S1 := call_tr (ds := [.box 1, .int ((ws.map wD).length + 1)]) e1
  have y5 : (sExpr (mSlot "list" 3 (aCons eOdd aNil) fExt)) [.sh (.box 1), .sh (.lst (ws.map wD)), .sh (.int v), .ow (.lst OD), .no] S1 = .ok .nx [.sh (.box 1), .sh (.lst (ws.map wD)), .sh (.int v), .ow (.lst (OD ++ ext)), .no] S1 := by
    refine expr_tr (x := (.non, false)) (bnd_tr (m := aCons eOdd aNil) (cons_tr e2 (r := aNil) (ds := []) rfl) ?_)
    have f : fExt [.lst ext] (.lst OD) = some (.lst (OD ++ ext), .non) := by
      show (if OD.length + ext.length ≤ lim then some (D.lst (OD ++ ext), D.non) else none) = _
      rw [if_pos (by show 20 + ext.length ≤ lim; have : lim = 1000000 := rfl; omega)]
    show (match fExt [.lst ext] (.lst OD) with | some (d', w) => R.ok (w, false) ([Slot.sh (.box 1), .sh (.lst (ws.map wD)), .sh (.int v), .ow (.lst OD), .no].set 3 (.ow d')) S1 | none => .bad) = _
    rw [f]
    rfl
  have lW : (ws.map wD).length = ws.length := List.length_map ..
  have sl1 : ∀ {s3 s4 : Slot} {S : Sto}, (eSlV 1 pNone (pInt (eVar 2))) [.sh (.box 1), .sh (.lst (ws.map wD)), .sh (.int v), s3, s4] S = .ok (.lst ((ws.map wD).take v), true) [.sh (.box 1), .sh (.lst (ws.map wD)), .sh (.int v), s3, s4] S := fun {s3 s4 S} => by
    show newL (((ws.map wD).drop 0).take (HT.sIx (ws.map wD).length (ws.map wD).length (some (v : Int)) - 0)) _ _ = _
    rw [HT.sIx_nat, Nat.min_eq_left (by rw [lW]; exact hv), List.drop_zero, Nat.sub_zero]
    exact newL_ok (by rw [List.length_take]; omega)
  have sl2 : ∀ {s3 s4 : Slot} {S : Sto}, (eSlV 1 (pInt (eVar 2)) pNone) [.sh (.box 1), .sh (.lst (ws.map wD)), .sh (.int v), s3, s4] S = .ok (.lst ((ws.map wD).drop v), true) [.sh (.box 1), .sh (.lst (ws.map wD)), .sh (.int v), s3, s4] S := fun {s3 s4 S} => by
    show newL (((ws.map wD).drop (HT.sIx (ws.map wD).length 0 (some (v : Int)))).take ((ws.map wD).length - HT.sIx (ws.map wD).length 0 (some (v : Int)))) _ _ = _
    rw [HT.sIx_nat, Nat.min_eq_left (by rw [lW]; exact hv), List.take_of_length_le (by rw [List.length_drop]; exact Nat.le_refl _)]
    exact newL_ok (by rw [List.length_drop]; omega)
  have pk : (eLst (aCons (bnd (aCons (eVar 0) (aCons (eVar 3) aNil)) (call F__law_pick)) aNil)) [.sh (.box 1), .sh (.lst (ws.map wD)), .sh (.int v), .ow (.lst (OD ++ ext)), .no] S1 = .ok (.lst [x], true) [.sh (.box 1), .sh (.lst (ws.map wD)), .sh (.int v), .sh (.lst (OD ++ ext)), .no] S2 :=
    lst_tr (cons_tr (call_tr (ds := [.box 1, .lst (OD ++ ext)]) e3 (t := [.sh (.box 1), .sh (.lst (ws.map wD)), .sh (.int v), .sh (.lst (OD ++ ext)), .no])) (r := aNil) (ds := []) rfl) (show (1 : Nat) ≤ lim by decide)
  have inn : (eb (eb (eSlV 1 pNone (pInt (eVar 2))) fun x => eb (eLst (aCons (bnd (aCons (eVar 0) (aCons (eVar 3) aNil)) (call F__law_pick)) aNil)) fun y => dAdd x y) fun x => eb (eSlV 1 (pInt (eVar 2)) pNone) fun y => dAdd x y) [.sh (.box 1), .sh (.lst (ws.map wD)), .sh (.int v), .ow (.lst (OD ++ ext)), .no] S1 = .ok (.lst ((ws.map wD).take v ++ [x] ++ (ws.map wD).drop v), true) [.sh (.box 1), .sh (.lst (ws.map wD)), .sh (.int v), .sh (.lst (OD ++ ext)), .no] S2 :=
    eb_tr (x := (.lst ((ws.map wD).take v ++ [x]), true)) (eb_tr sl1 (eb_tr pk (newL_ok (by rw [List.length_append, List.length_take]; show min v _ + 1 ≤ _; omega)))) (eb_tr sl2 (newL_ok (by rw [List.length_append, List.length_append, List.length_take, List.length_drop, lW]; show min v _ + 1 + _ ≤ _; omega)))
  have y6 : (eb (eLst (aCons (eTup (aCons (eb (eb (eSlV 1 pNone (pInt (eVar 2))) fun x => eb (eLst (aCons (bnd (aCons (eVar 0) (aCons (eVar 3) aNil)) (call F__law_pick)) aNil)) fun y => dAdd x y) fun x => eb (eSlV 1 (pInt (eVar 2)) pNone) fun y => dAdd x y) (aCons (eVar 2) aNil))) aNil)) fun x => eb (pur (.int 3)) fun y => dMul x y) [.sh (.box 1), .sh (.lst (ws.map wD)), .sh (.int v), .ow (.lst (OD ++ ext)), .no] S1 = .ok (.lst [.tup [.lst ((ws.map wD).take v ++ [x] ++ (ws.map wD).drop v), .int v], .tup [.lst ((ws.map wD).take v ++ [x] ++ (ws.map wD).drop v), .int v], .tup [.lst ((ws.map wD).take v ++ [x] ++ (ws.map wD).drop v), .int v]], true) [.sh (.box 1), .sh (.lst (ws.map wD)), .sh (.int v), .sh (.lst (OD ++ ext)), .no] S2 :=
    eb_tr (lst_tr (cons_tr (tup_tr (cons_tr inn (r := aCons (eVar 2) aNil) (ds := [.int v]) rfl) (show (2 : Nat) ≤ lim by decide)) (r := aNil) (ds := []) rfl) (show (1 : Nat) ≤ lim by decide)) rfl
  refine fn_tr (n := 5) (t := [.sh (.box 1), .sh (.lst (ws.map wD)), .sh (.int v), .sh (.lst (OD ++ ext)), .sh (.lst [.tup [.lst ((ws.map wD).take v ++ [x] ++ (ws.map wD).drop v), .int v], .tup [.lst ((ws.map wD).take v ++ [x] ++ (ws.map wD).drop v), .int v], .tup [.lst ((ws.map wD).take v ++ [x] ++ (ws.map wD).drop v), .int v]])]) ?_
  unfold m__law_bad_wishes
  exact seq_tr (set_tr y1) (seq_tr (t' := [.sh (.box 1), .sh (.lst (ws.map wD)), .sh (.int v), .ow (.lst (OD.take 8)), .no]) (S' := S1) rfl (seq_tr (t' := [.sh (.box 1), .sh (.lst (ws.map wD)), .sh (.int v), .ow (.lst (OD.take 12)), .no]) (S' := S1) rfl (seq_tr (t' := [.sh (.box 1), .sh (.lst (ws.map wD)), .sh (.int v), .ow (.lst (OD.take 19)), .no]) (S' := S1) rfl (seq_tr (t' := [.sh (.box 1), .sh (.lst (ws.map wD)), .sh (.int v), .ow (.lst OD), .no]) (S' := S1) rfl (seq_tr y5 (seq_tr (set_tr y6) (ret_tr (x := (.tup [bd, .int u], false)) (call_tr e4))))))))
end
end K78

set_option Elab.async false
set_option linter.all false
set_option maxRecDepth 100000
set_option maxHeartbeats 0
set_option autoImplicit false
namespace K78
open PySem PySem.Spec PyProof.Rows L2 TD
section
variable {S : Sto}
theorem ca_road {a b w e l : D} {c : Str} {fs : List (Str × D)} (h : F_check_road [a, b] S = .ex c fs S) : F_checked_all [a, b, w, e, l] S = .ex c fs S := by
  unfold F_checked_all
  exact fn_ex (seq_ex (bnd_ex (call_ex (ds := [a, b]) h)))
theorem ca_wishes {a b w e l : D} {c : Str} {fs : List (Str × D)} (h1 : F_check_road [a, b] S = .ok .non false S) (h : F_checked_wishes [w] S = .ex c fs S) : F_checked_all [a, b, w, e, l] S = .ex c fs S := by
  refine fn_ex (n := 6) (t := [.sh a, .sh b, .sh w, .sh e, .sh l, .no]) ?_
  unfold m_checked_all
  exact seq_tr (expr_tr (call_tr (ds := [a, b]) h1)) (seq_ex (bnd_ex (call_ex (ds := [w]) h)))
theorem ca_troubles {a b w e l k : D} {f : Bool} {c : Str} {fs : List (Str × D)} (h1 : F_check_road [a, b] S = .ok .non false S) (h2 : F_checked_wishes [w] S = .ok k f S) (h : F_checked_troubles [e, l] S = .ex c fs S) : F_checked_all [a, b, w, e, l] S = .ex c fs S := by
  have e1 : (bnd (aCons (eVar 3) (aCons (eVar 4) aNil)) (call F_checked_troubles)) [.sh a, .sh b, .sh w, .sh e, .sh l, .sh k] S = .ex c fs [.sh a, .sh b, .sh w, .sh e, .sh l, .sh k] S := call_ex (ds := [e, l]) h
  cases f with
  | true =>
    refine fn_ex (n := 6) (t := [.sh a, .sh b, .sh w, .sh e, .sh l, .sh k]) ?_
    unfold m_checked_all
    exact seq_tr (expr_tr (call_tr (ds := [a, b]) h1)) (seq_tr (set_tr (call_tr (ds := [w]) h2)) (bnd_ex (eb_tr (x := (.tup [k], false)) (t' := [.sh a, .sh b, .sh w, .sh e, .sh l, .sh k]) (S' := S) rfl (bnd_ex e1))))
  | false =>
    refine fn_ex (n := 6) (t := [.sh a, .sh b, .sh w, .sh e, .sh l, .sh k]) ?_
    unfold m_checked_all
    exact seq_tr (expr_tr (call_tr (ds := [a, b]) h1)) (seq_tr (set_tr (call_tr (ds := [w]) h2)) (bnd_ex (eb_tr (x := (.tup [k], false)) (t' := [.sh a, .sh b, .sh w, .sh e, .sh l, .sh k]) (S' := S) rfl (bnd_ex e1))))
def ODR : List D := [.non, .int 0, .int (-1), .bl true, .str "1", pr 1 1, .lst [], .dic [], .gl "_law_pick"]
def FEW : List D := [.non, .int 1, pr 0 1, pr 0 2, .lst [.int 0, .int 3], pr (-1) 2, pr 1 0, .tup [.bl true, .int 2], .str "12", .lst [], .dic [], .tup [.int 1, .int 2, .int 3], .dic [(.inl 1, .int 0), (.inl 2, .int 0)]]
theorem odr_pos : ∀ x ∈ ODR, F_is_positive [x] S = .ok (.bl false) false S := fun x hx => by
  simp only [ODR, List.mem_cons, List.not_mem_nil, or_false] at hx
  rcases hx with rfl | rfl | rfl | rfl | rfl | rfl | rfl | rfl | rfl <;> rfl
theorem odr_same : ∀ x ∈ ODR, F__law_same 6 [x, x] S = .ok (.bl true) false S := fun x hx => by
  simp only [ODR, List.mem_cons, List.not_mem_nil, or_false] at hx
  rcases hx with rfl | rfl | rfl | rfl | rfl | rfl | rfl | rfl | rfl <;> rfl
theorem few_same : ∀ x ∈ FEW ++ [pr 1 1, pr 2 2, pr 3 2], F__law_same 6 [x, x] S = .ok (.bl true) false S := fun x hx => by
  simp only [FEW, List.mem_cons, List.mem_append, List.not_mem_nil, or_false] at hx
  rcases hx with (rfl | rfl | rfl | rfl | rfl | rfl | rfl | rfl | rfl | rfl | rfl | rfl | rfl) | (rfl | rfl | rfl) <;> rfl
theorem few_early : ∀ x ∈ FEW ++ [pr 1 1, pr 2 2, pr 3 2], F_checked_troubles [x, .non] S = .ex "BadEarly" [("early", x)] S := fun x hx => by
  simp only [FEW, List.mem_cons, List.mem_append, List.not_mem_nil, or_false] at hx
  rcases hx with (rfl | rfl | rfl | rfl | rfl | rfl | rfl | rfl | rfl | rfl | rfl | rfl | rfl) | (rfl | rfl | rfl) <;> rfl
def tEa : MT := (tOrM (tNotM (tst (bnd (aCons (eVar 0) aNil) (call F_is_fraction)))) (tOrM (tst (eb (eIxV 0 (pur (.int 0))) fun x => eb (pur (.int 0)) fun y => dLe x y)) (tst (eb (eIxV 0 (pur (.int 0))) fun x => eb (eIxV 0 (pur (.int 1))) fun y => dGe x y))))
def tLa : MT := (tOrM (tNotM (tst (bnd (aCons (eVar 1) aNil) (call F_is_fraction)))) (tst (eb (eIxV 1 (pur (.int 0))) fun x => eb (pur (.int 0)) fun y => dLe x y)))
theorem tEa_ok {p q : Nat} {y : D} (hp : 1 ≤ p) (hq : p < q) : tEa [.sh (fr p q), .sh y] S = .ok false [.sh (fr p q), .sh y] S := by
  have e1 : (tNotM (tst (bnd (aCons (eVar 0) aNil) (call F_is_fraction)))) [.sh (fr p q), .sh y] S = .ok false [.sh (fr p q), .sh y] S := bnd_tr (a := true) (eb_tr (x := (.bl true, false)) (call_tr (ds := [fr p q]) (frac_ok (by omega))) rfl) rfl
  have e2 : (tst (eb (eIxV 0 (pur (.int 0))) fun x => eb (pur (.int 0)) fun y => dLe x y)) [.sh (fr p q), .sh y] S = .ok false [.sh (fr p q), .sh y] S := by
    show tst (pur (.bl (decide ((p : Int) ≤ 0)))) _ _ = _
    rw [decide_eq_false (by omega)]
    rfl
  have e3 : (tst (eb (eIxV 0 (pur (.int 0))) fun x => eb (eIxV 0 (pur (.int 1))) fun y => dGe x y)) [.sh (fr p q), .sh y] S = .ok false [.sh (fr p q), .sh y] S := by
    show tst (pur (.bl (decide ((q : Int) ≤ p)))) _ _ = _
    rw [decide_eq_false (by omega)]
    rfl
  unfold tEa tOrM
  rw [bnd_ok e1, if_neg (by decide), bnd_ok e2, if_neg (by decide)]
  exact e3
theorem late_ex {p q : Nat} {y : D} (hp : 1 ≤ p) (hq : p < q) (h : tLa [.sh (fr p q), .sh y] S = .ok true [.sh (fr p q), .sh y] S) : F_checked_troubles [fr p q, y] S = .ex "BadLate" [("late", y)] S :=
  fn_ex (n := 2) (t := [.sh (fr p q), .sh y]) (seq_tr (if_tr (tEa_ok hp hq) rfl) (seq_ex (if_tr h rfl)))
theorem few_late {p q : Nat} (hp : 1 ≤ p) (hq : p < q) : ∀ x ∈ FEW, F_checked_troubles [fr p q, x] S = .ex "BadLate" [("late", x)] S := fun x hx => by
  refine late_ex hp hq ?_
  simp only [FEW, List.mem_cons, List.not_mem_nil, or_false] at hx
  rcases hx with rfl | rfl | rfl | rfl | rfl | rfl | rfl | rfl | rfl | rfl | rfl | rfl | rfl <;> rfl
theorem same_str {n : Nat} {i : Str} : F__law_same (n + 1) [.str i, .str i] S = .ok (.bl true) false S := by
  have e : (eAnd (eNot (bnd (bVar 0) (dIsiT [.list, .tuple, .dict]))) (eb (eVar 0) fun x => eb (eVar 1) fun y => dEq x y)) [.sh (.str i), .sh (.str i), .no, .no] S = .ok (.bl true, false) [.sh (.str i), .sh (.str i), .no, .no] S := by
    show pur (.bl (decide (i = i))) _ _ = _
    rw [decide_eq_true rfl]
    rfl
  refine fn_tr (n := 4) (t := [.sh (.str i), .sh (.str i), .no, .no]) ?_
  unfold m__law_same
  exact seq_tr rfl (seq_tr rfl (seq_tr rfl (ret_tr (x := (.bl true, false)) e)))
def z7 (z : D) : D := .lst [z, z, z, z, z, z, z]
theorem same7 {tag : Str} {x : D} (h : F__law_same 6 [x, x] S = .ok (.bl true) false S) : F__law_same 8 [z7 (.tup [.str tag, x]), z7 (.tup [.str tag, x])] S = .ok (.bl true) false S := by
  have g : F__law_same 7 [.tup [.str tag, x], .tup [.str tag, x]] S = .ok (.bl true) false S := same_seq (F := F__law_same 6) (.inr rfl) (by show 2 ≤ 100000; decide) fun y hy => by
    simp only [List.mem_cons, List.not_mem_nil, or_false] at hy
    rcases hy with rfl | rfl
    · exact same_str
    · exact h
  exact same_seq (F := F__law_same 7) (.inl rfl) (by show 7 ≤ 100000; decide) fun y hy => by
    simp only [List.mem_cons, List.not_mem_nil, or_false, or_self] at hy
    subst hy
    exact g
/-- one look -/
def sLook (A B : ME) : MS := sIf (tNotM (tst (bnd (aCons A (aCons B aNil)) (call (F__law_same 8))))) (sRet (pur (.bl false))) sNx
theorem look_ok {A B : ME} {t t' t2 : Ev} {x y : D × Bool} (h1 : A t S = .ok x t' S) (h2 : B t' S = .ok y t2 S) (h : F__law_same 8 [x.1, y.1] S = .ok (.bl true) false S) : sLook A B t S = .ok .nx t2 S :=
  if_tr (x := false) (bnd_tr (a := true) (eb_tr (x := (.bl true, false)) (bnd_tr (cons_tr h1 (cons_tr h2 (r := aNil) (ds := []) rfl)) (call_tr h)) rfl) rfl) rfl
theorem loop_all {f : MG} {body : MS} (T : Slot → Ev) : ∀ (ds : List D) (s : Slot), (∀ d ∈ ds, ∀ s, f d (T s) = some (T (.sh d)) ∧ body (T (.sh d)) S = .ok .nx (T (.sh d)) S) → ∃ s', loop f body [] ds (T s) S = .ok .nx (T s') S
  | [], s, _ => ⟨s, rfl⟩
  | d :: ds, s, h => by
    obtain ⟨s', e⟩ := loop_all T ds (.sh d) fun x hx => h x (List.mem_cons_of_mem _ hx)
    obtain ⟨e1, e2⟩ := h d (List.mem_cons_self ..) s
    exact ⟨s', loop_tr e1 e2 e⟩
end
end K78

set_option Elab.async false
set_option linter.all false
set_option maxRecDepth 100000
set_option maxHeartbeats 0
set_option autoImplicit false
namespace K78
open PySem PySem.Spec PyProof.Rows L2 TD
theorem add_tr {i j k : Int} {t : Ev} {S : Sto} (h : i + j = k) : dAdd (.int i) (.int j) t S = .ok (.int k, false) t S := by rw [← h]; rfl
theorem asg_tr {m : ME} {g : MG} {t t' t2 : Ev} {S S' : Sto} {x : D × Bool} (e : m t S = .ok x t' S') (h : g x.1 t' = some t2) : sAsg m g t S = .ok .nx t2 S' := eb_tr e (bnd_tr (m := asg g x.1) (a := ()) (t' := t2) (S' := S') (by unfold asg; rw [h]) rfl)
def ev (s0 s2 s3 s4 s5 s6 s7 s8 s9 s10 s11 s12 s13 s14 s15 : Slot) : Ev := [s0, .sh (.box 1), s2, s3, s4, s5, s6, s7, s8, s9, s10, s11, s12, s13, s14, s15]
/-- what stands behind the first looks -/
def Mid (r : Sto) (n : Nat) (t : Ev) (S : Sto) : Prop := ∃ (s0 s2 s3 s4 s7 s8 s9 s10 s11 s12 s13 s14 s15 : Slot) (ws : List W4) (p q : Nat), t = ev s0 s2 s3 s4 (.sh (.lst (ws.map wD))) (.sh (fr p q)) s7 s8 s9 s10 s11 s12 s13 s14 s15 ∧ StOk n r S ∧ (∀ w ∈ ws, OkW w) ∧ Inc ws ∧ 1 ≤ ws.length ∧ ws.length ≤ 4 ∧ 1 ≤ p ∧ p < q
theorem turn_a {n : Nat} {r S : Sto} {rest : MS} {s0 s2 s3 s4 s5 s6 s7 s8 s9 s10 s11 s12 s13 s14 s15 : Slot} (h : StOk n r S) (hn : n < 500000) :
    ∃ t' S', Mid r (n + 30) t' S' ∧ (sSeq (sParF [3, 4] (fCons (eb (pur (.int 1)) fun x => eb (bnd (aCons (eVar 1) (aCons (pur (.int 5)) aNil)) (call F__law_draw)) fun y => dAdd x y) (fCons (eb (pur (.int 1)) fun x => eb (bnd (aCons (eVar 1) (aCons (pur (.int 12)) aNil)) (call F__law_draw)) fun y => dAdd x y) fNil)))
    (sSeq (sAsg (eTup (aCons (bnd (aCons (eVar 1) (aCons (pur (.int 4)) aNil)) (call F__law_wishes)) (aCons (bnd (aCons (eVar 1) aNil) (call F__law_worths)) aNil))) (gTp (gCons (gNm 5) (gCons (gTp (gCons (gNm 6) (gCons (gNm 7) gNil))) gNil))))
    (sSeq (sAsg (bnd (aCons (eVar 1) (aCons (eVar 5) aNil)) (call F__law_bad_wishes)) (gTp (gCons (gNm 8) (gCons (gNm 9) gNil))))
    (sSeq (sFor (eb (eTup (aCons (pur .non) (aCons (pur (.int 0)) (aCons (eNeg (pur (.int 1))) (aCons (pur (.bl true)) (aCons (pur (.str "1")) (aCons (eTup (aCons (pur (.int 1)) (aCons (pur (.int 1)) aNil))) (aCons (eLst aNil) (aCons (ret (.dic [], true)) (aCons (pur (.gl "_law_pick")) aNil)))))))))) dSeq) (gNm 10) (sSeq (sLook (bnd (aCons (eVar 10) (aCons (eVar 10) (aCons (eVar 8) (aCons (eVar 10) (aCons (eVar 10) aNil))))) (call F__law_all)) (eb (eLst (aCons (eTup (aCons (pur (.str "room")) (aCons (eVar 10) aNil))) aNil)) fun x => eb (pur (.int 7)) fun y => dMul x y))
    (sLook (bnd (aCons (eVar 3) (aCons (eVar 10) (aCons (eVar 8) (aCons (eVar 10) (aCons (eVar 10) aNil))))) (call F__law_all)) (eb (eLst (aCons (eTup (aCons (pur (.str "length")) (aCons (eVar 10) aNil))) aNil)) fun x => eb (pur (.int 7)) fun y => dMul x y))))
    (sSeq (sLook (bnd (aCons (eVar 3) (aCons (eVar 4) (aCons (eVar 8) (aCons (pur .non) (aCons (pur .non) aNil))))) (call F__law_all)) (eb (eLst (aCons (eTup (aCons (pur (.str "wishes")) (aCons (eVar 9) aNil))) aNil)) fun x => eb (pur (.int 7)) fun y => dMul x y))
    (sSeq (sSet 11 (eLst (aCons (pur .non) (aCons (pur (.int 1)) (aCons (eTup (aCons (pur (.int 0)) (aCons (pur (.int 1)) aNil))) (aCons (eTup (aCons (pur (.int 0)) (aCons (pur (.int 2)) aNil))) (aCons (eLst (aCons (pur (.int 0)) (aCons (pur (.int 3)) aNil))) (aCons (eTup (aCons (eNeg (pur (.int 1))) (aCons (pur (.int 2)) aNil))) (aCons (eTup (aCons (pur (.int 1)) (aCons (pur (.int 0)) aNil))) (aCons (eTup (aCons (pur (.bl true)) (aCons (pur (.int 2)) aNil))) (aCons (pur (.str "12")) (aCons (eLst aNil) (aCons (ret (.dic [], true)) (aCons (eTup (aCons (pur (.int 1)) (aCons (pur (.int 2)) (aCons (pur (.int 3)) aNil)))) (aCons (eDic [((pur (.int 1)), (pur (.int 0))), ((pur (.int 2)), (pur (.int 0)))]) aNil)))))))))))))))
    (sSeq (sFor (eb (eb (eVar 11) fun x => eb (eLst (aCons (eTup (aCons (pur (.int 1)) (aCons (pur (.int 1)) aNil))) (aCons (eTup (aCons (pur (.int 2)) (aCons (pur (.int 2)) aNil))) (aCons (eTup (aCons (pur (.int 3)) (aCons (pur (.int 2)) aNil))) aNil)))) fun y => dAdd x y) dSeq) (gNm 10) (sLook (bnd (aCons (eVar 3) (aCons (eVar 4) (aCons (eVar 5) (aCons (eVar 10) (aCons (pur .non) aNil))))) (call F__law_all)) (eb (eLst (aCons (eTup (aCons (pur (.str "early")) (aCons (eVar 10) aNil))) aNil)) fun x => eb (pur (.int 7)) fun y => dMul x y)))
    (sSeq (sFor (eb (eVar 11) dSeq) (gNm 10) (sLook (bnd (aCons (eVar 3) (aCons (eVar 4) (aCons (eVar 5) (aCons (eVar 6) (aCons (eVar 10) aNil))))) (call F__law_all)) (eb (eLst (aCons (eTup (aCons (pur (.str "late")) (aCons (eVar 10) aNil))) aNil)) fun x => eb (pur (.int 7)) fun y => dMul x y)))
    rest)))))))) (ev s0 s2 s3 s4 s5 s6 s7 s8 s9 s10 s11 s12 s13 s14 s15) S = rest t' S' := by
  obtain ⟨d, S1, e1, a, rfl, a0, a1, h1⟩ := draw_ok (many := 5) h (by omega) (by omega) (by omega)
  obtain ⟨d, S2, e2, b, rfl, b0, b1, h2⟩ := draw_ok (many := 12) h1 (by omega) (by omega) (by omega)
  obtain ⟨rm, hrm, rm1⟩ : ∃ rm : Nat, 1 + a = (rm : Int) ∧ 1 ≤ rm := ⟨(1 + a).toNat, by omega, by omega⟩
  obtain ⟨ln, hln, ln1⟩ : ∃ ln : Nat, 1 + b = (ln : Int) ∧ 1 ≤ ln := ⟨(1 + b).toNat, by omega, by omega⟩
  obtain ⟨ws, S3, e3, h3, hw, hi, wl, wu⟩ := wishes_ok h2 (by omega)
  obtain ⟨p, q, c, d, S4, e4, h4, p1, pq, _⟩ := worths_ok h3 (by omega)
  obtain ⟨bad, at', S5, e5, h5, hbad⟩ := badw_ok h4 (by omega) hw hi wu
  have road := fun {S : Sto} => road_ok (S := S) rm1 ln1
  have chk := fun {S : Sto} => checked_ok (S := S) wl (by omega) hw hi
  obtain ⟨s10', l1⟩ := loop_all (S := S5) (f := gNm 10) (body := (sSeq (sLook (bnd (aCons (eVar 10) (aCons (eVar 10) (aCons (eVar 8) (aCons (eVar 10) (aCons (eVar 10) aNil))))) (call F__law_all)) (eb (eLst (aCons (eTup (aCons (pur (.str "room")) (aCons (eVar 10) aNil))) aNil)) fun x => eb (pur (.int 7)) fun y => dMul x y))
    (sLook (bnd (aCons (eVar 3) (aCons (eVar 10) (aCons (eVar 8) (aCons (eVar 10) (aCons (eVar 10) aNil))))) (call F__law_all)) (eb (eLst (aCons (eTup (aCons (pur (.str "length")) (aCons (eVar 10) aNil))) aNil)) fun x => eb (pur (.int 7)) fun y => dMul x y))))
    (fun s => ev s0 s2 (.sh (.int rm)) (.sh (.int ln)) (.sh (.lst (ws.map wD))) (.sh (fr p q)) (.sh (fr c d)) (.sh bad) (.sh (.int at')) s s11 s12 s13 s14 s15) ODR s10 fun x hx s => by
      refine ⟨rfl, seq_tr (look_ok (x := (z7 (.tup [.str "room", x]), true)) (y := (z7 (.tup [.str "room", x]), true)) (call_tr (ds := [x, x, bad, x, x]) (all_ex (ca_road (road_room (odr_pos x hx))) rfl)) rfl (same7 (odr_same x hx))) (look_ok (x := (z7 (.tup [.str "length", x]), true)) (y := (z7 (.tup [.str "length", x]), true)) (call_tr (ds := [.int rm, x, bad, x, x]) (all_ex (ca_road (road_len rm1 (odr_pos x hx))) rfl)) rfl (same7 (odr_same x hx)))⟩
  obtain ⟨s10'', l2⟩ := loop_all (S := S5) (f := gNm 10) (body := (sLook (bnd (aCons (eVar 3) (aCons (eVar 4) (aCons (eVar 5) (aCons (eVar 10) (aCons (pur .non) aNil))))) (call F__law_all)) (eb (eLst (aCons (eTup (aCons (pur (.str "early")) (aCons (eVar 10) aNil))) aNil)) fun x => eb (pur (.int 7)) fun y => dMul x y)))
    (fun s => ev s0 s2 (.sh (.int rm)) (.sh (.int ln)) (.sh (.lst (ws.map wD))) (.sh (fr p q)) (.sh (fr c d)) (.sh bad) (.sh (.int at')) s (.sh (.lst FEW)) s12 s13 s14 s15) (FEW ++ [pr 1 1, pr 2 2, pr 3 2]) s10' fun x hx s => by
      refine ⟨rfl, look_ok (x := (z7 (.tup [.str "early", x]), true)) (y := (z7 (.tup [.str "early", x]), true)) (call_tr (ds := [.int rm, .int ln, .lst (ws.map wD), x, .non]) (all_ex (ca_troubles road chk (few_early x hx)) rfl)) rfl (same7 (few_same x hx))⟩
  obtain ⟨s10x, l3⟩ := loop_all (S := S5) (f := gNm 10) (body := (sLook (bnd (aCons (eVar 3) (aCons (eVar 4) (aCons (eVar 5) (aCons (eVar 6) (aCons (eVar 10) aNil))))) (call F__law_all)) (eb (eLst (aCons (eTup (aCons (pur (.str "late")) (aCons (eVar 10) aNil))) aNil)) fun x => eb (pur (.int 7)) fun y => dMul x y)))
    (fun s => ev s0 s2 (.sh (.int rm)) (.sh (.int ln)) (.sh (.lst (ws.map wD))) (.sh (fr p q)) (.sh (fr c d)) (.sh bad) (.sh (.int at')) s (.sh (.lst FEW)) s12 s13 s14 s15) FEW s10'' fun x hx s => by
      refine ⟨rfl, look_ok (x := (z7 (.tup [.str "late", x]), true)) (y := (z7 (.tup [.str "late", x]), true)) (call_tr (ds := [.int rm, .int ln, .lst (ws.map wD), fr p q, x]) (all_ex (ca_troubles road chk (few_late p1 pq x hx)) rfl)) rfl (same7 (few_same x (List.mem_append_left _ hx)))⟩
  refine ⟨_, S5, ⟨s0, s2, .sh (.int rm), .sh (.int ln), .sh (fr c d), .sh bad, .sh (.int at'), s10x, .sh (.lst FEW), s12, s13, s14, s15, ws, p, q, rfl, h5.mono (by omega), hw, hi, wl, wu, p1, pq⟩, ?_⟩
  refine seq_tr (t' := ev s0 s2 (.sh (.int rm)) (.sh (.int ln)) s5 s6 s7 s8 s9 s10 s11 s12 s13 s14 s15) (S' := S2) ?_ ?_
  · have x1 : (eb (pur (.int 1)) fun x => eb (bnd (aCons (eVar 1) (aCons (pur (.int 5)) aNil)) (call F__law_draw)) fun y => dAdd x y) (ev s0 s2 s3 s4 s5 s6 s7 s8 s9 s10 s11 s12 s13 s14 s15) S = .ok (.int rm, false) (ev s0 s2 s3 s4 s5 s6 s7 s8 s9 s10 s11 s12 s13 s14 s15) S1 :=
      eb_tr (x := (.int 1, false)) rfl (eb_tr (call_tr (ds := [.box 1, .int 5]) e1) (add_tr hrm))
    have x2 : (eb (pur (.int 1)) fun x => eb (bnd (aCons (eVar 1) (aCons (pur (.int 12)) aNil)) (call F__law_draw)) fun y => dAdd x y) (ev s0 s2 s3 s4 s5 s6 s7 s8 s9 s10 s11 s12 s13 s14 s15) S1 = .ok (.int ln, false) (ev s0 s2 s3 s4 s5 s6 s7 s8 s9 s10 s11 s12 s13 s14 s15) S2 :=
      eb_tr (x := (.int 1, false)) rfl (eb_tr (call_tr (ds := [.box 1, .int 12]) e2) (add_tr hln))
    exact parF_tr (fcons_tr x1 (fcons_tr x2 (show fNil _ _ = .ok [] _ _ from rfl))) rfl
  refine seq_tr (t' := ev s0 s2 (.sh (.int rm)) (.sh (.int ln)) (.sh (.lst (ws.map wD))) (.sh (fr p q)) (.sh (fr c d)) s8 s9 s10 s11 s12 s13 s14 s15) (S' := S4) ?_ ?_
  · exact asg_tr (x := (.tup [.lst (ws.map wD), .tup [fr p q, fr c d]], false)) (tup_tr (cons_tr (call_tr (ds := [.box 1, .int 4]) e3) (cons_tr (call_tr (ds := [.box 1]) e4) (r := aNil) (ds := []) rfl)) (show (2 : Nat) ≤ lim by decide)) rfl
  refine seq_tr (t' := ev s0 s2 (.sh (.int rm)) (.sh (.int ln)) (.sh (.lst (ws.map wD))) (.sh (fr p q)) (.sh (fr c d)) (.sh bad) (.sh (.int at')) s10 s11 s12 s13 s14 s15) (S' := S5) ?_ ?_
  · exact asg_tr (x := (.tup [bad, .int at'], false)) (call_tr (ds := [.box 1, .lst (ws.map wD)]) e5) rfl
  refine seq_tr (for_tr (ds := ODR) (t' := ev s0 s2 (.sh (.int rm)) (.sh (.int ln)) (.sh (.lst (ws.map wD))) (.sh (fr p q)) (.sh (fr c d)) (.sh bad) (.sh (.int at')) s10 s11 s12 s13 s14 s15) (S' := S5) rfl l1) ?_
  refine seq_tr (look_ok (x := (z7 (.tup [.str "wishes", .int at']), true)) (y := (z7 (.tup [.str "wishes", .int at']), true)) (t' := ev s0 s2 (.sh (.int rm)) (.sh (.int ln)) (.sh (.lst (ws.map wD))) (.sh (fr p q)) (.sh (fr c d)) (.sh bad) (.sh (.int at')) s10' s11 s12 s13 s14 s15) (t2 := ev s0 s2 (.sh (.int rm)) (.sh (.int ln)) (.sh (.lst (ws.map wD))) (.sh (fr p q)) (.sh (fr c d)) (.sh bad) (.sh (.int at')) s10' s11 s12 s13 s14 s15) (call_tr (ds := [.int rm, .int ln, bad, .non, .non]) (all_ex (ca_wishes road (hbad S5)) rfl)) rfl (same7 same_int)) ?_
  refine seq_tr (t' := ev s0 s2 (.sh (.int rm)) (.sh (.int ln)) (.sh (.lst (ws.map wD))) (.sh (fr p q)) (.sh (fr c d)) (.sh bad) (.sh (.int at')) s10' (.ow (.lst FEW)) s12 s13 s14 s15) (S' := S5) rfl ?_
  refine seq_tr (for_tr (ds := FEW ++ [pr 1 1, pr 2 2, pr 3 2]) (t' := ev s0 s2 (.sh (.int rm)) (.sh (.int ln)) (.sh (.lst (ws.map wD))) (.sh (fr p q)) (.sh (fr c d)) (.sh bad) (.sh (.int at')) s10' (.sh (.lst FEW)) s12 s13 s14 s15) (S' := S5) rfl l2) ?_
  refine seq_tr (for_tr (ds := FEW) (t' := ev s0 s2 (.sh (.int rm)) (.sh (.int ln)) (.sh (.lst (ws.map wD))) (.sh (fr p q)) (.sh (fr c d)) (.sh bad) (.sh (.int at')) s10'' (.sh (.lst FEW)) s12 s13 s14 s15) (S' := S5) rfl l3) ?_
  rfl
end K78

set_option Elab.async false
set_option linter.all false
set_option maxRecDepth 100000
set_option maxHeartbeats 0
set_option autoImplicit false
namespace K78
open PySem PySem.Spec PyProof.Rows L2 TD
def HL : Sto := [.lst [.str "a"], .lst [.str "b"], .lst [.str "c"], .lst [.str "d"]]
def HM : Sto := [.lst [.str "a", .str "late"], .lst [.str "b", .str "late"], .lst [.str "c", .str "late"], .lst [.str "d", .str "late"]]
def W1 : D := .lst [.tup [pr 1 1, pr 30 1]]
def FIN : List D := [.tup [.str "soon", pr (-15) 1], .tup [.str "told", .lst [.tup [pr (-14) 1, pr 16 1, .lst [.int 0]]]], .tup [.str "told", .lst [pr 15 2]], .tup [.str "soon", pr (-15) 1], .tup [.str "soon", pr (-15) 1], .tup [.str "told", pr 225 2], .tup [.str "setting", .int 0]]
theorem fin_all (S : Sto) : F__law_all [.int 1, .int 1, W1, pr 1 2, pr 1 2] S = .ok (.lst FIN) true S := by kernel_rfl
theorem fin_same (S : Sto) : F__law_same 8 [.lst FIN, .lst FIN] S = .ok (.bl true) false S := by kernel_rfl
def sRest : MS := (sSeq (sSet 12 (eLst (aCons (eBox (eLst (aCons (pur (.str "a")) aNil))) (aCons (eBox (eLst (aCons (pur (.str "b")) aNil))) (aCons (eBox (eLst (aCons (pur (.str "c")) aNil))) (aCons (eBox (eLst (aCons (pur (.str "d")) aNil))) aNil))))))
    (sSeq (sSet 13 (eLst (aCons (eMet true "told" metT (bnd (aCons (eIxV 12 (pur (.int 0))) (aCons (pur (.int 1)) (aCons (pur .non) (aCons (pur .non) (aCons (pur .non) aNil))))) (call F_settled))) aNil)))
    (sSeq (sExpr (mSlot "list" 13 (aCons (eMet true "told" metT (bnd (aCons (pur (.int 1)) (aCons (eIxV 12 (pur (.int 1))) (aCons (pur .non) (aCons (pur .non) (aCons (pur .non) aNil))))) (call F_toll))) aNil) fApp))
    (sSeq (sExpr (mSlot "list" 13 (aCons (eMet true "told" metT (bnd (aCons (pur (.int 1)) (aCons (pur (.int 1)) (aCons (eVar 5) (aCons (eIxV 12 (pur (.int 2))) (aCons (pur .non) aNil))))) (call F_paid))) aNil) fApp))
    (sSeq (sExpr (mSlot "list" 13 (aCons (eMet true "told" metT (bnd (aCons (pur (.int 1)) (aCons (pur (.int 1)) (aCons (eVar 5) (aCons (eVar 6) (aCons (eIxV 12 (pur (.int 3))) (aCons (pur .non) aNil)))))) (call F_gains))) aNil) fApp))
    (sSeq (sFor (eb (eVar 12) dSeq) (gNm 14) (sExpr (mBox "list" (eVar 14) (aCons (pur (.str "late")) aNil) fApp)))
    (sSeq (sSet 15 (eLst (aCons (eTup (aCons (pur (.str "room")) (aCons (eLst (aCons (pur (.str "a")) (aCons (pur (.str "late")) aNil))) aNil))) (aCons (eTup (aCons (pur (.str "length")) (aCons (eLst (aCons (pur (.str "b")) (aCons (pur (.str "late")) aNil))) aNil))) (aCons (eTup (aCons (pur (.str "early")) (aCons (eLst (aCons (pur (.str "c")) (aCons (pur (.str "late")) aNil))) aNil))) (aCons (eTup (aCons (pur (.str "late")) (aCons (eLst (aCons (pur (.str "d")) (aCons (pur (.str "late")) aNil))) aNil))) aNil))))))
    (sSeq (sIf (tNotM (tst (bnd (aCons (eVar 13) (aCons (eVar 15) aNil)) (call (F__law_same 8))))) (sRet (pur (.bl false))) sNx)
    (sSeq (sSet 13 (bnd (aCons (pur (.int 1)) (aCons (pur (.int 1)) (aCons (eLst (aCons (eTup (aCons (eTup (aCons (pur (.int 1)) (aCons (pur (.int 1)) aNil))) (aCons (eTup (aCons (pur (.int 30)) (aCons (pur (.int 1)) aNil))) aNil))) aNil)) (aCons (eTup (aCons (pur (.int 1)) (aCons (pur (.int 2)) aNil))) (aCons (eTup (aCons (pur (.int 1)) (aCons (pur (.int 2)) aNil))) aNil))))) (call F__law_all)))
    (sSeq (sSet 15 (eLst (aCons (eTup (aCons (pur (.str "soon")) (aCons (eTup (aCons (eNeg (pur (.int 15))) (aCons (pur (.int 1)) aNil))) aNil))) (aCons (eTup (aCons (pur (.str "told")) (aCons (eLst (aCons (eTup (aCons (eTup (aCons (eNeg (pur (.int 14))) (aCons (pur (.int 1)) aNil))) (aCons (eTup (aCons (pur (.int 16)) (aCons (pur (.int 1)) aNil))) (aCons (eLst (aCons (pur (.int 0)) aNil)) aNil)))) aNil)) aNil))) (aCons (eTup (aCons (pur (.str "told")) (aCons (eLst (aCons (eTup (aCons (pur (.int 15)) (aCons (pur (.int 2)) aNil))) aNil)) aNil))) (aCons (eTup (aCons (pur (.str "soon")) (aCons (eTup (aCons (eNeg (pur (.int 15))) (aCons (pur (.int 1)) aNil))) aNil))) aNil))))))
    (sIf (tNotM (tst (bnd (aCons (eVar 13) (aCons (eb (eVar 15) fun x => eb (eLst (aCons (eTup (aCons (pur (.str "soon")) (aCons (eTup (aCons (eNeg (pur (.int 15))) (aCons (pur (.int 1)) aNil))) aNil))) (aCons (eTup (aCons (pur (.str "told")) (aCons (eTup (aCons (pur (.int 225)) (aCons (pur (.int 2)) aNil))) aNil))) (aCons (eTup (aCons (pur (.str "setting")) (aCons (pur (.int 0)) aNil))) aNil)))) fun y => dAdd x y) aNil)) (call (F__law_same 8))))) (sRet (pur (.bl false))) sNx)))))))))))
def Rs (r : Sto) : Prop := r = [] ∨ r = HM ∨ r = HM ++ HM
def FND (k : Nat) : List D := [.tup [.str "room", .box k], .tup [.str "length", .box (k + 1)], .tup [.str "early", .box (k + 2)], .tup [.str "late", .box (k + 3)]]
def DUE : List D := [.tup [.str "room", .lst [.str "a", .str "late"]], .tup [.str "length", .lst [.str "b", .str "late"]], .tup [.str "early", .lst [.str "c", .str "late"]], .tup [.str "late", .lst [.str "d", .str "late"]]]
section
variable {xs : List Int} {cur cnt mix : Int} {r : Sto}
theorem box_pos (hr : Rs r) (i : Nat) (hi : i < 4) : F_is_positive [.box (r.length + 2 + i)] (st xs cur cnt mix (r ++ HL)) = .ok (.bl false) false (st xs cur cnt mix (r ++ HL)) := by
  have : i = 0 ∨ i = 1 ∨ i = 2 ∨ i = 3 := by omega
  rcases hr with rfl | rfl | rfl <;> rcases this with rfl | rfl | rfl | rfl <;> rfl
theorem box_early (hr : Rs r) : F_checked_troubles [.box (r.length + 2 + 2), .non] (st xs cur cnt mix (r ++ HL)) = .ex "BadEarly" [("early", .box (r.length + 2 + 2))] (st xs cur cnt mix (r ++ HL)) := by
  rcases hr with rfl | rfl | rfl <;> rfl
theorem box_late (hr : Rs r) {e : D} : tLa [.sh e, .sh (.box (r.length + 2 + 3))] (st xs cur cnt mix (r ++ HL)) = .ok true [.sh e, .sh (.box (r.length + 2 + 3))] (st xs cur cnt mix (r ++ HL)) := by
  rcases hr with rfl | rfl | rfl <;> rfl
theorem held_same (hr : Rs r) : F__law_same 8 [.lst (FND (r.length + 2)), .lst DUE] (st xs cur cnt mix (r ++ HM)) = .ok (.bl true) false (st xs cur cnt mix (r ++ HM)) := by
  rcases hr with rfl | rfl | rfl <;> rfl
theorem held_set (hr : Rs r) {t : Ev} : (sSet 12 (eLst (aCons (eBox (eLst (aCons (pur (.str "a")) aNil))) (aCons (eBox (eLst (aCons (pur (.str "b")) aNil))) (aCons (eBox (eLst (aCons (pur (.str "c")) aNil))) (aCons (eBox (eLst (aCons (pur (.str "d")) aNil))) aNil)))))) t (st xs cur cnt mix r) = .ok .nx (t.set 12 (.ow (.lst [.box (r.length + 2), .box (r.length + 2 + 1), .box (r.length + 2 + 2), .box (r.length + 2 + 3)]))) (st xs cur cnt mix (r ++ HL)) := by
  rcases hr with rfl | rfl | rfl <;> rfl
theorem held_late (hr : Rs r) {s0 s2 s3 s4 s5 s6 s7 s8 s9 s10 s11 s13 s14 s15 : Slot} : (sFor (eb (eVar 12) dSeq) (gNm 14) (sExpr (mBox "list" (eVar 14) (aCons (pur (.str "late")) aNil) fApp))) (ev s0 s2 s3 s4 s5 s6 s7 s8 s9 s10 s11 (.sh (.lst [.box (r.length + 2), .box (r.length + 2 + 1), .box (r.length + 2 + 2), .box (r.length + 2 + 3)])) s13 s14 s15) (st xs cur cnt mix (r ++ HL)) = .ok .nx (ev s0 s2 s3 s4 s5 s6 s7 s8 s9 s10 s11 (.sh (.lst [.box (r.length + 2), .box (r.length + 2 + 1), .box (r.length + 2 + 2), .box (r.length + 2 + 3)])) s13 (.sh (.box (r.length + 2 + 3))) s15) (st xs cur cnt mix (r ++ HM)) := by
  rcases hr with rfl | rfl | rfl <;> rfl
end
end K78

set_option Elab.async false
set_option linter.all false
set_option maxRecDepth 100000
set_option maxHeartbeats 0
set_option autoImplicit false
namespace K78
open PySem PySem.Spec PyProof.Rows L2 TD
theorem app_tr {M : ME} {t t' : Ev} {S S' : Sto} {x : D × Bool} {ds : List D} {i : Nat} (h0 : t[i]? = some (.ow (.lst ds))) (e : M t S = .ok x t' S') (h1 : t'[i]? = some (.ow (.lst ds))) (hl : ds.length < 1000) :
    sExpr (mSlot "list" i (aCons M aNil) fApp) t S = .ok .nx (t'.set i (.ow (.lst (ds ++ [x.1])))) S' := by
  refine expr_tr (x := (.non, false)) ?_
  unfold mSlot
  rw [h0]
  show TD.bnd (aCons M aNil) (wrS i fApp) t S = _
  rw [bnd_ok (cons_tr e (r := aNil) (ds := []) rfl)]
  unfold wrS
  rw [h1]
  have f : fApp [x.1] (.lst ds) = some (.lst (ds ++ [x.1]), .non) := by
    show (if ds.length < lim then some (D.lst (ds ++ [x.1]), D.non) else none) = _
    rw [if_pos (by have : lim = 1000000 := rfl; omega)]
  simp only [f]
theorem turn_b {n : Nat} {r S : Sto} {t : Ev} (hr : Rs r) (h : Mid r n t S) : ∃ (s0 s2 s3 s4 s5 s6 s7 s8 s9 s10 s11 s12 s13 s14 s15 : Slot) (S' : Sto), sRest t S = .ok .nx (ev s0 s2 s3 s4 s5 s6 s7 s8 s9 s10 s11 s12 s13 s14 s15) S' ∧ StOk n (r ++ HM) S' := by
  obtain ⟨s0, s2, s3, s4, s7, s8, s9, s10, s11, s12, s13, s14, s15, ws, p, q, rfl, ⟨xs, cur, cnt, mix, rfl, g⟩, hw, hi, wl, wu, p1, pq⟩ := h
  have chk := fun {S : Sto} => checked_ok (S := S) wl (by omega) hw hi
  refine ⟨s0, s2, s3, s4, .sh (.lst (ws.map wD)), .sh (fr p q), s7, s8, s9, s10, s11, .sh (.lst [.box (r.length + 2), .box (r.length + 2 + 1), .box (r.length + 2 + 2), .box (r.length + 2 + 3)]), .sh (.lst FIN), .sh (.box (r.length + 2 + 3)), .sh (.lst (FIN.take 4)), st xs cur cnt mix (r ++ HM), ?_, ⟨xs, cur, cnt, mix, rfl, g⟩⟩
  unfold sRest
  refine seq_tr (held_set hr) ?_
  refine seq_tr (t' := ev s0 s2 s3 s4 (.sh (.lst (ws.map wD))) (.sh (fr p q)) s7 s8 s9 s10 s11 (.ow (.lst [.box (r.length + 2), .box (r.length + 2 + 1), .box (r.length + 2 + 2), .box (r.length + 2 + 3)])) (.ow (.lst ((FND (r.length + 2)).take 1))) s14 s15) (S' := st xs cur cnt mix (r ++ HL)) ?_ ?_
  · have e : (eMet true "told" metT (bnd (aCons (eIxV 12 (pur (.int 0))) (aCons (pur (.int 1)) (aCons (pur .non) (aCons (pur .non) (aCons (pur .non) aNil))))) (call F_settled))) (ev s0 s2 s3 s4 (.sh (.lst (ws.map wD))) (.sh (fr p q)) s7 s8 s9 s10 s11 (.ow (.lst [.box (r.length + 2), .box (r.length + 2 + 1), .box (r.length + 2 + 2), .box (r.length + 2 + 3)])) s13 s14 s15) (st xs cur cnt mix (r ++ HL)) = .ok (.tup [.str "room", .box (r.length + 2)], false) (ev s0 s2 s3 s4 (.sh (.lst (ws.map wD))) (.sh (fr p q)) s7 s8 s9 s10 s11 (.ow (.lst [.box (r.length + 2), .box (r.length + 2 + 1), .box (r.length + 2 + 2), .box (r.length + 2 + 3)])) s13 s14 s15) (st xs cur cnt mix (r ++ HL)) :=
      met_ex (call_ex (ds := [.box (r.length + 2), .int 1, .non, .non, .non]) (settled_ex (ca_road (road_room (box_pos hr 0 (by decide)))))) rfl
    exact set_tr (lst_tr (cons_tr e (r := aNil) (ds := []) rfl) (show (1 : Nat) ≤ lim by decide))
  refine seq_tr (t' := ev s0 s2 s3 s4 (.sh (.lst (ws.map wD))) (.sh (fr p q)) s7 s8 s9 s10 s11 (.ow (.lst [.box (r.length + 2), .box (r.length + 2 + 1), .box (r.length + 2 + 2), .box (r.length + 2 + 3)])) (.ow (.lst ((FND (r.length + 2)).take 2))) s14 s15) (S' := st xs cur cnt mix (r ++ HL)) ?_ ?_
  · have e : (eMet true "told" metT (bnd (aCons (pur (.int 1)) (aCons (eIxV 12 (pur (.int 1))) (aCons (pur .non) (aCons (pur .non) (aCons (pur .non) aNil))))) (call F_toll))) (ev s0 s2 s3 s4 (.sh (.lst (ws.map wD))) (.sh (fr p q)) s7 s8 s9 s10 s11 (.ow (.lst [.box (r.length + 2), .box (r.length + 2 + 1), .box (r.length + 2 + 2), .box (r.length + 2 + 3)])) (.ow (.lst ((FND (r.length + 2)).take 1))) s14 s15) (st xs cur cnt mix (r ++ HL)) = .ok (.tup [.str "length", .box (r.length + 2 + 1)], false) (ev s0 s2 s3 s4 (.sh (.lst (ws.map wD))) (.sh (fr p q)) s7 s8 s9 s10 s11 (.ow (.lst [.box (r.length + 2), .box (r.length + 2 + 1), .box (r.length + 2 + 2), .box (r.length + 2 + 3)])) (.ow (.lst ((FND (r.length + 2)).take 1))) s14 s15) (st xs cur cnt mix (r ++ HL)) :=
      met_ex (call_ex (ds := [.int 1, .box (r.length + 2 + 1), .non, .non, .non]) (toll_ex (ca_road (road_len (k := 1) (by decide) (box_pos hr 1 (by decide)))))) rfl
    exact app_tr (ds := (FND (r.length + 2)).take 1) rfl e rfl (show 1 < 1000 by decide)
  refine seq_tr (t' := ev s0 s2 s3 s4 (.sh (.lst (ws.map wD))) (.sh (fr p q)) s7 s8 s9 s10 s11 (.ow (.lst [.box (r.length + 2), .box (r.length + 2 + 1), .box (r.length + 2 + 2), .box (r.length + 2 + 3)])) (.ow (.lst ((FND (r.length + 2)).take 3))) s14 s15) (S' := st xs cur cnt mix (r ++ HL)) ?_ ?_
  · have e : (eMet true "told" metT (bnd (aCons (pur (.int 1)) (aCons (pur (.int 1)) (aCons (eVar 5) (aCons (eIxV 12 (pur (.int 2))) (aCons (pur .non) aNil))))) (call F_paid))) (ev s0 s2 s3 s4 (.sh (.lst (ws.map wD))) (.sh (fr p q)) s7 s8 s9 s10 s11 (.ow (.lst [.box (r.length + 2), .box (r.length + 2 + 1), .box (r.length + 2 + 2), .box (r.length + 2 + 3)])) (.ow (.lst ((FND (r.length + 2)).take 2))) s14 s15) (st xs cur cnt mix (r ++ HL)) = .ok (.tup [.str "early", .box (r.length + 2 + 2)], false) (ev s0 s2 s3 s4 (.sh (.lst (ws.map wD))) (.sh (fr p q)) s7 s8 s9 s10 s11 (.ow (.lst [.box (r.length + 2), .box (r.length + 2 + 1), .box (r.length + 2 + 2), .box (r.length + 2 + 3)])) (.ow (.lst ((FND (r.length + 2)).take 2))) s14 s15) (st xs cur cnt mix (r ++ HL)) :=
      met_ex (call_ex (ds := [.int 1, .int 1, .lst (ws.map wD), .box (r.length + 2 + 2), .non]) (paid_ex (ca_troubles (road_ok (k := 1) (l := 1) (by decide) (by decide)) chk (box_early hr)))) rfl
    exact app_tr (ds := (FND (r.length + 2)).take 2) rfl e rfl (show 2 < 1000 by decide)
  refine seq_tr (t' := ev s0 s2 s3 s4 (.sh (.lst (ws.map wD))) (.sh (fr p q)) s7 s8 s9 s10 s11 (.ow (.lst [.box (r.length + 2), .box (r.length + 2 + 1), .box (r.length + 2 + 2), .box (r.length + 2 + 3)])) (.ow (.lst (FND (r.length + 2)))) s14 s15) (S' := st xs cur cnt mix (r ++ HL)) ?_ ?_
  · have e : (eMet true "told" metT (bnd (aCons (pur (.int 1)) (aCons (pur (.int 1)) (aCons (eVar 5) (aCons (eVar 6) (aCons (eIxV 12 (pur (.int 3))) (aCons (pur .non) aNil)))))) (call F_gains))) (ev s0 s2 s3 s4 (.sh (.lst (ws.map wD))) (.sh (fr p q)) s7 s8 s9 s10 s11 (.ow (.lst [.box (r.length + 2), .box (r.length + 2 + 1), .box (r.length + 2 + 2), .box (r.length + 2 + 3)])) (.ow (.lst ((FND (r.length + 2)).take 3))) s14 s15) (st xs cur cnt mix (r ++ HL)) = .ok (.tup [.str "late", .box (r.length + 2 + 3)], false) (ev s0 s2 s3 s4 (.sh (.lst (ws.map wD))) (.sh (fr p q)) s7 s8 s9 s10 s11 (.ow (.lst [.box (r.length + 2), .box (r.length + 2 + 1), .box (r.length + 2 + 2), .box (r.length + 2 + 3)])) (.ow (.lst ((FND (r.length + 2)).take 3))) s14 s15) (st xs cur cnt mix (r ++ HL)) :=
      met_ex (call_ex (ds := [.int 1, .int 1, .lst (ws.map wD), fr p q, .box (r.length + 2 + 3), .non]) (gains_ex (ca_troubles (road_ok (k := 1) (l := 1) (by decide) (by decide)) chk (late_ex p1 pq (box_late hr))))) rfl
    exact app_tr (ds := (FND (r.length + 2)).take 3) rfl e rfl (show 3 < 1000 by decide)
  refine seq_tr (t' := ev s0 s2 s3 s4 (.sh (.lst (ws.map wD))) (.sh (fr p q)) s7 s8 s9 s10 s11 (.sh (.lst [.box (r.length + 2), .box (r.length + 2 + 1), .box (r.length + 2 + 2), .box (r.length + 2 + 3)])) (.ow (.lst (FND (r.length + 2)))) (.sh (.box (r.length + 2 + 3))) s15) (S' := st xs cur cnt mix (r ++ HM)) ?_ ?_
  · exact held_late hr (s13 := .ow (.lst (FND (r.length + 2)))) (s14 := s14)
  refine seq_tr (t' := ev s0 s2 s3 s4 (.sh (.lst (ws.map wD))) (.sh (fr p q)) s7 s8 s9 s10 s11 (.sh (.lst [.box (r.length + 2), .box (r.length + 2 + 1), .box (r.length + 2 + 2), .box (r.length + 2 + 3)])) (.ow (.lst (FND (r.length + 2)))) (.sh (.box (r.length + 2 + 3))) (.ow (.lst DUE))) (S' := st xs cur cnt mix (r ++ HM)) rfl ?_
  refine seq_tr (t' := ev s0 s2 s3 s4 (.sh (.lst (ws.map wD))) (.sh (fr p q)) s7 s8 s9 s10 s11 (.sh (.lst [.box (r.length + 2), .box (r.length + 2 + 1), .box (r.length + 2 + 2), .box (r.length + 2 + 3)])) (.sh (.lst (FND (r.length + 2)))) (.sh (.box (r.length + 2 + 3))) (.sh (.lst DUE))) (S' := st xs cur cnt mix (r ++ HM)) ?_ ?_
  · exact look_ok (x := (.lst (FND (r.length + 2)), false)) (y := (.lst DUE, false)) (t' := ev s0 s2 s3 s4 (.sh (.lst (ws.map wD))) (.sh (fr p q)) s7 s8 s9 s10 s11 (.sh (.lst [.box (r.length + 2), .box (r.length + 2 + 1), .box (r.length + 2 + 2), .box (r.length + 2 + 3)])) (.sh (.lst (FND (r.length + 2)))) (.sh (.box (r.length + 2 + 3))) (.ow (.lst DUE))) rfl rfl (held_same hr)
  refine seq_tr (t' := ev s0 s2 s3 s4 (.sh (.lst (ws.map wD))) (.sh (fr p q)) s7 s8 s9 s10 s11 (.sh (.lst [.box (r.length + 2), .box (r.length + 2 + 1), .box (r.length + 2 + 2), .box (r.length + 2 + 3)])) (.ow (.lst FIN)) (.sh (.box (r.length + 2 + 3))) (.sh (.lst DUE))) (S' := st xs cur cnt mix (r ++ HM)) ?_ ?_
  · have e0 : (aCons (pur (.int 1)) (aCons (pur (.int 1)) (aCons (eLst (aCons (eTup (aCons (eTup (aCons (pur (.int 1)) (aCons (pur (.int 1)) aNil))) (aCons (eTup (aCons (pur (.int 30)) (aCons (pur (.int 1)) aNil))) aNil))) aNil)) (aCons (eTup (aCons (pur (.int 1)) (aCons (pur (.int 2)) aNil))) (aCons (eTup (aCons (pur (.int 1)) (aCons (pur (.int 2)) aNil))) aNil))))) (ev s0 s2 s3 s4 (.sh (.lst (ws.map wD))) (.sh (fr p q)) s7 s8 s9 s10 s11 (.sh (.lst [.box (r.length + 2), .box (r.length + 2 + 1), .box (r.length + 2 + 2), .box (r.length + 2 + 3)])) (.sh (.lst (FND (r.length + 2)))) (.sh (.box (r.length + 2 + 3))) (.sh (.lst DUE))) (st xs cur cnt mix (r ++ HM)) = .ok [.int 1, .int 1, W1, pr 1 2, pr 1 2] (ev s0 s2 s3 s4 (.sh (.lst (ws.map wD))) (.sh (fr p q)) s7 s8 s9 s10 s11 (.sh (.lst [.box (r.length + 2), .box (r.length + 2 + 1), .box (r.length + 2 + 2), .box (r.length + 2 + 3)])) (.sh (.lst (FND (r.length + 2)))) (.sh (.box (r.length + 2 + 3))) (.sh (.lst DUE))) (st xs cur cnt mix (r ++ HM)) := rfl
    have e1 : (call F__law_all) [.int 1, .int 1, W1, pr 1 2, pr 1 2] (ev s0 s2 s3 s4 (.sh (.lst (ws.map wD))) (.sh (fr p q)) s7 s8 s9 s10 s11 (.sh (.lst [.box (r.length + 2), .box (r.length + 2 + 1), .box (r.length + 2 + 2), .box (r.length + 2 + 3)])) (.sh (.lst (FND (r.length + 2)))) (.sh (.box (r.length + 2 + 3))) (.sh (.lst DUE))) (st xs cur cnt mix (r ++ HM)) = .ok (.lst FIN, true) (ev s0 s2 s3 s4 (.sh (.lst (ws.map wD))) (.sh (fr p q)) s7 s8 s9 s10 s11 (.sh (.lst [.box (r.length + 2), .box (r.length + 2 + 1), .box (r.length + 2 + 2), .box (r.length + 2 + 3)])) (.sh (.lst (FND (r.length + 2)))) (.sh (.box (r.length + 2 + 3))) (.sh (.lst DUE))) (st xs cur cnt mix (r ++ HM)) := call_tr (fin_all _)
    have e2 : (bnd (aCons (pur (.int 1)) (aCons (pur (.int 1)) (aCons (eLst (aCons (eTup (aCons (eTup (aCons (pur (.int 1)) (aCons (pur (.int 1)) aNil))) (aCons (eTup (aCons (pur (.int 30)) (aCons (pur (.int 1)) aNil))) aNil))) aNil)) (aCons (eTup (aCons (pur (.int 1)) (aCons (pur (.int 2)) aNil))) (aCons (eTup (aCons (pur (.int 1)) (aCons (pur (.int 2)) aNil))) aNil))))) (call F__law_all)) (ev s0 s2 s3 s4 (.sh (.lst (ws.map wD))) (.sh (fr p q)) s7 s8 s9 s10 s11 (.sh (.lst [.box (r.length + 2), .box (r.length + 2 + 1), .box (r.length + 2 + 2), .box (r.length + 2 + 3)])) (.sh (.lst (FND (r.length + 2)))) (.sh (.box (r.length + 2 + 3))) (.sh (.lst DUE))) (st xs cur cnt mix (r ++ HM)) = .ok (.lst FIN, true) (ev s0 s2 s3 s4 (.sh (.lst (ws.map wD))) (.sh (fr p q)) s7 s8 s9 s10 s11 (.sh (.lst [.box (r.length + 2), .box (r.length + 2 + 1), .box (r.length + 2 + 2), .box (r.length + 2 + 3)])) (.sh (.lst (FND (r.length + 2)))) (.sh (.box (r.length + 2 + 3))) (.sh (.lst DUE))) (st xs cur cnt mix (r ++ HM)) := by
      rw [bnd_ok e0]
      exact e1
    have e3 := set_tr (i := 13) e2
    exact e3
  refine seq_tr (t' := ev s0 s2 s3 s4 (.sh (.lst (ws.map wD))) (.sh (fr p q)) s7 s8 s9 s10 s11 (.sh (.lst [.box (r.length + 2), .box (r.length + 2 + 1), .box (r.length + 2 + 2), .box (r.length + 2 + 3)])) (.ow (.lst FIN)) (.sh (.box (r.length + 2 + 3))) (.ow (.lst (FIN.take 4)))) (S' := st xs cur cnt mix (r ++ HM)) rfl ?_
  exact look_ok (x := (.lst FIN, false)) (y := (.lst FIN, true)) (t' := ev s0 s2 s3 s4 (.sh (.lst (ws.map wD))) (.sh (fr p q)) s7 s8 s9 s10 s11 (.sh (.lst [.box (r.length + 2), .box (r.length + 2 + 1), .box (r.length + 2 + 2), .box (r.length + 2 + 3)])) (.sh (.lst FIN)) (.sh (.box (r.length + 2 + 3))) (.ow (.lst (FIN.take 4)))) rfl rfl (fin_same _)
def sTurn : MS := (sSeq (sParF [3, 4] (fCons (eb (pur (.int 1)) fun x => eb (bnd (aCons (eVar 1) (aCons (pur (.int 5)) aNil)) (call F__law_draw)) fun y => dAdd x y) (fCons (eb (pur (.int 1)) fun x => eb (bnd (aCons (eVar 1) (aCons (pur (.int 12)) aNil)) (call F__law_draw)) fun y => dAdd x y) fNil)))
    (sSeq (sAsg (eTup (aCons (bnd (aCons (eVar 1) (aCons (pur (.int 4)) aNil)) (call F__law_wishes)) (aCons (bnd (aCons (eVar 1) aNil) (call F__law_worths)) aNil))) (gTp (gCons (gNm 5) (gCons (gTp (gCons (gNm 6) (gCons (gNm 7) gNil))) gNil))))
    (sSeq (sAsg (bnd (aCons (eVar 1) (aCons (eVar 5) aNil)) (call F__law_bad_wishes)) (gTp (gCons (gNm 8) (gCons (gNm 9) gNil))))
    (sSeq (sFor (eb (eTup (aCons (pur .non) (aCons (pur (.int 0)) (aCons (eNeg (pur (.int 1))) (aCons (pur (.bl true)) (aCons (pur (.str "1")) (aCons (eTup (aCons (pur (.int 1)) (aCons (pur (.int 1)) aNil))) (aCons (eLst aNil) (aCons (ret (.dic [], true)) (aCons (pur (.gl "_law_pick")) aNil)))))))))) dSeq) (gNm 10) (sSeq (sIf (tNotM (tst (bnd (aCons (bnd (aCons (eVar 10) (aCons (eVar 10) (aCons (eVar 8) (aCons (eVar 10) (aCons (eVar 10) aNil))))) (call F__law_all)) (aCons (eb (eLst (aCons (eTup (aCons (pur (.str "room")) (aCons (eVar 10) aNil))) aNil)) fun x => eb (pur (.int 7)) fun y => dMul x y) aNil)) (call (F__law_same 8))))) (sRet (pur (.bl false))) sNx)
    (sIf (tNotM (tst (bnd (aCons (bnd (aCons (eVar 3) (aCons (eVar 10) (aCons (eVar 8) (aCons (eVar 10) (aCons (eVar 10) aNil))))) (call F__law_all)) (aCons (eb (eLst (aCons (eTup (aCons (pur (.str "length")) (aCons (eVar 10) aNil))) aNil)) fun x => eb (pur (.int 7)) fun y => dMul x y) aNil)) (call (F__law_same 8))))) (sRet (pur (.bl false))) sNx)))
    (sSeq (sIf (tNotM (tst (bnd (aCons (bnd (aCons (eVar 3) (aCons (eVar 4) (aCons (eVar 8) (aCons (pur .non) (aCons (pur .non) aNil))))) (call F__law_all)) (aCons (eb (eLst (aCons (eTup (aCons (pur (.str "wishes")) (aCons (eVar 9) aNil))) aNil)) fun x => eb (pur (.int 7)) fun y => dMul x y) aNil)) (call (F__law_same 8))))) (sRet (pur (.bl false))) sNx)
    (sSeq (sSet 11 (eLst (aCons (pur .non) (aCons (pur (.int 1)) (aCons (eTup (aCons (pur (.int 0)) (aCons (pur (.int 1)) aNil))) (aCons (eTup (aCons (pur (.int 0)) (aCons (pur (.int 2)) aNil))) (aCons (eLst (aCons (pur (.int 0)) (aCons (pur (.int 3)) aNil))) (aCons (eTup (aCons (eNeg (pur (.int 1))) (aCons (pur (.int 2)) aNil))) (aCons (eTup (aCons (pur (.int 1)) (aCons (pur (.int 0)) aNil))) (aCons (eTup (aCons (pur (.bl true)) (aCons (pur (.int 2)) aNil))) (aCons (pur (.str "12")) (aCons (eLst aNil) (aCons (ret (.dic [], true)) (aCons (eTup (aCons (pur (.int 1)) (aCons (pur (.int 2)) (aCons (pur (.int 3)) aNil)))) (aCons (eDic [((pur (.int 1)), (pur (.int 0))), ((pur (.int 2)), (pur (.int 0)))]) aNil)))))))))))))))
    (sSeq (sFor (eb (eb (eVar 11) fun x => eb (eLst (aCons (eTup (aCons (pur (.int 1)) (aCons (pur (.int 1)) aNil))) (aCons (eTup (aCons (pur (.int 2)) (aCons (pur (.int 2)) aNil))) (aCons (eTup (aCons (pur (.int 3)) (aCons (pur (.int 2)) aNil))) aNil)))) fun y => dAdd x y) dSeq) (gNm 10) (sIf (tNotM (tst (bnd (aCons (bnd (aCons (eVar 3) (aCons (eVar 4) (aCons (eVar 5) (aCons (eVar 10) (aCons (pur .non) aNil))))) (call F__law_all)) (aCons (eb (eLst (aCons (eTup (aCons (pur (.str "early")) (aCons (eVar 10) aNil))) aNil)) fun x => eb (pur (.int 7)) fun y => dMul x y) aNil)) (call (F__law_same 8))))) (sRet (pur (.bl false))) sNx))
    (sSeq (sFor (eb (eVar 11) dSeq) (gNm 10) (sIf (tNotM (tst (bnd (aCons (bnd (aCons (eVar 3) (aCons (eVar 4) (aCons (eVar 5) (aCons (eVar 6) (aCons (eVar 10) aNil))))) (call F__law_all)) (aCons (eb (eLst (aCons (eTup (aCons (pur (.str "late")) (aCons (eVar 10) aNil))) aNil)) fun x => eb (pur (.int 7)) fun y => dMul x y) aNil)) (call (F__law_same 8))))) (sRet (pur (.bl false))) sNx))
    (sSeq (sSet 12 (eLst (aCons (eBox (eLst (aCons (pur (.str "a")) aNil))) (aCons (eBox (eLst (aCons (pur (.str "b")) aNil))) (aCons (eBox (eLst (aCons (pur (.str "c")) aNil))) (aCons (eBox (eLst (aCons (pur (.str "d")) aNil))) aNil))))))
    (sSeq (sSet 13 (eLst (aCons (eMet true "told" metT (bnd (aCons (eIxV 12 (pur (.int 0))) (aCons (pur (.int 1)) (aCons (pur .non) (aCons (pur .non) (aCons (pur .non) aNil))))) (call F_settled))) aNil)))
    (sSeq (sExpr (mSlot "list" 13 (aCons (eMet true "told" metT (bnd (aCons (pur (.int 1)) (aCons (eIxV 12 (pur (.int 1))) (aCons (pur .non) (aCons (pur .non) (aCons (pur .non) aNil))))) (call F_toll))) aNil) fApp))
    (sSeq (sExpr (mSlot "list" 13 (aCons (eMet true "told" metT (bnd (aCons (pur (.int 1)) (aCons (pur (.int 1)) (aCons (eVar 5) (aCons (eIxV 12 (pur (.int 2))) (aCons (pur .non) aNil))))) (call F_paid))) aNil) fApp))
    (sSeq (sExpr (mSlot "list" 13 (aCons (eMet true "told" metT (bnd (aCons (pur (.int 1)) (aCons (pur (.int 1)) (aCons (eVar 5) (aCons (eVar 6) (aCons (eIxV 12 (pur (.int 3))) (aCons (pur .non) aNil)))))) (call F_gains))) aNil) fApp))
    (sSeq (sFor (eb (eVar 12) dSeq) (gNm 14) (sExpr (mBox "list" (eVar 14) (aCons (pur (.str "late")) aNil) fApp)))
    (sSeq (sSet 15 (eLst (aCons (eTup (aCons (pur (.str "room")) (aCons (eLst (aCons (pur (.str "a")) (aCons (pur (.str "late")) aNil))) aNil))) (aCons (eTup (aCons (pur (.str "length")) (aCons (eLst (aCons (pur (.str "b")) (aCons (pur (.str "late")) aNil))) aNil))) (aCons (eTup (aCons (pur (.str "early")) (aCons (eLst (aCons (pur (.str "c")) (aCons (pur (.str "late")) aNil))) aNil))) (aCons (eTup (aCons (pur (.str "late")) (aCons (eLst (aCons (pur (.str "d")) (aCons (pur (.str "late")) aNil))) aNil))) aNil))))))
    (sSeq (sIf (tNotM (tst (bnd (aCons (eVar 13) (aCons (eVar 15) aNil)) (call (F__law_same 8))))) (sRet (pur (.bl false))) sNx)
    (sSeq (sSet 13 (bnd (aCons (pur (.int 1)) (aCons (pur (.int 1)) (aCons (eLst (aCons (eTup (aCons (eTup (aCons (pur (.int 1)) (aCons (pur (.int 1)) aNil))) (aCons (eTup (aCons (pur (.int 30)) (aCons (pur (.int 1)) aNil))) aNil))) aNil)) (aCons (eTup (aCons (pur (.int 1)) (aCons (pur (.int 2)) aNil))) (aCons (eTup (aCons (pur (.int 1)) (aCons (pur (.int 2)) aNil))) aNil))))) (call F__law_all)))
    (sSeq (sSet 15 (eLst (aCons (eTup (aCons (pur (.str "soon")) (aCons (eTup (aCons (eNeg (pur (.int 15))) (aCons (pur (.int 1)) aNil))) aNil))) (aCons (eTup (aCons (pur (.str "told")) (aCons (eLst (aCons (eTup (aCons (eTup (aCons (eNeg (pur (.int 14))) (aCons (pur (.int 1)) aNil))) (aCons (eTup (aCons (pur (.int 16)) (aCons (pur (.int 1)) aNil))) (aCons (eLst (aCons (pur (.int 0)) aNil)) aNil)))) aNil)) aNil))) (aCons (eTup (aCons (pur (.str "told")) (aCons (eLst (aCons (eTup (aCons (pur (.int 15)) (aCons (pur (.int 2)) aNil))) aNil)) aNil))) (aCons (eTup (aCons (pur (.str "soon")) (aCons (eTup (aCons (eNeg (pur (.int 15))) (aCons (pur (.int 1)) aNil))) aNil))) aNil))))))
    (sIf (tNotM (tst (bnd (aCons (eVar 13) (aCons (eb (eVar 15) fun x => eb (eLst (aCons (eTup (aCons (pur (.str "soon")) (aCons (eTup (aCons (eNeg (pur (.int 15))) (aCons (pur (.int 1)) aNil))) aNil))) (aCons (eTup (aCons (pur (.str "told")) (aCons (eTup (aCons (pur (.int 225)) (aCons (pur (.int 2)) aNil))) aNil))) (aCons (eTup (aCons (pur (.str "setting")) (aCons (pur (.int 0)) aNil))) aNil)))) fun y => dAdd x y) aNil)) (call (F__law_same 8))))) (sRet (pur (.bl false))) sNx)))))))))))))))))))
theorem turn_ok {n : Nat} {r S : Sto} (hr : Rs r) (h : StOk n r S) (hn : n < 400000) (s0 s2 s3 s4 s5 s6 s7 s8 s9 s10 s11 s12 s13 s14 s15 : Slot) : ∃ (t0 t2 t3 t4 t5 t6 t7 t8 t9 t10 t11 t12 t13 t14 t15 : Slot) (S' : Sto), sTurn (ev s0 s2 s3 s4 s5 s6 s7 s8 s9 s10 s11 s12 s13 s14 s15) S = .ok .nx (ev t0 t2 t3 t4 t5 t6 t7 t8 t9 t10 t11 t12 t13 t14 t15) S' ∧ StOk (n + 30) (r ++ HM) S' := by
  have key : ∃ t1 S1, Mid r (n + 30) t1 S1 ∧ sTurn (ev s0 s2 s3 s4 s5 s6 s7 s8 s9 s10 s11 s12 s13 s14 s15) S = sRest t1 S1 := turn_a (rest := sRest) h (by omega)
  obtain ⟨t1, S1, hm, e⟩ := key
  obtain ⟨t0, t2, t3, t4, t5, t6, t7, t8, t9, t10, t11, t12, t13, t14, t15, S', e', h'⟩ := turn_b hr hm
  exact ⟨t0, t2, t3, t4, t5, t6, t7, t8, t9, t10, t11, t12, t13, t14, t15, S', e.trans e', h'⟩
end K78

set_option Elab.async false
set_option linter.all false
set_option maxRecDepth 100000
set_option maxHeartbeats 0
set_option autoImplicit false
namespace K78
open PySem PySem.Spec PyProof.Rows L2 TD
theorem law_eq : m_law = sSeq (sSet 1 (eBox (bnd (aCons (eVar 0) aNil) (call F__law_stream)))) (sSeq (sFor (bnd (aCons (pur (.int 3)) aNil) dRng1) (gNm 2) sTurn) (sRet (pur (.bl true)))) := rfl
theorem law_ok {xs : List Int} {d : D} (hd : d = .scr (xs.map .int) ∨ d = .lst (xs.map .int)) (hl : xs.length ≤ 100000) : ∃ S', F_law [d] [] = .ok (.bl true) false S' := by
  have e0 : F__law_stream [d] [] = .ok (.lst [.box 0, .int 0, .int 0, .int 17]) true [.lst (xs.map .int)] := by
    have x1 : (bnd (bVar 0) dList) [.sh d] [] = .ok (.lst (xs.map .int), true) [.sh d] [] := by
      rcases hd with rfl | rfl
      · exact newL_ok (by rw [List.length_map]; exact hl)
      · exact newL_ok (by rw [List.length_map]; exact hl)
    have x2 : (eBox (bnd (bVar 0) dList)) [.sh d] [] = .ok (.box 0, false) [.sh d] [.lst (xs.map .int)] := by
      unfold eBox
      rw [bnd_ok x1]
      rfl
    refine fn_tr (n := 1) (t := [.sh d]) ?_
    unfold m__law_stream
    exact ret_tr (x := (.lst [.box 0, .int 0, .int 0, .int 17], true)) (lst_tr (cons_tr x2 (r := (aCons (pur (.int 0)) (aCons (pur (.int 0)) (aCons (pur (.int 17)) aNil)))) (ds := [.int 0, .int 0, .int 17]) rfl) (show (4 : Nat) ≤ lim by decide))
  have e1 : (eBox (bnd (aCons (eVar 0) aNil) (call F__law_stream))) [.sh d, .no, .no, .no, .no, .no, .no, .no, .no, .no, .no, .no, .no, .no, .no, .no] [] = .ok (.box 1, false) [.sh d, .no, .no, .no, .no, .no, .no, .no, .no, .no, .no, .no, .no, .no, .no, .no] (st xs 0 0 17 []) := by
    have x1 : (bnd (aCons (eVar 0) aNil) (call F__law_stream)) [.sh d, .no, .no, .no, .no, .no, .no, .no, .no, .no, .no, .no, .no, .no, .no, .no] [] = .ok (.lst [.box 0, .int 0, .int 0, .int 17], true) [.sh d, .no, .no, .no, .no, .no, .no, .no, .no, .no, .no, .no, .no, .no, .no, .no] [.lst (xs.map .int)] := call_tr (ds := [d]) e0
    unfold eBox
    rw [bnd_ok x1]
    rfl
  have s0 : StOk 0 [] (st xs 0 0 17 []) := ⟨xs, 0, 0, 17, rfl, by decide, by decide, by decide, by decide, by decide⟩
  obtain ⟨a0, a2, a3, a4, a5, a6, a7, a8, a9, a10, a11, a12, a13, a14, a15, S1, t1, h1⟩ := turn_ok (.inl rfl) s0 (by decide) (.sh d) (.sh (.int (0 + (0 : Nat)))) .no .no .no .no .no .no .no .no .no .no .no .no .no
  obtain ⟨b0, b2, b3, b4, b5, b6, b7, b8, b9, b10, b11, b12, b13, b14, b15, S2, t2, h2⟩ := turn_ok (.inr (.inl rfl)) h1 (by decide) a0 (.sh (.int (0 + (1 : Nat)))) a3 a4 a5 a6 a7 a8 a9 a10 a11 a12 a13 a14 a15
  obtain ⟨c0, c2, c3, c4, c5, c6, c7, c8, c9, c10, c11, c12, c13, c14, c15, S3, t3, h3⟩ := turn_ok (.inr (.inr rfl)) h2 (by decide) b0 (.sh (.int (0 + (2 : Nat)))) b3 b4 b5 b6 b7 b8 b9 b10 b11 b12 b13 b14 b15
  refine ⟨S3, fn_tr (n := 16) (t := ev c0 c2 c3 c4 c5 c6 c7 c8 c9 c10 c11 c12 c13 c14 c15) ?_⟩
  rw [law_eq]
  have lp : loop (gNm 2) sTurn [] [.int (0 + (0 : Nat)), .int (0 + (1 : Nat)), .int (0 + (2 : Nat))] (ev (.sh d) .no .no .no .no .no .no .no .no .no .no .no .no .no .no) (st xs 0 0 17 []) = .ok .nx (ev c0 c2 c3 c4 c5 c6 c7 c8 c9 c10 c11 c12 c13 c14 c15) S3 :=
    loop_tr rfl t1 (loop_tr rfl t2 (loop_tr rfl t3 rfl))
  exact seq_tr (set_tr e1) (seq_tr (for_tr (ds := [.int (0 + (0 : Nat)), .int (0 + (1 : Nat)), .int (0 + (2 : Nat))]) (t' := ev (.sh d) .no .no .no .no .no .no .no .no .no .no .no .no .no .no) (S' := st xs 0 0 17 []) rfl lp) rfl)
end K78

set_option Elab.async false
set_option linter.all false
set_option maxRecDepth 100000
set_option maxHeartbeats 0
set_option autoImplicit false
namespace K78
open PySem PySem.Spec PyProof.Rows L2 TD
section
variable {P : Program} {w : World} {K : PySem.W.Frag} {mg : Str → Option Value} {base h : Heap}
theorem OK_law {fd : FuncData} (hh : Hh w K mg base h) (FD : FunD K "law" "law" (defArgs (top 78)) (defBody (top 78)) (defScope (top 78)) [] [] (He.ga K "law") fd) : FnOk P w K mg base (L2.CX P w) 15 (He.ga K "law") fd ["_law_script"] (spT K (TT K) F_law 1) := def_fd (k := 14) (N := ["_law_script", "_law_stream_here", "_law_turn", "_law_room", "_law_length", "_law_wishes_here", "_law_early", "_law_late", "_law_bad", "_law_at", "_law_odd", "_law_few", "_law_held", "_law_found", "_law_one", "_law_due"]) (m := m_law) FD sc_law (fun _ _ _ _ _ _ us hl => match us, hl with | [_], _ => rfl) fun A outer s H E hr =>
    (pbk_cons (pst_set nd_law rfl (.inl rfl) (pd_box (pd_call (D__law_stream hh) (hr.mono (by decide)) takesD (pas_cons (pd_var rfl (.inl rfl)) pas_nil) (alen_cons alen_nil))))
    (pbk_cons (pst_for passesD rfl (pit_range1 rfl (fr_range hh) (pas_cons pd_int pas_nil)) (pg_nm nd_law rfl (.inl rfl)) (pbk_cons (pst_parF rfl nd_law rfl rfl (by decide) rfl rfl (pd_bin od_add pd_int (pd_call (D__law_draw hh) (hr.mono (by decide)) takesD (pas_cons (pd_var rfl (.inl rfl)) (pas_cons pd_int pas_nil)) (alen_cons (alen_cons alen_nil)))) (pd_bin od_add pd_int (pd_call (D__law_draw hh) (hr.mono (by decide)) takesD (pas_cons (pd_var rfl (.inl rfl)) (pas_cons pd_int pas_nil)) (alen_cons (alen_cons alen_nil)))) rfl)
    (pbk_cons (pst_asg (pd_tup (pas_cons (pd_call (D__law_wishes hh) (hr.mono (by decide)) takesD (pas_cons (pd_var rfl (.inl rfl)) (pas_cons pd_int pas_nil)) (alen_cons (alen_cons alen_nil))) (pas_cons (pd_call (D__law_worths hh) (hr.mono (by decide)) takesD (pas_cons (pd_var rfl (.inl rfl)) pas_nil) (alen_cons alen_nil)) pas_nil))) (pg_tp rfl (pgts_cons (pg_nm nd_law rfl (.inr rfl)) (pgts_cons (pg_tp rfl (pgts_cons (pg_nm nd_law rfl (.inr rfl)) (pgts_cons (pg_nm nd_law rfl (.inl rfl)) pgts_nil))) pgts_nil))))
    (pbk_cons (pst_asg (pd_call (D__law_bad_wishes hh) (hr.mono (by decide)) takesD (pas_cons (pd_var rfl (.inl rfl)) (pas_cons (pd_var rfl (.inr (.inl rfl))) pas_nil)) (alen_cons (alen_cons alen_nil))) (pg_tp rfl (pgts_cons (pg_nm nd_law rfl (.inl rfl)) (pgts_cons (pg_nm nd_law rfl (.inl rfl)) pgts_nil))))
    (pbk_cons (pst_for passesD rfl (pit_seq (pd_tup (pas_cons pd_non (pas_cons pd_int (pas_cons (pd_neg pd_int) (pas_cons pd_bl (pas_cons pd_str (pas_cons (pd_tup (pas_cons pd_int (pas_cons pd_int pas_nil))) (pas_cons (pd_lst pas_nil) (pas_cons pd_dnew (pas_cons (pd_glob rfl (gl__law_pick hh) (ty__law_pick hh)) pas_nil))))))))))) (pg_nm nd_law rfl (.inl rfl)) (pbk_cons (pst_if (pc_not (pc_val (pd_call (D__law_same hh 8) (hr.mono (by decide)) takesD (pas_cons (pd_call (D__law_all hh) (hr.mono (by decide)) takesD (pas_cons (pd_var rfl (.inl rfl)) (pas_cons (pd_var rfl (.inl rfl)) (pas_cons (pd_var rfl (.inl rfl)) (pas_cons (pd_var rfl (.inl rfl)) (pas_cons (pd_var rfl (.inl rfl)) pas_nil))))) (alen_cons (alen_cons (alen_cons (alen_cons (alen_cons alen_nil)))))) (pas_cons (pd_bin od_mul (pd_lst (pas_cons (pd_tup (pas_cons pd_str (pas_cons (pd_var rfl (.inl rfl)) pas_nil))) pas_nil)) pd_int) pas_nil)) (alen_cons (alen_cons alen_nil))))) (pbk_one (pst_ret pd_bl)) pbk_nil)
    (pbk_one (pst_if (pc_not (pc_val (pd_call (D__law_same hh 8) (hr.mono (by decide)) takesD (pas_cons (pd_call (D__law_all hh) (hr.mono (by decide)) takesD (pas_cons (pd_var rfl (.inl rfl)) (pas_cons (pd_var rfl (.inl rfl)) (pas_cons (pd_var rfl (.inl rfl)) (pas_cons (pd_var rfl (.inl rfl)) (pas_cons (pd_var rfl (.inl rfl)) pas_nil))))) (alen_cons (alen_cons (alen_cons (alen_cons (alen_cons alen_nil)))))) (pas_cons (pd_bin od_mul (pd_lst (pas_cons (pd_tup (pas_cons pd_str (pas_cons (pd_var rfl (.inl rfl)) pas_nil))) pas_nil)) pd_int) pas_nil)) (alen_cons (alen_cons alen_nil))))) (pbk_one (pst_ret pd_bl)) pbk_nil))))
    (pbk_cons (pst_if (pc_not (pc_val (pd_call (D__law_same hh 8) (hr.mono (by decide)) takesD (pas_cons (pd_call (D__law_all hh) (hr.mono (by decide)) takesD (pas_cons (pd_var rfl (.inl rfl)) (pas_cons (pd_var rfl (.inl rfl)) (pas_cons (pd_var rfl (.inl rfl)) (pas_cons pd_non (pas_cons pd_non pas_nil))))) (alen_cons (alen_cons (alen_cons (alen_cons (alen_cons alen_nil)))))) (pas_cons (pd_bin od_mul (pd_lst (pas_cons (pd_tup (pas_cons pd_str (pas_cons (pd_var rfl (.inl rfl)) pas_nil))) pas_nil)) pd_int) pas_nil)) (alen_cons (alen_cons alen_nil))))) (pbk_one (pst_ret pd_bl)) pbk_nil)
    (pbk_cons (pst_set nd_law rfl (.inl rfl) (pd_lst (pas_cons pd_non (pas_cons pd_int (pas_cons (pd_tup (pas_cons pd_int (pas_cons pd_int pas_nil))) (pas_cons (pd_tup (pas_cons pd_int (pas_cons pd_int pas_nil))) (pas_cons (pd_lst (pas_cons pd_int (pas_cons pd_int pas_nil))) (pas_cons (pd_tup (pas_cons (pd_neg pd_int) (pas_cons pd_int pas_nil))) (pas_cons (pd_tup (pas_cons pd_int (pas_cons pd_int pas_nil))) (pas_cons (pd_tup (pas_cons pd_bl (pas_cons pd_int pas_nil))) (pas_cons pd_str (pas_cons (pd_lst pas_nil) (pas_cons pd_dnew (pas_cons (pd_tup (pas_cons pd_int (pas_cons pd_int (pas_cons pd_int pas_nil)))) (pas_cons (pd_dic (ms := [((pur (.int 1)), (pur (.int 0))), ((pur (.int 2)), (pur (.int 0)))]) (pps_cons pd_int pd_int (pps_cons pd_int pd_int pps_nil)) rfl rfl (by simp) (by decide)) pas_nil)))))))))))))))
    (pbk_cons (pst_for passesD rfl (pit_seq (pd_bin od_add (pd_var rfl (.inl rfl)) (pd_lst (pas_cons (pd_tup (pas_cons pd_int (pas_cons pd_int pas_nil))) (pas_cons (pd_tup (pas_cons pd_int (pas_cons pd_int pas_nil))) (pas_cons (pd_tup (pas_cons pd_int (pas_cons pd_int pas_nil))) pas_nil)))))) (pg_nm nd_law rfl (.inl rfl)) (pbk_one (pst_if (pc_not (pc_val (pd_call (D__law_same hh 8) (hr.mono (by decide)) takesD (pas_cons (pd_call (D__law_all hh) (hr.mono (by decide)) takesD (pas_cons (pd_var rfl (.inl rfl)) (pas_cons (pd_var rfl (.inl rfl)) (pas_cons (pd_var rfl (.inr (.inl rfl))) (pas_cons (pd_var rfl (.inl rfl)) (pas_cons pd_non pas_nil))))) (alen_cons (alen_cons (alen_cons (alen_cons (alen_cons alen_nil)))))) (pas_cons (pd_bin od_mul (pd_lst (pas_cons (pd_tup (pas_cons pd_str (pas_cons (pd_var rfl (.inl rfl)) pas_nil))) pas_nil)) pd_int) pas_nil)) (alen_cons (alen_cons alen_nil))))) (pbk_one (pst_ret pd_bl)) pbk_nil)))
    (pbk_cons (pst_for passesD rfl (pit_seq (pd_var rfl (.inl rfl))) (pg_nm nd_law rfl (.inl rfl)) (pbk_one (pst_if (pc_not (pc_val (pd_call (D__law_same hh 8) (hr.mono (by decide)) takesD (pas_cons (pd_call (D__law_all hh) (hr.mono (by decide)) takesD (pas_cons (pd_var rfl (.inl rfl)) (pas_cons (pd_var rfl (.inl rfl)) (pas_cons (pd_var rfl (.inr (.inl rfl))) (pas_cons (pd_var rfl (.inr (.inl rfl))) (pas_cons (pd_var rfl (.inl rfl)) pas_nil))))) (alen_cons (alen_cons (alen_cons (alen_cons (alen_cons alen_nil)))))) (pas_cons (pd_bin od_mul (pd_lst (pas_cons (pd_tup (pas_cons pd_str (pas_cons (pd_var rfl (.inl rfl)) pas_nil))) pas_nil)) pd_int) pas_nil)) (alen_cons (alen_cons alen_nil))))) (pbk_one (pst_ret pd_bl)) pbk_nil)))
    (pbk_cons (pst_set nd_law rfl (.inr rfl) (pd_lst (pas_cons (pd_box (pd_lst (pas_cons pd_str pas_nil))) (pas_cons (pd_box (pd_lst (pas_cons pd_str pas_nil))) (pas_cons (pd_box (pd_lst (pas_cons pd_str pas_nil))) (pas_cons (pd_box (pd_lst (pas_cons pd_str pas_nil))) pas_nil))))))
    (pbk_cons (pst_set nd_law rfl (.inl rfl) (pd_lst (pas_cons (met_of (kk := 11) hh (by rfl) (hr.mono (by decide)) (tb_law hh) tm_law (tu_law hh) (LamX.lamS_by (by decide +kernel)) rfl (fun _ _ _ _ _ => rfl) fun A2 outer2 s2 H2 E2 f2 c2 hr2 => (pd_call (D_settled hh) (hr2.mono (by decide)) takesL (pas_cons (pd_ixV rfl (.inr (.inr rfl)) pd_int) (pas_cons pd_int (pas_cons pd_non (pas_cons pd_non (pas_cons pd_non pas_nil))))) (alen_cons (alen_cons (alen_cons (alen_cons (alen_cons alen_nil))))))) pas_nil)))
    (pbk_cons (pst_expr (pd_mS md_app PySem.F.plainAttrs_list PySem.F.slot_list_append PySem.F.type_list_append rfl (.inl rfl) (pas_cons (met_of (kk := 11) hh (by rfl) (hr.mono (by decide)) (tb_law hh) tm_law (tu_law hh) (LamX.lamS_by (by decide +kernel)) rfl (fun _ _ _ _ _ => rfl) fun A2 outer2 s2 H2 E2 f2 c2 hr2 => (pd_call (D_toll hh) (hr2.mono (by decide)) takesL (pas_cons pd_int (pas_cons (pd_ixV rfl (.inr (.inr rfl)) pd_int) (pas_cons pd_non (pas_cons pd_non (pas_cons pd_non pas_nil))))) (alen_cons (alen_cons (alen_cons (alen_cons (alen_cons alen_nil))))))) pas_nil)))
    (pbk_cons (pst_expr (pd_mS md_app PySem.F.plainAttrs_list PySem.F.slot_list_append PySem.F.type_list_append rfl (.inl rfl) (pas_cons (met_of (kk := 11) hh (by rfl) (hr.mono (by decide)) (tb_law hh) tm_law (tu_law hh) (LamX.lamS_by (by decide +kernel)) rfl (fun _ _ _ _ _ => rfl) fun A2 outer2 s2 H2 E2 f2 c2 hr2 => (pd_call (D_paid hh) (hr2.mono (by decide)) takesL (pas_cons pd_int (pas_cons pd_int (pas_cons (pd_var rfl (.inr (.inr rfl))) (pas_cons (pd_ixV rfl (.inr (.inr rfl)) pd_int) (pas_cons pd_non pas_nil))))) (alen_cons (alen_cons (alen_cons (alen_cons (alen_cons alen_nil))))))) pas_nil)))
    (pbk_cons (pst_expr (pd_mS md_app PySem.F.plainAttrs_list PySem.F.slot_list_append PySem.F.type_list_append rfl (.inl rfl) (pas_cons (met_of (kk := 10) hh (by rfl) (hr.mono (by decide)) (tb_law hh) tm_law (tu_law hh) (LamX.lamS_by (by decide +kernel)) rfl (fun _ _ _ _ _ => rfl) fun A2 outer2 s2 H2 E2 f2 c2 hr2 => (pd_call (D_gains hh) (hr2.mono (by decide)) takesL (pas_cons pd_int (pas_cons pd_int (pas_cons (pd_var rfl (.inr (.inr rfl))) (pas_cons (pd_var rfl (.inr (.inr rfl))) (pas_cons (pd_ixV rfl (.inr (.inr rfl)) pd_int) (pas_cons pd_non pas_nil)))))) (alen_cons (alen_cons (alen_cons (alen_cons (alen_cons (alen_cons alen_nil)))))))) pas_nil)))
    (pbk_cons (pst_for passesD rfl (pit_seq (pd_var rfl (.inr (.inl rfl)))) (pg_nm nd_law rfl (.inl rfl)) (pbk_one (pst_expr (pd_mB md_app PySem.F.plainAttrs_list PySem.F.slot_list_append PySem.F.type_list_append (pd_var rfl (.inl rfl)) (pas_cons pd_str pas_nil)))))
    (pbk_cons (pst_set nd_law rfl (.inl rfl) (pd_lst (pas_cons (pd_tup (pas_cons pd_str (pas_cons (pd_lst (pas_cons pd_str (pas_cons pd_str pas_nil))) pas_nil))) (pas_cons (pd_tup (pas_cons pd_str (pas_cons (pd_lst (pas_cons pd_str (pas_cons pd_str pas_nil))) pas_nil))) (pas_cons (pd_tup (pas_cons pd_str (pas_cons (pd_lst (pas_cons pd_str (pas_cons pd_str pas_nil))) pas_nil))) (pas_cons (pd_tup (pas_cons pd_str (pas_cons (pd_lst (pas_cons pd_str (pas_cons pd_str pas_nil))) pas_nil))) pas_nil))))))
    (pbk_cons (pst_if (pc_not (pc_val (pd_call (D__law_same hh 8) (hr.mono (by decide)) takesD (pas_cons (pd_var rfl (.inl rfl)) (pas_cons (pd_var rfl (.inl rfl)) pas_nil)) (alen_cons (alen_cons alen_nil))))) (pbk_one (pst_ret pd_bl)) pbk_nil)
    (pbk_cons (pst_set nd_law rfl (.inl rfl) (pd_call (D__law_all hh) (hr.mono (by decide)) takesD (pas_cons pd_int (pas_cons pd_int (pas_cons (pd_lst (pas_cons (pd_tup (pas_cons (pd_tup (pas_cons pd_int (pas_cons pd_int pas_nil))) (pas_cons (pd_tup (pas_cons pd_int (pas_cons pd_int pas_nil))) pas_nil))) pas_nil)) (pas_cons (pd_tup (pas_cons pd_int (pas_cons pd_int pas_nil))) (pas_cons (pd_tup (pas_cons pd_int (pas_cons pd_int pas_nil))) pas_nil))))) (alen_cons (alen_cons (alen_cons (alen_cons (alen_cons alen_nil)))))))
    (pbk_cons (pst_set nd_law rfl (.inl rfl) (pd_lst (pas_cons (pd_tup (pas_cons pd_str (pas_cons (pd_tup (pas_cons (pd_neg pd_int) (pas_cons pd_int pas_nil))) pas_nil))) (pas_cons (pd_tup (pas_cons pd_str (pas_cons (pd_lst (pas_cons (pd_tup (pas_cons (pd_tup (pas_cons (pd_neg pd_int) (pas_cons pd_int pas_nil))) (pas_cons (pd_tup (pas_cons pd_int (pas_cons pd_int pas_nil))) (pas_cons (pd_lst (pas_cons pd_int pas_nil)) pas_nil)))) pas_nil)) pas_nil))) (pas_cons (pd_tup (pas_cons pd_str (pas_cons (pd_lst (pas_cons (pd_tup (pas_cons pd_int (pas_cons pd_int pas_nil))) pas_nil)) pas_nil))) (pas_cons (pd_tup (pas_cons pd_str (pas_cons (pd_tup (pas_cons (pd_neg pd_int) (pas_cons pd_int pas_nil))) pas_nil))) pas_nil))))))
    (pbk_one (pst_if (pc_not (pc_val (pd_call (D__law_same hh 8) (hr.mono (by decide)) takesD (pas_cons (pd_var rfl (.inl rfl)) (pas_cons (pd_bin od_add (pd_var rfl (.inl rfl)) (pd_lst (pas_cons (pd_tup (pas_cons pd_str (pas_cons (pd_tup (pas_cons (pd_neg pd_int) (pas_cons pd_int pas_nil))) pas_nil))) (pas_cons (pd_tup (pas_cons pd_str (pas_cons (pd_tup (pas_cons pd_int (pas_cons pd_int pas_nil))) pas_nil))) (pas_cons (pd_tup (pas_cons pd_str (pas_cons pd_int pas_nil))) pas_nil))))) pas_nil)) (alen_cons (alen_cons alen_nil))))) (pbk_one (pst_ret pd_bl)) pbk_nil)))))))))))))))))))))
    (pbk_one (pst_ret pd_bl))))
end
end K78

set_option Elab.async false
set_option linter.all false
set_option maxRecDepth 100000
set_option maxHeartbeats 0
set_option autoImplicit false
namespace K78
open PySem PySem.Spec PyProof.Rows L2 TD
theorem ats_ints {K : PySem.W.Frag} {H : Hp} {O : Addr → Prop} {b : List Addr} : ∀ ns : List Int, Ats K H O b (ns.map D.int) (ns.map V.int)
  | [] => rfl
  | n :: ns => ⟨_, _, rfl, rfl, ats_ints ns⟩
theorem start0 {K : PySem.W.Frag} {H : Hp} (hT : LamX.Tabs (TT K) H) : Rel K (TT K) ⟨H, fun _ => False, [], []⟩ (fun _ => False) [] [] [] [] H where
  len := rfl
  sl := fun i s e => by cases i <;> cases e
  inj := fun i j p h => by obtain ⟨⟨d, e⟩, _⟩ := h; cases i <;> cases e
  nb := fun i p h => by obtain ⟨⟨d, e⟩, _⟩ := h; cases i <;> cases e
  fr := fun i p h => by obtain ⟨⟨d, e⟩, _⟩ := h; cases i <;> cases e
  bl := rfl
  st := fun n d p e => by cases n <;> cases e
  bnd := List.nodup_nil
  bfr := fun p h => nomatch h
  ext := fun a o h _ _ => h
  grow := fun a h => h
  pre := List.prefix_refl _
  o0 := fun a h => h
  o0t := fun a h => h.elim
  ot := fun a h => h.elim
  ofr := fun a h => h.elim
  b0 := fun a h => nomatch h
  tabs := hT
  tmp := fun q h => nomatch h
theorem sp_law {K : PySem.W.Frag} {H : Hp} {a : Addr} {ns : List Int} (hl : ns.length ≤ 100000) (hT : LamX.Tabs (TT K) H) (hS : SqL K H a (ns.map V.int)) : spT K (TT K) F_law 1 [.ref a] H (fun v _ => v = .bl true) fun _ _ _ => False := by
  obtain ⟨S', e⟩ := law_ok (xs := ns) (d := .scr (ns.map .int)) (.inl rfl) hl
  refine ⟨rfl, fun _ => False, [], [], [.scr (ns.map .int)], start0 hT, ⟨_, _, rfl, ⟨a, ns.map V.int, rfl, ?_, ats_ints ns⟩, rfl⟩, ?_⟩
  · rcases hS with r | r
    · exact .inl ⟨fun z => z, r⟩
    · exact .inr (.inr r)
  · rw [e]
    intro v H' O' b' R' hv
    rcases hv with ⟨_, hv⟩ | ⟨z, _⟩
    · exact hv
    · cases z
theorem law_at {w : World} {K : PySem.W.Frag} {h : Heap} {mg : Str → Option Value} {f : Addr} (X : K.In h) (G : h.Ns mainGlobals mg) (hfa : mg ("law" : Str) = some (.ref f)) (c : He.SaysX fa fn [] tf exK w h K) :
    LamX.LawAtS PySem.Challenge.rw_quickbythen_k78_settings_refused w K (L2.CX (PySem.Challenge.rw_quickbythen_k78_settings_refused).prog w) 15 63 "_law_script" mg f h := by
  have e := hfa.symm.trans (He.glo_ok X G (c.t.d.fact 49 (f := .glo "law") rfl))
  cases e
  obtain ⟨fd, FD⟩ := c.t.d.def_ 49 (d := dd "law" 78) rfl
  have bb := FunD.bindsA (ps := ["_law_script"]) FD fun _ _ _ _ _ _ us hl => match us, hl with | [_], _ => rfl
  refine ⟨fd, tf.map (He.cT K), spT K (TT K) F_law 1, fun p hp => ?_, fun p hp => ?_, fun p hp => ?_, fun s u => bb s [u] rfl, fun H a ns hl _ hT hS => sp_law (by omega) (fun p hp => ?_) hS, fun base hb hn hT => ?_⟩
  · obtain ⟨q, hq, rfl⟩ := List.mem_map.mp hp
    exact c.empty q hq
  · obtain ⟨q, hq, rfl⟩ := List.mem_map.mp hp
    exact c.out q hq
  · obtain ⟨q, hq, rfl⟩ := List.mem_map.mp hp
    exact PySem.W.codeHd_of_K X (c.hd q hq)
  · obtain ⟨q, hq, rfl⟩ := List.mem_map.mp hp
    exact ⟨#[], hT _ (List.mem_map.mpr ⟨q, hq, rfl⟩), trivial, fun pos cv hc => nomatch hc⟩
  · exact OK_law (h := h) ⟨c, X, G, fun p hp => hT _ (List.mem_map.mpr ⟨p, hp, rfl⟩)⟩ FD
end K78
open PySem PySem.W PySem.Calls PyProof.Rows
theorem PySem.Challenge.cw_quickbythen_k78_settings_refused_holds : PySem.Challenge.rw_quickbythen_k78_settings_refused.Holds := by
  w_on; o_law
  refine HandSHeadRun.head_imp (r := OpenLaw.row PySem.Challenge.rw_quickbythen_k78_settings_refused) (q := view (OpenLaw.row PySem.Challenge.rw_quickbythen_k78_settings_refused).prog [0, 78]) (H := K78.hk) (ob := K78.ob) (M := 8000) (loose := K78.names) (d := HandSHeadRun.topDef (OpenLaw.row PySem.Challenge.rw_quickbythen_k78_settings_refused).prog 78) (kwd := []) K78.ob_eq K78.run (by kernel_rfl) (by kernel_rfl) (by kernel_rfl) (by rfl) (by first | assumption | decide +kernel) (by decide +kernel) ⟨rfl, rfl, rfl, rfl, rfl, by decide +kernel⟩ ?hw ?hc
  case hw => w_witness2
  case hc =>
    refine LamX.walk_ofTsE (l := PySem.Challenge.rw_quickbythen_k78_settings_refused) (n := 63) (k := 15) (x := "_law_script") (CX := fun w => L2.CX (PySem.Challenge.rw_quickbythen_k78_settings_refused).prog w) rfl (by decide) (by kernel_rfl) ⟨rfl, by decide, by decide⟩ ?F (fun w H s e s' z => by obtain ⟨_, _, _, _, _, _, _, _, _, _, _, _, _, _, _, _, q⟩ := z)
    · intro w mg fa h Y G hmg0
      obtain ⟨K, KX, c⟩ := Y
      have hmg : mg ("law" : PySem.Str) = some (.ref fa) := by
        have e : (HandSHeadRun.topDef (OpenLaw.row PySem.Challenge.rw_quickbythen_k78_settings_refused).prog 78).name = ("law" : PySem.Str) := by kernel_rfl
        rw [← e]
        exact hmg0
      exact ⟨K, KX, K78.law_at KX G hmg c⟩

