import PyProof.Rows.All
import Wide.All
import OpenK.AllK
import Wide.FinOn
import HandS.ForMost
import HandS.ForExc
import HandS.Wide
import HandS.IsInst
import HandS.EndBits
import HandS.WideBits
import HandS.ExcIs
import HandS.SuiteRaise
import KE.KIntText
import HandS.More
import HandS.Rev
import HandS.RevTup
import HandS.SortKw
import PyProof.SliceList
import HandS.Conv
import HandS.Style
import HandS.Dict
import HandS.Head2
import HandS.HeadHook1
import PySem.Challenge.RW_mixbench_k54_whole_order
set_option Elab.async false
set_option linter.all false
set_option maxRecDepth 100000
set_option maxHeartbeats 4000000
namespace M
open PySem L2 PyProof.Rows
/-! ## the head by one kernel run: a Hook with own facts -/
abbrev FF := PySem.W.Frag → Bool
def obsX (fa : List FF) (fn : List He.FnD) (K : PySem.W.Frag) : He.Al := ((fa.all fun f => f K) && fn.all fun d => (He.Fa.code d.at_ d.qual).ok K, fn.map fun d => He.fnObs K d.at_)
def SaysX (fa : List FF) (fn : List He.FnD) (K : PySem.W.Frag) : Prop := obsX fa fn K = He.valE fn
def rOf (g : Addr → Option Obj) (a : Addr) : List Addr := match g a with
  | some o => (match o.data with
    | .dict es _ => es.toList.flatMap fun e => He.refV e.val
    | _ => [])
  | none => []
def cOf (g : Addr → Option Obj) (a : Addr) : List Addr := match g a with
  | some o => (match o.data with
    | .cls cd => cd.ns :: cd.mro.flatMap He.refV
    | _ => [])
  | none => []
def kOf (g : Addr → Option Obj) (a : Addr) : List Addr := match g a with
  | some o => (match o.data with
    | .func fd => He.refV fd.code
    | _ => [])
  | none => []
/-- what the module's names reach: classes, their spaces, methods, the code of all defs -/
def asY2 (g : Addr → Option Obj) (A1 A2 A3 : List Addr) : List Addr := mainGlobals :: (A1 ++ (A2 ++ (A3 ++ (A1 ++ A3).flatMap (kOf g))))
def asY1 (g : Addr → Option Obj) (A1 A2 : List Addr) : List Addr := asY2 g A1 A2 (A2.flatMap (rOf g))
def asY0 (g : Addr → Option Obj) (A1 : List Addr) : List Addr := asY1 g A1 (A1.flatMap (cOf g))
def asY (g : Addr → Option Obj) : List Addr := asY0 g (rOf g mainGlobals)
def obsXG (n : Nat) (fa : List FF) (fn : List He.FnD) (g : Addr → Option Obj) : He.Al := obsX fa fn (He.frG g (asY g))
def hookX (n : Nat) (fa : List FF) (fn : List He.FnD) : PySem.W.Hook where
  α := He.Al
  obs := fun s => obsXG n fa fn s.heap.get?
  val := fun _ => He.valE fn
  says := fun _ h => ∃ K : PySem.W.Frag, K.In h ∧ SaysX fa fn K
  of := fun _ _ e => ⟨_, He.frG_in, e⟩
  keeps := fun _ _ _ ⟨K, hK, c⟩ k => ⟨K, PySem.W.Frag.In.keeps hK k, c⟩
theorem obsXG_eq {n : Nat} {fa : List FF} {fn : List He.FnD} {g : Addr → Option Obj} {s : Shared} (h : ∀ a, g a = s.heap.get? a) : obsXG n fa fn g = (hookX n fa fn).obs s := by
  have e : g = s.heap.get? := funext h
  rw [e]; rfl
section
variable {fa : List FF} {fn : List He.FnD} {K : PySem.W.Frag}
theorem SaysX.fact (c : SaysX fa fn K) {f : FF} (i : Nat) (h : fa[i]? = some f) : f K = true := by
  have c1 := (He.ba (show ((fa.all fun f => f K) && fn.all fun d => (He.Fa.code d.at_ d.qual).ok K) = true from congrArg (fun z : He.Al => z.1) c)).1
  exact List.all_eq_true.mp c1 f (List.mem_of_getElem? h)
theorem SaysX.def_ (c : SaysX fa fn K) (i : Nat) {d : He.FnD} (h : fn[i]? = some d) :
    ∃ oc od osl kV doc pm an cdv ct, K.lookup (He.fAd K d.at_) = some ⟨oc, od, .func (PySem.W.fnOf d.name d.qual d.params d.body d.scope .none kV doc pm an cdv ct), osl⟩ ∧ PySem.W.codeIn K cdv d.qual = true := by
  have c2 := (He.ba (show ((fa.all fun f => f K) && fn.all fun d => (He.Fa.code d.at_ d.qual).ok K) = true from congrArg (fun z : He.Al => z.1) c)).2
  have e : fn.map (fun d => He.fnObs K d.at_) = fn.map He.FnD.val := congrArg (fun z : He.Al => z.2) c
  have e2 : (fn.map fun d => He.fnObs K d.at_)[i]? = (fn.map He.FnD.val)[i]? := by rw [e]
  rw [List.getElem?_map, List.getElem?_map, h] at e2
  exact He.fn_ok (Option.some.inj e2) (List.all_eq_true.mp c2 d (List.mem_of_getElem? h))
end
/-- the token of a module's text or number -/
def tokAt (K : PySem.W.Frag) (x : Str) : Tok := match PySem.W.nsIn K mainGlobals x with
  | some (some (.str _ t)) => t
  | some (some (.int _ t)) => t
  | _ => default
theorem opt_pair {α β γ : Type} {o : Option α} {f : α → β} {g : α → γ} {u : β} {v : γ} (h1 : o.map f = some u) (h2 : o.map g = some v) : (o.map fun s => (f s, g s)) = some (u, v) := by
  cases o with
  | none => cases h1
  | some s => cases h1; cases h2; rfl
theorem opt_tri {α β γ δ : Type} {o : Option α} {f : α → β} {g : α → γ} {k : α → δ} {u : β} {v : γ} {x : δ} (h1 : o.map (fun s => (f s, g s)) = some (u, v)) (h2 : o.map k = some x) : o.map (fun s => (f s, g s, k s)) = some (u, v, x) := by
  cases o with
  | none => cases h1
  | some s => cases h1; cases h2; rfl
theorem opt_and {α : Type} {o : Option α} {f g : α → Bool} (h1 : o.map f = some true) (h2 : o.map g = some true) : (o.map fun s => f s && g s) = some true := by
  cases o with
  | none => cases h1
  | some s => simp only [Option.map_some, Option.some.injEq] at h1 h2 ⊢; rw [h1, h2]; rfl
def allG (fa : List FF) (s : PySem.W.SharedT) : Bool := fa.all fun f => f (He.frG (HandSHeadRun.getT s) (asY (HandSHeadRun.getT s)))
theorem allG_app {α : Type} {o : Option α} {k : α → PySem.W.SharedT} {a b : List FF} (h1 : (o.map fun s => allG a (k s)) = some true) (h2 : (o.map fun s => allG b (k s)) = some true) : (o.map fun s => allG (a ++ b) (k s)) = some true := by
  have := opt_and h1 h2
  have e : (fun s => allG (a ++ b) (k s)) = fun s => allG a (k s) && allG b (k s) := by
    funext s; unfold allG; rw [List.all_append]
  rw [e]; exact this
def defG (fn : List He.FnD) (s : PySem.W.SharedT) : He.Al := (fn.all fun d => (He.Fa.code d.at_ d.qual).ok (He.frG (HandSHeadRun.getT s) (asY (HandSHeadRun.getT s))), fn.map fun d => He.fnObs (He.frG (HandSHeadRun.getT s) (asY (HandSHeadRun.getT s))) d.at_)
theorem obs_of {o : Option PySem.W.SharedT} {fa : List FF} {fn : List He.FnD} (h1 : (o.map fun s => allG fa s) = some true) (h2 : (o.map fun s => defG fn s) = some (He.valE fn)) : (o.map fun s => obsXG 5 fa fn (HandSHeadRun.getT s)) = some (He.valE fn) := by
  cases o with
  | none => cases h1
  | some s =>
    simp only [Option.map_some, Option.some.injEq] at h1 h2 ⊢
    unfold defG He.valE at h2
    injection h2 with h2 h3
    unfold obsXG obsX He.valE
    unfold allG at h1
    rw [h1, h2, h3]; rfl
end M

namespace Lk54
open PySem L2 M
def top (i : Nat) : Stmt := PySem.Challenge.pw_mixbench_k54_whole_order.main.body.getD i (.Pass ⟨0, 0, 0, 0⟩)
abbrev s_parts_told : Stmt := (top 37)
abbrev s_Chain___init__ : Stmt := (inClass (top 38) 0)
abbrev s_Chain_words : Stmt := (inClass (top 38) 5)
abbrev s_is_name : Stmt := (top 44)
abbrev s_way_between : Stmt := (top 45)
abbrev s_Patch___init__ : Stmt := (inClass (top 46) 0)
abbrev s_Patch_asked_new : Stmt := (inClass (top 46) 1)
abbrev s_Patch_track : Stmt := (inClass (top 46) 2)
abbrev s_Patch_bus : Stmt := (inClass (top 46) 3)
abbrev s_Patch_send : Stmt := (inClass (top 46) 4)
abbrev s_Patch_is_ready : Stmt := (inClass (top 46) 10)
abbrev s_Patch_order : Stmt := (inClass (top 46) 11)
abbrev s__law_cell_at : Stmt := (top 48)
abbrev s__law_names : Stmt := (top 49)
abbrev s__law_leads : Stmt := (top 50)
abbrev s__law_is_order : Stmt := (top 51)
abbrev s_law : Stmt := (top 52)
def F_0 : FF := fun K => decide (PySem.W.nsIn K mainGlobals "Chain" = some (some (.ref (He.ga K "Chain"))))
def F_1 : FF := fun K => decide (PySem.W.nsIn K mainGlobals "Patch" = some (some (.ref (He.ga K "Patch"))))
def F_2 : FF := fun K => decide (PySem.W.nsIn K mainGlobals "parts_told" = some (some (.ref (He.fAd K (("parts_told" : Str), none)))))
def F_3 : FF := fun K => decide (PySem.W.keepIn K (.ref (He.fAd K (("parts_told" : Str), none))) = true)
def F_4 : FF := fun K => decide (PySem.W.findIn K (.ref (He.ga K "Chain")) "__init__" = some (some (.ref (He.fAd K (("Chain" : Str), some ("__init__" : Str))))))
def F_5 : FF := fun K => decide (PySem.W.isFn K (.ref (He.fAd K (("Chain" : Str), some ("__init__" : Str)))) = true)
def F_6 : FF := fun K => decide (PySem.W.keepIn K (.ref (He.fAd K (("Chain" : Str), some ("__init__" : Str)))) = true)
def F_7 : FF := fun K => decide (PySem.W.findIn K (.ref (He.ga K "Chain")) "words" = some (some (.ref (He.fAd K (("Chain" : Str), some ("words" : Str))))))
def F_8 : FF := fun K => decide (PySem.W.isFn K (.ref (He.fAd K (("Chain" : Str), some ("words" : Str)))) = true)
def F_9 : FF := fun K => decide (PySem.W.keepIn K (.ref (He.fAd K (("Chain" : Str), some ("words" : Str)))) = true)
def F_10 : FF := fun K => decide (PySem.W.nsIn K mainGlobals "is_name" = some (some (.ref (He.fAd K (("is_name" : Str), none)))))
def F_11 : FF := fun K => decide (PySem.W.keepIn K (.ref (He.fAd K (("is_name" : Str), none))) = true)
def F_12 : FF := fun K => decide (PySem.W.nsIn K mainGlobals "way_between" = some (some (.ref (He.fAd K (("way_between" : Str), none)))))
def F_13 : FF := fun K => decide (PySem.W.keepIn K (.ref (He.fAd K (("way_between" : Str), none))) = true)
def F_14 : FF := fun K => decide (PySem.W.findIn K (.ref (He.ga K "Patch")) "__init__" = some (some (.ref (He.fAd K (("Patch" : Str), some ("__init__" : Str))))))
def F_15 : FF := fun K => decide (PySem.W.isFn K (.ref (He.fAd K (("Patch" : Str), some ("__init__" : Str)))) = true)
def F_16 : FF := fun K => decide (PySem.W.keepIn K (.ref (He.fAd K (("Patch" : Str), some ("__init__" : Str)))) = true)
def F_17 : FF := fun K => decide (PySem.W.findIn K (.ref (He.ga K "Patch")) "asked_new" = some (some (.ref (He.fAd K (("Patch" : Str), some ("asked_new" : Str))))))
def F_18 : FF := fun K => decide (PySem.W.isFn K (.ref (He.fAd K (("Patch" : Str), some ("asked_new" : Str)))) = true)
def F_19 : FF := fun K => decide (PySem.W.keepIn K (.ref (He.fAd K (("Patch" : Str), some ("asked_new" : Str)))) = true)
def F_20 : FF := fun K => decide (PySem.W.findIn K (.ref (He.ga K "Patch")) "track" = some (some (.ref (He.fAd K (("Patch" : Str), some ("track" : Str))))))
def F_21 : FF := fun K => decide (PySem.W.isFn K (.ref (He.fAd K (("Patch" : Str), some ("track" : Str)))) = true)
def F_22 : FF := fun K => decide (PySem.W.keepIn K (.ref (He.fAd K (("Patch" : Str), some ("track" : Str)))) = true)
def F_23 : FF := fun K => decide (PySem.W.findIn K (.ref (He.ga K "Patch")) "bus" = some (some (.ref (He.fAd K (("Patch" : Str), some ("bus" : Str))))))
def F_24 : FF := fun K => decide (PySem.W.isFn K (.ref (He.fAd K (("Patch" : Str), some ("bus" : Str)))) = true)
def F_25 : FF := fun K => decide (PySem.W.keepIn K (.ref (He.fAd K (("Patch" : Str), some ("bus" : Str)))) = true)
def F_26 : FF := fun K => decide (PySem.W.findIn K (.ref (He.ga K "Patch")) "send" = some (some (.ref (He.fAd K (("Patch" : Str), some ("send" : Str))))))
def F_27 : FF := fun K => decide (PySem.W.isFn K (.ref (He.fAd K (("Patch" : Str), some ("send" : Str)))) = true)
def F_28 : FF := fun K => decide (PySem.W.keepIn K (.ref (He.fAd K (("Patch" : Str), some ("send" : Str)))) = true)
def F_29 : FF := fun K => decide (PySem.W.findIn K (.ref (He.ga K "Patch")) "is_ready" = some (some (.ref (He.fAd K (("Patch" : Str), some ("is_ready" : Str))))))
def F_30 : FF := fun K => decide (PySem.W.isFn K (.ref (He.fAd K (("Patch" : Str), some ("is_ready" : Str)))) = true)
def F_31 : FF := fun K => decide (PySem.W.keepIn K (.ref (He.fAd K (("Patch" : Str), some ("is_ready" : Str)))) = true)
def F_32 : FF := fun K => decide (PySem.W.findIn K (.ref (He.ga K "Patch")) "order" = some (some (.ref (He.fAd K (("Patch" : Str), some ("order" : Str))))))
def F_33 : FF := fun K => decide (PySem.W.isFn K (.ref (He.fAd K (("Patch" : Str), some ("order" : Str)))) = true)
def F_34 : FF := fun K => decide (PySem.W.keepIn K (.ref (He.fAd K (("Patch" : Str), some ("order" : Str)))) = true)
def F_35 : FF := fun K => decide (PySem.W.nsIn K mainGlobals "_law_cell_at" = some (some (.ref (He.fAd K (("_law_cell_at" : Str), none)))))
def F_36 : FF := fun K => decide (PySem.W.keepIn K (.ref (He.fAd K (("_law_cell_at" : Str), none))) = true)
def F_37 : FF := fun K => decide (PySem.W.nsIn K mainGlobals "_law_names" = some (some (.ref (He.fAd K (("_law_names" : Str), none)))))
def F_38 : FF := fun K => decide (PySem.W.keepIn K (.ref (He.fAd K (("_law_names" : Str), none))) = true)
def F_39 : FF := fun K => decide (PySem.W.nsIn K mainGlobals "_law_leads" = some (some (.ref (He.fAd K (("_law_leads" : Str), none)))))
def F_40 : FF := fun K => decide (PySem.W.keepIn K (.ref (He.fAd K (("_law_leads" : Str), none))) = true)
def F_41 : FF := fun K => decide (PySem.W.nsIn K mainGlobals "_law_is_order" = some (some (.ref (He.fAd K (("_law_is_order" : Str), none)))))
def F_42 : FF := fun K => decide (PySem.W.keepIn K (.ref (He.fAd K (("_law_is_order" : Str), none))) = true)
def F_43 : FF := fun K => decide (PySem.W.nsIn K mainGlobals "law" = some (some (.ref (He.fAd K (("law" : Str), none)))))
def F_44 : FF := fun K => decide (PySem.W.keepIn K (.ref (He.fAd K (("law" : Str), none))) = true)
def F_45 : FF := fun K => decide (PySem.W.plainGet K (He.ga K "Chain") Str.empty = true)
def F_46 : FF := fun K => decide (PySem.W.hasDictIn K (He.ga K "Chain") = true)
def F_47 : FF := fun K => decide (PySem.W.plainOver K (He.ga K "Chain") = true)
def F_48 : FF := fun K => decide (PySem.W.findIn K (.ref (He.ga K "Chain")) "__setattr__" = some (some (.builtin "object.__setattr__")))
def F_49 : FF := fun K => decide (PySem.W.plainGet K (He.ga K "Patch") Str.empty = true)
def F_50 : FF := fun K => decide (PySem.W.hasDictIn K (He.ga K "Patch") = true)
def F_51 : FF := fun K => decide (PySem.W.plainOver K (He.ga K "Patch") = true)
def F_52 : FF := fun K => decide (PySem.W.findIn K (.ref (He.ga K "Patch")) "__setattr__" = some (some (.builtin "object.__setattr__")))
def F_53 : FF := fun K => decide (PySem.W.makesIn K (He.ga K "Chain") = true)
def F_54 : FF := fun K => decide (PySem.W.keepIn K (.ref (He.ga K "Chain")) = true)
def F_55 : FF := fun K => decide (PySem.W.makesIn K (He.ga K "Patch") = true)
def F_56 : FF := fun K => decide (PySem.W.keepIn K (.ref (He.ga K "Patch")) = true)
def F_57 : FF := fun K => decide (PySem.W.findIn K (.ref (He.ga K "Patch")) "kept_tracks" = some none)
def F_58 : FF := fun K => decide (PySem.W.findIn K (.ref (He.ga K "Patch")) "kept_buses" = some none)
def F_59 : FF := fun K => decide (PySem.W.findIn K (.ref (He.ga K "Patch")) "kept_sends" = some none)
def F_60 : FF := fun K => decide (PySem.W.findIn K (.ref (He.ga K "Patch")) "kept_outs" = some none)
def F_61 : FF := fun K => decide (PySem.W.findIn K (.ref (He.ga K "Chain")) "parts" = some none)
def F_62 : FF := fun K => decide (PySem.W.findIn K (.ref (He.ga K "Chain")) "states" = some none)
def F_63 : FF := fun K => decide (PySem.W.nsIn K mainGlobals "range" = some none)
def F_64 : FF := fun K => decide (PySem.W.nsIn K mainGlobals "len" = some none)
def F_65 : FF := fun K => decide (PySem.W.nsIn K mainGlobals "int" = some none)
def F_66 : FF := fun K => decide (PySem.W.nsIn K mainGlobals "isinstance" = some none)
def F_67 : FF := fun K => decide (PySem.W.nsIn K mainGlobals "list" = some none)
def F_68 : FF := fun K => decide (PySem.W.nsIn K mainGlobals "str" = some none)
def F_69 : FF := fun K => decide (PySem.W.nsIn K mainGlobals "LETTERS" = some (some (.str "abcdefghijklmnopqrstuvwxyz" (M.tokAt K "LETTERS"))))
def faL_0 : List FF := [F_0, F_1, F_2, F_3, F_4, F_5, F_6, F_7, F_8, F_9, F_10, F_11, F_12, F_13, F_14, F_15, F_16, F_17, F_18, F_19, F_20, F_21, F_22, F_23, F_24, F_25, F_26, F_27, F_28, F_29] ++ [F_30, F_31, F_32, F_33, F_34, F_35, F_36, F_37, F_38, F_39, F_40, F_41, F_42, F_43, F_44, F_45, F_46, F_47, F_48, F_49, F_50, F_51, F_52, F_53, F_54, F_55, F_56, F_57, F_58, F_59] ++ [F_60, F_61, F_62, F_63, F_64, F_65, F_66, F_67, F_68, F_69]
def faL : List FF := faL_0
def D_0 : He.FnD := ⟨("parts_told", none), "parts_told", "parts_told", defArgs s_parts_told, defBody s_parts_told, defScope s_parts_told⟩
def D_1 : He.FnD := ⟨("Chain", some "__init__"), "__init__", "Chain.__init__", defArgs s_Chain___init__, defBody s_Chain___init__, defScope s_Chain___init__⟩
def D_2 : He.FnD := ⟨("Chain", some "words"), "words", "Chain.words", defArgs s_Chain_words, defBody s_Chain_words, defScope s_Chain_words⟩
def D_3 : He.FnD := ⟨("is_name", none), "is_name", "is_name", defArgs s_is_name, defBody s_is_name, defScope s_is_name⟩
def D_4 : He.FnD := ⟨("way_between", none), "way_between", "way_between", defArgs s_way_between, defBody s_way_between, defScope s_way_between⟩
def D_5 : He.FnD := ⟨("Patch", some "__init__"), "__init__", "Patch.__init__", defArgs s_Patch___init__, defBody s_Patch___init__, defScope s_Patch___init__⟩
def D_6 : He.FnD := ⟨("Patch", some "asked_new"), "asked_new", "Patch.asked_new", defArgs s_Patch_asked_new, defBody s_Patch_asked_new, defScope s_Patch_asked_new⟩
def D_7 : He.FnD := ⟨("Patch", some "track"), "track", "Patch.track", defArgs s_Patch_track, defBody s_Patch_track, defScope s_Patch_track⟩
def D_8 : He.FnD := ⟨("Patch", some "bus"), "bus", "Patch.bus", defArgs s_Patch_bus, defBody s_Patch_bus, defScope s_Patch_bus⟩
def D_9 : He.FnD := ⟨("Patch", some "send"), "send", "Patch.send", defArgs s_Patch_send, defBody s_Patch_send, defScope s_Patch_send⟩
def D_10 : He.FnD := ⟨("Patch", some "is_ready"), "is_ready", "Patch.is_ready", defArgs s_Patch_is_ready, defBody s_Patch_is_ready, defScope s_Patch_is_ready⟩
def D_11 : He.FnD := ⟨("Patch", some "order"), "order", "Patch.order", defArgs s_Patch_order, defBody s_Patch_order, defScope s_Patch_order⟩
def D_12 : He.FnD := ⟨("_law_cell_at", none), "_law_cell_at", "_law_cell_at", defArgs s__law_cell_at, defBody s__law_cell_at, defScope s__law_cell_at⟩
def D_13 : He.FnD := ⟨("_law_names", none), "_law_names", "_law_names", defArgs s__law_names, defBody s__law_names, defScope s__law_names⟩
def D_14 : He.FnD := ⟨("_law_leads", none), "_law_leads", "_law_leads", defArgs s__law_leads, defBody s__law_leads, defScope s__law_leads⟩
def D_15 : He.FnD := ⟨("_law_is_order", none), "_law_is_order", "_law_is_order", defArgs s__law_is_order, defBody s__law_is_order, defScope s__law_is_order⟩
def D_16 : He.FnD := ⟨("law", none), "law", "law", defArgs s_law, defBody s_law, defScope s_law⟩
def fnL : List He.FnD := [D_0, D_1, D_2, D_3, D_4, D_5, D_6, D_7, D_8, D_9, D_10, D_11, D_12, D_13, D_14, D_15, D_16]
def loose : List PySem.Str := (["_wall", "__name__", "MixError", "NoNumber", "NoText", "NoPart", "NoName", "Twice", "NoBus", "Ring", "FIGURES", "is_whole", "divisor", "multiple", "lowest", "fraction_text", "read_whole", "read_fraction", "Part", "Gain", "Delay", "powers_of", "Echo", "Back", "Hall", "Swell", "part_gain", "part_number", "hall_of", "swell_of"] : List PySem.Str) ++ (["part_of", "parts_told", "Chain", "GREATEST", "Settler", "LETTERS", "is_name", "way_between", "Patch", "_law_cell_at", "_law_names", "_law_leads", "_law_is_order"] : List PySem.Str)
abbrev hkX : PySem.W.Hook := hookX 5 faL fnL
def obX (s : PySem.W.SharedT) : He.Al := obsXG 5 faL fnL (HandSHeadRun.getT s)
theorem obX_eq (s : PySem.W.SharedT) : obX s = hkX.obs s.abs := obsXG_eq (HandSHeadRun.getT_eq s)
abbrev rowX : PySem.W.OpenRow := PySem.W.OpenLaw.row PySem.Challenge.rw_mixbench_k54_whole_order
noncomputable abbrev endX (w : World) (os : OsState) : Option PySem.W.SharedT := HandSHeadRun.endF (HandSHeadRun.stepQ (HandSHeadRun.denQ HandSHeadRun.tabQ) rowX.prog w) 40000 rowX.prog w os
theorem runL (w : World) (os : OsState) : ((endX w os).map fun s => (HandSHeadRun.looksF rowX.prog (PySem.W.boot_heap w.params) s.abs, HandSHeadRun.seenQ (PySem.W.view rowX.prog [52]) loose (PySem.importedModules rowX.prog.main.body) (fun s => PySem.W.xlAt (PySem.W.view rowX.prog [52]) [] s && PySem.W.recOk rowX.toRowW.records s) s.abs)) = some (true, PySem.W.openGood (PySem.W.view rowX.prog [52]) loose) := by
  kernel_rfl
theorem runF_0 (w : World) (os : OsState) : ((endX w os).map fun s => allG faL_0 s) = some true := by
  kernel_rfl
theorem runD (w : World) (os : OsState) : ((endX w os).map fun s => defG fnL s) = some (He.valE fnL) := by
  kernel_rfl
theorem runF (w : World) (os : OsState) : ((endX w os).map fun s => allG faL s) = some true := runF_0 w os
theorem runX (w : World) : HandSHeadRun.RunEq rowX (PySem.W.view rowX.prog [52]) hkX obX 40000 loose w := fun os => opt_tri (runL w os) (obs_of (runF w os) (runD w os))
end Lk54
namespace M
open PySem L2
open Classical

/-! ## values, states, results -/
/-- the written part, and where the classes stand -/
structure KA where
  F : PySem.W.Frag
  ct : String → Addr

inductive MV where
  | non | bl (b : Bool) | int (i : Int) | str (s : Str) | tup (xs : List MV) | lst (xs : List MV) | scr (xs : List MV)
  | obj (c : String) (ks : List Str) (vs : List MV) | ref (n : Nat) | err (c : String) | dic
inductive MO where
  | lst (xs : List MV) | ins (c : String) (ks : List Str) (vs : List MV) | dic (kvs : List (Str × MV))
abbrev MHeap := List MO
inductive SV where
  | un | sh (x : MV) | ow (xs : List MV)
structure MS where
  env : List SV
  G : MHeap
inductive R (α : Type) where
  | ok (a : α) (s : MS) | exc (c : String) (s : MS) | stuck
def R.bind {α β : Type} (r : R α) (f : α → MS → R β) : R β := match r with
  | .ok a s => f a s
  | .exc c s => .exc c s
  | .stuck => .stuck
@[simp] theorem R.bind_ok {α β : Type} (a : α) (s : MS) (f : α → MS → R β) : (R.ok a s).bind f = f a s := rfl
@[simp] theorem R.bind_exc {α β : Type} (c : String) (s : MS) (f : α → MS → R β) : (R.exc c s : R α).bind f = .exc c s := rfl
@[simp] theorem R.bind_stuck {α β : Type} (f : α → MS → R β) : (R.stuck : R α).bind f = .stuck := rfl
abbrev EM := MS → R MV
abbrev TM := MS → R Bool
abbrev AM := MS → R (List MV)
inductive Fl where
  | nx | rt (x : MV) | bk | ct
abbrev SM := MS → R Fl

/-- a caught exception of the own class at C -/
def ErrO (C : Addr) (a : Addr) : HO := .ext fun h => ∃ (oe : Obj) (vs : Array Value), h.get? a = some oe ∧ Zc (.ref C) none oe ∧ oe.data = .fields vs
/-! ## what a value stands for -/
mutual
inductive Rep (ρ : List Addr) (K : KA) (H : Hp) : MV → V → Prop
  | non : Rep ρ K H .non .non
  | bl (b : Bool) : Rep ρ K H (.bl b) (.bl b)
  | int (i : Int) : Rep ρ K H (.int i) (.int i)
  | str (s : Str) : Rep ρ K H (.str s) (.str s)
  | tup {a : Addr} {ms : List MV} {vs : List V} : SqT K.F H a vs → Reps ρ K H ms vs → Rep ρ K H (.tup ms) (.ref a)
  | lst {a : Addr} {ms : List MV} {vs : List V} : H a = some (.lst vs) → Reps ρ K H ms vs → Rep ρ K H (.lst ms) (.ref a)
  | scr {a : Addr} {ms : List MV} {vs : List V} : SqL K.F H a vs → Reps ρ K H ms vs → Rep ρ K H (.scr ms) (.ref a)
  | obj {a dx : Addr} {c : String} {ks : List Str} {ms : List MV} {fs : List (Str × V)} : H a = some (.ins (K.ct c) dx fs) → fs.map (·.1) = ks → Reps ρ K H ms (fs.map (·.2)) → Rep ρ K H (.obj c ks ms) (.ref a)
  | ref {n : Nat} {a : Addr} : ρ[n]? = some a → Rep ρ K H (.ref n) (.ref a)
  | err {c : String} {a : Addr} : H a = some (ErrO (K.ct c) a) → Rep ρ K H (.err c) (.ref a)
  | dic {a : Addr} : H a = some (.dK []) → Rep ρ K H .dic (.ref a)
inductive Reps (ρ : List Addr) (K : KA) (H : Hp) : List MV → List V → Prop
  | nil : Reps ρ K H [] []
  | cons {m : MV} {v : V} {ms : List MV} {vs : List V} : Rep ρ K H m v → Reps ρ K H ms vs → Reps ρ K H (m :: ms) (v :: vs)
end
def Ex (H H' : Hp) : Prop := ∀ b o, H b = some o → H' b = some o
theorem Ex.refl (H : Hp) : Ex H H := fun _ _ h => h
theorem Ex.trans {H H1 H2 : Hp} (a : Ex H H1) (b : Ex H1 H2) : Ex H H2 := fun x o h => b x o (a x o h)
theorem Ex.new {H : Hp} {p : Addr} {o : HO} (h : H p = none) : Ex H (upd H p o) := fun a u e => by rw [upd_ne (ne_of_none e h)]; exact e
def Pre (ρ ρ' : List Addr) : Prop := ∀ (n : Nat) (a : Addr), ρ[n]? = some a → ρ'[n]? = some a
theorem Pre.refl (ρ : List Addr) : Pre ρ ρ := fun _ _ h => h
theorem Pre.trans {a b c : List Addr} (x : Pre a b) (y : Pre b c) : Pre a c := fun n z h => y n z (x n z h)
theorem Pre.app (ρ l : List Addr) : Pre ρ (ρ ++ l) := fun n a h => by
  rw [List.getElem?_append_left (List.getElem?_eq_some_iff.mp h).1]; exact h
section
variable {ρ ρ' : List Addr} {K : KA} {H H' : Hp}
theorem rd_ex {a : Addr} {u : HO} (e : Ex H H') (h : Rd H a u) : Rd H' a u := by
  rcases h with h | ⟨o, h⟩
  · exact Or.inl (e a _ h)
  · exact Or.inr ⟨o, e a _ h⟩
theorem sql_ex {a : Addr} {xs : List V} (e : Ex H H') (h : SqL K.F H a xs) : SqL K.F H' a xs := by
  rcases h with h | h
  · exact Or.inl (rd_ex e h)
  · exact Or.inr h
theorem sqt_ex {a : Addr} {xs : List V} (e : Ex H H') (h : SqT K.F H a xs) : SqT K.F H' a xs := by
  rcases h with h | h
  · exact Or.inl (rd_ex e h)
  · exact Or.inr h
mutual
theorem Rep.mono (p : Pre ρ ρ') (e : Ex H H') : ∀ {m : MV} {v : V}, Rep ρ K H m v → Rep ρ' K H' m v
  | _, _, .non => .non
  | _, _, .bl b => .bl b
  | _, _, .int i => .int i
  | _, _, .str s => .str s
  | _, _, .tup h r => .tup (sqt_ex e h) (Reps.mono p e r)
  | _, _, .lst h r => .lst (e _ _ h) (Reps.mono p e r)
  | _, _, .scr h r => .scr (sql_ex e h) (Reps.mono p e r)
  | _, _, .obj h k r => .obj (e _ _ h) k (Reps.mono p e r)
  | _, _, .ref h => .ref (p _ _ h)
  | _, _, .err h => .err (e _ _ h)
  | _, _, .dic h => .dic (e _ _ h)
theorem Reps.mono (p : Pre ρ ρ') (e : Ex H H') : ∀ {ms : List MV} {vs : List V}, Reps ρ K H ms vs → Reps ρ' K H' ms vs
  | _, _, .nil => .nil
  | _, _, .cons h r => .cons (Rep.mono p e h) (Reps.mono p e r)
end
theorem Reps.length : ∀ {ms : List MV} {vs : List V}, Reps ρ K H ms vs → ms.length = vs.length
  | _, _, .nil => rfl
  | _, _, .cons _ r => by simp [Reps.length r]
theorem Reps.get : ∀ {ms : List MV} {vs : List V} {i : Nat} {m : MV}, Reps ρ K H ms vs → ms[i]? = some m → ∃ v, vs[i]? = some v ∧ Rep ρ K H m v
  | _, _, _, _, .nil, e => by simp at e
  | _, _, 0, _, .cons r _, e => by simp at e; subst e; exact ⟨_, rfl, r⟩
  | _, _, i + 1, m, .cons _ t, e => by
    obtain ⟨u, h1, h2⟩ := Reps.get (i := i) (m := m) t (by simpa using e)
    exact ⟨u, by simpa using h1, h2⟩
theorem Reps.append : ∀ {ms ns : List MV} {vs us : List V}, Reps ρ K H ms vs → Reps ρ K H ns us → Reps ρ K H (ms ++ ns) (vs ++ us)
  | _, _, _, _, .nil, s => s
  | _, _, _, _, .cons r t, s => .cons r (Reps.append t s)
theorem Reps.take : ∀ {ms : List MV} {vs : List V} (n : Nat), Reps ρ K H ms vs → Reps ρ K H (ms.take n) (vs.take n)
  | _, _, 0, _ => .nil
  | _, _, _ + 1, .nil => .nil
  | _, _, n + 1, .cons r t => .cons r (Reps.take n t)
theorem Reps.drop : ∀ {ms : List MV} {vs : List V} (n : Nat), Reps ρ K H ms vs → Reps ρ K H (ms.drop n) (vs.drop n)
  | _, _, 0, r => r
  | _, _, _ + 1, .nil => .nil
  | _, _, n + 1, .cons _ t => Reps.drop n t
theorem Reps.set {x : MV} {u : V} (r : Rep ρ K H x u) : ∀ {ms : List MV} {vs : List V} (i : Nat), Reps ρ K H ms vs → Reps ρ K H (ms.set i x) (vs.set i u)
  | _, _, _, .nil => .nil
  | _, _, 0, .cons _ t => .cons r t
  | _, _, i + 1, .cons q t => .cons q (Reps.set r i t)
theorem Reps.ints : ∀ (ns : List Int), Reps ρ K H (ns.map MV.int) (ns.map V.int)
  | [] => .nil
  | n :: ns => .cons (.int n) (Reps.ints ns)
theorem Reps.inv_ints : ∀ {ns : List Int} {vs : List V}, Reps ρ K H (ns.map MV.int) vs → vs = ns.map V.int
  | [], _, .nil => rfl
  | n :: ns, _, .cons (.int _) r => by rw [Reps.inv_ints r]; rfl
end

/-! ## the state relation -/
/-- hidden from the frozen view: X (others' own), the live objects, the frame's own lists -/
def Hid (X : Addr → Prop) (ρ : List Addr) (O : Nat → Option Addr) (b : Addr) : Prop := X b ∨ b ∈ ρ ∨ ∃ i, O i = some b
noncomputable def view (X : Addr → Prop) (ρ : List Addr) (O : Nat → Option Addr) (H : Hp) : Hp := fun b => if Hid X ρ O b then none else H b
theorem view_some {X : Addr → Prop} {ρ : List Addr} {O : Nat → Option Addr} {H : Hp} {b : Addr} {o : HO} : view X ρ O H b = some o ↔ ¬ Hid X ρ O b ∧ H b = some o := by
  unfold view
  by_cases h : Hid X ρ O b
  · simp [h]
  · simp [h]
theorem view_le (X : Addr → Prop) (ρ : List Addr) (O : Nat → Option Addr) (H : Hp) : Ex (view X ρ O H) H := fun b o h => (view_some.mp h).2
def SlR (ρ : List Addr) (K : KA) (Vw H : Hp) (z : Option (Option V)) (o : Option Addr) : SV → Prop
  | .un => o = none
  | .sh m => o = none ∧ ∃ v, z = some (some v) ∧ Rep ρ K Vw m v
  | .ow ms => ∃ a vs, o = some a ∧ z = some (some (.ref a)) ∧ H a = some (.lst vs) ∧ Reps ρ K Vw ms vs
def ObjR (ρ : List Addr) (K : KA) (Vw H : Hp) (a : Addr) : MO → Prop
  | .lst ms => ∃ vs, H a = some (.lst vs) ∧ Reps ρ K Vw ms vs
  | .ins c ks ms => ∃ dx fs, H a = some (.ins (K.ct c) dx fs) ∧ fs.map (·.1) = ks ∧ Reps ρ K Vw ms (fs.map (·.2))
  | .dic kvs => ∃ fs : List (Key × V), H a = some (.dK fs) ∧ fs.map (·.1) = kvs.map (fun p => Sum.inr p.1) ∧ Reps ρ K Vw (kvs.map (·.2)) (fs.map (·.2))
structure SR (K : KA) (X : Addr → Prop) (ρ : List Addr) (O : Nat → Option Addr) (s : MS) (σ : St) (H : Hp) : Prop where
  xo : ∀ b, X b → ∃ o, H b = some o
  len : s.env.length = σ.length
  gl : ρ.length = s.G.length
  nd : ρ.Nodup
  xρ : ∀ b ∈ ρ, ¬ X b
  oX : ∀ i b, O i = some b → ¬ X b ∧ b ∉ ρ
  oi : ∀ i j b, O i = some b → O j = some b → i = j
  ol : ∀ (i : Nat), s.env.length ≤ i → O i = none
  sl : ∀ (i : Nat) x, s.env[i]? = some x → SlR ρ K (view X ρ O H) H (σ[i]?) (O i) x
  ob : ∀ (n : Nat) o, s.G[n]? = some o → ∃ a, ρ[n]? = some a ∧ ObjR ρ K (view X ρ O H) H a o
structure Fut (X : Addr → Prop) (ρ : List Addr) (O : Nat → Option Addr) (H : Hp) (ρ' : List Addr) (O' : Nat → Option Addr) (H' : Hp) : Prop where
  pre : Pre ρ ρ'
  ex : Ex (view X ρ O H) (view X ρ' O' H')
  xs : ∀ b o, X b → H b = some o → H' b = some o
section
variable {K : KA} {X : Addr → Prop} {ρ ρ' ρ'' : List Addr} {O O' O'' : Nat → Option Addr} {s s' : MS} {σ σ' : St} {H H' H'' : Hp}
theorem Fut.refl : Fut X ρ O H ρ O H := ⟨Pre.refl _, Ex.refl _, fun _ _ _ h => h⟩
theorem Fut.trans (a : Fut X ρ O H ρ' O' H') (b : Fut X ρ' O' H' ρ'' O'' H'') : Fut X ρ O H ρ'' O'' H'' :=
  ⟨a.pre.trans b.pre, a.ex.trans b.ex, fun x o h e => b.xs x o h (a.xs x o h e)⟩
theorem Fut.rep (F : Fut X ρ O H ρ' O' H') {m : MV} {v : V} (r : Rep ρ K (view X ρ O H) m v) : Rep ρ' K (view X ρ' O' H') m v := r.mono F.pre F.ex
theorem Fut.reps (F : Fut X ρ O H ρ' O' H') {m : List MV} {v : List V} (r : Reps ρ K (view X ρ O H) m v) : Reps ρ' K (view X ρ' O' H') m v := r.mono F.pre F.ex
theorem view_ex (e : Ex H H') : Ex (view X ρ O H) (view X ρ O H') := fun b o h => by
  obtain ⟨h1, h2⟩ := view_some.mp h
  exact view_some.mpr ⟨h1, e b o h2⟩
theorem SR.occ (S : SR K X ρ O s σ H) {b : Addr} (h : Hid X ρ O b) : ∃ o, H b = some o := by
  rcases h with h | h | ⟨i, h⟩
  · exact S.xo b h
  · obtain ⟨n, hn, e⟩ := List.getElem_of_mem h
    have hn' : n < s.G.length := by rw [← S.gl]; exact hn
    obtain ⟨a, h1, h2⟩ := S.ob n s.G[n] (List.getElem?_eq_getElem hn')
    have ea : a = b := by
      rw [List.getElem?_eq_getElem hn] at h1
      exact (Option.some.inj h1).symm.trans e
    subst ea
    cases hh : s.G[n] with
    | lst ms => rw [hh] at h2; obtain ⟨vs, e1, _⟩ := h2; exact ⟨_, e1⟩
    | ins c ks ms => rw [hh] at h2; obtain ⟨dx, fs, e1, _⟩ := h2; exact ⟨_, e1⟩
    | dic ms => rw [hh] at h2; obtain ⟨fs, e1, _⟩ := h2; exact ⟨_, e1⟩
  · have hi : i < s.env.length := by
      by_cases q : i < s.env.length
      · exact q
      · have := S.ol i (by omega); rw [this] at h; cases h
    have z := S.sl i _ (List.getElem?_eq_getElem hi)
    cases hh : s.env[i] with
    | un => rw [hh] at z; rw [z] at h; cases h
    | sh m => rw [hh] at z; rw [z.1] at h; cases h
    | ow ms =>
      rw [hh] at z
      obtain ⟨a, vs, e1, _, e3, _⟩ := z
      rw [e1] at h; cases h
      exact ⟨_, e3⟩
theorem SR.nhid (S : SR K X ρ O s σ H) {p : Addr} (h : H p = none) : ¬ Hid X ρ O p := fun q => by
  obtain ⟨o, e⟩ := S.occ q
  rw [h] at e; cases e
theorem SR.free (S : SR K X ρ O s σ H) {p : Addr} (h : H p = none) : view X ρ O H p = none := by
  unfold view; rw [h]; split <;> rfl
theorem SR.view_new (S : SR K X ρ O s σ H) {p : Addr} {o : HO} (h : H p = none) : view X ρ O (upd H p o) p = some o := view_some.mpr ⟨S.nhid h, upd_same⟩
/-- nothing but new objects -/
theorem SR.grow (S : SR K X ρ O s σ H) (e : Ex H H') : SR K X ρ O s σ H' where
  xo := fun b h => by obtain ⟨o, q⟩ := S.xo b h; exact ⟨o, e b o q⟩
  len := S.len
  gl := S.gl
  nd := S.nd
  xρ := S.xρ
  oX := S.oX
  oi := S.oi
  ol := S.ol
  sl := fun i x h => by
    have z := S.sl i x h
    cases x with
    | un => exact z
    | sh m => obtain ⟨h1, v, h2, h3⟩ := z; exact ⟨h1, v, h2, h3.mono (Pre.refl _) (view_ex e)⟩
    | ow ms => obtain ⟨a, vs, h1, h2, h3, h4⟩ := z; exact ⟨a, vs, h1, h2, e _ _ h3, h4.mono (Pre.refl _) (view_ex e)⟩
  ob := fun n o h => by
    obtain ⟨a, h1, z⟩ := S.ob n o h
    refine ⟨a, h1, ?_⟩
    cases o with
    | lst ms => obtain ⟨vs, h2, h3⟩ := z; exact ⟨vs, e _ _ h2, h3.mono (Pre.refl _) (view_ex e)⟩
    | ins c ks ms => obtain ⟨dx, fs, h2, h3, h4⟩ := z; exact ⟨dx, fs, e _ _ h2, h3, h4.mono (Pre.refl _) (view_ex e)⟩
    | dic ms => obtain ⟨fs, h2, h3, h4⟩ := z; exact ⟨fs, e _ _ h2, h3, h4.mono (Pre.refl _) (view_ex e)⟩
theorem Fut.grow (e : Ex H H') : Fut X ρ O H ρ O H' := ⟨Pre.refl _, view_ex e, fun b o _ h => e b o h⟩
end

/-! ## what is wanted behind -/
section
variable (K : KA) (X : Addr → Prop) (W : WX) (ρ : List Addr) (O : Nat → Option Addr) (H : Hp) (σ : St)
def PostE (r : R MV) (Q : VK) : Prop := match r with
  | .ok x s' => ∀ ρ' O' H' v, SR K X ρ' O' s' σ H' → Fut X ρ O H ρ' O' H' → Rep ρ' K (view X ρ' O' H') x v → Q v H'
  | .exc c s' => ∀ ρ' O' H', SR K X ρ' O' s' σ H' → Fut X ρ O H ρ' O' H' → W (.ref (K.ct c)) none σ H'
  | .stuck => False
def PostT (r : R Bool) (Q : Bool → Hp → Prop) : Prop := match r with
  | .ok x s' => ∀ ρ' O' H', SR K X ρ' O' s' σ H' → Fut X ρ O H ρ' O' H' → Q x H'
  | .exc c s' => ∀ ρ' O' H', SR K X ρ' O' s' σ H' → Fut X ρ O H ρ' O' H' → W (.ref (K.ct c)) none σ H'
  | .stuck => False
def PostA (r : R (List MV)) (Q : List V → Hp → Prop) : Prop := match r with
  | .ok x s' => ∀ ρ' O' H' v, SR K X ρ' O' s' σ H' → Fut X ρ O H ρ' O' H' → Reps ρ' K (view X ρ' O' H') x v → Q v H'
  | .exc c s' => ∀ ρ' O' H', SR K X ρ' O' s' σ H' → Fut X ρ O H ρ' O' H' → W (.ref (K.ct c)) none σ H'
  | .stuck => False
def PostS (r : R Fl) (D : Ends) : Prop := match r with
  | .ok .nx s' => ∀ ρ' O' σ' H', SR K X ρ' O' s' σ' H' → Fut X ρ O H ρ' O' H' → D.nx σ' H'
  | .ok .bk s' => ∀ ρ' O' σ' H', SR K X ρ' O' s' σ' H' → Fut X ρ O H ρ' O' H' → D.bk σ' H'
  | .ok .ct s' => ∀ ρ' O' σ' H', SR K X ρ' O' s' σ' H' → Fut X ρ O H ρ' O' H' → D.ct σ' H'
  | .ok (.rt x) s' => ∀ ρ' O' σ' H' v, SR K X ρ' O' s' σ' H' → Fut X ρ O H ρ' O' H' → Rep ρ' K (view X ρ' O' H') x v → D.rt v H'
  | .exc c s' => ∀ ρ' O' σ' H', SR K X ρ' O' s' σ' H' → Fut X ρ O H ρ' O' H' → W (.ref (K.ct c)) none σ' H'
  | .stuck => False
end
def SimE (K : KA) (W : WX) (te : TE) (m : EM) : Prop := ∀ X ρ O s σ H Q, SR K X ρ O s σ H → PostE K X W ρ O H σ (m s) Q → te σ H Q
def SimT (K : KA) (W : WX) (te : TT) (m : TM) : Prop := ∀ X ρ O s σ H Q, SR K X ρ O s σ H → PostT K X W ρ O H σ (m s) Q → te σ H Q
def SimA (K : KA) (W : WX) (te : TA) (m : AM) : Prop := ∀ X ρ O s σ H Q, SR K X ρ O s σ H → PostA K X W ρ O H σ (m s) Q → te σ H Q
def SimS (K : KA) (W : WX) (ts : TS) (m : SM) : Prop := ∀ X ρ O s σ H D, SR K X ρ O s σ H → PostS K X W ρ O H (m s) D → ts D σ H
/-- an operation on two values -/
def SimOp (K : KA) (r : R2) (f : MV → MV → EM) : Prop := ∀ X W ρ O s σ H x y v u Q, SR K X ρ O s σ H → Rep ρ K (view X ρ O H) x v → Rep ρ K (view X ρ O H) y u → PostE K X W ρ O H σ (f x y s) Q → r v u H Q
def SimU (K : KA) (r : V → Hp → VK → Prop) (f : MV → EM) : Prop := ∀ X W ρ O s σ H x v Q, SR K X ρ O s σ H → Rep ρ K (view X ρ O H) x v → PostE K X W ρ O H σ (f x s) Q → r v H Q
def SimC (K : KA) (r : List V → Hp → VK → Prop) (f : List MV → EM) : Prop := ∀ X W ρ O s σ H xs vs Q, SR K X ρ O s σ H → Reps ρ K (view X ρ O H) xs vs → PostE K X W ρ O H σ (f xs s) Q → r vs H Q
section
variable {K : KA} {X : Addr → Prop} {W : WX} {ρ ρ' : List Addr} {O O' : Nat → Option Addr} {s s' : MS} {σ : St} {H H' : Hp}
theorem PostE.later {r : R MV} {Q : VK} (F : Fut X ρ O H ρ' O' H') (h : PostE K X W ρ O H σ r Q) : PostE K X W ρ' O' H' σ r Q := by
  cases r with
  | ok x s1 => intro a b c d S f r; exact h a b c d S (F.trans f) r
  | exc x s1 => intro a b c S f; exact h a b c S (F.trans f)
  | stuck => exact h
theorem PostT.later {r : R Bool} {Q : Bool → Hp → Prop} (F : Fut X ρ O H ρ' O' H') (h : PostT K X W ρ O H σ r Q) : PostT K X W ρ' O' H' σ r Q := by
  cases r with
  | ok x s1 => intro a b c S f; exact h a b c S (F.trans f)
  | exc x s1 => intro a b c S f; exact h a b c S (F.trans f)
  | stuck => exact h
theorem PostA.later {r : R (List MV)} {Q : List V → Hp → Prop} (F : Fut X ρ O H ρ' O' H') (h : PostA K X W ρ O H σ r Q) : PostA K X W ρ' O' H' σ r Q := by
  cases r with
  | ok x s1 => intro a b c d S f r; exact h a b c d S (F.trans f) r
  | exc x s1 => intro a b c S f; exact h a b c S (F.trans f)
  | stuck => exact h
theorem PostS.later {r : R Fl} {D : Ends} (F : Fut X ρ O H ρ' O' H') (h : PostS K X W ρ O H r D) : PostS K X W ρ' O' H' r D := by
  cases r with
  | ok x s1 =>
    cases x with
    | nx => intro a b c d S f; exact h a b c d S (F.trans f)
    | bk => intro a b c d S f; exact h a b c d S (F.trans f)
    | ct => intro a b c d S f; exact h a b c d S (F.trans f)
    | rt x => intro a b c d e S f r; exact h a b c d e S (F.trans f) r
  | exc x s1 => intro a b c d S f; exact h a b c d S (F.trans f)
  | stuck => exact h
/-- an expression, then more -/
theorem SimE.bindE {te : TE} {m : EM} (h : SimE K W te m) (S : SR K X ρ O s σ H) {f : MV → MS → R MV} {Q : VK} (p : PostE K X W ρ O H σ ((m s).bind f) Q) {Q' : VK}
    (k : ∀ x s1 ρ1 O1 H1 v, SR K X ρ1 O1 s1 σ H1 → Fut X ρ O H ρ1 O1 H1 → Rep ρ1 K (view X ρ1 O1 H1) x v → PostE K X W ρ1 O1 H1 σ (f x s1) Q → Q' v H1) : te σ H Q' := by
  refine h X ρ O s σ H Q' S ?_
  cases e : m s with
  | ok x s1 => rw [e] at p; intro a b c d S' F r; exact k x s1 a b c d S' F r (p.later F)
  | exc c s1 => rw [e] at p; exact p
  | stuck => rw [e] at p; exact p
theorem SimE.bindT {te : TE} {m : EM} (h : SimE K W te m) (S : SR K X ρ O s σ H) {f : MV → MS → R Bool} {Q : Bool → Hp → Prop} (p : PostT K X W ρ O H σ ((m s).bind f) Q) {Q' : VK}
    (k : ∀ x s1 ρ1 O1 H1 v, SR K X ρ1 O1 s1 σ H1 → Fut X ρ O H ρ1 O1 H1 → Rep ρ1 K (view X ρ1 O1 H1) x v → PostT K X W ρ1 O1 H1 σ (f x s1) Q → Q' v H1) : te σ H Q' := by
  refine h X ρ O s σ H Q' S ?_
  cases e : m s with
  | ok x s1 => rw [e] at p; intro a b c d S' F r; exact k x s1 a b c d S' F r (p.later F)
  | exc c s1 => rw [e] at p; exact p
  | stuck => rw [e] at p; exact p
theorem SimE.bindA {te : TE} {m : EM} (h : SimE K W te m) (S : SR K X ρ O s σ H) {f : MV → MS → R (List MV)} {Q : List V → Hp → Prop} (p : PostA K X W ρ O H σ ((m s).bind f) Q) {Q' : VK}
    (k : ∀ x s1 ρ1 O1 H1 v, SR K X ρ1 O1 s1 σ H1 → Fut X ρ O H ρ1 O1 H1 → Rep ρ1 K (view X ρ1 O1 H1) x v → PostA K X W ρ1 O1 H1 σ (f x s1) Q → Q' v H1) : te σ H Q' := by
  refine h X ρ O s σ H Q' S ?_
  cases e : m s with
  | ok x s1 => rw [e] at p; intro a b c d S' F r; exact k x s1 a b c d S' F r (p.later F)
  | exc c s1 => rw [e] at p; exact p
  | stuck => rw [e] at p; exact p
theorem SimE.bindS {te : TE} {m : EM} (h : SimE K W te m) (S : SR K X ρ O s σ H) {f : MV → MS → R Fl} {D : Ends} (p : PostS K X W ρ O H ((m s).bind f) D) {Q' : VK}
    (k : ∀ x s1 ρ1 O1 H1 v, SR K X ρ1 O1 s1 σ H1 → Fut X ρ O H ρ1 O1 H1 → Rep ρ1 K (view X ρ1 O1 H1) x v → PostS K X W ρ1 O1 H1 (f x s1) D → Q' v H1) : te σ H Q' := by
  refine h X ρ O s σ H Q' S ?_
  cases e : m s with
  | ok x s1 => rw [e] at p; intro a b c d S' F r; exact k x s1 a b c d S' F r (p.later F)
  | exc c s1 => rw [e] at p; intro a b c S' F; exact p a b σ c S' F
  | stuck => rw [e] at p; exact p
theorem SimT.bindS {te : TT} {m : TM} (h : SimT K W te m) (S : SR K X ρ O s σ H) {f : Bool → MS → R Fl} {D : Ends} (p : PostS K X W ρ O H ((m s).bind f) D) {Q' : Bool → Hp → Prop}
    (k : ∀ x s1 ρ1 O1 H1, SR K X ρ1 O1 s1 σ H1 → Fut X ρ O H ρ1 O1 H1 → PostS K X W ρ1 O1 H1 (f x s1) D → Q' x H1) : te σ H Q' := by
  refine h X ρ O s σ H Q' S ?_
  cases e : m s with
  | ok x s1 => rw [e] at p; intro a b c S' F; exact k x s1 a b c S' F (p.later F)
  | exc c s1 => rw [e] at p; intro a b c S' F; exact p a b σ c S' F
  | stuck => rw [e] at p; exact p
theorem SimT.bindT {te : TT} {m : TM} (h : SimT K W te m) (S : SR K X ρ O s σ H) {f : Bool → MS → R Bool} {Q : Bool → Hp → Prop} (p : PostT K X W ρ O H σ ((m s).bind f) Q) {Q' : Bool → Hp → Prop}
    (k : ∀ x s1 ρ1 O1 H1, SR K X ρ1 O1 s1 σ H1 → Fut X ρ O H ρ1 O1 H1 → PostT K X W ρ1 O1 H1 σ (f x s1) Q → Q' x H1) : te σ H Q' := by
  refine h X ρ O s σ H Q' S ?_
  cases e : m s with
  | ok x s1 => rw [e] at p; intro a b c S' F; exact k x s1 a b c S' F (p.later F)
  | exc c s1 => rw [e] at p; exact p
  | stuck => rw [e] at p; exact p
theorem SimT.bindE {te : TT} {m : TM} (h : SimT K W te m) (S : SR K X ρ O s σ H) {f : Bool → MS → R MV} {Q : VK} (p : PostE K X W ρ O H σ ((m s).bind f) Q) {Q' : Bool → Hp → Prop}
    (k : ∀ x s1 ρ1 O1 H1, SR K X ρ1 O1 s1 σ H1 → Fut X ρ O H ρ1 O1 H1 → PostE K X W ρ1 O1 H1 σ (f x s1) Q → Q' x H1) : te σ H Q' := by
  refine h X ρ O s σ H Q' S ?_
  cases e : m s with
  | ok x s1 => rw [e] at p; intro a b c S' F; exact k x s1 a b c S' F (p.later F)
  | exc c s1 => rw [e] at p; exact p
  | stuck => rw [e] at p; exact p
theorem SimA.bindE {ta : TA} {m : AM} (h : SimA K W ta m) (S : SR K X ρ O s σ H) {f : List MV → MS → R MV} {Q : VK} (p : PostE K X W ρ O H σ ((m s).bind f) Q) {Q' : List V → Hp → Prop}
    (k : ∀ x s1 ρ1 O1 H1 v, SR K X ρ1 O1 s1 σ H1 → Fut X ρ O H ρ1 O1 H1 → Reps ρ1 K (view X ρ1 O1 H1) x v → PostE K X W ρ1 O1 H1 σ (f x s1) Q → Q' v H1) : ta σ H Q' := by
  refine h X ρ O s σ H Q' S ?_
  cases e : m s with
  | ok x s1 => rw [e] at p; intro a b c d S' F r; exact k x s1 a b c d S' F r (p.later F)
  | exc c s1 => rw [e] at p; exact p
  | stuck => rw [e] at p; exact p
theorem SimA.bindA {ta : TA} {m : AM} (h : SimA K W ta m) (S : SR K X ρ O s σ H) {f : List MV → MS → R (List MV)} {Q : List V → Hp → Prop} (p : PostA K X W ρ O H σ ((m s).bind f) Q) {Q' : List V → Hp → Prop}
    (k : ∀ x s1 ρ1 O1 H1 v, SR K X ρ1 O1 s1 σ H1 → Fut X ρ O H ρ1 O1 H1 → Reps ρ1 K (view X ρ1 O1 H1) x v → PostA K X W ρ1 O1 H1 σ (f x s1) Q → Q' v H1) : ta σ H Q' := by
  refine h X ρ O s σ H Q' S ?_
  cases e : m s with
  | ok x s1 => rw [e] at p; intro a b c d S' F r; exact k x s1 a b c d S' F r (p.later F)
  | exc c s1 => rw [e] at p; exact p
  | stuck => rw [e] at p; exact p
/-- the end: a value without change of the heap -/
theorem PostE.done {x : MV} {v : V} {Q : VK} (p : PostE K X W ρ O H σ (.ok x s) Q) (S : SR K X ρ O s σ H) (r : Rep ρ K (view X ρ O H) x v) : Q v H := p ρ O H v S Fut.refl r
theorem PostE.grown {x : MV} {v : V} {Q : VK} (p : PostE K X W ρ O H σ (.ok x s) Q) (S : SR K X ρ O s σ H) (e : Ex H H') (r : Rep ρ K (view X ρ O H') x v) : Q v H' := p ρ O H' v (S.grow e) (Fut.grow e) r
theorem PostT.done {x : Bool} {Q : Bool → Hp → Prop} (p : PostT K X W ρ O H σ (.ok x s) Q) (S : SR K X ρ O s σ H) : Q x H := p ρ O H S Fut.refl
theorem PostA.done {x : List MV} {v : List V} {Q : List V → Hp → Prop} (p : PostA K X W ρ O H σ (.ok x s) Q) (S : SR K X ρ O s σ H) (r : Reps ρ K (view X ρ O H) x v) : Q v H := p ρ O H v S Fut.refl r
end
end M

namespace M
open PySem L2 PyProof.Rows
open Classical

/-! ## the judgements: a HandS rule and what it does in M -/
structure PEM (ct : String → Addr) (X : Cx) (W : WX) (e : Expr) (te : TE) (m : EM) : Prop where
  pe : PE X e te
  sim : SimE ⟨X.K, ct⟩ W te m
structure PTM (ct : String → Addr) (X : Cx) (W : WX) (e : Expr) (te : TT) (m : TM) : Prop where
  pe : PT X e te
  sim : SimT ⟨X.K, ct⟩ W te m
structure PWM (ct : String → Addr) (X : Cx) (W : WX) (e : Expr) (te : TT) (m : TM) : Prop where
  pe : PW X e te
  sim : SimT ⟨X.K, ct⟩ W te m
structure PAM (ct : String → Addr) (X : Cx) (W : WX) (e : List Expr) (te : TA) (m : AM) : Prop where
  pe : PA X e te
  sim : SimA ⟨X.K, ct⟩ W te m
structure PSM (ct : String → Addr) (X : Cx) (W : WX) (e : Stmt) (te : TS) (m : SM) : Prop where
  pe : PS X e te
  sim : SimS ⟨X.K, ct⟩ W te m
structure PSsM (ct : String → Addr) (X : Cx) (W : WX) (e : List Stmt) (te : TS) (m : SM) : Prop where
  pe : PSs X e te
  sim : SimS ⟨X.K, ct⟩ W te m

/-! ## denotations -/
def mVar (i : Nat) : EM := fun s => match s.env[i]? with
  | some (.sh x) => .ok x s
  | _ => .stuck
def mCon (v : MV) : EM := fun s => .ok v s
def mBin (f : MV → MV → EM) (a b : EM) : EM := fun s => (a s).bind fun x s1 => (b s1).bind fun y s2 => f x y s2
def mUn (f : MV → EM) (a : EM) : EM := fun s => (a s).bind fun x s1 => f x s1
def aNil : AM := fun s => .ok [] s
def aCons (a : EM) (r : AM) : AM := fun s => (a s).bind fun x s1 => (r s1).bind fun xs s2 => .ok (x :: xs) s2
def mArg (f : List MV → EM) (a : AM) : EM := fun s => (a s).bind fun x s1 => f x s1
def tOf (a : EM) : TM := fun s => (a s).bind fun x s1 => match x with
  | .bl b => .ok b s1
  | _ => .stuck
def tAndM (a b : TM) : TM := fun s => (a s).bind fun x s1 => if x = true then b s1 else .ok false s1
def tOrM (a b : TM) : TM := fun s => (a s).bind fun x s1 => if x = true then .ok true s1 else b s1
def tNotM (a : TM) : TM := fun s => (a s).bind fun x s1 => .ok (!x) s1
def mIte (t : TM) (a b : EM) : EM := fun s => (t s).bind fun x s1 => if x = true then a s1 else b s1
def mAndV (a b : EM) : EM := fun s => (a s).bind fun x s1 => match x with
  | .bl c => if c = true then b s1 else .ok (.bl false) s1
  | _ => .stuck
def mOrV (a b : EM) : EM := fun s => (a s).bind fun x s1 => match x with
  | .bl c => if c = true then .ok (.bl true) s1 else b s1
  | _ => .stuck
def mNotV (a : EM) : EM := fun s => (a s).bind fun x s1 => match x with
  | .bl c => .ok (.bl (!c)) s1
  | _ => .stuck
/-- sizes -/
def mulOk (i j : Int) : Prop := i.natAbs.log2 + j.natAbs.log2 < 100000000
def divOk (j : Int) : Prop := j.natAbs.log2 < 9000
def lim (n : Nat) : Prop := n ≤ 16777216
def repOk (n : Nat) (k : Int) : Prop := k < 2 ^ 62 ∧ n * k.toNat ≤ 16777216 ∧ -(2 ^ 62) ≤ k
def powOk (i j : Int) : Prop := 0 ≤ j ∧ j ≤ 1000000 ∧ i.natAbs < 2 ^ 64
noncomputable def oAdd : MV → MV → EM := fun x y s => match x, y with
  | .int i, .int j => .ok (.int (i + j)) s
  | .str i, .str j => if lim (i.length + j.length) then .ok (.str (i ++ j)) s else .stuck
  | .lst xs, .lst ys => if lim (xs.length + ys.length) then .ok (.lst (xs ++ ys)) s else .stuck
  | .lst xs, .ref n => (match s.G[n]? with
    | some (.lst ys) => if lim (xs.length + ys.length) then .ok (.lst (xs ++ ys)) s else .stuck
    | _ => .stuck)
  | .ref m, .ref n => (match s.G[m]? with
    | some (.lst xs) => (match s.G[n]? with
      | some (.lst ys) => if lim (xs.length + ys.length) then .ok (.lst (xs ++ ys)) s else .stuck
      | _ => .stuck)
    | _ => .stuck)
  | _, _ => .stuck
def oSub : MV → MV → EM := fun x y s => match x, y with
  | .int i, .int j => .ok (.int (i - j)) s
  | _, _ => .stuck
noncomputable def oMul : MV → MV → EM := fun x y s => match x, y with
  | .int i, .int j => if mulOk i j then .ok (.int (i * j)) s else .stuck
  | .lst xs, .int k => if repOk xs.length k then .ok (.lst (List.replicate k.toNat xs).flatten) s else .stuck
  | _, _ => .stuck
noncomputable def oDiv : MV → MV → EM := fun x y s => match x, y with
  | .int i, .int j => if j ≠ 0 ∧ divOk j then .ok (.int (i.fdiv j)) s else .stuck
  | _, _ => .stuck
noncomputable def oMod : MV → MV → EM := fun x y s => match x, y with
  | .int i, .int j => if j ≠ 0 then .ok (.int (i.fmod j)) s else .stuck
  | _, _ => .stuck
noncomputable def oPow : MV → MV → EM := fun x y s => match x, y with
  | .int i, .int j => if powOk i j then .ok (.int (i ^ j.toNat)) s else .stuck
  | _, _ => .stuck
def oCmpI (p : Int → Int → Bool) : MV → MV → EM := fun x y s => match x, y with
  | .int i, .int j => .ok (.bl (p i j)) s
  | _, _ => .stuck
abbrev oLt := oCmpI fun i j => decide (i < j)
abbrev oLe := oCmpI fun i j => decide (i ≤ j)
abbrev oGt := oCmpI fun i j => decide (j < i)
abbrev oGe := oCmpI fun i j => decide (j ≤ i)
mutual
def toD : MV → Option PyData
  | .non => some .none
  | .bl b => some (.bool b)
  | .int i => some (.int i)
  | .str s => some (.str s)
  | .tup xs => (toDs xs).map .tuple
  | .lst xs => (toDs xs).map .list
  | .scr xs => (toDs xs).map .list
  | .obj _ _ _ => none
  | .ref _ => none
  | .err _ => none
  | .dic => none
def toDs : List MV → Option (List PyData)
  | [] => some []
  | x :: xs => match toD x, toDs xs with
    | some d, some ds => some (d :: ds)
    | _, _ => none
end
noncomputable def oEq : MV → MV → EM := fun x y s => match toD x, toD y with
  | some d, some e => if SeqAt.shaped d = true ∧ SeqAt.shaped e = true then .ok (.bl (PyData.eqv d e)) s else .stuck
  | _, _ => .stuck
noncomputable def oNe : MV → MV → EM := fun x y s => match toD x, toD y with
  | some d, some e => if SeqAt.shaped d = true ∧ SeqAt.shaped e = true then .ok (.bl (!PyData.eqv d e)) s else .stuck
  | _, _ => .stuck
def isN : MV → Bool
  | .non => true
  | _ => false
def oIsN : MV → EM := fun x s => .ok (.bl (isN x)) s
def oNotN : MV → EM := fun x s => .ok (.bl (!isN x)) s
def oNeg : MV → EM := fun x s => match x with
  | .int i => .ok (.int (-i)) s
  | _ => .stuck
/-- x[i], i from 0 on -/
noncomputable def oIdx : MV → MV → EM := fun x y s => match x, y with
  | .lst xs, .int i => if 0 ≤ i then (match xs[i.toNat]? with
    | some m => .ok m s
    | none => .stuck) else .stuck
  | .scr xs, .int i => if 0 ≤ i then (match xs[i.toNat]? with
    | some m => .ok m s
    | none => .stuck) else .stuck
  | .tup xs, .int i => if 0 ≤ i then (match xs[i.toNat]? with
    | some m => .ok m s
    | none => .stuck) else .stuck
  | .str z, .int i => if 0 ≤ i ∧ lim z.length then (match z.cps.toList[i.toNat]? with
    | some c => .ok (.str ⟨#[c]⟩) s
    | none => .stuck) else .stuck
  | .ref n, .int i => if 0 ≤ i then (match s.G[n]? with
    | some (.lst xs) => (match xs[i.toNat]? with
      | some m => .ok m s
      | none => .stuck)
    | _ => .stuck) else .stuck
  | _, _ => .stuck
noncomputable def oTup : List MV → EM := fun xs s => if lim xs.length then .ok (.tup xs) s else .stuck
noncomputable def oLst : List MV → EM := fun xs s => if lim xs.length then .ok (.lst xs) s else .stuck
/-- calls of built-ins -/
def bAbs : List MV → EM := fun xs s => match xs with
  | [.int i] => .ok (.int (if i < 0 then -i else i)) s
  | _ => .stuck
def bMax : List MV → EM := fun xs s => match xs with
  | [.int i, .int j] => .ok (.int (if j > i then j else i)) s
  | _ => .stuck
def bMin : List MV → EM := fun xs s => match xs with
  | [.int i, .int j] => .ok (.int (if j < i then j else i)) s
  | _ => .stuck
noncomputable def bLen : List MV → EM := fun xs s => match xs with
  | [.lst xs] => .ok (.int xs.length) s
  | [.scr xs] => .ok (.int xs.length) s
  | [.tup xs] => .ok (.int xs.length) s
  | [.str z] => if lim z.length then .ok (.int z.length) s else .stuck
  | [.ref n] => (match s.G[n]? with
    | some (.lst xs) => .ok (.int xs.length) s
    | _ => .stuck)
  | _ => .stuck
def bInt : List MV → EM := fun xs s => match xs with
  | [.int i] => .ok (.int i) s
  | [.bl b] => .ok (.int (if b then 1 else 0)) s
  | _ => .stuck
def bList : List MV → EM := fun xs s => match xs with
  | [.lst xs] => .ok (.lst xs) s
  | [.scr xs] => .ok (.lst xs) s
  | [.tup xs] => .ok (.lst xs) s
  | [.ref n] => (match s.G[n]? with
    | some (.lst xs) => .ok (.lst xs) s
    | _ => .stuck)
  | _ => .stuck
def bTuple : List MV → EM := fun xs s => match xs with
  | [.lst xs] => .ok (.tup xs) s
  | [.tup xs] => .ok (.tup xs) s
  | _ => .stuck
def tyName : MV → Option String
  | .non => some "NoneType"
  | .bl _ => some "bool"
  | .int _ => some "int"
  | .str _ => some "str"
  | .tup _ => some "tuple"
  | .lst _ => some "list"
  | .scr _ => none
  | .obj _ _ _ => none
  | .ref _ => none
  | .err _ => none
  | .dic => some "dict"
def tyG (G : MHeap) : MV → Option String
  | .ref n => (match G[n]? with
    | some (.lst _) => some "list"
    | _ => none)
  | x => tyName x
def oIsi (T : String) : MV → EM := fun x s => match tyG s.G x with
  | some n => (match kitB n T with
    | some b => .ok (.bl b) s
    | none => .stuck)
  | none => .stuck

/-! ## expressions -/
section
variable {K : KA} {W : WX} {ta tb te : TE} {tt tu : TT} {tr : TA} {ma mb : EM} {mt mu : TM} {mr : AM}
theorem sim_var (i : Nat) : SimE K W (tVar i) (mVar i) := by
  intro X ρ O s σ H Q S p
  unfold mVar at p
  cases e : s.env[i]? with
  | none => rw [e] at p; exact p.elim
  | some z =>
    rw [e] at p
    cases z with
    | un => exact p.elim
    | ow xs => exact p.elim
    | sh x =>
      obtain ⟨_, v, h1, h2⟩ := S.sl i _ e
      exact ⟨v, h1, p.done S h2⟩
theorem sim_con {m : MV} {v : V} (h : ∀ (ρ : List Addr) H, Rep ρ K H m v) : SimE K W (tC v) (mCon m) := by
  intro X ρ O s σ H Q S p
  exact p.done S (h _ _)
theorem sim_op {r : R2} {f : MV → MV → EM} (ha : SimE K W ta ma) (hb : SimE K W tb mb) (hr : SimOp K r f) : SimE K W (tOp r ta tb) (mBin f ma mb) := by
  intro X ρ O s σ H Q S p
  refine ha.bindE S p fun x s1 ρ1 O1 H1 v S1 F1 r1 p1 => ?_
  refine hb.bindE S1 p1 fun y s2 ρ2 O2 H2 u S2 F2 r2 p2 => ?_
  exact hr X W ρ2 O2 s2 σ H2 x y v u Q S2 (F2.rep r1) r2 p2
theorem sim_un {r : V → Hp → VK → Prop} {f : MV → EM} (ha : SimE K W ta ma) (hr : SimU K r f) : SimE K W (tUn r ta) (mUn f ma) := by
  intro X ρ O s σ H Q S p
  refine ha.bindE S p fun x s1 ρ1 O1 H1 v S1 F1 r1 p1 => ?_
  exact hr X W ρ1 O1 s1 σ H1 x v Q S1 r1 p1
theorem sim_nil : SimA K W tNil aNil := fun X ρ O s σ H Q S p => p.done S .nil
theorem sim_cons (ha : SimE K W ta ma) (hr : SimA K W tr mr) : SimA K W (tCons ta tr) (aCons ma mr) := by
  intro X ρ O s σ H Q S p
  refine ha.bindA S p fun x s1 ρ1 O1 H1 v S1 F1 r1 p1 => ?_
  refine hr.bindA S1 p1 fun y s2 ρ2 O2 H2 u S2 F2 r2 p2 => ?_
  exact p2.done S2 (.cons (F2.rep r1) r2)
theorem sim_cb {r : List V → Hp → VK → Prop} {f : List MV → EM} (hr : SimA K W tr mr) (hc : SimC K r f) : SimE K W (tCB r tr) (mArg f mr) := by
  intro X ρ O s σ H Q S p
  refine hr.bindE S p fun x s1 ρ1 O1 H1 v S1 F1 r1 p1 => ?_
  exact hc X W ρ1 O1 s1 σ H1 x v Q S1 r1 p1
theorem sim_test (ha : SimE K W ta ma) : SimT K W (tTest ta) (tOf ma) := by
  intro X ρ O s σ H Q S p
  refine ha.bindT S p fun x s1 ρ1 O1 H1 v S1 F1 r1 p1 => ?_
  cases r1 with
  | bl b => exact ⟨b, rfl, p1.done S1⟩
  | _ => exact p1.elim
theorem sim_tB (ha : SimE K W ta ma) : SimT K W (tB ta) (tOf ma) := by
  intro X ρ O s σ H Q S p
  refine ha.bindT S p fun x s1 ρ1 O1 H1 v S1 F1 r1 p1 => ?_
  cases r1 with
  | bl b => exact ⟨b, rfl, p1.done S1⟩
  | _ => exact p1.elim
theorem sim_and (ha : SimT K W tt mt) (hb : SimT K W tu mu) : SimT K W (tAnd tt tu) (tAndM mt mu) := by
  intro X ρ O s σ H Q S p
  refine ha.bindT S p fun x s1 ρ1 O1 H1 S1 F1 p1 => ?_
  cases x with
  | true => exact hb X ρ1 O1 s1 σ H1 Q S1 p1
  | false => exact p1.done S1
theorem sim_or (ha : SimT K W tt mt) (hb : SimT K W tu mu) : SimT K W (tOr tt tu) (tOrM mt mu) := by
  intro X ρ O s σ H Q S p
  refine ha.bindT S p fun x s1 ρ1 O1 H1 S1 F1 p1 => ?_
  cases x with
  | true => exact p1.done S1
  | false => exact hb X ρ1 O1 s1 σ H1 Q S1 p1
theorem sim_not (ha : SimT K W tt mt) : SimT K W (tNot tt) (tNotM mt) := by
  intro X ρ O s σ H Q S p
  refine ha.bindT S p fun x s1 ρ1 O1 H1 S1 F1 p1 => ?_
  exact p1.done S1
theorem sim_if (hc : SimT K W tt mt) (ha : SimE K W ta ma) (hb : SimE K W tb mb) : SimE K W (tIf tt ta tb) (mIte mt ma mb) := by
  intro X ρ O s σ H Q S p
  refine hc.bindE S p fun x s1 ρ1 O1 H1 S1 F1 p1 => ?_
  cases x with
  | true => exact ha X ρ1 O1 s1 σ H1 Q S1 p1
  | false => exact hb X ρ1 O1 s1 σ H1 Q S1 p1
theorem sim_andV (ha : SimE K W ta ma) (hb : SimE K W tb mb) : SimE K W (tAndV ta tb) (mAndV ma mb) := by
  intro X ρ O s σ H Q S p
  refine ha.bindE S p fun x s1 ρ1 O1 H1 v S1 F1 r1 p1 => ?_
  cases r1 with
  | bl b =>
    refine ⟨b, rfl, ?_⟩
    cases b with
    | true => exact hb X ρ1 O1 s1 σ H1 Q S1 p1
    | false => exact p1.done S1 (.bl _)
  | _ => exact p1.elim
theorem sim_orV (ha : SimE K W ta ma) (hb : SimE K W tb mb) : SimE K W (tOrV ta tb) (mOrV ma mb) := by
  intro X ρ O s σ H Q S p
  refine ha.bindE S p fun x s1 ρ1 O1 H1 v S1 F1 r1 p1 => ?_
  cases r1 with
  | bl b =>
    refine ⟨b, rfl, ?_⟩
    cases b with
    | true => exact p1.done S1 (.bl _)
    | false => exact hb X ρ1 O1 s1 σ H1 Q S1 p1
  | _ => exact p1.elim
theorem sim_notV (ha : SimE K W ta ma) : SimE K W (tNotV ta) (mNotV ma) := by
  intro X ρ O s σ H Q S p
  refine ha.bindE S p fun x s1 ρ1 O1 H1 v S1 F1 r1 p1 => ?_
  cases r1 with
  | bl b => exact ⟨b, rfl, p1.done S1 (.bl _)⟩
  | _ => exact p1.elim
/-! ### a tuple, a frozen list -/
theorem sim_tup (hr : SimA K W tr mr) : SimE K W (tTup tr) (mArg oTup mr) := by
  intro X ρ O s σ H Q S p
  refine hr.bindE S p fun x s1 ρ1 O1 H1 v S1 F1 r1 p1 => ?_
  unfold oTup at p1
  by_cases hl : lim x.length
  · rw [if_pos hl] at p1
    refine ⟨by rw [← r1.length, sizeLine_eq]; exact hl, fun a ha => p1.grown S1 (Ex.new ha) (.tup (.inl (.inl (S1.view_new ha))) (r1.mono (Pre.refl _) (view_ex (Ex.new ha))))⟩
  · rw [if_neg hl] at p1; exact p1.elim
theorem sim_lst (hr : SimA K W tr mr) : SimE K W (tLst tr) (mArg oLst mr) := by
  intro X ρ O s σ H Q S p
  refine hr.bindE S p fun x s1 ρ1 O1 H1 v S1 F1 r1 p1 => ?_
  unfold oLst at p1
  by_cases hl : lim x.length
  · rw [if_pos hl] at p1
    refine ⟨by rw [← r1.length, sizeLine_eq]; exact hl, fun a ha => p1.grown S1 (Ex.new ha) (.lst (S1.view_new ha) (r1.mono (Pre.refl _) (view_ex (Ex.new ha))))⟩
  · rw [if_neg hl] at p1; exact p1.elim
end

/-! ## operations -/
section
variable {K : KA}
theorem mulOk_ok {i j : Int} (h : mulOk i j) : IntMulOk i j := by
  have b : ∀ x : Int, Builtin.Int.intBits x ≤ x.natAbs.log2 + 1 := fun x => by
    unfold Builtin.Int.intBits
    split <;> omega
  have h1 := b i
  have h2 := b j
  have h3 : i.natAbs.log2 + j.natAbs.log2 < 100000000 := h
  have e : bitsLine = 134217728 := by decide
  unfold IntMulOk
  intro z
  rw [Bool.and_eq_true] at z
  have z2 := z.2
  unfold Builtin.Int.intTooBig at z2
  have z3 := of_decide_eq_true z2
  rw [e] at z3
  omega
def rMulI : R2 := rI mulOk fun i j => .int (i * j)
theorem op_mulI {X : Cx} : OpR X (binaryOp .Mult) rMulI := opI fun _ _ _ _ _ _ _ hc q => mul_int q (mulOk_ok hc)
def rDivI : R2 := rI (fun _ j => j ≠ 0 ∧ divOk j) fun i j => .int (i.fdiv j)
theorem op_divI {X : Cx} : OpR X (binaryOp .FloorDiv) rDivI := opI fun _ _ _ _ _ _ _ hc q => floordiv_int hc.1 q (.inl (PyProof.noPylong_of_log2 hc.2))
def rModI : R2 := rI (fun _ j => j ≠ 0) fun i j => .int (i.fmod j)
theorem op_modI {X : Cx} : OpR X (binaryOp .Mod) rModI := op_modN
def rStrAdd : R2 := fun x y H Q => ∃ i j, x = .str i ∧ y = .str j ∧ i.length + j.length ≤ sizeLine ∧ Q (.str (i ++ j)) H
def rAddAll : R2 := fun x y H Q => rI0 (fun i j => .int (i + j)) x y H Q ∨ (rStrAdd x y H Q ∨ rCat x y H Q)
theorem op_addAll {X : Cx} : OpR X (binaryOp .Add) rAddAll := op_add.or (op_add_str.or op_cat)
def rMulAll : R2 := fun x y H Q => rMulI x y H Q ∨ rRep x y H Q
theorem op_mulAll {X : Cx} : OpR X (binaryOp .Mult) rMulAll := op_mulI.or op_rep
theorem Reps.rep {ρ : List Addr} {H : Hp} {ms : List MV} {vs : List V} (r : Reps ρ K H ms vs) : ∀ k : Nat, Reps ρ K H (List.replicate k ms).flatten (List.replicate k vs).flatten
  | 0 => .nil
  | k + 1 => by rw [List.replicate_succ, List.replicate_succ, List.flatten_cons, List.flatten_cons]; exact r.append (Reps.rep r k)
theorem SR.refL {X : Addr → Prop} {ρ : List Addr} {O : Nat → Option Addr} {s : MS} {σ : L2.St} {H : Hp} (S : SR K X ρ O s σ H) {n : Nat} {a : Addr} {ms : List MV} (h : ρ[n]? = some a) (g : s.G[n]? = some (.lst ms)) : ∃ vs, H a = some (.lst vs) ∧ Reps ρ K (view X ρ O H) ms vs := by
  obtain ⟨b, h1, vs, h2, h3⟩ := S.ob n _ g
  rw [h] at h1
  cases h1
  exact ⟨vs, h2, h3⟩
theorem so_add : SimOp K rAddAll oAdd := by
  intro X W ρ O s σ H x y v u Q S rx ry p
  cases rx with
  | int i => cases ry with
    | int j => exact .inl ⟨i, j, rfl, rfl, p.done S (.int _)⟩
    | _ => exact p.elim
  | str i => cases ry with
    | str j =>
      unfold oAdd at p
      by_cases h : lim (i.length + j.length)
      · simp only [if_pos h] at p
        exact .inr (.inl ⟨i, j, rfl, rfl, by rw [sizeLine_eq]; exact h, p.done S (.str _)⟩)
      · simp only [if_neg h] at p; exact p.elim
    | _ => exact p.elim
  | lst hx rx => cases ry with
    | lst hy ry =>
      rename_i a xs vs b ys us
      unfold oAdd at p
      by_cases h : lim (xs.length + ys.length)
      · simp only [if_pos h] at p
        refine .inr (.inr ⟨a, b, vs, us, rfl, rfl, (view_some.mp hx).2, (view_some.mp hy).2, by rw [← rx.length, ← ry.length, sizeLine_eq]; exact h, fun q hq => ?_⟩)
        exact p.grown S (Ex.new hq) (.lst (S.view_new hq) ((rx.append ry).mono (Pre.refl _) (view_ex (Ex.new hq))))
      · simp only [if_neg h] at p; exact p.elim
    | ref hn =>
      rename_i a xs vs n b
      unfold oAdd at p
      cases g : s.G[n]? with
      | none => simp only [g] at p; exact p.elim
      | some o => cases o with
        | ins c ks vs => simp only [g] at p; exact p.elim
        | dic ms => simp only [g] at p; exact p.elim
        | lst ys =>
          simp only [g] at p
          obtain ⟨us, hy, ry⟩ := S.refL hn g
          by_cases h : lim (xs.length + ys.length)
          · simp only [if_pos h] at p
            refine .inr (.inr ⟨a, b, vs, us, rfl, rfl, (view_some.mp hx).2, hy, by rw [← rx.length, ← ry.length, sizeLine_eq]; exact h, fun q hq => ?_⟩)
            exact p.grown S (Ex.new hq) (.lst (S.view_new hq) ((rx.append ry).mono (Pre.refl _) (view_ex (Ex.new hq))))
          · simp only [if_neg h] at p; exact p.elim
    | _ => exact p.elim
  | ref hm => cases ry with
    | ref hn =>
      rename_i m a n b
      unfold oAdd at p
      cases f : s.G[m]? with
      | none => simp only [f] at p; exact p.elim
      | some o => cases o with
        | ins c ks vs => simp only [f] at p; exact p.elim
        | dic ms => simp only [f] at p; exact p.elim
        | lst xs =>
          simp only [f] at p
          cases g : s.G[n]? with
          | none => simp only [g] at p; exact p.elim
          | some o => cases o with
            | ins c ks vs => simp only [g] at p; exact p.elim
            | dic ms => simp only [g] at p; exact p.elim
            | lst ys =>
              simp only [g] at p
              obtain ⟨vs, hx, rx⟩ := S.refL hm f
              obtain ⟨us, hy, ry⟩ := S.refL hn g
              by_cases h : lim (xs.length + ys.length)
              · simp only [if_pos h] at p
                refine .inr (.inr ⟨a, b, vs, us, rfl, rfl, hx, hy, by rw [← rx.length, ← ry.length, sizeLine_eq]; exact h, fun q hq => ?_⟩)
                exact p.grown S (Ex.new hq) (.lst (S.view_new hq) ((rx.append ry).mono (Pre.refl _) (view_ex (Ex.new hq))))
              · simp only [if_neg h] at p; exact p.elim
    | _ => exact p.elim
  | _ => cases ry <;> exact p.elim
theorem so_sub : SimOp K (rI0 fun i j => .int (i - j)) oSub := by
  intro X W ρ O s σ H x y v u Q S rx ry p
  cases rx with
  | int i => cases ry with
    | int j => exact ⟨i, j, rfl, rfl, p.done S (.int _)⟩
    | _ => exact p.elim
  | _ => cases ry <;> exact p.elim
theorem so_mul : SimOp K rMulAll oMul := by
  intro X W ρ O s σ H x y v u Q S rx ry p
  cases rx with
  | int i => cases ry with
    | int j =>
      unfold oMul at p
      by_cases h : mulOk i j
      · simp only [if_pos h] at p
        exact .inl ⟨i, j, rfl, rfl, h, p.done S (.int _)⟩
      · simp only [if_neg h] at p; exact p.elim
    | _ => exact p.elim
  | lst hx rx => cases ry with
    | int k =>
      rename_i a xs vs
      unfold oMul at p
      by_cases h : repOk xs.length k
      · simp only [if_pos h] at p
        refine .inr ⟨a, k, vs, rfl, rfl, (view_some.mp hx).2, by have := h.2.2; omega, by have := h.1; omega, by rw [← rx.length, sizeLine_eq]; exact h.2.1, fun q hq => ?_⟩
        exact p.grown S (Ex.new hq) (.lst (S.view_new hq) ((rx.rep k.toNat).mono (Pre.refl _) (view_ex (Ex.new hq))))
      · simp only [if_neg h] at p; exact p.elim
    | _ => exact p.elim
  | _ => cases ry <;> exact p.elim
theorem so_div : SimOp K rDivI oDiv := by
  intro X W ρ O s σ H x y v u Q S rx ry p
  cases rx with
  | int i => cases ry with
    | int j =>
      unfold oDiv at p
      by_cases h : j ≠ 0 ∧ divOk j
      · simp only [if_pos h] at p
        exact ⟨i, j, rfl, rfl, h, p.done S (.int _)⟩
      · simp only [if_neg h] at p; exact p.elim
    | _ => exact p.elim
  | _ => cases ry <;> exact p.elim
theorem so_mod : SimOp K rModI oMod := by
  intro X W ρ O s σ H x y v u Q S rx ry p
  cases rx with
  | int i => cases ry with
    | int j =>
      unfold oMod at p
      by_cases h : j ≠ 0
      · simp only [if_pos h] at p
        exact ⟨i, j, rfl, rfl, h, p.done S (.int _)⟩
      · simp only [if_neg h] at p; exact p.elim
    | _ => exact p.elim
  | _ => cases ry <;> exact p.elim
theorem so_pow : SimOp K (rI CPow fun i j => .int (i ^ j.toNat)) oPow := by
  intro X W ρ O s σ H x y v u Q S rx ry p
  cases rx with
  | int i => cases ry with
    | int j =>
      unfold oPow at p
      by_cases h : powOk i j
      · simp only [if_pos h] at p
        exact ⟨i, j, rfl, rfl, h, p.done S (.int _)⟩
      · simp only [if_neg h] at p; exact p.elim
    | _ => exact p.elim
  | _ => cases ry <;> exact p.elim
theorem so_cmpI {q : Int → Int → Bool} : SimOp K (rI0 fun i j => .bl (q i j)) (oCmpI q) := by
  intro X W ρ O s σ H x y v u Q S rx ry p
  cases rx with
  | int i => cases ry with
    | int j => exact ⟨i, j, rfl, rfl, p.done S (.bl _)⟩
    | _ => exact p.elim
  | _ => cases ry <;> exact p.elim
mutual
theorem toD_dp {ρ : List Addr} {Vw H : Hp} (e : Ex Vw H) : ∀ {x : MV} {v : V} {d : PyData}, Rep ρ K Vw x v → toD x = some d → Dp K.F H v d
  | _, _, _, .non, h => by cases h; exact .non
  | _, _, _, .bl b, h => by cases h; exact .bl b
  | _, _, _, .int i, h => by cases h; exact .int i
  | _, _, _, .str s, h => by cases h; exact .str s
  | .tup xs, _, d, .tup hs r, h => by
    rw [toD] at h
    obtain ⟨ds, h1, rfl⟩ := Option.map_eq_some_iff.mp h
    exact .tup (sqt_ex e hs) (toDs_dp e r h1)
  | .lst xs, _, d, .lst hs r, h => by
    rw [toD] at h
    obtain ⟨ds, h1, rfl⟩ := Option.map_eq_some_iff.mp h
    exact .lst (.inl (.inl (e _ _ hs))) (toDs_dp e r h1)
  | .scr xs, _, d, .scr hs r, h => by
    rw [toD] at h
    obtain ⟨ds, h1, rfl⟩ := Option.map_eq_some_iff.mp h
    exact .lst (sql_ex e hs) (toDs_dp e r h1)
  | _, _, _, .obj _ _ _, h => by cases h
  | _, _, _, .ref _, h => by cases h
  | _, _, _, .err _, h => by cases h
  | _, _, _, .dic _, h => by cases h
theorem toDs_dp {ρ : List Addr} {Vw H : Hp} (e : Ex Vw H) : ∀ {x : List MV} {v : List V} {d : List PyData}, Reps ρ K Vw x v → toDs x = some d → DpAll K.F H v d
  | _, _, _, .nil, h => by cases h; exact .nil
  | x :: xs, _, d, .cons r rs, h => by
    rw [toDs] at h
    cases e1 : toD x with
    | none => rw [e1] at h; cases h
    | some d1 =>
      cases e2 : toDs xs with
      | none => rw [e1, e2] at h; cases h
      | some d2 =>
        rw [e1, e2] at h
        cases h
        exact .cons (toD_dp e r e1) (toDs_dp e rs e2)
end
theorem so_eq : SimOp K (rEqD K.F) oEq := by
  intro X W ρ O s σ H x y v u Q S rx ry p
  unfold oEq at p
  cases e1 : toD x with
  | none => rw [e1] at p; exact p.elim
  | some d =>
    cases e2 : toD y with
    | none => rw [e1, e2] at p; exact p.elim
    | some e =>
      rw [e1, e2] at p
      by_cases h : SeqAt.shaped d = true ∧ SeqAt.shaped e = true
      · simp only [if_pos h] at p
        exact ⟨d, e, toD_dp (view_le _ _ _ _) rx e1, toD_dp (view_le _ _ _ _) ry e2, h.1, h.2, p.done S (.bl _)⟩
      · simp only [if_neg h] at p; exact p.elim
theorem so_ne : SimOp K (rNeD K.F) oNe := by
  intro X W ρ O s σ H x y v u Q S rx ry p
  unfold oNe at p
  cases e1 : toD x with
  | none => rw [e1] at p; exact p.elim
  | some d =>
    cases e2 : toD y with
    | none => rw [e1, e2] at p; exact p.elim
    | some e =>
      rw [e1, e2] at p
      by_cases h : SeqAt.shaped d = true ∧ SeqAt.shaped e = true
      · simp only [if_pos h] at p
        exact ⟨d, e, toD_dp (view_le _ _ _ _) rx e1, toD_dp (view_le _ _ _ _) ry e2, h.1, h.2, p.done S (.bl _)⟩
      · simp only [if_neg h] at p; exact p.elim
theorem Rep.isN {ρ : List Addr} {H : Hp} {x : MV} {v : V} (r : Rep ρ K H x v) : decide (v = .non) = isN x := by
  cases r <;> rfl
theorem sqlv {X : Addr → Prop} {ρ : List Addr} {O : Nat → Option Addr} {H : Hp} {a : Addr} {vs : List V} (h : view X ρ O H a = some (.lst vs)) : SqL K.F H a vs := .inl (.inl (view_some.mp h).2)
theorem so_idx : SimOp K (rIx K.F) oIdx := by
  intro X W ρ O s σ H x y v u Q S rx ry p
  cases rx with
  | lst hx rx => cases ry with
    | int i =>
      rename_i a ms vs
      unfold oIdx at p
      by_cases h0 : 0 ≤ i
      · simp only [if_pos h0] at p
        cases e : ms[i.toNat]? with
        | none => rw [e] at p; exact p.elim
        | some m =>
          rw [e] at p
          obtain ⟨w, hw, rw'⟩ := rx.get e
          exact .inl ⟨a, vs, i, w, rfl, rfl, sqlv hx, at_of (by omega) hw, p.done S rw'⟩
      · simp only [if_neg h0] at p; exact p.elim
    | _ => exact p.elim
  | scr hx rx => cases ry with
    | int i =>
      rename_i a ms vs
      unfold oIdx at p
      by_cases h0 : 0 ≤ i
      · simp only [if_pos h0] at p
        cases e : ms[i.toNat]? with
        | none => rw [e] at p; exact p.elim
        | some m =>
          rw [e] at p
          obtain ⟨w, hw, rw'⟩ := rx.get e
          exact .inl ⟨a, vs, i, w, rfl, rfl, sql_ex (view_le _ _ _ _) hx, at_of (by omega) hw, p.done S rw'⟩
      · simp only [if_neg h0] at p; exact p.elim
    | _ => exact p.elim
  | tup hx rx => cases ry with
    | int i =>
      rename_i a ms vs
      unfold oIdx at p
      by_cases h0 : 0 ≤ i
      · simp only [if_pos h0] at p
        cases e : ms[i.toNat]? with
        | none => rw [e] at p; exact p.elim
        | some m =>
          rw [e] at p
          obtain ⟨w, hw, rw'⟩ := rx.get e
          exact .inr (.inl ⟨a, vs, i, w, rfl, rfl, sqt_ex (view_le _ _ _ _) hx, at_of (by omega) hw, p.done S rw'⟩)
      · simp only [if_neg h0] at p; exact p.elim
    | _ => exact p.elim
  | str z => cases ry with
    | int i =>
      unfold oIdx at p
      by_cases h0 : 0 ≤ i ∧ lim z.length
      · simp only [if_pos h0] at p
        cases e : z.cps.toList[i.toNat]? with
        | none => rw [e] at p; exact p.elim
        | some c =>
          rw [e] at p
          refine .inr (.inr ⟨z, i, c, rfl, rfl, by rw [sizeLine_eq]; exact h0.2, ?_, p.done S (.str _)⟩)
          have q : i = ((i.toNat : Nat) : Int) := by omega
          rw [q]; exact atI_nat e
      · simp only [if_neg h0] at p; exact p.elim
    | _ => exact p.elim
  | ref hn => cases ry with
    | int i =>
      rename_i n a
      unfold oIdx at p
      by_cases h0 : 0 ≤ i
      · simp only [if_pos h0] at p
        cases g : s.G[n]? with
        | none => rw [g] at p; exact p.elim
        | some o => cases o with
          | ins c ks vs => rw [g] at p; exact p.elim
          | dic ms => rw [g] at p; exact p.elim
          | lst ms =>
            simp only [g] at p
            obtain ⟨vs, hx, rx⟩ := S.refL hn g
            cases e : ms[i.toNat]? with
            | none => rw [e] at p; exact p.elim
            | some m =>
              rw [e] at p
              obtain ⟨w, hw, rw'⟩ := rx.get e
              exact .inl ⟨a, vs, i, w, rfl, rfl, .inl (.inl hx), at_of (by omega) hw, p.done S rw'⟩
      · simp only [if_neg h0] at p; exact p.elim
    | _ => exact p.elim
  | _ => cases ry <;> exact p.elim
/-! ### built-ins -/
theorem sc_abs : SimC K (fun xs H Q => ∃ i, xs = [.int i] ∧ Q (.int (if i < 0 then -i else i)) H) bAbs := by
  intro X W ρ O s σ H xs vs Q S r p
  cases r with
  | nil => exact p.elim
  | cons r1 rr => cases rr with
    | cons _ _ => cases r1 <;> exact p.elim
    | nil => cases r1 with
      | int i => exact ⟨i, rfl, p.done S (.int _)⟩
      | _ => exact p.elim
theorem sc_max : SimC K (fun xs H Q => ∃ i j, xs = [.int i, .int j] ∧ Q (.int (if j > i then j else i)) H) bMax := by
  intro X W ρ O s σ H xs vs Q S r p
  cases r with
  | nil => exact p.elim
  | cons r1 rr => cases rr with
    | nil => cases r1 <;> exact p.elim
    | cons r2 r3 => cases r3 with
      | cons _ _ => cases r1 <;> cases r2 <;> exact p.elim
      | nil => cases r1 with
        | int i => cases r2 with
          | int j => exact ⟨i, j, rfl, p.done S (.int _)⟩
          | _ => exact p.elim
        | _ => exact p.elim
theorem sc_min : SimC K (fun xs H Q => ∃ i j, xs = [.int i, .int j] ∧ Q (.int (if j < i then j else i)) H) bMin := by
  intro X W ρ O s σ H xs vs Q S r p
  cases r with
  | nil => exact p.elim
  | cons r1 rr => cases rr with
    | nil => cases r1 <;> exact p.elim
    | cons r2 r3 => cases r3 with
      | cons _ _ => cases r1 <;> cases r2 <;> exact p.elim
      | nil => cases r1 with
        | int i => cases r2 with
          | int j => exact ⟨i, j, rfl, p.done S (.int _)⟩
          | _ => exact p.elim
        | _ => exact p.elim
theorem sc_int : SimC K (fun xs H Q => (∃ i, xs = [.int i] ∧ Q (.int i) H) ∨ ∃ k, xs = [.bl k] ∧ Q (.int (if k then 1 else 0)) H) bInt := by
  intro X W ρ O s σ H xs vs Q S r p
  cases r with
  | nil => exact p.elim
  | cons r1 rr => cases rr with
    | cons _ _ => cases r1 <;> exact p.elim
    | nil => cases r1 with
      | int i => exact .inl ⟨i, rfl, p.done S (.int _)⟩
      | bl b => exact .inr ⟨b, rfl, p.done S (.int _)⟩
      | _ => exact p.elim
def rLenA (K : PySem.W.Frag) : List V → Hp → VK → Prop := fun xs H Q => (∃ p ys, xs = [.ref p] ∧ (SqL K H p ys ∨ SqT K H p ys) ∧ Q (.int ys.length) H) ∨ (∃ z, xs = [.str z] ∧ z.length ≤ sizeLine ∧ Q (.int z.length) H)
theorem call_lenA {X : Cx} : CallR X (.builtin "len") (rLenA X.K) := CallR.or call_len_seq call_len_str
theorem sc_len : SimC K (rLenA K.F) bLen := by
  intro X W ρ O s σ H xs vs Q S r p
  cases r with
  | nil => exact p.elim
  | cons r1 rr => cases rr with
    | cons _ _ => cases r1 <;> exact p.elim
    | nil => cases r1 with
      | lst hx rx =>
        rename_i a ms us
        refine .inl ⟨a, us, rfl, .inl (sqlv hx), ?_⟩
        rw [← rx.length]
        exact p.done S (.int _)
      | scr hx rx =>
        rename_i a ms us
        refine .inl ⟨a, us, rfl, .inl (sql_ex (view_le _ _ _ _) hx), ?_⟩
        rw [← rx.length]
        exact p.done S (.int _)
      | tup hx rx =>
        rename_i a ms us
        refine .inl ⟨a, us, rfl, .inr (sqt_ex (view_le _ _ _ _) hx), ?_⟩
        rw [← rx.length]
        exact p.done S (.int _)
      | str z =>
        unfold bLen at p
        by_cases h : lim z.length
        · simp only [if_pos h] at p
          exact .inr ⟨z, rfl, by rw [sizeLine_eq]; exact h, p.done S (.int _)⟩
        · simp only [if_neg h] at p; exact p.elim
      | ref hn =>
        rename_i n a
        unfold bLen at p
        cases g : s.G[n]? with
        | none => simp only [g] at p; exact p.elim
        | some o => cases o with
          | ins c ks vs => simp only [g] at p; exact p.elim
          | dic ms => simp only [g] at p; exact p.elim
          | lst ms =>
            simp only [g] at p
            obtain ⟨us, hx, rx⟩ := S.refL hn g
            refine .inl ⟨a, us, rfl, .inl (.inl (.inl hx)), ?_⟩
            rw [← rx.length]
            exact p.done S (.int _)
      | _ => exact p.elim
def rListA (K : PySem.W.Frag) : List V → Hp → VK → Prop := fun xs H Q => ∃ p ys, xs = [.ref p] ∧ (SqL K H p ys ∨ SqT K H p ys) ∧ ∀ l, H l = none → Q (.ref l) (upd H l (.lst ys))
theorem sc_list : SimC K (rListA K.F) bList := by
  intro X W ρ O s σ H xs vs Q S r p
  cases r with
  | nil => exact p.elim
  | cons r1 rr => cases rr with
    | cons _ _ => cases r1 <;> exact p.elim
    | nil => cases r1 with
      | lst hx rx => exact ⟨_, _, rfl, .inl (sqlv hx), fun q hq => p.grown S (Ex.new hq) (.lst (S.view_new hq) (rx.mono (Pre.refl _) (view_ex (Ex.new hq))))⟩
      | scr hx rx => exact ⟨_, _, rfl, .inl (sql_ex (view_le _ _ _ _) hx), fun q hq => p.grown S (Ex.new hq) (.lst (S.view_new hq) (rx.mono (Pre.refl _) (view_ex (Ex.new hq))))⟩
      | tup hx rx => exact ⟨_, _, rfl, .inr (sqt_ex (view_le _ _ _ _) hx), fun q hq => p.grown S (Ex.new hq) (.lst (S.view_new hq) (rx.mono (Pre.refl _) (view_ex (Ex.new hq))))⟩
      | ref hn =>
        rename_i n a
        unfold bList at p
        cases g : s.G[n]? with
        | none => simp only [g] at p; exact p.elim
        | some o => cases o with
          | ins c ks vs => simp only [g] at p; exact p.elim
          | dic ms => simp only [g] at p; exact p.elim
          | lst ms =>
            simp only [g] at p
            obtain ⟨us, hx, rx⟩ := S.refL hn g
            exact ⟨_, _, rfl, .inl (.inl (.inl hx)), fun q hq => p.grown S (Ex.new hq) (.lst (S.view_new hq) (rx.mono (Pre.refl _) (view_ex (Ex.new hq))))⟩
      | _ => exact p.elim
def rTupA (K : PySem.W.Frag) : List V → Hp → VK → Prop := fun xs H Q => ∃ p ys, xs = [.ref p] ∧ ((SqL K H p ys ∧ ∀ l, H l = none → Q (.ref l) (upd H l (.tup ys))) ∨ (SqT K H p ys ∧ Q (.ref p) H))
theorem sc_tuple : SimC K (rTupA K.F) bTuple := by
  intro X W ρ O s σ H xs vs Q S r p
  cases r with
  | nil => exact p.elim
  | cons r1 rr => cases rr with
    | cons _ _ => cases r1 <;> exact p.elim
    | nil => cases r1 with
      | lst hx rx => exact ⟨_, _, rfl, .inl ⟨sqlv hx, fun q hq => p.grown S (Ex.new hq) (.tup (.inl (.inl (S.view_new hq))) (rx.mono (Pre.refl _) (view_ex (Ex.new hq))))⟩⟩
      | tup hx rx => exact ⟨_, _, rfl, .inr ⟨sqt_ex (view_le _ _ _ _) hx, p.done S (.tup hx rx)⟩⟩
      | _ => exact p.elim
theorem tyx_of {ρ : List Addr} {Vw H : Hp} (e : Ex Vw H) {x : MV} {v : V} {n : String} (r : Rep ρ K Vw x v) (h : tyName x = some n) : TyX K.F H v (.type n) := by
  cases r with
  | non => cases h; exact .base .non
  | bl b => cases h; exact .base (.bl b)
  | int i => cases h; exact .base (.int i)
  | str s => cases h; exact .base (.str s)
  | lst hx _ => cases h; exact .base (.lst (e _ _ hx))
  | tup hx _ =>
    cases h
    rcases hx with (hx | ⟨o, hx⟩) | ⟨o, its, k, hx, hc, _⟩
    · exact .base (.tup (e _ _ hx))
    · exact .fTuple (e _ _ hx)
    · exact .kTuple hx hc
  | scr _ _ => cases h
  | obj _ _ _ => cases h
  | ref _ => cases h
  | err _ => cases h
  | dic hx => cases h; exact .base (.dK (e _ _ hx))
theorem tyxG_of {X : Addr → Prop} {ρ : List Addr} {O : Nat → Option Addr} {s : MS} {σ : L2.St} {H : Hp} (S : SR K X ρ O s σ H) {x : MV} {v : V} {n : String} (r : Rep ρ K (view X ρ O H) x v) (h : tyG s.G x = some n) : TyX K.F H v (.type n) := by
  cases x with
  | ref k =>
    cases r with
    | ref hk =>
      unfold tyG at h
      cases g : s.G[k]? with
      | none => simp only [g] at h; cases h
      | some o => cases o with
        | ins c ks vs => simp only [g] at h; cases h
        | dic ms => simp only [g] at h; cases h
        | lst ms =>
          simp only [g] at h
          cases h
          obtain ⟨us, hx, _⟩ := S.refL hk g
          exact .base (.lst hx)
  | _ => exact tyx_of (view_le _ _ _ _) r h
/-- isinstance(x, T), T a built-in class -/
theorem sim_isi {W : WX} {ta : TE} {ma : EM} (T : String) (ha : SimE K W ta ma) : SimE K W (tCB (rIsi K.F) (tCons ta (tCons (tC (.ty T)) tNil))) (mUn (oIsi T) ma) := by
  intro X ρ O s σ H Q S p
  refine ha.bindE S p fun x s1 ρ1 O1 H1 v S1 F1 r1 p1 => ?_
  unfold oIsi at p1
  cases e1 : tyG s1.G x with
  | none => rw [e1] at p1; exact p1.elim
  | some n =>
    rw [e1] at p1
    cases e2 : kitB n T with
    | none => simp only [e2] at p1; exact p1.elim
    | some b =>
      simp only [e2] at p1
      exact ⟨v, .ty T, .type n, .type T, b, rfl, .ty T, tyxG_of S1 r1 e1, kit_ty e2, p1.done S1 (.bl _)⟩
end
end M

namespace M
open PySem L2
open Classical

/-! ## the frame's slots -/
def unO (O : Nat → Option Addr) (i : Nat) : Nat → Option Addr := fun j => if j = i then none else O j
section
variable {K : KA} {X : Addr → Prop} {ρ ρ' : List Addr} {O O' : Nat → Option Addr} {s s' : MS} {σ σ' : St} {H H' : Hp}
theorem unO_sub {i j : Nat} {b : Addr} (h : unO O i j = some b) : j ≠ i ∧ O j = some b := by
  unfold unO at h
  by_cases e : j = i
  · rw [if_pos e] at h; cases h
  · rw [if_neg e] at h; exact ⟨e, h⟩
theorem view_sub (h : ∀ j b, O' j = some b → ∃ j', O j' = some b) : Ex (view X ρ O H) (view X ρ O' H) := fun b o e => by
  obtain ⟨h1, h2⟩ := view_some.mp e
  refine view_some.mpr ⟨fun q => h1 ?_, h2⟩
  rcases q with q | q | ⟨j, q⟩
  · exact .inl q
  · exact .inr (.inl q)
  · exact .inr (.inr (h j b q))
theorem Fut.sub (h : ∀ j b, O' j = some b → ∃ j', O j' = some b) : Fut X ρ O H ρ O' H := ⟨Pre.refl _, view_sub h, fun _ _ _ e => e⟩
/-- slot i is told a value -/
theorem SR.setSh (S : SR K X ρ O s σ H) (i : Nat) {x : MV} {v : V} (r : Rep ρ K (view X ρ O H) x v) :
    SR K X ρ (unO O i) { s with env := s.env.set i (.sh x) } (σ.set i (some v)) H := by
  have vx : Ex (view X ρ O H) (view X ρ (unO O i) H) := view_sub fun j b h => ⟨j, (unO_sub h).2⟩
  refine ⟨S.xo, by simp [S.len], S.gl, S.nd, S.xρ, fun j b h => S.oX j b (unO_sub h).2, fun j k b h1 h2 => S.oi j k b (unO_sub h1).2 (unO_sub h2).2, fun j h => ?_, fun j y h => ?_, fun n o h => ?_⟩
  · unfold unO
    split
    · rfl
    · exact S.ol j (by simpa using h)
  · by_cases e : i = j
    · subst e
      have hi : i < s.env.length := by
        have := (List.getElem?_eq_some_iff.mp h).1; simpa using this
      rw [List.getElem?_set_self hi] at h
      cases h
      refine ⟨by unfold unO; rw [if_pos rfl], v, ?_, r.mono (Pre.refl _) vx⟩
      rw [List.getElem?_set_self (by rw [← S.len]; exact hi)]
    · have eo : unO O i j = O j := by unfold unO; rw [if_neg (fun q => e q.symm)]
      rw [List.getElem?_set_ne e] at h
      have z := S.sl j y h
      rw [List.getElem?_set_ne e, eo]
      cases y with
      | un => exact z
      | sh m => obtain ⟨h1, w, h2, h3⟩ := z; exact ⟨h1, w, h2, h3.mono (Pre.refl _) vx⟩
      | ow ms => obtain ⟨a, vs, h1, h2, h3, h4⟩ := z; exact ⟨a, vs, h1, h2, h3, h4.mono (Pre.refl _) vx⟩
  · obtain ⟨a, h1, z⟩ := S.ob n o h
    refine ⟨a, h1, ?_⟩
    cases o with
    | lst ms => obtain ⟨vs, h2, h3⟩ := z; exact ⟨vs, h2, h3.mono (Pre.refl _) vx⟩
    | ins c ks ms => obtain ⟨dx, fs, h2, h3, h4⟩ := z; exact ⟨dx, fs, h2, h3, h4.mono (Pre.refl _) vx⟩
    | dic ms => obtain ⟨fs, h2, h3, h4⟩ := z; exact ⟨fs, h2, h3, h4.mono (Pre.refl _) vx⟩
theorem fut_unO (i : Nat) : Fut X ρ O H ρ (unO O i) H := Fut.sub fun j b h => ⟨j, (unO_sub h).2⟩
end

/-! ## targets -/
abbrev GM := MV → MS → Option MS
def gSet (i : Nat) : GM := fun x s => some { s with env := s.env.set i (.sh x) }
def gsNilM : List MV → MS → Option MS := fun xs s => match xs with
  | [] => some s
  | _ => none
def gsConsM (g : GM) (r : List MV → MS → Option MS) : List MV → MS → Option MS := fun xs s => match xs with
  | [] => none
  | x :: xs => (g x s).bind (r xs)
def gTupM (n : Nat) (r : List MV → MS → Option MS) : GM := fun x s => match x with
  | .tup xs => if xs.length = n then r xs s else none
  | _ => none
def Touch (ts : List Nat) (σ σ' : St) : Prop := ∀ vs : List Nat, (∀ i ∈ ts, i ∈ vs) → wipe σ' vs = wipe σ vs
theorem wipe_set {σ : St} {i : Nat} {x : Option V} : ∀ {vs : List Nat}, i ∈ vs → wipe (σ.set i x) vs = wipe σ vs
  | [], h => by simp at h
  | v :: vs, h => by
    unfold wipe
    by_cases e : i ∈ vs
    · rw [wipe_set e]
    · have hv : i = v := by simpa [e] using h
      subst hv
      have q : ∀ {us : List Nat}, i ∉ us → wipe (σ.set i x) us = (wipe σ us).set i x := by
        intro us
        induction us with
        | nil => intro _; rfl
        | cons u us ih =>
          intro hn
          simp only [List.mem_cons, not_or] at hn
          unfold wipe
          rw [ih hn.2, List.set_comm _ _ hn.1]
      rw [q e, List.set_set]
def SimG (K : KA) (ts : List Nat) (g : TG) (m : GM) : Prop := ∀ X ρ O s σ H x v s' Q, SR K X ρ O s σ H → Rep ρ K (view X ρ O H) x v → m x s = some s' →
  (∀ O' σ', SR K X ρ O' s' σ' H → Fut X ρ O H ρ O' H → Touch ts σ σ' → Q σ' H) → g v σ H Q
def SimGs (K : KA) (ts : List Nat) (g : TGs) (m : List MV → MS → Option MS) : Prop := ∀ X ρ O s σ H x v s' Q, SR K X ρ O s σ H → Reps ρ K (view X ρ O H) x v → m x s = some s' →
  (∀ O' σ', SR K X ρ O' s' σ' H → Fut X ρ O H ρ O' H → Touch ts σ σ' → Q σ' H) → g v σ H Q
section
variable {K : KA} {ts us : List Nat}
theorem sg_name (i : Nat) : SimG K [i] (gName i) (gSet i) := by
  intro X ρ O s σ H x v s' Q S r e k
  cases e
  exact k _ _ (S.setSh i r) (fut_unO i) fun vs h => wipe_set (h i (by simp))
theorem sgs_nil : SimGs K [] gNil gsNilM := by
  intro X ρ O s σ H x v s' Q S r e k
  cases r with
  | nil => cases e; exact ⟨rfl, k _ _ S Fut.refl fun _ _ => rfl⟩
  | cons _ _ => cases e
theorem sgs_cons {g : TG} {gs : TGs} {m : GM} {ms : List MV → MS → Option MS} (h1 : SimG K ts g m) (h2 : SimGs K us gs ms) : SimGs K (ts ++ us) (gCons g gs) (gsConsM m ms) := by
  intro X ρ O s σ H x v s' Q S r e k
  cases r with
  | nil => cases e
  | cons r1 r2 =>
    rename_i m1 v1 ms1 vs1
    unfold gsConsM at e
    obtain ⟨s1, e1, e2⟩ := Option.bind_eq_some_iff.mp e
    refine ⟨_, _, rfl, h1 X ρ O s σ H _ _ s1 _ S r1 e1 fun O1 σ1 S1 F1 T1 => ?_⟩
    refine h2 X ρ O1 s1 σ1 H _ _ s' _ S1 (F1.reps r2) e2 fun O2 σ2 S2 F2 T2 => ?_
    exact k O2 σ2 S2 (F1.trans F2) fun vs h => (T2 vs fun i hi => h i (List.mem_append_right _ hi)).trans (T1 vs fun i hi => h i (List.mem_append_left _ hi))
theorem sg_tup {n : Nat} {gs : TGs} {ms : List MV → MS → Option MS} (h : SimGs K ts gs ms) : SimG K ts (gTup K.F n gs) (gTupM n ms) := by
  intro X ρ O s σ H x v s' Q S r e k
  cases r with
  | tup hx rx =>
    rename_i a xs vs
    unfold gTupM at e
    by_cases hn : xs.length = n
    · simp only [if_pos hn] at e
      exact ⟨a, vs, rfl, sqt_ex (view_le _ _ _ _) hx, by rw [← rx.length]; exact hn, h X ρ O s σ H _ _ s' Q S rx e k⟩
    · simp only [if_neg hn] at e; cases e
  | _ => cases e
end

/-! ## statements -/
def mNx : SM := fun s => .ok .nx s
def mSeq (a b : SM) : SM := fun s => (a s).bind fun f s1 => match f with
  | .nx => b s1
  | f => .ok f s1
def mIf (t : TM) (a b : SM) : SM := fun s => (t s).bind fun x s1 => if x = true then a s1 else b s1
def mRet (e : EM) : SM := fun s => (e s).bind fun x s1 => .ok (.rt x) s1
def mRetN : SM := fun s => .ok (.rt .non) s
def mDrop (e : EM) : SM := fun s => (e s).bind fun _ s1 => .ok .nx s1
def mAsg (g : GM) (e : EM) : SM := fun s => (e s).bind fun x s1 => match g x s1 with
  | some s2 => .ok .nx s2
  | none => .stuck
def mBrk : SM := fun s => .ok .bk s
def mCt : SM := fun s => .ok .ct s
section
variable {K : KA} {W : WX} {te : TE} {me : EM} {tt : TT} {mt : TM} {ta tb : TS} {ma mb : SM}
theorem ss_nx : SimS K W tNext mNx := fun X ρ O s σ H D S p => p ρ O σ H S Fut.refl
theorem ss_brk : SimS K W tBreak mBrk := fun X ρ O s σ H D S p => p ρ O σ H S Fut.refl
theorem ss_ct : SimS K W tCont mCt := fun X ρ O s σ H D S p => p ρ O σ H S Fut.refl
theorem ss_seq (ha : SimS K W ta ma) (hb : SimS K W tb mb) : SimS K W (tSeq ta tb) (mSeq ma mb) := by
  intro X ρ O s σ H D S p
  refine ha X ρ O s σ H _ S ?_
  unfold mSeq at p
  cases e : ma s with
  | ok f s1 =>
    rw [e] at p
    cases f with
    | nx => intro ρ1 O1 σ1 H1 S1 F1; exact hb X ρ1 O1 s1 σ1 H1 D S1 (p.later F1)
    | bk => exact p
    | ct => exact p
    | rt x => exact p
  | exc c s1 => rw [e] at p; exact p
  | stuck => rw [e] at p; exact p
theorem ss_if (ht : SimT K W tt mt) (ha : SimS K W ta ma) (hb : SimS K W tb mb) : SimS K W (tIfS tt ta tb) (mIf mt ma mb) := by
  intro X ρ O s σ H D S p
  refine ht.bindS S p fun x s1 ρ1 O1 H1 S1 F1 p1 => ?_
  cases x with
  | true => exact ha X ρ1 O1 s1 σ H1 D S1 p1
  | false => exact hb X ρ1 O1 s1 σ H1 D S1 p1
theorem ss_ret (h : SimE K W te me) : SimS K W (tRet te) (mRet me) := by
  intro X ρ O s σ H D S p
  refine h.bindS S p fun x s1 ρ1 O1 H1 v S1 F1 r1 p1 => ?_
  exact p1 ρ1 O1 σ H1 v S1 Fut.refl r1
theorem ss_retN : SimS K W tRetN mRetN := fun X ρ O s σ H D S p => p ρ O σ H .non S Fut.refl .non
theorem ss_drop (h : SimE K W te me) : SimS K W (tDrop te) (mDrop me) := by
  intro X ρ O s σ H D S p
  refine h.bindS S p fun x s1 ρ1 O1 H1 v S1 F1 r1 p1 => ?_
  exact p1 ρ1 O1 σ H1 S1 Fut.refl
theorem ss_asg {ts : List Nat} {g : TG} {mg : GM} (h : SimE K W te me) (hg : SimG K ts g mg) : SimS K W (tAsg te g) (mAsg mg me) := by
  intro X ρ O s σ H D S p
  refine h.bindS S p fun x s1 ρ1 O1 H1 v S1 F1 r1 p1 => ?_
  cases e : mg x s1 with
  | none => simp only [e] at p1; exact p1.elim
  | some s2 =>
    simp only [e] at p1
    exact hg X ρ1 O1 s1 σ H1 x v s2 _ S1 r1 e fun O2 σ2 S2 F2 _ => p1 ρ1 O2 σ2 H1 S2 F2
end

/-! ## while -/
def whileN (c : TM) (b : SM) : Nat → MS → Option (R Fl)
  | 0, _ => none
  | n + 1, s => match c s with
    | .ok true s1 => (match b s1 with
      | .ok .nx s2 => whileN c b n s2
      | .ok .ct s2 => whileN c b n s2
      | .ok .bk s2 => some (.ok .nx s2)
      | .ok (.rt x) s2 => some (.ok (.rt x) s2)
      | .exc x s2 => some (.exc x s2)
      | .stuck => some .stuck)
    | .ok false s1 => some (.ok .nx s1)
    | .exc x s1 => some (.exc x s1)
    | .stuck => some .stuck
theorem whileN_mono {c : TM} {b : SM} : ∀ {n : Nat} {s : MS} {r : R Fl}, whileN c b n s = some r → whileN c b (n + 1) s = some r
  | 0, s, r, h => by cases h
  | n + 1, s, r, h => by
    unfold whileN at h ⊢
    cases e : c s with
    | ok x s1 =>
      rw [e] at h
      cases x with
      | false => exact h
      | true =>
        cases e2 : b s1 with
        | ok f s2 =>
          simp only [e2] at h ⊢
          cases f with
          | nx => exact whileN_mono h
          | ct => exact whileN_mono h
          | bk => exact h
          | rt x => exact h
        | exc x s2 => simp only [e2] at h ⊢; exact h
        | stuck => simp only [e2] at h ⊢; exact h
    | exc x s1 => rw [e] at h; exact h
    | stuck => rw [e] at h; exact h
theorem whileN_le {c : TM} {b : SM} {n m : Nat} {s : MS} {r : R Fl} (h : whileN c b n s = some r) (hm : n ≤ m) : whileN c b m s = some r := by
  induction hm with
  | refl => exact h
  | step _ ih => exact whileN_mono ih
noncomputable def mWhile (c : TM) (b : SM) : SM := fun s => if h : ∃ r, ∃ n, whileN c b n s = some r then Classical.choose h else .stuck
theorem mWhile_eq {c : TM} {b : SM} {n : Nat} {s : MS} {r : R Fl} (h : whileN c b n s = some r) : mWhile c b s = r := by
  have hx : ∃ r, ∃ n, whileN c b n s = some r := ⟨r, n, h⟩
  unfold mWhile
  rw [dif_pos hx]
  obtain ⟨m, hm⟩ := Classical.choose_spec hx
  have h1 := whileN_le h (Nat.le_max_left n m)
  have h2 := whileN_le hm (Nat.le_max_right n m)
  rw [h1] at h2
  exact (Option.some.inj h2).symm
theorem mWhile_get {c : TM} {b : SM} {s : MS} {r : R Fl} (h : mWhile c b s = r) (hr : r ≠ .stuck) : ∃ n, whileN c b n s = some r := by
  unfold mWhile at h
  by_cases hx : ∃ r, ∃ n, whileN c b n s = some r
  · rw [dif_pos hx] at h
    rw [← h]
    exact Classical.choose_spec hx
  · rw [dif_neg hx] at h; exact absurd h.symm hr
theorem mWhile_step (c : TM) (b : SM) (s : MS) : mWhile c b s = match c s with
    | .ok true s1 => (match b s1 with
      | .ok .nx s2 => mWhile c b s2
      | .ok .ct s2 => mWhile c b s2
      | .ok .bk s2 => .ok .nx s2
      | .ok (.rt x) s2 => .ok (.rt x) s2
      | .exc x s2 => .exc x s2
      | .stuck => .stuck)
    | .ok false s1 => .ok .nx s1
    | .exc x s1 => .exc x s1
    | .stuck => .stuck := by
  have again : ∀ s1 s2 f, c s = .ok true s1 → b s1 = .ok f s2 → (f = .nx ∨ f = .ct) → mWhile c b s = mWhile c b s2 := by
    intro s1 s2 f e1 e2 hf
    have st : ∀ n r, whileN c b n s2 = some r → whileN c b (n + 1) s = some r := fun n r h => by
      unfold whileN
      rw [e1]
      simp only [e2]
      rcases hf with rfl | rfl <;> exact h
    by_cases hx : ∃ r, ∃ n, whileN c b n s2 = some r
    · obtain ⟨r, n, h⟩ := hx
      rw [mWhile_eq h, mWhile_eq (st n r h)]
    · have hy : ¬ ∃ r, ∃ n, whileN c b n s = some r := by
        rintro ⟨r, n, h⟩
        cases n with
        | zero => cases h
        | succ n =>
          unfold whileN at h
          rw [e1] at h
          simp only [e2] at h
          refine hx ⟨r, n, ?_⟩
          rcases hf with rfl | rfl <;> exact h
      unfold mWhile
      rw [dif_neg hx, dif_neg hy]
  cases e : c s with
  | ok x s1 =>
    cases x with
    | false => exact mWhile_eq (n := 1) (by unfold whileN; rw [e])
    | true =>
      cases e2 : b s1 with
      | ok f s2 =>
        cases f with
        | nx => simp only [e2]; exact again s1 s2 _ e e2 (.inl rfl)
        | ct => simp only [e2]; exact again s1 s2 _ e e2 (.inr rfl)
        | bk => exact mWhile_eq (n := 1) (by unfold whileN; rw [e]; simp only [e2])
        | rt x => exact mWhile_eq (n := 1) (by unfold whileN; rw [e]; simp only [e2])
      | exc x s2 => exact mWhile_eq (n := 1) (by unfold whileN; rw [e]; simp only [e2])
      | stuck => exact mWhile_eq (n := 1) (by unfold whileN; rw [e]; simp only [e2])
  | exc x s1 => exact mWhile_eq (n := 1) (by unfold whileN; rw [e])
  | stuck => exact mWhile_eq (n := 1) (by unfold whileN; rw [e])
section
variable {K : KA} {W : WX}
theorem ss_while {tc : TT} {mc : TM} {tb : TS} {mb : SM} (hc : SimT K W tc mc) (hb : SimS K W tb mb) : SimS K W (tWhile tc tb) (mWhile mc mb) := by
  intro X ρ O s σ H D S p
  have hr : mWhile mc mb s ≠ .stuck := fun q => by rw [q] at p; exact p.elim
  obtain ⟨n, hn⟩ := mWhile_get rfl hr
  refine ⟨fun m σ' H' => ∃ ρ' O' s' r, SR K X ρ' O' s' σ' H' ∧ whileN mc mb m s' = some r ∧ PostS K X W ρ' O' H' r D, ⟨n, ρ, O, s, _, S, hn, p⟩, ?_⟩
  rintro m σ1 H1 ⟨ρ1, O1, s1, r, S1, e, p1⟩
  cases m with
  | zero => cases e
  | succ m =>
    unfold whileN at e
    refine hc X ρ1 O1 s1 σ1 H1 _ S1 ?_
    cases ec : mc s1 with
    | ok x s2 =>
      rw [ec] at e
      cases x with
      | false =>
        cases e
        intro ρ2 O2 H2 S2 F2
        exact p1 ρ2 O2 σ1 H2 S2 F2
      | true =>
        intro ρ2 O2 H2 S2 F2
        refine ⟨fun σ' H' => ∃ ρ' O' s' r, SR K X ρ' O' s' σ' H' ∧ whileN mc mb m s' = some r ∧ PostS K X W ρ' O' H' r D, fun σ' H' h => ⟨m, Nat.lt_succ_self m, h⟩, ?_⟩
        refine hb X ρ2 O2 s2 σ1 H2 _ S2 ?_
        have p2 := p1.later F2
        cases eb : mb s2 with
        | ok f s3 =>
          simp only [eb] at e
          cases f with
          | nx => intro ρ3 O3 σ3 H3 S3 F3; exact ⟨ρ3, O3, s3, r, S3, e, p2.later F3⟩
          | ct => intro ρ3 O3 σ3 H3 S3 F3; exact ⟨ρ3, O3, s3, r, S3, e, p2.later F3⟩
          | bk => cases e; exact p2
          | rt x => cases e; exact p2
        | exc c s3 => simp only [eb] at e; cases e; exact p2
        | stuck => simp only [eb] at e; cases e; exact p2
    | exc c s2 =>
      rw [ec] at e
      cases e
      intro ρ2 O2 H2 S2 F2
      exact p1 ρ2 O2 σ1 H2 S2 F2
    | stuck => rw [ec] at e; cases e; exact p1.elim
end

/-! ## what is walked -/
structure IsWalk (K : KA) (ρ : List Addr) (V0 : Hp) (J : It) (xs : List MV) : Prop where
  go : ∀ i H2, Ex V0 H2 → i < xs.length → J.go i H2
  stop : ∀ H2, Ex V0 H2 → J.stop xs.length H2
  yld : ∀ i H2 x H3, Ex V0 H2 → i < xs.length → J.yld i H2 x H3 → Ex H2 H3 ∧ ∃ m, xs[i]? = some m ∧ ∀ X ρ2 O2 s2 σ2, SR K X ρ2 O2 s2 σ2 H2 → Pre ρ ρ2 → Ex V0 (view X ρ2 O2 H2) → Rep ρ2 K (view X ρ2 O2 H3) m x
def PostI (K : KA) (X : Addr → Prop) (W : WX) (ρ : List Addr) (O : Nat → Option Addr) (H : Hp) (σ : St) (r : R (List MV)) (Q : It → Hp → Prop) : Prop := match r with
  | .ok xs s' => ∀ ρ' O' H' J, SR K X ρ' O' s' σ H' → Fut X ρ O H ρ' O' H' → IsWalk K ρ' (view X ρ' O' H') J xs → Q J H'
  | .exc c s' => ∀ ρ' O' H', SR K X ρ' O' s' σ H' → Fut X ρ O H ρ' O' H' → W (.ref (K.ct c)) none σ H'
  | .stuck => False
def SimI (K : KA) (W : WX) (wi : TI) (m : AM) : Prop := ∀ X ρ O s σ H Q, SR K X ρ O s σ H → PostI K X W ρ O H σ (m s) Q → wi σ H Q
theorem PostI.later {K : KA} {X : Addr → Prop} {W : WX} {ρ ρ' : List Addr} {O O' : Nat → Option Addr} {σ : St} {H H' : Hp} {r : R (List MV)} {Q : It → Hp → Prop} (F : Fut X ρ O H ρ' O' H') (h : PostI K X W ρ O H σ r Q) : PostI K X W ρ' O' H' σ r Q := by
  cases r with
  | ok x s1 => intro a b c d S f r; exact h a b c d S (F.trans f) r
  | exc x s1 => intro a b c S f; exact h a b c S (F.trans f)
  | stuck => exact h
section
variable {K : KA} {X : Addr → Prop} {W : WX} {ρ ρ' : List Addr} {O O' : Nat → Option Addr} {s s' : MS} {σ : St} {H H' : Hp}
theorem SimE.bindI {te : TE} {m : EM} (h : SimE K W te m) (S : SR K X ρ O s σ H) {f : MV → MS → R (List MV)} {Q : It → Hp → Prop} (p : PostI K X W ρ O H σ ((m s).bind f) Q) {Q' : VK}
    (k : ∀ x s1 ρ1 O1 H1 v, SR K X ρ1 O1 s1 σ H1 → Fut X ρ O H ρ1 O1 H1 → Rep ρ1 K (view X ρ1 O1 H1) x v → PostI K X W ρ1 O1 H1 σ (f x s1) Q → Q' v H1) : te σ H Q' := by
  refine h X ρ O s σ H Q' S ?_
  cases e : m s with
  | ok x s1 => rw [e] at p; intro a b c d S' F r; exact k x s1 a b c d S' F r (p.later F)
  | exc c s1 => rw [e] at p; exact p
  | stuck => rw [e] at p; exact p
theorem SimA.bindI {te : TA} {m : AM} (h : SimA K W te m) (S : SR K X ρ O s σ H) {f : List MV → MS → R (List MV)} {Q : It → Hp → Prop} (p : PostI K X W ρ O H σ ((m s).bind f) Q) {Q' : List V → Hp → Prop}
    (k : ∀ x s1 ρ1 O1 H1 v, SR K X ρ1 O1 s1 σ H1 → Fut X ρ O H ρ1 O1 H1 → Reps ρ1 K (view X ρ1 O1 H1) x v → PostI K X W ρ1 O1 H1 σ (f x s1) Q → Q' v H1) : te σ H Q' := by
  refine h X ρ O s σ H Q' S ?_
  cases e : m s with
  | ok x s1 => rw [e] at p; intro a b c d S' F r; exact k x s1 a b c d S' F r (p.later F)
  | exc c s1 => rw [e] at p; exact p
  | stuck => rw [e] at p; exact p
theorem PostI.done {xs : List MV} {J : It} {Q : It → Hp → Prop} (p : PostI K X W ρ O H σ (.ok xs s) Q) (S : SR K X ρ O s σ H) (w : IsWalk K ρ (view X ρ O H) J xs) : Q J H := p ρ O H J S Fut.refl w
end
section
variable {K : KA} {W : WX}
theorem isWalk_list {ρ : List Addr} {V0 : Hp} {a : Addr} {ms : List MV} {vs : List V} (h : SqL K.F V0 a vs) (r : Reps ρ K V0 ms vs) : IsWalk K ρ V0 (Itl K.F a) ms where
  go := fun i H2 e hi => by
    have hv : i < vs.length := by rw [← r.length]; exact hi
    exact ⟨vs, vs[i], sql_ex e h, List.getElem?_eq_getElem hv⟩
  stop := fun H2 e => ⟨vs, sql_ex e h, by rw [r.length]; exact Nat.le_refl _⟩
  yld := fun i H2 x H3 e hi y => by
    obtain ⟨rfl, y⟩ := y
    refine ⟨Ex.refl _, ms[i], List.getElem?_eq_getElem hi, fun X ρ2 O2 s2 σ2 S p e2 => ?_⟩
    obtain ⟨v, hv, rv⟩ := r.get (List.getElem?_eq_getElem hi)
    have := y vs (sql_ex e h)
    rw [hv] at this
    cases this
    exact rv.mono p e2
def iOf (e : EM) : AM := fun s => (e s).bind fun x s1 => match x with
  | .lst xs => .ok xs s1
  | .scr xs => .ok xs s1
  | _ => .stuck
theorem si_list {te : TE} {me : EM} (h : SimE K W te me) : SimI K W (iList K.F te) (iOf me) := by
  intro X ρ O s σ H Q S p
  refine h.bindI S p fun x s1 ρ1 O1 H1 v S1 F1 r1 p1 => ?_
  cases r1 with
  | lst hx rx => exact ⟨_, rfl, ⟨_, sqlv hx⟩, p1.done S1 (isWalk_list (.inl (.inl hx)) rx)⟩
  | scr hx rx => exact ⟨_, rfl, ⟨_, sql_ex (view_le _ _ _ _) hx⟩, p1.done S1 (isWalk_list hx rx)⟩
  | _ => exact p1.elim
theorem isWalk_tup {ρ : List Addr} {V0 : Hp} {a : Addr} {ms : List MV} {vs : List V} (h : SqT K.F V0 a vs) (r : Reps ρ K V0 ms vs) : IsWalk K ρ V0 (Itt K.F a) ms where
  go := fun i H2 e hi => by
    have hv : i < vs.length := by rw [← r.length]; exact hi
    exact ⟨vs, vs[i], sqt_ex e h, List.getElem?_eq_getElem hv⟩
  stop := fun H2 e => ⟨vs, sqt_ex e h, by rw [r.length]; exact Nat.le_refl _⟩
  yld := fun i H2 x H3 e hi y => by
    obtain ⟨rfl, y⟩ := y
    refine ⟨Ex.refl _, ms[i], List.getElem?_eq_getElem hi, fun X ρ2 O2 s2 σ2 S p e2 => ?_⟩
    obtain ⟨v, hv, rv⟩ := r.get (List.getElem?_eq_getElem hi)
    have := y vs (sqt_ex e h)
    rw [hv] at this
    cases this
    exact rv.mono p e2
def iOfT (e : EM) : AM := fun s => (e s).bind fun x s1 => match x with
  | .tup xs => .ok xs s1
  | _ => .stuck
theorem si_tup {te : TE} {me : EM} (h : SimE K W te me) : SimI K W (iTup K.F te) (iOfT me) := by
  intro X ρ O s σ H Q S p
  refine h.bindI S p fun x s1 ρ1 O1 H1 v S1 F1 r1 p1 => ?_
  cases r1 with
  | tup hx rx => exact ⟨_, rfl, ⟨_, sqt_ex (view_le _ _ _ _) hx⟩, p1.done S1 (isWalk_tup hx rx)⟩
  | _ => exact p1.elim
/-- the ints of a range -/
def rangeM (lo c : Int) (n : Nat) : List MV := (List.range n).map fun (k : Nat) => MV.int (lo + k * c)
theorem rangeM_get {lo c : Int} {n i : Nat} (h : i < n) : (rangeM lo c n)[i]? = some (.int (lo + i * c)) := by
  unfold rangeM; simp [h]
theorem rangeM_len {lo c : Int} {n : Nat} : (rangeM lo c n).length = n := by unfold rangeM; simp
theorem isWalk_range {ρ : List Addr} {V0 : Hp} {lo : Int} {n : Nat} : IsWalk K ρ V0 (Itr lo n) (rangeM lo 1 n) where
  go := fun i H2 e hi => by rw [rangeM_len] at hi; exact hi
  stop := fun H2 e => by rw [rangeM_len]; exact Nat.le_refl _
  yld := fun i H2 x H3 e hi y => by
    obtain ⟨rfl, rfl⟩ := y
    rw [rangeM_len] at hi
    exact ⟨Ex.refl _, _, rangeM_get hi, fun X ρ2 O2 s2 σ2 S p e2 => by rw [Int.mul_one]; exact .int _⟩
theorem isWalk_rangeC {ρ : List Addr} {V0 : Hp} {lo c : Int} {n : Nat} : IsWalk K ρ V0 (Itc lo c n) (rangeM lo c n) where
  go := fun i H2 e hi => by rw [rangeM_len] at hi; exact hi
  stop := fun H2 e => by rw [rangeM_len]; exact Nat.le_refl _
  yld := fun i H2 x H3 e hi y => by
    obtain ⟨rfl, rfl⟩ := y
    rw [rangeM_len] at hi
    exact ⟨Ex.refl _, _, rangeM_get hi, fun X ρ2 O2 s2 σ2 S p e2 => .int _⟩
def r1Ok (j : Int) : Prop := -(2 ^ 62) ≤ j ∧ j < 2 ^ 62
def r2Ok (i j : Int) : Prop := -(2 ^ 62) ≤ i ∧ i < 2 ^ 62 ∧ -(2 ^ 62) ≤ j ∧ j < 2 ^ 62
def r3Ok (i j c : Int) : Prop := 0 ≤ i ∧ i < 2 ^ 29 ∧ 0 ≤ j ∧ j < 2 ^ 29 ∧ 0 < c ∧ c < 1000000
noncomputable def oR1 : List MV → MS → R (List MV) := fun xs s1 => match xs with
  | [.int j] => if r1Ok j then .ok (rangeM 0 1 j.toNat) s1 else .stuck
  | _ => .stuck
noncomputable def oR2 : List MV → MS → R (List MV) := fun xs s1 => match xs with
  | [.int i, .int j] => if r2Ok i j then .ok (rangeM i 1 (j - i).toNat) s1 else .stuck
  | _ => .stuck
noncomputable def oR3 : List MV → MS → R (List MV) := fun xs s1 => match xs with
  | [.int i, .int j, .int c] => if r3Ok i j c then .ok (rangeM i c (if i < j then ((j - i - 1) / c + 1).toNat else 0)) s1 else .stuck
  | _ => .stuck
noncomputable def iR1 (a : AM) : AM := fun s => (a s).bind oR1
noncomputable def iR2 (a : AM) : AM := fun s => (a s).bind oR2
noncomputable def iR3 (a : AM) : AM := fun s => (a s).bind oR3
theorem si_r1 {ta : TA} {ma : AM} (h : SimA K W ta ma) : SimI K W (iRng1 ta) (iR1 ma) := by
  intro X ρ O s σ H Q S p
  refine h.bindI S p fun x s1 ρ1 O1 H1 v S1 F1 r1 p1 => ?_
  unfold oR1 at p1
  cases r1 with
  | nil => exact p1.elim
  | cons r1 rr => cases rr with
    | cons _ _ => cases r1 <;> exact p1.elim
    | nil => cases r1 with
      | int j =>
        by_cases hj : r1Ok j
        · simp only [if_pos hj] at p1
          exact ⟨j, rfl, hj.1, hj.2, p1.done S1 isWalk_range⟩
        · simp only [if_neg hj] at p1; exact p1.elim
      | _ => exact p1.elim
theorem si_r2 {ta : TA} {ma : AM} (h : SimA K W ta ma) : SimI K W (iRng2 ta) (iR2 ma) := by
  intro X ρ O s σ H Q S p
  refine h.bindI S p fun x s1 ρ1 O1 H1 v S1 F1 r1 p1 => ?_
  unfold oR2 at p1
  cases r1 with
  | nil => exact p1.elim
  | cons r1 rr => cases rr with
    | nil => cases r1 <;> exact p1.elim
    | cons r2 r3 => cases r3 with
      | cons _ _ => cases r1 <;> cases r2 <;> exact p1.elim
      | nil => cases r1 with
        | int i => cases r2 with
          | int j =>
            by_cases hj : r2Ok i j
            · simp only [if_pos hj] at p1
              exact ⟨i, j, rfl, hj, p1.done S1 isWalk_range⟩
            · simp only [if_neg hj] at p1; exact p1.elim
          | _ => exact p1.elim
        | _ => exact p1.elim
theorem rgC_pos {i j c : Int} (h : 0 ≤ i ∧ i < 2 ^ 29 ∧ 0 ≤ j ∧ j < 2 ^ 29 ∧ 0 < c ∧ c < 1000000) : RgC i j c (if i < j then ((j - i - 1) / c + 1).toNat else 0) := by
  obtain ⟨h1, h2, h3, h4, h5, h6⟩ := h
  have e : Builtin.Range.rangeSize i j c = ((if i < j then ((j - i - 1) / c + 1).toNat else 0 : Nat) : Int) := by
    unfold Builtin.Range.rangeSize
    rw [if_pos h5]
    by_cases q : i < j
    · rw [if_pos q, if_pos q]
      have := Int.ediv_nonneg (show 0 ≤ j - i - 1 by omega) (Int.le_of_lt h5)
      omega
    · rw [if_neg q, if_neg q]; rfl
  have le : (if i < j then (j - i - 1) / c + 1 else 0) ≤ 2 ^ 29 + 1 := by
    split
    · have := Int.ediv_le_self c (show 0 ≤ j - i - 1 by omega)
      omega
    · omega
  have ge : 0 ≤ (if i < j then (j - i - 1) / c + 1 else 0) := by
    split
    · have := Int.ediv_nonneg (show 0 ≤ j - i - 1 by omega) (Int.le_of_lt h5)
      omega
    · omega
  refine ⟨by omega, by omega, ?_, e⟩
  have e2 : Builtin.Range.rangeSize i j c = (if i < j then (j - i - 1) / c + 1 else 0) := by
    unfold Builtin.Range.rangeSize
    rw [if_pos h5]
  unfold Builtin.Range.small
  rw [e2]
  generalize (if i < j then (j - i - 1) / c + 1 else 0) = n at le ge
  rw [if_pos h5]
  simp only [Builtin.Range.rangeFitsLong, Bool.and_eq_true, Bool.or_eq_true, decide_eq_true_eq, beq_iff_eq]
  omega
theorem si_r3 {ta : TA} {ma : AM} (h : SimA K W ta ma) : SimI K W (iRng3 ta) (iR3 ma) := by
  intro X ρ O s σ H Q S p
  refine h.bindI S p fun x s1 ρ1 O1 H1 v S1 F1 r1 p1 => ?_
  unfold oR3 at p1
  cases r1 with
  | nil => exact p1.elim
  | cons r1 rr => cases rr with
    | nil => cases r1 <;> exact p1.elim
    | cons r2 r3 => cases r3 with
      | nil => cases r1 <;> cases r2 <;> exact p1.elim
      | cons r3 r4 => cases r4 with
        | cons _ _ => cases r1 <;> cases r2 <;> cases r3 <;> exact p1.elim
        | nil => cases r1 with
          | int i => cases r2 with
            | int j => cases r3 with
              | int c =>
                by_cases hj : r3Ok i j c
                · simp only [if_pos hj] at p1
                  exact ⟨i, j, c, _, rfl, rgC_pos hj, p1.done S1 isWalk_rangeC⟩
                · simp only [if_neg hj] at p1; exact p1.elim
              | _ => exact p1.elim
            | _ => exact p1.elim
          | _ => exact p1.elim
/-- the signs of a text -/
def iSigns (e : EM) : AM := fun s => (e s).bind fun x s1 => match x with
  | .str z => .ok (z.cps.toList.map fun c => MV.str ⟨#[c]⟩) s1
  | _ => .stuck
theorem si_str {te : TE} {me : EM} (h : SimE K W te me) : SimI K W (iStr te) (iSigns me) := by
  intro X ρ O s σ H Q S p
  refine h.bindI S p fun x s1 ρ1 O1 H1 v S1 F1 r1 p1 => ?_
  cases r1 with
  | str z =>
    refine ⟨z, rfl, p1.done S1 ⟨fun i H2 e hi => ?_, fun H2 e => ?_, fun i H2 x H3 e hi y => ?_⟩⟩
    · show i < z.cps.size
      simpa using hi
    · show z.cps.size ≤ _
      simp
    · obtain ⟨rfl, c, hc, rfl⟩ := y
      refine ⟨Ex.refl _, _, ?_, fun X ρ2 O2 s2 σ2 S p e2 => .str _⟩
      rw [List.getElem?_map, Array.getElem?_toList, hc]
      rfl
  | _ => exact p1.elim
end

/-! ## for -/
def forM (g : GM) (b : SM) : List MV → SM
  | [] => fun s => .ok .nx s
  | x :: xs => fun s => match g x s with
    | none => .stuck
    | some s1 => match b s1 with
      | .ok .nx s2 => forM g b xs s2
      | .ok .ct s2 => forM g b xs s2
      | .ok .bk s2 => .ok .nx s2
      | .ok (.rt x) s2 => .ok (.rt x) s2
      | .exc x s2 => .exc x s2
      | .stuck => .stuck
def mFor (i : AM) (g : GM) (b : SM) : SM := fun s => (i s).bind fun xs s1 => forM g b xs s1
section
variable {K : KA} {W : WX}
theorem ss_for {ts : List Nat} {wi : TI} {mi : AM} {g : TG} {mg : GM} {tb : TS} {mb : SM} (hi : SimI K W wi mi) (hg : SimG K ts g mg) (hb : SimS K W tb mb) : SimS K W (tFor wi g tb) (mFor mi mg mb) := by
  intro X ρ O s σ H D S p
  refine hi X ρ O s σ H _ S ?_
  unfold mFor at p
  cases ei : mi s with
  | stuck => rw [ei] at p; exact p.elim
  | exc c s1 => rw [ei] at p; intro a b c S' F; exact p a b σ c S' F
  | ok xs s1 =>
    rw [ei] at p
    intro ρ1 O1 H1 J S1 F1 wk
    have p1 : PostS K X W ρ1 O1 H1 (forM mg mb xs s1) D := p.later F1
    clear p
    refine ⟨fun i m σ' H' => m = xs.length - i ∧ i ≤ xs.length ∧ ∃ ρ' O' s', SR K X ρ' O' s' σ' H' ∧ Fut X ρ1 O1 H1 ρ' O' H' ∧ PostS K X W ρ' O' H' (forM mg mb (xs.drop i) s') D,
      ⟨xs.length, by simp, Nat.zero_le _, ρ1, O1, s1, S1, Fut.refl, p1⟩, ?_⟩
    rintro i m σ2 H2 ⟨rfl, hi', ρ2, O2, s2, S2, F2, p2⟩
    have e02 : Ex (view X ρ1 O1 H1) H2 := F2.ex.trans (view_le _ _ _ _)
    by_cases hlt : i < xs.length
    · refine .inr ⟨wk.go i H2 e02 hlt, fun σ' H' => i + 1 ≤ xs.length ∧ ∃ ρ' O' s', SR K X ρ' O' s' σ' H' ∧ Fut X ρ1 O1 H1 ρ' O' H' ∧ PostS K X W ρ' O' H' (forM mg mb (xs.drop (i + 1)) s') D,
        fun σ' H' h => ⟨xs.length - (i + 1), by omega, rfl, h⟩, fun x H3 y => ?_⟩
      obtain ⟨e23, m, hm, rep⟩ := wk.yld i H2 x H3 e02 hlt y
      have r3 := rep X ρ2 O2 s2 σ2 S2 F2.pre F2.ex
      have hd : xs.drop i = m :: xs.drop (i + 1) := by
        rw [List.drop_eq_getElem_cons hlt]
        rw [List.getElem?_eq_getElem hlt] at hm
        rw [Option.some.inj hm]
      rw [hd] at p2
      unfold forM at p2
      cases eg : mg m s2 with
      | none => rw [eg] at p2; exact p2.elim
      | some s3 =>
        rw [eg] at p2
        have S3 := S2.grow e23
        refine hg X ρ2 O2 s2 σ2 H3 m x s3 _ S3 r3 eg fun O4 σ4 S4 F4 _ => ?_
        have F24 : Fut X ρ2 O2 H2 ρ2 O4 H3 := (Fut.grow e23).trans F4
        have F14 := F2.trans F24
        refine hb X ρ2 O4 s3 σ4 H3 _ S4 ?_
        have p4 := p2.later F24
        cases eb : mb s3 with
        | ok f s5 =>
          simp only [eb] at p4
          cases f with
          | nx => intro ρ5 O5 σ5 H5 S5 F5; exact ⟨hlt, ρ5, O5, s5, S5, F14.trans F5, p4.later F5⟩
          | ct => intro ρ5 O5 σ5 H5 S5 F5; exact ⟨hlt, ρ5, O5, s5, S5, F14.trans F5, p4.later F5⟩
          | bk => exact p4
          | rt x => exact p4
        | exc c s5 => simp only [eb] at p4; exact p4
        | stuck => simp only [eb] at p4; exact p4
    · have e : i = xs.length := by omega
      subst e
      rw [List.drop_length] at p2
      exact .inl ⟨wk.stop H2 e02, p2 ρ2 O2 σ2 H2 S2 Fut.refl⟩
end
end M

namespace M
open PySem L2
open Classical

/-! ## functions -/
inductive RF where
  | ok (x : MV) (G : MHeap) | exc (c : String) (G : MHeap) | stuck
abbrev FM := List MV → MHeap → RF
abbrev O0 : Nat → Option Addr := fun _ => none
def PostF (K : KA) (X : Addr → Prop) (ρ : List Addr) (H : Hp) (r : RF) (Q : VK) (E : XK) : Prop := match r with
  | .ok x G' => ∀ ρ' H' v, SR K X ρ' O0 ⟨[], G'⟩ [] H' → Fut X ρ O0 H ρ' O0 H' → Rep ρ' K (view X ρ' O0 H') x v → Q v H'
  | .exc c G' => ∀ ρ' H', SR K X ρ' O0 ⟨[], G'⟩ [] H' → Fut X ρ O0 H ρ' O0 H' → E (.ref (K.ct c)) none H'
  | .stuck => False
/-- the promise: it does what the M-function does -/
def spM (K : KA) (fn : FM) : Sp := fun vs H Q E => ∃ X ρ G ms, SR K X ρ O0 ⟨[], G⟩ [] H ∧ Reps ρ K (view X ρ O0 H) ms vs ∧ PostF K X ρ H (fn ms G) Q E
def env0 (n : Nat) (args : List MV) : List SV := args.map SV.sh ++ List.replicate (n - args.length) .un
def toRF (r : R Fl) : RF := match r with
  | .ok (.rt x) s => .ok x s.G
  | .ok .nx s => .ok .non s.G
  | .exc c s => .exc c s.G
  | _ => .stuck
theorem toRF_rt (x : MV) (s : MS) : toRF (.ok (.rt x) s) = .ok x s.G := rfl
theorem toRF_nx (s : MS) : toRF (.ok .nx s) = .ok .non s.G := rfl
theorem toRF_exc (c : String) (s : MS) : toRF (.exc c s) = .exc c s.G := rfl
theorem toRF_stuck : toRF .stuck = .stuck := rfl
theorem toRF_ite {c : Prop} [Decidable c] (a b : R Fl) : toRF (if c then a else b) = if c then toRF a else toRF b := by split <;> rfl
theorem R.bind_ite {α β : Type} {c : Prop} [Decidable c] (a b : R α) (f : α → MS → R β) : R.bind (if c then a else b) f = if c then R.bind a f else R.bind b f := by split <;> rfl
def runB (b : SM) (n : Nat) (args : List MV) (G : MHeap) : RF := toRF (b ⟨env0 n args, G⟩)
section
variable {K : KA} {X : Addr → Prop} {W : WX} {ρ ρ' : List Addr} {O O' : Nat → Option Addr} {s s' : MS} {σ : St} {H H' : Hp} {G : MHeap}
/-- the frame forgotten -/
theorem SR.drop (S : SR K X ρ O s σ H) : SR K X ρ O0 ⟨[], s.G⟩ [] H where
  xo := S.xo
  len := rfl
  gl := S.gl
  nd := S.nd
  xρ := S.xρ
  oX := fun _ _ h => by cases h
  oi := fun _ _ _ h => by cases h
  ol := fun _ _ => rfl
  sl := fun i x h => by simp at h
  ob := fun n o h => by
    have vx : Ex (view X ρ O H) (view X ρ O0 H) := view_sub fun j b h => by cases h
    obtain ⟨a, h1, z⟩ := S.ob n o h
    refine ⟨a, h1, ?_⟩
    cases o with
    | lst ms => obtain ⟨vs, h2, h3⟩ := z; exact ⟨vs, h2, h3.mono (Pre.refl _) vx⟩
    | ins c ks ms => obtain ⟨dx, fs, h2, h3, h4⟩ := z; exact ⟨dx, fs, h2, h3, h4.mono (Pre.refl _) vx⟩
    | dic ms => obtain ⟨fs, h2, h3, h4⟩ := z; exact ⟨fs, h2, h3, h4.mono (Pre.refl _) vx⟩
theorem fut_drop : Fut X ρ O H ρ O0 H := Fut.sub fun j b h => by cases h
theorem env0_get {n : Nat} {args : List MV} {i : Nat} {x : SV} (h : (env0 n args)[i]? = some x) : (∃ m, args[i]? = some m ∧ x = .sh m) ∨ (x = .un ∧ args.length ≤ i) := by
  unfold env0 at h
  by_cases hi : i < args.length
  · rw [List.getElem?_append_left (by simpa using hi), List.getElem?_map] at h
    rw [List.getElem?_eq_getElem hi] at h ⊢
    simp at h
    exact .inl ⟨_, rfl, h.symm⟩
  · rw [List.getElem?_append_right (by simpa using Nat.le_of_not_lt hi)] at h
    have := List.getElem?_replicate (a := SV.un) (n := n - args.length) (i := i - (args.map SV.sh).length)
    rw [this] at h
    split at h
    · cases h; exact .inr ⟨rfl, Nat.le_of_not_lt hi⟩
    · cases h
/-- a def's frame at its start -/
theorem SR.enter {N : List Str} {args : List MV} {vs : List V} (S : SR K X ρ O0 ⟨[], G⟩ [] H) (r : Reps ρ K (view X ρ O0 H) args vs) : SR K X ρ O0 ⟨env0 N.length args, G⟩ (L2.start N vs) H where
  xo := S.xo
  len := by unfold env0 L2.start; simp [r.length]
  gl := S.gl
  nd := S.nd
  xρ := S.xρ
  oX := fun _ _ h => by cases h
  oi := fun _ _ _ h => by cases h
  ol := fun _ _ => rfl
  sl := fun i x h => by
    rcases env0_get h with ⟨m, h1, rfl⟩ | ⟨rfl, _⟩
    · obtain ⟨v, h2, h3⟩ := r.get h1
      refine ⟨rfl, v, ?_, h3⟩
      have hi : i < vs.length := (List.getElem?_eq_some_iff.mp h2).1
      unfold L2.start
      rw [List.getElem?_append_left (by simpa using hi), List.getElem?_map, h2]
      rfl
    · rfl
  ob := S.ob
/-- what the callee must leave alone -/
def XO (X : Addr → Prop) (O : Nat → Option Addr) : Addr → Prop := fun b => X b ∨ ∃ i, O i = some b
theorem view_XO : view (XO X O) ρ O0 H = view X ρ O H := by
  funext b
  have e : Hid (XO X O) ρ O0 b ↔ Hid X ρ O b := by
    constructor
    · rintro ((h | h) | h | ⟨_, h⟩)
      · exact .inl h
      · exact .inr (.inr h)
      · exact .inr (.inl h)
      · cases h
    · rintro (h | h | h)
      · exact .inl (.inl h)
      · exact .inr (.inl h)
      · exact .inl (.inr h)
  unfold view
  by_cases q : Hid X ρ O b
  · rw [if_pos q, if_pos (e.mpr q)]
  · rw [if_neg q, if_neg (fun z => q (e.mp z))]
theorem SR.toCall (S : SR K X ρ O s σ H) : SR K (XO X O) ρ O0 ⟨[], s.G⟩ [] H where
  xo := fun b h => by
    rcases h with h | ⟨i, h⟩
    · exact S.xo b h
    · exact S.occ (.inr (.inr ⟨i, h⟩))
  len := rfl
  gl := S.gl
  nd := S.nd
  xρ := fun b hb h => by
    rcases h with h | ⟨i, h⟩
    · exact S.xρ b hb h
    · exact (S.oX i b h).2 hb
  oX := fun _ _ h => by cases h
  oi := fun _ _ _ h => by cases h
  ol := fun _ _ => rfl
  sl := fun i x h => by simp at h
  ob := fun n o h => by
    obtain ⟨a, h1, z⟩ := S.ob n o h
    refine ⟨a, h1, ?_⟩
    cases o with
    | lst ms => obtain ⟨vs, h2, h3⟩ := z; exact ⟨vs, h2, by rw [view_XO]; exact h3⟩
    | ins c ks ms => obtain ⟨dx, fs, h2, h3, h4⟩ := z; exact ⟨dx, fs, h2, h3, by rw [view_XO]; exact h4⟩
    | dic ms => obtain ⟨fs, h2, h3, h4⟩ := z; exact ⟨fs, h2, h3, by rw [view_XO]; exact h4⟩
theorem SR.ofCall (S : SR K X ρ O s σ H) {G' : MHeap} (S' : SR K (XO X O) ρ' O0 ⟨[], G'⟩ [] H') (F : Fut (XO X O) ρ O0 H ρ' O0 H') :
    SR K X ρ' O { s with G := G' } σ H' ∧ Fut X ρ O H ρ' O H' := by
  have ve : Ex (view X ρ O H) (view X ρ' O H') := by
    have := F.ex
    rw [view_XO, view_XO] at this
    exact this
  refine ⟨⟨fun b h => S'.xo b (.inl h), S.len, S'.gl, S'.nd, fun b hb h => S'.xρ b hb (.inl h), fun i b h => ⟨(S.oX i b h).1, fun hb => S'.xρ b hb (.inr ⟨i, h⟩)⟩, S.oi, S.ol, fun i x h => ?_, fun n o h => ?_⟩, ⟨F.pre, ve, fun b o h e => F.xs b o (.inl h) e⟩⟩
  · have z := S.sl i x h
    cases x with
    | un => exact z
    | sh m => obtain ⟨h1, w, h2, h3⟩ := z; exact ⟨h1, w, h2, h3.mono F.pre ve⟩
    | ow ms => obtain ⟨a, vs, h1, h2, h3, h4⟩ := z; exact ⟨a, vs, h1, h2, F.xs _ _ (.inr ⟨i, h1⟩) h3, h4.mono F.pre ve⟩
  · obtain ⟨a, h1, z⟩ := S'.ob n o h
    refine ⟨a, h1, ?_⟩
    cases o with
    | lst ms => obtain ⟨vs, h2, h3⟩ := z; rw [view_XO] at h3; exact ⟨vs, h2, h3⟩
    | ins c ks ms => obtain ⟨dx, fs, h2, h3, h4⟩ := z; rw [view_XO] at h4; exact ⟨dx, fs, h2, h3, h4⟩
    | dic ms => obtain ⟨fs, h2, h3, h4⟩ := z; rw [view_XO] at h4; exact ⟨fs, h2, h3, h4⟩
end
def ofRF (r : RF) (s : MS) : R MV := match r with
  | .ok x G' => .ok x { s with G := G' }
  | .exc c G' => .exc c { s with G := G' }
  | .stuck => .stuck
@[simp] theorem ofRF_ok (x : MV) (G : MHeap) (s : MS) : ofRF (.ok x G) s = .ok x { s with G := G } := rfl
@[simp] theorem ofRF_exc (c : String) (G : MHeap) (s : MS) : ofRF (.exc c G) s = .exc c { s with G := G } := rfl
@[simp] theorem ofRF_stuck (s : MS) : ofRF .stuck s = .stuck := rfl
def mCall (fn : FM) (a : AM) : EM := fun s => (a s).bind fun xs s1 => ofRF (fn xs s1.G) s1
section
variable {K : KA} {W : WX}
theorem post_call {X : Addr → Prop} {ρ : List Addr} {O : Nat → Option Addr} {s : MS} {σ : St} {H : Hp} {Q : VK} {r : RF} (S : SR K X ρ O s σ H) (p : PostE K X W ρ O H σ (ofRF r s) Q) :
    PostF K (XO X O) ρ H r Q (WE W σ) := by
  cases r with
  | ok x G' =>
    intro ρ' H' v S' F r'
    obtain ⟨S2, F2⟩ := S.ofCall S' F
    rw [view_XO] at r'
    exact p ρ' O H' v S2 F2 r'
  | exc c G' =>
    intro ρ' H' S' F
    obtain ⟨S2, F2⟩ := S.ofCall S' F
    exact p ρ' O H' S2 F2
  | stuck => exact p.elim
theorem sim_call {ta : TA} {ma : AM} {fn : FM} (h : SimA K W ta ma) : SimE K W (tCallS (spM K fn) (WE W) ta) (mCall fn ma) := by
  intro X ρ O s σ H Q S p
  refine h.bindE S p fun x s1 ρ1 O1 H1 v S1 F1 r1 p1 => ?_
  exact ⟨XO X O1, ρ1, s1.G, x, S1.toCall, by rw [view_XO]; exact r1, post_call S1 p1⟩
end
/-- from a body to its function -/
theorem fnM {P : Program} {w : World} {K : PySem.W.Frag} (ct : String → Addr) {mg : Str → Option Value} {base : Heap} {x qual : Str} {st : Stmt} {f : Addr} {fd : FuncData} {N ps : List Str} {k : Nat} (fn : FM) (F : Fun K x qual st f fd) (Sc : FnScope N ps (defScope st))
    (len : ∀ ms G, fn ms G ≠ .stuck → ms.length = ps.length) (b : SM)
    (hb : ∀ (cdv : Value) (A : Around) (outer : List Env) (s : Shared) (H : Hp) (E : XK), Room k (A.deeper (PyProof.Rows.envOfC qual (defScope st) s.heap.objs.size f cdv)) →
      ∃ t, PSsM ct (cxOf (L2.CX P w) P w K mg base N qual (defScope st) f cdv A outer s H E) (fun cls d _ H => E cls d H) (defBody st) t b)
    (hm : ∀ ms G, fn ms G ≠ .stuck → runB b N.length ms G = fn ms G) : FnOk P w K mg base (L2.CX P w) (k + 1) f fd ps (spM ⟨K, ct⟩ fn) := by
  refine F.okX Sc (fun vs H Q E h => ?_) (fun cdv A outer s H vs Q E hr h => ?_)
  · obtain ⟨X, ρ, G, ms, S, r, p⟩ := h
    rw [← r.length]
    refine len ms G fun e => ?_
    rw [e] at p
    exact p.elim
  · obtain ⟨t, D⟩ := hb cdv A outer s H E hr
    refine ⟨t, D.pe, ?_⟩
    obtain ⟨X, ρ, G, ms, S, r, p⟩ := h
    have hne : fn ms G ≠ .stuck := fun e => by rw [e] at p; exact p.elim
    have e := hm ms G hne
    refine D.sim X ρ O0 ⟨env0 N.length ms, G⟩ (L2.start N vs) H _ (S.enter r) ?_
    unfold runB toRF at e
    cases eb : b ⟨env0 N.length ms, G⟩ with
    | ok f s' =>
      rw [eb] at e
      cases f with
      | nx =>
        rw [← e] at p
        intro ρ' O' σ' H' S' F'
        exact p ρ' H' .non S'.drop (F'.trans fut_drop) .non
      | rt x =>
        rw [← e] at p
        intro ρ' O' σ' H' v S' F' r'
        exact p ρ' H' v S'.drop (F'.trans fut_drop) (fut_drop.rep r')
      | bk => exact absurd e.symm hne
      | ct => exact absurd e.symm hne
    | exc c s' =>
      rw [eb] at e
      rw [← e] at p
      intro ρ' O' σ' H' S' F'
      exact p ρ' H' S'.drop (F'.trans fut_drop)
    | stuck => rw [eb] at e; exact absurd e.symm hne
end M

namespace M
open PySem L2
open Classical

structure PGM (ct : String → Addr) (X : Cx) (e : Expr) (ts : List Nat) (g : TG) (m : GM) : Prop where
  pe : PG X e g
  sim : SimG ⟨X.K, ct⟩ ts g m
structure PGsM (ct : String → Addr) (X : Cx) (e : List Expr) (ts : List Nat) (g : TGs) (m : List MV → MS → Option MS) : Prop where
  pe : PGs X e g
  sim : SimGs ⟨X.K, ct⟩ ts g m
structure PIM (ct : String → Addr) (X : Cx) (W : WX) (tg e : Expr) (wi : TI) (m : AM) : Prop where
  pe : PI X tg e wi
  sim : SimI ⟨X.K, ct⟩ W wi m
def oIs : MV → MV → EM := fun x y s => match y with
  | .non => .ok (.bl (isN x)) s
  | _ => .stuck
def oIsNot : MV → MV → EM := fun x y s => match y with
  | .non => .ok (.bl (!isN x)) s
  | _ => .stuck
section
variable {K : KA}
theorem so_is : SimOp K (fun x y H Q => y = .non ∧ Q (.bl (decide (x = .non))) H) oIs := by
  intro X W ρ O s σ H x y v u Q S rx ry p
  cases ry with
  | non => exact ⟨rfl, by rw [rx.isN]; exact p.done S (.bl _)⟩
  | _ => exact p.elim
theorem so_isNot : SimOp K (fun x y H Q => y = .non ∧ Q (.bl (!decide (x = .non))) H) oIsNot := by
  intro X W ρ O s σ H x y v u Q S rx ry p
  cases ry with
  | non => exact ⟨rfl, by rw [rx.isN]; exact p.done S (.bl _)⟩
  | _ => exact p.elim
theorem su_neg : SimU K (rU fun i => .int (-i)) oNeg := by
  intro X W ρ O s σ H x v Q S rx p
  cases rx with
  | int i => exact ⟨i, rfl, p.done S (.int _)⟩
  | _ => exact p.elim
end
section
variable {ct : String → Addr} {X : Cx} {W : WX} {a b c e o : Expr} {es : List Expr} {ta tb tc te : TE} {tt tu : TT} {tr : TA} {ma mb mc me : EM} {mt mu : TM} {mr : AM} {pos p p2 : Pos} {rest : List Expr}
theorem e_var (i : Nat) {x : Str} (hN : X.N[i]? = some x := by rfl) (hv : Vis X.env.scope x := by first | exact Or.inl rfl | exact Or.inr (Or.inl rfl) | exact Or.inr (Or.inr rfl)) (hd : (x == ("__debug__" : Str)) = false := by decide) (hcd : (x == ("__classdict__" : Str)) = false := by decide) :
    PEM ct X W (.Name x pos) (tVar i) (mVar i) := ⟨pe_var hN hv hd hcd, sim_var i⟩
theorem e_int {i : Int} {j : Nat} : PEM ct X W (.Constant (.int i) j pos) (tC (.int i)) (mCon (.int i)) := ⟨pe_int, sim_con fun _ _ => .int i⟩
theorem e_bl {i : Bool} {j : Nat} : PEM ct X W (.Constant (.bool i) j pos) (tC (.bl i)) (mCon (.bl i)) := ⟨pe_bl, sim_con fun _ _ => .bl i⟩
theorem e_non {j : Nat} : PEM ct X W (.Constant .none j pos) (tC .non) (mCon .non) := ⟨pe_non, sim_con fun _ _ => .non⟩
theorem e_str {x : Str} {j : Nat} : PEM ct X W (.Constant (.str x) j pos) (tC (.str x)) (mCon (.str x)) := ⟨pe_str, sim_con fun _ _ => .str x⟩
theorem e_gint {x : Str} {i : Int} {t : Tok} (hm : X.mg x = some (.int i t)) (hg : Gl X x := by rfl) (hd : (x == ("__debug__" : Str)) = false := by decide) : PEM ct X W (.Name x pos) (tC (.int i)) (mCon (.int i)) := ⟨pe_glob hg hm ⟨_, rfl⟩ hd, sim_con fun _ _ => .int i⟩
theorem e_gstr {x : Str} {i : Str} {t : Tok} (hm : X.mg x = some (.str i t)) (hg : Gl X x := by rfl) (hd : (x == ("__debug__" : Str)) = false := by decide) : PEM ct X W (.Name x pos) (tC (.str i)) (mCon (.str i)) := ⟨pe_glob hg hm ⟨_, rfl⟩ hd, sim_con fun _ _ => .str i⟩
theorem e_add (ha : PEM ct X W a ta ma) (hb : PEM ct X W b tb mb) : PEM ct X W (.BinOp a .Add b pos) (tOp rAddAll ta tb) (mBin oAdd ma mb) := ⟨pe_op op_addAll ha.pe hb.pe, sim_op ha.sim hb.sim so_add⟩
theorem e_sub (ha : PEM ct X W a ta ma) (hb : PEM ct X W b tb mb) : PEM ct X W (.BinOp a .Sub b pos) (tOp (rI0 fun i j => .int (i - j)) ta tb) (mBin oSub ma mb) := ⟨pe_op op_sub ha.pe hb.pe, sim_op ha.sim hb.sim so_sub⟩
theorem e_mul (ha : PEM ct X W a ta ma) (hb : PEM ct X W b tb mb) : PEM ct X W (.BinOp a .Mult b pos) (tOp rMulAll ta tb) (mBin oMul ma mb) := ⟨pe_op op_mulAll ha.pe hb.pe, sim_op ha.sim hb.sim so_mul⟩
theorem e_div (ha : PEM ct X W a ta ma) (hb : PEM ct X W b tb mb) : PEM ct X W (.BinOp a .FloorDiv b pos) (tOp rDivI ta tb) (mBin oDiv ma mb) := ⟨pe_op op_divI ha.pe hb.pe, sim_op ha.sim hb.sim so_div⟩
theorem e_mod (ha : PEM ct X W a ta ma) (hb : PEM ct X W b tb mb) : PEM ct X W (.BinOp a .Mod b pos) (tOp rModI ta tb) (mBin oMod ma mb) := ⟨pe_op op_modI ha.pe hb.pe, sim_op ha.sim hb.sim so_mod⟩
theorem e_pow (ha : PEM ct X W a ta ma) (hb : PEM ct X W b tb mb) : PEM ct X W (.BinOp a .Pow b pos) (tOp (rI CPow fun i j => .int (i ^ j.toNat)) ta tb) (mBin oPow ma mb) := ⟨pe_op op_pow ha.pe hb.pe, sim_op ha.sim hb.sim so_pow⟩
theorem e_neg (ha : PEM ct X W a ta ma) : PEM ct X W (.UnaryOp .USub a pos) (tUn (rU fun i => .int (-i)) ta) (mUn oNeg ma) := ⟨pe_un un_neg ha.pe, sim_un ha.sim su_neg⟩
theorem e_cmp {op : CmpOp} {r : R2} {f : MV → MV → EM} (ho : OpR X (compareOp op) r) (so : SimOp ⟨X.K, ct⟩ r f) (hm : behindInMarks op b = false) (ha : PEM ct X W a ta ma) (hb : PEM ct X W b tb mb) : PEM ct X W (.Compare a [op] [b] pos) (tOp r ta tb) (mBin f ma mb) := ⟨pe_cmpR ho ha.pe hb.pe hm, sim_op ha.sim hb.sim so⟩
theorem t_cmp {op : CmpOp} {r : R2} {f : MV → MV → EM} (ho : OpR X (compareOp op) r) (so : SimOp ⟨X.K, ct⟩ r f) (hm : behindInMarks op b = false) (ha : PEM ct X W a ta ma) (hb : PEM ct X W b tb mb) : PTM ct X W (.Compare a [op] [b] pos) (tTest (tOp r ta tb)) (tOf (mBin f ma mb)) := ⟨pt_cmpR ho ha.pe hb.pe hm, sim_test (sim_op ha.sim hb.sim so)⟩
theorem t_val (h : PEM ct X W e te me) (he : ∀ whole, isTrue e X.env whole = (do let v ← whole; standAt e.pos; holding [v] (truthy v)) := by intro _; rfl) : PTM ct X W e (tB te) (tOf me) := ⟨pt_val h.pe he, sim_tB h.sim⟩
theorem w_and1 (ha : PTM ct X W a tt mt) : PWM ct X W (.BoolOp .And [a] pos) tt mt := ⟨pw_and1 ha.pe, ha.sim⟩
theorem w_or1 (ha : PTM ct X W a tt mt) : PWM ct X W (.BoolOp .Or [a] pos) tt mt := ⟨pw_or1 ha.pe, ha.sim⟩
theorem w_and (ha : PTM ct X W a tt mt) (hb : PWM ct X W (.BoolOp .And (b :: rest) pos) tu mu) : PWM ct X W (.BoolOp .And (a :: b :: rest) pos) (tAnd tt tu) (tAndM mt mu) := ⟨pw_and ha.pe hb.pe, sim_and ha.sim hb.sim⟩
theorem w_or (ha : PTM ct X W a tt mt) (hb : PWM ct X W (.BoolOp .Or (b :: rest) pos) tu mu) : PWM ct X W (.BoolOp .Or (a :: b :: rest) pos) (tOr tt tu) (tOrM mt mu) := ⟨pw_or ha.pe hb.pe, sim_or ha.sim hb.sim⟩
theorem t_w (h : PWM ct X W e tt mt) : PTM ct X W e tt mt := ⟨h.pe.pt, h.sim⟩
theorem t_not (h : PTM ct X W a tt mt) : PTM ct X W (.UnaryOp .Not a pos) (tNot tt) (tNotM mt) := ⟨pt_not h.pe, sim_not h.sim⟩
theorem e_one {op} (h : PEM ct X W a ta ma) : PEM ct X W (.BoolOp op [a] pos) ta ma := ⟨pe_one h.pe, h.sim⟩
theorem e_and (ha : PEM ct X W a ta ma) (hb : PEM ct X W (.BoolOp .And (b :: rest) pos) tb mb) : PEM ct X W (.BoolOp .And (a :: b :: rest) pos) (tAndV ta tb) (mAndV ma mb) := ⟨pe_and ha.pe hb.pe, sim_andV ha.sim hb.sim⟩
theorem e_or (ha : PEM ct X W a ta ma) (hb : PEM ct X W (.BoolOp .Or (b :: rest) pos) tb mb) : PEM ct X W (.BoolOp .Or (a :: b :: rest) pos) (tOrV ta tb) (mOrV ma mb) := ⟨pe_or ha.pe hb.pe, sim_orV ha.sim hb.sim⟩
theorem e_not (ha : PEM ct X W a ta ma) : PEM ct X W (.UnaryOp .Not a pos) (tNotV ta) (mNotV ma) := ⟨pe_not ha.pe, sim_notV ha.sim⟩
theorem e_if (hc : PTM ct X W c tt mt) (ha : PEM ct X W a ta ma) (hb : PEM ct X W b tb mb) : PEM ct X W (.IfExp c a b pos) (tIf tt ta tb) (mIte mt ma mb) := ⟨pe_ifExp hc.pe ha.pe hb.pe, sim_if hc.sim ha.sim hb.sim⟩
theorem a_nil : PAM ct X W [] tNil aNil := ⟨pa_nil, sim_nil⟩
theorem a_cons (ha : PEM ct X W e te me) (hr : PAM ct X W es tr mr) (hs : starEach (e :: es) X.env = (false, eval e X.env) :: starEach es X.env := by rfl) : PAM ct X W (e :: es) (tCons te tr) (aCons me mr) := ⟨pa_cons ha.pe hr.pe hs, sim_cons ha.sim hr.sim⟩
theorem e_tup {x1} (h : PAM ct X W es tr mr) : PEM ct X W (.Tuple es x1 pos) (tTup tr) (mArg oTup mr) := ⟨pe_tup h.pe, sim_tup h.sim⟩
theorem e_lst (h : PAM ct X W es tr mr) : PEM ct X W (.List es pos) (tLst tr) (mArg oLst mr) := ⟨pe_lst h.pe, sim_lst h.sim⟩
theorem e_ix (ha : PEM ct X W a ta ma) (hb : PEM ct X W b tb mb) (hs : PlainIx b := by exact fun _ _ => rfl) : PEM ct X W (.Subscript a b pos) (tOp (rIx X.K) ta tb) (mBin oIdx ma mb) := ⟨pe_ix ix_seq ha.pe hb.pe hs, sim_op ha.sim hb.sim so_idx⟩
theorem e_callB {id : String} {x : Str} {r : List V → Hp → VK → Prop} {f : List MV → EM} (hc : CallR X (.builtin id) r) (sc : SimC ⟨X.K, ct⟩ r f) (hm : X.mg x = none) (ha : PAM ct X W (e :: es) tr mr) (hg : Gl X x := by rfl) (hv : bootBuiltins x = some (.builtin id) := by decide +kernel) (hn : x ≠ "__name__" := by decide) (hdb : (x == ("__debug__" : Str)) = false := by decide)
    (he : starEach (e :: es) X.env = (false, eval e X.env) :: starEach es X.env := by rfl) (hpl : (backTo pos (starEach es X.env)).any (·.1) = false := by rfl) : PEM ct X W (.Call (.Name x p) (e :: es) [] pos) (tCB r tr) (mArg f mr) := ⟨pe_callB hc hg hm hv ha.pe hn hdb he hpl, sim_cb ha.sim sc⟩
theorem e_callTy {T : String} {x : Str} {r : List V → Hp → VK → Prop} {f : List MV → EM} (hc : CallR X (.type T) r) (sc : SimC ⟨X.K, ct⟩ r f) (hm : X.mg x = none) (ha : PAM ct X W (e :: es) tr mr) (hg : Gl X x := by rfl) (hv : bootBuiltins x = some (.type T) := by decide +kernel) (hn : x ≠ "__name__" := by decide) (hdb : (x == ("__debug__" : Str)) = false := by decide)
    (he : starEach (e :: es) X.env = (false, eval e X.env) :: starEach es X.env := by rfl) (hpl : (backTo pos (starEach es X.env)).any (·.1) = false := by rfl) : PEM ct X W (.Call (.Name x p) (e :: es) [] pos) (tCB r tr) (mArg f mr) := ⟨pe_callTy hc hg hm hv ha.pe hn hdb he hpl, sim_cb ha.sim sc⟩
/-- isinstance(a, T), T a built-in class by its name -/
theorem e_isi {y : Str} {T : String} (hmi : X.mg "isinstance" = none) (hmT : X.mg y = none) (ha : PEM ct X W a ta ma) (hgi : Gl X "isinstance" := by rfl) (hgT : Gl X y := by rfl) (hvT : bootBuiltins y = some (.type T) := by decide +kernel) (hn : y ≠ "__name__" := by decide) (hdb : (y == ("__debug__" : Str)) = false := by decide)
    (hs : starEach [Expr.Name y p2] X.env = (false, eval (.Name y p2) X.env) :: starEach [] X.env := by rfl) (he : starEach (a :: [Expr.Name y p2]) X.env = (false, eval a X.env) :: starEach [Expr.Name y p2] X.env := by rfl) (hpl : (backTo pos (starEach [Expr.Name y p2] X.env)).any (·.1) = false := by rfl) :
    PEM ct X W (.Call (.Name "isinstance" p) [a, .Name y p2] [] pos) (tCB (rIsi X.K) (tCons ta (tCons (tC (.ty T)) tNil))) (mUn (oIsi T) ma) :=
  ⟨pe_callB call_isi hgi hmi (by decide +kernel) (pa_cons ha.pe (pa_cons (pe_bltn hgT hmT hvT rfl hn hdb) pa_nil hs) he) (by decide) (by decide) he hpl, sim_isi T ha.sim⟩
theorem e_call {k : Nat} {f : Addr} {fd : FuncData} {ps : List Str} {fn : FM} {x : Str} (F : FnOk X.prog X.w X.K X.mg X.base (L2.CX X.prog X.w) k f fd ps (spM ⟨X.K, ct⟩ fn)) (hr : Room k X.A) (hm : X.mg x = some (.ref f)) (hk : PySem.W.keepIn X.K (.ref f) = true) (hb : Binds X.K fd ps []) (tk : Takes X W)
    (ha : PAM ct X W (e :: es) tr mr) (hg : Gl X x := by rfl) (hdb : (x == ("__debug__" : Str)) = false := by decide) (he : starEach (e :: es) X.env = (false, eval e X.env) :: starEach es X.env := by rfl) (hpl : (backTo pos (starEach es X.env)).any (·.1) = false := by rfl) :
    PEM ct X W (.Call (.Name x p) (e :: es) [] pos) (tCallS (spM ⟨X.K, ct⟩ fn) (WE W) tr) (mCall fn mr) := ⟨pe_callS F hr hg hm hk hb (fun σ => passAt tk σ) ha.pe hdb he hpl, sim_call ha.sim⟩
end

section
variable {ct : String → Addr} {X : Cx} {W : WX} {a b c e o : Expr} {es : List Expr} {te : TE} {tt : TT} {tr : TA} {me : EM} {mt : TM} {mr : AM} {pos p p2 : Pos} {st : Stmt} {sts bs : List Stmt} {ta tb : TS} {ma mb : SM} {ts us : List Nat} {g : TG} {gs : TGs} {mg : GM} {mgs : List MV → MS → Option MS}
theorem g_name (i : Nat) {x : Str} (hN : X.N.Nodup) (hi : X.N[i]? = some x := by rfl) (hx : Loc X.env.scope x := by first | exact Or.inl rfl | exact Or.inr rfl) (hf : X.fn x = true ∨ X.env.scope.names.lookup x = some .local := by first | exact .inl rfl | exact .inr rfl) : PGM ct X (.Name x pos) [i] (gName i) (gSet i) :=
  ⟨pg_name hN hi hx hf, sg_name i⟩
theorem gs_nil : PGsM ct X [] [] gNil gsNilM := ⟨pgs_nil, sgs_nil⟩
theorem gs_cons (h1 : PGM ct X e ts g mg) (h2 : PGsM ct X es us gs mgs) (hs : (assignEach (e :: es) X.env).map (·.2) = assign e X.env :: (assignEach es X.env).map (·.2) := by rfl) : PGsM ct X (e :: es) (ts ++ us) (gCons g gs) (gsConsM mg mgs) := ⟨pgs_cons h1.pe h2.pe hs, sgs_cons h1.sim h2.sim⟩
theorem g_tup {k n : Nat} (h : PGsM ct X es ts gs mgs) (hc : X.calm = true := by rfl) (hn : (assignEach es X.env).length = n := by rfl) (hst : (assignEach es X.env).findIdx? (·.1) = none := by rfl) : PGM ct X (.Tuple es k pos) ts (gTup X.K n gs) (gTupM n mgs) := ⟨pg_tup hc h.pe hn hst, sg_tup h.sim⟩
theorem i_list {tg : Expr} (h : PEM ct X W e te me) : PIM ct X W tg e (iList X.K te) (iOf me) := ⟨pi_list h.pe, si_list h.sim⟩
theorem i_tup {tg : Expr} (h : PEM ct X W e te me) : PIM ct X W tg e (iTup X.K te) (iOfT me) := ⟨pi_tup h.pe, si_tup h.sim⟩
theorem i_str {tg : Expr} (h : PEM ct X W e te me) : PIM ct X W tg e (iStr te) (iSigns me) := ⟨pi_str h.pe, si_str h.sim⟩
theorem i_r1 {tg : Expr} (hm : X.mg "range" = none) (h : PAM ct X W [a] tr mr) (hg : Gl X "range" := by rfl) (hs : starEach [a] X.env = [(false, eval a X.env)] := by rfl) : PIM ct X W tg (.Call (.Name "range" p) [a] [] pos) (iRng1 tr) (iR1 mr) := ⟨pi_range1 hg hm h.pe hs, si_r1 h.sim⟩
theorem i_r2 {tg : Expr} (hm : X.mg "range" = none) (h : PAM ct X W [a, b] tr mr) (hg : Gl X "range" := by rfl) (hs : starEach [a, b] X.env = [(false, eval a X.env), (false, eval b X.env)] := by rfl) (hs2 : starEach [b] X.env = [(false, eval b X.env)] := by rfl) :
    PIM ct X W tg (.Call (.Name "range" p) [a, b] [] pos) (iRng2 tr) (iR2 mr) := ⟨pi_range2 hg hm h.pe hs hs2, si_r2 h.sim⟩
theorem i_r3 {tg : Expr} (hm : X.mg "range" = none) (h : PAM ct X W [a, b, c] tr mr) (hg : Gl X "range" := by rfl) (hs : starEach [a, b, c] X.env = (false, eval a X.env) :: starEach [b, c] X.env := by rfl) (hpl : (backTo pos (starEach [b, c] X.env)).any (·.1) = false := by rfl) :
    PIM ct X W tg (.Call (.Name "range" p) [a, b, c] [] pos) (iRng3 tr) (iR3 mr) := ⟨pi_range3 hg hm h.pe hs hpl, si_r3 h.sim⟩
theorem b_nil : PSsM ct X W [] tNext mNx := ⟨pss_nil, ss_nx⟩
theorem b_cons (h1 : PSM ct X W st ta ma) (h2 : PSsM ct X W sts tb mb) : PSsM ct X W (st :: sts) (tSeq ta tb) (mSeq ma mb) := ⟨pss_cons h1.pe h2.pe, ss_seq h1.sim h2.sim⟩
theorem b_one (h1 : PSM ct X W st ta ma) : PSsM ct X W [st] ta ma := ⟨pss_one h1.pe, h1.sim⟩
theorem s_pass : PSM ct X W (.Pass pos) tNext mNx := ⟨ps_pass, ss_nx⟩
theorem s_brk : PSM ct X W (.Break pos) tBreak mBrk := ⟨ps_break, ss_brk⟩
theorem s_ct : PSM ct X W (.Continue pos) tCont mCt := ⟨ps_continue, ss_ct⟩
theorem s_if (ht : PTM ct X W c tt mt) (ha : PSsM ct X W sts ta ma) (hb : PSsM ct X W bs tb mb) : PSM ct X W (.If c sts bs pos) (tIfS tt ta tb) (mIf mt ma mb) := ⟨ps_if ht.pe ha.pe hb.pe, ss_if ht.sim ha.sim hb.sim⟩
theorem s_ret (h : PEM ct X W e te me) : PSM ct X W (.Return (some e) pos) (tRet te) (mRet me) := ⟨ps_ret h.pe, ss_ret h.sim⟩
theorem s_retN : PSM ct X W (.Return none pos) tRetN mRetN := ⟨ps_retN, ss_retN⟩
theorem s_expr (h : PEM ct X W e te me) (hs : swapsWith e none pos.line X.env = pure false := by rfl) : PSM ct X W (.Expr e pos) (tDrop te) (mDrop me) := ⟨ps_expr h.pe hs, ss_drop h.sim⟩
theorem s_set (i : Nat) {x : Str} (hN : X.N.Nodup) (h : PEM ct X W e te me) (hi : X.N[i]? = some x := by rfl) (hx : Loc X.env.scope x := by first | exact Or.inl rfl | exact Or.inr rfl) (hs : swapsWith e (some (.Name x p)) pos.line X.env = pure false := by rfl) (hf : X.fn x = true ∨ X.env.scope.names.lookup x = some .local := by first | exact .inl rfl | exact .inr rfl) :
    PSM ct X W (.Assign [.Name x p] e pos) (tAsg te (gName i)) (mAsg (gSet i) me) := ⟨ps_set hN hi hx h.pe hs hf, ss_asg h.sim (sg_name i)⟩
theorem s_asg {tg : Expr} (h : PEM ct X W e te me) (hg : PGM ct X tg ts g mg) (hs : swapsWithSole [tg] e pos.line X.env = pure false := by rfl) (hw : swappedStores [tg] e X.env = pure none := by rfl) (h1 : (assignEach [tg] X.env).map (·.2) = [assign tg X.env] := by rfl) : PSM ct X W (.Assign [tg] e pos) (tAsg te g) (mAsg mg me) := ⟨ps_asg h.pe hg.pe hs hw h1, ss_asg h.sim hg.sim⟩
theorem s_while (hp : PassesOwn (model X.prog X.w) X.A X.env X.xe) (ht : PTM ct X W c tt mt) (hb : PSsM ct X W sts ta ma) : PSM ct X W (.While c sts [] pos) (tWhile tt ta) (mWhile mt ma) := ⟨ps_while hp ht.pe hb.pe, ss_while ht.sim hb.sim⟩
theorem s_for {tg : Expr} {wi : TI} {mi : AM} (hp : PassesOwn (model X.prog X.w) X.A X.env X.xe) (hi : PIM ct X W tg e wi mi) (hg : PGM ct X tg ts g mg) (hb : PSsM ct X W sts ta ma) (hc : X.calm = true := by rfl) (hs : ∀ x, foldedSetIterable e X.env x = pure x := by intro _; rfl) : PSM ct X W (.For tg e sts [] pos) (tFor wi g ta) (mFor mi mg ma) :=
  ⟨ps_for hp hc hi.pe hg.pe hb.pe hs, ss_for hi.sim hg.sim hb.sim⟩
end
end M

namespace M
open PySem L2
/-- a def that stands as a global name and does what fn does -/
structure FnI (ct : String → Addr) (P : Program) (w : World) (K : PySem.W.Frag) (mg : Str → Option Value) (base : Heap) (x : Str) (k : Nat) (fn : FM) : Prop where
  ex : ∃ f fd ps, FnOk P w K mg base (L2.CX P w) k f fd ps (spM ⟨K, ct⟩ fn) ∧ mg x = some (.ref f) ∧ PySem.W.keepIn K (.ref f) = true ∧ Binds K fd ps []
theorem e_fn {ct : String → Addr} {X : Cx} {W : WX} {e : Expr} {es : List Expr} {mr : AM} {p pos : Pos} {k : Nat} {fn : FM} {x : Str} {tr : TA} (I : FnI ct X.prog X.w X.K X.mg X.base x k fn) (hr : Room k X.A) (tk : Takes X W)
    (ha : PAM ct X W (e :: es) tr mr) (hg : Gl X x := by rfl) (hdb : (x == ("__debug__" : Str)) = false := by decide) (he : starEach (e :: es) X.env = (false, eval e X.env) :: starEach es X.env := by rfl) (hpl : (backTo pos (starEach es X.env)).any (·.1) = false := by rfl) :
    PEM ct X W (.Call (.Name x p) (e :: es) [] pos) (tCallS (spM ⟨X.K, ct⟩ fn) (WE W) tr) (mCall fn mr) := by
  obtain ⟨f, fd, ps, F, hm, hk, hb⟩ := I.ex
  exact e_call F hr hm hk hb tk ha hg hdb he hpl
def fn1 (g : MV → MHeap → RF) : FM := fun xs G => match xs with
  | [a] => g a G
  | _ => .stuck
def fn2 (g : MV → MV → MHeap → RF) : FM := fun xs G => match xs with
  | [a, b] => g a b G
  | _ => .stuck
def fn3 (g : MV → MV → MV → MHeap → RF) : FM := fun xs G => match xs with
  | [a, b, c] => g a b c G
  | _ => .stuck
def fn4 (g : MV → MV → MV → MV → MHeap → RF) : FM := fun xs G => match xs with
  | [a, b, c, d] => g a b c d G
  | _ => .stuck
def fn5 (g : MV → MV → MV → MV → MV → MHeap → RF) : FM := fun xs G => match xs with
  | [a, b, c, d, e] => g a b c d e G
  | _ => .stuck
theorem fn1_len {g : MV → MHeap → RF} (ms : List MV) (G : MHeap) (h : fn1 g ms G ≠ .stuck) : ms.length = 1 := by
  unfold fn1 at h; split at h
  · rfl
  · exact absurd rfl h
theorem fn2_len {g : MV → MV → MHeap → RF} (ms : List MV) (G : MHeap) (h : fn2 g ms G ≠ .stuck) : ms.length = 2 := by
  unfold fn2 at h; split at h
  · rfl
  · exact absurd rfl h
theorem fn3_len {g : MV → MV → MV → MHeap → RF} (ms : List MV) (G : MHeap) (h : fn3 g ms G ≠ .stuck) : ms.length = 3 := by
  unfold fn3 at h; split at h
  · rfl
  · exact absurd rfl h
theorem fn4_len {g : MV → MV → MV → MV → MHeap → RF} (ms : List MV) (G : MHeap) (h : fn4 g ms G ≠ .stuck) : ms.length = 4 := by
  unfold fn4 at h; split at h
  · rfl
  · exact absurd rfl h
theorem fn5_len {g : MV → MV → MV → MV → MV → MHeap → RF} (ms : List MV) (G : MHeap) (h : fn5 g ms G ≠ .stuck) : ms.length = 5 := by
  unfold fn5 at h; split at h
  · rfl
  · exact absurd rfl h
theorem fn1_run {g : MV → MHeap → RF} {b : SM} {n : Nat} (h : ∀ x G, g x G ≠ .stuck → runB b n [x] G = g x G) (ms : List MV) (G : MHeap) (hn : fn1 g ms G ≠ .stuck) : runB b n ms G = fn1 g ms G := by
  unfold fn1 at hn ⊢; split at hn
  · exact h _ _ hn
  · exact absurd rfl hn
theorem fn2_run {g : MV → MV → MHeap → RF} {b : SM} {n : Nat} (h : ∀ x y G, g x y G ≠ .stuck → runB b n [x, y] G = g x y G) (ms : List MV) (G : MHeap) (hn : fn2 g ms G ≠ .stuck) : runB b n ms G = fn2 g ms G := by
  unfold fn2 at hn ⊢; split at hn
  · exact h _ _ _ hn
  · exact absurd rfl hn
theorem fn3_run {g : MV → MV → MV → MHeap → RF} {b : SM} {n : Nat} (h : ∀ x y z G, g x y z G ≠ .stuck → runB b n [x, y, z] G = g x y z G) (ms : List MV) (G : MHeap) (hn : fn3 g ms G ≠ .stuck) : runB b n ms G = fn3 g ms G := by
  unfold fn3 at hn ⊢; split at hn
  · exact h _ _ _ _ hn
  · exact absurd rfl hn
theorem fn4_run {g : MV → MV → MV → MV → MHeap → RF} {b : SM} {n : Nat} (h : ∀ x y z u G, g x y z u G ≠ .stuck → runB b n [x, y, z, u] G = g x y z u G) (ms : List MV) (G : MHeap) (hn : fn4 g ms G ≠ .stuck) : runB b n ms G = fn4 g ms G := by
  unfold fn4 at hn ⊢; split at hn
  · exact h _ _ _ _ _ hn
  · exact absurd rfl hn
theorem fn5_run {g : MV → MV → MV → MV → MV → MHeap → RF} {b : SM} {n : Nat} (h : ∀ x y z u v G, g x y z u v G ≠ .stuck → runB b n [x, y, z, u, v] G = g x y z u v G) (ms : List MV) (G : MHeap) (hn : fn5 g ms G ≠ .stuck) : runB b n ms G = fn5 g ms G := by
  unfold fn5 at hn ⊢; split at hn
  · exact h _ _ _ _ _ _ hn
  · exact absurd rfl hn
/-- the law's own: a script of at most 63 ints -/
def LawDom (args : List MV) (ns : List Int) : Prop := args = [.scr (ns.map MV.int)] ∧ ns.length ≤ 63 ∧ ∀ z ∈ ns, Builtin.Int.intBits z ≤ 1048576
open Classical in
noncomputable def fnLaw (b : SM) (n : Nat) : FM := fun args G => if (∃ ns, LawDom args ns) ∧ ∃ G', runB b n args G = .ok (.bl true) G' then runB b n args G else .stuck
theorem fnLaw_len {b : SM} {n : Nat} (ms : List MV) (G : MHeap) (h : fnLaw b n ms G ≠ .stuck) : ms.length = 1 := by
  unfold fnLaw at h; split at h
  · rename_i q
    obtain ⟨⟨ns, rfl, _⟩, _⟩ := q
    rfl
  · exact absurd rfl h
theorem fnLaw_run {b : SM} {n : Nat} (ms : List MV) (G : MHeap) (hn : fnLaw b n ms G ≠ .stuck) : runB b n ms G = fnLaw b n ms G := by
  unfold fnLaw at hn ⊢; split at hn
  · rename_i q
    rw [if_pos q]
  · exact absurd rfl hn
/-- what is left to be shown of a law -/
def LawOk (b : SM) (n : Nat) : Prop := ∀ ns : List Int, ns.length ≤ 63 → (∀ z ∈ ns, z.natAbs.log2 < 1048577) → ∃ G', runB b n [.scr (ns.map MV.int)] [] = .ok (.bl true) G'
theorem law_sp {b : SM} {n : Nat} (hrun : ∀ ns : List Int, ns.length ≤ 63 → (∀ z ∈ ns, Builtin.Int.intBits z ≤ 1048576) → ∃ G', runB b n [.scr (ns.map MV.int)] [] = .ok (.bl true) G') {K : PySem.W.Frag} {ct : String → Addr} {H : Hp} {a : Addr} {ns : List Int} (h1 : ns.length ≤ 63) (h2 : ∀ z ∈ ns, Builtin.Int.intBits z ≤ 1048576) (h3 : SqL K H a (ns.map V.int)) : spM ⟨K, ct⟩ (fnLaw b n) [.ref a] H (fun v _ => v = .bl true) fun _ _ _ => False := by
  have S : SR ⟨K, ct⟩ (fun _ => False) [] O0 ⟨[], []⟩ [] H := by
    refine ⟨?_, rfl, rfl, List.nodup_nil, ?_, ?_, ?_, fun _ _ => rfl, ?_, ?_⟩
    · intro b h; exact h.elim
    · intro b h; simp at h
    · intro i b h; cases h
    · intro i j b h; cases h
    · intro i x h; simp at h
    · intro n o h; simp at h
  have e : view (fun _ => False) [] O0 H = H := by
    funext b
    unfold view
    rw [if_neg]
    rintro (h | h | ⟨_, h⟩)
    · exact h
    · simp at h
    · cases h
  refine ⟨fun _ => False, [], [], [.scr (ns.map MV.int)], S, by rw [e]; exact .cons (.scr h3 (Reps.ints ns)) .nil, ?_⟩
  obtain ⟨G', hr⟩ := hrun ns h1 h2
  unfold fnLaw
  rw [if_pos ⟨⟨ns, rfl, h1, h2⟩, G', hr⟩, hr]
  intro ρ' H' v _ _ r
  cases r
  rfl
end M

namespace M
open PySem L2
theorem mWhile_if (c : TM) (b : SM) (s : MS) : mWhile c b s = (c s).bind fun x s1 => if x = true then (b s1).bind fun f s2 => (match f with
    | .nx => mWhile c b s2
    | .ct => mWhile c b s2
    | .bk => .ok .nx s2
    | .rt x => .ok (.rt x) s2) else .ok .nx s1 := by
  rw [mWhile_step]
  cases e : c s with
  | ok x s1 =>
    cases x with
    | false => rfl
    | true =>
      simp only [R.bind_ok, if_true]
      cases b s1 with
      | ok f s2 => cases f <;> rfl
      | exc x s2 => rfl
      | stuck => rfl
  | exc x s1 => rfl
  | stuck => rfl
theorem forM_nil (g : GM) (b : SM) (s : MS) : forM g b [] s = .ok .nx s := rfl
theorem forM_cons (g : GM) (b : SM) (x : MV) (xs : List MV) (s : MS) : forM g b (x :: xs) s = (match g x s with
    | none => .stuck
    | some s1 => (b s1).bind fun f s2 => (match f with
      | .nx => forM g b xs s2
      | .ct => forM g b xs s2
      | .bk => .ok .nx s2
      | .rt x => .ok (.rt x) s2)) := by
  show (match g x s with
    | none => R.stuck
    | some s1 => match b s1 with
      | .ok .nx s2 => forM g b xs s2
      | .ok .ct s2 => forM g b xs s2
      | .ok .bk s2 => .ok .nx s2
      | .ok (.rt x) s2 => .ok (.rt x) s2
      | .exc x s2 => .exc x s2
      | .stuck => .stuck) = _
  cases g x s with
  | none => rfl
  | some s1 =>
    dsimp only
    cases b s1 with
    | ok f s2 => cases f <;> rfl
    | exc x s2 => rfl
    | stuck => rfl
theorem fmod_pos {i j : Int} (h : 0 < j) : i.fmod j = i % j := Int.fmod_eq_emod_of_nonneg _ (Int.le_of_lt h)
theorem fdiv_pos {i j : Int} (h : 0 < j) : i.fdiv j = i / j := Int.fdiv_eq_ediv_of_nonneg _ (Int.le_of_lt h)
theorem abs_eq (a : Int) : (if a < 0 then -a else a) = (a.natAbs : Int) := by split <;> omega
theorem log2_lt {n k : Nat} (h0 : 0 < k) (h : n < 2 ^ k) : n.log2 < k := PySem.Flt.log2_lt_of h0 h
theorem mulOk_of {i j : Int} (a b : Nat) (h1 : i.natAbs.log2 < a) (h2 : j.natAbs.log2 < b) (h : a + b ≤ 90000000) : mulOk i j := by unfold mulOk; omega
theorem log2_mul (a b : Nat) : (a * b).log2 ≤ a.log2 + b.log2 + 1 := by
  by_cases ha : a = 0
  · subst ha; simp
  by_cases hb : b = 0
  · subst hb; simp
  have h1 := Nat.lt_log2_self (n := a)
  have h2 := Nat.lt_log2_self (n := b)
  have h3 : a * b < 2 ^ (a.log2 + b.log2 + 2) := by
    have : 2 ^ (a.log2 + b.log2 + 2) = 2 ^ (a.log2 + 1) * 2 ^ (b.log2 + 1) := by rw [← Nat.pow_add]; congr 1; omega
    rw [this]
    exact Nat.mul_lt_mul'' h1 h2
  have := log2_lt (by omega) h3
  omega
theorem log2_mono {a b : Nat} (h : a ≤ b) : a.log2 ≤ b.log2 := by
  by_cases ha : a = 0
  · subst ha; simp
  have h2 := Nat.lt_log2_self (n := b)
  have := log2_lt (k := b.log2 + 1) (by omega) (Nat.lt_of_le_of_lt h h2)
  omega
end M

namespace M
open PySem L2
theorem kit_NoneType_int : kitB "NoneType" "int" = some false := by decide +kernel
theorem kit_NoneType_bool : kitB "NoneType" "bool" = some false := by decide +kernel
theorem kit_NoneType_str : kitB "NoneType" "str" = some false := by decide +kernel
theorem kit_NoneType_list : kitB "NoneType" "list" = some false := by decide +kernel
theorem kit_NoneType_tuple : kitB "NoneType" "tuple" = some false := by decide +kernel
theorem kit_NoneType_dict : kitB "NoneType" "dict" = some false := by decide +kernel
theorem kit_bool_int : kitB "bool" "int" = some true := by decide +kernel
theorem kit_bool_bool : kitB "bool" "bool" = some true := by decide +kernel
theorem kit_bool_str : kitB "bool" "str" = some false := by decide +kernel
theorem kit_bool_list : kitB "bool" "list" = some false := by decide +kernel
theorem kit_bool_tuple : kitB "bool" "tuple" = some false := by decide +kernel
theorem kit_bool_dict : kitB "bool" "dict" = some false := by decide +kernel
theorem kit_int_int : kitB "int" "int" = some true := by decide +kernel
theorem kit_int_bool : kitB "int" "bool" = some false := by decide +kernel
theorem kit_int_str : kitB "int" "str" = some false := by decide +kernel
theorem kit_int_list : kitB "int" "list" = some false := by decide +kernel
theorem kit_int_tuple : kitB "int" "tuple" = some false := by decide +kernel
theorem kit_int_dict : kitB "int" "dict" = some false := by decide +kernel
theorem kit_str_int : kitB "str" "int" = some false := by decide +kernel
theorem kit_str_bool : kitB "str" "bool" = some false := by decide +kernel
theorem kit_str_str : kitB "str" "str" = some true := by decide +kernel
theorem kit_str_list : kitB "str" "list" = some false := by decide +kernel
theorem kit_str_tuple : kitB "str" "tuple" = some false := by decide +kernel
theorem kit_str_dict : kitB "str" "dict" = some false := by decide +kernel
theorem kit_tuple_int : kitB "tuple" "int" = some false := by decide +kernel
theorem kit_tuple_bool : kitB "tuple" "bool" = some false := by decide +kernel
theorem kit_tuple_str : kitB "tuple" "str" = some false := by decide +kernel
theorem kit_tuple_list : kitB "tuple" "list" = some false := by decide +kernel
theorem kit_tuple_tuple : kitB "tuple" "tuple" = some true := by decide +kernel
theorem kit_tuple_dict : kitB "tuple" "dict" = some false := by decide +kernel
theorem kit_list_int : kitB "list" "int" = some false := by decide +kernel
theorem kit_list_bool : kitB "list" "bool" = some false := by decide +kernel
theorem kit_list_str : kitB "list" "str" = some false := by decide +kernel
theorem kit_list_list : kitB "list" "list" = some true := by decide +kernel
theorem kit_list_tuple : kitB "list" "tuple" = some false := by decide +kernel
theorem kit_list_dict : kitB "list" "dict" = some false := by decide +kernel
end M

namespace M
open PySem L2
/-- where the module's classes stand -/
noncomputable def ctOf (K : PySem.W.Frag) (n : String) : Addr := match PySem.W.nsIn K mainGlobals (Str.ofString n) with
  | some (some (.ref a)) => a
  | _ => 0
theorem ctOf_eq {K : PySem.W.Frag} {n : String} {a : Addr} (h : PySem.W.nsIn K mainGlobals (Str.ofString n) = some (some (.ref a))) : ctOf K n = a := by
  unfold ctOf; rw [h]
end M

namespace M
open PySem L2
theorem walk_M {b : SM} {n : Nat} (hrun : ∀ ns : List Int, ns.length ≤ 63 → (∀ z ∈ ns, Builtin.Int.intBits z ≤ 1048576) → ∃ G', runB b n [.scr (ns.map MV.int)] [] = .ok (.bl true) G') {l : PySem.W.OpenLaw} {k : Nat} {q : Program} {loose : List Str} {XP : (Str → Option Value) → Heap → Prop} {YP : World → Heap → Prop} {d : DefRec} {K : Params → PySem.W.Frag} {x : Str}
    (hn : l.most = some 63) (hdf : d.params.defaults = []) (hr : Room k callerA)
    (hY : ∀ (w : World) (h : Heap), YP w h → (K w.params).In h)
    (F : ∀ (w : World) (mg : Str → Option Value) (fa : Addr) (h : Heap), (K w.params).In h → h.Ns mainGlobals mg → mg d.name = some (.ref fa) →
      ∃ fd : FuncData, (∀ (s : Shared) (u : Value), BindsTo s fd ⟨[u], []⟩ [(x, u)]) ∧
        ∀ base : Heap, (K w.params).In base → base.Ns mainGlobals mg → FnOk l.prog w (K w.params) mg base (L2.CX l.prog w) k fa fd [x] (spM ⟨K w.params, ctOf (K w.params)⟩ (fnLaw b n))) :
    PySem.W.WalkO q loose XP YP l.row.toRowW d [] (fun f vs => PySem.call f vs) :=
  L2.walk_ofB (K := K) (CX := fun w => L2.CX l.prog w) (sp := fun w => spM ⟨K w.params, ctOf (K w.params)⟩ (fnLaw b n)) hn (by decide) hdf hr hY F (fun w H a ns h1 h2 _ h3 => law_sp hrun h1 h2 h3)
    fun w H s e s' h => by
      obtain ⟨_, _, _, _, _, _, _, _, _, _, _, _, z⟩ := h
      exact z
end M

namespace M
open PySem L2
/-! ## evaluation, lemma by lemma -/
theorem oCmpI_int {p : Int → Int → Bool} {i j : Int} {s : MS} : oCmpI p (.int i) (.int j) s = .ok (.bl (p i j)) s := rfl
theorem oMul_ok {i j : Int} {s : MS} (h : mulOk i j) : oMul (.int i) (.int j) s = .ok (.int (i * j)) s := by unfold oMul; simp only [if_pos h]
theorem mulOk_lit {i j : Int} (h1 : -1000000000000000000000000000000000000000000000000000000000000000 < i) (h2 : i < 1000000000000000000000000000000000000000000000000000000000000000) (h3 : -1000000000000000000000000000000000000000000000000000000000000000 < j) (h4 : j < 1000000000000000000000000000000000000000000000000000000000000000) : mulOk i j := by
  have a : i.natAbs < 2 ^ 250 := by omega
  have b : j.natAbs < 2 ^ 250 := by omega
  have := log2_lt (by decide) a
  have := log2_lt (by decide) b
  unfold mulOk; omega
theorem oMul_lit {i j : Int} {s : MS} (h1 : -1000000000000000000000000000000000000000000000000000000000000000 < i) (h2 : i < 1000000000000000000000000000000000000000000000000000000000000000) (h3 : -1000000000000000000000000000000000000000000000000000000000000000 < j) (h4 : j < 1000000000000000000000000000000000000000000000000000000000000000) : oMul (.int i) (.int j) s = .ok (.int (i * j)) s := oMul_ok (mulOk_lit h1 h2 h3 h4)
theorem oMod_pos {i j : Int} {s : MS} (h : 0 < j) : oMod (.int i) (.int j) s = .ok (.int (i % j)) s := by
  unfold oMod; simp only; rw [if_pos (by omega), fmod_pos h]
theorem divOk_lt {j : Int} (h0 : 0 < j) (h : j < 1000000000000000000000000000000000000000000000000000000000000) : divOk j := by
  have : j.natAbs < 2 ^ 250 := by omega
  have := log2_lt (by decide) this
  unfold divOk; omega
theorem oDiv_ok {i j : Int} {s : MS} (h : 0 < j) (hd : divOk j) : oDiv (.int i) (.int j) s = .ok (.int (i / j)) s := by
  unfold oDiv; simp only; rw [if_pos ⟨by omega, hd⟩, fdiv_pos h]
theorem oDiv_lt {i j : Int} {s : MS} (h : 0 < j) (hd : j < 1000000000000000000000000000000000000000000000000000000000000) : oDiv (.int i) (.int j) s = .ok (.int (i / j)) s := oDiv_ok h (divOk_lt h hd)
theorem oPow_10 {j : Int} {s : MS} (h0 : 0 ≤ j) (h1 : j ≤ 1000) : oPow (.int 10) (.int j) s = .ok (.int (10 ^ j.toNat)) s := by
  unfold oPow; simp only; rw [if_pos (show powOk 10 j from ⟨h0, by omega, by decide⟩)]
theorem shaped_int (a : Int) : SeqAt.shaped (.int a) = true := by simp [SeqAt.shaped, PyData.canLay0, PyData.depth]
theorem oEq_int {a b : Int} {s : MS} : oEq (.int a) (.int b) s = .ok (.bl (decide (a = b))) s := by
  unfold oEq; simp only [toD, shaped_int, and_self, if_true, PyData.eqv, Bool.beq_eq_decide_eq]
theorem oNe_int {a b : Int} {s : MS} : oNe (.int a) (.int b) s = .ok (.bl (!decide (a = b))) s := by
  unfold oNe; simp only [toD, shaped_int, and_self, if_true, PyData.eqv, Bool.beq_eq_decide_eq]
def ofO (o : Option MV) (s : MS) : R MV := match o with
  | some m => .ok m s
  | none => .stuck
theorem ofO_some (m : MV) (s : MS) : ofO (some m) s = .ok m s := rfl
theorem oIdx_tup {xs : List MV} {i : Int} {s : MS} (h0 : 0 ≤ i) : oIdx (.tup xs) (.int i) s = ofO xs[i.toNat]? s := by
  unfold oIdx ofO; simp only [if_pos h0]; try (cases xs[i.toNat]? <;> rfl)
theorem oIdx_lst {xs : List MV} {i : Int} {s : MS} (h0 : 0 ≤ i) : oIdx (.lst xs) (.int i) s = ofO xs[i.toNat]? s := by
  unfold oIdx ofO; simp only [if_pos h0]; try (cases xs[i.toNat]? <;> rfl)
theorem oIdx_scr {xs : List MV} {i : Int} {s : MS} (h0 : 0 ≤ i) : oIdx (.scr xs) (.int i) s = ofO xs[i.toNat]? s := by
  unfold oIdx ofO; simp only [if_pos h0]; try (cases xs[i.toNat]? <;> rfl)
theorem oR1_ok {j : Int} {s : MS} (h0 : -4611686018427387904 ≤ j) (h1 : j < 4611686018427387904) : oR1 [.int j] s = .ok (rangeM 0 1 j.toNat) s := by
  unfold oR1; simp only; rw [if_pos (show r1Ok j from ⟨by omega, by omega⟩)]
theorem oR1_len {n : Nat} {s : MS} (h1 : n < 4611686018427387904) : oR1 [.int (n : Int)] s = .ok (rangeM 0 1 n) s := by
  rw [oR1_ok (by omega) (by omega), Int.toNat_natCast]
theorem oR2_ok {i j : Int} {s : MS} (h2 : -4611686018427387904 ≤ i) (h3 : i < 4611686018427387904) (h0 : -4611686018427387904 ≤ j) (h1 : j < 4611686018427387904) : oR2 [.int i, .int j] s = .ok (rangeM i 1 (j - i).toNat) s := by
  unfold oR2; simp only; rw [if_pos (show r2Ok i j from ⟨by omega, by omega, by omega, by omega⟩)]
theorem oR3_ok {i j c : Int} {s : MS} (h0 : 0 ≤ i) (h1 : i < 536870912) (h2 : 0 ≤ j) (h3 : j < 536870912) (h4 : 0 < c) (h5 : c < 1000000) : oR3 [.int i, .int j, .int c] s = .ok (rangeM i c (if i < j then ((j - i - 1) / c + 1).toNat else 0)) s := by
  unfold oR3; simp only; rw [if_pos (show r3Ok i j c from ⟨h0, by omega, h2, by omega, h4, h5⟩)]
theorem shaped_t2 (a b : Int) : SeqAt.shaped (.tuple [.int a, .int b]) = true := by
  simp [SeqAt.shaped, PyData.canLay0, PyData.canLayAll0, PyData.depth, PyData.depthAll]
theorem oEq_t2 {a b c d : Int} {s : MS} : oEq (.tup [.int a, .int b]) (.tup [.int c, .int d]) s = .ok (.bl (decide (a = c ∧ b = d))) s := by
  unfold oEq
  simp only [toD, toDs, Option.map_some, shaped_t2, and_self, if_true, PyData.eqv, PyData.eqvAll, Bool.beq_eq_decide_eq, Bool.and_true, Bool.decide_and]
theorem oNe_t2 {a b c d : Int} {s : MS} : oNe (.tup [.int a, .int b]) (.tup [.int c, .int d]) s = .ok (.bl (!decide (a = c ∧ b = d))) s := by
  unfold oNe
  simp only [toD, toDs, Option.map_some, shaped_t2, and_self, if_true, PyData.eqv, PyData.eqvAll, Bool.beq_eq_decide_eq, Bool.and_true, Bool.decide_and]
theorem oIdx_t0 {a : MV} {xs : List MV} {s : MS} : oIdx (.tup (a :: xs)) (.int 0) s = .ok a s := rfl
theorem oIdx_t1 {a b : MV} {xs : List MV} {s : MS} : oIdx (.tup (a :: b :: xs)) (.int 1) s = .ok b s := rfl
theorem oIdx_t2 {a b c : MV} {xs : List MV} {s : MS} : oIdx (.tup (a :: b :: c :: xs)) (.int 2) s = .ok c s := rfl
theorem bAbs_int {i : Int} {s : MS} : bAbs [.int i] s = .ok (.int i.natAbs) s := by unfold bAbs; simp only [abs_eq]
theorem oTup_ok {xs : List MV} {s : MS} (h : xs.length ≤ 16777216) : oTup xs s = .ok (.tup xs) s := by unfold oTup; rw [if_pos (show lim xs.length from h)]
theorem oLst_ok {xs : List MV} {s : MS} (h : xs.length ≤ 16777216) : oLst xs s = .ok (.lst xs) s := by unfold oLst; rw [if_pos (show lim xs.length from h)]
theorem oAdd_int {i j : Int} {s : MS} : oAdd (.int i) (.int j) s = .ok (.int (i + j)) s := rfl
theorem oAdd_str {i j : Str} {s : MS} (h : i.length + j.length ≤ 16777216) : oAdd (.str i) (.str j) s = .ok (.str (i ++ j)) s := by unfold oAdd; simp only [if_pos (show lim (i.length + j.length) from h)]
theorem oAdd_lst {i j : List MV} {s : MS} (h : i.length + j.length ≤ 16777216) : oAdd (.lst i) (.lst j) s = .ok (.lst (i ++ j)) s := by unfold oAdd; simp only [if_pos (show lim (i.length + j.length) from h)]
theorem bLen_lst {xs : List MV} {s : MS} : bLen [.lst xs] s = .ok (.int xs.length) s := rfl
theorem bLen_scr {xs : List MV} {s : MS} : bLen [.scr xs] s = .ok (.int xs.length) s := rfl
theorem bLen_tup {xs : List MV} {s : MS} : bLen [.tup xs] s = .ok (.int xs.length) s := rfl
theorem bLen_str {z : Str} {s : MS} (h : z.length ≤ 16777216) : bLen [.str z] s = .ok (.int z.length) s := by unfold bLen; simp only [if_pos (show lim z.length from h)]
/-- an int of at most n bits, by its bounds -/
theorem bits_lt {x : Int} (n : Nat) (h0 : 0 < n) (h : x.natAbs < 2 ^ n) : x.natAbs.log2 < n := log2_lt h0 h
theorem log2_sub (a b : Int) (n : Nat) (ha : a.natAbs.log2 < n) (hb : b.natAbs.log2 < n) : (a - b).natAbs.log2 < n + 1 := by
  have h1 := Nat.lt_log2_self (n := a.natAbs)
  have h2 := Nat.lt_log2_self (n := b.natAbs)
  have e1 : 2 ^ (a.natAbs.log2 + 1) ≤ 2 ^ n := Nat.pow_le_pow_right (by decide) ha
  have e2 : 2 ^ (b.natAbs.log2 + 1) ≤ 2 ^ n := Nat.pow_le_pow_right (by decide) hb
  refine log2_lt (by omega) ?_
  rw [Nat.pow_succ]
  omega
theorem log2_add (a b : Int) (n : Nat) (ha : a.natAbs.log2 < n) (hb : b.natAbs.log2 < n) : (a + b).natAbs.log2 < n + 1 := by
  have h1 := Nat.lt_log2_self (n := a.natAbs)
  have h2 := Nat.lt_log2_self (n := b.natAbs)
  have e1 : 2 ^ (a.natAbs.log2 + 1) ≤ 2 ^ n := Nat.pow_le_pow_right (by decide) ha
  have e2 : 2 ^ (b.natAbs.log2 + 1) ≤ 2 ^ n := Nat.pow_le_pow_right (by decide) hb
  refine log2_lt (by omega) ?_
  rw [Nat.pow_succ]
  omega
theorem log2_mulI (a b : Int) (n k : Nat) (ha : a.natAbs.log2 < n) (hb : b.natAbs.log2 < k) : (a * b).natAbs.log2 < n + k := by
  rw [Int.natAbs_mul]
  have := log2_mul a.natAbs b.natAbs
  omega
theorem log2_le_of {a b : Int} (h : a.natAbs ≤ b.natAbs) : a.natAbs.log2 ≤ b.natAbs.log2 := log2_mono h
/-- the script's ints -/
theorem script_log2 {z : Int} (h : Builtin.Int.intBits z ≤ 1048576) : z.natAbs.log2 < 1048577 := by
  unfold Builtin.Int.intBits at h
  split at h
  · rename_i e
    have : z = 0 := by simpa using e
    subst this; decide
  · omega
end M

namespace M
open PySem L2
open Classical

/-! ## slices -/
abbrev OM := MS → R (Option Int)
section
variable (K : KA) (X : Addr → Prop) (W : WX) (ρ : List Addr) (O : Nat → Option Addr) (H : Hp) (σ : St)
def PostO (r : R (Option Int)) (Q : Option Int → Hp → Prop) : Prop := match r with
  | .ok x s' => ∀ ρ' O' H', SR K X ρ' O' s' σ H' → Fut X ρ O H ρ' O' H' → Q x H'
  | .exc c s' => ∀ ρ' O' H', SR K X ρ' O' s' σ H' → Fut X ρ O H ρ' O' H' → W (.ref (K.ct c)) none σ H'
  | .stuck => False
end
def SimO (K : KA) (W : WX) (te : TO) (m : OM) : Prop := ∀ X ρ O s σ H Q, SR K X ρ O s σ H → PostO K X W ρ O H σ (m s) Q → te σ H Q
def oNoneM : OM := fun s => .ok none s
def oSomeM (e : EM) : OM := fun s => (e s).bind fun x s1 => match x with
  | .int i => .ok (some i) s1
  | _ => .stuck
def cutG {α : Type} (xs : List α) (lo hi : Option Int) : List α := (xs.drop (HT.sIx xs.length 0 lo)).take (HT.sIx xs.length xs.length hi - HT.sIx xs.length 0 lo)
noncomputable def oSl (x : MV) (lo hi : Option Int) : EM := fun s => match x with
  | .lst xs => .ok (.lst (cutG xs lo hi)) s
  | .scr xs => .ok (.lst (cutG xs lo hi)) s
  | .str z => if lim z.length then .ok (.str (cutS z lo hi)) s else .stuck
  | .ref n => (match s.G[n]? with
    | some (.lst xs) => .ok (.lst (cutG xs lo hi)) s
    | _ => .stuck)
  | _ => .stuck
theorem oSl_ref {n : Nat} {xs : List MV} {lo hi : Option Int} {s : MS} (h : s.G[n]? = some (.lst xs)) : oSl (.ref n) lo hi s = .ok (.lst (cutG xs lo hi)) s := by unfold oSl; simp only [h]
noncomputable def mSl (e : EM) (l h : OM) : EM := fun s => (e s).bind fun x s1 => (l s1).bind fun lo s2 => (h s2).bind fun hi s3 => oSl x lo hi s3
def rSlA (K : PySem.W.Frag) : V → Option Int → Option Int → Hp → VK → Prop := fun x lo hi H Q => rSlL K x lo hi H Q ∨ rSlS x lo hi H Q
theorem sl_all {X : Cx} : L2.SlR X (rSlA X.K) := sl_list.or sl_str
section
variable {K : KA} {X : Addr → Prop} {W : WX} {ρ ρ' : List Addr} {O O' : Nat → Option Addr} {s s' : MS} {σ : St} {H H' : Hp}
theorem SimO.bindE {te : TO} {m : OM} (h : SimO K W te m) (S : SR K X ρ O s σ H) {f : Option Int → MS → R MV} {Q : VK} (p : PostE K X W ρ O H σ ((m s).bind f) Q) {Q' : Option Int → Hp → Prop}
    (k : ∀ x s1 ρ1 O1 H1, SR K X ρ1 O1 s1 σ H1 → Fut X ρ O H ρ1 O1 H1 → PostE K X W ρ1 O1 H1 σ (f x s1) Q → Q' x H1) : te σ H Q' := by
  refine h X ρ O s σ H Q' S ?_
  cases e : m s with
  | ok x s1 => rw [e] at p; intro a b c S' F; exact k x s1 a b c S' F (p.later F)
  | exc c s1 => rw [e] at p; exact p
  | stuck => rw [e] at p; exact p
theorem so_none : SimO K W tNoPart oNoneM := fun X ρ O s σ H Q S p => p ρ O H S Fut.refl
theorem so_some {te : TE} {me : EM} (h : SimE K W te me) : SimO K W (tPart te) (oSomeM me) := by
  intro X ρ O s σ H Q S p
  refine h X ρ O s σ H _ S ?_
  unfold oSomeM at p
  cases e : me s with
  | ok x s1 =>
    rw [e] at p
    intro ρ1 O1 H1 v S1 F1 r1
    cases r1 with
    | int i => exact ⟨i, rfl, p ρ1 O1 H1 S1 F1⟩
    | _ => exact p.elim
  | exc c s1 => rw [e] at p; exact p
  | stuck => rw [e] at p; exact p
theorem cutV_eq (xs : List V) (lo hi : Option Int) : cutV xs lo hi = cutG xs lo hi := rfl
theorem Reps.cut {ms : List MV} {vs : List V} (lo hi : Option Int) (r : Reps ρ K H ms vs) : Reps ρ K H (cutG ms lo hi) (cutV vs lo hi) := by
  unfold cutG cutV
  rw [r.length]
  exact (r.drop _).take _
theorem sim_sl {te : TE} {me : EM} {tl th : TO} {ml mh : OM} (he : SimE K W te me) (hl : SimO K W tl ml) (hh : SimO K W th mh) : SimE K W (tSl (rSlA K.F) te tl th) (mSl me ml mh) := by
  intro X ρ O s σ H Q S p
  refine he.bindE S p fun x s1 ρ1 O1 H1 v S1 F1 r1 p1 => ?_
  refine hl.bindE S1 p1 fun lo s2 ρ2 O2 H2 S2 F2 p2 => ?_
  refine hh.bindE S2 p2 fun hi s3 ρ3 O3 H3 S3 F3 p3 => ?_
  have r3 := (F2.trans F3).rep r1
  cases r3 with
  | lst hx rx => exact .inl ⟨_, _, rfl, sqlv hx, fun q hq => p3.grown S3 (Ex.new hq) (.lst (S3.view_new hq) ((rx.cut lo hi).mono (Pre.refl _) (view_ex (Ex.new hq))))⟩
  | scr hx rx => exact .inl ⟨_, _, rfl, sql_ex (view_le _ _ _ _) hx, fun q hq => p3.grown S3 (Ex.new hq) (.lst (S3.view_new hq) ((rx.cut lo hi).mono (Pre.refl _) (view_ex (Ex.new hq))))⟩
  | str z =>
    unfold oSl at p3
    by_cases h : lim z.length
    · simp only [if_pos h] at p3
      exact .inr ⟨z, rfl, by rw [sizeLine_eq]; exact h, p3.done S3 (.str _)⟩
    · simp only [if_neg h] at p3; exact p3.elim
  | ref hn =>
    rename_i n a
    unfold oSl at p3
    cases g : s3.G[n]? with
    | none => simp only [g] at p3; exact p3.elim
    | some o => cases o with
      | ins c ks vs => simp only [g] at p3; exact p3.elim
      | dic ms => simp only [g] at p3; exact p3.elim
      | lst xs =>
        simp only [g] at p3
        obtain ⟨vs, hx, rx⟩ := S3.refL hn g
        exact .inl ⟨_, _, rfl, .inl (.inl hx), fun q hq => p3.grown S3 (Ex.new hq) (.lst (S3.view_new hq) ((rx.cut lo hi).mono (Pre.refl _) (view_ex (Ex.new hq))))⟩
  | _ => exact p3.elim
end
structure POM (ct : String → Addr) (X : Cx) (W : WX) (e : Option Expr) (te : TO) (m : OM) : Prop where
  pe : PO X e te
  sim : SimO ⟨X.K, ct⟩ W te m
section
variable {ct : String → Addr} {X : Cx} {W : WX} {e : Expr} {te : TE} {me : EM} {lo hi : Option Expr} {tl th : TO} {ml mh : OM} {pos p2 : Pos}
theorem o_none : POM ct X W none tNoPart oNoneM := ⟨po_none, so_none⟩
theorem o_some (h : PEM ct X W e te me) : POM ct X W (some e) (tPart te) (oSomeM me) := ⟨po_some h.pe, so_some h.sim⟩
theorem e_sl (h : PEM ct X W e te me) (hl : POM ct X W lo tl ml) (hh : POM ct X W hi th mh) : PEM ct X W (.Subscript e (.Slice lo hi none p2) pos) (tSl (rSlA X.K) te tl th) (mSl me ml mh) := ⟨pe_slice sl_all h.pe hl.pe hh.pe, sim_sl h.sim hl.sim hh.sim⟩
end

/-! ## zip, sum -/
section
variable {K : KA} {W : WX}
def zipM : List MV → List MV → List MV
  | x :: xs, y :: ys => .tup [x, y] :: zipM xs ys
  | _, _ => []
theorem zipM_len : ∀ xs ys : List MV, (zipM xs ys).length = min xs.length ys.length
  | [], ys => by simp [zipM]
  | x :: xs, [] => by simp [zipM]
  | x :: xs, y :: ys => by simp [zipM, zipM_len xs ys]
theorem zipM_get : ∀ {xs ys : List MV} {i : Nat}, i < (zipM xs ys).length → ∃ x y, xs[i]? = some x ∧ ys[i]? = some y ∧ (zipM xs ys)[i]? = some (.tup [x, y])
  | [], ys, i, h => by simp [zipM] at h
  | x :: xs, [], i, h => by simp [zipM] at h
  | x :: xs, y :: ys, 0, h => ⟨x, y, rfl, rfl, rfl⟩
  | x :: xs, y :: ys, i + 1, h => by
    obtain ⟨a, b, h1, h2, h3⟩ := zipM_get (xs := xs) (ys := ys) (i := i) (by simpa [zipM] using h)
    exact ⟨a, b, by simpa using h1, by simpa using h2, by simpa [zipM] using h3⟩
def seqOf : MV → Option (List MV)
  | .lst xs => some xs
  | .scr xs => some xs
  | _ => none
theorem rep_seq {ρ : List Addr} {Vw : Hp} {x : MV} {v : V} {xs : List MV} (r : Rep ρ K Vw x v) (h : seqOf x = some xs) : ∃ a vs, v = .ref a ∧ SqL K.F Vw a vs ∧ Reps ρ K Vw xs vs := by
  cases r with
  | lst hx rx => cases h; exact ⟨_, _, rfl, .inl (.inl hx), rx⟩
  | scr hx rx => cases h; exact ⟨_, _, rfl, hx, rx⟩
  | _ => cases h
def oZip : List MV → MS → R (List MV) := fun xs s => match xs with
  | [a, b] => (match seqOf a, seqOf b with
    | some xs, some ys => .ok (zipM xs ys) s
    | _, _ => .stuck)
  | _ => .stuck
def iZipM (a : AM) : AM := fun s => (a s).bind oZip
theorem si_zip {ta : TA} {ma : AM} (h : SimA K W ta ma) : SimI K W (iZip K.F ta) (iZipM ma) := by
  intro X ρ O s σ H Q S p
  refine h.bindI S p fun x s1 ρ1 O1 H1 v S1 F1 r1 p1 => ?_
  unfold oZip at p1
  cases r1 with
  | nil => exact p1.elim
  | cons r1 rr => cases rr with
    | nil => exact p1.elim
    | cons r2 r3 => cases r3 with
      | cons _ _ => exact p1.elim
      | nil =>
        rename_i a va b vb
        dsimp only at p1
        cases ea : seqOf a with
        | none => rw [ea] at p1; exact p1.elim
        | some xs =>
          cases eb : seqOf b with
          | none => rw [ea, eb] at p1; exact p1.elim
          | some ys =>
            rw [ea, eb] at p1
            obtain ⟨pa, us, rfl, ha, ra⟩ := rep_seq r1 ea
            obtain ⟨pb, ws, rfl, hb, rb⟩ := rep_seq r2 eb
            have e1 := view_le X ρ1 O1 H1
            refine ⟨pa, pb, us, ws, rfl, sql_ex e1 ha, sql_ex e1 hb, p1.done S1 ⟨fun i H2 e hi => ?_, fun H2 e => ?_, fun i H2 x H3 e hi y => ?_⟩⟩
            · obtain ⟨x, y, h1, h2, _⟩ := zipM_get hi
              obtain ⟨u, hu, _⟩ := ra.get h1
              obtain ⟨w, hw, _⟩ := rb.get h2
              exact ⟨us, ws, u, w, sql_ex e ha, sql_ex e hb, hu, hw⟩
            · refine ⟨us, ws, sql_ex e ha, sql_ex e hb, ?_⟩
              rw [zipM_len, ← ra.length, ← rb.length]
              omega
            · obtain ⟨T, u, w, rfl, hT, rfl, hu, hw⟩ := y
              obtain ⟨x, y, h1, h2, h3⟩ := zipM_get hi
              obtain ⟨u', hu', ru⟩ := ra.get h1
              obtain ⟨w', hw', rw'⟩ := rb.get h2
              have eu : u' = u := by have := hu us (sql_ex e ha); rw [hu'] at this; exact Option.some.inj this
              have ew : w' = w := by have := hw ws (sql_ex e hb); rw [hw'] at this; exact Option.some.inj this
              subst eu ew
              refine ⟨Ex.new hT, _, h3, fun X2 ρ2 O2 s2 σ2 S2 p2 e2 => ?_⟩
              refine .tup (.inl (.inl (S2.view_new hT))) ?_
              have e3 := e2.trans (view_ex (X := X2) (ρ := ρ2) (O := O2) (Ex.new (o := HO.tup [u', w']) hT))
              exact .cons (ru.mono p2 e3) (.cons (rw'.mono p2 e3) .nil)
def intsOf : List MV → Option (List Int)
  | [] => some []
  | .int i :: xs => (intsOf xs).map (i :: ·)
  | _ => none
theorem intsOf_map : ∀ ns : List Int, intsOf (ns.map MV.int) = some ns
  | [] => rfl
  | n :: ns => by simp [intsOf, intsOf_map ns]
theorem intsOf_eq : ∀ {xs : List MV} {ns : List Int}, intsOf xs = some ns → xs = ns.map MV.int
  | [], ns, h => by cases h; rfl
  | .int i :: xs, ns, h => by
    rw [intsOf] at h
    obtain ⟨ms, h1, rfl⟩ := Option.map_eq_some_iff.mp h
    rw [intsOf_eq h1]; rfl
  | .non :: _, _, h => by cases h
  | .bl _ :: _, _, h => by cases h
  | .str _ :: _, _, h => by cases h
  | .tup _ :: _, _, h => by cases h
  | .lst _ :: _, _, h => by cases h
  | .scr _ :: _, _, h => by cases h
  | .obj _ _ _ :: _, _, h => by cases h
  | .ref _ :: _, _, h => by cases h
  | .err _ :: _, _, h => by cases h
  | .dic :: _, _, h => by cases h
def bSum : List MV → EM := fun xs s => match xs with
  | [.lst xs] => (match intsOf xs with
    | some ns => .ok (.int ns.sum) s
    | none => .stuck)
  | _ => .stuck
theorem sc_sum : SimC K (rSum K.F) bSum := by
  intro X W ρ O s σ H xs vs Q S r p
  cases r with
  | nil => exact p.elim
  | cons r1 rr => cases rr with
    | cons _ _ => cases r1 <;> exact p.elim
    | nil => cases r1 with
      | lst hx rx =>
        rename_i a ms us
        unfold bSum at p
        cases e : intsOf ms with
        | none => simp only [e] at p; exact p.elim
        | some ns =>
          simp only [e] at p
          have em := intsOf_eq e
          subst em
          have ev := rx.inv_ints
          subst ev
          exact ⟨a, ns, rfl, sqlv hx, p.done S (.int _)⟩
      | _ => exact p.elim
end
section
variable {ct : String → Addr} {X : Cx} {W : WX} {e e2 : Expr} {ta : TA} {ma : AM} {p pos tpos : Pos} {elts : List Expr} {kk : Nat}
theorem i_zip (hm : X.mg "zip" = none) (ha : PAM ct X W [e, e2] ta ma) (hg : Gl X "zip" := by rfl) (hs : starEach [e, e2] X.env = (false, eval e X.env) :: starEach [e2] X.env := by rfl) (hpl : (backTo pos (starEach [e2] X.env)).any (·.1) = false := by rfl) :
    PIM ct X W (.Tuple elts kk tpos) (.Call (.Name "zip" p) [e, e2] [] pos) (iZip X.K ta) (iZipM ma) := ⟨pi_zip hg hm ha.pe hs hpl, si_zip ha.sim⟩
end
theorem shaped_bl (a : Bool) : SeqAt.shaped (.bool a) = true := by simp [SeqAt.shaped, PyData.canLay0, PyData.depth]
theorem oEq_bl {a b : Bool} {s : MS} : oEq (.bl a) (.bl b) s = .ok (.bl (decide (a = b))) s := by
  unfold oEq; simp only [toD, shaped_bl, and_self, if_true, PyData.eqv]; cases a <;> cases b <;> rfl
theorem oNe_bl {a b : Bool} {s : MS} : oNe (.bl a) (.bl b) s = .ok (.bl (!decide (a = b))) s := by
  unfold oNe; simp only [toD, shaped_bl, and_self, if_true, PyData.eqv]; cases a <;> cases b <;> rfl
end M

namespace M
open PySem L2
open Classical

/-! ## list comprehensions -/
def wipeE (e : List SV) : List Nat → List SV
  | [] => e
  | v :: vs => (wipeE e vs).set v .un
def noOw (e : List SV) : List Nat → Bool
  | [] => true
  | v :: vs => (match e[v]? with
    | some (.ow _) => false
    | _ => true) && noOw e vs
noncomputable def lcOne (g : GM) (t : TM) (e : EM) (vs : List Nat) (E0 : List SV) (x : MV) (G : MHeap) : R (Option MV) := match g x ⟨E0, G⟩ with
  | none => .stuck
  | some s1 => (t s1).bind fun b s2 => if b = true then (e s2).bind fun y s3 => if wipeE s3.env vs = E0 then .ok (some y) s3 else .stuck
    else if wipeE s2.env vs = E0 then .ok none s2 else .stuck
noncomputable def lcM (g : GM) (t : TM) (e : EM) (vs : List Nat) (E0 : List SV) : List MV → List MV → MHeap → R (List MV)
  | [], acc, G => .ok acc ⟨E0, G⟩
  | x :: xs, acc, G => match lcOne g t e vs E0 x G with
    | .ok (some y) s => lcM g t e vs E0 xs (acc ++ [y]) s.G
    | .ok none s => lcM g t e vs E0 xs acc s.G
    | _ => .stuck
noncomputable def lcEndF (g : GM) (t : TM) (e : EM) (vs : List Nat) (xs : List MV) : MS → R MO := fun s =>
  if lim xs.length then if noOw s.env vs = true then match lcM g t e vs (wipeE s.env vs) xs [] s.G with
    | .ok ys s2 => .ok (.lst ys) ⟨s.env, s2.G⟩
    | _ => .stuck
  else .stuck else .stuck
noncomputable def lcEnd (g : GM) (t : TM) (e : EM) (vs : List Nat) (xs : List MV) : EM := fun s =>
  if lim xs.length then if noOw s.env vs = true then match lcM g t e vs (wipeE s.env vs) xs [] s.G with
    | .ok ys s2 => .ok (.lst ys) ⟨s.env, s2.G⟩
    | _ => .stuck
  else .stuck else .stuck
noncomputable def mLcL (it : AM) (vs : List Nat) (g : GM) (t : TM) (e : EM) : MS → R MO := fun s => (it s).bind fun xs s1 => lcEndF g t e vs xs s1
noncomputable def mLcF (it : AM) (vs : List Nat) (g : GM) (t : TM) (e : EM) : EM := fun s => (it s).bind fun xs s1 => lcEnd g t e vs xs s1
def qYes : TM := fun s => .ok true s
section
variable {K : KA} {X : Addr → Prop} {ρ ρ' : List Addr} {O O' : Nat → Option Addr} {s s' : MS} {σ σ' : St} {H H' : Hp}
theorem wipeE_len (e : List SV) : ∀ vs : List Nat, (wipeE e vs).length = e.length
  | [] => rfl
  | v :: vs => by unfold wipeE; rw [List.length_set, wipeE_len e vs]
theorem wipeE_in {e : List SV} {i : Nat} {x : SV} : ∀ {vs : List Nat}, i ∈ vs → (wipeE e vs)[i]? = some x → x = .un
  | [], h, _ => by simp at h
  | v :: vs, h, hx => by
    unfold wipeE at hx
    by_cases q : v = i
    · subst q
      have hl := (List.getElem?_eq_some_iff.mp hx).1
      rw [List.length_set] at hl
      rw [List.getElem?_set_self hl] at hx
      cases hx; rfl
    · rw [List.getElem?_set_ne q] at hx
      refine wipeE_in (vs := vs) ?_ hx
      rcases List.mem_cons.mp h with e | e
      · exact absurd e.symm q
      · exact e
theorem wipeE_out {e : List SV} {i : Nat} : ∀ {vs : List Nat}, i ∉ vs → (wipeE e vs)[i]? = e[i]?
  | [], _ => rfl
  | v :: vs, h => by
    have h1 : v ≠ i := fun e => h (by rw [e]; exact List.mem_cons_self)
    have h2 : i ∉ vs := fun m => h (List.mem_cons_of_mem _ m)
    unfold wipeE
    rw [List.getElem?_set_ne h1]
    exact wipeE_out h2
theorem noOw_at {e : List SV} {i : Nat} {xs : List MV} : ∀ {vs : List Nat}, noOw e vs = true → i ∈ vs → e[i]? ≠ some (.ow xs)
  | [], _, h => by simp at h
  | v :: vs, hn, h => by
    unfold noOw at hn
    rw [Bool.and_eq_true] at hn
    rcases List.mem_cons.mp h with q | q
    · subst q
      intro z
      rw [z] at hn
      exact absurd hn.1 (by simp)
    · exact noOw_at hn.2 q
/-- a slot forgotten -/
theorem SR.setUn (S : SR K X ρ O s σ H) (i : Nat) : SR K X ρ (unO O i) { s with env := s.env.set i .un } (σ.set i none) H := by
  have vx : Ex (view X ρ O H) (view X ρ (unO O i) H) := view_sub fun j b h => ⟨j, (unO_sub h).2⟩
  refine ⟨S.xo, by simp [S.len], S.gl, S.nd, S.xρ, fun j b h => S.oX j b (unO_sub h).2, fun j k b h1 h2 => S.oi j k b (unO_sub h1).2 (unO_sub h2).2, fun j h => ?_, fun j y h => ?_, fun n o h => ?_⟩
  · unfold unO
    split
    · rfl
    · exact S.ol j (by simpa using h)
  · by_cases e : i = j
    · subst e
      have hi : i < s.env.length := by
        have := (List.getElem?_eq_some_iff.mp h).1; simpa using this
      rw [List.getElem?_set_self hi] at h
      cases h
      show unO O i i = none
      unfold unO; rw [if_pos rfl]
    · have eo : unO O i j = O j := by unfold unO; rw [if_neg (fun q => e q.symm)]
      rw [List.getElem?_set_ne e] at h
      have z := S.sl j y h
      rw [List.getElem?_set_ne e, eo]
      cases y with
      | un => exact z
      | sh m => obtain ⟨h1, w, h2, h3⟩ := z; exact ⟨h1, w, h2, h3.mono (Pre.refl _) vx⟩
      | ow ms => obtain ⟨a, vs, h1, h2, h3, h4⟩ := z; exact ⟨a, vs, h1, h2, h3, h4.mono (Pre.refl _) vx⟩
  · obtain ⟨a, h1, z⟩ := S.ob n o h
    refine ⟨a, h1, ?_⟩
    cases o with
    | lst ms => obtain ⟨vs, h2, h3⟩ := z; exact ⟨vs, h2, h3.mono (Pre.refl _) vx⟩
    | ins c ks ms => obtain ⟨dx, fs, h2, h3, h4⟩ := z; exact ⟨dx, fs, h2, h3, h4.mono (Pre.refl _) vx⟩
    | dic ms => obtain ⟨fs, h2, h3, h4⟩ := z; exact ⟨fs, h2, h3, h4.mono (Pre.refl _) vx⟩
theorem SR.wipe (S : SR K X ρ O s σ H) : ∀ vs : List Nat, ∃ O', SR K X ρ O' { s with env := wipeE s.env vs } (wipe σ vs) H ∧ Fut X ρ O H ρ O' H
  | [] => ⟨O, S, Fut.refl⟩
  | v :: vs => by
    obtain ⟨O1, S1, F1⟩ := SR.wipe S vs
    exact ⟨_, S1.setUn v, F1.trans (fut_unO v)⟩
/-- hide: D new -/
theorem view_hide {D : Addr} (h : H D = none) (o : HO) : view (fun b => X b ∨ b = D) ρ O (upd H D o) = view X ρ O H := by
  funext b
  unfold view
  by_cases e : b = D
  · subst e
    have q : Hid (fun z => X z ∨ z = b) ρ O b := Or.inl (Or.inr rfl)
    rw [if_pos q, h]; split <;> rfl
  · have q : Hid (fun b => X b ∨ b = D) ρ O b ↔ Hid X ρ O b := by
      unfold Hid; simp [e]
    by_cases z : Hid X ρ O b
    · rw [if_pos z, if_pos (q.mpr z)]
    · rw [if_neg z, if_neg (fun y => z (q.mp y)), upd_ne e]
theorem view_put {D : Addr} (o : HO) : view (fun b => X b ∨ b = D) ρ O (upd H D o) = view (fun b => X b ∨ b = D) ρ O H := by
  funext b
  unfold view
  by_cases e : b = D
  · subst e
    have q : Hid (fun z => X z ∨ z = b) ρ O b := Or.inl (Or.inr rfl)
    rw [if_pos q, if_pos q]
  · rw [upd_ne e]
theorem SR.hide (S : SR K X ρ O s σ H) {D : Addr} (h : H D = none) (o : HO) : SR K (fun b => X b ∨ b = D) ρ O s σ (upd H D o) := by
  have e := Ex.new (o := o) h
  have G := S.grow e
  have nh := S.nhid h
  have vx : Ex (view X ρ O H) (view (fun b => X b ∨ b = D) ρ O (upd H D o)) := by rw [view_hide h]; exact Ex.refl _
  refine ⟨fun b hb => ?_, S.len, S.gl, S.nd, fun b hb q => ?_, fun i b hb => ⟨fun q => ?_, (S.oX i b hb).2⟩, S.oi, S.ol, fun i x hx => ?_, fun n q hq => ?_⟩
  · rcases hb with hb | rfl
    · exact G.xo b hb
    · exact ⟨o, upd_same⟩
  · rcases q with q | rfl
    · exact S.xρ b hb q
    · exact nh (.inr (.inl hb))
  · rcases q with q | rfl
    · exact (S.oX i b hb).1 q
    · exact nh (.inr (.inr ⟨i, hb⟩))
  · have z := S.sl i x hx
    cases x with
    | un => exact z
    | sh m => obtain ⟨h1, v, h2, h3⟩ := z; exact ⟨h1, v, h2, h3.mono (Pre.refl _) vx⟩
    | ow ms => obtain ⟨a, vs, h1, h2, h3, h4⟩ := z; exact ⟨a, vs, h1, h2, e _ _ h3, h4.mono (Pre.refl _) vx⟩
  · obtain ⟨a, h1, z⟩ := S.ob n q hq
    refine ⟨a, h1, ?_⟩
    cases q with
    | lst ms => obtain ⟨vs, h2, h3⟩ := z; exact ⟨vs, e _ _ h2, h3.mono (Pre.refl _) vx⟩
    | ins c ks ms => obtain ⟨dx, fs, h2, h3, h4⟩ := z; exact ⟨dx, fs, e _ _ h2, h3, h4.mono (Pre.refl _) vx⟩
    | dic ms => obtain ⟨fs, h2, h3, h4⟩ := z; exact ⟨fs, e _ _ h2, h3, h4.mono (Pre.refl _) vx⟩
theorem SR.put {D : Addr} (S : SR K (fun b => X b ∨ b = D) ρ O s σ H) (o : HO) : SR K (fun b => X b ∨ b = D) ρ O s σ (upd H D o) := by
  have vx : Ex (view (fun b => X b ∨ b = D) ρ O H) (view (fun b => X b ∨ b = D) ρ O (upd H D o)) := by rw [view_put]; exact Ex.refl _
  refine ⟨fun b hb => ?_, S.len, S.gl, S.nd, S.xρ, S.oX, S.oi, S.ol, fun i x hx => ?_, fun n q hq => ?_⟩
  · by_cases e : b = D
    · subst e; exact ⟨o, upd_same⟩
    · rw [upd_ne e]; exact S.xo b hb
  · have z := S.sl i x hx
    cases x with
    | un => exact z
    | sh m => obtain ⟨h1, v, h2, h3⟩ := z; exact ⟨h1, v, h2, h3.mono (Pre.refl _) vx⟩
    | ow ms =>
      obtain ⟨a, vs, h1, h2, h3, h4⟩ := z
      have ne : a ≠ D := fun e => (S.oX i a h1).1 (.inr e)
      exact ⟨a, vs, h1, h2, by rw [upd_ne ne]; exact h3, h4.mono (Pre.refl _) vx⟩
  · obtain ⟨a, h1, z⟩ := S.ob n q hq
    have ne : a ≠ D := fun e => S.xρ a (List.mem_iff_getElem?.mpr ⟨n, h1⟩) (.inr e)
    refine ⟨a, h1, ?_⟩
    cases q with
    | lst ms => obtain ⟨vs, h2, h3⟩ := z; exact ⟨vs, by rw [upd_ne ne]; exact h2, h3.mono (Pre.refl _) vx⟩
    | ins c ks ms => obtain ⟨dx, fs, h2, h3, h4⟩ := z; exact ⟨dx, fs, by rw [upd_ne ne]; exact h2, h3, h4.mono (Pre.refl _) vx⟩
    | dic ms => obtain ⟨fs, h2, h3, h4⟩ := z; exact ⟨fs, by rw [upd_ne ne]; exact h2, h3, h4.mono (Pre.refl _) vx⟩
theorem view_bare {D : Addr} : Ex (view (fun b => X b ∨ b = D) ρ O H) (view X ρ O H) := fun b o h => by
  obtain ⟨h1, h2⟩ := view_some.mp h
  refine view_some.mpr ⟨fun q => h1 ?_, h2⟩
  rcases q with q | q | q
  · exact .inl (.inl q)
  · exact .inr (.inl q)
  · exact .inr (.inr q)
/-- the loop's end: the block's own names as they were -/
theorem SR.backH {D : Addr} {vs : List Nat} {ρ1 : List Addr} {O1 : Nat → Option Addr} {H1 : Hp} {s1 : MS} {G : MHeap} (S1 : SR K X ρ1 O1 s1 σ H1) (hn : noOw s1.env vs = true) (p : Pre ρ1 ρ) (v : Ex (view X ρ1 O1 H1) (view (fun b => X b ∨ b = D) ρ O H))
    (S : SR K (fun b => X b ∨ b = D) ρ O ⟨wipeE s1.env vs, G⟩ (L2.wipe σ vs) H) : SR K (fun b => X b ∨ b = D) ρ O ⟨s1.env, G⟩ σ H := by
  have vx : Ex (view (fun b => X b ∨ b = D) ρ O H) (view (fun b => X b ∨ b = D) ρ O H) := Ex.refl _
  refine ⟨S.xo, S1.len, S.gl, S.nd, S.xρ, S.oX, S.oi, fun i h => S.ol i (by rw [wipeE_len]; exact h), fun i x hx => ?_, fun n q hq => ?_⟩
  · by_cases hi : i ∈ vs
    · have hl : i < (wipeE s1.env vs).length := by rw [wipeE_len]; exact (List.getElem?_eq_some_iff.mp hx).1
      have ex : (wipeE s1.env vs)[i]? = some (wipeE s1.env vs)[i] := List.getElem?_eq_getElem hl
      have eu := wipeE_in hi ex
      have z := S.sl i _ ex
      rw [eu] at z
      have z : O i = none := z
      have z1 := S1.sl i x hx
      cases x with
      | un => exact z
      | sh m => obtain ⟨h1, w, h2, h3⟩ := z1; exact ⟨z, w, h2, (h3.mono p v).mono (Pre.refl _) vx⟩
      | ow ms => exact absurd hx (noOw_at hn hi)
    · have z := S.sl i x (by show (wipeE s1.env vs)[i]? = some x; rw [wipeE_out hi]; exact hx)
      rw [wipe_out hi] at z
      cases x with
      | un => exact z
      | sh m => obtain ⟨h1, w, h2, h3⟩ := z; exact ⟨h1, w, h2, h3.mono (Pre.refl _) vx⟩
      | ow ms => obtain ⟨a, us, h1, h2, h3, h4⟩ := z; exact ⟨a, us, h1, h2, h3, h4.mono (Pre.refl _) vx⟩
  · obtain ⟨a, h1, z⟩ := S.ob n q hq
    refine ⟨a, h1, ?_⟩
    cases q with
    | lst ms => obtain ⟨us, h2, h3⟩ := z; exact ⟨us, h2, h3.mono (Pre.refl _) vx⟩
    | ins c ks ms => obtain ⟨dx, fs, h2, h3, h4⟩ := z; exact ⟨dx, fs, h2, h3, h4.mono (Pre.refl _) vx⟩
    | dic ms => obtain ⟨fs, h2, h3, h4⟩ := z; exact ⟨fs, h2, h3, h4.mono (Pre.refl _) vx⟩
end
/-! ## new objects -/
structure FreshAt (K : KA) (X : Addr → Prop) (ρ : List Addr) (O : Nat → Option Addr) (H : Hp) (ρ' : List Addr) (O' : Nat → Option Addr) (s' : MS) (σ : St) (H' : Hp) (a : Addr) (o : MO) : Prop where
  S : SR K (fun b => X b ∨ b = a) ρ' O' s' σ H'
  nX : ¬ X a
  ob : ObjR ρ' K (view (fun b => X b ∨ b = a) ρ' O' H') H' a o
  pre : Pre ρ ρ'
  ex : Ex (view X ρ O H) (view (fun b => X b ∨ b = a) ρ' O' H')
  xs : ∀ b o, X b → H b = some o → H' b = some o
def PostN (K : KA) (X : Addr → Prop) (W : WX) (ρ : List Addr) (O : Nat → Option Addr) (H : Hp) (σ : St) (r : R MO) (Q : VK) : Prop := match r with
  | .ok o s' => ∀ ρ' O' H' a, FreshAt K X ρ O H ρ' O' s' σ H' a o → Q (.ref a) H'
  | .exc c s' => ∀ ρ' O' H', SR K X ρ' O' s' σ H' → Fut X ρ O H ρ' O' H' → W (.ref (K.ct c)) none σ H'
  | .stuck => False
abbrev LM := MS → R MO
def SimN (K : KA) (W : WX) (te : TE) (m : LM) : Prop := ∀ X ρ O s σ H Q, SR K X ρ O s σ H → PostN K X W ρ O H σ (m s) Q → te σ H Q
def frzM : MO → MV
  | .lst xs => .lst xs
  | .ins c ks vs => .obj c ks vs
  | .dic _ => .non
def mFrz (m : LM) : EM := fun s => (m s).bind fun o s1 => match o with
  | .dic _ => .stuck
  | o => .ok (frzM o) s1
def mLive (m : LM) : EM := fun s => (m s).bind fun o s1 => .ok (.ref s1.G.length) ⟨s1.env, s1.G ++ [o]⟩
section
variable {K : KA} {X : Addr → Prop} {W : WX} {ρ ρ' : List Addr} {O O' : Nat → Option Addr} {s s' : MS} {σ : St} {H H' : Hp} {a : Addr} {o : MO}
theorem FreshAt.later {ρ1 : List Addr} {O1 : Nat → Option Addr} {H1 : Hp} (F : Fut X ρ O H ρ1 O1 H1) (f : FreshAt K X ρ1 O1 H1 ρ' O' s' σ H' a o) : FreshAt K X ρ O H ρ' O' s' σ H' a o :=
  ⟨f.S, f.nX, f.ob, F.pre.trans f.pre, F.ex.trans f.ex, fun b u h e => f.xs b u h (F.xs b u h e)⟩
theorem PostN.later {ρ1 : List Addr} {O1 : Nat → Option Addr} {H1 : Hp} {r : R MO} {Q : VK} (F : Fut X ρ O H ρ1 O1 H1) (h : PostN K X W ρ O H σ r Q) : PostN K X W ρ1 O1 H1 σ r Q := by
  cases r with
  | ok x s1 => intro a b c d f; exact h a b c d (f.later F)
  | exc x s1 => intro a b c S f; exact h a b c S (F.trans f)
  | stuck => exact h
theorem SR.bare (S : SR K (fun b => X b ∨ b = a) ρ O s σ H) : SR K X ρ O s σ H := by
  have vx : Ex (view (fun b => X b ∨ b = a) ρ O H) (view X ρ O H) := view_bare
  refine ⟨fun b hb => S.xo b (.inl hb), S.len, S.gl, S.nd, fun b hb q => S.xρ b hb (.inl q), fun i b hb => ⟨fun q => (S.oX i b hb).1 (.inl q), (S.oX i b hb).2⟩, S.oi, S.ol, fun i x hx => ?_, fun n q hq => ?_⟩
  · have z := S.sl i x hx
    cases x with
    | un => exact z
    | sh m => obtain ⟨h1, w, h2, h3⟩ := z; exact ⟨h1, w, h2, h3.mono (Pre.refl _) vx⟩
    | ow ms => obtain ⟨a, us, h1, h2, h3, h4⟩ := z; exact ⟨a, us, h1, h2, h3, h4.mono (Pre.refl _) vx⟩
  · obtain ⟨a, h1, z⟩ := S.ob n q hq
    refine ⟨a, h1, ?_⟩
    cases q with
    | lst ms => obtain ⟨us, h2, h3⟩ := z; exact ⟨us, h2, h3.mono (Pre.refl _) vx⟩
    | ins c ks ms => obtain ⟨dx, fs, h2, h3, h4⟩ := z; exact ⟨dx, fs, h2, h3, h4.mono (Pre.refl _) vx⟩
    | dic ms => obtain ⟨fs, h2, h3, h4⟩ := z; exact ⟨fs, h2, h3, h4.mono (Pre.refl _) vx⟩
theorem FreshAt.notHid (f : FreshAt K X ρ O H ρ' O' s' σ H' a o) : ¬ Hid X ρ' O' a := fun q => by
  rcases q with q | q | ⟨j, q⟩
  · exact f.nX q
  · exact f.S.xρ a q (.inr rfl)
  · exact (f.S.oX j a q).1 (.inr rfl)
theorem FreshAt.fut (f : FreshAt K X ρ O H ρ' O' s' σ H' a o) : Fut X ρ O H ρ' O' H' := ⟨f.pre, f.ex.trans view_bare, f.xs⟩
theorem FreshAt.frz (f : FreshAt K X ρ O H ρ' O' s' σ H' a o) (hd : ∀ kvs, o ≠ .dic kvs) : Rep ρ' K (view X ρ' O' H') (frzM o) (.ref a) := by
  have n := f.notHid
  have z := f.ob
  cases o with
  | dic kvs => exact absurd rfl (hd kvs)
  | lst xs => obtain ⟨vs, h1, h2⟩ := z; exact .lst (view_some.mpr ⟨n, h1⟩) (h2.mono (Pre.refl _) view_bare)
  | ins c ks vs => obtain ⟨dx, fs, h1, h2, h3⟩ := z; exact .obj (view_some.mpr ⟨n, h1⟩) h2 (h3.mono (Pre.refl _) view_bare)
theorem FreshAt.mkL (S : SR K X ρ' O' s' σ H') (F : Fut X ρ O H ρ' O' H') (n : H' a = none) {ms : List MV} {vs : List V} (r : Reps ρ' K (view X ρ' O' H') ms vs) : FreshAt K X ρ O H ρ' O' s' σ (upd H' a (.lst vs)) a (.lst ms) := by
  refine ⟨S.hide n _, fun q => ?_, ⟨vs, upd_same, ?_⟩, F.pre, ?_, fun b u h e => Ex.new n b u (F.xs b u h e)⟩
  · obtain ⟨u, e⟩ := S.xo a q
    rw [n] at e; cases e
  · rw [view_hide n]; exact r
  · rw [view_hide n]; exact F.ex
theorem sim_frz {te : TE} {m : LM} (h : SimN K W te m) : SimE K W te (mFrz m) := by
  intro X ρ O s σ H Q S p
  refine h X ρ O s σ H Q S ?_
  unfold mFrz at p
  cases e : m s with
  | ok o s1 =>
    rw [e] at p
    cases o with
    | dic kvs => exact p.elim
    | lst xs => intro a b c d f; exact p a b c _ f.S.bare f.fut (f.frz (by intro _ h; cases h))
    | ins c ks vs => intro a b c d f; exact p a b c _ f.S.bare f.fut (f.frz (by intro _ h; cases h))
  | exc c s1 => rw [e] at p; exact p
  | stuck => rw [e] at p; exact p
theorem view_live : view X (ρ ++ [a]) O H = view (fun b => X b ∨ b = a) ρ O H := by
  funext b
  unfold view
  have q : Hid X (ρ ++ [a]) O b ↔ Hid (fun b => X b ∨ b = a) ρ O b := by
    unfold Hid
    simp only [List.mem_append, List.mem_singleton]
    constructor
    · rintro (h | (h | h) | h)
      · exact .inl (.inl h)
      · exact .inr (.inl h)
      · exact .inl (.inr h)
      · exact .inr (.inr h)
    · rintro ((h | h) | h | h)
      · exact .inl h
      · exact .inr (.inl (.inr h))
      · exact .inr (.inl (.inl h))
      · exact .inr (.inr h)
  by_cases z : Hid X (ρ ++ [a]) O b
  · rw [if_pos z, if_pos (q.mp z)]
  · rw [if_neg z, if_neg (fun y => z (q.mpr y))]
theorem FreshAt.live (f : FreshAt K X ρ O H ρ' O' s' σ H' a o) : SR K X (ρ' ++ [a]) O' ⟨s'.env, s'.G ++ [o]⟩ σ H' := by
  have p : Pre ρ' (ρ' ++ [a]) := Pre.app _ _
  have vx : Ex (view (fun b => X b ∨ b = a) ρ' O' H') (view X (ρ' ++ [a]) O' H') := by rw [view_live]; exact Ex.refl _
  have S := f.S
  have na : a ∉ ρ' := fun q => S.xρ a q (.inr rfl)
  refine ⟨fun b hb => S.xo b (.inl hb), S.len, by simp [S.gl], ?_, fun b hb q => ?_, fun i b hb => ⟨fun q => (S.oX i b hb).1 (.inl q), fun q => ?_⟩, S.oi, S.ol, fun i x hx => ?_, fun n q hq => ?_⟩
  · exact List.nodup_append.mpr ⟨S.nd, by simp, fun x hx y hy => by
      have : y = a := by simpa using hy
      subst this
      exact fun e => na (e ▸ hx)⟩
  · rcases List.mem_append.mp hb with hb | hb
    · exact S.xρ b hb (.inl q)
    · have : b = a := by simpa using hb
      subst this; exact f.nX q
  · rcases List.mem_append.mp q with q | q
    · exact (S.oX i b hb).2 q
    · have : b = a := by simpa using q
      subst this; exact (S.oX i b hb).1 (.inr rfl)
  · have z := S.sl i x hx
    cases x with
    | un => exact z
    | sh m => obtain ⟨h1, w, h2, h3⟩ := z; exact ⟨h1, w, h2, h3.mono p vx⟩
    | ow ms => obtain ⟨a, us, h1, h2, h3, h4⟩ := z; exact ⟨a, us, h1, h2, h3, h4.mono p vx⟩
  · have cs : (n < s'.G.length ∧ s'.G[n]? = some q) ∨ (n = s'.G.length ∧ q = o) := by
      have hn := (List.getElem?_eq_some_iff.mp hq).1
      simp at hn
      by_cases h : n < s'.G.length
      · rw [List.getElem?_append_left h] at hq; exact .inl ⟨h, hq⟩
      · have e : n = s'.G.length := by omega
        subst e
        rw [List.getElem?_append_right (Nat.le_refl _)] at hq
        simp at hq
        exact .inr ⟨rfl, hq.symm⟩
    rcases cs with ⟨hn, hq⟩ | ⟨rfl, rfl⟩
    · obtain ⟨b, h1, z⟩ := S.ob n q hq
      refine ⟨b, p n b h1, ?_⟩
      cases q with
      | lst ms => obtain ⟨us, h2, h3⟩ := z; exact ⟨us, h2, h3.mono p vx⟩
      | ins c ks ms => obtain ⟨dx, fs, h2, h3, h4⟩ := z; exact ⟨dx, fs, h2, h3, h4.mono p vx⟩
      | dic ms => obtain ⟨fs, h2, h3, h4⟩ := z; exact ⟨fs, h2, h3, h4.mono p vx⟩
    · refine ⟨a, by rw [← S.gl, List.getElem?_append_right (Nat.le_refl _)]; simp, ?_⟩
      have z := f.ob
      cases q with
      | lst ms => obtain ⟨us, h2, h3⟩ := z; exact ⟨us, h2, h3.mono p vx⟩
      | ins c ks ms => obtain ⟨dx, fs, h2, h3, h4⟩ := z; exact ⟨dx, fs, h2, h3, h4.mono p vx⟩
      | dic ms => obtain ⟨fs, h2, h3, h4⟩ := z; exact ⟨fs, h2, h3, h4.mono p vx⟩
theorem sim_live {te : TE} {m : LM} (h : SimN K W te m) : SimE K W te (mLive m) := by
  intro X ρ O s σ H Q S p
  refine h X ρ O s σ H Q S ?_
  unfold mLive at p
  cases e : m s with
  | ok o s1 =>
    rw [e] at p
    intro ρ1 O1 H1 a f
    refine p (ρ1 ++ [a]) O1 H1 _ f.live ⟨f.pre.trans (Pre.app _ _), ?_, f.xs⟩ (.ref ?_)
    · rw [view_live]; exact f.ex
    · rw [← f.S.gl, List.getElem?_append_right (Nat.le_refl _)]; simp
  | exc c s1 => rw [e] at p; exact p
  | stuck => rw [e] at p; exact p
end
theorem wipe_idem (σ : St) (vs : List Nat) : L2.wipe (L2.wipe σ vs) vs = L2.wipe σ vs := by
  apply List.ext_getElem?
  intro j
  by_cases hj : j ∈ vs
  · cases h : (L2.wipe (L2.wipe σ vs) vs)[j]? with
    | none =>
      have := List.getElem?_eq_none_iff.mp h
      rw [wipe_length, wipe_length] at this
      rw [List.getElem?_eq_none (by rw [wipe_length]; exact this)]
    | some z =>
      cases h2 : (L2.wipe σ vs)[j]? with
      | none =>
        have := List.getElem?_eq_none_iff.mp h2
        rw [wipe_length] at this
        have h3 := (List.getElem?_eq_some_iff.mp h).1
        rw [wipe_length, wipe_length] at h3
        omega
      | some z2 =>
        cases z with
        | some v => exact absurd hj (wipe_some h).2
        | none => cases z2 with
          | some v => exact absurd hj (wipe_some h2).2
          | none => rfl
  · rw [wipe_out hj]
abbrev W0 : WX := fun _ _ _ _ => False
theorem sf_lc {K : KA} {W : WX} {wi : TI} {mi : AM} {ts vs : List Nat} {g : TG} {mg : GM} {tt : TT} {mt : TM} {te : TE} {me : EM} (hi : SimI K W wi mi) (hg : SimG K ts g mg) (ht : SimT K W0 tt mt) (he : SimE K W0 te me) (hts : ∀ i ∈ ts, i ∈ vs) :
    SimN K W (tLc wi g tt te vs) (mLcL mi vs mg mt me) := by
  intro X ρ O s σ H Q S p
  refine hi X ρ O s σ H _ S ?_
  unfold mLcL at p
  cases ei : mi s with
  | stuck => rw [ei] at p; exact p.elim
  | exc c s1 => rw [ei] at p; exact p
  | ok xs s1 =>
    rw [ei] at p
    intro ρ1 O1 H1 J S1 F1 wk D hD
    have p1 : PostN K X W ρ1 O1 H1 σ (lcEndF mg mt me vs xs s1) Q := p.later F1
    clear p
    unfold lcEndF at p1
    by_cases hz : lim xs.length
    case neg => rw [if_neg hz] at p1; exact p1.elim
    rw [if_pos hz] at p1
    by_cases hn : noOw s1.env vs = true
    case neg => rw [if_neg hn] at p1; exact p1.elim
    rw [if_pos hn] at p1
    cases er : lcM mg mt me vs (wipeE s1.env vs) xs [] s1.G with
    | stuck => simp only [er] at p1; exact p1.elim
    | exc c s2 => simp only [er] at p1; exact p1.elim
    | ok ys sF =>
      simp only [er] at p1
      obtain ⟨O2, S2, F2⟩ := (S1.hide hD (.lst [])).wipe vs
      have v12 : Ex (view X ρ1 O1 H1) (view (fun b => X b ∨ b = D) ρ1 O2 (upd H1 D (.lst []))) := by
        have := F2.ex; rw [view_hide hD] at this; exact this
      refine ⟨fun i m H' => m = xs.length - i ∧ i ≤ xs.length ∧ ∃ ρ' O' G' acc accv, H' D = some (.lst accv) ∧ Reps ρ' K (view (fun b => X b ∨ b = D) ρ' O' H') acc accv ∧ acc.length ≤ i ∧
          SR K (fun b => X b ∨ b = D) ρ' O' ⟨wipeE s1.env vs, G'⟩ (L2.wipe σ vs) H' ∧ Pre ρ1 ρ' ∧ Ex (view X ρ1 O1 H1) (view (fun b => X b ∨ b = D) ρ' O' H') ∧ (∀ b o, X b → H1 b = some o → H' b = some o) ∧
          lcM mg mt me vs (wipeE s1.env vs) (xs.drop i) acc G' = .ok ys sF,
        ⟨xs.length, by simp, Nat.zero_le _, ρ1, O2, s1.G, [], [], upd_same, .nil, Nat.le_refl _, S2, Pre.refl _, v12, fun b o hb e => Ex.new hD b o e, er⟩, ?_⟩
      rintro i m H2 ⟨rfl, hi', ρ2, O2, G2, acc, accv, hd2, ra, hl2, S2, q2, v2, x2, e2⟩
      have e02 : Ex (view X ρ1 O1 H1) H2 := v2.trans (view_le _ _ _ _)
      by_cases hlt : i < xs.length
      · refine .inr ⟨wk.go i H2 e02 hlt, fun H' => i + 1 ≤ xs.length ∧ ∃ ρ' O' G' acc accv, H' D = some (.lst accv) ∧ Reps ρ' K (view (fun b => X b ∨ b = D) ρ' O' H') acc accv ∧ acc.length ≤ i + 1 ∧
            SR K (fun b => X b ∨ b = D) ρ' O' ⟨wipeE s1.env vs, G'⟩ (L2.wipe σ vs) H' ∧ Pre ρ1 ρ' ∧ Ex (view X ρ1 O1 H1) (view (fun b => X b ∨ b = D) ρ' O' H') ∧ (∀ b o, X b → H1 b = some o → H' b = some o) ∧
            lcM mg mt me vs (wipeE s1.env vs) (xs.drop (i + 1)) acc G' = .ok ys sF, fun H' h => ⟨xs.length - (i + 1), by omega, rfl, h⟩, fun x H3 y => ?_⟩
        obtain ⟨e23, m, hm, rep⟩ := wk.yld i H2 x H3 e02 hlt y
        have r3 := rep _ ρ2 O2 _ _ S2 q2 v2
        have hd : xs.drop i = m :: xs.drop (i + 1) := by
          rw [List.drop_eq_getElem_cons hlt]
          rw [List.getElem?_eq_getElem hlt] at hm
          rw [Option.some.inj hm]
        rw [hd] at e2
        unfold lcM lcOne at e2
        cases eg : mg m ⟨wipeE s1.env vs, G2⟩ with
        | none => simp only [eg] at e2; cases e2
        | some s3 =>
          simp only [eg] at e2
          have S3 := S2.grow e23
          refine hg _ ρ2 O2 _ _ H3 m x s3 _ S3 r3 eg fun O4 σ4 S4 F4 T4 => ?_
          have tw : L2.wipe σ4 vs = L2.wipe σ vs := (T4 vs hts).trans (wipe_idem σ vs)
          refine ⟨tw, ?_⟩
          have F24 : Fut (fun b => X b ∨ b = D) ρ2 O2 H2 ρ2 O4 H3 := (Fut.grow e23).trans F4
          refine ht _ ρ2 O4 s3 σ4 H3 _ S4 ?_
          cases et : mt s3 with
          | stuck => simp only [et, R.bind_stuck] at e2; cases e2
          | exc c s5 => simp only [et, R.bind_exc] at e2; cases e2
          | ok b s5 =>
            simp only [et, R.bind_ok] at e2
            intro ρ5 O5 H5 S5 F5
            have F25 := F24.trans F5
            cases b with
            | false =>
              simp only [Bool.false_eq_true, if_false] at e2 ⊢
              by_cases hw : wipeE s5.env vs = wipeE s1.env vs
              · rw [if_pos hw] at e2
                simp only at e2
                obtain ⟨O6, S6, F6⟩ := S5.wipe vs
                have F26 := F25.trans F6
                rw [hw, tw] at S6
                exact ⟨hlt, ρ5, O6, s5.G, acc, accv, F26.xs D _ (.inr rfl) hd2, F26.reps ra, by omega, S6, q2.trans F26.pre, v2.trans F26.ex, fun b o hb e => F26.xs b o (.inl hb) (x2 b o hb e), e2⟩
              · rw [if_neg hw] at e2; cases e2
            | true =>
              simp only [if_true] at e2 ⊢
              refine he _ ρ5 O5 s5 σ4 H5 _ S5 ?_
              cases ee : me s5 with
              | stuck => simp only [ee, R.bind_stuck] at e2; cases e2
              | exc c s7 => simp only [ee, R.bind_exc] at e2; cases e2
              | ok y s7 =>
                simp only [ee, R.bind_ok] at e2
                intro ρ7 O7 H7 v S7 F7 r7
                have F27 := F25.trans F7
                by_cases hw : wipeE s7.env vs = wipeE s1.env vs
                · rw [if_pos hw] at e2
                  simp only at e2
                  obtain ⟨O8, S8, F8⟩ := S7.wipe vs
                  have F28 := F27.trans F8
                  rw [hw, tw] at S8
                  have hd7 := F28.xs D _ (.inr rfl) hd2
                  have la : accv.length = acc.length := ra.length.symm
                  refine ⟨accv, hd7, ?_, hlt, ρ7, O8, s7.G, acc ++ [y], accv ++ [v], upd_same, ?_, by simp; omega, S8.put _, q2.trans F28.pre, ?_, fun b o hb e => ?_, e2⟩
                  · have hz' : xs.length ≤ 16777216 := hz
                    rw [sizeLine_eq, la]
                    omega
                  · rw [view_put]
                    exact (F28.reps ra).append (.cons (F8.rep r7) .nil)
                  · rw [view_put]; exact v2.trans F28.ex
                  · have h7 := F28.xs b o (.inl hb) (x2 b o hb e)
                    have ne : b ≠ D := fun q => by
                      subst q
                      rw [hD] at e; cases e
                    rw [upd_ne ne]; exact h7
                · rw [if_neg hw] at e2; cases e2
      · have e : i = xs.length := by omega
        subst e
        rw [List.drop_length] at e2
        unfold lcM at e2
        cases e2
        refine .inl ⟨wk.stop H2 e02, ?_⟩
        have SB := S1.backH hn q2 v2 S2
        refine p1 ρ2 O2 H2 D ⟨SB, fun q => ?_, ⟨accv, hd2, ra⟩, q2, v2, x2⟩
        obtain ⟨o, ho⟩ := S1.xo D q
        rw [hD] at ho; cases ho
theorem lcEnd_eq {g : GM} {t : TM} {e : EM} {vs : List Nat} {xs : List MV} {s : MS} : ((lcEndF g t e vs xs s).bind fun o s1 => match o with
  | .dic _ => R.stuck
  | o => R.ok (frzM o) s1) = lcEnd g t e vs xs s := by
  unfold lcEndF lcEnd
  split
  · split
    · cases lcM g t e vs (wipeE s.env vs) xs [] s.G <;> rfl
    · rfl
  · rfl
theorem se_lc {K : KA} {W : WX} {wi : TI} {mi : AM} {ts vs : List Nat} {g : TG} {mg : GM} {tt : TT} {mt : TM} {te : TE} {me : EM} (hi : SimI K W wi mi) (hg : SimG K ts g mg) (ht : SimT K W0 tt mt) (he : SimE K W0 te me) (hts : ∀ i ∈ ts, i ∈ vs) :
    SimE K W (tLc wi g tt te vs) (mLcF mi vs mg mt me) := by
  have h := sim_frz (sf_lc (K := K) (W := W) hi hg ht he hts)
  have e : mFrz (mLcL mi vs mg mt me) = mLcF mi vs mg mt me := by
    funext s
    unfold mFrz mLcL mLcF
    cases mi s with
    | ok xs s1 => exact lcEnd_eq
    | exc c s1 => rfl
    | stuck => rfl
  rw [e] at h
  exact h
structure PQM (ct : String → Addr) (X : Cx) (W : WX) (e : List Expr) (te : TT) (m : TM) : Prop where
  pe : PTs X e te
  sim : SimT ⟨X.K, ct⟩ W te m
section
variable {ct : String → Addr} {X : Cx} {W : WX} {e : Expr} {tt : TT} {mt : TM}
theorem q_nil : PQM ct X W [] tYes qYes := ⟨pts_nil, fun X ρ O s σ H Q S p => p ρ O H S Fut.refl⟩
theorem q_one (h : PTM ct X W e tt mt) : PQM ct X W [e] tt mt := ⟨pts_one h.pe, h.sim⟩
abbrev blkX (X : Cx) (scope : Scope) (s : Shared) (H : Hp) (C : Addr) (cl : List (Str × Addr)) (fp : List Addr) : Cx := X.blk s H scope (compEnvC scope cl C X.env) fp
/-- what every derivation of the element asks: the transformer is free of the block's start -/
def eAll (ct : String → Addr) (X : Cx) (scope : Scope) (elt : Expr) (me : EM) : TE := fun σ H Q => ∀ s H0 C cl fp te, PEM ct (blkX X scope s H0 C cl fp) W0 elt te me → te σ H Q
def qAll (ct : String → Addr) (X : Cx) (scope : Scope) (ifs : List Expr) (mt : TM) : TT := fun σ H Q => ∀ s H0 C cl fp te, PQM ct (blkX X scope s H0 C cl fp) W0 ifs te mt → te σ H Q
def gAll (ct : String → Addr) (X : Cx) (scope : Scope) (tg : Expr) (ts : List Nat) (mg : GM) : TG := fun v σ H Q => ∀ s H0 C cl fp g, PGM ct (blkX X scope s H0 C cl fp) tg ts g mg → g v σ H Q
variable {scope : Scope} {elt tg iter : Expr} {ifs : List Expr} {mg : GM} {me : EM} {ts : List Nat}
theorem eAll_pe (h : ∀ s H C cl fp, ∃ te, PEM ct (blkX X scope s H C cl fp) W0 elt te me) (s : Shared) (H : Hp) (C : Addr) (cl : List (Str × Addr)) (fp : List Addr) : PE (blkX X scope s H C cl fp) elt (eAll ct X scope elt me) := by
  obtain ⟨te, P⟩ := h s H C cl fp
  exact ⟨fun pins s1 σ H1 Q I w => P.pe.run pins s1 σ H1 Q I (w s H C cl fp te P)⟩
theorem qAll_pe (h : ∀ s H C cl fp, ∃ te, PQM ct (blkX X scope s H C cl fp) W0 ifs te mt) (s : Shared) (H : Hp) (C : Addr) (cl : List (Str × Addr)) (fp : List Addr) : PTs (blkX X scope s H C cl fp) ifs (qAll ct X scope ifs mt) := by
  obtain ⟨te, P⟩ := h s H C cl fp
  exact ⟨fun pins s1 σ H1 Q I w => P.pe.run pins s1 σ H1 Q I (w s H C cl fp te P)⟩
theorem gAll_pe (h : ∀ s H C cl fp, ∃ g, PGM ct (blkX X scope s H C cl fp) tg ts g mg) (s : Shared) (H : Hp) (C : Addr) (cl : List (Str × Addr)) (fp : List Addr) : PG (blkX X scope s H C cl fp) tg (gAll ct X scope tg ts mg) := by
  obtain ⟨g, P⟩ := h s H C cl fp
  exact ⟨fun pins s1 σ H1 v u Q I rv w => P.pe.run pins s1 σ H1 v u Q I rv (w s H C cl fp g P)⟩
theorem eAll_sim : SimE ⟨X.K, ct⟩ W0 (eAll ct X scope elt me) me := fun Xh ρ O s σ H Q S p s0 H0 C cl fp te P => P.sim Xh ρ O s σ H Q S p
theorem qAll_sim : SimT ⟨X.K, ct⟩ W0 (qAll ct X scope ifs mt) mt := fun Xh ρ O s σ H Q S p s0 H0 C cl fp te P => P.sim Xh ρ O s σ H Q S p
theorem gAll_sim : SimG ⟨X.K, ct⟩ ts (gAll ct X scope tg ts mg) mg := fun Xh ρ O s σ H x v s' Q S r e k s0 H0 C cl fp g P => P.sim Xh ρ O s σ H x v s' Q S r e k
theorem e_lc {own : List (Str × Nat)} {pos : Pos} {wi : TI} {mi : AM}
    (hN : X.N.Nodup) (hi : PIM ct X W tg iter wi mi) (ok : BlkOk X.N X.env.scope scope own)
    (hg : ∀ s H C cl fp, ∃ g, PGM ct (blkX X scope s H C cl fp) tg ts g mg) (ht : ∀ s H C cl fp, ∃ te, PQM ct (blkX X scope s H C cl fp) W0 ifs te mt)
    (he : ∀ s H C cl fp, ∃ te, PEM ct (blkX X scope s H C cl fp) W0 elt te me) (hc : X.calm = true := by rfl) (hts : ∀ i ∈ ts, i ∈ own.map (·.2) := by decide) (hs : ∀ x, foldedSetIterable iter X.env x = pure x := by intro _; rfl) :
    PEM ct X W (.ListComp elt [⟨tg, iter, ifs, 0⟩] scope pos) (tLc wi (gAll ct X scope tg ts mg) (qAll ct X scope ifs mt) (eAll ct X scope elt me) (own.map (·.2))) (mLcF mi (own.map (·.2)) mg mt me) :=
  ⟨pe_lc hc hN hi.pe ok (gAll_pe hg) (qAll_pe ht) (eAll_pe he) hs, se_lc hi.sim gAll_sim qAll_sim eAll_sim hts⟩
theorem s_setLc (i : Nat) {own : List (Str × Nat)} {y : Str} {py : Pos} {pos spos : Pos} {wi : TI} {mi : AM}
    (hN : X.N.Nodup) (hi : PIM ct X W tg iter wi mi) (ok : BlkOk X.N X.env.scope scope own)
    (hg : ∀ s H C cl fp, ∃ g, PGM ct (blkX X scope s H C cl fp) tg ts g mg) (ht : ∀ s H C cl fp, ∃ te, PQM ct (blkX X scope s H C cl fp) W0 ifs te mt)
    (he : ∀ s H C cl fp, ∃ te, PEM ct (blkX X scope s H C cl fp) W0 elt te me) (hc : X.calm = true := by rfl) (hts : ∀ i ∈ ts, i ∈ own.map (·.2) := by decide) (hs : ∀ x, foldedSetIterable iter X.env x = pure x := by intro _; rfl)
    (hy : X.N[i]? = some y := by rfl) (hyl : X.env.scope.names.lookup y = some .local := by rfl) (hk : X.env.scope.kind = .function := by rfl) (hl : (py.line == pos.line) = true := by rfl) (he2 : spos.line = spos.line := by rfl) (ha : (scope.names.any fun (n, k) => n == y && (k == .local || k == .cell)) = false := by rfl) :
    PSM ct X W (.Assign [.Name y py] (.ListComp elt [⟨tg, iter, ifs, 0⟩] scope pos) spos) (tAsg (tLc wi (gAll ct X scope tg ts mg) (qAll ct X scope ifs mt) (eAll ct X scope elt me) (own.map (·.2))) (gName i)) (mAsg (gSet i) (mLcF mi (own.map (·.2)) mg mt me)) :=
  ⟨ps_setLc hc hN hy hyl (sw_true hk hyl hl ha) hi.pe ok (gAll_pe hg) (qAll_pe ht) (eAll_pe he) hs,
   ss_asg (se_lc hi.sim gAll_sim qAll_sim eAll_sim hts) (sg_name i)⟩
end
/-- every element alike: none raises, none changes anything -/
theorem lcM_map {g : GM} {t : TM} {e : EM} {vs : List Nat} {E0 : List SV} {G : MHeap} (f : MV → MV) : ∀ (xs acc : List MV), (∀ x ∈ xs, ∃ s, lcOne g t e vs E0 x G = .ok (some (f x)) s ∧ s.G = G) → lcM g t e vs E0 xs acc G = .ok (acc ++ xs.map f) ⟨E0, G⟩
  | [], acc, _ => by unfold lcM; simp
  | x :: xs, acc, h => by
    obtain ⟨s, h1, h2⟩ := h x (by simp)
    unfold lcM
    rw [h1]
    simp only
    rw [h2, lcM_map f xs (acc ++ [f x]) (fun y hy => h y (by simp [hy]))]
    simp
end M

namespace M
open PySem L2
open Classical

/-! ## equality of data -/
inductive Shp : Nat → MV → Prop
  | non {n : Nat} : Shp n .non
  | bl {n : Nat} {b : Bool} : Shp n (.bl b)
  | int {n : Nat} {i : Int} : Shp n (.int i)
  | str {n : Nat} {s : Str} : PyData.strOk s = true → Shp n (.str s)
  | lst {n : Nat} {xs : List MV} : (∀ x ∈ xs, Shp n x) → Shp (n + 1) (.lst xs)
  | tup {n : Nat} {xs : List MV} : (∀ x ∈ xs, Shp n x) → Shp (n + 1) (.tup xs)
theorem shp_all {n : Nat} : ∀ {xs : List MV}, (∀ x ∈ xs, ∃ d, toD x = some d ∧ PyData.canLay0 d = true ∧ d.depth ≤ n) → ∃ ds, toDs xs = some ds ∧ PyData.canLayAll0 ds = true ∧ PyData.depthAll ds ≤ n
  | [], _ => ⟨[], rfl, rfl, Nat.zero_le _⟩
  | x :: xs, h => by
    obtain ⟨d, h1, h2, h3⟩ := h x (by simp)
    obtain ⟨ds, g1, g2, g3⟩ := shp_all (xs := xs) fun y hy => h y (by simp [hy])
    refine ⟨d :: ds, by simp only [toDs, h1, g1], by simp only [PyData.canLayAll0, h2, g2, Bool.and_self], ?_⟩
    simp only [PyData.depthAll]; omega
theorem Shp.get {n : Nat} {x : MV} (h : Shp n x) : ∃ d, toD x = some d ∧ PyData.canLay0 d = true ∧ d.depth ≤ n := by
  induction h with
  | non => exact ⟨_, rfl, rfl, by simp [PyData.depth]⟩
  | bl => exact ⟨_, rfl, rfl, by simp [PyData.depth]⟩
  | int => exact ⟨_, rfl, rfl, by simp [PyData.depth]⟩
  | str h => exact ⟨_, rfl, by simp only [PyData.canLay0, h], by simp [PyData.depth]⟩
  | lst _ ih =>
    obtain ⟨ds, h1, h2, h3⟩ := shp_all ih
    exact ⟨.list ds, by simp only [toD, h1, Option.map_some], by simp only [PyData.canLay0, h2], by simp only [PyData.depth]; omega⟩
  | tup _ ih =>
    obtain ⟨ds, h1, h2, h3⟩ := shp_all ih
    exact ⟨.tuple ds, by simp only [toD, h1, Option.map_some], by simp only [PyData.canLay0, h2], by simp only [PyData.depth]; omega⟩
theorem Shp.shaped {x : MV} (h : Shp 64 x) : ∃ d, toD x = some d ∧ SeqAt.shaped d = true ∧ PyData.eqv d d = true := by
  obtain ⟨d, h1, h2, h3⟩ := h.get
  exact ⟨d, h1, by simp [SeqAt.shaped, h2, h3], SeqAt.eqv_refl d h2⟩
theorem oEq_refl {x : MV} {s : MS} (h : Shp 64 x) : oEq x x s = .ok (.bl true) s := by
  obtain ⟨d, h1, h2, h3⟩ := h.shaped
  unfold oEq
  simp only [h1, h2, and_self, if_true, h3]
theorem oNe_refl {x : MV} {s : MS} (h : Shp 64 x) : oNe x x s = .ok (.bl false) s := by
  obtain ⟨d, h1, h2, h3⟩ := h.shaped
  unfold oNe
  simp only [h1, h2, and_self, if_true, h3, Bool.not_true]
theorem shp_ints {n : Nat} (ns : List Int) : Shp (n + 1) (.lst (ns.map MV.int)) := .lst fun x hx => by
  obtain ⟨i, _, rfl⟩ := List.mem_map.mp hx
  exact .int
theorem toDs_ints : ∀ ns : List Int, toDs (ns.map MV.int) = some (ns.map PyData.int)
  | [] => rfl
  | n :: ns => by simp only [List.map_cons, toDs, toD, toDs_ints ns]
theorem ints_eqv : ∀ ns ms : List Int, PyData.eqvAll (ns.map PyData.int) (ms.map PyData.int) = decide (ns = ms)
  | [], [] => by simp [PyData.eqvAll]
  | [], m :: ms => by simp [PyData.eqvAll]
  | n :: ns, [] => by simp [PyData.eqvAll]
  | n :: ns, m :: ms => by simp [PyData.eqvAll, PyData.eqv, ints_eqv ns ms, Bool.beq_eq_decide_eq, Bool.decide_and]
theorem shaped_ints (ns : List Int) : SeqAt.shaped (.list (ns.map PyData.int)) = true := by
  obtain ⟨d, h1, h2, _⟩ := (shp_ints (n := 63) ns).shaped
  simp only [toD, toDs_ints, Option.map_some] at h1
  cases h1; exact h2
theorem oEq_ints {ns ms : List Int} {s : MS} : oEq (.lst (ns.map MV.int)) (.lst (ms.map MV.int)) s = .ok (.bl (decide (ns = ms))) s := by
  unfold oEq
  simp only [toD, toDs_ints, Option.map_some, shaped_ints, and_self, if_true, PyData.eqv, ints_eqv]
theorem oNe_ints {ns ms : List Int} {s : MS} : oNe (.lst (ns.map MV.int)) (.lst (ms.map MV.int)) s = .ok (.bl (!decide (ns = ms))) s := by
  unfold oNe
  simp only [toD, toDs_ints, Option.map_some, shaped_ints, and_self, if_true, PyData.eqv, ints_eqv]
/-! ## lists of whole numbers -/
theorem oMul_rep {xs : List MV} {k : Nat} {s : MS} (h : repOk xs.length k) : oMul (.lst xs) (.int k) s = .ok (.lst (List.replicate k xs).flatten) s := by
  unfold oMul; simp only [if_pos h, Int.toNat_natCast]
theorem rep_one {k : Nat} {i : Int} : (List.replicate k [MV.int i]).flatten = (List.replicate k i).map MV.int := by
  induction k with
  | zero => rfl
  | succ k ih => simp [List.replicate_succ, ih]
theorem cutG_map {α β : Type} (f : α → β) (xs : List α) (lo hi : Option Int) : cutG (xs.map f) lo hi = (cutG xs lo hi).map f := by
  unfold cutG; simp [List.map_drop, List.map_take]
theorem oSl_lst {xs : List MV} {lo hi : Option Int} {s : MS} : oSl (.lst xs) lo hi s = .ok (.lst (cutG xs lo hi)) s := rfl
theorem oSl_scr {xs : List MV} {lo hi : Option Int} {s : MS} : oSl (.scr xs) lo hi s = .ok (.lst (cutG xs lo hi)) s := rfl
theorem cutG_to {α : Type} (xs : List α) {k : Int} (h : 0 ≤ k) : cutG xs none (some k) = xs.take k.toNat := by
  obtain ⟨n, rfl⟩ := Int.eq_ofNat_of_zero_le h
  unfold cutG
  show (xs.drop 0).take (HT.sIx xs.length xs.length (some (n : Int)) - 0) = xs.take (n : Int).toNat
  rw [HT.sIx_nat, List.drop_zero, Nat.sub_zero, Int.toNat_natCast]
  rcases Nat.le_total n xs.length with q | q
  · rw [Nat.min_eq_left q]
  · rw [Nat.min_eq_right q, List.take_length, List.take_of_length_le q]
theorem cutG_from {α : Type} (xs : List α) {k : Int} (h : 0 ≤ k) : cutG xs (some k) none = xs.drop k.toNat := by
  obtain ⟨n, rfl⟩ := Int.eq_ofNat_of_zero_le h
  unfold cutG
  show (xs.drop (HT.sIx xs.length 0 (some (n : Int)))).take (xs.length - HT.sIx xs.length 0 (some (n : Int))) = xs.drop (n : Int).toNat
  rw [HT.sIx_nat, Int.toNat_natCast]
  rcases Nat.le_total n xs.length with q | q
  · rw [Nat.min_eq_left q, List.take_of_length_le (by simp)]
  · rw [Nat.min_eq_right q, List.drop_eq_nil_of_le q, List.drop_length, List.take_nil]
theorem cutG_mem {α : Type} {xs : List α} {lo hi : Option Int} {x : α} (h : x ∈ cutG xs lo hi) : x ∈ xs := List.mem_of_mem_drop (List.mem_of_mem_take h)
theorem cutG_len {α : Type} (xs : List α) (lo hi : Option Int) : (cutG xs lo hi).length ≤ xs.length := by
  unfold cutG; rw [List.length_take, List.length_drop]; omega
theorem lcEnd_map {g : GM} {t : TM} {e : EM} {vs : List Nat} {xs : List MV} {s : MS} (f : MV → MV) (hl : lim xs.length) (hn : noOw s.env vs = true) (h : ∀ x ∈ xs, ∃ s', lcOne g t e vs (wipeE s.env vs) x s.G = .ok (some (f x)) s' ∧ s'.G = s.G) : lcEnd g t e vs xs s = .ok (.lst (xs.map f)) s := by
  unfold lcEnd
  rw [if_pos hl, if_pos hn, lcM_map f xs [] h, List.nil_append]
theorem lcEnd_ints {g : GM} {t : TM} {e : EM} {vs : List Nat} {ns : List Int} {s : MS} (f : Int → MV) (hl : ns.length ≤ 16777216) (hn : noOw s.env vs = true) (h : ∀ n ∈ ns, ∃ s', lcOne g t e vs (wipeE s.env vs) (.int n) s.G = .ok (some (f n)) s' ∧ s'.G = s.G) : lcEnd g t e vs (ns.map MV.int) s = .ok (.lst (ns.map f)) s := by
  have := lcEnd_map (g := g) (t := t) (e := e) (vs := vs) (xs := ns.map MV.int) (s := s) (fun m => match m with
    | .int n => f n
    | _ => .non) (by rw [List.length_map]; exact hl) hn fun x hx => by
      obtain ⟨n, hn, rfl⟩ := List.mem_map.mp hx
      exact h n hn
  rw [this, List.map_map]
  rfl
theorem zipM_ints : ∀ ns ms : List Int, zipM (ns.map MV.int) (ms.map MV.int) = (ns.zip ms).map fun p => MV.tup [.int p.1, .int p.2]
  | [], ms => by simp [zipM]
  | n :: ns, [] => by simp [zipM]
  | n :: ns, m :: ms => by simp [zipM, zipM_ints ns ms]
theorem oEq_nil {ns : List Int} {s : MS} : oEq (.lst (ns.map MV.int)) (.lst []) s = .ok (.bl (decide (ns = []))) s := oEq_ints (ms := [])
theorem oNe_nil {ns : List Int} {s : MS} : oNe (.lst (ns.map MV.int)) (.lst []) s = .ok (.bl (!decide (ns = []))) s := oNe_ints (ms := [])
end M

namespace M
open PySem L2
open Classical

/-! ## lists just made -/
def lstN (c : Prop) [Decidable c] (xs : List MV) : LM := fun s => if c then .ok (.lst xs) s else .stuck
noncomputable def nLst : List MV → LM := fun xs s => if lim xs.length then .ok (.lst xs) s else .stuck
noncomputable def mLstN (a : AM) : LM := fun s => (a s).bind nLst
theorem nLst_ok {xs : List MV} {s : MS} (h : xs.length ≤ 16777216) : nLst xs s = .ok (.lst xs) s := if_pos h
def nList : List MV → LM := fun xs s => match xs with
  | [.lst xs] => .ok (.lst xs) s
  | [.scr xs] => .ok (.lst xs) s
  | [.tup xs] => .ok (.lst xs) s
  | [.ref n] => (match s.G[n]? with
    | some (.lst xs) => .ok (.lst xs) s
    | _ => .stuck)
  | _ => .stuck
noncomputable def nAdd : MV → MV → LM := fun x y s => match x, y with
  | .lst xs, .lst ys => if lim (xs.length + ys.length) then .ok (.lst (xs ++ ys)) s else .stuck
  | _, _ => .stuck
noncomputable def nMul : MV → MV → LM := fun x y s => match x, y with
  | .lst xs, .int k => if repOk xs.length k then .ok (.lst (List.replicate k.toNat xs).flatten) s else .stuck
  | _, _ => .stuck
def nSl (x : MV) (lo hi : Option Int) : LM := fun s => match x with
  | .lst xs => .ok (.lst (cutG xs lo hi)) s
  | .scr xs => .ok (.lst (cutG xs lo hi)) s
  | _ => .stuck
theorem nSl_lst {xs : List MV} {lo hi : Option Int} {s : MS} : nSl (.lst xs) lo hi s = .ok (.lst (cutG xs lo hi)) s := rfl
theorem nSl_scr {xs : List MV} {lo hi : Option Int} {s : MS} : nSl (.scr xs) lo hi s = .ok (.lst (cutG xs lo hi)) s := rfl
theorem nAdd_lst {xs ys : List MV} {s : MS} (h : xs.length + ys.length ≤ 16777216) : nAdd (.lst xs) (.lst ys) s = .ok (.lst (xs ++ ys)) s := by unfold nAdd; simp only [if_pos (show lim (xs.length + ys.length) from h)]
theorem nMul_rep {xs : List MV} {k : Nat} {s : MS} (h : repOk xs.length k) : nMul (.lst xs) (.int k) s = .ok (.lst (List.replicate k xs).flatten) s := by
  unfold nMul; simp only [if_pos h, Int.toNat_natCast]
def mArgN (f : List MV → LM) (a : AM) : LM := fun s => (a s).bind fun xs s1 => f xs s1
def mBinN (f : MV → MV → LM) (a b : EM) : LM := fun s => (a s).bind fun x s1 => (b s1).bind fun y s2 => f x y s2
def mSlN (e : EM) (l h : OM) : LM := fun s => (e s).bind fun x s1 => (l s1).bind fun lo s2 => (h s2).bind fun hi s3 => nSl x lo hi s3
section
variable {K : KA} {X : Addr → Prop} {W : WX} {ρ ρ' : List Addr} {O O' : Nat → Option Addr} {s s' : MS} {σ : St} {H H' : Hp}
theorem SimE.bindN {te : TE} {m : EM} (h : SimE K W te m) (S : SR K X ρ O s σ H) {f : MV → MS → R MO} {Q : VK} (p : PostN K X W ρ O H σ ((m s).bind f) Q) {Q' : VK}
    (k : ∀ x s1 ρ1 O1 H1 v, SR K X ρ1 O1 s1 σ H1 → Fut X ρ O H ρ1 O1 H1 → Rep ρ1 K (view X ρ1 O1 H1) x v → PostN K X W ρ1 O1 H1 σ (f x s1) Q → Q' v H1) : te σ H Q' := by
  refine h X ρ O s σ H Q' S ?_
  cases e : m s with
  | ok x s1 => rw [e] at p; intro a b c d S' F r; exact k x s1 a b c d S' F r (p.later F)
  | exc c s1 => rw [e] at p; exact p
  | stuck => rw [e] at p; exact p
theorem SimA.bindN {te : TA} {m : AM} (h : SimA K W te m) (S : SR K X ρ O s σ H) {f : List MV → MS → R MO} {Q : VK} (p : PostN K X W ρ O H σ ((m s).bind f) Q) {Q' : List V → Hp → Prop}
    (k : ∀ x s1 ρ1 O1 H1 v, SR K X ρ1 O1 s1 σ H1 → Fut X ρ O H ρ1 O1 H1 → Reps ρ1 K (view X ρ1 O1 H1) x v → PostN K X W ρ1 O1 H1 σ (f x s1) Q → Q' v H1) : te σ H Q' := by
  refine h X ρ O s σ H Q' S ?_
  cases e : m s with
  | ok x s1 => rw [e] at p; intro a b c d S' F r; exact k x s1 a b c d S' F r (p.later F)
  | exc c s1 => rw [e] at p; exact p
  | stuck => rw [e] at p; exact p
theorem SimO.bindN {te : TO} {m : OM} (h : SimO K W te m) (S : SR K X ρ O s σ H) {f : Option Int → MS → R MO} {Q : VK} (p : PostN K X W ρ O H σ ((m s).bind f) Q) {Q' : Option Int → Hp → Prop}
    (k : ∀ x s1 ρ1 O1 H1, SR K X ρ1 O1 s1 σ H1 → Fut X ρ O H ρ1 O1 H1 → PostN K X W ρ1 O1 H1 σ (f x s1) Q → Q' x H1) : te σ H Q' := by
  refine h X ρ O s σ H Q' S ?_
  cases e : m s with
  | ok x s1 => rw [e] at p; intro a b c S' F; exact k x s1 a b c S' F (p.later F)
  | exc c s1 => rw [e] at p; exact p
  | stuck => rw [e] at p; exact p
theorem PostN.grown {ms : List MV} {vs : List V} {Q : VK} {a : Addr} (p : PostN K X W ρ O H σ (.ok (.lst ms) s) Q) (S : SR K X ρ O s σ H) (n : H a = none) (r : Reps ρ K (view X ρ O H) ms vs) : Q (.ref a) (upd H a (.lst vs)) :=
  p ρ O _ a (FreshAt.mkL S Fut.refl n r)
end
section
variable {K : KA} {W : WX} {ta tb te : TE} {ma mb me : EM} {tr : TA} {mr : AM}
theorem sn_lst (hr : SimA K W tr mr) : SimN K W (tLst tr) (mLstN mr) := by
  intro X ρ O s σ H Q S p
  refine hr.bindN S p fun x s1 ρ1 O1 H1 v S1 F1 r1 p1 => ?_
  unfold nLst at p1
  by_cases hl : lim x.length
  · rw [if_pos hl] at p1
    exact ⟨by rw [← r1.length, sizeLine_eq]; exact hl, fun a ha => p1.grown S1 ha r1⟩
  · rw [if_neg hl] at p1; exact p1.elim
theorem sn_list (hr : SimA K W tr mr) : SimN K W (tCB (rListA K.F) tr) (mArgN nList mr) := by
  intro X ρ O s σ H Q S p
  refine hr.bindN S p fun x s1 ρ1 O1 H1 v S1 F1 r1 p1 => ?_
  cases r1 with
  | nil => exact p1.elim
  | cons r1 rr => cases rr with
    | cons _ _ => cases r1 <;> exact p1.elim
    | nil => cases r1 with
      | lst hx rx => exact ⟨_, _, rfl, .inl (sqlv hx), fun q hq => p1.grown S1 hq rx⟩
      | scr hx rx => exact ⟨_, _, rfl, .inl (sql_ex (view_le _ _ _ _) hx), fun q hq => p1.grown S1 hq rx⟩
      | tup hx rx => exact ⟨_, _, rfl, .inr (sqt_ex (view_le _ _ _ _) hx), fun q hq => p1.grown S1 hq rx⟩
      | ref hn =>
        rename_i n a
        unfold nList at p1
        cases g : s1.G[n]? with
        | none => simp only [g] at p1; exact p1.elim
        | some o => cases o with
          | ins c ks vs => simp only [g] at p1; exact p1.elim
          | dic ms => simp only [g] at p1; exact p1.elim
          | lst xs =>
            simp only [g] at p1
            obtain ⟨vs, hx, rx⟩ := S1.refL hn g
            exact ⟨_, _, rfl, .inl (.inl (.inl hx)), fun q hq => p1.grown S1 hq rx⟩
      | _ => exact p1.elim
theorem sn_add (ha : SimE K W ta ma) (hb : SimE K W tb mb) : SimN K W (tOp rAddAll ta tb) (mBinN nAdd ma mb) := by
  intro X ρ O s σ H Q S p
  refine ha.bindN S p fun x s1 ρ1 O1 H1 v S1 F1 r1 p1 => ?_
  refine hb.bindN S1 p1 fun y s2 ρ2 O2 H2 u S2 F2 r2 p2 => ?_
  have r1 := F2.rep r1
  cases r1 with
  | lst hx rx => cases r2 with
    | lst hy ry =>
      rename_i a xs vs b ys us
      unfold nAdd at p2
      by_cases h : lim (xs.length + ys.length)
      · simp only [if_pos h] at p2
        exact .inr (.inr ⟨a, b, vs, us, rfl, rfl, (view_some.mp hx).2, (view_some.mp hy).2, by rw [← rx.length, ← ry.length, sizeLine_eq]; exact h, fun q hq => p2.grown S2 hq (rx.append ry)⟩)
      · simp only [if_neg h] at p2; exact p2.elim
    | _ => exact p2.elim
  | _ => cases r2 <;> exact p2.elim
theorem sn_mul (ha : SimE K W ta ma) (hb : SimE K W tb mb) : SimN K W (tOp rMulAll ta tb) (mBinN nMul ma mb) := by
  intro X ρ O s σ H Q S p
  refine ha.bindN S p fun x s1 ρ1 O1 H1 v S1 F1 r1 p1 => ?_
  refine hb.bindN S1 p1 fun y s2 ρ2 O2 H2 u S2 F2 r2 p2 => ?_
  have r1 := F2.rep r1
  cases r1 with
  | lst hx rx => cases r2 with
    | int k =>
      rename_i a xs vs
      unfold nMul at p2
      by_cases h : repOk xs.length k
      · simp only [if_pos h] at p2
        exact .inr ⟨a, k, vs, rfl, rfl, (view_some.mp hx).2, by have := h.2.2; omega, by have := h.1; omega, by rw [← rx.length, sizeLine_eq]; exact h.2.1, fun q hq => p2.grown S2 hq (rx.rep k.toNat)⟩
      · simp only [if_neg h] at p2; exact p2.elim
    | _ => exact p2.elim
  | _ => cases r2 <;> exact p2.elim
theorem sn_sl {tl th : TO} {ml mh : OM} (he : SimE K W te me) (hl : SimO K W tl ml) (hh : SimO K W th mh) : SimN K W (tSl (rSlA K.F) te tl th) (mSlN me ml mh) := by
  intro X ρ O s σ H Q S p
  refine he.bindN S p fun x s1 ρ1 O1 H1 v S1 F1 r1 p1 => ?_
  refine hl.bindN S1 p1 fun lo s2 ρ2 O2 H2 S2 F2 p2 => ?_
  refine hh.bindN S2 p2 fun hi s3 ρ3 O3 H3 S3 F3 p3 => ?_
  have r3 := (F2.trans F3).rep r1
  cases r3 with
  | lst hx rx => exact .inl ⟨_, _, rfl, sqlv hx, fun q hq => p3.grown S3 hq (rx.cut lo hi)⟩
  | scr hx rx => exact .inl ⟨_, _, rfl, sql_ex (view_le _ _ _ _) hx, fun q hq => p3.grown S3 hq (rx.cut lo hi)⟩
  | _ => exact p3.elim
end
structure PNM (ct : String → Addr) (X : Cx) (W : WX) (e : Expr) (te : TE) (m : LM) : Prop where
  pe : PE X e te
  sim : SimN ⟨X.K, ct⟩ W te m

/-! ## own lists -/
def seO (O : Nat → Option Addr) (i : Nat) (a : Addr) : Nat → Option Addr := fun j => if j = i then some a else O j
def mSetO (i : Nat) (m : LM) : SM := fun s => (m s).bind fun o s1 => match o with
  | .lst xs => if i < s1.env.length then .ok .nx ⟨s1.env.set i (.ow xs), s1.G⟩ else .stuck
  | _ => .stuck
noncomputable def mApp (i : Nat) (me : EM) : SM := fun s => match s.env[i]? with
  | some (.ow _) => (me s).bind fun x s1 => (match s1.env[i]? with
    | some (.ow xs) => if xs.length < 16777216 then .ok .nx ⟨s1.env.set i (.ow (xs ++ [x])), s1.G⟩ else .stuck
    | _ => .stuck)
  | _ => .stuck
/-- reading an own list: from here on no one writes it -/
def mVarF (i : Nat) : EM := fun s => match s.env[i]? with
  | some (.ow xs) => .ok (.lst xs) ⟨s.env.set i (.sh (.lst xs)), s.G⟩
  | some (.sh x) => .ok x s
  | _ => .stuck
noncomputable def mLenO (i : Nat) : EM := fun s => match s.env[i]? with
  | some (.ow xs) => .ok (.int xs.length) s
  | some (.sh x) => bLen [x] s
  | _ => .stuck
noncomputable def mIxO (i : Nat) (me : EM) : EM := fun s => match s.env[i]? with
  | some (.ow _) => (me s).bind fun k s1 => (match s1.env[i]? with
    | some (.ow xs) => oIdx (.lst xs) k s1
    | _ => .stuck)
  | some (.sh x) => (me s).bind fun k s1 => oIdx x k s1
  | _ => .stuck
section
variable {K : KA} {X : Addr → Prop} {ρ ρ' : List Addr} {O O' : Nat → Option Addr} {s s' : MS} {σ σ' : St} {H H' : Hp}
theorem view_own {i : Nat} {a : Addr} : Ex (view (fun b => X b ∨ b = a) ρ O H) (view X ρ (seO O i a) H) := fun b o e => by
  obtain ⟨h1, h2⟩ := view_some.mp e
  refine view_some.mpr ⟨fun q => h1 ?_, h2⟩
  rcases q with q | q | ⟨j, q⟩
  · exact .inl (.inl q)
  · exact .inr (.inl q)
  · unfold seO at q
    by_cases e : j = i
    · rw [if_pos e] at q; cases q; exact .inl (.inr rfl)
    · rw [if_neg e] at q; exact .inr (.inr ⟨j, q⟩)
/-- slot i takes an own list -/
theorem FreshAt.own {xs : List MV} {a : Addr} (f : FreshAt K X ρ O H ρ' O' s' σ H' a (.lst xs)) {i : Nat} (hi : i < s'.env.length) :
    SR K X ρ' (seO O' i a) ⟨s'.env.set i (.ow xs), s'.G⟩ (σ.set i (some (.ref a))) H' ∧ Fut X ρ O H ρ' (seO O' i a) H' := by
  have S := f.S
  have vx : Ex (view (fun b => X b ∨ b = a) ρ' O' H') (view X ρ' (seO O' i a) H') := view_own
  refine ⟨⟨fun b hb => S.xo b (.inl hb), by simp [S.len], S.gl, S.nd, fun b hb q => S.xρ b hb (.inl q), fun j b h => ?_, fun j k b h1 h2 => ?_, fun j h => ?_, fun j y h => ?_, fun n o h => ?_⟩, f.pre, f.ex.trans vx, f.xs⟩
  · unfold seO at h
    by_cases e : j = i
    · rw [if_pos e] at h; cases h; exact ⟨f.nX, fun q => S.xρ a q (.inr rfl)⟩
    · rw [if_neg e] at h; exact ⟨fun q => (S.oX j b h).1 (.inl q), (S.oX j b h).2⟩
  · unfold seO at h1 h2
    by_cases e : j = i
    · rw [if_pos e] at h1; cases h1
      by_cases e2 : k = i
      · rw [e, e2]
      · rw [if_neg e2] at h2; exact absurd (.inr rfl) (S.oX k a h2).1
    · rw [if_neg e] at h1
      by_cases e2 : k = i
      · rw [if_pos e2] at h2; cases h2; exact absurd (.inr rfl) (S.oX j a h1).1
      · rw [if_neg e2] at h2; exact S.oi j k b h1 h2
  · have hj : s'.env.length ≤ j := by simpa using h
    unfold seO
    rw [if_neg (by omega)]
    exact S.ol j hj
  · by_cases e : i = j
    · subst e
      rw [List.getElem?_set_self hi] at h
      cases h
      obtain ⟨vs, h1, h2⟩ := f.ob
      exact ⟨a, vs, by unfold seO; rw [if_pos rfl], by rw [List.getElem?_set_self (by rw [← S.len]; exact hi)], h1, h2.mono (Pre.refl _) vx⟩
    · have eo : seO O' i a j = O' j := by unfold seO; rw [if_neg (fun q => e q.symm)]
      rw [List.getElem?_set_ne e] at h
      have z := S.sl j y h
      rw [List.getElem?_set_ne e, eo]
      cases y with
      | un => exact z
      | sh m => obtain ⟨h1, w, h2, h3⟩ := z; exact ⟨h1, w, h2, h3.mono (Pre.refl _) vx⟩
      | ow ms => obtain ⟨b, vs, h1, h2, h3, h4⟩ := z; exact ⟨b, vs, h1, h2, h3, h4.mono (Pre.refl _) vx⟩
  · obtain ⟨b, h1, z⟩ := S.ob n o h
    refine ⟨b, h1, ?_⟩
    cases o with
    | lst ms => obtain ⟨vs, h2, h3⟩ := z; exact ⟨vs, h2, h3.mono (Pre.refl _) vx⟩
    | ins c ks ms => obtain ⟨dx, fs, h2, h3, h4⟩ := z; exact ⟨dx, fs, h2, h3, h4.mono (Pre.refl _) vx⟩
    | dic ms => obtain ⟨fs, h2, h3, h4⟩ := z; exact ⟨fs, h2, h3, h4.mono (Pre.refl _) vx⟩
/-- an own list is written -/
theorem SR.setOw (S : SR K X ρ O s σ H) {i : Nat} {a : Addr} {ms : List MV} {vs : List V} (hO : O i = some a) (hi : i < s.env.length) (hσ : σ[i]? = some (some (.ref a))) (r : Reps ρ K (view X ρ O H) ms vs) :
    SR K X ρ O ⟨s.env.set i (.ow ms), s.G⟩ σ (upd H a (.lst vs)) ∧ Fut X ρ O H ρ O (upd H a (.lst vs)) := by
  have nX := S.oX i a hO
  have ev : view X ρ O (upd H a (.lst vs)) = view X ρ O H := by
    funext b
    unfold view
    by_cases e : b = a
    · subst e
      have q : Hid X ρ O b := .inr (.inr ⟨i, hO⟩)
      rw [if_pos q, if_pos q]
    · rw [upd_ne e]
  have vx : Ex (view X ρ O H) (view X ρ O (upd H a (.lst vs))) := by rw [ev]; exact Ex.refl _
  refine ⟨⟨fun b hb => ?_, by simp [S.len], S.gl, S.nd, S.xρ, S.oX, S.oi, fun j h => S.ol j (by simpa using h), fun j y h => ?_, fun n o h => ?_⟩, Pre.refl _, vx, fun b o hb e => ?_⟩
  · by_cases e : b = a
    · subst e; exact ⟨_, upd_same⟩
    · rw [upd_ne e]; exact S.xo b hb
  · by_cases e : i = j
    · subst e
      rw [List.getElem?_set_self hi] at h
      cases h
      exact ⟨a, vs, hO, hσ, upd_same, r.mono (Pre.refl _) vx⟩
    · rw [List.getElem?_set_ne e] at h
      have z := S.sl j y h
      cases y with
      | un => exact z
      | sh m => obtain ⟨h1, w, h2, h3⟩ := z; exact ⟨h1, w, h2, h3.mono (Pre.refl _) vx⟩
      | ow ns =>
        obtain ⟨b, us, h1, h2, h3, h4⟩ := z
        have ne : b ≠ a := fun q => e (S.oi i j a hO (q ▸ h1))
        exact ⟨b, us, h1, h2, by rw [upd_ne ne]; exact h3, h4.mono (Pre.refl _) vx⟩
  · obtain ⟨b, h1, z⟩ := S.ob n o h
    have ne : b ≠ a := fun q => nX.2 (q ▸ List.mem_iff_getElem?.mpr ⟨n, h1⟩)
    refine ⟨b, h1, ?_⟩
    cases o with
    | lst ms => obtain ⟨us, h2, h3⟩ := z; exact ⟨us, by rw [upd_ne ne]; exact h2, h3.mono (Pre.refl _) vx⟩
    | ins c ks ms => obtain ⟨dx, fs, h2, h3, h4⟩ := z; exact ⟨dx, fs, by rw [upd_ne ne]; exact h2, h3, h4.mono (Pre.refl _) vx⟩
    | dic ms => obtain ⟨fs, h2, h3, h4⟩ := z; exact ⟨fs, by rw [upd_ne ne]; exact h2, h3, h4.mono (Pre.refl _) vx⟩
  · have ne : b ≠ a := fun q => nX.1 (q ▸ hb)
    rw [upd_ne ne]; exact e
/-- an own list is let go -/
theorem SR.freeze (S : SR K X ρ O s σ H) {i : Nat} {a : Addr} {ms : List MV} {vs : List V} (hO : O i = some a) (hσ : σ[i]? = some (some (.ref a))) (hH : H a = some (.lst vs)) (r : Reps ρ K (view X ρ O H) ms vs) :
    SR K X ρ (unO O i) ⟨s.env.set i (.sh (.lst ms)), s.G⟩ σ H ∧ Rep ρ K (view X ρ (unO O i) H) (.lst ms) (.ref a) := by
  have vx : Ex (view X ρ O H) (view X ρ (unO O i) H) := view_sub fun j b h => ⟨j, (unO_sub h).2⟩
  have hv : view X ρ (unO O i) H a = some (.lst vs) := view_some.mpr ⟨fun q => by
    rcases q with q | q | ⟨j, q⟩
    · exact (S.oX i a hO).1 q
    · exact (S.oX i a hO).2 q
    · obtain ⟨h1, h2⟩ := unO_sub q
      exact h1 (S.oi j i a h2 hO), hH⟩
  have rp : Rep ρ K (view X ρ (unO O i) H) (.lst ms) (.ref a) := .lst hv (r.mono (Pre.refl _) vx)
  refine ⟨⟨S.xo, by simp [S.len], S.gl, S.nd, S.xρ, fun j b h => S.oX j b (unO_sub h).2, fun j k b h1 h2 => S.oi j k b (unO_sub h1).2 (unO_sub h2).2, fun j h => ?_, fun j y h => ?_, fun n o h => ?_⟩, rp⟩
  · unfold unO
    split
    · rfl
    · exact S.ol j (by simpa using h)
  · by_cases e : i = j
    · subst e
      have hi : i < s.env.length := by
        have := (List.getElem?_eq_some_iff.mp h).1; simpa using this
      rw [List.getElem?_set_self hi] at h
      cases h
      exact ⟨by unfold unO; rw [if_pos rfl], _, hσ, rp⟩
    · have eo : unO O i j = O j := by unfold unO; rw [if_neg (fun q => e q.symm)]
      rw [List.getElem?_set_ne e] at h
      have z := S.sl j y h
      rw [eo]
      cases y with
      | un => exact z
      | sh m => obtain ⟨h1, w, h2, h3⟩ := z; exact ⟨h1, w, h2, h3.mono (Pre.refl _) vx⟩
      | ow ms => obtain ⟨b, vs, h1, h2, h3, h4⟩ := z; exact ⟨b, vs, h1, h2, h3, h4.mono (Pre.refl _) vx⟩
  · obtain ⟨b, h1, z⟩ := S.ob n o h
    refine ⟨b, h1, ?_⟩
    cases o with
    | lst ms => obtain ⟨vs, h2, h3⟩ := z; exact ⟨vs, h2, h3.mono (Pre.refl _) vx⟩
    | ins c ks ms => obtain ⟨dx, fs, h2, h3, h4⟩ := z; exact ⟨dx, fs, h2, h3, h4.mono (Pre.refl _) vx⟩
    | dic ms => obtain ⟨fs, h2, h3, h4⟩ := z; exact ⟨fs, h2, h3, h4.mono (Pre.refl _) vx⟩
end
section
variable {K : KA} {W : WX} {te : TE} {me : EM}
theorem sim_varF (i : Nat) : SimE K W (tVar i) (mVarF i) := by
  intro X ρ O s σ H Q S p
  unfold mVarF at p
  cases e : s.env[i]? with
  | none => rw [e] at p; exact p.elim
  | some z =>
    rw [e] at p
    have zz := S.sl i z e
    cases z with
    | un => exact p.elim
    | sh x => obtain ⟨_, v, h1, h2⟩ := zz; exact ⟨v, h1, p.done S h2⟩
    | ow xs =>
      obtain ⟨a, vs, h1, h2, h3, h4⟩ := zz
      obtain ⟨S2, r⟩ := S.freeze h1 h2 h3 h4
      exact ⟨_, h2, p ρ _ H _ S2 (fut_unO i) r⟩
theorem sqlh {F : PySem.W.Frag} {H : Hp} {a : Addr} {vs : List V} (h : H a = some (.lst vs)) : SqL F H a vs := .inl (.inl h)
theorem sim_lenO (i : Nat) : SimE K W (tCB (rLenA K.F) (tCons (tVar i) tNil)) (mLenO i) := by
  intro X ρ O s σ H Q S p
  unfold mLenO at p
  cases e : s.env[i]? with
  | none => rw [e] at p; exact p.elim
  | some z =>
    rw [e] at p
    have zz := S.sl i z e
    cases z with
    | un => exact p.elim
    | sh x => obtain ⟨_, v, h1, h2⟩ := zz; exact ⟨v, h1, sc_len X W ρ O s σ H [x] [v] Q S (.cons h2 .nil) p⟩
    | ow xs =>
      obtain ⟨a, vs, h1, h2, h3, h4⟩ := zz
      refine ⟨_, h2, .inl ⟨a, vs, rfl, .inl (sqlh h3), ?_⟩⟩
      rw [← h4.length]
      exact p.done S (.int _)
theorem sim_ixO (i : Nat) (h : SimE K W te me) : SimE K W (tOp (rIx K.F) (tVar i) te) (mIxO i me) := by
  intro X ρ O s σ H Q S p
  unfold mIxO at p
  cases e : s.env[i]? with
  | none => rw [e] at p; exact p.elim
  | some z =>
    rw [e] at p
    have zz := S.sl i z e
    cases z with
    | un => exact p.elim
    | sh x =>
      obtain ⟨_, v, h1, h2⟩ := zz
      refine ⟨v, h1, ?_⟩
      refine h.bindE S p fun y s1 ρ1 O1 H1 u S1 F1 r1 p1 => ?_
      exact so_idx X W ρ1 O1 s1 σ H1 x y v u Q S1 (F1.rep h2) r1 p1
    | ow xs0 =>
      obtain ⟨a, vs0, h1, h2, h3, h4⟩ := zz
      refine ⟨_, h2, ?_⟩
      refine h.bindE S p fun y s1 ρ1 O1 H1 u S1 F1 r1 p1 => ?_
      cases e1 : s1.env[i]? with
      | none => rw [e1] at p1; exact p1.elim
      | some z1 =>
        rw [e1] at p1
        have zz1 := S1.sl i z1 e1
        cases z1 with
        | un => exact p1.elim
        | sh x => exact p1.elim
        | ow xs =>
          obtain ⟨b, vs, g1, g2, g3, g4⟩ := zz1
          rw [h2] at g2
          have eb : a = b := by have := Option.some.inj (Option.some.inj g2); cases this; rfl
          subst eb
          cases r1 with
          | int k =>
            simp only [oIdx] at p1
            by_cases hk : 0 ≤ k
            · rw [if_pos hk] at p1
              cases ex : xs[k.toNat]? with
              | none => rw [ex] at p1; exact p1.elim
              | some m =>
                rw [ex] at p1
                obtain ⟨w, hw, rw'⟩ := g4.get ex
                exact .inl ⟨a, vs, k, w, rfl, rfl, sqlh g3, at_of (by omega) hw, p1.done S1 rw'⟩
            · rw [if_neg hk] at p1; exact p1.elim
          | _ => exact p1.elim
theorem ss_setO (i : Nat) {te : TE} {m : LM} (h : SimN K W te m) : SimS K W (tAsg te (gName i)) (mSetO i m) := by
  intro X ρ O s σ H D S p
  refine h X ρ O s σ H _ S ?_
  unfold mSetO at p
  cases e : m s with
  | stuck => rw [e] at p; exact p.elim
  | exc c s1 => rw [e] at p; intro a b c S' F; exact p a b σ c S' F
  | ok o s1 =>
    rw [e] at p
    cases o with
    | ins c ks vs => exact p.elim
    | dic ms => exact p.elim
    | lst xs =>
      intro ρ1 O1 H1 a f
      dsimp only [R.bind_ok] at p
      by_cases hi : i < s1.env.length
      · rw [if_pos hi] at p
        obtain ⟨S2, F2⟩ := f.own hi
        exact p ρ1 _ _ H1 S2 F2
      · rw [if_neg hi] at p; exact p.elim
theorem ss_app (i : Nat) (h : SimE K W te me) : SimS K W (tDrop (tBM K.F "list" rAppend (tVar i) (tCons te tNil))) (mApp i me) := by
  intro X ρ O s σ H D S p
  unfold mApp at p
  cases e : s.env[i]? with
  | none => rw [e] at p; exact p.elim
  | some z =>
    rw [e] at p
    have zz := S.sl i z e
    cases z with
    | un => exact p.elim
    | sh x => exact p.elim
    | ow xs0 =>
      obtain ⟨a, vs0, h1, h2, h3, h4⟩ := zz
      refine ⟨_, h2, .inl ⟨rfl, _, sqlh h3⟩, ?_⟩
      refine h.bindS S p fun y s1 ρ1 O1 H1 u S1 F1 r1 p1 => ?_
      cases e1 : s1.env[i]? with
      | none => rw [e1] at p1; exact p1.elim
      | some z1 =>
        rw [e1] at p1
        have zz1 := S1.sl i z1 e1
        cases z1 with
        | un => exact p1.elim
        | sh x => exact p1.elim
        | ow xs =>
          obtain ⟨b, vs, g1, g2, g3, g4⟩ := zz1
          rw [h2] at g2
          have eb : a = b := by have := Option.some.inj (Option.some.inj g2); cases this; rfl
          subst eb
          dsimp only at p1
          by_cases hz : xs.length < 16777216
          · rw [if_pos hz] at p1
            refine ⟨a, vs, u, rfl, rfl, g3, by rw [← g4.length, sizeLine_eq]; exact hz, ?_⟩
            have hi := (List.getElem?_eq_some_iff.mp e1).1
            obtain ⟨S2, F2⟩ := S1.setOw g1 hi h2 (g4.append (.cons r1 .nil))
            exact p1 ρ1 O1 σ _ S2 F2
          · rw [if_neg hz] at p1; exact p1.elim
end
end M

namespace M
open PySem L2
open Classical

section
variable {ct : String → Addr} {X : Cx} {W : WX} {a b e : Expr} {es : List Expr} {ta tb te : TE} {ma mb me : EM} {tr : TA} {mr : AM} {m : LM} {pos p2 p : Pos} {lo hi : Option Expr} {tl th : TO} {ml mh : OM}
theorem f_lst (h : PAM ct X W es tr mr) : PNM ct X W (.List es pos) (tLst tr) (mLstN mr) := ⟨pe_lst h.pe, sn_lst h.sim⟩
theorem f_list {x : Str} (hm : X.mg x = none) (ha : PAM ct X W (e :: es) tr mr) (hg : Gl X x := by rfl) (hv : bootBuiltins x = some (.type "list") := by decide +kernel) (hn : x ≠ "__name__" := by decide) (hdb : (x == ("__debug__" : Str)) = false := by decide)
    (he : starEach (e :: es) X.env = (false, eval e X.env) :: starEach es X.env := by rfl) (hpl : (backTo pos (starEach es X.env)).any (·.1) = false := by rfl) : PNM ct X W (.Call (.Name x p) (e :: es) [] pos) (tCB (rListA X.K) tr) (mArgN nList mr) := ⟨pe_callTy call_list_of hg hm hv ha.pe hn hdb he hpl, sn_list ha.sim⟩
theorem f_add (ha : PEM ct X W a ta ma) (hb : PEM ct X W b tb mb) : PNM ct X W (.BinOp a .Add b pos) (tOp rAddAll ta tb) (mBinN nAdd ma mb) := ⟨pe_op op_addAll ha.pe hb.pe, sn_add ha.sim hb.sim⟩
theorem f_mult (ha : PEM ct X W a ta ma) (hb : PEM ct X W b tb mb) : PNM ct X W (.BinOp a .Mult b pos) (tOp rMulAll ta tb) (mBinN nMul ma mb) := ⟨pe_op op_mulAll ha.pe hb.pe, sn_mul ha.sim hb.sim⟩
theorem f_sl (h : PEM ct X W e te me) (hl : POM ct X W lo tl ml) (hh : POM ct X W hi th mh) : PNM ct X W (.Subscript e (.Slice lo hi none p2) pos) (tSl (rSlA X.K) te tl th) (mSlN me ml mh) := ⟨pe_slice sl_all h.pe hl.pe hh.pe, sn_sl h.sim hl.sim hh.sim⟩
/-- a new list others may write too -/
theorem e_live (h : PNM ct X W e te m) : PEM ct X W e te (mLive m) := ⟨h.pe, sim_live h.sim⟩
theorem e_varF (i : Nat) {x : Str} (hN : X.N[i]? = some x := by rfl) (hv : Vis X.env.scope x := by first | exact Or.inl rfl | exact Or.inr (Or.inl rfl) | exact Or.inr (Or.inr rfl)) (hd : (x == ("__debug__" : Str)) = false := by decide) (hcd : (x == ("__classdict__" : Str)) = false := by decide) :
    PEM ct X W (.Name x pos) (tVar i) (mVarF i) := ⟨pe_var hN hv hd hcd, sim_varF i⟩
theorem e_lenO (hm : X.mg "len" = none) (i : Nat) {x : Str} (hN : X.N[i]? = some x := by rfl) (hv : Vis X.env.scope x := by first | exact Or.inl rfl | exact Or.inr (Or.inl rfl) | exact Or.inr (Or.inr rfl)) (hd : (x == ("__debug__" : Str)) = false := by decide) (hcd : (x == ("__classdict__" : Str)) = false := by decide)
    (hg : Gl X "len" := by rfl) (he : starEach [.Name x p2] X.env = (false, eval (.Name x p2) X.env) :: starEach [] X.env := by rfl) (hpl : (backTo pos (starEach [] X.env)).any (·.1) = false := by rfl) :
    PEM ct X W (.Call (.Name "len" p) [.Name x p2] [] pos) (tCB (rLenA X.K) (tCons (tVar i) tNil)) (mLenO i) :=
  ⟨pe_callB call_lenA hg hm (by decide +kernel) (pa_cons (pe_var hN hv hd hcd) pa_nil he) (by decide) (by decide) he hpl, sim_lenO i⟩
theorem e_ixO (i : Nat) {x : Str} (hb : PEM ct X W b tb mb) (hN : X.N[i]? = some x := by rfl) (hv : Vis X.env.scope x := by first | exact Or.inl rfl | exact Or.inr (Or.inl rfl) | exact Or.inr (Or.inr rfl)) (hd : (x == ("__debug__" : Str)) = false := by decide) (hcd : (x == ("__classdict__" : Str)) = false := by decide) (hs : PlainIx b := by exact fun _ _ => rfl) :
    PEM ct X W (.Subscript (.Name x p2) b pos) (tOp (rIx X.K) (tVar i) tb) (mIxO i mb) := ⟨pe_ix ix_seq (pe_var hN hv hd hcd) hb.pe hs, sim_ixO i hb.sim⟩
theorem s_setO (i : Nat) {x : Str} (hN : X.N.Nodup) (h : PNM ct X W e te m) (hi : X.N[i]? = some x := by rfl) (hx : Loc X.env.scope x := by first | exact Or.inl rfl | exact Or.inr rfl) (hs : swapsWith e (some (.Name x p)) pos.line X.env = pure false := by rfl) (hf : X.fn x = true ∨ X.env.scope.names.lookup x = some .local := by first | exact .inl rfl | exact .inr rfl) :
    PSM ct X W (.Assign [.Name x p] e pos) (tAsg te (gName i)) (mSetO i m) := ⟨ps_set hN hi hx h.pe hs hf, ss_setO i h.sim⟩
theorem s_app (i : Nat) {x : Str} {apos spos : Pos} (h : PEM ct X W e te me) (hN : X.N[i]? = some x := by rfl) (hv : Vis X.env.scope x := by first | exact Or.inl rfl | exact Or.inr (Or.inl rfl) | exact Or.inr (Or.inr rfl)) (hd : (x == ("__debug__" : Str)) = false := by decide) (hcd : (x == ("__classdict__" : Str)) = false := by decide)
    (he : starEach [e] X.env = (false, eval e X.env) :: starEach [] X.env := by rfl)
    (hbase : attributeBase (.Name x p) "append" X.env (eval (.Name x p) X.env) = eval (.Name x p) X.env := by rfl)
    (hfew : ((backTo pos (starEach [e] X.env)).all (fun x => !x.1) && (backToKw pos (keywordEach [] X.env)).all (fun x => x.1.isSome)
      && decide ([e].length + ([] : List Keyword).length + (if ([] : List Keyword).isEmpty then 0 else 1) < 30)) = true := by rfl)
    (hline : (apos.endLine == pos.line) = true := by rfl) (hplain : (backTo pos (starEach [] X.env)).any (·.1) = false := by rfl)
    (hs : swapsWith (.Call (.Attribute (.Name x p) "append" apos) [e] [] pos) none spos.line X.env = pure false := by rfl) :
    PSM ct X W (.Expr (.Call (.Attribute (.Name x p) "append" apos) [e] [] pos) spos) (tDrop (tBM X.K "list" rAppend (tVar i) (tCons te tNil))) (mApp i me) :=
  ⟨ps_expr (pe_bm PySem.F.plainAttrs_list PySem.F.slot_list_append PySem.F.type_list_append mt_append (pe_var hN hv hd hcd) (pa_cons h.pe pa_nil he) hbase hfew hline he hplain) hs, ss_app i h.sim⟩
variable {scope : Scope} {elt tg iter : Expr} {ifs : List Expr} {mg : GM} {ts : List Nat} {mt : TM}
theorem f_lc {own : List (Str × Nat)} {pos : Pos} {wi : TI} {mi : AM}
    (hN : X.N.Nodup) (hi : PIM ct X W tg iter wi mi) (ok : BlkOk X.N X.env.scope scope own)
    (hg : ∀ s H C cl fp, ∃ g, PGM ct (blkX X scope s H C cl fp) tg ts g mg) (ht : ∀ s H C cl fp, ∃ te, PQM ct (blkX X scope s H C cl fp) W0 ifs te mt)
    (he : ∀ s H C cl fp, ∃ te, PEM ct (blkX X scope s H C cl fp) W0 elt te me) (hc : X.calm = true := by rfl) (hts : ∀ i ∈ ts, i ∈ own.map (·.2) := by decide) (hs : ∀ x, foldedSetIterable iter X.env x = pure x := by intro _; rfl) :
    PNM ct X W (.ListComp elt [⟨tg, iter, ifs, 0⟩] scope pos) (tLc wi (gAll ct X scope tg ts mg) (qAll ct X scope ifs mt) (eAll ct X scope elt me) (own.map (·.2))) (mLcL mi (own.map (·.2)) mg mt me) :=
  ⟨pe_lc hc hN hi.pe ok (gAll_pe hg) (qAll_pe ht) (eAll_pe he) hs, sf_lc hi.sim gAll_sim qAll_sim eAll_sim hts⟩
theorem s_setLcO (i : Nat) {own : List (Str × Nat)} {y : Str} {py : Pos} {pos spos : Pos} {wi : TI} {mi : AM}
    (hN : X.N.Nodup) (hi : PIM ct X W tg iter wi mi) (ok : BlkOk X.N X.env.scope scope own)
    (hg : ∀ s H C cl fp, ∃ g, PGM ct (blkX X scope s H C cl fp) tg ts g mg) (ht : ∀ s H C cl fp, ∃ te, PQM ct (blkX X scope s H C cl fp) W0 ifs te mt)
    (he : ∀ s H C cl fp, ∃ te, PEM ct (blkX X scope s H C cl fp) W0 elt te me) (hc : X.calm = true := by rfl) (hts : ∀ i ∈ ts, i ∈ own.map (·.2) := by decide) (hs : ∀ x, foldedSetIterable iter X.env x = pure x := by intro _; rfl)
    (hy : X.N[i]? = some y := by rfl) (hyl : X.env.scope.names.lookup y = some .local := by rfl) (hk : X.env.scope.kind = .function := by rfl) (hl : (py.line == pos.line) = true := by rfl) (ha : (scope.names.any fun (n, k) => n == y && (k == .local || k == .cell)) = false := by rfl) :
    PSM ct X W (.Assign [.Name y py] (.ListComp elt [⟨tg, iter, ifs, 0⟩] scope pos) spos) (tAsg (tLc wi (gAll ct X scope tg ts mg) (qAll ct X scope ifs mt) (eAll ct X scope elt me) (own.map (·.2))) (gName i)) (mSetO i (mLcL mi (own.map (·.2)) mg mt me)) :=
  ⟨ps_setLc hc hN hy hyl (sw_true hk hyl hl ha) hi.pe ok (gAll_pe hg) (qAll_pe ht) (eAll_pe he) hs,
   ss_setO i (sf_lc hi.sim gAll_sim qAll_sim eAll_sim hts)⟩
end
end M

namespace M
open PySem L2
open Classical

/-! ## live lists: equality, append -/
mutual
def toG (G : MHeap) : MV → Option PyData
  | .non => some .none
  | .bl b => some (.bool b)
  | .int i => some (.int i)
  | .str s => some (.str s)
  | .tup xs => (toGs G xs).map .tuple
  | .lst xs => (toGs G xs).map .list
  | .scr xs => (toGs G xs).map .list
  | .obj _ _ _ => none
  | .ref n => (match G[n]? with
    | some (.lst xs) => (toDs xs).map .list
    | _ => none)
  | .err _ => none
  | .dic => none
def toGs (G : MHeap) : List MV → Option (List PyData)
  | [] => some []
  | x :: xs => match toG G x, toGs G xs with
    | some d, some ds => some (d :: ds)
    | _, _ => none
end
noncomputable def oEqG : MV → MV → EM := fun x y s => match toG s.G x, toG s.G y with
  | some d, some e => if SeqAt.shaped d = true ∧ SeqAt.shaped e = true then .ok (.bl (PyData.eqv d e)) s else .stuck
  | _, _ => .stuck
noncomputable def oNeG : MV → MV → EM := fun x y s => match toG s.G x, toG s.G y with
  | some d, some e => if SeqAt.shaped d = true ∧ SeqAt.shaped e = true then .ok (.bl (!PyData.eqv d e)) s else .stuck
  | _, _ => .stuck
noncomputable def mAppL (mr me : EM) : SM := fun s => (mr s).bind fun r s0 => match r with
  | .ref n => (match s0.G[n]? with
    | some (.lst _) => (me s0).bind fun x s1 => (match s1.G[n]? with
      | some (.lst xs) => if xs.length < 16777216 then .ok .nx ⟨s1.env, s1.G.set n (.lst (xs ++ [x]))⟩ else .stuck
      | _ => .stuck)
    | _ => .stuck)
  | _ => .stuck
section
variable {K : KA} {X : Addr → Prop} {ρ ρ' : List Addr} {O O' : Nat → Option Addr} {s s' : MS} {σ σ' : L2.St} {H H' : Hp}
mutual
theorem toG_dp (S : SR K X ρ O s σ H) : ∀ {x : MV} {v : V} {d : PyData}, Rep ρ K (view X ρ O H) x v → toG s.G x = some d → Dp K.F H v d
  | _, _, _, .non, h => by simp only [toG] at h; cases h; exact .non
  | _, _, _, .bl b, h => by simp only [toG] at h; cases h; exact .bl b
  | _, _, _, .int i, h => by simp only [toG] at h; cases h; exact .int i
  | _, _, _, .str s, h => by simp only [toG] at h; cases h; exact .str s
  | .tup xs, _, d, .tup hs r, h => by
    rw [toG] at h
    obtain ⟨ds, h1, rfl⟩ := Option.map_eq_some_iff.mp h
    exact .tup (sqt_ex (view_le _ _ _ _) hs) (toGs_dp S r h1)
  | .lst xs, _, d, .lst hs r, h => by
    rw [toG] at h
    obtain ⟨ds, h1, rfl⟩ := Option.map_eq_some_iff.mp h
    exact .lst (sqlv hs) (toGs_dp S r h1)
  | .scr xs, _, d, .scr hs r, h => by
    rw [toG] at h
    obtain ⟨ds, h1, rfl⟩ := Option.map_eq_some_iff.mp h
    exact .lst (sql_ex (view_le _ _ _ _) hs) (toGs_dp S r h1)
  | _, _, _, .obj _ _ _, h => by simp only [toG] at h; cases h
  | .ref n, _, d, .ref hn, h => by
    rw [toG] at h
    cases g : s.G[n]? with
    | none => simp only [g] at h; cases h
    | some o => cases o with
      | ins c ks vs => simp only [g] at h; cases h
      | dic ms => simp only [g] at h; cases h
      | lst ms =>
        simp only [g] at h
        obtain ⟨ds, h1, rfl⟩ := Option.map_eq_some_iff.mp h
        obtain ⟨us, hx, rx⟩ := S.refL hn g
        exact .lst (sqlh hx) (toDs_dp (view_le _ _ _ _) rx h1)
  | _, _, _, .err _, h => by simp only [toG] at h; cases h
  | _, _, _, .dic _, h => by simp only [toG] at h; cases h
theorem toGs_dp (S : SR K X ρ O s σ H) : ∀ {x : List MV} {v : List V} {d : List PyData}, Reps ρ K (view X ρ O H) x v → toGs s.G x = some d → DpAll K.F H v d
  | _, _, _, .nil, h => by simp only [toGs] at h; cases h; exact .nil
  | x :: xs, _, d, .cons r rs, h => by
    rw [toGs] at h
    cases e1 : toG s.G x with
    | none => simp only [e1] at h; cases h
    | some d1 =>
      cases e2 : toGs s.G xs with
      | none => simp only [e1, e2] at h; cases h
      | some d2 =>
        simp only [e1, e2] at h
        cases h
        exact .cons (toG_dp S r e1) (toGs_dp S rs e2)
end
/-- a live list is written -/
theorem SR.setG (S : SR K X ρ O s σ H) {n : Nat} {a : Addr} {ms : List MV} {vs : List V} (hn : ρ[n]? = some a) (r : Reps ρ K (view X ρ O H) ms vs) :
    SR K X ρ O ⟨s.env, s.G.set n (.lst ms)⟩ σ (upd H a (.lst vs)) ∧ Fut X ρ O H ρ O (upd H a (.lst vs)) := by
  have ha : a ∈ ρ := List.mem_iff_getElem?.mpr ⟨n, hn⟩
  have nX := S.xρ a ha
  have ev : view X ρ O (upd H a (.lst vs)) = view X ρ O H := by
    funext b
    unfold view
    by_cases e : b = a
    · subst e
      have q : Hid X ρ O b := .inr (.inl ha)
      rw [if_pos q, if_pos q]
    · rw [upd_ne e]
  have vx : Ex (view X ρ O H) (view X ρ O (upd H a (.lst vs))) := by rw [ev]; exact Ex.refl _
  refine ⟨⟨fun b hb => ?_, S.len, by simp [S.gl], S.nd, S.xρ, S.oX, S.oi, S.ol, fun j y h => ?_, fun k o h => ?_⟩, Pre.refl _, vx, fun b o hb e => ?_⟩
  · by_cases e : b = a
    · subst e; exact ⟨_, upd_same⟩
    · rw [upd_ne e]; exact S.xo b hb
  · have z := S.sl j y h
    cases y with
    | un => exact z
    | sh m => obtain ⟨h1, w, h2, h3⟩ := z; exact ⟨h1, w, h2, h3.mono (Pre.refl _) vx⟩
    | ow ns =>
      obtain ⟨b, us, h1, h2, h3, h4⟩ := z
      have ne : b ≠ a := fun q => (S.oX j b h1).2 (q ▸ ha)
      exact ⟨b, us, h1, h2, by rw [upd_ne ne]; exact h3, h4.mono (Pre.refl _) vx⟩
  · by_cases e : n = k
    · subst e
      have hl : n < s.G.length := by
        have := (List.getElem?_eq_some_iff.mp h).1; simpa using this
      have h : (s.G.set n (.lst ms))[n]? = some o := h
      rw [List.getElem?_set_self hl] at h
      cases h
      exact ⟨a, hn, vs, upd_same, r.mono (Pre.refl _) vx⟩
    · have h : (s.G.set n (.lst ms))[k]? = some o := h
      rw [List.getElem?_set_ne e] at h
      obtain ⟨b, h1, z⟩ := S.ob k o h
      have ne : b ≠ a := fun q => by
        subst q
        have i1 := List.getElem?_eq_some_iff.mp hn
        have i2 := List.getElem?_eq_some_iff.mp h1
        obtain ⟨l1, e1⟩ := i1
        obtain ⟨l2, e2⟩ := i2
        exact e ((List.getElem_inj S.nd).mp (e1.trans e2.symm))
      refine ⟨b, h1, ?_⟩
      cases o with
      | lst ms => obtain ⟨us, h2, h3⟩ := z; exact ⟨us, by rw [upd_ne ne]; exact h2, h3.mono (Pre.refl _) vx⟩
      | ins c ks ms => obtain ⟨dx, fs, h2, h3, h4⟩ := z; exact ⟨dx, fs, by rw [upd_ne ne]; exact h2, h3, h4.mono (Pre.refl _) vx⟩
      | dic ms => obtain ⟨fs, h2, h3, h4⟩ := z; exact ⟨fs, by rw [upd_ne ne]; exact h2, h3, h4.mono (Pre.refl _) vx⟩
  · have ne : b ≠ a := fun q => nX (q ▸ hb)
    rw [upd_ne ne]; exact e
end
section
variable {K : KA} {W : WX} {ta te : TE} {ma me : EM}
theorem so_eqG : SimOp K (rEqD K.F) oEqG := by
  intro X W ρ O s σ H x y v u Q S rx ry p
  unfold oEqG at p
  cases e1 : toG s.G x with
  | none => simp only [e1] at p; exact p.elim
  | some d =>
    cases e2 : toG s.G y with
    | none => simp only [e1, e2] at p; exact p.elim
    | some e =>
      simp only [e1, e2] at p
      by_cases h : SeqAt.shaped d = true ∧ SeqAt.shaped e = true
      · rw [if_pos h] at p
        exact ⟨d, e, toG_dp S rx e1, toG_dp S ry e2, h.1, h.2, p.done S (.bl _)⟩
      · rw [if_neg h] at p; exact p.elim
theorem so_neG : SimOp K (rNeD K.F) oNeG := by
  intro X W ρ O s σ H x y v u Q S rx ry p
  unfold oNeG at p
  cases e1 : toG s.G x with
  | none => simp only [e1] at p; exact p.elim
  | some d =>
    cases e2 : toG s.G y with
    | none => simp only [e1, e2] at p; exact p.elim
    | some e =>
      simp only [e1, e2] at p
      by_cases h : SeqAt.shaped d = true ∧ SeqAt.shaped e = true
      · rw [if_pos h] at p
        exact ⟨d, e, toG_dp S rx e1, toG_dp S ry e2, h.1, h.2, p.done S (.bl _)⟩
      · rw [if_neg h] at p; exact p.elim
theorem ss_appL (hr : SimE K W ta ma) (h : SimE K W te me) : SimS K W (tDrop (tBM K.F "list" rAppend ta (tCons te tNil))) (mAppL ma me) := by
  intro X ρ O s σ H D S p
  refine hr.bindS S p fun r s0 ρ0 O0 H0 v S0 F0 r0 p0 => ?_
  cases r0 with
  | ref hn =>
    rename_i n a
    dsimp only at p0
    cases g : s0.G[n]? with
    | none => simp only [g] at p0; exact p0.elim
    | some o => cases o with
      | ins c ks vs => simp only [g] at p0; exact p0.elim
      | dic ms => simp only [g] at p0; exact p0.elim
      | lst ms0 =>
        simp only [g] at p0
        obtain ⟨vs0, hx0, _⟩ := S0.refL hn g
        refine ⟨.inl ⟨rfl, _, sqlh hx0⟩, ?_⟩
        refine h.bindS S0 p0 fun y s1 ρ1 O1 H1 u S1 F1 r1 p1 => ?_
        cases g1 : s1.G[n]? with
        | none => simp only [g1] at p1; exact p1.elim
        | some o => cases o with
          | ins c ks vs => simp only [g1] at p1; exact p1.elim
          | dic ms => simp only [g1] at p1; exact p1.elim
          | lst xs =>
            simp only [g1] at p1
            have hn1 := F1.pre n a hn
            obtain ⟨vs, hx, rx⟩ := S1.refL hn1 g1
            by_cases hz : xs.length < 16777216
            · rw [if_pos hz] at p1
              refine ⟨a, vs, u, rfl, rfl, hx, by rw [← rx.length, sizeLine_eq]; exact hz, ?_⟩
              obtain ⟨S2, F2⟩ := S1.setG hn1 (rx.append (.cons r1 .nil))
              exact p1 ρ1 O1 σ _ S2 F2
            · rw [if_neg hz] at p1; exact p1.elim
  | _ => exact p0.elim
end
section
variable {ct : String → Addr} {X : Cx} {W : WX} {r e : Expr} {ta te : TE} {ma me : EM} {pos apos spos : Pos}
theorem s_appL (hr : PEM ct X W r ta ma) (h : PEM ct X W e te me)
    (he : starEach [e] X.env = (false, eval e X.env) :: starEach [] X.env := by rfl)
    (hbase : attributeBase r "append" X.env (eval r X.env) = eval r X.env := by rfl)
    (hfew : ((backTo pos (starEach [e] X.env)).all (fun x => !x.1) && (backToKw pos (keywordEach [] X.env)).all (fun x => x.1.isSome)
      && decide ([e].length + ([] : List Keyword).length + (if ([] : List Keyword).isEmpty then 0 else 1) < 30)) = true := by rfl)
    (hline : (apos.endLine == pos.line) = true := by rfl) (hplain : (backTo pos (starEach [] X.env)).any (·.1) = false := by rfl)
    (hs : swapsWith (.Call (.Attribute r "append" apos) [e] [] pos) none spos.line X.env = pure false := by rfl) :
    PSM ct X W (.Expr (.Call (.Attribute r "append" apos) [e] [] pos) spos) (tDrop (tBM X.K "list" rAppend ta (tCons te tNil))) (mAppL ma me) :=
  ⟨ps_expr (pe_bm PySem.F.plainAttrs_list PySem.F.slot_list_append PySem.F.type_list_append mt_append hr.pe (pa_cons h.pe pa_nil he) hbase hfew hline he hplain) hs, ss_appL hr.sim h.sim⟩
end
theorem bLen_ref {n : Nat} {s : MS} : bLen [.ref n] s = (match s.G[n]? with
    | some (.lst xs) => .ok (.int xs.length) s
    | _ => .stuck) := rfl
theorem oAdd_lref {xs : List MV} {n : Nat} {s : MS} : oAdd (.lst xs) (.ref n) s = (match s.G[n]? with
    | some (.lst ys) => oAdd (.lst xs) (.lst ys) s
    | _ => .stuck) := by
  simp only [oAdd]
  all_goals (
    generalize s.G[n]? = o
    cases o with
    | none => rfl
    | some o => cases o <;> rfl)
end M

namespace M
open PySem L2
open Classical

/-! ## loops by an invariant -/
theorem forM_inv {g : GM} {b : SM} (P : Nat → MS → Prop) : ∀ (xs : List MV) (k : Nat) (s : MS), P k s →
    (∀ i m s, xs[i]? = some m → P (k + i) s → ∃ s1 s2, g m s = some s1 ∧ b s1 = .ok .nx s2 ∧ P (k + i + 1) s2) → ∃ s', M.forM g b xs s = .ok .nx s' ∧ P (k + xs.length) s'
  | [], k, s, h, _ => ⟨s, rfl, h⟩
  | x :: xs, k, s, h, t => by
    obtain ⟨s1, s2, h1, h2, h3⟩ := t 0 x s rfl h
    obtain ⟨s', h4, h5⟩ := forM_inv P xs (k + 1) s2 h3 fun i m s hm hp => by
      have e : k + (i + 1) = k + 1 + i := by omega
      have := t (i + 1) m s (by simpa using hm) (by rw [e]; exact hp)
      rw [e] at this
      exact this
    refine ⟨s', ?_, ?_⟩
    · unfold M.forM
      simp only [h1, h2]
      exact h4
    · rw [List.length_cons, show k + (xs.length + 1) = k + 1 + xs.length by omega]; exact h5
theorem rangeM_at {lo c : Int} {n i : Nat} {m : MV} (h : (rangeM lo c n)[i]? = some m) : i < n ∧ m = .int (lo + i * c) := by
  unfold rangeM at h
  rw [List.getElem?_map] at h
  obtain ⟨k, h1, h2⟩ := Option.map_eq_some_iff.mp h
  have hk := List.getElem?_eq_some_iff.mp h1
  obtain ⟨l, e⟩ := hk
  rw [List.length_range] at l
  rw [List.getElem_range] at e
  subst e
  exact ⟨l, h2.symm⟩
theorem forM_range {g : GM} {b : SM} {lo c : Int} {n : Nat} {s : MS} (P : Nat → MS → Prop) (h0 : P 0 s) (t : ∀ (i : Nat) s, i < n → P i s → ∃ s1 s2, g (.int (lo + i * c)) s = some s1 ∧ b s1 = .ok .nx s2 ∧ P (i + 1) s2) :
    ∃ s', M.forM g b (rangeM lo c n) s = .ok .nx s' ∧ P n s' := by
  obtain ⟨s', h1, h2⟩ := forM_inv (g := g) (b := b) P (rangeM lo c n) 0 s h0 fun i m s hm hp => by
    obtain ⟨hi, rfl⟩ := rangeM_at hm
    rw [Nat.zero_add] at hp ⊢
    exact t i s hi hp
  rw [Nat.zero_add, rangeM_len] at h2
  exact ⟨s', h1, h2⟩
end M

namespace M
open PySem L2
open Classical

/-! ## fields -/
def fldAt (f : Str) : List Str → List MV → Option MV
  | k :: ks, v :: vs => if f = k then some v else fldAt f ks vs
  | _, _ => none
def putK (f : Str) : List Str → List Str
  | [] => [f]
  | g :: r => if g = f then g :: r else g :: putK f r
def putW (f : Str) (y : MV) : List Str → List MV → List MV
  | [], _ => [y]
  | _ :: _, [] => [y]
  | g :: r, v :: vs => if g = f then y :: vs else v :: putW f y r vs
def hasK (f : Str) (ks : List Str) : Bool := ks.any fun k => f == k
noncomputable def fldR (cs : List String) (f : Str) (o : Option MO) (s : MS) : R MV := match o with
  | some (.ins c ks vs) => if c ∈ cs then (match fldAt f ks vs with
    | some m => .ok m s
    | none => .stuck) else .stuck
  | _ => .stuck
noncomputable def oFld (cs : List String) (f : Str) : MV → EM := fun x s => match x with
  | .obj c ks vs => fldR cs f (some (.ins c ks vs)) s
  | .ref n => fldR cs f s.G[n]? s
  | _ => .stuck
theorem oFld_ref {cs : List String} {f : Str} {n : Nat} {s : MS} : oFld cs f (.ref n) s = fldR cs f s.G[n]? s := rfl
noncomputable def setR (cs : List String) (f : Str) (y : MV) (n : Nat) (o : Option MO) (s : MS) : R Fl := match o with
  | some (.ins c ks vs) => if c ∈ cs ∧ ks.length < 1000 then .ok .nx ⟨s.env, s.G.set n (.ins c (putK f ks) (putW f y ks vs))⟩ else .stuck
  | _ => .stuck
noncomputable def setX (cs : List String) (f : Str) (y x : MV) (s : MS) : R Fl := match x with
  | .ref n => setR cs f y n s.G[n]? s
  | _ => .stuck
theorem setX_ref {cs : List String} {f : Str} {y : MV} {n : Nat} {s : MS} : setX cs f y (.ref n) s = setR cs f y n s.G[n]? s := rfl
def FldI (ct : String → Addr) (K : PySem.W.Frag) (cs : List String) (f : Str) : Prop := ∀ c ∈ cs, Cls K (ct c) ∧ NoAttr K (ct c) f
theorem FldI.nil {ct : String → Addr} {K : PySem.W.Frag} {f : Str} : FldI ct K [] f := fun _ h => by cases h
theorem FldI.cons {ct : String → Addr} {K : PySem.W.Frag} {f : Str} {c : String} {cs : List String} (a : Cls K (ct c)) (b : NoAttr K (ct c) f) (r : FldI ct K cs f) : FldI ct K (c :: cs) f := fun d h => by
  rcases List.mem_cons.mp h with rfl | h
  · exact ⟨a, b⟩
  · exact r d h
noncomputable def mSetF (cs : List String) (f : Str) (me mo : EM) : SM := fun s => (me s).bind fun y s1 => (mo s1).bind fun x s2 => setX cs f y x s2
section
variable {ρ ρ' : List Addr} {K : KA} {H H' : Hp} {f : Str}
theorem fld_get : ∀ {fs : List (Str × V)} {ms : List MV} {m : MV}, fldAt f (fs.map (·.1)) ms = some m → Reps ρ K H ms (fs.map (·.2)) → ∃ v, fs.lookup f = some v ∧ Rep ρ K H m v
  | [], _, _, h, _ => by simp [fldAt] at h
  | (k, u) :: fs, _, m, h, .cons r rs => by
    rw [List.map_cons, fldAt] at h
    by_cases e : f = k
    · rw [if_pos e] at h
      cases h
      exact ⟨u, by rw [List.lookup_cons]; simp [e], r⟩
    · rw [if_neg e] at h
      obtain ⟨v, h1, h2⟩ := fld_get h rs
      exact ⟨v, by rw [List.lookup_cons, show (f == k) = false from beq_eq_false_iff_ne.mpr e]; exact h1, h2⟩
theorem hasK_none : ∀ {fs : List (Str × V)}, hasK f (fs.map (·.1)) = false → fs.lookup f = none
  | [], _ => rfl
  | (k, u) :: fs, h => by
    unfold hasK at h
    rw [List.map_cons, List.any_cons, Bool.or_eq_false_iff] at h
    rw [List.lookup_cons, h.1]
    exact hasK_none h.2
theorem putF_keys (u : V) : ∀ fs : List (Str × V), (putF f u fs).map (·.1) = putK f (fs.map (·.1))
  | [] => rfl
  | (k, x) :: fs => by
    rw [List.map_cons, putF, putK]
    by_cases e : k = f
    · rw [if_pos e, if_pos e]; rfl
    · rw [if_neg e, if_neg e, List.map_cons, putF_keys u fs]
theorem putF_reps {y : MV} {u : V} (r : Rep ρ K H y u) : ∀ {fs : List (Str × V)} {ms : List MV}, Reps ρ K H ms (fs.map (·.2)) → Reps ρ K H (putW f y (fs.map (·.1)) ms) ((putF f u fs).map (·.2))
  | [], _, _ => .cons r .nil
  | (k, x) :: fs, _, .cons q rs => by
    rw [List.map_cons, putF, putW]
    by_cases e : k = f
    · rw [if_pos e, if_pos e]; exact .cons r rs
    · rw [if_neg e, if_neg e]; exact .cons q (putF_reps r rs)
end
/-- a live object is written anew -/
theorem SR.setM {K : KA} {X : Addr → Prop} {ρ : List Addr} {O : Nat → Option Addr} {s : MS} {σ : L2.St} {H : Hp} (S : SR K X ρ O s σ H) {n : Nat} {a : Addr} {q : MO} {ho : HO} (hn : ρ[n]? = some a)
    (hq : ∀ Hz, Hz a = some ho → ObjR ρ K (view X ρ O H) Hz a q) :
    SR K X ρ O ⟨s.env, s.G.set n q⟩ σ (upd H a ho) ∧ Fut X ρ O H ρ O (upd H a ho) := by
  have ha : a ∈ ρ := List.mem_iff_getElem?.mpr ⟨n, hn⟩
  have nX := S.xρ a ha
  have ev : view X ρ O (upd H a ho) = view X ρ O H := by
    funext b
    unfold view
    by_cases e : b = a
    · subst e
      have q : Hid X ρ O b := .inr (.inl ha)
      rw [if_pos q, if_pos q]
    · rw [upd_ne e]
  have vx : Ex (view X ρ O H) (view X ρ O (upd H a ho)) := by rw [ev]; exact Ex.refl _
  have up : ∀ {Hz : Hp} {b : Addr} {o : MO}, ObjR ρ K (view X ρ O H) Hz b o → (∀ z, Hz b = some z → (upd H a ho) b = some z) → ObjR ρ K (view X ρ O (upd H a ho)) (upd H a ho) b o := fun {Hz b o} z hz => by
    cases o with
    | lst ms => obtain ⟨us, h2, h3⟩ := z; exact ⟨us, hz _ h2, h3.mono (Pre.refl _) vx⟩
    | ins c ks ms => obtain ⟨dx, fs, h2, h3, h4⟩ := z; exact ⟨dx, fs, hz _ h2, h3, h4.mono (Pre.refl _) vx⟩
    | dic ms => obtain ⟨fs, h2, h3, h4⟩ := z; exact ⟨fs, hz _ h2, h3, h4.mono (Pre.refl _) vx⟩
  refine ⟨⟨fun b hb => ?_, S.len, by simp [S.gl], S.nd, S.xρ, S.oX, S.oi, S.ol, fun j y h => ?_, fun k o h => ?_⟩, Pre.refl _, vx, fun b o hb e => ?_⟩
  · by_cases e : b = a
    · subst e; exact ⟨_, upd_same⟩
    · rw [upd_ne e]; exact S.xo b hb
  · have z := S.sl j y h
    cases y with
    | un => exact z
    | sh m => obtain ⟨h1, w, h2, h3⟩ := z; exact ⟨h1, w, h2, h3.mono (Pre.refl _) vx⟩
    | ow ns =>
      obtain ⟨b, us, h1, h2, h3, h4⟩ := z
      have ne : b ≠ a := fun q => (S.oX j b h1).2 (q ▸ ha)
      exact ⟨b, us, h1, h2, by rw [upd_ne ne]; exact h3, h4.mono (Pre.refl _) vx⟩
  · by_cases e : n = k
    · subst e
      have hl : n < s.G.length := by
        have := (List.getElem?_eq_some_iff.mp h).1; simpa using this
      have h : (s.G.set n q)[n]? = some o := h
      rw [List.getElem?_set_self hl] at h
      cases h
      exact ⟨a, hn, up (hq (upd H a ho) upd_same) fun z hz => hz⟩
    · have h : (s.G.set n q)[k]? = some o := h
      rw [List.getElem?_set_ne e] at h
      obtain ⟨b, h1, z⟩ := S.ob k o h
      have ne : b ≠ a := fun q => by
        subst q
        obtain ⟨l1, e1⟩ := List.getElem?_eq_some_iff.mp hn
        obtain ⟨l2, e2⟩ := List.getElem?_eq_some_iff.mp h1
        exact e ((List.getElem_inj S.nd).mp (e1.trans e2.symm))
      exact ⟨b, h1, up z fun y hy => by rw [upd_ne ne]; exact hy⟩
  · have ne : b ≠ a := fun q => nX (q ▸ hb)
    rw [upd_ne ne]; exact e
theorem SR.refI {K : KA} {X : Addr → Prop} {ρ : List Addr} {O : Nat → Option Addr} {s : MS} {σ : L2.St} {H : Hp} (S : SR K X ρ O s σ H) {n : Nat} {a : Addr} {c : String} {ks : List Str} {ms : List MV} (h : ρ[n]? = some a) (g : s.G[n]? = some (.ins c ks ms)) :
    ∃ dx fs, H a = some (.ins (K.ct c) dx fs) ∧ fs.map (·.1) = ks ∧ Reps ρ K (view X ρ O H) ms (fs.map (·.2)) := by
  obtain ⟨b, h1, dx, fs, h2, h3, h4⟩ := S.ob n _ g
  rw [h] at h1
  cases h1
  exact ⟨dx, fs, h2, h3, h4⟩
section
variable {K : KA} {W : WX} {ta tv : TE} {ma mv : EM} {cs : List String} {f : Str}
theorem sim_fld (hf : FldI K.ct K.F cs f) (ha : SimE K W ta ma) : SimE K W (tFld K.F ta f) (mUn (oFld cs f) ma) := by
  intro X ρ O s σ H Q S p
  refine ha.bindE S p fun x s1 ρ1 O1 H1 v S1 F1 r1 p1 => ?_
  cases r1 with
  | obj h1 h2 h3 =>
    rename_i a dx c ks ms fs
    unfold oFld fldR at p1
    by_cases hc : c ∈ cs
    · simp only [if_pos hc] at p1
      cases e : fldAt f ks ms with
      | none => simp only [e] at p1; exact p1.elim
      | some m =>
        simp only [e] at p1
        subst h2
        obtain ⟨u, h5, h6⟩ := fld_get e h3
        exact ⟨a, K.ct c, dx, fs, u, rfl, (view_some.mp h1).2, (hf c hc).1, (hf c hc).2, h5, p1.done S1 h6⟩
    · simp only [if_neg hc] at p1; exact p1.elim
  | ref hn =>
    rename_i n a
    unfold oFld fldR at p1
    cases g : s1.G[n]? with
    | none => simp only [g] at p1; exact p1.elim
    | some o => cases o with
      | lst ms => simp only [g] at p1; exact p1.elim
      | dic ms => simp only [g] at p1; exact p1.elim
      | ins c ks ms =>
        simp only [g] at p1
        by_cases hc : c ∈ cs
        · simp only [if_pos hc] at p1
          cases e : fldAt f ks ms with
          | none => simp only [e] at p1; exact p1.elim
          | some m =>
            simp only [e] at p1
            obtain ⟨dx, fs, h1, h2, h3⟩ := S1.refI hn g
            subst h2
            obtain ⟨u, h5, h6⟩ := fld_get e h3
            exact ⟨a, K.ct c, dx, fs, u, rfl, h1, (hf c hc).1, (hf c hc).2, h5, p1.done S1 h6⟩
        · simp only [if_neg hc] at p1; exact p1.elim
  | _ => exact p1.elim
theorem ss_setF (hf : FldI K.ct K.F cs f) (ha : SimE K W ta ma) (hv : SimE K W tv mv) : SimS K W (sFld K.F ta tv f) (mSetF cs f mv ma) := by
  intro X ρ O s σ H D S p
  refine hv.bindS S p fun y s1 ρ1 O1 H1 u S1 F1 r1 p1 => ?_
  refine ha.bindS S1 p1 fun x s2 ρ2 O2 H2 v S2 F2 r2 p2 => ?_
  cases r2 with
  | ref hn =>
    rename_i n a
    unfold setX setR at p2
    cases g : s2.G[n]? with
    | none => simp only [g] at p2; exact p2.elim
    | some o => cases o with
      | lst ms => simp only [g] at p2; exact p2.elim
      | dic ms => simp only [g] at p2; exact p2.elim
      | ins c ks ms =>
        simp only [g] at p2
        by_cases hc : c ∈ cs ∧ ks.length < 1000
        · simp only [if_pos hc] at p2
          obtain ⟨dx, fs, h1, h2, h3⟩ := S2.refI hn g
          subst h2
          obtain ⟨S3, F3⟩ := S2.setM (q := .ins c (putK f (fs.map (·.1))) (putW f y (fs.map (·.1)) ms)) (ho := .ins (K.ct c) dx (putF f u fs)) hn fun Hz hz => ⟨dx, _, hz, putF_keys u fs, putF_reps (F2.rep r1) h3⟩
          exact ⟨a, K.ct c, dx, fs, rfl, h1, (hf c hc.1).1, (hf c hc.1).2, by have := hc.2; rwa [List.length_map] at this, p2 ρ2 O2 σ _ S3 F3⟩
        · simp only [if_neg hc] at p2; exact p2.elim
  | _ => exact p2.elim
end

/-! ## values without live objects in them -/
mutual
def clo : MV → Bool
  | .non => true
  | .bl _ => true
  | .int _ => true
  | .str _ => true
  | .tup xs => clos xs
  | .lst xs => clos xs
  | .scr xs => clos xs
  | .obj _ _ vs => clos vs
  | .ref _ => false
  | .err _ => true
  | .dic => true
def clos : List MV → Bool
  | [] => true
  | x :: xs => clo x && clos xs
end
theorem clos_all : ∀ {xs : List MV}, clos xs = true ↔ ∀ x ∈ xs, clo x = true
  | [] => by simp [clos]
  | x :: xs => by rw [clos, Bool.and_eq_true, clos_all]; simp
theorem clos_ints (ns : List Int) : clos (ns.map MV.int) = true := clos_all.mpr fun x h => by
  obtain ⟨n, _, rfl⟩ := List.mem_map.mp h
  rfl
section
variable {ρ ρ' : List Addr} {K : KA} {H H1 H' : Hp}
mutual
theorem Rep.closed : ∀ {m : MV} {v : V}, clo m = true → Rep ρ K H m v → Rep ρ' K H m v
  | _, _, _, .non => .non
  | _, _, _, .bl b => .bl b
  | _, _, _, .int i => .int i
  | _, _, _, .str s => .str s
  | _, _, c, .tup h r => .tup h (Reps.closed (by rwa [clo] at c) r)
  | _, _, c, .lst h r => .lst h (Reps.closed (by rwa [clo] at c) r)
  | _, _, c, .scr h r => .scr h (Reps.closed (by rwa [clo] at c) r)
  | _, _, c, .obj h k r => .obj h k (Reps.closed (by rwa [clo] at c) r)
  | _, _, c, .ref h => by rw [clo] at c; cases c
  | _, _, _, .err h => .err h
  | _, _, _, .dic h => .dic h
theorem Reps.closed : ∀ {ms : List MV} {vs : List V}, clos ms = true → Reps ρ K H ms vs → Reps ρ' K H ms vs
  | _, _, _, .nil => .nil
  | _, _, c, .cons h r => by
    rw [clos, Bool.and_eq_true] at c
    exact .cons (Rep.closed c.1 h) (Reps.closed c.2 r)
end
mutual
theorem Rep.shrink (pr : Pre ρ ρ') (e : Ex H H') : ∀ {m : MV} {v u : V}, Rep ρ' K H m v → Rep ρ K H1 m u → Rep ρ K H' m v
  | _, _, _, .non, _ => .non
  | _, _, _, .bl b, _ => .bl b
  | _, _, _, .int i, _ => .int i
  | _, _, _, .str s, _ => .str s
  | _, _, _, .tup h r, .tup _ q => .tup (sqt_ex e h) (Reps.shrink pr e r q)
  | _, _, _, .lst h r, .lst _ q => .lst (e _ _ h) (Reps.shrink pr e r q)
  | _, _, _, .scr h r, .scr _ q => .scr (sql_ex e h) (Reps.shrink pr e r q)
  | _, _, _, .obj h k r, .obj _ _ q => .obj (e _ _ h) k (Reps.shrink pr e r q)
  | _, _, _, .ref h, .ref q => by
    have z := pr _ _ q
    rw [h] at z
    cases z
    exact .ref q
  | _, _, _, .err h, _ => .err (e _ _ h)
  | _, _, _, .dic h, _ => .dic (e _ _ h)
theorem Reps.shrink (pr : Pre ρ ρ') (e : Ex H H') : ∀ {ms : List MV} {vs us : List V}, Reps ρ' K H ms vs → Reps ρ K H1 ms us → Reps ρ K H' ms vs
  | _, _, _, .nil, _ => .nil
  | _, _, _, .cons h r, .cons q t => .cons (Rep.shrink pr e h q) (Reps.shrink pr e r t)
end
end

/-! ## an instance made -/
noncomputable def oMk (c : String) (fi : FM) (xs : List MV) : EM := fun s => match fi (.ref s.G.length :: xs) (s.G ++ [.ins c [] []]) with
  | .ok .non G' => .ok (.ref s.G.length) ⟨s.env, G'⟩
  | .exc e G' => .exc e ⟨s.env, G'⟩
  | _ => .stuck
noncomputable def mMk (c : String) (fi : FM) (a : AM) : EM := fun s => (a s).bind fun xs s1 => oMk c fi xs s1
noncomputable def lastI (G G' : MHeap) : Option (String × List Str × List MV) := match G'.getLast? with
  | some (.ins c ks vs) => if G'.dropLast = G ∧ clos vs = true then some (c, ks, vs) else none
  | _ => none
theorem lastI_ok {G : MHeap} {c : String} {ks : List Str} {vs : List MV} (h : clos vs = true) : lastI G (G ++ [.ins c ks vs]) = some (c, ks, vs) := by
  unfold lastI
  simp [h]
theorem lastI_eq {G G' : MHeap} {c : String} {ks : List Str} {vs : List MV} (h : lastI G G' = some (c, ks, vs)) : G' = G ++ [.ins c ks vs] ∧ clos vs = true := by
  unfold lastI at h
  split at h
  · rename_i c' ks' vs' e
    split at h
    · rename_i hc
      cases h
      refine ⟨?_, hc.2⟩
      rw [← hc.1]
      obtain ⟨ys, rfl⟩ := List.getLast?_eq_some_iff.mp e
      rw [List.dropLast_concat]
    · cases h
  · cases h
noncomputable def oMkF (c : String) (fi : FM) (xs : List MV) : EM := fun s => match fi (.ref s.G.length :: xs) (s.G ++ [.ins c [] []]) with
  | .ok .non G' => (match lastI s.G G' with
    | some (c, ks, vs) => .ok (.obj c ks vs) s
    | none => .stuck)
  | .exc e G' => .exc e ⟨s.env, G'⟩
  | _ => .stuck
noncomputable def mMkF (c : String) (fi : FM) (a : AM) : EM := fun s => (a s).bind fun xs s1 => oMkF c fi xs s1
theorem oMkF_ok {c : String} {fi : FM} {xs : List MV} {s : MS} {ks : List Str} {vs : List MV} (h : fi (.ref s.G.length :: xs) (s.G ++ [.ins c [] []]) = .ok .non (s.G ++ [.ins c ks vs])) (hc : clos vs = true) : oMkF c fi xs s = .ok (.obj c ks vs) s := by
  unfold oMkF
  rw [h]
  simp only [lastI_ok hc]
theorem oMk_ok {c : String} {fi : FM} {xs : List MV} {s : MS} {G' : MHeap} (h : fi (.ref s.G.length :: xs) (s.G ++ [.ins c [] []]) = .ok .non G') : oMk c fi xs s = .ok (.ref s.G.length) ⟨s.env, G'⟩ := by
  unfold oMk
  rw [h]
def tMakeS (C : Addr) (sp : Sp) (E : L2.St → XK) (t : TA) : TE := fun σ H Q => t σ H fun vs H1 => ∀ x dx, H1 x = none → H1 dx = none → dx ≠ x → sp (.ref x :: vs) (upd (upd H1 dx (.own x)) x (.ins C dx [])) (fun v H2 => v = .non ∧ Q (.ref x) H2) (E σ)
def tMethE (C : Addr) (m : Str) (sp : Sp) (E : L2.St → XK) (ta : TE) (t : TA) : TE := fun σ H Q => ta σ H fun x H1 => ∃ a dx fs, x = .ref a ∧ H1 a = some (.ins C dx fs) ∧ fs.lookup m = none ∧ t σ H1 fun vs H2 => sp (x :: vs) H2 Q (E σ)
section
variable {X : Cx} {k : Nat} {f C : Addr} {fd : FuncData} {ps : List Str} {sp : Sp} {E : L2.St → XK} {x m : Str} {p pos apos : Pos} {e o : Expr} {es : List Expr} {ta : TE} {t : TA}
theorem runMake {pins : List (Addr × Obj)} {σ : L2.St} {H : Hp} {s : Shared} {Q : VK} {us : List Value} {vs : List V} (Mc : Mk X.K C f) (F : FnOk X.prog X.w X.K X.mg X.base (L2.CX X.prog X.w) k f fd ps sp) (hr : Room (k + 1) X.A) (hb : Binds X.K fd ps [])
    (hx : ∀ σ, PassesAt (L2.CX X.prog X.w) X σ (E σ)) (I : Inv X pins σ H s) (r : Vals vs us)
    (h : ∀ x dx, H x = none → H dx = none → dx ≠ x → sp (.ref x :: vs) (upd (upd H dx (.own x)) x (.ins C dx [])) (fun v H2 => v = .non ∧ Q (.ref x) H2) (E σ)) :
    wpAny (model X.prog X.w) X.A (call (.ref C) us) (EP X pins σ Q) X.xe s := by
  have hq := h _ _ (I.hok.fresh (Nat.le_succ s.heap.objs.size)) (I.hok.fresh (Nat.le_refl s.heap.objs.size)) (Nat.ne_of_lt (Nat.lt_succ_self s.heap.objs.size))
  have I2 := Inv.made (C := C) I
  have r2 : Vals (V.ref (s.heap.objs.size + 1) :: vs) (Value.ref (s.heap.objs.size + 1) :: us) := .cons rfl r
  have hl : (Value.ref (s.heap.objs.size + 1) :: us).length = ps.length := r2.length.symm.trans (F.len _ _ _ _ hq)
  have bt := hb _ (Value.ref (s.heap.objs.size + 1) :: us) I2.kIn (by rw [List.append_nil]; exact hl)
  rw [List.append_nil] at bt
  refine wpAny_call (make_map (f := f) I.kIn Mc.makes Mc.init (beq_iff_eq.mp Mc.fn) (codeAny_mono (F.run _ X.stack _ _ _ _ _ _ (E σ) (hr.make C us []) (I2.env0.make C us []) bt r2 hq) fun r s' hz => ?_))
  cases r with
  | error e => exact hx σ pins _ _ e s' I2 hz
  | ok fl =>
    cases fl with
    | ret u =>
      obtain ⟨v, H', I3, rv, ev, q3⟩ := I2.after hz
      cases ev
      exact ⟨rv, V.ref (s.heap.objs.size + 1), H', I3, rfl, q3⟩
    | next => exact hz.elim
    | brk => exact hz.elim
    | cont => exact hz.elim
theorem pe_makeS (Mc : Mk X.K C f) (F : FnOk X.prog X.w X.K X.mg X.base (L2.CX X.prog X.w) k f fd ps sp) (hr : Room (k + 1) X.A) (hg : Gl X x) (hm : X.mg x = some (.ref C)) (hb : Binds X.K fd ps []) (hx : ∀ σ, PassesAt (L2.CX X.prog X.w) X σ (E σ))
    (ha : PA X (e :: es) t) (hdb : (x == ("__debug__" : Str)) = false) (he : starEach (e :: es) X.env = (false, eval e X.env) :: starEach es X.env) (hpl : (backTo pos (starEach es X.env)).any (·.1) = false) :
    PE X (.Call (.Name x p) (e :: es) [] pos) (tMakeS C sp E t) := by
  constructor
  intro pins s σ H Q I h
  refine wpAny_Call_Name_kw (ld_glob I hg hm ?_ hdb)
  refine PySem.W.callWith_K (h₀ := X.base) I.ok.mod.kin Mc.kp (thn (ha.run pos pins s σ H _ I h) ?_) he hpl
  rintro us s1 ⟨vs, H1, I1, r, q⟩
  exact ⟨I1.kIn, runMake Mc F hr hb hx I1 r q⟩
theorem pe_makeS0 (Mc : Mk X.K C f) (F : FnOk X.prog X.w X.K X.mg X.base (L2.CX X.prog X.w) k f fd ps sp) (hr : Room (k + 1) X.A) (hg : Gl X x) (hm : X.mg x = some (.ref C)) (hb : Binds X.K fd ps []) (hx : ∀ σ, PassesAt (L2.CX X.prog X.w) X σ (E σ))
    (hdb : (x == ("__debug__" : Str)) = false) : PE X (.Call (.Name x p) [] [] pos) (tMakeS C sp E tNil) := by
  constructor
  intro pins s σ H Q I h
  refine wpAny_Call_Name_kw (ld_glob I hg hm ?_ hdb)
  exact PySem.W.callWith_K0 I.kIn Mc.kp (runMake (us := []) Mc F hr hb hx I .nil h)
theorem pe_methE {pl : Sem Bool} (he : PE X o ta) (c : Cls X.K C) (hm : Meth X.K C m f) (F : FnOk X.prog X.w X.K X.mg X.base (L2.CX X.prog X.w) k f fd ps sp) (hr : Room k X.A) (hb : Binds X.K fd ps []) (hx : ∀ σ, PassesAt (L2.CX X.prog X.w) X σ (E σ)) (ha : PA X (e :: es) t)
    (hst : starEach (e :: es) X.env = (false, eval e X.env) :: starEach es X.env) (hpl : (backTo pos (starEach es X.env)).any (·.1) = false)
    (ht : eval (.Call (.Attribute o m apos) (e :: es) [] pos) X.env = (eval o X.env >>= fun ov => standAt apos.atName >>= fun _ => holding [ov] (getMethod ov m pl) >>= fun (f, first) => callWith pos f first (backTo pos (starEach (e :: es) X.env)) (backToKw pos (keywordEach [] X.env)))) :
    PE X (.Call (.Attribute o m apos) (e :: es) [] pos) (tMethE C m sp E ta t) := by
  constructor
  intro pins s σ H Q I h
  refine PySem.W.methodCall_KW (pl := pl) (thn (he.run pins s σ H _ I h) ?_) ht
  rintro u s1 ⟨x, H1, I1, rx, a, dx, fs, ex, ea, l, q⟩
  subst ex
  cases (show u = Value.ref a from rx)
  refine getmeth_ok I1 ea c hm l ?_
  refine PySem.W.callWith_K (first := [.ref a]) (h₀ := X.base) I.ok.mod.kin hm.kp (thn (ha.run pos pins s1 σ H1 _ I1 q) ?_) hst hpl
  rintro us s2 ⟨vs, H2, I2, r, q2⟩
  exact ⟨I2.kIn, run_fnS (us := .ref a :: us) (vs := .ref a :: vs) F hr hb (hx σ) I2 (.cons rfl r) q2⟩
theorem pe_methE0 {pl : Sem Bool} (he : PE X o ta) (c : Cls X.K C) (hm : Meth X.K C m f) (F : FnOk X.prog X.w X.K X.mg X.base (L2.CX X.prog X.w) k f fd ps sp) (hr : Room k X.A) (hb : Binds X.K fd ps []) (hx : ∀ σ, PassesAt (L2.CX X.prog X.w) X σ (E σ))
    (ht : eval (.Call (.Attribute o m apos) [] [] pos) X.env = (eval o X.env >>= fun ov => standAt apos.atName >>= fun _ => holding [ov] (getMethod ov m pl) >>= fun (f, first) => callWith pos f first (backTo pos (starEach [] X.env)) (backToKw pos (keywordEach [] X.env)))) :
    PE X (.Call (.Attribute o m apos) [] [] pos) (tMethE C m sp E ta tNil) := by
  constructor
  intro pins s σ H Q I h
  refine PySem.W.methodCall_KW (pl := pl) (thn (he.run pins s σ H _ I h) ?_) ht
  rintro u s1 ⟨x, H1, I1, rx, a, dx, fs, ex, ea, l, q⟩
  subst ex
  cases (show u = Value.ref a from rx)
  refine getmeth_ok I1 ea c hm l ?_
  exact PySem.W.callWith_K0 (first := [.ref a]) I1.kIn hm.kp (run_fnS (us := [.ref a]) (vs := [.ref a]) F hr hb (hx σ) I1 (.cons rfl .nil) q)
theorem PE.ex {ι : Type} {Pm : ι → Prop} {tt : ι → TE} (h : ∀ i, Pm i → PE X e (tt i)) : PE X e (fun σ H Q => ∃ i, Pm i ∧ tt i σ H Q) := by
  constructor
  rintro pins s σ H Q I ⟨i, hp, hi⟩
  exact (h i hp).run pins s σ H Q I hi
end
end M

namespace M
open PySem L2
open Classical

section
variable {K : KA} {X : Addr → Prop} {W : WX} {ρ ρ' : List Addr} {O O' : Nat → Option Addr} {s s' : MS} {σ : L2.St} {H H' : Hp} {a dx : Addr}
theorem FreshAt.mkI (S : SR K X ρ O s σ H) (nd : H dx = none) (na : H a = none) (ne : dx ≠ a) (c : String) : FreshAt K X ρ O H ρ O s σ (upd (upd H dx (.own a)) a (.ins (K.ct c) dx [])) a (.ins c [] []) := by
  have e1 : Ex H (upd H dx (.own a)) := Ex.new nd
  have n2 : (upd H dx (.own a)) a = none := by rw [upd_ne (Ne.symm ne)]; exact na
  have S1 := S.grow e1
  refine ⟨S1.hide n2 _, fun q => ?_, ⟨dx, [], upd_same, rfl, .nil⟩, Pre.refl _, ?_, fun b u h e => Ex.new n2 b u (e1 b u e)⟩
  · obtain ⟨u, e⟩ := S.xo a q
    rw [na] at e; cases e
  · rw [view_hide n2]; exact view_ex e1
theorem FreshAt.futL {o : MO} (f : FreshAt K X ρ O H ρ' O' s' σ H' a o) : Fut X ρ O H (ρ' ++ [a]) O' H' := ⟨f.pre.trans (Pre.app _ _), by rw [view_live]; exact f.ex, f.xs⟩
theorem sim_mk {ta : TA} {ma : AM} {fi : FM} (c : String) (h : SimA K W ta ma) : SimE K W (tMakeS (K.ct c) (spM K fi) (WE W) ta) (mMk c fi ma) := by
  intro X ρ O s σ H Q S p
  refine h.bindE S p fun xs s1 ρ1 O1 H1 vs S1 F1 r1 p1 x dx nx nd ne => ?_
  have f := FreshAt.mkI S1 nd nx ne c
  have SL := f.live
  have FL := f.futL
  have rx : Rep (ρ1 ++ [x]) K (view X (ρ1 ++ [x]) O1 (upd (upd H1 dx (.own x)) x (.ins (K.ct c) dx []))) (.ref s1.G.length) (.ref x) := .ref (by rw [← S1.gl, List.getElem?_append_right (Nat.le_refl _)]; simp)
  refine ⟨XO X O1, ρ1 ++ [x], s1.G ++ [.ins c [] []], .ref s1.G.length :: xs, SL.toCall, by rw [view_XO]; exact .cons rx (FL.reps r1), ?_⟩
  unfold oMk at p1
  cases e : fi (.ref s1.G.length :: xs) (s1.G ++ [.ins c [] []]) with
  | ok y G' =>
    rw [e] at p1
    cases y with
    | non =>
      intro ρ' H2 v Sc Fc rv
      cases rv
      obtain ⟨S2, F2⟩ := SL.ofCall Sc Fc
      exact ⟨rfl, p1 ρ' O1 H2 _ S2 (FL.trans F2) (F2.rep rx)⟩
    | _ => exact p1.elim
  | exc d G' =>
    rw [e] at p1
    intro ρ' H2 Sc Fc
    obtain ⟨S2, F2⟩ := SL.ofCall Sc Fc
    exact p1 ρ' O1 H2 S2 (FL.trans F2)
  | stuck => rw [e] at p1; exact p1.elim
theorem pre_last {x : Addr} (p : Pre (ρ ++ [x]) ρ') (l : ρ'.length = ρ.length + 1) : ρ' = ρ ++ [x] := by
  apply List.ext_getElem?
  intro i
  cases e : (ρ ++ [x])[i]? with
  | some z => exact p i z e
  | none =>
    rw [List.getElem?_eq_none_iff] at e ⊢
    rw [List.length_append, List.length_singleton] at e
    omega
theorem sim_mkF {ta : TA} {ma : AM} {fi : FM} (c : String) (h : SimA K W ta ma) : SimE K W (tMakeS (K.ct c) (spM K fi) (WE W) ta) (mMkF c fi ma) := by
  intro X ρ O s σ H Q S p
  refine h.bindE S p fun xs s1 ρ1 O1 H1 vs S1 F1 r1 p1 x dx nx nd ne => ?_
  have f := FreshAt.mkI S1 nd nx ne c
  have SL := f.live
  have FL := f.futL
  have rx : Rep (ρ1 ++ [x]) K (view X (ρ1 ++ [x]) O1 (upd (upd H1 dx (.own x)) x (.ins (K.ct c) dx []))) (.ref s1.G.length) (.ref x) := .ref (by rw [← S1.gl, List.getElem?_append_right (Nat.le_refl _)]; simp)
  refine ⟨XO X O1, ρ1 ++ [x], s1.G ++ [.ins c [] []], .ref s1.G.length :: xs, SL.toCall, by rw [view_XO]; exact .cons rx (FL.reps r1), ?_⟩
  unfold oMkF at p1
  cases e : fi (.ref s1.G.length :: xs) (s1.G ++ [.ins c [] []]) with
  | ok y G' =>
    rw [e] at p1
    cases y with
    | non =>
      simp only at p1
      cases el : lastI s1.G G' with
      | none => rw [el] at p1; exact p1.elim
      | some z =>
        obtain ⟨c2, ks, ws⟩ := z
        rw [el] at p1
        obtain ⟨eG, hcl⟩ := lastI_eq el
        subst eG
        intro ρ' H2 v Sc Fc rv
        cases rv
        refine ⟨rfl, ?_⟩
        have hl : ρ' = ρ1 ++ [x] := pre_last Fc.pre (by rw [Sc.gl]; simp [S1.gl])
        subst hl
        obtain ⟨S2, F2⟩ := SL.ofCall Sc Fc
        have FT := FL.trans F2
        have vs1 : Ex (view X (ρ1 ++ [x]) O1 H2) (view X ρ1 O1 H2) := fun b o q => by
          obtain ⟨q1, q2⟩ := view_some.mp q
          refine view_some.mpr ⟨fun z => q1 ?_, q2⟩
          rcases z with z | z | z
          · exact .inl z
          · exact .inr (.inl (List.mem_append_left _ z))
          · exact .inr (.inr z)
        have vx : Ex (view X ρ1 O1 H1) (view X ρ1 O1 H2) := FT.ex.trans vs1
        have nh : ¬ Hid X ρ1 O1 x := S1.nhid nx
        have S3 : SR K X ρ1 O1 s1 σ H2 := by
          refine ⟨S2.xo, S1.len, S1.gl, S1.nd, S1.xρ, S1.oX, S1.oi, S1.ol, fun i y hy => ?_, fun n o ho => ?_⟩
          · have z := S1.sl i y hy
            cases y with
            | un => exact z
            | sh m => obtain ⟨h1, w, h2, h3⟩ := z; exact ⟨h1, w, h2, h3.mono (Pre.refl _) vx⟩
            | ow ms =>
              obtain ⟨b, us, h1, h2, h3, h4⟩ := z
              have e1 : Ex H1 (upd H1 dx (.own x)) := Ex.new nd
              have e2 : Ex (upd H1 dx (.own x)) (upd (upd H1 dx (.own x)) x (.ins (K.ct c) dx [])) := Ex.new (by rw [upd_ne (Ne.symm ne)]; exact nx)
              exact ⟨b, us, h1, h2, Fc.xs _ _ (.inr ⟨i, h1⟩) (e2 _ _ (e1 _ _ h3)), h4.mono (Pre.refl _) vx⟩
          · have hn : n < s1.G.length := (List.getElem?_eq_some_iff.mp ho).1
            obtain ⟨b, hb, z⟩ := S1.ob n o ho
            obtain ⟨b', hb', z'⟩ := S2.ob n o (by show (s1.G ++ [MO.ins c2 ks ws])[n]? = some o; rw [List.getElem?_append_left hn]; exact ho)
            have eb : b' = b := by
              have := Pre.app ρ1 [x] n b hb
              rw [hb'] at this
              exact Option.some.inj this
            subst eb
            refine ⟨b', hb, ?_⟩
            cases o with
            | lst ms => obtain ⟨us, h1, h2⟩ := z'; obtain ⟨us', _, h2'⟩ := z; exact ⟨us, h1, Reps.shrink (Pre.app _ _) vs1 h2 h2'⟩
            | ins c ks ms => obtain ⟨d, fs, h1, h2, h3⟩ := z'; obtain ⟨_, _, _, _, h3'⟩ := z; exact ⟨d, fs, h1, h2, Reps.shrink (Pre.app _ _) vs1 h3 h3'⟩
            | dic ms => obtain ⟨fs, h1, h2, h3⟩ := z'; obtain ⟨_, _, _, h3'⟩ := z; exact ⟨fs, h1, h2, Reps.shrink (Pre.app _ _) vs1 h3 h3'⟩
        have F3 : Fut X ρ1 O1 H1 ρ1 O1 H2 := ⟨Pre.refl _, vx, FT.xs⟩
        refine p1 ρ1 O1 H2 _ S3 F3 ?_
        obtain ⟨b, hb, d, fs, h1, h2, h3⟩ := S2.ob s1.G.length (.ins c2 ks ws) (by show (s1.G ++ [MO.ins c2 ks ws])[s1.G.length]? = _; rw [List.getElem?_append_right (Nat.le_refl _)]; simp)
        have eb : b = x := by
          rw [← S1.gl, List.getElem?_append_right (Nat.le_refl _)] at hb
          simp at hb
          exact hb.symm
        subst eb
        exact .obj (view_some.mpr ⟨nh, h1⟩) h2 ((Reps.closed hcl h3).mono (Pre.refl _) vs1)
    | _ => exact p1.elim
  | exc d G' =>
    rw [e] at p1
    intro ρ' H2 Sc Fc
    obtain ⟨S2, F2⟩ := SL.ofCall Sc Fc
    exact p1 ρ' O1 H2 S2 (FL.trans F2)
  | stuck => rw [e] at p1; exact p1.elim
end

/-! ## methods -/
def clsM (m : Str) : Option MO → Option String
  | some (.ins c ks _) => if hasK m ks = true then none else some c
  | _ => none
def clsOf (m : Str) (G : MHeap) : MV → Option String
  | .obj c ks vs => clsM m (some (.ins c ks vs))
  | .ref n => clsM m G[n]?
  | _ => none
noncomputable def methC (tb : List (String × FM)) (a : AM) (x : MV) (o : Option String) : EM := fun s => match o with
  | some c => (match tb.lookup c with
    | some fn => (a s).bind fun xs s2 => ofRF (fn (x :: xs) s2.G) s2
    | none => .stuck)
  | none => .stuck
noncomputable def oMeth (m : Str) (tb : List (String × FM)) (a : AM) (x : MV) : EM := fun s => methC tb a x (clsOf m s.G x) s
noncomputable def mMeth (m : Str) (tb : List (String × FM)) (eo : EM) (a : AM) : EM := fun s => (eo s).bind fun x s1 => oMeth m tb a x s1
structure MethI (ct : String → Addr) (P : Program) (w : World) (K : PySem.W.Frag) (mg : Str → Option Value) (base : Heap) (c : String) (m : Str) (k : Nat) (fn : FM) : Prop where
  cls : Cls K (ct c)
  ex : ∃ f fd ps, FnOk P w K mg base (L2.CX P w) k f fd ps (spM ⟨K, ct⟩ fn) ∧ Meth K (ct c) m f ∧ Binds K fd ps []
theorem MethI.mono {ct : String → Addr} {P : Program} {w : World} {K : PySem.W.Frag} {mg : Str → Option Value} {base : Heap} {c : String} {m : Str} {k j : Nat} {fn : FM} (I : MethI ct P w K mg base c m k fn) (h : k ≤ j) : MethI ct P w K mg base c m j fn := by
  obtain ⟨f, fd, ps, F, a, b⟩ := I.ex
  exact ⟨I.cls, f, fd, ps, F.mono h, a, b⟩
def MethT (ct : String → Addr) (P : Program) (w : World) (K : PySem.W.Frag) (mg : Str → Option Value) (base : Heap) (m : Str) (k : Nat) (tb : List (String × FM)) : Prop := ∀ i ∈ tb, MethI ct P w K mg base i.1 m k i.2
theorem MethT.nil {ct : String → Addr} {P : Program} {w : World} {K : PySem.W.Frag} {mg : Str → Option Value} {base : Heap} {m : Str} {k : Nat} : MethT ct P w K mg base m k [] := fun i h => by cases h
theorem MethT.cons {ct : String → Addr} {P : Program} {w : World} {K : PySem.W.Frag} {mg : Str → Option Value} {base : Heap} {m : Str} {k j : Nat} {c : String} {fn : FM} {tb : List (String × FM)} (I : MethI ct P w K mg base c m j fn) (h : j ≤ k) (r : MethT ct P w K mg base m k tb) : MethT ct P w K mg base m k ((c, fn) :: tb) := fun i hi => by
  rcases List.mem_cons.mp hi with rfl | hi
  · exact I.mono h
  · exact r i hi
theorem lookup_mem {α β : Type} [BEq α] [LawfulBEq α] {a : α} {b : β} : ∀ {l : List (α × β)}, l.lookup a = some b → (a, b) ∈ l
  | [], h => by simp at h
  | (x, y) :: l, h => by
    rw [List.lookup_cons] at h
    cases e : a == x with
    | true => rw [e] at h; cases h; rw [beq_iff_eq.mp e]; exact List.mem_cons_self
    | false => rw [e] at h; exact List.mem_cons_of_mem _ (lookup_mem h)
def tMethT (ct : String → Addr) (K : PySem.W.Frag) (m : Str) (W : WX) (tb : List (String × FM)) (ta : TE) (t : TA) : TE := fun σ H Q => ∃ i : String × FM, i ∈ tb ∧ tMethE (ct i.1) m (spM ⟨K, ct⟩ i.2) (WE W) ta t σ H Q
section
variable {K : KA} {W : WX} {ta : TE} {t : TA} {ma : EM} {mt : AM} {m : Str} {tb : List (String × FM)}
theorem sim_meth (ne : tb ≠ []) (ha : SimE K W ta ma) (ht : SimA K W t mt) : SimE K W (tMethT K.ct K.F m W tb ta t) (mMeth m tb ma mt) := by
  intro X ρ O s σ H Q S p
  unfold mMeth at p
  cases e : ma s with
  | stuck => rw [e] at p; exact p.elim
  | exc c s1 =>
    rw [e] at p
    cases tb with
    | nil => exact absurd rfl ne
    | cons i tb =>
      refine ⟨i, List.mem_cons_self, ha X ρ O s σ H _ S ?_⟩
      rw [e]; exact p
  | ok x s1 =>
    rw [e] at p
    simp only [R.bind_ok] at p
    unfold oMeth methC at p
    cases ec : clsOf m s1.G x with
    | none => rw [ec] at p; exact p.elim
    | some c =>
      rw [ec] at p
      simp only at p
      cases ef : tb.lookup c with
      | none => rw [ef] at p; exact p.elim
      | some fn =>
        rw [ef] at p
        simp only at p
        refine ⟨(c, fn), lookup_mem ef, ha X ρ O s σ H _ S ?_⟩
        rw [e]
        intro ρ1 O1 H1 v S1 F1 r1
        have p1 := p.later F1
        have key : ∃ a dx fs, v = .ref a ∧ H1 a = some (.ins (K.ct c) dx fs) ∧ fs.lookup m = none := by
          cases r1 with
          | obj h1 h2 h3 =>
            rename_i a dx c' ks ms fs
            unfold clsOf clsM at ec
            by_cases hk : hasK m ks = true
            · simp only [if_pos hk] at ec; cases ec
            · simp only [if_neg hk] at ec
              cases ec
              subst h2
              exact ⟨a, dx, fs, rfl, (view_some.mp h1).2, hasK_none (by simpa using hk)⟩
          | ref hn =>
            rename_i n a
            unfold clsOf clsM at ec
            cases g : s1.G[n]? with
            | none => simp only [g] at ec; cases ec
            | some o => cases o with
              | lst ms => simp only [g] at ec; cases ec
              | dic ms => simp only [g] at ec; cases ec
              | ins c' ks ms =>
                simp only [g] at ec
                by_cases hk : hasK m ks = true
                · simp only [if_pos hk] at ec; cases ec
                · simp only [if_neg hk] at ec
                  cases ec
                  obtain ⟨dx, fs, h1, h2, _⟩ := S1.refI hn g
                  subst h2
                  exact ⟨a, dx, fs, rfl, h1, hasK_none (by simpa using hk)⟩
          | _ => cases ec
        obtain ⟨a, dx, fs, rfl, h1, h2⟩ := key
        refine ⟨a, dx, fs, rfl, h1, h2, ?_⟩
        refine ht.bindE S1 p1 fun xs s2 ρ2 O2 H2 us S2 F2 r2 p2 => ?_
        exact ⟨XO X O2, ρ2, s2.G, x :: xs, S2.toCall, by rw [view_XO]; exact .cons (F2.rep r1) r2, post_call S2 p2⟩
end

/-! ## isinstance(x, C), C an own class -/
structure InsC (K : PySem.W.Frag) (C : Addr) : Prop where
  cl : Cls K C
  ha : PySem.W.findIn K (.ref C) "__class__" = some (some (.builtin "object.__class__"))
  hn : PySem.W.specialIn K (.builtin "object.__class__") "__get__" = some (some (.builtin "getset_descriptor.__get__"))
  ht : PySem.W.takesIn K (.builtin "object.__class__") = some true
  hm : PySem.W.mroIn K C (.type "object") = some true
def tyO (G : MHeap) : MV → Option String
  | .obj c _ _ => some c
  | .ref n => (match G[n]? with
    | some (.ins c _ _) => some c
    | _ => none)
  | _ => none
def oIsiO (cs bs : List (String × Bool)) : MV → EM := fun x s => match tyO s.G x with
  | some c => (match cs.lookup c with
    | some b => .ok (.bl b) s
    | none => .stuck)
  | none => (match tyG s.G x with
    | some n => (match bs.lookup n with
      | some b => .ok (.bl b) s
      | none => .stuck)
    | none => .stuck)
structure IsiI (ct : String → Addr) (K : PySem.W.Frag) (T : String) (cs bs : List (String × Bool)) : Prop where
  own : ∀ p ∈ cs, InsC K (ct p.1) ∧ PySem.W.kitOne K (.ref (ct p.1)) (.ref (ct T)) = some p.2
  bi : ∀ p ∈ bs, PySem.W.kitOne K (.type p.1) (.ref (ct T)) = some p.2
theorem ownNil {ct : String → Addr} {K : PySem.W.Frag} {T : String} : ∀ p ∈ ([] : List (String × Bool)), InsC K (ct p.1) ∧ PySem.W.kitOne K (.ref (ct p.1)) (.ref (ct T)) = some p.2 := fun p h => by cases h
theorem ownCons {ct : String → Addr} {K : PySem.W.Frag} {T c : String} {b : Bool} {cs : List (String × Bool)} (i : InsC K (ct c)) (k : PySem.W.kitOne K (.ref (ct c)) (.ref (ct T)) = some b) (r : ∀ p ∈ cs, InsC K (ct p.1) ∧ PySem.W.kitOne K (.ref (ct p.1)) (.ref (ct T)) = some p.2) :
    ∀ p ∈ (c, b) :: cs, InsC K (ct p.1) ∧ PySem.W.kitOne K (.ref (ct p.1)) (.ref (ct T)) = some p.2 := fun p h => by
  rcases List.mem_cons.mp h with rfl | h
  · exact ⟨i, k⟩
  · exact r p h
theorem biNil {ct : String → Addr} {K : PySem.W.Frag} {T : String} : ∀ p ∈ ([] : List (String × Bool)), PySem.W.kitOne K (.type p.1) (.ref (ct T)) = some p.2 := fun p h => by cases h
theorem biCons {ct : String → Addr} {K : PySem.W.Frag} {T c : String} {b : Bool} {bs : List (String × Bool)} (k : PySem.W.kitOne K (.type c) (.ref (ct T)) = some b) (r : ∀ p ∈ bs, PySem.W.kitOne K (.type p.1) (.ref (ct T)) = some p.2) :
    ∀ p ∈ (c, b) :: bs, PySem.W.kitOne K (.type p.1) (.ref (ct T)) = some p.2 := fun p h => by
  rcases List.mem_cons.mp h with rfl | h
  · exact k
  · exact r p h
theorem tyO_of {K : KA} {X : Addr → Prop} {ρ : List Addr} {O : Nat → Option Addr} {s : MS} {σ : L2.St} {H : Hp} (S : SR K X ρ O s σ H) {x : MV} {v : V} {c : String} (r : Rep ρ K (view X ρ O H) x v) (h : tyO s.G x = some c) (i : InsC K.F (K.ct c)) : TyX K.F H v (.ref (K.ct c)) := by
  cases r with
  | obj h1 h2 h3 => cases h; exact .base (.ins (view_some.mp h1).2 i.cl i.ha i.hn i.ht i.hm)
  | ref hn =>
    rename_i n a
    unfold tyO at h
    cases g : s.G[n]? with
    | none => simp only [g] at h; cases h
    | some o => cases o with
      | lst ms => simp only [g] at h; cases h
      | dic ms => simp only [g] at h; cases h
      | ins c' ks ms =>
        simp only [g] at h
        cases h
        obtain ⟨dx, fs, h1, _, _⟩ := S.refI hn g
        exact .base (.ins h1 i.cl i.ha i.hn i.ht i.hm)
  | _ => cases h
theorem sim_isiO {K : KA} {W : WX} {ta : TE} {ma : EM} {T : String} {cs bs : List (String × Bool)} (I : IsiI K.ct K.F T cs bs) (ha : SimE K W ta ma) : SimE K W (tCB (rIsi K.F) (tCons ta (tCons (tC (.ref (K.ct T))) tNil))) (mUn (oIsiO cs bs) ma) := by
  intro X ρ O s σ H Q S p
  refine ha.bindE S p fun x s1 ρ1 O1 H1 v S1 F1 r1 p1 => ?_
  unfold oIsiO at p1
  cases e1 : tyO s1.G x with
  | some c =>
    rw [e1] at p1
    simp only at p1
    cases e2 : cs.lookup c with
    | none => rw [e2] at p1; exact p1.elim
    | some b =>
      rw [e2] at p1
      obtain ⟨i, k⟩ := I.own _ (lookup_mem e2)
      exact ⟨v, _, _, _, b, rfl, .own _, tyO_of S1 r1 e1 i, k, p1.done S1 (.bl _)⟩
  | none =>
    rw [e1] at p1
    simp only at p1
    cases e2 : tyG s1.G x with
    | none => rw [e2] at p1; exact p1.elim
    | some n =>
      rw [e2] at p1
      simp only at p1
      cases e3 : bs.lookup n with
      | none => rw [e3] at p1; exact p1.elim
      | some b =>
        rw [e3] at p1
        exact ⟨v, _, _, _, b, rfl, .own _, tyxG_of S1 r1 e2, I.bi _ (lookup_mem e3), p1.done S1 (.bl _)⟩

/-! ## wrappers -/
structure MakeI (ct : String → Addr) (P : Program) (w : World) (K : PySem.W.Frag) (mg : Str → Option Value) (base : Heap) (c : String) (x : Str) (k : Nat) (fn : FM) : Prop where
  gm : mg x = some (.ref (ct c))
  ex : ∃ f fd ps, FnOk P w K mg base (L2.CX P w) k f fd ps (spM ⟨K, ct⟩ fn) ∧ Mk K (ct c) f ∧ Binds K fd ps []
section
variable {ct : String → Addr} {X : Cx} {W : WX} {e o v : Expr} {es : List Expr} {ta tv : TE} {ma mv : EM} {t : TA} {mt : AM} {p p2 pos apos : Pos} {f m x : Str} {cs : List String} {k : Nat} {fn : FM} {c : String} {tb : List (String × FM)}
theorem e_fld (hf : FldI ct X.K cs f) (h : PEM ct X W e ta ma) (hb : attributeBase e f X.env (eval e X.env) = eval e X.env := by rfl) : PEM ct X W (.Attribute e f pos) (tFld X.K ta f) (mUn (oFld cs f) ma) :=
  ⟨pe_fld h.pe hb, sim_fld (K := ⟨X.K, ct⟩) hf h.sim⟩
theorem s_setF (hf : FldI ct X.K cs f) (h : PEM ct X W o ta ma) (hv : PEM ct X W v tv mv) (hs : swapsWith v (some (.Attribute o f apos)) pos.line X.env = pure false := by rfl) : PSM ct X W (.Assign [.Attribute o f apos] v pos) (sFld X.K ta tv f) (mSetF cs f mv ma) :=
  ⟨ps_fld h.pe hv.pe hs, ss_setF (K := ⟨X.K, ct⟩) hf h.sim hv.sim⟩
theorem e_mk (I : MakeI ct X.prog X.w X.K X.mg X.base c x k fn) (hr : Room (k + 1) X.A) (tk : Takes X W) (ha : PAM ct X W (e :: es) t mt) (hg : Gl X x := by rfl) (hdb : (x == ("__debug__" : Str)) = false := by decide) (he : starEach (e :: es) X.env = (false, eval e X.env) :: starEach es X.env := by rfl) (hpl : (backTo pos (starEach es X.env)).any (·.1) = false := by rfl) :
    PEM ct X W (.Call (.Name x p) (e :: es) [] pos) (tMakeS (ct c) (spM ⟨X.K, ct⟩ fn) (WE W) t) (mMk c fn mt) := by
  obtain ⟨f, fd, ps, F, hm, hb⟩ := I.ex
  exact ⟨pe_makeS hm F hr hg I.gm hb (fun σ => passAt tk σ) ha.pe hdb he hpl, sim_mk (K := ⟨X.K, ct⟩) c ha.sim⟩
theorem e_mk0 (I : MakeI ct X.prog X.w X.K X.mg X.base c x k fn) (hr : Room (k + 1) X.A) (tk : Takes X W) (hg : Gl X x := by rfl) (hdb : (x == ("__debug__" : Str)) = false := by decide) :
    PEM ct X W (.Call (.Name x p) [] [] pos) (tMakeS (ct c) (spM ⟨X.K, ct⟩ fn) (WE W) tNil) (mMk c fn aNil) := by
  obtain ⟨f, fd, ps, F, hm, hb⟩ := I.ex
  exact ⟨pe_makeS0 hm F hr hg I.gm hb (fun σ => passAt tk σ) hdb, sim_mk (K := ⟨X.K, ct⟩) c sim_nil⟩
theorem e_mkF (I : MakeI ct X.prog X.w X.K X.mg X.base c x k fn) (hr : Room (k + 1) X.A) (tk : Takes X W) (ha : PAM ct X W (e :: es) t mt) (hg : Gl X x := by rfl) (hdb : (x == ("__debug__" : Str)) = false := by decide) (he : starEach (e :: es) X.env = (false, eval e X.env) :: starEach es X.env := by rfl) (hpl : (backTo pos (starEach es X.env)).any (·.1) = false := by rfl) :
    PEM ct X W (.Call (.Name x p) (e :: es) [] pos) (tMakeS (ct c) (spM ⟨X.K, ct⟩ fn) (WE W) t) (mMkF c fn mt) := by
  obtain ⟨f, fd, ps, F, hm, hb⟩ := I.ex
  exact ⟨pe_makeS hm F hr hg I.gm hb (fun σ => passAt tk σ) ha.pe hdb he hpl, sim_mkF (K := ⟨X.K, ct⟩) c ha.sim⟩
theorem e_meth {pl : Sem Bool} (T : MethT ct X.prog X.w X.K X.mg X.base m k tb) (hr : Room k X.A) (tk : Takes X W) (h : PEM ct X W o ta ma) (ha : PAM ct X W (e :: es) t mt) (ne : tb ≠ [] := by exact List.cons_ne_nil _ _)
    (hst : starEach (e :: es) X.env = (false, eval e X.env) :: starEach es X.env := by rfl) (hpl : (backTo pos (starEach es X.env)).any (·.1) = false := by rfl)
    (ht : eval (.Call (.Attribute o m apos) (e :: es) [] pos) X.env = (eval o X.env >>= fun ov => standAt apos.atName >>= fun _ => holding [ov] (getMethod ov m pl) >>= fun (f, first) => callWith pos f first (backTo pos (starEach (e :: es) X.env)) (backToKw pos (keywordEach [] X.env))) := by rfl) :
    PEM ct X W (.Call (.Attribute o m apos) (e :: es) [] pos) (tMethT ct X.K m W tb ta t) (mMeth m tb ma mt) :=
  ⟨PE.ex fun i hi => by
    have J := T i hi
    obtain ⟨f, fd, ps, F, hm, hb⟩ := J.ex
    exact pe_methE h.pe J.cls hm F hr hb (fun σ => passAt tk σ) ha.pe hst hpl ht, sim_meth (K := ⟨X.K, ct⟩) ne h.sim ha.sim⟩
theorem e_meth0 {pl : Sem Bool} (T : MethT ct X.prog X.w X.K X.mg X.base m k tb) (hr : Room k X.A) (tk : Takes X W) (h : PEM ct X W o ta ma) (ne : tb ≠ [] := by exact List.cons_ne_nil _ _)
    (ht : eval (.Call (.Attribute o m apos) [] [] pos) X.env = (eval o X.env >>= fun ov => standAt apos.atName >>= fun _ => holding [ov] (getMethod ov m pl) >>= fun (f, first) => callWith pos f first (backTo pos (starEach [] X.env)) (backToKw pos (keywordEach [] X.env))) := by rfl) :
    PEM ct X W (.Call (.Attribute o m apos) [] [] pos) (tMethT ct X.K m W tb ta tNil) (mMeth m tb ma aNil) :=
  ⟨PE.ex fun i hi => by
    have J := T i hi
    obtain ⟨f, fd, ps, F, hm, hb⟩ := J.ex
    exact pe_methE0 h.pe J.cls hm F hr hb (fun σ => passAt tk σ) ht, sim_meth (K := ⟨X.K, ct⟩) ne h.sim sim_nil⟩
theorem e_isiO {y : Str} {T : String} {bs ds : List (String × Bool)} (I : IsiI ct X.K T ds bs) (hmi : X.mg "isinstance" = none) (hmT : X.mg y = some (.ref (ct T))) (ha : PEM ct X W e ta ma) (hgi : Gl X "isinstance" := by rfl) (hgT : Gl X y := by rfl) (hdb : (y == ("__debug__" : Str)) = false := by decide)
    (hs : starEach [.Name y p2] X.env = (false, eval (.Name y p2) X.env) :: starEach [] X.env := by rfl) (he : starEach [e, .Name y p2] X.env = (false, eval e X.env) :: starEach [.Name y p2] X.env := by rfl) (hpl : (backTo pos (starEach [.Name y p2] X.env)).any (·.1) = false := by rfl) :
    PEM ct X W (.Call (.Name "isinstance" p) [e, .Name y p2] [] pos) (tCB (rIsi X.K) (tCons ta (tCons (tC (.ref (ct T))) tNil))) (mUn (oIsiO ds bs) ma) :=
  ⟨pe_callB call_isi hgi hmi (by decide +kernel) (pa_cons ha.pe (pa_cons (pe_glob hgT hmT rfl hdb) pa_nil hs) he) (by decide) (by decide) he hpl, sim_isiO (K := ⟨X.K, ct⟩) I ha.sim⟩
end
end M

namespace M
open PySem L2
open Classical

/-! ## class facts at ctOf -/
section
variable {K : PySem.W.Frag} {n d : String} {C D f : Addr} {m : Str}
theorem cls_mk (e : ctOf K n = C) (pg : PySem.W.plainGet K C Str.empty = true) (hd : PySem.W.hasDictIn K C = true) (po : PySem.W.plainOver K C = true) (sa : PySem.W.findIn K (.ref C) "__setattr__" = some (some (.builtin "object.__setattr__"))) : Cls K (ctOf K n) := by
  rw [e]; exact ⟨pg, hd, po, sa⟩
theorem na_mk (e : ctOf K n = C) (h : PySem.W.findIn K (.ref C) m = some none) : NoAttr K (ctOf K n) m := by rw [e]; exact h
theorem meth_mk (e : ctOf K n = C) (a : PySem.W.findIn K (.ref C) m = some (some (.ref f))) (i : PySem.W.isFn K (.ref f) = true) (k : PySem.W.keepIn K (.ref f) = true) : Meth K (ctOf K n) m f := by rw [e]; exact ⟨a, i, k⟩
theorem mk_mk (e : ctOf K n = C) (m : PySem.W.makesIn K C = true) (a : PySem.W.findIn K (.ref C) "__init__" = some (some (.ref f))) (i : PySem.W.isFn K (.ref f) = true) (k : PySem.W.keepIn K (.ref C) = true) : Mk K (ctOf K n) f := by rw [e]; exact ⟨m, a, i, k⟩
theorem ins_mk (e : ctOf K n = C) (cl : Cls K (ctOf K n)) (ha : PySem.W.findIn K (.ref C) "__class__" = some (some (.builtin "object.__class__"))) (hn : PySem.W.specialIn K (.builtin "object.__class__") "__get__" = some (some (.builtin "getset_descriptor.__get__"))) (ht : PySem.W.takesIn K (.builtin "object.__class__") = some true)
    (hm : PySem.W.mroIn K C (.type "object") = some true) : InsC K (ctOf K n) := ⟨cl, by rw [e]; exact ha, hn, ht, by rw [e]; exact hm⟩
theorem kit_sub {b : Bool} {t : Value} (hd : PySem.W.hasDictIn K D = true) (ty : PySem.W.typeIn K (.ref D) = some (.type "type")) (me : PySem.W.subIn K (.ref D) (.ref D) = some true) (h : PySem.W.subIn K t (.ref D) = some b) : PySem.W.kitOne K t (.ref D) = some b := by
  unfold PySem.W.kitOne
  by_cases e : (t == Value.ref D) = true
  · rw [if_pos e]
    have q := beq_iff_eq.mp e
    subst q
    rw [me] at h
    exact h
  · rw [if_neg e]
    show (if ((PySem.W.clsIn K D).isSome && PySem.W.typeIn K (.ref D) == some (.type "type")) = true then PySem.W.subIn K t (.ref D) else none) = some b
    have c : (PySem.W.clsIn K D).isSome = true := by
      unfold PySem.W.hasDictIn at hd
      cases z : PySem.W.clsIn K D with
      | none => rw [z] at hd; cases hd
      | some _ => rfl
    rw [c, ty, if_pos (by rfl)]
    exact h
theorem kit_mk {b : Bool} (e : ctOf K n = C) (e2 : ctOf K d = D) (h : PySem.W.kitOne K (.ref C) (.ref D) = some b) : PySem.W.kitOne K (.ref (ctOf K n)) (.ref (ctOf K d)) = some b := by rw [e, e2]; exact h
theorem kitB_mk {b : Bool} {t : String} (e2 : ctOf K d = D) (h : PySem.W.kitOne K (.type t) (.ref D) = some b) : PySem.W.kitOne K (.type t) (.ref (ctOf K d)) = some b := by rw [e2]; exact h
theorem gm_mk {mg : Str → Option Value} {h : Heap} (X : K.In h) (G : h.Ns mainGlobals mg) (a : PySem.W.nsIn K mainGlobals (Str.ofString n) = some (some (.ref C))) : mg (Str.ofString n) = some (.ref (ctOf K n)) := by
  rw [ctOf_eq a]; exact PySem.W.mg_of X G a
end

/-! ## how live instances are asked -/
noncomputable def methR (m : Str) (tb : List (String × FM)) (a : AM) (n : Nat) (o : Option MO) (s : MS) : R MV := methC tb a (.ref n) (clsM m o) s
theorem oMeth_ref {m : Str} {tb : List (String × FM)} {a : AM} {n : Nat} {s : MS} : oMeth m tb a (.ref n) s = methR m tb a n s.G[n]? s := rfl

/-! ## functions by typed data -/
def Inj {α : Type} (e : α → MV) : Prop := ∀ a b, e a = e b → a = b
theorem inj_int : Inj MV.int := fun _ _ h => by cases h; rfl
theorem inj_bl : Inj MV.bl := fun _ _ h => by cases h; rfl
theorem inj_str : Inj MV.str := fun _ _ h => by cases h; rfl
abbrev eL {α : Type} (e : α → MV) : List α → MV := fun xs => .lst (xs.map e)
abbrev eS {α : Type} (e : α → MV) : List α → MV := fun xs => .scr (xs.map e)
abbrev eP {α β : Type} (e : α → MV) (d : β → MV) : α × β → MV := fun p => .tup [e p.1, d p.2]
abbrev eU : Unit → MV := fun _ => .non
abbrev eI : Int → MV := MV.int
abbrev eB : Bool → MV := MV.bl
abbrev eZ : Str → MV := MV.str
theorem map_inj {α : Type} {e : α → MV} (h : Inj e) : ∀ a b : List α, a.map e = b.map e → a = b
  | [], [], _ => rfl
  | [], _ :: _, h => by simp at h
  | _ :: _, [], h => by simp at h
  | x :: xs, y :: ys, q => by
    simp only [List.map_cons, List.cons.injEq] at q
    rw [h x y q.1, map_inj h xs ys q.2]
theorem inj_L {α : Type} {e : α → MV} (h : Inj e) : Inj (eL e) := fun a b q => by
  injection q with q; exact map_inj h a b q
theorem inj_S {α : Type} {e : α → MV} (h : Inj e) : Inj (eS e) := fun a b q => by
  injection q with q; exact map_inj h a b q
theorem inj_P {α β : Type} {e : α → MV} {d : β → MV} (h : Inj e) (k : Inj d) : Inj (eP e d) := fun a b q => by
  simp only [eP, MV.tup.injEq, List.cons.injEq, and_true] at q
  exact Prod.ext (h _ _ q.1) (k _ _ q.2)
theorem inj_U : Inj eU := fun _ _ _ => rfl
section
variable {α β γ δ ε : Type}
noncomputable def sF1 (ea : α → MV) (er : ε → MV) (P : α → Prop) (f : α → ε) : FM := fun ms G => if h : ∃ a, ms = [ea a] ∧ P a then .ok (er (f (choose h))) G else .stuck
noncomputable def sF2 (ea : α → MV) (eb : β → MV) (er : ε → MV) (P : α → β → Prop) (f : α → β → ε) : FM := fun ms G => if h : ∃ p : α × β, ms = [ea p.1, eb p.2] ∧ P p.1 p.2 then .ok (er (f (choose h).1 (choose h).2)) G else .stuck
noncomputable def sF3 (ea : α → MV) (eb : β → MV) (ec : γ → MV) (er : ε → MV) (P : α → β → γ → Prop) (f : α → β → γ → ε) : FM := fun ms G => if h : ∃ p : α × β × γ, ms = [ea p.1, eb p.2.1, ec p.2.2] ∧ P p.1 p.2.1 p.2.2 then .ok (er (f (choose h).1 (choose h).2.1 (choose h).2.2)) G else .stuck
noncomputable def sF4 (ea : α → MV) (eb : β → MV) (ec : γ → MV) (ed : δ → MV) (er : ε → MV) (P : α → β → γ → δ → Prop) (f : α → β → γ → δ → ε) : FM := fun ms G => if h : ∃ p : α × β × γ × δ, ms = [ea p.1, eb p.2.1, ec p.2.2.1, ed p.2.2.2] ∧ P p.1 p.2.1 p.2.2.1 p.2.2.2 then .ok (er (f (choose h).1 (choose h).2.1 (choose h).2.2.1 (choose h).2.2.2)) G else .stuck
noncomputable def sF5 {ζ : Type} (ea : α → MV) (eb : β → MV) (ec : γ → MV) (ed : δ → MV) (ee : ζ → MV) (er : ε → MV) (P : α → β → γ → δ → ζ → Prop) (f : α → β → γ → δ → ζ → ε) : FM := fun ms G => if h : ∃ p : α × β × γ × δ × ζ, ms = [ea p.1, eb p.2.1, ec p.2.2.1, ed p.2.2.2.1, ee p.2.2.2.2] ∧ P p.1 p.2.1 p.2.2.1 p.2.2.2.1 p.2.2.2.2 then .ok (er (f (choose h).1 (choose h).2.1 (choose h).2.2.1 (choose h).2.2.2.1 (choose h).2.2.2.2)) G else .stuck
variable {ea : α → MV} {eb : β → MV} {ec : γ → MV} {ed : δ → MV} {er : ε → MV} {b : SM} {n : Nat} {G : MHeap}
theorem sF1_ev {P : α → Prop} {f : α → ε} (ia : Inj ea) {a : α} (h : P a) : sF1 ea er P f [ea a] G = .ok (er (f a)) G := by
  have q : ∃ a', [ea a] = [ea a'] ∧ P a' := ⟨a, rfl, h⟩
  unfold sF1
  rw [dif_pos q]
  have e := (choose_spec q).1
  have e1 := (List.cons.inj e).1
  rw [← ia _ _ e1]
theorem sF2_ev {P : α → β → Prop} {f : α → β → ε} (ia : Inj ea) (ib : Inj eb) {a : α} {b : β} (h : P a b) : sF2 ea eb er P f [ea a, eb b] G = .ok (er (f a b)) G := by
  have q : ∃ p : α × β, [ea a, eb b] = [ea p.1, eb p.2] ∧ P p.1 p.2 := ⟨(a, b), rfl, h⟩
  unfold sF2
  rw [dif_pos q]
  have e := (choose_spec q).1
  have e1 := (List.cons.inj e).1
  have e2 := (List.cons.inj (List.cons.inj e).2).1
  rw [← ia _ _ e1, ← ib _ _ e2]
theorem sF3_ev {P : α → β → γ → Prop} {f : α → β → γ → ε} (ia : Inj ea) (ib : Inj eb) (ic : Inj ec) {a : α} {b : β} {c : γ} (h : P a b c) : sF3 ea eb ec er P f [ea a, eb b, ec c] G = .ok (er (f a b c)) G := by
  have q : ∃ p : α × β × γ, [ea a, eb b, ec c] = [ea p.1, eb p.2.1, ec p.2.2] ∧ P p.1 p.2.1 p.2.2 := ⟨(a, b, c), rfl, h⟩
  unfold sF3
  rw [dif_pos q]
  have e := (choose_spec q).1
  have e1 := (List.cons.inj e).1
  have e2 := (List.cons.inj (List.cons.inj e).2).1
  have e3 := (List.cons.inj (List.cons.inj (List.cons.inj e).2).2).1
  rw [← ia _ _ e1, ← ib _ _ e2, ← ic _ _ e3]
theorem sF4_ev {P : α → β → γ → δ → Prop} {f : α → β → γ → δ → ε} (ia : Inj ea) (ib : Inj eb) (ic : Inj ec) (id : Inj ed) {a : α} {b : β} {c : γ} {d : δ} (h : P a b c d) : sF4 ea eb ec ed er P f [ea a, eb b, ec c, ed d] G = .ok (er (f a b c d)) G := by
  have q : ∃ p : α × β × γ × δ, [ea a, eb b, ec c, ed d] = [ea p.1, eb p.2.1, ec p.2.2.1, ed p.2.2.2] ∧ P p.1 p.2.1 p.2.2.1 p.2.2.2 := ⟨(a, b, c, d), rfl, h⟩
  unfold sF4
  rw [dif_pos q]
  have e := (choose_spec q).1
  have e1 := (List.cons.inj e).1
  have e2 := (List.cons.inj (List.cons.inj e).2).1
  have e3 := (List.cons.inj (List.cons.inj (List.cons.inj e).2).2).1
  have e4 := (List.cons.inj (List.cons.inj (List.cons.inj (List.cons.inj e).2).2).2).1
  rw [← ia _ _ e1, ← ib _ _ e2, ← ic _ _ e3, ← id _ _ e4]
theorem sF5_ev {ζ : Type} {ee : ζ → MV} {P : α → β → γ → δ → ζ → Prop} {f : α → β → γ → δ → ζ → ε} (ia : Inj ea) (ib : Inj eb) (ic : Inj ec) (id : Inj ed) (ie : Inj ee) {a : α} {b : β} {c : γ} {d : δ} {u : ζ} (h : P a b c d u) : sF5 ea eb ec ed ee er P f [ea a, eb b, ec c, ed d, ee u] G = .ok (er (f a b c d u)) G := by
  have q : ∃ p : α × β × γ × δ × ζ, [ea a, eb b, ec c, ed d, ee u] = [ea p.1, eb p.2.1, ec p.2.2.1, ed p.2.2.2.1, ee p.2.2.2.2] ∧ P p.1 p.2.1 p.2.2.1 p.2.2.2.1 p.2.2.2.2 := ⟨(a, b, c, d, u), rfl, h⟩
  unfold sF5
  rw [dif_pos q]
  have e := (choose_spec q).1
  have e1 := (List.cons.inj e).1
  have e2 := (List.cons.inj (List.cons.inj e).2).1
  have e3 := (List.cons.inj (List.cons.inj (List.cons.inj e).2).2).1
  have e4 := (List.cons.inj (List.cons.inj (List.cons.inj (List.cons.inj e).2).2).2).1
  have e5 := (List.cons.inj (List.cons.inj (List.cons.inj (List.cons.inj (List.cons.inj e).2).2).2).2).1
  rw [← ia _ _ e1, ← ib _ _ e2, ← ic _ _ e3, ← id _ _ e4, ← ie _ _ e5]
theorem sF5_run {ζ : Type} {ee : ζ → MV} {P : α → β → γ → δ → ζ → Prop} {f : α → β → γ → δ → ζ → ε} (h : ∀ x y z u v G, P x y z u v → runB b n [ea x, eb y, ec z, ed u, ee v] G = .ok (er (f x y z u v)) G) (ms : List MV) (G : MHeap) (hn : sF5 ea eb ec ed ee er P f ms G ≠ .stuck) : runB b n ms G = sF5 ea eb ec ed ee er P f ms G := by
  unfold sF5 at hn ⊢
  split at hn
  · rename_i q
    rw [dif_pos q]
    have e := choose_spec q
    have z := h (choose q).1 (choose q).2.1 (choose q).2.2.1 (choose q).2.2.2.1 (choose q).2.2.2.2 G e.2
    rw [← e.1] at z
    exact z
  · exact absurd rfl hn
theorem sF5_len {ζ : Type} {ee : ζ → MV} {P : α → β → γ → δ → ζ → Prop} {f : α → β → γ → δ → ζ → ε} (ms : List MV) (G : MHeap) (hn : sF5 ea eb ec ed ee er P f ms G ≠ .stuck) : ms.length = 5 := by
  unfold sF5 at hn
  split at hn
  · rename_i q; rw [(choose_spec q).1]; rfl
  · exact absurd rfl hn
theorem sF1_run {P : α → Prop} {f : α → ε} (h : ∀ a G, P a → runB b n [ea a] G = .ok (er (f a)) G) (ms : List MV) (G : MHeap) (hn : sF1 ea er P f ms G ≠ .stuck) : runB b n ms G = sF1 ea er P f ms G := by
  unfold sF1 at hn ⊢
  split at hn
  · rename_i q
    rw [dif_pos q]
    have e := choose_spec q
    have z := h (choose q) G e.2
    rw [← e.1] at z
    exact z
  · exact absurd rfl hn
theorem sF2_run {P : α → β → Prop} {f : α → β → ε} (h : ∀ x y G, P x y → runB b n [ea x, eb y] G = .ok (er (f x y)) G) (ms : List MV) (G : MHeap) (hn : sF2 ea eb er P f ms G ≠ .stuck) : runB b n ms G = sF2 ea eb er P f ms G := by
  unfold sF2 at hn ⊢
  split at hn
  · rename_i q
    rw [dif_pos q]
    have e := choose_spec q
    have z := h (choose q).1 (choose q).2 G e.2
    rw [← e.1] at z
    exact z
  · exact absurd rfl hn
theorem sF3_run {P : α → β → γ → Prop} {f : α → β → γ → ε} (h : ∀ x y z G, P x y z → runB b n [ea x, eb y, ec z] G = .ok (er (f x y z)) G) (ms : List MV) (G : MHeap) (hn : sF3 ea eb ec er P f ms G ≠ .stuck) : runB b n ms G = sF3 ea eb ec er P f ms G := by
  unfold sF3 at hn ⊢
  split at hn
  · rename_i q
    rw [dif_pos q]
    have e := choose_spec q
    have z := h (choose q).1 (choose q).2.1 (choose q).2.2 G e.2
    rw [← e.1] at z
    exact z
  · exact absurd rfl hn
theorem sF4_run {P : α → β → γ → δ → Prop} {f : α → β → γ → δ → ε} (h : ∀ x y z u G, P x y z u → runB b n [ea x, eb y, ec z, ed u] G = .ok (er (f x y z u)) G) (ms : List MV) (G : MHeap) (hn : sF4 ea eb ec ed er P f ms G ≠ .stuck) : runB b n ms G = sF4 ea eb ec ed er P f ms G := by
  unfold sF4 at hn ⊢
  split at hn
  · rename_i q
    rw [dif_pos q]
    have e := choose_spec q
    have z := h (choose q).1 (choose q).2.1 (choose q).2.2.1 (choose q).2.2.2 G e.2
    rw [← e.1] at z
    exact z
  · exact absurd rfl hn
theorem sF1_len {P : α → Prop} {f : α → ε} (ms : List MV) (G : MHeap) (hn : sF1 ea er P f ms G ≠ .stuck) : ms.length = 1 := by
  unfold sF1 at hn
  split at hn
  · rename_i q; rw [(choose_spec q).1]; rfl
  · exact absurd rfl hn
theorem sF2_len {P : α → β → Prop} {f : α → β → ε} (ms : List MV) (G : MHeap) (hn : sF2 ea eb er P f ms G ≠ .stuck) : ms.length = 2 := by
  unfold sF2 at hn
  split at hn
  · rename_i q; rw [(choose_spec q).1]; rfl
  · exact absurd rfl hn
theorem sF3_len {P : α → β → γ → Prop} {f : α → β → γ → ε} (ms : List MV) (G : MHeap) (hn : sF3 ea eb ec er P f ms G ≠ .stuck) : ms.length = 3 := by
  unfold sF3 at hn
  split at hn
  · rename_i q; rw [(choose_spec q).1]; rfl
  · exact absurd rfl hn
theorem sF4_len {P : α → β → γ → δ → Prop} {f : α → β → γ → δ → ε} (ms : List MV) (G : MHeap) (hn : sF4 ea eb ec ed er P f ms G ≠ .stuck) : ms.length = 4 := by
  unfold sF4 at hn
  split at hn
  · rename_i q; rw [(choose_spec q).1]; rfl
  · exact absurd rfl hn
end
end M

namespace M
open PySem L2
open Classical

/-! ## live lists looked through -/
mutual
def dn (G : MHeap) : MV → MV
  | .tup xs => .tup (dns G xs)
  | .lst xs => .lst (dns G xs)
  | .scr xs => .scr (dns G xs)
  | .ref n => (match G[n]? with
    | some (.lst xs) => .lst xs
    | _ => .ref n)
  | x => x
def dns (G : MHeap) : List MV → List MV
  | [] => []
  | x :: xs => dn G x :: dns G xs
end
theorem dns_map (G : MHeap) : ∀ xs : List MV, dns G xs = xs.map (dn G)
  | [] => rfl
  | x :: xs => by rw [dns, dns_map G xs]; rfl
mutual
theorem toG_dn (G : MHeap) : ∀ x : MV, toG G x = toD (dn G x)
  | .non => rfl
  | .bl _ => rfl
  | .int _ => rfl
  | .str _ => rfl
  | .tup xs => by rw [toG, dn, toD, toGs_dn G xs]
  | .lst xs => by rw [toG, dn, toD, toGs_dn G xs]
  | .scr xs => by rw [toG, dn, toD, toGs_dn G xs]
  | .obj _ _ _ => rfl
  | .ref n => by
    rw [toG, dn]
    cases G[n]? with
    | none => rfl
    | some o => cases o <;> rfl
  | .err _ => rfl
  | .dic => rfl
theorem toGs_dn (G : MHeap) : ∀ xs : List MV, toGs G xs = toDs (dns G xs)
  | [] => rfl
  | x :: xs => by
    rw [toGs, dns, toDs, toG_dn G x, toGs_dn G xs]
    all_goals (cases toD (dn G x) <;> cases toDs (dns G xs) <;> rfl)
end
theorem oEqG_dn (x y : MV) (s : MS) : oEqG x y s = oEq (dn s.G x) (dn s.G y) s := by
  unfold oEqG oEq
  rw [toG_dn, toG_dn]
  all_goals (cases toD (dn s.G x) <;> cases toD (dn s.G y) <;> rfl)
theorem oNeG_dn (x y : MV) (s : MS) : oNeG x y s = oNe (dn s.G x) (dn s.G y) s := by
  unfold oNeG oNe
  rw [toG_dn, toG_dn]
  all_goals (cases toD (dn s.G x) <;> cases toD (dn s.G y) <;> rfl)
theorem dn_ints (G : MHeap) (ns : List Int) : dns G (ns.map MV.int) = ns.map MV.int := by
  rw [dns_map, List.map_map]; rfl
theorem shp_up {n : Nat} {x : MV} (h : Shp n x) : ∀ {m : Nat}, n ≤ m → Shp m x := by
  induction h with
  | non => intros; exact .non
  | bl => intros; exact .bl
  | int => intros; exact .int
  | str h => intros; exact .str h
  | lst _ ih => intro m hm; cases m with
    | zero => omega
    | succ m => exact .lst fun x hx => ih x hx (by omega)
  | tup _ ih => intro m hm; cases m with
    | zero => omega
    | succ m => exact .tup fun x hx => ih x hx (by omega)
end M
namespace M
open PySem L2
theorem log2_mod (a b : Int) (n : Nat) (h : 0 < b) (hb : b.natAbs.log2 < n) : (a % b).natAbs.log2 < n := by
  have h1 := Int.emod_nonneg a (show b ≠ 0 by omega)
  have h2 := Int.emod_lt_of_pos a h
  exact Nat.lt_of_le_of_lt (log2_mono (show (a % b).natAbs ≤ b.natAbs by omega)) hb
theorem log2_div (a b : Int) (n : Nat) (h : 0 < b) (ha : a.natAbs.log2 < n) : (a / b).natAbs.log2 < n := by
  refine Nat.lt_of_le_of_lt (log2_mono ?_) ha
  exact Int.natAbs_ediv_le_natAbs a b
theorem log2_neg (a : Int) (n : Nat) (ha : a.natAbs.log2 < n) : (-a).natAbs.log2 < n := by rwa [Int.natAbs_neg]
theorem log2_ite {c : Prop} [Decidable c] {a b : Int} {n : Nat} (ha : a.natAbs.log2 < n) (hb : b.natAbs.log2 < n) : (if c then a else b).natAbs.log2 < n := by split <;> assumption
end M
namespace M
open PySem L2
abbrev eN : Nat → MV := fun n => .int (n : Int)
theorem inj_N : Inj eN := fun a b h => by
  have := MV.int.inj h
  omega
abbrev eT : List Int → MV := fun xs => .tup (xs.map MV.int)
theorem inj_T : Inj eT := fun a b q => by
  injection q with q; exact map_inj inj_int a b q
abbrev eIs : List Int → MV := fun xs => .lst (xs.map MV.int)
theorem inj_Is : Inj eIs := inj_L inj_int
abbrev eF : Int × Int → MV := fun p => .tup [.int p.1, .int p.2]
theorem inj_F : Inj eF := fun a b q => by
  simp only [eF, MV.tup.injEq, List.cons.injEq, and_true, MV.int.injEq] at q
  exact Prod.ext q.1 q.2
def sml (n : Nat) (ns : List Int) : Prop := ∀ z ∈ ns, z.natAbs.log2 < n
theorem sml_up {n m : Nat} {ns : List Int} (h : sml n ns) (k : n ≤ m) : sml m ns := fun z hz => Nat.lt_of_lt_of_le (h z hz) k
theorem getD_in (xs : List Int) (i : Nat) (h : i < xs.length) : xs.getD i 0 = xs[i] := by simp [List.getD, h]
theorem getD_out (xs : List Int) (i : Nat) (h : xs.length ≤ i) : xs.getD i 0 = 0 := by simp [List.getD, h]
theorem sml_at {n : Nat} {ns : List Int} (hn : 0 < n) (h : sml n ns) (i : Nat) : (ns.getD i 0).natAbs.log2 < n := by
  by_cases hi : i < ns.length
  · rw [getD_in _ _ hi]; exact h _ (List.getElem_mem hi)
  · rw [getD_out _ _ (by omega)]; exact hn
theorem sml_append {n : Nat} {xs ys : List Int} (h : sml n xs) (k : sml n ys) : sml n (xs ++ ys) := fun z hz => by
  rcases List.mem_append.mp hz with hz | hz
  · exact h z hz
  · exact k z hz
theorem oIdx_ints {xs : List Int} {i : Int} {s : MS} (h : 0 ≤ i) (h2 : i < xs.length) : oIdx (.lst (xs.map MV.int)) (.int i) s = .ok (.int (xs.getD i.toNat 0)) s := by
  have h3 : i.toNat < xs.length := by omega
  rw [oIdx_lst h]; simp [h3, ofO]
theorem oAdd_ints {xs ys : List Int} {s : MS} (h : xs.length + ys.length ≤ 16777216) : oAdd (.lst (xs.map MV.int)) (.lst (ys.map MV.int)) s = .ok (.lst ((xs ++ ys).map MV.int)) s := by
  rw [oAdd_lst (by simpa using h), List.map_append]
theorem nAdd_ints {xs ys : List Int} {s : MS} (h : xs.length + ys.length ≤ 16777216) : nAdd (.lst (xs.map MV.int)) (.lst (ys.map MV.int)) s = .ok (.lst ((xs ++ ys).map MV.int)) s := by
  rw [nAdd_lst (by simpa using h), List.map_append]
theorem cN0 : ((0 : Nat) : Int) = 0 := rfl
theorem cN1 : ((1 : Nat) : Int) = 1 := rfl
theorem cN2 : ((2 : Nat) : Int) = 2 := rfl
theorem cN3 : ((3 : Nat) : Int) = 3 := rfl
theorem cN4 : ((4 : Nat) : Int) = 4 := rfl
theorem cN5 : ((5 : Nat) : Int) = 5 := rfl
theorem cN6 : ((6 : Nat) : Int) = 6 := rfl
theorem cN7 : ((7 : Nat) : Int) = 7 := rfl
theorem cN8 : ((8 : Nat) : Int) = 8 := rfl
theorem cN9 : ((9 : Nat) : Int) = 9 := rfl
theorem cN10 : ((10 : Nat) : Int) = 10 := rfl
theorem mapInt_len (xs : List Int) : (xs.map MV.int).length = xs.length := List.length_map _
theorem range_map_succ {α : Type} (f : Nat → α) (n : Nat) : (List.range (n + 1)).map f = (List.range n).map f ++ [f n] := by
  rw [List.range_succ, List.map_append]; rfl
end M

namespace M
open PySem L2
open Classical

/-! ## raise -/
def mRaise (c : String) : SM := fun s => .exc c s
structure RaiI (ct : String → Addr) (K : PySem.W.Frag) (mg : Str → Option Value) (c : String) (x : Str) : Prop where
  gC : mg x = some (.ref (ct c))
  q : PySem.W.excIn K (ct c) [.type "ValueError", .type "Exception", .type "BaseException", .type "object"] "ValueError.__new__" = true
  kC : PySem.W.keepIn K (.ref (ct c)) = true
  b : PySem.W.subIn K (.ref (ct c)) (.type "BaseException") = some true
  t : PySem.W.typeIn K (.ref (ct c)) = some (.type "type")
theorem rai_mk {K : PySem.W.Frag} {mg : Str → Option Value} {n : String} {C : Addr} (e : ctOf K n = C) (gm : mg (Str.ofString n) = some (.ref (ctOf K n))) (q : PySem.W.excIn K C [.type "ValueError", .type "Exception", .type "BaseException", .type "object"] "ValueError.__new__" = true)
    (kC : PySem.W.keepIn K (.ref C) = true) (b : PySem.W.subIn K (.ref C) (.type "BaseException") = some true) (t : PySem.W.typeIn K (.ref C) = some (.type "type")) : RaiI (ctOf K) K mg n (Str.ofString n) :=
  ⟨gm, by rw [e]; exact q, by rw [e]; exact kC, by rw [e]; exact b, by rw [e]; exact t⟩
theorem s_raise {ct : String → Addr} {X : Cx} {W : WX} {c : String} {x m : Str} {j : Nat} {p p2 pos rpos : Pos} (I : RaiI ct X.K X.mg c x) (tk : Takes X W) (hc : X.calm = true := by rfl) (hg : Gl X x := by rfl) (hdb : (x == ("__debug__" : Str)) = false := by decide) :
    PSM ct X W (.Raise (some (.Call (.Name x p) [.Constant (.str m) j p2] [] pos)) none rpos) (fun _ σ H => W (.ref (ct c)) none σ H) (mRaise c) :=
  ⟨ps_raise hc tk (pmk_own PySem.F.excBase_ValueError I.q I.gC I.kC (raises_own I.b I.t) hg hdb), fun X ρ O s σ H D S p => p ρ O σ H S Fut.refl⟩
theorem set_same {α : Type} {l : List α} {n : Nat} {x : α} (h : l[n]? = some x) : l.set n x = l := by
  have hl := (List.getElem?_eq_some_iff.mp h).1
  apply List.ext_getElem?
  intro i
  by_cases e : n = i
  · subst e; rw [List.getElem?_set_self hl, h]
  · rw [List.getElem?_set_ne e]
/-! ## closed parts: the kernel does not look into them -/
noncomputable def shut {α : Type} (x : α) : α := Classical.choose (⟨x, rfl⟩ : ∃ y, y = x)
theorem shut_eq {α : Type} (x : α) : shut x = x := Classical.choose_spec (⟨x, rfl⟩ : ∃ y, y = x)
theorem b_shut {ct : String → Addr} {X : Cx} {W : WX} {sts : List Stmt} {t : TS} {m : SM} (h : PSsM ct X W sts t m) : PSsM ct X W sts t (shut m) := by rw [shut_eq]; exact h
theorem e_gintE {ct : String → Addr} {X : Cx} {W : WX} {pos : Pos} {x : Str} {i : Int} (hm : ∃ t, X.mg x = some (.int i t)) (hg : Gl X x := by rfl) (hd : (x == ("__debug__" : Str)) = false := by decide) : PEM ct X W (.Name x pos) (tC (.int i)) (mCon (.int i)) := by
  obtain ⟨t, h⟩ := hm
  exact e_gint h hg hd
theorem e_gstrE {ct : String → Addr} {X : Cx} {W : WX} {pos : Pos} {x : Str} {i : Str} (hm : ∃ t, X.mg x = some (.str i t)) (hg : Gl X x := by rfl) (hd : (x == ("__debug__" : Str)) = false := by decide) : PEM ct X W (.Name x pos) (tC (.str i)) (mCon (.str i)) := by
  obtain ⟨t, h⟩ := hm
  exact e_gstr h hg hd
end M

namespace M
open PySem L2
open Classical

/-! ## new live lists told by functions -/
theorem lcEndF_of {g : GM} {t : TM} {e : EM} {vs : List Nat} {xs ys : List MV} {s s' : MS} (h : lcEnd g t e vs xs s = .ok (.lst ys) s') : lcEndF g t e vs xs s = .ok (.lst ys) s' := by
  unfold lcEnd at h
  unfold lcEndF
  by_cases h1 : lim xs.length
  · rw [if_pos h1] at h ⊢
    by_cases h2 : noOw s.env vs = true
    · rw [if_pos h2] at h ⊢
      cases e1 : lcM g t e vs (wipeE s.env vs) xs [] s.G with
      | ok zs s2 => rw [e1] at h; cases h; rfl
      | exc c s2 => rw [e1] at h; cases h
      | stuck => rw [e1] at h; cases h
    · rw [if_neg h2] at h; cases h
  · rw [if_neg h1] at h; cases h
section
variable {α β : Type}
noncomputable def sL2 (ea : α → MV) (eb : β → MV) (P : α → β → Prop) (f : α → β → List Int) : FM := fun ms G => if h : ∃ p : α × β, ms = [ea p.1, eb p.2] ∧ P p.1 p.2 then .ok (.ref G.length) (G ++ [.lst ((f (choose h).1 (choose h).2).map MV.int)]) else .stuck
variable {ea : α → MV} {eb : β → MV} {b : SM} {n : Nat} {G : MHeap}
theorem sL2_ev {P : α → β → Prop} {f : α → β → List Int} (ia : Inj ea) (ib : Inj eb) {a : α} {b : β} (h : P a b) : sL2 ea eb P f [ea a, eb b] G = .ok (.ref G.length) (G ++ [.lst ((f a b).map MV.int)]) := by
  have q : ∃ p : α × β, [ea a, eb b] = [ea p.1, eb p.2] ∧ P p.1 p.2 := ⟨(a, b), rfl, h⟩
  unfold sL2
  rw [dif_pos q]
  have e := (choose_spec q).1
  have e1 := (List.cons.inj e).1
  have e2 := (List.cons.inj (List.cons.inj e).2).1
  rw [← ia _ _ e1, ← ib _ _ e2]
theorem sL2_run {P : α → β → Prop} {f : α → β → List Int} (h : ∀ x y G, P x y → runB b n [ea x, eb y] G = .ok (.ref G.length) (G ++ [.lst ((f x y).map MV.int)])) (ms : List MV) (G : MHeap) (hn : sL2 ea eb P f ms G ≠ .stuck) : runB b n ms G = sL2 ea eb P f ms G := by
  unfold sL2 at hn ⊢
  split at hn
  · rename_i q
    rw [dif_pos q]
    have e := choose_spec q
    have z := h (choose q).1 (choose q).2 G e.2
    rw [← e.1] at z
    exact z
  · exact absurd rfl hn
theorem sL2_len {P : α → β → Prop} {f : α → β → List Int} (ms : List MV) (G : MHeap) (hn : sL2 ea eb P f ms G ≠ .stuck) : ms.length = 2 := by
  unfold sL2 at hn
  split at hn
  · rename_i q; rw [(choose_spec q).1]; rfl
  · exact absurd rfl hn
end
end M

namespace M
open PySem L2 PyProof.Rows
open Classical

/-! ## divmod by a positive divisor -/
noncomputable def bDivmod : List MV → EM := fun xs s => match xs with
  | [.int i, .int j] => if 0 < j ∧ divOk j then .ok (.tup [.int (i / j), .int (i % j)]) s else .stuck
  | _ => .stuck
def rDivmod : List V → Hp → VK → Prop := fun xs H Q => ∃ i j, xs = [.int i, .int j] ∧ L2.CDivP i j ∧ ∀ p, H p = none → Q (.ref p) (upd H p (.tup [.int (i / j), .int (i % j)]))
variable {K : KA}
theorem sc_divmod : SimC K rDivmod bDivmod := by
  intro X W ρ O s σ H xs vs Q S r p
  cases r with
  | nil => exact p.elim
  | cons r1 rr => cases rr with
    | nil => cases r1 <;> exact p.elim
    | cons r2 r3 => cases r3 with
      | cons _ _ => cases r1 <;> first | exact p.elim | (cases r2 <;> exact p.elim)
      | nil => cases r1 with
        | int i => cases r2 with
          | int j =>
            unfold bDivmod at p
            by_cases h : 0 < j ∧ divOk j
            · simp only [if_pos h] at p
              refine ⟨i, j, rfl, ⟨h.1, ?_⟩, fun q hq => p.grown S (Ex.new hq) (.tup (.inl (.inl (S.view_new hq))) (.cons (.int _) (.cons (.int _) .nil)))⟩
              exact PyProof.noPylong_of_log2 h.2
            · simp only [if_neg h] at p; exact p.elim
          | _ => exact p.elim
        | _ => exact p.elim
theorem divmod_ev {i j : Int} {s : MS} (h : 0 < j) (hd : divOk j) : bDivmod [.int i, .int j] s = .ok (.tup [.int (i / j), .int (i % j)]) s := by
  unfold bDivmod
  simp only [if_pos (show 0 < j ∧ divOk j from ⟨h, hd⟩)]

/-! ## a function that is never reached: the ground of a recursion -/
def mfNo : FM := fun _ _ => .stuck
theorem no_ok {P : Program} {w : World} {K : PySem.W.Frag} {ct : String → Addr} {mg : Str → Option Value} {base : Heap} {k : Nat} {f : Addr} {fd : FuncData} {ps : List Str} : FnOk P w K mg base (L2.CX P w) k f fd ps (spM ⟨K, ct⟩ mfNo) :=
  ⟨fun vs H Q E h => by obtain ⟨X, ρ, G, ms, S, r, p⟩ := h; exact p.elim, fun A outer s H args us vs Q E hr he hb hv h => by obtain ⟨X, ρ, G, ms, S, r, p⟩ := h; exact p.elim⟩

/-! ## a op b op c -/
def mChain (f f' : MV → MV → EM) (ma mb mc : EM) : EM := fun s => (ma s).bind fun x s1 => (mb s1).bind fun y s2 => (f x y s2).bind fun z s3 => match z with
  | .bl true => (mc s3).bind fun w s4 => f' y w s4
  | .bl false => .ok (.bl false) s3
  | _ => .stuck
theorem sim_chain {W : WX} {r r' : R2} {f f' : MV → MV → EM} {ta tb tc : TE} {ma mb mc : EM} (ha : SimE K W ta ma) (hb : SimE K W tb mb) (hc : SimE K W tc mc) (hr : SimOp K r f) (hr' : SimOp K r' f') : SimE K W (tChain r r' ta tb tc) (mChain f f' ma mb mc) := by
  intro X ρ O s σ H Q S p
  refine ha.bindE S p fun x s1 ρ1 O1 H1 v S1 F1 r1 p1 => ?_
  refine hb.bindE S1 p1 fun y s2 ρ2 O2 H2 u S2 F2 r2 p2 => ?_
  refine hr X W ρ2 O2 s2 σ H2 x y v u _ S2 (F2.rep r1) r2 ?_
  cases e : f x y s2 with
  | ok z s3 =>
    rw [e] at p2
    intro ρ3 O3 H3 w S3 F3 r3
    have p3 := p2.later F3
    cases z with
    | bl k =>
      cases r3
      refine ⟨k, rfl, ?_⟩
      cases k with
      | false => rw [if_neg (by decide)]; exact p3.done S3 (.bl false)
      | true =>
        rw [if_pos rfl]
        exact hc.bindE S3 p3 fun w s4 ρ4 O4 H4 v4 S4 F4 r4 p4 => hr' X W ρ4 O4 s4 σ H4 y w u v4 Q S4 (F4.rep (F3.rep r2)) r4 p4
    | _ => exact p3.elim
  | exc c s1 => rw [e] at p2; exact p2
  | stuck => rw [e] at p2; exact p2
section
variable {ct : String → Addr} {X : Cx} {W : WX} {a b c : Expr} {ta tb tc : TE} {ma mb mc : EM} {pos : Pos}
theorem e_chain {op op' : CmpOp} {r r' : R2} {f f' : MV → MV → EM} (ho : OpR X (compareOp op) r) (so : SimOp ⟨X.K, ct⟩ r f) (ho' : OpR X (compareOp op') r') (so' : SimOp ⟨X.K, ct⟩ r' f') (ha : PEM ct X W a ta ma) (hb : PEM ct X W b tb mb) (hc : PEM ct X W c tc mc)
    (hm : lastMarks [op, op'] [b, c] = false := by with_unfolding_all rfl) : PEM ct X W (.Compare a [op, op'] [b, c] pos) (tChain r r' ta tb tc) (mChain f f' ma mb mc) := ⟨pe_chain ho ho' ha.pe hb.pe hc.pe hm, sim_chain ha.sim hb.sim hc.sim so so'⟩
theorem t_chain {op op' : CmpOp} {r r' : R2} {f f' : MV → MV → EM} (ho : OpR X (compareOp op) r) (so : SimOp ⟨X.K, ct⟩ r f) (ho' : OpR X (compareOp op') r') (so' : SimOp ⟨X.K, ct⟩ r' f') (ha : PEM ct X W a ta ma) (hb : PEM ct X W b tb mb) (hc : PEM ct X W c tc mc)
    (hm : lastMarks [op, op'] [b, c] = false := by with_unfolding_all rfl) : PTM ct X W (.Compare a [op, op'] [b, c] pos) (tTest (tChain r r' ta tb tc)) (tOf (mChain f f' ma mb mc)) := ⟨pt_chain ho ho' ha.pe hb.pe hc.pe hm, sim_test (sim_chain ha.sim hb.sim hc.sim so so')⟩
end
end M

namespace M
open PySem L2 PyProof.Rows
open Classical

/-! ## loops over typed lists -/
theorem forM_fold {α σ : Type} {g : GM} {b : SM} (e : α → MV) (f : σ → α → σ) (St : σ → MS → Prop) : ∀ (xs : List α) (a : σ) (s : MS), St a s →
    (∀ x ∈ xs, ∀ a s, St a s → ∃ s1 s2, g (e x) s = some s1 ∧ b s1 = .ok .nx s2 ∧ St (f a x) s2) → ∃ s', M.forM g b (xs.map e) s = .ok .nx s' ∧ St (xs.foldl f a) s'
  | [], a, s, h, _ => ⟨s, rfl, h⟩
  | x :: xs, a, s, h, t => by
    obtain ⟨s1, s2, h1, h2, h3⟩ := t x List.mem_cons_self a s h
    obtain ⟨s', h4, h5⟩ := forM_fold e f St xs (f a x) s2 h3 fun y hy => t y (List.mem_cons_of_mem _ hy)
    refine ⟨s', ?_, h5⟩
    rw [List.map_cons]
    unfold M.forM
    simp only [h1, h2]
    exact h4
theorem forM_all {α : Type} {g : GM} {b : SM} (e : α → MV) (St : MS → Prop) (xs : List α) (s : MS) (h : St s)
    (t : ∀ x ∈ xs, ∀ s, St s → ∃ s1 s2, g (e x) s = some s1 ∧ b s1 = .ok .nx s2 ∧ St s2) : ∃ s', M.forM g b (xs.map e) s = .ok .nx s' ∧ St s' :=
  forM_fold (σ := Unit) e (fun _ _ => ()) (fun _ => St) xs () s h fun x hx _ s hs => t x hx s hs
theorem forM_allI {g : GM} {b : SM} (St : MS → Prop) (ns : List Int) (s : MS) (h : St s)
    (t : ∀ x ∈ ns, ∀ s, St s → ∃ s1 s2, g (.int x) s = some s1 ∧ b s1 = .ok .nx s2 ∧ St s2) : ∃ s', M.forM g b (ns.map MV.int) s = .ok .nx s' ∧ St s' := forM_all MV.int St ns s h t
end M

namespace M
open PySem L2 PyProof.Rows
open Classical

/-! ## try .. except C as e: x = e; the error is tracked from there on -/
section
variable {X : Cx} {pins : List (Addr × Obj)} {σ : L2.St} {H : Hp} {s : Shared}
theorem track {a : Addr} {oe : Obj} {φ : Heap → Prop} (I : Inv X pins σ H s) (na : H a = none) (ho : s.heap.get? a = some oe) (nL : a ≠ X.env.locals) (nc : ∀ v, oe.data ≠ .cell v) (np : ∀ p ∈ X.pn ++ pins, p.1 ≠ a)
    (n0 : ∀ o, X.s_0.heap.get? a = some o → a ∈ X.ex) (hφ : φ s.heap) (st : ∀ h1 h2 : Heap, φ h1 → (∀ o, h1.get? a = some o → h2.get? a = some o) → φ h2) : Inv X pins σ (upd H a (.ext φ)) s where
  ok := I.ok
  os := I.os
  bare := I.bare
  base := ⟨I.base.keep, I.base.slot, fun b o e n hx => by
      have hb : b ≠ a := fun z => hx (by subst z; exact n0 o e)
      rw [upd_ne hb]; exact I.base.free b o e n hx, I.base.there,
    fun b xs e => by have z := I.base.tups b xs e; rw [upd_ne (ne_of_none z na)]; exact z,
    fun b o u e => by have z := I.base.frzs b o u e; rw [upd_ne (ne_of_none z na)]; exact z,
    fun b ps e => by obtain ⟨more, z⟩ := I.base.tbls b ps e; exact ⟨more, by rw [upd_ne (ne_of_none z na)]; exact z⟩⟩
  loc := I.loc
  cell := I.cell
  free := by rw [upd_ne (Ne.symm nL)]; exact I.free
  freeC := fun x c e => by
    obtain ⟨v, o, z1, z2⟩ := I.cell x c e
    have hc : c ≠ a := fun z => by
      subst z
      have := Option.some.inj (z1.symm.trans ho)
      subst this
      exact nc v z2
    rw [upd_ne hc]; exact I.freeC x c e
  pin := fun p hp => by
    obtain ⟨e, n, r⟩ := I.pin p hp
    exact ⟨e, by rw [upd_ne (np p hp)]; exact n, r⟩
  hok := fun b u e => by
    by_cases hb : b = a
    · subst hb; rw [upd_same] at e; cases e; exact ⟨hφ, ⟨oe, ho⟩, st⟩
    · rw [upd_ne hb] at e
      exact (I.hok b u e).stay (fun _ _ _ q => q) (fun c q => by rw [upd_ne (ne_of_none q na)]; exact q) fun c xs q => by rw [upd_ne (ne_of_none q na)]; exact q
  len := I.len
/-- an error in hand: what is known of it in the frame that handles it -/
structure Caught (X : Cx) (pins : List (Addr × Obj)) (a : Addr) (cls : Value) (d : Option Addr) (oe : Obj) (h : Heap) : Prop where
  at' : h.get? a = some oe
  zc : Zc cls d oe
  fl : ∃ vs, oe.data = .fields vs
  nL : a ≠ X.env.locals
  nF : a ∉ X.fs
  np : ∀ p ∈ X.pn ++ pins, p.1 ≠ a
  n0 : ∀ o, X.s_0.heap.get? a = some o → a ∈ X.ex
theorem caught_of {B : Heap} {a : Addr} {cls : Value} {d : Option Addr} {h3 : Heap} (hs : X.stack = X.env :: X.outer) (hf : X.env.frame = some X.env.locals) (J : Inv X pins σ H s) (nb : ∀ b o, s.heap.get? b = some o → b ∉ frs X.stack → B.get? b = some o)
    (fl : HandSPX.FlyingZ B (X.env :: X.outer) a (Zc cls d) h3) : ∃ oe, Caught X pins a cls d oe h3 := by
  obtain ⟨oe, vs, g1, g2, g3⟩ := fl.there
  have out : a ∉ frs (X.env :: X.outer) := fun hm => by
    obtain ⟨_, o2, g4, g5⟩ := fl.2.2.1.mem hm
    have := Option.some.inj (g1.symm.trans g4)
    subst this
    exact g5 _ g3
  have outS : a ∉ frs X.stack := by rw [hs]; exact out
  have gone : s.heap.get? a = none := by
    cases q : s.heap.get? a with
    | none => rfl
    | some o => have z := nb a o q outS; rw [fl.2.1] at z; cases z
  refine ⟨oe, g1, g2, ⟨vs, g3⟩, fun z => out (List.mem_filterMap.mpr ⟨X.env, List.mem_cons_self, by rw [hf, z]⟩), fun hm => ?_, fun p hp z => ?_, fun o e => ?_⟩
  · obtain ⟨e, he, q⟩ := List.mem_filterMap.mp hm
    exact out (List.mem_filterMap.mpr ⟨e, List.mem_cons_of_mem _ he, q⟩)
  · have := (J.pin p hp).1
    rw [z, gone] at this; cases this
  · refine Classical.byContradiction fun hx => ?_
    obtain ⟨o2, z⟩ := J.base.there a o e hx
    rw [gone] at z; cases z
end
def wKeep (K : PySem.W.Frag) (c : Value) (i : Nat) (ts : TS) (Wout : WX) (D : Ends) : WX := fun cls d σ H => ∃ b, PySem.W.exmOne K cls c = some b ∧
  (b = true → ∃ C, cls = .ref C ∧ d = none ∧ ∀ a, H a = none → ts { nx := fun σ' H' => D.nx (σ'.set i none) (upd H' a (ErrO C a)), rt := fun _ _ => False } (σ.set i (some (.ref a))) H) ∧ (b = false → Wout cls d σ H)
section
variable {X : Cx} {x n : Str} {c : Value} {i : Nat} {body suite : List Stmt} {b₀ : Stmt} {np pos pos' : Pos} {R : WX → TS → Prop} {ts : TS} {Wout : WX}
/-- the wish at the body's end, where clauses follow -/
def xeTry (X : Cx) (pins : List (Addr × Obj)) (D : Ends) (hds : List ExceptHandler) (e : Value) (t : Shared) : Prop :=
  wpAny (model X.prog X.w) X.A (noteFrame e X.env) (fun _ t1 => wpAny (model X.prog X.w) X.A (setFlight e none)
    (fun _ t2 => wpAny (model X.prog X.w) X.A (handleBy e X.env hds) (SP X pins D) X.xe t2) X.xe t1) X.xe t
theorem errO_st {C a : Addr} : ∀ h1 h2 : Heap, (∃ (oe : Obj) (vs : Array Value), h1.get? a = some oe ∧ Zc (.ref C) none oe ∧ oe.data = .fields vs) → (∀ o, h1.get? a = some o → h2.get? a = some o) → ∃ (oe : Obj) (vs : Array Value), h2.get? a = some oe ∧ Zc (.ref C) none oe ∧ oe.data = .fields vs :=
  fun h1 h2 ⟨oe, vs, x, y⟩ k => ⟨oe, vs, k _ x, y⟩
theorem ps_keep (hs : X.stack = X.env :: X.outer) (hf : X.env.frame = some X.env.locals) (hN : X.N.Nodup) (hi : X.N[i]? = some n) (hln : X.env.kindOf n = some .local) (hc : Names X x c) (tk : Takes X Wout)
    (hb : ∀ (W : WX) (pn : List (Addr × Obj)) (xe : Value → Shared → Prop), Takes (X.tr pn xe) W → PassesOwn (model X.prog X.w) X.A X.env xe → ∃ tb, PSs (X.tr pn xe) body tb ∧ R W tb)
    (hsu : ∀ (a : Addr) (oe : Obj) (pn : List (Addr × Obj)), PSs (X.suite a ((a, oe) :: pn)) (b₀ :: suite) ts) :
    PS X (.Try body [.ExceptHandler (some (.Name x np)) (some n) (b₀ :: suite) pos'] [] [] pos) (fun D σ H => ∀ tb, R (wKeep X.K c i ts Wout D) tb → tb D σ H) := by
  refine ⟨fun pins s σ H D I h => ?_⟩
  have kok := I.ok
  have frm : X.A.frames = some (X.env :: X.outer) := kok.frames.trans (congrArg some hs)
  have take : Takes (X.tr (X.pn ++ pins) (xeTry X pins D [.ExceptHandler (some (.Name x np)) (some n) (b₀ :: suite) pos'])) (wKeep X.K c i ts Wout D) := by
    intro u t xx
    obtain ⟨a, B, t0, pl, σ1, H1, cls, d, rfl, J0, nb, up, sky, na, os, ag, b, hb1, yes, no⟩ := xx
    have J : Inv X pins σ1 H1 t0 := J0.ofTry kok
    have sky1 : Sky B (X.env :: X.outer) a (Zc cls d) X.env.locals t.heap := hs ▸ sky
    refine Sky.land Zc.steady frm hf sky1 fun h3 fl3 up3 => ?_
    obtain ⟨o3, C3⟩ := caught_of hs hf J nb fl3
    have J3 : Inv X pins σ1 H1 { t with heap := h3 } := Inv.landed J nb fl3.1 (up.trans up3) os ag
    obtain ⟨v3, e3⟩ := C3.fl
    have S3 := Inv.suite J3 C3.at' e3 na C3.nL C3.nF
    have look : PySem.W.Looks (model X.prog X.w) h3 (excMatches (.ref a) c) b := PySem.W.exm_one J3.kIn (fun A Q E t k q => wpAny_typeOf_ref (k _ _ C3.at') (by rw [C3.zc.1]; exact q)) hb1
    have clause : ∀ {Q : Value → Shared → Prop} {E : Value → Shared → Prop}, Q c { t with heap := h3 } → wpAny (model X.prog X.w) (X.A.mark (some (.ref a))) (eval (.Name x np) X.env) Q E { t with heap := h3 } := by
      intro Q E q
      rcases hc with ⟨hg, hd, hm | ⟨hm, hv, hn⟩⟩
      · exact ld_glob (X := X.suite a ((a, o3) :: (X.pn ++ pins))) S3 hg hm q hd
      · exact ld_blt (X := X.suite a ((a, o3) :: (X.pn ++ pins))) S3 hg hm hv q hn hd
    refine wpAny_handleBy_cons (codeAny_handlers_test (clause (look.here ?_))) fun q => nomatch q
    cases b with
    | false =>
      apply wpAny_handleBy_nil
      obtain ⟨_, _, _, oe, vs, T, _, _, g1, _, g3, g4, _⟩ := id fl3
      have on : wpAny (model X.prog X.w) X.A (setFlight (.ref a) X.env.frame) (fun _ t4 => wpAny (model X.prog X.w) X.A (throw (.ref a) : Sem Flow) (SP X pins D) X.xe t4) X.xe { t with heap := h3 } := by
        rw [hf]
        exact HandSPX.setFlight_upZ fl3 fun h4 hd4 up4 => wpAny_throw (tk _ _ ⟨a, B, t0, pins, σ1, H1, cls, d, rfl, J, nb, (up.trans up3).trans up4, Or.inr (Or.inr (hs.symm ▸ hd4)), na, os, ag, no rfl⟩)
      unfold PySem.passOn
      apply wpAny_bind
      apply wpAny_field g1 g3 g4
      rw [if_neg (by simp : ¬ ((Value.ref T == Value.none) = true))]
      first
        | exact wpAny_bind (wpAny_pure (wpAny_bind on))
        | exact wpAny_bind on
    | true =>
      obtain ⟨C, rfl, rfl, go⟩ := yes rfl
      apply codeAny_handlers_suite_as
      refine HandSPX.lands_againZ fl3 fun h4 fl4 up4 => ?_
      obtain ⟨o4, C4⟩ := caught_of hs hf J nb fl4
      obtain ⟨v4, e4⟩ := C4.fl
      have S4 := Inv.suite (Inv.landed (s' := { t with heap := h4 }) J nb fl4.1 ((up.trans up3).trans up4) os ag) C4.at' e4 na C4.nL C4.nF
      refine store_ok (X := X.suite a ((a, o4) :: (X.pn ++ pins))) (v := .ref a) S4 hN hi (.inl hln) rfl (fun t5 S5 => ?_) (.inr hln)
      refine wpAny_mono ((hsu a o4 (X.pn ++ pins)).run [] t5 _ H1 _ S5 (go a na)) (fun f t6 q => ?_) fun _ _ z => z.elim
      cases f with
      | next =>
        obtain ⟨σ6, H6, S6, q6⟩ := q
        obtain ⟨g1, n6, _⟩ := S6.pin (a, o4) (List.mem_append_left _ List.mem_cons_self)
        have I6 := track (φ := fun hh => ∃ (oe : Obj) (vs : Array Value), hh.get? a = some oe ∧ Zc (.ref C) none oe ∧ oe.data = .fields vs) (Inv.unsuite S6 kok) n6 g1 C4.nL (fun v z => by rw [e4] at z; cases z) C4.np C4.n0 ⟨o4, v4, g1, C4.zc, e4⟩ errO_st
        exact gone_ok I6 hN hi hln fun t7 J7 => ⟨_, _, J7, q6⟩
      | brk => obtain ⟨_, _, _, z⟩ := q; exact z.elim
      | cont => obtain ⟨_, _, _, z⟩ := q; exact z.elim
      | ret u => obtain ⟨_, _, _, _, _, z⟩ := q; exact z.elim
  obtain ⟨tb, P, r⟩ := hb _ _ _ take PassesOwn.looking
  apply wpAny_Try_except
  refine wpAny_mono (P.run [] s σ H D (I.toTry _) (h tb r)) (fun f t q => ?_) fun _ _ z => z
  cases f with
  | next => obtain ⟨σ1, H1, J1, q1⟩ := q; exact wpAny_execs_nil ⟨σ1, H1, J1.ofTry kok, q1⟩
  | brk => obtain ⟨σ1, H1, J1, q1⟩ := q; exact ⟨σ1, H1, J1.ofTry kok, q1⟩
  | cont => obtain ⟨σ1, H1, J1, q1⟩ := q; exact ⟨σ1, H1, J1.ofTry kok, q1⟩
  | ret u => obtain ⟨v1, σ1, H1, J1, r1, q1⟩ := q; exact ⟨v1, σ1, H1, J1.ofTry kok, r1, q1⟩
end
end M

namespace M
open PySem L2 PyProof.Rows
open Classical

/-! ## the machine's try, and what is asked of an error -/
def mTry (i j : Nat) (cs : List (String × Bool)) (b : SM) : SM := fun s => match b s with
  | .exc c s1 => (match s1.env[i]? with
    | some _ => (match cs.lookup c with
      | some true => .ok .nx ⟨((s1.env.set i (.sh (.err c))).set j (.sh (.err c))).set i .un, s1.G⟩
      | some false => .exc c s1
      | none => .stuck)
    | none => .stuck)
  | r => r
theorem mTry_ok {i j : Nat} {cs : List (String × Bool)} {b : SM} {s s1 : MS} {x : Fl} (h : b s = .ok x s1) : mTry i j cs b s = .ok x s1 := by unfold mTry; rw [h]
theorem mTry_exc {i j : Nat} {cs : List (String × Bool)} {b : SM} {s s1 : MS} {c : String} {x : SV} (h : b s = .exc c s1) (hi : s1.env[i]? = some x) (hc : cs.lookup c = some true) : mTry i j cs b s = .ok .nx ⟨((s1.env.set i (.sh (.err c))).set j (.sh (.err c))).set i .un, s1.G⟩ := by
  unfold mTry; rw [h]; simp only [hi, hc]
section
variable {K : KA} {W : WX} {mb : SM} {C : String} {cs : List (String × Bool)} {i j : Nat}
theorem ss_keep (hc : ∀ p ∈ cs, PySem.W.exmOne K.F (.ref (K.ct p.1)) (.ref (K.ct C)) = some p.2) {Z : WX → TS → Prop} (hb : ∀ W' tb, Z W' tb → SimS K W' tb mb) :
    SimS K W (fun D σ H => ∀ tb, Z (wKeep K.F (.ref (K.ct C)) i (tAsg (tVar i) (gName j)) W D) tb → tb D σ H) (mTry i j cs mb) := by
  intro X ρ O s σ H D S p tb z
  refine hb _ tb z X ρ O s σ H D S ?_
  unfold mTry at p
  cases e : mb s with
  | ok x s1 => rw [e] at p; cases x <;> exact p
  | stuck => rw [e] at p; exact p.elim
  | exc c s1 =>
    rw [e] at p
    simp only at p
    intro ρ1 O1 σ1 H1 S1 F1
    cases e0 : s1.env[i]? with
    | none => rw [e0] at p; exact p.elim
    | some x0 =>
      rw [e0] at p
      simp only at p
      have hi := (List.getElem?_eq_some_iff.mp e0).1
      cases e1 : cs.lookup c with
      | none => rw [e1] at p; exact p.elim
      | some b =>
        rw [e1] at p
        cases b with
        | false => exact ⟨false, hc _ (lookup_mem e1), (fun q => Bool.noConfusion q), fun _ => p ρ1 O1 σ1 H1 S1 F1⟩
        | true =>
          refine ⟨true, hc _ (lookup_mem e1), fun _ => ⟨_, rfl, rfl, fun a na => ?_⟩, (fun q => Bool.noConfusion q)⟩
          refine ⟨.ref a, ?_, ?_⟩
          · rw [List.getElem?_set_self (by rw [← S1.len]; exact hi)]
          · have S2 := S1.grow (Ex.new (o := ErrO (K.ct c) a) na)
            have r2 : Rep ρ1 K (view X ρ1 O1 (upd H1 a (ErrO (K.ct c) a))) (.err c) (.ref a) := .err (S1.view_new na)
            have S3 := S2.setSh i r2
            have r3 := (fut_unO (X := X) (ρ := ρ1) (O := O1) (H := upd H1 a (ErrO (K.ct c) a)) i).rep r2
            have S4 := S3.setSh j r3
            have S5 := S4.setUn i
            exact p _ _ _ _ S5 (((F1.trans (Fut.grow (Ex.new na))).trans (fut_unO i)).trans ((fut_unO j).trans (fut_unO i)))
end
/-- an own class that an except clause names -/
structure CatI (ct : String → Addr) (K : PySem.W.Frag) (mg : Str → Option Value) (x : Str) (C : String) (cs : List (String × Bool)) : Prop where
  gm : mg x = some (.ref (ct C))
  all : ∀ p ∈ cs, PySem.W.exmOne K (.ref (ct p.1)) (.ref (ct C)) = some p.2
theorem catNil {ct : String → Addr} {K : PySem.W.Frag} {C : String} : ∀ p ∈ ([] : List (String × Bool)), PySem.W.exmOne K (.ref (ct p.1)) (.ref (ct C)) = some p.2 := fun p h => by cases h
theorem catCons {ct : String → Addr} {K : PySem.W.Frag} {C c : String} {b : Bool} {cs : List (String × Bool)} {A D : Addr} (eC : ct C = D) (e : ct c = A) (h1 : PySem.W.subIn K (.ref D) (.type "BaseException") = some true) (hd : PySem.W.hasDictIn K D = true) (ty : PySem.W.typeIn K (.ref D) = some (.type "type")) (h : PySem.W.subIn K (.ref A) (.ref D) = some b)
    (r : ∀ p ∈ cs, PySem.W.exmOne K (.ref (ct p.1)) (.ref (ct C)) = some p.2) : ∀ p ∈ (c, b) :: cs, PySem.W.exmOne K (.ref (ct p.1)) (.ref (ct C)) = some p.2 := fun p q => by
  rcases List.mem_cons.mp q with rfl | q
  · rw [eC, e]; exact PySem.W.exm_ref h1 hd ty h
  · exact r p q
section
variable {ct : String → Addr} {X : Cx} {W : WX} {x n y : Str} {C : String} {cs : List (String × Bool)} {body : List Stmt} {np pos pos' p1 p2 p3 : Pos} {mb : SM}
theorem s_keep (i j : Nat) (hN : X.N.Nodup) (I : CatI ct X.K X.mg x C cs) (tk : Takes X W)
    (hb : ∀ (W : WX) (pn : List (Addr × Obj)) (xe : Value → Shared → Prop), Takes (X.tr pn xe) W → PassesOwn (model X.prog X.w) X.A X.env xe → ∃ tb, PSsM ct (X.tr pn xe) W body tb mb)
    (hs : X.stack = X.env :: X.outer := by rfl) (hf : X.env.frame = some X.env.locals := by rfl) (hi : X.N[i]? = some n := by rfl) (hj : X.N[j]? = some y := by rfl) (hln : X.env.kindOf n = some .local := by rfl) (hg : Gl X x := by rfl) (hdb : (x == ("__debug__" : Str)) = false := by decide)
    (hv : Vis X.env.scope n := by first | exact Or.inl rfl | exact Or.inr (Or.inl rfl) | exact Or.inr (Or.inr rfl)) (hd : (n == ("__debug__" : Str)) = false := by decide) (hcd : (n == ("__classdict__" : Str)) = false := by decide)
    (hx : Loc X.env.scope y := by first | exact Or.inl rfl | exact Or.inr rfl) (hsw : swapsWith (.Name n p2) (some (.Name y p1)) p3.line X.env = pure false := by rfl) (hfn : X.fn y = true ∨ X.env.scope.names.lookup y = some .local := by first | exact .inl rfl | exact .inr rfl) :
    PSM ct X W (.Try body [.ExceptHandler (some (.Name x np)) (some n) [.Assign [.Name y p1] (.Name n p2) p3] pos'] [] [] pos) (fun D σ H => ∀ tb, (fun W tb => SimS ⟨X.K, ct⟩ W tb mb) (wKeep X.K (.ref (ct C)) i (tAsg (tVar i) (gName j)) W D) tb → tb D σ H) (mTry i j cs mb) :=
  ⟨ps_keep (R := fun W tb => SimS ⟨X.K, ct⟩ W tb mb) hs hf hN hi hln ⟨hg, hdb, .inl I.gm⟩ tk (fun W pn xe tk' ps => by
      obtain ⟨tb, P⟩ := hb W pn xe tk' ps
      exact ⟨tb, P.pe, P.sim⟩) (fun a oe pn => pss_one (ps_set (X := X.suite a ((a, oe) :: pn)) hN hj hx (pe_var (X := X.suite a ((a, oe) :: pn)) hi hv hd hcd) hsw hfn)),
    ss_keep (K := ⟨X.K, ct⟩) I.all fun _ _ z => z⟩
end
/-! ## isinstance of an error or None -/
def oIsiE (es bs : List (String × Bool)) : MV → EM := fun x s => match x with
  | .err c => (match es.lookup c with
    | some b => .ok (.bl b) s
    | none => .stuck)
  | x => (match tyG s.G x with
    | some n => (match bs.lookup n with
      | some b => .ok (.bl b) s
      | none => .stuck)
    | none => .stuck)
def rIsX (K : PySem.W.Frag) : List V → Hp → VK → Prop := fun xs H Q => ∃ (a D : Addr) (c : V) (u : Value) (b : Bool), xs = [.ref a, c] ∧ H a = some (ErrO D a) ∧ ExcC K D ∧ ClsV c u ∧ PySem.W.kitOne K (.ref D) u = some b ∧ Q (.bl b) H
theorem call_isX {X : Cx} : CallR X (.builtin "isinstance") (rIsX X.K) := by
  intro pins s σ H xs us Q I r h
  obtain ⟨a, D, c, u, b, rfl, hH, C, hc, e, q⟩ := h
  obtain ⟨u1, u2, rfl, r1, r2⟩ := vals2 r
  cases (show u1 = Value.ref a from r1)
  have e2 := hc.eq r2
  subst e2
  obtain ⟨⟨oe, vs, g1, g2, g3⟩, _⟩ := (show ObjOk X.prog X.w H s.heap a (ErrO D a) from I.hok a _ hH)
  have J : PySem.W.InstAt s.heap a oe D none := by
    rcases oe with ⟨c0, d0, t0, l0⟩
    obtain ⟨z1, z2⟩ := g2
    simp only at z1 z2 g3
    subst z1 z2 g3
    exact ⟨g1, rfl, rfl, trivial⟩
  exact PySem.W.kia_one (PySem.W.handS_kitx_exc C.hg C.hk C.hs C.hd C.ha C.hn C.ht C.hm) I.kIn J e (fun z => nomatch z) fun tk => ⟨.bl b, H, I.tok tk, rfl, q⟩
structure ErrI (ct : String → Addr) (K : PySem.W.Frag) (u : Value) (es bs : List (String × Bool)) : Prop where
  own : ∀ p ∈ es, ExcC K (ct p.1) ∧ PySem.W.kitOne K (.ref (ct p.1)) u = some p.2
  bi : ∀ p ∈ bs, PySem.W.kitOne K (.type p.1) u = some p.2
theorem errNil {ct : String → Addr} {K : PySem.W.Frag} {u : Value} : ∀ p ∈ ([] : List (String × Bool)), ExcC K (ct p.1) ∧ PySem.W.kitOne K (.ref (ct p.1)) u = some p.2 := fun p h => by cases h
theorem errCons {ct : String → Addr} {K : PySem.W.Frag} {u : Value} {c : String} {b : Bool} {es : List (String × Bool)} {A : Addr} (e : ct c = A) (i : ExcC K A) (k : PySem.W.kitOne K (.ref A) u = some b) (r : ∀ p ∈ es, ExcC K (ct p.1) ∧ PySem.W.kitOne K (.ref (ct p.1)) u = some p.2) :
    ∀ p ∈ (c, b) :: es, ExcC K (ct p.1) ∧ PySem.W.kitOne K (.ref (ct p.1)) u = some p.2 := fun p q => by
  rcases List.mem_cons.mp q with rfl | q
  · rw [e]; exact ⟨i, k⟩
  · exact r p q
theorem ebNil {K : PySem.W.Frag} {u : Value} : ∀ p ∈ ([] : List (String × Bool)), PySem.W.kitOne K (.type p.1) u = some p.2 := fun p h => by cases h
theorem ebCons {K : PySem.W.Frag} {u : Value} {c : String} {b : Bool} {bs : List (String × Bool)} (k : PySem.W.kitOne K (.type c) u = some b) (r : ∀ p ∈ bs, PySem.W.kitOne K (.type p.1) u = some p.2) : ∀ p ∈ (c, b) :: bs, PySem.W.kitOne K (.type p.1) u = some p.2 := fun p h => by
  rcases List.mem_cons.mp h with rfl | h
  · exact k
  · exact r p h
theorem sim_isiE {K : KA} {W : WX} {ta : TE} {ma : EM} {c : V} {u : Value} {es bs : List (String × Bool)} (hc : ClsV c u) (I : ErrI K.ct K.F u es bs) (ha : SimE K W ta ma) : SimE K W (tCB (fun xs H Q => rIsi K.F xs H Q ∨ rIsX K.F xs H Q) (tCons ta (tCons (tC c) tNil))) (mUn (oIsiE es bs) ma) := by
  intro X ρ O s σ H Q S p
  refine ha.bindE S p fun x s1 ρ1 O1 H1 v S1 F1 r1 p1 => ?_
  have other : PostE K X W ρ1 O1 H1 σ ((match tyG s1.G x with
    | some n => (match bs.lookup n with
      | some b => .ok (.bl b) s1
      | none => .stuck)
    | none => .stuck) : R MV) Q → rIsi K.F [v, c] H1 Q ∨ rIsX K.F [v, c] H1 Q := fun p1 => by
    cases e2 : tyG s1.G x with
    | none => rw [e2] at p1; exact p1.elim
    | some n =>
      rw [e2] at p1
      simp only at p1
      cases e3 : bs.lookup n with
      | none => rw [e3] at p1; exact p1.elim
      | some b =>
        rw [e3] at p1
        exact .inl ⟨v, _, _, _, b, rfl, hc, tyxG_of S1 r1 e2, I.bi _ (lookup_mem e3), p1.done S1 (.bl _)⟩
  cases x with
  | err k =>
    cases r1 with
    | err h1 =>
      simp only [oIsiE] at p1
      cases e2 : es.lookup k with
      | none => rw [e2] at p1; exact p1.elim
      | some b =>
        rw [e2] at p1
        obtain ⟨C, q⟩ := I.own _ (lookup_mem e2)
        exact .inr ⟨_, _, _, _, b, rfl, (view_some.mp h1).2, C, hc, q, p1.done S1 (.bl _)⟩
  | _ => exact other p1
section
variable {ct : String → Addr} {X : Cx} {W : WX} {e : Expr} {ta : TE} {ma : EM} {p p2 pos : Pos} {y : Str} {es bs : List (String × Bool)}
theorem e_isiE {T : String} (I : ErrI ct X.K (.ref (ct T)) es bs) (hmi : X.mg "isinstance" = none) (hmT : X.mg y = some (.ref (ct T))) (ha : PEM ct X W e ta ma) (hgi : Gl X "isinstance" := by rfl) (hgT : Gl X y := by rfl) (hdb : (y == ("__debug__" : Str)) = false := by decide)
    (hs : starEach [.Name y p2] X.env = (false, eval (.Name y p2) X.env) :: starEach [] X.env := by rfl) (he : starEach [e, .Name y p2] X.env = (false, eval e X.env) :: starEach [.Name y p2] X.env := by rfl) (hpl : (backTo pos (starEach [.Name y p2] X.env)).any (·.1) = false := by rfl) :
    PEM ct X W (.Call (.Name "isinstance" p) [e, .Name y p2] [] pos) (tCB (fun xs H Q => rIsi X.K xs H Q ∨ rIsX X.K xs H Q) (tCons ta (tCons (tC (.ref (ct T))) tNil))) (mUn (oIsiE es bs) ma) :=
  ⟨pe_callB (CallR.or call_isi call_isX) hgi hmi (by decide +kernel) (pa_cons ha.pe (pa_cons (pe_glob hgT hmT rfl hdb) pa_nil hs) he) (by decide) (by decide) he hpl, sim_isiE (K := ⟨X.K, ct⟩) (.own _) I ha.sim⟩
theorem e_isiEB {T : String} (I : ErrI ct X.K (.type T) es bs) (hmi : X.mg "isinstance" = none) (hmT : X.mg y = none) (ha : PEM ct X W e ta ma) (hgi : Gl X "isinstance" := by rfl) (hgT : Gl X y := by rfl) (hvT : bootBuiltins y = some (.type T) := by decide +kernel) (hn : y ≠ "__name__" := by decide) (hdb : (y == ("__debug__" : Str)) = false := by decide)
    (hs : starEach [.Name y p2] X.env = (false, eval (.Name y p2) X.env) :: starEach [] X.env := by rfl) (he : starEach [e, .Name y p2] X.env = (false, eval e X.env) :: starEach [.Name y p2] X.env := by rfl) (hpl : (backTo pos (starEach [.Name y p2] X.env)).any (·.1) = false := by rfl) :
    PEM ct X W (.Call (.Name "isinstance" p) [e, .Name y p2] [] pos) (tCB (fun xs H Q => rIsi X.K xs H Q ∨ rIsX X.K xs H Q) (tCons ta (tCons (tC (.ty T)) tNil))) (mUn (oIsiE es bs) ma) :=
  ⟨pe_callB (CallR.or call_isi call_isX) hgi hmi (by decide +kernel) (pa_cons ha.pe (pa_cons (pe_bltn hgT hmT hvT rfl hn hdb) pa_nil hs) he) (by decide) (by decide) he hpl, sim_isiE (K := ⟨X.K, ct⟩) (.ty _) I ha.sim⟩
end
end M
namespace M
open PySem L2 PyProof.Rows
theorem kit_subT {K : PySem.W.Frag} {C : Addr} {T : String} {b : Bool} (hm : PySem.W.kitMeta T = true) (h : PySem.W.subIn K (.ref C) (.type T) = some b) : PySem.W.kitOne K (.ref C) (.type T) = some b := by
  unfold PySem.W.kitOne
  have e : ¬ ((Value.ref C == Value.type T) = true) := fun q => by have := beq_iff_eq.mp q; cases this
  rw [if_neg e]
  show (if PySem.W.kitMeta T = true then PySem.W.subIn K (.ref C) (.type T) else none) = some b
  rw [if_pos hm]; exact h
end M

namespace M
open PySem L2 PyProof.Rows
open Classical

/-! ## comprehensions over typed lists, with a test -/
section
variable {α : Type} {g : GM} {t : TM} {el : EM} {vs : List Nat} {E0 : List SV} {G : MHeap}
theorem lcM_opt (e : α → MV) (f : α → Option MV) : ∀ (xs : List α) (acc : List MV), (∀ x ∈ xs, ∃ s, lcOne g t el vs E0 (e x) G = .ok (f x) s ∧ s.G = G) → lcM g t el vs E0 (xs.map e) acc G = .ok (acc ++ xs.filterMap f) ⟨E0, G⟩
  | [], acc, _ => by unfold lcM; simp
  | x :: xs, acc, h => by
    obtain ⟨s, h1, h2⟩ := h x (by simp)
    rw [List.map_cons]
    unfold lcM
    rw [h1]
    cases q : f x with
    | none =>
      simp only
      rw [h2, lcM_opt e f xs acc (fun y hy => h y (by simp [hy])), List.filterMap_cons_none q]
    | some y =>
      simp only
      rw [h2, lcM_opt e f xs (acc ++ [y]) (fun y hy => h y (by simp [hy])), List.filterMap_cons_some q]
      simp
theorem lcEnd_typed {xs : List α} {s : MS} (e f : α → MV) (hl : xs.length ≤ 16777216) (hn : noOw s.env vs = true) (h : ∀ x ∈ xs, ∃ s', lcOne g t el vs (wipeE s.env vs) (e x) s.G = .ok (some (f x)) s' ∧ s'.G = s.G) : lcEnd g t el vs (xs.map e) s = .ok (.lst (xs.map f)) s := by
  unfold lcEnd
  rw [if_pos (show lim _ by unfold lim; rw [List.length_map]; exact hl), if_pos hn, lcM_opt e (fun x => some (f x)) xs [] h, List.nil_append]
  simp
theorem lcEnd_test {xs : List α} {s : MS} (e f : α → MV) (p : α → Bool) (hl : xs.length ≤ 16777216) (hn : noOw s.env vs = true) (h : ∀ x ∈ xs, ∃ s', lcOne g t el vs (wipeE s.env vs) (e x) s.G = .ok (if p x = true then some (f x) else none) s' ∧ s'.G = s.G) :
    lcEnd g t el vs (xs.map e) s = .ok (.lst ((xs.filter p).map f)) s := by
  unfold lcEnd
  rw [if_pos (show lim _ by unfold lim; rw [List.length_map]; exact hl), if_pos hn, lcM_opt e (fun x => if p x = true then some (f x) else none) xs [] h, List.nil_append]
  have : xs.filterMap (fun x => if p x = true then some (f x) else none) = (xs.filter p).map f := by
    clear h hl
    induction xs with
    | nil => rfl
    | cons x xs ih => by_cases q : p x = true <;> simp [q, ih]
  rw [this]
end
theorem forM_raw {g : GM} {b : SM} (St : Nat → MS → Prop) : ∀ (xs : List MV) (k : Nat) (s : MS), St k s → (∀ x ∈ xs, ∀ k s, St k s → ∃ s1 s2, g x s = some s1 ∧ b s1 = .ok .nx s2 ∧ St (k + 1) s2) → ∃ s', M.forM g b xs s = .ok .nx s' ∧ St (k + xs.length) s'
  | [], k, s, h, _ => ⟨s, rfl, h⟩
  | x :: xs, k, s, h, t => by
    obtain ⟨s1, s2, h1, h2, h3⟩ := t x List.mem_cons_self k s h
    obtain ⟨s', h4, h5⟩ := forM_raw St xs (k + 1) s2 h3 fun y hy => t y (List.mem_cons_of_mem _ hy)
    refine ⟨s', ?_, by rw [List.length_cons, show k + (xs.length + 1) = k + 1 + xs.length by omega]; exact h5⟩
    unfold M.forM
    simp only [h1, h2]
    exact h4
end M

namespace M
open PySem L2 PyProof.Rows
open Classical

/-! ## texts: operations -/
section
variable {K : KA} {W : WX} {ta tb te : TE} {ma mb me : EM}
noncomputable def bStr : List MV → EM := fun xs s => match xs with
  | [.int i] => if i.natAbs.log2 < 1920 then .ok (.str (toString i)) s else .stuck
  | _ => .stuck
theorem sc_str : SimC K (fun xs H Q => ∃ i, xs = [.int i] ∧ i.natAbs.log2 < 1920 ∧ Q (.str (toString i)) H) bStr := by
  intro X W ρ O s σ H xs vs Q S r p
  cases r with
  | nil => exact p.elim
  | cons r1 rr => cases rr with
    | cons _ _ => cases r1 <;> exact p.elim
    | nil => cases r1 with
      | int i =>
        unfold bStr at p
        by_cases h : i.natAbs.log2 < 1920
        · simp only [if_pos h] at p
          exact ⟨i, rfl, h, p.done S (.str _)⟩
        · simp only [if_neg h] at p; exact p.elim
      | _ => exact p.elim
theorem bStr_ok {i : Int} {s : MS} (h : i.natAbs.log2 < 1920) : bStr [.int i] s = .ok (.str (toString i)) s := if_pos h
noncomputable def bIntS : List MV → EM := fun xs s => match xs with
  | [.str a] => (match PySem.intText? a with
    | some n => if a.length ≤ 640 then .ok (.int n) s else .stuck
    | none => .stuck)
  | _ => .stuck
theorem sc_intS : SimC K (fun xs H Q => ∃ a n, xs = [.str a] ∧ PySem.intText? a = some n ∧ a.length ≤ 640 ∧ Q (.int n) H) bIntS := by
  intro X W ρ O s σ H xs vs Q S r p
  cases r with
  | nil => exact p.elim
  | cons r1 rr => cases rr with
    | cons _ _ => cases r1 <;> exact p.elim
    | nil => cases r1 with
      | str a =>
        unfold bIntS at p
        cases e : PySem.intText? a with
        | none => simp only [e] at p; exact p.elim
        | some n =>
          simp only [e] at p
          by_cases h : a.length ≤ 640
          · simp only [if_pos h] at p
            exact ⟨a, n, rfl, e, h, p.done S (.int _)⟩
          · simp only [if_neg h] at p; exact p.elim
      | _ => exact p.elim
theorem bIntS_ok {a : Str} {n : Int} {s : MS} (e : PySem.intText? a = some n) (h : a.length ≤ 640) : bIntS [.str a] s = .ok (.int n) s := by
  unfold bIntS; simp only [e, if_pos h]
/-! ### methods of a text -/
def mStrM (f : Str → MV → EM) (a b : EM) : EM := fun s => (a s).bind fun x s1 => match x with
  | .str z => (b s1).bind fun y s2 => f z y s2
  | _ => .stuck
def SimM (K : KA) (r : V → List V → Hp → VK → Prop) (f : Str → MV → EM) : Prop := ∀ X W ρ O s σ H z y u Q, SR K X ρ O s σ H → Rep ρ K (view X ρ O H) y u → PostE K X W ρ O H σ (f z y s) Q → r (.str z) [u] H Q
theorem sim_m1 {r : V → List V → Hp → VK → Prop} {f : Str → MV → EM} (ha : SimE K W ta ma) (hb : SimE K W tb mb) (hr : SimM K r f) : SimE K W (tM1 r ta tb) (mStrM f ma mb) := by
  intro X ρ O s σ H Q S p
  refine ha.bindE S p fun x s1 ρ1 O1 H1 v S1 F1 r1 p1 => ?_
  cases r1 with
  | str z => exact ⟨⟨z, rfl⟩, hb.bindE S1 p1 fun y s2 ρ2 O2 H2 u S2 F2 r2 p2 => hr X W ρ2 O2 s2 σ H2 z y u Q S2 r2 p2⟩
  | _ => exact p1.elim
noncomputable def fPart : Str → MV → EM := fun a y s => match y with
  | .str b => if (b.length == 0) = false ∧ lim a.length then .ok (.tup [.str (Txt.partition a b).1, .str (Txt.partition a b).2.1, .str (Txt.partition a b).2.2]) s else .stuck
  | _ => .stuck
def rPart : V → List V → Hp → VK → Prop := fun x xs H Q => ∃ a b, x = .str a ∧ xs = [.str b] ∧ (b.length == 0) = false ∧ a.length ≤ sizeLine ∧
    ∀ p, H p = none → Q (.ref p) (upd H p (.tup [.str (Txt.partition a b).1, .str (Txt.partition a b).2.1, .str (Txt.partition a b).2.2]))
theorem sm_part : SimM K rPart fPart := by
  intro X W ρ O s σ H z y u Q S r p
  cases r with
  | str b =>
    unfold fPart at p
    by_cases h : (b.length == 0) = false ∧ lim z.length
    · simp only [if_pos h] at p
      exact ⟨z, b, rfl, rfl, h.1, by rw [sizeLine_eq]; exact h.2, fun q hq => p.grown S (Ex.new hq) (.tup (.inl (.inl (S.view_new hq))) (.cons (.str _) (.cons (.str _) (.cons (.str _) .nil))))⟩
    · simp only [if_neg h] at p; exact p.elim
  | _ => exact p.elim
theorem Reps.strs {ρ : List Addr} {H : Hp} : ∀ ys : List Str, Reps ρ K H (ys.map MV.str) (ys.map V.str)
  | [] => .nil
  | y :: ys => .cons (.str y) (Reps.strs ys)
noncomputable def fSplit : Str → MV → EM := fun a y s => match y with
  | .str b => if (b.length == 0) = false ∧ a.length + 2 ≤ 16777216 then .ok (.lst ((Txt.split a b).map MV.str)) s else .stuck
  | _ => .stuck
def rSplit : V → List V → Hp → VK → Prop := fun x xs H Q => ∃ a b, x = .str a ∧ xs = [.str b] ∧ (b.length == 0) = false ∧ a.length + 2 ≤ sizeLine ∧ rNewStrs (Txt.split a b) H Q
theorem sm_split : SimM K rSplit fSplit := by
  intro X W ρ O s σ H z y u Q S r p
  cases r with
  | str b =>
    unfold fSplit at p
    by_cases h : (b.length == 0) = false ∧ z.length + 2 ≤ 16777216
    · simp only [if_pos h] at p
      exact ⟨z, b, rfl, rfl, h.1, by rw [sizeLine_eq]; exact h.2, fun q hq => p.grown S (Ex.new hq) (.lst (S.view_new hq) (Reps.strs _))⟩
    · simp only [if_neg h] at p; exact p.elim
  | _ => exact p.elim
def strsOf : List MV → Option (List Str)
  | [] => some []
  | .str z :: xs => (strsOf xs).map (z :: ·)
  | _ => none
theorem strsOf_map : ∀ ys : List Str, strsOf (ys.map MV.str) = some ys
  | [] => rfl
  | y :: ys => by simp [strsOf, strsOf_map ys]
theorem strsOf_reps {ρ : List Addr} {H : Hp} : ∀ {xs : List MV} {vs : List V} {ys : List Str}, strsOf xs = some ys → Reps ρ K H xs vs → vs = ys.map V.str
  | [], _, ys, e, .nil => by cases e; rfl
  | x :: xs, _, ys, e, .cons r t => by
    cases r with
    | str z =>
      simp only [strsOf] at e
      cases e2 : strsOf xs with
      | none => rw [e2] at e; cases e
      | some zs => rw [e2] at e; cases e; rw [strsOf_reps e2 t]; rfl
    | _ => cases e
noncomputable def fJoin : Str → MV → EM := fun a y s => match y with
  | .lst xs => (match strsOf xs with
    | some ys => if (ys.map (·.length)).sum + ys.length * a.length ≤ 16777216 then .ok (.str (Txt.join a ys)) s else .stuck
    | none => .stuck)
  | _ => .stuck
def rJoin (K : PySem.W.Frag) : V → List V → Hp → VK → Prop := fun x xs H Q => ∃ a p, ∃ ys : List Str, x = .str a ∧ xs = [.ref p] ∧ (SqL K H p (ys.map V.str) ∨ SqT K H p (ys.map V.str)) ∧
    (ys.map (·.length)).sum + ys.length * a.length ≤ 16777216 ∧ Q (.str (Txt.join a ys)) H
theorem sm_join : SimM K (rJoin K.F) fJoin := by
  intro X W ρ O s σ H z y u Q S r p
  cases r with
  | lst hx rx =>
    unfold fJoin at p
    simp only at p
    split at p
    · rename_i ys e
      by_cases h : (ys.map (·.length)).sum + ys.length * z.length ≤ 16777216
      · rw [if_pos h] at p
        have e2 := strsOf_reps e rx
        subst e2
        exact ⟨z, _, ys, rfl, rfl, .inl (sqlv hx), h, p.done S (.str _)⟩
      · rw [if_neg h] at p; exact p.elim
    · exact p.elim
  | _ => exact p.elim
theorem fJoin_ok {a : Str} {ys : List Str} {s : MS} (h : (ys.map (·.length)).sum + ys.length * a.length ≤ 16777216) : fJoin a (.lst (ys.map MV.str)) s = .ok (.str (Txt.join a ys)) s := by
  unfold fJoin; simp only [strsOf_map, if_pos h]
noncomputable def fStarts : Str → MV → EM := fun a y s => match y with
  | .str b => .ok (.bl (Txt.startswith a b)) s
  | _ => .stuck
theorem sm_starts : SimM K (fun x xs H Q => ∃ a b, x = .str a ∧ xs = [.str b] ∧ Q (.bl (Txt.startswith a b)) H) fStarts := by
  intro X W ρ O s σ H z y u Q S r p
  cases r with
  | str b => exact ⟨z, b, rfl, rfl, p.done S (.bl _)⟩
  | _ => exact p.elim
noncomputable def fFind : Str → MV → EM := fun a y s => match y with
  | .str b => .ok (.int (Txt.find a b)) s
  | _ => .stuck
theorem sm_find : SimM K (fun x xs H Q => ∃ a b, x = .str a ∧ xs = [.str b] ∧ Q (.int (Txt.find a b)) H) fFind := by
  intro X W ρ O s σ H z y u Q S r p
  cases r with
  | str b => exact ⟨z, b, rfl, rfl, p.done S (.int _)⟩
  | _ => exact p.elim
/-! ### one sign in a text -/
noncomputable def oInS : MV → MV → EM := fun x y s => match x, y with
  | .str a, .str z => if a.cps.size = 1 then .ok (.bl (decide (a.cps.getD 0 0 ∈ z.cps.toList))) s else .stuck
  | _, _ => .stuck
noncomputable def oNotInS : MV → MV → EM := fun x y s => match x, y with
  | .str a, .str z => if a.cps.size = 1 then .ok (.bl (!decide (a.cps.getD 0 0 ∈ z.cps.toList))) s else .stuck
  | _, _ => .stuck
theorem one_sign {a : Str} (h : a.cps.size = 1) : a = ⟨#[a.cps.getD 0 0]⟩ := by
  obtain ⟨c⟩ := a
  simp only at h ⊢
  congr 1
  apply Array.ext
  · simp [h]
  · intro i h1 h2
    have : i = 0 := by omega
    subst this
    simp [Array.getD, h]
theorem so_inSg : SimOp K (fun x y H Q => ∃ (c : Nat) (z : Str), x = .str ⟨#[c]⟩ ∧ y = .str z ∧ Q (.bl (decide (c ∈ z.cps.toList))) H) oInS := by
  intro X W ρ O s σ H x y v u Q S r1 r2 p
  cases r1 with
  | str a => cases r2 with
    | str z =>
      unfold oInS at p
      by_cases h : a.cps.size = 1
      · simp only [if_pos h] at p
        refine ⟨_, z, by rw [← one_sign h], rfl, p.done S (.bl _)⟩
      · simp only [if_neg h] at p; exact p.elim
    | _ => exact p.elim
  | _ => cases r2 <;> exact p.elim
theorem so_notInSg : SimOp K (fun x y H Q => ∃ (c : Nat) (z : Str), x = .str ⟨#[c]⟩ ∧ y = .str z ∧ Q (.bl (!decide (c ∈ z.cps.toList))) H) oNotInS := by
  intro X W ρ O s σ H x y v u Q S r1 r2 p
  cases r1 with
  | str a => cases r2 with
    | str z =>
      unfold oNotInS at p
      by_cases h : a.cps.size = 1
      · simp only [if_pos h] at p
        refine ⟨_, z, by rw [← one_sign h], rfl, p.done S (.bl _)⟩
      · simp only [if_neg h] at p; exact p.elim
    | _ => exact p.elim
  | _ => cases r2 <;> exact p.elim
theorem oNotInS_ok {c : Nat} {z : Str} {s : MS} : oNotInS (.str ⟨#[c]⟩) (.str z) s = .ok (.bl (!decide (c ∈ z.cps.toList))) s := rfl
theorem oInS_ok {c : Nat} {z : Str} {s : MS} : oInS (.str ⟨#[c]⟩) (.str z) s = .ok (.bl (decide (c ∈ z.cps.toList))) s := rfl
end
theorem op_inSg {X : Cx} : OpR X (compareOp .In) (fun x y H Q => ∃ (c : Nat) (z : Str), x = .str ⟨#[c]⟩ ∧ y = .str z ∧ Q (.bl (decide (c ∈ z.cps.toList))) H) := op_in_sign
theorem op_notInSg {X : Cx} : OpR X (compareOp .NotIn) (fun x y H Q => ∃ (c : Nat) (z : Str), x = .str ⟨#[c]⟩ ∧ y = .str z ∧ Q (.bl (!decide (c ∈ z.cps.toList))) H) := op_notIn_sign
section
variable {ct : String → Addr} {X : Cx} {W : WX} {o e : Expr} {ta te : TE} {ma me : EM} {apos pos : Pos}
theorem e_str_partition (h : PEM ct X W o ta ma) (he : PEM ct X W e te me) (hs : starEach [e] X.env = [(false, eval e X.env)] := by rfl) (hbase : attributeBase o "partition" X.env (eval o X.env) = eval o X.env := by rfl) (hline : (apos.endLine == pos.line) = true := by rfl) :
    PEM ct X W (.Call (.Attribute o "partition" apos) [e] [] pos) (tM1 rPart ta te) (mStrM fPart ma me) := ⟨pe_partition h.pe he.pe hs hbase hline, sim_m1 h.sim he.sim sm_part⟩
theorem e_str_split (h : PEM ct X W o ta ma) (he : PEM ct X W e te me) (hs : starEach [e] X.env = [(false, eval e X.env)] := by rfl) (hbase : attributeBase o "split" X.env (eval o X.env) = eval o X.env := by rfl) (hline : (apos.endLine == pos.line) = true := by rfl) :
    PEM ct X W (.Call (.Attribute o "split" apos) [e] [] pos) (tM1 rSplit ta te) (mStrM fSplit ma me) := ⟨pe_split h.pe he.pe hs hbase hline, sim_m1 h.sim he.sim sm_split⟩
theorem e_str_join (h : PEM ct X W o ta ma) (he : PEM ct X W e te me) (hs : starEach [e] X.env = [(false, eval e X.env)] := by rfl) (hbase : attributeBase o "join" X.env (eval o X.env) = eval o X.env := by rfl) (hline : (apos.endLine == pos.line) = true := by rfl) :
    PEM ct X W (.Call (.Attribute o "join" apos) [e] [] pos) (tM1 (rJoin X.K) ta te) (mStrM fJoin ma me) := ⟨pe_join h.pe he.pe hs hbase hline, sim_m1 (K := ⟨X.K, ct⟩) h.sim he.sim sm_join⟩
theorem e_str_startswith (h : PEM ct X W o ta ma) (he : PEM ct X W e te me) (hs : starEach [e] X.env = [(false, eval e X.env)] := by rfl) (hbase : attributeBase o "startswith" X.env (eval o X.env) = eval o X.env := by rfl) (hline : (apos.endLine == pos.line) = true := by rfl) :
    PEM ct X W (.Call (.Attribute o "startswith" apos) [e] [] pos) (tM1 (fun x xs H Q => ∃ a b, x = .str a ∧ xs = [.str b] ∧ Q (.bl (Txt.startswith a b)) H) ta te) (mStrM fStarts ma me) := ⟨pe_m1 PySem.F.slot_str_startswith PySem.F.type_str_startswith mt_startswith h.pe he.pe hs hbase hline, sim_m1 h.sim he.sim sm_starts⟩
theorem e_str_find (h : PEM ct X W o ta ma) (he : PEM ct X W e te me) (hs : starEach [e] X.env = [(false, eval e X.env)] := by rfl) (hbase : attributeBase o "find" X.env (eval o X.env) = eval o X.env := by rfl) (hline : (apos.endLine == pos.line) = true := by rfl) :
    PEM ct X W (.Call (.Attribute o "find" apos) [e] [] pos) (tM1 (fun x xs H Q => ∃ a b, x = .str a ∧ xs = [.str b] ∧ Q (.int (Txt.find a b)) H) ta te) (mStrM fFind ma me) := ⟨pe_m1 PySem.F.slot_str_find PySem.F.type_str_find mt_find h.pe he.pe hs hbase hline, sim_m1 h.sim he.sim sm_find⟩
end
/-! ## a try whose body raises nothing -/
def mTryOk (b : SM) : SM := fun s => match b s with
  | .exc _ _ => .stuck
  | r => r
theorem mTryOk_ok {b : SM} {s s1 : MS} {x : Fl} (h : b s = .ok x s1) : mTryOk b s = .ok x s1 := by unfold mTryOk; rw [h]
theorem ss_tryOk {K : KA} {W W' : WX} {tb : TS} {mb : SM} (hb : SimS K W tb mb) : SimS K W' tb (mTryOk mb) := by
  intro X ρ O s σ H D S p
  refine hb X ρ O s σ H D S ?_
  unfold mTryOk at p
  cases e : mb s with
  | ok x s1 => rw [e] at p; cases x <;> exact p
  | stuck => rw [e] at p; exact p.elim
  | exc c s1 => rw [e] at p; exact p.elim
theorem s_tryOk {ct : String → Addr} {X : Cx} {W : WX} {body : List Stmt} {h₀ : ExceptHandler} {hs : List ExceptHandler} {tb : TS} {mb : SM} {pos : Pos} (hb : PSsM ct X.nox W0 body tb mb) : PSM ct X W (.Try body (h₀ :: hs) [] [] pos) tb (mTryOk mb) :=
  ⟨ps_try_thru0 hb.pe, ss_tryOk hb.sim⟩
end M

namespace M
open PySem L2 PyProof.Rows PySem.Builtin.Str
open Classical

/-! ## texts as lists of signs -/
abbrev T (l : List Nat) : Str := ⟨l.toArray⟩
abbrev sg (z : Str) : List Nat := z.cps.toList
theorem T_sg (z : Str) : T (sg z) = z := rfl
theorem sg_app (a b : Str) : sg (a ++ b) = sg a ++ sg b := cps_toList_append a b
theorem sg_inj {a b : Str} (h : sg a = sg b) : a = b := by
  obtain ⟨x⟩ := a
  obtain ⟨y⟩ := b
  have : x = y := Array.toList_inj.mp h
  rw [this]
theorem len_sg (z : Str) : z.length = (sg z).length := by show z.cps.size = _; simp
theorem sg_of (s : String) : sg (Str.ofString s) = s.toList.map Char.toNat := signs_ofString s
/-- the places of a sign -/
def idxs (c : Nat) : List Nat → Nat → List Nat
  | [], _ => []
  | d :: ds, k => if d = c then k :: idxs c ds (k + 1) else idxs c ds (k + 1)
theorem occ_run (x : Str) (c lim : Nat) : ∀ (k lo : Nat) (st : Array Nat × Nat), st.2 ≤ lo →
    (forIn (m := Id) (List.range' lo k) st (StrLaws.occBody x ⟨#[c]⟩ x.length lim)).run.fst.toList = st.1.toList ++ ((List.range' lo k).filter (fun i => decide ((sg x)[i]? = some c))).take (lim - st.1.size)
  | 0, lo, st, h => by simp
  | k + 1, lo, st, h => by
    rw [List.range'_succ, List.forIn_cons]
    unfold StrLaws.occBody
    by_cases hc : (sg x)[lo]? = some c
    · by_cases hs : st.1.size < lim
      · have q := (StrLaws.subAt_one x c lo).mpr hc
        have c1 : ((st.fst.size < lim ∧ st.snd ≤ lo) ∧ lo + (⟨#[c]⟩ : Str).length ≤ x.length) ∧ subAt x ⟨#[c]⟩ lo = true := ⟨⟨⟨hs, h⟩, q.1⟩, q.2⟩
        rw [if_pos c1]
        have ih := occ_run x c lim k (lo + 1) (st.1.push lo, lo + 1) (Nat.le_refl _)
        have e : (forIn (m := Id) (List.range' (lo + 1) k) (st.1.push lo, lo + (⟨#[c]⟩ : Str).length) (StrLaws.occBody x ⟨#[c]⟩ x.length lim)).run.fst.toList = _ := ih
        refine Eq.trans e ?_
        rw [List.filter_cons, if_pos (by simpa using hc), Array.toList_push, Array.size_push]
        have : lim - st.1.size = (lim - (st.1.size + 1)) + 1 := by omega
        rw [this, List.take_succ_cons]
        simp
      · have c2 : ¬ (((st.fst.size < lim ∧ st.snd ≤ lo) ∧ lo + (⟨#[c]⟩ : Str).length ≤ x.length) ∧ subAt x ⟨#[c]⟩ lo = true) := fun z => hs z.1.1.1
        rw [if_neg c2]
        have ih := occ_run x c lim k (lo + 1) st (by omega)
        refine Eq.trans ih ?_
        rw [show lim - st.1.size = 0 by omega]
        simp
    · have c2 : ¬ (((st.fst.size < lim ∧ st.snd ≤ lo) ∧ lo + (⟨#[c]⟩ : Str).length ≤ x.length) ∧ subAt x ⟨#[c]⟩ lo = true) := fun z => hc ((StrLaws.subAt_one x c lo).mp ⟨z.1.2, z.2⟩)
      rw [if_neg c2]
      have ih := occ_run x c lim k (lo + 1) st (by omega)
      refine Eq.trans ih ?_
      rw [List.filter_cons, if_neg (by simpa using hc)]
theorem idx_filter (xs : List Nat) (c : Nat) : ∀ (ys : List Nat) (k : Nat), xs.drop k = ys → (List.range' k (ys.length + 1)).filter (fun i => decide (xs[i]? = some c)) = idxs c ys k
  | [], k, h => by
    have : xs[k]? = none := by
      have := congrArg List.length h
      rw [List.length_drop] at this
      exact List.getElem?_eq_none (by simp at this; omega)
    simp [List.range'_succ, idxs, this]
  | d :: ds, k, h => by
    have e1 : xs[k]? = some d := by
      have : (xs.drop k)[0]? = some d := by rw [h]; rfl
      rw [List.getElem?_drop] at this
      simpa using this
    have e2 : xs.drop (k + 1) = ds := by
      rw [← List.drop_drop, h]; rfl
    rw [List.length_cons, List.range'_succ, List.filter_cons, e1, idx_filter xs c ds (k + 1) e2, idxs]
    by_cases q : d = c
    · rw [if_pos (by simp [q]), if_pos q]
    · rw [if_neg (by simp [q]), if_neg q]
theorem occ_one (x : Str) (c lim : Nat) : occurrences x ⟨#[c]⟩ 0 x.length lim = (idxs c (sg x) 0).take lim := by
  rw [StrLaws.occ_eq]
  have := occ_run x c lim (x.length + 1 - 0) 0 (#[], 0) (Nat.le_refl _)
  refine Eq.trans this ?_
  have e := idx_filter (sg x) c (sg x) 0 rfl
  rw [← len_sg] at e
  rw [Nat.sub_zero, e]
  simp
theorem idxs_len (c : Nat) : ∀ (ys : List Nat) (k : Nat), (idxs c ys k).length ≤ ys.length
  | [], _ => Nat.le_refl _
  | d :: ds, k => by
    have := idxs_len c ds (k + 1)
    unfold idxs; split <;> simp only [List.length_cons] <;> omega
/-- a list cut at each c -/
def splitL (c : Nat) : List Nat → List (List Nat)
  | [] => [[]]
  | d :: ds => if d = c then [] :: splitL c ds else (match splitL c ds with
    | p :: ps => (d :: p) :: ps
    | [] => [[d]])
theorem splitL_ne (c : Nat) : ∀ l, ∃ p ps, splitL c l = p :: ps
  | [] => ⟨_, _, rfl⟩
  | d :: ds => by
    obtain ⟨p, ps, e⟩ := splitL_ne c ds
    unfold splitL
    rw [e]
    split
    · exact ⟨_, _, rfl⟩
    · exact ⟨_, _, rfl⟩
theorem splitL_cons (c : Nat) : ∀ (a b : List Nat), c ∉ a → splitL c (a ++ c :: b) = a :: splitL c b
  | [], b, _ => by rw [List.nil_append, splitL, if_pos rfl]
  | d :: a, b, h => by
    have h1 : ¬ d = c := fun e => h (by rw [e]; exact List.mem_cons_self)
    have h2 : c ∉ a := fun e => h (List.mem_cons_of_mem _ e)
    rw [List.cons_append, splitL, if_neg h1, splitL_cons c a b h2]
theorem splitL_one (c : Nat) : ∀ (a : List Nat), c ∉ a → splitL c a = [a]
  | [], _ => rfl
  | d :: a, h => by
    have h1 : ¬ d = c := fun e => h (by rw [e]; exact List.mem_cons_self)
    have h2 : c ∉ a := fun e => h (List.mem_cons_of_mem _ e)
    rw [splitL, if_neg h1, splitL_one c a h2]
theorem parts_run (xs : List Nat) (c : Nat) : ∀ (ys : List Nat) (k st : Nat), xs.drop k = ys → st ≤ k →
    ((st :: (idxs c ys k).map (· + 1)).zip (idxs c ys k ++ [xs.length])).map (fun p => (xs.drop p.1).take (p.2 - p.1)) = (match splitL c ys with
      | p :: ps => ((xs.drop st).take (k - st) ++ p) :: ps
      | [] => [])
  | [], k, st, h, hk => by
    have l := congrArg List.length h
    rw [List.length_drop] at l
    simp only [List.length_nil] at l
    simp only [idxs, List.map_nil, List.nil_append, List.zip_cons_cons, List.zip_nil_left, List.map_cons, splitL, List.append_nil]
    congr 1
    rw [List.take_of_length_le (by rw [List.length_drop]; exact Nat.le_refl _), List.take_of_length_le (by rw [List.length_drop]; omega)]
  | d :: ds, k, st, h, hk => by
    have e2 : xs.drop (k + 1) = ds := by rw [← List.drop_drop, h]; rfl
    have e1 : xs[k]? = some d := by
      have : (xs.drop k)[0]? = some d := by rw [h]; rfl
      rw [List.getElem?_drop] at this
      simpa using this
    obtain ⟨p, ps, e⟩ := splitL_ne c ds
    by_cases q : d = c
    · have ih := parts_run xs c ds (k + 1) (k + 1) e2 (Nat.le_refl _)
      rw [e] at ih
      simp only [Nat.sub_self, List.take_zero, List.nil_append] at ih
      rw [idxs, if_pos q, splitL, if_pos q, e]
      simp only [List.map_cons, List.cons_append, List.zip_cons_cons, List.append_nil]
      rw [ih]
    · have ih := parts_run xs c ds (k + 1) st e2 (by omega)
      rw [e] at ih
      rw [idxs, if_neg q, splitL, if_neg q, e]
      simp only
      rw [ih]
      simp only
      congr 1
      rw [show k + 1 - st = (k - st) + 1 by omega, List.take_add_one, List.getElem?_drop, show st + (k - st) = k by omega, e1]
      simp
theorem extract_T (x : Str) (i j : Nat) : strSub x i j = T (((sg x).drop i).take (j - i)) := by
  apply sg_inj
  show (x.cps.extract i j).toList = _
  simp [Array.toList_extract, List.extract_eq_take_drop]
theorem split_eq (x : Str) (c : Nat) (hc : c < 256) : Txt.split x ⟨#[c]⟩ = (splitL c (sg x)).map T := by
  have run := parts_run (sg x) c (sg x) 0 0 rfl (Nat.le_refl _)
  obtain ⟨p, ps, e⟩ := splitL_ne c (sg x)
  rw [e] at run
  simp only [Nat.sub_self, List.take_zero, List.nil_append] at run
  have occ : occurrences x ⟨#[c]⟩ 0 x.length (x.length + 1) = idxs c (sg x) 0 := by
    rw [occ_one, List.take_of_length_le]
    have := idxs_len c (sg x) 0
    rw [len_sg]; omega
  have none_ : idxs c (sg x) 0 = [] → splitL c (sg x) = [sg x] := fun h => by
    rw [h] at run
    simp only [List.map_nil, List.nil_append, List.zip_cons_cons, List.zip_nil_left, List.map_cons, List.drop_zero, Nat.sub_zero, List.take_length] at run
    rw [e, ← run]
  unfold Txt.split
  by_cases h0 : (decide (x.length < (⟨#[c]⟩ : Str).length) || decide (Builtin.Str.strKind x < Builtin.Str.strKind ⟨#[c]⟩)) = true
  · rw [if_pos h0]
    have k1 : Builtin.Str.strKind ⟨#[c]⟩ = 1 := by simp [Builtin.Str.strKind, hc]
    have k2 : 1 ≤ Builtin.Str.strKind x := by unfold Builtin.Str.strKind; (repeat' split) <;> omega
    have l1 : (⟨#[c]⟩ : Str).length = 1 := rfl
    have hl : (sg x) = [] := by
      rw [k1, l1] at h0
      simp only [Bool.or_eq_true, decide_eq_true_eq] at h0
      have : (sg x).length = 0 := by rw [← len_sg]; omega
      exact List.eq_nil_of_length_eq_zero this
    rw [none_ (by rw [hl]; rfl)]
    rfl
  · rw [if_neg h0, occ]
    by_cases h1 : (idxs c (sg x) 0).isEmpty = true
    · rw [if_pos h1, none_ (by simpa using h1)]
      rfl
    · rw [if_neg h1]
      unfold partsBetween
      show ((0 :: (idxs c (sg x) 0).map (· + 1)).zip (idxs c (sg x) 0 ++ [x.length])).map (fun (p : Nat × Nat) => strSub x p.1 p.2) = _
      rw [e, ← run, List.map_map, ← len_sg]
      apply List.map_congr_left
      intro p _
      exact extract_T x p.1 p.2
theorem idxs_mid (c : Nat) : ∀ (a b : List Nat) (k : Nat), c ∉ a → idxs c (a ++ c :: b) k = (k + a.length) :: idxs c b (k + a.length + 1)
  | [], b, k, _ => by rw [List.nil_append, idxs, if_pos rfl]; simp
  | d :: a, b, k, h => by
    have h1 : ¬ d = c := fun e => h (by rw [e]; exact List.mem_cons_self)
    have h2 : c ∉ a := fun e => h (List.mem_cons_of_mem _ e)
    rw [List.cons_append, idxs, if_neg h1, idxs_mid c a b (k + 1) h2, List.length_cons]
    rw [show k + 1 + a.length = k + (a.length + 1) by omega]
theorem idxs_no (c : Nat) : ∀ (a : List Nat) (k : Nat), c ∉ a → idxs c a k = []
  | [], _, _ => rfl
  | d :: a, k, h => by
    have h1 : ¬ d = c := fun e => h (by rw [e]; exact List.mem_cons_self)
    rw [idxs, if_neg h1, idxs_no c a (k + 1) fun e => h (List.mem_cons_of_mem _ e)]
theorem part_mid {x : Str} {c : Nat} {a b : List Nat} (hx : sg x = a ++ c :: b) (ha : c ∉ a) : Txt.partition x ⟨#[c]⟩ = (T a, ⟨#[c]⟩, T b) := by
  unfold Txt.partition
  rw [occ_one, hx, idxs_mid c a b 0 ha, List.take_succ_cons]
  simp only [Nat.zero_add, extract_T, hx]
  have l : x.length = a.length + (b.length + 1) := by rw [len_sg, hx]; simp
  have e1 : (List.take (a.length - 0) ((a ++ c :: b).drop 0)) = a := by simp
  have e2 : (List.take (x.length - (a.length + (⟨#[c]⟩ : Str).length)) ((a ++ c :: b).drop (a.length + (⟨#[c]⟩ : Str).length))) = b := by
    have : (⟨#[c]⟩ : Str).length = 1 := rfl
    rw [this, l, ← List.drop_drop, List.drop_left]
    simp only [List.drop_succ_cons, List.drop_zero]
    exact List.take_of_length_le (by omega)
  rw [e1, e2]
theorem part_no {x : Str} {c : Nat} (hx : c ∉ sg x) : Txt.partition x ⟨#[c]⟩ = (x, Str.empty, Str.empty) := by
  unfold Txt.partition
  rw [occ_one, idxs_no c _ 0 hx]
  rfl
/-! ## whole numbers as texts -/
abbrev iT (i : Int) : Str := Str.ofString (toString i)
def dg (n : Nat) : List Nat := (Nat.toDigits 10 n).map Char.toNat
theorem sg_nat (n : Nat) : sg (iT (n : Int)) = dg n := PySem.W.KIN.signs_num n
theorem sg_neg (n : Nat) (h : 0 < n) : sg (iT (-(n : Int))) = 45 :: dg n := by
  obtain ⟨m, rfl⟩ : ∃ m, n = m + 1 := ⟨n - 1, by omega⟩
  rw [sg_of]
  show (toString (Int.negSucc m)).toList.map Char.toNat = _
  have : (toString (Int.negSucc m)) = "-" ++ (Nat.repr (m + 1)) := rfl
  rw [this, String.toList_append, List.map_append, Nat.toList_repr]
  rfl
theorem dg_digits (n : Nat) : ∀ c ∈ dg n, 48 ≤ c ∧ c ≤ 57 := fun c hc => by
  obtain ⟨ch, h1, rfl⟩ := List.mem_map.mp hc
  exact digit_range (Nat.isDigit_of_mem_toDigits (by decide) (by decide) h1)
theorem dg_val (n : Nat) : PySem.NumText.digitsVal (dg n) = n := PySem.W.KIN.val_back n
theorem dg_ne (n : Nat) : dg n ≠ [] := fun h => Nat.toDigits_ne_nil (List.map_eq_nil_iff.mp h)
theorem dg_len {n k : Nat} (hk : 0 < k) (h : n < 10 ^ k) : (dg n).length ≤ k := by
  unfold dg; rw [List.length_map]; exact (Nat.length_toDigits_le_iff (by decide) hk).mpr h
theorem dg_lt (n : Nat) (h : n < 10) : dg n = [48 + n] := by
  unfold dg
  rw [Nat.toDigits_of_lt_base h]
  have : ∀ d : Nat, d < 10 → [d.digitChar].map Char.toNat = [48 + d] := by decide
  exact this n h
theorem dg_head (n : Nat) : (dg n).head? = some 48 → n = 0 := by
  induction n using Nat.strongRecOn with
  | _ n ih =>
    by_cases h : n < 10
    · rw [dg_lt n h]; intro q; simp at q; omega
    · intro q
      have t : Nat.toDigits 10 (n / 10) ++ Nat.toDigits 10 (n % 10) = Nat.toDigits 10 (10 * (n / 10) + n % 10) := Nat.toDigits_append_toDigits (by decide) (by omega) (by omega)
      rw [Nat.div_add_mod] at t
      have e : dg n = dg (n / 10) ++ dg (n % 10) := by unfold dg; rw [← t, List.map_append]
      rw [e] at q
      obtain ⟨x, xs, hx⟩ := List.exists_cons_of_ne_nil (dg_ne (n / 10))
      rw [hx] at q
      have := ih (n / 10) (by omega) (by rw [hx]; exact q)
      omega
theorem dg_read (n : Nat) (h : n < 10 ^ 600) : PySem.intText? (iT (n : Int)) = some (n : Int) := by
  have hl : (iT (n : Int)).length ≤ 600 := by rw [len_sg, sg_nat]; exact dg_len (by decide) h
  have e := intText_digits (x := iT (n : Int)) (by rw [show (iT (n : Int)).cps.toList = dg n from sg_nat n]; exact dg_digits n) (by rw [show (iT (n : Int)).cps.toList = dg n from sg_nat n]; exact dg_ne n) (by omega)
  rw [e, show (iT (n : Int)).cps.toList = dg n from sg_nat n, dg_val]
theorem iT_free {c : Nat} (h : c ≠ 45) (h2 : c < 48 ∨ 57 < c) (i : Int) : c ∉ sg (iT i) := int_text_free' c ⟨h, h2⟩ i
end M

namespace M
open PySem L2 PyProof.Rows PySem.Builtin.Str
open Classical

/-! ## texts in the machine -/
def okS (l : List Nat) : Prop := ∀ c ∈ l, c < 1114112
theorem okS_app {a b : List Nat} (h : okS a) (k : okS b) : okS (a ++ b) := fun c hc => by
  rcases List.mem_append.mp hc with q | q
  · exact h c q
  · exact k c q
theorem okS_cons {c : Nat} {b : List Nat} (h : c < 1114112) (k : okS b) : okS (c :: b) := fun d hd => by
  rcases List.mem_cons.mp hd with rfl | q
  · exact h
  · exact k d q
theorem okS_dg (n : Nat) : okS (dg n) := fun c hc => by have := dg_digits n c hc; omega
theorem okS_iT (i : Int) : okS (sg (iT i)) := fun c hc => by
  rcases Classical.em (c < 1114112) with q | q
  · exact q
  · exact absurd hc (iT_free (by omega) (by omega) i)
theorem okS_lit (s : String) (h : (s.toList.map Char.toNat).all (· < 1114112) = true) : okS (sg (Str.ofString s)) := by
  rw [sg_of]; intro c hc; simpa using List.all_eq_true.mp h c hc
theorem okS_sub {a b : List Nat} (h : okS b) (k : ∀ c ∈ a, c ∈ b) : okS a := fun c hc => h c (k c hc)
theorem strOk_of {z : Str} (h : okS (sg z)) : PyData.strOk z = true := by
  unfold PyData.strOk
  rw [Array.all_eq_true_iff_forall_mem]
  intro c hc
  have := h c (Array.mem_toList_iff.mpr hc)
  simpa using this
theorem str_dec (a b : Str) : (a == b) = decide (sg a = sg b) := by
  by_cases h : sg a = sg b
  · have := sg_inj h; subst this; simp
  · have : a ≠ b := fun e => h (by rw [e])
    simp [h, this]
theorem oEq_str {a b : Str} {s : MS} (ha : okS (sg a)) (hb : okS (sg b)) : oEq (.str a) (.str b) s = .ok (.bl (decide (sg a = sg b))) s := by
  have h1 : SeqAt.shaped (.str a) = true := by simp [SeqAt.shaped, PyData.canLay0, PyData.depth, strOk_of ha]
  have h2 : SeqAt.shaped (.str b) = true := by simp [SeqAt.shaped, PyData.canLay0, PyData.depth, strOk_of hb]
  unfold oEq
  simp only [toD, h1, h2, and_self, if_true, PyData.eqv, str_dec]
theorem oNe_str {a b : Str} {s : MS} (ha : okS (sg a)) (hb : okS (sg b)) : oNe (.str a) (.str b) s = .ok (.bl (!decide (sg a = sg b))) s := by
  have h1 : SeqAt.shaped (.str a) = true := by simp [SeqAt.shaped, PyData.canLay0, PyData.depth, strOk_of ha]
  have h2 : SeqAt.shaped (.str b) = true := by simp [SeqAt.shaped, PyData.canLay0, PyData.depth, strOk_of hb]
  unfold oNe
  simp only [toD, h1, h2, and_self, if_true, PyData.eqv, str_dec]
theorem starts_one (z : Str) (c : Nat) : Txt.startswith z ⟨#[c]⟩ = decide ((sg z).head? = some c) := by
  unfold Txt.startswith
  have l1 : (⟨#[c]⟩ : Str).length = 1 := rfl
  have q := StrLaws.subAt_one z c 0
  rw [l1] at q ⊢
  rw [Bool.eq_iff_iff, Bool.and_eq_true, decide_eq_true_eq, decide_eq_true_eq, q, List.head?_eq_getElem?]
theorem cut_tail (z : Str) : cutS z (some 1) none = T (sg z).tail := by
  apply sg_inj
  show (((sg z).drop (HT.sIx z.length 0 (some 1))).take (HT.sIx z.length z.length none - HT.sIx z.length 0 (some 1))).toArray.toList = (sg z).tail
  have e1 : HT.sIx z.length 0 (some 1) = min 1 z.length := HT.sIx_nat z.length 0 1
  rw [e1, HT.sIx_none]
  simp only [List.toList_toArray]
  rw [len_sg]
  cases h : sg z with
  | nil => rfl
  | cons c l => simp
theorem oSl_tail {z : Str} {s : MS} (h : z.length ≤ 16777216) : oSl (.str z) (some 1) none s = .ok (.str (T (sg z).tail)) s := by
  unfold oSl
  simp only [if_pos (show lim z.length from h), cut_tail]
theorem oIdx_sign {z : Str} {c : Nat} {l : List Nat} {s : MS} (h : sg z = c :: l) (hl : z.length ≤ 16777216) : oIdx (.str z) (.int 0) s = .ok (.str ⟨#[c]⟩) s := by
  unfold oIdx
  have e : z.cps.toList[(0 : Int).toNat]? = some c := by
    show (sg z)[0]? = some c
    rw [h]; rfl
  simp only [e]
  rw [if_pos ⟨by decide, hl⟩]
theorem fPart_mid {z : Str} {c : Nat} {a b : List Nat} {s : MS} (hz : sg z = a ++ c :: b) (ha : c ∉ a) (hl : z.length ≤ 16777216) : fPart z (.str ⟨#[c]⟩) s = .ok (.tup [.str (T a), .str ⟨#[c]⟩, .str (T b)]) s := by
  unfold fPart
  simp only [part_mid hz ha]
  rw [if_pos ⟨rfl, hl⟩]
theorem fPart_no {z : Str} {c : Nat} {s : MS} (hz : c ∉ sg z) (hl : z.length ≤ 16777216) : fPart z (.str ⟨#[c]⟩) s = .ok (.tup [.str z, .str Str.empty, .str Str.empty]) s := by
  unfold fPart
  simp only [part_no hz]
  rw [if_pos ⟨rfl, hl⟩]
theorem fSplit_eq {z : Str} {c : Nat} {s : MS} (hc : c < 256) (hl : z.length ≤ 16000000) : fSplit z (.str ⟨#[c]⟩) s = .ok (.lst ((splitL c (sg z)).map fun l => .str (T l))) s := by
  unfold fSplit
  simp only [split_eq z c hc, List.map_map]
  rw [if_pos ⟨rfl, by omega⟩]
  rfl
/-- a loop that leaves with v at the first thing that does not pass -/
theorem forM_until {α : Type} {g : GM} {b : SM} (e : α → MV) (p : α → Prop) (v : MV) (St : MS → Prop) : ∀ (xs : List α) (s : MS), St s →
    (∀ x ∈ xs, ∀ s, St s → p x → ∃ s1 s2, g (e x) s = some s1 ∧ b s1 = .ok .nx s2 ∧ St s2) → (∀ x ∈ xs, ∀ s, St s → ¬ p x → ∃ s1 s2, g (e x) s = some s1 ∧ b s1 = .ok (.rt v) s2 ∧ St s2) →
    ((∀ x ∈ xs, p x) → ∃ s', M.forM g b (xs.map e) s = .ok .nx s' ∧ St s') ∧ ((¬ ∀ x ∈ xs, p x) → ∃ s', M.forM g b (xs.map e) s = .ok (.rt v) s' ∧ St s')
  | [], s, h, _, _ => ⟨fun _ => ⟨s, rfl, h⟩, fun q => absurd (fun x hx => by cases hx) q⟩
  | x :: xs, s, h, t1, t2 => by
    by_cases hp : p x
    · obtain ⟨s1, s2, h1, h2, h3⟩ := t1 x List.mem_cons_self s h hp
      obtain ⟨i1, i2⟩ := forM_until e p v St xs s2 h3 (fun y hy => t1 y (List.mem_cons_of_mem _ hy)) fun y hy => t2 y (List.mem_cons_of_mem _ hy)
      have step : M.forM g b ((x :: xs).map e) s = M.forM g b (xs.map e) s2 := by
        rw [List.map_cons]
        conv => lhs; unfold M.forM
        simp only [h1, h2]
      rw [step]
      refine ⟨fun q => i1 fun y hy => q y (List.mem_cons_of_mem _ hy), fun q => i2 fun z => q fun y hy => ?_⟩
      rcases List.mem_cons.mp hy with rfl | hy
      · exact hp
      · exact z y hy
    · obtain ⟨s1, s2, h1, h2, h3⟩ := t2 x List.mem_cons_self s h hp
      refine ⟨fun q => absurd (q x List.mem_cons_self) hp, fun _ => ⟨s2, ?_, h3⟩⟩
      rw [List.map_cons]
      unfold M.forM
      simp only [h1, h2]
end M
namespace M
open PySem L2 PyProof.Rows
open Classical
/-! ## readers -/
def cutAt (c : Nat) : List Nat → Option (List Nat × List Nat)
  | [] => none
  | d :: ds => if d = c then some ([], ds) else (cutAt c ds).map fun p => (d :: p.1, p.2)
theorem cutAt_mid {c : Nat} : ∀ {a b : List Nat}, c ∉ a → cutAt c (a ++ c :: b) = some (a, b)
  | [], b, _ => by rw [List.nil_append, cutAt, if_pos rfl]
  | d :: a, b, h => by
    have h1 : ¬ d = c := fun e => h (by rw [e]; exact List.mem_cons_self)
    rw [List.cons_append, cutAt, if_neg h1, cutAt_mid fun e => h (List.mem_cons_of_mem _ e)]
    rfl
theorem cutAt_some {c : Nat} : ∀ {l a b : List Nat}, cutAt c l = some (a, b) → l = a ++ c :: b ∧ c ∉ a
  | [], a, b, h => by cases h
  | d :: ds, a, b, h => by
    rw [cutAt] at h
    by_cases q : d = c
    · rw [if_pos q] at h; cases h; rw [q]; exact ⟨rfl, fun x => by cases x⟩
    · rw [if_neg q] at h
      obtain ⟨⟨a', b'⟩, h1, h2⟩ := Option.map_eq_some_iff.mp h
      cases h2
      obtain ⟨e, n⟩ := cutAt_some h1
      rw [e]
      exact ⟨rfl, fun x => by
        rcases List.mem_cons.mp x with rfl | x
        · exact q rfl
        · exact n x⟩
theorem cutAt_none {c : Nat} : ∀ {l : List Nat}, cutAt c l = none → c ∉ l
  | [], _, h => by cases h
  | d :: ds, h, x => by
    rw [cutAt] at h
    by_cases q : d = c
    · rw [if_pos q] at h; cases h
    · rw [if_neg q] at h
      have := cutAt_none (Option.map_eq_none_iff.mp h)
      rcases List.mem_cons.mp x with rfl | x
      · exact q rfl
      · exact this x
noncomputable def readW (l : List Nat) : Option Int := if l = [] ∨ 13 < l.length ∨ (l.head? = some 48 ∧ l ≠ [48]) ∨ ¬ (∀ c ∈ l, 48 ≤ c ∧ c ≤ 57) then none else some ((PySem.NumText.digitsVal l : Nat) : Int)
theorem readW_dg {n : Nat} (h : n < 10 ^ 13) : readW (dg n) = some (n : Int) := by
  unfold readW
  rw [if_neg, dg_val]
  rintro (q | q | q | q)
  · exact dg_ne n q
  · have := dg_len (by decide) h; omega
  · have := dg_head n q.1
    subst this
    exact q.2 rfl
  · exact q (dg_digits n)
theorem digitsVal_snoc' (l : List Nat) (c : Nat) : PySem.NumText.digitsVal (l ++ [c]) = PySem.NumText.digitsVal l * 10 + (c - 48) := by
  unfold PySem.NumText.digitsVal; rw [List.foldl_append]; rfl
theorem digitsVal_lt : ∀ (k : Nat) (l : List Nat), l.length = k → (∀ c ∈ l, 48 ≤ c ∧ c ≤ 57) → PySem.NumText.digitsVal l < 10 ^ k
  | 0, l, h, _ => by
    have := List.eq_nil_of_length_eq_zero h
    subst this; decide
  | k + 1, l, h, hd => by
    have ne : l ≠ [] := fun e => by subst e; cases h
    have e := List.dropLast_concat_getLast ne
    rw [← e, digitsVal_snoc']
    have b := hd _ (List.getLast_mem ne)
    have ih := digitsVal_lt k l.dropLast (by rw [List.length_dropLast, h]; rfl) fun c hc => hd c ((List.dropLast_sublist l).subset hc)
    rw [Nat.pow_succ]
    omega
theorem readW_bd {l : List Nat} {i : Int} {k : Nat} (h : readW l = some i) (hl : l.length ≤ k) : 0 ≤ i ∧ i < (10 : Int) ^ k := by
  unfold readW at h
  split at h
  · cases h
  · rename_i q
    have e := Option.some.inj h
    have hd : ∀ c ∈ l, 48 ≤ c ∧ c ≤ 57 := Classical.byContradiction fun z => q (Or.inr (Or.inr (Or.inr z)))
    have b := digitsVal_lt l.length l rfl hd
    have : (10 : Nat) ^ l.length ≤ 10 ^ k := Nat.pow_le_pow_right (by decide) hl
    have c : (((10 : Nat) ^ k : Nat) : Int) = (10 : Int) ^ k := by simp
    omega
def gT (g : Int × Int) : Str := iT g.1 ++ Str.ofString "/" ++ iT g.2
theorem sg_gT (g : Int × Int) : sg (gT g) = sg (iT g.1) ++ 47 :: sg (iT g.2) := by
  unfold gT
  rw [sg_app, sg_app, List.append_assoc]
  rfl
theorem iT_len {i : Int} (h : i.natAbs.log2 < 1900) : (iT i).length ≤ 601 := by
  have b : i.natAbs < 10 ^ 600 := by
    by_cases z : i.natAbs = 0
    · rw [z]; decide
    · exact Nat.lt_trans ((Nat.log2_lt z).mp h) (by decide)
  rw [len_sg]
  obtain ⟨n, rfl | rfl⟩ := Int.eq_nat_or_neg i
  · rw [sg_nat]; have := dg_len (n := n) (k := 600) (by decide) (by simpa using b); omega
  · by_cases z : n = 0
    · subst z; rw [show iT (-((0 : Nat) : Int)) = iT ((0 : Nat) : Int) from rfl, sg_nat]; have := dg_len (n := 0) (k := 600) (by decide) (by decide); omega
    · rw [sg_neg n (by omega), List.length_cons]; have := dg_len (n := n) (k := 600) (by decide) (by simpa using b); omega
theorem gT_len {g : Int × Int} (h : g.1.natAbs.log2 < 1900) (k : g.2.natAbs.log2 < 1900) : (gT g).length ≤ 1203 := by
  have a := iT_len h
  have b := iT_len k
  rw [len_sg] at *
  rw [sg_gT, List.length_append, List.length_cons]
  omega
theorem okS_gT (g : Int × Int) : okS (sg (gT g)) := by rw [sg_gT]; exact okS_app (okS_iT _) (okS_cons (by decide) (okS_iT _))
theorem gT_free {c : Nat} (h : c ≠ 45) (h1 : c ≠ 47) (h2 : c < 48 ∨ 57 < c) (g : Int × Int) : c ∉ sg (gT g) := by
  rw [sg_gT]
  intro q
  rcases List.mem_append.mp q with q | q
  · exact iT_free h h2 _ q
  · rcases List.mem_cons.mp q with q | q
    · exact h1 q
    · exact iT_free h h2 _ q
def bodyF (z : List Nat) : List Nat := if z.head? = some 45 then z.tail else z
def lowQ (p : Int × Int) : Int × Int := (p.1 / Int.gcd p.1 p.2, p.2 / Int.gcd p.1 p.2)
def signF (z : List Nat) (t : Int) : Int := if z.head? = some 45 then 0 - t else t
noncomputable def readB (z bd : List Nat) : Option (Int × Int) := match cutAt 47 bd with
  | none => none
  | some (a, b) => (match readW a, readW b with
    | some t, some l => if 9 < a.length ∨ 9 < b.length ∨ l = 0 then none else
        if sg (gT (lowQ (signF z t, l))) = z then some (signF z t, l) else none
    | _, _ => none)
noncomputable def readF (z : List Nat) : Option (Int × Int) := readB z (bodyF z)
theorem readF_gT {g : Int × Int} (h1 : g.1.natAbs < 10 ^ 9) (h2 : 0 < g.2) (h3 : g.2 < 10 ^ 9) (hg : Int.gcd g.1 g.2 = 1) : readF (sg (gT g)) = some g := by
  obtain ⟨t, l⟩ := g
  simp only at h1 h2 h3 hg
  obtain ⟨m, rfl⟩ : ∃ m : Nat, l = (m : Int) := ⟨l.toNat, by omega⟩
  have m9 : m < 10 ^ 9 := by omega
  have e2 : sg (iT (m : Int)) = dg m := sg_nat m
  have lq : ∀ t' : Int, t' = t → lowQ (t', (m : Int)) = (t, (m : Int)) := fun t' e => by subst e; unfold lowQ; simp only [hg]; simp
  have rm : readW (dg m) = some (m : Int) := readW_dg (Nat.lt_trans m9 (by decide))
  have lm := dg_len (n := m) (k := 9) (by decide) m9
  obtain ⟨n, hn⟩ : ∃ n : Nat, t.natAbs = n := ⟨_, rfl⟩
  have rn : readW (dg n) = some (n : Int) := readW_dg (Nat.lt_trans (by omega) (show (10 : Nat) ^ 9 < 10 ^ 13 by decide))
  have ln := dg_len (n := n) (k := 9) (by decide) (by omega)
  have fr : 47 ∉ dg n := fun q => by have := dg_digits n 47 q; omega
  unfold readF readB
  by_cases s : 0 ≤ t
  · have e1 : sg (iT t) = dg n := by rw [show t = (n : Int) by omega]; exact sg_nat n
    have hh : (sg (gT (t, (m : Int)))).head? ≠ some 45 := by
      rw [sg_gT]; simp only
      rw [e1]
      obtain ⟨x, xs, hx⟩ := List.exists_cons_of_ne_nil (dg_ne n)
      have := dg_digits n x (by rw [hx]; exact List.mem_cons_self)
      rw [hx]; simp; omega
    have sf : signF (sg (gT (t, (m : Int)))) (n : Int) = t := by unfold signF; rw [if_neg hh]; omega
    have bf : bodyF (sg (gT (t, (m : Int)))) = dg n ++ 47 :: dg m := by unfold bodyF; rw [if_neg hh, sg_gT]; simp only; rw [e1, e2]
    rw [bf, cutAt_mid fr]
    simp only [rn, rm, sf]
    rw [if_neg (by omega), lq t rfl, if_pos rfl]
  · have e1 : sg (iT t) = 45 :: dg n := by rw [show t = -(n : Int) by omega]; exact sg_neg n (by omega)
    have hh : (sg (gT (t, (m : Int)))).head? = some 45 := by rw [sg_gT]; simp only; rw [e1]; rfl
    have sf : signF (sg (gT (t, (m : Int)))) (n : Int) = t := by unfold signF; rw [if_pos hh]; omega
    have bf : bodyF (sg (gT (t, (m : Int)))) = dg n ++ 47 :: dg m := by unfold bodyF; rw [if_pos hh, sg_gT]; simp only; rw [e1, e2]; rfl
    rw [bf, cutAt_mid fr]
    simp only [rn, rm, sf]
    rw [if_neg (by omega), lq t rfl, if_pos rfl]
end M
namespace M
open PySem L2 PyProof.Rows
open Classical
/-! ## words -/
theorem splitL_mem (c : Nat) : ∀ (l : List Nat), ∀ p ∈ splitL c l, (∀ x ∈ p, x ∈ l) ∧ p.length ≤ l.length
  | [], p, h => by
    simp only [splitL, List.mem_singleton] at h
    subst h
    exact ⟨fun x q => q, Nat.le_refl _⟩
  | d :: ds, p, h => by
    obtain ⟨q, qs, e⟩ := splitL_ne c ds
    have ih := splitL_mem c ds
    rw [e] at ih
    rw [splitL, e] at h
    split at h
    · rcases List.mem_cons.mp h with rfl | h
      · exact ⟨(fun x q => by cases q), Nat.zero_le _⟩
      · obtain ⟨i1, i2⟩ := ih p h
        exact ⟨fun x q => List.mem_cons_of_mem _ (i1 x q), Nat.le_succ_of_le i2⟩
    · rcases List.mem_cons.mp h with rfl | h
      · obtain ⟨i1, i2⟩ := ih q List.mem_cons_self
        refine ⟨fun x hx => ?_, Nat.succ_le_succ i2⟩
        rcases List.mem_cons.mp hx with rfl | hx
        · exact List.mem_cons_self
        · exact List.mem_cons_of_mem _ (i1 x hx)
      · obtain ⟨i1, i2⟩ := ih p (List.mem_cons_of_mem _ h)
        exact ⟨fun x q => List.mem_cons_of_mem _ (i1 x q), Nat.le_succ_of_le i2⟩
theorem splitL_len (c : Nat) : ∀ (l : List Nat), (splitL c l).length ≤ l.length + 1
  | [] => Nat.le_refl _
  | d :: ds => by
    have ih := splitL_len c ds
    obtain ⟨q, qs, e⟩ := splitL_ne c ds
    rw [e] at ih
    rw [splitL, e]
    split <;> simp only [List.length_cons] at * <;> omega
theorem join_sg (c : Nat) : ∀ (ys : List Str), ys ≠ [] → (∀ y ∈ ys, c ∉ sg y) → splitL c (sg (Txt.join ⟨#[c]⟩ ys)) = ys.map sg := by
  intro ys ne h
  show splitL c (sg (PySem.Builtin.Str.glued ⟨#[c]⟩ ys)) = _
  rw [StrLaws.glued_eq_join]
  induction ys with
  | nil => exact absurd rfl ne
  | cons y ys ih =>
    cases ys with
    | nil => rw [join_one, splitL_one c _ (h y List.mem_cons_self)]; rfl
    | cons z zs =>
      rw [join_cons_cons, sg_app, sg_app, List.append_assoc]
      show splitL c (sg y ++ (c :: sg (Str.join ⟨#[c]⟩ (z :: zs)))) = _
      rw [splitL_cons c _ _ (h y List.mem_cons_self), ih (List.cons_ne_nil _ _) fun w hw => h w (List.mem_cons_of_mem _ hw)]
      rfl
theorem join_free (c d : Nat) (hcd : d ≠ c) : ∀ (ys : List Str), (∀ y ∈ ys, d ∉ sg y) → d ∉ sg (Txt.join ⟨#[c]⟩ ys) := by
  intro ys h
  show d ∉ sg (PySem.Builtin.Str.glued ⟨#[c]⟩ ys)
  rw [StrLaws.glued_eq_join]
  induction ys with
  | nil => intro q; cases q
  | cons y ys ih =>
    cases ys with
    | nil => rw [join_one]; exact h y List.mem_cons_self
    | cons z zs =>
      rw [join_cons_cons, sg_app, sg_app]
      intro q
      rcases List.mem_append.mp q with q | q
      · rcases List.mem_append.mp q with q | q
        · exact h y List.mem_cons_self q
        · have : d ∈ [c] := q
          exact hcd (by simpa using this)
      · exact ih (fun w hw => h w (List.mem_cons_of_mem _ hw)) q
theorem join_len {sep : Str} {ys : List Str} {m : Nat} (h : ∀ y ∈ ys, y.length ≤ m) : (Txt.join sep ys).length ≤ ys.length * (m + sep.length) ∧ (ys.map (·.length)).sum ≤ ys.length * m := by
  have s : (ys.map (·.length)).sum ≤ ys.length * m := by
    induction ys with
    | nil => simp
    | cons y ys ih =>
      have a := h y List.mem_cons_self
      have b := ih fun w hw => h w (List.mem_cons_of_mem _ hw)
      simp only [List.map_cons, List.sum_cons, List.length_cons, Nat.succ_mul]
      omega
  refine ⟨?_, s⟩
  show (PySem.Builtin.Str.glued sep ys).length ≤ _
  rw [StrLaws.glued_eq_join]
  have := StrLaws.join_length_le sep ys
  rw [Nat.mul_add]
  omega
theorem okS_join {c : Nat} (hc : c < 1114112) {ys : List Str} (h : ∀ y ∈ ys, okS (sg y)) : okS (sg (Txt.join ⟨#[c]⟩ ys)) := by
  intro d hd
  rcases Classical.em (d < 1114112) with q | q
  · exact q
  · refine absurd hd (join_free c d (by omega) ys fun y hy x => q (h y hy d x))
noncomputable def readG (z : List Nat) : Option (Int × Int) := match readF z with
  | some g => if g.1.natAbs ≤ 1000 ∧ g.2 ≤ 1000 then some g else none
  | none => none
noncomputable def readN (z : List Nat) (a b : Int) : Option Int := match readW z with
  | some n => if a ≤ n ∧ n ≤ b then some n else none
  | none => none
noncomputable def cornerV (l : List Nat) : Option (Int × (Int × Int)) := match cutAt 61 l with
  | some (a, b) => (match readN a 0 100000, readG b with
    | some n, some g => some (n, g)
    | _, _ => none)
  | none => none
noncomputable def cornersV : List (List Nat) → Option (List (Int × (Int × Int)))
  | [] => some []
  | l :: ls => (match cornerV l, cornersV ls with
    | some c, some cs => some (c :: cs)
    | _, _ => none)
theorem cornersV_at : ∀ {ls : List (List Nat)} {cs : List (Int × (Int × Int))}, cornersV ls = some cs → ls.length = cs.length ∧ ∀ (i : Nat) (l : List Nat), ls[i]? = some l → ∃ c, cs[i]? = some c ∧ cornerV l = some c
  | [], cs, h => by cases h; exact ⟨rfl, fun i l q => by simp at q⟩
  | l :: ls, cs, h => by
    rw [cornersV] at h
    cases e1 : cornerV l with
    | none => rw [e1] at h; cases h
    | some c =>
      cases e2 : cornersV ls with
      | none => rw [e1, e2] at h; cases h
      | some ds =>
        rw [e1, e2] at h
        cases h
        obtain ⟨i1, i2⟩ := cornersV_at e2
        refine ⟨by rw [List.length_cons, i1, List.length_cons], fun i k q => ?_⟩
        cases i with
        | zero => simp at q; subst q; exact ⟨c, rfl, e1⟩
        | succ i => exact i2 i k (by simpa using q)
def rise (cs : List (Int × (Int × Int))) : Prop := ∀ i, i + 1 < cs.length → (cs.getD i (0, 0, 0)).1 < (cs.getD (i + 1) (0, 0, 0)).1
def cT (c : Int × (Int × Int)) : Str := iT c.1 ++ Str.ofString "=" ++ gT c.2
theorem sg_cT (c : Int × (Int × Int)) : sg (cT c) = sg (iT c.1) ++ 61 :: sg (gT c.2) := by
  unfold cT; rw [sg_app, sg_app, List.append_assoc]; rfl
theorem readN_iT {n a b : Int} (h0 : 0 ≤ n) (h1 : n < 1000000) (ha : a ≤ n) (hb : n ≤ b) : readN (sg (iT n)) a b = some n := by
  obtain ⟨m, rfl⟩ := Int.eq_ofNat_of_zero_le h0
  unfold readN
  rw [sg_nat, readW_dg (Nat.lt_trans (show m < 1000000 by omega) (by decide))]
  simp only
  rw [if_pos ⟨ha, hb⟩]
theorem readG_gT {g : Int × Int} (h1 : g.1.natAbs ≤ 1000) (h2 : 0 < g.2) (h3 : g.2 ≤ 1000) (hg : Int.gcd g.1 g.2 = 1) : readG (sg (gT g)) = some g := by
  unfold readG
  rw [readF_gT (by have : (1000 : Nat) < 10 ^ 9 := by decide
                   omega) h2 (by have : (1000 : Int) < 10 ^ 9 := by decide
                                 omega) hg]
  simp only
  rw [if_pos ⟨h1, h3⟩]
theorem cornerV_cT {c : Int × (Int × Int)} (h0 : 0 ≤ c.1) (hm : c.1 ≤ 100000) (h1 : c.2.1.natAbs ≤ 1000) (h2 : 0 < c.2.2) (h3 : c.2.2 ≤ 1000) (hg : Int.gcd c.2.1 c.2.2 = 1) : cornerV (sg (cT c)) = some c := by
  unfold cornerV
  rw [sg_cT, cutAt_mid (iT_free (by decide) (by decide) _)]
  simp only
  rw [readN_iT h0 (by omega) h0 hm, readG_gT h1 h2 h3 hg]
theorem cornersV_cT : ∀ {cs : List (Int × (Int × Int))}, (∀ c ∈ cs, 0 ≤ c.1 ∧ c.1 ≤ 100000 ∧ c.2.1.natAbs ≤ 1000 ∧ 0 < c.2.2 ∧ c.2.2 ≤ 1000 ∧ Int.gcd c.2.1 c.2.2 = 1) → cornersV (cs.map fun c => sg (cT c)) = some cs
  | [], _ => rfl
  | c :: cs, h => by
    obtain ⟨h0, hm, h1, h2, h3, hg⟩ := h c List.mem_cons_self
    rw [List.map_cons, cornersV, cornerV_cT h0 hm h1 h2 h3 hg, cornersV_cT fun d hd => h d (List.mem_cons_of_mem _ hd)]
end M

namespace M
open PySem L2 PyProof.Rows
open Classical
/-! ## a loop that leaves at the first thing found -/
theorem forM_find {α : Type} {g : GM} {b : SM} (e : α → MV) (q : α → Bool) (v : α → MV) (St : MS → Prop) : ∀ (xs : List α) (s : MS), St s →
    (∀ x ∈ xs, ∀ s, St s → q x = false → ∃ s1 s2, g (e x) s = some s1 ∧ b s1 = .ok .nx s2 ∧ St s2) → (∀ x ∈ xs, ∀ s, St s → q x = true → ∃ s1 s2, g (e x) s = some s1 ∧ b s1 = .ok (.rt (v x)) s2 ∧ St s2) →
    (xs.find? q = none ∧ ∃ s', M.forM g b (xs.map e) s = .ok .nx s' ∧ St s') ∨ (∃ x, xs.find? q = some x ∧ ∃ s', M.forM g b (xs.map e) s = .ok (.rt (v x)) s' ∧ St s')
  | [], s, h, _, _ => .inl ⟨rfl, s, rfl, h⟩
  | x :: xs, s, h, t1, t2 => by
    cases hq : q x with
    | false =>
      obtain ⟨s1, s2, h1, h2, h3⟩ := t1 x List.mem_cons_self s h hq
      have step : M.forM g b ((x :: xs).map e) s = M.forM g b (xs.map e) s2 := by
        rw [List.map_cons]
        conv => lhs; unfold M.forM
        simp only [h1, h2]
      rw [step, List.find?_cons, hq]
      exact forM_find e q v St xs s2 h3 (fun y hy => t1 y (List.mem_cons_of_mem _ hy)) fun y hy => t2 y (List.mem_cons_of_mem _ hy)
    | true =>
      obtain ⟨s1, s2, h1, h2, h3⟩ := t2 x List.mem_cons_self s h hq
      refine .inr ⟨x, by rw [List.find?_cons, hq], s2, ?_, h3⟩
      rw [List.map_cons]
      unfold M.forM
      simp only [h1, h2]
end M

namespace M
open PySem L2 PyProof.Rows
open Classical

noncomputable def mClrL (mr : EM) : SM := fun s => (mr s).bind fun r s0 => match r with
  | .ref n => (match s0.G[n]? with
    | some (.lst _) => .ok .nx ⟨s0.env, s0.G.set n (.lst [])⟩
    | _ => .stuck)
  | _ => .stuck
section
variable {K : KA} {W : WX} {ta : TE} {ma : EM}
theorem ss_clrL (hr : SimE K W ta ma) : SimS K W (tDrop (tBM0 K.F "list" rClear ta)) (mClrL ma) := by
  intro X ρ O s σ H D S p
  refine hr.bindS S p fun r s0 ρ0 O0 H0 v S0 F0 r0 p0 => ?_
  cases r0 with
  | ref hn =>
    rename_i n a
    dsimp only at p0
    cases g : s0.G[n]? with
    | none => simp only [g] at p0; exact p0.elim
    | some o => cases o with
      | ins c ks vs => simp only [g] at p0; exact p0.elim
      | dic ms => simp only [g] at p0; exact p0.elim
      | lst ms0 =>
        simp only [g] at p0
        obtain ⟨vs0, hx0, _⟩ := S0.refL hn g
        refine ⟨.inl ⟨rfl, _, sqlh hx0⟩, ?_⟩
        refine ⟨a, vs0, rfl, rfl, hx0, ?_⟩
        obtain ⟨S2, F2⟩ := S0.setG hn (.nil)
        exact p0 ρ0 O0 σ _ S2 F2
  | _ => exact p0.elim
end
section
variable {ct : String → Addr} {X : Cx} {W : WX} {r : Expr} {ta : TE} {ma : EM} {pos apos spos : Pos}
theorem s_clrL (hr : PEM ct X W r ta ma)
    (hbase : attributeBase r "clear" X.env (eval r X.env) = eval r X.env := by rfl)
    (hline : (apos.endLine == pos.line) = true := by rfl)
    (hs : swapsWith (.Call (.Attribute r "clear" apos) [] [] pos) none spos.line X.env = pure false := by rfl) :
    PSM ct X W (.Expr (.Call (.Attribute r "clear" apos) [] [] pos) spos) (tDrop (tBM0 X.K "list" rClear ta)) (mClrL ma) :=
  ⟨ps_expr (pe_bm0 PySem.F.plainAttrs_list PySem.F.slot_list_clear PySem.F.type_list_clear mt_clear hr.pe hbase hline) hs, ss_clrL hr.sim⟩
end
noncomputable def mStL (me mr mi : EM) : SM := fun s => (me s).bind fun x s1 => (mr s1).bind fun r s2 => (mi s2).bind fun i s3 => match r with
  | .ref n => (match i with
    | .int k => (match s3.G[n]? with
      | some (.lst xs) => (match ixN xs.length k with
        | some j => .ok .nx ⟨s3.env, s3.G.set n (.lst (xs.set j x))⟩
        | none => .stuck)
      | _ => .stuck)
    | _ => .stuck)
  | _ => .stuck
section
variable {K : KA} {W : WX} {te tr ti : TE} {me mr mi : EM}
theorem ss_stL (hv : SimE K W te me) (hr : SimE K W tr mr) (hi : SimE K W ti mi) : SimS K W (tAsg te (gSub tr ti rSetL)) (mStL me mr mi) := by
  intro X ρ O s σ H D S p
  refine hv.bindS S p fun y s1 ρ1 O1 H1 u S1 F1 r1 p1 => ?_
  refine hr.bindS S1 p1 fun x s2 ρ2 O2 H2 v S2 F2 r2 p2 => ?_
  refine hi.bindS S2 p2 fun i s3 ρ3 O3 H3 w S3 F3 r3 p3 => ?_
  cases r2 with
  | ref hn =>
    rename_i n a
    dsimp only at p3
    cases r3 with
    | int k =>
      dsimp only at p3
      cases g : s3.G[n]? with
      | none => simp only [g] at p3; exact p3.elim
      | some o => cases o with
        | ins c ks vs => simp only [g] at p3; exact p3.elim
        | dic ms => simp only [g] at p3; exact p3.elim
        | lst xs =>
          simp only [g] at p3
          have hn3 := F3.pre n a hn
          obtain ⟨vs, hx, rx⟩ := S3.refL hn3 g
          cases hj : ixN xs.length k with
          | none => simp only [hj] at p3; exact p3.elim
          | some j =>
            simp only [hj] at p3
            obtain ⟨S4, F4⟩ := S3.setG hn3 (Reps.set (F3.rep (F2.rep r1)) j rx)
            exact ⟨a, vs, k, j, rfl, rfl, hx, by rw [← rx.length]; exact hj, p3 ρ3 O3 σ _ S4 F4⟩
    | _ => exact p3.elim
  | _ => exact p3.elim
end
section
variable {ct : String → Addr} {X : Cx} {W : WX} {o i e : Expr} {te tr ti : TE} {me mr mi : EM} {pos tpos : Pos}
theorem s_stL (hv : PEM ct X W e te me) (hr : PEM ct X W o tr mr) (hi : PEM ct X W i ti mi)
    (hs : swapsWithSole [.Subscript o i tpos] e pos.line X.env = pure false := by rfl) (hw : swappedStores [.Subscript o i tpos] e X.env = pure none := by rfl)
    (h1 : (assignEach [.Subscript o i tpos] X.env).map (·.2) = [assign (.Subscript o i tpos) X.env] := by rfl)
    (ha : ∀ v, assign (.Subscript o i tpos) X.env v = (do
      let ov ← holding [v] (eval o X.env)
      let iv ← holding [v, ov] (eval i X.env)
      standAt tpos
      holding [v, ov, iv] (setItem ov iv v)
      release [v, ov, iv] []) := by intro _; rfl) :
    PSM ct X W (.Assign [.Subscript o i tpos] e pos) (tAsg te (gSub tr ti rSetL)) (mStL me mr mi) :=
  ⟨ps_asg hv.pe (pg_sub hr.pe hi.pe set_list ha) hs hw h1, ss_stL hv.sim hr.sim hi.sim⟩
end

end M

namespace M
open PySem L2 PyProof.Rows
open Classical
/-! ## a loop over a live list that the body does not change -/
noncomputable def forML (g : GM) (b : SM) (n : Nat) (all : List MV) : List MV → SM
  | [] => fun s => if s.G[n]? = some (.lst all) then .ok .nx s else .stuck
  | x :: xs => fun s => if s.G[n]? = some (.lst all) then (match g x s with
    | none => .stuck
    | some s1 => match b s1 with
      | .ok .nx s2 => forML g b n all xs s2
      | .ok .ct s2 => forML g b n all xs s2
      | .ok .bk s2 => .ok .nx s2
      | .ok (.rt x) s2 => .ok (.rt x) s2
      | .exc x s2 => .exc x s2
      | .stuck => .stuck) else .stuck
noncomputable def mForL (e : EM) (g : GM) (b : SM) : SM := fun s => (e s).bind fun x s1 => match x with
  | .ref n => (match s1.G[n]? with
    | some (.lst xs) => forML g b n xs xs s1
    | _ => .stuck)
  | _ => .stuck
section
variable {K : KA} {W : WX}
theorem ss_forL {ts : List Nat} {te : TE} {me : EM} {g : TG} {mg : GM} {tb : TS} {mb : SM} (he : SimE K W te me) (hg : SimG K ts g mg) (hb : SimS K W tb mb) : SimS K W (tFor (iList K.F te) g tb) (mForL me mg mb) := by
  intro X ρ O s σ H D S p
  refine he.bindS S p fun x s1 ρ1 O1 H1 v S1 F1 r1 p1 => ?_
  cases r1 with
  | ref hn =>
    rename_i n a
    dsimp only at p1
    cases g1 : s1.G[n]? with
    | none => simp only [g1] at p1; exact p1.elim
    | some o => cases o with
      | ins c ks vs => simp only [g1] at p1; exact p1.elim
      | dic ms => simp only [g1] at p1; exact p1.elim
      | lst xs =>
        simp only [g1] at p1
        obtain ⟨vs1, hx1, rx1⟩ := S1.refL hn g1
        refine ⟨a, rfl, ⟨_, sqlh hx1⟩, ?_⟩
        refine ⟨fun i m σ' H' => m = xs.length - i ∧ i ≤ xs.length ∧ ∃ ρ' O' s', SR K X ρ' O' s' σ' H' ∧ Fut X ρ1 O1 H1 ρ' O' H' ∧ PostS K X W ρ' O' H' (forML mg mb n xs (xs.drop i) s') D,
          ⟨xs.length, by simp, Nat.zero_le _, ρ1, O1, s1, S1, Fut.refl, p1⟩, ?_⟩
        rintro i m σ2 H2 ⟨rfl, hi', ρ2, O2, s2, S2, F2, p2⟩
        have hn2 := F2.pre n a hn
        by_cases hlt : i < xs.length
        · have hd : xs.drop i = xs[i] :: xs.drop (i + 1) := List.drop_eq_getElem_cons hlt
          rw [hd] at p2
          unfold forML at p2
          by_cases g2 : s2.G[n]? = some (.lst xs)
          · rw [if_pos g2] at p2
            obtain ⟨vs2, hx2, rx2⟩ := S2.refL hn2 g2
            have hv : i < vs2.length := by rw [← rx2.length]; exact hlt
            refine .inr ⟨⟨vs2, vs2[i], sqlh hx2, List.getElem?_eq_getElem hv⟩, fun σ' H' => i + 1 ≤ xs.length ∧ ∃ ρ' O' s', SR K X ρ' O' s' σ' H' ∧ Fut X ρ1 O1 H1 ρ' O' H' ∧ PostS K X W ρ' O' H' (forML mg mb n xs (xs.drop (i + 1)) s') D,
              fun σ' H' h => ⟨xs.length - (i + 1), by omega, rfl, h⟩, fun x H3 y => ?_⟩
            obtain ⟨rfl, y⟩ := y
            obtain ⟨v3, hv3, rv3⟩ := rx2.get (List.getElem?_eq_getElem hlt)
            have y2 := y vs2 (sqlh hx2)
            rw [hv3] at y2
            cases y2
            cases eg : mg xs[i] s2 with
            | none => rw [eg] at p2; exact p2.elim
            | some s3 =>
              rw [eg] at p2
              refine hg X ρ2 O2 s2 σ2 _ xs[i] _ s3 _ S2 rv3 eg fun O4 σ4 S4 F4 _ => ?_
              have F14 := F2.trans F4
              refine hb X ρ2 O4 s3 σ4 _ _ S4 ?_
              have p4 := p2.later F4
              cases eb : mb s3 with
              | ok f s5 =>
                simp only [eb] at p4
                cases f with
                | nx => intro ρ5 O5 σ5 H5 S5 F5; exact ⟨hlt, ρ5, O5, s5, S5, F14.trans F5, p4.later F5⟩
                | ct => intro ρ5 O5 σ5 H5 S5 F5; exact ⟨hlt, ρ5, O5, s5, S5, F14.trans F5, p4.later F5⟩
                | bk => exact p4
                | rt x => exact p4
              | exc c s5 => simp only [eb] at p4; exact p4
              | stuck => simp only [eb] at p4; exact p4
          · rw [if_neg g2] at p2; exact p2.elim
        · have e : i = xs.length := by omega
          subst e
          rw [List.drop_length] at p2
          unfold forML at p2
          by_cases g2 : s2.G[n]? = some (.lst xs)
          · rw [if_pos g2] at p2
            obtain ⟨vs2, hx2, rx2⟩ := S2.refL hn2 g2
            exact .inl ⟨⟨vs2, sqlh hx2, by rw [rx2.length]; exact Nat.le_refl _⟩, p2 ρ2 O2 σ2 H2 S2 Fut.refl⟩
          · rw [if_neg g2] at p2; exact p2.elim
  | _ => exact p1.elim
end
theorem forML_map {α : Type} {g : GM} {b : SM} {n : Nat} {all : List MV} (e : α → MV) (St : MS → Prop) (hS : ∀ s, St s → s.G[n]? = some (.lst all)) : ∀ (xs : List α) (s : MS), St s →
    (∀ x ∈ xs, ∀ s, St s → ∃ s1 s2, g (e x) s = some s1 ∧ b s1 = .ok .nx s2 ∧ St s2) → ∃ s', forML g b n all (xs.map e) s = .ok .nx s' ∧ St s'
  | [], s, h, _ => ⟨s, by simp only [List.map_nil, forML, hS s h, if_true], h⟩
  | x :: xs, s, h, t => by
    obtain ⟨s1, s2, h1, h2, h3⟩ := t x List.mem_cons_self s h
    obtain ⟨s', h4, h5⟩ := forML_map e St hS xs s2 h3 fun y hy => t y (List.mem_cons_of_mem _ hy)
    refine ⟨s', ?_, h5⟩
    simp only [List.map_cons, forML, hS s h, if_true, h1, h2]
    exact h4
end M

namespace M
open PySem L2 PyProof.Rows
open Classical
/-! ## a comprehension over a live list that the elements do not change -/
noncomputable def lcML (g : GM) (t : TM) (e : EM) (vs : List Nat) (E0 : List SV) (n : Nat) (all : List MV) : List MV → List MV → MHeap → R (List MV)
  | [], acc, G => if G[n]? = some (.lst all) then .ok acc ⟨E0, G⟩ else .stuck
  | x :: xs, acc, G => if G[n]? = some (.lst all) then (match lcOne g t e vs E0 x G with
    | .ok (some y) s => lcML g t e vs E0 n all xs (acc ++ [y]) s.G
    | .ok none s => lcML g t e vs E0 n all xs acc s.G
    | _ => .stuck) else .stuck
noncomputable def lcEndFL (g : GM) (t : TM) (e : EM) (vs : List Nat) (n : Nat) (xs : List MV) : MS → R MO := fun s =>
  if lim xs.length then if noOw s.env vs = true then match lcML g t e vs (wipeE s.env vs) n xs xs [] s.G with
    | .ok ys s2 => .ok (.lst ys) ⟨s.env, s2.G⟩
    | _ => .stuck
  else .stuck else .stuck
noncomputable def mLcLL (m0 : EM) (vs : List Nat) (g : GM) (t : TM) (e : EM) : LM := fun s => (m0 s).bind fun x s1 => match x with
  | .ref n => (match s1.G[n]? with
    | some (.lst xs) => lcEndFL g t e vs n xs s1
    | _ => .stuck)
  | _ => .stuck
theorem sf_lcL {K : KA} {W : WX} {t0 : TE} {m0 : EM} {ts vs : List Nat} {g : TG} {mg : GM} {tt : TT} {mt : TM} {te : TE} {me : EM} (hi : SimE K W t0 m0) (hg : SimG K ts g mg) (ht : SimT K W0 tt mt) (he : SimE K W0 te me) (hts : ∀ i ∈ ts, i ∈ vs) :
    SimN K W (tLc (iList K.F t0) g tt te vs) (mLcLL m0 vs mg mt me) := by
  intro X ρ O s σ H Q S p
  refine hi.bindN S p fun x s1 ρ1 O1 H1 v S1 F1 r1 p1 => ?_
  cases r1 with
  | ref hr =>
    rename_i n a
    dsimp only at p1
    cases g1 : s1.G[n]? with
    | none => simp only [g1] at p1; exact p1.elim
    | some o => cases o with
      | ins c ks vs => simp only [g1] at p1; exact p1.elim
      | dic ms => simp only [g1] at p1; exact p1.elim
      | lst xs =>
        simp only [g1] at p1
        obtain ⟨vs1, hx1, rx1⟩ := S1.refL hr g1
        refine ⟨a, rfl, ⟨_, sqlh hx1⟩, ?_⟩
        intro D hD
        unfold lcEndFL at p1
        by_cases hz : lim xs.length
        case neg => rw [if_neg hz] at p1; exact p1.elim
        rw [if_pos hz] at p1
        by_cases hn : noOw s1.env vs = true
        case neg => rw [if_neg hn] at p1; exact p1.elim
        rw [if_pos hn] at p1
        cases er : lcML mg mt me vs (wipeE s1.env vs) n xs xs [] s1.G with
        | stuck => simp only [er] at p1; exact p1.elim
        | exc c s2 => simp only [er] at p1; exact p1.elim
        | ok ys sF =>
          simp only [er] at p1
          obtain ⟨O2, S2, F2⟩ := (S1.hide hD (.lst [])).wipe vs
          have v12 : Ex (view X ρ1 O1 H1) (view (fun b => X b ∨ b = D) ρ1 O2 (upd H1 D (.lst []))) := by
            have := F2.ex; rw [view_hide hD] at this; exact this
          refine ⟨fun i m H' => m = xs.length - i ∧ i ≤ xs.length ∧ ∃ ρ' O' G' acc accv, H' D = some (.lst accv) ∧ Reps ρ' K (view (fun b => X b ∨ b = D) ρ' O' H') acc accv ∧ acc.length ≤ i ∧
              SR K (fun b => X b ∨ b = D) ρ' O' ⟨wipeE s1.env vs, G'⟩ (L2.wipe σ vs) H' ∧ Pre ρ1 ρ' ∧ Ex (view X ρ1 O1 H1) (view (fun b => X b ∨ b = D) ρ' O' H') ∧ (∀ b o, X b → H1 b = some o → H' b = some o) ∧
              lcML mg mt me vs (wipeE s1.env vs) n xs (xs.drop i) acc G' = .ok ys sF,
            ⟨xs.length, by simp, Nat.zero_le _, ρ1, O2, s1.G, [], [], upd_same, .nil, Nat.le_refl _, S2, Pre.refl _, v12, fun b o hb e => Ex.new hD b o e, er⟩, ?_⟩
          rintro i m H2 ⟨rfl, hi', ρ2, O2, G2, acc, accv, hd2, ra, hl2, S2, q2, v2, x2, e2⟩
          have e02 : Ex (view X ρ1 O1 H1) H2 := v2.trans (view_le _ _ _ _)
          by_cases hlt : i < xs.length
          · have hd : xs.drop i = xs[i] :: xs.drop (i + 1) := List.drop_eq_getElem_cons hlt
            rw [hd] at e2
            unfold lcML lcOne at e2
            by_cases g2 : G2[n]? = some (.lst xs)
            case neg => rw [if_neg g2] at e2; cases e2
            rw [if_pos g2] at e2
            obtain ⟨vs2, hx2, rx2⟩ := S2.refL (q2 n a hr) g2
            have hv : i < vs2.length := by rw [← rx2.length]; exact hlt
            refine .inr ⟨⟨vs2, vs2[i], sqlh hx2, List.getElem?_eq_getElem hv⟩, fun H' => i + 1 ≤ xs.length ∧ ∃ ρ' O' G' acc accv, H' D = some (.lst accv) ∧ Reps ρ' K (view (fun b => X b ∨ b = D) ρ' O' H') acc accv ∧ acc.length ≤ i + 1 ∧
                SR K (fun b => X b ∨ b = D) ρ' O' ⟨wipeE s1.env vs, G'⟩ (L2.wipe σ vs) H' ∧ Pre ρ1 ρ' ∧ Ex (view X ρ1 O1 H1) (view (fun b => X b ∨ b = D) ρ' O' H') ∧ (∀ b o, X b → H1 b = some o → H' b = some o) ∧
                lcML mg mt me vs (wipeE s1.env vs) n xs (xs.drop (i + 1)) acc G' = .ok ys sF, fun H' h => ⟨xs.length - (i + 1), by omega, rfl, h⟩, fun x H3 y => ?_⟩
            obtain ⟨rfl, y⟩ := y
            obtain ⟨v3, hv3, rv3⟩ := rx2.get (List.getElem?_eq_getElem hlt)
            have y2 := y vs2 (sqlh hx2)
            rw [hv3] at y2
            cases y2
            cases eg : mg xs[i] ⟨wipeE s1.env vs, G2⟩ with
            | none => simp only [eg] at e2; cases e2
            | some s3 =>
              simp only [eg] at e2
              refine hg _ ρ2 O2 _ _ _ xs[i] _ s3 _ S2 rv3 eg fun O4 σ4 S4 F4 T4 => ?_
              have tw : L2.wipe σ4 vs = L2.wipe σ vs := (T4 vs hts).trans (wipe_idem σ vs)
              refine ⟨tw, ?_⟩
              have F24 := F4
              refine ht _ ρ2 O4 s3 σ4 _ _ S4 ?_
              cases et : mt s3 with
              | stuck => simp only [et, R.bind_stuck] at e2; cases e2
              | exc c s5 => simp only [et, R.bind_exc] at e2; cases e2
              | ok b s5 =>
                simp only [et, R.bind_ok] at e2
                intro ρ5 O5 H5 S5 F5
                have F25 := F24.trans F5
                cases b with
                | false =>
                  simp only [Bool.false_eq_true, if_false] at e2 ⊢
                  by_cases hw : wipeE s5.env vs = wipeE s1.env vs
                  · rw [if_pos hw] at e2
                    simp only at e2
                    obtain ⟨O6, S6, F6⟩ := S5.wipe vs
                    have F26 := F25.trans F6
                    rw [hw, tw] at S6
                    exact ⟨hlt, ρ5, O6, s5.G, acc, accv, F26.xs D _ (.inr rfl) hd2, F26.reps ra, by omega, S6, q2.trans F26.pre, v2.trans F26.ex, fun b o hb e => F26.xs b o (.inl hb) (x2 b o hb e), e2⟩
                  · rw [if_neg hw] at e2; cases e2
                | true =>
                  simp only [if_true] at e2 ⊢
                  refine he _ ρ5 O5 s5 σ4 H5 _ S5 ?_
                  cases ee : me s5 with
                  | stuck => simp only [ee, R.bind_stuck] at e2; cases e2
                  | exc c s7 => simp only [ee, R.bind_exc] at e2; cases e2
                  | ok y s7 =>
                    simp only [ee, R.bind_ok] at e2
                    intro ρ7 O7 H7 v S7 F7 r7
                    have F27 := F25.trans F7
                    by_cases hw : wipeE s7.env vs = wipeE s1.env vs
                    · rw [if_pos hw] at e2
                      simp only at e2
                      obtain ⟨O8, S8, F8⟩ := S7.wipe vs
                      have F28 := F27.trans F8
                      rw [hw, tw] at S8
                      have hd7 := F28.xs D _ (.inr rfl) hd2
                      have la : accv.length = acc.length := ra.length.symm
                      refine ⟨accv, hd7, ?_, hlt, ρ7, O8, s7.G, acc ++ [y], accv ++ [v], upd_same, ?_, by simp; omega, S8.put _, q2.trans F28.pre, ?_, fun b o hb e => ?_, e2⟩
                      · have hz' : xs.length ≤ 16777216 := hz
                        rw [sizeLine_eq, la]
                        omega
                      · rw [view_put]
                        exact (F28.reps ra).append (.cons (F8.rep r7) .nil)
                      · rw [view_put]; exact v2.trans F28.ex
                      · have h7 := F28.xs b o (.inl hb) (x2 b o hb e)
                        have ne : b ≠ D := fun q => by
                          subst q
                          rw [hD] at e; cases e
                        rw [upd_ne ne]; exact h7
                    · rw [if_neg hw] at e2; cases e2
          · have e : i = xs.length := by omega
            subst e
            rw [List.drop_length] at e2
            unfold lcML at e2
            by_cases g2 : G2[n]? = some (.lst xs)
            case neg => rw [if_neg g2] at e2; cases e2
            rw [if_pos g2] at e2
            cases e2
            obtain ⟨vs2, hx2, rx2⟩ := S2.refL (q2 n a hr) g2
            refine .inl ⟨⟨vs2, sqlh hx2, by rw [rx2.length]; exact Nat.le_refl _⟩, ?_⟩
            have SB := S1.backH hn q2 v2 S2
            refine p1 ρ2 O2 H2 D ⟨SB, fun q => ?_, ⟨accv, hd2, ra⟩, q2, v2, x2⟩
            obtain ⟨o, ho⟩ := S1.xo D q
            rw [hD] at ho; cases ho
  | _ => exact p1.elim
/-- every element alike: none raises, none changes anything -/
theorem lcML_map {α : Type} {g : GM} {t : TM} {e : EM} {vs : List Nat} {E0 : List SV} {n : Nat} {all : List MV} {G : MHeap} (hG : G[n]? = some (.lst all)) (i : α → MV) (f : α → MV) : ∀ (xs : List α) (acc : List MV), (∀ x ∈ xs, ∃ s, lcOne g t e vs E0 (i x) G = .ok (some (f x)) s ∧ s.G = G) → lcML g t e vs E0 n all (xs.map i) acc G = .ok (acc ++ xs.map f) ⟨E0, G⟩
  | [], acc, _ => by rw [List.map_nil, lcML, if_pos hG]; simp
  | x :: xs, acc, h => by
    obtain ⟨s, h1, h2⟩ := h x (by simp)
    rw [List.map_cons, lcML, if_pos hG, h1]
    simp only
    rw [h2, lcML_map hG i f xs (acc ++ [f x]) (fun y hy => h y (by simp [hy]))]
    simp
theorem lcEndFL_typed {α : Type} {g : GM} {t : TM} {el : EM} {vs : List Nat} {n : Nat} {xs : List α} {s : MS} (e f : α → MV) (hG : s.G[n]? = some (.lst (xs.map e))) (hl : xs.length ≤ 16777216) (hn : noOw s.env vs = true) (h : ∀ x ∈ xs, ∃ s', lcOne g t el vs (wipeE s.env vs) (e x) s.G = .ok (some (f x)) s' ∧ s'.G = s.G) : lcEndFL g t el vs n (xs.map e) s = .ok (.lst (xs.map f)) s := by
  unfold lcEndFL
  rw [if_pos (show lim _ by unfold lim; rw [List.length_map]; exact hl), if_pos hn, lcML_map hG e f xs [] h, List.nil_append]
section
variable {ct : String → Addr} {X : Cx} {W : WX} {scope : Scope} {elt tg iter : Expr} {ifs : List Expr} {t0 : TE} {m0 : EM} {mg : GM} {me : EM} {mt : TM} {ts : List Nat}
theorem f_lcL {own : List (Str × Nat)} {pos : Pos}
    (hN : X.N.Nodup) (hi : PEM ct X W iter t0 m0) (ok : BlkOk X.N X.env.scope scope own)
    (hg : ∀ s H C cl fp, ∃ g, PGM ct (blkX X scope s H C cl fp) tg ts g mg) (ht : ∀ s H C cl fp, ∃ te, PQM ct (blkX X scope s H C cl fp) W0 ifs te mt)
    (he : ∀ s H C cl fp, ∃ te, PEM ct (blkX X scope s H C cl fp) W0 elt te me) (hc : X.calm = true := by rfl) (hts : ∀ i ∈ ts, i ∈ own.map (·.2) := by decide) (hs : ∀ x, foldedSetIterable iter X.env x = pure x := by intro _; rfl) :
    PNM ct X W (.ListComp elt [⟨tg, iter, ifs, 0⟩] scope pos) (tLc (iList X.K t0) (gAll ct X scope tg ts mg) (qAll ct X scope ifs mt) (eAll ct X scope elt me) (own.map (·.2))) (mLcLL m0 (own.map (·.2)) mg mt me) :=
  ⟨pe_lc hc hN (pi_list hi.pe) ok (gAll_pe hg) (qAll_pe ht) (eAll_pe he) hs, sf_lcL hi.sim gAll_sim qAll_sim eAll_sim hts⟩
theorem s_forL {sts : List Stmt} {e : Expr} {g : TG} {ta : TS} {te : TE} {me : EM} {ma : SM} {pos : Pos} (hp : PassesOwn (model X.prog X.w) X.A X.env X.xe) (hi : PEM ct X W e te me) (hg : PGM ct X tg ts g mg) (hb : PSsM ct X W sts ta ma) (hc : X.calm = true := by rfl) (hs : ∀ x, foldedSetIterable e X.env x = pure x := by intro _; rfl) : PSM ct X W (.For tg e sts [] pos) (tFor (iList X.K te) g ta) (mForL me mg ma) :=
  ⟨ps_for hp hc (pi_list hi.pe) hg.pe hb.pe hs, ss_forL hi.sim hg.sim hb.sim⟩
end
end M

namespace M
open PySem L2 PyProof.Rows
section
variable {K : KA} {W : WX}
theorem sim_dic0 : SimE K W tDNewK (mCon .dic) := by
  intro X ρ O s σ H Q S p q hq
  exact p.grown S (Ex.new hq) (.dic (S.view_new hq))
end
section
variable {ct : String → Addr} {X : Cx} {W : WX} {pos : Pos}
theorem e_dic0 : PEM ct X W (.Dict [] [] pos) tDNewK (mCon .dic) := ⟨pe_dnewK, sim_dic0⟩
end
theorem kit_dict_int : kitB "dict" "int" = some false := by decide +kernel
theorem kit_dict_bool : kitB "dict" "bool" = some false := by decide +kernel
theorem kit_dict_str : kitB "dict" "str" = some false := by decide +kernel
theorem kit_dict_list : kitB "dict" "list" = some false := by decide +kernel
theorem kit_dict_tuple : kitB "dict" "tuple" = some false := by decide +kernel
theorem kit_dict_dict : kitB "dict" "dict" = some true := by decide +kernel
end M

namespace M
open PySem L2 PyProof.Rows
noncomputable def mIns (i : Nat) (mk me : EM) : SM := fun s => match s.env[i]? with
  | some (.ow _) => (mk s).bind fun k s1 => (me s1).bind fun y s2 => match s2.env[i]?, k with
    | some (.ow xs), .int j => if xs.length < 16777216 ∧ 0 ≤ j ∧ j < 1000000000 then .ok .nx ⟨s2.env.set i (.ow (xs.take j.toNat ++ [y] ++ xs.drop j.toNat)), s2.G⟩ else .stuck
    | _, _ => .stuck
  | _ => .stuck
noncomputable def mPopO (i : Nat) (mk : EM) : EM := fun s => match s.env[i]? with
  | some (.ow _) => (mk s).bind fun k s1 => match s1.env[i]?, k with
    | some (.ow xs), .int j => if 0 ≤ j ∧ j < 1000000000 then (match xs[j.toNat]? with
      | some y => .ok y ⟨s1.env.set i (.ow (xs.eraseIdx j.toNat)), s1.G⟩
      | none => .stuck) else .stuck
    | _, _ => .stuck
  | _ => .stuck
def rIns : V → List V → Hp → VK → Prop := fun x vs H Q => ∃ (l : Addr) (xs : List V) (i : Int) (y : V), x = .ref l ∧ vs = [.int i, y] ∧ H l = some (.lst xs) ∧ xs.length < sizeLine ∧ 0 ≤ i ∧ i < 2 ^ 63 ∧
    Q .non (upd H l (.lst (xs.take i.toNat ++ [y] ++ xs.drop i.toNat)))
section
variable {K : KA} {W : WX} {tk te : TE} {mk me : EM}
theorem ss_ins (i : Nat) (hk : SimE K W tk mk) (h : SimE K W te me) : SimS K W (tDrop (tBM K.F "list" rIns (tVar i) (tCons tk (tCons te tNil)))) (mIns i mk me) := by
  intro X ρ O s σ H D S p
  unfold mIns at p
  cases e : s.env[i]? with
  | none => rw [e] at p; exact p.elim
  | some z =>
    rw [e] at p
    have zz := S.sl i z e
    cases z with
    | un => exact p.elim
    | sh x => exact p.elim
    | ow xs0 =>
      obtain ⟨a, vs0, h1, h2, h3, h4⟩ := zz
      refine ⟨_, h2, .inl ⟨rfl, _, sqlh h3⟩, ?_⟩
      refine hk.bindS S p fun k s1 ρ1 O1 H1 w S1 F1 r1 p1 => ?_
      refine h.bindS S1 p1 fun y s2 ρ2 O2 H2 u S2 F2 r2 p2 => ?_
      cases e1 : s2.env[i]? with
      | none => rw [e1] at p2; exact p2.elim
      | some z1 =>
        rw [e1] at p2
        have zz1 := S2.sl i z1 e1
        cases z1 with
        | un => exact p2.elim
        | sh x => exact p2.elim
        | ow xs =>
          obtain ⟨b, vs, g1, g2, g3, g4⟩ := zz1
          rw [h2] at g2
          have eb : a = b := by have := Option.some.inj (Option.some.inj g2); cases this; rfl
          subst eb
          cases r1 with
          | int j =>
            dsimp only at p2
            by_cases hz : xs.length < 16777216 ∧ 0 ≤ j ∧ j < 1000000000
            · rw [if_pos hz] at p2
              refine ⟨a, vs, j, u, rfl, rfl, g3, by rw [← g4.length, sizeLine_eq]; exact hz.1, hz.2.1, by omega, ?_⟩
              have hi := (List.getElem?_eq_some_iff.mp e1).1
              obtain ⟨S3, F3⟩ := S2.setOw g1 hi h2 (((g4.take j.toNat).append (.cons r2 .nil)).append (g4.drop j.toNat))
              exact p2 ρ2 O2 σ _ S3 F3
            · rw [if_neg hz] at p2; exact p2.elim
          | _ => exact p2.elim
theorem Reps.erase {ρ : List Addr} {K : KA} {H : Hp} : ∀ {ms : List MV} {vs : List V} (i : Nat), Reps ρ K H ms vs → Reps ρ K H (ms.eraseIdx i) (vs.eraseIdx i)
  | _, _, _, .nil => .nil
  | _, _, 0, .cons _ t => t
  | _, _, i + 1, .cons q t => .cons q (Reps.erase i t)
theorem sim_popO (i : Nat) (hk : SimE K W tk mk) : SimE K W (tBM K.F "list" rPopAt (tVar i) (tCons tk tNil)) (mPopO i mk) := by
  intro X ρ O s σ H Q S p
  unfold mPopO at p
  cases e : s.env[i]? with
  | none => rw [e] at p; exact p.elim
  | some z =>
    rw [e] at p
    have zz := S.sl i z e
    cases z with
    | un => exact p.elim
    | sh x => exact p.elim
    | ow xs0 =>
      obtain ⟨a, vs0, h1, h2, h3, h4⟩ := zz
      refine ⟨_, h2, .inl ⟨rfl, _, sqlh h3⟩, ?_⟩
      refine hk.bindE S p fun k s1 ρ1 O1 H1 w S1 F1 r1 p1 => ?_
      cases e1 : s1.env[i]? with
      | none => rw [e1] at p1; exact p1.elim
      | some z1 =>
        rw [e1] at p1
        have zz1 := S1.sl i z1 e1
        cases z1 with
        | un => exact p1.elim
        | sh x => exact p1.elim
        | ow xs =>
          obtain ⟨b, vs, g1, g2, g3, g4⟩ := zz1
          rw [h2] at g2
          have eb : a = b := by have := Option.some.inj (Option.some.inj g2); cases this; rfl
          subst eb
          cases r1 with
          | int j =>
            dsimp only at p1
            by_cases hz : 0 ≤ j ∧ j < 1000000000
            · rw [if_pos hz] at p1
              cases ex : xs[j.toNat]? with
              | none => rw [ex] at p1; exact p1.elim
              | some y =>
                rw [ex] at p1
                obtain ⟨u, hu, ru⟩ := g4.get ex
                have hlt : j.toNat < vs.length := (List.getElem?_eq_some_iff.mp hu).1
                refine ⟨a, vs, j, j.toNat, u, rfl, rfl, g3, by omega, by omega, ?_, hu, ?_⟩
                · exact (ixN_seq (n := vs.length) (i := j) (j := j.toNat) (by unfold ixN; rw [if_pos (by omega), if_pos (by omega)])).1
                have hi := (List.getElem?_eq_some_iff.mp e1).1
                obtain ⟨S3, F3⟩ := S1.setOw g1 hi h2 (g4.erase j.toNat)
                exact p1 ρ1 O1 _ u S3 F3 (F3.rep ru)
            · rw [if_neg hz] at p1; exact p1.elim
          | _ => exact p1.elim
end
section
variable {ct : String → Addr} {X : Cx} {W : WX} {k e : Expr} {tk te : TE} {mk me : EM} {pos p : Pos}
theorem s_ins (i : Nat) {x : Str} {apos spos : Pos} (hk : PEM ct X W k tk mk) (h : PEM ct X W e te me) (hN : X.N[i]? = some x := by rfl) (hv : Vis X.env.scope x := by first | exact Or.inl rfl | exact Or.inr (Or.inl rfl) | exact Or.inr (Or.inr rfl)) (hd : (x == ("__debug__" : Str)) = false := by decide) (hcd : (x == ("__classdict__" : Str)) = false := by decide)
    (hke : starEach [k, e] X.env = (false, eval k X.env) :: starEach [e] X.env := by rfl)
    (he : starEach [e] X.env = (false, eval e X.env) :: starEach [] X.env := by rfl)
    (hbase : attributeBase (.Name x p) "insert" X.env (eval (.Name x p) X.env) = eval (.Name x p) X.env := by rfl)
    (hfew : ((backTo pos (starEach [k, e] X.env)).all (fun x => !x.1) && (backToKw pos (keywordEach [] X.env)).all (fun x => x.1.isSome)
      && decide ([k, e].length + ([] : List Keyword).length + (if ([] : List Keyword).isEmpty then 0 else 1) < 30)) = true := by rfl)
    (hline : (apos.endLine == pos.line) = true := by rfl) (hplain : (backTo pos (starEach [e] X.env)).any (·.1) = false := by rfl)
    (hs : swapsWith (.Call (.Attribute (.Name x p) "insert" apos) [k, e] [] pos) none spos.line X.env = pure false := by rfl) :
    PSM ct X W (.Expr (.Call (.Attribute (.Name x p) "insert" apos) [k, e] [] pos) spos) (tDrop (tBM X.K "list" rIns (tVar i) (tCons tk (tCons te tNil)))) (mIns i mk me) :=
  ⟨ps_expr (pe_bm PySem.F.plainAttrs_list PySem.F.slot_list_insert PySem.F.type_list_insert mt_insert (pe_var hN hv hd hcd) (pa_cons hk.pe (pa_cons h.pe pa_nil he) hke) hbase hfew hline hke hplain) hs, ss_ins i hk.sim h.sim⟩
theorem e_popO (i : Nat) {x : Str} {apos : Pos} (h : PEM ct X W e te me) (hN : X.N[i]? = some x := by rfl) (hv : Vis X.env.scope x := by first | exact Or.inl rfl | exact Or.inr (Or.inl rfl) | exact Or.inr (Or.inr rfl)) (hd : (x == ("__debug__" : Str)) = false := by decide) (hcd : (x == ("__classdict__" : Str)) = false := by decide)
    (he : starEach [e] X.env = (false, eval e X.env) :: starEach [] X.env := by rfl)
    (hbase : attributeBase (.Name x p) "pop" X.env (eval (.Name x p) X.env) = eval (.Name x p) X.env := by rfl)
    (hfew : ((backTo pos (starEach [e] X.env)).all (fun x => !x.1) && (backToKw pos (keywordEach [] X.env)).all (fun x => x.1.isSome)
      && decide ([e].length + ([] : List Keyword).length + (if ([] : List Keyword).isEmpty then 0 else 1) < 30)) = true := by rfl)
    (hline : (apos.endLine == pos.line) = true := by rfl) (hplain : (backTo pos (starEach [] X.env)).any (·.1) = false := by rfl) :
    PEM ct X W (.Call (.Attribute (.Name x p) "pop" apos) [e] [] pos) (tBM X.K "list" rPopAt (tVar i) (tCons te tNil)) (mPopO i me) :=
  ⟨pe_bm PySem.F.plainAttrs_list PySem.F.slot_list_pop PySem.F.type_list_pop mt_popAt (pe_var hN hv hd hcd) (pa_cons h.pe pa_nil he) hbase hfew hline he hplain, sim_popO i h.sim⟩
end
end M

namespace PySem
open Sem (wp)
section
variable {prog : Program} {w : World} {A : Around} {E : Value → Shared → Prop} {s : Shared}
theorem wpAny_extend_rev {R : Result → Shared → Prop} {it l : Addr} {items : Array Value} (hh : A.handled = none) (hit : s.heap.IsRevIter it l ((items.size : Int) - 1)) (hl : s.heap.IsList l items) (hne : l ≠ it) (hn : items.size ≤ sizeLine) (S : Addr) (res : Value) (c₀ : Nat)
    (hSi : S ≠ it) (hSl : S ≠ l) (hS : s.heap.get? S = some { cls := .type "list", data := .seq #[] c₀ })
    (hR : ∀ h' tk acc' c', (∀ b o, b ≠ it → b ≠ S → s.heap.get? b = some o → h'.get? b = some o) → h'.get? S = some { cls := .type "list", dict := none, data := .seq acc' c', slots := #[] } → ItemsOf (fun i v => items[items.size - 1 - i]? = some v) acc' items.size → R (.ok (.ret res)) { s with heap := h', toks := tk }) :
    wpAny (model prog w) A.in1 (Builtin.List.listExtendWith (.ref S) (.ref it) res)
      (fun fin s' => match fin with | .done f => R (.ok f) s' | .again c' => c'.quiet = true ∧ codeAny (model prog w) A c' R s') (fun e s' => R (.error e) s') s := by
  have W := (Walks.listRev (prog := prog) (w := w) (A := A.in1) hh it l hne items).toS
  have hSf : S ∉ [it, l] := by simp only [List.mem_cons, List.not_mem_nil, or_false, not_or]; exact ⟨hSi, hSl⟩
  have hT : s.TypeIs (.ref it) "list_reverseiterator" := Heap.IsRevIter.typeIs hit
  have h1 : Builtin.List.listSameRef (.ref S) (.ref it) = false := by simp [Builtin.List.listSameRef, hSi]
  unfold Builtin.List.listExtendWith
  refine wpAny_bind (wpAny_typeOf hT ?_)
  rw [if_neg (by rw [h1]; decide)]
  refine wpAny_bind (wpAny_pyIter_revIter hit ?_)
  refine wpAny_bind (wpAny_holding ?_)
  unfold Builtin.List.listLengthHint
  refine wpAny_bind (wpAny_specialOf hT RT.nolen_lri ?_)
  show wpAny _ A.in1 (specialOf (Value.ref it) (Str.ofString "__length_hint__") >>= _) _ _ _
  refine wpAny_bind (wpAny_specialOf hT RT.hint_lri ?_)
  generalize hid : ("list_reverseiterator.__length_hint__" : String) = id0
  wp_delta
  rw [show splitId id0 = some ("list_reverseiterator", "__length_hint__") from by subst hid; decide +kernel]
  subst hid
  refine wpAny_bind (wpAny_isInstance (b := true) hT (by rw [isSubtype_type]; kernel_rfl) ?_)
  refine wpAny_pure ?_
  rw [if_neg (by decide)]
  have e0 : ((items.size : Nat) : Int) - 1 - ((0 : Nat) : Int) = (items.size : Int) - 1 := by omega
  refine wpAny_pure ⟨plainId_quiet F.plain_extend_loop _, codeAny_extend_loopS W hn _ hSf _ items.size 0 _ _ _ rfl (Nat.zero_le _) ⟨Nat.zero_le _, by rw [e0]; exact hit, hl⟩ hS (ItemsOf.nil _) fun s' acc' c' hm hS' hacc => ?_⟩
  rw [Moved.eq_with hm]
  refine hR s'.heap s'.toks acc' c' (fun b o hb hbS e => hm.heap b o (fun hmem => ?_) e) hS' hacc
  rcases List.mem_cons.mp hmem with e' | hmem
  · exact hbS e'
  · exact hb (List.mem_singleton.mp hmem)
theorem wpAny_list_init_rev {R : Result → Shared → Prop} {it l : Addr} {items : Array Value} (hh : A.handled = none) (hit : s.heap.IsRevIter it l ((items.size : Int) - 1)) (hl : s.heap.IsList l items) (hne : l ≠ it) (hn : items.size ≤ sizeLine) (S : Addr) (hSi : S ≠ it) (hSl : S ≠ l)
    (hS : s.heap.get? S = some { cls := .type "list", data := .seq #[] })
    (hR : ∀ h' tk acc' c', (∀ b o, b ≠ it → b ≠ S → s.heap.get? b = some o → h'.get? b = some o) → h'.get? S = some { cls := .type "list", dict := none, data := .seq acc' c', slots := #[] } → ItemsOf (fun i v => items[items.size - 1 - i]? = some v) acc' items.size → R (.ok (.ret .none)) { s with heap := h', toks := tk }) :
    wpAny (model prog w) A.in1 (Builtin.«list.__init__» ⟨[.ref S, .ref it], []⟩)
      (fun fin s' => match fin with | .done f => R (.ok f) s' | .again c' => c'.quiet = true ∧ codeAny (model prog w) A c' R s') (fun e s' => R (.error e) s') s := by
  show wpAny _ _ (do let old ← Builtin.List.listItems (.ref S); Builtin.List.listUpdate (.ref S) (fun _ => #[]); letGo old.toList.reverse; Builtin.List.listExtendWith (.ref S) (.ref it) .none) _ _ s
  refine wpAny_bind ?_
  unfold Builtin.List.listItems
  refine wpAny_bind (wpAny_seqItems hS rfl (wpAny_pure ?_))
  show wpAny _ _ (updateSeq S (fun _ => #[]) >>= fun _ => letGo (#[] : Array Value).toList.reverse >>= fun _ => Builtin.List.listExtendWith (.ref S) (.ref it) .none) _ _ s
  refine wpAny_bind (wpAny_updateSeq hS rfl ?_)
  have hS₂ := Heap.get?_update_self (Obj.mapSeq (fun _ => (#[] : Array Value))) hS rfl
  have oth : ∀ b o, b ≠ S → s.heap.get? b = some o → (s.heap.update S (Obj.mapSeq (fun _ => (#[] : Array Value)))).get? b = some o :=
    fun b o hb e => (Heap.get?_update_other _ _ (Ne.symm hb)).trans e
  refine wpAny_bind (wpAny_letGo ?_)
  refine wpAny_extend_rev hh (hit.at fun o e => oth it o (Ne.symm hSi) e) ?_ hne hn S .none _ hSi hSl hS₂ fun h' tk acc' c' hk hS' hacc => ?_
  · obtain ⟨ol, hol, r⟩ := id hl
    exact ⟨ol, oth l ol (Ne.symm hSl) hol, r⟩
  · exact hR h' tk acc' c' (fun b o hb hbS e => hk b o hb hbS (oth b o hbS e)) hS' hacc
theorem call_list_rev {Q : Value → Shared → Prop} {it l : Addr} {items : Array Value} (hh : A.handled = none) (hit : s.heap.IsRevIter it l ((items.size : Int) - 1)) (hl : s.heap.IsList l items) (hne : l ≠ it) (hn : items.size ≤ sizeLine)
    (hQ : ∀ h' tk acc' c', (∀ b o, b ≠ it → s.heap.get? b = some o → h'.get? b = some o) →
      h'.get? s.heap.objs.size = some { cls := .type "list", dict := none, data := .seq acc' c', slots := #[] } → ItemsOf (fun i v => items[items.size - 1 - i]? = some v) acc' items.size → Q (.ref s.heap.objs.size) { s with heap := h', toks := tk }) :
    wpAny (model prog w) A (call (.type "list") [.ref it]) Q E s := by
  obtain ⟨oi, hoi, _⟩ := id hit
  obtain ⟨ol, hol, _⟩ := id hl
  refine callType_codes (Q₁ := fun obj s₁ => obj = .ref s.heap.objs.size ∧ s₁ = { s with heap := s.heap.push { cls := .type "list", data := .seq #[] } }) F.called_list (F.typeCall_list_1 _) F.entry_list_init
    (code_list_new _ ⟨rfl, rfl⟩) fun obj s₁ h₁ => ?_
  obtain ⟨rfl, rfl⟩ := h₁
  have hS : (s.heap.push { cls := .type "list", data := .seq #[] }).get? s.heap.objs.size = some { cls := .type "list", data := .seq #[] } := Heap.get?_push_size _ rfl
  refine ⟨⟨_, hS, rfl⟩, F.args_list_init_2 _ _, wpAny_list_init_rev (A := A.in1) hh (hit.at fun o e => Heap.get?_push_of_some _ e) (hl.push _) hne hn _ (Nat.ne_of_gt (Heap.lt_size hoi)) (Nat.ne_of_gt (Heap.lt_size hol)) hS fun h' tk acc' c' hk hS' hacc => ?_⟩
  exact ⟨rfl, hQ h' tk acc' c' (fun b o hb e => hk b o hb (Nat.ne_of_lt (Heap.lt_size e)) (Heap.get?_push_of_some _ e)) hS' hacc⟩
end
end PySem
namespace M
open PySem L2 PyProof.Rows
def tListRev (K : PySem.W.Frag) (te : TE) : TE := fun σ H Q => te σ H fun v H1 => ∃ (a : Addr) (xs : List V), v = .ref a ∧ SqL K H1 a xs ∧ ∀ q, H1 q = none → Q (.ref q) (upd H1 q (.lst xs.reverse))
section
variable {X : Cx}
theorem pe_listRev {e : Expr} {te : TE} {p p2 pos pos2 : Pos} (hc : X.calm = true) (hg : Gl X "list") (hm : X.mg "list" = none) (hg2 : Gl X "reversed") (hm2 : X.mg "reversed" = none) (he : PE X e te)
    (hs : starEach [e] X.env = (false, eval e X.env) :: starEach [] X.env := by rfl)
    (hs2 : starEach [.Call (.Name "reversed" p2) [e] [] pos2] X.env = (false, eval (.Call (.Name "reversed" p2) [e] [] pos2) X.env) :: starEach [] X.env := by rfl) :
    PE X (.Call (.Name "list" p) [.Call (.Name "reversed" p2) [e] [] pos2] [] pos) (tListRev X.K te) := by
  refine ⟨fun pins s σ H Q I h => ?_⟩
  refine Call_ (ld_blt I hg hm PyProof.Rows.boot_list (PyProof.Rows.callWith_type1 (args_cons (Call_ (ld_blt I hg2 hm2 PyProof.Rows.boot_reversed (PyProof.Rows.callWith_type1 (args_cons (thn (he.run pins s σ H _ I h) fun u s1 ⟨v, H1, I1, r1, q1⟩ => args_nil ?_) hs) hs rfl))) hs2) hs2 rfl))
  obtain ⟨a, xs, ev, hq, q⟩ := q1
  subst ev
  obtain rfl : u = Value.ref a := r1
  obtain ⟨its, rv, p', hz⟩ := I1.list hq
  refine call_reversed_list p'.isList (args_nil ?_)
  have k0 : ∀ b o, s1.heap.get? b = some o → (s1.heap.push (revObj a ((its.toArray.size : Int) - 1))).get? b = some o := fun b o e => Heap.get?_push_of_some _ e
  have hl := p'.isList
  obtain ⟨ol, hol, _⟩ := id hl
  have hne : a ≠ s1.heap.objs.size := Nat.ne_of_lt (Heap.lt_size hol)
  have hn : its.toArray.size ≤ sizeLine := by rw [List.size_toArray, ← rv.length]; exact hz
  refine call_list_rev (s := { s1 with heap := s1.heap.push (revObj a ((its.toArray.size : Int) - 1)) }) (I1.ok.hd hc) ⟨_, Heap.get?_push_size _ rfl, rfl, rfl⟩ (hl.push _) hne hn fun h' tk acc c' hk hS hi => ?_
  have le : s1.heap.objs.size ≤ (s1.heap.push (revObj a ((its.toArray.size : Int) - 1))).objs.size := by simp [Heap.push]
  refine ⟨.ref (s1.heap.push (revObj a ((its.toArray.size : Int) - 1))).objs.size, upd H1 (s1.heap.push (revObj a ((its.toArray.size : Int) - 1))).objs.size (.lst xs.reverse),
    I1.laid (t' := tk) (fun c o e => hk c o (Nat.ne_of_lt (Heap.lt_size e)) (k0 c o e)) le (show ObjOk X.prog X.w _ _ _ (.lst xs.reverse) from ⟨by rw [List.length_reverse]; exact hz, acc.toList, c', RT.vals_rev rv hi, by rw [Array.toArray_toList]; exact hS⟩), rfl, q _ (I1.hok.fresh le)⟩
end
def oRevL : MV → EM := fun x s => match x with
  | .lst xs => .ok (.lst xs.reverse) s
  | .scr xs => .ok (.lst xs.reverse) s
  | _ => .stuck
section
variable {K : KA} {W : WX} {te : TE} {me : EM}
theorem Reps.rev {ρ : List Addr} {K : KA} {H : Hp} : ∀ {ms : List MV} {vs : List V}, Reps ρ K H ms vs → Reps ρ K H ms.reverse vs.reverse
  | _, _, .nil => .nil
  | _, _, .cons r t => by rw [List.reverse_cons, List.reverse_cons]; exact (Reps.rev t).append (.cons r .nil)
theorem sim_listRev (h : SimE K W te me) : SimE K W (tListRev K.F te) (mUn oRevL me) := by
  intro X ρ O s σ H Q S p
  refine h.bindE S p fun x s1 ρ1 O1 H1 v S1 F1 r1 p1 => ?_
  cases r1 with
  | lst hx rx => exact ⟨_, _, rfl, sqlv hx, fun q hq => p1.grown S1 (Ex.new hq) (.lst (S1.view_new hq) ((Reps.rev rx).mono (Pre.refl _) (view_ex (Ex.new hq))))⟩
  | scr hx rx => exact ⟨_, _, rfl, sql_ex (view_le _ _ _ _) hx, fun q hq => p1.grown S1 (Ex.new hq) (.lst (S1.view_new hq) ((Reps.rev rx).mono (Pre.refl _) (view_ex (Ex.new hq))))⟩
  | _ => exact p1.elim
end
section
variable {ct : String → Addr} {X : Cx} {W : WX} {e : Expr} {te : TE} {me : EM} {p p2 pos pos2 : Pos}
theorem e_listRev (hm : X.mg "list" = none) (hm2 : X.mg "reversed" = none) (h : PEM ct X W e te me) (hc : X.calm = true := by rfl) (hg : Gl X "list" := by rfl) (hg2 : Gl X "reversed" := by rfl)
    (hs : starEach [e] X.env = (false, eval e X.env) :: starEach [] X.env := by rfl)
    (hs2 : starEach [.Call (.Name "reversed" p2) [e] [] pos2] X.env = (false, eval (.Call (.Name "reversed" p2) [e] [] pos2) X.env) :: starEach [] X.env := by rfl) :
    PEM ct X W (.Call (.Name "list" p) [.Call (.Name "reversed" p2) [e] [] pos2] [] pos) (tListRev X.K te) (mUn oRevL me) :=
  ⟨pe_listRev hc hg hm hg2 hm2 h.pe hs hs2, sim_listRev h.sim⟩
end
end M

namespace M
open PySem L2 PyProof.Rows
noncomputable def mNeO (i : Nat) (mb : EM) : EM := fun s => match s.env[i]? with
  | some (.ow _) => (mb s).bind fun y s1 => match s1.env[i]? with
    | some (.ow xs) => oNe (.lst xs) y s1
    | _ => .stuck
  | _ => .stuck
section
variable {K : KA} {W : WX} {te : TE} {me : EM}
theorem sim_neO (i : Nat) (h : SimE K W te me) : SimE K W (tOp (rNeD K.F) (tVar i) te) (mNeO i me) := by
  intro X ρ O s σ H Q S p
  unfold mNeO at p
  cases e : s.env[i]? with
  | none => rw [e] at p; exact p.elim
  | some z =>
    rw [e] at p
    have zz := S.sl i z e
    cases z with
    | un => exact p.elim
    | sh x => exact p.elim
    | ow xs0 =>
      obtain ⟨a, vs0, h1, h2, h3, h4⟩ := zz
      refine ⟨_, h2, ?_⟩
      refine h.bindE S p fun y s1 ρ1 O1 H1 u S1 F1 r1 p1 => ?_
      cases e1 : s1.env[i]? with
      | none => rw [e1] at p1; exact p1.elim
      | some z1 =>
        rw [e1] at p1
        have zz1 := S1.sl i z1 e1
        cases z1 with
        | un => exact p1.elim
        | sh x => exact p1.elim
        | ow xs =>
          obtain ⟨b, vs, g1, g2, g3, g4⟩ := zz1
          rw [h2] at g2
          have eb : a = b := by have := Option.some.inj (Option.some.inj g2); cases this; rfl
          subst eb
          dsimp only at p1
          unfold oNe at p1
          rw [toD] at p1
          cases f1 : toDs xs with
          | none => rw [f1] at p1; exact p1.elim
          | some ds =>
            cases f2 : toD y with
            | none => rw [f1, f2] at p1; exact p1.elim
            | some e =>
              rw [f1, f2] at p1
              simp only [Option.map_some] at p1
              by_cases hh : SeqAt.shaped (.list ds) = true ∧ SeqAt.shaped e = true
              · simp only [if_pos hh] at p1
                exact ⟨_, e, .lst (sqlh g3) (toDs_dp (view_le _ _ _ _) g4 f1), toD_dp (view_le _ _ _ _) r1 f2, hh.1, hh.2, p1.done S1 (.bl _)⟩
              · simp only [if_neg hh] at p1; exact p1.elim
end
section
variable {ct : String → Addr} {X : Cx} {W : WX} {b : Expr} {tb : TE} {mb : EM} {pos p : Pos}
theorem e_neO (i : Nat) {x : Str} (ho : OpR X (compareOp .NotEq) (rNeD X.K)) (hm : behindInMarks .NotEq b = false) (hb : PEM ct X W b tb mb) (hN : X.N[i]? = some x := by rfl) (hv : Vis X.env.scope x := by first | exact Or.inl rfl | exact Or.inr (Or.inl rfl) | exact Or.inr (Or.inr rfl)) (hd : (x == ("__debug__" : Str)) = false := by decide) (hcd : (x == ("__classdict__" : Str)) = false := by decide) :
    PEM ct X W (.Compare (.Name x p) [.NotEq] [b] pos) (tOp (rNeD X.K) (tVar i) tb) (mNeO i mb) := ⟨pe_cmpR ho (pe_var hN hv hd hcd) hb.pe hm, sim_neO i hb.sim⟩
theorem t_neO (i : Nat) {x : Str} (ho : OpR X (compareOp .NotEq) (rNeD X.K)) (hm : behindInMarks .NotEq b = false) (hb : PEM ct X W b tb mb) (hN : X.N[i]? = some x := by rfl) (hv : Vis X.env.scope x := by first | exact Or.inl rfl | exact Or.inr (Or.inl rfl) | exact Or.inr (Or.inr rfl)) (hd : (x == ("__debug__" : Str)) = false := by decide) (hcd : (x == ("__classdict__" : Str)) = false := by decide) :
    PTM ct X W (.Compare (.Name x p) [.NotEq] [b] pos) (tTest (tOp (rNeD X.K) (tVar i) tb)) (tOf (mNeO i mb)) := ⟨pt_cmpR ho (pe_var hN hv hd hcd) hb.pe hm, sim_test (sim_neO i hb.sim)⟩
end
end M

namespace PySem
open Sem (wp)
section
variable {prog : Program} {w : World} {A : Around} {R : Result → Shared → Prop} {I : Addr} {fp wr : List Addr} {n : Nat} {P : Nat → Value → Prop} {St : Nat → Heap → Prop} {d : Value}
theorem codeAny_max_loopD (W : Walks prog w A.in1 I fp wr n P St) (bt : Nat → Nat → Bool) (hcmp : CmpOf prog w A.in1 .Gt P bt) (S : Addr) (hSf : S ∉ fp) :
    ∀ (k j : Nat) (s : Shared) (vb : Value) (c : Nat), n - (j + 1) = k → j + 1 ≤ n → St (j + 1) s.heap → P (argBest bt j) vb →
    s.heap.get? S = some { cls := .type "list", dict := none, data := .seq #[vb, vb] c, slots := #[] } →
    (∀ v h' tk, P (argBest bt (n - 1)) v → (∀ b o, b ∉ wr → b ≠ S → s.heap.get? b = some o → h'.get? b = some o) → R (.ok (.ret v)) { s with heap := h', toks := tk }) →
    codeAny (model prog w) A (.builtin "max.loop" ⟨[.ref I, .none, .ref S], [("default", d)]⟩) R s := by
  have hSw : S ∉ wr := fun h => hSf (W.sub _ h)
  have hname : (toString "max" ++ toString ".loop" : String) = "max.loop" := by decide
  intro k
  induction k with
  | zero =>
    intro j s vb c hk hj hst hPb hS hR
    have hin : j + 1 = n := by omega
    refine codeAny_builtin F.entry_max_loop ?_
    rw [Around.under_plainId F.plain_max_loop _]
    show wpAny _ A.in1 (seqItems? (.ref S) >>= _) _ _ s
    refine wpAny_bind (wpAny_seqItems hS rfl ?_)
    show wpAny _ A.in1 (tryCatch (pyNext (.ref I)) _ >>= _) _ _ s
    refine wpAny_bind (wpAny_tryCatch (W.done s _ _ (hin ▸ hst) fun h' tk hk' => ?_))
    have hS' := hk' S _ hSw hS
    show wpAny _ A.in1 (updateSeq S (fun _ => #[]) >>= _) _ _ _
    refine wpAny_bind ?_
    refine wpAny_updateSeq hS' rfl (wpAny_bind (wpAny_letGo (wpAny_pure ?_)))
    refine hR vb _ tk (by rw [← hin]; exact hPb) fun b o hbw hbS e => (Heap.get?_update_other _ _ (Ne.symm hbS)).trans (hk' b o hbw e)
  | succ k ih =>
    intro j s vb c hk hj hst hPb hS hR
    have hlt : j + 1 < n := by omega
    refine codeAny_builtin F.entry_max_loop ?_
    rw [Around.under_plainId F.plain_max_loop _]
    show wpAny _ A.in1 (seqItems? (.ref S) >>= _) _ _ s
    refine wpAny_bind (wpAny_seqItems hS rfl ?_)
    show wpAny _ A.in1 (tryCatch (pyNext (.ref I)) _ >>= _) _ _ s
    refine wpAny_bind (wpAny_tryCatch (W.item (j + 1) s _ _ hlt hst fun v h' tk hP hst' hk' => ?_))
    have hS' := hk' S _ hSw hS
    show wpAny _ A.in1 (tryCatch (holding [v, v] (richCompare .Gt v vb >>= _)) _ >>= _) _ _ _
    refine wpAny_bind (wpAny_tryCatch (wpAny_holding (wpAny_bind (hcmp (j + 1) (argBest bt j) v vb _ _ _ hP hPb ?_))))
    refine wpAny_bind (wpAny_holding (wpAny_truthy_bool ?_))
    refine wpAny_bind (wpAny_letGo (wpAny_pure ?_))
    cases hb : bt (j + 1) (argBest bt j) with
    | true =>
      simp only [if_true]
      refine wpAny_bind ?_
      refine wpAny_updateSeq hS' rfl (wpAny_bind (wpAny_letGo ?_))
      rw [hname]
      refine wpAny_pure ⟨plainId_quiet F.plain_max_loop _, ih (j + 1) _ v _ (by omega) hlt (W.frame _ _ _ hst' fun b hbf o e => ?_) (by simp only [argBest, hb, if_true]; exact hP) (Heap.get?_update_self _ hS' rfl)
        fun v' h'' tk'' hP' hk'' => ?_⟩
      · exact (Heap.get?_update_other _ _ (fun h : S = b => hSf (by rw [h]; exact hbf))).trans e
      · exact hR v' h'' tk'' hP' fun b o hbw hbS e => hk'' b o hbw hbS ((Heap.get?_update_other _ _ (Ne.symm hbS)).trans (hk' b o hbw e))
    | false =>
      simp only [Bool.false_eq_true, if_false]
      refine wpAny_bind (wpAny_letGo ?_)
      rw [hname]
      refine wpAny_pure ⟨plainId_quiet F.plain_max_loop _, ih (j + 1) _ vb c (by omega) hlt hst' (by simp only [argBest, hb, Bool.false_eq_true, if_false]; exact hPb) hS' fun v' h'' tk'' hP' hk'' => ?_⟩
      exact hR v' h'' tk'' hP' fun b o hbw hbS e => hk'' b o hbw hbS (hk' b o hbw e)
theorem codeAny_max_loop_firstD (W : Walks prog w A.in1 I fp wr n P St) (bt : Nat → Nat → Bool) (hcmp : CmpOf prog w A.in1 .Gt P bt) (S : Addr) (hSf : S ∉ fp) {s : Shared} {c : Nat} (hst : St 0 s.heap)
    (hS : s.heap.get? S = some { cls := .type "list", dict := none, data := .seq #[] c, slots := #[] })
    (h0 : n = 0 → ∀ h' tk, (∀ b o, b ∉ wr → b ≠ S → s.heap.get? b = some o → h'.get? b = some o) → R (.ok (.ret d)) { s with heap := h', toks := tk })
    (hR : 0 < n → ∀ v h' tk, P (argBest bt (n - 1)) v → (∀ b o, b ∉ wr → b ≠ S → s.heap.get? b = some o → h'.get? b = some o) → R (.ok (.ret v)) { s with heap := h', toks := tk }) :
    codeAny (model prog w) A (.builtin "max.loop" ⟨[.ref I, .none, .ref S], [("default", d)]⟩) R s := by
  have hSw : S ∉ wr := fun h => hSf (W.sub _ h)
  have hname : (toString "max" ++ toString ".loop" : String) = "max.loop" := by decide
  refine codeAny_builtin F.entry_max_loop ?_
  rw [Around.under_plainId F.plain_max_loop _]
  show wpAny _ A.in1 (seqItems? (.ref S) >>= _) _ _ s
  refine wpAny_bind (wpAny_seqItems hS rfl ?_)
  show wpAny _ A.in1 (tryCatch (pyNext (.ref I)) _ >>= _) _ _ s
  by_cases hz : n = 0
  · refine wpAny_bind (wpAny_tryCatch (W.done s _ _ (hz ▸ hst) fun h' tk hk' => ?_))
    refine wpAny_bind (wpAny_rule ?_)
    exact wpAny_pure (h0 hz h' tk fun b o hbw _ e => hk' b o hbw e)
  · have hn : 0 < n := Nat.pos_of_ne_zero hz
    refine wpAny_bind (wpAny_tryCatch (W.item 0 s _ _ hn hst fun v h' tk hP hst' hk' => ?_))
    have hS' := hk' S _ hSw hS
    show wpAny _ A.in1 (updateSeq S (fun _ => #[v, v]) >>= _) _ _ _
    refine wpAny_bind ?_
    refine wpAny_updateSeq hS' rfl ?_
    rw [hname]
    refine wpAny_pure ⟨plainId_quiet F.plain_max_loop _, codeAny_max_loopD W bt hcmp S hSf _ 0 _ v _ rfl hn (W.frame _ _ _ hst' fun b hbf o e => ?_) hP (Heap.get?_update_self _ hS' rfl) fun v' h'' tk'' hP' hk'' => ?_⟩
    · exact (Heap.get?_update_other _ _ (fun h : S = b => hSf (by rw [h]; exact hbf))).trans e
    · exact hR hn v' h'' tk'' hP' fun b o hbw hbS e => hk'' b o hbw hbS ((Heap.get?_update_other _ _ (Ne.symm hbS)).trans (hk' b o hbw e))
end
theorem F.args_maxD (a d : Value) : argsOk "max" ⟨[a], [("default", d)]⟩ := by unfold argsOk; kernel_rfl
section
variable {prog : Program} {w : World} {A : Around} {E : Value → Shared → Prop} {s : Shared} {d : Value}
theorem call_function_treeK {id : String} {b : Builtin} {args : List Value} {kw : List (Str × Value)} {Q : Value → Shared → Prop} (hk : builtinKind id = none) (hp : plainId id = true)
    (hb : entryFor table id = some b) (ha : argsOk id ⟨args, kw⟩)
    (hc : wpAny (model prog w) A.in1 (b ⟨args, kw⟩) (fun fin s' => match fin with
      | .done f => (match (Except.ok f : Result) with | .ok (.ret v) => Q v s' | .ok _ => False | .error e => E e s')
      | .again c' => c'.quiet = true ∧ codeAny (model prog w) A c' (fun r s' => match r with | .ok (.ret v) => Q v s' | .ok _ => False | .error e => E e s') s') E s) :
    wpAny (model prog w) A (call (.builtin id) args kw) Q E s := by
  refine wpAny_call (codeAny_call_builtin hp hb ?_)
  simp only [checkBuiltinCall, hk]
  cases hsig : Manifest.signature? id with
  | none => exact wpAny_pure hc
  | some sig =>
    simp only [argsOk, hsig] at ha
    have h2 : Bind.checkArgs id sig ⟨args, kw⟩ = pure () := ha
    show wpAny _ A.in1 (Bind.checkArgs id sig ⟨args, kw⟩) _ _ s
    rw [h2]; exact wpAny_pure hc
theorem call_max_walkD {x : Value} {Q : Value → Shared → Prop}
    (h : wpAny (model prog w) A.in1 (pyIter x) (fun it s₂ => ∃ I fp wr n P St bt, it = .ref I ∧ Walks prog w A.in1 I fp wr n P St ∧ St 0 s₂.heap ∧ (∀ b ∈ fp, b < s₂.heap.objs.size) ∧ CmpOf prog w A.in1 .Gt P bt ∧
      (n = 0 → ∀ h' tk, (∀ b o, b ∉ wr → s₂.heap.get? b = some o → h'.get? b = some o) → Q d { s₂ with heap := h', toks := tk }) ∧
      (0 < n → ∀ v h' tk, P (argBest bt (n - 1)) v → (∀ b o, b ∉ wr → s₂.heap.get? b = some o → h'.get? b = some o) → Q v { s₂ with heap := h', toks := tk })) E s) :
    wpAny (model prog w) A (call (.builtin "max") [x] [("default", d)]) Q E s := by
  have hname : (toString "max" ++ toString ".loop" : String) = "max.loop" := by decide
  refine call_function_treeK F.kind_max F.plain_max F.entry_max (F.args_maxD _ _) ?_
  show wpAny _ A.in1 (Builtin.Builtins.bindParams "max" ["key", "default"] 0 ⟨[], [("default", d)]⟩ >>= _) _ _ s
  refine wpAny_bind (wpAny_of_eq (show Builtin.Builtins.bindParams "max" ["key", "default"] 0 ⟨[], [("default", d)]⟩ = pure [none, some d] from rfl) ?_)
  refine wpAny_bind (wpAny_pure ?_)
  refine wpAny_bind (wpAny_mono h (fun it s₂ h₂ => ?_) fun _ _ e => e)
  obtain ⟨I, fp, wr, n, P, St, bt, rfl, W, hst, hfp, hcmp, hQ0, hQ⟩ := h₂
  refine wpAny_bind (wpAny_newObj_type ?_)
  have hSf : s₂.heap.objs.size ∉ fp := fun hm => Nat.lt_irrefl _ (hfp _ hm)
  rw [hname]
  refine wpAny_pure ⟨plainId_quiet F.plain_max_loop _, codeAny_max_loop_firstD W bt hcmp s₂.heap.objs.size hSf (W.frame _ _ _ hst fun b _ o e => Heap.get?_push_of_some _ e) (Heap.get?_push_size _ rfl) (fun hz h' tk hk => ?_) fun hn v h' tk hP hk => ?_⟩
  · exact hQ0 hz h' tk fun b o hbw e => hk b o hbw (Nat.ne_of_lt (Heap.lt_size e)) (Heap.get?_push_of_some _ e)
  · exact hQ hn v h' tk hP fun b o hbw e => hk b o hbw (Nat.ne_of_lt (Heap.lt_size e)) (Heap.get?_push_of_some _ e)
theorem max_intListD {Q : Value → Shared → Prop} {l : Addr} {xs : Array (Int × Tok)} (hh : A.handled = none) (hl : s.heap.IsList l (intItems xs))
    (h0 : xs.size = 0 → ∀ h' tk, (∀ b o, s.heap.get? b = some o → h'.get? b = some o) → Q d { s with heap := h', toks := tk })
    (h : 0 < xs.size → ∀ v h' tk, (intItems xs)[argBest (fun i j => decide (numAt xs i > numAt xs j)) (xs.size - 1)]? = some v → (∀ b o, s.heap.get? b = some o → h'.get? b = some o) → Q v { s with heap := h', toks := tk }) :
    wpAny (model prog w) A (call (.builtin "max") [.ref l] [("default", d)]) Q E s := by
  refine call_max_walkD (iter_intList hl fun s₂ e st hfp hlI => ?_)
  subst e
  refine ⟨_, _, _, _, _, _, _, rfl, Walks.list (A := A.in1) hh _ l hlI (intItems xs), st, hfp, CmpOf.ints_gt (numAt xs) (fun _ _ => intItems_at), fun hz h' tk hk => ?_, fun hn v h' tk hP hk => ?_⟩
  · exact h0 (by simpa [intItems] using hz) h' tk (old_kept hk)
  · exact h (by simpa [intItems] using hn) v h' tk (by simpa [intItems] using hP) (old_kept hk)
end
end PySem
namespace M
open PySem L2 PyProof.Rows
def rMaxKw (K : PySem.W.Frag) : List V → List V → Hp → VK → Prop := fun vs zs H Q => ∃ (a : Addr) (ns : List Int) (d : Int), vs = [V.ref a] ∧ zs = [.int d] ∧ SqL K H a (ns.map V.int) ∧ (ns = [] → Q (.int d) H) ∧ ∀ m, m ∈ ns → (∀ y, y ∈ ns → y ≤ m) → Q (.int m) H
section
variable {X : Cx}
theorem cr_maxKw (hc : X.calm = true) : CallRK X (.builtin "max") [("default" : Str)] (rMaxKw X.K) := by
  intro pins s σ H vs zs us ws Q I r rz h
  obtain ⟨a, ns, d, rfl, rfl, hs, q0, q⟩ := h
  obtain ⟨its, rv, hl, _⟩ := I.list hs
  rw [Vals.ref1 r]
  obtain ⟨u, rfl, ru⟩ := rz.one
  obtain ⟨t, rfl⟩ := ru
  have hi := rv.ints
  obtain ⟨xs, e⟩ := hi.allInts.items
  have hn : numsOf (intItems xs).toList = ns := by rw [← e]; exact hi.numsOf
  rw [nums_intItems] at hn
  subst hn
  have hl' := hl.isList
  rw [e] at hl'
  show wpAny _ _ (call (.builtin "max") [.ref a] [("default", .int d t)]) _ _ s
  refine max_intListD (I.ok.hd hc) hl' (fun hz h' tk hk => ?_) fun hsz v h' tk hv hk => ?_
  · exact ⟨.int d, H, I.kept hk, ⟨_, rfl⟩, q0 (by
      apply List.eq_nil_of_length_eq_zero
      rw [List.length_map, Array.length_toList]; exact hz)⟩
  · obtain ⟨t2, rfl⟩ := intItems_at hv
    obtain ⟨h1, h2⟩ := argBest_gt (numAt xs) (xs.size - 1)
    refine ⟨.int _, H, I.kept hk, ⟨_, rfl⟩, q _ ?_ fun y hy => ?_⟩
    · rw [numAt_eq]; exact PySem.getD_mem (by rw [List.length_map, Array.length_toList]; omega)
    · obtain ⟨j, hj, rfl⟩ := mem_getD hy
      rw [List.length_map, Array.length_toList] at hj
      rw [← numAt_eq]; exact h2 j (by omega)
end
def maxL : Int → List Int → Int
  | m, [] => m
  | m, n :: ns => maxL (if m < n then n else m) ns
theorem maxL_ok : ∀ (ns : List Int) (m : Int), maxL m ns ∈ m :: ns ∧ ∀ y ∈ m :: ns, y ≤ maxL m ns
  | [], m => ⟨by simp [maxL], fun y hy => by simp at hy; subst hy; exact Int.le_refl _⟩
  | n :: ns, m => by
    rw [maxL]
    obtain ⟨x, hx⟩ : ∃ x, (if m < n then n else m) = x := ⟨_, rfl⟩
    have b : m ≤ x ∧ n ≤ x ∧ (x = m ∨ x = n) := by rw [← hx]; split <;> omega
    rw [hx]
    obtain ⟨h1, h2⟩ := maxL_ok ns x
    refine ⟨?_, fun y hy => ?_⟩
    · rcases List.mem_cons.mp h1 with q | q
      · rw [q]; rcases b.2.2 with z | z <;> rw [z] <;> simp
      · simp [q]
    · have h0 := h2 _ List.mem_cons_self
      rcases List.mem_cons.mp hy with q | q
      · rw [q]; omega
      · rcases List.mem_cons.mp q with q | q
        · rw [q]; omega
        · exact h2 y (List.mem_cons_of_mem _ q)
noncomputable def mMaxD (me : EM) (d : Int) : EM := fun s => (me s).bind fun x s1 => match x with
  | .lst xs => (match intsOf xs with
    | some [] => .ok (.int d) s1
    | some (n :: ns) => .ok (.int (maxL n ns)) s1
    | none => .stuck)
  | _ => .stuck
section
variable {K : KA} {W : WX} {te : TE} {me : EM}
theorem sim_maxD {d : Int} (h : SimE K W te me) : SimE K W (tCKw (rMaxKw K.F) (tCons te tNil) (tCons (tC (.int d)) tNil)) (mMaxD me d) := by
  intro X ρ O s σ H Q S p
  refine h.bindE S p fun x s1 ρ1 O1 H1 v S1 F1 r1 p1 => ?_
  cases r1 with
  | lst hx rx =>
    rename_i a ms us
    dsimp only at p1
    cases e : intsOf ms with
    | none => simp only [e] at p1; exact p1.elim
    | some ns =>
      have em := intsOf_eq e
      subst em
      have ev := rx.inv_ints
      subst ev
      cases ns with
      | nil =>
        simp only [e] at p1
        exact ⟨a, [], d, rfl, rfl, sqlv hx, fun _ => p1.done S1 (.int _), fun m hm => by cases hm⟩
      | cons n ns =>
        simp only [e] at p1
        refine ⟨a, n :: ns, d, rfl, rfl, sqlv hx, fun z => (by cases z), fun m hm hy => ?_⟩
        obtain ⟨h1, h2⟩ := maxL_ok ns n
        have e1 := h2 m hm
        have e2 := hy _ h1
        have e3 : m = maxL n ns := by omega
        rw [e3]
        exact p1.done S1 (.int _)
  | _ => exact p1.elim
end
section
variable {ct : String → Addr} {X : Cx} {W : WX} {e : Expr} {te : TE} {me : EM} {p pos cpos kpos : Pos} {d : Int} {j : Nat}
theorem e_maxD (hm : X.mg "max" = none) (h : PEM ct X W e te me) (hc : X.calm = true := by rfl) (hg : Gl X "max" := by rfl)
    (he : backTo pos (starEach [e] X.env) = (false, eval e X.env) :: backTo pos (starEach [] X.env) := by rfl) (hpl : (backTo pos (starEach [e] X.env)).any (·.1) = false := by rfl)
    (hall : (backToKw pos (keywordEach [⟨some "default", .Constant (.int d) j cpos, kpos⟩] X.env)).all (·.1.isSome) = true := by rfl) (hnone : (backToKw pos (keywordEach [⟨some "default", .Constant (.int d) j cpos, kpos⟩] X.env)).any (·.1.isNone) = false := by rfl)
    (hks : (backToKw pos (keywordEach [⟨some "default", .Constant (.int d) j cpos, kpos⟩] X.env)).filterMap (·.1) = [("default" : Str)] := by rfl)
    (hse : starEach [e] X.env = (false, eval e X.env) :: starEach [] X.env := by rfl) :
    PEM ct X W (.Call (.Name "max" p) [e] [⟨some "default", .Constant (.int d) j cpos, kpos⟩] pos) (tCKw (rMaxKw X.K) (tCons te tNil) (tCons (tC (.int d)) tNil)) (mMaxD me d) :=
  ⟨pe_callBK (cr_maxKw hc) hg hm (by decide +kernel) (pa_cons h.pe pa_nil hse) (pk_cons pe_int pk_nil) (by decide) (by decide) he hpl hall hnone hks, sim_maxD h.sim⟩
end
end M

namespace M
open PySem L2 PyProof.Rows
def idxG (n : Nat) (lo st : Option Int) : List Nat := sliceRange (sliceBounds lo none st n).1 (sliceBounds lo none st n).2.1 (sliceBounds lo none st n).2.2
def pickG {α : Type} (xs : List α) (lo st : Option Int) : List α := (idxG xs.length lo st).filterMap (xs[·]?)
theorem ediv_up {m k : Int} (hm : 0 ≤ m) (hk : 0 < k) : (m + k - 1) / k ≤ m := by
  by_cases h : m = 0
  · subst h
    have : (0 + k - 1) / k = 0 := Int.ediv_eq_zero_of_lt (by omega) (by omega)
    omega
  · refine Int.ediv_le_of_le_mul hk ?_
    have := Int.mul_nonneg (show 0 ≤ m - 1 by omega) (show 0 ≤ k - 1 by omega)
    have e : (m - 1) * (k - 1) = m * k - m - k + 1 := by grind
    omega
theorem idxG_len {n : Nat} {a b : Int} (ha : 0 ≤ a) (hb : 0 < b) : (idxG n (some a) (some b)).length ≤ n := by
  unfold idxG sliceRange sliceBounds
  simp only [Option.getD_some, List.length_map, List.length_range]
  rw [if_neg (show ¬ a < 0 by omega)]
  have hb' : b > 0 := hb
  simp only [hb', if_true]
  have h0 : 0 ≤ max 0 (min a (n : Int)) ∧ max 0 (min a (n : Int)) ≤ n := by omega
  generalize max 0 (min a (n : Int)) = c at *
  split
  · have := ediv_up (m := (n : Int) - c) (k := b) (by omega) hb
    omega
  · omega
theorem pickG_len {α : Type} {xs : List α} {a b : Int} (ha : 0 ≤ a) (hb : 0 < b) : (pickG xs (some a) (some b)).length ≤ xs.length := Nat.le_trans (List.length_filterMap_le _ _) (idxG_len ha hb)
theorem pickG_mem {α : Type} {xs : List α} {lo st : Option Int} {x : α} (h : x ∈ pickG xs lo st) : x ∈ xs := by
  obtain ⟨i, _, hi⟩ := List.mem_filterMap.mp h
  exact List.mem_of_getElem? hi
theorem pickG_map {α β : Type} (f : α → β) (xs : List α) (lo st : Option Int) : pickG (xs.map f) lo st = (pickG xs lo st).map f := by
  unfold pickG
  rw [List.length_map, List.map_filterMap]
  congr 1
  funext i
  rw [List.getElem?_map]
theorem vals_pick {xs : List V} {its : List Value} (r : Vals xs its) : ∀ idx : List Nat, Vals (idx.filterMap (xs[·]?)) (idx.filterMap (its[·]?))
  | [] => .nil
  | i :: idx => by
    by_cases h : i < xs.length
    · obtain ⟨u, hu, ru⟩ := r.get (List.getElem?_eq_getElem h)
      rw [List.filterMap_cons, List.filterMap_cons, List.getElem?_eq_getElem h, hu]
      exact .cons ru (vals_pick r idx)
    · have h2 : ¬ i < its.length := by rw [← r.length]; exact h
      rw [List.filterMap_cons, List.filterMap_cons, List.getElem?_eq_none (by omega), List.getElem?_eq_none (by omega)]
      exact vals_pick r idx
theorem slicePick_pick (its : List Value) (lo st : Option Int) : slicePick its.toArray lo none st = (pickG its lo st).toArray := by
  unfold slicePick pickG idxG
  simp
def rSlK (K : PySem.W.Frag) : V → Option Int → Option Int → Hp → VK → Prop := fun x lo st H Q => ∃ (l : Addr) (xs : List V) (a b : Int), x = .ref l ∧ SqL K H l xs ∧ lo = some a ∧ st = some b ∧ 0 ≤ a ∧ 0 < b ∧ ∀ p, H p = none → Q (.ref p) (upd H p (.lst (pickG xs lo st)))
section
variable {X : Cx} {e st : Expr} {te : TE} {lo : Option Expr} {tl th : TO} {pos p2 : Pos}
theorem pe_sliceK (he : PE X e te) (hl : PO X lo tl) (hk : PO X (some st) th) : PE X (.Subscript e (.Slice lo none (some st) p2) pos) (tSl (rSlK X.K) te tl th) := by
  refine ⟨fun pins s σ H Q I h => ?_⟩
  refine Subscript_ (thn (he.run pins s σ H _ I h) fun v s1 ⟨x, H1, I1, r1, q1⟩ => ?_)
  refine wpAny_Slice (thn (hl.run pins s1 σ H1 _ I1 q1) fun vl s2 ⟨l, H2, I2, pl, q2⟩ => ?_)
  rw [evalPart_none]
  refine wpAny_pure (thn (hk.run pins s2 σ H2 _ I2 q2) fun vk s3 ⟨u, H3, I3, pk, q3⟩ => ?_)
  have I4 : Inv X pins σ H3 { s3 with heap := s3.heap.push { cls := .type "slice", data := .fields #[vl, .none, vk] } } := I3.kept (t' := s3.toks) fun b ob q => Heap.get?_push_of_some _ q
  obtain ⟨a, xs, i, k, rfl, hx, rfl, rfl, hi, hk0, q⟩ := q3
  obtain rfl : v = Value.ref a := r1
  obtain ⟨its, r, ht, hz⟩ := I4.list hx
  have hlen := r.length
  show wpAny (model X.prog X.w) X.A (subscriptTail e (.Slice lo none (some st) p2) (.ref a) (.ref s3.heap.objs.size)) (EP X pins σ Q) X.xe { s3 with heap := s3.heap.push { cls := .type "slice", data := .fields #[vl, .none, vk] } }
  refine tail_any (ops := [.ref a, .ref s3.heap.objs.size]) ht.isList.typeIs slot_list_getitem.lookup ?_ (by with_unfolding_all rfl)
  refine wpAny_getItem_list_slice ht.isList (Heap.IsSliceOf.new ..) pl .none pk (fun z => by cases z; omega) ?_ (by rw [List.size_toArray] <;> omega)
  rw [slicePick_pick]
  refine ⟨.ref _, _, I4.laid (t' := s3.toks) (o := .lst (pickG xs (some i) (some k))) (fun b ob q => Heap.get?_push_of_some _ q) (Nat.le_refl _) ?_, rfl, q _ (I4.hok.fresh (Nat.le_refl _))⟩
  refine ⟨Nat.le_trans (pickG_len hi hk0) hz, _, 0, ?_, Heap.get?_push_size _ rfl⟩
  unfold pickG
  rw [← hlen]
  exact vals_pick r _
end
noncomputable def mSlK (me : EM) (ml mk : OM) : EM := fun s => (me s).bind fun x s1 => (ml s1).bind fun lo s2 => (mk s2).bind fun st s3 => match lo, st with
  | some a, some b => if 0 ≤ a ∧ 0 < b then (match x with
    | .lst xs => .ok (.lst (pickG xs (some a) (some b))) s3
    | .scr xs => .ok (.lst (pickG xs (some a) (some b))) s3
    | _ => .stuck) else .stuck
  | _, _ => .stuck
theorem Reps.pick {ρ : List Addr} {K : KA} {H : Hp} {ms : List MV} {vs : List V} (r : Reps ρ K H ms vs) : ∀ idx : List Nat, Reps ρ K H (idx.filterMap (ms[·]?)) (idx.filterMap (vs[·]?))
  | [] => .nil
  | i :: idx => by
    by_cases h : i < ms.length
    · obtain ⟨u, hu, ru⟩ := r.get (List.getElem?_eq_getElem h)
      rw [List.filterMap_cons, List.filterMap_cons, List.getElem?_eq_getElem h, hu]
      exact .cons ru (Reps.pick r idx)
    · have h2 : ¬ i < vs.length := by rw [← r.length]; exact h
      rw [List.filterMap_cons, List.filterMap_cons, List.getElem?_eq_none (by omega), List.getElem?_eq_none (by omega)]
      exact Reps.pick r idx
section
variable {K : KA} {W : WX} {te : TE} {me : EM} {tl th : TO} {ml mh : OM}
theorem sim_slK (he : SimE K W te me) (hl : SimO K W tl ml) (hh : SimO K W th mh) : SimE K W (tSl (rSlK K.F) te tl th) (mSlK me ml mh) := by
  intro X ρ O s σ H Q S p
  refine he.bindE S p fun x s1 ρ1 O1 H1 v S1 F1 r1 p1 => ?_
  refine hl.bindE S1 p1 fun lo s2 ρ2 O2 H2 S2 F2 p2 => ?_
  refine hh.bindE S2 p2 fun st s3 ρ3 O3 H3 S3 F3 p3 => ?_
  have r3 := (F2.trans F3).rep r1
  cases lo with
  | none => exact p3.elim
  | some a => cases st with
    | none => exact p3.elim
    | some b =>
      dsimp only at p3
      by_cases h : 0 ≤ a ∧ 0 < b
      · rw [if_pos h] at p3
        cases r3 with
        | lst hx rx =>
          rename_i l ms vs
          refine ⟨_, vs, a, b, rfl, sqlv hx, rfl, rfl, h.1, h.2, fun q hq => ?_⟩
          have rp : Reps ρ3 K (view X ρ3 O3 H3) (pickG ms (some a) (some b)) (pickG vs (some a) (some b)) := by
            unfold pickG; rw [← rx.length]; exact Reps.pick rx _
          exact p3.grown S3 (Ex.new hq) (.lst (S3.view_new hq) (rp.mono (Pre.refl _) (view_ex (Ex.new hq))))
        | scr hx rx =>
          rename_i l ms vs
          refine ⟨_, vs, a, b, rfl, sql_ex (view_le _ _ _ _) hx, rfl, rfl, h.1, h.2, fun q hq => ?_⟩
          have rp : Reps ρ3 K (view X ρ3 O3 H3) (pickG ms (some a) (some b)) (pickG vs (some a) (some b)) := by
            unfold pickG; rw [← rx.length]; exact Reps.pick rx _
          exact p3.grown S3 (Ex.new hq) (.lst (S3.view_new hq) (rp.mono (Pre.refl _) (view_ex (Ex.new hq))))
        | _ => exact p3.elim
      · rw [if_neg h] at p3; exact p3.elim
end
section
variable {ct : String → Addr} {X : Cx} {W : WX} {e st : Expr} {te : TE} {me : EM} {lo : Option Expr} {tl th : TO} {ml mh : OM} {pos p2 : Pos}
theorem e_slK (h : PEM ct X W e te me) (hl : POM ct X W lo tl ml) (hh : POM ct X W (some st) th mh) : PEM ct X W (.Subscript e (.Slice lo none (some st) p2) pos) (tSl (rSlK X.K) te tl th) (mSlK me ml mh) := ⟨pe_sliceK h.pe hl.pe hh.pe, sim_slK h.sim hl.sim hh.sim⟩
end
end M

namespace M
open PySem L2 PyProof.Rows
def rngM (a b : Int) : List MV := (List.range (b - a).toNat).map fun i => MV.int (a + (i : Nat))
theorem rngM_rep {ρ : List Addr} {K : KA} {H : Hp} (a b : Int) : Reps ρ K H (rngM a b) (rgV a b) := by
  have e1 : rngM a b = ((List.range (b - a).toNat).map fun (i : Nat) => a + (i : Int)).map MV.int := by unfold rngM; rw [List.map_map]; rfl
  have e2 : rgV a b = ((List.range (b - a).toNat).map fun (i : Nat) => a + (i : Int)).map V.int := by unfold rgV; rw [List.map_map]; rfl
  rw [e1, e2]
  exact Reps.ints _
noncomputable def mLstR1 (ma : EM) : EM := fun s => (ma s).bind fun x s1 => match x with
  | .int n => if 0 ≤ n ∧ n < 1000000 then .ok (.lst (rngM 0 n)) s1 else .stuck
  | _ => .stuck
noncomputable def mLstR2 (ma mb : EM) : EM := fun s => (ma s).bind fun x s1 => (mb s1).bind fun y s2 => match x, y with
  | .int a, .int b => if (0 ≤ a ∧ a < 1000000) ∧ 0 ≤ b ∧ b < 1000000 then .ok (.lst (rngM a b)) s2 else .stuck
  | _, _ => .stuck
section
variable {K : KA} {W : WX} {ta tb : TE} {ma mb : EM}
theorem sim_lstR1 (h : SimE K W ta ma) : SimE K W (tLstRg (tRg1 ta)) (mLstR1 ma) := by
  intro X ρ O s σ H Q S p
  refine h.bindE S p fun x s1 ρ1 O1 H1 v S1 F1 r1 p1 => ?_
  cases r1 with
  | int n =>
    dsimp only at p1
    by_cases h : 0 ≤ n ∧ n < 1000000
    · rw [if_pos h] at p1
      exact ⟨n, rfl, .of_le (by omega) (by omega) (by omega) (by omega), fun q hq => p1.grown S1 (Ex.new hq) (.lst (S1.view_new hq) (rngM_rep _ _))⟩
    · rw [if_neg h] at p1; exact p1.elim
  | _ => exact p1.elim
theorem sim_lstR2 (h : SimE K W ta ma) (h' : SimE K W tb mb) : SimE K W (tLstRg (tRg2 ta tb)) (mLstR2 ma mb) := by
  intro X ρ O s σ H Q S p
  refine h.bindE S p fun x s1 ρ1 O1 H1 v S1 F1 r1 p1 => ?_
  refine h'.bindE S1 p1 fun y s2 ρ2 O2 H2 u S2 F2 r2 p2 => ?_
  have r1 := F2.rep r1
  cases r1 with
  | int a => cases r2 with
    | int b =>
      dsimp only at p2
      by_cases h : (0 ≤ a ∧ a < 1000000) ∧ 0 ≤ b ∧ b < 1000000
      · rw [if_pos h] at p2
        exact ⟨a, b, rfl, rfl, .of_le (by omega) (by omega) (by omega) (by omega), fun q hq => p2.grown S2 (Ex.new hq) (.lst (S2.view_new hq) (rngM_rep _ _))⟩
      · rw [if_neg h] at p2; exact p2.elim
    | _ => exact p2.elim
  | _ => cases r2 <;> exact p2.elim
end
section
variable {ct : String → Addr} {X : Cx} {W : WX} {a b : Expr} {ta tb : TE} {ma mb : EM} {p p2 pos pos2 : Pos}
theorem e_lstR1 (hm : X.mg "list" = none) (hm2 : X.mg "range" = none) (h : PEM ct X W a ta ma) (hc : X.calm = true := by rfl) (hg : Gl X "list" := by rfl) (hg2 : Gl X "range" := by rfl)
    (na : starEach [a] X.env = (false, eval a X.env) :: starEach [] X.env := by rfl)
    (na2 : starEach [.Call (.Name "range" p2) [a] [] pos2] X.env = (false, eval (.Call (.Name "range" p2) [a] [] pos2) X.env) :: starEach [] X.env := by rfl) :
    PEM ct X W (.Call (.Name "list" p) [.Call (.Name "range" p2) [a] [] pos2] [] pos) (tLstRg (tRg1 ta)) (mLstR1 ma) :=
  ⟨pe_listRg hc hg hm (prg_1 hg2 hm2 h.pe na) na2, sim_lstR1 h.sim⟩
theorem e_lstR2 (hm : X.mg "list" = none) (hm2 : X.mg "range" = none) (h : PEM ct X W a ta ma) (h' : PEM ct X W b tb mb) (hc : X.calm = true := by rfl) (hg : Gl X "list" := by rfl) (hg2 : Gl X "range" := by rfl)
    (na : starEach [a, b] X.env = (false, eval a X.env) :: starEach [b] X.env := by rfl) (nb : starEach [b] X.env = (false, eval b X.env) :: starEach [] X.env := by rfl) (hp : (backTo pos2 (starEach [b] X.env)).any (·.1) = false := by rfl)
    (na2 : starEach [.Call (.Name "range" p2) [a, b] [] pos2] X.env = (false, eval (.Call (.Name "range" p2) [a, b] [] pos2) X.env) :: starEach [] X.env := by rfl) :
    PEM ct X W (.Call (.Name "list" p) [.Call (.Name "range" p2) [a, b] [] pos2] [] pos) (tLstRg (tRg2 ta tb)) (mLstR2 ma mb) :=
  ⟨pe_listRg hc hg hm (prg_2 hg2 hm2 h.pe h'.pe na nb hp) na2, sim_lstR2 h.sim h'.sim⟩
end
end M

namespace M
open PySem L2 PyProof.Rows
open Classical
/-! ## what is never reached -/
def tsNo : TS := fun _ _ _ => False
def smNo : SM := fun _ => .stuck
def teNo : TE := fun _ _ _ => False
def emNo : EM := fun _ => .stuck
section
variable {ct : String → Addr} {X : Cx} {W : WX} {st : Stmt} {e : Expr}
theorem s_no : PSM ct X W st tsNo smNo := ⟨⟨fun _ _ _ _ _ _ h => h.elim⟩, fun _ _ _ _ _ _ _ _ p => p⟩
theorem e_no : PEM ct X W e teNo emNo := ⟨⟨fun _ _ _ _ _ _ h => h.elim⟩, fun _ _ _ _ _ _ _ _ p => p⟩
end
/-! ## in a list of flat values -/
def flatM : MV → Bool
  | .non => true
  | .bl _ => true
  | .int _ => true
  | .str _ => true
  | _ => false
def eqM : MV → MV → Bool
  | .non, .non => true
  | .bl a, .bl b => a == b
  | .bl a, .int b => (if a then 1 else 0) == b
  | .int a, .bl b => a == (if b then 1 else 0)
  | .int a, .int b => a == b
  | .str a, .str b => a == b
  | _, _ => false
def seqG (G : MHeap) : MV → Option (List MV)
  | .lst xs => some xs
  | .tup xs => some xs
  | .scr xs => some xs
  | .ref n => (match G[n]? with
    | some (.lst xs) => some xs
    | _ => none)
  | _ => none
def oIn : MV → MV → EM := fun x y s => match seqG s.G y with
  | some xs => if flatM x = true ∧ xs.all flatM = true then .ok (.bl (xs.any fun z => eqM z x)) s else .stuck
  | none => .stuck
def oNotIn : MV → MV → EM := fun x y s => match seqG s.G y with
  | some xs => if flatM x = true ∧ xs.all flatM = true then .ok (.bl (!(xs.any fun z => eqM z x))) s else .stuck
  | none => .stuck
section
variable {K : KA} {X : Addr → Prop} {ρ : List Addr} {O : Nat → Option Addr} {s : MS} {σ : L2.St} {H Hz : Hp}
theorem flat_rep {m : MV} {v : V} (r : Rep ρ K Hz m v) (h : flatM m = true) : flatV v = true := by
  cases r <;> first | rfl | cases h
theorem eq_rep {m n : MV} {v u : V} (r : Rep ρ K Hz m v) (q : Rep ρ K Hz n u) (h : flatM m = true) (g : flatM n = true) : eqM m n = eqV v u := by
  cases r <;> first | exact absurd h Bool.false_ne_true | (cases q <;> first | rfl | exact absurd g Bool.false_ne_true)
theorem any_rep {x : MV} {u : V} (q : Rep ρ K Hz x u) (g : flatM x = true) : ∀ {ms : List MV} {vs : List V}, Reps ρ K Hz ms vs → ms.all flatM = true → vs.all flatV = true ∧ (ms.any fun z => eqM z x) = inV u vs
  | _, _, .nil, _ => ⟨rfl, rfl⟩
  | _, _, .cons r t, h => by
    rw [List.all_cons, Bool.and_eq_true] at h
    obtain ⟨h1, h2⟩ := any_rep q g t h.2
    refine ⟨by rw [List.all_cons, flat_rep r h.1, h1]; rfl, ?_⟩
    unfold inV at h2 ⊢
    rw [List.any_cons, List.any_cons, eq_rep r q h.1 g, h2]
theorem seqG_of (S : SR K X ρ O s σ H) {y : MV} {u : V} {ms : List MV} (r : Rep ρ K (view X ρ O H) y u) (h : seqG s.G y = some ms) : ∃ p vs, u = .ref p ∧ (SqL K.F H p vs ∨ SqT K.F H p vs) ∧ Reps ρ K (view X ρ O H) ms vs := by
  cases r with
  | lst hx rx => cases h; exact ⟨_, _, rfl, .inl (sqlv hx), rx⟩
  | scr hx rx => cases h; exact ⟨_, _, rfl, .inl (sql_ex (view_le _ _ _ _) hx), rx⟩
  | tup hx rx => cases h; exact ⟨_, _, rfl, .inr (sqt_ex (view_le _ _ _ _) hx), rx⟩
  | ref hn =>
    rename_i n a
    unfold seqG at h
    cases g : s.G[n]? with
    | none => simp only [g] at h; cases h
    | some o => cases o with
      | ins c ks vs => simp only [g] at h; cases h
      | dic ms => simp only [g] at h; cases h
      | lst xs =>
        simp only [g] at h
        cases h
        obtain ⟨vs, hx, rx⟩ := S.refL hn g
        exact ⟨_, _, rfl, .inl (sqlh hx), rx⟩
  | _ => cases h
end
theorem so_in {K : KA} : SimOp K (rIn K.F false) oIn := by
  intro X W ρ O s σ H x y v u Q S rx ry p
  unfold oIn at p
  cases e : seqG s.G y with
  | none => simp only [e] at p; exact p.elim
  | some xs =>
    simp only [e] at p
    by_cases h : flatM x = true ∧ xs.all flatM = true
    · rw [if_pos h] at p
      obtain ⟨a, vs, rfl, h1, h2⟩ := seqG_of S ry e
      obtain ⟨h3, h4⟩ := any_rep rx h.1 h2 h.2
      refine ⟨a, vs, rfl, h1, flat_rep rx h.1, h3, ?_⟩
      rw [if_neg (by decide), ← h4]
      exact p.done S (.bl _)
    · rw [if_neg h] at p; exact p.elim
theorem so_notIn {K : KA} : SimOp K (rIn K.F true) oNotIn := by
  intro X W ρ O s σ H x y v u Q S rx ry p
  unfold oNotIn at p
  cases e : seqG s.G y with
  | none => simp only [e] at p; exact p.elim
  | some xs =>
    simp only [e] at p
    by_cases h : flatM x = true ∧ xs.all flatM = true
    · rw [if_pos h] at p
      obtain ⟨a, vs, rfl, h1, h2⟩ := seqG_of S ry e
      obtain ⟨h3, h4⟩ := any_rep rx h.1 h2 h.2
      refine ⟨a, vs, rfl, h1, flat_rep rx h.1, h3, ?_⟩
      rw [if_pos rfl, ← h4]
      exact p.done S (.bl _)
    · rw [if_neg h] at p; exact p.elim
theorem any_strs (z : Str) : ∀ zs : List Str, ((zs.map MV.str).any fun y => eqM y (.str z)) = decide (z ∈ zs)
  | [] => rfl
  | y :: zs => by
    rw [List.map_cons, List.any_cons, any_strs z zs]
    show ((y == z) || decide (z ∈ zs)) = _
    by_cases h : y = z
    · subst h; simp
    · have h2 : ¬ z = y := fun e => h e.symm
      simp [h, h2]
theorem flat_strs : ∀ zs : List Str, (zs.map MV.str).all flatM = true
  | [] => rfl
  | _ :: zs => by rw [List.map_cons, List.all_cons, flat_strs zs]; rfl
theorem oIn_strs {z : Str} {zs : List Str} {s : MS} {y : MV} (h : seqG s.G y = some (zs.map MV.str)) : oIn (.str z) y s = .ok (.bl (decide (z ∈ zs))) s := by
  unfold oIn
  simp only [h]
  rw [if_pos ⟨rfl, flat_strs zs⟩, any_strs]
theorem oNotIn_strs {z : Str} {zs : List Str} {s : MS} {y : MV} (h : seqG s.G y = some (zs.map MV.str)) : oNotIn (.str z) y s = .ok (.bl (!decide (z ∈ zs))) s := by
  unfold oNotIn
  simp only [h]
  rw [if_pos ⟨rfl, flat_strs zs⟩, any_strs]
theorem seqG_ref {G : MHeap} {n : Nat} {xs : List MV} (h : G[n]? = some (.lst xs)) : seqG G (.ref n) = some xs := by unfold seqG; simp only [h]
/-! ## dicts by texts -/
def valD (kvs : List (Str × MV)) (z : Str) : Option MV := (kvs.find? fun p => decide (p.1 = z)).map (·.2)
def putD (kvs : List (Str × MV)) (z : Str) (m : MV) : List (Str × MV) :=
  if (kvs.any fun p => decide (p.1 = z)) = true then kvs.map (fun p => if p.1 = z then (p.1, m) else p) else kvs ++ [(z, m)]
section
variable {K : KA} {ρ : List Addr} {Hz : Hp}
def KDR (ρ : List Addr) (K : KA) (Hz : Hp) (kvs : List (Str × MV)) (fs : List (Key × V)) : Prop := fs.map (·.1) = kvs.map (fun p => Sum.inr p.1) ∧ Reps ρ K Hz (kvs.map (·.2)) (fs.map (·.2))
theorem KDR.cons {p : Str × MV} {q : Key × V} {kvs : List (Str × MV)} {fs : List (Key × V)} (h : KDR ρ K Hz (p :: kvs) (q :: fs)) : q.1 = .inr p.1 ∧ Rep ρ K Hz p.2 q.2 ∧ KDR ρ K Hz kvs fs := by
  obtain ⟨h1, h2⟩ := h
  rw [List.map_cons, List.map_cons] at h1 h2
  injection h1 with h1 h3
  cases h2 with
  | cons a b => exact ⟨h1, a, h3, b⟩
theorem KDR.val (z : Str) : ∀ {kvs : List (Str × MV)} {fs : List (Key × V)}, KDR ρ K Hz kvs fs → (valD kvs z = none ∧ valV fs (.inr z) = none) ∨ ∃ m v, valD kvs z = some m ∧ valV fs (.inr z) = some v ∧ Rep ρ K Hz m v
  | [], [], _ => .inl ⟨rfl, rfl⟩
  | [], _ :: _, h => by cases h.1
  | _ :: _, [], h => by cases h.1
  | p :: kvs, q :: fs, h => by
    obtain ⟨h1, h2, h3⟩ := h.cons
    by_cases e : p.1 = z
    · exact .inr ⟨p.2, q.2, by simp [valD, List.find?_cons, e], valV_pos (by rw [h1, e]), h2⟩
    · have e1 : valD (p :: kvs) z = valD kvs z := by simp [valD, List.find?_cons, e]
      have e2 : valV (q :: fs) (Sum.inr z) = valV fs (.inr z) := valV_neg (by rw [h1]; intro w; injection w with w; exact e w)
      rw [e1, e2]
      exact KDR.val z h3
theorem KDR.len {kvs : List (Str × MV)} {fs : List (Key × V)} (h : KDR ρ K Hz kvs fs) : kvs.length = fs.length := by
  have := congrArg List.length h.1
  rw [List.length_map, List.length_map] at this
  exact this.symm
theorem KDR.any (z : Str) {kvs : List (Str × MV)} {fs : List (Key × V)} (h : KDR ρ K Hz kvs fs) : (fs.any fun kv => decide (kv.1 = .inr z)) = kvs.any fun p => decide (p.1 = z) := by
  have e1 : (fs.any fun kv => decide (kv.1 = (.inr z : Key))) = (fs.map (·.1)).any fun k => decide (k = .inr z) := by rw [List.any_map]; rfl
  have e2 : (kvs.any fun p => decide (p.1 = z)) = (kvs.map fun p => (Sum.inr p.1 : Key)).any fun k => decide (k = .inr z) := by
    rw [List.any_map]
    congr 1
    funext p
    simp
  rw [e1, e2, h.1]
theorem KDR.repl (z : Str) {m : MV} {v : V} (r : Rep ρ K Hz m v) : ∀ {kvs : List (Str × MV)} {fs : List (Key × V)}, KDR ρ K Hz kvs fs → KDR ρ K Hz (kvs.map fun p => if p.1 = z then (p.1, m) else p) (fs.map fun kv => if kv.1 = .inr z then (kv.1, v) else kv)
  | [], [], _ => ⟨rfl, .nil⟩
  | [], _ :: _, h => by cases h.1
  | _ :: _, [], h => by cases h.1
  | p :: kvs, q :: fs, h => by
    obtain ⟨h1, h2, h3⟩ := h.cons
    obtain ⟨i1, i2⟩ := KDR.repl z r h3
    by_cases e : p.1 = z
    · have e2 : q.1 = (.inr z : Key) := by rw [h1, e]
      refine ⟨?_, ?_⟩
      · rw [List.map_cons, List.map_cons, List.map_cons, List.map_cons, i1, if_pos e, if_pos e2, h1]
      · rw [List.map_cons, List.map_cons, List.map_cons, List.map_cons, if_pos e, if_pos e2]
        exact .cons r i2
    · have e2 : ¬ q.1 = (.inr z : Key) := by rw [h1]; intro w; injection w with w; exact e w
      refine ⟨?_, ?_⟩
      · rw [List.map_cons, List.map_cons, List.map_cons, List.map_cons, i1, if_neg e, if_neg e2, h1]
      · rw [List.map_cons, List.map_cons, List.map_cons, List.map_cons, if_neg e, if_neg e2]
        exact .cons h2 i2
theorem KDR.put (z : Str) {m : MV} {v : V} (r : Rep ρ K Hz m v) {kvs : List (Str × MV)} {fs : List (Key × V)} (h : KDR ρ K Hz kvs fs) : KDR ρ K Hz (putD kvs z m) (L2.putK fs (.inr z) v) := by
  unfold putD L2.putK
  rw [h.any z]
  split
  · exact h.repl z r
  · refine ⟨by rw [List.map_append, List.map_append, h.1]; rfl, ?_⟩
    rw [List.map_append, List.map_append]
    exact h.2.append (.cons r .nil)
end
theorem SR.refD {K : KA} {X : Addr → Prop} {ρ : List Addr} {O : Nat → Option Addr} {s : MS} {σ : L2.St} {H : Hp} (S : SR K X ρ O s σ H) {n : Nat} {a : Addr} {kvs : List (Str × MV)} (h : ρ[n]? = some a) (g : s.G[n]? = some (.dic kvs)) : ∃ fs, H a = some (.dK fs) ∧ KDR ρ K (view X ρ O H) kvs fs := by
  obtain ⟨b, h1, fs, h2, h3⟩ := S.ob n _ g
  rw [h] at h1
  cases h1
  exact ⟨fs, h2, h3⟩
noncomputable def mDic0 : LM := fun s => .ok (.dic []) s
noncomputable def mDic1 (mk mv : EM) : LM := fun s => (mk s).bind fun k s1 => (mv s1).bind fun v s2 => match k with
  | .str z => .ok (.dic [(z, v)]) s2
  | _ => .stuck
noncomputable def mInD (my md : EM) : EM := fun s => (my s).bind fun y s1 => (md s1).bind fun d s2 => match d, y with
  | .ref n, .str z => (match s2.G[n]? with
    | some (.dic kvs) => .ok (.bl (valD kvs z).isSome) s2
    | _ => .stuck)
  | _, _ => .stuck
noncomputable def mNotInD (my md : EM) : EM := fun s => (my s).bind fun y s1 => (md s1).bind fun d s2 => match d, y with
  | .ref n, .str z => (match s2.G[n]? with
    | some (.dic kvs) => .ok (.bl (!(valD kvs z).isSome)) s2
    | _ => .stuck)
  | _, _ => .stuck
noncomputable def mGetD (md my : EM) : EM := fun s => (md s).bind fun d s1 => (my s1).bind fun y s2 => match d, y with
  | .ref n, .str z => (match s2.G[n]? with
    | some (.dic kvs) => (match valD kvs z with
      | some m => .ok m s2
      | none => .stuck)
    | _ => .stuck)
  | _, _ => .stuck
noncomputable def mPutD (mv md my : EM) : SM := fun s => (mv s).bind fun v s1 => (md s1).bind fun d s2 => (my s2).bind fun y s3 => match d, y with
  | .ref n, .str z => (match s3.G[n]? with
    | some (.dic kvs) => if kvs.length < 16777216 then .ok .nx ⟨s3.env, s3.G.set n (.dic (putD kvs z v))⟩ else .stuck
    | _ => .stuck)
  | _, _ => .stuck
section
variable {K : KA} {W : WX} {tk tv td ty : TE} {mk mv md my : EM}
theorem sn_dic0 : SimN K W tDNewK mDic0 := by
  intro X ρ O s σ H Q S p D hD
  refine p ρ O _ D ⟨S.hide hD _, fun q => ?_, ⟨[], upd_same, rfl, .nil⟩, Pre.refl _, by rw [view_hide hD]; exact Ex.refl _, fun b o _ e => Ex.new hD b o e⟩
  obtain ⟨u, e⟩ := S.xo D q
  rw [hD] at e; cases e
theorem sn_dic1 (hk : SimE K W tk mk) (hv : SimE K W tv mv) : SimN K W (tDisp [(tk, tv)]) (mDic1 mk mv) := by
  intro X ρ O s σ H Q S p D hD
  have S0 := S.hide hD (.dK [])
  have nX : ¬ X D := fun q => by
    obtain ⟨u, e⟩ := S.xo D q
    rw [hD] at e; cases e
  have v0 : Ex (view X ρ O H) (view (fun b => X b ∨ b = D) ρ O (upd H D (.dK []))) := by rw [view_hide hD]; exact Ex.refl _
  have fb : ∀ {ρ' O' H'}, Fut (fun b => X b ∨ b = D) ρ O (upd H D (.dK [])) ρ' O' H' → Fut X ρ O H ρ' O' H' := fun F => ⟨F.pre, (v0.trans F.ex).trans view_bare, fun b o hb e => F.xs b o (.inl hb) (Ex.new hD b o e)⟩
  unfold mDic1 at p
  show tk σ (upd H D (.dK [])) _
  refine hk (fun b => X b ∨ b = D) ρ O s σ _ _ S0 ?_
  cases e1 : mk s with
  | stuck => rw [e1] at p; exact p.elim
  | exc c s1 => rw [e1] at p; intro a b c S1 F1; exact p a b c S1.bare (fb F1)
  | ok k s1 =>
    rw [e1] at p
    intro ρ1 O1 H1 x S1 F1 r1
    show tv σ H1 _
    refine hv (fun b => X b ∨ b = D) ρ1 O1 s1 σ _ _ S1 ?_
    dsimp only [R.bind_ok] at p
    cases e2 : mv s1 with
    | stuck => rw [e2] at p; exact p.elim
    | exc c s2 => rw [e2] at p; intro a b c S2 F2; exact p a b c S2.bare (fb (F1.trans F2))
    | ok v s2 =>
      rw [e2] at p
      intro ρ2 O2 H2 u S2 F2 r2
      have r1 := F2.rep r1
      dsimp only [R.bind_ok] at p
      cases r1 with
      | str z =>
        dsimp only at p
        refine ⟨(F1.trans F2).xs D _ (.inr rfl) upd_same, [(.inr z, u)], rfl, by simp, ?_⟩
        refine p ρ2 O2 _ D ⟨S2.put _, nX, ⟨mergeK [] [(.inr z, u)], upd_same, rfl, ?_⟩, (F1.trans F2).pre, ?_, fun b o hb e => ?_⟩
        · rw [view_put]; exact .cons r2 .nil
        · rw [view_put]; exact v0.trans (F1.trans F2).ex
        · have ne : b ≠ D := fun q => nX (q ▸ hb)
          rw [upd_ne ne]
          exact (F1.trans F2).xs b o (.inl hb) (Ex.new hD b o e)
      | _ => exact p.elim
theorem dget_of {X : Addr → Prop} {ρ : List Addr} {O : Nat → Option Addr} {s : MS} {σ : L2.St} {H : Hp} (S : SR K X ρ O s σ H) {n : Nat} {a : Addr} {kvs : List (Str × MV)} (h : ρ[n]? = some a) (g : s.G[n]? = some (.dic kvs)) (z : Str) :
    (valD kvs z = none ∧ DGet H a (.str z) none) ∨ ∃ m v, valD kvs z = some m ∧ DGet H a (.str z) (some v) ∧ Rep ρ K (view X ρ O H) m v := by
  obtain ⟨fs, h1, h2⟩ := S.refD h g
  have d : DGet H a (.str z) (valV fs (.inr z)) := DGet.k (k := .inr z) h1
  rcases h2.val z with ⟨e1, e2⟩ | ⟨m, v, e1, e2, r⟩
  · rw [e2] at d; exact .inl ⟨e1, d⟩
  · rw [e2] at d; exact .inr ⟨m, v, e1, d, r⟩
theorem sim_inD (hy : SimE K W ty my) (hd : SimE K W td md) : SimE K W (tDIn ty td) (mInD my md) := by
  intro X ρ O s σ H Q S p
  refine hy.bindE S p fun y s1 ρ1 O1 H1 v S1 F1 r1 p1 => ?_
  refine hd.bindE S1 p1 fun d s2 ρ2 O2 H2 u S2 F2 r2 p2 => ?_
  have r1 := F2.rep r1
  cases r2 with
  | ref hn => cases r1 with
    | str z =>
      rename_i n a
      dsimp only at p2
      cases g : s2.G[n]? with
      | none => simp only [g] at p2; exact p2.elim
      | some o => cases o with
        | ins c ks vs => simp only [g] at p2; exact p2.elim
        | lst xs => simp only [g] at p2; exact p2.elim
        | dic kvs =>
          simp only [g] at p2
          rcases dget_of S2 hn g z with ⟨e1, d⟩ | ⟨m, v, e1, d, r⟩
          · rw [e1] at p2; exact ⟨a, none, rfl, d, p2.done S2 (.bl _)⟩
          · rw [e1] at p2; exact ⟨a, some v, rfl, d, p2.done S2 (.bl _)⟩
    | _ => exact p2.elim
  | _ => exact p2.elim
theorem sim_notInD (hy : SimE K W ty my) (hd : SimE K W td md) : SimE K W (tDNotIn ty td) (mNotInD my md) := by
  intro X ρ O s σ H Q S p
  refine hy.bindE S p fun y s1 ρ1 O1 H1 v S1 F1 r1 p1 => ?_
  refine hd.bindE S1 p1 fun d s2 ρ2 O2 H2 u S2 F2 r2 p2 => ?_
  have r1 := F2.rep r1
  cases r2 with
  | ref hn => cases r1 with
    | str z =>
      rename_i n a
      dsimp only at p2
      cases g : s2.G[n]? with
      | none => simp only [g] at p2; exact p2.elim
      | some o => cases o with
        | ins c ks vs => simp only [g] at p2; exact p2.elim
        | lst xs => simp only [g] at p2; exact p2.elim
        | dic kvs =>
          simp only [g] at p2
          rcases dget_of S2 hn g z with ⟨e1, d⟩ | ⟨m, v, e1, d, r⟩
          · rw [e1] at p2; exact ⟨a, none, rfl, d, p2.done S2 (.bl _)⟩
          · rw [e1] at p2; exact ⟨a, some v, rfl, d, p2.done S2 (.bl _)⟩
    | _ => exact p2.elim
  | _ => exact p2.elim
theorem sim_getD (hd : SimE K W td md) (hy : SimE K W ty my) : SimE K W (tDGet td ty) (mGetD md my) := by
  intro X ρ O s σ H Q S p
  refine hd.bindE S p fun d s1 ρ1 O1 H1 u S1 F1 r1 p1 => ?_
  refine hy.bindE S1 p1 fun y s2 ρ2 O2 H2 v S2 F2 r2 p2 => ?_
  have r1 := F2.rep r1
  cases r1 with
  | ref hn => cases r2 with
    | str z =>
      rename_i n a
      dsimp only at p2
      cases g : s2.G[n]? with
      | none => simp only [g] at p2; exact p2.elim
      | some o => cases o with
        | ins c ks vs => simp only [g] at p2; exact p2.elim
        | lst xs => simp only [g] at p2; exact p2.elim
        | dic kvs =>
          simp only [g] at p2
          rcases dget_of S2 hn g z with ⟨e1, d⟩ | ⟨m, v, e1, d, r⟩
          · simp only [e1] at p2; exact p2.elim
          · simp only [e1] at p2; exact ⟨a, v, rfl, d, p2.done S2 r⟩
    | _ => exact p2.elim
  | _ => exact p2.elim
theorem ss_putD (hv : SimE K W tv mv) (hd : SimE K W td md) (hy : SimE K W ty my) : SimS K W (sDPut td ty tv) (mPutD mv md my) := by
  intro X ρ O s σ H D S p
  refine hv.bindS S p fun x s1 ρ1 O1 H1 w S1 F1 r1 p1 => ?_
  refine hd.bindS S1 p1 fun d s2 ρ2 O2 H2 u S2 F2 r2 p2 => ?_
  refine hy.bindS S2 p2 fun y s3 ρ3 O3 H3 v S3 F3 r3 p3 => ?_
  have r2 := F3.rep r2
  cases r2 with
  | ref hn => cases r3 with
    | str z =>
      rename_i n a
      dsimp only at p3
      cases g : s3.G[n]? with
      | none => simp only [g] at p3; exact p3.elim
      | some o => cases o with
        | ins c ks vs => simp only [g] at p3; exact p3.elim
        | lst xs => simp only [g] at p3; exact p3.elim
        | dic kvs =>
          simp only [g] at p3
          by_cases hl : kvs.length < 16777216
          · rw [if_pos hl] at p3
            obtain ⟨fs, h1, h2⟩ := S3.refD hn g
            have h3 := h2.put z (F3.rep (F2.rep r1))
            obtain ⟨S4, F4⟩ := S3.setM (q := .dic (putD kvs z x)) (ho := .dK (L2.putK fs (.inr z) w)) hn fun Hz hz => ⟨_, hz, h3⟩
            exact ⟨a, _, rfl, DPut.k (k := .inr z) h1 (by rw [← h2.len, sizeLine_eq]; exact hl), p3 ρ3 O3 σ _ S4 F4⟩
          · rw [if_neg hl] at p3; exact p3.elim
    | _ => exact p3.elim
  | _ => exact p3.elim
end
section
variable {ct : String → Addr} {X : Cx} {W : WX} {o i e k v : Expr} {tk tv td ty te : TE} {mk mv md my me : EM} {pos pos' : Pos}
theorem f_dic0 : PNM ct X W (.Dict [] [] pos) tDNewK mDic0 := ⟨pe_dnewK, sn_dic0⟩
theorem f_dic1 (hk : PEM ct X W k tk mk) (hv : PEM ct X W v tv mv) : PNM ct X W (.Dict [some k] [v] pos) (tDisp [(tk, tv)]) (mDic1 mk mv) := ⟨pe_disp (pps_cons hk.pe hv.pe pps_nil) rfl rfl (by intro z; cases z) (by simp), sn_dic1 hk.sim hv.sim⟩
theorem e_inD (hu : X.A.units + 64 < cLine) (hi : PEM ct X W i ty my) (hd : PEM ct X W o td md) (hm : behindInMarks .In o = false := by rfl) : PEM ct X W (.Compare i [.In] [o] pos) (tDIn ty td) (mInD my md) := ⟨pe_cmp (pc_din (by omega) hi.pe hd.pe) hm, sim_inD hi.sim hd.sim⟩
theorem t_inD (hu : X.A.units + 64 < cLine) (hi : PEM ct X W i ty my) (hd : PEM ct X W o td md) (hm : behindInMarks .In o = false := by rfl) : PTM ct X W (.Compare i [.In] [o] pos) (tB (tDIn ty td)) (tOf (mInD my md)) := ⟨pt_cmp (pc_din (by omega) hi.pe hd.pe) hm, sim_tB (sim_inD hi.sim hd.sim)⟩
theorem e_notInD (hu : X.A.units + 64 < cLine) (hi : PEM ct X W i ty my) (hd : PEM ct X W o td md) (hm : behindInMarks .NotIn o = false := by rfl) : PEM ct X W (.Compare i [.NotIn] [o] pos) (tDNotIn ty td) (mNotInD my md) := ⟨pe_cmp (pc_dnotin (by omega) hi.pe hd.pe) hm, sim_notInD hi.sim hd.sim⟩
theorem t_notInD (hu : X.A.units + 64 < cLine) (hi : PEM ct X W i ty my) (hd : PEM ct X W o td md) (hm : behindInMarks .NotIn o = false := by rfl) : PTM ct X W (.Compare i [.NotIn] [o] pos) (tB (tDNotIn ty td)) (tOf (mNotInD my md)) := ⟨pt_cmp (pc_dnotin (by omega) hi.pe hd.pe) hm, sim_tB (sim_notInD hi.sim hd.sim)⟩
theorem e_getD (hu : X.A.units + 64 < cLine) (hd : PEM ct X W o td md) (hi : PEM ct X W i ty my) (hs : NoSl i := by intro _ _; rfl) : PEM ct X W (.Subscript o i pos) (tDGet td ty) (mGetD md my) := ⟨pe_dget (by omega) hd.pe hi.pe hs, sim_getD hd.sim hi.sim⟩
theorem s_putD (hu : X.A.units + 64 < cLine) (hv : PEM ct X W e tv mv) (hd : PEM ct X W o td md) (hi : PEM ct X W i ty my) (hs : swapsWith e (some (.Subscript o i pos')) pos.line X.env = pure false := by rfl) :
    PSM ct X W (.Assign [.Subscript o i pos'] e pos) (sDPut td ty tv) (mPutD mv md my) := ⟨ps_dput (by omega) hd.pe hi.pe hv.pe hs, ss_putD hv.sim hd.sim hi.sim⟩
end
/-! ## turned about: xs[::-1] -/
noncomputable def oRevSl : MV → EM := fun x s => match x with
  | .lst xs => .ok (.lst xs.reverse) s
  | .scr xs => .ok (.lst xs.reverse) s
  | _ => .stuck
theorem Reps.revC {ρ : List Addr} {K : KA} {H : Hp} : ∀ {ms : List MV} {vs : List V}, Reps ρ K H ms vs → Reps ρ K H ms.reverse vs.reverse
  | _, _, .nil => .nil
  | _, _, .cons r t => by rw [List.reverse_cons, List.reverse_cons]; exact (Reps.revC t).append (.cons r .nil)
theorem sim_revSl {K : KA} {W : WX} {te : TE} {me : EM} (h : SimE K W te me) : SimE K W (tRevL K.F te) (mUn oRevSl me) := by
  intro X ρ O s σ H Q S p
  refine h.bindE S p fun x s1 ρ1 O1 H1 v S1 F1 r1 p1 => ?_
  cases r1 with
  | lst hx rx => exact ⟨_, _, rfl, sqlv hx, fun q hq => p1.grown S1 (Ex.new hq) (.lst (S1.view_new hq) (rx.revC.mono (Pre.refl _) (view_ex (Ex.new hq))))⟩
  | scr hx rx => exact ⟨_, _, rfl, sql_ex (view_le _ _ _ _) hx, fun q hq => p1.grown S1 (Ex.new hq) (.lst (S1.view_new hq) (rx.revC.mono (Pre.refl _) (view_ex (Ex.new hq))))⟩
  | _ => exact p1.elim
section
variable {ct : String → Addr} {X : Cx} {W : WX} {e : Expr} {te : TE} {me : EM}
theorem e_revSl {k : Nat} {p1 p2 p3 pos : Pos} (h : PEM ct X W e te me) : PEM ct X W (.Subscript e (.Slice none none (some (.UnaryOp .USub (.Constant (.int 1) k p1) p2)) p3) pos) (tRevL X.K te) (mUn oRevSl me) := ⟨pe_revL h.pe, sim_revSl h.sim⟩
end
/-! ## a comprehension over a live list, frozen; a loop over a live list that leaves -/
section
variable {ct : String → Addr} {X : Cx} {W : WX} {e : Expr} {te : TE} {m : LM}
theorem e_frz (h : PNM ct X W e te m) : PEM ct X W e te (mFrz m) := ⟨h.pe, sim_frz h.sim⟩
end
section
variable {ct : String → Addr} {X : Cx} {W : WX} {scope : Scope} {elt tg iter : Expr} {ifs : List Expr} {t0 : TE} {m0 : EM} {mg : GM} {me : EM} {mt : TM} {ts : List Nat}
theorem s_setLcL (i : Nat) {own : List (Str × Nat)} {y : Str} {py : Pos} {pos spos : Pos}
    (hN : X.N.Nodup) (hi : PEM ct X W iter t0 m0) (ok : BlkOk X.N X.env.scope scope own)
    (hg : ∀ s H C cl fp, ∃ g, PGM ct (blkX X scope s H C cl fp) tg ts g mg) (ht : ∀ s H C cl fp, ∃ te, PQM ct (blkX X scope s H C cl fp) W0 ifs te mt)
    (he : ∀ s H C cl fp, ∃ te, PEM ct (blkX X scope s H C cl fp) W0 elt te me) (hc : X.calm = true := by rfl) (hts : ∀ i ∈ ts, i ∈ own.map (·.2) := by decide) (hs : ∀ x, foldedSetIterable iter X.env x = pure x := by intro _; rfl)
    (hy : X.N[i]? = some y := by rfl) (hyl : X.env.scope.names.lookup y = some .local := by rfl) (hk : X.env.scope.kind = .function := by rfl) (hl : (py.line == pos.line) = true := by rfl) (ha : (scope.names.any fun (n, k) => n == y && (k == .local || k == .cell)) = false := by rfl) :
    PSM ct X W (.Assign [.Name y py] (.ListComp elt [⟨tg, iter, ifs, 0⟩] scope pos) spos) (tAsg (tLc (iList X.K t0) (gAll ct X scope tg ts mg) (qAll ct X scope ifs mt) (eAll ct X scope elt me) (own.map (·.2))) (gName i)) (mAsg (gSet i) (mFrz (mLcLL m0 (own.map (·.2)) mg mt me))) :=
  ⟨ps_setLc hc hN hy hyl (sw_true hk hyl hl ha) (pi_list hi.pe) ok (gAll_pe hg) (qAll_pe ht) (eAll_pe he) hs,
   ss_asg (sim_frz (sf_lcL hi.sim gAll_sim qAll_sim eAll_sim hts)) (sg_name i)⟩
end
theorem forML_all {g : GM} {b : SM} {n : Nat} {all : List MV} (St : List MV → MS → Prop) (hS : ∀ xs s, St xs s → s.G[n]? = some (.lst all)) : ∀ (xs : List MV) (s : MS), St xs s →
    (∀ x xs s, St (x :: xs) s → ∃ s1, g x s = some s1 ∧ ((∃ s2, b s1 = .ok .nx s2 ∧ St xs s2))) → ∃ s', forML g b n all xs s = .ok .nx s' ∧ St [] s'
  | [], s, h, _ => ⟨s, by simp only [forML, hS _ s h, if_true], h⟩
  | x :: xs, s, h, t => by
    obtain ⟨s1, h1, s2, h2, h3⟩ := t x xs s h
    obtain ⟨s', h4, h5⟩ := forML_all St hS xs s2 h3 t
    refine ⟨s', ?_, h5⟩
    simp only [forML, hS _ s h, if_true, h1, h2]
    exact h4
theorem forML_find {α : Type} {g : GM} {b : SM} {n : Nat} {all : List MV} (e : α → MV) (q : α → Bool) (v : α → MV) (St : MS → Prop) (hS : ∀ s, St s → s.G[n]? = some (.lst all)) : ∀ (xs : List α) (s : MS), St s →
    (∀ x ∈ xs, ∀ s, St s → q x = false → ∃ s1 s2, g (e x) s = some s1 ∧ b s1 = .ok .nx s2 ∧ St s2) → (∀ x ∈ xs, ∀ s, St s → q x = true → ∃ s1 s2, g (e x) s = some s1 ∧ b s1 = .ok (.rt (v x)) s2 ∧ St s2) →
    (xs.find? q = none ∧ ∃ s', forML g b n all (xs.map e) s = .ok .nx s' ∧ St s') ∨ (∃ x, xs.find? q = some x ∧ ∃ s', forML g b n all (xs.map e) s = .ok (.rt (v x)) s' ∧ St s')
  | [], s, h, _, _ => .inl ⟨rfl, s, by simp only [List.map_nil, forML, hS s h, if_true], h⟩
  | x :: xs, s, h, t1, t2 => by
    cases hq : q x with
    | false =>
      obtain ⟨s1, s2, h1, h2, h3⟩ := t1 x List.mem_cons_self s h hq
      have step : forML g b n all ((x :: xs).map e) s = forML g b n all (xs.map e) s2 := by
        rw [List.map_cons]
        conv => lhs; unfold forML
        simp only [hS s h, if_true, h1, h2]
      rw [step, List.find?_cons, hq]
      exact forML_find e q v St hS xs s2 h3 (fun y hy => t1 y (List.mem_cons_of_mem _ hy)) fun y hy => t2 y (List.mem_cons_of_mem _ hy)
    | true =>
      obtain ⟨s1, s2, h1, h2, h3⟩ := t2 x List.mem_cons_self s h hq
      refine .inr ⟨x, by rw [List.find?_cons, hq], s2, ?_, h3⟩
      rw [List.map_cons]
      unfold forML
      simp only [hS s h, if_true, h1, h2]
theorem lcML_opt {α : Type} {g : GM} {t : TM} {e : EM} {vs : List Nat} {E0 : List SV} {n : Nat} {all : List MV} {G : MHeap} (hG : G[n]? = some (.lst all)) (i : α → MV) (f : α → Option MV) : ∀ (xs : List α) (acc : List MV), (∀ x ∈ xs, ∃ s, lcOne g t e vs E0 (i x) G = .ok (f x) s ∧ s.G = G) → lcML g t e vs E0 n all (xs.map i) acc G = .ok (acc ++ xs.filterMap f) ⟨E0, G⟩
  | [], acc, _ => by rw [List.map_nil, lcML, if_pos hG]; simp
  | x :: xs, acc, h => by
    obtain ⟨s, h1, h2⟩ := h x (by simp)
    rw [List.map_cons, lcML, if_pos hG, h1]
    cases hf : f x with
    | none =>
      simp only
      rw [h2, lcML_opt hG i f xs acc (fun y hy => h y (by simp [hy])), List.filterMap_cons, hf]
    | some z =>
      simp only
      rw [h2, lcML_opt hG i f xs (acc ++ [z]) (fun y hy => h y (by simp [hy])), List.filterMap_cons, hf]
      simp
theorem lcEndFL_test {α : Type} {g : GM} {t : TM} {el : EM} {vs : List Nat} {n : Nat} {xs : List α} {s : MS} (e f : α → MV) (p : α → Bool) (hG : s.G[n]? = some (.lst (xs.map e))) (hl : xs.length ≤ 16777216) (hn : noOw s.env vs = true)
    (h : ∀ x ∈ xs, ∃ s', lcOne g t el vs (wipeE s.env vs) (e x) s.G = .ok (if p x = true then some (f x) else none) s' ∧ s'.G = s.G) : lcEndFL g t el vs n (xs.map e) s = .ok (.lst ((xs.filter p).map f)) s := by
  unfold lcEndFL
  rw [if_pos (show lim _ by unfold lim; rw [List.length_map]; exact hl), if_pos hn, lcML_opt hG e (fun x => if p x = true then some (f x) else none) xs [] h, List.nil_append]
  have q : ∀ l : List α, l.filterMap (fun x => if p x = true then some (f x) else none) = (l.filter p).map f := by
    intro l
    induction l with
    | nil => rfl
    | cons a l ih =>
      rw [List.filterMap_cons, List.filter_cons]
      by_cases c : p a = true
      · simp only [c, if_true, List.map_cons, ih]
      · simp only [c, Bool.false_eq_true, if_false, ih]
  rw [q]
theorem forML_fold {α σ : Type} {g : GM} {b : SM} {n : Nat} {all : List MV} (e : α → MV) (f : σ → α → σ) (St : σ → MS → Prop) (hS : ∀ a s, St a s → s.G[n]? = some (.lst all)) : ∀ (xs : List α) (a : σ) (s : MS), St a s →
    (∀ x ∈ xs, ∀ a s, St a s → ∃ s1 s2, g (e x) s = some s1 ∧ b s1 = .ok .nx s2 ∧ St (f a x) s2) → ∃ s', forML g b n all (xs.map e) s = .ok .nx s' ∧ St (xs.foldl f a) s'
  | [], a, s, h, _ => ⟨s, by simp only [List.map_nil, forML, hS a s h, if_true], h⟩
  | x :: xs, a, s, h, t => by
    obtain ⟨s1, s2, h1, h2, h3⟩ := t x List.mem_cons_self a s h
    obtain ⟨s', h4, h5⟩ := forML_fold e f St hS xs (f a x) s2 h3 fun y hy => t y (List.mem_cons_of_mem _ hy)
    refine ⟨s', ?_, h5⟩
    simp only [List.map_cons, forML, hS a s h, if_true, h1, h2]
    exact h4
theorem ap0 {α : Type} (B : List α) (x y : α) : (B ++ [x, y])[B.length]? = some x := by rw [List.getElem?_append_right (Nat.le_refl _), Nat.sub_self]; rfl
theorem ap1 {α : Type} (B : List α) (x y : α) : (B ++ [x, y])[B.length + 1]? = some y := by rw [List.getElem?_append_right (by omega), show B.length + 1 - B.length = 1 by omega]; rfl
theorem apl {α : Type} {B : List α} {n : Nat} {z : α} (D : List α) (h : B[n]? = some z) : (B ++ D)[n]? = some z := by rw [List.getElem?_append_left (List.getElem?_eq_some_iff.mp h).1, h]
theorem st0 {α : Type} (B : List α) (x y z : α) : (B ++ [x, y]).set B.length z = B ++ [z, y] := by rw [List.set_append_right _ _ (Nat.le_refl _), Nat.sub_self]; rfl
theorem st1 {α : Type} (B : List α) (x y z : α) : (B ++ [x, y]).set (B.length + 1) z = B ++ [x, z] := by rw [List.set_append_right _ _ (by omega), show B.length + 1 - B.length = 1 by omega]; rfl
theorem a00 {α : Type} (B : List α) (x : α) : (B ++ [x])[B.length]? = some x := by rw [List.getElem?_append_right (Nat.le_refl _), Nat.sub_self]; rfl
theorem s00 {α : Type} (B : List α) (x z : α) : (B ++ [x]).set B.length z = B ++ [z] := by rw [List.set_append_right _ _ (Nat.le_refl _), Nat.sub_self]; rfl
end M

namespace M
open PySem L2 PyProof.Rows
open Classical
/-! ## equality of data with live lists in live lists -/
mutual
def toGr (f : Nat → Option PyData) : MV → Option PyData
  | .non => some .none
  | .bl b => some (.bool b)
  | .int i => some (.int i)
  | .str s => some (.str s)
  | .tup xs => (toGrs f xs).map .tuple
  | .lst xs => (toGrs f xs).map .list
  | .scr xs => (toGrs f xs).map .list
  | .obj _ _ _ => none
  | .ref n => f n
  | .err _ => none
  | .dic => none
def toGrs (f : Nat → Option PyData) : List MV → Option (List PyData)
  | [] => some []
  | x :: xs => match toGr f x, toGrs f xs with
    | some d, some ds => some (d :: ds)
    | _, _ => none
end
def refD (G : MHeap) : Nat → Nat → Option PyData
  | 0, _ => none
  | k + 1, n => (match G[n]? with
    | some (.lst xs) => (toGrs (refD G k) xs).map .list
    | _ => none)
def toH (G : MHeap) : MV → Option PyData := toGr (refD G 4)
noncomputable def oEqH : MV → MV → EM := fun x y s => match toH s.G x, toH s.G y with
  | some d, some e => if SeqAt.shaped d = true ∧ SeqAt.shaped e = true then .ok (.bl (PyData.eqv d e)) s else .stuck
  | _, _ => .stuck
noncomputable def oNeH : MV → MV → EM := fun x y s => match toH s.G x, toH s.G y with
  | some d, some e => if SeqAt.shaped d = true ∧ SeqAt.shaped e = true then .ok (.bl (!PyData.eqv d e)) s else .stuck
  | _, _ => .stuck
section
variable {K : KA} {X : Addr → Prop} {ρ : List Addr} {O : Nat → Option Addr} {s : MS} {σ : L2.St} {H : Hp}
mutual
theorem toGr_dp {f : Nat → Option PyData} (hf : ∀ n a d, ρ[n]? = some a → f n = some d → Dp K.F H (.ref a) d) : ∀ {x : MV} {v : V} {d : PyData}, Rep ρ K (view X ρ O H) x v → toGr f x = some d → Dp K.F H v d
  | _, _, _, .non, h => by simp only [toGr] at h; cases h; exact .non
  | _, _, _, .bl b, h => by simp only [toGr] at h; cases h; exact .bl b
  | _, _, _, .int i, h => by simp only [toGr] at h; cases h; exact .int i
  | _, _, _, .str s, h => by simp only [toGr] at h; cases h; exact .str s
  | .tup xs, _, d, .tup hs r, h => by
    rw [toGr] at h
    obtain ⟨ds, h1, rfl⟩ := Option.map_eq_some_iff.mp h
    exact .tup (sqt_ex (view_le _ _ _ _) hs) (toGrs_dp hf r h1)
  | .lst xs, _, d, .lst hs r, h => by
    rw [toGr] at h
    obtain ⟨ds, h1, rfl⟩ := Option.map_eq_some_iff.mp h
    exact .lst (sqlv hs) (toGrs_dp hf r h1)
  | .scr xs, _, d, .scr hs r, h => by
    rw [toGr] at h
    obtain ⟨ds, h1, rfl⟩ := Option.map_eq_some_iff.mp h
    exact .lst (sql_ex (view_le _ _ _ _) hs) (toGrs_dp hf r h1)
  | _, _, _, .obj _ _ _, h => by simp only [toGr] at h; cases h
  | .ref n, _, d, .ref hn, h => by
    rw [toGr] at h
    exact hf _ _ _ hn h
  | _, _, _, .err _, h => by simp only [toGr] at h; cases h
  | _, _, _, .dic _, h => by simp only [toGr] at h; cases h
theorem toGrs_dp {f : Nat → Option PyData} (hf : ∀ n a d, ρ[n]? = some a → f n = some d → Dp K.F H (.ref a) d) : ∀ {x : List MV} {v : List V} {d : List PyData}, Reps ρ K (view X ρ O H) x v → toGrs f x = some d → DpAll K.F H v d
  | _, _, _, .nil, h => by simp only [toGrs] at h; cases h; exact .nil
  | x :: xs, _, d, .cons r t, h => by
    rw [toGrs] at h
    cases e1 : toGr f x with
    | none => simp only [e1] at h; cases h
    | some d1 =>
      cases e2 : toGrs f xs with
      | none => simp only [e1, e2] at h; cases h
      | some d2 =>
        simp only [e1, e2] at h
        cases h
        exact .cons (toGr_dp hf r e1) (toGrs_dp hf t e2)
end
theorem refD_dp (S : SR K X ρ O s σ H) : ∀ (k n : Nat) (a : Addr) (d : PyData), ρ[n]? = some a → refD s.G k n = some d → Dp K.F H (.ref a) d
  | 0, n, a, d, _, h => by cases h
  | k + 1, n, a, d, hn, h => by
    unfold refD at h
    cases g : s.G[n]? with
    | none => simp only [g] at h; cases h
    | some o => cases o with
      | ins c ks vs => simp only [g] at h; cases h
      | dic ms => simp only [g] at h; cases h
      | lst ms =>
        simp only [g] at h
        obtain ⟨ds, h1, rfl⟩ := Option.map_eq_some_iff.mp h
        obtain ⟨us, hx, rx⟩ := S.refL hn g
        exact .lst (sqlh hx) (toGrs_dp (refD_dp S k) rx h1)
theorem toH_dp (S : SR K X ρ O s σ H) {x : MV} {v : V} {d : PyData} (r : Rep ρ K (view X ρ O H) x v) (h : toH s.G x = some d) : Dp K.F H v d := toGr_dp (refD_dp S 4) r h
end
theorem so_eqH {K : KA} : SimOp K (rEqD K.F) oEqH := by
  intro X W ρ O s σ H x y v u Q S rx ry p
  unfold oEqH at p
  cases e1 : toH s.G x with
  | none => simp only [e1] at p; exact p.elim
  | some d =>
    cases e2 : toH s.G y with
    | none => simp only [e1, e2] at p; exact p.elim
    | some e =>
      simp only [e1, e2] at p
      by_cases h : SeqAt.shaped d = true ∧ SeqAt.shaped e = true
      · rw [if_pos h] at p
        exact ⟨d, e, toH_dp S rx e1, toH_dp S ry e2, h.1, h.2, p.done S (.bl _)⟩
      · rw [if_neg h] at p; exact p.elim
theorem so_neH {K : KA} : SimOp K (rNeD K.F) oNeH := by
  intro X W ρ O s σ H x y v u Q S rx ry p
  unfold oNeH at p
  cases e1 : toH s.G x with
  | none => simp only [e1] at p; exact p.elim
  | some d =>
    cases e2 : toH s.G y with
    | none => simp only [e1, e2] at p; exact p.elim
    | some e =>
      simp only [e1, e2] at p
      by_cases h : SeqAt.shaped d = true ∧ SeqAt.shaped e = true
      · rw [if_pos h] at p
        exact ⟨d, e, toH_dp S rx e1, toH_dp S ry e2, h.1, h.2, p.done S (.bl _)⟩
      · rw [if_neg h] at p; exact p.elim
/-- the same data on both sides -/
theorem oEqH_refl {x y m : MV} {s : MS} (hm : Shp 64 m) (h1 : toH s.G x = toD m) (h2 : toH s.G y = toD m) : oEqH x y s = .ok (.bl true) s := by
  obtain ⟨d, g1, g2, g3⟩ := hm.shaped
  unfold oEqH
  rw [h1, h2, g1]
  simp only [g2, and_self, if_true, g3]
theorem oNeH_refl {x y m : MV} {s : MS} (hm : Shp 64 m) (h1 : toH s.G x = toD m) (h2 : toH s.G y = toD m) : oNeH x y s = .ok (.bl false) s := by
  obtain ⟨d, g1, g2, g3⟩ := hm.shaped
  unfold oNeH
  rw [h1, h2, g1]
  simp only [g2, and_self, if_true, g3, Bool.not_true]
mutual
theorem toGr_D (f : Nat → Option PyData) : ∀ (m : MV) (d : PyData), toD m = some d → toGr f m = some d
  | .non, _, h => h
  | .bl _, _, h => h
  | .int _, _, h => h
  | .str _, _, h => h
  | .tup xs, d, h => by
    rw [toD] at h
    obtain ⟨ds, h1, rfl⟩ := Option.map_eq_some_iff.mp h
    rw [toGr, toGrs_D f xs ds h1]; rfl
  | .lst xs, d, h => by
    rw [toD] at h
    obtain ⟨ds, h1, rfl⟩ := Option.map_eq_some_iff.mp h
    rw [toGr, toGrs_D f xs ds h1]; rfl
  | .scr xs, d, h => by
    rw [toD] at h
    obtain ⟨ds, h1, rfl⟩ := Option.map_eq_some_iff.mp h
    rw [toGr, toGrs_D f xs ds h1]; rfl
  | .obj _ _ _, _, h => by rw [toD] at h; cases h
  | .ref _, _, h => by rw [toD] at h; cases h
  | .err _, _, h => by rw [toD] at h; cases h
  | .dic, _, h => by rw [toD] at h; cases h
theorem toGrs_D (f : Nat → Option PyData) : ∀ (ms : List MV) (ds : List PyData), toDs ms = some ds → toGrs f ms = some ds
  | [], _, h => h
  | m :: ms, ds, h => by
    rw [toDs] at h
    cases e1 : toD m with
    | none => simp only [e1] at h; cases h
    | some d1 =>
      cases e2 : toDs ms with
      | none => simp only [e1, e2] at h; cases h
      | some d2 =>
        simp only [e1, e2] at h
        cases h
        rw [toGrs, toGr_D f m d1 e1, toGrs_D f ms d2 e2]
end
end M

namespace M
open PySem L2 PyProof.Rows
theorem walk_X {b : SM} {n : Nat} (hrun : ∀ ns : List Int, ns.length ≤ 63 → (∀ z ∈ ns, Builtin.Int.intBits z ≤ 1048576) → ∃ G', runB b n [.scr (ns.map MV.int)] [] = .ok (.bl true) G') {l : PySem.W.OpenLaw} {k m : Nat} {q : Program} {loose : List Str} {XP : (Str → Option Value) → Heap → Prop} {d : DefRec} {x : Str} {fa : List FF} {fn : List He.FnD}
    (hn : l.most = some 63) (hdf : d.params.defaults = []) (hr : Room k callerA)
    (F : ∀ (w : World) (mg : Str → Option Value) (f : Addr) (h : Heap) (K : PySem.W.Frag), K.In h → SaysX fa fn K → h.Ns mainGlobals mg → mg d.name = some (.ref f) →
      ∃ fd : FuncData, (∀ (s : Shared) (u : Value), BindsTo s fd ⟨[u], []⟩ [(x, u)]) ∧
        ∀ base : Heap, K.In base → base.Ns mainGlobals mg → FnOk l.prog w K mg base (L2.CX l.prog w) k f fd [x] (spM ⟨K, ctOf K⟩ (fnLaw b n))) :
    PySem.W.WalkO q loose XP (hookX m fa fn).says l.row.toRowW d [] (fun f vs => PySem.call f vs) := by
  refine Att.attach_callB hn hdf fun w s₀ s₁ mg mb f o pm cd doc a vs ns G Y ho hd hcd hmg hobj hints hlen hbits hg => ?_
  obtain ⟨K, KX, c⟩ := Y
  obtain ⟨fd, hb, hF⟩ := F w mg f _ K KX c G.T.g hmg
  exact law_call KX G.T.g G.T.b G.T.builtins G.T.nolimit hg hobj hints (Nat.le_trans hlen (by decide)) hr hF hb (fun H hO hS => law_sp hrun hlen hbits hS) fun H e s' h => by
    obtain ⟨_, _, _, _, _, _, _, _, _, _, _, _, z⟩ := h
    exact z
/-- a comprehension in a comprehension -/
theorem relabel_look {env : Env} {x : Str} : ∀ {names : List (Str × NameKind)}, (names.lookup x = some .cell ∨ names.lookup x = some .free) →
    (names.map fun (n, k) => if (k == NameKind.free && env.scope.kind == .function && env.kindOf n == some .cell) then (n, NameKind.cell) else (n, k)).lookup x = some .cell ∨ (names.map fun (n, k) => if (k == NameKind.free && env.scope.kind == .function && env.kindOf n == some .cell) then (n, NameKind.cell) else (n, k)).lookup x = some .free
  | [], h => by simp at h
  | (n, k) :: r, h => by
    rw [List.map_cons]
    dsimp only
    cases hx : x == n with
    | true =>
      simp only [List.lookup_cons, hx, Option.some.injEq] at h
      by_cases hc : (k == NameKind.free && env.scope.kind == .function && env.kindOf n == some .cell) = true
      · rw [if_pos hc]; exact .inl (by simp only [List.lookup_cons, hx])
      · rw [if_neg hc]; simp only [List.lookup_cons, hx, Option.some.injEq]; exact h
    | false =>
      simp only [List.lookup_cons, hx] at h
      have ih := relabel_look (env := env) h
      by_cases hc : (k == NameKind.free && env.scope.kind == .function && env.kindOf n == some .cell) = true
      · rw [if_pos hc]; simp only [List.lookup_cons, hx]; exact ih
      · rw [if_neg hc]; simp only [List.lookup_cons, hx]; exact ih
theorem blkOk_n {X : Cx} {scope sc2 : Scope} {s : Shared} {H : Hp} {C : Addr} {cl : List (Str × Addr)} {fp : List Addr} {own : List (Str × Nat)} (h : BlkOk X.N scope sc2 own) : BlkOk (blkX X scope s H C cl fp).N (blkX X scope s H C cl fp).env.scope sc2 own :=
  ⟨h.kind, h.uniq, h.ix, fun y hy e => relabel_look (h.free y hy e), h.own⟩
end M

namespace Lk54
open PySem L2 M
def ks_Chain : List Str := ["parts", "states"]
def ks_Patch : List Str := ["kept_tracks", "kept_buses", "kept_sends", "kept_outs"]

noncomputable def mf__law_cell_at : FM := fn2 fun a b G => match a, b with
  | .scr xs, .int k => if 0 ≤ k then .ok (if k < xs.length then xs.getD k.toNat .non else .int 0) G else .stuck
  | _, _ => .stuck


def N_parts_told : List Str := ["words", "word"]
noncomputable def q_parts_told_1 : TM := qYes
noncomputable def e_parts_told_1 : EM := emNo
noncomputable def ms_parts_told : SM := (mSeq (mIf (tOrM (tNotM (tOf (mUn (oIsi "list") (mVar 0)))) (tOf (mBin oGt (mArg bLen (aCons (mVar 0) aNil)) (mCon (.int 8))))) smNo mNx)
  (mRet (mLcF (iOf (mVar 0)) [1] (gSet 1) q_parts_told_1 e_parts_told_1)))
noncomputable def mf_parts_told : FM := fun ms G => if ms.length = 1 then runB (shut ms_parts_told) N_parts_told.length ms G else .stuck
theorem len_parts_told (ms : List MV) (G : MHeap) (h : mf_parts_told ms G ≠ .stuck) : ms.length = 1 := by
  unfold mf_parts_told at h
  split at h
  · assumption
  · exact absurd rfl h
theorem self_parts_told (ms : List MV) (G : MHeap) (h : ms.length = 1) : mf_parts_told ms G = runB ms_parts_told N_parts_told.length ms G := by
  unfold mf_parts_told
  rw [if_pos h, shut_eq]
def N_Chain___init__ : List Str := ["self", "words", "part"]
noncomputable def q_Chain___init___1 : TM := qYes
noncomputable def e_Chain___init___1 : EM := emNo
noncomputable def ms_Chain___init__ : SM := (mSeq (mSetF ["Chain"] "parts" (mCall mf_parts_told (aCons (mVar 1) aNil)) (mVar 0))
  (mSetF ["Chain"] "states" (mLcF (iOf (mUn (oFld ["Chain"] "parts") (mVar 0))) [2] (gSet 2) q_Chain___init___1 e_Chain___init___1) (mVar 0)))
noncomputable def mf_Chain___init__ : FM := fun ms G => if ms.length = 2 then runB (shut ms_Chain___init__) N_Chain___init__.length ms G else .stuck
theorem len_Chain___init__ (ms : List MV) (G : MHeap) (h : mf_Chain___init__ ms G ≠ .stuck) : ms.length = 2 := by
  unfold mf_Chain___init__ at h
  split at h
  · assumption
  · exact absurd rfl h
theorem self_Chain___init__ (ms : List MV) (G : MHeap) (h : ms.length = 2) : mf_Chain___init__ ms G = runB ms_Chain___init__ N_Chain___init__.length ms G := by
  unfold mf_Chain___init__
  rw [if_pos h, shut_eq]
def N_Chain_words : List Str := ["self", "part"]
noncomputable def q_Chain_words_1 : TM := qYes
noncomputable def e_Chain_words_1 : EM := emNo
noncomputable def ms_Chain_words : SM := (mRet (mLcF (iOf (mUn (oFld ["Chain"] "parts") (mVar 0))) [1] (gSet 1) q_Chain_words_1 e_Chain_words_1))
noncomputable def mf_Chain_words : FM := fun ms G => if ms.length = 1 then runB (shut ms_Chain_words) N_Chain_words.length ms G else .stuck
theorem len_Chain_words (ms : List MV) (G : MHeap) (h : mf_Chain_words ms G ≠ .stuck) : ms.length = 1 := by
  unfold mf_Chain_words at h
  split at h
  · assumption
  · exact absurd rfl h
theorem self_Chain_words (ms : List MV) (G : MHeap) (h : ms.length = 1) : mf_Chain_words ms G = runB ms_Chain_words N_Chain_words.length ms G := by
  unfold mf_Chain_words
  rw [if_pos h, shut_eq]
def N_is_name : List Str := ["thing", "sign"]
noncomputable def b_is_name_1 : SM := (mIf (tOf (mBin oNotInS (mVar 1) (mCon (.str "abcdefghijklmnopqrstuvwxyz")))) (mRet (mCon (.bl false))) mNx)
noncomputable def ms_is_name : SM := (mSeq (mIf (tOrM (tNotM (tOf (mUn (oIsi "str") (mVar 0)))) (tOrM (tOf (mBin oLt (mArg bLen (aCons (mVar 0) aNil)) (mCon (.int 1)))) (tOf (mBin oGt (mArg bLen (aCons (mVar 0) aNil)) (mCon (.int 8)))))) (mRet (mCon (.bl false))) mNx)
  (mSeq (mFor (iSigns (mVar 0)) (gSet 1) b_is_name_1)
  (mRet (mCon (.bl true)))))
noncomputable def mf_is_name : FM := fun ms G => if ms.length = 1 then runB (shut ms_is_name) N_is_name.length ms G else .stuck
theorem len_is_name (ms : List MV) (G : MHeap) (h : mf_is_name ms G ≠ .stuck) : ms.length = 1 := by
  unfold mf_is_name at h
  split at h
  · assumption
  · exact absurd rfl h
theorem self_is_name (ms : List MV) (G : MHeap) (h : ms.length = 1) : mf_is_name ms G = runB ms_is_name N_is_name.length ms G := by
  unfold mf_is_name
  rw [if_pos h, shut_eq]
def N_way_between : List Str := ["sends", "first", "last", "ways", "seen", "at", "way", "here", "source", "bus", "words"]
noncomputable def b_way_between_1 : SM := (mIf (tAndM (tOf (mBin oEq (mVar 8) (mVar 7))) (tOf (mNotInD (mVar 9) (mVar 4)))) (mSeq (mPutD (mCon (.bl true)) (mVar 4) (mVar 9))
  (mAppL (mVar 3) (mBin oAdd (mVar 6) (mArg oLst (aCons (mVar 9) aNil))))) mNx)
noncomputable def c_way_between_1 : TM := (tOf (mBin oLt (mVar 5) (mArg bLen (aCons (mVar 3) aNil))))
noncomputable def b_way_between_2 : SM := (mSeq (mAsg (gSet 6) (mBin oIdx (mVar 3) (mVar 5)))
  (mSeq (mAsg (gSet 7) (mBin oIdx (mVar 6) (mBin oSub (mArg bLen (aCons (mVar 6) aNil)) (mCon (.int 1)))))
  (mSeq (mIf (tOf (mBin oEq (mVar 7) (mVar 2))) (mRet (mVar 6)) mNx)
  (mSeq (mForL (mVar 0) (gTupM 3 (gsConsM (gSet 8) (gsConsM (gSet 9) (gsConsM (gSet 10) gsNilM)))) b_way_between_1)
  (mAsg (gSet 5) (mBin oAdd (mVar 5) (mCon (.int 1))))))))
noncomputable def ms_way_between : SM := (mSeq (mAsg (gSet 3) (mLive (mLstN (aCons (mArg oLst (aCons (mVar 1) aNil)) aNil))))
  (mSeq (mAsg (gSet 4) (mLive (mDic1 (mVar 1) (mCon (.bl true)))))
  (mSeq (mAsg (gSet 5) (mCon (.int 0)))
  (mSeq (mWhile c_way_between_1 b_way_between_2)
  (mRet (mArg oLst aNil))))))
noncomputable def mf_way_between : FM := fun ms G => if ms.length = 3 then runB (shut ms_way_between) N_way_between.length ms G else .stuck
theorem len_way_between (ms : List MV) (G : MHeap) (h : mf_way_between ms G ≠ .stuck) : ms.length = 3 := by
  unfold mf_way_between at h
  split at h
  · assumption
  · exact absurd rfl h
theorem self_way_between (ms : List MV) (G : MHeap) (h : ms.length = 3) : mf_way_between ms G = runB ms_way_between N_way_between.length ms G := by
  unfold mf_way_between
  rw [if_pos h, shut_eq]
def N_Patch___init__ : List Str := ["self"]
noncomputable def ms_Patch___init__ : SM := (mSeq (mSetF ["Patch"] "kept_tracks" (mLive (mLstN aNil)) (mVar 0))
  (mSeq (mSetF ["Patch"] "kept_buses" (mLive (mLstN aNil)) (mVar 0))
  (mSeq (mSetF ["Patch"] "kept_sends" (mLive (mLstN aNil)) (mVar 0))
  (mSetF ["Patch"] "kept_outs" (mLive (mLstN aNil)) (mVar 0)))))
noncomputable def mf_Patch___init__ : FM := fun ms G => if ms.length = 1 then runB (shut ms_Patch___init__) N_Patch___init__.length ms G else .stuck
theorem len_Patch___init__ (ms : List MV) (G : MHeap) (h : mf_Patch___init__ ms G ≠ .stuck) : ms.length = 1 := by
  unfold mf_Patch___init__ at h
  split at h
  · assumption
  · exact absurd rfl h
theorem self_Patch___init__ (ms : List MV) (G : MHeap) (h : ms.length = 1) : mf_Patch___init__ ms G = runB ms_Patch___init__ N_Patch___init__.length ms G := by
  unfold mf_Patch___init__
  rw [if_pos h, shut_eq]
def N_Patch_asked_new : List Str := ["self", "name"]
noncomputable def ms_Patch_asked_new : SM := (mSeq (mIf (tNotM (tOf (mCall mf_is_name (aCons (mVar 1) aNil)))) smNo mNx)
  (mSeq (mIf (tOrM (tOf (mBin oIn (mVar 1) (mUn (oFld ["Patch"] "kept_tracks") (mVar 0)))) (tOf (mBin oIn (mVar 1) (mUn (oFld ["Patch"] "kept_buses") (mVar 0))))) smNo mNx)
  (mRet (mVar 1))))
noncomputable def mf_Patch_asked_new : FM := fun ms G => if ms.length = 2 then runB (shut ms_Patch_asked_new) N_Patch_asked_new.length ms G else .stuck
theorem len_Patch_asked_new (ms : List MV) (G : MHeap) (h : mf_Patch_asked_new ms G ≠ .stuck) : ms.length = 2 := by
  unfold mf_Patch_asked_new at h
  split at h
  · assumption
  · exact absurd rfl h
theorem self_Patch_asked_new (ms : List MV) (G : MHeap) (h : ms.length = 2) : mf_Patch_asked_new ms G = runB ms_Patch_asked_new N_Patch_asked_new.length ms G := by
  unfold mf_Patch_asked_new
  rw [if_pos h, shut_eq]
noncomputable def tb_asked_new : List (String × FM) := [("Patch", mf_Patch_asked_new)]
def N_Patch_track : List Str := ["self", "name"]
noncomputable def ms_Patch_track : SM := (mAppL (mUn (oFld ["Patch"] "kept_tracks") (mVar 0)) (mMeth "asked_new" tb_asked_new (mVar 0) (aCons (mVar 1) aNil)))
noncomputable def mf_Patch_track : FM := fun ms G => if ms.length = 2 then runB (shut ms_Patch_track) N_Patch_track.length ms G else .stuck
theorem len_Patch_track (ms : List MV) (G : MHeap) (h : mf_Patch_track ms G ≠ .stuck) : ms.length = 2 := by
  unfold mf_Patch_track at h
  split at h
  · assumption
  · exact absurd rfl h
theorem self_Patch_track (ms : List MV) (G : MHeap) (h : ms.length = 2) : mf_Patch_track ms G = runB ms_Patch_track N_Patch_track.length ms G := by
  unfold mf_Patch_track
  rw [if_pos h, shut_eq]
def N_Patch_bus : List Str := ["self", "name"]
noncomputable def ms_Patch_bus : SM := (mAppL (mUn (oFld ["Patch"] "kept_buses") (mVar 0)) (mMeth "asked_new" tb_asked_new (mVar 0) (aCons (mVar 1) aNil)))
noncomputable def mf_Patch_bus : FM := fun ms G => if ms.length = 2 then runB (shut ms_Patch_bus) N_Patch_bus.length ms G else .stuck
theorem len_Patch_bus (ms : List MV) (G : MHeap) (h : mf_Patch_bus ms G ≠ .stuck) : ms.length = 2 := by
  unfold mf_Patch_bus at h
  split at h
  · assumption
  · exact absurd rfl h
theorem self_Patch_bus (ms : List MV) (G : MHeap) (h : ms.length = 2) : mf_Patch_bus ms G = runB ms_Patch_bus N_Patch_bus.length ms G := by
  unfold mf_Patch_bus
  rw [if_pos h, shut_eq]
noncomputable def tb_words : List (String × FM) := [("Chain", mf_Chain_words)]
def N_Patch_send : List Str := ["self", "source", "bus", "words", "chain", "ring"]
noncomputable def ms_Patch_send : SM := (mSeq (mIf (tAndM (tOf (mBin oNotIn (mVar 1) (mUn (oFld ["Patch"] "kept_tracks") (mVar 0)))) (tOf (mBin oNotIn (mVar 1) (mUn (oFld ["Patch"] "kept_buses") (mVar 0))))) smNo mNx)
  (mSeq (mIf (tOf (mBin oNotIn (mVar 2) (mUn (oFld ["Patch"] "kept_buses") (mVar 0)))) smNo mNx)
  (mSeq (mAsg (gSet 4) (mMkF "Chain" mf_Chain___init__ (aCons (mVar 3) aNil)))
  (mSeq (mAsg (gSet 5) (mCall mf_way_between (aCons (mUn (oFld ["Patch"] "kept_sends") (mVar 0)) (aCons (mVar 2) (aCons (mVar 1) aNil)))))
  (mSeq (mIf (tOf (mBin oNe (mVar 5) (mArg oLst aNil))) smNo mNx)
  (mAppL (mUn (oFld ["Patch"] "kept_sends") (mVar 0)) (mArg oTup (aCons (mVar 1) (aCons (mVar 2) (aCons (mMeth "words" tb_words (mVar 4) aNil) aNil))))))))))
noncomputable def mf_Patch_send : FM := fun ms G => if ms.length = 4 then runB (shut ms_Patch_send) N_Patch_send.length ms G else .stuck
theorem len_Patch_send (ms : List MV) (G : MHeap) (h : mf_Patch_send ms G ≠ .stuck) : ms.length = 4 := by
  unfold mf_Patch_send at h
  split at h
  · assumption
  · exact absurd rfl h
theorem self_Patch_send (ms : List MV) (G : MHeap) (h : ms.length = 4) : mf_Patch_send ms G = runB ms_Patch_send N_Patch_send.length ms G := by
  unfold mf_Patch_send
  rw [if_pos h, shut_eq]
def N_Patch_is_ready : List Str := ["self", "bus", "told", "source", "to", "words"]
noncomputable def b_Patch_is_ready_1 : SM := (mIf (tAndM (tOf (mBin oEq (mVar 4) (mVar 1))) (tAndM (tOf (mBin oIn (mVar 3) (mUn (oFld ["Patch"] "kept_buses") (mVar 0)))) (tOf (mBin oNotIn (mVar 3) (mVar 2))))) (mRet (mCon (.bl false))) mNx)
noncomputable def ms_Patch_is_ready : SM := (mSeq (mForL (mUn (oFld ["Patch"] "kept_sends") (mVar 0)) (gTupM 3 (gsConsM (gSet 3) (gsConsM (gSet 4) (gsConsM (gSet 5) gsNilM)))) b_Patch_is_ready_1)
  (mRet (mCon (.bl true))))
noncomputable def mf_Patch_is_ready : FM := fun ms G => if ms.length = 3 then runB (shut ms_Patch_is_ready) N_Patch_is_ready.length ms G else .stuck
theorem len_Patch_is_ready (ms : List MV) (G : MHeap) (h : mf_Patch_is_ready ms G ≠ .stuck) : ms.length = 3 := by
  unfold mf_Patch_is_ready at h
  split at h
  · assumption
  · exact absurd rfl h
theorem self_Patch_is_ready (ms : List MV) (G : MHeap) (h : ms.length = 3) : mf_Patch_is_ready ms G = runB ms_Patch_is_ready N_Patch_is_ready.length ms G := by
  unfold mf_Patch_is_ready
  rw [if_pos h, shut_eq]
noncomputable def tb_is_ready : List (String × FM) := [("Patch", mf_Patch_is_ready)]
def N_Patch_order : List Str := ["self", "told", "bus", "ready"]
noncomputable def q_Patch_order_1 : TM := (tAndM (tOf (mBin oNotIn (mVar 2) (mVar 1))) (tOf (mMeth "is_ready" tb_is_ready (mVar 0) (aCons (mVar 2) (aCons (mVar 1) aNil)))))
noncomputable def e_Patch_order_1 : EM := (mVar 2)
noncomputable def c_Patch_order_1 : TM := (tOf (mBin oLt (mArg bLen (aCons (mVar 1) aNil)) (mArg bLen (aCons (mUn (oFld ["Patch"] "kept_buses") (mVar 0)) aNil))))
noncomputable def b_Patch_order_1 : SM := (mSeq (mAsg (gSet 3) (mFrz (mLcLL (mUn (oFld ["Patch"] "kept_buses") (mVar 0)) [2] (gSet 2) q_Patch_order_1 e_Patch_order_1)))
  (mAppL (mVar 1) (mBin oIdx (mVar 3) (mCon (.int 0)))))
noncomputable def ms_Patch_order : SM := (mSeq (mAsg (gSet 1) (mLive (mLstN aNil)))
  (mSeq (mWhile c_Patch_order_1 b_Patch_order_1)
  (mRet (mVar 1))))
noncomputable def mf_Patch_order : FM := fun ms G => if ms.length = 1 then runB (shut ms_Patch_order) N_Patch_order.length ms G else .stuck
theorem len_Patch_order (ms : List MV) (G : MHeap) (h : mf_Patch_order ms G ≠ .stuck) : ms.length = 1 := by
  unfold mf_Patch_order at h
  split at h
  · assumption
  · exact absurd rfl h
theorem self_Patch_order (ms : List MV) (G : MHeap) (h : ms.length = 1) : mf_Patch_order ms G = runB ms_Patch_order N_Patch_order.length ms G := by
  unfold mf_Patch_order
  rw [if_pos h, shut_eq]
def N__law_cell_at : List Str := ["_law_script", "_law_k"]
noncomputable def ms__law_cell_at : SM := (mSeq (mIf (tOf (mBin oLt (mVar 1) (mArg bLen (aCons (mVar 0) aNil)))) (mRet (mBin oIdx (mVar 0) (mVar 1))) mNx)
  (mRet (mCon (.int 0))))
def N__law_names : List Str := ["_law_cell", "_law_letters", "_law_mixed", "_law_k", "_law_base", "_law_at", "_law_names_here", "_law_name", "_law_j"]
noncomputable def q__law_names_1 : TM := qYes
noncomputable def e__law_names_1 : EM := (mBin oMod (mBin oDiv (mVar 2) (mBin oAdd (mBin oMul (mVar 3) (mVar 3)) (mCon (.int 1)))) (mCon (.int 26)))
noncomputable def b__law_names_1 : SM := (mAsg (gSet 7) (mBin oAdd (mVar 7) (mBin oIdx (mVar 1) (mBin oMod (mBin oAdd (mBin oIdx (mVar 4) (mVar 8)) (mBin oMul (mVar 3) (mArg bInt (aCons (mBin oEq (mVar 8) (mVar 5)) aNil)))) (mCon (.int 26))))))
noncomputable def b__law_names_2 : SM := (mSeq (mAsg (gSet 7) (mCon (.str "")))
  (mSeq (mFor (iR1 (aCons (mArg bLen (aCons (mVar 4) aNil)) aNil)) (gSet 8) b__law_names_1)
  (mApp 6 (mVar 7))))
noncomputable def ms__law_names : SM := (mSeq (mAsg (gSet 1) (mCon (.str "abcdefghijklmnopqrstuvwxyz")))
  (mSeq (mAsg (gSet 2) (mBin oMod (mBin oMul (mVar 0) (mCon (.int 618033988749894848204587))) (mBin oAdd (mBin oPow (mCon (.int 10)) (mCon (.int 24))) (mCon (.int 7)))))
  (mSeq (mAsg (gSet 4) (mLcF (iR1 (aCons (mBin oAdd (mCon (.int 1)) (mBin oMod (mVar 2) (mCon (.int 8)))) aNil)) [3] (gSet 3) q__law_names_1 e__law_names_1))
  (mSeq (mAsg (gSet 5) (mBin oMod (mBin oDiv (mVar 2) (mCon (.int 1000))) (mArg bLen (aCons (mVar 4) aNil))))
  (mSeq (mSetO 6 (mLstN aNil))
  (mSeq (mFor (iR1 (aCons (mCon (.int 9)) aNil)) (gSet 3) b__law_names_2)
  (mRet (mVarF 6))))))))
noncomputable def mf__law_names : FM := fun ms G => if ms.length = 1 then runB (shut ms__law_names) N__law_names.length ms G else .stuck
theorem len__law_names (ms : List MV) (G : MHeap) (h : mf__law_names ms G ≠ .stuck) : ms.length = 1 := by
  unfold mf__law_names at h
  split at h
  · assumption
  · exact absurd rfl h
theorem self__law_names (ms : List MV) (G : MHeap) (h : ms.length = 1) : mf__law_names ms G = runB ms__law_names N__law_names.length ms G := by
  unfold mf__law_names
  rw [if_pos h, shut_eq]
def N__law_leads : List Str := ["_law_sends", "_law_first", "_law_last", "_law_reached", "_law_at", "_law_source", "_law_bus"]
noncomputable def b__law_leads_1 : SM := (mIf (tAndM (tOf (mBin oEq (mVar 5) (mBin oIdx (mVar 3) (mVar 4)))) (tOf (mBin oNotIn (mVar 6) (mVar 3)))) (mAppL (mVar 3) (mVar 6)) mNx)
noncomputable def c__law_leads_1 : TM := (tOf (mBin oLt (mVar 4) (mArg bLen (aCons (mVar 3) aNil))))
noncomputable def b__law_leads_2 : SM := (mSeq (mForL (mVar 0) (gTupM 2 (gsConsM (gSet 5) (gsConsM (gSet 6) gsNilM))) b__law_leads_1)
  (mAsg (gSet 4) (mBin oAdd (mVar 4) (mCon (.int 1)))))
noncomputable def ms__law_leads : SM := (mSeq (mAsg (gSet 3) (mLive (mLstN (aCons (mVar 1) aNil))))
  (mSeq (mAsg (gSet 4) (mCon (.int 0)))
  (mSeq (mWhile c__law_leads_1 b__law_leads_2)
  (mRet (mBin oIn (mVar 2) (mVar 3))))))
noncomputable def mf__law_leads : FM := fun ms G => if ms.length = 3 then runB (shut ms__law_leads) N__law_leads.length ms G else .stuck
theorem len__law_leads (ms : List MV) (G : MHeap) (h : mf__law_leads ms G ≠ .stuck) : ms.length = 3 := by
  unfold mf__law_leads at h
  split at h
  · assumption
  · exact absurd rfl h
theorem self__law_leads (ms : List MV) (G : MHeap) (h : ms.length = 3) : mf__law_leads ms G = runB ms__law_leads N__law_leads.length ms G := by
  unfold mf__law_leads
  rw [if_pos h, shut_eq]
def N__law_is_order : List Str := ["_law_buses", "_law_sends", "_law_order", "_law_k", "_law_ready", "_law_bus", "_law_source", "_law_to", "_law_heard"]
noncomputable def q__law_is_order_1 : TM := (tAndM (tOf (mBin oEq (mVar 7) (mVar 5))) (tOf (mBin oIn (mVar 6) (mVar 0))))
noncomputable def e__law_is_order_1 : EM := (mVar 6)
noncomputable def q__law_is_order_2 : TM := (tOf (mBin oNotIn (mVar 6) (mSl (mVar 2) oNoneM (oSomeM (mVar 3)))))
noncomputable def e__law_is_order_2 : EM := (mVar 6)
noncomputable def b__law_is_order_1 : SM := (mSeq (mAsg (gSet 8) (mFrz (mLcLL (mVar 1) [6, 7] (gTupM 2 (gsConsM (gSet 6) (gsConsM (gSet 7) gsNilM))) q__law_is_order_1 e__law_is_order_1)))
  (mIf (tAndM (tOf (mBin oNotIn (mVar 5) (mSl (mVar 2) oNoneM (oSomeM (mVar 3))))) (tOf (mBin oEq (mLcF (iOf (mVar 8)) [6] (gSet 6) q__law_is_order_2 e__law_is_order_2) (mArg oLst aNil)))) (mApp 4 (mVar 5)) mNx))
noncomputable def b__law_is_order_2 : SM := (mSeq (mSetO 4 (mLstN aNil))
  (mSeq (mFor (iOf (mVar 0)) (gSet 5) b__law_is_order_1)
  (mIf (tOrM (tOf (mBin oEq (mVarF 4) (mArg oLst aNil))) (tOf (mBin oNe (mBin oIdx (mVar 2) (mVar 3)) (mIxO 4 (mCon (.int 0)))))) (mRet (mCon (.bl false))) mNx)))
noncomputable def ms__law_is_order : SM := (mSeq (mIf (tOrM (tNotM (tOf (mUn (oIsi "list") (mVar 2)))) (tOf (mBin oNe (mArg bLen (aCons (mVar 2) aNil)) (mArg bLen (aCons (mVar 0) aNil))))) (mRet (mCon (.bl false))) mNx)
  (mSeq (mFor (iR1 (aCons (mArg bLen (aCons (mVar 2) aNil)) aNil)) (gSet 3) b__law_is_order_2)
  (mRet (mCon (.bl true)))))
noncomputable def mf__law_is_order : FM := fun ms G => if ms.length = 3 then runB (shut ms__law_is_order) N__law_is_order.length ms G else .stuck
theorem len__law_is_order (ms : List MV) (G : MHeap) (h : mf__law_is_order ms G ≠ .stuck) : ms.length = 3 := by
  unfold mf__law_is_order at h
  split at h
  · assumption
  · exact absurd rfl h
theorem self__law_is_order (ms : List MV) (G : MHeap) (h : ms.length = 3) : mf__law_is_order ms G = runB ms__law_is_order N__law_is_order.length ms G := by
  unfold mf__law_is_order
  rw [if_pos h, shut_eq]
noncomputable def tb_bus : List (String × FM) := [("Patch", mf_Patch_bus)]
noncomputable def tb_track : List (String × FM) := [("Patch", mf_Patch_track)]
noncomputable def tb_send : List (String × FM) := [("Patch", mf_Patch_send)]
noncomputable def tb_order : List (String × FM) := [("Patch", mf_Patch_order)]
def N_law : List Str := ["_law_script", "_law_names_here", "_law_many", "_law_turn", "_law_buses", "_law_patch", "_law_bus", "_law_sends", "_law_cell", "_law_mixed", "_law_source", "_law_told"]
noncomputable def b_law_1 : SM := (mDrop (mMeth "bus" tb_bus (mVar 5) (aCons (mVar 6) aNil)))
noncomputable def b_law_2 : SM := (mDrop (mMeth "bus" tb_bus (mVar 5) (aCons (mVar 6) aNil)))
noncomputable def t_law_1 : SM := shut ((mAppL (mVar 11) (mBin oIdx (mVar 1) (mCon (.int 8)))))
noncomputable def t_law_2 : SM := shut ((mSeq (mIf (tNotM (tOf (mCall mf__law_is_order (aCons (mVar 4) (aCons (mVar 7) (aCons (mVar 11) aNil)))))) (mRet (mCon (.bl false))) mNx)
  t_law_1))
noncomputable def k_law_1 : SM := shut ((mSeq (mAsg (gSet 11) (mMeth "order" tb_order (mVar 5) aNil))
  t_law_2))
noncomputable def t_law_3 : SM := shut ((mSeq (mIf (tOrM (tOf (mBin oEq (mVar 10) (mBin oIdx (mVar 1) (mCon (.int 8))))) (tNotM (tOf (mCall mf__law_leads (aCons (mVar 7) (aCons (mVar 6) (aCons (mVar 10) aNil))))))) (mSeq (mDrop (mMeth "send" tb_send (mVar 5) (aCons (mVar 10) (aCons (mVar 6) (aCons (mArg oLst aNil) aNil)))))
  (mAppL (mVar 7) (mArg oTup (aCons (mVar 10) (aCons (mVar 6) aNil))))) mNx)
  k_law_1))
noncomputable def t_law_4 : SM := shut ((mSeq (mAsg (gSet 6) (mBin oIdx (mVar 4) (mBin oMod (mBin oDiv (mVar 9) (mCon (.int 9))) (mVar 2))))
  t_law_3))
noncomputable def t_law_5 : SM := shut ((mSeq (mAsg (gSet 10) (mBin oIdx (mBin oAdd (mVar 4) (mArg oLst (aCons (mBin oIdx (mVar 1) (mCon (.int 8))) aNil))) (mBin oMod (mVar 9) (mBin oAdd (mVar 2) (mCon (.int 1))))))
  t_law_4))
noncomputable def b_law_3 : SM := (mSeq (mAsg (gSet 9) (mBin oMod (mBin oMul (mVar 8) (mCon (.int 414213562373095048801689))) (mBin oAdd (mBin oPow (mCon (.int 10)) (mCon (.int 24))) (mCon (.int 7)))))
  t_law_5)
noncomputable def t_law_6 : SM := shut ((mRet (mCall mf__law_is_order (aCons (mVar 4) (aCons (mVar 7) (aCons (mMeth "order" tb_order (mVar 5) aNil) aNil))))))
noncomputable def t_law_7 : SM := shut ((mSeq (mFor (iOf (mSl (mVar 0) (oSomeM (mCon (.int 1))) (oSomeM (mCon (.int 13))))) (gSet 8) b_law_3)
  t_law_6))
noncomputable def t_law_8 : SM := shut ((mSeq (mAsg (gSet 7) (mLive (mLstN aNil)))
  t_law_7))
noncomputable def t_law_9 : SM := shut ((mSeq (mFor (iOf (mSl (mVar 4) (oSomeM (mCon (.int 1))) oNoneM)) (gSet 6) b_law_2)
  t_law_8))
noncomputable def t_law_10 : SM := shut ((mSeq (mDrop (mMeth "track" tb_track (mVar 5) (aCons (mBin oIdx (mVar 1) (mCon (.int 8))) aNil)))
  t_law_9))
noncomputable def t_law_11 : SM := shut ((mSeq (mFor (iOf (mSl (mVar 4) oNoneM (oSomeM (mCon (.int 1))))) (gSet 6) b_law_1)
  t_law_10))
noncomputable def k_law_2 : SM := shut ((mSeq (mAsg (gSet 5) (mMk "Patch" mf_Patch___init__ aNil))
  t_law_11))
noncomputable def t_law_12 : SM := shut ((mSeq (mIf (tOf (mBin oEq (mBin oMod (mBin oDiv (mCall mf__law_cell_at (aCons (mVar 0) (aCons (mCon (.int 0)) aNil))) (mCon (.int 56))) (mCon (.int 2))) (mCon (.int 1)))) (mAsg (gSet 4) (mUn oRevSl (mVar 4))) mNx)
  k_law_2))
noncomputable def t_law_13 : SM := shut ((mSeq (mAsg (gSet 4) (mBin oAdd (mSl (mVar 1) (oSomeM (mVar 3)) (oSomeM (mVar 2))) (mSl (mVar 1) oNoneM (oSomeM (mVar 3)))))
  t_law_12))
noncomputable def t_law_14 : SM := shut ((mSeq (mAsg (gSet 3) (mBin oMod (mBin oDiv (mCall mf__law_cell_at (aCons (mVar 0) (aCons (mCon (.int 0)) aNil))) (mCon (.int 7))) (mVar 2)))
  t_law_13))
noncomputable def t_law_15 : SM := shut ((mSeq (mAsg (gSet 2) (mBin oAdd (mCon (.int 2)) (mBin oMod (mCall mf__law_cell_at (aCons (mVar 0) (aCons (mCon (.int 0)) aNil))) (mCon (.int 7)))))
  t_law_14))
noncomputable def ms_law : SM := (mSeq (mAsg (gSet 1) (mCall mf__law_names (aCons (mCall mf__law_cell_at (aCons (mVar 0) (aCons (mCon (.int 0)) aNil))) aNil)))
  t_law_15)
end Lk54
namespace Lk54
open PySem L2 M
theorem sr_Chain_i0 (y  : MV) (n : Nat) (s : MS) : setR ["Chain"] "parts" y n (some (.ins "Chain" [] [])) s = .ok .nx ⟨s.env, s.G.set n (.ins "Chain" ["parts"] [y])⟩ := by simp [setR, show putK "parts" [] = (["parts"] : List Str) by decide, show putW "parts" y [] [] = [y] from rfl]
theorem sr_Chain_i1 (y x0 : MV) (n : Nat) (s : MS) : setR ["Chain"] "states" y n (some (.ins "Chain" ["parts"] [x0])) s = .ok .nx ⟨s.env, s.G.set n (.ins "Chain" ["parts", "states"] [x0, y])⟩ := by simp [setR, show putK "states" ["parts"] = (["parts", "states"] : List Str) by decide, show putW "states" y ["parts"] [x0] = [x0, y] from rfl]
theorem fa_Chain_parts (x0 x1 : MV) : fldAt "parts" ks_Chain [x0, x1] = some x0 := rfl
theorem of_Chain_parts (x0 x1 : MV) (s : MS) : oFld ["Chain"] "parts" (.obj "Chain" ks_Chain [x0, x1]) s = .ok x0 s := by simp [oFld, fldR, fa_Chain_parts]
theorem fa_Chain_states (x0 x1 : MV) : fldAt "states" ks_Chain [x0, x1] = some x1 := rfl
theorem of_Chain_states (x0 x1 : MV) (s : MS) : oFld ["Chain"] "states" (.obj "Chain" ks_Chain [x0, x1]) s = .ok x1 s := by simp [oFld, fldR, fa_Chain_states]
theorem hk_Chain_words : hasK "words" ks_Chain = false := by decide
theorem lk_Chain_words : tb_words.lookup "Chain" = some mf_Chain_words := by simp [tb_words, List.lookup_cons]
theorem me_Chain_words (vs : List MV) (a : AM) (s : MS) : oMeth "words" tb_words a (.obj "Chain" ks_Chain vs) s = (a s).bind fun xs s2 => ofRF (mf_Chain_words (.obj "Chain" ks_Chain vs :: xs) s2.G) s2 := by simp [oMeth, methC, clsOf, clsM, hk_Chain_words, lk_Chain_words]
theorem sr_Patch_i0 (y  : MV) (n : Nat) (s : MS) : setR ["Patch"] "kept_tracks" y n (some (.ins "Patch" [] [])) s = .ok .nx ⟨s.env, s.G.set n (.ins "Patch" ["kept_tracks"] [y])⟩ := by simp [setR, show putK "kept_tracks" [] = (["kept_tracks"] : List Str) by decide, show putW "kept_tracks" y [] [] = [y] from rfl]
theorem sr_Patch_i1 (y x0 : MV) (n : Nat) (s : MS) : setR ["Patch"] "kept_buses" y n (some (.ins "Patch" ["kept_tracks"] [x0])) s = .ok .nx ⟨s.env, s.G.set n (.ins "Patch" ["kept_tracks", "kept_buses"] [x0, y])⟩ := by simp [setR, show putK "kept_buses" ["kept_tracks"] = (["kept_tracks", "kept_buses"] : List Str) by decide, show putW "kept_buses" y ["kept_tracks"] [x0] = [x0, y] from rfl]
theorem sr_Patch_i2 (y x0 x1 : MV) (n : Nat) (s : MS) : setR ["Patch"] "kept_sends" y n (some (.ins "Patch" ["kept_tracks", "kept_buses"] [x0, x1])) s = .ok .nx ⟨s.env, s.G.set n (.ins "Patch" ["kept_tracks", "kept_buses", "kept_sends"] [x0, x1, y])⟩ := by simp [setR, show putK "kept_sends" ["kept_tracks", "kept_buses"] = (["kept_tracks", "kept_buses", "kept_sends"] : List Str) by decide, show putW "kept_sends" y ["kept_tracks", "kept_buses"] [x0, x1] = [x0, x1, y] from rfl]
theorem sr_Patch_i3 (y x0 x1 x2 : MV) (n : Nat) (s : MS) : setR ["Patch"] "kept_outs" y n (some (.ins "Patch" ["kept_tracks", "kept_buses", "kept_sends"] [x0, x1, x2])) s = .ok .nx ⟨s.env, s.G.set n (.ins "Patch" ["kept_tracks", "kept_buses", "kept_sends", "kept_outs"] [x0, x1, x2, y])⟩ := by simp [setR, show putK "kept_outs" ["kept_tracks", "kept_buses", "kept_sends"] = (["kept_tracks", "kept_buses", "kept_sends", "kept_outs"] : List Str) by decide, show putW "kept_outs" y ["kept_tracks", "kept_buses", "kept_sends"] [x0, x1, x2] = [x0, x1, x2, y] from rfl]
theorem fa_Patch_kept_tracks (x0 x1 x2 x3 : MV) : fldAt "kept_tracks" ks_Patch [x0, x1, x2, x3] = some x0 := rfl
theorem of_Patch_kept_tracks (x0 x1 x2 x3 : MV) (s : MS) : oFld ["Patch"] "kept_tracks" (.obj "Patch" ks_Patch [x0, x1, x2, x3]) s = .ok x0 s := by simp [oFld, fldR, fa_Patch_kept_tracks]
theorem fr_Patch_kept_tracks (x0 x1 x2 x3 : MV) (s : MS) : fldR ["Patch"] "kept_tracks" (some (.ins "Patch" ks_Patch [x0, x1, x2, x3])) s = .ok x0 s := by simp [fldR, fa_Patch_kept_tracks]
theorem pk_Patch_kept_tracks : putK "kept_tracks" ks_Patch = ks_Patch := by decide
theorem pw_Patch_kept_tracks (y x0 x1 x2 x3 : MV) : putW "kept_tracks" y ks_Patch [x0, x1, x2, x3] = [y, x1, x2, x3] := rfl
theorem sr_Patch_kept_tracks (y x0 x1 x2 x3 : MV) (n : Nat) (s : MS) : setR ["Patch"] "kept_tracks" y n (some (.ins "Patch" ks_Patch [x0, x1, x2, x3])) s = .ok .nx ⟨s.env, s.G.set n (.ins "Patch" ks_Patch [y, x1, x2, x3])⟩ := by simp [setR, pk_Patch_kept_tracks, pw_Patch_kept_tracks, show ks_Patch.length < 1000 by decide]
theorem fa_Patch_kept_buses (x0 x1 x2 x3 : MV) : fldAt "kept_buses" ks_Patch [x0, x1, x2, x3] = some x1 := rfl
theorem of_Patch_kept_buses (x0 x1 x2 x3 : MV) (s : MS) : oFld ["Patch"] "kept_buses" (.obj "Patch" ks_Patch [x0, x1, x2, x3]) s = .ok x1 s := by simp [oFld, fldR, fa_Patch_kept_buses]
theorem fr_Patch_kept_buses (x0 x1 x2 x3 : MV) (s : MS) : fldR ["Patch"] "kept_buses" (some (.ins "Patch" ks_Patch [x0, x1, x2, x3])) s = .ok x1 s := by simp [fldR, fa_Patch_kept_buses]
theorem pk_Patch_kept_buses : putK "kept_buses" ks_Patch = ks_Patch := by decide
theorem pw_Patch_kept_buses (y x0 x1 x2 x3 : MV) : putW "kept_buses" y ks_Patch [x0, x1, x2, x3] = [x0, y, x2, x3] := rfl
theorem sr_Patch_kept_buses (y x0 x1 x2 x3 : MV) (n : Nat) (s : MS) : setR ["Patch"] "kept_buses" y n (some (.ins "Patch" ks_Patch [x0, x1, x2, x3])) s = .ok .nx ⟨s.env, s.G.set n (.ins "Patch" ks_Patch [x0, y, x2, x3])⟩ := by simp [setR, pk_Patch_kept_buses, pw_Patch_kept_buses, show ks_Patch.length < 1000 by decide]
theorem fa_Patch_kept_sends (x0 x1 x2 x3 : MV) : fldAt "kept_sends" ks_Patch [x0, x1, x2, x3] = some x2 := rfl
theorem of_Patch_kept_sends (x0 x1 x2 x3 : MV) (s : MS) : oFld ["Patch"] "kept_sends" (.obj "Patch" ks_Patch [x0, x1, x2, x3]) s = .ok x2 s := by simp [oFld, fldR, fa_Patch_kept_sends]
theorem fr_Patch_kept_sends (x0 x1 x2 x3 : MV) (s : MS) : fldR ["Patch"] "kept_sends" (some (.ins "Patch" ks_Patch [x0, x1, x2, x3])) s = .ok x2 s := by simp [fldR, fa_Patch_kept_sends]
theorem pk_Patch_kept_sends : putK "kept_sends" ks_Patch = ks_Patch := by decide
theorem pw_Patch_kept_sends (y x0 x1 x2 x3 : MV) : putW "kept_sends" y ks_Patch [x0, x1, x2, x3] = [x0, x1, y, x3] := rfl
theorem sr_Patch_kept_sends (y x0 x1 x2 x3 : MV) (n : Nat) (s : MS) : setR ["Patch"] "kept_sends" y n (some (.ins "Patch" ks_Patch [x0, x1, x2, x3])) s = .ok .nx ⟨s.env, s.G.set n (.ins "Patch" ks_Patch [x0, x1, y, x3])⟩ := by simp [setR, pk_Patch_kept_sends, pw_Patch_kept_sends, show ks_Patch.length < 1000 by decide]
theorem fa_Patch_kept_outs (x0 x1 x2 x3 : MV) : fldAt "kept_outs" ks_Patch [x0, x1, x2, x3] = some x3 := rfl
theorem of_Patch_kept_outs (x0 x1 x2 x3 : MV) (s : MS) : oFld ["Patch"] "kept_outs" (.obj "Patch" ks_Patch [x0, x1, x2, x3]) s = .ok x3 s := by simp [oFld, fldR, fa_Patch_kept_outs]
theorem fr_Patch_kept_outs (x0 x1 x2 x3 : MV) (s : MS) : fldR ["Patch"] "kept_outs" (some (.ins "Patch" ks_Patch [x0, x1, x2, x3])) s = .ok x3 s := by simp [fldR, fa_Patch_kept_outs]
theorem pk_Patch_kept_outs : putK "kept_outs" ks_Patch = ks_Patch := by decide
theorem pw_Patch_kept_outs (y x0 x1 x2 x3 : MV) : putW "kept_outs" y ks_Patch [x0, x1, x2, x3] = [x0, x1, x2, y] := rfl
theorem sr_Patch_kept_outs (y x0 x1 x2 x3 : MV) (n : Nat) (s : MS) : setR ["Patch"] "kept_outs" y n (some (.ins "Patch" ks_Patch [x0, x1, x2, x3])) s = .ok .nx ⟨s.env, s.G.set n (.ins "Patch" ks_Patch [x0, x1, x2, y])⟩ := by simp [setR, pk_Patch_kept_outs, pw_Patch_kept_outs, show ks_Patch.length < 1000 by decide]
theorem hk_Patch_bus : hasK "bus" ks_Patch = false := by decide
theorem lk_Patch_bus : tb_bus.lookup "Patch" = some mf_Patch_bus := by simp [tb_bus, List.lookup_cons]
theorem me_Patch_bus (vs : List MV) (a : AM) (s : MS) : oMeth "bus" tb_bus a (.obj "Patch" ks_Patch vs) s = (a s).bind fun xs s2 => ofRF (mf_Patch_bus (.obj "Patch" ks_Patch vs :: xs) s2.G) s2 := by simp [oMeth, methC, clsOf, clsM, hk_Patch_bus, lk_Patch_bus]
theorem mr_Patch_bus (vs : List MV) (n : Nat) (a : AM) (s : MS) : methR "bus" tb_bus a n (some (.ins "Patch" ks_Patch vs)) s = (a s).bind fun xs s2 => ofRF (mf_Patch_bus (.ref n :: xs) s2.G) s2 := by simp [methR, methC, clsM, hk_Patch_bus, lk_Patch_bus]
theorem hk_Patch_track : hasK "track" ks_Patch = false := by decide
theorem lk_Patch_track : tb_track.lookup "Patch" = some mf_Patch_track := by simp [tb_track, List.lookup_cons]
theorem me_Patch_track (vs : List MV) (a : AM) (s : MS) : oMeth "track" tb_track a (.obj "Patch" ks_Patch vs) s = (a s).bind fun xs s2 => ofRF (mf_Patch_track (.obj "Patch" ks_Patch vs :: xs) s2.G) s2 := by simp [oMeth, methC, clsOf, clsM, hk_Patch_track, lk_Patch_track]
theorem mr_Patch_track (vs : List MV) (n : Nat) (a : AM) (s : MS) : methR "track" tb_track a n (some (.ins "Patch" ks_Patch vs)) s = (a s).bind fun xs s2 => ofRF (mf_Patch_track (.ref n :: xs) s2.G) s2 := by simp [methR, methC, clsM, hk_Patch_track, lk_Patch_track]
theorem hk_Patch_send : hasK "send" ks_Patch = false := by decide
theorem lk_Patch_send : tb_send.lookup "Patch" = some mf_Patch_send := by simp [tb_send, List.lookup_cons]
theorem me_Patch_send (vs : List MV) (a : AM) (s : MS) : oMeth "send" tb_send a (.obj "Patch" ks_Patch vs) s = (a s).bind fun xs s2 => ofRF (mf_Patch_send (.obj "Patch" ks_Patch vs :: xs) s2.G) s2 := by simp [oMeth, methC, clsOf, clsM, hk_Patch_send, lk_Patch_send]
theorem mr_Patch_send (vs : List MV) (n : Nat) (a : AM) (s : MS) : methR "send" tb_send a n (some (.ins "Patch" ks_Patch vs)) s = (a s).bind fun xs s2 => ofRF (mf_Patch_send (.ref n :: xs) s2.G) s2 := by simp [methR, methC, clsM, hk_Patch_send, lk_Patch_send]
theorem hk_Patch_order : hasK "order" ks_Patch = false := by decide
theorem lk_Patch_order : tb_order.lookup "Patch" = some mf_Patch_order := by simp [tb_order, List.lookup_cons]
theorem me_Patch_order (vs : List MV) (a : AM) (s : MS) : oMeth "order" tb_order a (.obj "Patch" ks_Patch vs) s = (a s).bind fun xs s2 => ofRF (mf_Patch_order (.obj "Patch" ks_Patch vs :: xs) s2.G) s2 := by simp [oMeth, methC, clsOf, clsM, hk_Patch_order, lk_Patch_order]
theorem mr_Patch_order (vs : List MV) (n : Nat) (a : AM) (s : MS) : methR "order" tb_order a n (some (.ins "Patch" ks_Patch vs)) s = (a s).bind fun xs s2 => ofRF (mf_Patch_order (.ref n :: xs) s2.G) s2 := by simp [methR, methC, clsM, hk_Patch_order, lk_Patch_order]
theorem hk_Patch_asked_new : hasK "asked_new" ks_Patch = false := by decide
theorem lk_Patch_asked_new : tb_asked_new.lookup "Patch" = some mf_Patch_asked_new := by simp [tb_asked_new, List.lookup_cons]
theorem me_Patch_asked_new (vs : List MV) (a : AM) (s : MS) : oMeth "asked_new" tb_asked_new a (.obj "Patch" ks_Patch vs) s = (a s).bind fun xs s2 => ofRF (mf_Patch_asked_new (.obj "Patch" ks_Patch vs :: xs) s2.G) s2 := by simp [oMeth, methC, clsOf, clsM, hk_Patch_asked_new, lk_Patch_asked_new]
theorem mr_Patch_asked_new (vs : List MV) (n : Nat) (a : AM) (s : MS) : methR "asked_new" tb_asked_new a n (some (.ins "Patch" ks_Patch vs)) s = (a s).bind fun xs s2 => ofRF (mf_Patch_asked_new (.ref n :: xs) s2.G) s2 := by simp [methR, methC, clsM, hk_Patch_asked_new, lk_Patch_asked_new]
theorem hk_Patch_is_ready : hasK "is_ready" ks_Patch = false := by decide
theorem lk_Patch_is_ready : tb_is_ready.lookup "Patch" = some mf_Patch_is_ready := by simp [tb_is_ready, List.lookup_cons]
theorem me_Patch_is_ready (vs : List MV) (a : AM) (s : MS) : oMeth "is_ready" tb_is_ready a (.obj "Patch" ks_Patch vs) s = (a s).bind fun xs s2 => ofRF (mf_Patch_is_ready (.obj "Patch" ks_Patch vs :: xs) s2.G) s2 := by simp [oMeth, methC, clsOf, clsM, hk_Patch_is_ready, lk_Patch_is_ready]
theorem mr_Patch_is_ready (vs : List MV) (n : Nat) (a : AM) (s : MS) : methR "is_ready" tb_is_ready a n (some (.ins "Patch" ks_Patch vs)) s = (a s).bind fun xs s2 => ofRF (mf_Patch_is_ready (.ref n :: xs) s2.G) s2 := by simp [methR, methC, clsM, hk_Patch_is_ready, lk_Patch_is_ready]
local macro_rules | `(tactic| walk_at "m") => `(tactic| simp only [mVar, mCon, mBin, mUn, aNil, aCons, mArg, tOf, tAndM, tOrM, tNotM, mIte, mAndV, mOrV, mNotV, mChain, mStrM, iSigns, oAdd_int, oAdd_str, oAdd_lst, oSub, oCmpI_int, oIs, oIsNot, isN, oNeg, oTup_ok, oLst_ok, oIsi, tyG, tyName, bAbs_int, bMax, bMin, bLen_lst, bLen_scr, bLen_tup, bLen_str, bInt, bList, bTuple, mNx, mSeq, mIf, mRet, mRetN, mDrop, mAsg, mBrk, mCt, gSet, gsNilM, gsConsM, gTupM, mCall, ofRF_ok, ofRF_exc, ofRF_stuck, R.bind_ok, R.bind_exc, R.bind_stuck, mFor, iOf, iR1, iR2, iR3, oR1_ok, oR1_len, oR2_ok, oR3_ok,
  oMod_pos, oDiv_lt, oPow_10, oEq_int, oNe_int, oEq_t2, oNe_t2, oEq_bl, oNe_bl, mSl, oNoneM, oSomeM, oSl_lst, oSl_scr, mDic0, mDic1, mLcF, iZipM, oZip, seqOf, cutG_map, zipM_ints, qYes, oEq_ints, oNe_ints, oEq_nil, oNe_nil, mFrz, frzM, mLive, mLcL, mLstN, nLst_ok, mArgN, nList, mBinN, nAdd_lst, mSlN, nSl_lst, nSl_scr, mSetO, mApp, mVarF, mLenO, mIxO, mAppL, mClrL, mStL, mForL, mLcLL, bLen_ref, oAdd_lref, wipeE, mUn, oFld_ref, mRaise, mSetF, setX_ref, mMeth, oMeth_ref, mMkF, mMk, eF, eT, eIs, eI, eB, eN, eL, eP, eU, eZ, oIdx_ints, ↓oAdd_ints, ↓nAdd_ints, mapInt_len, cN0, cN1, cN2, cN3, cN4, cN5, cN6, cN7, cN8, cN9, cN10, oIdx_t0, oIdx_t1, oIdx_t2, oMul_ok, oMul_lit, oIdx_scr, oIdx_lst, ofO_some, toRF_rt, toRF_nx, toRF_exc, toRF_stuck, toRF_ite, R.bind_ite,
  env0, List.map_cons, List.map_nil, List.length_cons, List.length_nil, List.replicate_succ, List.replicate_zero, List.cons_append, List.nil_append, List.getElem?_set_self, List.set_set, List.length_set, List.getElem?_cons_zero, List.getElem?_cons_succ, List.set_cons_zero, List.set_cons_succ, if_true, if_false, decide_eq_true_eq, Bool.not_eq_true', Bool.not_true, Bool.not_false, decide_eq_false_iff_not, Bool.false_eq_true, Bool.not_eq_true, decide_not, reduceIte, Option.bind_some, Option.map_some, Nat.reduceAdd, Nat.reduceSub, Nat.reduceLeDiff, Nat.reduceLT, Nat.reduceEqDiff, Nat.reduceMul, Int.reduceNeg, Int.reduceToNat, Int.reduceLE, Int.reduceLT, Int.reduceEq, Int.reduceNe, Int.reducePow, Int.reduceMul, Int.reduceAdd, Int.reduceSub, ne_eq, not_false_eq_true, not_true_eq_false, and_self, and_true, true_and, decide_true, decide_false, sr_Chain_i0, sr_Chain_i1, of_Chain_parts, of_Chain_states, me_Chain_words, sr_Patch_i0, sr_Patch_i1, sr_Patch_i2, sr_Patch_i3, of_Patch_kept_tracks, fr_Patch_kept_tracks, sr_Patch_kept_tracks, of_Patch_kept_buses, fr_Patch_kept_buses, sr_Patch_kept_buses, of_Patch_kept_sends, fr_Patch_kept_sends, sr_Patch_kept_sends, of_Patch_kept_outs, fr_Patch_kept_outs, sr_Patch_kept_outs, me_Patch_bus, mr_Patch_bus, me_Patch_track, mr_Patch_track, me_Patch_send, mr_Patch_send, me_Patch_order, mr_Patch_order, me_Patch_asked_new, mr_Patch_asked_new, me_Patch_is_ready, mr_Patch_is_ready, fn1, fn2, fn3, fn4, fn5, kit_NoneType_int, kit_NoneType_bool, kit_NoneType_str, kit_NoneType_list, kit_NoneType_tuple, kit_NoneType_dict, kit_bool_int, kit_bool_bool, kit_bool_str, kit_bool_list, kit_bool_tuple, kit_bool_dict, kit_int_int, kit_int_bool, kit_int_str, kit_int_list, kit_int_tuple, kit_int_dict, kit_str_int, kit_str_bool, kit_str_str, kit_str_list, kit_str_tuple, kit_str_dict, kit_tuple_int, kit_tuple_bool, kit_tuple_str, kit_tuple_list, kit_tuple_tuple, kit_tuple_dict, kit_list_int, kit_list_bool, kit_list_str, kit_list_list, kit_list_tuple, kit_list_dict, kit_dict_int, kit_dict_bool, kit_dict_str, kit_dict_list, kit_dict_tuple, kit_dict_dict])
local macro_rules | `(tactic| walk_at "ms") => `(tactic| simp only [mVar, mCon, mBin, mUn, aNil, aCons, mArg, tOf, tAndM, tOrM, tNotM, mIte, mAndV, mOrV, mNotV, mChain, mStrM, iSigns, oAdd_int, oAdd_str, oAdd_lst, oSub, oCmpI_int, oIs, oIsNot, isN, oNeg, oTup_ok, oLst_ok, oIsi, tyG, tyName, bAbs_int, bMax, bMin, bLen_lst, bLen_scr, bLen_tup, bLen_str, bInt, bList, bTuple, mNx, mSeq, mIf, mRet, mRetN, mDrop, mAsg, mBrk, mCt, gSet, gsNilM, gsConsM, gTupM, mCall, ofRF_ok, ofRF_exc, ofRF_stuck, R.bind_ok, R.bind_exc, R.bind_stuck, mFor, iOf, iR1, iR2, iR3, oR1_ok, oR1_len, oR2_ok, oR3_ok,
  oMod_pos, oDiv_lt, oPow_10, oEq_int, oNe_int, oEq_t2, oNe_t2, oEq_bl, oNe_bl, mSl, oNoneM, oSomeM, oSl_lst, oSl_scr, mDic0, mDic1, mLcF, iZipM, oZip, seqOf, cutG_map, zipM_ints, qYes, oEq_ints, oNe_ints, oEq_nil, oNe_nil, mFrz, frzM, mLive, mLcL, mLstN, nLst_ok, mArgN, nList, mBinN, nAdd_lst, mSlN, nSl_lst, nSl_scr, mSetO, mApp, mVarF, mLenO, mIxO, mAppL, mClrL, mStL, mForL, mLcLL, bLen_ref, oAdd_lref, wipeE, mUn, oFld_ref, mRaise, mSetF, setX_ref, mMeth, oMeth_ref, mMkF, mMk, eF, eT, eIs, eI, eB, eN, eL, eP, eU, eZ, oIdx_ints, ↓oAdd_ints, ↓nAdd_ints, mapInt_len, cN0, cN1, cN2, cN3, cN4, cN5, cN6, cN7, cN8, cN9, cN10, oIdx_t0, oIdx_t1, oIdx_t2, oMul_ok, oMul_lit, oIdx_scr, oIdx_lst, ofO_some, toRF_rt, toRF_nx, toRF_exc, toRF_stuck, toRF_ite, R.bind_ite,
  env0, List.map_cons, List.map_nil, List.length_cons, List.length_nil, List.replicate_succ, List.replicate_zero, List.cons_append, List.nil_append, List.getElem?_set_self, List.set_set, List.length_set, List.getElem?_cons_zero, List.getElem?_cons_succ, List.set_cons_zero, List.set_cons_succ, if_true, if_false, decide_eq_true_eq, Bool.not_eq_true', Bool.not_true, Bool.not_false, decide_eq_false_iff_not, Bool.false_eq_true, Bool.not_eq_true, decide_not, reduceIte, Option.bind_some, Option.map_some, Nat.reduceAdd, Nat.reduceSub, Nat.reduceLeDiff, Nat.reduceLT, Nat.reduceEqDiff, Nat.reduceMul, Int.reduceNeg, Int.reduceToNat, Int.reduceLE, Int.reduceLT, Int.reduceEq, Int.reduceNe, Int.reducePow, Int.reduceMul, Int.reduceAdd, Int.reduceSub, ne_eq, not_false_eq_true, not_true_eq_false, and_self, and_true, true_and, decide_true, decide_false, sr_Chain_i0, sr_Chain_i1, of_Chain_parts, of_Chain_states, me_Chain_words, sr_Patch_i0, sr_Patch_i1, sr_Patch_i2, sr_Patch_i3, of_Patch_kept_tracks, fr_Patch_kept_tracks, sr_Patch_kept_tracks, of_Patch_kept_buses, fr_Patch_kept_buses, sr_Patch_kept_buses, of_Patch_kept_sends, fr_Patch_kept_sends, sr_Patch_kept_sends, of_Patch_kept_outs, fr_Patch_kept_outs, sr_Patch_kept_outs, me_Patch_bus, mr_Patch_bus, me_Patch_track, mr_Patch_track, me_Patch_send, mr_Patch_send, me_Patch_order, mr_Patch_order, me_Patch_asked_new, mr_Patch_asked_new, me_Patch_is_ready, mr_Patch_is_ready, fn1, fn2, fn3, fn4, fn5, kit_NoneType_int, kit_NoneType_bool, kit_NoneType_str, kit_NoneType_list, kit_NoneType_tuple, kit_NoneType_dict, kit_bool_int, kit_bool_bool, kit_bool_str, kit_bool_list, kit_bool_tuple, kit_bool_dict, kit_int_int, kit_int_bool, kit_int_str, kit_int_list, kit_int_tuple, kit_int_dict, kit_str_int, kit_str_bool, kit_str_str, kit_str_list, kit_str_tuple, kit_str_dict, kit_tuple_int, kit_tuple_bool, kit_tuple_str, kit_tuple_list, kit_tuple_tuple, kit_tuple_dict, kit_list_int, kit_list_bool, kit_list_str, kit_list_list, kit_list_tuple, kit_list_dict, kit_dict_int, kit_dict_bool, kit_dict_str, kit_dict_list, kit_dict_tuple, kit_dict_dict, *])
theorem run_parts_told : ∀ ms G, mf_parts_told ms G ≠ .stuck → runB ms_parts_told N_parts_told.length ms G = mf_parts_told ms G := fun ms G h => (self_parts_told ms G (len_parts_told ms G h)).symm
theorem run_Chain___init__ : ∀ ms G, mf_Chain___init__ ms G ≠ .stuck → runB ms_Chain___init__ N_Chain___init__.length ms G = mf_Chain___init__ ms G := fun ms G h => (self_Chain___init__ ms G (len_Chain___init__ ms G h)).symm
theorem run_Chain_words : ∀ ms G, mf_Chain_words ms G ≠ .stuck → runB ms_Chain_words N_Chain_words.length ms G = mf_Chain_words ms G := fun ms G h => (self_Chain_words ms G (len_Chain_words ms G h)).symm
theorem run_is_name : ∀ ms G, mf_is_name ms G ≠ .stuck → runB ms_is_name N_is_name.length ms G = mf_is_name ms G := fun ms G h => (self_is_name ms G (len_is_name ms G h)).symm
theorem run_way_between : ∀ ms G, mf_way_between ms G ≠ .stuck → runB ms_way_between N_way_between.length ms G = mf_way_between ms G := fun ms G h => (self_way_between ms G (len_way_between ms G h)).symm
theorem run_Patch___init__ : ∀ ms G, mf_Patch___init__ ms G ≠ .stuck → runB ms_Patch___init__ N_Patch___init__.length ms G = mf_Patch___init__ ms G := fun ms G h => (self_Patch___init__ ms G (len_Patch___init__ ms G h)).symm
theorem run_Patch_asked_new : ∀ ms G, mf_Patch_asked_new ms G ≠ .stuck → runB ms_Patch_asked_new N_Patch_asked_new.length ms G = mf_Patch_asked_new ms G := fun ms G h => (self_Patch_asked_new ms G (len_Patch_asked_new ms G h)).symm
theorem run_Patch_track : ∀ ms G, mf_Patch_track ms G ≠ .stuck → runB ms_Patch_track N_Patch_track.length ms G = mf_Patch_track ms G := fun ms G h => (self_Patch_track ms G (len_Patch_track ms G h)).symm
theorem run_Patch_bus : ∀ ms G, mf_Patch_bus ms G ≠ .stuck → runB ms_Patch_bus N_Patch_bus.length ms G = mf_Patch_bus ms G := fun ms G h => (self_Patch_bus ms G (len_Patch_bus ms G h)).symm
theorem run_Patch_send : ∀ ms G, mf_Patch_send ms G ≠ .stuck → runB ms_Patch_send N_Patch_send.length ms G = mf_Patch_send ms G := fun ms G h => (self_Patch_send ms G (len_Patch_send ms G h)).symm
theorem run_Patch_is_ready : ∀ ms G, mf_Patch_is_ready ms G ≠ .stuck → runB ms_Patch_is_ready N_Patch_is_ready.length ms G = mf_Patch_is_ready ms G := fun ms G h => (self_Patch_is_ready ms G (len_Patch_is_ready ms G h)).symm
theorem run_Patch_order : ∀ ms G, mf_Patch_order ms G ≠ .stuck → runB ms_Patch_order N_Patch_order.length ms G = mf_Patch_order ms G := fun ms G h => (self_Patch_order ms G (len_Patch_order ms G h)).symm
theorem run__law_names : ∀ ms G, mf__law_names ms G ≠ .stuck → runB ms__law_names N__law_names.length ms G = mf__law_names ms G := fun ms G h => (self__law_names ms G (len__law_names ms G h)).symm
theorem run__law_leads : ∀ ms G, mf__law_leads ms G ≠ .stuck → runB ms__law_leads N__law_leads.length ms G = mf__law_leads ms G := fun ms G h => (self__law_leads ms G (len__law_leads ms G h)).symm
theorem run__law_is_order : ∀ ms G, mf__law_is_order ms G ≠ .stuck → runB ms__law_is_order N__law_is_order.length ms G = mf__law_is_order ms G := fun ms G h => (self__law_is_order ms G (len__law_is_order ms G h)).symm
theorem run__law_cell_at : ∀ ms G, mf__law_cell_at ms G ≠ .stuck → runB ms__law_cell_at N__law_cell_at.length ms G = mf__law_cell_at ms G := by
  refine fn2_run fun x y G h => ?_
  cases x <;> cases y <;> first | exact absurd rfl h | skip
  rename_i xs k
  by_cases hk : 0 ≤ k
  · clear h
    unfold runB ms__law_cell_at N__law_cell_at
    by_cases hl : k < xs.length
    · have hn : xs[k.toNat]? = some (xs.getD k.toNat .non) := by
        rw [List.getElem?_eq_getElem (show k.toNat < xs.length by omega)]
        simp [List.getElem?_eq_getElem (show k.toNat < xs.length by omega)]
      walk_at "ms"
    · walk_at "ms"
  · simp only [if_neg hk] at h; exact absurd rfl h

theorem cell_ev (ns : List Int) (hb : ∀ z ∈ ns, z.natAbs.log2 < 1048577) (k : Int) (h0 : 0 ≤ k) : ∃ c : Int, (∀ G, mf__law_cell_at [.scr (ns.map MV.int), .int k] G = .ok (.int c) G) ∧ c.natAbs.log2 < 1048577 := by
  by_cases h : k < ns.length
  · have h2 : k.toNat < ns.length := by omega
    exact ⟨ns[k.toNat], fun G => by simp [mf__law_cell_at, fn2, h0, h, h2], hb _ (List.getElem_mem _)⟩
  · exact ⟨0, fun G => by simp [mf__law_cell_at, fn2, h0, h], by decide⟩

structure NameOk (z : Str) : Prop where
  l : 1 ≤ (sg z).length
  u : (sg z).length ≤ 8
  c : ∀ c ∈ sg z, 97 ≤ c ∧ c ≤ 122
theorem NameOk.ok {z : Str} (h : NameOk z) : okS (sg z) := fun c hc => by have := h.c c hc; omega
def ltr (i : Int) : Nat := 97 + (i % 26).toNat
theorem abc_at : ∀ (n : Nat), n < 26 → (sg (Str.ofString "abcdefghijklmnopqrstuvwxyz"))[n]? = some (97 + n) := by
  rw [sg_of]; decide +kernel
theorem abc_has {c : Nat} (h1 : 97 ≤ c) (h2 : c ≤ 122) : c ∈ sg (Str.ofString "abcdefghijklmnopqrstuvwxyz") := by
  have := abc_at (c - 97) (by omega)
  rw [show 97 + (c - 97) = c by omega] at this
  exact List.mem_of_getElem? this
theorem abc_idx {i : Int} {s : MS} : oIdx (.str (Str.ofString "abcdefghijklmnopqrstuvwxyz")) (.int (i % 26)) s = .ok (.str (T [ltr i])) s := by
  have h0 : 0 ≤ i % 26 := Int.emod_nonneg _ (by decide)
  have h1 : (i % 26).toNat < 26 := by omega
  have hl : lim (Str.ofString "abcdefghijklmnopqrstuvwxyz").length := by
    unfold lim; rw [len_sg, sg_of]; decide
  unfold oIdx
  simp only
  rw [if_pos ⟨h0, hl⟩, abc_at _ h1]
  rfl
theorem oAdd_T {l r : List Nat} {s : MS} (h : l.length + r.length ≤ 16777216) : oAdd (.str (T l)) (.str (T r)) s = .ok (.str (T (l ++ r))) s := by
  have e : (T l ++ T r : Str) = T (l ++ r) := by apply sg_inj; rw [sg_app]
  unfold oAdd
  simp only
  rw [if_pos (show lim _ by unfold lim; rw [len_sg, len_sg]; exact h), e]
def nmL (bs : List Int) (at_ : Int) (k j : Nat) : Nat := ltr (bs.getD j 0 + (k : Int) * (if (j : Int) = at_ then 1 else 0))
def nmS (bs : List Int) (at_ : Int) (k n : Nat) : List Nat := (List.range n).map (nmL bs at_ k)
theorem nmS_succ (bs : List Int) (at_ : Int) (k n : Nat) : nmS bs at_ k (n + 1) = nmS bs at_ k n ++ [nmL bs at_ k n] := by
  unfold nmS; rw [List.range_succ, List.map_append]; rfl
theorem ltr_rng (i : Int) : 97 ≤ ltr i ∧ ltr i ≤ 122 := by
  have := Int.emod_lt_of_pos i (show (0 : Int) < 26 by decide)
  unfold ltr; omega
theorem nm_ok {bs : List Int} {at_ : Int} {k : Nat} (h1 : 1 ≤ bs.length) (h2 : bs.length ≤ 8) : NameOk (T (nmS bs at_ k bs.length)) := by
  have e : sg (T (nmS bs at_ k bs.length)) = nmS bs at_ k bs.length := rfl
  refine ⟨?_, ?_, ?_⟩
  · rw [e]; unfold nmS; simpa using h1
  · rw [e]; unfold nmS; simpa using h2
  · rw [e]; intro c hc
    unfold nmS nmL at hc
    obtain ⟨j, _, rfl⟩ := List.mem_map.mp hc
    exact ltr_rng _
theorem nm_inj {bs : List Int} {at_ k k' : Nat} (ha : at_ < bs.length) (hk : k < 26) (hk' : k' < 26) (e : T (nmS bs at_ k bs.length) = T (nmS bs at_ k' bs.length)) : k = k' := by
  have e : nmS bs at_ k bs.length = nmS bs at_ k' bs.length := congrArg sg e
  have e1 := congrArg (fun l => l[at_]?) e
  unfold nmS nmL at e1
  simp only [List.getElem?_map, List.getElem?_range ha, Option.map_some, if_true, Option.some.injEq] at e1
  unfold ltr at e1
  generalize bs.getD at_ 0 = b at e1
  omega
theorem nm_step (a0 a1 a2 a4 a5 a6 : SV) (c : Nat) (k j : Nat) (at_ : Int) (bs : List Int) (name : List Nat) (G : MHeap) (hj : j < bs.length) (hn : name.length ≤ 8) (hk : k < 100) :
    b__law_names_1 ⟨[a0, .sh (.str (Str.ofString "abcdefghijklmnopqrstuvwxyz")), a2, .sh (.int (k : Int)), .sh (.lst (bs.map MV.int)), .sh (.int at_), a6, .sh (.str (T name)), .sh (.int (j : Int))], G⟩
     = .ok .nx ⟨[a0, .sh (.str (Str.ofString "abcdefghijklmnopqrstuvwxyz")), a2, .sh (.int (k : Int)), .sh (.lst (bs.map MV.int)), .sh (.int at_), a6, .sh (.str (T (name ++ [nmL bs at_ k j]))), .sh (.int (j : Int))], G⟩ := by
  have F : ∀ s, oIdx (.lst (bs.map MV.int)) (.int (j : Int)) s = .ok (.int (bs.getD j 0)) s := fun s => by rw [oIdx_ints (by omega) (by omega)]; rfl
  have M0 : ∀ s, oMul (.int (k : Int)) (.int 0) s = .ok (.int ((k : Int) * 0)) s := fun s => oMul_ok (mulOk_lit (by omega) (by omega) (by decide) (by decide))
  have M1 : ∀ s, oMul (.int (k : Int)) (.int 1) s = .ok (.int ((k : Int) * 1)) s := fun s => oMul_ok (mulOk_lit (by omega) (by omega) (by decide) (by decide))
  have A : ∀ i s, oIdx (.str (Str.ofString "abcdefghijklmnopqrstuvwxyz")) (.int (i % 26)) s = .ok (.str (T [ltr i])) s := fun i s => abc_idx
  have C : ∀ x s, oAdd (.str (T name)) (.str (T [x])) s = .ok (.str (T (name ++ [x]))) s := fun x s => oAdd_T (by simp; omega)
  unfold nmL
  generalize (bs.map MV.int) = bl at *
  generalize bs.getD j 0 = b at *
  generalize T name = nm at *
  by_cases q : (j : Int) = at_
  · rw [if_pos q]
    have E : ∀ s, oEq (.int (j : Int)) (.int at_) s = .ok (.bl true) s := fun s => by rw [oEq_int]; simp [q]
    clear q hj hn hk
    unfold b__law_names_1
    walk_at "ms"
  · rw [if_neg q]
    have E : ∀ s, oEq (.int (j : Int)) (.int at_) s = .ok (.bl false) s := fun s => by rw [oEq_int]; simp [q]
    clear q hj hn hk
    unfold b__law_names_1
    walk_at "ms"
theorem names_ev (c : Int) (hc : c.natAbs.log2 < 2000000) : ∃ zs : List Str, zs.length = 9 ∧ zs.Nodup ∧ (∀ z ∈ zs, NameOk z) ∧ ∀ G, mf__law_names [.int c] G = .ok (.lst (zs.map MV.str)) G := by
  obtain ⟨m, hm⟩ : ∃ m, c * 618033988749894848204587 % (10 ^ 24 + 7) = m := ⟨_, rfl⟩
  have m0 : 0 ≤ m ∧ m < 1000000000000000000000007 := by
    have h1 := Int.emod_nonneg (c * 618033988749894848204587) (show (10 ^ 24 + 7 : Int) ≠ 0 by decide)
    have h2 := Int.emod_lt_of_pos (c * 618033988749894848204587) (show (0 : Int) < 10 ^ 24 + 7 by decide)
    rw [hm] at h1 h2
    exact ⟨h1, by simpa using h2⟩
  obtain ⟨n, hn⟩ : ∃ n : Nat, 1 + m % 8 = (n : Int) := ⟨(1 + m % 8).toNat, by omega⟩
  have n1 : 1 ≤ n ∧ n ≤ 8 := by omega
  obtain ⟨bs, hbs⟩ : ∃ bs : List Int, (List.range n).map (fun k : Nat => m / ((k : Int) * k + 1) % 26) = bs := ⟨_, rfl⟩
  have lb : bs.length = n := by rw [← hbs]; simp
  obtain ⟨a, ha⟩ : ∃ a : Nat, m / 1000 % (n : Int) = (a : Int) := ⟨(m / 1000 % (n : Int)).toNat, by
    have := Int.emod_nonneg (m / 1000) (show (n : Int) ≠ 0 by omega); omega⟩
  have a1 : a < n := by
    have := Int.emod_lt_of_pos (m / 1000) (show (0 : Int) < n by omega); omega
  refine ⟨(List.range 9).map fun k => T (nmS bs a k bs.length), by simp, ?_, ?_, fun G => ?_⟩
  · rw [List.nodup_iff_pairwise_ne, List.pairwise_map]
    refine List.Pairwise.imp_of_mem ?_ (List.nodup_iff_pairwise_ne.mp List.nodup_range)
    intro x y hx hy ne e
    have := List.mem_range.mp hx; have := List.mem_range.mp hy
    exact ne (nm_inj (by omega) (by omega) (by omega) e)
  · intro z hz
    obtain ⟨k, _, rfl⟩ := List.mem_map.mp hz
    exact nm_ok (by omega) (by omega)
  rw [self__law_names _ _ rfl]
  have MU : ∀ s, oMul (.int c) (.int 618033988749894848204587) s = .ok (.int (c * 618033988749894848204587)) s := fun s => oMul_ok (by
    unfold mulOk
    have : (618033988749894848204587 : Int).natAbs.log2 < 80 := by decide
    omega)
  have MO : ∀ s, oMod (.int (c * 618033988749894848204587)) (.int 1000000000000000000000007) s = .ok (.int m) s := fun s => by
    rw [oMod_pos (by decide), ← hm]; rfl
  have LC : lcEnd (gSet 3) q__law_names_1 e__law_names_1 [3] (rangeM 0 1 n) ⟨[.sh (.int c), .sh (.str (Str.ofString "abcdefghijklmnopqrstuvwxyz")), .sh (.int m), .un, .un, .un, .un, .un, .un], G⟩ = .ok (.lst (bs.map MV.int)) ⟨[.sh (.int c), .sh (.str (Str.ofString "abcdefghijklmnopqrstuvwxyz")), .sh (.int m), .un, .un, .un, .un, .un, .un], G⟩ := by
    rw [← hbs, List.map_map]
    unfold rangeM
    refine lcEnd_typed (fun k : Nat => .int (0 + k * 1)) (fun k : Nat => .int (m / ((k : Int) * k + 1) % 26)) (by simp; omega) rfl fun k hk => ⟨⟨[.sh (.int c), .sh (.str (Str.ofString "abcdefghijklmnopqrstuvwxyz")), .sh (.int m), .sh (.int (0 + k * 1)), .un, .un, .un, .un, .un], G⟩, ?_, rfl⟩
    have hk := List.mem_range.mp hk
    rw [show ((0 : Int) + (k : Nat) * 1) = (k : Int) by omega]
    have M0 : ∀ s, oMul (.int (k : Int)) (.int (k : Int)) s = .ok (.int ((k : Int) * k)) s := fun s => oMul_ok (mulOk_lit (by omega) (by omega) (by omega) (by omega))
    have kk : (k : Int) * k < 100 := by
      have : k * k ≤ 8 * 8 := Nat.mul_le_mul (by omega) (by omega)
      exact_mod_cast (by omega : k * k < 100)
    have k0 : (0 : Int) ≤ (k : Int) * k := Int.mul_nonneg (by omega) (by omega)
    have D0 : ∀ s, oDiv (.int m) (.int ((k : Int) * k + 1)) s = .ok (.int (m / ((k : Int) * k + 1))) s := fun s => oDiv_lt (by omega) (by omega)
    have D1 : ∀ x s, oMod (.int x) (.int 26) s = .ok (.int (x % 26)) s := fun x s => oMod_pos (by decide)
    generalize (k : Int) * k = k2 at *
    clear kk k0 hm m0 hn n1 hbs lb ha a1 MU MO hc hk
    unfold lcOne q__law_names_1 e__law_names_1
    walk_at "ms"
  have r0 : ∀ s, oR1 [.int (1 + m % 8)] s = .ok (rangeM 0 1 n) s := fun s => by rw [hn]; exact oR1_len (by omega)
  have D1 : ∀ s, oMod (.int m) (.int 8) s = .ok (.int (m % 8)) s := fun s => oMod_pos (by decide)
  have D2 : ∀ s, oMod (.int (m / 1000)) (.int (n : Int)) s = .ok (.int (a : Int)) s := fun s => by rw [oMod_pos (by omega), ha]
  have D3 : ∀ s, oDiv (.int m) (.int 1000) s = .ok (.int (m / 1000)) s := fun s => oDiv_lt (by decide) (by decide)
  have LB : ∀ s, bLen [.lst (bs.map MV.int)] s = .ok (.int (n : Int)) s := fun s => by rw [bLen_lst, List.length_map, lb]
  have r1 : ∀ s, oR1 [.int (n : Int)] s = .ok (rangeM 0 1 n) s := fun s => oR1_len (by omega)
  have r2 : ∀ s, oR1 [.int 9] s = .ok (rangeM 0 1 9) s := fun s => oR1_len (n := 9) (by decide)
  obtain ⟨s', hf, e3, e7, e8, rfl⟩ := forM_range (g := gSet 3) (b := b__law_names_2) (lo := 0) (c := 1) (n := 9)
    (s := ⟨[.sh (.int c), .sh (.str (Str.ofString "abcdefghijklmnopqrstuvwxyz")), .sh (.int m), .un, .sh (.lst (bs.map MV.int)), .sh (.int (a : Int)), .ow [], .un, .un], G⟩)
    (fun i s => ∃ e3 e7 e8, s = ⟨[.sh (.int c), .sh (.str (Str.ofString "abcdefghijklmnopqrstuvwxyz")), .sh (.int m), e3, .sh (.lst (bs.map MV.int)), .sh (.int (a : Int)), .ow ((List.range i).map fun k => .str (T (nmS bs a k bs.length))), e7, e8], G⟩) ⟨.un, .un, .un, rfl⟩ (by
      rintro i s hi ⟨e3, e7, e8, rfl⟩
      rw [show ((0 : Int) + (i : Nat) * 1) = (i : Int) by omega]
      rw [List.range_succ, List.map_append]
      have la : ((List.range i).map fun k => MV.str (T (nmS bs a k bs.length))).length < 16777216 := by simp; omega
      obtain ⟨s2, hf2, e8', rfl⟩ := forM_range (g := gSet 8) (b := b__law_names_1) (lo := 0) (c := 1) (n := n)
        (s := ⟨[.sh (.int c), .sh (.str (Str.ofString "abcdefghijklmnopqrstuvwxyz")), .sh (.int m), .sh (.int (i : Int)), .sh (.lst (bs.map MV.int)), .sh (.int (a : Int)), .ow ((List.range i).map fun k => .str (T (nmS bs a k bs.length))), .sh (.str (T [])), e8], G⟩)
        (fun j s => ∃ e8, s = ⟨[.sh (.int c), .sh (.str (Str.ofString "abcdefghijklmnopqrstuvwxyz")), .sh (.int m), .sh (.int (i : Int)), .sh (.lst (bs.map MV.int)), .sh (.int (a : Int)), .ow ((List.range i).map fun k => .str (T (nmS bs a k bs.length))), .sh (.str (T (nmS bs a i j))), e8], G⟩) ⟨e8, rfl⟩ (by
          rintro j s hj ⟨e8, rfl⟩
          rw [show ((0 : Int) + (j : Nat) * 1) = (j : Int) by omega]
          exact ⟨_, _, rfl, by
            rw [nmS_succ]
            exact nm_step (.sh (.int c)) .un (.sh (.int m)) .un .un _ 0 i j a bs _ G (by omega) (by unfold nmS; simp; omega) (by omega), _, rfl⟩)
      refine ⟨_, _, rfl, ?_, .sh (.int (i : Int)), .sh (.str (T (nmS bs a i bs.length))), e8', rfl⟩
      rw [lb] at *
      simp only [List.map_cons, List.map_nil]
      have eT : (Str.ofString "" : Str) = T [] := by apply sg_inj; rw [sg_of]; rfl
      rw [← eT] at hf2
      generalize ((List.range i).map fun k => MV.str (T (nmS bs a k n))) = acc at *
      generalize T (nmS bs a i n) = z at *
      clear hm m0 hn hbs lb ha a1 MU MO hc LC r0 D1 D2 D3 eT n1
      unfold b__law_names_2
      walk_at "ms")
  rw [List.map_map]
  simp only [Function.comp_def]
  generalize ((List.range 9).map fun k => MV.str (T (nmS bs a k bs.length))) = acc at *
  generalize (bs.map MV.int) = bl at *
  clear hm m0 hbs lb ha a1 hc n1
  unfold runB ms__law_names N__law_names
  walk_at "ms"

/-! ## sends as a graph -/
abbrev Edges := List (Str × Str)
def growR (x : Str) (E : Edges) (R : List Str) : List Str := E.foldl (fun R e => if e.1 = x ∧ e.2 ∉ R then R ++ [e.2] else R) R
def bfs (E : Edges) : Nat → List Str → Nat → List Str
  | 0, R, _ => R
  | k + 1, R, at_ => match R[at_]? with
    | none => R
    | some x => bfs E k (growR x E R) (at_ + 1)
def reach (E : Edges) (f : Str) : List Str := bfs E (E.length + 1) [f] 0
theorem growR_pre (x : Str) : ∀ (E : Edges) (R : List Str), ∃ S, growR x E R = R ++ S
  | [], R => ⟨[], by simp [growR]⟩
  | e :: E, R => by
    show ∃ S, growR x E (if e.1 = x ∧ e.2 ∉ R then R ++ [e.2] else R) = R ++ S
    split
    · obtain ⟨S, h⟩ := growR_pre x E (R ++ [e.2])
      exact ⟨e.2 :: S, by rw [h, List.append_assoc]; rfl⟩
    · exact growR_pre x E R
theorem growR_nd (x : Str) : ∀ (E : Edges) (R : List Str), R.Nodup → (growR x E R).Nodup
  | [], R, h => h
  | e :: E, R, h => by
    show (growR x E (if e.1 = x ∧ e.2 ∉ R then R ++ [e.2] else R)).Nodup
    split
    · rename_i q
      refine growR_nd x E _ ?_
      rw [List.nodup_append]
      exact ⟨h, by simp, fun a ha b hb => by
        rw [List.mem_singleton] at hb; subst hb
        exact fun e2 => q.2 (e2 ▸ ha)⟩
    · exact growR_nd x E R h
theorem growR_mem (x z : Str) : ∀ (E : Edges) (R : List Str), z ∈ growR x E R → z ∈ R ∨ ∃ e ∈ E, e.1 = x ∧ e.2 = z
  | [], R, h => .inl h
  | e :: E, R, h => by
    have h : z ∈ growR x E (if e.1 = x ∧ e.2 ∉ R then R ++ [e.2] else R) := h
    rcases growR_mem x z E _ h with h | ⟨e', h1, h2⟩
    · split at h
      · rename_i q
        rcases List.mem_append.mp h with h | h
        · exact .inl h
        · exact .inr ⟨e, List.mem_cons_self, q.1, (List.mem_singleton.mp h).symm⟩
      · exact .inl h
    · exact .inr ⟨e', List.mem_cons_of_mem _ h1, h2⟩
theorem growR_has (x : Str) : ∀ (E : Edges) (R : List Str), ∀ e ∈ E, e.1 = x → e.2 ∈ growR x E R
  | d :: E, R, e, he, hx => by
    show e.2 ∈ growR x E (if d.1 = x ∧ d.2 ∉ R then R ++ [d.2] else R)
    rcases List.mem_cons.mp he with rfl | he
    · obtain ⟨S, hS⟩ := growR_pre x E (if e.1 = x ∧ e.2 ∉ R then R ++ [e.2] else R)
      rw [hS]
      refine List.mem_append_left _ ?_
      by_cases q : e.2 ∈ R
      · rw [if_neg (fun h => h.2 q)]; exact q
      · rw [if_pos ⟨hx, q⟩]; exact List.mem_append_right _ List.mem_cons_self
    · exact growR_has x E _ e he hx
theorem nd_len {α : Type} [DecidableEq α] : ∀ {xs ys : List α}, xs.Nodup → (∀ x ∈ xs, x ∈ ys) → xs.length ≤ ys.length
  | [], ys, _, _ => Nat.zero_le _
  | x :: xs, ys, h, s => by
    obtain ⟨h1, h2⟩ := List.nodup_cons.mp h
    have hx := s x List.mem_cons_self
    have := nd_len (ys := ys.erase x) h2 fun y hy => (List.mem_erase_of_ne (fun (e : y = x) => h1 (e ▸ hy))).mpr (s y (List.mem_cons_of_mem _ hy))
    have h3 := List.length_erase_of_mem hx
    have h4 := List.length_pos_of_mem hx
    rw [List.length_cons]; omega
structure BInv (E : Edges) (f : Str) (R : List Str) (at_ : Nat) : Prop where
  nd : R.Nodup
  hf : f ∈ R
  sub : ∀ x ∈ R, x = f ∨ ∃ e ∈ E, e.2 = x
  cl : ∀ i x, i < at_ → R[i]? = some x → ∀ e ∈ E, e.1 = x → e.2 ∈ R
  le : at_ ≤ R.length
theorem BInv.len {E : Edges} {f : Str} {R : List Str} {at_ : Nat} (h : BInv E f R at_) : R.length ≤ E.length + 1 := by
  have := nd_len (ys := f :: E.map (·.2)) h.nd fun x hx => by
    rcases h.sub x hx with rfl | ⟨e, he, rfl⟩
    · exact List.mem_cons_self
    · exact List.mem_cons_of_mem _ (List.mem_map.mpr ⟨e, he, rfl⟩)
  simpa using this
theorem BInv.step {E : Edges} {f : Str} {R : List Str} {at_ : Nat} {x : Str} (h : BInv E f R at_) (hx : R[at_]? = some x) : BInv E f (growR x E R) (at_ + 1) := by
  obtain ⟨S, hS⟩ := growR_pre x E R
  have hl := (List.getElem?_eq_some_iff.mp hx).1
  refine ⟨growR_nd x E R h.nd, by rw [hS]; exact List.mem_append_left _ h.hf, fun z hz => ?_, fun i z hi hz e he ex => ?_, by rw [hS, List.length_append]; omega⟩
  · rcases growR_mem x z E R hz with hz | ⟨e, he, _, rfl⟩
    · exact h.sub z hz
    · exact .inr ⟨e, he, rfl⟩
  · rw [hS, List.getElem?_append_left (by omega)] at hz
    by_cases q : i < at_
    · rw [hS]; exact List.mem_append_left _ (h.cl i z q hz e he ex)
    · have : i = at_ := by omega
      subst this
      rw [hx] at hz; cases hz
      exact growR_has x E R e he ex
theorem BInv.init (E : Edges) (f : Str) : BInv E f [f] 0 := ⟨by simp, List.mem_cons_self, fun x hx => .inl (List.mem_singleton.mp hx), fun i _ hi => absurd hi (Nat.not_lt_zero _), Nat.zero_le _⟩
theorem bfs_pre (E : Edges) : ∀ (k : Nat) (R : List Str) (at_ : Nat), ∃ S, bfs E k R at_ = R ++ S
  | 0, R, _ => ⟨[], by simp [bfs]⟩
  | k + 1, R, at_ => by
    unfold bfs
    cases R[at_]? with
    | none => exact ⟨[], by simp⟩
    | some x =>
      obtain ⟨S, h⟩ := growR_pre x E R
      obtain ⟨S2, h2⟩ := bfs_pre E k (growR x E R) (at_ + 1)
      exact ⟨S ++ S2, by simp only; rw [h2, h, List.append_assoc]⟩
theorem bfs_end {E : Edges} {f : Str} : ∀ (k : Nat) {R : List Str} {at_ : Nat}, BInv E f R at_ → E.length + 1 ≤ at_ + k → BInv E f (bfs E k R at_) (bfs E k R at_).length
  | 0, R, at_, h, hk => by
    have := h.len; have := h.le
    have e : at_ = R.length := by omega
    subst e; exact h
  | k + 1, R, at_, h, hk => by
    unfold bfs
    cases hx : R[at_]? with
    | none =>
      have := List.getElem?_eq_none_iff.mp hx
      have := h.le
      have e : at_ = R.length := by omega
      subst e; exact h
    | some x => exact bfs_end k (h.step hx) (by omega)
theorem reach_inv (E : Edges) (f : Str) : BInv E f (reach E f) (reach E f).length := bfs_end _ (BInv.init E f) (by omega)
theorem reach_self (E : Edges) (f : Str) : f ∈ reach E f := (reach_inv E f).hf
theorem reach_closed (E : Edges) (f : Str) : ∀ e ∈ E, e.1 ∈ reach E f → e.2 ∈ reach E f := fun e he h => by
  obtain ⟨i, hi, h2⟩ := List.getElem_of_mem h
  exact (reach_inv E f).cl i e.1 hi (by rw [List.getElem?_eq_getElem hi, h2]) e he rfl
theorem reach_sub (E : Edges) (f : Str) : ∀ x ∈ reach E f, x = f ∨ ∃ e ∈ E, e.2 = x := (reach_inv E f).sub
/-! ### no rings -/
def Acyc (E : Edges) : Prop := ∃ r : Str → Nat, ∀ e ∈ E, r e.1 < r e.2
theorem acyc_nil : Acyc [] := ⟨fun _ => 0, fun e h => (by cases h)⟩
theorem max_at (r : Str → Nat) : ∀ (xs : List Str), ∃ M, ∀ x ∈ xs, r x < M
  | [] => ⟨0, fun x h => (by cases h)⟩
  | x :: xs => by
    obtain ⟨M, h⟩ := max_at r xs
    exact ⟨M + r x + 1, fun y hy => by
      rcases List.mem_cons.mp hy with rfl | hy
      · omega
      · have := h y hy; omega⟩
theorem acyc_add {E : Edges} {s b : Str} (h : Acyc E) (hs : s ∉ reach E b) : Acyc (E ++ [(s, b)]) := by
  obtain ⟨r, hr⟩ := h
  obtain ⟨M, hM⟩ := max_at r (s :: E.map (·.1))
  refine ⟨fun x => if x ∈ reach E b then r x + M else r x, fun e he => ?_⟩
  rcases List.mem_append.mp he with he | he
  · have h1 := hr e he
    have h2 := hM e.1 (List.mem_cons_of_mem _ (List.mem_map.mpr ⟨e, he, rfl⟩))
    show (if e.1 ∈ reach E b then r e.1 + M else r e.1) < (if e.2 ∈ reach E b then r e.2 + M else r e.2)
    by_cases q : e.1 ∈ reach E b
    · rw [if_pos q, if_pos (reach_closed E b e he q)]; omega
    · rw [if_neg q]
      split <;> omega
  · rw [List.mem_singleton] at he
    subst he
    show (if s ∈ reach E b then r s + M else r s) < (if b ∈ reach E b then r b + M else r b)
    rw [if_neg hs, if_pos (reach_self E b)]
    have := hM s List.mem_cons_self
    omega
/-! ### the order -/
def rdy (E : Edges) (bu T : List Str) (x : Str) : Bool := E.all fun e => !(decide (e.2 = x) && (decide (e.1 ∈ bu) && decide (e.1 ∉ T)))
def rdL (E : Edges) (bu T : List Str) : List Str := bu.filter fun x => decide (x ∉ T) && rdy E bu T x
theorem rdy_no {E : Edges} {bu T : List Str} {x : Str} (h : rdy E bu T x = false) : ∃ e ∈ E, e.2 = x ∧ e.1 ∈ bu ∧ e.1 ∉ T := by
  unfold rdy at h
  rw [List.all_eq_false] at h
  obtain ⟨e, he, h⟩ := h
  refine ⟨e, he, ?_⟩
  simpa using h
theorem rdy_min {E : Edges} {bu T : List Str} {r : Str → Nat} (hr : ∀ e ∈ E, r e.1 < r e.2) : ∀ (n : Nat) (x : Str), r x ≤ n → x ∈ bu → x ∉ T → ∃ y ∈ bu, y ∉ T ∧ rdy E bu T y = true
  | n, x, hx, h1, h2 => by
    cases q : rdy E bu T x with
    | true => exact ⟨x, h1, h2, q⟩
    | false =>
      obtain ⟨e, he, ee, h3, h4⟩ := rdy_no q
      have := hr e he
      rw [ee] at this
      match n with
      | 0 => omega
      | n + 1 => exact rdy_min hr n e.1 (by omega) h3 h4
theorem rdL_ne {E : Edges} {bu T : List Str} (h : Acyc E) (hb : bu.Nodup) (hl : T.length < bu.length) : ∃ x L, rdL E bu T = x :: L ∧ x ∈ bu ∧ x ∉ T := by
  obtain ⟨r, hr⟩ := h
  have : ∃ x ∈ bu, x ∉ T := by
    apply Classical.byContradiction
    intro q
    have := nd_len hb (ys := T) fun x hx => Classical.byContradiction fun w => q ⟨x, hx, w⟩
    omega
  obtain ⟨x, h1, h2⟩ := this
  obtain ⟨y, h3, h4, h5⟩ := rdy_min hr _ x (Nat.le_refl _) h1 h2
  have hy : y ∈ rdL E bu T := List.mem_filter.mpr ⟨h3, by simp [h4, h5]⟩
  cases e : rdL E bu T with
  | nil => rw [e] at hy; cases hy
  | cons z L =>
    have hz : z ∈ rdL E bu T := by rw [e]; exact List.mem_cons_self
    obtain ⟨h6, h7⟩ := List.mem_filter.mp hz
    simp at h7
    exact ⟨z, L, rfl, h6, h7.1⟩
/-- a list told in the order's way -/
def OrdOk (E : Edges) (bu T : List Str) : Prop := T.Nodup ∧ (∀ x ∈ T, x ∈ bu) ∧ ∀ k x, T[k]? = some x → ∃ L, rdL E bu (T.take k) = x :: L
theorem ord_nil (E : Edges) (bu : List Str) : OrdOk E bu [] := ⟨by simp, fun x h => (by cases h), fun k x h => (by simp at h)⟩
theorem ord_add {E : Edges} {bu T : List Str} {x : Str} {L : List Str} (h : OrdOk E bu T) (hx : rdL E bu T = x :: L) (h1 : x ∈ bu) (h2 : x ∉ T) : OrdOk E bu (T ++ [x]) := by
  obtain ⟨a, b, c⟩ := h
  refine ⟨?_, fun y hy => ?_, fun k y hk => ?_⟩
  · rw [List.nodup_append]
    exact ⟨a, by simp, fun p hp q hq => by rw [List.mem_singleton] at hq; subst hq; exact fun e => h2 (e ▸ hp)⟩
  · rcases List.mem_append.mp hy with hy | hy
    · exact b y hy
    · rw [List.mem_singleton] at hy; subst hy; exact h1
  · by_cases q : k < T.length
    · rw [List.getElem?_append_left q] at hk
      rw [List.take_append_of_le_length (by omega)]
      exact c k y hk
    · have hl := (List.getElem?_eq_some_iff.mp hk).1
      rw [List.length_append, List.length_singleton] at hl
      have e : k = T.length := by omega
      subst e
      rw [List.getElem?_append_right (Nat.le_refl _), Nat.sub_self] at hk
      cases hk
      rw [List.take_left' rfl]
      exact ⟨L, hx⟩

/-! ## patches -/
abbrev SdT := Str × Str × List Str
def eSd (p : SdT) : MV := .tup [.str p.1, .str p.2.1, .lst (p.2.2.map MV.str)]
def edg (se : List SdT) : Edges := se.map fun p => (p.1, p.2.1)
structure PatAt (G : MHeap) (n a b c d : Nat) (tr bu : List Str) (se : List SdT) (ou : List MV) : Prop where
  hp : G[n]? = some (.ins "Patch" ks_Patch [.ref a, .ref b, .ref c, .ref d])
  ht : G[a]? = some (.lst (tr.map MV.str))
  hb : G[b]? = some (.lst (bu.map MV.str))
  hs : G[c]? = some (.lst (se.map eSd))
  ho : G[d]? = some (.lst ou)
  nd : a ≠ b ∧ a ≠ c ∧ a ≠ d ∧ b ≠ c ∧ b ≠ d ∧ c ≠ d
section
variable {G : MHeap} {n a b c d : Nat} {tr bu : List Str} {se : List SdT} {ou : List MV}
theorem PatAt.app (P : PatAt G n a b c d tr bu se ou) (J : MHeap) : PatAt (G ++ J) n a b c d tr bu se ou := ⟨apl J P.hp, apl J P.ht, apl J P.hb, apl J P.hs, apl J P.ho, P.nd⟩
theorem PatAt.ne (P : PatAt G n a b c d tr bu se ou) : n ≠ a ∧ n ≠ b ∧ n ≠ c ∧ n ≠ d := by
  have h := P.hp
  refine ⟨?_, ?_, ?_, ?_⟩ <;> intro e <;> subst e
  · rw [P.ht] at h; cases h
  · rw [P.hb] at h; cases h
  · rw [P.hs] at h; cases h
  · rw [P.ho] at h; cases h
theorem PatAt.setO (P : PatAt G n a b c d tr bu se ou) {m : Nat} (o : MO) (h1 : m ≠ n) (h2 : m ≠ a) (h3 : m ≠ b) (h4 : m ≠ c) (h5 : m ≠ d) : PatAt (G.set m o) n a b c d tr bu se ou :=
  ⟨by rw [List.getElem?_set_ne h1]; exact P.hp, by rw [List.getElem?_set_ne h2]; exact P.ht, by rw [List.getElem?_set_ne h3]; exact P.hb, by rw [List.getElem?_set_ne h4]; exact P.hs, by rw [List.getElem?_set_ne h5]; exact P.ho, P.nd⟩
theorem PatAt.setT (P : PatAt G n a b c d tr bu se ou) (tr' : List Str) : PatAt (G.set a (.lst (tr'.map MV.str))) n a b c d tr' bu se ou := by
  obtain ⟨h1, h2, h3, h4, h5, h6⟩ := P.nd
  obtain ⟨g1, g2, g3, g4⟩ := P.ne
  exact ⟨by rw [List.getElem?_set_ne (Ne.symm g1)]; exact P.hp, List.getElem?_set_self (List.getElem?_eq_some_iff.mp P.ht).1, by rw [List.getElem?_set_ne h1]; exact P.hb, by rw [List.getElem?_set_ne h2]; exact P.hs, by rw [List.getElem?_set_ne h3]; exact P.ho, P.nd⟩
theorem PatAt.setB (P : PatAt G n a b c d tr bu se ou) (bu' : List Str) : PatAt (G.set b (.lst (bu'.map MV.str))) n a b c d tr bu' se ou := by
  obtain ⟨h1, h2, h3, h4, h5, h6⟩ := P.nd
  obtain ⟨g1, g2, g3, g4⟩ := P.ne
  exact ⟨by rw [List.getElem?_set_ne (Ne.symm g2)]; exact P.hp, by rw [List.getElem?_set_ne (Ne.symm h1)]; exact P.ht, List.getElem?_set_self (List.getElem?_eq_some_iff.mp P.hb).1, by rw [List.getElem?_set_ne h4]; exact P.hs, by rw [List.getElem?_set_ne h5]; exact P.ho, P.nd⟩
theorem PatAt.setS (P : PatAt G n a b c d tr bu se ou) (se' : List SdT) : PatAt (G.set c (.lst (se'.map eSd))) n a b c d tr bu se' ou := by
  obtain ⟨h1, h2, h3, h4, h5, h6⟩ := P.nd
  obtain ⟨g1, g2, g3, g4⟩ := P.ne
  exact ⟨by rw [List.getElem?_set_ne (Ne.symm g3)]; exact P.hp, by rw [List.getElem?_set_ne (Ne.symm h2)]; exact P.ht, by rw [List.getElem?_set_ne (Ne.symm h4)]; exact P.hb, List.getElem?_set_self (List.getElem?_eq_some_iff.mp P.hs).1, by rw [List.getElem?_set_ne h6]; exact P.ho, P.nd⟩
end
theorem is_name_ev {z : Str} (h : NameOk z) (G : MHeap) : mf_is_name [.str z] G = .ok (.bl true) G := by
  rw [self_is_name _ _ rfl]
  have LN : ∀ s, bLen [.str z] s = .ok (.int (z.length : Nat)) s := fun s => bLen_str (by have := h.u; rw [len_sg]; omega)
  have c1 : ¬ ((z.length : Nat) : Int) < 1 := by have := h.l; rw [len_sg]; omega
  have c2 : ¬ ((8 : Int) < (z.length : Nat)) := by have := h.u; rw [len_sg]; omega
  obtain ⟨s', hf, e1, rfl⟩ := forM_all (g := gSet 1) (b := b_is_name_1) (fun c : Nat => MV.str ⟨#[c]⟩) (fun s => ∃ e1, s = ⟨[.sh (.str z), e1], G⟩) z.cps.toList ⟨[.sh (.str z), .un], G⟩ ⟨.un, rfl⟩ (by
    rintro c hc s ⟨e1, rfl⟩
    refine ⟨_, _, rfl, ?_, .sh (.str ⟨#[c]⟩), rfl⟩
    have hc := h.c c hc
    have I : ∀ s, oNotInS (.str ⟨#[c]⟩) (.str (Str.ofString "abcdefghijklmnopqrstuvwxyz")) s = .ok (.bl false) s := fun s => by
      rw [oNotInS_ok]; simp [abc_has hc.1 hc.2]
    clear h LN c1 c2 hc
    unfold b_is_name_1
    walk_at "ms")
  clear h
  unfold runB ms_is_name N_is_name
  walk_at "ms"
section
variable {G : MHeap} {n a b c d : Nat} {tr bu : List Str} {se : List SdT} {ou : List MV}
theorem asked_ev (P : PatAt G n a b c d tr bu se ou) {z : Str} (hz : NameOk z) (h1 : z ∉ tr) (h2 : z ∉ bu) : mf_Patch_asked_new [.ref n, .str z] G = .ok (.str z) G := by
  rw [self_Patch_asked_new _ _ rfl]
  have NM : ∀ G, mf_is_name [.str z] G = .ok (.bl true) G := is_name_ev hz
  have I1 : ∀ e, oIn (.str z) (.ref a) ⟨e, G⟩ = .ok (.bl false) ⟨e, G⟩ := fun e => by rw [oIn_strs (seqG_ref P.ht)]; simp [h1]
  have I2 : ∀ e, oIn (.str z) (.ref b) ⟨e, G⟩ = .ok (.bl false) ⟨e, G⟩ := fun e => by rw [oIn_strs (seqG_ref P.hb)]; simp [h2]
  have hp := P.hp
  clear P h1 h2 hz
  unfold runB ms_Patch_asked_new N_Patch_asked_new
  walk_at "ms"
theorem bus_ev (P : PatAt G n a b c d tr bu se ou) {z : Str} (hz : NameOk z) (h1 : z ∉ tr) (h2 : z ∉ bu) (hl : bu.length < 1000) : mf_Patch_bus [.ref n, .str z] G = .ok .non (G.set b (.lst ((bu ++ [z]).map MV.str))) := by
  rw [self_Patch_bus _ _ rfl]
  have AK := asked_ev P hz h1 h2
  have hp := P.hp
  have hb := P.hb
  have lb : (bu.map MV.str).length < 16777216 := by rw [List.length_map]; omega
  rw [List.map_append]
  generalize bu.map MV.str = bl at *
  clear P h1 h2 hz hl
  unfold runB ms_Patch_bus N_Patch_bus
  walk_at "ms"
theorem track_ev (P : PatAt G n a b c d tr bu se ou) {z : Str} (hz : NameOk z) (h1 : z ∉ tr) (h2 : z ∉ bu) (hl : tr.length < 1000) : mf_Patch_track [.ref n, .str z] G = .ok .non (G.set a (.lst ((tr ++ [z]).map MV.str))) := by
  rw [self_Patch_track _ _ rfl]
  have AK := asked_ev P hz h1 h2
  have hp := P.hp
  have hb := P.ht
  have lb : (tr.map MV.str).length < 16777216 := by rw [List.length_map]; omega
  rw [List.map_append]
  generalize tr.map MV.str = bl at *
  clear P h1 h2 hz hl
  unfold runB ms_Patch_track N_Patch_track
  walk_at "ms"
end

/-! ## way_between -/
def lastS (w : List Str) : Str := w.getLastD ⟨#[]⟩
def eW (w : List Str) : MV := .lst (w.map MV.str)
def kvW (W : List (List Str)) : List (Str × MV) := (W.map lastS).map fun z => (z, .bl true)
def growW (here : Str) (way : List Str) (se : List SdT) (W : List (List Str)) : List (List Str) := se.foldl (fun W p => if p.1 = here ∧ p.2.1 ∉ W.map lastS then W ++ [way ++ [p.2.1]] else W) W
theorem last_snoc (w : List Str) (z : Str) : lastS (w ++ [z]) = z := by unfold lastS; rw [List.getLastD_eq_getLast?, List.getLast?_append]; simp
theorem growW_last (here : Str) (way : List Str) : ∀ (se : List SdT) (W : List (List Str)), (growW here way se W).map lastS = growR here (edg se) (W.map lastS)
  | [], W => rfl
  | p :: se, W => by
    show (growW here way se (if p.1 = here ∧ p.2.1 ∉ W.map lastS then W ++ [way ++ [p.2.1]] else W)).map lastS = growR here (edg se) (if p.1 = here ∧ p.2.1 ∉ W.map lastS then W.map lastS ++ [p.2.1] else W.map lastS)
    rw [growW_last here way se]
    split
    · rw [List.map_append, List.map_cons, List.map_nil, last_snoc]
    · rfl
theorem valD_kvW (W : List (List Str)) (z : Str) : (valD (kvW W) z).isSome = decide (z ∈ W.map lastS) := by
  unfold kvW
  generalize W.map lastS = R
  induction R with
  | nil => rfl
  | cons x R ih =>
    rw [List.map_cons]
    unfold valD at ih ⊢
    rw [List.find?_cons]
    by_cases q : x = z
    · subst q; simp
    · have q2 : ¬ z = x := fun e => q e.symm
      simp only [decide_eq_false q, ih, List.mem_cons, q2, false_or]
theorem putD_kvW {W : List (List Str)} {z : Str} (h : z ∉ W.map lastS) (way : List Str) : putD (kvW W) z (.bl true) = kvW (W ++ [way ++ [z]]) := by
  have e : (kvW W).any (fun p => decide (p.1 = z)) = false := by
    unfold kvW
    rw [List.any_map, List.any_eq_false]
    intro x hx
    simp only [Function.comp, decide_eq_true_eq]
    exact fun e => h (e ▸ hx)
  unfold putD
  rw [e]
  unfold kvW
  rw [if_neg (by decide), List.map_append, List.map_append, List.map_cons, List.map_nil, last_snoc]
  rfl
theorem kvW_len (W : List (List Str)) : (kvW W).length = W.length := by unfold kvW; simp
def GW (B : MHeap) (W : List (List Str)) : MHeap := B ++ [.lst (W.map eW), .dic (kvW W)]
theorem way_turn (B : MHeap) (W : List (List Str)) (e0 e1 e2 e5 e8 e9 e10 : SV) (way : List Str) (here : Str) (p : SdT) (ho : okS (sg here)) (ho1 : okS (sg p.1)) (hl : W.length < 16777216) (hw : way.length < 1000) :
    b_way_between_1 ⟨[e0, e1, e2, .sh (.ref B.length), .sh (.ref (B.length + 1)), e5, .sh (.lst (way.map MV.str)), .sh (.str here), .sh (.str p.1), .sh (.str p.2.1), e10], GW B W⟩
      = .ok .nx ⟨[e0, e1, e2, .sh (.ref B.length), .sh (.ref (B.length + 1)), e5, .sh (.lst (way.map MV.str)), .sh (.str here), .sh (.str p.1), .sh (.str p.2.1), e10], GW B (if p.1 = here ∧ p.2.1 ∉ W.map lastS then W ++ [way ++ [p.2.1]] else W)⟩ := by
  have h0 := ap0 B (.lst (W.map eW)) (.dic (kvW W))
  have h1 := ap1 B (.lst (W.map eW)) (.dic (kvW W))
  have vd := valD_kvW W p.2.1
  by_cases q1 : p.1 = here
  · have E : ∀ s, oEq (.str p.1) (.str here) s = .ok (.bl true) s := fun s => by rw [oEq_str ho1 ho]; simp [q1]
    by_cases q2 : p.2.1 ∈ W.map lastS
    · rw [if_neg (fun h => h.2 q2)]
      rw [decide_eq_true q2] at vd
      unfold GW
      generalize W.map eW = we at *
      generalize kvW W = kw at *
      clear q1 q2 ho ho1 hl hw
      unfold b_way_between_1 mNotInD mPutD
      walk_at "ms"
    · rw [if_pos ⟨q1, q2⟩]
      rw [decide_eq_false q2] at vd
      have hd := putD_kvW q2 way
      have AD : ∀ s, oAdd (.lst (way.map MV.str)) (.lst [.str p.2.1]) s = .ok (eW (way ++ [p.2.1])) s := fun s => by
        rw [oAdd_lst (by simp; omega)]
        unfold eW; rw [List.map_append]; rfl
      have kl : (kvW W).length < 16777216 := by rw [kvW_len]; exact hl
      have el : (W.map eW).length < 16777216 := by rw [List.length_map]; exact hl
      have g0 := st0 B (.lst (W.map eW)) (.dic (kvW (W ++ [way ++ [p.2.1]]))) (.lst (W.map eW ++ [eW (way ++ [p.2.1])]))
      have g1 := st1 B (.lst (W.map eW)) (.dic (kvW W)) (.dic (kvW (W ++ [way ++ [p.2.1]])))
      have h2 := ap0 B (.lst (W.map eW)) (.dic (kvW (W ++ [way ++ [p.2.1]])))
      unfold GW
      rw [List.map_append, List.map_cons, List.map_nil]
      generalize kvW (W ++ [way ++ [p.2.1]]) = kw2 at *
      generalize eW (way ++ [p.2.1]) = ew2 at *
      generalize W.map eW = we at *
      generalize kvW W = kw at *
      generalize way.map MV.str = wm at *
      clear q1 q2 ho ho1 hl hw
      unfold b_way_between_1 mNotInD mPutD
      walk_at "ms"
  · have E : ∀ s, oEq (.str p.1) (.str here) s = .ok (.bl false) s := fun s => by rw [oEq_str ho1 ho, decide_eq_false (fun h => q1 (sg_inj h))]
    rw [if_neg (fun h => q1 h.1)]
    clear q1 ho ho1 hl hw
    unfold b_way_between_1 mNotInD mPutD
    walk_at "ms"
theorem getLast_str {w : List Str} (h : w ≠ []) (hl : w.length < 1000) (s : MS) : oIdx (.lst (w.map MV.str)) (.int ((w.length : Nat) - 1)) s = .ok (.str (lastS w)) s := by
  have hp : 0 < w.length := List.length_pos_iff.mpr h
  rw [oIdx_lst (by omega), show (((w.length : Nat) : Int) - 1).toNat = w.length - 1 by omega, List.getElem?_map]
  have : w[w.length - 1]? = some (lastS w) := by
    unfold lastS
    rw [List.getLastD_eq_getLast?, ← List.getLast?_eq_getElem?]
    cases e : w.getLast? with
    | none => exact absurd (List.getLast?_eq_none_iff.mp e) h
    | some x => rfl
  rw [this]; rfl
structure WInv (se : List SdT) (f : Str) (W : List (List Str)) (at_ : Nat) : Prop where
  b : BInv (edg se) f (W.map lastS) at_
  ne : ∀ w ∈ W, w ≠ []
  le : ∀ w ∈ W, w.length ≤ at_ + 1
theorem growW_mem (here : Str) (way : List Str) : ∀ (se : List SdT) (W : List (List Str)) (w : List Str), w ∈ growW here way se W → w ∈ W ∨ ∃ p ∈ se, p.1 = here ∧ p.2.1 ∉ W.map lastS ∧ w = way ++ [p.2.1]
  | [], W, w, h => .inl h
  | p :: se, W, w, h => by
    have h : w ∈ growW here way se (if p.1 = here ∧ p.2.1 ∉ W.map lastS then W ++ [way ++ [p.2.1]] else W) := h
    rcases growW_mem here way se _ w h with h | ⟨q, h1, h2, h3, h4⟩
    · split at h
      · rename_i c
        rcases List.mem_append.mp h with h | h
        · exact .inl h
        · exact .inr ⟨p, List.mem_cons_self, c.1, c.2, List.mem_singleton.mp h⟩
      · exact .inl h
    · refine .inr ⟨q, List.mem_cons_of_mem _ h1, h2, fun hx => h3 ?_, h4⟩
      split
      · rw [List.map_append]; exact List.mem_append_left _ hx
      · exact hx
theorem WInv.step {se : List SdT} {f : Str} {W : List (List Str)} {at_ : Nat} {w : List Str} (h : WInv se f W at_) (hw : W[at_]? = some w) : WInv se f (growW (lastS w) w se W) (at_ + 1) := by
  refine ⟨?_, fun v hv => ?_, fun v hv => ?_⟩
  · rw [growW_last]
    exact h.b.step (by rw [List.getElem?_map, hw]; rfl)
  · rcases growW_mem _ _ _ _ _ hv with hv | ⟨p, _, _, _, rfl⟩
    · exact h.ne v hv
    · simp
  · rcases growW_mem _ _ _ _ _ hv with hv | ⟨p, _, _, _, rfl⟩
    · have := h.le v hv; omega
    · have := h.le w (List.mem_of_getElem? hw)
      rw [List.length_append, List.length_singleton]; omega
theorem WInv.len {se : List SdT} {f : Str} {W : List (List Str)} {at_ : Nat} (h : WInv se f W at_) : W.length ≤ se.length + 1 := by
  have := h.b.len
  rw [List.length_map] at this
  unfold edg at this
  rwa [List.length_map] at this
theorem way_for {c : Nat} {B : MHeap} {se : List SdT} {f : Str} (e1 e2 e5 e8 e9 e10 : SV) {W : List (List Str)} {at_ : Nat} {w : List Str} (hc : B[c]? = some (.lst (se.map eSd))) (hk : ∀ p ∈ se, NameOk p.1 ∧ NameOk p.2.1) (hn : NameOk (lastS w)) (hi : WInv se f W at_) (hl : se.length < 500) (hw : w.length ≤ 600) :
    ∃ e8' e9' e10', forML (gTupM 3 (gsConsM (gSet 8) (gsConsM (gSet 9) (gsConsM (gSet 10) gsNilM)))) b_way_between_1 c (se.map eSd) (se.map eSd) ⟨[.sh (.ref c), e1, e2, .sh (.ref B.length), .sh (.ref (B.length + 1)), e5, .sh (.lst (w.map MV.str)), .sh (.str (lastS w)), e8, e9, e10], GW B W⟩
      = .ok .nx ⟨[.sh (.ref c), e1, e2, .sh (.ref B.length), .sh (.ref (B.length + 1)), e5, .sh (.lst (w.map MV.str)), .sh (.str (lastS w)), e8', e9', e10'], GW B (growW (lastS w) w se W)⟩ := by
  have Z := forML_fold (g := gTupM 3 (gsConsM (gSet 8) (gsConsM (gSet 9) (gsConsM (gSet 10) gsNilM)))) (b := b_way_between_1) (n := c) (all := se.map eSd) eSd (fun W p => if p.1 = lastS w ∧ p.2.1 ∉ W.map lastS then W ++ [w ++ [p.2.1]] else W)
    (fun V s => ∃ e8 e9 e10, (V.map lastS).Nodup ∧ (∀ x ∈ V.map lastS, x = f ∨ ∃ e ∈ edg se, e.2 = x) ∧ s = ⟨[.sh (.ref c), e1, e2, .sh (.ref B.length), .sh (.ref (B.length + 1)), e5, .sh (.lst (w.map MV.str)), .sh (.str (lastS w)), e8, e9, e10], GW B V⟩)
    (by rintro V s ⟨_, _, _, _, _, rfl⟩; exact apl _ hc) se W _ ⟨e8, e9, e10, hi.b.nd, hi.b.sub, rfl⟩ (by
      rintro p hp V s ⟨e8, e9, e10, nd, sub, rfl⟩
      have vl : V.length ≤ se.length + 1 := by
        have := nd_len (ys := f :: (edg se).map (·.2)) nd fun x hx => by
          rcases sub x hx with rfl | ⟨e, he, rfl⟩
          · exact List.mem_cons_self
          · exact List.mem_cons_of_mem _ (List.mem_map.mpr ⟨e, he, rfl⟩)
        simpa [edg] using this
      refine ⟨_, _, rfl, way_turn B V (.sh (.ref c)) e1 e2 e5 .un .un (.sh (.lst (p.2.2.map MV.str))) w (lastS w) p hn.ok (hk p hp).1.ok (by omega) (by omega), .sh (.str p.1), .sh (.str p.2.1), .sh (.lst (p.2.2.map MV.str)), ?_, ?_, rfl⟩
      · split
        · rename_i q
          rw [List.map_append, List.map_cons, List.map_nil, last_snoc, List.nodup_append]
          exact ⟨nd, by simp, fun a ha b hb => by rw [List.mem_singleton] at hb; subst hb; exact fun e => q.2 (e ▸ ha)⟩
        · exact nd
      · split
        · rename_i q
          intro x hx
          rw [List.map_append, List.map_cons, List.map_nil, last_snoc] at hx
          rcases List.mem_append.mp hx with hx | hx
          · exact sub x hx
          · rw [List.mem_singleton] at hx; subst hx
            exact .inr ⟨(p.1, p.2.1), List.mem_map.mpr ⟨p, hp, rfl⟩, rfl⟩
        · exact sub)
  obtain ⟨s', hf, e8', e9', e10', _, _, hk2⟩ := Z
  rw [hk2] at hf
  exact ⟨e8', e9', e10', hf⟩
theorem way_loop {c : Nat} {B : MHeap} {se : List SdT} {f l : Str} (hc : B[c]? = some (.lst (se.map eSd))) (hk : ∀ p ∈ se, NameOk p.1 ∧ NameOk p.2.1) (hf : NameOk f) (hl : NameOk l) (hs : se.length < 500) {RE : List Str} (hr : l ∉ RE) : ∀ (k : Nat) (W : List (List Str)) (at_ : Nat) (e6 e7 e8 e9 e10 : SV),
    WInv se f W at_ → se.length + 1 ≤ at_ + k → bfs (edg se) k (W.map lastS) at_ = RE →
    ∃ W' e5' e6' e7' e8' e9' e10', mWhile c_way_between_1 b_way_between_2 ⟨[.sh (.ref c), .sh (.str f), .sh (.str l), .sh (.ref B.length), .sh (.ref (B.length + 1)), .sh (.int (at_ : Int)), e6, e7, e8, e9, e10], GW B W⟩
      = .ok .nx ⟨[.sh (.ref c), .sh (.str f), .sh (.str l), .sh (.ref B.length), .sh (.ref (B.length + 1)), e5', e6', e7', e8', e9', e10'], GW B W'⟩
  | k, W, at_, e6, e7, e8, e9, e10, hi, hk1, hb => by
    have h0 := ap0 B (.lst (W.map eW)) (.dic (kvW W))
    have CE : c_way_between_1 ⟨[.sh (.ref c), .sh (.str f), .sh (.str l), .sh (.ref B.length), .sh (.ref (B.length + 1)), .sh (.int (at_ : Int)), e6, e7, e8, e9, e10], GW B W⟩ = .ok (decide ((at_ : Int) < (W.length : Nat))) ⟨[.sh (.ref c), .sh (.str f), .sh (.str l), .sh (.ref B.length), .sh (.ref (B.length + 1)), .sh (.int (at_ : Int)), e6, e7, e8, e9, e10], GW B W⟩ := by
      have lw : (W.map eW).length = W.length := List.length_map ..
      unfold GW
      generalize W.map eW = we at *
      clear hi hk1 hb hc hk hr hf hl
      unfold c_way_between_1
      walk_at "ms"
    rw [mWhile_if, CE]
    simp only [R.bind_ok]
    by_cases q : at_ < W.length
    · rw [if_pos (by simpa using q)]
      match k with
      | 0 => have := hi.len; omega
      | k + 1 =>
        obtain ⟨w, hw⟩ : ∃ w, W[at_]? = some w := ⟨_, List.getElem?_eq_getElem q⟩
        have wm := List.mem_of_getElem? hw
        have wR : (W.map lastS)[at_]? = some (lastS w) := by rw [List.getElem?_map, hw]; rfl
        have wne := hi.ne w wm
        have wl : w.length ≤ 600 := by have := hi.le w wm; have := hi.len; omega
        have wok : NameOk (lastS w) := by
          rcases hi.b.sub (lastS w) (List.mem_of_getElem? wR) with e | ⟨e, he, e2⟩
          · rw [e]; exact hf
          · rw [← e2]
            obtain ⟨p, hp, rfl⟩ := List.mem_map.mp he
            exact (hk p hp).2
        have nel : lastS w ≠ l := fun e => hr (by
          rw [← hb, ← e]
          obtain ⟨S, hS⟩ := bfs_pre (edg se) (k + 1) (W.map lastS) at_
          rw [hS]
          exact List.mem_append_left _ (List.mem_of_getElem? wR))
        have EQ : ∀ s, oEq (.str (lastS w)) (.str l) s = .ok (.bl false) s := fun s => by rw [oEq_str wok.ok hl.ok, decide_eq_false (fun h => nel (sg_inj h))]
        have IX : ∀ e, oIdx (.ref B.length) (.int (at_ : Int)) ⟨e, GW B W⟩ = .ok (.lst (w.map MV.str)) ⟨e, GW B W⟩ := fun e => by
          unfold oIdx GW
          simp only [h0, Int.toNat_natCast, List.getElem?_map, hw, Option.map_some]
          rw [if_pos (by omega)]; rfl
        have LA : ∀ s, oIdx (.lst (w.map MV.str)) (.int ((w.length : Nat) - 1)) s = .ok (.str (lastS w)) s := getLast_str wne (by omega)
        obtain ⟨e8', e9', e10', FO⟩ := way_for (.sh (.str f)) (.sh (.str l)) (.sh (.int (at_ : Int))) e8 e9 e10 hc hk wok hi hs wl
        have hcG : (GW B W)[c]? = some (.lst (se.map eSd)) := apl _ hc
        have LW : ∀ s, bLen [.lst (w.map MV.str)] s = .ok (.int (w.length : Nat)) s := fun s => by rw [bLen_lst, List.length_map]
        have BO : b_way_between_2 ⟨[.sh (.ref c), .sh (.str f), .sh (.str l), .sh (.ref B.length), .sh (.ref (B.length + 1)), .sh (.int (at_ : Int)), e6, e7, e8, e9, e10], GW B W⟩
            = .ok .nx ⟨[.sh (.ref c), .sh (.str f), .sh (.str l), .sh (.ref B.length), .sh (.ref (B.length + 1)), .sh (.int ((at_ : Int) + 1)), .sh (.lst (w.map MV.str)), .sh (.str (lastS w)), e8', e9', e10'], GW B (growW (lastS w) w se W)⟩ := by
          generalize w.map MV.str = wz at *
          generalize lastS w = lw at *
          generalize se.map eSd = sz at *
          generalize GW B W = G1 at *
          generalize GW B (growW lw w se W) = G2 at *
          clear h0 CE hi hk1 hb hk hr hf hl wm wR wne wl wok nel hw q hc
          unfold b_way_between_2
          walk_at "ms"
        rw [BO]
        simp only [R.bind_ok]
        have := way_loop hc hk hf hl hs hr k (growW (lastS w) w se W) (at_ + 1) (.sh (.lst (w.map MV.str))) (.sh (.str (lastS w))) e8' e9' e10' (hi.step hw) (by omega) (by
          rw [growW_last]
          unfold bfs at hb
          rw [wR] at hb
          exact hb)
        rw [show ((at_ + 1 : Nat) : Int) = (at_ : Int) + 1 by omega] at this
        exact this
    · rw [if_neg (by simpa using q)]
      exact ⟨W, _, _, _, _, _, _, rfl⟩
theorem way_no {c : Nat} {G : MHeap} {se : List SdT} {f l : Str} (hc : G[c]? = some (.lst (se.map eSd))) (hk : ∀ p ∈ se, NameOk p.1 ∧ NameOk p.2.1) (hf : NameOk f) (hl : NameOk l) (hs : se.length < 500) (hr : l ∉ reach (edg se) f) :
    ∃ J, mf_way_between [.ref c, .str f, .str l] G = .ok (.lst []) (G ++ J) := by
  rw [self_way_between _ _ rfl]
  have i0 : WInv se f [[f]] 0 := ⟨BInv.init _ _, fun w hw => by rw [List.mem_singleton] at hw; subst hw; simp, fun w hw => by rw [List.mem_singleton] at hw; subst hw; simp⟩
  obtain ⟨W', e5', e6', e7', e8', e9', e10', h⟩ := way_loop hc hk hf hl hs hr (se.length + 1) [[f]] 0 .un .un .un .un .un i0 (by omega) (by unfold reach edg; rw [List.length_map]; rfl)
  refine ⟨[.lst (W'.map eW), .dic (kvW W')], ?_⟩
  have e0 : (G ++ [MO.lst [.lst [.str f]]]).length = G.length + 1 := by simp
  have e1 : GW G [[f]] = G ++ [.lst [.lst [.str f]]] ++ [.dic [(f, .bl true)]] := by unfold GW; rw [List.append_assoc]; rfl
  unfold GW at h
  have h : mWhile c_way_between_1 b_way_between_2 ⟨[.sh (.ref c), .sh (.str f), .sh (.str l), .sh (.ref G.length), .sh (.ref (G.length + 1)), .sh (.int 0), .un, .un, .un, .un, .un], GW G [[f]]⟩ = _ := h
  rw [e1] at h
  clear i0 hk hr hf hl hs hc e1
  unfold runB ms_way_between N_way_between
  walk_at "ms"

/-! ## a chain of nothing -/
theorem told0 (G : MHeap) : mf_parts_told [.lst []] G = .ok (.lst []) G := by
  rw [self_parts_told _ _ rfl]
  have C : lcEnd (gSet 1) q_parts_told_1 e_parts_told_1 [1] [] ⟨[.sh (.lst []), .un], G⟩ = .ok (.lst []) ⟨[.sh (.lst []), .un], G⟩ := lcEnd_typed (xs := ([] : List Nat)) (fun _ => .non) (fun _ => .non) (by decide) rfl fun x hx => (by cases hx)
  unfold runB ms_parts_told N_parts_told
  walk_at "ms"
theorem init0 {n : Nat} {G : MHeap} (hn : G[n]? = some (.ins "Chain" [] [])) : mf_Chain___init__ [.ref n, .lst []] G = .ok .non (G.set n (.ins "Chain" ks_Chain [.lst [], .lst []])) := by
  rw [self_Chain___init__ _ _ rfl]
  have T := told0
  have hl : n < G.length := (List.getElem?_eq_some_iff.mp hn).1
  obtain ⟨G1, hG1⟩ : ∃ G1, G.set n (.ins "Chain" ["parts"] [.lst []]) = G1 := ⟨_, rfl⟩
  have C : lcEnd (gSet 2) q_Chain___init___1 e_Chain___init___1 [2] [] ⟨[.sh (.ref n), .sh (.lst []), .un], G1⟩ = .ok (.lst []) ⟨[.sh (.ref n), .sh (.lst []), .un], G1⟩ := lcEnd_typed (xs := ([] : List Nat)) (fun _ => .non) (fun _ => .non) (by decide) rfl fun x hx => (by cases hx)
  have h1 : G1[n]? = some (.ins "Chain" ["parts"] [.lst []]) := by rw [← hG1]; exact List.getElem?_set_self hl
  have h2 : ∀ o, G1.set n o = G.set n o := fun o => by rw [← hG1, List.set_set]
  have ef : ∀ s, fldR ["Chain"] "parts" (some (.ins "Chain" ["parts"] [.lst []])) s = .ok (.lst []) s := fun s => by simp [fldR, fldAt]
  unfold runB ms_Chain___init__ N_Chain___init__ ks_Chain
  walk_at "ms"
theorem mk0 (s : MS) : oMkF "Chain" mf_Chain___init__ [.lst []] s = .ok (.obj "Chain" ks_Chain [.lst [], .lst []]) s := oMkF_ok (by
  have hn : (s.G ++ [MO.ins "Chain" [] []])[s.G.length]? = some (.ins "Chain" [] []) := a00 _ _
  rw [init0 hn, s00]) rfl
theorem words0 (G : MHeap) : mf_Chain_words [.obj "Chain" ks_Chain [.lst [], .lst []]] G = .ok (.lst []) G := by
  rw [self_Chain_words _ _ rfl]
  have C : lcEnd (gSet 1) q_Chain_words_1 e_Chain_words_1 [1] [] ⟨[.sh (.obj "Chain" ks_Chain [.lst [], .lst []]), .un], G⟩ = .ok (.lst []) ⟨[.sh (.obj "Chain" ks_Chain [.lst [], .lst []]), .un], G⟩ := lcEnd_typed (xs := ([] : List Nat)) (fun _ => .non) (fun _ => .non) (by decide) rfl fun x hx => (by cases hx)
  unfold runB ms_Chain_words N_Chain_words
  walk_at "ms"
section
variable {G : MHeap} {n a b c d : Nat} {tr bu : List Str} {se : List SdT} {ou : List MV}
theorem send0_ev (P : PatAt G n a b c d tr bu se ou) {x y : Str} (hk : ∀ p ∈ se, NameOk p.1 ∧ NameOk p.2.1) (hx : NameOk x) (hy : NameOk y) (h1 : x ∈ tr ∨ x ∈ bu) (h2 : y ∈ bu) (hs : se.length < 500) (hr : x ∉ reach (edg se) y) :
    ∃ J, mf_Patch_send [.ref n, .str x, .str y, .lst []] G = .ok .non ((G ++ J).set c (.lst ((se ++ [(x, y, [])]).map eSd))) := by
  obtain ⟨J, WB⟩ := way_no P.hs hk hy hx hs hr
  refine ⟨J, ?_⟩
  rw [self_Patch_send _ _ rfl]
  have I1 : ∀ e, oNotIn (.str x) (.ref a) ⟨e, G⟩ = .ok (.bl (!decide (x ∈ tr))) ⟨e, G⟩ := fun e => oNotIn_strs (seqG_ref P.ht)
  have I2 : ∀ e, oNotIn (.str x) (.ref b) ⟨e, G⟩ = .ok (.bl (!decide (x ∈ bu))) ⟨e, G⟩ := fun e => oNotIn_strs (seqG_ref P.hb)
  have I3 : ∀ e, oNotIn (.str y) (.ref b) ⟨e, G⟩ = .ok (.bl false) ⟨e, G⟩ := fun e => by rw [oNotIn_strs (seqG_ref P.hb)]; simp [h2]
  have MK := mk0
  have WO := words0
  have NE : ∀ s, oNe (.lst []) (.lst []) s = .ok (.bl false) s := fun s => by
    have := oNe_nil (ns := []) (s := s); simpa using this
  have hp := P.hp
  have P2 := P.app J
  have hp2 := P2.hp
  have hs2 := P2.hs
  have ls : (se.map eSd).length < 16777216 := by rw [List.length_map]; omega
  rw [List.map_append, List.map_cons, List.map_nil]
  have e1 : eSd (x, y, []) = .tup [.str x, .str y, .lst []] := rfl
  rw [e1]
  generalize se.map eSd = sl at *
  by_cases q : x ∈ tr
  · rw [decide_eq_true q] at I1
    clear P P2 hk hx hy h1 h2 hs hr e1 I2 q
    unfold runB ms_Patch_send N_Patch_send
    walk_at "ms"
  · rw [decide_eq_false q] at I1
    rw [decide_eq_true (h1.resolve_left q)] at I2
    clear P P2 hk hx hy h1 h2 hs hr e1 q
    unfold runB ms_Patch_send N_Patch_send
    walk_at "ms"
theorem ready_ev (P : PatAt G n a b c d tr bu se ou) {x : Str} {m : Nat} {T : List Str} (hm : G[m]? = some (.lst (T.map MV.str))) (hk : ∀ p ∈ se, NameOk p.1 ∧ NameOk p.2.1) (hx : NameOk x) :
    mf_Patch_is_ready [.ref n, .str x, .ref m] G = .ok (.bl (rdy (edg se) bu T x)) G := by
  rw [self_Patch_is_ready _ _ rfl]
  have Z := forML_find (g := gTupM 3 (gsConsM (gSet 3) (gsConsM (gSet 4) (gsConsM (gSet 5) gsNilM)))) (b := b_Patch_is_ready_1) (n := c) (all := se.map eSd) eSd (fun p => decide (p.2.1 = x) && (decide (p.1 ∈ bu) && decide (p.1 ∉ T))) (fun _ => .bl false)
    (fun s => ∃ e3 e4 e5, s = ⟨[.sh (.ref n), .sh (.str x), .sh (.ref m), e3, e4, e5], G⟩) (by rintro s ⟨_, _, _, rfl⟩; exact P.hs) se ⟨[.sh (.ref n), .sh (.str x), .sh (.ref m), .un, .un, .un], G⟩ ⟨.un, .un, .un, rfl⟩ (by
      rintro p hp s ⟨e3, e4, e5, rfl⟩ hq
      refine ⟨_, _, rfl, ?_, .sh (.str p.1), .sh (.str p.2.1), .sh (.lst (p.2.2.map MV.str)), rfl⟩
      have I1 : ∀ e, oIn (.str p.1) (.ref b) ⟨e, G⟩ = .ok (.bl (decide (p.1 ∈ bu))) ⟨e, G⟩ := fun e => oIn_strs (seqG_ref P.hb)
      have I2 : ∀ e, oNotIn (.str p.1) (.ref m) ⟨e, G⟩ = .ok (.bl (!decide (p.1 ∈ T))) ⟨e, G⟩ := fun e => oNotIn_strs (seqG_ref hm)
      have EQ : ∀ s, oEq (.str p.2.1) (.str x) s = .ok (.bl (decide (p.2.1 = x))) s := fun s => by
        rw [oEq_str (hk p hp).2.ok hx.ok]
        by_cases q : p.2.1 = x
        · rw [q]; simp
        · rw [decide_eq_false q, decide_eq_false (fun h => q (sg_inj h))]
      have hpp := P.hp
      rw [Bool.and_eq_false_iff] at hq
      by_cases q1 : p.2.1 = x
      · rw [decide_eq_true q1] at EQ
        have hq := hq.resolve_left (by simp [q1])
        by_cases q2 : p.1 ∈ bu
        · rw [decide_eq_true q2] at I1
          have q3 : p.1 ∈ T := by simpa [q2] using hq
          rw [decide_eq_true q3] at I2
          clear P hk hx hp hm hq q1 q2 q3
          unfold b_Patch_is_ready_1
          walk_at "ms"
        · rw [decide_eq_false q2] at I1
          clear P hk hx hp hm hq q1 q2 I2
          unfold b_Patch_is_ready_1
          walk_at "ms"
      · rw [decide_eq_false q1] at EQ
        clear P hk hx hp hm hq q1 I1 I2
        unfold b_Patch_is_ready_1
        walk_at "ms") (by
      rintro p hp s ⟨e3, e4, e5, rfl⟩ hq
      refine ⟨_, _, rfl, ?_, .sh (.str p.1), .sh (.str p.2.1), .sh (.lst (p.2.2.map MV.str)), rfl⟩
      simp only [Bool.and_eq_true, decide_eq_true_eq] at hq
      obtain ⟨q1, q2, q3⟩ := hq
      have I1 : ∀ e, oIn (.str p.1) (.ref b) ⟨e, G⟩ = .ok (.bl true) ⟨e, G⟩ := fun e => by rw [oIn_strs (seqG_ref P.hb)]; simp [q2]
      have I2 : ∀ e, oNotIn (.str p.1) (.ref m) ⟨e, G⟩ = .ok (.bl true) ⟨e, G⟩ := fun e => by rw [oNotIn_strs (seqG_ref hm)]; simp [q3]
      have EQ : ∀ s, oEq (.str p.2.1) (.str x) s = .ok (.bl true) s := fun s => by rw [oEq_str (hk p hp).2.ok hx.ok]; simp [q1]
      have hpp := P.hp
      clear P hk hx hp hm q1 q2 q3
      unfold b_Patch_is_ready_1
      walk_at "ms")
  have hpp := P.hp
  have hc := P.hs
  rcases Z with ⟨h1, s', h2, e3, e4, e5, rfl⟩ | ⟨p, h1, s', h2, e3, e4, e5, rfl⟩
  · have e : rdy (edg se) bu T x = true := by
      unfold rdy edg
      rw [List.all_map, List.all_eq_true]
      intro p hp
      have := List.find?_eq_none.mp h1 p hp
      show (!(decide (p.2.1 = x) && (decide (p.1 ∈ bu) && decide (p.1 ∉ T)))) = true
      rw [Bool.eq_false_iff.mpr this]; rfl
    rw [e]
    generalize se.map eSd = sl at *
    clear P hk hx hm h1 e
    unfold runB ms_Patch_is_ready N_Patch_is_ready
    walk_at "ms"
  · have e : rdy (edg se) bu T x = false := by
      unfold rdy edg
      rw [List.all_map, List.all_eq_false]
      exact ⟨p, List.mem_of_find?_eq_some h1, by have := List.find?_some h1; simpa using this⟩
    rw [e]
    generalize se.map eSd = sl at *
    clear P hk hx hm h1 e
    unfold runB ms_Patch_is_ready N_Patch_is_ready
    walk_at "ms"
end
theorem order_loop {B : MHeap} {n a b c d : Nat} {tr bu : List Str} {se : List SdT} {ou : List MV} (P : PatAt B n a b c d tr bu se ou) (hk : ∀ p ∈ se, NameOk p.1 ∧ NameOk p.2.1) (hb : ∀ z ∈ bu, NameOk z) (hn : bu.Nodup) (hl : bu.length < 500) (ha : Acyc (edg se)) :
    ∀ (k : Nat) (T : List Str) (e2 e3 : SV), noOw [.un, .un, e2, .un] [2] = true → OrdOk (edg se) bu T → bu.length ≤ T.length + k →
    ∃ T' e2' e3', T'.length = bu.length ∧ OrdOk (edg se) bu T' ∧ mWhile c_Patch_order_1 b_Patch_order_1 ⟨[.sh (.ref n), .sh (.ref B.length), e2, e3], B ++ [.lst (T.map MV.str)]⟩ = .ok .nx ⟨[.sh (.ref n), .sh (.ref B.length), e2', e3'], B ++ [.lst (T'.map MV.str)]⟩
  | k, T, e2, e3, h2, ho, hT => by
    have PG := P.app [.lst (T.map MV.str)]
    have h0 := a00 B (.lst (T.map MV.str))
    have tl : T.length ≤ bu.length := nd_len ho.1 ho.2.1
    have CE : c_Patch_order_1 ⟨[.sh (.ref n), .sh (.ref B.length), e2, e3], B ++ [.lst (T.map MV.str)]⟩ = .ok (decide (((T.length : Nat) : Int) < (bu.length : Nat))) ⟨[.sh (.ref n), .sh (.ref B.length), e2, e3], B ++ [.lst (T.map MV.str)]⟩ := by
      have l1 : (T.map MV.str).length = T.length := List.length_map ..
      have l2 : (bu.map MV.str).length = bu.length := List.length_map ..
      have hp := PG.hp
      have hbb := PG.hb
      generalize T.map MV.str = tm at *
      generalize bu.map MV.str = bm at *
      clear P PG hk hb hn hl ha h2 ho hT tl
      unfold c_Patch_order_1
      walk_at "ms"
    rw [mWhile_if, CE]
    simp only [R.bind_ok]
    by_cases q : T.length < bu.length
    · rw [if_pos (by simpa using q)]
      match k with
      | 0 => omega
      | k + 1 =>
        obtain ⟨x, L, hx, hx1, hx2⟩ := rdL_ne ha hn q
        have LC : lcEndFL (gSet 2) q_Patch_order_1 e_Patch_order_1 [2] b (bu.map MV.str) ⟨[.sh (.ref n), .sh (.ref B.length), e2, e3], B ++ [.lst (T.map MV.str)]⟩ = .ok (.lst ((rdL (edg se) bu T).map MV.str)) ⟨[.sh (.ref n), .sh (.ref B.length), e2, e3], B ++ [.lst (T.map MV.str)]⟩ := by
          unfold rdL
          refine lcEndFL_test MV.str MV.str (fun x => decide (x ∉ T) && rdy (edg se) bu T x) PG.hb (by omega) (by simpa [noOw] using h2) fun z hz => ⟨⟨[.sh (.ref n), .sh (.ref B.length), .sh (.str z), e3], B ++ [.lst (T.map MV.str)]⟩, ?_, rfl⟩
          have I2 : ∀ e, oNotIn (.str z) (.ref B.length) ⟨e, B ++ [.lst (T.map MV.str)]⟩ = .ok (.bl (!decide (z ∈ T))) ⟨e, B ++ [.lst (T.map MV.str)]⟩ := fun e => oNotIn_strs (seqG_ref h0)
          have RD := ready_ev PG h0 hk (hb z hz)
          have hp := PG.hp
          by_cases q2 : z ∈ T
          · rw [decide_eq_true q2] at I2
            have e : (decide (z ∉ T) && rdy (edg se) bu T z) = false := by simp [q2]
            rw [e]
            clear P PG hk hb hn hl ha h2 ho hT tl CE hx hx1 hx2 q q2 RD e h0 hz
            unfold lcOne q_Patch_order_1 e_Patch_order_1
            walk_at "ms"
          · rw [decide_eq_false q2] at I2
            have e : (decide (z ∉ T) && rdy (edg se) bu T z) = rdy (edg se) bu T z := by simp [q2]
            rw [e]
            generalize rdy (edg se) bu T z = rr at *
            clear P PG hk hb hn hl ha h2 ho hT tl CE hx hx1 hx2 q q2 e h0 hz
            unfold lcOne q_Patch_order_1 e_Patch_order_1
            cases rr <;> walk_at "ms"
        rw [hx, List.map_cons] at LC
        have BO : b_Patch_order_1 ⟨[.sh (.ref n), .sh (.ref B.length), e2, e3], B ++ [.lst (T.map MV.str)]⟩ = .ok .nx ⟨[.sh (.ref n), .sh (.ref B.length), e2, .sh (.lst (.str x :: L.map MV.str))], B ++ [.lst ((T ++ [x]).map MV.str)]⟩ := by
          have hp := PG.hp
          have hbb := PG.hb
          have I0 : ∀ s, oIdx (.lst (.str x :: L.map MV.str)) (.int 0) s = .ok (.str x) s := fun s => by rw [oIdx_lst (by decide)]; rfl
          have lt : (T.map MV.str).length < 16777216 := by rw [List.length_map]; omega
          have g0 := s00 B (.lst (T.map MV.str)) (.lst (T.map MV.str ++ [.str x]))
          rw [List.map_append, List.map_cons, List.map_nil]
          generalize T.map MV.str = tm at *
          generalize bu.map MV.str = bm at *
          generalize L.map MV.str = lm at *
          clear P PG hk hb hn hl ha h2 ho hT tl CE hx hx1 hx2 q
          unfold b_Patch_order_1
          walk_at "ms"
        rw [BO]
        simp only [R.bind_ok]
        exact order_loop P hk hb hn hl ha k (T ++ [x]) e2 _ h2 (ord_add ho hx hx1 hx2) (by rw [List.length_append, List.length_singleton]; omega)
    · rw [if_neg (by simpa using q)]
      exact ⟨T, e2, e3, by omega, ho, rfl⟩
theorem order_ev {B : MHeap} {n a b c d : Nat} {tr bu : List Str} {se : List SdT} {ou : List MV} (P : PatAt B n a b c d tr bu se ou) (hk : ∀ p ∈ se, NameOk p.1 ∧ NameOk p.2.1) (hb : ∀ z ∈ bu, NameOk z) (hn : bu.Nodup) (hl : bu.length < 500) (ha : Acyc (edg se)) :
    ∃ T, T.length = bu.length ∧ OrdOk (edg se) bu T ∧ mf_Patch_order [.ref n] B = .ok (.ref B.length) (B ++ [.lst (T.map MV.str)]) := by
  obtain ⟨T, e2, e3, h1, h2, h3⟩ := order_loop P hk hb hn hl ha bu.length [] .un .un rfl (ord_nil _ _) (by simp)
  refine ⟨T, h1, h2, ?_⟩
  rw [self_Patch_order _ _ rfl]
  rw [List.map_nil] at h3
  clear P hk hb hn hl ha h1 h2
  unfold runB ms_Patch_order N_Patch_order
  walk_at "ms"

def eP (e : Str × Str) : MV := .tup [.str e.1, .str e.2]
theorem leads_for {m : Nat} {B : MHeap} {E : Edges} {f : Str} (e1 e2 e5 e6 : SV) {R : List Str} {at_ : Nat} {x : Str} (hm : B[m]? = some (.lst (E.map eP))) (hk : ∀ e ∈ E, NameOk e.1 ∧ NameOk e.2) (hx : R[at_]? = some x) (hn : NameOk x) (hi : BInv E f R at_) (hl : E.length < 500) :
    ∃ e5' e6', forML (gTupM 2 (gsConsM (gSet 5) (gsConsM (gSet 6) gsNilM))) b__law_leads_1 m (E.map eP) (E.map eP) ⟨[.sh (.ref m), e1, e2, .sh (.ref B.length), .sh (.int (at_ : Int)), e5, e6], B ++ [.lst (R.map MV.str)]⟩
      = .ok .nx ⟨[.sh (.ref m), e1, e2, .sh (.ref B.length), .sh (.int (at_ : Int)), e5', e6'], B ++ [.lst ((growR x E R).map MV.str)]⟩ := by
  have Z := forML_fold (g := gTupM 2 (gsConsM (gSet 5) (gsConsM (gSet 6) gsNilM))) (b := b__law_leads_1) (n := m) (all := E.map eP) eP (fun V e => if e.1 = x ∧ e.2 ∉ V then V ++ [e.2] else V)
    (fun V s => ∃ e5 e6, V.Nodup ∧ V[at_]? = some x ∧ (∀ z ∈ V, z = f ∨ ∃ e ∈ E, e.2 = z) ∧ s = ⟨[.sh (.ref m), e1, e2, .sh (.ref B.length), .sh (.int (at_ : Int)), e5, e6], B ++ [.lst (V.map MV.str)]⟩)
    (by rintro V s ⟨_, _, _, _, _, rfl⟩; exact apl _ hm) E R _ ⟨e5, e6, hi.nd, hx, hi.sub, rfl⟩ (by
      rintro p hp V s ⟨e5, e6, nd, hv, sub, rfl⟩
      have vl : V.length ≤ E.length + 1 := by
        have := nd_len (ys := f :: E.map (·.2)) nd fun x hx => by
          rcases sub x hx with rfl | ⟨e, he, rfl⟩
          · exact List.mem_cons_self
          · exact List.mem_cons_of_mem _ (List.mem_map.mpr ⟨e, he, rfl⟩)
        simpa using this
      have h0 := a00 B (.lst (V.map MV.str))
      have IX : ∀ e, oIdx (.ref B.length) (.int (at_ : Int)) ⟨e, B ++ [.lst (V.map MV.str)]⟩ = .ok (.str x) ⟨e, B ++ [.lst (V.map MV.str)]⟩ := fun e => by
        unfold oIdx
        simp only [h0, Int.toNat_natCast, List.getElem?_map, hv, Option.map_some]
        rw [if_pos (by omega)]
      have I2 : ∀ e, oNotIn (.str p.2) (.ref B.length) ⟨e, B ++ [.lst (V.map MV.str)]⟩ = .ok (.bl (!decide (p.2 ∈ V))) ⟨e, B ++ [.lst (V.map MV.str)]⟩ := fun e => oNotIn_strs (seqG_ref h0)
      have lv : (V.map MV.str).length < 16777216 := by rw [List.length_map]; omega
      by_cases q1 : p.1 = x
      · have EQ : ∀ s, oEq (.str p.1) (.str x) s = .ok (.bl true) s := fun s => by rw [oEq_str (hk p hp).1.ok hn.ok]; simp [q1]
        by_cases q2 : p.2 ∈ V
        · rw [if_neg (fun h => h.2 q2)]
          rw [decide_eq_true q2] at I2
          refine ⟨_, _, rfl, ?_, .sh (.str p.1), .sh (.str p.2), nd, hv, sub, rfl⟩
          generalize V.map MV.str = vm at *
          clear hm hk hx hn hi hl nd sub vl q1 q2 hp hv
          unfold b__law_leads_1
          walk_at "ms"
        · rw [if_pos ⟨q1, q2⟩]
          rw [decide_eq_false q2] at I2
          refine ⟨_, _, rfl, ?_, .sh (.str p.1), .sh (.str p.2), ?_, apl _ hv, ?_, rfl⟩
          · have g0 := s00 B (.lst (V.map MV.str)) (.lst (V.map MV.str ++ [.str p.2]))
            rw [List.map_append, List.map_cons, List.map_nil]
            generalize V.map MV.str = vm at *
            clear hm hk hx hn hi hl nd sub vl q1 q2 hp hv
            unfold b__law_leads_1
            walk_at "ms"
          · rw [List.nodup_append]
            exact ⟨nd, by simp, fun a ha b hb => by rw [List.mem_singleton] at hb; subst hb; exact fun e => q2 (e ▸ ha)⟩
          · intro z hz
            rcases List.mem_append.mp hz with hz | hz
            · exact sub z hz
            · rw [List.mem_singleton] at hz; subst hz; exact .inr ⟨p, hp, rfl⟩
      · have EQ : ∀ s, oEq (.str p.1) (.str x) s = .ok (.bl false) s := fun s => by rw [oEq_str (hk p hp).1.ok hn.ok, decide_eq_false (fun h => q1 (sg_inj h))]
        rw [if_neg (fun h => q1 h.1)]
        refine ⟨_, _, rfl, ?_, .sh (.str p.1), .sh (.str p.2), nd, hv, sub, rfl⟩
        generalize V.map MV.str = vm at *
        clear hm hk hx hn hi hl nd sub vl q1 hp hv I2
        unfold b__law_leads_1
        walk_at "ms")
  obtain ⟨s', hf, e5', e6', _, _, _, hk2⟩ := Z
  rw [hk2] at hf
  exact ⟨e5', e6', hf⟩
theorem leads_loop {m : Nat} {B : MHeap} {E : Edges} {f : Str} (e1 e2 : SV) (hm : B[m]? = some (.lst (E.map eP))) (hk : ∀ e ∈ E, NameOk e.1 ∧ NameOk e.2) (hf : NameOk f) (hs : E.length < 500) {RE : List Str} : ∀ (k : Nat) (R : List Str) (at_ : Nat) (e5 e6 : SV),
    BInv E f R at_ → E.length + 1 ≤ at_ + k → bfs E k R at_ = RE →
    ∃ e4' e5' e6', mWhile c__law_leads_1 b__law_leads_2 ⟨[.sh (.ref m), e1, e2, .sh (.ref B.length), .sh (.int (at_ : Int)), e5, e6], B ++ [.lst (R.map MV.str)]⟩
      = .ok .nx ⟨[.sh (.ref m), e1, e2, .sh (.ref B.length), e4', e5', e6'], B ++ [.lst (RE.map MV.str)]⟩
  | k, R, at_, e5, e6, hi, hk1, hb => by
    have h0 := a00 B (.lst (R.map MV.str))
    have CE : c__law_leads_1 ⟨[.sh (.ref m), e1, e2, .sh (.ref B.length), .sh (.int (at_ : Int)), e5, e6], B ++ [.lst (R.map MV.str)]⟩ = .ok (decide ((at_ : Int) < (R.length : Nat))) ⟨[.sh (.ref m), e1, e2, .sh (.ref B.length), .sh (.int (at_ : Int)), e5, e6], B ++ [.lst (R.map MV.str)]⟩ := by
      have lw : (R.map MV.str).length = R.length := List.length_map ..
      generalize R.map MV.str = we at *
      clear hi hk1 hb hm hk hf
      unfold c__law_leads_1
      walk_at "ms"
    rw [mWhile_if, CE]
    simp only [M.R.bind_ok]
    by_cases q : at_ < R.length
    · rw [if_pos (by simpa using q)]
      match k with
      | 0 => have := hi.len; omega
      | k + 1 =>
        obtain ⟨x, hx⟩ : ∃ x, R[at_]? = some x := ⟨_, List.getElem?_eq_getElem q⟩
        have wok : NameOk x := by
          rcases hi.sub x (List.mem_of_getElem? hx) with e | ⟨e, he, e2⟩
          · rw [e]; exact hf
          · rw [← e2]; exact (hk e he).2
        obtain ⟨e5', e6', FO⟩ := leads_for e1 e2 e5 e6 hm hk hx wok hi hs
        have hmG : (B ++ [MO.lst (R.map MV.str)])[m]? = some (.lst (E.map eP)) := apl _ hm
        have BO : b__law_leads_2 ⟨[.sh (.ref m), e1, e2, .sh (.ref B.length), .sh (.int (at_ : Int)), e5, e6], B ++ [.lst (R.map MV.str)]⟩
            = .ok .nx ⟨[.sh (.ref m), e1, e2, .sh (.ref B.length), .sh (.int ((at_ : Int) + 1)), e5', e6'], B ++ [.lst ((growR x E R).map MV.str)]⟩ := by
          generalize E.map eP = sz at *
          generalize (growR x E R).map MV.str = g2 at *
          generalize R.map MV.str = g1 at *
          clear h0 CE hi hk1 hb hk hf wok hx q hm
          unfold b__law_leads_2
          walk_at "ms"
        rw [BO]
        simp only [M.R.bind_ok]
        have := leads_loop (RE := RE) e1 e2 hm hk hf hs k (growR x E R) (at_ + 1) e5' e6' (hi.step hx) (by omega) (by
          unfold bfs at hb
          rw [hx] at hb
          exact hb)
        rw [show ((at_ + 1 : Nat) : Int) = (at_ : Int) + 1 by omega] at this
        exact this
    · rw [if_neg (by simpa using q)]
      have e : RE = R := by
        rw [← hb]
        match k with
        | 0 => rfl
        | k + 1 => unfold bfs; rw [List.getElem?_eq_none (by omega)]
      rw [e]
      exact ⟨_, _, _, rfl⟩
theorem leads_ev {m : Nat} {G : MHeap} {E : Edges} {f l : Str} (hm : G[m]? = some (.lst (E.map eP))) (hk : ∀ e ∈ E, NameOk e.1 ∧ NameOk e.2) (hf : NameOk f) (hs : E.length < 500) :
    ∃ J, mf__law_leads [.ref m, .str f, .str l] G = .ok (.bl (decide (l ∈ reach E f))) (G ++ J) := by
  rw [self__law_leads _ _ rfl]
  obtain ⟨e4', e5', e6', h⟩ := leads_loop (.sh (.str f)) (.sh (.str l)) hm hk hf hs (E.length + 1) [f] 0 .un .un (BInv.init _ _) (by omega) (rfl : _ = reach E f)
  refine ⟨[.lst ((reach E f).map MV.str)], ?_⟩
  have I : ∀ e, oIn (.str l) (.ref G.length) ⟨e, G ++ [.lst ((reach E f).map MV.str)]⟩ = .ok (.bl (decide (l ∈ reach E f))) ⟨e, G ++ [.lst ((reach E f).map MV.str)]⟩ := fun e => oIn_strs (seqG_ref (a00 _ _))
  have h : mWhile c__law_leads_1 b__law_leads_2 ⟨[.sh (.ref m), .sh (.str f), .sh (.str l), .sh (.ref G.length), .sh (.int 0), .un, .un], G ++ [.lst [.str f]]⟩ = _ := h
  clear hk hf hs hm
  unfold runB ms__law_leads N__law_leads
  walk_at "ms"
/-! ## the law's own look at the order -/
theorem toDs_strs : ∀ zs : List Str, toDs (zs.map MV.str) = some (zs.map PyData.str)
  | [] => rfl
  | z :: zs => by rw [List.map_cons, toDs, toDs_strs zs]; rfl
theorem oEq_strs0 {zs : List Str} (h : ∀ z ∈ zs, NameOk z) {s : MS} : oEq (.lst (zs.map MV.str)) (.lst []) s = .ok (.bl (decide (zs = []))) s := by
  have sh : Shp 64 (.lst (zs.map MV.str)) := .lst fun x hx => by
    obtain ⟨z, hz, rfl⟩ := List.mem_map.mp hx
    exact .str (strOk_of (h z hz).ok)
  obtain ⟨d, h1, h2, h3⟩ := sh.shaped
  rw [toD, toDs_strs] at h1
  cases h1
  have h4 : SeqAt.shaped (.list []) = true := rfl
  unfold oEq
  simp only [toD, toDs_strs, toDs, Option.map_some, h2, h4, and_self, if_true]
  cases zs with
  | nil => rfl
  | cons z zs => simp [PyData.eqv, PyData.eqvAll]
theorem cut_take {α : Type} (xs : List α) (k : Nat) : cutG xs none (some (k : Int)) = xs.take k := by
  have := cutG_to xs (k := (k : Int)) (by omega)
  simpa using this
theorem filter_fold (p : Str → Bool) : ∀ (xs acc : List Str), xs.foldl (fun acc x => if p x = true then acc ++ [x] else acc) acc = acc ++ xs.filter p
  | [], acc => by simp
  | x :: xs, acc => by
    rw [List.foldl_cons, filter_fold p xs, List.filter_cons]
    by_cases q : p x = true
    · simp [q]
    · simp [q]
def hrd (E : Edges) (bu : List Str) (x : Str) : Edges := E.filter fun e => decide (e.2 = x) && decide (e.1 ∈ bu)
theorem hrd_rdy (E : Edges) (bu T : List Str) (x : Str) : decide (((hrd E bu x).map (·.1)).filter (fun s => decide (s ∉ T)) = []) = rdy E bu T x := by
  cases q : rdy E bu T x with
  | false =>
    obtain ⟨e, he, h1, h2, h3⟩ := rdy_no q
    rw [decide_eq_false]
    intro h
    have : e.1 ∈ ((hrd E bu x).map (·.1)).filter (fun s => decide (s ∉ T)) := List.mem_filter.mpr ⟨List.mem_map.mpr ⟨e, List.mem_filter.mpr ⟨he, by simp [h1, h2]⟩, rfl⟩, by simp [h3]⟩
    rw [h] at this; cases this
  | true =>
    rw [decide_eq_true]
    rw [List.filter_eq_nil_iff]
    intro s hs
    obtain ⟨e, he, rfl⟩ := List.mem_map.mp hs
    obtain ⟨he, h1⟩ := List.mem_filter.mp he
    unfold rdy at q
    have := List.all_eq_true.mp q e he
    simp only [Bool.and_eq_true, decide_eq_true_eq] at h1
    simpa [h1.1, h1.2] using this
theorem heard_ev {t m k : Nat} {G : MHeap} {E : Edges} {bu T : List Str} (acc : List Str) (e8 : SV) {x : Str} (hm : G[m]? = some (.lst (E.map eP))) (ht : G[t]? = some (.lst (T.map MV.str))) (hk : ∀ e ∈ E, NameOk e.1 ∧ NameOk e.2) (hx : NameOk x) (hs : E.length < 500) (ha : acc.length < 1000) :
    b__law_is_order_1 ⟨[.sh (.lst (bu.map MV.str)), .sh (.ref m), .sh (.ref t), .sh (.int (k : Int)), .ow (acc.map MV.str), .sh (.str x), .un, .un, e8], G⟩
      = .ok .nx ⟨[.sh (.lst (bu.map MV.str)), .sh (.ref m), .sh (.ref t), .sh (.int (k : Int)), .ow ((if (decide (x ∉ T.take k) && rdy E bu (T.take k) x) = true then acc ++ [x] else acc).map MV.str), .sh (.str x), .un, .un, .sh (.lst (((hrd E bu x).map (·.1)).map MV.str))], G⟩ := by
  have L1 : lcEndFL (gTupM 2 (gsConsM (gSet 6) (gsConsM (gSet 7) gsNilM))) q__law_is_order_1 e__law_is_order_1 [6, 7] m (E.map eP) ⟨[.sh (.lst (bu.map MV.str)), .sh (.ref m), .sh (.ref t), .sh (.int (k : Int)), .ow (acc.map MV.str), .sh (.str x), .un, .un, e8], G⟩
      = .ok (.lst (((hrd E bu x).map (·.1)).map MV.str)) ⟨[.sh (.lst (bu.map MV.str)), .sh (.ref m), .sh (.ref t), .sh (.int (k : Int)), .ow (acc.map MV.str), .sh (.str x), .un, .un, e8], G⟩ := by
    rw [List.map_map]
    unfold hrd
    refine lcEndFL_test eP (fun e => .str e.1) (fun e => decide (e.2 = x) && decide (e.1 ∈ bu)) hm (by omega) rfl fun e he => ⟨⟨[.sh (.lst (bu.map MV.str)), .sh (.ref m), .sh (.ref t), .sh (.int (k : Int)), .ow (acc.map MV.str), .sh (.str x), .sh (.str e.1), .sh (.str e.2), e8], G⟩, ?_, rfl⟩
    have I : ∀ s, oIn (.str e.1) (.lst (bu.map MV.str)) s = .ok (.bl (decide (e.1 ∈ bu))) s := fun s => oIn_strs rfl
    have hke := hk e he
    have EQ : ∀ s, oEq (.str e.2) (.str x) s = .ok (.bl (decide (e.2 = x))) s := fun s => by
      rw [oEq_str hke.2.ok hx.ok]
      by_cases q : e.2 = x
      · rw [q]; simp
      · rw [decide_eq_false q, decide_eq_false (fun h => q (sg_inj h))]
    unfold eP
    generalize bu.map MV.str = bm at *
    generalize acc.map MV.str = am at *
    generalize decide (e.2 = x) = d1 at *
    generalize decide (e.1 ∈ bu) = d2 at *
    clear hm ht hk hx hs ha hke he
    unfold lcOne q__law_is_order_1 e__law_is_order_1
    cases d1 <;> cases d2 <;> (walk_at "ms"; rfl)
  have hn : ∀ z ∈ (hrd E bu x).map (·.1), NameOk z := fun z hz => by
    obtain ⟨e, he, rfl⟩ := List.mem_map.mp hz
    exact (hk e (List.mem_filter.mp he).1).1
  have hl : ((hrd E bu x).map (·.1)).length < 500 := by
    rw [List.length_map]
    exact Nat.lt_of_le_of_lt (List.length_filter_le _ _) hs
  have hr := hrd_rdy E bu (T.take k) x
  have OE : ∀ s, oEq (.lst ((((hrd E bu x).map (·.1)).filter (fun s => decide (s ∉ T.take k))).map MV.str)) (.lst []) s = .ok (.bl (rdy E bu (T.take k) x)) s := fun s => by
    rw [oEq_strs0 (fun z hz => hn z (List.mem_filter.mp hz).1), hr]
  generalize (hrd E bu x).map (·.1) = hd at *
  have SL : ∀ e, oSl (.ref t) none (some (k : Int)) ⟨e, G⟩ = .ok (.lst ((T.take k).map MV.str)) ⟨e, G⟩ := fun e => by rw [oSl_ref ht, cut_take, List.map_take]
  have L2 : lcEnd (gSet 6) q__law_is_order_2 e__law_is_order_2 [6] (hd.map MV.str) ⟨[.sh (.lst (bu.map MV.str)), .sh (.ref m), .sh (.ref t), .sh (.int (k : Int)), .ow (acc.map MV.str), .sh (.str x), .un, .un, .sh (.lst (hd.map MV.str))], G⟩
      = .ok (.lst ((hd.filter (fun s => decide (s ∉ T.take k))).map MV.str)) ⟨[.sh (.lst (bu.map MV.str)), .sh (.ref m), .sh (.ref t), .sh (.int (k : Int)), .ow (acc.map MV.str), .sh (.str x), .un, .un, .sh (.lst (hd.map MV.str))], G⟩ := by
    refine lcEnd_test MV.str MV.str (fun s => decide (s ∉ T.take k)) (by omega) rfl fun z hz => ⟨⟨[.sh (.lst (bu.map MV.str)), .sh (.ref m), .sh (.ref t), .sh (.int (k : Int)), .ow (acc.map MV.str), .sh (.str x), .sh (.str z), .un, .sh (.lst (hd.map MV.str))], G⟩, ?_, rfl⟩
    have I : ∀ s, oNotIn (.str z) (.lst ((T.take k).map MV.str)) s = .ok (.bl (!decide (z ∈ T.take k))) s := fun s => oNotIn_strs rfl
    generalize (T.take k).map MV.str = tm at *
    generalize bu.map MV.str = bm at *
    generalize acc.map MV.str = am at *
    generalize hd.map MV.str = hm2 at *
    rw [decide_not]
    generalize decide (z ∈ T.take k) = d1 at *
    clear hm ht hk hx hs ha L1 OE hr hl hz hn
    unfold lcOne q__law_is_order_2 e__law_is_order_2
    cases d1 <;> walk_at "ms"
  have I : ∀ s, oNotIn (.str x) (.lst ((T.take k).map MV.str)) s = .ok (.bl (!decide (x ∈ T.take k))) s := fun s => oNotIn_strs rfl
  have la : (acc.map MV.str).length < 16777216 := by rw [List.length_map]; omega
  rw [decide_not]
  generalize (hd.filter (fun s => decide (s ∉ T.take k))).map MV.str = fm at *
  generalize rdy E bu (T.take k) x = r at *
  generalize decide (x ∈ T.take k) = d1 at *
  generalize (T.take k).map MV.str = tm at *
  generalize hd.map MV.str = hm2 at *
  generalize bu.map MV.str = bm at *
  have ea : (acc ++ [x]).map MV.str = acc.map MV.str ++ [.str x] := by rw [List.map_append]; rfl
  clear ht hk hx hs ha hr hl hn
  cases d1 <;> cases r
  · simp only [Bool.not_false, Bool.and_false, Bool.false_eq_true, if_false]
    generalize acc.map MV.str = am at *
    unfold b__law_is_order_1
    walk_at "ms"
  · simp only [Bool.not_false, Bool.and_true, if_true, ea]
    generalize acc.map MV.str = am at *
    unfold b__law_is_order_1
    walk_at "ms"
  · simp only [Bool.not_true, Bool.false_and, Bool.false_eq_true, if_false]
    generalize acc.map MV.str = am at *
    unfold b__law_is_order_1
    walk_at "ms"
  · simp only [Bool.not_true, Bool.false_and, Bool.false_eq_true, if_false]
    generalize acc.map MV.str = am at *
    unfold b__law_is_order_1
    walk_at "ms"
theorem is_order_ev {t m : Nat} {G : MHeap} {E : Edges} {bu T : List Str} (hm : G[m]? = some (.lst (E.map eP))) (ht : G[t]? = some (.lst (T.map MV.str))) (hk : ∀ e ∈ E, NameOk e.1 ∧ NameOk e.2) (hb : ∀ z ∈ bu, NameOk z) (hs : E.length < 500) (hl : bu.length < 500) (hT : T.length = bu.length) (ho : OrdOk E bu T) :
    mf__law_is_order [.lst (bu.map MV.str), .ref m, .ref t] G = .ok (.bl true) G := by
  rw [self__law_is_order _ _ rfl]
  have Z := forM_range (g := gSet 3) (b := b__law_is_order_2) (lo := 0) (c := 1) (n := T.length)
    (s := ⟨[.sh (.lst (bu.map MV.str)), .sh (.ref m), .sh (.ref t), .un, .un, .un, .un, .un, .un], G⟩)
    (fun i s => ∃ e3 e4 e5 e8, s = ⟨[.sh (.lst (bu.map MV.str)), .sh (.ref m), .sh (.ref t), e3, e4, e5, .un, .un, e8], G⟩) ⟨.un, .un, .un, .un, rfl⟩ (by
      rintro k s hk1 ⟨e3, e4, e5, e8, rfl⟩
      rw [show ((0 : Int) + (k : Nat) * 1) = (k : Int) by omega]
      obtain ⟨x, hx⟩ : ∃ x, T[k]? = some x := ⟨_, List.getElem?_eq_getElem hk1⟩
      obtain ⟨L, hL⟩ := ho.2.2 k x hx
      have xok : NameOk x := hb x (ho.2.1 x (List.mem_of_getElem? hx))
      obtain ⟨s', hf, e5', e8', rfl⟩ := forM_inv (g := gSet 5) (b := b__law_is_order_1)
        (fun i s => ∃ e5 e8, s = ⟨[.sh (.lst (bu.map MV.str)), .sh (.ref m), .sh (.ref t), .sh (.int (k : Int)), .ow (((bu.take i).filter (fun x => decide (x ∉ T.take k) && rdy E bu (T.take k) x)).map MV.str), e5, .un, .un, e8], G⟩) (bu.map MV.str) 0
        ⟨[.sh (.lst (bu.map MV.str)), .sh (.ref m), .sh (.ref t), .sh (.int (k : Int)), .ow [], e5, .un, .un, e8], G⟩ ⟨e5, e8, rfl⟩ (by
          rintro i z s hz ⟨e5, e8, rfl⟩
          rw [Nat.zero_add]
          rw [List.getElem?_map] at hz
          obtain ⟨y, hy, rfl⟩ := Option.map_eq_some_iff.mp hz
          have yl := (List.getElem?_eq_some_iff.mp hy).1
          have eT : bu.take (i + 1) = bu.take i ++ [y] := by rw [List.take_succ, hy]; rfl
          refine ⟨_, _, rfl, heard_ev _ e8 hm ht hk (hb y (List.mem_of_getElem? hy)) hs (by
            have := List.length_filter_le (fun x => decide (x ∉ T.take k) && rdy E bu (T.take k) x) (bu.take i)
            rw [List.length_take] at this; omega), .sh (.str y), .sh (.lst (((hrd E bu y).map (·.1)).map MV.str)), ?_⟩
          rw [eT, List.filter_append]
          by_cases q : (decide (y ∉ T.take k) && rdy E bu (T.take k) y) = true
          · rw [if_pos q, List.filter_cons, if_pos q, List.filter_nil]
          · rw [if_neg q, List.filter_cons, if_neg q, List.filter_nil, List.append_nil])
      rw [Nat.zero_add, List.length_map, List.take_length] at hf
      have eR : bu.filter (fun x => decide (x ∉ T.take k) && rdy E bu (T.take k) x) = x :: L := hL
      rw [eR] at hf
      have rok : ∀ z ∈ x :: L, NameOk z := fun z hz => by
        rw [← hL] at hz
        exact hb z (List.mem_filter.mp hz).1
      have OE : ∀ s, oEq (.lst ((x :: L).map MV.str)) (.lst []) s = .ok (.bl false) s := fun s => by
        rw [oEq_strs0 rok]; simp
      have IX : ∀ e, oIdx (.ref t) (.int (k : Int)) ⟨e, G⟩ = .ok (.str x) ⟨e, G⟩ := fun e => by
        unfold oIdx
        simp only [ht, Int.toNat_natCast, List.getElem?_map, hx, Option.map_some]
        rw [if_pos (by omega)]
      have I0 : ∀ s, oIdx (.lst ((x :: L).map MV.str)) (.int 0) s = .ok (.str x) s := fun s => by rw [oIdx_lst (by decide)]; rfl
      have NE : ∀ s, oNe (.str x) (.str x) s = .ok (.bl false) s := fun s => by rw [oNe_str xok.ok xok.ok]; simp
      refine ⟨_, _, rfl, ?_, .sh (.int (k : Int)), .sh (.lst ((x :: L).map MV.str)), e5', e8', rfl⟩
      generalize (x :: L).map MV.str = rl at *
      generalize bu.map MV.str = bm at *
      clear hm ht hk hb hs hl hT ho hk1 hx hL xok eR rok
      unfold b__law_is_order_2
      walk_at "ms")
  obtain ⟨s', hf, e3, e4, e5, e8, rfl⟩ := Z
  have lt : (T.map MV.str).length = T.length := List.length_map ..
  have lb : (bu.map MV.str).length = T.length := by rw [List.length_map, hT]
  have r1 : ∀ s, oR1 [.int ((T.length : Nat) : Int)] s = .ok (rangeM 0 1 T.length) s := fun s => oR1_len (by omega)
  have NE : ∀ s, oNe (.int ((T.length : Nat) : Int)) (.int ((T.length : Nat) : Int)) s = .ok (.bl false) s := fun s => by rw [oNe_int]; simp
  generalize T.map MV.str = tm at *
  generalize bu.map MV.str = bm at *
  clear hk hb hs hl hT ho hm
  unfold runB ms__law_is_order N__law_is_order
  walk_at "ms"
/-! ## the law -/
theorem patch0 {s : MS} (h : s.G = []) : oMk "Patch" mf_Patch___init__ [] s = .ok (.ref 0) ⟨s.env, [.ins "Patch" ks_Patch [.ref 1, .ref 2, .ref 3, .ref 4], .lst [], .lst [], .lst [], .lst []]⟩ := by
  obtain ⟨e, G⟩ := s
  cases h
  refine oMk_ok ?_
  rw [self_Patch___init__ _ _ rfl]
  unfold runB ms_Patch___init__ N_Patch___init__ ks_Patch
  have s0 : ∀ y (e : List SV) (T : MHeap), setR ["Patch"] "kept_tracks" y 0 (some (.ins "Patch" [] [])) ⟨e, .ins "Patch" [] [] :: T⟩ = .ok .nx ⟨e, .ins "Patch" ["kept_tracks"] [y] :: T⟩ := fun y e T => sr_Patch_i0 ..
  have s1 : ∀ y x0 (e : List SV) (T : MHeap), setR ["Patch"] "kept_buses" y 0 (some (.ins "Patch" ["kept_tracks"] [x0])) ⟨e, .ins "Patch" ["kept_tracks"] [x0] :: T⟩ = .ok .nx ⟨e, .ins "Patch" ["kept_tracks", "kept_buses"] [x0, y] :: T⟩ := fun y x0 e T => sr_Patch_i1 ..
  have s2 : ∀ y x0 x1 (e : List SV) (T : MHeap), setR ["Patch"] "kept_sends" y 0 (some (.ins "Patch" ["kept_tracks", "kept_buses"] [x0, x1])) ⟨e, .ins "Patch" ["kept_tracks", "kept_buses"] [x0, x1] :: T⟩ = .ok .nx ⟨e, .ins "Patch" ["kept_tracks", "kept_buses", "kept_sends"] [x0, x1, y] :: T⟩ := fun y x0 x1 e T => sr_Patch_i2 ..
  have s3 : ∀ y x0 x1 x2 (e : List SV) (T : MHeap), setR ["Patch"] "kept_outs" y 0 (some (.ins "Patch" ["kept_tracks", "kept_buses", "kept_sends"] [x0, x1, x2])) ⟨e, .ins "Patch" ["kept_tracks", "kept_buses", "kept_sends"] [x0, x1, x2] :: T⟩ = .ok .nx ⟨e, .ins "Patch" ["kept_tracks", "kept_buses", "kept_sends", "kept_outs"] [x0, x1, x2, y] :: T⟩ := fun y x0 x1 x2 e T => sr_Patch_i3 ..
  walk_at "ms"
theorem bus_loop (b : SM) (hb : b = mDrop (mMeth "bus" tb_bus (mVar 5) (aCons (mVar 6) aNil))) (a0 a1 a2 a3 a4 a7 a8 a9 a10 a11 : SV) {tr : List Str} {ou : List MV} : ∀ (xs done : List Str) (e6 : SV) (G : MHeap), PatAt G 0 1 2 3 4 tr done [] ou → (done ++ xs).Nodup → (∀ x ∈ xs, x ∉ tr ∧ NameOk x) → (done ++ xs).length < 100 →
    ∃ G' e6', G'.length = G.length ∧ PatAt G' 0 1 2 3 4 tr (done ++ xs) [] ou ∧ M.forM (gSet 6) b (xs.map MV.str) ⟨[a0, a1, a2, a3, a4, .sh (.ref 0), e6, a7, a8, a9, a10, a11], G⟩ = .ok .nx ⟨[a0, a1, a2, a3, a4, .sh (.ref 0), e6', a7, a8, a9, a10, a11], G'⟩
  | [], done, e6, G, P, _, _, _ => ⟨G, e6, rfl, by rw [List.append_nil]; exact P, rfl⟩
  | x :: xs, done, e6, G, P, nd, hx, hl => by
    have h1 := hx x List.mem_cons_self
    have h2 : x ∉ done := fun h => by
      rw [List.nodup_append] at nd
      exact nd.2.2 x h x List.mem_cons_self rfl
    have BE := bus_ev P h1.2 h1.1 h2 (by rw [List.length_append] at hl; omega)
    have P2 := P.setB (done ++ [x])
    have ea : done ++ x :: xs = (done ++ [x]) ++ xs := by simp
    rw [ea] at nd hl ⊢
    obtain ⟨G', e6', g1, g2, g3⟩ := bus_loop b hb a0 a1 a2 a3 a4 a7 a8 a9 a10 a11 xs (done ++ [x]) (.sh (.str x)) _ P2 nd (fun y hy => hx y (List.mem_cons_of_mem _ hy)) hl
    refine ⟨G', e6', by rw [g1, List.length_set], g2, ?_⟩
    have hp := P.hp
    have BB : b ⟨[a0, a1, a2, a3, a4, .sh (.ref 0), .sh (.str x), a7, a8, a9, a10, a11], G⟩ = .ok .nx ⟨[a0, a1, a2, a3, a4, .sh (.ref 0), .sh (.str x), a7, a8, a9, a10, a11], G.set 2 (.lst ((done ++ [x]).map MV.str))⟩ := by
      subst hb
      generalize (done ++ [x]).map MV.str = dm at *
      clear P P2 nd hx hl h1 h2 g1 g2 g3 ea
      walk_at "ms"
    rw [List.map_cons]
    unfold M.forM
    show (match b ⟨[a0, a1, a2, a3, a4, .sh (.ref 0), .sh (.str x), a7, a8, a9, a10, a11], G⟩ with
      | .ok .nx s2 => M.forM (gSet 6) b (xs.map MV.str) s2
      | .ok .ct s2 => M.forM (gSet 6) b (xs.map MV.str) s2
      | .ok .bk s2 => .ok .nx s2
      | .ok (.rt x) s2 => .ok (.rt x) s2
      | .exc x s2 => .exc x s2
      | .stuck => .stuck) = _
    rw [BB]
    exact g3
def sd0 (E : Edges) : List SdT := E.map fun e => (e.1, e.2, [])
theorem edg_sd0 (E : Edges) : edg (sd0 E) = E := by unfold edg sd0; rw [List.map_map]; simp [Function.comp_def]
structure LInv (G : MHeap) (m : Nat) (tk : Str) (bu : List Str) (E : Edges) : Prop where
  P : PatAt G 0 1 2 3 4 [tk] bu (sd0 E) []
  hm : G[m]? = some (.lst (E.map eP))
  m5 : 5 ≤ m
  ac : Acyc E
  ok : ∀ e ∈ E, (e.1 = tk ∨ e.1 ∈ bu) ∧ e.2 ∈ bu
noncomputable def ifS : SM := mIf (tOrM (tOf (mBin oEq (mVar 10) (mBin oIdx (mVar 1) (mCon (.int 8))))) (tNotM (tOf (mCall mf__law_leads (aCons (mVar 7) (aCons (mVar 6) (aCons (mVar 10) aNil))))))) (mSeq (mDrop (mMeth "send" tb_send (mVar 5) (aCons (mVar 10) (aCons (mVar 6) (aCons (mArg oLst aNil) aNil)))))
  (mAppL (mVar 7) (mArg oTup (aCons (mVar 10) (aCons (mVar 6) aNil))))) mNx
section
variable {m : Nat} {tk : Str} {bu : List Str} (a0 a2 a3 a4 a8 a9 a11 : SV) (zl : List MV)
theorem LInv.app {G : MHeap} {E : Edges} (h : LInv G m tk bu E) (J : MHeap) : LInv (G ++ J) m tk bu E := ⟨h.P.app J, apl J h.hm, h.m5, h.ac, h.ok⟩
theorem send_turn {G : MHeap} {E : Edges} {x y : Str} (h : LInv G m tk bu E) (hb : ∀ z ∈ bu, NameOk z) (ht : NameOk tk) (hx : x = tk ∨ x ∈ bu) (hy : y ∈ bu) (hl : E.length < 400) (hr : x ∉ reach E y) :
    ∃ G', LInv G' m tk bu (E ++ [(x, y)]) ∧ (mSeq (mDrop (mMeth "send" tb_send (mVar 5) (aCons (mVar 10) (aCons (mVar 6) (aCons (mArg oLst aNil) aNil))))) (mAppL (mVar 7) (mArg oTup (aCons (mVar 10) (aCons (mVar 6) aNil))))) ⟨[a0, .sh (.lst zl), a2, a3, a4, .sh (.ref 0), .sh (.str y), .sh (.ref m), a8, a9, .sh (.str x), a11], G⟩
      = .ok .nx ⟨[a0, .sh (.lst zl), a2, a3, a4, .sh (.ref 0), .sh (.str y), .sh (.ref m), a8, a9, .sh (.str x), a11], G'⟩ := by
  have nk : ∀ z, z = tk ∨ z ∈ bu → NameOk z := fun z hz => by
    rcases hz with rfl | hz
    · exact ht
    · exact hb z hz
  have hk : ∀ p ∈ sd0 E, NameOk p.1 ∧ NameOk p.2.1 := fun p hp => by
    obtain ⟨e, he, rfl⟩ := List.mem_map.mp hp
    exact ⟨nk _ (h.ok e he).1, hb _ (h.ok e he).2⟩
  obtain ⟨J, SE⟩ := send0_ev h.P hk (nk x hx) (hb y hy) (hx.elim (fun e => .inl (e ▸ List.mem_cons_self)) .inr) hy (by unfold sd0; rw [List.length_map]; omega) (by rw [edg_sd0]; exact hr)
  have es : sd0 E ++ [(x, y, [])] = sd0 (E ++ [(x, y)]) := by unfold sd0; rw [List.map_append]; rfl
  rw [es] at SE
  have P2 := (h.P.app J).setS (sd0 (E ++ [(x, y)]))
  have m5 := h.m5
  have hm2 : ((G ++ J).set 3 (.lst ((sd0 (E ++ [(x, y)])).map eSd)))[m]? = some (.lst (E.map eP)) := by
    rw [List.getElem?_set_ne (by omega)]; exact apl J h.hm
  have ml := (List.getElem?_eq_some_iff.mp hm2).1
  obtain ⟨G2, hG2⟩ : ∃ G2, (G ++ J).set 3 (.lst ((sd0 (E ++ [(x, y)])).map eSd)) = G2 := ⟨_, rfl⟩
  rw [hG2] at SE P2 hm2 ml
  refine ⟨G2.set m (.lst ((E ++ [(x, y)]).map eP)), ⟨P2.setO _ (by omega) (by omega) (by omega) (by omega) (by omega), List.getElem?_set_self ml, m5, acyc_add h.ac hr, fun e he => ?_⟩, ?_⟩
  · rcases List.mem_append.mp he with he | he
    · exact h.ok e he
    · rw [List.mem_singleton] at he; subst he; exact ⟨hx, hy⟩
  have hp := h.P.hp
  have ll : (E.map eP).length < 16777216 := by rw [List.length_map]; omega
  rw [List.map_append, List.map_cons, List.map_nil, show eP (x, y) = .tup [.str x, .str y] from rfl]
  generalize E.map eP = em at *
  clear h hb ht hx hy hl hr nk hk es P2 m5 hG2 ml
  walk_at "ms"
theorem if_turn {G : MHeap} {E : Edges} {x y : Str} (h : LInv G m tk bu E) (hb : ∀ z ∈ bu, NameOk z) (ht : NameOk tk) (htb : tk ∉ bu) (hz : ∀ s, oIdx (.lst zl) (.int 8) s = .ok (.str tk) s) (hx : x = tk ∨ x ∈ bu) (hy : y ∈ bu) (hl : E.length < 400) :
    ∃ G' E', E'.length ≤ E.length + 1 ∧ LInv G' m tk bu E' ∧ ifS ⟨[a0, .sh (.lst zl), a2, a3, a4, .sh (.ref 0), .sh (.str y), .sh (.ref m), a8, a9, .sh (.str x), a11], G⟩ = .ok .nx ⟨[a0, .sh (.lst zl), a2, a3, a4, .sh (.ref 0), .sh (.str y), .sh (.ref m), a8, a9, .sh (.str x), a11], G'⟩ := by
  have hk : ∀ e ∈ E, NameOk e.1 ∧ NameOk e.2 := fun e he => by
    refine ⟨?_, hb _ (h.ok e he).2⟩
    rcases (h.ok e he).1 with q | q
    · rw [q]; exact ht
    · exact hb _ q
  by_cases q : x = tk
  · subst q
    have hr : x ∉ reach E y := fun w => by
      rcases reach_sub E y x w with e | ⟨e, he, e2⟩
      · exact htb (e ▸ hy)
      · exact htb (e2 ▸ (h.ok e he).2)
    obtain ⟨G', h1, h2⟩ := send_turn a0 a2 a3 a4 a8 a9 a11 zl h hb ht hx hy hl hr
    refine ⟨G', _, by rw [List.length_append]; exact Nat.le_refl _, h1, ?_⟩
    have EQ : ∀ s, oEq (.str x) (.str x) s = .ok (.bl true) s := fun s => by rw [oEq_str ht.ok ht.ok]; simp
    have T : (tOrM (tOf (mBin oEq (mVar 10) (mBin oIdx (mVar 1) (mCon (.int 8))))) (tNotM (tOf (mCall mf__law_leads (aCons (mVar 7) (aCons (mVar 6) (aCons (mVar 10) aNil))))))) ⟨[a0, .sh (.lst zl), a2, a3, a4, .sh (.ref 0), .sh (.str y), .sh (.ref m), a8, a9, .sh (.str x), a11], G⟩ = .ok true ⟨[a0, .sh (.lst zl), a2, a3, a4, .sh (.ref 0), .sh (.str y), .sh (.ref m), a8, a9, .sh (.str x), a11], G⟩ := by
      clear h hb ht htb hx hy hl hk hr h1 h2
      walk_at "ms"
    unfold ifS
    show (M.R.bind _ _) = _
    rw [T]
    exact h2
  · have hxb := hx.resolve_left q
    obtain ⟨J, LE⟩ := leads_ev (l := x) h.hm hk (hb y hy) (by omega)
    have EQ : ∀ s, oEq (.str x) (.str tk) s = .ok (.bl false) s := fun s => by rw [oEq_str (hb x hxb).ok ht.ok, decide_eq_false (fun h => q (sg_inj h))]
    have T : ∀ d, decide (x ∈ reach E y) = d → (tOrM (tOf (mBin oEq (mVar 10) (mBin oIdx (mVar 1) (mCon (.int 8))))) (tNotM (tOf (mCall mf__law_leads (aCons (mVar 7) (aCons (mVar 6) (aCons (mVar 10) aNil))))))) ⟨[a0, .sh (.lst zl), a2, a3, a4, .sh (.ref 0), .sh (.str y), .sh (.ref m), a8, a9, .sh (.str x), a11], G⟩ = .ok (!d) ⟨[a0, .sh (.lst zl), a2, a3, a4, .sh (.ref 0), .sh (.str y), .sh (.ref m), a8, a9, .sh (.str x), a11], G ++ J⟩ := fun d hd => by
      rw [hd] at LE
      clear h hb ht htb hx hy hl hk q hxb hd
      walk_at "ms"
    by_cases r : x ∈ reach E y
    · refine ⟨G ++ J, E, by omega, h.app J, ?_⟩
      unfold ifS
      show (M.R.bind _ _) = _
      rw [T true (decide_eq_true r)]
      rfl
    · obtain ⟨G', h1, h2⟩ := send_turn a0 a2 a3 a4 a8 a9 a11 zl (h.app J) hb ht hx hy hl r
      refine ⟨G', _, by rw [List.length_append]; exact Nat.le_refl _, h1, ?_⟩
      unfold ifS
      show (M.R.bind _ _) = _
      rw [T false (decide_eq_false r)]
      exact h2
theorem rest_turn {G : MHeap} {E : Edges} (a6 a10 : SV) (h : LInv G m tk bu E) (hb : ∀ z ∈ bu, NameOk z) (ht : NameOk tk) (hn : bu.Nodup) (hz : ∀ s, oIdx (.lst zl) (.int 8) s = .ok (.str tk) s) (hl : E.length < 400) (hbl : bu.length < 100) :
    ∃ G' e11, LInv G' m tk bu E ∧ k_law_1 ⟨[a0, .sh (.lst zl), a2, a3, .sh (.lst (bu.map MV.str)), .sh (.ref 0), a6, .sh (.ref m), a8, a9, a10, a11], G⟩ = .ok .nx ⟨[a0, .sh (.lst zl), a2, a3, .sh (.lst (bu.map MV.str)), .sh (.ref 0), a6, .sh (.ref m), a8, a9, a10, e11], G'⟩ := by
  have nk : ∀ z, z = tk ∨ z ∈ bu → NameOk z := fun z hz => by
    rcases hz with rfl | hz
    · exact ht
    · exact hb z hz
  have hk : ∀ e ∈ E, NameOk e.1 ∧ NameOk e.2 := fun e he => ⟨nk _ (h.ok e he).1, hb _ (h.ok e he).2⟩
  have hk2 : ∀ p ∈ sd0 E, NameOk p.1 ∧ NameOk p.2.1 := fun p hp => by
    obtain ⟨e, he, rfl⟩ := List.mem_map.mp hp
    exact hk e he
  obtain ⟨T, t1, t2, OE⟩ := order_ev h.P hk2 hb hn (by omega) (by rw [edg_sd0]; exact h.ac)
  rw [edg_sd0] at t2
  have IO := is_order_ev (apl [.lst (T.map MV.str)] h.hm) (a00 G (.lst (T.map MV.str))) hk hb (by omega) (by omega) t1 t2
  have h0 := a00 G (.lst (T.map MV.str))
  have h5 : ∀ o, (G ++ [MO.lst (T.map MV.str)]).set G.length o = G ++ [o] := fun o => s00 _ _ _
  have hp := h.P.hp
  refine ⟨G ++ [.lst (T.map MV.str ++ [.str tk])], .sh (.ref G.length), h.app _, ?_⟩
  have lt : (T.map MV.str).length < 16777216 := by rw [List.length_map]; omega
  generalize T.map MV.str = tm at *
  generalize bu.map MV.str = bm at *
  clear h hb ht hn hl hbl nk hk hk2 t1 t2
  unfold k_law_1
  rw [shut_eq]
  walk_at "ms"
  unfold t_law_2
  rw [shut_eq]
  walk_at "ms"
  unfold t_law_1
  rw [shut_eq]
  walk_at "ms"
theorem t3_turn {G : MHeap} {E : Edges} {x y : Str} (h : LInv G m tk bu E) (hb : ∀ z ∈ bu, NameOk z) (ht : NameOk tk) (htb : tk ∉ bu) (hn : bu.Nodup) (hz : ∀ s, oIdx (.lst zl) (.int 8) s = .ok (.str tk) s) (hx : x = tk ∨ x ∈ bu) (hy : y ∈ bu) (hl : E.length < 300) (hbl : bu.length < 100) :
    ∃ G' E' e11, E'.length ≤ E.length + 1 ∧ LInv G' m tk bu E' ∧ t_law_3 ⟨[a0, .sh (.lst zl), a2, a3, .sh (.lst (bu.map MV.str)), .sh (.ref 0), .sh (.str y), .sh (.ref m), a8, a9, .sh (.str x), a11], G⟩ = .ok .nx ⟨[a0, .sh (.lst zl), a2, a3, .sh (.lst (bu.map MV.str)), .sh (.ref 0), .sh (.str y), .sh (.ref m), a8, a9, .sh (.str x), e11], G'⟩ := by
  obtain ⟨G1, E1, l1, i1, r1⟩ := if_turn a0 a2 a3 (.sh (.lst (bu.map MV.str))) a8 a9 a11 zl h hb ht htb hz hx hy (by omega)
  obtain ⟨G2, e11, i2, r2⟩ := rest_turn a0 a2 a3 a8 a9 a11 zl (.sh (.str y)) (.sh (.str x)) i1 hb ht hn hz (by omega) hbl
  refine ⟨G2, E1, e11, l1, i2, ?_⟩
  have e : t_law_3 = mSeq ifS k_law_1 := by unfold t_law_3; rw [shut_eq]; rfl
  rw [e]
  unfold mSeq
  rw [r1]
  exact r2
end
theorem law_turn {m : Nat} {tk : Str} {bu : List Str} (a0 a3 : SV) (zl : List MV) (c : Int) (hc : c.natAbs.log2 < 2000000) {G : MHeap} {E : Edges} (e6 e9 e10 e11 : SV) (h : LInv G m tk bu E) (hb : ∀ z ∈ bu, NameOk z) (ht : NameOk tk) (htb : tk ∉ bu) (hn : bu.Nodup) (hz : ∀ s, oIdx (.lst zl) (.int 8) s = .ok (.str tk) s) (h1 : 1 ≤ bu.length) (hl : E.length < 300) (hbl : bu.length < 100) :
    ∃ G' E' e6' e9' e10' e11', E'.length ≤ E.length + 1 ∧ LInv G' m tk bu E' ∧ b_law_3 ⟨[a0, .sh (.lst zl), .sh (.int (bu.length : Nat)), a3, .sh (.lst (bu.map MV.str)), .sh (.ref 0), e6, .sh (.ref m), .sh (.int c), e9, e10, e11], G⟩
      = .ok .nx ⟨[a0, .sh (.lst zl), .sh (.int (bu.length : Nat)), a3, .sh (.lst (bu.map MV.str)), .sh (.ref 0), e6', .sh (.ref m), .sh (.int c), e9', e10', e11'], G'⟩ := by
  obtain ⟨x9, hx9⟩ : ∃ v, c * 414213562373095048801689 % (10 ^ 24 + 7) = v := ⟨_, rfl⟩
  have x0 : 0 ≤ x9 := by rw [← hx9]; exact Int.emod_nonneg _ (by decide)
  have MU : ∀ s, oMul (.int c) (.int 414213562373095048801689) s = .ok (.int (c * 414213562373095048801689)) s := fun s => oMul_ok (by
    unfold mulOk
    have : (414213562373095048801689 : Int).natAbs.log2 < 80 := by decide
    omega)
  have MO : ∀ s, oMod (.int (c * 414213562373095048801689)) (.int 1000000000000000000000007) s = .ok (.int x9) s := fun s => by
    rw [oMod_pos (by decide), ← hx9]; rfl
  obtain ⟨k, hk⟩ : ∃ k : Nat, x9 % ((bu.length : Nat) + 1) = (k : Int) := ⟨(x9 % ((bu.length : Nat) + 1)).toNat, by
    have := Int.emod_nonneg x9 (show ((bu.length : Nat) + 1 : Int) ≠ 0 by omega); omega⟩
  have k1 : k < (bu ++ [tk]).length := by
    have := Int.emod_lt_of_pos x9 (show (0 : Int) < (bu.length : Nat) + 1 by omega)
    rw [List.length_append, List.length_singleton]; omega
  obtain ⟨j, hj⟩ : ∃ j : Nat, x9 / 9 % ((bu.length : Nat) : Int) = (j : Int) := ⟨(x9 / 9 % ((bu.length : Nat) : Int)).toNat, by
    have := Int.emod_nonneg (x9 / 9) (show ((bu.length : Nat) : Int) ≠ 0 by omega); omega⟩
  have j1 : j < bu.length := by
    have := Int.emod_lt_of_pos (x9 / 9) (show (0 : Int) < (bu.length : Nat) by omega)
    omega
  obtain ⟨x, hx⟩ : ∃ x, (bu ++ [tk])[k]? = some x := ⟨_, List.getElem?_eq_getElem k1⟩
  obtain ⟨y, hy⟩ : ∃ y, bu[j]? = some y := ⟨_, List.getElem?_eq_getElem j1⟩
  have hx2 : x = tk ∨ x ∈ bu := by
    rcases List.mem_append.mp (List.mem_of_getElem? hx) with q | q
    · exact .inr q
    · exact .inl (List.mem_singleton.mp q)
  obtain ⟨G', E', e11', l1, i1, T3⟩ := t3_turn a0 (.sh (.int (bu.length : Nat))) a3 (.sh (.int c)) (.sh (.int x9)) e11 zl h hb ht htb hn hz hx2 (List.mem_of_getElem? hy) hl hbl
  refine ⟨G', E', .sh (.str y), .sh (.int x9), .sh (.str x), e11', l1, i1, ?_⟩
  have AD : ∀ s, oAdd (.lst (bu.map MV.str)) (.lst [.str tk]) s = .ok (.lst ((bu ++ [tk]).map MV.str)) s := fun s => by
    rw [oAdd_lst (by simp; omega), List.map_append]; rfl
  have M1 : ∀ s, oMod (.int x9) (.int ((bu.length : Nat) + 1)) s = .ok (.int (k : Int)) s := fun s => by rw [oMod_pos (by omega), hk]
  have D1 : ∀ s, oDiv (.int x9) (.int 9) s = .ok (.int (x9 / 9)) s := fun s => oDiv_lt (by decide) (by decide)
  have M2 : ∀ s, oMod (.int (x9 / 9)) (.int ((bu.length : Nat) : Int)) s = .ok (.int (j : Int)) s := fun s => by rw [oMod_pos (by omega), hj]
  have I1 : ∀ s, oIdx (.lst ((bu ++ [tk]).map MV.str)) (.int (k : Int)) s = .ok (.str x) s := fun s => by
    rw [oIdx_lst (by omega), Int.toNat_natCast, List.getElem?_map, hx]; rfl
  have I2 : ∀ s, oIdx (.lst (bu.map MV.str)) (.int (j : Int)) s = .ok (.str y) s := fun s => by
    rw [oIdx_lst (by omega), Int.toNat_natCast, List.getElem?_map, hy]; rfl
  generalize (bu ++ [tk]).map MV.str = b2 at *
  generalize bu.map MV.str = bm at *
  clear hc h hb ht htb hn h1 hl hbl hx9 x0 hk k1 hj j1 hx hy hx2 i1 l1
  unfold b_law_3
  walk_at "ms"
  unfold t_law_5
  rw [shut_eq]
  walk_at "ms"
  unfold t_law_4
  rw [shut_eq]
  walk_at "ms"
  all_goals (exact T3)
theorem from_k2 (ns : List Int) (hns : ∀ z ∈ ns, z.natAbs.log2 < 1048577) (a3 : SV) (zl : List MV) {tk : Str} {bu : List Str} (hb : ∀ z ∈ bu, NameOk z) (ht : NameOk tk) (htb : tk ∉ bu) (hn : bu.Nodup) (hz : ∀ s, oIdx (.lst zl) (.int 8) s = .ok (.str tk) s) (h1 : 1 ≤ bu.length) (hbl : bu.length < 50) :
    ∃ s', k_law_2 ⟨[.sh (.scr (ns.map MV.int)), .sh (.lst zl), .sh (.int (bu.length : Nat)), a3, .sh (.lst (bu.map MV.str)), .un, .un, .un, .un, .un, .un, .un], []⟩ = .ok (.rt (.bl true)) s' := by
  have P0 : PatAt [.ins "Patch" ks_Patch [.ref 1, .ref 2, .ref 3, .ref 4], .lst [], .lst [], .lst [], .lst []] 0 1 2 3 4 [] [] [] [] := ⟨rfl, rfl, rfl, rfl, rfl, by decide⟩
  have MK := fun (e : List SV) => patch0 (s := ⟨e, []⟩) rfl
  have nd2 : (bu.take 1 ++ bu.drop 1).Nodup := by rw [List.take_append_drop]; exact hn
  obtain ⟨G1, e6, l1, P1, F1⟩ := bus_loop b_law_1 rfl (.sh (.scr (ns.map MV.int))) (.sh (.lst zl)) (.sh (.int (bu.length : Nat))) a3 (.sh (.lst (bu.map MV.str))) .un .un .un .un .un (bu.take 1) [] .un _ P0 (by rw [List.nil_append]; exact hn.sublist (List.take_sublist _ _)) (fun x hx => ⟨by simp, hb x (List.mem_of_mem_take hx)⟩) (by rw [List.nil_append, List.length_take]; omega)
  rw [List.nil_append] at P1
  have TE := track_ev P1 ht (by simp) (fun h => htb (List.mem_of_mem_take h)) (by decide)
  rw [List.nil_append] at TE
  have P2 := P1.setT [tk]
  obtain ⟨G3, e6', l3, P3, F3⟩ := bus_loop b_law_2 rfl (.sh (.scr (ns.map MV.int))) (.sh (.lst zl)) (.sh (.int (bu.length : Nat))) a3 (.sh (.lst (bu.map MV.str))) .un .un .un .un .un (bu.drop 1) (bu.take 1) e6 _ P2 nd2 (fun x hx => ⟨fun h => htb (by rw [List.mem_singleton] at h; rw [← h]; exact List.mem_of_mem_drop hx), hb x (List.mem_of_mem_drop hx)⟩) (by rw [List.take_append_drop]; omega)
  rw [List.take_append_drop] at P3
  have lG : G3.length = 5 := by rw [l3, List.length_set, l1]; rfl
  have I0 : LInv (G3 ++ [.lst []]) G3.length tk bu [] := ⟨P3.app _, a00 _ _, by omega, acyc_nil, fun e he => (by cases he)⟩
  obtain ⟨cells, hcells⟩ : ∃ cs, cutG ns (some 1) (some 13) = cs := ⟨_, rfl⟩
  have cb : ∀ z ∈ cells, z.natAbs.log2 < 2000000 := fun z hz => by rw [← hcells] at hz; have := hns z (cutG_mem hz); omega
  have cl : cells.length ≤ 12 := by
    rw [← hcells]
    have e1 := HT.sIx_nat ns.length 0 1
    have e2 := HT.sIx_nat ns.length ns.length 13
    unfold cutG
    rw [show (some (1 : Int)) = some ((1 : Nat) : Int) from rfl, show (some (13 : Int)) = some ((13 : Nat) : Int) from rfl, e1, e2, List.length_take, List.length_drop]
    omega
  have Z := forM_inv (g := gSet 8) (b := b_law_3) (fun i s => ∃ G E e6 e8 e9 e10 e11, E.length ≤ i ∧ LInv G G3.length tk bu E ∧ s = ⟨[.sh (.scr (ns.map MV.int)), .sh (.lst zl), .sh (.int (bu.length : Nat)), a3, .sh (.lst (bu.map MV.str)), .sh (.ref 0), e6, .sh (.ref G3.length), e8, e9, e10, e11], G⟩) (cells.map MV.int) 0
    ⟨[.sh (.scr (ns.map MV.int)), .sh (.lst zl), .sh (.int (bu.length : Nat)), a3, .sh (.lst (bu.map MV.str)), .sh (.ref 0), e6', .sh (.ref G3.length), .un, .un, .un, .un], G3 ++ [.lst []]⟩ ⟨_, [], e6', .un, .un, .un, .un, Nat.le_refl _, I0, rfl⟩ (by
      rintro i v s hv ⟨G, E, e6, e8, e9, e10, e11, le, li, rfl⟩
      rw [List.getElem?_map] at hv
      obtain ⟨c, hc, rfl⟩ := Option.map_eq_some_iff.mp hv
      have il := (List.getElem?_eq_some_iff.mp hc).1
      obtain ⟨G', E', e6', e9', e10', e11', l2, i2, r2⟩ := law_turn (.sh (.scr (ns.map MV.int))) a3 zl c (cb c (List.mem_of_getElem? hc)) e6 e9 e10 e11 li hb ht htb hn hz h1 (by omega) (by omega)
      exact ⟨_, _, rfl, r2, G', E', e6', .sh (.int c), e9', e10', e11', by omega, i2, rfl⟩)
  obtain ⟨s', FL, G4, E4, e6'', e8, e9, e10, e11, le4, i4, rfl⟩ := Z
  have nk : ∀ z, z = tk ∨ z ∈ bu → NameOk z := fun z hz => by
    rcases hz with rfl | hz
    · exact ht
    · exact hb z hz
  have hk : ∀ e ∈ E4, NameOk e.1 ∧ NameOk e.2 := fun e he => ⟨nk _ (i4.ok e he).1, hb _ (i4.ok e he).2⟩
  have hk2 : ∀ p ∈ sd0 E4, NameOk p.1 ∧ NameOk p.2.1 := fun p hp => by
    obtain ⟨e, he, rfl⟩ := List.mem_map.mp hp
    exact hk e he
  rw [Nat.zero_add, List.length_map] at le4
  obtain ⟨T, t1, t2, OE⟩ := order_ev i4.P hk2 hb hn (by omega) (by rw [edg_sd0]; exact i4.ac)
  rw [edg_sd0] at t2
  have IO := is_order_ev (apl [.lst (T.map MV.str)] i4.hm) (a00 G4 (.lst (T.map MV.str))) hk hb (by omega) (by omega) t1 t2
  have hp := i4.P.hp
  have hp1 := P1.hp
  have S0 : cutG (ns.map MV.int) (some 1) (some 13) = cells.map MV.int := by rw [cutG_map, hcells]
  have S1 : cutG (bu.map MV.str) none (some 1) = (bu.take 1).map MV.str := by
    rw [cutG_to _ (by decide), List.map_take]; rfl
  have S2 : cutG (bu.map MV.str) (some 1) none = (bu.drop 1).map MV.str := by
    rw [cutG_from _ (by decide), List.map_drop]; rfl
  obtain ⟨G2, hG2⟩ : ∃ G2, G1.set 1 (.lst ([tk].map MV.str)) = G2 := ⟨_, rfl⟩
  rw [hG2] at TE F3
  refine ⟨⟨[.sh (.scr (ns.map MV.int)), .sh (.lst zl), .sh (.int (bu.length : Nat)), a3, .sh (.lst (bu.map MV.str)), .sh (.ref 0), e6'', .sh (.ref G3.length), e8, e9, e10, e11], G4 ++ [.lst (T.map MV.str)]⟩, ?_⟩
  generalize T.map MV.str = tm at *
  generalize (bu.take 1).map MV.str = m1 at *
  generalize (bu.drop 1).map MV.str = m2 at *
  generalize bu.map MV.str = bm at *
  generalize cells.map MV.int = cm at *
  generalize ns.map MV.int = nm at *
  clear hns hb ht htb hn h1 hbl P0 nd2 l1 P1 P2 l3 P3 lG I0 hcells cb cl le4 i4 nk hk hk2 t1 t2 hG2
  unfold k_law_2
  rw [shut_eq]
  walk_at "ms"
  unfold t_law_11
  rw [shut_eq]
  walk_at "ms"
  unfold t_law_10
  rw [shut_eq]
  walk_at "ms"
  unfold t_law_9
  rw [shut_eq]
  walk_at "ms"
  unfold t_law_8
  rw [shut_eq]
  walk_at "ms"
  unfold t_law_7
  rw [shut_eq]
  walk_at "ms"
  unfold t_law_6
  rw [shut_eq]
  walk_at "ms"
theorem run_law : LawOk ms_law N_law.length := by
  intro ns hl hb
  obtain ⟨c0, hc0, gc0⟩ := cell_ev ns hb 0 (by decide)
  obtain ⟨zs, z9, znd, zok, NE⟩ := names_ev c0 (by omega)
  obtain ⟨many, hmany⟩ : ∃ m : Nat, 2 + c0 % 7 = (m : Int) := ⟨(2 + c0 % 7).toNat, by omega⟩
  have hm2 : 2 ≤ many ∧ many ≤ 8 := by omega
  obtain ⟨turn, hturn⟩ : ∃ t : Nat, c0 / 7 % (many : Int) = (t : Int) := ⟨(c0 / 7 % (many : Int)).toNat, by
    have := Int.emod_nonneg (c0 / 7) (show (many : Int) ≠ 0 by omega); omega⟩
  have ht1 : turn < many := by
    have := Int.emod_lt_of_pos (c0 / 7) (show (0 : Int) < many by omega); omega
  obtain ⟨tk, htk⟩ : ∃ x, zs[8]? = some x := ⟨_, List.getElem?_eq_getElem (by omega)⟩
  obtain ⟨bu0, hbu0⟩ : ∃ b, (zs.drop turn).take (many - turn) ++ zs.take turn = b := ⟨_, rfl⟩
  have pm : bu0.Perm (zs.take many) := by
    rw [← hbu0]
    refine List.perm_append_comm.trans ?_
    have : zs.take many = zs.take turn ++ (zs.drop turn).take (many - turn) := by
      have e : many = turn + (many - turn) := by omega
      conv => lhs; rw [e, List.take_add]
    rw [this]
  have S1 : cutG (zs.map MV.str) (some (turn : Int)) (some (many : Int)) = ((zs.drop turn).take (many - turn)).map MV.str := by
    rw [cutG_map]
    have : cutG zs (some (turn : Int)) (some (many : Int)) = (zs.drop turn).take (many - turn) := by
      unfold cutG
      rw [HT.sIx_nat, HT.sIx_nat, Nat.min_eq_left (by omega), Nat.min_eq_left (by omega)]
    rw [this]
  have S2 : cutG (zs.map MV.str) none (some (turn : Int)) = (zs.take turn).map MV.str := by rw [cut_take, List.map_take]
  have A1 : ∀ s, oAdd (.lst (((zs.drop turn).take (many - turn)).map MV.str)) (.lst ((zs.take turn).map MV.str)) s = .ok (.lst (bu0.map MV.str)) s := fun s => by
    rw [oAdd_lst (by simp; omega), ← List.map_append, hbu0]
  have l0 : bu0.length = many := by rw [pm.length_eq, List.length_take]; omega
  have nd0 : bu0.Nodup := pm.nodup_iff.mpr (znd.sublist (List.take_sublist _ _))
  have ok0 : ∀ z ∈ bu0, NameOk z := fun z hz => zok z (List.mem_of_mem_take (pm.mem_iff.mp hz))
  have tk0 : tk ∉ bu0 := fun h => by
    have h := pm.mem_iff.mp h
    obtain ⟨i, hi, e⟩ := List.getElem_of_mem h
    rw [List.length_take] at hi
    rw [List.getElem_take] at e
    have e2 := (List.getElem?_eq_some_iff.mp htk)
    obtain ⟨h8, e2⟩ := e2
    have := (List.getElem_inj znd).mp (e.trans e2.symm)
    omega
  have tok : NameOk tk := zok tk (List.mem_of_getElem? htk)
  have Z8 : ∀ s, oIdx (.lst (zs.map MV.str)) (.int 8) s = .ok (.str tk) s := fun s => by
    rw [oIdx_lst (by decide), List.getElem?_map, show (8 : Int).toNat = 8 from rfl, htk]; rfl
  have D1 : ∀ s, oDiv (.int c0) (.int 7) s = .ok (.int (c0 / 7)) s := fun s => oDiv_lt (by decide) (by decide)
  have M2 : ∀ s, oMod (.int (c0 / 7)) (.int (many : Int)) s = .ok (.int (turn : Int)) s := fun s => by rw [oMod_pos (by omega), hturn]
  have D3 : ∀ s, oDiv (.int c0) (.int 56) s = .ok (.int (c0 / 56)) s := fun s => oDiv_lt (by decide) (by decide)
  have M3 : ∀ s, oMod (.int (c0 / 56)) (.int 2) s = .ok (.int (c0 / 56 % 2)) s := fun s => oMod_pos (by decide)
  by_cases q : c0 / 56 % 2 = 1
  · have EQ : ∀ s, oEq (.int (c0 / 56 % 2)) (.int 1) s = .ok (.bl true) s := fun s => by rw [oEq_int]; simp [q]
    have RV : ∀ s, oRevSl (.lst (bu0.map MV.str)) s = .ok (.lst (bu0.reverse.map MV.str)) s := fun s => by
      show R.ok _ s = _
      rw [List.map_reverse]
    obtain ⟨s', K2⟩ := from_k2 ns hb (.sh (.int (turn : Int))) (zs.map MV.str) (tk := tk) (bu := bu0.reverse) (fun z hz => ok0 z (List.mem_reverse.mp hz)) tok (fun h => tk0 (List.mem_reverse.mp h)) ((List.reverse_perm bu0).nodup_iff.mpr nd0) Z8 (by rw [List.length_reverse]; omega) (by rw [List.length_reverse]; omega)
    rw [List.length_reverse, l0] at K2
    refine ⟨s'.G, ?_⟩
    generalize bu0.reverse.map MV.str = b1 at *
    generalize bu0.map MV.str = b0 at *
    generalize ((zs.drop turn).take (many - turn)).map MV.str = w1 at *
    generalize (zs.take turn).map MV.str = w2 at *
    generalize zs.map MV.str = zl at *
    clear hl hb gc0 z9 znd zok hm2 hturn ht1 htk hbu0 pm l0 nd0 ok0 tk0 tok q
    unfold runB ms_law N_law
    walk_at "ms"
    unfold t_law_15
    rw [shut_eq]
    walk_at "ms"
    unfold t_law_14
    rw [shut_eq]
    walk_at "ms"
    unfold t_law_13
    rw [shut_eq]
    walk_at "ms"
    unfold t_law_12
    rw [shut_eq]
    walk_at "ms"
  · have EQ : ∀ s, oEq (.int (c0 / 56 % 2)) (.int 1) s = .ok (.bl false) s := fun s => by rw [oEq_int]; simp [q]
    obtain ⟨s', K2⟩ := from_k2 ns hb (.sh (.int (turn : Int))) (zs.map MV.str) (tk := tk) (bu := bu0) ok0 tok tk0 nd0 Z8 (by omega) (by omega)
    rw [l0] at K2
    refine ⟨s'.G, ?_⟩
    generalize bu0.map MV.str = b0 at *
    generalize ((zs.drop turn).take (many - turn)).map MV.str = w1 at *
    generalize (zs.take turn).map MV.str = w2 at *
    generalize zs.map MV.str = zl at *
    clear hl hb gc0 z9 znd zok hm2 hturn ht1 htk hbu0 pm l0 nd0 ok0 tk0 tok q
    unfold runB ms_law N_law
    walk_at "ms"
    unfold t_law_15
    rw [shut_eq]
    walk_at "ms"
    unfold t_law_14
    rw [shut_eq]
    walk_at "ms"
    unfold t_law_13
    rw [shut_eq]
    walk_at "ms"
    unfold t_law_12
    rw [shut_eq]
    walk_at "ms"
end Lk54
namespace Lk54
open PySem L2 M
structure Txt (ct : String → Addr) (K : PySem.W.Frag) (mg : Str → Option Value) : Prop where
  b_range : mg "range" = none
  b_len : mg "len" = none
  b_int : mg "int" = none
  b_isinstance : mg "isinstance" = none
  b_list : mg "list" = none
  b_str : mg "str" = none
  g_LETTERS : ∃ t, mg "LETTERS" = some (.str "abcdefghijklmnopqrstuvwxyz" t)
  f_kept_tracks : FldI ct K ["Patch"] "kept_tracks"
  f_kept_buses : FldI ct K ["Patch"] "kept_buses"
  f_kept_sends : FldI ct K ["Patch"] "kept_sends"
  f_kept_outs : FldI ct K ["Patch"] "kept_outs"
  f_parts : FldI ct K ["Chain"] "parts"
  f_states : FldI ct K ["Chain"] "states"
section
variable {ct : String → Addr} {P : Program} {w : World} {K : PySem.W.Frag} {mg : Str → Option Value} {base : Heap}
theorem sc_parts_told : FnScope N_parts_told ["words"] (defScope s_parts_told) := ⟨rfl, rfl, rfl, by decide +kernel, rfl, by decide +kernel, by decide +kernel⟩
theorem d_parts_told (T : Txt ct K mg)  {f : Addr} (cdv : Value) (A : Around) (outer : List Env) (s : Shared) (H : Hp) (E : XK) (hr : Room 0 (A.deeper (PyProof.Rows.envOfC "parts_told" (defScope s_parts_told) s.heap.objs.size f cdv))) :
    ∃ t, PSsM ct (cxOf (L2.CX P w) P w K mg base N_parts_told "parts_told" (defScope s_parts_told) f cdv A outer s H E) (fun cls d _ H => E cls d H) (defBody s_parts_told) t ms_parts_told := ⟨_,
  (b_cons (s_if (t_w (w_or (t_not (t_val (e_isi (T := "list") T.b_isinstance T.b_list (e_var 0)))) (w_or1 (t_cmp op_gt so_cmpI (nomark _) (e_callB call_lenA sc_len T.b_len (a_cons (e_var 0) a_nil)) e_int)))) (b_one s_no) b_nil)
  (b_one (s_ret (e_lc (own := [("word", 1)]) sc_parts_told.nd (i_list (e_var 0)) (blkOk_by (N := N_parts_told) (sc := defScope s_parts_told) (by decide +kernel)) (fun _ _ _ _ _ => ⟨_, (g_name 1 sc_parts_told.nd)⟩) (fun _ _ _ _ _ => ⟨_, q_nil⟩) (fun _ _ _ _ _ => ⟨_, e_no⟩)))))⟩
theorem sc_Chain___init__ : FnScope N_Chain___init__ ["self", "words"] (defScope s_Chain___init__) := ⟨rfl, rfl, rfl, by decide +kernel, rfl, by decide +kernel, by decide +kernel⟩
theorem d_Chain___init__ (T : Txt ct K mg) (I_parts_told : FnI ct P w K mg base "parts_told" 1 mf_parts_told) {f : Addr} (cdv : Value) (A : Around) (outer : List Env) (s : Shared) (H : Hp) (E : XK) (hr : Room 1 (A.deeper (PyProof.Rows.envOfC "Chain.__init__" (defScope s_Chain___init__) s.heap.objs.size f cdv))) :
    ∃ t, PSsM ct (cxOf (L2.CX P w) P w K mg base N_Chain___init__ "Chain.__init__" (defScope s_Chain___init__) f cdv A outer s H E) (fun cls d _ H => E cls d H) (defBody s_Chain___init__) t ms_Chain___init__ := ⟨_,
  (b_cons (s_setF T.f_parts (e_var 0) (e_fn I_parts_told (hr.mono (by decide)) (takes_of rfl rfl rfl rfl) (a_cons (e_var 1) a_nil)))
  (b_one (s_setF T.f_states (e_var 0) (e_lc (own := [("part", 2)]) sc_Chain___init__.nd (i_list (e_fld T.f_parts (e_var 0))) (blkOk_by (N := N_Chain___init__) (sc := defScope s_Chain___init__) (by decide +kernel)) (fun _ _ _ _ _ => ⟨_, (g_name 2 sc_Chain___init__.nd)⟩) (fun _ _ _ _ _ => ⟨_, q_nil⟩) (fun _ _ _ _ _ => ⟨_, e_no⟩)))))⟩
theorem sc_Chain_words : FnScope N_Chain_words ["self"] (defScope s_Chain_words) := ⟨rfl, rfl, rfl, by decide +kernel, rfl, by decide +kernel, by decide +kernel⟩
theorem d_Chain_words (T : Txt ct K mg)  {f : Addr} (cdv : Value) (A : Around) (outer : List Env) (s : Shared) (H : Hp) (E : XK) (hr : Room 0 (A.deeper (PyProof.Rows.envOfC "Chain.words" (defScope s_Chain_words) s.heap.objs.size f cdv))) :
    ∃ t, PSsM ct (cxOf (L2.CX P w) P w K mg base N_Chain_words "Chain.words" (defScope s_Chain_words) f cdv A outer s H E) (fun cls d _ H => E cls d H) (defBody s_Chain_words) t ms_Chain_words := ⟨_,
  (b_one (s_ret (e_lc (own := [("part", 1)]) sc_Chain_words.nd (i_list (e_fld T.f_parts (e_var 0))) (blkOk_by (N := N_Chain_words) (sc := defScope s_Chain_words) (by decide +kernel)) (fun _ _ _ _ _ => ⟨_, (g_name 1 sc_Chain_words.nd)⟩) (fun _ _ _ _ _ => ⟨_, q_nil⟩) (fun _ _ _ _ _ => ⟨_, e_no⟩))))⟩
theorem sc_is_name : FnScope N_is_name ["thing"] (defScope s_is_name) := ⟨rfl, rfl, rfl, by decide +kernel, rfl, by decide +kernel, by decide +kernel⟩
theorem d_is_name (T : Txt ct K mg)  {f : Addr} (cdv : Value) (A : Around) (outer : List Env) (s : Shared) (H : Hp) (E : XK) (hr : Room 0 (A.deeper (PyProof.Rows.envOfC "is_name" (defScope s_is_name) s.heap.objs.size f cdv))) :
    ∃ t, PSsM ct (cxOf (L2.CX P w) P w K mg base N_is_name "is_name" (defScope s_is_name) f cdv A outer s H E) (fun cls d _ H => E cls d H) (defBody s_is_name) t ms_is_name := ⟨_,
  (b_cons (s_if (t_w (w_or (t_not (t_val (e_isi (T := "str") T.b_isinstance T.b_str (e_var 0)))) (w_or (t_cmp op_lt so_cmpI (nomark _) (e_callB call_lenA sc_len T.b_len (a_cons (e_var 0) a_nil)) e_int) (w_or1 (t_cmp op_gt so_cmpI (nomark _) (e_callB call_lenA sc_len T.b_len (a_cons (e_var 0) a_nil)) e_int))))) (b_one (s_ret e_bl)) b_nil)
  (b_cons (s_for (passes_of rfl) (i_str (e_var 0)) (g_name 1 sc_is_name.nd) (b_one (s_if (t_cmp op_notInSg so_notInSg rfl (e_var 1) (e_gstrE T.g_LETTERS)) (b_one (s_ret e_bl)) b_nil)))
  (b_one (s_ret e_bl))))⟩
theorem sc_way_between : FnScope N_way_between ["sends", "first", "last"] (defScope s_way_between) := ⟨rfl, rfl, rfl, by decide +kernel, rfl, by decide +kernel, by decide +kernel⟩
theorem d_way_between (T : Txt ct K mg)  {f : Addr} (cdv : Value) (A : Around) (outer : List Env) (s : Shared) (H : Hp) (E : XK) (hr : Room 0 (A.deeper (PyProof.Rows.envOfC "way_between" (defScope s_way_between) s.heap.objs.size f cdv))) :
    ∃ t, PSsM ct (cxOf (L2.CX P w) P w K mg base N_way_between "way_between" (defScope s_way_between) f cdv A outer s H E) (fun cls d _ H => E cls d H) (defBody s_way_between) t ms_way_between := ⟨_,
  (b_cons (s_set 3 sc_way_between.nd (e_live (f_lst (a_cons (e_lst (a_cons (e_var 1) a_nil)) a_nil))))
  (b_cons (s_set 4 sc_way_between.nd (e_live (f_dic1 (e_var 1) e_bl)))
  (b_cons (s_set 5 sc_way_between.nd e_int)
  (b_cons (s_while (passes_of rfl) (t_cmp op_lt so_cmpI (nomark _) (e_var 5) (e_callB call_lenA sc_len T.b_len (a_cons (e_var 3) a_nil))) (b_cons (s_set 6 sc_way_between.nd (e_ix (e_var 3) (e_var 5)))
  (b_cons (s_set 7 sc_way_between.nd (e_ix (e_var 6) (e_sub (e_callB call_lenA sc_len T.b_len (a_cons (e_var 6) a_nil)) e_int)))
  (b_cons (s_if (t_cmp (op_eqD hr.units) so_eq (nomark _) (e_var 7) (e_var 2)) (b_one (s_ret (e_var 6))) b_nil)
  (b_cons (s_forL (passes_of rfl) (e_var 0) (g_tup (gs_cons (g_name 8 sc_way_between.nd) (gs_cons (g_name 9 sc_way_between.nd) (gs_cons (g_name 10 sc_way_between.nd) gs_nil)))) (b_one (s_if (t_w (w_and (t_cmp (op_eqD hr.units) so_eq (nomark _) (e_var 8) (e_var 7)) (w_and1 (t_notInD hr.units (e_var 9) (e_var 4))))) (b_cons (s_putD hr.units e_bl (e_var 4) (e_var 9))
  (b_one (s_appL (e_var 3) (e_add (e_var 6) (e_lst (a_cons (e_var 9) a_nil)))))) b_nil)))
  (b_one (s_set 5 sc_way_between.nd (e_add (e_var 5) e_int))))))))
  (b_one (s_ret (e_lst a_nil)))))))⟩
theorem sc_Patch___init__ : FnScope N_Patch___init__ ["self"] (defScope s_Patch___init__) := ⟨rfl, rfl, rfl, by decide +kernel, rfl, by decide +kernel, by decide +kernel⟩
theorem d_Patch___init__ (T : Txt ct K mg)  {f : Addr} (cdv : Value) (A : Around) (outer : List Env) (s : Shared) (H : Hp) (E : XK) (hr : Room 0 (A.deeper (PyProof.Rows.envOfC "Patch.__init__" (defScope s_Patch___init__) s.heap.objs.size f cdv))) :
    ∃ t, PSsM ct (cxOf (L2.CX P w) P w K mg base N_Patch___init__ "Patch.__init__" (defScope s_Patch___init__) f cdv A outer s H E) (fun cls d _ H => E cls d H) (defBody s_Patch___init__) t ms_Patch___init__ := ⟨_,
  (b_cons (s_setF T.f_kept_tracks (e_var 0) (e_live (f_lst a_nil)))
  (b_cons (s_setF T.f_kept_buses (e_var 0) (e_live (f_lst a_nil)))
  (b_cons (s_setF T.f_kept_sends (e_var 0) (e_live (f_lst a_nil)))
  (b_one (s_setF T.f_kept_outs (e_var 0) (e_live (f_lst a_nil)))))))⟩
theorem sc_Patch_asked_new : FnScope N_Patch_asked_new ["self", "name"] (defScope s_Patch_asked_new) := ⟨rfl, rfl, rfl, by decide +kernel, rfl, by decide +kernel, by decide +kernel⟩
theorem d_Patch_asked_new (T : Txt ct K mg) (I_is_name : FnI ct P w K mg base "is_name" 1 mf_is_name) {f : Addr} (cdv : Value) (A : Around) (outer : List Env) (s : Shared) (H : Hp) (E : XK) (hr : Room 1 (A.deeper (PyProof.Rows.envOfC "Patch.asked_new" (defScope s_Patch_asked_new) s.heap.objs.size f cdv))) :
    ∃ t, PSsM ct (cxOf (L2.CX P w) P w K mg base N_Patch_asked_new "Patch.asked_new" (defScope s_Patch_asked_new) f cdv A outer s H E) (fun cls d _ H => E cls d H) (defBody s_Patch_asked_new) t ms_Patch_asked_new := ⟨_,
  (b_cons (s_if (t_not (t_val (e_fn I_is_name (hr.mono (by decide)) (takes_of rfl rfl rfl rfl) (a_cons (e_var 1) a_nil)))) (b_one s_no) b_nil)
  (b_cons (s_if (t_w (w_or (t_cmp op_in_seq so_in rfl (e_var 1) (e_fld T.f_kept_tracks (e_var 0))) (w_or1 (t_cmp op_in_seq so_in rfl (e_var 1) (e_fld T.f_kept_buses (e_var 0)))))) (b_one s_no) b_nil)
  (b_one (s_ret (e_var 1)))))⟩
theorem sc_Patch_track : FnScope N_Patch_track ["self", "name"] (defScope s_Patch_track) := ⟨rfl, rfl, rfl, by decide +kernel, rfl, by decide +kernel, by decide +kernel⟩
theorem d_Patch_track (T : Txt ct K mg) (T_asked_new : MethT ct P w K mg base "asked_new" 2 tb_asked_new) {f : Addr} (cdv : Value) (A : Around) (outer : List Env) (s : Shared) (H : Hp) (E : XK) (hr : Room 2 (A.deeper (PyProof.Rows.envOfC "Patch.track" (defScope s_Patch_track) s.heap.objs.size f cdv))) :
    ∃ t, PSsM ct (cxOf (L2.CX P w) P w K mg base N_Patch_track "Patch.track" (defScope s_Patch_track) f cdv A outer s H E) (fun cls d _ H => E cls d H) (defBody s_Patch_track) t ms_Patch_track := ⟨_,
  (b_one (s_appL (e_fld T.f_kept_tracks (e_var 0)) (e_meth T_asked_new (hr.mono (by decide)) (takes_of rfl rfl rfl rfl) (e_var 0) (a_cons (e_var 1) a_nil))))⟩
theorem sc_Patch_bus : FnScope N_Patch_bus ["self", "name"] (defScope s_Patch_bus) := ⟨rfl, rfl, rfl, by decide +kernel, rfl, by decide +kernel, by decide +kernel⟩
theorem d_Patch_bus (T : Txt ct K mg) (T_asked_new : MethT ct P w K mg base "asked_new" 2 tb_asked_new) {f : Addr} (cdv : Value) (A : Around) (outer : List Env) (s : Shared) (H : Hp) (E : XK) (hr : Room 2 (A.deeper (PyProof.Rows.envOfC "Patch.bus" (defScope s_Patch_bus) s.heap.objs.size f cdv))) :
    ∃ t, PSsM ct (cxOf (L2.CX P w) P w K mg base N_Patch_bus "Patch.bus" (defScope s_Patch_bus) f cdv A outer s H E) (fun cls d _ H => E cls d H) (defBody s_Patch_bus) t ms_Patch_bus := ⟨_,
  (b_one (s_appL (e_fld T.f_kept_buses (e_var 0)) (e_meth T_asked_new (hr.mono (by decide)) (takes_of rfl rfl rfl rfl) (e_var 0) (a_cons (e_var 1) a_nil))))⟩
theorem sc_Patch_send : FnScope N_Patch_send ["self", "source", "bus", "words"] (defScope s_Patch_send) := ⟨rfl, rfl, rfl, by decide +kernel, rfl, by decide +kernel, by decide +kernel⟩
theorem d_Patch_send (T : Txt ct K mg) (I_way_between : FnI ct P w K mg base "way_between" 1 mf_way_between) (T_words : MethT ct P w K mg base "words" 1 tb_words) (C_Chain : MakeI ct P w K mg base "Chain" "Chain" 2 mf_Chain___init__) {f : Addr} (cdv : Value) (A : Around) (outer : List Env) (s : Shared) (H : Hp) (E : XK) (hr : Room 3 (A.deeper (PyProof.Rows.envOfC "Patch.send" (defScope s_Patch_send) s.heap.objs.size f cdv))) :
    ∃ t, PSsM ct (cxOf (L2.CX P w) P w K mg base N_Patch_send "Patch.send" (defScope s_Patch_send) f cdv A outer s H E) (fun cls d _ H => E cls d H) (defBody s_Patch_send) t ms_Patch_send := ⟨_,
  (b_cons (s_if (t_w (w_and (t_cmp op_notIn_seq so_notIn rfl (e_var 1) (e_fld T.f_kept_tracks (e_var 0))) (w_and1 (t_cmp op_notIn_seq so_notIn rfl (e_var 1) (e_fld T.f_kept_buses (e_var 0)))))) (b_one s_no) b_nil)
  (b_cons (s_if (t_cmp op_notIn_seq so_notIn rfl (e_var 2) (e_fld T.f_kept_buses (e_var 0))) (b_one s_no) b_nil)
  (b_cons (s_set 4 sc_Patch_send.nd (e_mkF C_Chain (hr.mono (by decide)) (takes_of rfl rfl rfl rfl) (a_cons (e_var 3) a_nil)))
  (b_cons (s_set 5 sc_Patch_send.nd (e_fn I_way_between (hr.mono (by decide)) (takes_of rfl rfl rfl rfl) (a_cons (e_fld T.f_kept_sends (e_var 0)) (a_cons (e_var 2) (a_cons (e_var 1) a_nil)))))
  (b_cons (s_if (t_cmp (op_neD hr.units) so_ne (nomark _) (e_var 5) (e_lst a_nil)) (b_one s_no) b_nil)
  (b_one (s_appL (e_fld T.f_kept_sends (e_var 0)) (e_tup (a_cons (e_var 1) (a_cons (e_var 2) (a_cons (e_meth0 T_words (hr.mono (by decide)) (takes_of rfl rfl rfl rfl) (e_var 4)) a_nil)))))))))))⟩
theorem sc_Patch_is_ready : FnScope N_Patch_is_ready ["self", "bus", "told"] (defScope s_Patch_is_ready) := ⟨rfl, rfl, rfl, by decide +kernel, rfl, by decide +kernel, by decide +kernel⟩
theorem d_Patch_is_ready (T : Txt ct K mg)  {f : Addr} (cdv : Value) (A : Around) (outer : List Env) (s : Shared) (H : Hp) (E : XK) (hr : Room 0 (A.deeper (PyProof.Rows.envOfC "Patch.is_ready" (defScope s_Patch_is_ready) s.heap.objs.size f cdv))) :
    ∃ t, PSsM ct (cxOf (L2.CX P w) P w K mg base N_Patch_is_ready "Patch.is_ready" (defScope s_Patch_is_ready) f cdv A outer s H E) (fun cls d _ H => E cls d H) (defBody s_Patch_is_ready) t ms_Patch_is_ready := ⟨_,
  (b_cons (s_forL (passes_of rfl) (e_fld T.f_kept_sends (e_var 0)) (g_tup (gs_cons (g_name 3 sc_Patch_is_ready.nd) (gs_cons (g_name 4 sc_Patch_is_ready.nd) (gs_cons (g_name 5 sc_Patch_is_ready.nd) gs_nil)))) (b_one (s_if (t_w (w_and (t_cmp (op_eqD hr.units) so_eq (nomark _) (e_var 4) (e_var 1)) (w_and (t_cmp op_in_seq so_in rfl (e_var 3) (e_fld T.f_kept_buses (e_var 0))) (w_and1 (t_cmp op_notIn_seq so_notIn rfl (e_var 3) (e_var 2)))))) (b_one (s_ret e_bl)) b_nil)))
  (b_one (s_ret e_bl)))⟩
theorem sc_Patch_order : FnScope N_Patch_order ["self"] (defScope s_Patch_order) := ⟨rfl, rfl, rfl, by decide +kernel, rfl, by decide +kernel, by decide +kernel⟩
theorem d_Patch_order (T : Txt ct K mg) (T_is_ready : MethT ct P w K mg base "is_ready" 1 tb_is_ready) {f : Addr} (cdv : Value) (A : Around) (outer : List Env) (s : Shared) (H : Hp) (E : XK) (hr : Room 1 (A.deeper (PyProof.Rows.envOfC "Patch.order" (defScope s_Patch_order) s.heap.objs.size f cdv))) :
    ∃ t, PSsM ct (cxOf (L2.CX P w) P w K mg base N_Patch_order "Patch.order" (defScope s_Patch_order) f cdv A outer s H E) (fun cls d _ H => E cls d H) (defBody s_Patch_order) t ms_Patch_order := ⟨_,
  (b_cons (s_set 1 sc_Patch_order.nd (e_live (f_lst a_nil)))
  (b_cons (s_while (passes_of rfl) (t_cmp op_lt so_cmpI (nomark _) (e_callB call_lenA sc_len T.b_len (a_cons (e_var 1) a_nil)) (e_callB call_lenA sc_len T.b_len (a_cons (e_fld T.f_kept_buses (e_var 0)) a_nil))) (b_cons (s_setLcL 3 (own := [("bus", 2)]) sc_Patch_order.nd (e_fld T.f_kept_buses (e_var 0)) (blkOk_by (N := N_Patch_order) (sc := defScope s_Patch_order) (by decide +kernel)) (fun _ _ _ _ _ => ⟨_, (g_name 2 sc_Patch_order.nd)⟩) (fun _ _ _ _ _ => ⟨_, (q_one (t_w (w_and (t_cmp op_notIn_seq so_notIn rfl (e_var 2) (e_var 1)) (w_and1 (t_val (e_meth T_is_ready (hr.mono (by decide)) takes0 (e_var 0) (a_cons (e_var 2) (a_cons (e_var 1) a_nil))))))))⟩) (fun _ _ _ _ _ => ⟨_, (e_var 2)⟩))
  (b_one (s_appL (e_var 1) (e_ix (e_var 3) e_int)))))
  (b_one (s_ret (e_var 1)))))⟩
theorem sc__law_cell_at : FnScope N__law_cell_at ["_law_script", "_law_k"] (defScope s__law_cell_at) := ⟨rfl, rfl, rfl, by decide +kernel, rfl, by decide +kernel, by decide +kernel⟩
theorem d__law_cell_at (T : Txt ct K mg)  {f : Addr} (cdv : Value) (A : Around) (outer : List Env) (s : Shared) (H : Hp) (E : XK) (hr : Room 0 (A.deeper (PyProof.Rows.envOfC "_law_cell_at" (defScope s__law_cell_at) s.heap.objs.size f cdv))) :
    ∃ t, PSsM ct (cxOf (L2.CX P w) P w K mg base N__law_cell_at "_law_cell_at" (defScope s__law_cell_at) f cdv A outer s H E) (fun cls d _ H => E cls d H) (defBody s__law_cell_at) t ms__law_cell_at := ⟨_,
  (b_cons (s_if (t_cmp op_lt so_cmpI (nomark _) (e_var 1) (e_callB call_lenA sc_len T.b_len (a_cons (e_var 0) a_nil))) (b_one (s_ret (e_ix (e_var 0) (e_var 1)))) b_nil)
  (b_one (s_ret e_int)))⟩
theorem sc__law_names : FnScope N__law_names ["_law_cell"] (defScope s__law_names) := ⟨rfl, rfl, rfl, by decide +kernel, rfl, by decide +kernel, by decide +kernel⟩
theorem d__law_names (T : Txt ct K mg)  {f : Addr} (cdv : Value) (A : Around) (outer : List Env) (s : Shared) (H : Hp) (E : XK) (hr : Room 0 (A.deeper (PyProof.Rows.envOfC "_law_names" (defScope s__law_names) s.heap.objs.size f cdv))) :
    ∃ t, PSsM ct (cxOf (L2.CX P w) P w K mg base N__law_names "_law_names" (defScope s__law_names) f cdv A outer s H E) (fun cls d _ H => E cls d H) (defBody s__law_names) t ms__law_names := ⟨_,
  (b_cons (s_set 1 sc__law_names.nd e_str)
  (b_cons (s_set 2 sc__law_names.nd (e_mod (e_mul (e_var 0) e_int) (e_add (e_pow e_int e_int) e_int)))
  (b_cons (s_setLc 4 (own := [("_law_k", 3)]) sc__law_names.nd (i_r1 T.b_range (a_cons (e_add e_int (e_mod (e_var 2) e_int)) a_nil)) (blkOk_by (N := N__law_names) (sc := defScope s__law_names) (by decide +kernel)) (fun _ _ _ _ _ => ⟨_, (g_name 3 sc__law_names.nd)⟩) (fun _ _ _ _ _ => ⟨_, q_nil⟩) (fun _ _ _ _ _ => ⟨_, (e_mod (e_div (e_var 2) (e_add (e_mul (e_var 3) (e_var 3)) e_int)) e_int)⟩))
  (b_cons (s_set 5 sc__law_names.nd (e_mod (e_div (e_var 2) e_int) (e_callB call_lenA sc_len T.b_len (a_cons (e_var 4) a_nil))))
  (b_cons (s_setO 6 sc__law_names.nd (f_lst a_nil))
  (b_cons (s_for (passes_of rfl) (i_r1 T.b_range (a_cons e_int a_nil)) (g_name 3 sc__law_names.nd) (b_cons (s_set 7 sc__law_names.nd e_str)
  (b_cons (s_for (passes_of rfl) (i_r1 T.b_range (a_cons (e_callB call_lenA sc_len T.b_len (a_cons (e_var 4) a_nil)) a_nil)) (g_name 8 sc__law_names.nd) (b_one (s_set 7 sc__law_names.nd (e_add (e_var 7) (e_ix (e_var 1) (e_mod (e_add (e_ix (e_var 4) (e_var 8)) (e_mul (e_var 3) (e_callTy call_int1 sc_int T.b_int (a_cons (e_cmp (op_eqD hr.units) so_eq (nomark _) (e_var 8) (e_var 5)) a_nil)))) e_int))))))
  (b_one (s_app 6 (e_var 7))))))
  (b_one (s_ret (e_varF 6)))))))))⟩
theorem sc__law_leads : FnScope N__law_leads ["_law_sends", "_law_first", "_law_last"] (defScope s__law_leads) := ⟨rfl, rfl, rfl, by decide +kernel, rfl, by decide +kernel, by decide +kernel⟩
theorem d__law_leads (T : Txt ct K mg)  {f : Addr} (cdv : Value) (A : Around) (outer : List Env) (s : Shared) (H : Hp) (E : XK) (hr : Room 0 (A.deeper (PyProof.Rows.envOfC "_law_leads" (defScope s__law_leads) s.heap.objs.size f cdv))) :
    ∃ t, PSsM ct (cxOf (L2.CX P w) P w K mg base N__law_leads "_law_leads" (defScope s__law_leads) f cdv A outer s H E) (fun cls d _ H => E cls d H) (defBody s__law_leads) t ms__law_leads := ⟨_,
  (b_cons (s_set 3 sc__law_leads.nd (e_live (f_lst (a_cons (e_var 1) a_nil))))
  (b_cons (s_set 4 sc__law_leads.nd e_int)
  (b_cons (s_while (passes_of rfl) (t_cmp op_lt so_cmpI (nomark _) (e_var 4) (e_callB call_lenA sc_len T.b_len (a_cons (e_var 3) a_nil))) (b_cons (s_forL (passes_of rfl) (e_var 0) (g_tup (gs_cons (g_name 5 sc__law_leads.nd) (gs_cons (g_name 6 sc__law_leads.nd) gs_nil))) (b_one (s_if (t_w (w_and (t_cmp (op_eqD hr.units) so_eq (nomark _) (e_var 5) (e_ix (e_var 3) (e_var 4))) (w_and1 (t_cmp op_notIn_seq so_notIn rfl (e_var 6) (e_var 3))))) (b_one (s_appL (e_var 3) (e_var 6))) b_nil)))
  (b_one (s_set 4 sc__law_leads.nd (e_add (e_var 4) e_int)))))
  (b_one (s_ret (e_cmp op_in_seq so_in rfl (e_var 2) (e_var 3)))))))⟩
theorem sc__law_is_order : FnScope N__law_is_order ["_law_buses", "_law_sends", "_law_order"] (defScope s__law_is_order) := ⟨rfl, rfl, rfl, by decide +kernel, rfl, by decide +kernel, by decide +kernel⟩
theorem d__law_is_order (T : Txt ct K mg)  {f : Addr} (cdv : Value) (A : Around) (outer : List Env) (s : Shared) (H : Hp) (E : XK) (hr : Room 0 (A.deeper (PyProof.Rows.envOfC "_law_is_order" (defScope s__law_is_order) s.heap.objs.size f cdv))) :
    ∃ t, PSsM ct (cxOf (L2.CX P w) P w K mg base N__law_is_order "_law_is_order" (defScope s__law_is_order) f cdv A outer s H E) (fun cls d _ H => E cls d H) (defBody s__law_is_order) t ms__law_is_order := ⟨_,
  (b_cons (s_if (t_w (w_or (t_not (t_val (e_isi (T := "list") T.b_isinstance T.b_list (e_var 2)))) (w_or1 (t_cmp (op_neD hr.units) so_ne (nomark _) (e_callB call_lenA sc_len T.b_len (a_cons (e_var 2) a_nil)) (e_callB call_lenA sc_len T.b_len (a_cons (e_var 0) a_nil)))))) (b_one (s_ret e_bl)) b_nil)
  (b_cons (s_for (passes_of rfl) (i_r1 T.b_range (a_cons (e_callB call_lenA sc_len T.b_len (a_cons (e_var 2) a_nil)) a_nil)) (g_name 3 sc__law_is_order.nd) (b_cons (s_setO 4 sc__law_is_order.nd (f_lst a_nil))
  (b_cons (s_for (passes_of rfl) (i_list (e_var 0)) (g_name 5 sc__law_is_order.nd) (b_cons (s_setLcL 8 (own := [("_law_source", 6), ("_law_to", 7)]) sc__law_is_order.nd (e_var 1) (blkOk_by (N := N__law_is_order) (sc := defScope s__law_is_order) (by decide +kernel)) (fun _ _ _ _ _ => ⟨_, (g_tup (gs_cons (g_name 6 sc__law_is_order.nd) (gs_cons (g_name 7 sc__law_is_order.nd) gs_nil)))⟩) (fun _ _ _ _ _ => ⟨_, (q_one (t_w (w_and (t_cmp (op_eqD hr.units) so_eq (nomark _) (e_var 7) (e_var 5)) (w_and1 (t_cmp op_in_seq so_in rfl (e_var 6) (e_var 0))))))⟩) (fun _ _ _ _ _ => ⟨_, (e_var 6)⟩))
  (b_one (s_if (t_w (w_and (t_cmp op_notIn_seq so_notIn rfl (e_var 5) (e_sl (e_var 2) o_none (o_some (e_var 3)))) (w_and1 (t_cmp (op_eqD hr.units) so_eq (nomark _) (e_lc (own := [("_law_source", 6)]) sc__law_is_order.nd (i_list (e_var 8)) (blkOk_by (N := N__law_is_order) (sc := defScope s__law_is_order) (by decide +kernel)) (fun _ _ _ _ _ => ⟨_, (g_name 6 sc__law_is_order.nd)⟩) (fun _ _ _ _ _ => ⟨_, (q_one (t_cmp op_notIn_seq so_notIn rfl (e_var 6) (e_sl (e_var 2) o_none (o_some (e_var 3)))))⟩) (fun _ _ _ _ _ => ⟨_, (e_var 6)⟩)) (e_lst a_nil))))) (b_one (s_app 4 (e_var 5))) b_nil))))
  (b_one (s_if (t_w (w_or (t_cmp (op_eqD hr.units) so_eq (nomark _) (e_varF 4) (e_lst a_nil)) (w_or1 (t_cmp (op_neD hr.units) so_ne (nomark _) (e_ix (e_var 2) (e_var 3)) (e_ixO 4 e_int))))) (b_one (s_ret e_bl)) b_nil)))))
  (b_one (s_ret e_bl))))⟩
theorem sc_law : FnScope N_law ["_law_script"] (defScope s_law) := ⟨rfl, rfl, rfl, by decide +kernel, rfl, by decide +kernel, by decide +kernel⟩
theorem d_law (T : Txt ct K mg) (I__law_names : FnI ct P w K mg base "_law_names" 1 mf__law_names) (I__law_cell_at : FnI ct P w K mg base "_law_cell_at" 1 mf__law_cell_at) (I__law_leads : FnI ct P w K mg base "_law_leads" 1 mf__law_leads) (I__law_is_order : FnI ct P w K mg base "_law_is_order" 1 mf__law_is_order) (T_bus : MethT ct P w K mg base "bus" 3 tb_bus) (T_track : MethT ct P w K mg base "track" 3 tb_track) (T_send : MethT ct P w K mg base "send" 4 tb_send) (T_order : MethT ct P w K mg base "order" 2 tb_order) (C_Patch : MakeI ct P w K mg base "Patch" "Patch" 1 mf_Patch___init__) {f : Addr} (cdv : Value) (A : Around) (outer : List Env) (s : Shared) (H : Hp) (E : XK) (hr : Room 4 (A.deeper (PyProof.Rows.envOfC "law" (defScope s_law) s.heap.objs.size f cdv))) :
    ∃ t, PSsM ct (cxOf (L2.CX P w) P w K mg base N_law "law" (defScope s_law) f cdv A outer s H E) (fun cls d _ H => E cls d H) (defBody s_law) t ms_law := ⟨_,
  (b_cons (s_set 1 sc_law.nd (e_fn I__law_names (hr.mono (by decide)) (takes_of rfl rfl rfl rfl) (a_cons (e_fn I__law_cell_at (hr.mono (by decide)) (takes_of rfl rfl rfl rfl) (a_cons (e_var 0) (a_cons e_int a_nil))) a_nil)))
  (b_shut (b_cons (s_set 2 sc_law.nd (e_add e_int (e_mod (e_fn I__law_cell_at (hr.mono (by decide)) (takes_of rfl rfl rfl rfl) (a_cons (e_var 0) (a_cons e_int a_nil))) e_int)))
  (b_shut (b_cons (s_set 3 sc_law.nd (e_mod (e_div (e_fn I__law_cell_at (hr.mono (by decide)) (takes_of rfl rfl rfl rfl) (a_cons (e_var 0) (a_cons e_int a_nil))) e_int) (e_var 2)))
  (b_shut (b_cons (s_set 4 sc_law.nd (e_add (e_sl (e_var 1) (o_some (e_var 3)) (o_some (e_var 2))) (e_sl (e_var 1) o_none (o_some (e_var 3)))))
  (b_shut (b_cons (s_if (t_cmp (op_eqD hr.units) so_eq (nomark _) (e_mod (e_div (e_fn I__law_cell_at (hr.mono (by decide)) (takes_of rfl rfl rfl rfl) (a_cons (e_var 0) (a_cons e_int a_nil))) e_int) e_int) e_int) (b_one (s_set 4 sc_law.nd (e_revSl (e_var 4)))) b_nil)
  (b_shut (b_cons (s_set 5 sc_law.nd (e_mk0 C_Patch (hr.mono (by decide)) (takes_of rfl rfl rfl rfl)))
  (b_shut (b_cons (s_for (passes_of rfl) (i_list (e_sl (e_var 4) o_none (o_some e_int))) (g_name 6 sc_law.nd) (b_one (s_expr (e_meth T_bus (hr.mono (by decide)) (takes_of rfl rfl rfl rfl) (e_var 5) (a_cons (e_var 6) a_nil)))))
  (b_shut (b_cons (s_expr (e_meth T_track (hr.mono (by decide)) (takes_of rfl rfl rfl rfl) (e_var 5) (a_cons (e_ix (e_var 1) e_int) a_nil)))
  (b_shut (b_cons (s_for (passes_of rfl) (i_list (e_sl (e_var 4) (o_some e_int) o_none)) (g_name 6 sc_law.nd) (b_one (s_expr (e_meth T_bus (hr.mono (by decide)) (takes_of rfl rfl rfl rfl) (e_var 5) (a_cons (e_var 6) a_nil)))))
  (b_shut (b_cons (s_set 7 sc_law.nd (e_live (f_lst a_nil)))
  (b_shut (b_cons (s_for (passes_of rfl) (i_list (e_sl (e_var 0) (o_some e_int) (o_some e_int))) (g_name 8 sc_law.nd) (b_cons (s_set 9 sc_law.nd (e_mod (e_mul (e_var 8) e_int) (e_add (e_pow e_int e_int) e_int)))
  (b_shut (b_cons (s_set 10 sc_law.nd (e_ix (e_add (e_var 4) (e_lst (a_cons (e_ix (e_var 1) e_int) a_nil))) (e_mod (e_var 9) (e_add (e_var 2) e_int))))
  (b_shut (b_cons (s_set 6 sc_law.nd (e_ix (e_var 4) (e_mod (e_div (e_var 9) e_int) (e_var 2))))
  (b_shut (b_cons (s_if (t_w (w_or (t_cmp (op_eqD hr.units) so_eq (nomark _) (e_var 10) (e_ix (e_var 1) e_int)) (w_or1 (t_not (t_val (e_fn I__law_leads (hr.mono (by decide)) (takes_of rfl rfl rfl rfl) (a_cons (e_var 7) (a_cons (e_var 6) (a_cons (e_var 10) a_nil))))))))) (b_cons (s_expr (e_meth T_send (hr.mono (by decide)) (takes_of rfl rfl rfl rfl) (e_var 5) (a_cons (e_var 10) (a_cons (e_var 6) (a_cons (e_lst a_nil) a_nil)))))
  (b_one (s_appL (e_var 7) (e_tup (a_cons (e_var 10) (a_cons (e_var 6) a_nil)))))) b_nil)
  (b_shut (b_cons (s_set 11 sc_law.nd (e_meth0 T_order (hr.mono (by decide)) (takes_of rfl rfl rfl rfl) (e_var 5)))
  (b_shut (b_cons (s_if (t_not (t_val (e_fn I__law_is_order (hr.mono (by decide)) (takes_of rfl rfl rfl rfl) (a_cons (e_var 4) (a_cons (e_var 7) (a_cons (e_var 11) a_nil)))))) (b_one (s_ret e_bl)) b_nil)
  (b_shut (b_one (s_appL (e_var 11) (e_ix (e_var 1) e_int))))))))))))))))
  (b_shut (b_one (s_ret (e_fn I__law_is_order (hr.mono (by decide)) (takes_of rfl rfl rfl rfl) (a_cons (e_var 4) (a_cons (e_var 7) (a_cons (e_meth0 T_order (hr.mono (by decide)) (takes_of rfl rfl rfl rfl) (e_var 5)) a_nil))))))))))))))))))))))))))))⟩
theorem ok_parts_told (T : Txt ct K mg)  {f : Addr} {fd : FuncData} (F : Fun K "parts_told" "parts_told" s_parts_told f fd) : FnOk P w K mg base (L2.CX P w) 1 f fd ["words"] (spM ⟨K, ct⟩ mf_parts_told) :=
  fnM ct mf_parts_told F sc_parts_told (by first | exact len_parts_told | exact fn1_len | exact sF1_len | exact sL1_len) ms_parts_told (fun cdv A outer s H E hr => d_parts_told T  cdv A outer s H E hr) run_parts_told
theorem ok_Chain___init__ (T : Txt ct K mg) (I_parts_told : FnI ct P w K mg base "parts_told" 1 mf_parts_told) {f : Addr} {fd : FuncData} (F : Fun K "__init__" "Chain.__init__" s_Chain___init__ f fd) : FnOk P w K mg base (L2.CX P w) 2 f fd ["self", "words"] (spM ⟨K, ct⟩ mf_Chain___init__) :=
  fnM ct mf_Chain___init__ F sc_Chain___init__ (by first | exact len_Chain___init__ | exact fn2_len | exact sF2_len | exact sL2_len) ms_Chain___init__ (fun cdv A outer s H E hr => d_Chain___init__ T I_parts_told cdv A outer s H E hr) run_Chain___init__
theorem ok_Chain_words (T : Txt ct K mg)  {f : Addr} {fd : FuncData} (F : Fun K "words" "Chain.words" s_Chain_words f fd) : FnOk P w K mg base (L2.CX P w) 1 f fd ["self"] (spM ⟨K, ct⟩ mf_Chain_words) :=
  fnM ct mf_Chain_words F sc_Chain_words (by first | exact len_Chain_words | exact fn1_len | exact sF1_len | exact sL1_len) ms_Chain_words (fun cdv A outer s H E hr => d_Chain_words T  cdv A outer s H E hr) run_Chain_words
theorem ok_is_name (T : Txt ct K mg)  {f : Addr} {fd : FuncData} (F : Fun K "is_name" "is_name" s_is_name f fd) : FnOk P w K mg base (L2.CX P w) 1 f fd ["thing"] (spM ⟨K, ct⟩ mf_is_name) :=
  fnM ct mf_is_name F sc_is_name (by first | exact len_is_name | exact fn1_len | exact sF1_len | exact sL1_len) ms_is_name (fun cdv A outer s H E hr => d_is_name T  cdv A outer s H E hr) run_is_name
theorem ok_way_between (T : Txt ct K mg)  {f : Addr} {fd : FuncData} (F : Fun K "way_between" "way_between" s_way_between f fd) : FnOk P w K mg base (L2.CX P w) 1 f fd ["sends", "first", "last"] (spM ⟨K, ct⟩ mf_way_between) :=
  fnM ct mf_way_between F sc_way_between (by first | exact len_way_between | exact fn3_len | exact sF3_len | exact sL3_len) ms_way_between (fun cdv A outer s H E hr => d_way_between T  cdv A outer s H E hr) run_way_between
theorem ok_Patch___init__ (T : Txt ct K mg)  {f : Addr} {fd : FuncData} (F : Fun K "__init__" "Patch.__init__" s_Patch___init__ f fd) : FnOk P w K mg base (L2.CX P w) 1 f fd ["self"] (spM ⟨K, ct⟩ mf_Patch___init__) :=
  fnM ct mf_Patch___init__ F sc_Patch___init__ (by first | exact len_Patch___init__ | exact fn1_len | exact sF1_len | exact sL1_len) ms_Patch___init__ (fun cdv A outer s H E hr => d_Patch___init__ T  cdv A outer s H E hr) run_Patch___init__
theorem ok_Patch_asked_new (T : Txt ct K mg) (I_is_name : FnI ct P w K mg base "is_name" 1 mf_is_name) {f : Addr} {fd : FuncData} (F : Fun K "asked_new" "Patch.asked_new" s_Patch_asked_new f fd) : FnOk P w K mg base (L2.CX P w) 2 f fd ["self", "name"] (spM ⟨K, ct⟩ mf_Patch_asked_new) :=
  fnM ct mf_Patch_asked_new F sc_Patch_asked_new (by first | exact len_Patch_asked_new | exact fn2_len | exact sF2_len | exact sL2_len) ms_Patch_asked_new (fun cdv A outer s H E hr => d_Patch_asked_new T I_is_name cdv A outer s H E hr) run_Patch_asked_new
theorem ok_Patch_track (T : Txt ct K mg) (T_asked_new : MethT ct P w K mg base "asked_new" 2 tb_asked_new) {f : Addr} {fd : FuncData} (F : Fun K "track" "Patch.track" s_Patch_track f fd) : FnOk P w K mg base (L2.CX P w) 3 f fd ["self", "name"] (spM ⟨K, ct⟩ mf_Patch_track) :=
  fnM ct mf_Patch_track F sc_Patch_track (by first | exact len_Patch_track | exact fn2_len | exact sF2_len | exact sL2_len) ms_Patch_track (fun cdv A outer s H E hr => d_Patch_track T T_asked_new cdv A outer s H E hr) run_Patch_track
theorem ok_Patch_bus (T : Txt ct K mg) (T_asked_new : MethT ct P w K mg base "asked_new" 2 tb_asked_new) {f : Addr} {fd : FuncData} (F : Fun K "bus" "Patch.bus" s_Patch_bus f fd) : FnOk P w K mg base (L2.CX P w) 3 f fd ["self", "name"] (spM ⟨K, ct⟩ mf_Patch_bus) :=
  fnM ct mf_Patch_bus F sc_Patch_bus (by first | exact len_Patch_bus | exact fn2_len | exact sF2_len | exact sL2_len) ms_Patch_bus (fun cdv A outer s H E hr => d_Patch_bus T T_asked_new cdv A outer s H E hr) run_Patch_bus
theorem ok_Patch_send (T : Txt ct K mg) (I_way_between : FnI ct P w K mg base "way_between" 1 mf_way_between) (T_words : MethT ct P w K mg base "words" 1 tb_words) (C_Chain : MakeI ct P w K mg base "Chain" "Chain" 2 mf_Chain___init__) {f : Addr} {fd : FuncData} (F : Fun K "send" "Patch.send" s_Patch_send f fd) : FnOk P w K mg base (L2.CX P w) 4 f fd ["self", "source", "bus", "words"] (spM ⟨K, ct⟩ mf_Patch_send) :=
  fnM ct mf_Patch_send F sc_Patch_send (by first | exact len_Patch_send | exact fn4_len | exact sF4_len | exact sL4_len) ms_Patch_send (fun cdv A outer s H E hr => d_Patch_send T I_way_between T_words C_Chain cdv A outer s H E hr) run_Patch_send
theorem ok_Patch_is_ready (T : Txt ct K mg)  {f : Addr} {fd : FuncData} (F : Fun K "is_ready" "Patch.is_ready" s_Patch_is_ready f fd) : FnOk P w K mg base (L2.CX P w) 1 f fd ["self", "bus", "told"] (spM ⟨K, ct⟩ mf_Patch_is_ready) :=
  fnM ct mf_Patch_is_ready F sc_Patch_is_ready (by first | exact len_Patch_is_ready | exact fn3_len | exact sF3_len | exact sL3_len) ms_Patch_is_ready (fun cdv A outer s H E hr => d_Patch_is_ready T  cdv A outer s H E hr) run_Patch_is_ready
theorem ok_Patch_order (T : Txt ct K mg) (T_is_ready : MethT ct P w K mg base "is_ready" 1 tb_is_ready) {f : Addr} {fd : FuncData} (F : Fun K "order" "Patch.order" s_Patch_order f fd) : FnOk P w K mg base (L2.CX P w) 2 f fd ["self"] (spM ⟨K, ct⟩ mf_Patch_order) :=
  fnM ct mf_Patch_order F sc_Patch_order (by first | exact len_Patch_order | exact fn1_len | exact sF1_len | exact sL1_len) ms_Patch_order (fun cdv A outer s H E hr => d_Patch_order T T_is_ready cdv A outer s H E hr) run_Patch_order
theorem ok__law_cell_at (T : Txt ct K mg)  {f : Addr} {fd : FuncData} (F : Fun K "_law_cell_at" "_law_cell_at" s__law_cell_at f fd) : FnOk P w K mg base (L2.CX P w) 1 f fd ["_law_script", "_law_k"] (spM ⟨K, ct⟩ mf__law_cell_at) :=
  fnM ct mf__law_cell_at F sc__law_cell_at (by first | exact len__law_cell_at | exact fn2_len | exact sF2_len | exact sL2_len) ms__law_cell_at (fun cdv A outer s H E hr => d__law_cell_at T  cdv A outer s H E hr) run__law_cell_at
theorem ok__law_names (T : Txt ct K mg)  {f : Addr} {fd : FuncData} (F : Fun K "_law_names" "_law_names" s__law_names f fd) : FnOk P w K mg base (L2.CX P w) 1 f fd ["_law_cell"] (spM ⟨K, ct⟩ mf__law_names) :=
  fnM ct mf__law_names F sc__law_names (by first | exact len__law_names | exact fn1_len | exact sF1_len | exact sL1_len) ms__law_names (fun cdv A outer s H E hr => d__law_names T  cdv A outer s H E hr) run__law_names
theorem ok__law_leads (T : Txt ct K mg)  {f : Addr} {fd : FuncData} (F : Fun K "_law_leads" "_law_leads" s__law_leads f fd) : FnOk P w K mg base (L2.CX P w) 1 f fd ["_law_sends", "_law_first", "_law_last"] (spM ⟨K, ct⟩ mf__law_leads) :=
  fnM ct mf__law_leads F sc__law_leads (by first | exact len__law_leads | exact fn3_len | exact sF3_len | exact sL3_len) ms__law_leads (fun cdv A outer s H E hr => d__law_leads T  cdv A outer s H E hr) run__law_leads
theorem ok__law_is_order (T : Txt ct K mg)  {f : Addr} {fd : FuncData} (F : Fun K "_law_is_order" "_law_is_order" s__law_is_order f fd) : FnOk P w K mg base (L2.CX P w) 1 f fd ["_law_buses", "_law_sends", "_law_order"] (spM ⟨K, ct⟩ mf__law_is_order) :=
  fnM ct mf__law_is_order F sc__law_is_order (by first | exact len__law_is_order | exact fn3_len | exact sF3_len | exact sL3_len) ms__law_is_order (fun cdv A outer s H E hr => d__law_is_order T  cdv A outer s H E hr) run__law_is_order
theorem ok_law (T : Txt ct K mg) (I__law_names : FnI ct P w K mg base "_law_names" 1 mf__law_names) (I__law_cell_at : FnI ct P w K mg base "_law_cell_at" 1 mf__law_cell_at) (I__law_leads : FnI ct P w K mg base "_law_leads" 1 mf__law_leads) (I__law_is_order : FnI ct P w K mg base "_law_is_order" 1 mf__law_is_order) (T_bus : MethT ct P w K mg base "bus" 3 tb_bus) (T_track : MethT ct P w K mg base "track" 3 tb_track) (T_send : MethT ct P w K mg base "send" 4 tb_send) (T_order : MethT ct P w K mg base "order" 2 tb_order) (C_Patch : MakeI ct P w K mg base "Patch" "Patch" 1 mf_Patch___init__) {f : Addr} {fd : FuncData} (F : Fun K "law" "law" s_law f fd) : FnOk P w K mg base (L2.CX P w) 5 f fd ["_law_script"] (spM ⟨K, ct⟩ (fnLaw ms_law N_law.length)) :=
  fnM ct (fnLaw ms_law N_law.length) F sc_law fnLaw_len ms_law (fun cdv A outer s H E hr => d_law T I__law_names I__law_cell_at I__law_leads I__law_is_order T_bus T_track T_send T_order C_Patch cdv A outer s H E hr) fnLaw_run
end
theorem all_mk {l : PySem.W.OpenLaw} {w : World} {K : PySem.W.Frag} {h : Heap} {mg : Str → Option Value} {fa : Addr} (X : K.In h) (G : h.Ns mainGlobals mg) (hfa : mg "law" = some (.ref fa))
    {f0 f1 f2 f3 f4 f5 f6 f7 f8 f9 f10 f11 f12 f13 f14 f15 f16 A_Chain A_Patch : Addr} {od0 an0 od1 an1 od2 an2 od3 an3 od4 an4 od5 an5 od6 an6 od7 an7 od8 an8 od9 an9 od10 an10 od11 an11 od12 an12 od13 an13 od14 an14 od15 an15 od16 an16 : Option Addr} {sl0 sl1 sl2 sl3 sl4 sl5 sl6 sl7 sl8 sl9 sl10 sl11 sl12 sl13 sl14 sl15 sl16 : Array (Option Value)} {oc0 kV0 dc0 pm0 cd0 ct0 oc1 kV1 dc1 pm1 cd1 ct1 oc2 kV2 dc2 pm2 cd2 ct2 oc3 kV3 dc3 pm3 cd3 ct3 oc4 kV4 dc4 pm4 cd4 ct4 oc5 kV5 dc5 pm5 cd5 ct5 oc6 kV6 dc6 pm6 cd6 ct6 oc7 kV7 dc7 pm7 cd7 ct7 oc8 kV8 dc8 pm8 cd8 ct8 oc9 kV9 dc9 pm9 cd9 ct9 oc10 kV10 dc10 pm10 cd10 ct10 oc11 kV11 dc11 pm11 cd11 ct11 oc12 kV12 dc12 pm12 cd12 ct12 oc13 kV13 dc13 pm13 cd13 ct13 oc14 kV14 dc14 pm14 cd14 ct14 oc15 kV15 dc15 pm15 cd15 ct15 oc16 kV16 dc16 pm16 cd16 ct16 : Value}
    (cA_Chain : PySem.W.nsIn K mainGlobals "Chain" = some (some (.ref A_Chain)))
    (cA_Patch : PySem.W.nsIn K mainGlobals "Patch" = some (some (.ref A_Patch)))
    (a0 : PySem.W.nsIn K mainGlobals "parts_told" = some (some (.ref f0)))
    (l0 : K.lookup f0 = some ⟨oc0, od0, .func (PySem.W.fnOf "parts_told" "parts_told" (defArgs s_parts_told) (defBody s_parts_told) (defScope s_parts_told) .none kV0 dc0 pm0 an0 cd0 ct0), sl0⟩)
    (c0 : PySem.W.codeIn K cd0 "parts_told" = true)
    (k0 : PySem.W.keepIn K (.ref f0) = true)
    (a1 : PySem.W.findIn K (.ref A_Chain) "__init__" = some (some (.ref f1)))
    (i1 : PySem.W.isFn K (.ref f1) = true)
    (l1 : K.lookup f1 = some ⟨oc1, od1, .func (PySem.W.fnOf "__init__" "Chain.__init__" (defArgs s_Chain___init__) (defBody s_Chain___init__) (defScope s_Chain___init__) .none kV1 dc1 pm1 an1 cd1 ct1), sl1⟩)
    (c1 : PySem.W.codeIn K cd1 "Chain.__init__" = true)
    (k1 : PySem.W.keepIn K (.ref f1) = true)
    (a2 : PySem.W.findIn K (.ref A_Chain) "words" = some (some (.ref f2)))
    (i2 : PySem.W.isFn K (.ref f2) = true)
    (l2 : K.lookup f2 = some ⟨oc2, od2, .func (PySem.W.fnOf "words" "Chain.words" (defArgs s_Chain_words) (defBody s_Chain_words) (defScope s_Chain_words) .none kV2 dc2 pm2 an2 cd2 ct2), sl2⟩)
    (c2 : PySem.W.codeIn K cd2 "Chain.words" = true)
    (k2 : PySem.W.keepIn K (.ref f2) = true)
    (a3 : PySem.W.nsIn K mainGlobals "is_name" = some (some (.ref f3)))
    (l3 : K.lookup f3 = some ⟨oc3, od3, .func (PySem.W.fnOf "is_name" "is_name" (defArgs s_is_name) (defBody s_is_name) (defScope s_is_name) .none kV3 dc3 pm3 an3 cd3 ct3), sl3⟩)
    (c3 : PySem.W.codeIn K cd3 "is_name" = true)
    (k3 : PySem.W.keepIn K (.ref f3) = true)
    (a4 : PySem.W.nsIn K mainGlobals "way_between" = some (some (.ref f4)))
    (l4 : K.lookup f4 = some ⟨oc4, od4, .func (PySem.W.fnOf "way_between" "way_between" (defArgs s_way_between) (defBody s_way_between) (defScope s_way_between) .none kV4 dc4 pm4 an4 cd4 ct4), sl4⟩)
    (c4 : PySem.W.codeIn K cd4 "way_between" = true)
    (k4 : PySem.W.keepIn K (.ref f4) = true)
    (a5 : PySem.W.findIn K (.ref A_Patch) "__init__" = some (some (.ref f5)))
    (i5 : PySem.W.isFn K (.ref f5) = true)
    (l5 : K.lookup f5 = some ⟨oc5, od5, .func (PySem.W.fnOf "__init__" "Patch.__init__" (defArgs s_Patch___init__) (defBody s_Patch___init__) (defScope s_Patch___init__) .none kV5 dc5 pm5 an5 cd5 ct5), sl5⟩)
    (c5 : PySem.W.codeIn K cd5 "Patch.__init__" = true)
    (k5 : PySem.W.keepIn K (.ref f5) = true)
    (a6 : PySem.W.findIn K (.ref A_Patch) "asked_new" = some (some (.ref f6)))
    (i6 : PySem.W.isFn K (.ref f6) = true)
    (l6 : K.lookup f6 = some ⟨oc6, od6, .func (PySem.W.fnOf "asked_new" "Patch.asked_new" (defArgs s_Patch_asked_new) (defBody s_Patch_asked_new) (defScope s_Patch_asked_new) .none kV6 dc6 pm6 an6 cd6 ct6), sl6⟩)
    (c6 : PySem.W.codeIn K cd6 "Patch.asked_new" = true)
    (k6 : PySem.W.keepIn K (.ref f6) = true)
    (a7 : PySem.W.findIn K (.ref A_Patch) "track" = some (some (.ref f7)))
    (i7 : PySem.W.isFn K (.ref f7) = true)
    (l7 : K.lookup f7 = some ⟨oc7, od7, .func (PySem.W.fnOf "track" "Patch.track" (defArgs s_Patch_track) (defBody s_Patch_track) (defScope s_Patch_track) .none kV7 dc7 pm7 an7 cd7 ct7), sl7⟩)
    (c7 : PySem.W.codeIn K cd7 "Patch.track" = true)
    (k7 : PySem.W.keepIn K (.ref f7) = true)
    (a8 : PySem.W.findIn K (.ref A_Patch) "bus" = some (some (.ref f8)))
    (i8 : PySem.W.isFn K (.ref f8) = true)
    (l8 : K.lookup f8 = some ⟨oc8, od8, .func (PySem.W.fnOf "bus" "Patch.bus" (defArgs s_Patch_bus) (defBody s_Patch_bus) (defScope s_Patch_bus) .none kV8 dc8 pm8 an8 cd8 ct8), sl8⟩)
    (c8 : PySem.W.codeIn K cd8 "Patch.bus" = true)
    (k8 : PySem.W.keepIn K (.ref f8) = true)
    (a9 : PySem.W.findIn K (.ref A_Patch) "send" = some (some (.ref f9)))
    (i9 : PySem.W.isFn K (.ref f9) = true)
    (l9 : K.lookup f9 = some ⟨oc9, od9, .func (PySem.W.fnOf "send" "Patch.send" (defArgs s_Patch_send) (defBody s_Patch_send) (defScope s_Patch_send) .none kV9 dc9 pm9 an9 cd9 ct9), sl9⟩)
    (c9 : PySem.W.codeIn K cd9 "Patch.send" = true)
    (k9 : PySem.W.keepIn K (.ref f9) = true)
    (a10 : PySem.W.findIn K (.ref A_Patch) "is_ready" = some (some (.ref f10)))
    (i10 : PySem.W.isFn K (.ref f10) = true)
    (l10 : K.lookup f10 = some ⟨oc10, od10, .func (PySem.W.fnOf "is_ready" "Patch.is_ready" (defArgs s_Patch_is_ready) (defBody s_Patch_is_ready) (defScope s_Patch_is_ready) .none kV10 dc10 pm10 an10 cd10 ct10), sl10⟩)
    (c10 : PySem.W.codeIn K cd10 "Patch.is_ready" = true)
    (k10 : PySem.W.keepIn K (.ref f10) = true)
    (a11 : PySem.W.findIn K (.ref A_Patch) "order" = some (some (.ref f11)))
    (i11 : PySem.W.isFn K (.ref f11) = true)
    (l11 : K.lookup f11 = some ⟨oc11, od11, .func (PySem.W.fnOf "order" "Patch.order" (defArgs s_Patch_order) (defBody s_Patch_order) (defScope s_Patch_order) .none kV11 dc11 pm11 an11 cd11 ct11), sl11⟩)
    (c11 : PySem.W.codeIn K cd11 "Patch.order" = true)
    (k11 : PySem.W.keepIn K (.ref f11) = true)
    (a12 : PySem.W.nsIn K mainGlobals "_law_cell_at" = some (some (.ref f12)))
    (l12 : K.lookup f12 = some ⟨oc12, od12, .func (PySem.W.fnOf "_law_cell_at" "_law_cell_at" (defArgs s__law_cell_at) (defBody s__law_cell_at) (defScope s__law_cell_at) .none kV12 dc12 pm12 an12 cd12 ct12), sl12⟩)
    (c12 : PySem.W.codeIn K cd12 "_law_cell_at" = true)
    (k12 : PySem.W.keepIn K (.ref f12) = true)
    (a13 : PySem.W.nsIn K mainGlobals "_law_names" = some (some (.ref f13)))
    (l13 : K.lookup f13 = some ⟨oc13, od13, .func (PySem.W.fnOf "_law_names" "_law_names" (defArgs s__law_names) (defBody s__law_names) (defScope s__law_names) .none kV13 dc13 pm13 an13 cd13 ct13), sl13⟩)
    (c13 : PySem.W.codeIn K cd13 "_law_names" = true)
    (k13 : PySem.W.keepIn K (.ref f13) = true)
    (a14 : PySem.W.nsIn K mainGlobals "_law_leads" = some (some (.ref f14)))
    (l14 : K.lookup f14 = some ⟨oc14, od14, .func (PySem.W.fnOf "_law_leads" "_law_leads" (defArgs s__law_leads) (defBody s__law_leads) (defScope s__law_leads) .none kV14 dc14 pm14 an14 cd14 ct14), sl14⟩)
    (c14 : PySem.W.codeIn K cd14 "_law_leads" = true)
    (k14 : PySem.W.keepIn K (.ref f14) = true)
    (a15 : PySem.W.nsIn K mainGlobals "_law_is_order" = some (some (.ref f15)))
    (l15 : K.lookup f15 = some ⟨oc15, od15, .func (PySem.W.fnOf "_law_is_order" "_law_is_order" (defArgs s__law_is_order) (defBody s__law_is_order) (defScope s__law_is_order) .none kV15 dc15 pm15 an15 cd15 ct15), sl15⟩)
    (c15 : PySem.W.codeIn K cd15 "_law_is_order" = true)
    (k15 : PySem.W.keepIn K (.ref f15) = true)
    (a16 : PySem.W.nsIn K mainGlobals "law" = some (some (.ref f16)))
    (l16 : K.lookup f16 = some ⟨oc16, od16, .func (PySem.W.fnOf "law" "law" (defArgs s_law) (defBody s_law) (defScope s_law) .none kV16 dc16 pm16 an16 cd16 ct16), sl16⟩)
    (c16 : PySem.W.codeIn K cd16 "law" = true)
    (k16 : PySem.W.keepIn K (.ref f16) = true)
    (pg_Chain : PySem.W.plainGet K A_Chain Str.empty = true)
    (hd_Chain : PySem.W.hasDictIn K A_Chain = true)
    (po_Chain : PySem.W.plainOver K A_Chain = true)
    (sa_Chain : PySem.W.findIn K (.ref A_Chain) "__setattr__" = some (some (.builtin "object.__setattr__")))
    (pg_Patch : PySem.W.plainGet K A_Patch Str.empty = true)
    (hd_Patch : PySem.W.hasDictIn K A_Patch = true)
    (po_Patch : PySem.W.plainOver K A_Patch = true)
    (sa_Patch : PySem.W.findIn K (.ref A_Patch) "__setattr__" = some (some (.builtin "object.__setattr__")))
    (mk_Chain : PySem.W.makesIn K A_Chain = true)
    (kc_Chain : PySem.W.keepIn K (.ref A_Chain) = true)
    (mk_Patch : PySem.W.makesIn K A_Patch = true)
    (kc_Patch : PySem.W.keepIn K (.ref A_Patch) = true)
    (na_Patch_kept_tracks : PySem.W.findIn K (.ref A_Patch) "kept_tracks" = some none)
    (na_Patch_kept_buses : PySem.W.findIn K (.ref A_Patch) "kept_buses" = some none)
    (na_Patch_kept_sends : PySem.W.findIn K (.ref A_Patch) "kept_sends" = some none)
    (na_Patch_kept_outs : PySem.W.findIn K (.ref A_Patch) "kept_outs" = some none)
    (na_Chain_parts : PySem.W.findIn K (.ref A_Chain) "parts" = some none)
    (na_Chain_states : PySem.W.findIn K (.ref A_Chain) "states" = some none)
    (z_range : PySem.W.nsIn K mainGlobals "range" = some none)
    (z_len : PySem.W.nsIn K mainGlobals "len" = some none)
    (z_int : PySem.W.nsIn K mainGlobals "int" = some none)
    (z_isinstance : PySem.W.nsIn K mainGlobals "isinstance" = some none)
    (z_list : PySem.W.nsIn K mainGlobals "list" = some none)
    (z_str : PySem.W.nsIn K mainGlobals "str" = some none)
    {t_LETTERS : Tok}
    (y_LETTERS : PySem.W.nsIn K mainGlobals "LETTERS" = some (some (.str "abcdefghijklmnopqrstuvwxyz" t_LETTERS)))
    : ∃ fd : FuncData, (∀ (s : Shared) (v : Value), PySem.BindsTo s fd ⟨[v], []⟩ [("_law_script", v)]) ∧ ∀ base : Heap, K.In base → base.Ns mainGlobals mg → FnOk l.prog w K mg base (L2.CX l.prog w) 5 fa fd ["_law_script"] (spM ⟨K, ctOf K⟩ (fnLaw ms_law N_law.length)) := by
  have e := hfa.symm.trans (PySem.W.mg_of X G a16)
  cases e
  have e_Chain : ctOf K "Chain" = A_Chain := ctOf_eq cA_Chain
  have cl_Chain := cls_mk e_Chain pg_Chain hd_Chain po_Chain sa_Chain
  have e_Patch : ctOf K "Patch" = A_Patch := ctOf_eq cA_Patch
  have cl_Patch := cls_mk e_Patch pg_Patch hd_Patch po_Patch sa_Patch
  have T : Txt (ctOf K) K mg := ⟨PySem.W.mg_none_of X G z_range, PySem.W.mg_none_of X G z_len, PySem.W.mg_none_of X G z_int, PySem.W.mg_none_of X G z_isinstance, PySem.W.mg_none_of X G z_list, PySem.W.mg_none_of X G z_str, ⟨_, PySem.W.mg_of X G y_LETTERS⟩, (FldI.cons cl_Patch (na_mk e_Patch na_Patch_kept_tracks) FldI.nil), (FldI.cons cl_Patch (na_mk e_Patch na_Patch_kept_buses) FldI.nil), (FldI.cons cl_Patch (na_mk e_Patch na_Patch_kept_sends) FldI.nil), (FldI.cons cl_Patch (na_mk e_Patch na_Patch_kept_outs) FldI.nil), (FldI.cons cl_Chain (na_mk e_Chain na_Chain_parts) FldI.nil), (FldI.cons cl_Chain (na_mk e_Chain na_Chain_states) FldI.nil)⟩
  have F0 := fun_mk (st := s_parts_told) l0 c0 k0
  have F1 := fun_mk (st := s_Chain___init__) l1 c1 k1
  have F2 := fun_mk (st := s_Chain_words) l2 c2 k2
  have F3 := fun_mk (st := s_is_name) l3 c3 k3
  have F4 := fun_mk (st := s_way_between) l4 c4 k4
  have F5 := fun_mk (st := s_Patch___init__) l5 c5 k5
  have F6 := fun_mk (st := s_Patch_asked_new) l6 c6 k6
  have F7 := fun_mk (st := s_Patch_track) l7 c7 k7
  have F8 := fun_mk (st := s_Patch_bus) l8 c8 k8
  have F9 := fun_mk (st := s_Patch_send) l9 c9 k9
  have F10 := fun_mk (st := s_Patch_is_ready) l10 c10 k10
  have F11 := fun_mk (st := s_Patch_order) l11 c11 k11
  have F12 := fun_mk (st := s__law_cell_at) l12 c12 k12
  have F13 := fun_mk (st := s__law_names) l13 c13 k13
  have F14 := fun_mk (st := s__law_leads) l14 c14 k14
  have F15 := fun_mk (st := s__law_is_order) l15 c15 k15
  have F16 := fun_mk (st := s_law) l16 c16 k16
  refine ⟨PySem.W.fnOf "law" "law" (defArgs s_law) (defBody s_law) (defScope s_law) .none kV16 dc16 pm16 an16 cd16 ct16, fun s v => .of_eq rfl, fun base _ _ => ?_⟩
  have I_parts_told : FnI (ctOf K) l.prog w K mg base "parts_told" 1 mf_parts_told := ⟨f0, _, _, ok_parts_told T  F0, PySem.W.mg_of X G a0, k0, F0.binds (ps := ["words"]) fun _ _ _ _ _ _ us hl => match us, hl with | [_], _ => rfl⟩
  have C_Chain : MakeI (ctOf K) l.prog w K mg base "Chain" "Chain" 2 mf_Chain___init__ := ⟨gm_mk X G cA_Chain, f1, _, _, ok_Chain___init__ T I_parts_told F1, mk_mk e_Chain mk_Chain a1 i1 kc_Chain, F1.binds (ps := ["self", "words"]) fun _ _ _ _ _ _ us hl => match us, hl with | [_, _], _ => rfl⟩
  have P_Chain_Chain_words : MethI (ctOf K) l.prog w K mg base "Chain" "words" 1 mf_Chain_words := ⟨cl_Chain, f2, _, _, ok_Chain_words T  F2, meth_mk e_Chain a2 i2 k2, F2.binds (ps := ["self"]) fun _ _ _ _ _ _ us hl => match us, hl with | [_], _ => rfl⟩
  have T_words : MethT (ctOf K) l.prog w K mg base "words" 1 tb_words := (MethT.cons P_Chain_Chain_words (by decide) MethT.nil)
  have I_is_name : FnI (ctOf K) l.prog w K mg base "is_name" 1 mf_is_name := ⟨f3, _, _, ok_is_name T  F3, PySem.W.mg_of X G a3, k3, F3.binds (ps := ["thing"]) fun _ _ _ _ _ _ us hl => match us, hl with | [_], _ => rfl⟩
  have I_way_between : FnI (ctOf K) l.prog w K mg base "way_between" 1 mf_way_between := ⟨f4, _, _, ok_way_between T  F4, PySem.W.mg_of X G a4, k4, F4.binds (ps := ["sends", "first", "last"]) fun _ _ _ _ _ _ us hl => match us, hl with | [_, _, _], _ => rfl⟩
  have C_Patch : MakeI (ctOf K) l.prog w K mg base "Patch" "Patch" 1 mf_Patch___init__ := ⟨gm_mk X G cA_Patch, f5, _, _, ok_Patch___init__ T  F5, mk_mk e_Patch mk_Patch a5 i5 kc_Patch, F5.binds (ps := ["self"]) fun _ _ _ _ _ _ us hl => match us, hl with | [_], _ => rfl⟩
  have P_Patch_Patch_asked_new : MethI (ctOf K) l.prog w K mg base "Patch" "asked_new" 2 mf_Patch_asked_new := ⟨cl_Patch, f6, _, _, ok_Patch_asked_new T I_is_name F6, meth_mk e_Patch a6 i6 k6, F6.binds (ps := ["self", "name"]) fun _ _ _ _ _ _ us hl => match us, hl with | [_, _], _ => rfl⟩
  have T_asked_new : MethT (ctOf K) l.prog w K mg base "asked_new" 2 tb_asked_new := (MethT.cons P_Patch_Patch_asked_new (by decide) MethT.nil)
  have P_Patch_Patch_track : MethI (ctOf K) l.prog w K mg base "Patch" "track" 3 mf_Patch_track := ⟨cl_Patch, f7, _, _, ok_Patch_track T T_asked_new F7, meth_mk e_Patch a7 i7 k7, F7.binds (ps := ["self", "name"]) fun _ _ _ _ _ _ us hl => match us, hl with | [_, _], _ => rfl⟩
  have T_track : MethT (ctOf K) l.prog w K mg base "track" 3 tb_track := (MethT.cons P_Patch_Patch_track (by decide) MethT.nil)
  have P_Patch_Patch_bus : MethI (ctOf K) l.prog w K mg base "Patch" "bus" 3 mf_Patch_bus := ⟨cl_Patch, f8, _, _, ok_Patch_bus T T_asked_new F8, meth_mk e_Patch a8 i8 k8, F8.binds (ps := ["self", "name"]) fun _ _ _ _ _ _ us hl => match us, hl with | [_, _], _ => rfl⟩
  have T_bus : MethT (ctOf K) l.prog w K mg base "bus" 3 tb_bus := (MethT.cons P_Patch_Patch_bus (by decide) MethT.nil)
  have P_Patch_Patch_send : MethI (ctOf K) l.prog w K mg base "Patch" "send" 4 mf_Patch_send := ⟨cl_Patch, f9, _, _, ok_Patch_send T I_way_between T_words C_Chain F9, meth_mk e_Patch a9 i9 k9, F9.binds (ps := ["self", "source", "bus", "words"]) fun _ _ _ _ _ _ us hl => match us, hl with | [_, _, _, _], _ => rfl⟩
  have T_send : MethT (ctOf K) l.prog w K mg base "send" 4 tb_send := (MethT.cons P_Patch_Patch_send (by decide) MethT.nil)
  have P_Patch_Patch_is_ready : MethI (ctOf K) l.prog w K mg base "Patch" "is_ready" 1 mf_Patch_is_ready := ⟨cl_Patch, f10, _, _, ok_Patch_is_ready T  F10, meth_mk e_Patch a10 i10 k10, F10.binds (ps := ["self", "bus", "told"]) fun _ _ _ _ _ _ us hl => match us, hl with | [_, _, _], _ => rfl⟩
  have T_is_ready : MethT (ctOf K) l.prog w K mg base "is_ready" 1 tb_is_ready := (MethT.cons P_Patch_Patch_is_ready (by decide) MethT.nil)
  have P_Patch_Patch_order : MethI (ctOf K) l.prog w K mg base "Patch" "order" 2 mf_Patch_order := ⟨cl_Patch, f11, _, _, ok_Patch_order T T_is_ready F11, meth_mk e_Patch a11 i11 k11, F11.binds (ps := ["self"]) fun _ _ _ _ _ _ us hl => match us, hl with | [_], _ => rfl⟩
  have T_order : MethT (ctOf K) l.prog w K mg base "order" 2 tb_order := (MethT.cons P_Patch_Patch_order (by decide) MethT.nil)
  have I__law_cell_at : FnI (ctOf K) l.prog w K mg base "_law_cell_at" 1 mf__law_cell_at := ⟨f12, _, _, ok__law_cell_at T  F12, PySem.W.mg_of X G a12, k12, F12.binds (ps := ["_law_script", "_law_k"]) fun _ _ _ _ _ _ us hl => match us, hl with | [_, _], _ => rfl⟩
  have I__law_names : FnI (ctOf K) l.prog w K mg base "_law_names" 1 mf__law_names := ⟨f13, _, _, ok__law_names T  F13, PySem.W.mg_of X G a13, k13, F13.binds (ps := ["_law_cell"]) fun _ _ _ _ _ _ us hl => match us, hl with | [_], _ => rfl⟩
  have I__law_leads : FnI (ctOf K) l.prog w K mg base "_law_leads" 1 mf__law_leads := ⟨f14, _, _, ok__law_leads T  F14, PySem.W.mg_of X G a14, k14, F14.binds (ps := ["_law_sends", "_law_first", "_law_last"]) fun _ _ _ _ _ _ us hl => match us, hl with | [_, _, _], _ => rfl⟩
  have I__law_is_order : FnI (ctOf K) l.prog w K mg base "_law_is_order" 1 mf__law_is_order := ⟨f15, _, _, ok__law_is_order T  F15, PySem.W.mg_of X G a15, k15, F15.binds (ps := ["_law_buses", "_law_sends", "_law_order"]) fun _ _ _ _ _ _ us hl => match us, hl with | [_, _, _], _ => rfl⟩
  exact ok_law T I__law_names I__law_cell_at I__law_leads I__law_is_order T_bus T_track T_send T_order C_Patch F16
theorem facts_all {l : PySem.W.OpenLaw} {w : World} {K : PySem.W.Frag} {h : Heap} {mg : Str → Option Value} {fa : Addr} (X : K.In h) (G : h.Ns mainGlobals mg) (hfa : mg "law" = some (.ref fa)) (c : SaysX faL fnL K) :
    ∃ fd : FuncData, (∀ (s : Shared) (v : Value), PySem.BindsTo s fd ⟨[v], []⟩ [("_law_script", v)]) ∧ ∀ base : Heap, K.In base → base.Ns mainGlobals mg → FnOk l.prog w K mg base (L2.CX l.prog w) 5 fa fd ["_law_script"] (spM ⟨K, ctOf K⟩ (fnLaw ms_law N_law.length)) := by
  obtain ⟨_, _, _, _, _, _, _, _, _, l0, c0⟩ := c.def_ 0 (d := D_0) rfl
  obtain ⟨_, _, _, _, _, _, _, _, _, l1, c1⟩ := c.def_ 1 (d := D_1) rfl
  obtain ⟨_, _, _, _, _, _, _, _, _, l2, c2⟩ := c.def_ 2 (d := D_2) rfl
  obtain ⟨_, _, _, _, _, _, _, _, _, l3, c3⟩ := c.def_ 3 (d := D_3) rfl
  obtain ⟨_, _, _, _, _, _, _, _, _, l4, c4⟩ := c.def_ 4 (d := D_4) rfl
  obtain ⟨_, _, _, _, _, _, _, _, _, l5, c5⟩ := c.def_ 5 (d := D_5) rfl
  obtain ⟨_, _, _, _, _, _, _, _, _, l6, c6⟩ := c.def_ 6 (d := D_6) rfl
  obtain ⟨_, _, _, _, _, _, _, _, _, l7, c7⟩ := c.def_ 7 (d := D_7) rfl
  obtain ⟨_, _, _, _, _, _, _, _, _, l8, c8⟩ := c.def_ 8 (d := D_8) rfl
  obtain ⟨_, _, _, _, _, _, _, _, _, l9, c9⟩ := c.def_ 9 (d := D_9) rfl
  obtain ⟨_, _, _, _, _, _, _, _, _, l10, c10⟩ := c.def_ 10 (d := D_10) rfl
  obtain ⟨_, _, _, _, _, _, _, _, _, l11, c11⟩ := c.def_ 11 (d := D_11) rfl
  obtain ⟨_, _, _, _, _, _, _, _, _, l12, c12⟩ := c.def_ 12 (d := D_12) rfl
  obtain ⟨_, _, _, _, _, _, _, _, _, l13, c13⟩ := c.def_ 13 (d := D_13) rfl
  obtain ⟨_, _, _, _, _, _, _, _, _, l14, c14⟩ := c.def_ 14 (d := D_14) rfl
  obtain ⟨_, _, _, _, _, _, _, _, _, l15, c15⟩ := c.def_ 15 (d := D_15) rfl
  obtain ⟨_, _, _, _, _, _, _, _, _, l16, c16⟩ := c.def_ 16 (d := D_16) rfl
  exact all_mk (l := l) (f0 := He.fAd K (("parts_told" : Str), none)) (f1 := He.fAd K (("Chain" : Str), some ("__init__" : Str))) (f2 := He.fAd K (("Chain" : Str), some ("words" : Str))) (f3 := He.fAd K (("is_name" : Str), none)) (f4 := He.fAd K (("way_between" : Str), none)) (f5 := He.fAd K (("Patch" : Str), some ("__init__" : Str))) (f6 := He.fAd K (("Patch" : Str), some ("asked_new" : Str))) (f7 := He.fAd K (("Patch" : Str), some ("track" : Str))) (f8 := He.fAd K (("Patch" : Str), some ("bus" : Str))) (f9 := He.fAd K (("Patch" : Str), some ("send" : Str))) (f10 := He.fAd K (("Patch" : Str), some ("is_ready" : Str))) (f11 := He.fAd K (("Patch" : Str), some ("order" : Str))) (f12 := He.fAd K (("_law_cell_at" : Str), none)) (f13 := He.fAd K (("_law_names" : Str), none)) (f14 := He.fAd K (("_law_leads" : Str), none)) (f15 := He.fAd K (("_law_is_order" : Str), none)) (f16 := He.fAd K (("law" : Str), none)) (A_Chain := He.ga K "Chain") (A_Patch := He.ga K "Patch") (t_LETTERS := M.tokAt K "LETTERS") X G hfa (of_decide_eq_true (c.fact (f := F_0) 0 rfl)) (of_decide_eq_true (c.fact (f := F_1) 1 rfl)) (of_decide_eq_true (c.fact (f := F_2) 2 rfl)) l0 c0 (of_decide_eq_true (c.fact (f := F_3) 3 rfl)) (of_decide_eq_true (c.fact (f := F_4) 4 rfl)) (of_decide_eq_true (c.fact (f := F_5) 5 rfl)) l1 c1 (of_decide_eq_true (c.fact (f := F_6) 6 rfl)) (of_decide_eq_true (c.fact (f := F_7) 7 rfl)) (of_decide_eq_true (c.fact (f := F_8) 8 rfl)) l2 c2 (of_decide_eq_true (c.fact (f := F_9) 9 rfl)) (of_decide_eq_true (c.fact (f := F_10) 10 rfl)) l3 c3 (of_decide_eq_true (c.fact (f := F_11) 11 rfl)) (of_decide_eq_true (c.fact (f := F_12) 12 rfl)) l4 c4 (of_decide_eq_true (c.fact (f := F_13) 13 rfl)) (of_decide_eq_true (c.fact (f := F_14) 14 rfl)) (of_decide_eq_true (c.fact (f := F_15) 15 rfl)) l5 c5 (of_decide_eq_true (c.fact (f := F_16) 16 rfl)) (of_decide_eq_true (c.fact (f := F_17) 17 rfl)) (of_decide_eq_true (c.fact (f := F_18) 18 rfl)) l6 c6 (of_decide_eq_true (c.fact (f := F_19) 19 rfl)) (of_decide_eq_true (c.fact (f := F_20) 20 rfl)) (of_decide_eq_true (c.fact (f := F_21) 21 rfl)) l7 c7 (of_decide_eq_true (c.fact (f := F_22) 22 rfl)) (of_decide_eq_true (c.fact (f := F_23) 23 rfl)) (of_decide_eq_true (c.fact (f := F_24) 24 rfl)) l8 c8 (of_decide_eq_true (c.fact (f := F_25) 25 rfl)) (of_decide_eq_true (c.fact (f := F_26) 26 rfl)) (of_decide_eq_true (c.fact (f := F_27) 27 rfl)) l9 c9 (of_decide_eq_true (c.fact (f := F_28) 28 rfl)) (of_decide_eq_true (c.fact (f := F_29) 29 rfl)) (of_decide_eq_true (c.fact (f := F_30) 30 rfl)) l10 c10 (of_decide_eq_true (c.fact (f := F_31) 31 rfl)) (of_decide_eq_true (c.fact (f := F_32) 32 rfl)) (of_decide_eq_true (c.fact (f := F_33) 33 rfl)) l11 c11 (of_decide_eq_true (c.fact (f := F_34) 34 rfl)) (of_decide_eq_true (c.fact (f := F_35) 35 rfl)) l12 c12 (of_decide_eq_true (c.fact (f := F_36) 36 rfl)) (of_decide_eq_true (c.fact (f := F_37) 37 rfl)) l13 c13 (of_decide_eq_true (c.fact (f := F_38) 38 rfl)) (of_decide_eq_true (c.fact (f := F_39) 39 rfl)) l14 c14 (of_decide_eq_true (c.fact (f := F_40) 40 rfl)) (of_decide_eq_true (c.fact (f := F_41) 41 rfl)) l15 c15 (of_decide_eq_true (c.fact (f := F_42) 42 rfl)) (of_decide_eq_true (c.fact (f := F_43) 43 rfl)) l16 c16 (of_decide_eq_true (c.fact (f := F_44) 44 rfl)) (of_decide_eq_true (c.fact (f := F_45) 45 rfl)) (of_decide_eq_true (c.fact (f := F_46) 46 rfl)) (of_decide_eq_true (c.fact (f := F_47) 47 rfl)) (of_decide_eq_true (c.fact (f := F_48) 48 rfl)) (of_decide_eq_true (c.fact (f := F_49) 49 rfl)) (of_decide_eq_true (c.fact (f := F_50) 50 rfl)) (of_decide_eq_true (c.fact (f := F_51) 51 rfl)) (of_decide_eq_true (c.fact (f := F_52) 52 rfl)) (of_decide_eq_true (c.fact (f := F_53) 53 rfl)) (of_decide_eq_true (c.fact (f := F_54) 54 rfl)) (of_decide_eq_true (c.fact (f := F_55) 55 rfl)) (of_decide_eq_true (c.fact (f := F_56) 56 rfl)) (of_decide_eq_true (c.fact (f := F_57) 57 rfl)) (of_decide_eq_true (c.fact (f := F_58) 58 rfl)) (of_decide_eq_true (c.fact (f := F_59) 59 rfl)) (of_decide_eq_true (c.fact (f := F_60) 60 rfl)) (of_decide_eq_true (c.fact (f := F_61) 61 rfl)) (of_decide_eq_true (c.fact (f := F_62) 62 rfl)) (of_decide_eq_true (c.fact (f := F_63) 63 rfl)) (of_decide_eq_true (c.fact (f := F_64) 64 rfl)) (of_decide_eq_true (c.fact (f := F_65) 65 rfl)) (of_decide_eq_true (c.fact (f := F_66) 66 rfl)) (of_decide_eq_true (c.fact (f := F_67) 67 rfl)) (of_decide_eq_true (c.fact (f := F_68) 68 rfl)) (of_decide_eq_true (c.fact (f := F_69) 69 rfl))
end Lk54
open PySem PySem.W PySem.Calls PyProof.Rows
set_option maxRecDepth 100000 in
set_option maxHeartbeats 0 in
theorem PySem.Challenge.cw_mixbench_k54_whole_order_holds : PySem.Challenge.rw_mixbench_k54_whole_order.Holds := by
  w_on; o_law
  refine HandSHeadRun.head_any (r := OpenLaw.row PySem.Challenge.rw_mixbench_k54_whole_order) (q := view (OpenLaw.row PySem.Challenge.rw_mixbench_k54_whole_order).prog [52]) (H := Lk54.hkX) (ob := Lk54.obX) (M := 40000) (loose := Lk54.loose) (d := HandSHeadRun.topDef (OpenLaw.row PySem.Challenge.rw_mixbench_k54_whole_order).prog 52) (kwd := []) Lk54.obX_eq (by kernel_rfl) (fun s => by kernel_rfl) Lk54.runX (by kernel_rfl) (by kernel_rfl) (by kernel_rfl) (by rfl) (by first | assumption | decide +kernel) (by decide +kernel) ⟨rfl, rfl, rfl, rfl, rfl, by decide +kernel⟩ ?hw ?hc
  case hw => w_witness2
  case hc =>
    refine M.walk_X (b := Lk54.ms_law) (n := Lk54.N_law.length) (fun ns h1 h2 => Lk54.run_law ns h1 fun z hz => M.script_log2 (h2 z hz)) (l := PySem.Challenge.rw_mixbench_k54_whole_order) (k := 5) (x := "_law_script") rfl (by kernel_rfl) ⟨rfl, by decide, by decide⟩ ?F
    case F =>
      intro w mg fa h K KX c G hmg0
      have hmg : mg ("law" : PySem.Str) = some (.ref fa) := by
        have e : (HandSHeadRun.topDef (OpenLaw.row PySem.Challenge.rw_mixbench_k54_whole_order).prog 52).name = ("law" : PySem.Str) := by kernel_rfl
        rw [← e]
        exact hmg0
      exact Lk54.facts_all KX G hmg c
