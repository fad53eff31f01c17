import PyProof.Rows.All
import Wide.All
import OpenK.AllK
import Wide.FinOn
import HandS.ForMost
import HandS.ForExc
import HandS.Wide
import HandS.IsInst
import HandS.EndBits
import HandS.WideBits
import HandS.ExcIs
import HandS.SuiteRaise
import KE.KIntText
import HandS.More
import HandS.Rev
import HandS.RevTup
import HandS.SortKw
import PyProof.SliceList
import HandS.Conv
import HandS.Style
import HandS.Dict
import HandS.Head2
import HandS.HeadHook1
import HandS.DictComp
import HandS.DeepEq
import KE.GoesRaise
import KE.KAsSuite
import HandS.Text
import HandS.Deep
import HandS.HotCalls
import PySem.Challenge.RW_mixbench_k04_texts_of_fractions
set_option Elab.async false
set_option linter.all false
set_option maxRecDepth 100000
set_option maxHeartbeats 4000000
namespace M
open PySem L2 PyProof.Rows
/-! ## the head by one kernel run: a Hook with own facts -/
abbrev FF := PySem.W.Frag → Bool
def obsX (fa : List FF) (fn : List He.FnD) (K : PySem.W.Frag) : He.Al := ((fa.all fun f => f K) && fn.all fun d => (He.Fa.code d.at_ d.qual).ok K, fn.map fun d => He.fnObs K d.at_)
def SaysX (fa : List FF) (fn : List He.FnD) (K : PySem.W.Frag) : Prop := obsX fa fn K = He.valE fn
def rOf (g : Addr → Option Obj) (a : Addr) : List Addr := match g a with
  | some o => (match o.data with
    | .dict es _ => es.toList.flatMap fun e => He.refV e.val
    | _ => [])
  | none => []
def cOf (g : Addr → Option Obj) (a : Addr) : List Addr := match g a with
  | some o => (match o.data with
    | .cls cd => cd.ns :: cd.mro.flatMap He.refV
    | _ => [])
  | none => []
def kOf (g : Addr → Option Obj) (a : Addr) : List Addr := match g a with
  | some o => (match o.data with
    | .func fd => He.refV fd.code
    | _ => [])
  | none => []
/-- what the module's names reach: classes, their spaces, methods, the code of all defs -/
def asY2 (g : Addr → Option Obj) (A1 A2 A3 : List Addr) : List Addr := mainGlobals :: (A1 ++ (A2 ++ (A3 ++ (A1 ++ A3).flatMap (kOf g))))
def asY1 (g : Addr → Option Obj) (A1 A2 : List Addr) : List Addr := asY2 g A1 A2 (A2.flatMap (rOf g))
def asY0 (g : Addr → Option Obj) (A1 : List Addr) : List Addr := asY1 g A1 (A1.flatMap (cOf g))
def asY (g : Addr → Option Obj) : List Addr := asY0 g (rOf g mainGlobals)
def obsXG (n : Nat) (fa : List FF) (fn : List He.FnD) (g : Addr → Option Obj) : He.Al := obsX fa fn (He.frG g (asY g))
def hookX (n : Nat) (fa : List FF) (fn : List He.FnD) : PySem.W.Hook where
  α := He.Al
  obs := fun s => obsXG n fa fn s.heap.get?
  val := fun _ => He.valE fn
  says := fun _ h => ∃ K : PySem.W.Frag, K.In h ∧ SaysX fa fn K
  of := fun _ _ e => ⟨_, He.frG_in, e⟩
  keeps := fun _ _ _ ⟨K, hK, c⟩ k => ⟨K, PySem.W.Frag.In.keeps hK k, c⟩
theorem obsXG_eq {n : Nat} {fa : List FF} {fn : List He.FnD} {g : Addr → Option Obj} {s : Shared} (h : ∀ a, g a = s.heap.get? a) : obsXG n fa fn g = (hookX n fa fn).obs s := by
  have e : g = s.heap.get? := funext h
  rw [e]; rfl
section
variable {fa : List FF} {fn : List He.FnD} {K : PySem.W.Frag}
theorem SaysX.fact (c : SaysX fa fn K) {f : FF} (i : Nat) (h : fa[i]? = some f) : f K = true := by
  have c1 := (He.ba (show ((fa.all fun f => f K) && fn.all fun d => (He.Fa.code d.at_ d.qual).ok K) = true from congrArg (fun z : He.Al => z.1) c)).1
  exact List.all_eq_true.mp c1 f (List.mem_of_getElem? h)
theorem SaysX.def_ (c : SaysX fa fn K) (i : Nat) {d : He.FnD} (h : fn[i]? = some d) :
    ∃ oc od osl kV doc pm an cdv ct, K.lookup (He.fAd K d.at_) = some ⟨oc, od, .func (PySem.W.fnOf d.name d.qual d.params d.body d.scope .none kV doc pm an cdv ct), osl⟩ ∧ PySem.W.codeIn K cdv d.qual = true := by
  have c2 := (He.ba (show ((fa.all fun f => f K) && fn.all fun d => (He.Fa.code d.at_ d.qual).ok K) = true from congrArg (fun z : He.Al => z.1) c)).2
  have e : fn.map (fun d => He.fnObs K d.at_) = fn.map He.FnD.val := congrArg (fun z : He.Al => z.2) c
  have e2 : (fn.map fun d => He.fnObs K d.at_)[i]? = (fn.map He.FnD.val)[i]? := by rw [e]
  rw [List.getElem?_map, List.getElem?_map, h] at e2
  exact He.fn_ok (Option.some.inj e2) (List.all_eq_true.mp c2 d (List.mem_of_getElem? h))
end
/-- the token of a module's text or number -/
def tokAt (K : PySem.W.Frag) (x : Str) : Tok := match PySem.W.nsIn K mainGlobals x with
  | some (some (.str _ t)) => t
  | some (some (.int _ t)) => t
  | _ => default
theorem opt_pair {α β γ : Type} {o : Option α} {f : α → β} {g : α → γ} {u : β} {v : γ} (h1 : o.map f = some u) (h2 : o.map g = some v) : (o.map fun s => (f s, g s)) = some (u, v) := by
  cases o with
  | none => cases h1
  | some s => cases h1; cases h2; rfl
theorem opt_tri {α β γ δ : Type} {o : Option α} {f : α → β} {g : α → γ} {k : α → δ} {u : β} {v : γ} {x : δ} (h1 : o.map (fun s => (f s, g s)) = some (u, v)) (h2 : o.map k = some x) : o.map (fun s => (f s, g s, k s)) = some (u, v, x) := by
  cases o with
  | none => cases h1
  | some s => cases h1; cases h2; rfl
theorem opt_and {α : Type} {o : Option α} {f g : α → Bool} (h1 : o.map f = some true) (h2 : o.map g = some true) : (o.map fun s => f s && g s) = some true := by
  cases o with
  | none => cases h1
  | some s => simp only [Option.map_some, Option.some.injEq] at h1 h2 ⊢; rw [h1, h2]; rfl
def allG (fa : List FF) (s : PySem.W.SharedT) : Bool := fa.all fun f => f (He.frG (HandSHeadRun.getT s) (asY (HandSHeadRun.getT s)))
theorem allG_app {α : Type} {o : Option α} {k : α → PySem.W.SharedT} {a b : List FF} (h1 : (o.map fun s => allG a (k s)) = some true) (h2 : (o.map fun s => allG b (k s)) = some true) : (o.map fun s => allG (a ++ b) (k s)) = some true := by
  have := opt_and h1 h2
  have e : (fun s => allG (a ++ b) (k s)) = fun s => allG a (k s) && allG b (k s) := by
    funext s; unfold allG; rw [List.all_append]
  rw [e]; exact this
def defG (fn : List He.FnD) (s : PySem.W.SharedT) : He.Al := (fn.all fun d => (He.Fa.code d.at_ d.qual).ok (He.frG (HandSHeadRun.getT s) (asY (HandSHeadRun.getT s))), fn.map fun d => He.fnObs (He.frG (HandSHeadRun.getT s) (asY (HandSHeadRun.getT s))) d.at_)
theorem obs_of {o : Option PySem.W.SharedT} {fa : List FF} {fn : List He.FnD} (h1 : (o.map fun s => allG fa s) = some true) (h2 : (o.map fun s => defG fn s) = some (He.valE fn)) : (o.map fun s => obsXG 5 fa fn (HandSHeadRun.getT s)) = some (He.valE fn) := by
  cases o with
  | none => cases h1
  | some s =>
    simp only [Option.map_some, Option.some.injEq] at h1 h2 ⊢
    unfold defG He.valE at h2
    injection h2 with h2 h3
    unfold obsXG obsX He.valE
    unfold allG at h1
    rw [h1, h2, h3]; rfl
end M

namespace M
open PySem L2
open Classical

/-! ## values, states, results -/
/-- the written part, and where the classes stand -/
structure KA where
  F : PySem.W.Frag
  ct : String → Addr

inductive MV where
  | non | bl (b : Bool) | int (i : Int) | str (s : Str) | tup (xs : List MV) | lst (xs : List MV) | scr (xs : List MV)
  | obj (c : String) (ks : List Str) (vs : List MV) | ref (n : Nat) | err (c : String) | dic
inductive MO where
  | lst (xs : List MV) | ins (c : String) (ks : List Str) (vs : List MV) | dic (kvs : List (Str × MV)) | lck (od : Obj) (fs : List (Key × V)) (kvs : List (Str × MV))
abbrev MHeap := List MO
inductive SV where
  | un | sh (x : MV) | ow (xs : List MV)
structure MS where
  env : List SV
  G : MHeap
inductive R (α : Type) where
  | ok (a : α) (s : MS) | exc (c : String) (s : MS) | stuck
def R.bind {α β : Type} (r : R α) (f : α → MS → R β) : R β := match r with
  | .ok a s => f a s
  | .exc c s => .exc c s
  | .stuck => .stuck
@[simp] theorem R.bind_ok {α β : Type} (a : α) (s : MS) (f : α → MS → R β) : (R.ok a s).bind f = f a s := rfl
@[simp] theorem R.bind_exc {α β : Type} (c : String) (s : MS) (f : α → MS → R β) : (R.exc c s : R α).bind f = .exc c s := rfl
@[simp] theorem R.bind_stuck {α β : Type} (f : α → MS → R β) : (R.stuck : R α).bind f = .stuck := rfl
abbrev EM := MS → R MV
abbrev TM := MS → R Bool
abbrev AM := MS → R (List MV)
inductive Fl where
  | nx | rt (x : MV) | bk | ct
abbrev SM := MS → R Fl

/-- a caught exception of the own class at C -/
def ErrO (C : Addr) (a : Addr) : HO := .ext fun h => ∃ (oe : Obj) (vs : Array Value), h.get? a = some oe ∧ Zc (.ref C) none oe ∧ oe.data = .fields vs
/-! ## what a value stands for -/
mutual
inductive Rep (ρ : List Addr) (K : KA) (H : Hp) : MV → V → Prop
  | non : Rep ρ K H .non .non
  | bl (b : Bool) : Rep ρ K H (.bl b) (.bl b)
  | int (i : Int) : Rep ρ K H (.int i) (.int i)
  | str (s : Str) : Rep ρ K H (.str s) (.str s)
  | tup {a : Addr} {ms : List MV} {vs : List V} : SqT K.F H a vs → Reps ρ K H ms vs → Rep ρ K H (.tup ms) (.ref a)
  | lst {a : Addr} {ms : List MV} {vs : List V} : H a = some (.lst vs) → Reps ρ K H ms vs → Rep ρ K H (.lst ms) (.ref a)
  | scr {a : Addr} {ms : List MV} {vs : List V} : SqL K.F H a vs → Reps ρ K H ms vs → Rep ρ K H (.scr ms) (.ref a)
  | obj {a dx : Addr} {c : String} {ks : List Str} {ms : List MV} {fs : List (Str × V)} : H a = some (.ins (K.ct c) dx fs) → fs.map (·.1) = ks → Reps ρ K H ms (fs.map (·.2)) → Rep ρ K H (.obj c ks ms) (.ref a)
  | ref {n : Nat} {a : Addr} : ρ[n]? = some a → Rep ρ K H (.ref n) (.ref a)
  | err {c : String} {a : Addr} : H a = some (ErrO (K.ct c) a) → Rep ρ K H (.err c) (.ref a)
  | dic {a : Addr} : H a = some (.dK []) → Rep ρ K H .dic (.ref a)
inductive Reps (ρ : List Addr) (K : KA) (H : Hp) : List MV → List V → Prop
  | nil : Reps ρ K H [] []
  | cons {m : MV} {v : V} {ms : List MV} {vs : List V} : Rep ρ K H m v → Reps ρ K H ms vs → Reps ρ K H (m :: ms) (v :: vs)
end
def Ex (H H' : Hp) : Prop := ∀ b o, H b = some o → H' b = some o
theorem Ex.refl (H : Hp) : Ex H H := fun _ _ h => h
theorem Ex.trans {H H1 H2 : Hp} (a : Ex H H1) (b : Ex H1 H2) : Ex H H2 := fun x o h => b x o (a x o h)
theorem Ex.new {H : Hp} {p : Addr} {o : HO} (h : H p = none) : Ex H (upd H p o) := fun a u e => by rw [upd_ne (ne_of_none e h)]; exact e
def Pre (ρ ρ' : List Addr) : Prop := ∀ (n : Nat) (a : Addr), ρ[n]? = some a → ρ'[n]? = some a
theorem Pre.refl (ρ : List Addr) : Pre ρ ρ := fun _ _ h => h
theorem Pre.trans {a b c : List Addr} (x : Pre a b) (y : Pre b c) : Pre a c := fun n z h => y n z (x n z h)
theorem Pre.app (ρ l : List Addr) : Pre ρ (ρ ++ l) := fun n a h => by
  rw [List.getElem?_append_left (List.getElem?_eq_some_iff.mp h).1]; exact h
section
variable {ρ ρ' : List Addr} {K : KA} {H H' : Hp}
theorem rd_ex {a : Addr} {u : HO} (e : Ex H H') (h : Rd H a u) : Rd H' a u := by
  rcases h with h | ⟨o, h⟩
  · exact Or.inl (e a _ h)
  · exact Or.inr ⟨o, e a _ h⟩
theorem sql_ex {a : Addr} {xs : List V} (e : Ex H H') (h : SqL K.F H a xs) : SqL K.F H' a xs := by
  rcases h with h | h
  · exact Or.inl (rd_ex e h)
  · exact Or.inr h
theorem sqt_ex {a : Addr} {xs : List V} (e : Ex H H') (h : SqT K.F H a xs) : SqT K.F H' a xs := by
  rcases h with h | h
  · exact Or.inl (rd_ex e h)
  · exact Or.inr h
mutual
theorem Rep.mono (p : Pre ρ ρ') (e : Ex H H') : ∀ {m : MV} {v : V}, Rep ρ K H m v → Rep ρ' K H' m v
  | _, _, .non => .non
  | _, _, .bl b => .bl b
  | _, _, .int i => .int i
  | _, _, .str s => .str s
  | _, _, .tup h r => .tup (sqt_ex e h) (Reps.mono p e r)
  | _, _, .lst h r => .lst (e _ _ h) (Reps.mono p e r)
  | _, _, .scr h r => .scr (sql_ex e h) (Reps.mono p e r)
  | _, _, .obj h k r => .obj (e _ _ h) k (Reps.mono p e r)
  | _, _, .ref h => .ref (p _ _ h)
  | _, _, .err h => .err (e _ _ h)
  | _, _, .dic h => .dic (e _ _ h)
theorem Reps.mono (p : Pre ρ ρ') (e : Ex H H') : ∀ {ms : List MV} {vs : List V}, Reps ρ K H ms vs → Reps ρ' K H' ms vs
  | _, _, .nil => .nil
  | _, _, .cons h r => .cons (Rep.mono p e h) (Reps.mono p e r)
end
theorem Reps.length : ∀ {ms : List MV} {vs : List V}, Reps ρ K H ms vs → ms.length = vs.length
  | _, _, .nil => rfl
  | _, _, .cons _ r => by simp [Reps.length r]
theorem Reps.get : ∀ {ms : List MV} {vs : List V} {i : Nat} {m : MV}, Reps ρ K H ms vs → ms[i]? = some m → ∃ v, vs[i]? = some v ∧ Rep ρ K H m v
  | _, _, _, _, .nil, e => by simp at e
  | _, _, 0, _, .cons r _, e => by simp at e; subst e; exact ⟨_, rfl, r⟩
  | _, _, i + 1, m, .cons _ t, e => by
    obtain ⟨u, h1, h2⟩ := Reps.get (i := i) (m := m) t (by simpa using e)
    exact ⟨u, by simpa using h1, h2⟩
theorem Reps.append : ∀ {ms ns : List MV} {vs us : List V}, Reps ρ K H ms vs → Reps ρ K H ns us → Reps ρ K H (ms ++ ns) (vs ++ us)
  | _, _, _, _, .nil, s => s
  | _, _, _, _, .cons r t, s => .cons r (Reps.append t s)
theorem Reps.take : ∀ {ms : List MV} {vs : List V} (n : Nat), Reps ρ K H ms vs → Reps ρ K H (ms.take n) (vs.take n)
  | _, _, 0, _ => .nil
  | _, _, _ + 1, .nil => .nil
  | _, _, n + 1, .cons r t => .cons r (Reps.take n t)
theorem Reps.drop : ∀ {ms : List MV} {vs : List V} (n : Nat), Reps ρ K H ms vs → Reps ρ K H (ms.drop n) (vs.drop n)
  | _, _, 0, r => r
  | _, _, _ + 1, .nil => .nil
  | _, _, n + 1, .cons _ t => Reps.drop n t
theorem Reps.set {x : MV} {u : V} (r : Rep ρ K H x u) : ∀ {ms : List MV} {vs : List V} (i : Nat), Reps ρ K H ms vs → Reps ρ K H (ms.set i x) (vs.set i u)
  | _, _, _, .nil => .nil
  | _, _, 0, .cons _ t => .cons r t
  | _, _, i + 1, .cons q t => .cons q (Reps.set r i t)
theorem Reps.ints : ∀ (ns : List Int), Reps ρ K H (ns.map MV.int) (ns.map V.int)
  | [] => .nil
  | n :: ns => .cons (.int n) (Reps.ints ns)
theorem Reps.inv_ints : ∀ {ns : List Int} {vs : List V}, Reps ρ K H (ns.map MV.int) vs → vs = ns.map V.int
  | [], _, .nil => rfl
  | n :: ns, _, .cons (.int _) r => by rw [Reps.inv_ints r]; rfl
end

/-! ## the state relation -/
/-- hidden from the frozen view: X (others' own), the live objects, the frame's own lists -/
def Hid (X : Addr → Prop) (ρ : List Addr) (O : Nat → Option Addr) (b : Addr) : Prop := X b ∨ b ∈ ρ ∨ ∃ i, O i = some b
noncomputable def view (X : Addr → Prop) (ρ : List Addr) (O : Nat → Option Addr) (H : Hp) : Hp := fun b => if Hid X ρ O b then none else H b
theorem view_some {X : Addr → Prop} {ρ : List Addr} {O : Nat → Option Addr} {H : Hp} {b : Addr} {o : HO} : view X ρ O H b = some o ↔ ¬ Hid X ρ O b ∧ H b = some o := by
  unfold view
  by_cases h : Hid X ρ O b
  · simp [h]
  · simp [h]
theorem view_le (X : Addr → Prop) (ρ : List Addr) (O : Nat → Option Addr) (H : Hp) : Ex (view X ρ O H) H := fun b o h => (view_some.mp h).2
def SlR (ρ : List Addr) (K : KA) (Vw H : Hp) (z : Option (Option V)) (o : Option Addr) : SV → Prop
  | .un => o = none
  | .sh m => o = none ∧ ∃ v, z = some (some v) ∧ Rep ρ K Vw m v
  | .ow ms => ∃ a vs, o = some a ∧ z = some (some (.ref a)) ∧ H a = some (.lst vs) ∧ Reps ρ K Vw ms vs
def ObjR (ρ : List Addr) (K : KA) (Vw H : Hp) (a : Addr) : MO → Prop
  | .lst ms => ∃ vs, H a = some (.lst vs) ∧ Reps ρ K Vw ms vs
  | .ins c ks ms => ∃ dx fs, H a = some (.ins (K.ct c) dx fs) ∧ fs.map (·.1) = ks ∧ Reps ρ K Vw ms (fs.map (·.2))
  | .dic kvs => ∃ fs : List (Key × V), H a = some (.dK fs) ∧ fs.map (·.1) = kvs.map (fun p => Sum.inr p.1) ∧ Reps ρ K Vw (kvs.map (·.2)) (fs.map (·.2))
  | .lck od fs kvs => H a = some (.frz od (.dK fs)) ∧ fs.map (·.1) = kvs.map (fun p => Sum.inr p.1) ∧ Reps ρ K Vw (kvs.map (·.2)) (fs.map (·.2))
structure SR (K : KA) (X : Addr → Prop) (ρ : List Addr) (O : Nat → Option Addr) (s : MS) (σ : St) (H : Hp) : Prop where
  xo : ∀ b, X b → ∃ o, H b = some o
  len : s.env.length = σ.length
  gl : ρ.length = s.G.length
  nd : ρ.Nodup
  xρ : ∀ b ∈ ρ, ¬ X b
  oX : ∀ i b, O i = some b → ¬ X b ∧ b ∉ ρ
  oi : ∀ i j b, O i = some b → O j = some b → i = j
  ol : ∀ (i : Nat), s.env.length ≤ i → O i = none
  sl : ∀ (i : Nat) x, s.env[i]? = some x → SlR ρ K (view X ρ O H) H (σ[i]?) (O i) x
  ob : ∀ (n : Nat) o, s.G[n]? = some o → ∃ a, ρ[n]? = some a ∧ ObjR ρ K (view X ρ O H) H a o
structure Fut (X : Addr → Prop) (ρ : List Addr) (O : Nat → Option Addr) (H : Hp) (ρ' : List Addr) (O' : Nat → Option Addr) (H' : Hp) : Prop where
  pre : Pre ρ ρ'
  ex : Ex (view X ρ O H) (view X ρ' O' H')
  xs : ∀ b o, X b → H b = some o → H' b = some o
section
variable {K : KA} {X : Addr → Prop} {ρ ρ' ρ'' : List Addr} {O O' O'' : Nat → Option Addr} {s s' : MS} {σ σ' : St} {H H' H'' : Hp}
theorem Fut.refl : Fut X ρ O H ρ O H := ⟨Pre.refl _, Ex.refl _, fun _ _ _ h => h⟩
theorem Fut.trans (a : Fut X ρ O H ρ' O' H') (b : Fut X ρ' O' H' ρ'' O'' H'') : Fut X ρ O H ρ'' O'' H'' :=
  ⟨a.pre.trans b.pre, a.ex.trans b.ex, fun x o h e => b.xs x o h (a.xs x o h e)⟩
theorem Fut.rep (F : Fut X ρ O H ρ' O' H') {m : MV} {v : V} (r : Rep ρ K (view X ρ O H) m v) : Rep ρ' K (view X ρ' O' H') m v := r.mono F.pre F.ex
theorem Fut.reps (F : Fut X ρ O H ρ' O' H') {m : List MV} {v : List V} (r : Reps ρ K (view X ρ O H) m v) : Reps ρ' K (view X ρ' O' H') m v := r.mono F.pre F.ex
theorem view_ex (e : Ex H H') : Ex (view X ρ O H) (view X ρ O H') := fun b o h => by
  obtain ⟨h1, h2⟩ := view_some.mp h
  exact view_some.mpr ⟨h1, e b o h2⟩
theorem SR.occ (S : SR K X ρ O s σ H) {b : Addr} (h : Hid X ρ O b) : ∃ o, H b = some o := by
  rcases h with h | h | ⟨i, h⟩
  · exact S.xo b h
  · obtain ⟨n, hn, e⟩ := List.getElem_of_mem h
    have hn' : n < s.G.length := by rw [← S.gl]; exact hn
    obtain ⟨a, h1, h2⟩ := S.ob n s.G[n] (List.getElem?_eq_getElem hn')
    have ea : a = b := by
      rw [List.getElem?_eq_getElem hn] at h1
      exact (Option.some.inj h1).symm.trans e
    subst ea
    cases hh : s.G[n] with
    | lst ms => rw [hh] at h2; obtain ⟨vs, e1, _⟩ := h2; exact ⟨_, e1⟩
    | ins c ks ms => rw [hh] at h2; obtain ⟨dx, fs, e1, _⟩ := h2; exact ⟨_, e1⟩
    | dic ms => rw [hh] at h2; obtain ⟨fs, e1, _⟩ := h2; exact ⟨_, e1⟩
    | lck od fs ms => rw [hh] at h2; exact ⟨_, h2.1⟩
  · have hi : i < s.env.length := by
      by_cases q : i < s.env.length
      · exact q
      · have := S.ol i (by omega); rw [this] at h; cases h
    have z := S.sl i _ (List.getElem?_eq_getElem hi)
    cases hh : s.env[i] with
    | un => rw [hh] at z; rw [z] at h; cases h
    | sh m => rw [hh] at z; rw [z.1] at h; cases h
    | ow ms =>
      rw [hh] at z
      obtain ⟨a, vs, e1, _, e3, _⟩ := z
      rw [e1] at h; cases h
      exact ⟨_, e3⟩
theorem SR.nhid (S : SR K X ρ O s σ H) {p : Addr} (h : H p = none) : ¬ Hid X ρ O p := fun q => by
  obtain ⟨o, e⟩ := S.occ q
  rw [h] at e; cases e
theorem SR.free (S : SR K X ρ O s σ H) {p : Addr} (h : H p = none) : view X ρ O H p = none := by
  unfold view; rw [h]; split <;> rfl
theorem SR.view_new (S : SR K X ρ O s σ H) {p : Addr} {o : HO} (h : H p = none) : view X ρ O (upd H p o) p = some o := view_some.mpr ⟨S.nhid h, upd_same⟩
/-- nothing but new objects -/
theorem SR.grow (S : SR K X ρ O s σ H) (e : Ex H H') : SR K X ρ O s σ H' where
  xo := fun b h => by obtain ⟨o, q⟩ := S.xo b h; exact ⟨o, e b o q⟩
  len := S.len
  gl := S.gl
  nd := S.nd
  xρ := S.xρ
  oX := S.oX
  oi := S.oi
  ol := S.ol
  sl := fun i x h => by
    have z := S.sl i x h
    cases x with
    | un => exact z
    | sh m => obtain ⟨h1, v, h2, h3⟩ := z; exact ⟨h1, v, h2, h3.mono (Pre.refl _) (view_ex e)⟩
    | ow ms => obtain ⟨a, vs, h1, h2, h3, h4⟩ := z; exact ⟨a, vs, h1, h2, e _ _ h3, h4.mono (Pre.refl _) (view_ex e)⟩
  ob := fun n o h => by
    obtain ⟨a, h1, z⟩ := S.ob n o h
    refine ⟨a, h1, ?_⟩
    cases o with
    | lst ms => obtain ⟨vs, h2, h3⟩ := z; exact ⟨vs, e _ _ h2, h3.mono (Pre.refl _) (view_ex e)⟩
    | ins c ks ms => obtain ⟨dx, fs, h2, h3, h4⟩ := z; exact ⟨dx, fs, e _ _ h2, h3, h4.mono (Pre.refl _) (view_ex e)⟩
    | dic ms => obtain ⟨fs, h2, h3, h4⟩ := z; exact ⟨fs, e _ _ h2, h3, h4.mono (Pre.refl _) (view_ex e)⟩
    | lck od fs ms => obtain ⟨h2, h3, h4⟩ := z; exact ⟨e _ _ h2, h3, h4.mono (Pre.refl _) (view_ex e)⟩
theorem Fut.grow (e : Ex H H') : Fut X ρ O H ρ O H' := ⟨Pre.refl _, view_ex e, fun b o _ h => e b o h⟩
end

/-! ## what is wanted behind -/
section
variable (K : KA) (X : Addr → Prop) (W : WX) (ρ : List Addr) (O : Nat → Option Addr) (H : Hp) (σ : St)
def PostE (r : R MV) (Q : VK) : Prop := match r with
  | .ok x s' => ∀ ρ' O' H' v, SR K X ρ' O' s' σ H' → Fut X ρ O H ρ' O' H' → Rep ρ' K (view X ρ' O' H') x v → Q v H'
  | .exc c s' => ∀ ρ' O' H', SR K X ρ' O' s' σ H' → Fut X ρ O H ρ' O' H' → W (.ref (K.ct c)) none σ H'
  | .stuck => False
def PostT (r : R Bool) (Q : Bool → Hp → Prop) : Prop := match r with
  | .ok x s' => ∀ ρ' O' H', SR K X ρ' O' s' σ H' → Fut X ρ O H ρ' O' H' → Q x H'
  | .exc c s' => ∀ ρ' O' H', SR K X ρ' O' s' σ H' → Fut X ρ O H ρ' O' H' → W (.ref (K.ct c)) none σ H'
  | .stuck => False
def PostA (r : R (List MV)) (Q : List V → Hp → Prop) : Prop := match r with
  | .ok x s' => ∀ ρ' O' H' v, SR K X ρ' O' s' σ H' → Fut X ρ O H ρ' O' H' → Reps ρ' K (view X ρ' O' H') x v → Q v H'
  | .exc c s' => ∀ ρ' O' H', SR K X ρ' O' s' σ H' → Fut X ρ O H ρ' O' H' → W (.ref (K.ct c)) none σ H'
  | .stuck => False
def PostS (r : R Fl) (D : Ends) : Prop := match r with
  | .ok .nx s' => ∀ ρ' O' σ' H', SR K X ρ' O' s' σ' H' → Fut X ρ O H ρ' O' H' → D.nx σ' H'
  | .ok .bk s' => ∀ ρ' O' σ' H', SR K X ρ' O' s' σ' H' → Fut X ρ O H ρ' O' H' → D.bk σ' H'
  | .ok .ct s' => ∀ ρ' O' σ' H', SR K X ρ' O' s' σ' H' → Fut X ρ O H ρ' O' H' → D.ct σ' H'
  | .ok (.rt x) s' => ∀ ρ' O' σ' H' v, SR K X ρ' O' s' σ' H' → Fut X ρ O H ρ' O' H' → Rep ρ' K (view X ρ' O' H') x v → D.rt v H'
  | .exc c s' => ∀ ρ' O' σ' H', SR K X ρ' O' s' σ' H' → Fut X ρ O H ρ' O' H' → W (.ref (K.ct c)) none σ' H'
  | .stuck => False
end
def SimE (K : KA) (W : WX) (te : TE) (m : EM) : Prop := ∀ X ρ O s σ H Q, SR K X ρ O s σ H → PostE K X W ρ O H σ (m s) Q → te σ H Q
def SimT (K : KA) (W : WX) (te : TT) (m : TM) : Prop := ∀ X ρ O s σ H Q, SR K X ρ O s σ H → PostT K X W ρ O H σ (m s) Q → te σ H Q
def SimA (K : KA) (W : WX) (te : TA) (m : AM) : Prop := ∀ X ρ O s σ H Q, SR K X ρ O s σ H → PostA K X W ρ O H σ (m s) Q → te σ H Q
def SimS (K : KA) (W : WX) (ts : TS) (m : SM) : Prop := ∀ X ρ O s σ H D, SR K X ρ O s σ H → PostS K X W ρ O H (m s) D → ts D σ H
/-- an operation on two values -/
def SimOp (K : KA) (r : R2) (f : MV → MV → EM) : Prop := ∀ X W ρ O s σ H x y v u Q, SR K X ρ O s σ H → Rep ρ K (view X ρ O H) x v → Rep ρ K (view X ρ O H) y u → PostE K X W ρ O H σ (f x y s) Q → r v u H Q
def SimU (K : KA) (r : V → Hp → VK → Prop) (f : MV → EM) : Prop := ∀ X W ρ O s σ H x v Q, SR K X ρ O s σ H → Rep ρ K (view X ρ O H) x v → PostE K X W ρ O H σ (f x s) Q → r v H Q
def SimC (K : KA) (r : List V → Hp → VK → Prop) (f : List MV → EM) : Prop := ∀ X W ρ O s σ H xs vs Q, SR K X ρ O s σ H → Reps ρ K (view X ρ O H) xs vs → PostE K X W ρ O H σ (f xs s) Q → r vs H Q
section
variable {K : KA} {X : Addr → Prop} {W : WX} {ρ ρ' : List Addr} {O O' : Nat → Option Addr} {s s' : MS} {σ : St} {H H' : Hp}
theorem PostE.later {r : R MV} {Q : VK} (F : Fut X ρ O H ρ' O' H') (h : PostE K X W ρ O H σ r Q) : PostE K X W ρ' O' H' σ r Q := by
  cases r with
  | ok x s1 => intro a b c d S f r; exact h a b c d S (F.trans f) r
  | exc x s1 => intro a b c S f; exact h a b c S (F.trans f)
  | stuck => exact h
theorem PostT.later {r : R Bool} {Q : Bool → Hp → Prop} (F : Fut X ρ O H ρ' O' H') (h : PostT K X W ρ O H σ r Q) : PostT K X W ρ' O' H' σ r Q := by
  cases r with
  | ok x s1 => intro a b c S f; exact h a b c S (F.trans f)
  | exc x s1 => intro a b c S f; exact h a b c S (F.trans f)
  | stuck => exact h
theorem PostA.later {r : R (List MV)} {Q : List V → Hp → Prop} (F : Fut X ρ O H ρ' O' H') (h : PostA K X W ρ O H σ r Q) : PostA K X W ρ' O' H' σ r Q := by
  cases r with
  | ok x s1 => intro a b c d S f r; exact h a b c d S (F.trans f) r
  | exc x s1 => intro a b c S f; exact h a b c S (F.trans f)
  | stuck => exact h
theorem PostS.later {r : R Fl} {D : Ends} (F : Fut X ρ O H ρ' O' H') (h : PostS K X W ρ O H r D) : PostS K X W ρ' O' H' r D := by
  cases r with
  | ok x s1 =>
    cases x with
    | nx => intro a b c d S f; exact h a b c d S (F.trans f)
    | bk => intro a b c d S f; exact h a b c d S (F.trans f)
    | ct => intro a b c d S f; exact h a b c d S (F.trans f)
    | rt x => intro a b c d e S f r; exact h a b c d e S (F.trans f) r
  | exc x s1 => intro a b c d S f; exact h a b c d S (F.trans f)
  | stuck => exact h
/-- an expression, then more -/
theorem SimE.bindE {te : TE} {m : EM} (h : SimE K W te m) (S : SR K X ρ O s σ H) {f : MV → MS → R MV} {Q : VK} (p : PostE K X W ρ O H σ ((m s).bind f) Q) {Q' : VK}
    (k : ∀ x s1 ρ1 O1 H1 v, SR K X ρ1 O1 s1 σ H1 → Fut X ρ O H ρ1 O1 H1 → Rep ρ1 K (view X ρ1 O1 H1) x v → PostE K X W ρ1 O1 H1 σ (f x s1) Q → Q' v H1) : te σ H Q' := by
  refine h X ρ O s σ H Q' S ?_
  cases e : m s with
  | ok x s1 => rw [e] at p; intro a b c d S' F r; exact k x s1 a b c d S' F r (p.later F)
  | exc c s1 => rw [e] at p; exact p
  | stuck => rw [e] at p; exact p
theorem SimE.bindT {te : TE} {m : EM} (h : SimE K W te m) (S : SR K X ρ O s σ H) {f : MV → MS → R Bool} {Q : Bool → Hp → Prop} (p : PostT K X W ρ O H σ ((m s).bind f) Q) {Q' : VK}
    (k : ∀ x s1 ρ1 O1 H1 v, SR K X ρ1 O1 s1 σ H1 → Fut X ρ O H ρ1 O1 H1 → Rep ρ1 K (view X ρ1 O1 H1) x v → PostT K X W ρ1 O1 H1 σ (f x s1) Q → Q' v H1) : te σ H Q' := by
  refine h X ρ O s σ H Q' S ?_
  cases e : m s with
  | ok x s1 => rw [e] at p; intro a b c d S' F r; exact k x s1 a b c d S' F r (p.later F)
  | exc c s1 => rw [e] at p; exact p
  | stuck => rw [e] at p; exact p
theorem SimE.bindA {te : TE} {m : EM} (h : SimE K W te m) (S : SR K X ρ O s σ H) {f : MV → MS → R (List MV)} {Q : List V → Hp → Prop} (p : PostA K X W ρ O H σ ((m s).bind f) Q) {Q' : VK}
    (k : ∀ x s1 ρ1 O1 H1 v, SR K X ρ1 O1 s1 σ H1 → Fut X ρ O H ρ1 O1 H1 → Rep ρ1 K (view X ρ1 O1 H1) x v → PostA K X W ρ1 O1 H1 σ (f x s1) Q → Q' v H1) : te σ H Q' := by
  refine h X ρ O s σ H Q' S ?_
  cases e : m s with
  | ok x s1 => rw [e] at p; intro a b c d S' F r; exact k x s1 a b c d S' F r (p.later F)
  | exc c s1 => rw [e] at p; exact p
  | stuck => rw [e] at p; exact p
theorem SimE.bindS {te : TE} {m : EM} (h : SimE K W te m) (S : SR K X ρ O s σ H) {f : MV → MS → R Fl} {D : Ends} (p : PostS K X W ρ O H ((m s).bind f) D) {Q' : VK}
    (k : ∀ x s1 ρ1 O1 H1 v, SR K X ρ1 O1 s1 σ H1 → Fut X ρ O H ρ1 O1 H1 → Rep ρ1 K (view X ρ1 O1 H1) x v → PostS K X W ρ1 O1 H1 (f x s1) D → Q' v H1) : te σ H Q' := by
  refine h X ρ O s σ H Q' S ?_
  cases e : m s with
  | ok x s1 => rw [e] at p; intro a b c d S' F r; exact k x s1 a b c d S' F r (p.later F)
  | exc c s1 => rw [e] at p; intro a b c S' F; exact p a b σ c S' F
  | stuck => rw [e] at p; exact p
theorem SimT.bindS {te : TT} {m : TM} (h : SimT K W te m) (S : SR K X ρ O s σ H) {f : Bool → MS → R Fl} {D : Ends} (p : PostS K X W ρ O H ((m s).bind f) D) {Q' : Bool → Hp → Prop}
    (k : ∀ x s1 ρ1 O1 H1, SR K X ρ1 O1 s1 σ H1 → Fut X ρ O H ρ1 O1 H1 → PostS K X W ρ1 O1 H1 (f x s1) D → Q' x H1) : te σ H Q' := by
  refine h X ρ O s σ H Q' S ?_
  cases e : m s with
  | ok x s1 => rw [e] at p; intro a b c S' F; exact k x s1 a b c S' F (p.later F)
  | exc c s1 => rw [e] at p; intro a b c S' F; exact p a b σ c S' F
  | stuck => rw [e] at p; exact p
theorem SimT.bindT {te : TT} {m : TM} (h : SimT K W te m) (S : SR K X ρ O s σ H) {f : Bool → MS → R Bool} {Q : Bool → Hp → Prop} (p : PostT K X W ρ O H σ ((m s).bind f) Q) {Q' : Bool → Hp → Prop}
    (k : ∀ x s1 ρ1 O1 H1, SR K X ρ1 O1 s1 σ H1 → Fut X ρ O H ρ1 O1 H1 → PostT K X W ρ1 O1 H1 σ (f x s1) Q → Q' x H1) : te σ H Q' := by
  refine h X ρ O s σ H Q' S ?_
  cases e : m s with
  | ok x s1 => rw [e] at p; intro a b c S' F; exact k x s1 a b c S' F (p.later F)
  | exc c s1 => rw [e] at p; exact p
  | stuck => rw [e] at p; exact p
theorem SimT.bindE {te : TT} {m : TM} (h : SimT K W te m) (S : SR K X ρ O s σ H) {f : Bool → MS → R MV} {Q : VK} (p : PostE K X W ρ O H σ ((m s).bind f) Q) {Q' : Bool → Hp → Prop}
    (k : ∀ x s1 ρ1 O1 H1, SR K X ρ1 O1 s1 σ H1 → Fut X ρ O H ρ1 O1 H1 → PostE K X W ρ1 O1 H1 σ (f x s1) Q → Q' x H1) : te σ H Q' := by
  refine h X ρ O s σ H Q' S ?_
  cases e : m s with
  | ok x s1 => rw [e] at p; intro a b c S' F; exact k x s1 a b c S' F (p.later F)
  | exc c s1 => rw [e] at p; exact p
  | stuck => rw [e] at p; exact p
theorem SimA.bindE {ta : TA} {m : AM} (h : SimA K W ta m) (S : SR K X ρ O s σ H) {f : List MV → MS → R MV} {Q : VK} (p : PostE K X W ρ O H σ ((m s).bind f) Q) {Q' : List V → Hp → Prop}
    (k : ∀ x s1 ρ1 O1 H1 v, SR K X ρ1 O1 s1 σ H1 → Fut X ρ O H ρ1 O1 H1 → Reps ρ1 K (view X ρ1 O1 H1) x v → PostE K X W ρ1 O1 H1 σ (f x s1) Q → Q' v H1) : ta σ H Q' := by
  refine h X ρ O s σ H Q' S ?_
  cases e : m s with
  | ok x s1 => rw [e] at p; intro a b c d S' F r; exact k x s1 a b c d S' F r (p.later F)
  | exc c s1 => rw [e] at p; exact p
  | stuck => rw [e] at p; exact p
theorem SimA.bindA {ta : TA} {m : AM} (h : SimA K W ta m) (S : SR K X ρ O s σ H) {f : List MV → MS → R (List MV)} {Q : List V → Hp → Prop} (p : PostA K X W ρ O H σ ((m s).bind f) Q) {Q' : List V → Hp → Prop}
    (k : ∀ x s1 ρ1 O1 H1 v, SR K X ρ1 O1 s1 σ H1 → Fut X ρ O H ρ1 O1 H1 → Reps ρ1 K (view X ρ1 O1 H1) x v → PostA K X W ρ1 O1 H1 σ (f x s1) Q → Q' v H1) : ta σ H Q' := by
  refine h X ρ O s σ H Q' S ?_
  cases e : m s with
  | ok x s1 => rw [e] at p; intro a b c d S' F r; exact k x s1 a b c d S' F r (p.later F)
  | exc c s1 => rw [e] at p; exact p
  | stuck => rw [e] at p; exact p
/-- the end: a value without change of the heap -/
theorem PostE.done {x : MV} {v : V} {Q : VK} (p : PostE K X W ρ O H σ (.ok x s) Q) (S : SR K X ρ O s σ H) (r : Rep ρ K (view X ρ O H) x v) : Q v H := p ρ O H v S Fut.refl r
theorem PostE.grown {x : MV} {v : V} {Q : VK} (p : PostE K X W ρ O H σ (.ok x s) Q) (S : SR K X ρ O s σ H) (e : Ex H H') (r : Rep ρ K (view X ρ O H') x v) : Q v H' := p ρ O H' v (S.grow e) (Fut.grow e) r
theorem PostT.done {x : Bool} {Q : Bool → Hp → Prop} (p : PostT K X W ρ O H σ (.ok x s) Q) (S : SR K X ρ O s σ H) : Q x H := p ρ O H S Fut.refl
theorem PostA.done {x : List MV} {v : List V} {Q : List V → Hp → Prop} (p : PostA K X W ρ O H σ (.ok x s) Q) (S : SR K X ρ O s σ H) (r : Reps ρ K (view X ρ O H) x v) : Q v H := p ρ O H v S Fut.refl r
end
end M

namespace M
open PySem L2 PyProof.Rows
open Classical

/-! ## the judgements: a HandS rule and what it does in M -/
structure PEM (ct : String → Addr) (X : Cx) (W : WX) (e : Expr) (te : TE) (m : EM) : Prop where
  pe : PE X e te
  sim : SimE ⟨X.K, ct⟩ W te m
structure PTM (ct : String → Addr) (X : Cx) (W : WX) (e : Expr) (te : TT) (m : TM) : Prop where
  pe : PT X e te
  sim : SimT ⟨X.K, ct⟩ W te m
structure PWM (ct : String → Addr) (X : Cx) (W : WX) (e : Expr) (te : TT) (m : TM) : Prop where
  pe : PW X e te
  sim : SimT ⟨X.K, ct⟩ W te m
structure PAM (ct : String → Addr) (X : Cx) (W : WX) (e : List Expr) (te : TA) (m : AM) : Prop where
  pe : PA X e te
  sim : SimA ⟨X.K, ct⟩ W te m
structure PSM (ct : String → Addr) (X : Cx) (W : WX) (e : Stmt) (te : TS) (m : SM) : Prop where
  pe : PS X e te
  sim : SimS ⟨X.K, ct⟩ W te m
structure PSsM (ct : String → Addr) (X : Cx) (W : WX) (e : List Stmt) (te : TS) (m : SM) : Prop where
  pe : PSs X e te
  sim : SimS ⟨X.K, ct⟩ W te m

/-! ## denotations -/
def mVar (i : Nat) : EM := fun s => match s.env[i]? with
  | some (.sh x) => .ok x s
  | _ => .stuck
def mCon (v : MV) : EM := fun s => .ok v s
def mBin (f : MV → MV → EM) (a b : EM) : EM := fun s => (a s).bind fun x s1 => (b s1).bind fun y s2 => f x y s2
def mUn (f : MV → EM) (a : EM) : EM := fun s => (a s).bind fun x s1 => f x s1
def aNil : AM := fun s => .ok [] s
def aCons (a : EM) (r : AM) : AM := fun s => (a s).bind fun x s1 => (r s1).bind fun xs s2 => .ok (x :: xs) s2
def mArg (f : List MV → EM) (a : AM) : EM := fun s => (a s).bind fun x s1 => f x s1
def tOf (a : EM) : TM := fun s => (a s).bind fun x s1 => match x with
  | .bl b => .ok b s1
  | _ => .stuck
def tAndM (a b : TM) : TM := fun s => (a s).bind fun x s1 => if x = true then b s1 else .ok false s1
def tOrM (a b : TM) : TM := fun s => (a s).bind fun x s1 => if x = true then .ok true s1 else b s1
def tNotM (a : TM) : TM := fun s => (a s).bind fun x s1 => .ok (!x) s1
def mIte (t : TM) (a b : EM) : EM := fun s => (t s).bind fun x s1 => if x = true then a s1 else b s1
def mAndV (a b : EM) : EM := fun s => (a s).bind fun x s1 => match x with
  | .bl c => if c = true then b s1 else .ok (.bl false) s1
  | _ => .stuck
def mOrV (a b : EM) : EM := fun s => (a s).bind fun x s1 => match x with
  | .bl c => if c = true then .ok (.bl true) s1 else b s1
  | _ => .stuck
def mNotV (a : EM) : EM := fun s => (a s).bind fun x s1 => match x with
  | .bl c => .ok (.bl (!c)) s1
  | _ => .stuck
/-- sizes -/
def mulOk (i j : Int) : Prop := i.natAbs.log2 + j.natAbs.log2 < 100000000
def divOk (j : Int) : Prop := j.natAbs.log2 < 9000
def lim (n : Nat) : Prop := n ≤ 16777216
def repOk (n : Nat) (k : Int) : Prop := k < 2 ^ 62 ∧ n * k.toNat ≤ 16777216 ∧ -(2 ^ 62) ≤ k
def powOk (i j : Int) : Prop := 0 ≤ j ∧ j ≤ 1000000 ∧ i.natAbs < 2 ^ 64
noncomputable def oAdd : MV → MV → EM := fun x y s => match x, y with
  | .int i, .int j => .ok (.int (i + j)) s
  | .str i, .str j => if lim (i.length + j.length) then .ok (.str (i ++ j)) s else .stuck
  | .lst xs, .lst ys => if lim (xs.length + ys.length) then .ok (.lst (xs ++ ys)) s else .stuck
  | .lst xs, .ref n => (match s.G[n]? with
    | some (.lst ys) => if lim (xs.length + ys.length) then .ok (.lst (xs ++ ys)) s else .stuck
    | _ => .stuck)
  | .ref m, .ref n => (match s.G[m]? with
    | some (.lst xs) => (match s.G[n]? with
      | some (.lst ys) => if lim (xs.length + ys.length) then .ok (.lst (xs ++ ys)) s else .stuck
      | _ => .stuck)
    | _ => .stuck)
  | _, _ => .stuck
def oSub : MV → MV → EM := fun x y s => match x, y with
  | .int i, .int j => .ok (.int (i - j)) s
  | _, _ => .stuck
noncomputable def oMul : MV → MV → EM := fun x y s => match x, y with
  | .int i, .int j => if mulOk i j then .ok (.int (i * j)) s else .stuck
  | .lst xs, .int k => if repOk xs.length k then .ok (.lst (List.replicate k.toNat xs).flatten) s else .stuck
  | _, _ => .stuck
noncomputable def oDiv : MV → MV → EM := fun x y s => match x, y with
  | .int i, .int j => if j ≠ 0 ∧ divOk j then .ok (.int (i.fdiv j)) s else .stuck
  | _, _ => .stuck
noncomputable def oMod : MV → MV → EM := fun x y s => match x, y with
  | .int i, .int j => if j ≠ 0 then .ok (.int (i.fmod j)) s else .stuck
  | _, _ => .stuck
noncomputable def oPow : MV → MV → EM := fun x y s => match x, y with
  | .int i, .int j => if powOk i j then .ok (.int (i ^ j.toNat)) s else .stuck
  | _, _ => .stuck
def oCmpI (p : Int → Int → Bool) : MV → MV → EM := fun x y s => match x, y with
  | .int i, .int j => .ok (.bl (p i j)) s
  | _, _ => .stuck
abbrev oLt := oCmpI fun i j => decide (i < j)
abbrev oLe := oCmpI fun i j => decide (i ≤ j)
abbrev oGt := oCmpI fun i j => decide (j < i)
abbrev oGe := oCmpI fun i j => decide (j ≤ i)
mutual
def toD : MV → Option PyData
  | .non => some .none
  | .bl b => some (.bool b)
  | .int i => some (.int i)
  | .str s => some (.str s)
  | .tup xs => (toDs xs).map .tuple
  | .lst xs => (toDs xs).map .list
  | .scr xs => (toDs xs).map .list
  | .obj _ _ _ => none
  | .ref _ => none
  | .err _ => none
  | .dic => none
def toDs : List MV → Option (List PyData)
  | [] => some []
  | x :: xs => match toD x, toDs xs with
    | some d, some ds => some (d :: ds)
    | _, _ => none
end
noncomputable def oEq : MV → MV → EM := fun x y s => match toD x, toD y with
  | some d, some e => if SeqAt.shaped d = true ∧ SeqAt.shaped e = true then .ok (.bl (PyData.eqv d e)) s else .stuck
  | _, _ => .stuck
noncomputable def oNe : MV → MV → EM := fun x y s => match toD x, toD y with
  | some d, some e => if SeqAt.shaped d = true ∧ SeqAt.shaped e = true then .ok (.bl (!PyData.eqv d e)) s else .stuck
  | _, _ => .stuck
def isN : MV → Bool
  | .non => true
  | _ => false
def oIsN : MV → EM := fun x s => .ok (.bl (isN x)) s
def oNotN : MV → EM := fun x s => .ok (.bl (!isN x)) s
def oNeg : MV → EM := fun x s => match x with
  | .int i => .ok (.int (-i)) s
  | _ => .stuck
/-- x[i], i from 0 on -/
noncomputable def oIdx : MV → MV → EM := fun x y s => match x, y with
  | .lst xs, .int i => if 0 ≤ i then (match xs[i.toNat]? with
    | some m => .ok m s
    | none => .stuck) else .stuck
  | .scr xs, .int i => if 0 ≤ i then (match xs[i.toNat]? with
    | some m => .ok m s
    | none => .stuck) else .stuck
  | .tup xs, .int i => if 0 ≤ i then (match xs[i.toNat]? with
    | some m => .ok m s
    | none => .stuck) else .stuck
  | .str z, .int i => if 0 ≤ i ∧ lim z.length then (match z.cps.toList[i.toNat]? with
    | some c => .ok (.str ⟨#[c]⟩) s
    | none => .stuck) else .stuck
  | .ref n, .int i => if 0 ≤ i then (match s.G[n]? with
    | some (.lst xs) => (match xs[i.toNat]? with
      | some m => .ok m s
      | none => .stuck)
    | _ => .stuck) else .stuck
  | _, _ => .stuck
noncomputable def oTup : List MV → EM := fun xs s => if lim xs.length then .ok (.tup xs) s else .stuck
noncomputable def oLst : List MV → EM := fun xs s => if lim xs.length then .ok (.lst xs) s else .stuck
/-- calls of built-ins -/
def bAbs : List MV → EM := fun xs s => match xs with
  | [.int i] => .ok (.int (if i < 0 then -i else i)) s
  | _ => .stuck
def bMax : List MV → EM := fun xs s => match xs with
  | [.int i, .int j] => .ok (.int (if j > i then j else i)) s
  | _ => .stuck
def bMin : List MV → EM := fun xs s => match xs with
  | [.int i, .int j] => .ok (.int (if j < i then j else i)) s
  | _ => .stuck
noncomputable def bLen : List MV → EM := fun xs s => match xs with
  | [.lst xs] => .ok (.int xs.length) s
  | [.scr xs] => .ok (.int xs.length) s
  | [.tup xs] => .ok (.int xs.length) s
  | [.str z] => if lim z.length then .ok (.int z.length) s else .stuck
  | [.ref n] => (match s.G[n]? with
    | some (.lst xs) => .ok (.int xs.length) s
    | _ => .stuck)
  | _ => .stuck
def bInt : List MV → EM := fun xs s => match xs with
  | [.int i] => .ok (.int i) s
  | [.bl b] => .ok (.int (if b then 1 else 0)) s
  | _ => .stuck
def bList : List MV → EM := fun xs s => match xs with
  | [.lst xs] => .ok (.lst xs) s
  | [.scr xs] => .ok (.lst xs) s
  | [.tup xs] => .ok (.lst xs) s
  | [.ref n] => (match s.G[n]? with
    | some (.lst xs) => .ok (.lst xs) s
    | _ => .stuck)
  | _ => .stuck
def bTuple : List MV → EM := fun xs s => match xs with
  | [.lst xs] => .ok (.tup xs) s
  | [.tup xs] => .ok (.tup xs) s
  | _ => .stuck
def tyName : MV → Option String
  | .non => some "NoneType"
  | .bl _ => some "bool"
  | .int _ => some "int"
  | .str _ => some "str"
  | .tup _ => some "tuple"
  | .lst _ => some "list"
  | .scr _ => none
  | .obj _ _ _ => none
  | .ref _ => none
  | .err _ => none
  | .dic => some "dict"
def tyG (G : MHeap) : MV → Option String
  | .ref n => (match G[n]? with
    | some (.lst _) => some "list"
    | _ => none)
  | x => tyName x
def oIsi (T : String) : MV → EM := fun x s => match tyG s.G x with
  | some n => (match kitB n T with
    | some b => .ok (.bl b) s
    | none => .stuck)
  | none => .stuck

/-! ## expressions -/
section
variable {K : KA} {W : WX} {ta tb te : TE} {tt tu : TT} {tr : TA} {ma mb : EM} {mt mu : TM} {mr : AM}
theorem sim_var (i : Nat) : SimE K W (tVar i) (mVar i) := by
  intro X ρ O s σ H Q S p
  unfold mVar at p
  cases e : s.env[i]? with
  | none => rw [e] at p; exact p.elim
  | some z =>
    rw [e] at p
    cases z with
    | un => exact p.elim
    | ow xs => exact p.elim
    | sh x =>
      obtain ⟨_, v, h1, h2⟩ := S.sl i _ e
      exact ⟨v, h1, p.done S h2⟩
theorem sim_con {m : MV} {v : V} (h : ∀ (ρ : List Addr) H, Rep ρ K H m v) : SimE K W (tC v) (mCon m) := by
  intro X ρ O s σ H Q S p
  exact p.done S (h _ _)
theorem sim_op {r : R2} {f : MV → MV → EM} (ha : SimE K W ta ma) (hb : SimE K W tb mb) (hr : SimOp K r f) : SimE K W (tOp r ta tb) (mBin f ma mb) := by
  intro X ρ O s σ H Q S p
  refine ha.bindE S p fun x s1 ρ1 O1 H1 v S1 F1 r1 p1 => ?_
  refine hb.bindE S1 p1 fun y s2 ρ2 O2 H2 u S2 F2 r2 p2 => ?_
  exact hr X W ρ2 O2 s2 σ H2 x y v u Q S2 (F2.rep r1) r2 p2
theorem sim_un {r : V → Hp → VK → Prop} {f : MV → EM} (ha : SimE K W ta ma) (hr : SimU K r f) : SimE K W (tUn r ta) (mUn f ma) := by
  intro X ρ O s σ H Q S p
  refine ha.bindE S p fun x s1 ρ1 O1 H1 v S1 F1 r1 p1 => ?_
  exact hr X W ρ1 O1 s1 σ H1 x v Q S1 r1 p1
theorem sim_nil : SimA K W tNil aNil := fun X ρ O s σ H Q S p => p.done S .nil
theorem sim_cons (ha : SimE K W ta ma) (hr : SimA K W tr mr) : SimA K W (tCons ta tr) (aCons ma mr) := by
  intro X ρ O s σ H Q S p
  refine ha.bindA S p fun x s1 ρ1 O1 H1 v S1 F1 r1 p1 => ?_
  refine hr.bindA S1 p1 fun y s2 ρ2 O2 H2 u S2 F2 r2 p2 => ?_
  exact p2.done S2 (.cons (F2.rep r1) r2)
theorem sim_cb {r : List V → Hp → VK → Prop} {f : List MV → EM} (hr : SimA K W tr mr) (hc : SimC K r f) : SimE K W (tCB r tr) (mArg f mr) := by
  intro X ρ O s σ H Q S p
  refine hr.bindE S p fun x s1 ρ1 O1 H1 v S1 F1 r1 p1 => ?_
  exact hc X W ρ1 O1 s1 σ H1 x v Q S1 r1 p1
theorem sim_test (ha : SimE K W ta ma) : SimT K W (tTest ta) (tOf ma) := by
  intro X ρ O s σ H Q S p
  refine ha.bindT S p fun x s1 ρ1 O1 H1 v S1 F1 r1 p1 => ?_
  cases r1 with
  | bl b => exact ⟨b, rfl, p1.done S1⟩
  | _ => exact p1.elim
theorem sim_tB (ha : SimE K W ta ma) : SimT K W (tB ta) (tOf ma) := by
  intro X ρ O s σ H Q S p
  refine ha.bindT S p fun x s1 ρ1 O1 H1 v S1 F1 r1 p1 => ?_
  cases r1 with
  | bl b => exact ⟨b, rfl, p1.done S1⟩
  | _ => exact p1.elim
theorem sim_and (ha : SimT K W tt mt) (hb : SimT K W tu mu) : SimT K W (tAnd tt tu) (tAndM mt mu) := by
  intro X ρ O s σ H Q S p
  refine ha.bindT S p fun x s1 ρ1 O1 H1 S1 F1 p1 => ?_
  cases x with
  | true => exact hb X ρ1 O1 s1 σ H1 Q S1 p1
  | false => exact p1.done S1
theorem sim_or (ha : SimT K W tt mt) (hb : SimT K W tu mu) : SimT K W (tOr tt tu) (tOrM mt mu) := by
  intro X ρ O s σ H Q S p
  refine ha.bindT S p fun x s1 ρ1 O1 H1 S1 F1 p1 => ?_
  cases x with
  | true => exact p1.done S1
  | false => exact hb X ρ1 O1 s1 σ H1 Q S1 p1
theorem sim_not (ha : SimT K W tt mt) : SimT K W (tNot tt) (tNotM mt) := by
  intro X ρ O s σ H Q S p
  refine ha.bindT S p fun x s1 ρ1 O1 H1 S1 F1 p1 => ?_
  exact p1.done S1
theorem sim_if (hc : SimT K W tt mt) (ha : SimE K W ta ma) (hb : SimE K W tb mb) : SimE K W (tIf tt ta tb) (mIte mt ma mb) := by
  intro X ρ O s σ H Q S p
  refine hc.bindE S p fun x s1 ρ1 O1 H1 S1 F1 p1 => ?_
  cases x with
  | true => exact ha X ρ1 O1 s1 σ H1 Q S1 p1
  | false => exact hb X ρ1 O1 s1 σ H1 Q S1 p1
theorem sim_andV (ha : SimE K W ta ma) (hb : SimE K W tb mb) : SimE K W (tAndV ta tb) (mAndV ma mb) := by
  intro X ρ O s σ H Q S p
  refine ha.bindE S p fun x s1 ρ1 O1 H1 v S1 F1 r1 p1 => ?_
  cases r1 with
  | bl b =>
    refine ⟨b, rfl, ?_⟩
    cases b with
    | true => exact hb X ρ1 O1 s1 σ H1 Q S1 p1
    | false => exact p1.done S1 (.bl _)
  | _ => exact p1.elim
theorem sim_orV (ha : SimE K W ta ma) (hb : SimE K W tb mb) : SimE K W (tOrV ta tb) (mOrV ma mb) := by
  intro X ρ O s σ H Q S p
  refine ha.bindE S p fun x s1 ρ1 O1 H1 v S1 F1 r1 p1 => ?_
  cases r1 with
  | bl b =>
    refine ⟨b, rfl, ?_⟩
    cases b with
    | true => exact p1.done S1 (.bl _)
    | false => exact hb X ρ1 O1 s1 σ H1 Q S1 p1
  | _ => exact p1.elim
theorem sim_notV (ha : SimE K W ta ma) : SimE K W (tNotV ta) (mNotV ma) := by
  intro X ρ O s σ H Q S p
  refine ha.bindE S p fun x s1 ρ1 O1 H1 v S1 F1 r1 p1 => ?_
  cases r1 with
  | bl b => exact ⟨b, rfl, p1.done S1 (.bl _)⟩
  | _ => exact p1.elim
/-! ### a tuple, a frozen list -/
theorem sim_tup (hr : SimA K W tr mr) : SimE K W (tTup tr) (mArg oTup mr) := by
  intro X ρ O s σ H Q S p
  refine hr.bindE S p fun x s1 ρ1 O1 H1 v S1 F1 r1 p1 => ?_
  unfold oTup at p1
  by_cases hl : lim x.length
  · rw [if_pos hl] at p1
    refine ⟨by rw [← r1.length, sizeLine_eq]; exact hl, fun a ha => p1.grown S1 (Ex.new ha) (.tup (.inl (.inl (S1.view_new ha))) (r1.mono (Pre.refl _) (view_ex (Ex.new ha))))⟩
  · rw [if_neg hl] at p1; exact p1.elim
theorem sim_lst (hr : SimA K W tr mr) : SimE K W (tLst tr) (mArg oLst mr) := by
  intro X ρ O s σ H Q S p
  refine hr.bindE S p fun x s1 ρ1 O1 H1 v S1 F1 r1 p1 => ?_
  unfold oLst at p1
  by_cases hl : lim x.length
  · rw [if_pos hl] at p1
    refine ⟨by rw [← r1.length, sizeLine_eq]; exact hl, fun a ha => p1.grown S1 (Ex.new ha) (.lst (S1.view_new ha) (r1.mono (Pre.refl _) (view_ex (Ex.new ha))))⟩
  · rw [if_neg hl] at p1; exact p1.elim
end

/-! ## operations -/
section
variable {K : KA}
theorem mulOk_ok {i j : Int} (h : mulOk i j) : IntMulOk i j := by
  have b : ∀ x : Int, Builtin.Int.intBits x ≤ x.natAbs.log2 + 1 := fun x => by
    unfold Builtin.Int.intBits
    split <;> omega
  have h1 := b i
  have h2 := b j
  have h3 : i.natAbs.log2 + j.natAbs.log2 < 100000000 := h
  have e : bitsLine = 134217728 := by decide
  unfold IntMulOk
  intro z
  rw [Bool.and_eq_true] at z
  have z2 := z.2
  unfold Builtin.Int.intTooBig at z2
  have z3 := of_decide_eq_true z2
  rw [e] at z3
  omega
def rMulI : R2 := rI mulOk fun i j => .int (i * j)
theorem op_mulI {X : Cx} : OpR X (binaryOp .Mult) rMulI := opI fun _ _ _ _ _ _ _ hc q => mul_int q (mulOk_ok hc)
def rDivI : R2 := rI (fun _ j => j ≠ 0 ∧ divOk j) fun i j => .int (i.fdiv j)
theorem op_divI {X : Cx} : OpR X (binaryOp .FloorDiv) rDivI := opI fun _ _ _ _ _ _ _ hc q => floordiv_int hc.1 q (.inl (PyProof.noPylong_of_log2 hc.2))
def rModI : R2 := rI (fun _ j => j ≠ 0) fun i j => .int (i.fmod j)
theorem op_modI {X : Cx} : OpR X (binaryOp .Mod) rModI := op_modN
def rStrAdd : R2 := fun x y H Q => ∃ i j, x = .str i ∧ y = .str j ∧ i.length + j.length ≤ sizeLine ∧ Q (.str (i ++ j)) H
def rAddAll : R2 := fun x y H Q => rI0 (fun i j => .int (i + j)) x y H Q ∨ (rStrAdd x y H Q ∨ rCat x y H Q)
theorem op_addAll {X : Cx} : OpR X (binaryOp .Add) rAddAll := op_add.or (op_add_str.or op_cat)
def rMulAll : R2 := fun x y H Q => rMulI x y H Q ∨ rRep x y H Q
theorem op_mulAll {X : Cx} : OpR X (binaryOp .Mult) rMulAll := op_mulI.or op_rep
theorem Reps.rep {ρ : List Addr} {H : Hp} {ms : List MV} {vs : List V} (r : Reps ρ K H ms vs) : ∀ k : Nat, Reps ρ K H (List.replicate k ms).flatten (List.replicate k vs).flatten
  | 0 => .nil
  | k + 1 => by rw [List.replicate_succ, List.replicate_succ, List.flatten_cons, List.flatten_cons]; exact r.append (Reps.rep r k)
theorem SR.refL {X : Addr → Prop} {ρ : List Addr} {O : Nat → Option Addr} {s : MS} {σ : L2.St} {H : Hp} (S : SR K X ρ O s σ H) {n : Nat} {a : Addr} {ms : List MV} (h : ρ[n]? = some a) (g : s.G[n]? = some (.lst ms)) : ∃ vs, H a = some (.lst vs) ∧ Reps ρ K (view X ρ O H) ms vs := by
  obtain ⟨b, h1, vs, h2, h3⟩ := S.ob n _ g
  rw [h] at h1
  cases h1
  exact ⟨vs, h2, h3⟩
theorem so_add : SimOp K rAddAll oAdd := by
  intro X W ρ O s σ H x y v u Q S rx ry p
  cases rx with
  | int i => cases ry with
    | int j => exact .inl ⟨i, j, rfl, rfl, p.done S (.int _)⟩
    | _ => exact p.elim
  | str i => cases ry with
    | str j =>
      unfold oAdd at p
      by_cases h : lim (i.length + j.length)
      · simp only [if_pos h] at p
        exact .inr (.inl ⟨i, j, rfl, rfl, by rw [sizeLine_eq]; exact h, p.done S (.str _)⟩)
      · simp only [if_neg h] at p; exact p.elim
    | _ => exact p.elim
  | lst hx rx => cases ry with
    | lst hy ry =>
      rename_i a xs vs b ys us
      unfold oAdd at p
      by_cases h : lim (xs.length + ys.length)
      · simp only [if_pos h] at p
        refine .inr (.inr ⟨a, b, vs, us, rfl, rfl, (view_some.mp hx).2, (view_some.mp hy).2, by rw [← rx.length, ← ry.length, sizeLine_eq]; exact h, fun q hq => ?_⟩)
        exact p.grown S (Ex.new hq) (.lst (S.view_new hq) ((rx.append ry).mono (Pre.refl _) (view_ex (Ex.new hq))))
      · simp only [if_neg h] at p; exact p.elim
    | ref hn =>
      rename_i a xs vs n b
      unfold oAdd at p
      cases g : s.G[n]? with
      | none => simp only [g] at p; exact p.elim
      | some o => cases o with
        | ins c ks vs => simp only [g] at p; exact p.elim
        | dic ms => simp only [g] at p; exact p.elim
        | lck od fs ms => simp only [g] at p; exact p.elim
        | lst ys =>
          simp only [g] at p
          obtain ⟨us, hy, ry⟩ := S.refL hn g
          by_cases h : lim (xs.length + ys.length)
          · simp only [if_pos h] at p
            refine .inr (.inr ⟨a, b, vs, us, rfl, rfl, (view_some.mp hx).2, hy, by rw [← rx.length, ← ry.length, sizeLine_eq]; exact h, fun q hq => ?_⟩)
            exact p.grown S (Ex.new hq) (.lst (S.view_new hq) ((rx.append ry).mono (Pre.refl _) (view_ex (Ex.new hq))))
          · simp only [if_neg h] at p; exact p.elim
    | _ => exact p.elim
  | ref hm => cases ry with
    | ref hn =>
      rename_i m a n b
      unfold oAdd at p
      cases f : s.G[m]? with
      | none => simp only [f] at p; exact p.elim
      | some o => cases o with
        | ins c ks vs => simp only [f] at p; exact p.elim
        | dic ms => simp only [f] at p; exact p.elim
        | lck od fs ms => simp only [f] at p; exact p.elim
        | lst xs =>
          simp only [f] at p
          cases g : s.G[n]? with
          | none => simp only [g] at p; exact p.elim
          | some o => cases o with
            | ins c ks vs => simp only [g] at p; exact p.elim
            | dic ms => simp only [g] at p; exact p.elim
            | lck od fs ms => simp only [g] at p; exact p.elim
            | lst ys =>
              simp only [g] at p
              obtain ⟨vs, hx, rx⟩ := S.refL hm f
              obtain ⟨us, hy, ry⟩ := S.refL hn g
              by_cases h : lim (xs.length + ys.length)
              · simp only [if_pos h] at p
                refine .inr (.inr ⟨a, b, vs, us, rfl, rfl, hx, hy, by rw [← rx.length, ← ry.length, sizeLine_eq]; exact h, fun q hq => ?_⟩)
                exact p.grown S (Ex.new hq) (.lst (S.view_new hq) ((rx.append ry).mono (Pre.refl _) (view_ex (Ex.new hq))))
              · simp only [if_neg h] at p; exact p.elim
    | _ => exact p.elim
  | _ => cases ry <;> exact p.elim
theorem so_sub : SimOp K (rI0 fun i j => .int (i - j)) oSub := by
  intro X W ρ O s σ H x y v u Q S rx ry p
  cases rx with
  | int i => cases ry with
    | int j => exact ⟨i, j, rfl, rfl, p.done S (.int _)⟩
    | _ => exact p.elim
  | _ => cases ry <;> exact p.elim
theorem so_mul : SimOp K rMulAll oMul := by
  intro X W ρ O s σ H x y v u Q S rx ry p
  cases rx with
  | int i => cases ry with
    | int j =>
      unfold oMul at p
      by_cases h : mulOk i j
      · simp only [if_pos h] at p
        exact .inl ⟨i, j, rfl, rfl, h, p.done S (.int _)⟩
      · simp only [if_neg h] at p; exact p.elim
    | _ => exact p.elim
  | lst hx rx => cases ry with
    | int k =>
      rename_i a xs vs
      unfold oMul at p
      by_cases h : repOk xs.length k
      · simp only [if_pos h] at p
        refine .inr ⟨a, k, vs, rfl, rfl, (view_some.mp hx).2, by have := h.2.2; omega, by have := h.1; omega, by rw [← rx.length, sizeLine_eq]; exact h.2.1, fun q hq => ?_⟩
        exact p.grown S (Ex.new hq) (.lst (S.view_new hq) ((rx.rep k.toNat).mono (Pre.refl _) (view_ex (Ex.new hq))))
      · simp only [if_neg h] at p; exact p.elim
    | _ => exact p.elim
  | _ => cases ry <;> exact p.elim
theorem so_div : SimOp K rDivI oDiv := by
  intro X W ρ O s σ H x y v u Q S rx ry p
  cases rx with
  | int i => cases ry with
    | int j =>
      unfold oDiv at p
      by_cases h : j ≠ 0 ∧ divOk j
      · simp only [if_pos h] at p
        exact ⟨i, j, rfl, rfl, h, p.done S (.int _)⟩
      · simp only [if_neg h] at p; exact p.elim
    | _ => exact p.elim
  | _ => cases ry <;> exact p.elim
theorem so_mod : SimOp K rModI oMod := by
  intro X W ρ O s σ H x y v u Q S rx ry p
  cases rx with
  | int i => cases ry with
    | int j =>
      unfold oMod at p
      by_cases h : j ≠ 0
      · simp only [if_pos h] at p
        exact ⟨i, j, rfl, rfl, h, p.done S (.int _)⟩
      · simp only [if_neg h] at p; exact p.elim
    | _ => exact p.elim
  | _ => cases ry <;> exact p.elim
theorem so_pow : SimOp K (rI CPow fun i j => .int (i ^ j.toNat)) oPow := by
  intro X W ρ O s σ H x y v u Q S rx ry p
  cases rx with
  | int i => cases ry with
    | int j =>
      unfold oPow at p
      by_cases h : powOk i j
      · simp only [if_pos h] at p
        exact ⟨i, j, rfl, rfl, h, p.done S (.int _)⟩
      · simp only [if_neg h] at p; exact p.elim
    | _ => exact p.elim
  | _ => cases ry <;> exact p.elim
theorem so_cmpI {q : Int → Int → Bool} : SimOp K (rI0 fun i j => .bl (q i j)) (oCmpI q) := by
  intro X W ρ O s σ H x y v u Q S rx ry p
  cases rx with
  | int i => cases ry with
    | int j => exact ⟨i, j, rfl, rfl, p.done S (.bl _)⟩
    | _ => exact p.elim
  | _ => cases ry <;> exact p.elim
mutual
theorem toD_dp {ρ : List Addr} {Vw H : Hp} (e : Ex Vw H) : ∀ {x : MV} {v : V} {d : PyData}, Rep ρ K Vw x v → toD x = some d → Dp K.F H v d
  | _, _, _, .non, h => by cases h; exact .non
  | _, _, _, .bl b, h => by cases h; exact .bl b
  | _, _, _, .int i, h => by cases h; exact .int i
  | _, _, _, .str s, h => by cases h; exact .str s
  | .tup xs, _, d, .tup hs r, h => by
    rw [toD] at h
    obtain ⟨ds, h1, rfl⟩ := Option.map_eq_some_iff.mp h
    exact .tup (sqt_ex e hs) (toDs_dp e r h1)
  | .lst xs, _, d, .lst hs r, h => by
    rw [toD] at h
    obtain ⟨ds, h1, rfl⟩ := Option.map_eq_some_iff.mp h
    exact .lst (.inl (.inl (e _ _ hs))) (toDs_dp e r h1)
  | .scr xs, _, d, .scr hs r, h => by
    rw [toD] at h
    obtain ⟨ds, h1, rfl⟩ := Option.map_eq_some_iff.mp h
    exact .lst (sql_ex e hs) (toDs_dp e r h1)
  | _, _, _, .obj _ _ _, h => by cases h
  | _, _, _, .ref _, h => by cases h
  | _, _, _, .err _, h => by cases h
  | _, _, _, .dic _, h => by cases h
theorem toDs_dp {ρ : List Addr} {Vw H : Hp} (e : Ex Vw H) : ∀ {x : List MV} {v : List V} {d : List PyData}, Reps ρ K Vw x v → toDs x = some d → DpAll K.F H v d
  | _, _, _, .nil, h => by cases h; exact .nil
  | x :: xs, _, d, .cons r rs, h => by
    rw [toDs] at h
    cases e1 : toD x with
    | none => rw [e1] at h; cases h
    | some d1 =>
      cases e2 : toDs xs with
      | none => rw [e1, e2] at h; cases h
      | some d2 =>
        rw [e1, e2] at h
        cases h
        exact .cons (toD_dp e r e1) (toDs_dp e rs e2)
end
theorem so_eq : SimOp K (rEqD K.F) oEq := by
  intro X W ρ O s σ H x y v u Q S rx ry p
  unfold oEq at p
  cases e1 : toD x with
  | none => rw [e1] at p; exact p.elim
  | some d =>
    cases e2 : toD y with
    | none => rw [e1, e2] at p; exact p.elim
    | some e =>
      rw [e1, e2] at p
      by_cases h : SeqAt.shaped d = true ∧ SeqAt.shaped e = true
      · simp only [if_pos h] at p
        exact ⟨d, e, toD_dp (view_le _ _ _ _) rx e1, toD_dp (view_le _ _ _ _) ry e2, h.1, h.2, p.done S (.bl _)⟩
      · simp only [if_neg h] at p; exact p.elim
theorem so_ne : SimOp K (rNeD K.F) oNe := by
  intro X W ρ O s σ H x y v u Q S rx ry p
  unfold oNe at p
  cases e1 : toD x with
  | none => rw [e1] at p; exact p.elim
  | some d =>
    cases e2 : toD y with
    | none => rw [e1, e2] at p; exact p.elim
    | some e =>
      rw [e1, e2] at p
      by_cases h : SeqAt.shaped d = true ∧ SeqAt.shaped e = true
      · simp only [if_pos h] at p
        exact ⟨d, e, toD_dp (view_le _ _ _ _) rx e1, toD_dp (view_le _ _ _ _) ry e2, h.1, h.2, p.done S (.bl _)⟩
      · simp only [if_neg h] at p; exact p.elim
theorem Rep.isN {ρ : List Addr} {H : Hp} {x : MV} {v : V} (r : Rep ρ K H x v) : decide (v = .non) = isN x := by
  cases r <;> rfl
theorem sqlv {X : Addr → Prop} {ρ : List Addr} {O : Nat → Option Addr} {H : Hp} {a : Addr} {vs : List V} (h : view X ρ O H a = some (.lst vs)) : SqL K.F H a vs := .inl (.inl (view_some.mp h).2)
theorem so_idx : SimOp K (rIx K.F) oIdx := by
  intro X W ρ O s σ H x y v u Q S rx ry p
  cases rx with
  | lst hx rx => cases ry with
    | int i =>
      rename_i a ms vs
      unfold oIdx at p
      by_cases h0 : 0 ≤ i
      · simp only [if_pos h0] at p
        cases e : ms[i.toNat]? with
        | none => rw [e] at p; exact p.elim
        | some m =>
          rw [e] at p
          obtain ⟨w, hw, rw'⟩ := rx.get e
          exact .inl ⟨a, vs, i, w, rfl, rfl, sqlv hx, at_of (by omega) hw, p.done S rw'⟩
      · simp only [if_neg h0] at p; exact p.elim
    | _ => exact p.elim
  | scr hx rx => cases ry with
    | int i =>
      rename_i a ms vs
      unfold oIdx at p
      by_cases h0 : 0 ≤ i
      · simp only [if_pos h0] at p
        cases e : ms[i.toNat]? with
        | none => rw [e] at p; exact p.elim
        | some m =>
          rw [e] at p
          obtain ⟨w, hw, rw'⟩ := rx.get e
          exact .inl ⟨a, vs, i, w, rfl, rfl, sql_ex (view_le _ _ _ _) hx, at_of (by omega) hw, p.done S rw'⟩
      · simp only [if_neg h0] at p; exact p.elim
    | _ => exact p.elim
  | tup hx rx => cases ry with
    | int i =>
      rename_i a ms vs
      unfold oIdx at p
      by_cases h0 : 0 ≤ i
      · simp only [if_pos h0] at p
        cases e : ms[i.toNat]? with
        | none => rw [e] at p; exact p.elim
        | some m =>
          rw [e] at p
          obtain ⟨w, hw, rw'⟩ := rx.get e
          exact .inr (.inl ⟨a, vs, i, w, rfl, rfl, sqt_ex (view_le _ _ _ _) hx, at_of (by omega) hw, p.done S rw'⟩)
      · simp only [if_neg h0] at p; exact p.elim
    | _ => exact p.elim
  | str z => cases ry with
    | int i =>
      unfold oIdx at p
      by_cases h0 : 0 ≤ i ∧ lim z.length
      · simp only [if_pos h0] at p
        cases e : z.cps.toList[i.toNat]? with
        | none => rw [e] at p; exact p.elim
        | some c =>
          rw [e] at p
          refine .inr (.inr ⟨z, i, c, rfl, rfl, by rw [sizeLine_eq]; exact h0.2, ?_, p.done S (.str _)⟩)
          have q : i = ((i.toNat : Nat) : Int) := by omega
          rw [q]; exact atI_nat e
      · simp only [if_neg h0] at p; exact p.elim
    | _ => exact p.elim
  | ref hn => cases ry with
    | int i =>
      rename_i n a
      unfold oIdx at p
      by_cases h0 : 0 ≤ i
      · simp only [if_pos h0] at p
        cases g : s.G[n]? with
        | none => rw [g] at p; exact p.elim
        | some o => cases o with
          | ins c ks vs => rw [g] at p; exact p.elim
          | dic ms => rw [g] at p; exact p.elim
          | lck od fs ms => rw [g] at p; exact p.elim
          | lst ms =>
            simp only [g] at p
            obtain ⟨vs, hx, rx⟩ := S.refL hn g
            cases e : ms[i.toNat]? with
            | none => rw [e] at p; exact p.elim
            | some m =>
              rw [e] at p
              obtain ⟨w, hw, rw'⟩ := rx.get e
              exact .inl ⟨a, vs, i, w, rfl, rfl, .inl (.inl hx), at_of (by omega) hw, p.done S rw'⟩
      · simp only [if_neg h0] at p; exact p.elim
    | _ => exact p.elim
  | _ => cases ry <;> exact p.elim
/-! ### built-ins -/
theorem sc_abs : SimC K (fun xs H Q => ∃ i, xs = [.int i] ∧ Q (.int (if i < 0 then -i else i)) H) bAbs := by
  intro X W ρ O s σ H xs vs Q S r p
  cases r with
  | nil => exact p.elim
  | cons r1 rr => cases rr with
    | cons _ _ => cases r1 <;> exact p.elim
    | nil => cases r1 with
      | int i => exact ⟨i, rfl, p.done S (.int _)⟩
      | _ => exact p.elim
theorem sc_max : SimC K (fun xs H Q => ∃ i j, xs = [.int i, .int j] ∧ Q (.int (if j > i then j else i)) H) bMax := by
  intro X W ρ O s σ H xs vs Q S r p
  cases r with
  | nil => exact p.elim
  | cons r1 rr => cases rr with
    | nil => cases r1 <;> exact p.elim
    | cons r2 r3 => cases r3 with
      | cons _ _ => cases r1 <;> cases r2 <;> exact p.elim
      | nil => cases r1 with
        | int i => cases r2 with
          | int j => exact ⟨i, j, rfl, p.done S (.int _)⟩
          | _ => exact p.elim
        | _ => exact p.elim
theorem sc_min : SimC K (fun xs H Q => ∃ i j, xs = [.int i, .int j] ∧ Q (.int (if j < i then j else i)) H) bMin := by
  intro X W ρ O s σ H xs vs Q S r p
  cases r with
  | nil => exact p.elim
  | cons r1 rr => cases rr with
    | nil => cases r1 <;> exact p.elim
    | cons r2 r3 => cases r3 with
      | cons _ _ => cases r1 <;> cases r2 <;> exact p.elim
      | nil => cases r1 with
        | int i => cases r2 with
          | int j => exact ⟨i, j, rfl, p.done S (.int _)⟩
          | _ => exact p.elim
        | _ => exact p.elim
theorem sc_int : SimC K (fun xs H Q => (∃ i, xs = [.int i] ∧ Q (.int i) H) ∨ ∃ k, xs = [.bl k] ∧ Q (.int (if k then 1 else 0)) H) bInt := by
  intro X W ρ O s σ H xs vs Q S r p
  cases r with
  | nil => exact p.elim
  | cons r1 rr => cases rr with
    | cons _ _ => cases r1 <;> exact p.elim
    | nil => cases r1 with
      | int i => exact .inl ⟨i, rfl, p.done S (.int _)⟩
      | bl b => exact .inr ⟨b, rfl, p.done S (.int _)⟩
      | _ => exact p.elim
def rLenA (K : PySem.W.Frag) : List V → Hp → VK → Prop := fun xs H Q => (∃ p ys, xs = [.ref p] ∧ (SqL K H p ys ∨ SqT K H p ys) ∧ Q (.int ys.length) H) ∨ (∃ z, xs = [.str z] ∧ z.length ≤ sizeLine ∧ Q (.int z.length) H)
theorem call_lenA {X : Cx} : CallR X (.builtin "len") (rLenA X.K) := CallR.or call_len_seq call_len_str
theorem sc_len : SimC K (rLenA K.F) bLen := by
  intro X W ρ O s σ H xs vs Q S r p
  cases r with
  | nil => exact p.elim
  | cons r1 rr => cases rr with
    | cons _ _ => cases r1 <;> exact p.elim
    | nil => cases r1 with
      | lst hx rx =>
        rename_i a ms us
        refine .inl ⟨a, us, rfl, .inl (sqlv hx), ?_⟩
        rw [← rx.length]
        exact p.done S (.int _)
      | scr hx rx =>
        rename_i a ms us
        refine .inl ⟨a, us, rfl, .inl (sql_ex (view_le _ _ _ _) hx), ?_⟩
        rw [← rx.length]
        exact p.done S (.int _)
      | tup hx rx =>
        rename_i a ms us
        refine .inl ⟨a, us, rfl, .inr (sqt_ex (view_le _ _ _ _) hx), ?_⟩
        rw [← rx.length]
        exact p.done S (.int _)
      | str z =>
        unfold bLen at p
        by_cases h : lim z.length
        · simp only [if_pos h] at p
          exact .inr ⟨z, rfl, by rw [sizeLine_eq]; exact h, p.done S (.int _)⟩
        · simp only [if_neg h] at p; exact p.elim
      | ref hn =>
        rename_i n a
        unfold bLen at p
        cases g : s.G[n]? with
        | none => simp only [g] at p; exact p.elim
        | some o => cases o with
          | ins c ks vs => simp only [g] at p; exact p.elim
          | dic ms => simp only [g] at p; exact p.elim
          | lck od fs ms => simp only [g] at p; exact p.elim
          | lst ms =>
            simp only [g] at p
            obtain ⟨us, hx, rx⟩ := S.refL hn g
            refine .inl ⟨a, us, rfl, .inl (.inl (.inl hx)), ?_⟩
            rw [← rx.length]
            exact p.done S (.int _)
      | _ => exact p.elim
def rListA (K : PySem.W.Frag) : List V → Hp → VK → Prop := fun xs H Q => ∃ p ys, xs = [.ref p] ∧ (SqL K H p ys ∨ SqT K H p ys) ∧ ∀ l, H l = none → Q (.ref l) (upd H l (.lst ys))
theorem sc_list : SimC K (rListA K.F) bList := by
  intro X W ρ O s σ H xs vs Q S r p
  cases r with
  | nil => exact p.elim
  | cons r1 rr => cases rr with
    | cons _ _ => cases r1 <;> exact p.elim
    | nil => cases r1 with
      | lst hx rx => exact ⟨_, _, rfl, .inl (sqlv hx), fun q hq => p.grown S (Ex.new hq) (.lst (S.view_new hq) (rx.mono (Pre.refl _) (view_ex (Ex.new hq))))⟩
      | scr hx rx => exact ⟨_, _, rfl, .inl (sql_ex (view_le _ _ _ _) hx), fun q hq => p.grown S (Ex.new hq) (.lst (S.view_new hq) (rx.mono (Pre.refl _) (view_ex (Ex.new hq))))⟩
      | tup hx rx => exact ⟨_, _, rfl, .inr (sqt_ex (view_le _ _ _ _) hx), fun q hq => p.grown S (Ex.new hq) (.lst (S.view_new hq) (rx.mono (Pre.refl _) (view_ex (Ex.new hq))))⟩
      | ref hn =>
        rename_i n a
        unfold bList at p
        cases g : s.G[n]? with
        | none => simp only [g] at p; exact p.elim
        | some o => cases o with
          | ins c ks vs => simp only [g] at p; exact p.elim
          | dic ms => simp only [g] at p; exact p.elim
          | lck od fs ms => simp only [g] at p; exact p.elim
          | lst ms =>
            simp only [g] at p
            obtain ⟨us, hx, rx⟩ := S.refL hn g
            exact ⟨_, _, rfl, .inl (.inl (.inl hx)), fun q hq => p.grown S (Ex.new hq) (.lst (S.view_new hq) (rx.mono (Pre.refl _) (view_ex (Ex.new hq))))⟩
      | _ => exact p.elim
def rTupA (K : PySem.W.Frag) : List V → Hp → VK → Prop := fun xs H Q => ∃ p ys, xs = [.ref p] ∧ ((SqL K H p ys ∧ ∀ l, H l = none → Q (.ref l) (upd H l (.tup ys))) ∨ (SqT K H p ys ∧ Q (.ref p) H))
theorem sc_tuple : SimC K (rTupA K.F) bTuple := by
  intro X W ρ O s σ H xs vs Q S r p
  cases r with
  | nil => exact p.elim
  | cons r1 rr => cases rr with
    | cons _ _ => cases r1 <;> exact p.elim
    | nil => cases r1 with
      | lst hx rx => exact ⟨_, _, rfl, .inl ⟨sqlv hx, fun q hq => p.grown S (Ex.new hq) (.tup (.inl (.inl (S.view_new hq))) (rx.mono (Pre.refl _) (view_ex (Ex.new hq))))⟩⟩
      | tup hx rx => exact ⟨_, _, rfl, .inr ⟨sqt_ex (view_le _ _ _ _) hx, p.done S (.tup hx rx)⟩⟩
      | _ => exact p.elim
theorem tyx_of {ρ : List Addr} {Vw H : Hp} (e : Ex Vw H) {x : MV} {v : V} {n : String} (r : Rep ρ K Vw x v) (h : tyName x = some n) : TyX K.F H v (.type n) := by
  cases r with
  | non => cases h; exact .base .non
  | bl b => cases h; exact .base (.bl b)
  | int i => cases h; exact .base (.int i)
  | str s => cases h; exact .base (.str s)
  | lst hx _ => cases h; exact .base (.lst (e _ _ hx))
  | tup hx _ =>
    cases h
    rcases hx with (hx | ⟨o, hx⟩) | ⟨o, its, k, hx, hc, _⟩
    · exact .base (.tup (e _ _ hx))
    · exact .fTuple (e _ _ hx)
    · exact .kTuple hx hc
  | scr _ _ => cases h
  | obj _ _ _ => cases h
  | ref _ => cases h
  | err _ => cases h
  | dic hx => cases h; exact .base (.dK (e _ _ hx))
theorem tyxG_of {X : Addr → Prop} {ρ : List Addr} {O : Nat → Option Addr} {s : MS} {σ : L2.St} {H : Hp} (S : SR K X ρ O s σ H) {x : MV} {v : V} {n : String} (r : Rep ρ K (view X ρ O H) x v) (h : tyG s.G x = some n) : TyX K.F H v (.type n) := by
  cases x with
  | ref k =>
    cases r with
    | ref hk =>
      unfold tyG at h
      cases g : s.G[k]? with
      | none => simp only [g] at h; cases h
      | some o => cases o with
        | ins c ks vs => simp only [g] at h; cases h
        | dic ms => simp only [g] at h; cases h
        | lck od fs ms => simp only [g] at h; cases h
        | lst ms =>
          simp only [g] at h
          cases h
          obtain ⟨us, hx, _⟩ := S.refL hk g
          exact .base (.lst hx)
  | _ => exact tyx_of (view_le _ _ _ _) r h
/-- isinstance(x, T), T a built-in class -/
theorem sim_isi {W : WX} {ta : TE} {ma : EM} (T : String) (ha : SimE K W ta ma) : SimE K W (tCB (rIsi K.F) (tCons ta (tCons (tC (.ty T)) tNil))) (mUn (oIsi T) ma) := by
  intro X ρ O s σ H Q S p
  refine ha.bindE S p fun x s1 ρ1 O1 H1 v S1 F1 r1 p1 => ?_
  unfold oIsi at p1
  cases e1 : tyG s1.G x with
  | none => rw [e1] at p1; exact p1.elim
  | some n =>
    rw [e1] at p1
    cases e2 : kitB n T with
    | none => simp only [e2] at p1; exact p1.elim
    | some b =>
      simp only [e2] at p1
      exact ⟨v, .ty T, .type n, .type T, b, rfl, .ty T, tyxG_of S1 r1 e1, kit_ty e2, p1.done S1 (.bl _)⟩
end
end M

namespace M
open PySem L2
open Classical

/-! ## the frame's slots -/
def unO (O : Nat → Option Addr) (i : Nat) : Nat → Option Addr := fun j => if j = i then none else O j
section
variable {K : KA} {X : Addr → Prop} {ρ ρ' : List Addr} {O O' : Nat → Option Addr} {s s' : MS} {σ σ' : St} {H H' : Hp}
theorem unO_sub {i j : Nat} {b : Addr} (h : unO O i j = some b) : j ≠ i ∧ O j = some b := by
  unfold unO at h
  by_cases e : j = i
  · rw [if_pos e] at h; cases h
  · rw [if_neg e] at h; exact ⟨e, h⟩
theorem view_sub (h : ∀ j b, O' j = some b → ∃ j', O j' = some b) : Ex (view X ρ O H) (view X ρ O' H) := fun b o e => by
  obtain ⟨h1, h2⟩ := view_some.mp e
  refine view_some.mpr ⟨fun q => h1 ?_, h2⟩
  rcases q with q | q | ⟨j, q⟩
  · exact .inl q
  · exact .inr (.inl q)
  · exact .inr (.inr (h j b q))
theorem Fut.sub (h : ∀ j b, O' j = some b → ∃ j', O j' = some b) : Fut X ρ O H ρ O' H := ⟨Pre.refl _, view_sub h, fun _ _ _ e => e⟩
/-- slot i is told a value -/
theorem SR.setSh (S : SR K X ρ O s σ H) (i : Nat) {x : MV} {v : V} (r : Rep ρ K (view X ρ O H) x v) :
    SR K X ρ (unO O i) { s with env := s.env.set i (.sh x) } (σ.set i (some v)) H := by
  have vx : Ex (view X ρ O H) (view X ρ (unO O i) H) := view_sub fun j b h => ⟨j, (unO_sub h).2⟩
  refine ⟨S.xo, by simp [S.len], S.gl, S.nd, S.xρ, fun j b h => S.oX j b (unO_sub h).2, fun j k b h1 h2 => S.oi j k b (unO_sub h1).2 (unO_sub h2).2, fun j h => ?_, fun j y h => ?_, fun n o h => ?_⟩
  · unfold unO
    split
    · rfl
    · exact S.ol j (by simpa using h)
  · by_cases e : i = j
    · subst e
      have hi : i < s.env.length := by
        have := (List.getElem?_eq_some_iff.mp h).1; simpa using this
      rw [List.getElem?_set_self hi] at h
      cases h
      refine ⟨by unfold unO; rw [if_pos rfl], v, ?_, r.mono (Pre.refl _) vx⟩
      rw [List.getElem?_set_self (by rw [← S.len]; exact hi)]
    · have eo : unO O i j = O j := by unfold unO; rw [if_neg (fun q => e q.symm)]
      rw [List.getElem?_set_ne e] at h
      have z := S.sl j y h
      rw [List.getElem?_set_ne e, eo]
      cases y with
      | un => exact z
      | sh m => obtain ⟨h1, w, h2, h3⟩ := z; exact ⟨h1, w, h2, h3.mono (Pre.refl _) vx⟩
      | ow ms => obtain ⟨a, vs, h1, h2, h3, h4⟩ := z; exact ⟨a, vs, h1, h2, h3, h4.mono (Pre.refl _) vx⟩
  · obtain ⟨a, h1, z⟩ := S.ob n o h
    refine ⟨a, h1, ?_⟩
    cases o with
    | lst ms => obtain ⟨vs, h2, h3⟩ := z; exact ⟨vs, h2, h3.mono (Pre.refl _) vx⟩
    | ins c ks ms => obtain ⟨dx, fs, h2, h3, h4⟩ := z; exact ⟨dx, fs, h2, h3, h4.mono (Pre.refl _) vx⟩
    | dic ms => obtain ⟨fs, h2, h3, h4⟩ := z; exact ⟨fs, h2, h3, h4.mono (Pre.refl _) vx⟩
    | lck od fs ms => obtain ⟨h2, h3, h4⟩ := z; exact ⟨h2, h3, h4.mono (Pre.refl _) vx⟩
theorem fut_unO (i : Nat) : Fut X ρ O H ρ (unO O i) H := Fut.sub fun j b h => ⟨j, (unO_sub h).2⟩
end

/-! ## targets -/
abbrev GM := MV → MS → Option MS
def gSet (i : Nat) : GM := fun x s => some { s with env := s.env.set i (.sh x) }
def gsNilM : List MV → MS → Option MS := fun xs s => match xs with
  | [] => some s
  | _ => none
def gsConsM (g : GM) (r : List MV → MS → Option MS) : List MV → MS → Option MS := fun xs s => match xs with
  | [] => none
  | x :: xs => (g x s).bind (r xs)
def gTupM (n : Nat) (r : List MV → MS → Option MS) : GM := fun x s => match x with
  | .tup xs => if xs.length = n then r xs s else none
  | _ => none
def Touch (ts : List Nat) (σ σ' : St) : Prop := ∀ vs : List Nat, (∀ i ∈ ts, i ∈ vs) → wipe σ' vs = wipe σ vs
theorem wipe_set {σ : St} {i : Nat} {x : Option V} : ∀ {vs : List Nat}, i ∈ vs → wipe (σ.set i x) vs = wipe σ vs
  | [], h => by simp at h
  | v :: vs, h => by
    unfold wipe
    by_cases e : i ∈ vs
    · rw [wipe_set e]
    · have hv : i = v := by simpa [e] using h
      subst hv
      have q : ∀ {us : List Nat}, i ∉ us → wipe (σ.set i x) us = (wipe σ us).set i x := by
        intro us
        induction us with
        | nil => intro _; rfl
        | cons u us ih =>
          intro hn
          simp only [List.mem_cons, not_or] at hn
          unfold wipe
          rw [ih hn.2, List.set_comm _ _ hn.1]
      rw [q e, List.set_set]
def SimG (K : KA) (ts : List Nat) (g : TG) (m : GM) : Prop := ∀ X ρ O s σ H x v s' Q, SR K X ρ O s σ H → Rep ρ K (view X ρ O H) x v → m x s = some s' →
  (∀ O' σ', SR K X ρ O' s' σ' H → Fut X ρ O H ρ O' H → Touch ts σ σ' → Q σ' H) → g v σ H Q
def SimGs (K : KA) (ts : List Nat) (g : TGs) (m : List MV → MS → Option MS) : Prop := ∀ X ρ O s σ H x v s' Q, SR K X ρ O s σ H → Reps ρ K (view X ρ O H) x v → m x s = some s' →
  (∀ O' σ', SR K X ρ O' s' σ' H → Fut X ρ O H ρ O' H → Touch ts σ σ' → Q σ' H) → g v σ H Q
section
variable {K : KA} {ts us : List Nat}
theorem sg_name (i : Nat) : SimG K [i] (gName i) (gSet i) := by
  intro X ρ O s σ H x v s' Q S r e k
  cases e
  exact k _ _ (S.setSh i r) (fut_unO i) fun vs h => wipe_set (h i (by simp))
theorem sgs_nil : SimGs K [] gNil gsNilM := by
  intro X ρ O s σ H x v s' Q S r e k
  cases r with
  | nil => cases e; exact ⟨rfl, k _ _ S Fut.refl fun _ _ => rfl⟩
  | cons _ _ => cases e
theorem sgs_cons {g : TG} {gs : TGs} {m : GM} {ms : List MV → MS → Option MS} (h1 : SimG K ts g m) (h2 : SimGs K us gs ms) : SimGs K (ts ++ us) (gCons g gs) (gsConsM m ms) := by
  intro X ρ O s σ H x v s' Q S r e k
  cases r with
  | nil => cases e
  | cons r1 r2 =>
    rename_i m1 v1 ms1 vs1
    unfold gsConsM at e
    obtain ⟨s1, e1, e2⟩ := Option.bind_eq_some_iff.mp e
    refine ⟨_, _, rfl, h1 X ρ O s σ H _ _ s1 _ S r1 e1 fun O1 σ1 S1 F1 T1 => ?_⟩
    refine h2 X ρ O1 s1 σ1 H _ _ s' _ S1 (F1.reps r2) e2 fun O2 σ2 S2 F2 T2 => ?_
    exact k O2 σ2 S2 (F1.trans F2) fun vs h => (T2 vs fun i hi => h i (List.mem_append_right _ hi)).trans (T1 vs fun i hi => h i (List.mem_append_left _ hi))
theorem sg_tup {n : Nat} {gs : TGs} {ms : List MV → MS → Option MS} (h : SimGs K ts gs ms) : SimG K ts (gTup K.F n gs) (gTupM n ms) := by
  intro X ρ O s σ H x v s' Q S r e k
  cases r with
  | tup hx rx =>
    rename_i a xs vs
    unfold gTupM at e
    by_cases hn : xs.length = n
    · simp only [if_pos hn] at e
      exact ⟨a, vs, rfl, sqt_ex (view_le _ _ _ _) hx, by rw [← rx.length]; exact hn, h X ρ O s σ H _ _ s' Q S rx e k⟩
    · simp only [if_neg hn] at e; cases e
  | _ => cases e
end

/-! ## statements -/
def mNx : SM := fun s => .ok .nx s
def mSeq (a b : SM) : SM := fun s => (a s).bind fun f s1 => match f with
  | .nx => b s1
  | f => .ok f s1
def mIf (t : TM) (a b : SM) : SM := fun s => (t s).bind fun x s1 => if x = true then a s1 else b s1
def mRet (e : EM) : SM := fun s => (e s).bind fun x s1 => .ok (.rt x) s1
def mRetN : SM := fun s => .ok (.rt .non) s
def mDrop (e : EM) : SM := fun s => (e s).bind fun _ s1 => .ok .nx s1
def mAsg (g : GM) (e : EM) : SM := fun s => (e s).bind fun x s1 => match g x s1 with
  | some s2 => .ok .nx s2
  | none => .stuck
def mBrk : SM := fun s => .ok .bk s
def mCt : SM := fun s => .ok .ct s
section
variable {K : KA} {W : WX} {te : TE} {me : EM} {tt : TT} {mt : TM} {ta tb : TS} {ma mb : SM}
theorem ss_nx : SimS K W tNext mNx := fun X ρ O s σ H D S p => p ρ O σ H S Fut.refl
theorem ss_brk : SimS K W tBreak mBrk := fun X ρ O s σ H D S p => p ρ O σ H S Fut.refl
theorem ss_ct : SimS K W tCont mCt := fun X ρ O s σ H D S p => p ρ O σ H S Fut.refl
theorem ss_seq (ha : SimS K W ta ma) (hb : SimS K W tb mb) : SimS K W (tSeq ta tb) (mSeq ma mb) := by
  intro X ρ O s σ H D S p
  refine ha X ρ O s σ H _ S ?_
  unfold mSeq at p
  cases e : ma s with
  | ok f s1 =>
    rw [e] at p
    cases f with
    | nx => intro ρ1 O1 σ1 H1 S1 F1; exact hb X ρ1 O1 s1 σ1 H1 D S1 (p.later F1)
    | bk => exact p
    | ct => exact p
    | rt x => exact p
  | exc c s1 => rw [e] at p; exact p
  | stuck => rw [e] at p; exact p
theorem ss_if (ht : SimT K W tt mt) (ha : SimS K W ta ma) (hb : SimS K W tb mb) : SimS K W (tIfS tt ta tb) (mIf mt ma mb) := by
  intro X ρ O s σ H D S p
  refine ht.bindS S p fun x s1 ρ1 O1 H1 S1 F1 p1 => ?_
  cases x with
  | true => exact ha X ρ1 O1 s1 σ H1 D S1 p1
  | false => exact hb X ρ1 O1 s1 σ H1 D S1 p1
theorem ss_ret (h : SimE K W te me) : SimS K W (tRet te) (mRet me) := by
  intro X ρ O s σ H D S p
  refine h.bindS S p fun x s1 ρ1 O1 H1 v S1 F1 r1 p1 => ?_
  exact p1 ρ1 O1 σ H1 v S1 Fut.refl r1
theorem ss_retN : SimS K W tRetN mRetN := fun X ρ O s σ H D S p => p ρ O σ H .non S Fut.refl .non
theorem ss_drop (h : SimE K W te me) : SimS K W (tDrop te) (mDrop me) := by
  intro X ρ O s σ H D S p
  refine h.bindS S p fun x s1 ρ1 O1 H1 v S1 F1 r1 p1 => ?_
  exact p1 ρ1 O1 σ H1 S1 Fut.refl
theorem ss_asg {ts : List Nat} {g : TG} {mg : GM} (h : SimE K W te me) (hg : SimG K ts g mg) : SimS K W (tAsg te g) (mAsg mg me) := by
  intro X ρ O s σ H D S p
  refine h.bindS S p fun x s1 ρ1 O1 H1 v S1 F1 r1 p1 => ?_
  cases e : mg x s1 with
  | none => simp only [e] at p1; exact p1.elim
  | some s2 =>
    simp only [e] at p1
    exact hg X ρ1 O1 s1 σ H1 x v s2 _ S1 r1 e fun O2 σ2 S2 F2 _ => p1 ρ1 O2 σ2 H1 S2 F2
end

/-! ## while -/
def whileN (c : TM) (b : SM) : Nat → MS → Option (R Fl)
  | 0, _ => none
  | n + 1, s => match c s with
    | .ok true s1 => (match b s1 with
      | .ok .nx s2 => whileN c b n s2
      | .ok .ct s2 => whileN c b n s2
      | .ok .bk s2 => some (.ok .nx s2)
      | .ok (.rt x) s2 => some (.ok (.rt x) s2)
      | .exc x s2 => some (.exc x s2)
      | .stuck => some .stuck)
    | .ok false s1 => some (.ok .nx s1)
    | .exc x s1 => some (.exc x s1)
    | .stuck => some .stuck
theorem whileN_mono {c : TM} {b : SM} : ∀ {n : Nat} {s : MS} {r : R Fl}, whileN c b n s = some r → whileN c b (n + 1) s = some r
  | 0, s, r, h => by cases h
  | n + 1, s, r, h => by
    unfold whileN at h ⊢
    cases e : c s with
    | ok x s1 =>
      rw [e] at h
      cases x with
      | false => exact h
      | true =>
        cases e2 : b s1 with
        | ok f s2 =>
          simp only [e2] at h ⊢
          cases f with
          | nx => exact whileN_mono h
          | ct => exact whileN_mono h
          | bk => exact h
          | rt x => exact h
        | exc x s2 => simp only [e2] at h ⊢; exact h
        | stuck => simp only [e2] at h ⊢; exact h
    | exc x s1 => rw [e] at h; exact h
    | stuck => rw [e] at h; exact h
theorem whileN_le {c : TM} {b : SM} {n m : Nat} {s : MS} {r : R Fl} (h : whileN c b n s = some r) (hm : n ≤ m) : whileN c b m s = some r := by
  induction hm with
  | refl => exact h
  | step _ ih => exact whileN_mono ih
noncomputable def mWhile (c : TM) (b : SM) : SM := fun s => if h : ∃ r, ∃ n, whileN c b n s = some r then Classical.choose h else .stuck
theorem mWhile_eq {c : TM} {b : SM} {n : Nat} {s : MS} {r : R Fl} (h : whileN c b n s = some r) : mWhile c b s = r := by
  have hx : ∃ r, ∃ n, whileN c b n s = some r := ⟨r, n, h⟩
  unfold mWhile
  rw [dif_pos hx]
  obtain ⟨m, hm⟩ := Classical.choose_spec hx
  have h1 := whileN_le h (Nat.le_max_left n m)
  have h2 := whileN_le hm (Nat.le_max_right n m)
  rw [h1] at h2
  exact (Option.some.inj h2).symm
theorem mWhile_get {c : TM} {b : SM} {s : MS} {r : R Fl} (h : mWhile c b s = r) (hr : r ≠ .stuck) : ∃ n, whileN c b n s = some r := by
  unfold mWhile at h
  by_cases hx : ∃ r, ∃ n, whileN c b n s = some r
  · rw [dif_pos hx] at h
    rw [← h]
    exact Classical.choose_spec hx
  · rw [dif_neg hx] at h; exact absurd h.symm hr
theorem mWhile_step (c : TM) (b : SM) (s : MS) : mWhile c b s = match c s with
    | .ok true s1 => (match b s1 with
      | .ok .nx s2 => mWhile c b s2
      | .ok .ct s2 => mWhile c b s2
      | .ok .bk s2 => .ok .nx s2
      | .ok (.rt x) s2 => .ok (.rt x) s2
      | .exc x s2 => .exc x s2
      | .stuck => .stuck)
    | .ok false s1 => .ok .nx s1
    | .exc x s1 => .exc x s1
    | .stuck => .stuck := by
  have again : ∀ s1 s2 f, c s = .ok true s1 → b s1 = .ok f s2 → (f = .nx ∨ f = .ct) → mWhile c b s = mWhile c b s2 := by
    intro s1 s2 f e1 e2 hf
    have st : ∀ n r, whileN c b n s2 = some r → whileN c b (n + 1) s = some r := fun n r h => by
      unfold whileN
      rw [e1]
      simp only [e2]
      rcases hf with rfl | rfl <;> exact h
    by_cases hx : ∃ r, ∃ n, whileN c b n s2 = some r
    · obtain ⟨r, n, h⟩ := hx
      rw [mWhile_eq h, mWhile_eq (st n r h)]
    · have hy : ¬ ∃ r, ∃ n, whileN c b n s = some r := by
        rintro ⟨r, n, h⟩
        cases n with
        | zero => cases h
        | succ n =>
          unfold whileN at h
          rw [e1] at h
          simp only [e2] at h
          refine hx ⟨r, n, ?_⟩
          rcases hf with rfl | rfl <;> exact h
      unfold mWhile
      rw [dif_neg hx, dif_neg hy]
  cases e : c s with
  | ok x s1 =>
    cases x with
    | false => exact mWhile_eq (n := 1) (by unfold whileN; rw [e])
    | true =>
      cases e2 : b s1 with
      | ok f s2 =>
        cases f with
        | nx => simp only [e2]; exact again s1 s2 _ e e2 (.inl rfl)
        | ct => simp only [e2]; exact again s1 s2 _ e e2 (.inr rfl)
        | bk => exact mWhile_eq (n := 1) (by unfold whileN; rw [e]; simp only [e2])
        | rt x => exact mWhile_eq (n := 1) (by unfold whileN; rw [e]; simp only [e2])
      | exc x s2 => exact mWhile_eq (n := 1) (by unfold whileN; rw [e]; simp only [e2])
      | stuck => exact mWhile_eq (n := 1) (by unfold whileN; rw [e]; simp only [e2])
  | exc x s1 => exact mWhile_eq (n := 1) (by unfold whileN; rw [e])
  | stuck => exact mWhile_eq (n := 1) (by unfold whileN; rw [e])
section
variable {K : KA} {W : WX}
theorem ss_while {tc : TT} {mc : TM} {tb : TS} {mb : SM} (hc : SimT K W tc mc) (hb : SimS K W tb mb) : SimS K W (tWhile tc tb) (mWhile mc mb) := by
  intro X ρ O s σ H D S p
  have hr : mWhile mc mb s ≠ .stuck := fun q => by rw [q] at p; exact p.elim
  obtain ⟨n, hn⟩ := mWhile_get rfl hr
  refine ⟨fun m σ' H' => ∃ ρ' O' s' r, SR K X ρ' O' s' σ' H' ∧ whileN mc mb m s' = some r ∧ PostS K X W ρ' O' H' r D, ⟨n, ρ, O, s, _, S, hn, p⟩, ?_⟩
  rintro m σ1 H1 ⟨ρ1, O1, s1, r, S1, e, p1⟩
  cases m with
  | zero => cases e
  | succ m =>
    unfold whileN at e
    refine hc X ρ1 O1 s1 σ1 H1 _ S1 ?_
    cases ec : mc s1 with
    | ok x s2 =>
      rw [ec] at e
      cases x with
      | false =>
        cases e
        intro ρ2 O2 H2 S2 F2
        exact p1 ρ2 O2 σ1 H2 S2 F2
      | true =>
        intro ρ2 O2 H2 S2 F2
        refine ⟨fun σ' H' => ∃ ρ' O' s' r, SR K X ρ' O' s' σ' H' ∧ whileN mc mb m s' = some r ∧ PostS K X W ρ' O' H' r D, fun σ' H' h => ⟨m, Nat.lt_succ_self m, h⟩, ?_⟩
        refine hb X ρ2 O2 s2 σ1 H2 _ S2 ?_
        have p2 := p1.later F2
        cases eb : mb s2 with
        | ok f s3 =>
          simp only [eb] at e
          cases f with
          | nx => intro ρ3 O3 σ3 H3 S3 F3; exact ⟨ρ3, O3, s3, r, S3, e, p2.later F3⟩
          | ct => intro ρ3 O3 σ3 H3 S3 F3; exact ⟨ρ3, O3, s3, r, S3, e, p2.later F3⟩
          | bk => cases e; exact p2
          | rt x => cases e; exact p2
        | exc c s3 => simp only [eb] at e; cases e; exact p2
        | stuck => simp only [eb] at e; cases e; exact p2
    | exc c s2 =>
      rw [ec] at e
      cases e
      intro ρ2 O2 H2 S2 F2
      exact p1 ρ2 O2 σ1 H2 S2 F2
    | stuck => rw [ec] at e; cases e; exact p1.elim
end

/-! ## what is walked -/
structure IsWalk (K : KA) (ρ : List Addr) (V0 : Hp) (J : It) (xs : List MV) : Prop where
  go : ∀ i H2, Ex V0 H2 → i < xs.length → J.go i H2
  stop : ∀ H2, Ex V0 H2 → J.stop xs.length H2
  yld : ∀ i H2 x H3, Ex V0 H2 → i < xs.length → J.yld i H2 x H3 → Ex H2 H3 ∧ ∃ m, xs[i]? = some m ∧ ∀ X ρ2 O2 s2 σ2, SR K X ρ2 O2 s2 σ2 H2 → Pre ρ ρ2 → Ex V0 (view X ρ2 O2 H2) → Rep ρ2 K (view X ρ2 O2 H3) m x
def PostI (K : KA) (X : Addr → Prop) (W : WX) (ρ : List Addr) (O : Nat → Option Addr) (H : Hp) (σ : St) (r : R (List MV)) (Q : It → Hp → Prop) : Prop := match r with
  | .ok xs s' => ∀ ρ' O' H' J, SR K X ρ' O' s' σ H' → Fut X ρ O H ρ' O' H' → IsWalk K ρ' (view X ρ' O' H') J xs → Q J H'
  | .exc c s' => ∀ ρ' O' H', SR K X ρ' O' s' σ H' → Fut X ρ O H ρ' O' H' → W (.ref (K.ct c)) none σ H'
  | .stuck => False
def SimI (K : KA) (W : WX) (wi : TI) (m : AM) : Prop := ∀ X ρ O s σ H Q, SR K X ρ O s σ H → PostI K X W ρ O H σ (m s) Q → wi σ H Q
theorem PostI.later {K : KA} {X : Addr → Prop} {W : WX} {ρ ρ' : List Addr} {O O' : Nat → Option Addr} {σ : St} {H H' : Hp} {r : R (List MV)} {Q : It → Hp → Prop} (F : Fut X ρ O H ρ' O' H') (h : PostI K X W ρ O H σ r Q) : PostI K X W ρ' O' H' σ r Q := by
  cases r with
  | ok x s1 => intro a b c d S f r; exact h a b c d S (F.trans f) r
  | exc x s1 => intro a b c S f; exact h a b c S (F.trans f)
  | stuck => exact h
section
variable {K : KA} {X : Addr → Prop} {W : WX} {ρ ρ' : List Addr} {O O' : Nat → Option Addr} {s s' : MS} {σ : St} {H H' : Hp}
theorem SimE.bindI {te : TE} {m : EM} (h : SimE K W te m) (S : SR K X ρ O s σ H) {f : MV → MS → R (List MV)} {Q : It → Hp → Prop} (p : PostI K X W ρ O H σ ((m s).bind f) Q) {Q' : VK}
    (k : ∀ x s1 ρ1 O1 H1 v, SR K X ρ1 O1 s1 σ H1 → Fut X ρ O H ρ1 O1 H1 → Rep ρ1 K (view X ρ1 O1 H1) x v → PostI K X W ρ1 O1 H1 σ (f x s1) Q → Q' v H1) : te σ H Q' := by
  refine h X ρ O s σ H Q' S ?_
  cases e : m s with
  | ok x s1 => rw [e] at p; intro a b c d S' F r; exact k x s1 a b c d S' F r (p.later F)
  | exc c s1 => rw [e] at p; exact p
  | stuck => rw [e] at p; exact p
theorem SimA.bindI {te : TA} {m : AM} (h : SimA K W te m) (S : SR K X ρ O s σ H) {f : List MV → MS → R (List MV)} {Q : It → Hp → Prop} (p : PostI K X W ρ O H σ ((m s).bind f) Q) {Q' : List V → Hp → Prop}
    (k : ∀ x s1 ρ1 O1 H1 v, SR K X ρ1 O1 s1 σ H1 → Fut X ρ O H ρ1 O1 H1 → Reps ρ1 K (view X ρ1 O1 H1) x v → PostI K X W ρ1 O1 H1 σ (f x s1) Q → Q' v H1) : te σ H Q' := by
  refine h X ρ O s σ H Q' S ?_
  cases e : m s with
  | ok x s1 => rw [e] at p; intro a b c d S' F r; exact k x s1 a b c d S' F r (p.later F)
  | exc c s1 => rw [e] at p; exact p
  | stuck => rw [e] at p; exact p
theorem PostI.done {xs : List MV} {J : It} {Q : It → Hp → Prop} (p : PostI K X W ρ O H σ (.ok xs s) Q) (S : SR K X ρ O s σ H) (w : IsWalk K ρ (view X ρ O H) J xs) : Q J H := p ρ O H J S Fut.refl w
end
section
variable {K : KA} {W : WX}
theorem isWalk_list {ρ : List Addr} {V0 : Hp} {a : Addr} {ms : List MV} {vs : List V} (h : SqL K.F V0 a vs) (r : Reps ρ K V0 ms vs) : IsWalk K ρ V0 (Itl K.F a) ms where
  go := fun i H2 e hi => by
    have hv : i < vs.length := by rw [← r.length]; exact hi
    exact ⟨vs, vs[i], sql_ex e h, List.getElem?_eq_getElem hv⟩
  stop := fun H2 e => ⟨vs, sql_ex e h, by rw [r.length]; exact Nat.le_refl _⟩
  yld := fun i H2 x H3 e hi y => by
    obtain ⟨rfl, y⟩ := y
    refine ⟨Ex.refl _, ms[i], List.getElem?_eq_getElem hi, fun X ρ2 O2 s2 σ2 S p e2 => ?_⟩
    obtain ⟨v, hv, rv⟩ := r.get (List.getElem?_eq_getElem hi)
    have := y vs (sql_ex e h)
    rw [hv] at this
    cases this
    exact rv.mono p e2
def iOf (e : EM) : AM := fun s => (e s).bind fun x s1 => match x with
  | .lst xs => .ok xs s1
  | .scr xs => .ok xs s1
  | _ => .stuck
theorem si_list {te : TE} {me : EM} (h : SimE K W te me) : SimI K W (iList K.F te) (iOf me) := by
  intro X ρ O s σ H Q S p
  refine h.bindI S p fun x s1 ρ1 O1 H1 v S1 F1 r1 p1 => ?_
  cases r1 with
  | lst hx rx => exact ⟨_, rfl, ⟨_, sqlv hx⟩, p1.done S1 (isWalk_list (.inl (.inl hx)) rx)⟩
  | scr hx rx => exact ⟨_, rfl, ⟨_, sql_ex (view_le _ _ _ _) hx⟩, p1.done S1 (isWalk_list hx rx)⟩
  | _ => exact p1.elim
theorem isWalk_tup {ρ : List Addr} {V0 : Hp} {a : Addr} {ms : List MV} {vs : List V} (h : SqT K.F V0 a vs) (r : Reps ρ K V0 ms vs) : IsWalk K ρ V0 (Itt K.F a) ms where
  go := fun i H2 e hi => by
    have hv : i < vs.length := by rw [← r.length]; exact hi
    exact ⟨vs, vs[i], sqt_ex e h, List.getElem?_eq_getElem hv⟩
  stop := fun H2 e => ⟨vs, sqt_ex e h, by rw [r.length]; exact Nat.le_refl _⟩
  yld := fun i H2 x H3 e hi y => by
    obtain ⟨rfl, y⟩ := y
    refine ⟨Ex.refl _, ms[i], List.getElem?_eq_getElem hi, fun X ρ2 O2 s2 σ2 S p e2 => ?_⟩
    obtain ⟨v, hv, rv⟩ := r.get (List.getElem?_eq_getElem hi)
    have := y vs (sqt_ex e h)
    rw [hv] at this
    cases this
    exact rv.mono p e2
def iOfT (e : EM) : AM := fun s => (e s).bind fun x s1 => match x with
  | .tup xs => .ok xs s1
  | _ => .stuck
theorem si_tup {te : TE} {me : EM} (h : SimE K W te me) : SimI K W (iTup K.F te) (iOfT me) := by
  intro X ρ O s σ H Q S p
  refine h.bindI S p fun x s1 ρ1 O1 H1 v S1 F1 r1 p1 => ?_
  cases r1 with
  | tup hx rx => exact ⟨_, rfl, ⟨_, sqt_ex (view_le _ _ _ _) hx⟩, p1.done S1 (isWalk_tup hx rx)⟩
  | _ => exact p1.elim
/-- the ints of a range -/
def rangeM (lo c : Int) (n : Nat) : List MV := (List.range n).map fun (k : Nat) => MV.int (lo + k * c)
theorem rangeM_get {lo c : Int} {n i : Nat} (h : i < n) : (rangeM lo c n)[i]? = some (.int (lo + i * c)) := by
  unfold rangeM; simp [h]
theorem rangeM_len {lo c : Int} {n : Nat} : (rangeM lo c n).length = n := by unfold rangeM; simp
theorem isWalk_range {ρ : List Addr} {V0 : Hp} {lo : Int} {n : Nat} : IsWalk K ρ V0 (Itr lo n) (rangeM lo 1 n) where
  go := fun i H2 e hi => by rw [rangeM_len] at hi; exact hi
  stop := fun H2 e => by rw [rangeM_len]; exact Nat.le_refl _
  yld := fun i H2 x H3 e hi y => by
    obtain ⟨rfl, rfl⟩ := y
    rw [rangeM_len] at hi
    exact ⟨Ex.refl _, _, rangeM_get hi, fun X ρ2 O2 s2 σ2 S p e2 => by rw [Int.mul_one]; exact .int _⟩
theorem isWalk_rangeC {ρ : List Addr} {V0 : Hp} {lo c : Int} {n : Nat} : IsWalk K ρ V0 (Itc lo c n) (rangeM lo c n) where
  go := fun i H2 e hi => by rw [rangeM_len] at hi; exact hi
  stop := fun H2 e => by rw [rangeM_len]; exact Nat.le_refl _
  yld := fun i H2 x H3 e hi y => by
    obtain ⟨rfl, rfl⟩ := y
    rw [rangeM_len] at hi
    exact ⟨Ex.refl _, _, rangeM_get hi, fun X ρ2 O2 s2 σ2 S p e2 => .int _⟩
def r1Ok (j : Int) : Prop := -(2 ^ 62) ≤ j ∧ j < 2 ^ 62
def r2Ok (i j : Int) : Prop := -(2 ^ 62) ≤ i ∧ i < 2 ^ 62 ∧ -(2 ^ 62) ≤ j ∧ j < 2 ^ 62
def r3Ok (i j c : Int) : Prop := 0 ≤ i ∧ i < 2 ^ 29 ∧ 0 ≤ j ∧ j < 2 ^ 29 ∧ 0 < c ∧ c < 1000000
noncomputable def oR1 : List MV → MS → R (List MV) := fun xs s1 => match xs with
  | [.int j] => if r1Ok j then .ok (rangeM 0 1 j.toNat) s1 else .stuck
  | _ => .stuck
noncomputable def oR2 : List MV → MS → R (List MV) := fun xs s1 => match xs with
  | [.int i, .int j] => if r2Ok i j then .ok (rangeM i 1 (j - i).toNat) s1 else .stuck
  | _ => .stuck
noncomputable def oR3 : List MV → MS → R (List MV) := fun xs s1 => match xs with
  | [.int i, .int j, .int c] => if r3Ok i j c then .ok (rangeM i c (if i < j then ((j - i - 1) / c + 1).toNat else 0)) s1 else .stuck
  | _ => .stuck
noncomputable def iR1 (a : AM) : AM := fun s => (a s).bind oR1
noncomputable def iR2 (a : AM) : AM := fun s => (a s).bind oR2
noncomputable def iR3 (a : AM) : AM := fun s => (a s).bind oR3
theorem si_r1 {ta : TA} {ma : AM} (h : SimA K W ta ma) : SimI K W (iRng1 ta) (iR1 ma) := by
  intro X ρ O s σ H Q S p
  refine h.bindI S p fun x s1 ρ1 O1 H1 v S1 F1 r1 p1 => ?_
  unfold oR1 at p1
  cases r1 with
  | nil => exact p1.elim
  | cons r1 rr => cases rr with
    | cons _ _ => cases r1 <;> exact p1.elim
    | nil => cases r1 with
      | int j =>
        by_cases hj : r1Ok j
        · simp only [if_pos hj] at p1
          exact ⟨j, rfl, hj.1, hj.2, p1.done S1 isWalk_range⟩
        · simp only [if_neg hj] at p1; exact p1.elim
      | _ => exact p1.elim
theorem si_r2 {ta : TA} {ma : AM} (h : SimA K W ta ma) : SimI K W (iRng2 ta) (iR2 ma) := by
  intro X ρ O s σ H Q S p
  refine h.bindI S p fun x s1 ρ1 O1 H1 v S1 F1 r1 p1 => ?_
  unfold oR2 at p1
  cases r1 with
  | nil => exact p1.elim
  | cons r1 rr => cases rr with
    | nil => cases r1 <;> exact p1.elim
    | cons r2 r3 => cases r3 with
      | cons _ _ => cases r1 <;> cases r2 <;> exact p1.elim
      | nil => cases r1 with
        | int i => cases r2 with
          | int j =>
            by_cases hj : r2Ok i j
            · simp only [if_pos hj] at p1
              exact ⟨i, j, rfl, hj, p1.done S1 isWalk_range⟩
            · simp only [if_neg hj] at p1; exact p1.elim
          | _ => exact p1.elim
        | _ => exact p1.elim
theorem rgC_pos {i j c : Int} (h : 0 ≤ i ∧ i < 2 ^ 29 ∧ 0 ≤ j ∧ j < 2 ^ 29 ∧ 0 < c ∧ c < 1000000) : RgC i j c (if i < j then ((j - i - 1) / c + 1).toNat else 0) := by
  obtain ⟨h1, h2, h3, h4, h5, h6⟩ := h
  have e : Builtin.Range.rangeSize i j c = ((if i < j then ((j - i - 1) / c + 1).toNat else 0 : Nat) : Int) := by
    unfold Builtin.Range.rangeSize
    rw [if_pos h5]
    by_cases q : i < j
    · rw [if_pos q, if_pos q]
      have := Int.ediv_nonneg (show 0 ≤ j - i - 1 by omega) (Int.le_of_lt h5)
      omega
    · rw [if_neg q, if_neg q]; rfl
  have le : (if i < j then (j - i - 1) / c + 1 else 0) ≤ 2 ^ 29 + 1 := by
    split
    · have := Int.ediv_le_self c (show 0 ≤ j - i - 1 by omega)
      omega
    · omega
  have ge : 0 ≤ (if i < j then (j - i - 1) / c + 1 else 0) := by
    split
    · have := Int.ediv_nonneg (show 0 ≤ j - i - 1 by omega) (Int.le_of_lt h5)
      omega
    · omega
  refine ⟨by omega, by omega, ?_, e⟩
  have e2 : Builtin.Range.rangeSize i j c = (if i < j then (j - i - 1) / c + 1 else 0) := by
    unfold Builtin.Range.rangeSize
    rw [if_pos h5]
  unfold Builtin.Range.small
  rw [e2]
  generalize (if i < j then (j - i - 1) / c + 1 else 0) = n at le ge
  rw [if_pos h5]
  simp only [Builtin.Range.rangeFitsLong, Bool.and_eq_true, Bool.or_eq_true, decide_eq_true_eq, beq_iff_eq]
  omega
theorem si_r3 {ta : TA} {ma : AM} (h : SimA K W ta ma) : SimI K W (iRng3 ta) (iR3 ma) := by
  intro X ρ O s σ H Q S p
  refine h.bindI S p fun x s1 ρ1 O1 H1 v S1 F1 r1 p1 => ?_
  unfold oR3 at p1
  cases r1 with
  | nil => exact p1.elim
  | cons r1 rr => cases rr with
    | nil => cases r1 <;> exact p1.elim
    | cons r2 r3 => cases r3 with
      | nil => cases r1 <;> cases r2 <;> exact p1.elim
      | cons r3 r4 => cases r4 with
        | cons _ _ => cases r1 <;> cases r2 <;> cases r3 <;> exact p1.elim
        | nil => cases r1 with
          | int i => cases r2 with
            | int j => cases r3 with
              | int c =>
                by_cases hj : r3Ok i j c
                · simp only [if_pos hj] at p1
                  exact ⟨i, j, c, _, rfl, rgC_pos hj, p1.done S1 isWalk_rangeC⟩
                · simp only [if_neg hj] at p1; exact p1.elim
              | _ => exact p1.elim
            | _ => exact p1.elim
          | _ => exact p1.elim
/-- the signs of a text -/
def iSigns (e : EM) : AM := fun s => (e s).bind fun x s1 => match x with
  | .str z => .ok (z.cps.toList.map fun c => MV.str ⟨#[c]⟩) s1
  | _ => .stuck
theorem si_str {te : TE} {me : EM} (h : SimE K W te me) : SimI K W (iStr te) (iSigns me) := by
  intro X ρ O s σ H Q S p
  refine h.bindI S p fun x s1 ρ1 O1 H1 v S1 F1 r1 p1 => ?_
  cases r1 with
  | str z =>
    refine ⟨z, rfl, p1.done S1 ⟨fun i H2 e hi => ?_, fun H2 e => ?_, fun i H2 x H3 e hi y => ?_⟩⟩
    · show i < z.cps.size
      simpa using hi
    · show z.cps.size ≤ _
      simp
    · obtain ⟨rfl, c, hc, rfl⟩ := y
      refine ⟨Ex.refl _, _, ?_, fun X ρ2 O2 s2 σ2 S p e2 => .str _⟩
      rw [List.getElem?_map, Array.getElem?_toList, hc]
      rfl
  | _ => exact p1.elim
end

/-! ## for -/
def forM (g : GM) (b : SM) : List MV → SM
  | [] => fun s => .ok .nx s
  | x :: xs => fun s => match g x s with
    | none => .stuck
    | some s1 => match b s1 with
      | .ok .nx s2 => forM g b xs s2
      | .ok .ct s2 => forM g b xs s2
      | .ok .bk s2 => .ok .nx s2
      | .ok (.rt x) s2 => .ok (.rt x) s2
      | .exc x s2 => .exc x s2
      | .stuck => .stuck
def mFor (i : AM) (g : GM) (b : SM) : SM := fun s => (i s).bind fun xs s1 => forM g b xs s1
section
variable {K : KA} {W : WX}
theorem ss_for {ts : List Nat} {wi : TI} {mi : AM} {g : TG} {mg : GM} {tb : TS} {mb : SM} (hi : SimI K W wi mi) (hg : SimG K ts g mg) (hb : SimS K W tb mb) : SimS K W (tFor wi g tb) (mFor mi mg mb) := by
  intro X ρ O s σ H D S p
  refine hi X ρ O s σ H _ S ?_
  unfold mFor at p
  cases ei : mi s with
  | stuck => rw [ei] at p; exact p.elim
  | exc c s1 => rw [ei] at p; intro a b c S' F; exact p a b σ c S' F
  | ok xs s1 =>
    rw [ei] at p
    intro ρ1 O1 H1 J S1 F1 wk
    have p1 : PostS K X W ρ1 O1 H1 (forM mg mb xs s1) D := p.later F1
    clear p
    refine ⟨fun i m σ' H' => m = xs.length - i ∧ i ≤ xs.length ∧ ∃ ρ' O' s', SR K X ρ' O' s' σ' H' ∧ Fut X ρ1 O1 H1 ρ' O' H' ∧ PostS K X W ρ' O' H' (forM mg mb (xs.drop i) s') D,
      ⟨xs.length, by simp, Nat.zero_le _, ρ1, O1, s1, S1, Fut.refl, p1⟩, ?_⟩
    rintro i m σ2 H2 ⟨rfl, hi', ρ2, O2, s2, S2, F2, p2⟩
    have e02 : Ex (view X ρ1 O1 H1) H2 := F2.ex.trans (view_le _ _ _ _)
    by_cases hlt : i < xs.length
    · refine .inr ⟨wk.go i H2 e02 hlt, fun σ' H' => i + 1 ≤ xs.length ∧ ∃ ρ' O' s', SR K X ρ' O' s' σ' H' ∧ Fut X ρ1 O1 H1 ρ' O' H' ∧ PostS K X W ρ' O' H' (forM mg mb (xs.drop (i + 1)) s') D,
        fun σ' H' h => ⟨xs.length - (i + 1), by omega, rfl, h⟩, fun x H3 y => ?_⟩
      obtain ⟨e23, m, hm, rep⟩ := wk.yld i H2 x H3 e02 hlt y
      have r3 := rep X ρ2 O2 s2 σ2 S2 F2.pre F2.ex
      have hd : xs.drop i = m :: xs.drop (i + 1) := by
        rw [List.drop_eq_getElem_cons hlt]
        rw [List.getElem?_eq_getElem hlt] at hm
        rw [Option.some.inj hm]
      rw [hd] at p2
      unfold forM at p2
      cases eg : mg m s2 with
      | none => rw [eg] at p2; exact p2.elim
      | some s3 =>
        rw [eg] at p2
        have S3 := S2.grow e23
        refine hg X ρ2 O2 s2 σ2 H3 m x s3 _ S3 r3 eg fun O4 σ4 S4 F4 _ => ?_
        have F24 : Fut X ρ2 O2 H2 ρ2 O4 H3 := (Fut.grow e23).trans F4
        have F14 := F2.trans F24
        refine hb X ρ2 O4 s3 σ4 H3 _ S4 ?_
        have p4 := p2.later F24
        cases eb : mb s3 with
        | ok f s5 =>
          simp only [eb] at p4
          cases f with
          | nx => intro ρ5 O5 σ5 H5 S5 F5; exact ⟨hlt, ρ5, O5, s5, S5, F14.trans F5, p4.later F5⟩
          | ct => intro ρ5 O5 σ5 H5 S5 F5; exact ⟨hlt, ρ5, O5, s5, S5, F14.trans F5, p4.later F5⟩
          | bk => exact p4
          | rt x => exact p4
        | exc c s5 => simp only [eb] at p4; exact p4
        | stuck => simp only [eb] at p4; exact p4
    · have e : i = xs.length := by omega
      subst e
      rw [List.drop_length] at p2
      exact .inl ⟨wk.stop H2 e02, p2 ρ2 O2 σ2 H2 S2 Fut.refl⟩
end
end M

namespace M
open PySem L2
open Classical

/-! ## functions -/
inductive RF where
  | ok (x : MV) (G : MHeap) | exc (c : String) (G : MHeap) | stuck
abbrev FM := List MV → MHeap → RF
abbrev O0 : Nat → Option Addr := fun _ => none
def PostF (K : KA) (X : Addr → Prop) (ρ : List Addr) (H : Hp) (r : RF) (Q : VK) (E : XK) : Prop := match r with
  | .ok x G' => ∀ ρ' H' v, SR K X ρ' O0 ⟨[], G'⟩ [] H' → Fut X ρ O0 H ρ' O0 H' → Rep ρ' K (view X ρ' O0 H') x v → Q v H'
  | .exc c G' => ∀ ρ' H', SR K X ρ' O0 ⟨[], G'⟩ [] H' → Fut X ρ O0 H ρ' O0 H' → E (.ref (K.ct c)) none H'
  | .stuck => False
/-- the promise: it does what the M-function does -/
def spM (K : KA) (fn : FM) : Sp := fun vs H Q E => ∃ X ρ G ms, SR K X ρ O0 ⟨[], G⟩ [] H ∧ Reps ρ K (view X ρ O0 H) ms vs ∧ PostF K X ρ H (fn ms G) Q E
def env0 (n : Nat) (args : List MV) : List SV := args.map SV.sh ++ List.replicate (n - args.length) .un
def toRF (r : R Fl) : RF := match r with
  | .ok (.rt x) s => .ok x s.G
  | .ok .nx s => .ok .non s.G
  | .exc c s => .exc c s.G
  | _ => .stuck
theorem toRF_rt (x : MV) (s : MS) : toRF (.ok (.rt x) s) = .ok x s.G := rfl
theorem toRF_nx (s : MS) : toRF (.ok .nx s) = .ok .non s.G := rfl
theorem toRF_exc (c : String) (s : MS) : toRF (.exc c s) = .exc c s.G := rfl
theorem toRF_stuck : toRF .stuck = .stuck := rfl
theorem toRF_ite {c : Prop} [Decidable c] (a b : R Fl) : toRF (if c then a else b) = if c then toRF a else toRF b := by split <;> rfl
theorem R.bind_ite {α β : Type} {c : Prop} [Decidable c] (a b : R α) (f : α → MS → R β) : R.bind (if c then a else b) f = if c then R.bind a f else R.bind b f := by split <;> rfl
def runB (b : SM) (n : Nat) (args : List MV) (G : MHeap) : RF := toRF (b ⟨env0 n args, G⟩)
section
variable {K : KA} {X : Addr → Prop} {W : WX} {ρ ρ' : List Addr} {O O' : Nat → Option Addr} {s s' : MS} {σ : St} {H H' : Hp} {G : MHeap}
/-- the frame forgotten -/
theorem SR.drop (S : SR K X ρ O s σ H) : SR K X ρ O0 ⟨[], s.G⟩ [] H where
  xo := S.xo
  len := rfl
  gl := S.gl
  nd := S.nd
  xρ := S.xρ
  oX := fun _ _ h => by cases h
  oi := fun _ _ _ h => by cases h
  ol := fun _ _ => rfl
  sl := fun i x h => by simp at h
  ob := fun n o h => by
    have vx : Ex (view X ρ O H) (view X ρ O0 H) := view_sub fun j b h => by cases h
    obtain ⟨a, h1, z⟩ := S.ob n o h
    refine ⟨a, h1, ?_⟩
    cases o with
    | lst ms => obtain ⟨vs, h2, h3⟩ := z; exact ⟨vs, h2, h3.mono (Pre.refl _) vx⟩
    | ins c ks ms => obtain ⟨dx, fs, h2, h3, h4⟩ := z; exact ⟨dx, fs, h2, h3, h4.mono (Pre.refl _) vx⟩
    | dic ms => obtain ⟨fs, h2, h3, h4⟩ := z; exact ⟨fs, h2, h3, h4.mono (Pre.refl _) vx⟩
    | lck od fs ms => obtain ⟨h2, h3, h4⟩ := z; exact ⟨h2, h3, h4.mono (Pre.refl _) vx⟩
theorem fut_drop : Fut X ρ O H ρ O0 H := Fut.sub fun j b h => by cases h
theorem env0_get {n : Nat} {args : List MV} {i : Nat} {x : SV} (h : (env0 n args)[i]? = some x) : (∃ m, args[i]? = some m ∧ x = .sh m) ∨ (x = .un ∧ args.length ≤ i) := by
  unfold env0 at h
  by_cases hi : i < args.length
  · rw [List.getElem?_append_left (by simpa using hi), List.getElem?_map] at h
    rw [List.getElem?_eq_getElem hi] at h ⊢
    simp at h
    exact .inl ⟨_, rfl, h.symm⟩
  · rw [List.getElem?_append_right (by simpa using Nat.le_of_not_lt hi)] at h
    have := List.getElem?_replicate (a := SV.un) (n := n - args.length) (i := i - (args.map SV.sh).length)
    rw [this] at h
    split at h
    · cases h; exact .inr ⟨rfl, Nat.le_of_not_lt hi⟩
    · cases h
/-- a def's frame at its start -/
theorem SR.enter {N : List Str} {args : List MV} {vs : List V} (S : SR K X ρ O0 ⟨[], G⟩ [] H) (r : Reps ρ K (view X ρ O0 H) args vs) : SR K X ρ O0 ⟨env0 N.length args, G⟩ (L2.start N vs) H where
  xo := S.xo
  len := by unfold env0 L2.start; simp [r.length]
  gl := S.gl
  nd := S.nd
  xρ := S.xρ
  oX := fun _ _ h => by cases h
  oi := fun _ _ _ h => by cases h
  ol := fun _ _ => rfl
  sl := fun i x h => by
    rcases env0_get h with ⟨m, h1, rfl⟩ | ⟨rfl, _⟩
    · obtain ⟨v, h2, h3⟩ := r.get h1
      refine ⟨rfl, v, ?_, h3⟩
      have hi : i < vs.length := (List.getElem?_eq_some_iff.mp h2).1
      unfold L2.start
      rw [List.getElem?_append_left (by simpa using hi), List.getElem?_map, h2]
      rfl
    · rfl
  ob := S.ob
/-- what the callee must leave alone -/
def XO (X : Addr → Prop) (O : Nat → Option Addr) : Addr → Prop := fun b => X b ∨ ∃ i, O i = some b
theorem view_XO : view (XO X O) ρ O0 H = view X ρ O H := by
  funext b
  have e : Hid (XO X O) ρ O0 b ↔ Hid X ρ O b := by
    constructor
    · rintro ((h | h) | h | ⟨_, h⟩)
      · exact .inl h
      · exact .inr (.inr h)
      · exact .inr (.inl h)
      · cases h
    · rintro (h | h | h)
      · exact .inl (.inl h)
      · exact .inr (.inl h)
      · exact .inl (.inr h)
  unfold view
  by_cases q : Hid X ρ O b
  · rw [if_pos q, if_pos (e.mpr q)]
  · rw [if_neg q, if_neg (fun z => q (e.mp z))]
theorem SR.toCall (S : SR K X ρ O s σ H) : SR K (XO X O) ρ O0 ⟨[], s.G⟩ [] H where
  xo := fun b h => by
    rcases h with h | ⟨i, h⟩
    · exact S.xo b h
    · exact S.occ (.inr (.inr ⟨i, h⟩))
  len := rfl
  gl := S.gl
  nd := S.nd
  xρ := fun b hb h => by
    rcases h with h | ⟨i, h⟩
    · exact S.xρ b hb h
    · exact (S.oX i b h).2 hb
  oX := fun _ _ h => by cases h
  oi := fun _ _ _ h => by cases h
  ol := fun _ _ => rfl
  sl := fun i x h => by simp at h
  ob := fun n o h => by
    obtain ⟨a, h1, z⟩ := S.ob n o h
    refine ⟨a, h1, ?_⟩
    cases o with
    | lst ms => obtain ⟨vs, h2, h3⟩ := z; exact ⟨vs, h2, by rw [view_XO]; exact h3⟩
    | ins c ks ms => obtain ⟨dx, fs, h2, h3, h4⟩ := z; exact ⟨dx, fs, h2, h3, by rw [view_XO]; exact h4⟩
    | dic ms => obtain ⟨fs, h2, h3, h4⟩ := z; exact ⟨fs, h2, h3, by rw [view_XO]; exact h4⟩
    | lck od fs ms => obtain ⟨h2, h3, h4⟩ := z; exact ⟨h2, h3, by rw [view_XO]; exact h4⟩
theorem SR.ofCall (S : SR K X ρ O s σ H) {G' : MHeap} (S' : SR K (XO X O) ρ' O0 ⟨[], G'⟩ [] H') (F : Fut (XO X O) ρ O0 H ρ' O0 H') :
    SR K X ρ' O { s with G := G' } σ H' ∧ Fut X ρ O H ρ' O H' := by
  have ve : Ex (view X ρ O H) (view X ρ' O H') := by
    have := F.ex
    rw [view_XO, view_XO] at this
    exact this
  refine ⟨⟨fun b h => S'.xo b (.inl h), S.len, S'.gl, S'.nd, fun b hb h => S'.xρ b hb (.inl h), fun i b h => ⟨(S.oX i b h).1, fun hb => S'.xρ b hb (.inr ⟨i, h⟩)⟩, S.oi, S.ol, fun i x h => ?_, fun n o h => ?_⟩, ⟨F.pre, ve, fun b o h e => F.xs b o (.inl h) e⟩⟩
  · have z := S.sl i x h
    cases x with
    | un => exact z
    | sh m => obtain ⟨h1, w, h2, h3⟩ := z; exact ⟨h1, w, h2, h3.mono F.pre ve⟩
    | ow ms => obtain ⟨a, vs, h1, h2, h3, h4⟩ := z; exact ⟨a, vs, h1, h2, F.xs _ _ (.inr ⟨i, h1⟩) h3, h4.mono F.pre ve⟩
  · obtain ⟨a, h1, z⟩ := S'.ob n o h
    refine ⟨a, h1, ?_⟩
    cases o with
    | lst ms => obtain ⟨vs, h2, h3⟩ := z; rw [view_XO] at h3; exact ⟨vs, h2, h3⟩
    | ins c ks ms => obtain ⟨dx, fs, h2, h3, h4⟩ := z; rw [view_XO] at h4; exact ⟨dx, fs, h2, h3, h4⟩
    | dic ms => obtain ⟨fs, h2, h3, h4⟩ := z; rw [view_XO] at h4; exact ⟨fs, h2, h3, h4⟩
    | lck od fs ms => obtain ⟨h2, h3, h4⟩ := z; rw [view_XO] at h4; exact ⟨h2, h3, h4⟩
end
def ofRF (r : RF) (s : MS) : R MV := match r with
  | .ok x G' => .ok x { s with G := G' }
  | .exc c G' => .exc c { s with G := G' }
  | .stuck => .stuck
@[simp] theorem ofRF_ok (x : MV) (G : MHeap) (s : MS) : ofRF (.ok x G) s = .ok x { s with G := G } := rfl
@[simp] theorem ofRF_exc (c : String) (G : MHeap) (s : MS) : ofRF (.exc c G) s = .exc c { s with G := G } := rfl
@[simp] theorem ofRF_stuck (s : MS) : ofRF .stuck s = .stuck := rfl
def mCall (fn : FM) (a : AM) : EM := fun s => (a s).bind fun xs s1 => ofRF (fn xs s1.G) s1
section
variable {K : KA} {W : WX}
theorem post_call {X : Addr → Prop} {ρ : List Addr} {O : Nat → Option Addr} {s : MS} {σ : St} {H : Hp} {Q : VK} {r : RF} (S : SR K X ρ O s σ H) (p : PostE K X W ρ O H σ (ofRF r s) Q) :
    PostF K (XO X O) ρ H r Q (WE W σ) := by
  cases r with
  | ok x G' =>
    intro ρ' H' v S' F r'
    obtain ⟨S2, F2⟩ := S.ofCall S' F
    rw [view_XO] at r'
    exact p ρ' O H' v S2 F2 r'
  | exc c G' =>
    intro ρ' H' S' F
    obtain ⟨S2, F2⟩ := S.ofCall S' F
    exact p ρ' O H' S2 F2
  | stuck => exact p.elim
theorem sim_call {ta : TA} {ma : AM} {fn : FM} (h : SimA K W ta ma) : SimE K W (tCallS (spM K fn) (WE W) ta) (mCall fn ma) := by
  intro X ρ O s σ H Q S p
  refine h.bindE S p fun x s1 ρ1 O1 H1 v S1 F1 r1 p1 => ?_
  exact ⟨XO X O1, ρ1, s1.G, x, S1.toCall, by rw [view_XO]; exact r1, post_call S1 p1⟩
end
/-- from a body to its function -/
theorem fnM {P : Program} {w : World} {K : PySem.W.Frag} (ct : String → Addr) {mg : Str → Option Value} {base : Heap} {x qual : Str} {st : Stmt} {f : Addr} {fd : FuncData} {N ps : List Str} {k : Nat} (fn : FM) (F : Fun K x qual st f fd) (Sc : FnScope N ps (defScope st))
    (len : ∀ ms G, fn ms G ≠ .stuck → ms.length = ps.length) (b : SM)
    (hb : ∀ (cdv : Value) (A : Around) (outer : List Env) (s : Shared) (H : Hp) (E : XK), Room k (A.deeper (PyProof.Rows.envOfC qual (defScope st) s.heap.objs.size f cdv)) →
      ∃ t, PSsM ct (cxOf (L2.CX P w) P w K mg base N qual (defScope st) f cdv A outer s H E) (fun cls d _ H => E cls d H) (defBody st) t b)
    (hm : ∀ ms G, fn ms G ≠ .stuck → runB b N.length ms G = fn ms G) : FnOk P w K mg base (L2.CX P w) (k + 1) f fd ps (spM ⟨K, ct⟩ fn) := by
  refine F.okX Sc (fun vs H Q E h => ?_) (fun cdv A outer s H vs Q E hr h => ?_)
  · obtain ⟨X, ρ, G, ms, S, r, p⟩ := h
    rw [← r.length]
    refine len ms G fun e => ?_
    rw [e] at p
    exact p.elim
  · obtain ⟨t, D⟩ := hb cdv A outer s H E hr
    refine ⟨t, D.pe, ?_⟩
    obtain ⟨X, ρ, G, ms, S, r, p⟩ := h
    have hne : fn ms G ≠ .stuck := fun e => by rw [e] at p; exact p.elim
    have e := hm ms G hne
    refine D.sim X ρ O0 ⟨env0 N.length ms, G⟩ (L2.start N vs) H _ (S.enter r) ?_
    unfold runB toRF at e
    cases eb : b ⟨env0 N.length ms, G⟩ with
    | ok f s' =>
      rw [eb] at e
      cases f with
      | nx =>
        rw [← e] at p
        intro ρ' O' σ' H' S' F'
        exact p ρ' H' .non S'.drop (F'.trans fut_drop) .non
      | rt x =>
        rw [← e] at p
        intro ρ' O' σ' H' v S' F' r'
        exact p ρ' H' v S'.drop (F'.trans fut_drop) (fut_drop.rep r')
      | bk => exact absurd e.symm hne
      | ct => exact absurd e.symm hne
    | exc c s' =>
      rw [eb] at e
      rw [← e] at p
      intro ρ' O' σ' H' S' F'
      exact p ρ' H' S'.drop (F'.trans fut_drop)
    | stuck => rw [eb] at e; exact absurd e.symm hne
end M

namespace M
open PySem L2
open Classical

structure PGM (ct : String → Addr) (X : Cx) (e : Expr) (ts : List Nat) (g : TG) (m : GM) : Prop where
  pe : PG X e g
  sim : SimG ⟨X.K, ct⟩ ts g m
structure PGsM (ct : String → Addr) (X : Cx) (e : List Expr) (ts : List Nat) (g : TGs) (m : List MV → MS → Option MS) : Prop where
  pe : PGs X e g
  sim : SimGs ⟨X.K, ct⟩ ts g m
structure PIM (ct : String → Addr) (X : Cx) (W : WX) (tg e : Expr) (wi : TI) (m : AM) : Prop where
  pe : PI X tg e wi
  sim : SimI ⟨X.K, ct⟩ W wi m
def oIs : MV → MV → EM := fun x y s => match y with
  | .non => .ok (.bl (isN x)) s
  | _ => .stuck
def oIsNot : MV → MV → EM := fun x y s => match y with
  | .non => .ok (.bl (!isN x)) s
  | _ => .stuck
section
variable {K : KA}
theorem so_is : SimOp K (fun x y H Q => y = .non ∧ Q (.bl (decide (x = .non))) H) oIs := by
  intro X W ρ O s σ H x y v u Q S rx ry p
  cases ry with
  | non => exact ⟨rfl, by rw [rx.isN]; exact p.done S (.bl _)⟩
  | _ => exact p.elim
theorem so_isNot : SimOp K (fun x y H Q => y = .non ∧ Q (.bl (!decide (x = .non))) H) oIsNot := by
  intro X W ρ O s σ H x y v u Q S rx ry p
  cases ry with
  | non => exact ⟨rfl, by rw [rx.isN]; exact p.done S (.bl _)⟩
  | _ => exact p.elim
theorem su_neg : SimU K (rU fun i => .int (-i)) oNeg := by
  intro X W ρ O s σ H x v Q S rx p
  cases rx with
  | int i => exact ⟨i, rfl, p.done S (.int _)⟩
  | _ => exact p.elim
end
section
variable {ct : String → Addr} {X : Cx} {W : WX} {a b c e o : Expr} {es : List Expr} {ta tb tc te : TE} {tt tu : TT} {tr : TA} {ma mb mc me : EM} {mt mu : TM} {mr : AM} {pos p p2 : Pos} {rest : List Expr}
theorem e_var (i : Nat) {x : Str} (hN : X.N[i]? = some x := by rfl) (hv : Vis X.env.scope x := by first | exact Or.inl rfl | exact Or.inr (Or.inl rfl) | exact Or.inr (Or.inr rfl)) (hd : (x == ("__debug__" : Str)) = false := by decide) (hcd : (x == ("__classdict__" : Str)) = false := by decide) :
    PEM ct X W (.Name x pos) (tVar i) (mVar i) := ⟨pe_var hN hv hd hcd, sim_var i⟩
theorem e_int {i : Int} {j : Nat} : PEM ct X W (.Constant (.int i) j pos) (tC (.int i)) (mCon (.int i)) := ⟨pe_int, sim_con fun _ _ => .int i⟩
theorem e_bl {i : Bool} {j : Nat} : PEM ct X W (.Constant (.bool i) j pos) (tC (.bl i)) (mCon (.bl i)) := ⟨pe_bl, sim_con fun _ _ => .bl i⟩
theorem e_non {j : Nat} : PEM ct X W (.Constant .none j pos) (tC .non) (mCon .non) := ⟨pe_non, sim_con fun _ _ => .non⟩
theorem e_str {x : Str} {j : Nat} : PEM ct X W (.Constant (.str x) j pos) (tC (.str x)) (mCon (.str x)) := ⟨pe_str, sim_con fun _ _ => .str x⟩
theorem e_gint {x : Str} {i : Int} {t : Tok} (hm : X.mg x = some (.int i t)) (hg : Gl X x := by rfl) (hd : (x == ("__debug__" : Str)) = false := by decide) : PEM ct X W (.Name x pos) (tC (.int i)) (mCon (.int i)) := ⟨pe_glob hg hm ⟨_, rfl⟩ hd, sim_con fun _ _ => .int i⟩
theorem e_gstr {x : Str} {i : Str} {t : Tok} (hm : X.mg x = some (.str i t)) (hg : Gl X x := by rfl) (hd : (x == ("__debug__" : Str)) = false := by decide) : PEM ct X W (.Name x pos) (tC (.str i)) (mCon (.str i)) := ⟨pe_glob hg hm ⟨_, rfl⟩ hd, sim_con fun _ _ => .str i⟩
theorem e_add (ha : PEM ct X W a ta ma) (hb : PEM ct X W b tb mb) : PEM ct X W (.BinOp a .Add b pos) (tOp rAddAll ta tb) (mBin oAdd ma mb) := ⟨pe_op op_addAll ha.pe hb.pe, sim_op ha.sim hb.sim so_add⟩
theorem e_sub (ha : PEM ct X W a ta ma) (hb : PEM ct X W b tb mb) : PEM ct X W (.BinOp a .Sub b pos) (tOp (rI0 fun i j => .int (i - j)) ta tb) (mBin oSub ma mb) := ⟨pe_op op_sub ha.pe hb.pe, sim_op ha.sim hb.sim so_sub⟩
theorem e_mul (ha : PEM ct X W a ta ma) (hb : PEM ct X W b tb mb) : PEM ct X W (.BinOp a .Mult b pos) (tOp rMulAll ta tb) (mBin oMul ma mb) := ⟨pe_op op_mulAll ha.pe hb.pe, sim_op ha.sim hb.sim so_mul⟩
theorem e_div (ha : PEM ct X W a ta ma) (hb : PEM ct X W b tb mb) : PEM ct X W (.BinOp a .FloorDiv b pos) (tOp rDivI ta tb) (mBin oDiv ma mb) := ⟨pe_op op_divI ha.pe hb.pe, sim_op ha.sim hb.sim so_div⟩
theorem e_mod (ha : PEM ct X W a ta ma) (hb : PEM ct X W b tb mb) : PEM ct X W (.BinOp a .Mod b pos) (tOp rModI ta tb) (mBin oMod ma mb) := ⟨pe_op op_modI ha.pe hb.pe, sim_op ha.sim hb.sim so_mod⟩
theorem e_pow (ha : PEM ct X W a ta ma) (hb : PEM ct X W b tb mb) : PEM ct X W (.BinOp a .Pow b pos) (tOp (rI CPow fun i j => .int (i ^ j.toNat)) ta tb) (mBin oPow ma mb) := ⟨pe_op op_pow ha.pe hb.pe, sim_op ha.sim hb.sim so_pow⟩
theorem e_neg (ha : PEM ct X W a ta ma) : PEM ct X W (.UnaryOp .USub a pos) (tUn (rU fun i => .int (-i)) ta) (mUn oNeg ma) := ⟨pe_un un_neg ha.pe, sim_un ha.sim su_neg⟩
theorem e_cmp {op : CmpOp} {r : R2} {f : MV → MV → EM} (ho : OpR X (compareOp op) r) (so : SimOp ⟨X.K, ct⟩ r f) (hm : behindInMarks op b = false) (ha : PEM ct X W a ta ma) (hb : PEM ct X W b tb mb) : PEM ct X W (.Compare a [op] [b] pos) (tOp r ta tb) (mBin f ma mb) := ⟨pe_cmpR ho ha.pe hb.pe hm, sim_op ha.sim hb.sim so⟩
theorem t_cmp {op : CmpOp} {r : R2} {f : MV → MV → EM} (ho : OpR X (compareOp op) r) (so : SimOp ⟨X.K, ct⟩ r f) (hm : behindInMarks op b = false) (ha : PEM ct X W a ta ma) (hb : PEM ct X W b tb mb) : PTM ct X W (.Compare a [op] [b] pos) (tTest (tOp r ta tb)) (tOf (mBin f ma mb)) := ⟨pt_cmpR ho ha.pe hb.pe hm, sim_test (sim_op ha.sim hb.sim so)⟩
theorem t_val (h : PEM ct X W e te me) (he : ∀ whole, isTrue e X.env whole = (do let v ← whole; standAt e.pos; holding [v] (truthy v)) := by intro _; rfl) : PTM ct X W e (tB te) (tOf me) := ⟨pt_val h.pe he, sim_tB h.sim⟩
theorem w_and1 (ha : PTM ct X W a tt mt) : PWM ct X W (.BoolOp .And [a] pos) tt mt := ⟨pw_and1 ha.pe, ha.sim⟩
theorem w_or1 (ha : PTM ct X W a tt mt) : PWM ct X W (.BoolOp .Or [a] pos) tt mt := ⟨pw_or1 ha.pe, ha.sim⟩
theorem w_and (ha : PTM ct X W a tt mt) (hb : PWM ct X W (.BoolOp .And (b :: rest) pos) tu mu) : PWM ct X W (.BoolOp .And (a :: b :: rest) pos) (tAnd tt tu) (tAndM mt mu) := ⟨pw_and ha.pe hb.pe, sim_and ha.sim hb.sim⟩
theorem w_or (ha : PTM ct X W a tt mt) (hb : PWM ct X W (.BoolOp .Or (b :: rest) pos) tu mu) : PWM ct X W (.BoolOp .Or (a :: b :: rest) pos) (tOr tt tu) (tOrM mt mu) := ⟨pw_or ha.pe hb.pe, sim_or ha.sim hb.sim⟩
theorem t_w (h : PWM ct X W e tt mt) : PTM ct X W e tt mt := ⟨h.pe.pt, h.sim⟩
theorem t_not (h : PTM ct X W a tt mt) : PTM ct X W (.UnaryOp .Not a pos) (tNot tt) (tNotM mt) := ⟨pt_not h.pe, sim_not h.sim⟩
theorem e_one {op} (h : PEM ct X W a ta ma) : PEM ct X W (.BoolOp op [a] pos) ta ma := ⟨pe_one h.pe, h.sim⟩
theorem e_and (ha : PEM ct X W a ta ma) (hb : PEM ct X W (.BoolOp .And (b :: rest) pos) tb mb) : PEM ct X W (.BoolOp .And (a :: b :: rest) pos) (tAndV ta tb) (mAndV ma mb) := ⟨pe_and ha.pe hb.pe, sim_andV ha.sim hb.sim⟩
theorem e_or (ha : PEM ct X W a ta ma) (hb : PEM ct X W (.BoolOp .Or (b :: rest) pos) tb mb) : PEM ct X W (.BoolOp .Or (a :: b :: rest) pos) (tOrV ta tb) (mOrV ma mb) := ⟨pe_or ha.pe hb.pe, sim_orV ha.sim hb.sim⟩
theorem e_not (ha : PEM ct X W a ta ma) : PEM ct X W (.UnaryOp .Not a pos) (tNotV ta) (mNotV ma) := ⟨pe_not ha.pe, sim_notV ha.sim⟩
theorem e_if (hc : PTM ct X W c tt mt) (ha : PEM ct X W a ta ma) (hb : PEM ct X W b tb mb) : PEM ct X W (.IfExp c a b pos) (tIf tt ta tb) (mIte mt ma mb) := ⟨pe_ifExp hc.pe ha.pe hb.pe, sim_if hc.sim ha.sim hb.sim⟩
theorem a_nil : PAM ct X W [] tNil aNil := ⟨pa_nil, sim_nil⟩
theorem a_cons (ha : PEM ct X W e te me) (hr : PAM ct X W es tr mr) (hs : starEach (e :: es) X.env = (false, eval e X.env) :: starEach es X.env := by rfl) : PAM ct X W (e :: es) (tCons te tr) (aCons me mr) := ⟨pa_cons ha.pe hr.pe hs, sim_cons ha.sim hr.sim⟩
theorem e_tup {x1} (h : PAM ct X W es tr mr) : PEM ct X W (.Tuple es x1 pos) (tTup tr) (mArg oTup mr) := ⟨pe_tup h.pe, sim_tup h.sim⟩
theorem e_lst (h : PAM ct X W es tr mr) : PEM ct X W (.List es pos) (tLst tr) (mArg oLst mr) := ⟨pe_lst h.pe, sim_lst h.sim⟩
theorem e_ix (ha : PEM ct X W a ta ma) (hb : PEM ct X W b tb mb) (hs : PlainIx b := by exact fun _ _ => rfl) : PEM ct X W (.Subscript a b pos) (tOp (rIx X.K) ta tb) (mBin oIdx ma mb) := ⟨pe_ix ix_seq ha.pe hb.pe hs, sim_op ha.sim hb.sim so_idx⟩
theorem e_callB {id : String} {x : Str} {r : List V → Hp → VK → Prop} {f : List MV → EM} (hc : CallR X (.builtin id) r) (sc : SimC ⟨X.K, ct⟩ r f) (hm : X.mg x = none) (ha : PAM ct X W (e :: es) tr mr) (hg : Gl X x := by rfl) (hv : bootBuiltins x = some (.builtin id) := by decide +kernel) (hn : x ≠ "__name__" := by decide) (hdb : (x == ("__debug__" : Str)) = false := by decide)
    (he : starEach (e :: es) X.env = (false, eval e X.env) :: starEach es X.env := by rfl) (hpl : (backTo pos (starEach es X.env)).any (·.1) = false := by rfl) : PEM ct X W (.Call (.Name x p) (e :: es) [] pos) (tCB r tr) (mArg f mr) := ⟨pe_callB hc hg hm hv ha.pe hn hdb he hpl, sim_cb ha.sim sc⟩
theorem e_callTy {T : String} {x : Str} {r : List V → Hp → VK → Prop} {f : List MV → EM} (hc : CallR X (.type T) r) (sc : SimC ⟨X.K, ct⟩ r f) (hm : X.mg x = none) (ha : PAM ct X W (e :: es) tr mr) (hg : Gl X x := by rfl) (hv : bootBuiltins x = some (.type T) := by decide +kernel) (hn : x ≠ "__name__" := by decide) (hdb : (x == ("__debug__" : Str)) = false := by decide)
    (he : starEach (e :: es) X.env = (false, eval e X.env) :: starEach es X.env := by rfl) (hpl : (backTo pos (starEach es X.env)).any (·.1) = false := by rfl) : PEM ct X W (.Call (.Name x p) (e :: es) [] pos) (tCB r tr) (mArg f mr) := ⟨pe_callTy hc hg hm hv ha.pe hn hdb he hpl, sim_cb ha.sim sc⟩
/-- isinstance(a, T), T a built-in class by its name -/
theorem e_isi {y : Str} {T : String} (hmi : X.mg "isinstance" = none) (hmT : X.mg y = none) (ha : PEM ct X W a ta ma) (hgi : Gl X "isinstance" := by rfl) (hgT : Gl X y := by rfl) (hvT : bootBuiltins y = some (.type T) := by decide +kernel) (hn : y ≠ "__name__" := by decide) (hdb : (y == ("__debug__" : Str)) = false := by decide)
    (hs : starEach [Expr.Name y p2] X.env = (false, eval (.Name y p2) X.env) :: starEach [] X.env := by rfl) (he : starEach (a :: [Expr.Name y p2]) X.env = (false, eval a X.env) :: starEach [Expr.Name y p2] X.env := by rfl) (hpl : (backTo pos (starEach [Expr.Name y p2] X.env)).any (·.1) = false := by rfl) :
    PEM ct X W (.Call (.Name "isinstance" p) [a, .Name y p2] [] pos) (tCB (rIsi X.K) (tCons ta (tCons (tC (.ty T)) tNil))) (mUn (oIsi T) ma) :=
  ⟨pe_callB call_isi hgi hmi (by decide +kernel) (pa_cons ha.pe (pa_cons (pe_bltn hgT hmT hvT rfl hn hdb) pa_nil hs) he) (by decide) (by decide) he hpl, sim_isi T ha.sim⟩
theorem e_call {k : Nat} {f : Addr} {fd : FuncData} {ps : List Str} {fn : FM} {x : Str} (F : FnOk X.prog X.w X.K X.mg X.base (L2.CX X.prog X.w) k f fd ps (spM ⟨X.K, ct⟩ fn)) (hr : Room k X.A) (hm : X.mg x = some (.ref f)) (hk : PySem.W.keepIn X.K (.ref f) = true) (hb : Binds X.K fd ps []) (tk : Takes X W)
    (ha : PAM ct X W (e :: es) tr mr) (hg : Gl X x := by rfl) (hdb : (x == ("__debug__" : Str)) = false := by decide) (he : starEach (e :: es) X.env = (false, eval e X.env) :: starEach es X.env := by rfl) (hpl : (backTo pos (starEach es X.env)).any (·.1) = false := by rfl) :
    PEM ct X W (.Call (.Name x p) (e :: es) [] pos) (tCallS (spM ⟨X.K, ct⟩ fn) (WE W) tr) (mCall fn mr) := ⟨pe_callS F hr hg hm hk hb (fun σ => passAt tk σ) ha.pe hdb he hpl, sim_call ha.sim⟩
end

section
variable {ct : String → Addr} {X : Cx} {W : WX} {a b c e o : Expr} {es : List Expr} {te : TE} {tt : TT} {tr : TA} {me : EM} {mt : TM} {mr : AM} {pos p p2 : Pos} {st : Stmt} {sts bs : List Stmt} {ta tb : TS} {ma mb : SM} {ts us : List Nat} {g : TG} {gs : TGs} {mg : GM} {mgs : List MV → MS → Option MS}
theorem g_name (i : Nat) {x : Str} (hN : X.N.Nodup) (hi : X.N[i]? = some x := by rfl) (hx : Loc X.env.scope x := by first | exact Or.inl rfl | exact Or.inr rfl) (hf : X.fn x = true ∨ X.env.scope.names.lookup x = some .local := by first | exact .inl rfl | exact .inr rfl) : PGM ct X (.Name x pos) [i] (gName i) (gSet i) :=
  ⟨pg_name hN hi hx hf, sg_name i⟩
theorem gs_nil : PGsM ct X [] [] gNil gsNilM := ⟨pgs_nil, sgs_nil⟩
theorem gs_cons (h1 : PGM ct X e ts g mg) (h2 : PGsM ct X es us gs mgs) (hs : (assignEach (e :: es) X.env).map (·.2) = assign e X.env :: (assignEach es X.env).map (·.2) := by rfl) : PGsM ct X (e :: es) (ts ++ us) (gCons g gs) (gsConsM mg mgs) := ⟨pgs_cons h1.pe h2.pe hs, sgs_cons h1.sim h2.sim⟩
theorem g_tup {k n : Nat} (h : PGsM ct X es ts gs mgs) (hc : X.calm = true := by rfl) (hn : (assignEach es X.env).length = n := by rfl) (hst : (assignEach es X.env).findIdx? (·.1) = none := by rfl) : PGM ct X (.Tuple es k pos) ts (gTup X.K n gs) (gTupM n mgs) := ⟨pg_tup hc h.pe hn hst, sg_tup h.sim⟩
theorem i_list {tg : Expr} (h : PEM ct X W e te me) : PIM ct X W tg e (iList X.K te) (iOf me) := ⟨pi_list h.pe, si_list h.sim⟩
theorem i_tup {tg : Expr} (h : PEM ct X W e te me) : PIM ct X W tg e (iTup X.K te) (iOfT me) := ⟨pi_tup h.pe, si_tup h.sim⟩
theorem i_str {tg : Expr} (h : PEM ct X W e te me) : PIM ct X W tg e (iStr te) (iSigns me) := ⟨pi_str h.pe, si_str h.sim⟩
theorem i_r1 {tg : Expr} (hm : X.mg "range" = none) (h : PAM ct X W [a] tr mr) (hg : Gl X "range" := by rfl) (hs : starEach [a] X.env = [(false, eval a X.env)] := by rfl) : PIM ct X W tg (.Call (.Name "range" p) [a] [] pos) (iRng1 tr) (iR1 mr) := ⟨pi_range1 hg hm h.pe hs, si_r1 h.sim⟩
theorem i_r2 {tg : Expr} (hm : X.mg "range" = none) (h : PAM ct X W [a, b] tr mr) (hg : Gl X "range" := by rfl) (hs : starEach [a, b] X.env = [(false, eval a X.env), (false, eval b X.env)] := by rfl) (hs2 : starEach [b] X.env = [(false, eval b X.env)] := by rfl) :
    PIM ct X W tg (.Call (.Name "range" p) [a, b] [] pos) (iRng2 tr) (iR2 mr) := ⟨pi_range2 hg hm h.pe hs hs2, si_r2 h.sim⟩
theorem i_r3 {tg : Expr} (hm : X.mg "range" = none) (h : PAM ct X W [a, b, c] tr mr) (hg : Gl X "range" := by rfl) (hs : starEach [a, b, c] X.env = (false, eval a X.env) :: starEach [b, c] X.env := by rfl) (hpl : (backTo pos (starEach [b, c] X.env)).any (·.1) = false := by rfl) :
    PIM ct X W tg (.Call (.Name "range" p) [a, b, c] [] pos) (iRng3 tr) (iR3 mr) := ⟨pi_range3 hg hm h.pe hs hpl, si_r3 h.sim⟩
theorem b_nil : PSsM ct X W [] tNext mNx := ⟨pss_nil, ss_nx⟩
theorem b_cons (h1 : PSM ct X W st ta ma) (h2 : PSsM ct X W sts tb mb) : PSsM ct X W (st :: sts) (tSeq ta tb) (mSeq ma mb) := ⟨pss_cons h1.pe h2.pe, ss_seq h1.sim h2.sim⟩
theorem b_one (h1 : PSM ct X W st ta ma) : PSsM ct X W [st] ta ma := ⟨pss_one h1.pe, h1.sim⟩
theorem s_pass : PSM ct X W (.Pass pos) tNext mNx := ⟨ps_pass, ss_nx⟩
theorem s_brk : PSM ct X W (.Break pos) tBreak mBrk := ⟨ps_break, ss_brk⟩
theorem s_ct : PSM ct X W (.Continue pos) tCont mCt := ⟨ps_continue, ss_ct⟩
theorem s_if (ht : PTM ct X W c tt mt) (ha : PSsM ct X W sts ta ma) (hb : PSsM ct X W bs tb mb) : PSM ct X W (.If c sts bs pos) (tIfS tt ta tb) (mIf mt ma mb) := ⟨ps_if ht.pe ha.pe hb.pe, ss_if ht.sim ha.sim hb.sim⟩
theorem s_ret (h : PEM ct X W e te me) : PSM ct X W (.Return (some e) pos) (tRet te) (mRet me) := ⟨ps_ret h.pe, ss_ret h.sim⟩
theorem s_retN : PSM ct X W (.Return none pos) tRetN mRetN := ⟨ps_retN, ss_retN⟩
theorem s_expr (h : PEM ct X W e te me) (hs : swapsWith e none pos.line X.env = pure false := by rfl) : PSM ct X W (.Expr e pos) (tDrop te) (mDrop me) := ⟨ps_expr h.pe hs, ss_drop h.sim⟩
theorem s_set (i : Nat) {x : Str} (hN : X.N.Nodup) (h : PEM ct X W e te me) (hi : X.N[i]? = some x := by rfl) (hx : Loc X.env.scope x := by first | exact Or.inl rfl | exact Or.inr rfl) (hs : swapsWith e (some (.Name x p)) pos.line X.env = pure false := by rfl) (hf : X.fn x = true ∨ X.env.scope.names.lookup x = some .local := by first | exact .inl rfl | exact .inr rfl) :
    PSM ct X W (.Assign [.Name x p] e pos) (tAsg te (gName i)) (mAsg (gSet i) me) := ⟨ps_set hN hi hx h.pe hs hf, ss_asg h.sim (sg_name i)⟩
theorem s_asg {tg : Expr} (h : PEM ct X W e te me) (hg : PGM ct X tg ts g mg) (hs : swapsWithSole [tg] e pos.line X.env = pure false := by rfl) (hw : swappedStores [tg] e X.env = pure none := by rfl) (h1 : (assignEach [tg] X.env).map (·.2) = [assign tg X.env] := by rfl) : PSM ct X W (.Assign [tg] e pos) (tAsg te g) (mAsg mg me) := ⟨ps_asg h.pe hg.pe hs hw h1, ss_asg h.sim hg.sim⟩
theorem s_while (hp : PassesOwn (model X.prog X.w) X.A X.env X.xe) (ht : PTM ct X W c tt mt) (hb : PSsM ct X W sts ta ma) : PSM ct X W (.While c sts [] pos) (tWhile tt ta) (mWhile mt ma) := ⟨ps_while hp ht.pe hb.pe, ss_while ht.sim hb.sim⟩
theorem s_for {tg : Expr} {wi : TI} {mi : AM} (hp : PassesOwn (model X.prog X.w) X.A X.env X.xe) (hi : PIM ct X W tg e wi mi) (hg : PGM ct X tg ts g mg) (hb : PSsM ct X W sts ta ma) (hc : X.calm = true := by rfl) (hs : ∀ x, foldedSetIterable e X.env x = pure x := by intro _; rfl) : PSM ct X W (.For tg e sts [] pos) (tFor wi g ta) (mFor mi mg ma) :=
  ⟨ps_for hp hc hi.pe hg.pe hb.pe hs, ss_for hi.sim hg.sim hb.sim⟩
end
end M

namespace M
open PySem L2
/-- a def that stands as a global name and does what fn does -/
structure FnI (ct : String → Addr) (P : Program) (w : World) (K : PySem.W.Frag) (mg : Str → Option Value) (base : Heap) (x : Str) (k : Nat) (fn : FM) : Prop where
  ex : ∃ f fd ps, FnOk P w K mg base (L2.CX P w) k f fd ps (spM ⟨K, ct⟩ fn) ∧ mg x = some (.ref f) ∧ PySem.W.keepIn K (.ref f) = true ∧ Binds K fd ps []
theorem e_fn {ct : String → Addr} {X : Cx} {W : WX} {e : Expr} {es : List Expr} {mr : AM} {p pos : Pos} {k : Nat} {fn : FM} {x : Str} {tr : TA} (I : FnI ct X.prog X.w X.K X.mg X.base x k fn) (hr : Room k X.A) (tk : Takes X W)
    (ha : PAM ct X W (e :: es) tr mr) (hg : Gl X x := by rfl) (hdb : (x == ("__debug__" : Str)) = false := by decide) (he : starEach (e :: es) X.env = (false, eval e X.env) :: starEach es X.env := by rfl) (hpl : (backTo pos (starEach es X.env)).any (·.1) = false := by rfl) :
    PEM ct X W (.Call (.Name x p) (e :: es) [] pos) (tCallS (spM ⟨X.K, ct⟩ fn) (WE W) tr) (mCall fn mr) := by
  obtain ⟨f, fd, ps, F, hm, hk, hb⟩ := I.ex
  exact e_call F hr hm hk hb tk ha hg hdb he hpl
def fn1 (g : MV → MHeap → RF) : FM := fun xs G => match xs with
  | [a] => g a G
  | _ => .stuck
def fn2 (g : MV → MV → MHeap → RF) : FM := fun xs G => match xs with
  | [a, b] => g a b G
  | _ => .stuck
def fn3 (g : MV → MV → MV → MHeap → RF) : FM := fun xs G => match xs with
  | [a, b, c] => g a b c G
  | _ => .stuck
def fn4 (g : MV → MV → MV → MV → MHeap → RF) : FM := fun xs G => match xs with
  | [a, b, c, d] => g a b c d G
  | _ => .stuck
def fn5 (g : MV → MV → MV → MV → MV → MHeap → RF) : FM := fun xs G => match xs with
  | [a, b, c, d, e] => g a b c d e G
  | _ => .stuck
theorem fn1_len {g : MV → MHeap → RF} (ms : List MV) (G : MHeap) (h : fn1 g ms G ≠ .stuck) : ms.length = 1 := by
  unfold fn1 at h; split at h
  · rfl
  · exact absurd rfl h
theorem fn2_len {g : MV → MV → MHeap → RF} (ms : List MV) (G : MHeap) (h : fn2 g ms G ≠ .stuck) : ms.length = 2 := by
  unfold fn2 at h; split at h
  · rfl
  · exact absurd rfl h
theorem fn3_len {g : MV → MV → MV → MHeap → RF} (ms : List MV) (G : MHeap) (h : fn3 g ms G ≠ .stuck) : ms.length = 3 := by
  unfold fn3 at h; split at h
  · rfl
  · exact absurd rfl h
theorem fn4_len {g : MV → MV → MV → MV → MHeap → RF} (ms : List MV) (G : MHeap) (h : fn4 g ms G ≠ .stuck) : ms.length = 4 := by
  unfold fn4 at h; split at h
  · rfl
  · exact absurd rfl h
theorem fn5_len {g : MV → MV → MV → MV → MV → MHeap → RF} (ms : List MV) (G : MHeap) (h : fn5 g ms G ≠ .stuck) : ms.length = 5 := by
  unfold fn5 at h; split at h
  · rfl
  · exact absurd rfl h
theorem fn1_run {g : MV → MHeap → RF} {b : SM} {n : Nat} (h : ∀ x G, g x G ≠ .stuck → runB b n [x] G = g x G) (ms : List MV) (G : MHeap) (hn : fn1 g ms G ≠ .stuck) : runB b n ms G = fn1 g ms G := by
  unfold fn1 at hn ⊢; split at hn
  · exact h _ _ hn
  · exact absurd rfl hn
theorem fn2_run {g : MV → MV → MHeap → RF} {b : SM} {n : Nat} (h : ∀ x y G, g x y G ≠ .stuck → runB b n [x, y] G = g x y G) (ms : List MV) (G : MHeap) (hn : fn2 g ms G ≠ .stuck) : runB b n ms G = fn2 g ms G := by
  unfold fn2 at hn ⊢; split at hn
  · exact h _ _ _ hn
  · exact absurd rfl hn
theorem fn3_run {g : MV → MV → MV → MHeap → RF} {b : SM} {n : Nat} (h : ∀ x y z G, g x y z G ≠ .stuck → runB b n [x, y, z] G = g x y z G) (ms : List MV) (G : MHeap) (hn : fn3 g ms G ≠ .stuck) : runB b n ms G = fn3 g ms G := by
  unfold fn3 at hn ⊢; split at hn
  · exact h _ _ _ _ hn
  · exact absurd rfl hn
theorem fn4_run {g : MV → MV → MV → MV → MHeap → RF} {b : SM} {n : Nat} (h : ∀ x y z u G, g x y z u G ≠ .stuck → runB b n [x, y, z, u] G = g x y z u G) (ms : List MV) (G : MHeap) (hn : fn4 g ms G ≠ .stuck) : runB b n ms G = fn4 g ms G := by
  unfold fn4 at hn ⊢; split at hn
  · exact h _ _ _ _ _ hn
  · exact absurd rfl hn
theorem fn5_run {g : MV → MV → MV → MV → MV → MHeap → RF} {b : SM} {n : Nat} (h : ∀ x y z u v G, g x y z u v G ≠ .stuck → runB b n [x, y, z, u, v] G = g x y z u v G) (ms : List MV) (G : MHeap) (hn : fn5 g ms G ≠ .stuck) : runB b n ms G = fn5 g ms G := by
  unfold fn5 at hn ⊢; split at hn
  · exact h _ _ _ _ _ _ hn
  · exact absurd rfl hn
/-- the law's own: a script of at most 63 ints -/
def LawDom (args : List MV) (ns : List Int) : Prop := args = [.scr (ns.map MV.int)] ∧ ns.length ≤ 63 ∧ ∀ z ∈ ns, Builtin.Int.intBits z ≤ 1048576
open Classical in
noncomputable def fnLaw (b : SM) (n : Nat) : FM := fun args G => if (∃ ns, LawDom args ns) ∧ ∃ G', runB b n args G = .ok (.bl true) G' then runB b n args G else .stuck
theorem fnLaw_len {b : SM} {n : Nat} (ms : List MV) (G : MHeap) (h : fnLaw b n ms G ≠ .stuck) : ms.length = 1 := by
  unfold fnLaw at h; split at h
  · rename_i q
    obtain ⟨⟨ns, rfl, _⟩, _⟩ := q
    rfl
  · exact absurd rfl h
theorem fnLaw_run {b : SM} {n : Nat} (ms : List MV) (G : MHeap) (hn : fnLaw b n ms G ≠ .stuck) : runB b n ms G = fnLaw b n ms G := by
  unfold fnLaw at hn ⊢; split at hn
  · rename_i q
    rw [if_pos q]
  · exact absurd rfl hn
/-- what is left to be shown of a law -/
def LawOk (b : SM) (n : Nat) : Prop := ∀ ns : List Int, ns.length ≤ 63 → (∀ z ∈ ns, z.natAbs.log2 < 1048577) → ∃ G', runB b n [.scr (ns.map MV.int)] [] = .ok (.bl true) G'
theorem law_sp {b : SM} {n : Nat} (hrun : ∀ ns : List Int, ns.length ≤ 63 → (∀ z ∈ ns, Builtin.Int.intBits z ≤ 1048576) → ∃ G', runB b n [.scr (ns.map MV.int)] [] = .ok (.bl true) G') {K : PySem.W.Frag} {ct : String → Addr} {H : Hp} {a : Addr} {ns : List Int} (h1 : ns.length ≤ 63) (h2 : ∀ z ∈ ns, Builtin.Int.intBits z ≤ 1048576) (h3 : SqL K H a (ns.map V.int)) : spM ⟨K, ct⟩ (fnLaw b n) [.ref a] H (fun v _ => v = .bl true) fun _ _ _ => False := by
  have S : SR ⟨K, ct⟩ (fun _ => False) [] O0 ⟨[], []⟩ [] H := by
    refine ⟨?_, rfl, rfl, List.nodup_nil, ?_, ?_, ?_, fun _ _ => rfl, ?_, ?_⟩
    · intro b h; exact h.elim
    · intro b h; simp at h
    · intro i b h; cases h
    · intro i j b h; cases h
    · intro i x h; simp at h
    · intro n o h; simp at h
  have e : view (fun _ => False) [] O0 H = H := by
    funext b
    unfold view
    rw [if_neg]
    rintro (h | h | ⟨_, h⟩)
    · exact h
    · simp at h
    · cases h
  refine ⟨fun _ => False, [], [], [.scr (ns.map MV.int)], S, by rw [e]; exact .cons (.scr h3 (Reps.ints ns)) .nil, ?_⟩
  obtain ⟨G', hr⟩ := hrun ns h1 h2
  unfold fnLaw
  rw [if_pos ⟨⟨ns, rfl, h1, h2⟩, G', hr⟩, hr]
  intro ρ' H' v _ _ r
  cases r
  rfl
end M

namespace M
open PySem L2
theorem mWhile_if (c : TM) (b : SM) (s : MS) : mWhile c b s = (c s).bind fun x s1 => if x = true then (b s1).bind fun f s2 => (match f with
    | .nx => mWhile c b s2
    | .ct => mWhile c b s2
    | .bk => .ok .nx s2
    | .rt x => .ok (.rt x) s2) else .ok .nx s1 := by
  rw [mWhile_step]
  cases e : c s with
  | ok x s1 =>
    cases x with
    | false => rfl
    | true =>
      simp only [R.bind_ok, if_true]
      cases b s1 with
      | ok f s2 => cases f <;> rfl
      | exc x s2 => rfl
      | stuck => rfl
  | exc x s1 => rfl
  | stuck => rfl
theorem forM_nil (g : GM) (b : SM) (s : MS) : forM g b [] s = .ok .nx s := rfl
theorem forM_cons (g : GM) (b : SM) (x : MV) (xs : List MV) (s : MS) : forM g b (x :: xs) s = (match g x s with
    | none => .stuck
    | some s1 => (b s1).bind fun f s2 => (match f with
      | .nx => forM g b xs s2
      | .ct => forM g b xs s2
      | .bk => .ok .nx s2
      | .rt x => .ok (.rt x) s2)) := by
  show (match g x s with
    | none => R.stuck
    | some s1 => match b s1 with
      | .ok .nx s2 => forM g b xs s2
      | .ok .ct s2 => forM g b xs s2
      | .ok .bk s2 => .ok .nx s2
      | .ok (.rt x) s2 => .ok (.rt x) s2
      | .exc x s2 => .exc x s2
      | .stuck => .stuck) = _
  cases g x s with
  | none => rfl
  | some s1 =>
    dsimp only
    cases b s1 with
    | ok f s2 => cases f <;> rfl
    | exc x s2 => rfl
    | stuck => rfl
theorem fmod_pos {i j : Int} (h : 0 < j) : i.fmod j = i % j := Int.fmod_eq_emod_of_nonneg _ (Int.le_of_lt h)
theorem fdiv_pos {i j : Int} (h : 0 < j) : i.fdiv j = i / j := Int.fdiv_eq_ediv_of_nonneg _ (Int.le_of_lt h)
theorem abs_eq (a : Int) : (if a < 0 then -a else a) = (a.natAbs : Int) := by split <;> omega
theorem log2_lt {n k : Nat} (h0 : 0 < k) (h : n < 2 ^ k) : n.log2 < k := PySem.Flt.log2_lt_of h0 h
theorem mulOk_of {i j : Int} (a b : Nat) (h1 : i.natAbs.log2 < a) (h2 : j.natAbs.log2 < b) (h : a + b ≤ 90000000) : mulOk i j := by unfold mulOk; omega
theorem log2_mul (a b : Nat) : (a * b).log2 ≤ a.log2 + b.log2 + 1 := by
  by_cases ha : a = 0
  · subst ha; simp
  by_cases hb : b = 0
  · subst hb; simp
  have h1 := Nat.lt_log2_self (n := a)
  have h2 := Nat.lt_log2_self (n := b)
  have h3 : a * b < 2 ^ (a.log2 + b.log2 + 2) := by
    have : 2 ^ (a.log2 + b.log2 + 2) = 2 ^ (a.log2 + 1) * 2 ^ (b.log2 + 1) := by rw [← Nat.pow_add]; congr 1; omega
    rw [this]
    exact Nat.mul_lt_mul'' h1 h2
  have := log2_lt (by omega) h3
  omega
theorem log2_mono {a b : Nat} (h : a ≤ b) : a.log2 ≤ b.log2 := by
  by_cases ha : a = 0
  · subst ha; simp
  have h2 := Nat.lt_log2_self (n := b)
  have := log2_lt (k := b.log2 + 1) (by omega) (Nat.lt_of_le_of_lt h h2)
  omega
end M

namespace M
open PySem L2
theorem kit_NoneType_int : kitB "NoneType" "int" = some false := by decide +kernel
theorem kit_NoneType_bool : kitB "NoneType" "bool" = some false := by decide +kernel
theorem kit_NoneType_str : kitB "NoneType" "str" = some false := by decide +kernel
theorem kit_NoneType_list : kitB "NoneType" "list" = some false := by decide +kernel
theorem kit_NoneType_tuple : kitB "NoneType" "tuple" = some false := by decide +kernel
theorem kit_NoneType_dict : kitB "NoneType" "dict" = some false := by decide +kernel
theorem kit_bool_int : kitB "bool" "int" = some true := by decide +kernel
theorem kit_bool_bool : kitB "bool" "bool" = some true := by decide +kernel
theorem kit_bool_str : kitB "bool" "str" = some false := by decide +kernel
theorem kit_bool_list : kitB "bool" "list" = some false := by decide +kernel
theorem kit_bool_tuple : kitB "bool" "tuple" = some false := by decide +kernel
theorem kit_bool_dict : kitB "bool" "dict" = some false := by decide +kernel
theorem kit_int_int : kitB "int" "int" = some true := by decide +kernel
theorem kit_int_bool : kitB "int" "bool" = some false := by decide +kernel
theorem kit_int_str : kitB "int" "str" = some false := by decide +kernel
theorem kit_int_list : kitB "int" "list" = some false := by decide +kernel
theorem kit_int_tuple : kitB "int" "tuple" = some false := by decide +kernel
theorem kit_int_dict : kitB "int" "dict" = some false := by decide +kernel
theorem kit_str_int : kitB "str" "int" = some false := by decide +kernel
theorem kit_str_bool : kitB "str" "bool" = some false := by decide +kernel
theorem kit_str_str : kitB "str" "str" = some true := by decide +kernel
theorem kit_str_list : kitB "str" "list" = some false := by decide +kernel
theorem kit_str_tuple : kitB "str" "tuple" = some false := by decide +kernel
theorem kit_str_dict : kitB "str" "dict" = some false := by decide +kernel
theorem kit_tuple_int : kitB "tuple" "int" = some false := by decide +kernel
theorem kit_tuple_bool : kitB "tuple" "bool" = some false := by decide +kernel
theorem kit_tuple_str : kitB "tuple" "str" = some false := by decide +kernel
theorem kit_tuple_list : kitB "tuple" "list" = some false := by decide +kernel
theorem kit_tuple_tuple : kitB "tuple" "tuple" = some true := by decide +kernel
theorem kit_tuple_dict : kitB "tuple" "dict" = some false := by decide +kernel
theorem kit_list_int : kitB "list" "int" = some false := by decide +kernel
theorem kit_list_bool : kitB "list" "bool" = some false := by decide +kernel
theorem kit_list_str : kitB "list" "str" = some false := by decide +kernel
theorem kit_list_list : kitB "list" "list" = some true := by decide +kernel
theorem kit_list_tuple : kitB "list" "tuple" = some false := by decide +kernel
theorem kit_list_dict : kitB "list" "dict" = some false := by decide +kernel
end M

namespace M
open PySem L2
/-- where the module's classes stand -/
noncomputable def ctOf (K : PySem.W.Frag) (n : String) : Addr := match PySem.W.nsIn K mainGlobals (Str.ofString n) with
  | some (some (.ref a)) => a
  | _ => 0
theorem ctOf_eq {K : PySem.W.Frag} {n : String} {a : Addr} (h : PySem.W.nsIn K mainGlobals (Str.ofString n) = some (some (.ref a))) : ctOf K n = a := by
  unfold ctOf; rw [h]
end M

namespace M
open PySem L2
theorem walk_M {b : SM} {n : Nat} (hrun : ∀ ns : List Int, ns.length ≤ 63 → (∀ z ∈ ns, Builtin.Int.intBits z ≤ 1048576) → ∃ G', runB b n [.scr (ns.map MV.int)] [] = .ok (.bl true) G') {l : PySem.W.OpenLaw} {k : Nat} {q : Program} {loose : List Str} {XP : (Str → Option Value) → Heap → Prop} {YP : World → Heap → Prop} {d : DefRec} {K : Params → PySem.W.Frag} {x : Str}
    (hn : l.most = some 63) (hdf : d.params.defaults = []) (hr : Room k callerA)
    (hY : ∀ (w : World) (h : Heap), YP w h → (K w.params).In h)
    (F : ∀ (w : World) (mg : Str → Option Value) (fa : Addr) (h : Heap), (K w.params).In h → h.Ns mainGlobals mg → mg d.name = some (.ref fa) →
      ∃ fd : FuncData, (∀ (s : Shared) (u : Value), BindsTo s fd ⟨[u], []⟩ [(x, u)]) ∧
        ∀ base : Heap, (K w.params).In base → base.Ns mainGlobals mg → FnOk l.prog w (K w.params) mg base (L2.CX l.prog w) k fa fd [x] (spM ⟨K w.params, ctOf (K w.params)⟩ (fnLaw b n))) :
    PySem.W.WalkO q loose XP YP l.row.toRowW d [] (fun f vs => PySem.call f vs) :=
  L2.walk_ofB (K := K) (CX := fun w => L2.CX l.prog w) (sp := fun w => spM ⟨K w.params, ctOf (K w.params)⟩ (fnLaw b n)) hn (by decide) hdf hr hY F (fun w H a ns h1 h2 _ h3 => law_sp hrun h1 h2 h3)
    fun w H s e s' h => by
      obtain ⟨_, _, _, _, _, _, _, _, _, _, _, _, z⟩ := h
      exact z
end M

namespace M
open PySem L2
/-! ## evaluation, lemma by lemma -/
theorem oCmpI_int {p : Int → Int → Bool} {i j : Int} {s : MS} : oCmpI p (.int i) (.int j) s = .ok (.bl (p i j)) s := rfl
theorem oMul_ok {i j : Int} {s : MS} (h : mulOk i j) : oMul (.int i) (.int j) s = .ok (.int (i * j)) s := by unfold oMul; simp only [if_pos h]
theorem mulOk_lit {i j : Int} (h1 : -1000000000000000000000000000000000000000000000000000000000000000 < i) (h2 : i < 1000000000000000000000000000000000000000000000000000000000000000) (h3 : -1000000000000000000000000000000000000000000000000000000000000000 < j) (h4 : j < 1000000000000000000000000000000000000000000000000000000000000000) : mulOk i j := by
  have a : i.natAbs < 2 ^ 250 := by omega
  have b : j.natAbs < 2 ^ 250 := by omega
  have := log2_lt (by decide) a
  have := log2_lt (by decide) b
  unfold mulOk; omega
theorem oMul_lit {i j : Int} {s : MS} (h1 : -1000000000000000000000000000000000000000000000000000000000000000 < i) (h2 : i < 1000000000000000000000000000000000000000000000000000000000000000) (h3 : -1000000000000000000000000000000000000000000000000000000000000000 < j) (h4 : j < 1000000000000000000000000000000000000000000000000000000000000000) : oMul (.int i) (.int j) s = .ok (.int (i * j)) s := oMul_ok (mulOk_lit h1 h2 h3 h4)
theorem oMod_pos {i j : Int} {s : MS} (h : 0 < j) : oMod (.int i) (.int j) s = .ok (.int (i % j)) s := by
  unfold oMod; simp only; rw [if_pos (by omega), fmod_pos h]
theorem divOk_lt {j : Int} (h0 : 0 < j) (h : j < 1000000000000000000000000000000000000000000000000000000000000) : divOk j := by
  have : j.natAbs < 2 ^ 250 := by omega
  have := log2_lt (by decide) this
  unfold divOk; omega
theorem oDiv_ok {i j : Int} {s : MS} (h : 0 < j) (hd : divOk j) : oDiv (.int i) (.int j) s = .ok (.int (i / j)) s := by
  unfold oDiv; simp only; rw [if_pos ⟨by omega, hd⟩, fdiv_pos h]
theorem oDiv_lt {i j : Int} {s : MS} (h : 0 < j) (hd : j < 1000000000000000000000000000000000000000000000000000000000000) : oDiv (.int i) (.int j) s = .ok (.int (i / j)) s := oDiv_ok h (divOk_lt h hd)
theorem oPow_10 {j : Int} {s : MS} (h0 : 0 ≤ j) (h1 : j ≤ 1000) : oPow (.int 10) (.int j) s = .ok (.int (10 ^ j.toNat)) s := by
  unfold oPow; simp only; rw [if_pos (show powOk 10 j from ⟨h0, by omega, by decide⟩)]
theorem shaped_int (a : Int) : SeqAt.shaped (.int a) = true := by simp [SeqAt.shaped, PyData.canLay0, PyData.depth]
theorem oEq_int {a b : Int} {s : MS} : oEq (.int a) (.int b) s = .ok (.bl (decide (a = b))) s := by
  unfold oEq; simp only [toD, shaped_int, and_self, if_true, PyData.eqv, Bool.beq_eq_decide_eq]
theorem oNe_int {a b : Int} {s : MS} : oNe (.int a) (.int b) s = .ok (.bl (!decide (a = b))) s := by
  unfold oNe; simp only [toD, shaped_int, and_self, if_true, PyData.eqv, Bool.beq_eq_decide_eq]
def ofO (o : Option MV) (s : MS) : R MV := match o with
  | some m => .ok m s
  | none => .stuck
theorem ofO_some (m : MV) (s : MS) : ofO (some m) s = .ok m s := rfl
theorem oIdx_tup {xs : List MV} {i : Int} {s : MS} (h0 : 0 ≤ i) : oIdx (.tup xs) (.int i) s = ofO xs[i.toNat]? s := by
  unfold oIdx ofO; simp only [if_pos h0]; try (cases xs[i.toNat]? <;> rfl)
theorem oIdx_lst {xs : List MV} {i : Int} {s : MS} (h0 : 0 ≤ i) : oIdx (.lst xs) (.int i) s = ofO xs[i.toNat]? s := by
  unfold oIdx ofO; simp only [if_pos h0]; try (cases xs[i.toNat]? <;> rfl)
theorem oIdx_scr {xs : List MV} {i : Int} {s : MS} (h0 : 0 ≤ i) : oIdx (.scr xs) (.int i) s = ofO xs[i.toNat]? s := by
  unfold oIdx ofO; simp only [if_pos h0]; try (cases xs[i.toNat]? <;> rfl)
theorem oR1_ok {j : Int} {s : MS} (h0 : -4611686018427387904 ≤ j) (h1 : j < 4611686018427387904) : oR1 [.int j] s = .ok (rangeM 0 1 j.toNat) s := by
  unfold oR1; simp only; rw [if_pos (show r1Ok j from ⟨by omega, by omega⟩)]
theorem oR1_len {n : Nat} {s : MS} (h1 : n < 4611686018427387904) : oR1 [.int (n : Int)] s = .ok (rangeM 0 1 n) s := by
  rw [oR1_ok (by omega) (by omega), Int.toNat_natCast]
theorem oR2_ok {i j : Int} {s : MS} (h2 : -4611686018427387904 ≤ i) (h3 : i < 4611686018427387904) (h0 : -4611686018427387904 ≤ j) (h1 : j < 4611686018427387904) : oR2 [.int i, .int j] s = .ok (rangeM i 1 (j - i).toNat) s := by
  unfold oR2; simp only; rw [if_pos (show r2Ok i j from ⟨by omega, by omega, by omega, by omega⟩)]
theorem oR3_ok {i j c : Int} {s : MS} (h0 : 0 ≤ i) (h1 : i < 536870912) (h2 : 0 ≤ j) (h3 : j < 536870912) (h4 : 0 < c) (h5 : c < 1000000) : oR3 [.int i, .int j, .int c] s = .ok (rangeM i c (if i < j then ((j - i - 1) / c + 1).toNat else 0)) s := by
  unfold oR3; simp only; rw [if_pos (show r3Ok i j c from ⟨h0, by omega, h2, by omega, h4, h5⟩)]
theorem shaped_t2 (a b : Int) : SeqAt.shaped (.tuple [.int a, .int b]) = true := by
  simp [SeqAt.shaped, PyData.canLay0, PyData.canLayAll0, PyData.depth, PyData.depthAll]
theorem oEq_t2 {a b c d : Int} {s : MS} : oEq (.tup [.int a, .int b]) (.tup [.int c, .int d]) s = .ok (.bl (decide (a = c ∧ b = d))) s := by
  unfold oEq
  simp only [toD, toDs, Option.map_some, shaped_t2, and_self, if_true, PyData.eqv, PyData.eqvAll, Bool.beq_eq_decide_eq, Bool.and_true, Bool.decide_and]
theorem oNe_t2 {a b c d : Int} {s : MS} : oNe (.tup [.int a, .int b]) (.tup [.int c, .int d]) s = .ok (.bl (!decide (a = c ∧ b = d))) s := by
  unfold oNe
  simp only [toD, toDs, Option.map_some, shaped_t2, and_self, if_true, PyData.eqv, PyData.eqvAll, Bool.beq_eq_decide_eq, Bool.and_true, Bool.decide_and]
theorem oIdx_t0 {a : MV} {xs : List MV} {s : MS} : oIdx (.tup (a :: xs)) (.int 0) s = .ok a s := rfl
theorem oIdx_t1 {a b : MV} {xs : List MV} {s : MS} : oIdx (.tup (a :: b :: xs)) (.int 1) s = .ok b s := rfl
theorem oIdx_t2 {a b c : MV} {xs : List MV} {s : MS} : oIdx (.tup (a :: b :: c :: xs)) (.int 2) s = .ok c s := rfl
theorem bAbs_int {i : Int} {s : MS} : bAbs [.int i] s = .ok (.int i.natAbs) s := by unfold bAbs; simp only [abs_eq]
theorem oTup_ok {xs : List MV} {s : MS} (h : xs.length ≤ 16777216) : oTup xs s = .ok (.tup xs) s := by unfold oTup; rw [if_pos (show lim xs.length from h)]
theorem oLst_ok {xs : List MV} {s : MS} (h : xs.length ≤ 16777216) : oLst xs s = .ok (.lst xs) s := by unfold oLst; rw [if_pos (show lim xs.length from h)]
theorem oAdd_int {i j : Int} {s : MS} : oAdd (.int i) (.int j) s = .ok (.int (i + j)) s := rfl
theorem oAdd_str {i j : Str} {s : MS} (h : i.length + j.length ≤ 16777216) : oAdd (.str i) (.str j) s = .ok (.str (i ++ j)) s := by unfold oAdd; simp only [if_pos (show lim (i.length + j.length) from h)]
theorem oAdd_lst {i j : List MV} {s : MS} (h : i.length + j.length ≤ 16777216) : oAdd (.lst i) (.lst j) s = .ok (.lst (i ++ j)) s := by unfold oAdd; simp only [if_pos (show lim (i.length + j.length) from h)]
theorem bLen_lst {xs : List MV} {s : MS} : bLen [.lst xs] s = .ok (.int xs.length) s := rfl
theorem bLen_scr {xs : List MV} {s : MS} : bLen [.scr xs] s = .ok (.int xs.length) s := rfl
theorem bLen_tup {xs : List MV} {s : MS} : bLen [.tup xs] s = .ok (.int xs.length) s := rfl
theorem bLen_str {z : Str} {s : MS} (h : z.length ≤ 16777216) : bLen [.str z] s = .ok (.int z.length) s := by unfold bLen; simp only [if_pos (show lim z.length from h)]
/-- an int of at most n bits, by its bounds -/
theorem bits_lt {x : Int} (n : Nat) (h0 : 0 < n) (h : x.natAbs < 2 ^ n) : x.natAbs.log2 < n := log2_lt h0 h
theorem log2_sub (a b : Int) (n : Nat) (ha : a.natAbs.log2 < n) (hb : b.natAbs.log2 < n) : (a - b).natAbs.log2 < n + 1 := by
  have h1 := Nat.lt_log2_self (n := a.natAbs)
  have h2 := Nat.lt_log2_self (n := b.natAbs)
  have e1 : 2 ^ (a.natAbs.log2 + 1) ≤ 2 ^ n := Nat.pow_le_pow_right (by decide) ha
  have e2 : 2 ^ (b.natAbs.log2 + 1) ≤ 2 ^ n := Nat.pow_le_pow_right (by decide) hb
  refine log2_lt (by omega) ?_
  rw [Nat.pow_succ]
  omega
theorem log2_add (a b : Int) (n : Nat) (ha : a.natAbs.log2 < n) (hb : b.natAbs.log2 < n) : (a + b).natAbs.log2 < n + 1 := by
  have h1 := Nat.lt_log2_self (n := a.natAbs)
  have h2 := Nat.lt_log2_self (n := b.natAbs)
  have e1 : 2 ^ (a.natAbs.log2 + 1) ≤ 2 ^ n := Nat.pow_le_pow_right (by decide) ha
  have e2 : 2 ^ (b.natAbs.log2 + 1) ≤ 2 ^ n := Nat.pow_le_pow_right (by decide) hb
  refine log2_lt (by omega) ?_
  rw [Nat.pow_succ]
  omega
theorem log2_mulI (a b : Int) (n k : Nat) (ha : a.natAbs.log2 < n) (hb : b.natAbs.log2 < k) : (a * b).natAbs.log2 < n + k := by
  rw [Int.natAbs_mul]
  have := log2_mul a.natAbs b.natAbs
  omega
theorem log2_le_of {a b : Int} (h : a.natAbs ≤ b.natAbs) : a.natAbs.log2 ≤ b.natAbs.log2 := log2_mono h
/-- the script's ints -/
theorem script_log2 {z : Int} (h : Builtin.Int.intBits z ≤ 1048576) : z.natAbs.log2 < 1048577 := by
  unfold Builtin.Int.intBits at h
  split at h
  · rename_i e
    have : z = 0 := by simpa using e
    subst this; decide
  · omega
end M

namespace M
open PySem L2
open Classical

/-! ## slices -/
abbrev OM := MS → R (Option Int)
section
variable (K : KA) (X : Addr → Prop) (W : WX) (ρ : List Addr) (O : Nat → Option Addr) (H : Hp) (σ : St)
def PostO (r : R (Option Int)) (Q : Option Int → Hp → Prop) : Prop := match r with
  | .ok x s' => ∀ ρ' O' H', SR K X ρ' O' s' σ H' → Fut X ρ O H ρ' O' H' → Q x H'
  | .exc c s' => ∀ ρ' O' H', SR K X ρ' O' s' σ H' → Fut X ρ O H ρ' O' H' → W (.ref (K.ct c)) none σ H'
  | .stuck => False
end
def SimO (K : KA) (W : WX) (te : TO) (m : OM) : Prop := ∀ X ρ O s σ H Q, SR K X ρ O s σ H → PostO K X W ρ O H σ (m s) Q → te σ H Q
def oNoneM : OM := fun s => .ok none s
def oSomeM (e : EM) : OM := fun s => (e s).bind fun x s1 => match x with
  | .int i => .ok (some i) s1
  | _ => .stuck
def cutG {α : Type} (xs : List α) (lo hi : Option Int) : List α := (xs.drop (HT.sIx xs.length 0 lo)).take (HT.sIx xs.length xs.length hi - HT.sIx xs.length 0 lo)
noncomputable def oSl (x : MV) (lo hi : Option Int) : EM := fun s => match x with
  | .lst xs => .ok (.lst (cutG xs lo hi)) s
  | .scr xs => .ok (.lst (cutG xs lo hi)) s
  | .str z => if lim z.length then .ok (.str (cutS z lo hi)) s else .stuck
  | .ref n => (match s.G[n]? with
    | some (.lst xs) => .ok (.lst (cutG xs lo hi)) s
    | _ => .stuck)
  | _ => .stuck
theorem oSl_ref {n : Nat} {xs : List MV} {lo hi : Option Int} {s : MS} (h : s.G[n]? = some (.lst xs)) : oSl (.ref n) lo hi s = .ok (.lst (cutG xs lo hi)) s := by unfold oSl; simp only [h]
noncomputable def mSl (e : EM) (l h : OM) : EM := fun s => (e s).bind fun x s1 => (l s1).bind fun lo s2 => (h s2).bind fun hi s3 => oSl x lo hi s3
def rSlA (K : PySem.W.Frag) : V → Option Int → Option Int → Hp → VK → Prop := fun x lo hi H Q => rSlL K x lo hi H Q ∨ rSlS x lo hi H Q
theorem sl_all {X : Cx} : L2.SlR X (rSlA X.K) := sl_list.or sl_str
section
variable {K : KA} {X : Addr → Prop} {W : WX} {ρ ρ' : List Addr} {O O' : Nat → Option Addr} {s s' : MS} {σ : St} {H H' : Hp}
theorem SimO.bindE {te : TO} {m : OM} (h : SimO K W te m) (S : SR K X ρ O s σ H) {f : Option Int → MS → R MV} {Q : VK} (p : PostE K X W ρ O H σ ((m s).bind f) Q) {Q' : Option Int → Hp → Prop}
    (k : ∀ x s1 ρ1 O1 H1, SR K X ρ1 O1 s1 σ H1 → Fut X ρ O H ρ1 O1 H1 → PostE K X W ρ1 O1 H1 σ (f x s1) Q → Q' x H1) : te σ H Q' := by
  refine h X ρ O s σ H Q' S ?_
  cases e : m s with
  | ok x s1 => rw [e] at p; intro a b c S' F; exact k x s1 a b c S' F (p.later F)
  | exc c s1 => rw [e] at p; exact p
  | stuck => rw [e] at p; exact p
theorem so_none : SimO K W tNoPart oNoneM := fun X ρ O s σ H Q S p => p ρ O H S Fut.refl
theorem so_some {te : TE} {me : EM} (h : SimE K W te me) : SimO K W (tPart te) (oSomeM me) := by
  intro X ρ O s σ H Q S p
  refine h X ρ O s σ H _ S ?_
  unfold oSomeM at p
  cases e : me s with
  | ok x s1 =>
    rw [e] at p
    intro ρ1 O1 H1 v S1 F1 r1
    cases r1 with
    | int i => exact ⟨i, rfl, p ρ1 O1 H1 S1 F1⟩
    | _ => exact p.elim
  | exc c s1 => rw [e] at p; exact p
  | stuck => rw [e] at p; exact p
theorem cutV_eq (xs : List V) (lo hi : Option Int) : cutV xs lo hi = cutG xs lo hi := rfl
theorem Reps.cut {ms : List MV} {vs : List V} (lo hi : Option Int) (r : Reps ρ K H ms vs) : Reps ρ K H (cutG ms lo hi) (cutV vs lo hi) := by
  unfold cutG cutV
  rw [r.length]
  exact (r.drop _).take _
theorem sim_sl {te : TE} {me : EM} {tl th : TO} {ml mh : OM} (he : SimE K W te me) (hl : SimO K W tl ml) (hh : SimO K W th mh) : SimE K W (tSl (rSlA K.F) te tl th) (mSl me ml mh) := by
  intro X ρ O s σ H Q S p
  refine he.bindE S p fun x s1 ρ1 O1 H1 v S1 F1 r1 p1 => ?_
  refine hl.bindE S1 p1 fun lo s2 ρ2 O2 H2 S2 F2 p2 => ?_
  refine hh.bindE S2 p2 fun hi s3 ρ3 O3 H3 S3 F3 p3 => ?_
  have r3 := (F2.trans F3).rep r1
  cases r3 with
  | lst hx rx => exact .inl ⟨_, _, rfl, sqlv hx, fun q hq => p3.grown S3 (Ex.new hq) (.lst (S3.view_new hq) ((rx.cut lo hi).mono (Pre.refl _) (view_ex (Ex.new hq))))⟩
  | scr hx rx => exact .inl ⟨_, _, rfl, sql_ex (view_le _ _ _ _) hx, fun q hq => p3.grown S3 (Ex.new hq) (.lst (S3.view_new hq) ((rx.cut lo hi).mono (Pre.refl _) (view_ex (Ex.new hq))))⟩
  | str z =>
    unfold oSl at p3
    by_cases h : lim z.length
    · simp only [if_pos h] at p3
      exact .inr ⟨z, rfl, by rw [sizeLine_eq]; exact h, p3.done S3 (.str _)⟩
    · simp only [if_neg h] at p3; exact p3.elim
  | ref hn =>
    rename_i n a
    unfold oSl at p3
    cases g : s3.G[n]? with
    | none => simp only [g] at p3; exact p3.elim
    | some o => cases o with
      | ins c ks vs => simp only [g] at p3; exact p3.elim
      | dic ms => simp only [g] at p3; exact p3.elim
      | lck od fs ms => simp only [g] at p3; exact p3.elim
      | lst xs =>
        simp only [g] at p3
        obtain ⟨vs, hx, rx⟩ := S3.refL hn g
        exact .inl ⟨_, _, rfl, .inl (.inl hx), fun q hq => p3.grown S3 (Ex.new hq) (.lst (S3.view_new hq) ((rx.cut lo hi).mono (Pre.refl _) (view_ex (Ex.new hq))))⟩
  | _ => exact p3.elim
end
structure POM (ct : String → Addr) (X : Cx) (W : WX) (e : Option Expr) (te : TO) (m : OM) : Prop where
  pe : PO X e te
  sim : SimO ⟨X.K, ct⟩ W te m
section
variable {ct : String → Addr} {X : Cx} {W : WX} {e : Expr} {te : TE} {me : EM} {lo hi : Option Expr} {tl th : TO} {ml mh : OM} {pos p2 : Pos}
theorem o_none : POM ct X W none tNoPart oNoneM := ⟨po_none, so_none⟩
theorem o_some (h : PEM ct X W e te me) : POM ct X W (some e) (tPart te) (oSomeM me) := ⟨po_some h.pe, so_some h.sim⟩
theorem e_sl (h : PEM ct X W e te me) (hl : POM ct X W lo tl ml) (hh : POM ct X W hi th mh) : PEM ct X W (.Subscript e (.Slice lo hi none p2) pos) (tSl (rSlA X.K) te tl th) (mSl me ml mh) := ⟨pe_slice sl_all h.pe hl.pe hh.pe, sim_sl h.sim hl.sim hh.sim⟩
end

/-! ## zip, sum -/
section
variable {K : KA} {W : WX}
def zipM : List MV → List MV → List MV
  | x :: xs, y :: ys => .tup [x, y] :: zipM xs ys
  | _, _ => []
theorem zipM_len : ∀ xs ys : List MV, (zipM xs ys).length = min xs.length ys.length
  | [], ys => by simp [zipM]
  | x :: xs, [] => by simp [zipM]
  | x :: xs, y :: ys => by simp [zipM, zipM_len xs ys]
theorem zipM_get : ∀ {xs ys : List MV} {i : Nat}, i < (zipM xs ys).length → ∃ x y, xs[i]? = some x ∧ ys[i]? = some y ∧ (zipM xs ys)[i]? = some (.tup [x, y])
  | [], ys, i, h => by simp [zipM] at h
  | x :: xs, [], i, h => by simp [zipM] at h
  | x :: xs, y :: ys, 0, h => ⟨x, y, rfl, rfl, rfl⟩
  | x :: xs, y :: ys, i + 1, h => by
    obtain ⟨a, b, h1, h2, h3⟩ := zipM_get (xs := xs) (ys := ys) (i := i) (by simpa [zipM] using h)
    exact ⟨a, b, by simpa using h1, by simpa using h2, by simpa [zipM] using h3⟩
def seqOf : MV → Option (List MV)
  | .lst xs => some xs
  | .scr xs => some xs
  | _ => none
theorem rep_seq {ρ : List Addr} {Vw : Hp} {x : MV} {v : V} {xs : List MV} (r : Rep ρ K Vw x v) (h : seqOf x = some xs) : ∃ a vs, v = .ref a ∧ SqL K.F Vw a vs ∧ Reps ρ K Vw xs vs := by
  cases r with
  | lst hx rx => cases h; exact ⟨_, _, rfl, .inl (.inl hx), rx⟩
  | scr hx rx => cases h; exact ⟨_, _, rfl, hx, rx⟩
  | _ => cases h
def oZip : List MV → MS → R (List MV) := fun xs s => match xs with
  | [a, b] => (match seqOf a, seqOf b with
    | some xs, some ys => .ok (zipM xs ys) s
    | _, _ => .stuck)
  | _ => .stuck
def iZipM (a : AM) : AM := fun s => (a s).bind oZip
theorem si_zip {ta : TA} {ma : AM} (h : SimA K W ta ma) : SimI K W (iZip K.F ta) (iZipM ma) := by
  intro X ρ O s σ H Q S p
  refine h.bindI S p fun x s1 ρ1 O1 H1 v S1 F1 r1 p1 => ?_
  unfold oZip at p1
  cases r1 with
  | nil => exact p1.elim
  | cons r1 rr => cases rr with
    | nil => exact p1.elim
    | cons r2 r3 => cases r3 with
      | cons _ _ => exact p1.elim
      | nil =>
        rename_i a va b vb
        dsimp only at p1
        cases ea : seqOf a with
        | none => rw [ea] at p1; exact p1.elim
        | some xs =>
          cases eb : seqOf b with
          | none => rw [ea, eb] at p1; exact p1.elim
          | some ys =>
            rw [ea, eb] at p1
            obtain ⟨pa, us, rfl, ha, ra⟩ := rep_seq r1 ea
            obtain ⟨pb, ws, rfl, hb, rb⟩ := rep_seq r2 eb
            have e1 := view_le X ρ1 O1 H1
            refine ⟨pa, pb, us, ws, rfl, sql_ex e1 ha, sql_ex e1 hb, p1.done S1 ⟨fun i H2 e hi => ?_, fun H2 e => ?_, fun i H2 x H3 e hi y => ?_⟩⟩
            · obtain ⟨x, y, h1, h2, _⟩ := zipM_get hi
              obtain ⟨u, hu, _⟩ := ra.get h1
              obtain ⟨w, hw, _⟩ := rb.get h2
              exact ⟨us, ws, u, w, sql_ex e ha, sql_ex e hb, hu, hw⟩
            · refine ⟨us, ws, sql_ex e ha, sql_ex e hb, ?_⟩
              rw [zipM_len, ← ra.length, ← rb.length]
              omega
            · obtain ⟨T, u, w, rfl, hT, rfl, hu, hw⟩ := y
              obtain ⟨x, y, h1, h2, h3⟩ := zipM_get hi
              obtain ⟨u', hu', ru⟩ := ra.get h1
              obtain ⟨w', hw', rw'⟩ := rb.get h2
              have eu : u' = u := by have := hu us (sql_ex e ha); rw [hu'] at this; exact Option.some.inj this
              have ew : w' = w := by have := hw ws (sql_ex e hb); rw [hw'] at this; exact Option.some.inj this
              subst eu ew
              refine ⟨Ex.new hT, _, h3, fun X2 ρ2 O2 s2 σ2 S2 p2 e2 => ?_⟩
              refine .tup (.inl (.inl (S2.view_new hT))) ?_
              have e3 := e2.trans (view_ex (X := X2) (ρ := ρ2) (O := O2) (Ex.new (o := HO.tup [u', w']) hT))
              exact .cons (ru.mono p2 e3) (.cons (rw'.mono p2 e3) .nil)
def intsOf : List MV → Option (List Int)
  | [] => some []
  | .int i :: xs => (intsOf xs).map (i :: ·)
  | _ => none
theorem intsOf_map : ∀ ns : List Int, intsOf (ns.map MV.int) = some ns
  | [] => rfl
  | n :: ns => by simp [intsOf, intsOf_map ns]
theorem intsOf_eq : ∀ {xs : List MV} {ns : List Int}, intsOf xs = some ns → xs = ns.map MV.int
  | [], ns, h => by cases h; rfl
  | .int i :: xs, ns, h => by
    rw [intsOf] at h
    obtain ⟨ms, h1, rfl⟩ := Option.map_eq_some_iff.mp h
    rw [intsOf_eq h1]; rfl
  | .non :: _, _, h => by cases h
  | .bl _ :: _, _, h => by cases h
  | .str _ :: _, _, h => by cases h
  | .tup _ :: _, _, h => by cases h
  | .lst _ :: _, _, h => by cases h
  | .scr _ :: _, _, h => by cases h
  | .obj _ _ _ :: _, _, h => by cases h
  | .ref _ :: _, _, h => by cases h
  | .err _ :: _, _, h => by cases h
  | .dic :: _, _, h => by cases h
def bSum : List MV → EM := fun xs s => match xs with
  | [.lst xs] => (match intsOf xs with
    | some ns => .ok (.int ns.sum) s
    | none => .stuck)
  | _ => .stuck
theorem sc_sum : SimC K (rSum K.F) bSum := by
  intro X W ρ O s σ H xs vs Q S r p
  cases r with
  | nil => exact p.elim
  | cons r1 rr => cases rr with
    | cons _ _ => cases r1 <;> exact p.elim
    | nil => cases r1 with
      | lst hx rx =>
        rename_i a ms us
        unfold bSum at p
        cases e : intsOf ms with
        | none => simp only [e] at p; exact p.elim
        | some ns =>
          simp only [e] at p
          have em := intsOf_eq e
          subst em
          have ev := rx.inv_ints
          subst ev
          exact ⟨a, ns, rfl, sqlv hx, p.done S (.int _)⟩
      | _ => exact p.elim
end
section
variable {ct : String → Addr} {X : Cx} {W : WX} {e e2 : Expr} {ta : TA} {ma : AM} {p pos tpos : Pos} {elts : List Expr} {kk : Nat}
theorem i_zip (hm : X.mg "zip" = none) (ha : PAM ct X W [e, e2] ta ma) (hg : Gl X "zip" := by rfl) (hs : starEach [e, e2] X.env = (false, eval e X.env) :: starEach [e2] X.env := by rfl) (hpl : (backTo pos (starEach [e2] X.env)).any (·.1) = false := by rfl) :
    PIM ct X W (.Tuple elts kk tpos) (.Call (.Name "zip" p) [e, e2] [] pos) (iZip X.K ta) (iZipM ma) := ⟨pi_zip hg hm ha.pe hs hpl, si_zip ha.sim⟩
end
theorem shaped_bl (a : Bool) : SeqAt.shaped (.bool a) = true := by simp [SeqAt.shaped, PyData.canLay0, PyData.depth]
theorem oEq_bl {a b : Bool} {s : MS} : oEq (.bl a) (.bl b) s = .ok (.bl (decide (a = b))) s := by
  unfold oEq; simp only [toD, shaped_bl, and_self, if_true, PyData.eqv]; cases a <;> cases b <;> rfl
theorem oNe_bl {a b : Bool} {s : MS} : oNe (.bl a) (.bl b) s = .ok (.bl (!decide (a = b))) s := by
  unfold oNe; simp only [toD, shaped_bl, and_self, if_true, PyData.eqv]; cases a <;> cases b <;> rfl
end M

namespace M
open PySem L2
open Classical

/-! ## list comprehensions -/
def wipeE (e : List SV) : List Nat → List SV
  | [] => e
  | v :: vs => (wipeE e vs).set v .un
def noOw (e : List SV) : List Nat → Bool
  | [] => true
  | v :: vs => (match e[v]? with
    | some (.ow _) => false
    | _ => true) && noOw e vs
noncomputable def lcOne (g : GM) (t : TM) (e : EM) (vs : List Nat) (E0 : List SV) (x : MV) (G : MHeap) : R (Option MV) := match g x ⟨E0, G⟩ with
  | none => .stuck
  | some s1 => (t s1).bind fun b s2 => if b = true then (e s2).bind fun y s3 => if wipeE s3.env vs = E0 then .ok (some y) s3 else .stuck
    else if wipeE s2.env vs = E0 then .ok none s2 else .stuck
noncomputable def lcM (g : GM) (t : TM) (e : EM) (vs : List Nat) (E0 : List SV) : List MV → List MV → MHeap → R (List MV)
  | [], acc, G => .ok acc ⟨E0, G⟩
  | x :: xs, acc, G => match lcOne g t e vs E0 x G with
    | .ok (some y) s => lcM g t e vs E0 xs (acc ++ [y]) s.G
    | .ok none s => lcM g t e vs E0 xs acc s.G
    | _ => .stuck
noncomputable def lcEndF (g : GM) (t : TM) (e : EM) (vs : List Nat) (xs : List MV) : MS → R MO := fun s =>
  if lim xs.length then if noOw s.env vs = true then match lcM g t e vs (wipeE s.env vs) xs [] s.G with
    | .ok ys s2 => .ok (.lst ys) ⟨s.env, s2.G⟩
    | _ => .stuck
  else .stuck else .stuck
noncomputable def lcEnd (g : GM) (t : TM) (e : EM) (vs : List Nat) (xs : List MV) : EM := fun s =>
  if lim xs.length then if noOw s.env vs = true then match lcM g t e vs (wipeE s.env vs) xs [] s.G with
    | .ok ys s2 => .ok (.lst ys) ⟨s.env, s2.G⟩
    | _ => .stuck
  else .stuck else .stuck
noncomputable def mLcL (it : AM) (vs : List Nat) (g : GM) (t : TM) (e : EM) : MS → R MO := fun s => (it s).bind fun xs s1 => lcEndF g t e vs xs s1
noncomputable def mLcF (it : AM) (vs : List Nat) (g : GM) (t : TM) (e : EM) : EM := fun s => (it s).bind fun xs s1 => lcEnd g t e vs xs s1
def qYes : TM := fun s => .ok true s
section
variable {K : KA} {X : Addr → Prop} {ρ ρ' : List Addr} {O O' : Nat → Option Addr} {s s' : MS} {σ σ' : St} {H H' : Hp}
theorem wipeE_len (e : List SV) : ∀ vs : List Nat, (wipeE e vs).length = e.length
  | [] => rfl
  | v :: vs => by unfold wipeE; rw [List.length_set, wipeE_len e vs]
theorem wipeE_in {e : List SV} {i : Nat} {x : SV} : ∀ {vs : List Nat}, i ∈ vs → (wipeE e vs)[i]? = some x → x = .un
  | [], h, _ => by simp at h
  | v :: vs, h, hx => by
    unfold wipeE at hx
    by_cases q : v = i
    · subst q
      have hl := (List.getElem?_eq_some_iff.mp hx).1
      rw [List.length_set] at hl
      rw [List.getElem?_set_self hl] at hx
      cases hx; rfl
    · rw [List.getElem?_set_ne q] at hx
      refine wipeE_in (vs := vs) ?_ hx
      rcases List.mem_cons.mp h with e | e
      · exact absurd e.symm q
      · exact e
theorem wipeE_out {e : List SV} {i : Nat} : ∀ {vs : List Nat}, i ∉ vs → (wipeE e vs)[i]? = e[i]?
  | [], _ => rfl
  | v :: vs, h => by
    have h1 : v ≠ i := fun e => h (by rw [e]; exact List.mem_cons_self)
    have h2 : i ∉ vs := fun m => h (List.mem_cons_of_mem _ m)
    unfold wipeE
    rw [List.getElem?_set_ne h1]
    exact wipeE_out h2
theorem noOw_at {e : List SV} {i : Nat} {xs : List MV} : ∀ {vs : List Nat}, noOw e vs = true → i ∈ vs → e[i]? ≠ some (.ow xs)
  | [], _, h => by simp at h
  | v :: vs, hn, h => by
    unfold noOw at hn
    rw [Bool.and_eq_true] at hn
    rcases List.mem_cons.mp h with q | q
    · subst q
      intro z
      rw [z] at hn
      exact absurd hn.1 (by simp)
    · exact noOw_at hn.2 q
/-- a slot forgotten -/
theorem SR.setUn (S : SR K X ρ O s σ H) (i : Nat) : SR K X ρ (unO O i) { s with env := s.env.set i .un } (σ.set i none) H := by
  have vx : Ex (view X ρ O H) (view X ρ (unO O i) H) := view_sub fun j b h => ⟨j, (unO_sub h).2⟩
  refine ⟨S.xo, by simp [S.len], S.gl, S.nd, S.xρ, fun j b h => S.oX j b (unO_sub h).2, fun j k b h1 h2 => S.oi j k b (unO_sub h1).2 (unO_sub h2).2, fun j h => ?_, fun j y h => ?_, fun n o h => ?_⟩
  · unfold unO
    split
    · rfl
    · exact S.ol j (by simpa using h)
  · by_cases e : i = j
    · subst e
      have hi : i < s.env.length := by
        have := (List.getElem?_eq_some_iff.mp h).1; simpa using this
      rw [List.getElem?_set_self hi] at h
      cases h
      show unO O i i = none
      unfold unO; rw [if_pos rfl]
    · have eo : unO O i j = O j := by unfold unO; rw [if_neg (fun q => e q.symm)]
      rw [List.getElem?_set_ne e] at h
      have z := S.sl j y h
      rw [List.getElem?_set_ne e, eo]
      cases y with
      | un => exact z
      | sh m => obtain ⟨h1, w, h2, h3⟩ := z; exact ⟨h1, w, h2, h3.mono (Pre.refl _) vx⟩
      | ow ms => obtain ⟨a, vs, h1, h2, h3, h4⟩ := z; exact ⟨a, vs, h1, h2, h3, h4.mono (Pre.refl _) vx⟩
  · obtain ⟨a, h1, z⟩ := S.ob n o h
    refine ⟨a, h1, ?_⟩
    cases o with
    | lst ms => obtain ⟨vs, h2, h3⟩ := z; exact ⟨vs, h2, h3.mono (Pre.refl _) vx⟩
    | ins c ks ms => obtain ⟨dx, fs, h2, h3, h4⟩ := z; exact ⟨dx, fs, h2, h3, h4.mono (Pre.refl _) vx⟩
    | dic ms => obtain ⟨fs, h2, h3, h4⟩ := z; exact ⟨fs, h2, h3, h4.mono (Pre.refl _) vx⟩
    | lck od fs ms => obtain ⟨h2, h3, h4⟩ := z; exact ⟨h2, h3, h4.mono (Pre.refl _) vx⟩
theorem SR.wipe (S : SR K X ρ O s σ H) : ∀ vs : List Nat, ∃ O', SR K X ρ O' { s with env := wipeE s.env vs } (wipe σ vs) H ∧ Fut X ρ O H ρ O' H
  | [] => ⟨O, S, Fut.refl⟩
  | v :: vs => by
    obtain ⟨O1, S1, F1⟩ := SR.wipe S vs
    exact ⟨_, S1.setUn v, F1.trans (fut_unO v)⟩
/-- hide: D new -/
theorem view_hide {D : Addr} (h : H D = none) (o : HO) : view (fun b => X b ∨ b = D) ρ O (upd H D o) = view X ρ O H := by
  funext b
  unfold view
  by_cases e : b = D
  · subst e
    have q : Hid (fun z => X z ∨ z = b) ρ O b := Or.inl (Or.inr rfl)
    rw [if_pos q, h]; split <;> rfl
  · have q : Hid (fun b => X b ∨ b = D) ρ O b ↔ Hid X ρ O b := by
      unfold Hid; simp [e]
    by_cases z : Hid X ρ O b
    · rw [if_pos z, if_pos (q.mpr z)]
    · rw [if_neg z, if_neg (fun y => z (q.mp y)), upd_ne e]
theorem view_put {D : Addr} (o : HO) : view (fun b => X b ∨ b = D) ρ O (upd H D o) = view (fun b => X b ∨ b = D) ρ O H := by
  funext b
  unfold view
  by_cases e : b = D
  · subst e
    have q : Hid (fun z => X z ∨ z = b) ρ O b := Or.inl (Or.inr rfl)
    rw [if_pos q, if_pos q]
  · rw [upd_ne e]
theorem SR.hide (S : SR K X ρ O s σ H) {D : Addr} (h : H D = none) (o : HO) : SR K (fun b => X b ∨ b = D) ρ O s σ (upd H D o) := by
  have e := Ex.new (o := o) h
  have G := S.grow e
  have nh := S.nhid h
  have vx : Ex (view X ρ O H) (view (fun b => X b ∨ b = D) ρ O (upd H D o)) := by rw [view_hide h]; exact Ex.refl _
  refine ⟨fun b hb => ?_, S.len, S.gl, S.nd, fun b hb q => ?_, fun i b hb => ⟨fun q => ?_, (S.oX i b hb).2⟩, S.oi, S.ol, fun i x hx => ?_, fun n q hq => ?_⟩
  · rcases hb with hb | rfl
    · exact G.xo b hb
    · exact ⟨o, upd_same⟩
  · rcases q with q | rfl
    · exact S.xρ b hb q
    · exact nh (.inr (.inl hb))
  · rcases q with q | rfl
    · exact (S.oX i b hb).1 q
    · exact nh (.inr (.inr ⟨i, hb⟩))
  · have z := S.sl i x hx
    cases x with
    | un => exact z
    | sh m => obtain ⟨h1, v, h2, h3⟩ := z; exact ⟨h1, v, h2, h3.mono (Pre.refl _) vx⟩
    | ow ms => obtain ⟨a, vs, h1, h2, h3, h4⟩ := z; exact ⟨a, vs, h1, h2, e _ _ h3, h4.mono (Pre.refl _) vx⟩
  · obtain ⟨a, h1, z⟩ := S.ob n q hq
    refine ⟨a, h1, ?_⟩
    cases q with
    | lst ms => obtain ⟨vs, h2, h3⟩ := z; exact ⟨vs, e _ _ h2, h3.mono (Pre.refl _) vx⟩
    | ins c ks ms => obtain ⟨dx, fs, h2, h3, h4⟩ := z; exact ⟨dx, fs, e _ _ h2, h3, h4.mono (Pre.refl _) vx⟩
    | dic ms => obtain ⟨fs, h2, h3, h4⟩ := z; exact ⟨fs, e _ _ h2, h3, h4.mono (Pre.refl _) vx⟩
    | lck od fs ms => obtain ⟨h2, h3, h4⟩ := z; exact ⟨e _ _ h2, h3, h4.mono (Pre.refl _) vx⟩
theorem SR.put {D : Addr} (S : SR K (fun b => X b ∨ b = D) ρ O s σ H) (o : HO) : SR K (fun b => X b ∨ b = D) ρ O s σ (upd H D o) := by
  have vx : Ex (view (fun b => X b ∨ b = D) ρ O H) (view (fun b => X b ∨ b = D) ρ O (upd H D o)) := by rw [view_put]; exact Ex.refl _
  refine ⟨fun b hb => ?_, S.len, S.gl, S.nd, S.xρ, S.oX, S.oi, S.ol, fun i x hx => ?_, fun n q hq => ?_⟩
  · by_cases e : b = D
    · subst e; exact ⟨o, upd_same⟩
    · rw [upd_ne e]; exact S.xo b hb
  · have z := S.sl i x hx
    cases x with
    | un => exact z
    | sh m => obtain ⟨h1, v, h2, h3⟩ := z; exact ⟨h1, v, h2, h3.mono (Pre.refl _) vx⟩
    | ow ms =>
      obtain ⟨a, vs, h1, h2, h3, h4⟩ := z
      have ne : a ≠ D := fun e => (S.oX i a h1).1 (.inr e)
      exact ⟨a, vs, h1, h2, by rw [upd_ne ne]; exact h3, h4.mono (Pre.refl _) vx⟩
  · obtain ⟨a, h1, z⟩ := S.ob n q hq
    have ne : a ≠ D := fun e => S.xρ a (List.mem_iff_getElem?.mpr ⟨n, h1⟩) (.inr e)
    refine ⟨a, h1, ?_⟩
    cases q with
    | lst ms => obtain ⟨vs, h2, h3⟩ := z; exact ⟨vs, by rw [upd_ne ne]; exact h2, h3.mono (Pre.refl _) vx⟩
    | ins c ks ms => obtain ⟨dx, fs, h2, h3, h4⟩ := z; exact ⟨dx, fs, by rw [upd_ne ne]; exact h2, h3, h4.mono (Pre.refl _) vx⟩
    | dic ms => obtain ⟨fs, h2, h3, h4⟩ := z; exact ⟨fs, by rw [upd_ne ne]; exact h2, h3, h4.mono (Pre.refl _) vx⟩
    | lck od fs ms => obtain ⟨h2, h3, h4⟩ := z; exact ⟨by rw [upd_ne ne]; exact h2, h3, h4.mono (Pre.refl _) vx⟩
theorem view_bare {D : Addr} : Ex (view (fun b => X b ∨ b = D) ρ O H) (view X ρ O H) := fun b o h => by
  obtain ⟨h1, h2⟩ := view_some.mp h
  refine view_some.mpr ⟨fun q => h1 ?_, h2⟩
  rcases q with q | q | q
  · exact .inl (.inl q)
  · exact .inr (.inl q)
  · exact .inr (.inr q)
/-- the loop's end: the block's own names as they were -/
theorem SR.backH {D : Addr} {vs : List Nat} {ρ1 : List Addr} {O1 : Nat → Option Addr} {H1 : Hp} {s1 : MS} {G : MHeap} (S1 : SR K X ρ1 O1 s1 σ H1) (hn : noOw s1.env vs = true) (p : Pre ρ1 ρ) (v : Ex (view X ρ1 O1 H1) (view (fun b => X b ∨ b = D) ρ O H))
    (S : SR K (fun b => X b ∨ b = D) ρ O ⟨wipeE s1.env vs, G⟩ (L2.wipe σ vs) H) : SR K (fun b => X b ∨ b = D) ρ O ⟨s1.env, G⟩ σ H := by
  have vx : Ex (view (fun b => X b ∨ b = D) ρ O H) (view (fun b => X b ∨ b = D) ρ O H) := Ex.refl _
  refine ⟨S.xo, S1.len, S.gl, S.nd, S.xρ, S.oX, S.oi, fun i h => S.ol i (by rw [wipeE_len]; exact h), fun i x hx => ?_, fun n q hq => ?_⟩
  · by_cases hi : i ∈ vs
    · have hl : i < (wipeE s1.env vs).length := by rw [wipeE_len]; exact (List.getElem?_eq_some_iff.mp hx).1
      have ex : (wipeE s1.env vs)[i]? = some (wipeE s1.env vs)[i] := List.getElem?_eq_getElem hl
      have eu := wipeE_in hi ex
      have z := S.sl i _ ex
      rw [eu] at z
      have z : O i = none := z
      have z1 := S1.sl i x hx
      cases x with
      | un => exact z
      | sh m => obtain ⟨h1, w, h2, h3⟩ := z1; exact ⟨z, w, h2, (h3.mono p v).mono (Pre.refl _) vx⟩
      | ow ms => exact absurd hx (noOw_at hn hi)
    · have z := S.sl i x (by show (wipeE s1.env vs)[i]? = some x; rw [wipeE_out hi]; exact hx)
      rw [wipe_out hi] at z
      cases x with
      | un => exact z
      | sh m => obtain ⟨h1, w, h2, h3⟩ := z; exact ⟨h1, w, h2, h3.mono (Pre.refl _) vx⟩
      | ow ms => obtain ⟨a, us, h1, h2, h3, h4⟩ := z; exact ⟨a, us, h1, h2, h3, h4.mono (Pre.refl _) vx⟩
  · obtain ⟨a, h1, z⟩ := S.ob n q hq
    refine ⟨a, h1, ?_⟩
    cases q with
    | lst ms => obtain ⟨us, h2, h3⟩ := z; exact ⟨us, h2, h3.mono (Pre.refl _) vx⟩
    | ins c ks ms => obtain ⟨dx, fs, h2, h3, h4⟩ := z; exact ⟨dx, fs, h2, h3, h4.mono (Pre.refl _) vx⟩
    | dic ms => obtain ⟨fs, h2, h3, h4⟩ := z; exact ⟨fs, h2, h3, h4.mono (Pre.refl _) vx⟩
    | lck od fs ms => obtain ⟨h2, h3, h4⟩ := z; exact ⟨h2, h3, h4.mono (Pre.refl _) vx⟩
end
/-! ## new objects -/
structure FreshAt (K : KA) (X : Addr → Prop) (ρ : List Addr) (O : Nat → Option Addr) (H : Hp) (ρ' : List Addr) (O' : Nat → Option Addr) (s' : MS) (σ : St) (H' : Hp) (a : Addr) (o : MO) : Prop where
  S : SR K (fun b => X b ∨ b = a) ρ' O' s' σ H'
  nX : ¬ X a
  ob : ObjR ρ' K (view (fun b => X b ∨ b = a) ρ' O' H') H' a o
  pre : Pre ρ ρ'
  ex : Ex (view X ρ O H) (view (fun b => X b ∨ b = a) ρ' O' H')
  xs : ∀ b o, X b → H b = some o → H' b = some o
def PostN (K : KA) (X : Addr → Prop) (W : WX) (ρ : List Addr) (O : Nat → Option Addr) (H : Hp) (σ : St) (r : R MO) (Q : VK) : Prop := match r with
  | .ok o s' => ∀ ρ' O' H' a, FreshAt K X ρ O H ρ' O' s' σ H' a o → Q (.ref a) H'
  | .exc c s' => ∀ ρ' O' H', SR K X ρ' O' s' σ H' → Fut X ρ O H ρ' O' H' → W (.ref (K.ct c)) none σ H'
  | .stuck => False
abbrev LM := MS → R MO
def SimN (K : KA) (W : WX) (te : TE) (m : LM) : Prop := ∀ X ρ O s σ H Q, SR K X ρ O s σ H → PostN K X W ρ O H σ (m s) Q → te σ H Q
def frzM : MO → MV
  | .lst xs => .lst xs
  | .ins c ks vs => .obj c ks vs
  | .dic _ => .non
  | .lck _ _ _ => .non
def mFrz (m : LM) : EM := fun s => (m s).bind fun o s1 => match o with
  | .dic _ => .stuck
  | .lck _ _ _ => .stuck
  | o => .ok (frzM o) s1
def mLive (m : LM) : EM := fun s => (m s).bind fun o s1 => .ok (.ref s1.G.length) ⟨s1.env, s1.G ++ [o]⟩
section
variable {K : KA} {X : Addr → Prop} {W : WX} {ρ ρ' : List Addr} {O O' : Nat → Option Addr} {s s' : MS} {σ : St} {H H' : Hp} {a : Addr} {o : MO}
theorem FreshAt.later {ρ1 : List Addr} {O1 : Nat → Option Addr} {H1 : Hp} (F : Fut X ρ O H ρ1 O1 H1) (f : FreshAt K X ρ1 O1 H1 ρ' O' s' σ H' a o) : FreshAt K X ρ O H ρ' O' s' σ H' a o :=
  ⟨f.S, f.nX, f.ob, F.pre.trans f.pre, F.ex.trans f.ex, fun b u h e => f.xs b u h (F.xs b u h e)⟩
theorem PostN.later {ρ1 : List Addr} {O1 : Nat → Option Addr} {H1 : Hp} {r : R MO} {Q : VK} (F : Fut X ρ O H ρ1 O1 H1) (h : PostN K X W ρ O H σ r Q) : PostN K X W ρ1 O1 H1 σ r Q := by
  cases r with
  | ok x s1 => intro a b c d f; exact h a b c d (f.later F)
  | exc x s1 => intro a b c S f; exact h a b c S (F.trans f)
  | stuck => exact h
theorem SR.bare (S : SR K (fun b => X b ∨ b = a) ρ O s σ H) : SR K X ρ O s σ H := by
  have vx : Ex (view (fun b => X b ∨ b = a) ρ O H) (view X ρ O H) := view_bare
  refine ⟨fun b hb => S.xo b (.inl hb), S.len, S.gl, S.nd, fun b hb q => S.xρ b hb (.inl q), fun i b hb => ⟨fun q => (S.oX i b hb).1 (.inl q), (S.oX i b hb).2⟩, S.oi, S.ol, fun i x hx => ?_, fun n q hq => ?_⟩
  · have z := S.sl i x hx
    cases x with
    | un => exact z
    | sh m => obtain ⟨h1, w, h2, h3⟩ := z; exact ⟨h1, w, h2, h3.mono (Pre.refl _) vx⟩
    | ow ms => obtain ⟨a, us, h1, h2, h3, h4⟩ := z; exact ⟨a, us, h1, h2, h3, h4.mono (Pre.refl _) vx⟩
  · obtain ⟨a, h1, z⟩ := S.ob n q hq
    refine ⟨a, h1, ?_⟩
    cases q with
    | lst ms => obtain ⟨us, h2, h3⟩ := z; exact ⟨us, h2, h3.mono (Pre.refl _) vx⟩
    | ins c ks ms => obtain ⟨dx, fs, h2, h3, h4⟩ := z; exact ⟨dx, fs, h2, h3, h4.mono (Pre.refl _) vx⟩
    | dic ms => obtain ⟨fs, h2, h3, h4⟩ := z; exact ⟨fs, h2, h3, h4.mono (Pre.refl _) vx⟩
    | lck od fs ms => obtain ⟨h2, h3, h4⟩ := z; exact ⟨h2, h3, h4.mono (Pre.refl _) vx⟩
theorem FreshAt.notHid (f : FreshAt K X ρ O H ρ' O' s' σ H' a o) : ¬ Hid X ρ' O' a := fun q => by
  rcases q with q | q | ⟨j, q⟩
  · exact f.nX q
  · exact f.S.xρ a q (.inr rfl)
  · exact (f.S.oX j a q).1 (.inr rfl)
theorem FreshAt.fut (f : FreshAt K X ρ O H ρ' O' s' σ H' a o) : Fut X ρ O H ρ' O' H' := ⟨f.pre, f.ex.trans view_bare, f.xs⟩
theorem FreshAt.frz (f : FreshAt K X ρ O H ρ' O' s' σ H' a o) (hd : (∀ kvs, o ≠ .dic kvs) ∧ ∀ a b c, o ≠ .lck a b c) : Rep ρ' K (view X ρ' O' H') (frzM o) (.ref a) := by
  have n := f.notHid
  have z := f.ob
  cases o with
  | dic kvs => exact absurd rfl (hd.1 kvs)
  | lck od fs kvs => exact absurd rfl (hd.2 od fs kvs)
  | lst xs => obtain ⟨vs, h1, h2⟩ := z; exact .lst (view_some.mpr ⟨n, h1⟩) (h2.mono (Pre.refl _) view_bare)
  | ins c ks vs => obtain ⟨dx, fs, h1, h2, h3⟩ := z; exact .obj (view_some.mpr ⟨n, h1⟩) h2 (h3.mono (Pre.refl _) view_bare)
theorem FreshAt.mkL (S : SR K X ρ' O' s' σ H') (F : Fut X ρ O H ρ' O' H') (n : H' a = none) {ms : List MV} {vs : List V} (r : Reps ρ' K (view X ρ' O' H') ms vs) : FreshAt K X ρ O H ρ' O' s' σ (upd H' a (.lst vs)) a (.lst ms) := by
  refine ⟨S.hide n _, fun q => ?_, ⟨vs, upd_same, ?_⟩, F.pre, ?_, fun b u h e => Ex.new n b u (F.xs b u h e)⟩
  · obtain ⟨u, e⟩ := S.xo a q
    rw [n] at e; cases e
  · rw [view_hide n]; exact r
  · rw [view_hide n]; exact F.ex
theorem sim_frz {te : TE} {m : LM} (h : SimN K W te m) : SimE K W te (mFrz m) := by
  intro X ρ O s σ H Q S p
  refine h X ρ O s σ H Q S ?_
  unfold mFrz at p
  cases e : m s with
  | ok o s1 =>
    rw [e] at p
    cases o with
    | dic kvs => exact p.elim
    | lck od fs kvs => exact p.elim
    | lst xs => intro a b c d f; exact p a b c _ f.S.bare f.fut (f.frz ⟨(by intro _ h; cases h), (by intro _ _ _ h; cases h)⟩)
    | ins c ks vs => intro a b c d f; exact p a b c _ f.S.bare f.fut (f.frz ⟨(by intro _ h; cases h), (by intro _ _ _ h; cases h)⟩)
  | exc c s1 => rw [e] at p; exact p
  | stuck => rw [e] at p; exact p
theorem view_live : view X (ρ ++ [a]) O H = view (fun b => X b ∨ b = a) ρ O H := by
  funext b
  unfold view
  have q : Hid X (ρ ++ [a]) O b ↔ Hid (fun b => X b ∨ b = a) ρ O b := by
    unfold Hid
    simp only [List.mem_append, List.mem_singleton]
    constructor
    · rintro (h | (h | h) | h)
      · exact .inl (.inl h)
      · exact .inr (.inl h)
      · exact .inl (.inr h)
      · exact .inr (.inr h)
    · rintro ((h | h) | h | h)
      · exact .inl h
      · exact .inr (.inl (.inr h))
      · exact .inr (.inl (.inl h))
      · exact .inr (.inr h)
  by_cases z : Hid X (ρ ++ [a]) O b
  · rw [if_pos z, if_pos (q.mp z)]
  · rw [if_neg z, if_neg (fun y => z (q.mpr y))]
theorem FreshAt.live (f : FreshAt K X ρ O H ρ' O' s' σ H' a o) : SR K X (ρ' ++ [a]) O' ⟨s'.env, s'.G ++ [o]⟩ σ H' := by
  have p : Pre ρ' (ρ' ++ [a]) := Pre.app _ _
  have vx : Ex (view (fun b => X b ∨ b = a) ρ' O' H') (view X (ρ' ++ [a]) O' H') := by rw [view_live]; exact Ex.refl _
  have S := f.S
  have na : a ∉ ρ' := fun q => S.xρ a q (.inr rfl)
  refine ⟨fun b hb => S.xo b (.inl hb), S.len, by simp [S.gl], ?_, fun b hb q => ?_, fun i b hb => ⟨fun q => (S.oX i b hb).1 (.inl q), fun q => ?_⟩, S.oi, S.ol, fun i x hx => ?_, fun n q hq => ?_⟩
  · exact List.nodup_append.mpr ⟨S.nd, by simp, fun x hx y hy => by
      have : y = a := by simpa using hy
      subst this
      exact fun e => na (e ▸ hx)⟩
  · rcases List.mem_append.mp hb with hb | hb
    · exact S.xρ b hb (.inl q)
    · have : b = a := by simpa using hb
      subst this; exact f.nX q
  · rcases List.mem_append.mp q with q | q
    · exact (S.oX i b hb).2 q
    · have : b = a := by simpa using q
      subst this; exact (S.oX i b hb).1 (.inr rfl)
  · have z := S.sl i x hx
    cases x with
    | un => exact z
    | sh m => obtain ⟨h1, w, h2, h3⟩ := z; exact ⟨h1, w, h2, h3.mono p vx⟩
    | ow ms => obtain ⟨a, us, h1, h2, h3, h4⟩ := z; exact ⟨a, us, h1, h2, h3, h4.mono p vx⟩
  · have cs : (n < s'.G.length ∧ s'.G[n]? = some q) ∨ (n = s'.G.length ∧ q = o) := by
      have hn := (List.getElem?_eq_some_iff.mp hq).1
      simp at hn
      by_cases h : n < s'.G.length
      · rw [List.getElem?_append_left h] at hq; exact .inl ⟨h, hq⟩
      · have e : n = s'.G.length := by omega
        subst e
        rw [List.getElem?_append_right (Nat.le_refl _)] at hq
        simp at hq
        exact .inr ⟨rfl, hq.symm⟩
    rcases cs with ⟨hn, hq⟩ | ⟨rfl, rfl⟩
    · obtain ⟨b, h1, z⟩ := S.ob n q hq
      refine ⟨b, p n b h1, ?_⟩
      cases q with
      | lst ms => obtain ⟨us, h2, h3⟩ := z; exact ⟨us, h2, h3.mono p vx⟩
      | ins c ks ms => obtain ⟨dx, fs, h2, h3, h4⟩ := z; exact ⟨dx, fs, h2, h3, h4.mono p vx⟩
      | dic ms => obtain ⟨fs, h2, h3, h4⟩ := z; exact ⟨fs, h2, h3, h4.mono p vx⟩
      | lck od fs ms => obtain ⟨h2, h3, h4⟩ := z; exact ⟨h2, h3, h4.mono p vx⟩
    · refine ⟨a, by rw [← S.gl, List.getElem?_append_right (Nat.le_refl _)]; simp, ?_⟩
      have z := f.ob
      cases q with
      | lst ms => obtain ⟨us, h2, h3⟩ := z; exact ⟨us, h2, h3.mono p vx⟩
      | ins c ks ms => obtain ⟨dx, fs, h2, h3, h4⟩ := z; exact ⟨dx, fs, h2, h3, h4.mono p vx⟩
      | dic ms => obtain ⟨fs, h2, h3, h4⟩ := z; exact ⟨fs, h2, h3, h4.mono p vx⟩
      | lck od fs ms => obtain ⟨h2, h3, h4⟩ := z; exact ⟨h2, h3, h4.mono p vx⟩
theorem sim_live {te : TE} {m : LM} (h : SimN K W te m) : SimE K W te (mLive m) := by
  intro X ρ O s σ H Q S p
  refine h X ρ O s σ H Q S ?_
  unfold mLive at p
  cases e : m s with
  | ok o s1 =>
    rw [e] at p
    intro ρ1 O1 H1 a f
    refine p (ρ1 ++ [a]) O1 H1 _ f.live ⟨f.pre.trans (Pre.app _ _), ?_, f.xs⟩ (.ref ?_)
    · rw [view_live]; exact f.ex
    · rw [← f.S.gl, List.getElem?_append_right (Nat.le_refl _)]; simp
  | exc c s1 => rw [e] at p; exact p
  | stuck => rw [e] at p; exact p
end
theorem wipe_idem (σ : St) (vs : List Nat) : L2.wipe (L2.wipe σ vs) vs = L2.wipe σ vs := by
  apply List.ext_getElem?
  intro j
  by_cases hj : j ∈ vs
  · cases h : (L2.wipe (L2.wipe σ vs) vs)[j]? with
    | none =>
      have := List.getElem?_eq_none_iff.mp h
      rw [wipe_length, wipe_length] at this
      rw [List.getElem?_eq_none (by rw [wipe_length]; exact this)]
    | some z =>
      cases h2 : (L2.wipe σ vs)[j]? with
      | none =>
        have := List.getElem?_eq_none_iff.mp h2
        rw [wipe_length] at this
        have h3 := (List.getElem?_eq_some_iff.mp h).1
        rw [wipe_length, wipe_length] at h3
        omega
      | some z2 =>
        cases z with
        | some v => exact absurd hj (wipe_some h).2
        | none => cases z2 with
          | some v => exact absurd hj (wipe_some h2).2
          | none => rfl
  · rw [wipe_out hj]
abbrev W0 : WX := fun _ _ _ _ => False
theorem sf_lc {K : KA} {W : WX} {wi : TI} {mi : AM} {ts vs : List Nat} {g : TG} {mg : GM} {tt : TT} {mt : TM} {te : TE} {me : EM} (hi : SimI K W wi mi) (hg : SimG K ts g mg) (ht : SimT K W0 tt mt) (he : SimE K W0 te me) (hts : ∀ i ∈ ts, i ∈ vs) :
    SimN K W (tLc wi g tt te vs) (mLcL mi vs mg mt me) := by
  intro X ρ O s σ H Q S p
  refine hi X ρ O s σ H _ S ?_
  unfold mLcL at p
  cases ei : mi s with
  | stuck => rw [ei] at p; exact p.elim
  | exc c s1 => rw [ei] at p; exact p
  | ok xs s1 =>
    rw [ei] at p
    intro ρ1 O1 H1 J S1 F1 wk D hD
    have p1 : PostN K X W ρ1 O1 H1 σ (lcEndF mg mt me vs xs s1) Q := p.later F1
    clear p
    unfold lcEndF at p1
    by_cases hz : lim xs.length
    case neg => rw [if_neg hz] at p1; exact p1.elim
    rw [if_pos hz] at p1
    by_cases hn : noOw s1.env vs = true
    case neg => rw [if_neg hn] at p1; exact p1.elim
    rw [if_pos hn] at p1
    cases er : lcM mg mt me vs (wipeE s1.env vs) xs [] s1.G with
    | stuck => simp only [er] at p1; exact p1.elim
    | exc c s2 => simp only [er] at p1; exact p1.elim
    | ok ys sF =>
      simp only [er] at p1
      obtain ⟨O2, S2, F2⟩ := (S1.hide hD (.lst [])).wipe vs
      have v12 : Ex (view X ρ1 O1 H1) (view (fun b => X b ∨ b = D) ρ1 O2 (upd H1 D (.lst []))) := by
        have := F2.ex; rw [view_hide hD] at this; exact this
      refine ⟨fun i m H' => m = xs.length - i ∧ i ≤ xs.length ∧ ∃ ρ' O' G' acc accv, H' D = some (.lst accv) ∧ Reps ρ' K (view (fun b => X b ∨ b = D) ρ' O' H') acc accv ∧ acc.length ≤ i ∧
          SR K (fun b => X b ∨ b = D) ρ' O' ⟨wipeE s1.env vs, G'⟩ (L2.wipe σ vs) H' ∧ Pre ρ1 ρ' ∧ Ex (view X ρ1 O1 H1) (view (fun b => X b ∨ b = D) ρ' O' H') ∧ (∀ b o, X b → H1 b = some o → H' b = some o) ∧
          lcM mg mt me vs (wipeE s1.env vs) (xs.drop i) acc G' = .ok ys sF,
        ⟨xs.length, by simp, Nat.zero_le _, ρ1, O2, s1.G, [], [], upd_same, .nil, Nat.le_refl _, S2, Pre.refl _, v12, fun b o hb e => Ex.new hD b o e, er⟩, ?_⟩
      rintro i m H2 ⟨rfl, hi', ρ2, O2, G2, acc, accv, hd2, ra, hl2, S2, q2, v2, x2, e2⟩
      have e02 : Ex (view X ρ1 O1 H1) H2 := v2.trans (view_le _ _ _ _)
      by_cases hlt : i < xs.length
      · refine .inr ⟨wk.go i H2 e02 hlt, fun H' => i + 1 ≤ xs.length ∧ ∃ ρ' O' G' acc accv, H' D = some (.lst accv) ∧ Reps ρ' K (view (fun b => X b ∨ b = D) ρ' O' H') acc accv ∧ acc.length ≤ i + 1 ∧
            SR K (fun b => X b ∨ b = D) ρ' O' ⟨wipeE s1.env vs, G'⟩ (L2.wipe σ vs) H' ∧ Pre ρ1 ρ' ∧ Ex (view X ρ1 O1 H1) (view (fun b => X b ∨ b = D) ρ' O' H') ∧ (∀ b o, X b → H1 b = some o → H' b = some o) ∧
            lcM mg mt me vs (wipeE s1.env vs) (xs.drop (i + 1)) acc G' = .ok ys sF, fun H' h => ⟨xs.length - (i + 1), by omega, rfl, h⟩, fun x H3 y => ?_⟩
        obtain ⟨e23, m, hm, rep⟩ := wk.yld i H2 x H3 e02 hlt y
        have r3 := rep _ ρ2 O2 _ _ S2 q2 v2
        have hd : xs.drop i = m :: xs.drop (i + 1) := by
          rw [List.drop_eq_getElem_cons hlt]
          rw [List.getElem?_eq_getElem hlt] at hm
          rw [Option.some.inj hm]
        rw [hd] at e2
        unfold lcM lcOne at e2
        cases eg : mg m ⟨wipeE s1.env vs, G2⟩ with
        | none => simp only [eg] at e2; cases e2
        | some s3 =>
          simp only [eg] at e2
          have S3 := S2.grow e23
          refine hg _ ρ2 O2 _ _ H3 m x s3 _ S3 r3 eg fun O4 σ4 S4 F4 T4 => ?_
          have tw : L2.wipe σ4 vs = L2.wipe σ vs := (T4 vs hts).trans (wipe_idem σ vs)
          refine ⟨tw, ?_⟩
          have F24 : Fut (fun b => X b ∨ b = D) ρ2 O2 H2 ρ2 O4 H3 := (Fut.grow e23).trans F4
          refine ht _ ρ2 O4 s3 σ4 H3 _ S4 ?_
          cases et : mt s3 with
          | stuck => simp only [et, R.bind_stuck] at e2; cases e2
          | exc c s5 => simp only [et, R.bind_exc] at e2; cases e2
          | ok b s5 =>
            simp only [et, R.bind_ok] at e2
            intro ρ5 O5 H5 S5 F5
            have F25 := F24.trans F5
            cases b with
            | false =>
              simp only [Bool.false_eq_true, if_false] at e2 ⊢
              by_cases hw : wipeE s5.env vs = wipeE s1.env vs
              · rw [if_pos hw] at e2
                simp only at e2
                obtain ⟨O6, S6, F6⟩ := S5.wipe vs
                have F26 := F25.trans F6
                rw [hw, tw] at S6
                exact ⟨hlt, ρ5, O6, s5.G, acc, accv, F26.xs D _ (.inr rfl) hd2, F26.reps ra, by omega, S6, q2.trans F26.pre, v2.trans F26.ex, fun b o hb e => F26.xs b o (.inl hb) (x2 b o hb e), e2⟩
              · rw [if_neg hw] at e2; cases e2
            | true =>
              simp only [if_true] at e2 ⊢
              refine he _ ρ5 O5 s5 σ4 H5 _ S5 ?_
              cases ee : me s5 with
              | stuck => simp only [ee, R.bind_stuck] at e2; cases e2
              | exc c s7 => simp only [ee, R.bind_exc] at e2; cases e2
              | ok y s7 =>
                simp only [ee, R.bind_ok] at e2
                intro ρ7 O7 H7 v S7 F7 r7
                have F27 := F25.trans F7
                by_cases hw : wipeE s7.env vs = wipeE s1.env vs
                · rw [if_pos hw] at e2
                  simp only at e2
                  obtain ⟨O8, S8, F8⟩ := S7.wipe vs
                  have F28 := F27.trans F8
                  rw [hw, tw] at S8
                  have hd7 := F28.xs D _ (.inr rfl) hd2
                  have la : accv.length = acc.length := ra.length.symm
                  refine ⟨accv, hd7, ?_, hlt, ρ7, O8, s7.G, acc ++ [y], accv ++ [v], upd_same, ?_, by simp; omega, S8.put _, q2.trans F28.pre, ?_, fun b o hb e => ?_, e2⟩
                  · have hz' : xs.length ≤ 16777216 := hz
                    rw [sizeLine_eq, la]
                    omega
                  · rw [view_put]
                    exact (F28.reps ra).append (.cons (F8.rep r7) .nil)
                  · rw [view_put]; exact v2.trans F28.ex
                  · have h7 := F28.xs b o (.inl hb) (x2 b o hb e)
                    have ne : b ≠ D := fun q => by
                      subst q
                      rw [hD] at e; cases e
                    rw [upd_ne ne]; exact h7
                · rw [if_neg hw] at e2; cases e2
      · have e : i = xs.length := by omega
        subst e
        rw [List.drop_length] at e2
        unfold lcM at e2
        cases e2
        refine .inl ⟨wk.stop H2 e02, ?_⟩
        have SB := S1.backH hn q2 v2 S2
        refine p1 ρ2 O2 H2 D ⟨SB, fun q => ?_, ⟨accv, hd2, ra⟩, q2, v2, x2⟩
        obtain ⟨o, ho⟩ := S1.xo D q
        rw [hD] at ho; cases ho
theorem lcEnd_eq {g : GM} {t : TM} {e : EM} {vs : List Nat} {xs : List MV} {s : MS} : ((lcEndF g t e vs xs s).bind fun o s1 => match o with
  | .dic _ => R.stuck
  | .lck _ _ _ => R.stuck
  | o => R.ok (frzM o) s1) = lcEnd g t e vs xs s := by
  unfold lcEndF lcEnd
  split
  · split
    · cases lcM g t e vs (wipeE s.env vs) xs [] s.G <;> rfl
    · rfl
  · rfl
theorem se_lc {K : KA} {W : WX} {wi : TI} {mi : AM} {ts vs : List Nat} {g : TG} {mg : GM} {tt : TT} {mt : TM} {te : TE} {me : EM} (hi : SimI K W wi mi) (hg : SimG K ts g mg) (ht : SimT K W0 tt mt) (he : SimE K W0 te me) (hts : ∀ i ∈ ts, i ∈ vs) :
    SimE K W (tLc wi g tt te vs) (mLcF mi vs mg mt me) := by
  have h := sim_frz (sf_lc (K := K) (W := W) hi hg ht he hts)
  have e : mFrz (mLcL mi vs mg mt me) = mLcF mi vs mg mt me := by
    funext s
    unfold mFrz mLcL mLcF
    cases mi s with
    | ok xs s1 => exact lcEnd_eq
    | exc c s1 => rfl
    | stuck => rfl
  rw [e] at h
  exact h
structure PQM (ct : String → Addr) (X : Cx) (W : WX) (e : List Expr) (te : TT) (m : TM) : Prop where
  pe : PTs X e te
  sim : SimT ⟨X.K, ct⟩ W te m
section
variable {ct : String → Addr} {X : Cx} {W : WX} {e : Expr} {tt : TT} {mt : TM}
theorem q_nil : PQM ct X W [] tYes qYes := ⟨pts_nil, fun X ρ O s σ H Q S p => p ρ O H S Fut.refl⟩
theorem q_one (h : PTM ct X W e tt mt) : PQM ct X W [e] tt mt := ⟨pts_one h.pe, h.sim⟩
abbrev blkX (X : Cx) (scope : Scope) (s : Shared) (H : Hp) (C : Addr) (cl : List (Str × Addr)) (fp : List Addr) : Cx := X.blk s H scope (compEnvC scope cl C X.env) fp
/-- what every derivation of the element asks: the transformer is free of the block's start -/
def eAll (ct : String → Addr) (X : Cx) (scope : Scope) (elt : Expr) (me : EM) : TE := fun σ H Q => ∀ s H0 C cl fp te, PEM ct (blkX X scope s H0 C cl fp) W0 elt te me → te σ H Q
def qAll (ct : String → Addr) (X : Cx) (scope : Scope) (ifs : List Expr) (mt : TM) : TT := fun σ H Q => ∀ s H0 C cl fp te, PQM ct (blkX X scope s H0 C cl fp) W0 ifs te mt → te σ H Q
def gAll (ct : String → Addr) (X : Cx) (scope : Scope) (tg : Expr) (ts : List Nat) (mg : GM) : TG := fun v σ H Q => ∀ s H0 C cl fp g, PGM ct (blkX X scope s H0 C cl fp) tg ts g mg → g v σ H Q
variable {scope : Scope} {elt tg iter : Expr} {ifs : List Expr} {mg : GM} {me : EM} {ts : List Nat}
theorem eAll_pe (h : ∀ s H C cl fp, ∃ te, PEM ct (blkX X scope s H C cl fp) W0 elt te me) (s : Shared) (H : Hp) (C : Addr) (cl : List (Str × Addr)) (fp : List Addr) : PE (blkX X scope s H C cl fp) elt (eAll ct X scope elt me) := by
  obtain ⟨te, P⟩ := h s H C cl fp
  exact ⟨fun pins s1 σ H1 Q I w => P.pe.run pins s1 σ H1 Q I (w s H C cl fp te P)⟩
theorem qAll_pe (h : ∀ s H C cl fp, ∃ te, PQM ct (blkX X scope s H C cl fp) W0 ifs te mt) (s : Shared) (H : Hp) (C : Addr) (cl : List (Str × Addr)) (fp : List Addr) : PTs (blkX X scope s H C cl fp) ifs (qAll ct X scope ifs mt) := by
  obtain ⟨te, P⟩ := h s H C cl fp
  exact ⟨fun pins s1 σ H1 Q I w => P.pe.run pins s1 σ H1 Q I (w s H C cl fp te P)⟩
theorem gAll_pe (h : ∀ s H C cl fp, ∃ g, PGM ct (blkX X scope s H C cl fp) tg ts g mg) (s : Shared) (H : Hp) (C : Addr) (cl : List (Str × Addr)) (fp : List Addr) : PG (blkX X scope s H C cl fp) tg (gAll ct X scope tg ts mg) := by
  obtain ⟨g, P⟩ := h s H C cl fp
  exact ⟨fun pins s1 σ H1 v u Q I rv w => P.pe.run pins s1 σ H1 v u Q I rv (w s H C cl fp g P)⟩
theorem eAll_sim : SimE ⟨X.K, ct⟩ W0 (eAll ct X scope elt me) me := fun Xh ρ O s σ H Q S p s0 H0 C cl fp te P => P.sim Xh ρ O s σ H Q S p
theorem qAll_sim : SimT ⟨X.K, ct⟩ W0 (qAll ct X scope ifs mt) mt := fun Xh ρ O s σ H Q S p s0 H0 C cl fp te P => P.sim Xh ρ O s σ H Q S p
theorem gAll_sim : SimG ⟨X.K, ct⟩ ts (gAll ct X scope tg ts mg) mg := fun Xh ρ O s σ H x v s' Q S r e k s0 H0 C cl fp g P => P.sim Xh ρ O s σ H x v s' Q S r e k
theorem e_lc {own : List (Str × Nat)} {pos : Pos} {wi : TI} {mi : AM}
    (hN : X.N.Nodup) (hi : PIM ct X W tg iter wi mi) (ok : BlkOk X.N X.env.scope scope own)
    (hg : ∀ s H C cl fp, ∃ g, PGM ct (blkX X scope s H C cl fp) tg ts g mg) (ht : ∀ s H C cl fp, ∃ te, PQM ct (blkX X scope s H C cl fp) W0 ifs te mt)
    (he : ∀ s H C cl fp, ∃ te, PEM ct (blkX X scope s H C cl fp) W0 elt te me) (hc : X.calm = true := by rfl) (hts : ∀ i ∈ ts, i ∈ own.map (·.2) := by decide) (hs : ∀ x, foldedSetIterable iter X.env x = pure x := by intro _; rfl) :
    PEM ct X W (.ListComp elt [⟨tg, iter, ifs, 0⟩] scope pos) (tLc wi (gAll ct X scope tg ts mg) (qAll ct X scope ifs mt) (eAll ct X scope elt me) (own.map (·.2))) (mLcF mi (own.map (·.2)) mg mt me) :=
  ⟨pe_lc hc hN hi.pe ok (gAll_pe hg) (qAll_pe ht) (eAll_pe he) hs, se_lc hi.sim gAll_sim qAll_sim eAll_sim hts⟩
theorem s_setLc (i : Nat) {own : List (Str × Nat)} {y : Str} {py : Pos} {pos spos : Pos} {wi : TI} {mi : AM}
    (hN : X.N.Nodup) (hi : PIM ct X W tg iter wi mi) (ok : BlkOk X.N X.env.scope scope own)
    (hg : ∀ s H C cl fp, ∃ g, PGM ct (blkX X scope s H C cl fp) tg ts g mg) (ht : ∀ s H C cl fp, ∃ te, PQM ct (blkX X scope s H C cl fp) W0 ifs te mt)
    (he : ∀ s H C cl fp, ∃ te, PEM ct (blkX X scope s H C cl fp) W0 elt te me) (hc : X.calm = true := by rfl) (hts : ∀ i ∈ ts, i ∈ own.map (·.2) := by decide) (hs : ∀ x, foldedSetIterable iter X.env x = pure x := by intro _; rfl)
    (hy : X.N[i]? = some y := by rfl) (hyl : X.env.scope.names.lookup y = some .local := by rfl) (hk : X.env.scope.kind = .function := by rfl) (hl : (py.line == pos.line) = true := by rfl) (he2 : spos.line = spos.line := by rfl) (ha : (scope.names.any fun (n, k) => n == y && (k == .local || k == .cell)) = false := by rfl) :
    PSM ct X W (.Assign [.Name y py] (.ListComp elt [⟨tg, iter, ifs, 0⟩] scope pos) spos) (tAsg (tLc wi (gAll ct X scope tg ts mg) (qAll ct X scope ifs mt) (eAll ct X scope elt me) (own.map (·.2))) (gName i)) (mAsg (gSet i) (mLcF mi (own.map (·.2)) mg mt me)) :=
  ⟨ps_setLc hc hN hy hyl (sw_true hk hyl hl ha) hi.pe ok (gAll_pe hg) (qAll_pe ht) (eAll_pe he) hs,
   ss_asg (se_lc hi.sim gAll_sim qAll_sim eAll_sim hts) (sg_name i)⟩
end
/-- every element alike: none raises, none changes anything -/
theorem lcM_map {g : GM} {t : TM} {e : EM} {vs : List Nat} {E0 : List SV} {G : MHeap} (f : MV → MV) : ∀ (xs acc : List MV), (∀ x ∈ xs, ∃ s, lcOne g t e vs E0 x G = .ok (some (f x)) s ∧ s.G = G) → lcM g t e vs E0 xs acc G = .ok (acc ++ xs.map f) ⟨E0, G⟩
  | [], acc, _ => by unfold lcM; simp
  | x :: xs, acc, h => by
    obtain ⟨s, h1, h2⟩ := h x (by simp)
    unfold lcM
    rw [h1]
    simp only
    rw [h2, lcM_map f xs (acc ++ [f x]) (fun y hy => h y (by simp [hy]))]
    simp
end M

namespace M
open PySem L2
open Classical

/-! ## equality of data -/
inductive Shp : Nat → MV → Prop
  | non {n : Nat} : Shp n .non
  | bl {n : Nat} {b : Bool} : Shp n (.bl b)
  | int {n : Nat} {i : Int} : Shp n (.int i)
  | str {n : Nat} {s : Str} : PyData.strOk s = true → Shp n (.str s)
  | lst {n : Nat} {xs : List MV} : (∀ x ∈ xs, Shp n x) → Shp (n + 1) (.lst xs)
  | tup {n : Nat} {xs : List MV} : (∀ x ∈ xs, Shp n x) → Shp (n + 1) (.tup xs)
theorem shp_all {n : Nat} : ∀ {xs : List MV}, (∀ x ∈ xs, ∃ d, toD x = some d ∧ PyData.canLay0 d = true ∧ d.depth ≤ n) → ∃ ds, toDs xs = some ds ∧ PyData.canLayAll0 ds = true ∧ PyData.depthAll ds ≤ n
  | [], _ => ⟨[], rfl, rfl, Nat.zero_le _⟩
  | x :: xs, h => by
    obtain ⟨d, h1, h2, h3⟩ := h x (by simp)
    obtain ⟨ds, g1, g2, g3⟩ := shp_all (xs := xs) fun y hy => h y (by simp [hy])
    refine ⟨d :: ds, by simp only [toDs, h1, g1], by simp only [PyData.canLayAll0, h2, g2, Bool.and_self], ?_⟩
    simp only [PyData.depthAll]; omega
theorem Shp.get {n : Nat} {x : MV} (h : Shp n x) : ∃ d, toD x = some d ∧ PyData.canLay0 d = true ∧ d.depth ≤ n := by
  induction h with
  | non => exact ⟨_, rfl, rfl, by simp [PyData.depth]⟩
  | bl => exact ⟨_, rfl, rfl, by simp [PyData.depth]⟩
  | int => exact ⟨_, rfl, rfl, by simp [PyData.depth]⟩
  | str h => exact ⟨_, rfl, by simp only [PyData.canLay0, h], by simp [PyData.depth]⟩
  | lst _ ih =>
    obtain ⟨ds, h1, h2, h3⟩ := shp_all ih
    exact ⟨.list ds, by simp only [toD, h1, Option.map_some], by simp only [PyData.canLay0, h2], by simp only [PyData.depth]; omega⟩
  | tup _ ih =>
    obtain ⟨ds, h1, h2, h3⟩ := shp_all ih
    exact ⟨.tuple ds, by simp only [toD, h1, Option.map_some], by simp only [PyData.canLay0, h2], by simp only [PyData.depth]; omega⟩
theorem Shp.shaped {x : MV} (h : Shp 64 x) : ∃ d, toD x = some d ∧ SeqAt.shaped d = true ∧ PyData.eqv d d = true := by
  obtain ⟨d, h1, h2, h3⟩ := h.get
  exact ⟨d, h1, by simp [SeqAt.shaped, h2, h3], SeqAt.eqv_refl d h2⟩
theorem oEq_refl {x : MV} {s : MS} (h : Shp 64 x) : oEq x x s = .ok (.bl true) s := by
  obtain ⟨d, h1, h2, h3⟩ := h.shaped
  unfold oEq
  simp only [h1, h2, and_self, if_true, h3]
theorem oNe_refl {x : MV} {s : MS} (h : Shp 64 x) : oNe x x s = .ok (.bl false) s := by
  obtain ⟨d, h1, h2, h3⟩ := h.shaped
  unfold oNe
  simp only [h1, h2, and_self, if_true, h3, Bool.not_true]
theorem shp_ints {n : Nat} (ns : List Int) : Shp (n + 1) (.lst (ns.map MV.int)) := .lst fun x hx => by
  obtain ⟨i, _, rfl⟩ := List.mem_map.mp hx
  exact .int
theorem toDs_ints : ∀ ns : List Int, toDs (ns.map MV.int) = some (ns.map PyData.int)
  | [] => rfl
  | n :: ns => by simp only [List.map_cons, toDs, toD, toDs_ints ns]
theorem ints_eqv : ∀ ns ms : List Int, PyData.eqvAll (ns.map PyData.int) (ms.map PyData.int) = decide (ns = ms)
  | [], [] => by simp [PyData.eqvAll]
  | [], m :: ms => by simp [PyData.eqvAll]
  | n :: ns, [] => by simp [PyData.eqvAll]
  | n :: ns, m :: ms => by simp [PyData.eqvAll, PyData.eqv, ints_eqv ns ms, Bool.beq_eq_decide_eq, Bool.decide_and]
theorem shaped_ints (ns : List Int) : SeqAt.shaped (.list (ns.map PyData.int)) = true := by
  obtain ⟨d, h1, h2, _⟩ := (shp_ints (n := 63) ns).shaped
  simp only [toD, toDs_ints, Option.map_some] at h1
  cases h1; exact h2
theorem oEq_ints {ns ms : List Int} {s : MS} : oEq (.lst (ns.map MV.int)) (.lst (ms.map MV.int)) s = .ok (.bl (decide (ns = ms))) s := by
  unfold oEq
  simp only [toD, toDs_ints, Option.map_some, shaped_ints, and_self, if_true, PyData.eqv, ints_eqv]
theorem oNe_ints {ns ms : List Int} {s : MS} : oNe (.lst (ns.map MV.int)) (.lst (ms.map MV.int)) s = .ok (.bl (!decide (ns = ms))) s := by
  unfold oNe
  simp only [toD, toDs_ints, Option.map_some, shaped_ints, and_self, if_true, PyData.eqv, ints_eqv]
/-! ## lists of whole numbers -/
theorem oMul_rep {xs : List MV} {k : Nat} {s : MS} (h : repOk xs.length k) : oMul (.lst xs) (.int k) s = .ok (.lst (List.replicate k xs).flatten) s := by
  unfold oMul; simp only [if_pos h, Int.toNat_natCast]
theorem rep_one {k : Nat} {i : Int} : (List.replicate k [MV.int i]).flatten = (List.replicate k i).map MV.int := by
  induction k with
  | zero => rfl
  | succ k ih => simp [List.replicate_succ, ih]
theorem cutG_map {α β : Type} (f : α → β) (xs : List α) (lo hi : Option Int) : cutG (xs.map f) lo hi = (cutG xs lo hi).map f := by
  unfold cutG; simp [List.map_drop, List.map_take]
theorem oSl_lst {xs : List MV} {lo hi : Option Int} {s : MS} : oSl (.lst xs) lo hi s = .ok (.lst (cutG xs lo hi)) s := rfl
theorem oSl_scr {xs : List MV} {lo hi : Option Int} {s : MS} : oSl (.scr xs) lo hi s = .ok (.lst (cutG xs lo hi)) s := rfl
theorem cutG_to {α : Type} (xs : List α) {k : Int} (h : 0 ≤ k) : cutG xs none (some k) = xs.take k.toNat := by
  obtain ⟨n, rfl⟩ := Int.eq_ofNat_of_zero_le h
  unfold cutG
  show (xs.drop 0).take (HT.sIx xs.length xs.length (some (n : Int)) - 0) = xs.take (n : Int).toNat
  rw [HT.sIx_nat, List.drop_zero, Nat.sub_zero, Int.toNat_natCast]
  rcases Nat.le_total n xs.length with q | q
  · rw [Nat.min_eq_left q]
  · rw [Nat.min_eq_right q, List.take_length, List.take_of_length_le q]
theorem cutG_from {α : Type} (xs : List α) {k : Int} (h : 0 ≤ k) : cutG xs (some k) none = xs.drop k.toNat := by
  obtain ⟨n, rfl⟩ := Int.eq_ofNat_of_zero_le h
  unfold cutG
  show (xs.drop (HT.sIx xs.length 0 (some (n : Int)))).take (xs.length - HT.sIx xs.length 0 (some (n : Int))) = xs.drop (n : Int).toNat
  rw [HT.sIx_nat, Int.toNat_natCast]
  rcases Nat.le_total n xs.length with q | q
  · rw [Nat.min_eq_left q, List.take_of_length_le (by simp)]
  · rw [Nat.min_eq_right q, List.drop_eq_nil_of_le q, List.drop_length, List.take_nil]
theorem cutG_mem {α : Type} {xs : List α} {lo hi : Option Int} {x : α} (h : x ∈ cutG xs lo hi) : x ∈ xs := List.mem_of_mem_drop (List.mem_of_mem_take h)
theorem cutG_len {α : Type} (xs : List α) (lo hi : Option Int) : (cutG xs lo hi).length ≤ xs.length := by
  unfold cutG; rw [List.length_take, List.length_drop]; omega
theorem lcEnd_map {g : GM} {t : TM} {e : EM} {vs : List Nat} {xs : List MV} {s : MS} (f : MV → MV) (hl : lim xs.length) (hn : noOw s.env vs = true) (h : ∀ x ∈ xs, ∃ s', lcOne g t e vs (wipeE s.env vs) x s.G = .ok (some (f x)) s' ∧ s'.G = s.G) : lcEnd g t e vs xs s = .ok (.lst (xs.map f)) s := by
  unfold lcEnd
  rw [if_pos hl, if_pos hn, lcM_map f xs [] h, List.nil_append]
theorem lcEnd_ints {g : GM} {t : TM} {e : EM} {vs : List Nat} {ns : List Int} {s : MS} (f : Int → MV) (hl : ns.length ≤ 16777216) (hn : noOw s.env vs = true) (h : ∀ n ∈ ns, ∃ s', lcOne g t e vs (wipeE s.env vs) (.int n) s.G = .ok (some (f n)) s' ∧ s'.G = s.G) : lcEnd g t e vs (ns.map MV.int) s = .ok (.lst (ns.map f)) s := by
  have := lcEnd_map (g := g) (t := t) (e := e) (vs := vs) (xs := ns.map MV.int) (s := s) (fun m => match m with
    | .int n => f n
    | _ => .non) (by rw [List.length_map]; exact hl) hn fun x hx => by
      obtain ⟨n, hn, rfl⟩ := List.mem_map.mp hx
      exact h n hn
  rw [this, List.map_map]
  rfl
theorem zipM_ints : ∀ ns ms : List Int, zipM (ns.map MV.int) (ms.map MV.int) = (ns.zip ms).map fun p => MV.tup [.int p.1, .int p.2]
  | [], ms => by simp [zipM]
  | n :: ns, [] => by simp [zipM]
  | n :: ns, m :: ms => by simp [zipM, zipM_ints ns ms]
theorem oEq_nil {ns : List Int} {s : MS} : oEq (.lst (ns.map MV.int)) (.lst []) s = .ok (.bl (decide (ns = []))) s := oEq_ints (ms := [])
theorem oNe_nil {ns : List Int} {s : MS} : oNe (.lst (ns.map MV.int)) (.lst []) s = .ok (.bl (!decide (ns = []))) s := oNe_ints (ms := [])
end M

namespace M
open PySem L2
open Classical

/-! ## lists just made -/
def lstN (c : Prop) [Decidable c] (xs : List MV) : LM := fun s => if c then .ok (.lst xs) s else .stuck
noncomputable def nLst : List MV → LM := fun xs s => if lim xs.length then .ok (.lst xs) s else .stuck
noncomputable def mLstN (a : AM) : LM := fun s => (a s).bind nLst
theorem nLst_ok {xs : List MV} {s : MS} (h : xs.length ≤ 16777216) : nLst xs s = .ok (.lst xs) s := if_pos h
def nList : List MV → LM := fun xs s => match xs with
  | [.lst xs] => .ok (.lst xs) s
  | [.scr xs] => .ok (.lst xs) s
  | [.tup xs] => .ok (.lst xs) s
  | [.ref n] => (match s.G[n]? with
    | some (.lst xs) => .ok (.lst xs) s
    | _ => .stuck)
  | _ => .stuck
noncomputable def nAdd : MV → MV → LM := fun x y s => match x, y with
  | .lst xs, .lst ys => if lim (xs.length + ys.length) then .ok (.lst (xs ++ ys)) s else .stuck
  | _, _ => .stuck
noncomputable def nMul : MV → MV → LM := fun x y s => match x, y with
  | .lst xs, .int k => if repOk xs.length k then .ok (.lst (List.replicate k.toNat xs).flatten) s else .stuck
  | _, _ => .stuck
def nSl (x : MV) (lo hi : Option Int) : LM := fun s => match x with
  | .lst xs => .ok (.lst (cutG xs lo hi)) s
  | .scr xs => .ok (.lst (cutG xs lo hi)) s
  | _ => .stuck
theorem nSl_lst {xs : List MV} {lo hi : Option Int} {s : MS} : nSl (.lst xs) lo hi s = .ok (.lst (cutG xs lo hi)) s := rfl
theorem nSl_scr {xs : List MV} {lo hi : Option Int} {s : MS} : nSl (.scr xs) lo hi s = .ok (.lst (cutG xs lo hi)) s := rfl
theorem nAdd_lst {xs ys : List MV} {s : MS} (h : xs.length + ys.length ≤ 16777216) : nAdd (.lst xs) (.lst ys) s = .ok (.lst (xs ++ ys)) s := by unfold nAdd; simp only [if_pos (show lim (xs.length + ys.length) from h)]
theorem nMul_rep {xs : List MV} {k : Nat} {s : MS} (h : repOk xs.length k) : nMul (.lst xs) (.int k) s = .ok (.lst (List.replicate k xs).flatten) s := by
  unfold nMul; simp only [if_pos h, Int.toNat_natCast]
def mArgN (f : List MV → LM) (a : AM) : LM := fun s => (a s).bind fun xs s1 => f xs s1
def mBinN (f : MV → MV → LM) (a b : EM) : LM := fun s => (a s).bind fun x s1 => (b s1).bind fun y s2 => f x y s2
def mSlN (e : EM) (l h : OM) : LM := fun s => (e s).bind fun x s1 => (l s1).bind fun lo s2 => (h s2).bind fun hi s3 => nSl x lo hi s3
section
variable {K : KA} {X : Addr → Prop} {W : WX} {ρ ρ' : List Addr} {O O' : Nat → Option Addr} {s s' : MS} {σ : St} {H H' : Hp}
theorem SimE.bindN {te : TE} {m : EM} (h : SimE K W te m) (S : SR K X ρ O s σ H) {f : MV → MS → R MO} {Q : VK} (p : PostN K X W ρ O H σ ((m s).bind f) Q) {Q' : VK}
    (k : ∀ x s1 ρ1 O1 H1 v, SR K X ρ1 O1 s1 σ H1 → Fut X ρ O H ρ1 O1 H1 → Rep ρ1 K (view X ρ1 O1 H1) x v → PostN K X W ρ1 O1 H1 σ (f x s1) Q → Q' v H1) : te σ H Q' := by
  refine h X ρ O s σ H Q' S ?_
  cases e : m s with
  | ok x s1 => rw [e] at p; intro a b c d S' F r; exact k x s1 a b c d S' F r (p.later F)
  | exc c s1 => rw [e] at p; exact p
  | stuck => rw [e] at p; exact p
theorem SimA.bindN {te : TA} {m : AM} (h : SimA K W te m) (S : SR K X ρ O s σ H) {f : List MV → MS → R MO} {Q : VK} (p : PostN K X W ρ O H σ ((m s).bind f) Q) {Q' : List V → Hp → Prop}
    (k : ∀ x s1 ρ1 O1 H1 v, SR K X ρ1 O1 s1 σ H1 → Fut X ρ O H ρ1 O1 H1 → Reps ρ1 K (view X ρ1 O1 H1) x v → PostN K X W ρ1 O1 H1 σ (f x s1) Q → Q' v H1) : te σ H Q' := by
  refine h X ρ O s σ H Q' S ?_
  cases e : m s with
  | ok x s1 => rw [e] at p; intro a b c d S' F r; exact k x s1 a b c d S' F r (p.later F)
  | exc c s1 => rw [e] at p; exact p
  | stuck => rw [e] at p; exact p
theorem SimO.bindN {te : TO} {m : OM} (h : SimO K W te m) (S : SR K X ρ O s σ H) {f : Option Int → MS → R MO} {Q : VK} (p : PostN K X W ρ O H σ ((m s).bind f) Q) {Q' : Option Int → Hp → Prop}
    (k : ∀ x s1 ρ1 O1 H1, SR K X ρ1 O1 s1 σ H1 → Fut X ρ O H ρ1 O1 H1 → PostN K X W ρ1 O1 H1 σ (f x s1) Q → Q' x H1) : te σ H Q' := by
  refine h X ρ O s σ H Q' S ?_
  cases e : m s with
  | ok x s1 => rw [e] at p; intro a b c S' F; exact k x s1 a b c S' F (p.later F)
  | exc c s1 => rw [e] at p; exact p
  | stuck => rw [e] at p; exact p
theorem PostN.grown {ms : List MV} {vs : List V} {Q : VK} {a : Addr} (p : PostN K X W ρ O H σ (.ok (.lst ms) s) Q) (S : SR K X ρ O s σ H) (n : H a = none) (r : Reps ρ K (view X ρ O H) ms vs) : Q (.ref a) (upd H a (.lst vs)) :=
  p ρ O _ a (FreshAt.mkL S Fut.refl n r)
end
section
variable {K : KA} {W : WX} {ta tb te : TE} {ma mb me : EM} {tr : TA} {mr : AM}
theorem sn_lst (hr : SimA K W tr mr) : SimN K W (tLst tr) (mLstN mr) := by
  intro X ρ O s σ H Q S p
  refine hr.bindN S p fun x s1 ρ1 O1 H1 v S1 F1 r1 p1 => ?_
  unfold nLst at p1
  by_cases hl : lim x.length
  · rw [if_pos hl] at p1
    exact ⟨by rw [← r1.length, sizeLine_eq]; exact hl, fun a ha => p1.grown S1 ha r1⟩
  · rw [if_neg hl] at p1; exact p1.elim
theorem sn_list (hr : SimA K W tr mr) : SimN K W (tCB (rListA K.F) tr) (mArgN nList mr) := by
  intro X ρ O s σ H Q S p
  refine hr.bindN S p fun x s1 ρ1 O1 H1 v S1 F1 r1 p1 => ?_
  cases r1 with
  | nil => exact p1.elim
  | cons r1 rr => cases rr with
    | cons _ _ => cases r1 <;> exact p1.elim
    | nil => cases r1 with
      | lst hx rx => exact ⟨_, _, rfl, .inl (sqlv hx), fun q hq => p1.grown S1 hq rx⟩
      | scr hx rx => exact ⟨_, _, rfl, .inl (sql_ex (view_le _ _ _ _) hx), fun q hq => p1.grown S1 hq rx⟩
      | tup hx rx => exact ⟨_, _, rfl, .inr (sqt_ex (view_le _ _ _ _) hx), fun q hq => p1.grown S1 hq rx⟩
      | ref hn =>
        rename_i n a
        unfold nList at p1
        cases g : s1.G[n]? with
        | none => simp only [g] at p1; exact p1.elim
        | some o => cases o with
          | ins c ks vs => simp only [g] at p1; exact p1.elim
          | dic ms => simp only [g] at p1; exact p1.elim
          | lck od fs ms => simp only [g] at p1; exact p1.elim
          | lst xs =>
            simp only [g] at p1
            obtain ⟨vs, hx, rx⟩ := S1.refL hn g
            exact ⟨_, _, rfl, .inl (.inl (.inl hx)), fun q hq => p1.grown S1 hq rx⟩
      | _ => exact p1.elim
theorem sn_add (ha : SimE K W ta ma) (hb : SimE K W tb mb) : SimN K W (tOp rAddAll ta tb) (mBinN nAdd ma mb) := by
  intro X ρ O s σ H Q S p
  refine ha.bindN S p fun x s1 ρ1 O1 H1 v S1 F1 r1 p1 => ?_
  refine hb.bindN S1 p1 fun y s2 ρ2 O2 H2 u S2 F2 r2 p2 => ?_
  have r1 := F2.rep r1
  cases r1 with
  | lst hx rx => cases r2 with
    | lst hy ry =>
      rename_i a xs vs b ys us
      unfold nAdd at p2
      by_cases h : lim (xs.length + ys.length)
      · simp only [if_pos h] at p2
        exact .inr (.inr ⟨a, b, vs, us, rfl, rfl, (view_some.mp hx).2, (view_some.mp hy).2, by rw [← rx.length, ← ry.length, sizeLine_eq]; exact h, fun q hq => p2.grown S2 hq (rx.append ry)⟩)
      · simp only [if_neg h] at p2; exact p2.elim
    | _ => exact p2.elim
  | _ => cases r2 <;> exact p2.elim
theorem sn_mul (ha : SimE K W ta ma) (hb : SimE K W tb mb) : SimN K W (tOp rMulAll ta tb) (mBinN nMul ma mb) := by
  intro X ρ O s σ H Q S p
  refine ha.bindN S p fun x s1 ρ1 O1 H1 v S1 F1 r1 p1 => ?_
  refine hb.bindN S1 p1 fun y s2 ρ2 O2 H2 u S2 F2 r2 p2 => ?_
  have r1 := F2.rep r1
  cases r1 with
  | lst hx rx => cases r2 with
    | int k =>
      rename_i a xs vs
      unfold nMul at p2
      by_cases h : repOk xs.length k
      · simp only [if_pos h] at p2
        exact .inr ⟨a, k, vs, rfl, rfl, (view_some.mp hx).2, by have := h.2.2; omega, by have := h.1; omega, by rw [← rx.length, sizeLine_eq]; exact h.2.1, fun q hq => p2.grown S2 hq (rx.rep k.toNat)⟩
      · simp only [if_neg h] at p2; exact p2.elim
    | _ => exact p2.elim
  | _ => cases r2 <;> exact p2.elim
theorem sn_sl {tl th : TO} {ml mh : OM} (he : SimE K W te me) (hl : SimO K W tl ml) (hh : SimO K W th mh) : SimN K W (tSl (rSlA K.F) te tl th) (mSlN me ml mh) := by
  intro X ρ O s σ H Q S p
  refine he.bindN S p fun x s1 ρ1 O1 H1 v S1 F1 r1 p1 => ?_
  refine hl.bindN S1 p1 fun lo s2 ρ2 O2 H2 S2 F2 p2 => ?_
  refine hh.bindN S2 p2 fun hi s3 ρ3 O3 H3 S3 F3 p3 => ?_
  have r3 := (F2.trans F3).rep r1
  cases r3 with
  | lst hx rx => exact .inl ⟨_, _, rfl, sqlv hx, fun q hq => p3.grown S3 hq (rx.cut lo hi)⟩
  | scr hx rx => exact .inl ⟨_, _, rfl, sql_ex (view_le _ _ _ _) hx, fun q hq => p3.grown S3 hq (rx.cut lo hi)⟩
  | _ => exact p3.elim
end
structure PNM (ct : String → Addr) (X : Cx) (W : WX) (e : Expr) (te : TE) (m : LM) : Prop where
  pe : PE X e te
  sim : SimN ⟨X.K, ct⟩ W te m

/-! ## own lists -/
def seO (O : Nat → Option Addr) (i : Nat) (a : Addr) : Nat → Option Addr := fun j => if j = i then some a else O j
def mSetO (i : Nat) (m : LM) : SM := fun s => (m s).bind fun o s1 => match o with
  | .lst xs => if i < s1.env.length then .ok .nx ⟨s1.env.set i (.ow xs), s1.G⟩ else .stuck
  | _ => .stuck
noncomputable def mApp (i : Nat) (me : EM) : SM := fun s => match s.env[i]? with
  | some (.ow _) => (me s).bind fun x s1 => (match s1.env[i]? with
    | some (.ow xs) => if xs.length < 16777216 then .ok .nx ⟨s1.env.set i (.ow (xs ++ [x])), s1.G⟩ else .stuck
    | _ => .stuck)
  | _ => .stuck
/-- reading an own list: from here on no one writes it -/
def mVarF (i : Nat) : EM := fun s => match s.env[i]? with
  | some (.ow xs) => .ok (.lst xs) ⟨s.env.set i (.sh (.lst xs)), s.G⟩
  | some (.sh x) => .ok x s
  | _ => .stuck
noncomputable def mLenO (i : Nat) : EM := fun s => match s.env[i]? with
  | some (.ow xs) => .ok (.int xs.length) s
  | some (.sh x) => bLen [x] s
  | _ => .stuck
noncomputable def mIxO (i : Nat) (me : EM) : EM := fun s => match s.env[i]? with
  | some (.ow _) => (me s).bind fun k s1 => (match s1.env[i]? with
    | some (.ow xs) => oIdx (.lst xs) k s1
    | _ => .stuck)
  | some (.sh x) => (me s).bind fun k s1 => oIdx x k s1
  | _ => .stuck
section
variable {K : KA} {X : Addr → Prop} {ρ ρ' : List Addr} {O O' : Nat → Option Addr} {s s' : MS} {σ σ' : St} {H H' : Hp}
theorem view_own {i : Nat} {a : Addr} : Ex (view (fun b => X b ∨ b = a) ρ O H) (view X ρ (seO O i a) H) := fun b o e => by
  obtain ⟨h1, h2⟩ := view_some.mp e
  refine view_some.mpr ⟨fun q => h1 ?_, h2⟩
  rcases q with q | q | ⟨j, q⟩
  · exact .inl (.inl q)
  · exact .inr (.inl q)
  · unfold seO at q
    by_cases e : j = i
    · rw [if_pos e] at q; cases q; exact .inl (.inr rfl)
    · rw [if_neg e] at q; exact .inr (.inr ⟨j, q⟩)
/-- slot i takes an own list -/
theorem FreshAt.own {xs : List MV} {a : Addr} (f : FreshAt K X ρ O H ρ' O' s' σ H' a (.lst xs)) {i : Nat} (hi : i < s'.env.length) :
    SR K X ρ' (seO O' i a) ⟨s'.env.set i (.ow xs), s'.G⟩ (σ.set i (some (.ref a))) H' ∧ Fut X ρ O H ρ' (seO O' i a) H' := by
  have S := f.S
  have vx : Ex (view (fun b => X b ∨ b = a) ρ' O' H') (view X ρ' (seO O' i a) H') := view_own
  refine ⟨⟨fun b hb => S.xo b (.inl hb), by simp [S.len], S.gl, S.nd, fun b hb q => S.xρ b hb (.inl q), fun j b h => ?_, fun j k b h1 h2 => ?_, fun j h => ?_, fun j y h => ?_, fun n o h => ?_⟩, f.pre, f.ex.trans vx, f.xs⟩
  · unfold seO at h
    by_cases e : j = i
    · rw [if_pos e] at h; cases h; exact ⟨f.nX, fun q => S.xρ a q (.inr rfl)⟩
    · rw [if_neg e] at h; exact ⟨fun q => (S.oX j b h).1 (.inl q), (S.oX j b h).2⟩
  · unfold seO at h1 h2
    by_cases e : j = i
    · rw [if_pos e] at h1; cases h1
      by_cases e2 : k = i
      · rw [e, e2]
      · rw [if_neg e2] at h2; exact absurd (.inr rfl) (S.oX k a h2).1
    · rw [if_neg e] at h1
      by_cases e2 : k = i
      · rw [if_pos e2] at h2; cases h2; exact absurd (.inr rfl) (S.oX j a h1).1
      · rw [if_neg e2] at h2; exact S.oi j k b h1 h2
  · have hj : s'.env.length ≤ j := by simpa using h
    unfold seO
    rw [if_neg (by omega)]
    exact S.ol j hj
  · by_cases e : i = j
    · subst e
      rw [List.getElem?_set_self hi] at h
      cases h
      obtain ⟨vs, h1, h2⟩ := f.ob
      exact ⟨a, vs, by unfold seO; rw [if_pos rfl], by rw [List.getElem?_set_self (by rw [← S.len]; exact hi)], h1, h2.mono (Pre.refl _) vx⟩
    · have eo : seO O' i a j = O' j := by unfold seO; rw [if_neg (fun q => e q.symm)]
      rw [List.getElem?_set_ne e] at h
      have z := S.sl j y h
      rw [List.getElem?_set_ne e, eo]
      cases y with
      | un => exact z
      | sh m => obtain ⟨h1, w, h2, h3⟩ := z; exact ⟨h1, w, h2, h3.mono (Pre.refl _) vx⟩
      | ow ms => obtain ⟨b, vs, h1, h2, h3, h4⟩ := z; exact ⟨b, vs, h1, h2, h3, h4.mono (Pre.refl _) vx⟩
  · obtain ⟨b, h1, z⟩ := S.ob n o h
    refine ⟨b, h1, ?_⟩
    cases o with
    | lst ms => obtain ⟨vs, h2, h3⟩ := z; exact ⟨vs, h2, h3.mono (Pre.refl _) vx⟩
    | ins c ks ms => obtain ⟨dx, fs, h2, h3, h4⟩ := z; exact ⟨dx, fs, h2, h3, h4.mono (Pre.refl _) vx⟩
    | dic ms => obtain ⟨fs, h2, h3, h4⟩ := z; exact ⟨fs, h2, h3, h4.mono (Pre.refl _) vx⟩
    | lck od fs ms => obtain ⟨h2, h3, h4⟩ := z; exact ⟨h2, h3, h4.mono (Pre.refl _) vx⟩
/-- an own list is written -/
theorem SR.setOw (S : SR K X ρ O s σ H) {i : Nat} {a : Addr} {ms : List MV} {vs : List V} (hO : O i = some a) (hi : i < s.env.length) (hσ : σ[i]? = some (some (.ref a))) (r : Reps ρ K (view X ρ O H) ms vs) :
    SR K X ρ O ⟨s.env.set i (.ow ms), s.G⟩ σ (upd H a (.lst vs)) ∧ Fut X ρ O H ρ O (upd H a (.lst vs)) := by
  have nX := S.oX i a hO
  have ev : view X ρ O (upd H a (.lst vs)) = view X ρ O H := by
    funext b
    unfold view
    by_cases e : b = a
    · subst e
      have q : Hid X ρ O b := .inr (.inr ⟨i, hO⟩)
      rw [if_pos q, if_pos q]
    · rw [upd_ne e]
  have vx : Ex (view X ρ O H) (view X ρ O (upd H a (.lst vs))) := by rw [ev]; exact Ex.refl _
  refine ⟨⟨fun b hb => ?_, by simp [S.len], S.gl, S.nd, S.xρ, S.oX, S.oi, fun j h => S.ol j (by simpa using h), fun j y h => ?_, fun n o h => ?_⟩, Pre.refl _, vx, fun b o hb e => ?_⟩
  · by_cases e : b = a
    · subst e; exact ⟨_, upd_same⟩
    · rw [upd_ne e]; exact S.xo b hb
  · by_cases e : i = j
    · subst e
      rw [List.getElem?_set_self hi] at h
      cases h
      exact ⟨a, vs, hO, hσ, upd_same, r.mono (Pre.refl _) vx⟩
    · rw [List.getElem?_set_ne e] at h
      have z := S.sl j y h
      cases y with
      | un => exact z
      | sh m => obtain ⟨h1, w, h2, h3⟩ := z; exact ⟨h1, w, h2, h3.mono (Pre.refl _) vx⟩
      | ow ns =>
        obtain ⟨b, us, h1, h2, h3, h4⟩ := z
        have ne : b ≠ a := fun q => e (S.oi i j a hO (q ▸ h1))
        exact ⟨b, us, h1, h2, by rw [upd_ne ne]; exact h3, h4.mono (Pre.refl _) vx⟩
  · obtain ⟨b, h1, z⟩ := S.ob n o h
    have ne : b ≠ a := fun q => nX.2 (q ▸ List.mem_iff_getElem?.mpr ⟨n, h1⟩)
    refine ⟨b, h1, ?_⟩
    cases o with
    | lst ms => obtain ⟨us, h2, h3⟩ := z; exact ⟨us, by rw [upd_ne ne]; exact h2, h3.mono (Pre.refl _) vx⟩
    | ins c ks ms => obtain ⟨dx, fs, h2, h3, h4⟩ := z; exact ⟨dx, fs, by rw [upd_ne ne]; exact h2, h3, h4.mono (Pre.refl _) vx⟩
    | dic ms => obtain ⟨fs, h2, h3, h4⟩ := z; exact ⟨fs, by rw [upd_ne ne]; exact h2, h3, h4.mono (Pre.refl _) vx⟩
    | lck od fs ms => obtain ⟨h2, h3, h4⟩ := z; exact ⟨by rw [upd_ne ne]; exact h2, h3, h4.mono (Pre.refl _) vx⟩
  · have ne : b ≠ a := fun q => nX.1 (q ▸ hb)
    rw [upd_ne ne]; exact e
/-- an own list is let go -/
theorem SR.freeze (S : SR K X ρ O s σ H) {i : Nat} {a : Addr} {ms : List MV} {vs : List V} (hO : O i = some a) (hσ : σ[i]? = some (some (.ref a))) (hH : H a = some (.lst vs)) (r : Reps ρ K (view X ρ O H) ms vs) :
    SR K X ρ (unO O i) ⟨s.env.set i (.sh (.lst ms)), s.G⟩ σ H ∧ Rep ρ K (view X ρ (unO O i) H) (.lst ms) (.ref a) := by
  have vx : Ex (view X ρ O H) (view X ρ (unO O i) H) := view_sub fun j b h => ⟨j, (unO_sub h).2⟩
  have hv : view X ρ (unO O i) H a = some (.lst vs) := view_some.mpr ⟨fun q => by
    rcases q with q | q | ⟨j, q⟩
    · exact (S.oX i a hO).1 q
    · exact (S.oX i a hO).2 q
    · obtain ⟨h1, h2⟩ := unO_sub q
      exact h1 (S.oi j i a h2 hO), hH⟩
  have rp : Rep ρ K (view X ρ (unO O i) H) (.lst ms) (.ref a) := .lst hv (r.mono (Pre.refl _) vx)
  refine ⟨⟨S.xo, by simp [S.len], S.gl, S.nd, S.xρ, fun j b h => S.oX j b (unO_sub h).2, fun j k b h1 h2 => S.oi j k b (unO_sub h1).2 (unO_sub h2).2, fun j h => ?_, fun j y h => ?_, fun n o h => ?_⟩, rp⟩
  · unfold unO
    split
    · rfl
    · exact S.ol j (by simpa using h)
  · by_cases e : i = j
    · subst e
      have hi : i < s.env.length := by
        have := (List.getElem?_eq_some_iff.mp h).1; simpa using this
      rw [List.getElem?_set_self hi] at h
      cases h
      exact ⟨by unfold unO; rw [if_pos rfl], _, hσ, rp⟩
    · have eo : unO O i j = O j := by unfold unO; rw [if_neg (fun q => e q.symm)]
      rw [List.getElem?_set_ne e] at h
      have z := S.sl j y h
      rw [eo]
      cases y with
      | un => exact z
      | sh m => obtain ⟨h1, w, h2, h3⟩ := z; exact ⟨h1, w, h2, h3.mono (Pre.refl _) vx⟩
      | ow ms => obtain ⟨b, vs, h1, h2, h3, h4⟩ := z; exact ⟨b, vs, h1, h2, h3, h4.mono (Pre.refl _) vx⟩
  · obtain ⟨b, h1, z⟩ := S.ob n o h
    refine ⟨b, h1, ?_⟩
    cases o with
    | lst ms => obtain ⟨vs, h2, h3⟩ := z; exact ⟨vs, h2, h3.mono (Pre.refl _) vx⟩
    | ins c ks ms => obtain ⟨dx, fs, h2, h3, h4⟩ := z; exact ⟨dx, fs, h2, h3, h4.mono (Pre.refl _) vx⟩
    | dic ms => obtain ⟨fs, h2, h3, h4⟩ := z; exact ⟨fs, h2, h3, h4.mono (Pre.refl _) vx⟩
    | lck od fs ms => obtain ⟨h2, h3, h4⟩ := z; exact ⟨h2, h3, h4.mono (Pre.refl _) vx⟩
end
section
variable {K : KA} {W : WX} {te : TE} {me : EM}
theorem sim_varF (i : Nat) : SimE K W (tVar i) (mVarF i) := by
  intro X ρ O s σ H Q S p
  unfold mVarF at p
  cases e : s.env[i]? with
  | none => rw [e] at p; exact p.elim
  | some z =>
    rw [e] at p
    have zz := S.sl i z e
    cases z with
    | un => exact p.elim
    | sh x => obtain ⟨_, v, h1, h2⟩ := zz; exact ⟨v, h1, p.done S h2⟩
    | ow xs =>
      obtain ⟨a, vs, h1, h2, h3, h4⟩ := zz
      obtain ⟨S2, r⟩ := S.freeze h1 h2 h3 h4
      exact ⟨_, h2, p ρ _ H _ S2 (fut_unO i) r⟩
theorem sqlh {F : PySem.W.Frag} {H : Hp} {a : Addr} {vs : List V} (h : H a = some (.lst vs)) : SqL F H a vs := .inl (.inl h)
theorem sim_lenO (i : Nat) : SimE K W (tCB (rLenA K.F) (tCons (tVar i) tNil)) (mLenO i) := by
  intro X ρ O s σ H Q S p
  unfold mLenO at p
  cases e : s.env[i]? with
  | none => rw [e] at p; exact p.elim
  | some z =>
    rw [e] at p
    have zz := S.sl i z e
    cases z with
    | un => exact p.elim
    | sh x => obtain ⟨_, v, h1, h2⟩ := zz; exact ⟨v, h1, sc_len X W ρ O s σ H [x] [v] Q S (.cons h2 .nil) p⟩
    | ow xs =>
      obtain ⟨a, vs, h1, h2, h3, h4⟩ := zz
      refine ⟨_, h2, .inl ⟨a, vs, rfl, .inl (sqlh h3), ?_⟩⟩
      rw [← h4.length]
      exact p.done S (.int _)
theorem sim_ixO (i : Nat) (h : SimE K W te me) : SimE K W (tOp (rIx K.F) (tVar i) te) (mIxO i me) := by
  intro X ρ O s σ H Q S p
  unfold mIxO at p
  cases e : s.env[i]? with
  | none => rw [e] at p; exact p.elim
  | some z =>
    rw [e] at p
    have zz := S.sl i z e
    cases z with
    | un => exact p.elim
    | sh x =>
      obtain ⟨_, v, h1, h2⟩ := zz
      refine ⟨v, h1, ?_⟩
      refine h.bindE S p fun y s1 ρ1 O1 H1 u S1 F1 r1 p1 => ?_
      exact so_idx X W ρ1 O1 s1 σ H1 x y v u Q S1 (F1.rep h2) r1 p1
    | ow xs0 =>
      obtain ⟨a, vs0, h1, h2, h3, h4⟩ := zz
      refine ⟨_, h2, ?_⟩
      refine h.bindE S p fun y s1 ρ1 O1 H1 u S1 F1 r1 p1 => ?_
      cases e1 : s1.env[i]? with
      | none => rw [e1] at p1; exact p1.elim
      | some z1 =>
        rw [e1] at p1
        have zz1 := S1.sl i z1 e1
        cases z1 with
        | un => exact p1.elim
        | sh x => exact p1.elim
        | ow xs =>
          obtain ⟨b, vs, g1, g2, g3, g4⟩ := zz1
          rw [h2] at g2
          have eb : a = b := by have := Option.some.inj (Option.some.inj g2); cases this; rfl
          subst eb
          cases r1 with
          | int k =>
            simp only [oIdx] at p1
            by_cases hk : 0 ≤ k
            · rw [if_pos hk] at p1
              cases ex : xs[k.toNat]? with
              | none => rw [ex] at p1; exact p1.elim
              | some m =>
                rw [ex] at p1
                obtain ⟨w, hw, rw'⟩ := g4.get ex
                exact .inl ⟨a, vs, k, w, rfl, rfl, sqlh g3, at_of (by omega) hw, p1.done S1 rw'⟩
            · rw [if_neg hk] at p1; exact p1.elim
          | _ => exact p1.elim
theorem ss_setO (i : Nat) {te : TE} {m : LM} (h : SimN K W te m) : SimS K W (tAsg te (gName i)) (mSetO i m) := by
  intro X ρ O s σ H D S p
  refine h X ρ O s σ H _ S ?_
  unfold mSetO at p
  cases e : m s with
  | stuck => rw [e] at p; exact p.elim
  | exc c s1 => rw [e] at p; intro a b c S' F; exact p a b σ c S' F
  | ok o s1 =>
    rw [e] at p
    cases o with
    | ins c ks vs => exact p.elim
    | dic ms => exact p.elim
    | lck od fs ms => exact p.elim
    | lst xs =>
      intro ρ1 O1 H1 a f
      dsimp only [R.bind_ok] at p
      by_cases hi : i < s1.env.length
      · rw [if_pos hi] at p
        obtain ⟨S2, F2⟩ := f.own hi
        exact p ρ1 _ _ H1 S2 F2
      · rw [if_neg hi] at p; exact p.elim
theorem ss_app (i : Nat) (h : SimE K W te me) : SimS K W (tDrop (tBM K.F "list" rAppend (tVar i) (tCons te tNil))) (mApp i me) := by
  intro X ρ O s σ H D S p
  unfold mApp at p
  cases e : s.env[i]? with
  | none => rw [e] at p; exact p.elim
  | some z =>
    rw [e] at p
    have zz := S.sl i z e
    cases z with
    | un => exact p.elim
    | sh x => exact p.elim
    | ow xs0 =>
      obtain ⟨a, vs0, h1, h2, h3, h4⟩ := zz
      refine ⟨_, h2, .inl ⟨rfl, _, sqlh h3⟩, ?_⟩
      refine h.bindS S p fun y s1 ρ1 O1 H1 u S1 F1 r1 p1 => ?_
      cases e1 : s1.env[i]? with
      | none => rw [e1] at p1; exact p1.elim
      | some z1 =>
        rw [e1] at p1
        have zz1 := S1.sl i z1 e1
        cases z1 with
        | un => exact p1.elim
        | sh x => exact p1.elim
        | ow xs =>
          obtain ⟨b, vs, g1, g2, g3, g4⟩ := zz1
          rw [h2] at g2
          have eb : a = b := by have := Option.some.inj (Option.some.inj g2); cases this; rfl
          subst eb
          dsimp only at p1
          by_cases hz : xs.length < 16777216
          · rw [if_pos hz] at p1
            refine ⟨a, vs, u, rfl, rfl, g3, by rw [← g4.length, sizeLine_eq]; exact hz, ?_⟩
            have hi := (List.getElem?_eq_some_iff.mp e1).1
            obtain ⟨S2, F2⟩ := S1.setOw g1 hi h2 (g4.append (.cons r1 .nil))
            exact p1 ρ1 O1 σ _ S2 F2
          · rw [if_neg hz] at p1; exact p1.elim
end
end M

namespace M
open PySem L2
open Classical

section
variable {ct : String → Addr} {X : Cx} {W : WX} {a b e : Expr} {es : List Expr} {ta tb te : TE} {ma mb me : EM} {tr : TA} {mr : AM} {m : LM} {pos p2 p : Pos} {lo hi : Option Expr} {tl th : TO} {ml mh : OM}
theorem f_lst (h : PAM ct X W es tr mr) : PNM ct X W (.List es pos) (tLst tr) (mLstN mr) := ⟨pe_lst h.pe, sn_lst h.sim⟩
theorem f_list {x : Str} (hm : X.mg x = none) (ha : PAM ct X W (e :: es) tr mr) (hg : Gl X x := by rfl) (hv : bootBuiltins x = some (.type "list") := by decide +kernel) (hn : x ≠ "__name__" := by decide) (hdb : (x == ("__debug__" : Str)) = false := by decide)
    (he : starEach (e :: es) X.env = (false, eval e X.env) :: starEach es X.env := by rfl) (hpl : (backTo pos (starEach es X.env)).any (·.1) = false := by rfl) : PNM ct X W (.Call (.Name x p) (e :: es) [] pos) (tCB (rListA X.K) tr) (mArgN nList mr) := ⟨pe_callTy call_list_of hg hm hv ha.pe hn hdb he hpl, sn_list ha.sim⟩
theorem f_add (ha : PEM ct X W a ta ma) (hb : PEM ct X W b tb mb) : PNM ct X W (.BinOp a .Add b pos) (tOp rAddAll ta tb) (mBinN nAdd ma mb) := ⟨pe_op op_addAll ha.pe hb.pe, sn_add ha.sim hb.sim⟩
theorem f_mult (ha : PEM ct X W a ta ma) (hb : PEM ct X W b tb mb) : PNM ct X W (.BinOp a .Mult b pos) (tOp rMulAll ta tb) (mBinN nMul ma mb) := ⟨pe_op op_mulAll ha.pe hb.pe, sn_mul ha.sim hb.sim⟩
theorem f_sl (h : PEM ct X W e te me) (hl : POM ct X W lo tl ml) (hh : POM ct X W hi th mh) : PNM ct X W (.Subscript e (.Slice lo hi none p2) pos) (tSl (rSlA X.K) te tl th) (mSlN me ml mh) := ⟨pe_slice sl_all h.pe hl.pe hh.pe, sn_sl h.sim hl.sim hh.sim⟩
/-- a new list others may write too -/
theorem e_live (h : PNM ct X W e te m) : PEM ct X W e te (mLive m) := ⟨h.pe, sim_live h.sim⟩
theorem e_varF (i : Nat) {x : Str} (hN : X.N[i]? = some x := by rfl) (hv : Vis X.env.scope x := by first | exact Or.inl rfl | exact Or.inr (Or.inl rfl) | exact Or.inr (Or.inr rfl)) (hd : (x == ("__debug__" : Str)) = false := by decide) (hcd : (x == ("__classdict__" : Str)) = false := by decide) :
    PEM ct X W (.Name x pos) (tVar i) (mVarF i) := ⟨pe_var hN hv hd hcd, sim_varF i⟩
theorem e_lenO (hm : X.mg "len" = none) (i : Nat) {x : Str} (hN : X.N[i]? = some x := by rfl) (hv : Vis X.env.scope x := by first | exact Or.inl rfl | exact Or.inr (Or.inl rfl) | exact Or.inr (Or.inr rfl)) (hd : (x == ("__debug__" : Str)) = false := by decide) (hcd : (x == ("__classdict__" : Str)) = false := by decide)
    (hg : Gl X "len" := by rfl) (he : starEach [.Name x p2] X.env = (false, eval (.Name x p2) X.env) :: starEach [] X.env := by rfl) (hpl : (backTo pos (starEach [] X.env)).any (·.1) = false := by rfl) :
    PEM ct X W (.Call (.Name "len" p) [.Name x p2] [] pos) (tCB (rLenA X.K) (tCons (tVar i) tNil)) (mLenO i) :=
  ⟨pe_callB call_lenA hg hm (by decide +kernel) (pa_cons (pe_var hN hv hd hcd) pa_nil he) (by decide) (by decide) he hpl, sim_lenO i⟩
theorem e_ixO (i : Nat) {x : Str} (hb : PEM ct X W b tb mb) (hN : X.N[i]? = some x := by rfl) (hv : Vis X.env.scope x := by first | exact Or.inl rfl | exact Or.inr (Or.inl rfl) | exact Or.inr (Or.inr rfl)) (hd : (x == ("__debug__" : Str)) = false := by decide) (hcd : (x == ("__classdict__" : Str)) = false := by decide) (hs : PlainIx b := by exact fun _ _ => rfl) :
    PEM ct X W (.Subscript (.Name x p2) b pos) (tOp (rIx X.K) (tVar i) tb) (mIxO i mb) := ⟨pe_ix ix_seq (pe_var hN hv hd hcd) hb.pe hs, sim_ixO i hb.sim⟩
theorem s_setO (i : Nat) {x : Str} (hN : X.N.Nodup) (h : PNM ct X W e te m) (hi : X.N[i]? = some x := by rfl) (hx : Loc X.env.scope x := by first | exact Or.inl rfl | exact Or.inr rfl) (hs : swapsWith e (some (.Name x p)) pos.line X.env = pure false := by rfl) (hf : X.fn x = true ∨ X.env.scope.names.lookup x = some .local := by first | exact .inl rfl | exact .inr rfl) :
    PSM ct X W (.Assign [.Name x p] e pos) (tAsg te (gName i)) (mSetO i m) := ⟨ps_set hN hi hx h.pe hs hf, ss_setO i h.sim⟩
theorem s_app (i : Nat) {x : Str} {apos spos : Pos} (h : PEM ct X W e te me) (hN : X.N[i]? = some x := by rfl) (hv : Vis X.env.scope x := by first | exact Or.inl rfl | exact Or.inr (Or.inl rfl) | exact Or.inr (Or.inr rfl)) (hd : (x == ("__debug__" : Str)) = false := by decide) (hcd : (x == ("__classdict__" : Str)) = false := by decide)
    (he : starEach [e] X.env = (false, eval e X.env) :: starEach [] X.env := by rfl)
    (hbase : attributeBase (.Name x p) "append" X.env (eval (.Name x p) X.env) = eval (.Name x p) X.env := by rfl)
    (hfew : ((backTo pos (starEach [e] X.env)).all (fun x => !x.1) && (backToKw pos (keywordEach [] X.env)).all (fun x => x.1.isSome)
      && decide ([e].length + ([] : List Keyword).length + (if ([] : List Keyword).isEmpty then 0 else 1) < 30)) = true := by rfl)
    (hline : (apos.endLine == pos.line) = true := by rfl) (hplain : (backTo pos (starEach [] X.env)).any (·.1) = false := by rfl)
    (hs : swapsWith (.Call (.Attribute (.Name x p) "append" apos) [e] [] pos) none spos.line X.env = pure false := by rfl) :
    PSM ct X W (.Expr (.Call (.Attribute (.Name x p) "append" apos) [e] [] pos) spos) (tDrop (tBM X.K "list" rAppend (tVar i) (tCons te tNil))) (mApp i me) :=
  ⟨ps_expr (pe_bm PySem.F.plainAttrs_list PySem.F.slot_list_append PySem.F.type_list_append mt_append (pe_var hN hv hd hcd) (pa_cons h.pe pa_nil he) hbase hfew hline he hplain) hs, ss_app i h.sim⟩
variable {scope : Scope} {elt tg iter : Expr} {ifs : List Expr} {mg : GM} {ts : List Nat} {mt : TM}
theorem f_lc {own : List (Str × Nat)} {pos : Pos} {wi : TI} {mi : AM}
    (hN : X.N.Nodup) (hi : PIM ct X W tg iter wi mi) (ok : BlkOk X.N X.env.scope scope own)
    (hg : ∀ s H C cl fp, ∃ g, PGM ct (blkX X scope s H C cl fp) tg ts g mg) (ht : ∀ s H C cl fp, ∃ te, PQM ct (blkX X scope s H C cl fp) W0 ifs te mt)
    (he : ∀ s H C cl fp, ∃ te, PEM ct (blkX X scope s H C cl fp) W0 elt te me) (hc : X.calm = true := by rfl) (hts : ∀ i ∈ ts, i ∈ own.map (·.2) := by decide) (hs : ∀ x, foldedSetIterable iter X.env x = pure x := by intro _; rfl) :
    PNM ct X W (.ListComp elt [⟨tg, iter, ifs, 0⟩] scope pos) (tLc wi (gAll ct X scope tg ts mg) (qAll ct X scope ifs mt) (eAll ct X scope elt me) (own.map (·.2))) (mLcL mi (own.map (·.2)) mg mt me) :=
  ⟨pe_lc hc hN hi.pe ok (gAll_pe hg) (qAll_pe ht) (eAll_pe he) hs, sf_lc hi.sim gAll_sim qAll_sim eAll_sim hts⟩
theorem s_setLcO (i : Nat) {own : List (Str × Nat)} {y : Str} {py : Pos} {pos spos : Pos} {wi : TI} {mi : AM}
    (hN : X.N.Nodup) (hi : PIM ct X W tg iter wi mi) (ok : BlkOk X.N X.env.scope scope own)
    (hg : ∀ s H C cl fp, ∃ g, PGM ct (blkX X scope s H C cl fp) tg ts g mg) (ht : ∀ s H C cl fp, ∃ te, PQM ct (blkX X scope s H C cl fp) W0 ifs te mt)
    (he : ∀ s H C cl fp, ∃ te, PEM ct (blkX X scope s H C cl fp) W0 elt te me) (hc : X.calm = true := by rfl) (hts : ∀ i ∈ ts, i ∈ own.map (·.2) := by decide) (hs : ∀ x, foldedSetIterable iter X.env x = pure x := by intro _; rfl)
    (hy : X.N[i]? = some y := by rfl) (hyl : X.env.scope.names.lookup y = some .local := by rfl) (hk : X.env.scope.kind = .function := by rfl) (hl : (py.line == pos.line) = true := by rfl) (ha : (scope.names.any fun (n, k) => n == y && (k == .local || k == .cell)) = false := by rfl) :
    PSM ct X W (.Assign [.Name y py] (.ListComp elt [⟨tg, iter, ifs, 0⟩] scope pos) spos) (tAsg (tLc wi (gAll ct X scope tg ts mg) (qAll ct X scope ifs mt) (eAll ct X scope elt me) (own.map (·.2))) (gName i)) (mSetO i (mLcL mi (own.map (·.2)) mg mt me)) :=
  ⟨ps_setLc hc hN hy hyl (sw_true hk hyl hl ha) hi.pe ok (gAll_pe hg) (qAll_pe ht) (eAll_pe he) hs,
   ss_setO i (sf_lc hi.sim gAll_sim qAll_sim eAll_sim hts)⟩
end
end M

namespace M
open PySem L2
open Classical

/-! ## live lists: equality, append -/
mutual
def toG (G : MHeap) : MV → Option PyData
  | .non => some .none
  | .bl b => some (.bool b)
  | .int i => some (.int i)
  | .str s => some (.str s)
  | .tup xs => (toGs G xs).map .tuple
  | .lst xs => (toGs G xs).map .list
  | .scr xs => (toGs G xs).map .list
  | .obj _ _ _ => none
  | .ref n => (match G[n]? with
    | some (.lst xs) => (toDs xs).map .list
    | _ => none)
  | .err _ => none
  | .dic => none
def toGs (G : MHeap) : List MV → Option (List PyData)
  | [] => some []
  | x :: xs => match toG G x, toGs G xs with
    | some d, some ds => some (d :: ds)
    | _, _ => none
end
noncomputable def oEqG : MV → MV → EM := fun x y s => match toG s.G x, toG s.G y with
  | some d, some e => if SeqAt.shaped d = true ∧ SeqAt.shaped e = true then .ok (.bl (PyData.eqv d e)) s else .stuck
  | _, _ => .stuck
noncomputable def oNeG : MV → MV → EM := fun x y s => match toG s.G x, toG s.G y with
  | some d, some e => if SeqAt.shaped d = true ∧ SeqAt.shaped e = true then .ok (.bl (!PyData.eqv d e)) s else .stuck
  | _, _ => .stuck
noncomputable def mAppL (mr me : EM) : SM := fun s => (mr s).bind fun r s0 => match r with
  | .ref n => (match s0.G[n]? with
    | some (.lst _) => (me s0).bind fun x s1 => (match s1.G[n]? with
      | some (.lst xs) => if xs.length < 16777216 then .ok .nx ⟨s1.env, s1.G.set n (.lst (xs ++ [x]))⟩ else .stuck
      | _ => .stuck)
    | _ => .stuck)
  | _ => .stuck
section
variable {K : KA} {X : Addr → Prop} {ρ ρ' : List Addr} {O O' : Nat → Option Addr} {s s' : MS} {σ σ' : L2.St} {H H' : Hp}
mutual
theorem toG_dp (S : SR K X ρ O s σ H) : ∀ {x : MV} {v : V} {d : PyData}, Rep ρ K (view X ρ O H) x v → toG s.G x = some d → Dp K.F H v d
  | _, _, _, .non, h => by simp only [toG] at h; cases h; exact .non
  | _, _, _, .bl b, h => by simp only [toG] at h; cases h; exact .bl b
  | _, _, _, .int i, h => by simp only [toG] at h; cases h; exact .int i
  | _, _, _, .str s, h => by simp only [toG] at h; cases h; exact .str s
  | .tup xs, _, d, .tup hs r, h => by
    rw [toG] at h
    obtain ⟨ds, h1, rfl⟩ := Option.map_eq_some_iff.mp h
    exact .tup (sqt_ex (view_le _ _ _ _) hs) (toGs_dp S r h1)
  | .lst xs, _, d, .lst hs r, h => by
    rw [toG] at h
    obtain ⟨ds, h1, rfl⟩ := Option.map_eq_some_iff.mp h
    exact .lst (sqlv hs) (toGs_dp S r h1)
  | .scr xs, _, d, .scr hs r, h => by
    rw [toG] at h
    obtain ⟨ds, h1, rfl⟩ := Option.map_eq_some_iff.mp h
    exact .lst (sql_ex (view_le _ _ _ _) hs) (toGs_dp S r h1)
  | _, _, _, .obj _ _ _, h => by simp only [toG] at h; cases h
  | .ref n, _, d, .ref hn, h => by
    rw [toG] at h
    cases g : s.G[n]? with
    | none => simp only [g] at h; cases h
    | some o => cases o with
      | ins c ks vs => simp only [g] at h; cases h
      | dic ms => simp only [g] at h; cases h
      | lck od fs ms => simp only [g] at h; cases h
      | lst ms =>
        simp only [g] at h
        obtain ⟨ds, h1, rfl⟩ := Option.map_eq_some_iff.mp h
        obtain ⟨us, hx, rx⟩ := S.refL hn g
        exact .lst (sqlh hx) (toDs_dp (view_le _ _ _ _) rx h1)
  | _, _, _, .err _, h => by simp only [toG] at h; cases h
  | _, _, _, .dic _, h => by simp only [toG] at h; cases h
theorem toGs_dp (S : SR K X ρ O s σ H) : ∀ {x : List MV} {v : List V} {d : List PyData}, Reps ρ K (view X ρ O H) x v → toGs s.G x = some d → DpAll K.F H v d
  | _, _, _, .nil, h => by simp only [toGs] at h; cases h; exact .nil
  | x :: xs, _, d, .cons r rs, h => by
    rw [toGs] at h
    cases e1 : toG s.G x with
    | none => simp only [e1] at h; cases h
    | some d1 =>
      cases e2 : toGs s.G xs with
      | none => simp only [e1, e2] at h; cases h
      | some d2 =>
        simp only [e1, e2] at h
        cases h
        exact .cons (toG_dp S r e1) (toGs_dp S rs e2)
end
/-- a live list is written -/
theorem SR.setG (S : SR K X ρ O s σ H) {n : Nat} {a : Addr} {ms : List MV} {vs : List V} (hn : ρ[n]? = some a) (r : Reps ρ K (view X ρ O H) ms vs) :
    SR K X ρ O ⟨s.env, s.G.set n (.lst ms)⟩ σ (upd H a (.lst vs)) ∧ Fut X ρ O H ρ O (upd H a (.lst vs)) := by
  have ha : a ∈ ρ := List.mem_iff_getElem?.mpr ⟨n, hn⟩
  have nX := S.xρ a ha
  have ev : view X ρ O (upd H a (.lst vs)) = view X ρ O H := by
    funext b
    unfold view
    by_cases e : b = a
    · subst e
      have q : Hid X ρ O b := .inr (.inl ha)
      rw [if_pos q, if_pos q]
    · rw [upd_ne e]
  have vx : Ex (view X ρ O H) (view X ρ O (upd H a (.lst vs))) := by rw [ev]; exact Ex.refl _
  refine ⟨⟨fun b hb => ?_, S.len, by simp [S.gl], S.nd, S.xρ, S.oX, S.oi, S.ol, fun j y h => ?_, fun k o h => ?_⟩, Pre.refl _, vx, fun b o hb e => ?_⟩
  · by_cases e : b = a
    · subst e; exact ⟨_, upd_same⟩
    · rw [upd_ne e]; exact S.xo b hb
  · have z := S.sl j y h
    cases y with
    | un => exact z
    | sh m => obtain ⟨h1, w, h2, h3⟩ := z; exact ⟨h1, w, h2, h3.mono (Pre.refl _) vx⟩
    | ow ns =>
      obtain ⟨b, us, h1, h2, h3, h4⟩ := z
      have ne : b ≠ a := fun q => (S.oX j b h1).2 (q ▸ ha)
      exact ⟨b, us, h1, h2, by rw [upd_ne ne]; exact h3, h4.mono (Pre.refl _) vx⟩
  · by_cases e : n = k
    · subst e
      have hl : n < s.G.length := by
        have := (List.getElem?_eq_some_iff.mp h).1; simpa using this
      have h : (s.G.set n (.lst ms))[n]? = some o := h
      rw [List.getElem?_set_self hl] at h
      cases h
      exact ⟨a, hn, vs, upd_same, r.mono (Pre.refl _) vx⟩
    · have h : (s.G.set n (.lst ms))[k]? = some o := h
      rw [List.getElem?_set_ne e] at h
      obtain ⟨b, h1, z⟩ := S.ob k o h
      have ne : b ≠ a := fun q => by
        subst q
        have i1 := List.getElem?_eq_some_iff.mp hn
        have i2 := List.getElem?_eq_some_iff.mp h1
        obtain ⟨l1, e1⟩ := i1
        obtain ⟨l2, e2⟩ := i2
        exact e ((List.getElem_inj S.nd).mp (e1.trans e2.symm))
      refine ⟨b, h1, ?_⟩
      cases o with
      | lst ms => obtain ⟨us, h2, h3⟩ := z; exact ⟨us, by rw [upd_ne ne]; exact h2, h3.mono (Pre.refl _) vx⟩
      | ins c ks ms => obtain ⟨dx, fs, h2, h3, h4⟩ := z; exact ⟨dx, fs, by rw [upd_ne ne]; exact h2, h3, h4.mono (Pre.refl _) vx⟩
      | dic ms => obtain ⟨fs, h2, h3, h4⟩ := z; exact ⟨fs, by rw [upd_ne ne]; exact h2, h3, h4.mono (Pre.refl _) vx⟩
      | lck od fs ms => obtain ⟨h2, h3, h4⟩ := z; exact ⟨by rw [upd_ne ne]; exact h2, h3, h4.mono (Pre.refl _) vx⟩
  · have ne : b ≠ a := fun q => nX (q ▸ hb)
    rw [upd_ne ne]; exact e
end
section
variable {K : KA} {W : WX} {ta te : TE} {ma me : EM}
theorem so_eqG : SimOp K (rEqD K.F) oEqG := by
  intro X W ρ O s σ H x y v u Q S rx ry p
  unfold oEqG at p
  cases e1 : toG s.G x with
  | none => simp only [e1] at p; exact p.elim
  | some d =>
    cases e2 : toG s.G y with
    | none => simp only [e1, e2] at p; exact p.elim
    | some e =>
      simp only [e1, e2] at p
      by_cases h : SeqAt.shaped d = true ∧ SeqAt.shaped e = true
      · rw [if_pos h] at p
        exact ⟨d, e, toG_dp S rx e1, toG_dp S ry e2, h.1, h.2, p.done S (.bl _)⟩
      · rw [if_neg h] at p; exact p.elim
theorem so_neG : SimOp K (rNeD K.F) oNeG := by
  intro X W ρ O s σ H x y v u Q S rx ry p
  unfold oNeG at p
  cases e1 : toG s.G x with
  | none => simp only [e1] at p; exact p.elim
  | some d =>
    cases e2 : toG s.G y with
    | none => simp only [e1, e2] at p; exact p.elim
    | some e =>
      simp only [e1, e2] at p
      by_cases h : SeqAt.shaped d = true ∧ SeqAt.shaped e = true
      · rw [if_pos h] at p
        exact ⟨d, e, toG_dp S rx e1, toG_dp S ry e2, h.1, h.2, p.done S (.bl _)⟩
      · rw [if_neg h] at p; exact p.elim
theorem ss_appL (hr : SimE K W ta ma) (h : SimE K W te me) : SimS K W (tDrop (tBM K.F "list" rAppend ta (tCons te tNil))) (mAppL ma me) := by
  intro X ρ O s σ H D S p
  refine hr.bindS S p fun r s0 ρ0 O0 H0 v S0 F0 r0 p0 => ?_
  cases r0 with
  | ref hn =>
    rename_i n a
    dsimp only at p0
    cases g : s0.G[n]? with
    | none => simp only [g] at p0; exact p0.elim
    | some o => cases o with
      | ins c ks vs => simp only [g] at p0; exact p0.elim
      | dic ms => simp only [g] at p0; exact p0.elim
      | lck od fs ms => simp only [g] at p0; exact p0.elim
      | lst ms0 =>
        simp only [g] at p0
        obtain ⟨vs0, hx0, _⟩ := S0.refL hn g
        refine ⟨.inl ⟨rfl, _, sqlh hx0⟩, ?_⟩
        refine h.bindS S0 p0 fun y s1 ρ1 O1 H1 u S1 F1 r1 p1 => ?_
        cases g1 : s1.G[n]? with
        | none => simp only [g1] at p1; exact p1.elim
        | some o => cases o with
          | ins c ks vs => simp only [g1] at p1; exact p1.elim
          | dic ms => simp only [g1] at p1; exact p1.elim
          | lck od fs ms => simp only [g1] at p1; exact p1.elim
          | lst xs =>
            simp only [g1] at p1
            have hn1 := F1.pre n a hn
            obtain ⟨vs, hx, rx⟩ := S1.refL hn1 g1
            by_cases hz : xs.length < 16777216
            · rw [if_pos hz] at p1
              refine ⟨a, vs, u, rfl, rfl, hx, by rw [← rx.length, sizeLine_eq]; exact hz, ?_⟩
              obtain ⟨S2, F2⟩ := S1.setG hn1 (rx.append (.cons r1 .nil))
              exact p1 ρ1 O1 σ _ S2 F2
            · rw [if_neg hz] at p1; exact p1.elim
  | _ => exact p0.elim
end
section
variable {ct : String → Addr} {X : Cx} {W : WX} {r e : Expr} {ta te : TE} {ma me : EM} {pos apos spos : Pos}
theorem s_appL (hr : PEM ct X W r ta ma) (h : PEM ct X W e te me)
    (he : starEach [e] X.env = (false, eval e X.env) :: starEach [] X.env := by rfl)
    (hbase : attributeBase r "append" X.env (eval r X.env) = eval r X.env := by rfl)
    (hfew : ((backTo pos (starEach [e] X.env)).all (fun x => !x.1) && (backToKw pos (keywordEach [] X.env)).all (fun x => x.1.isSome)
      && decide ([e].length + ([] : List Keyword).length + (if ([] : List Keyword).isEmpty then 0 else 1) < 30)) = true := by rfl)
    (hline : (apos.endLine == pos.line) = true := by rfl) (hplain : (backTo pos (starEach [] X.env)).any (·.1) = false := by rfl)
    (hs : swapsWith (.Call (.Attribute r "append" apos) [e] [] pos) none spos.line X.env = pure false := by rfl) :
    PSM ct X W (.Expr (.Call (.Attribute r "append" apos) [e] [] pos) spos) (tDrop (tBM X.K "list" rAppend ta (tCons te tNil))) (mAppL ma me) :=
  ⟨ps_expr (pe_bm PySem.F.plainAttrs_list PySem.F.slot_list_append PySem.F.type_list_append mt_append hr.pe (pa_cons h.pe pa_nil he) hbase hfew hline he hplain) hs, ss_appL hr.sim h.sim⟩
end
theorem bLen_ref {n : Nat} {s : MS} : bLen [.ref n] s = (match s.G[n]? with
    | some (.lst xs) => .ok (.int xs.length) s
    | _ => .stuck) := rfl
theorem oAdd_lref {xs : List MV} {n : Nat} {s : MS} : oAdd (.lst xs) (.ref n) s = (match s.G[n]? with
    | some (.lst ys) => oAdd (.lst xs) (.lst ys) s
    | _ => .stuck) := by
  simp only [oAdd]
  all_goals (
    generalize s.G[n]? = o
    cases o with
    | none => rfl
    | some o => cases o <;> rfl)
end M

namespace M
open PySem L2
open Classical

/-! ## loops by an invariant -/
theorem forM_inv {g : GM} {b : SM} (P : Nat → MS → Prop) : ∀ (xs : List MV) (k : Nat) (s : MS), P k s →
    (∀ i m s, xs[i]? = some m → P (k + i) s → ∃ s1 s2, g m s = some s1 ∧ b s1 = .ok .nx s2 ∧ P (k + i + 1) s2) → ∃ s', M.forM g b xs s = .ok .nx s' ∧ P (k + xs.length) s'
  | [], k, s, h, _ => ⟨s, rfl, h⟩
  | x :: xs, k, s, h, t => by
    obtain ⟨s1, s2, h1, h2, h3⟩ := t 0 x s rfl h
    obtain ⟨s', h4, h5⟩ := forM_inv P xs (k + 1) s2 h3 fun i m s hm hp => by
      have e : k + (i + 1) = k + 1 + i := by omega
      have := t (i + 1) m s (by simpa using hm) (by rw [e]; exact hp)
      rw [e] at this
      exact this
    refine ⟨s', ?_, ?_⟩
    · unfold M.forM
      simp only [h1, h2]
      exact h4
    · rw [List.length_cons, show k + (xs.length + 1) = k + 1 + xs.length by omega]; exact h5
theorem rangeM_at {lo c : Int} {n i : Nat} {m : MV} (h : (rangeM lo c n)[i]? = some m) : i < n ∧ m = .int (lo + i * c) := by
  unfold rangeM at h
  rw [List.getElem?_map] at h
  obtain ⟨k, h1, h2⟩ := Option.map_eq_some_iff.mp h
  have hk := List.getElem?_eq_some_iff.mp h1
  obtain ⟨l, e⟩ := hk
  rw [List.length_range] at l
  rw [List.getElem_range] at e
  subst e
  exact ⟨l, h2.symm⟩
theorem forM_range {g : GM} {b : SM} {lo c : Int} {n : Nat} {s : MS} (P : Nat → MS → Prop) (h0 : P 0 s) (t : ∀ (i : Nat) s, i < n → P i s → ∃ s1 s2, g (.int (lo + i * c)) s = some s1 ∧ b s1 = .ok .nx s2 ∧ P (i + 1) s2) :
    ∃ s', M.forM g b (rangeM lo c n) s = .ok .nx s' ∧ P n s' := by
  obtain ⟨s', h1, h2⟩ := forM_inv (g := g) (b := b) P (rangeM lo c n) 0 s h0 fun i m s hm hp => by
    obtain ⟨hi, rfl⟩ := rangeM_at hm
    rw [Nat.zero_add] at hp ⊢
    exact t i s hi hp
  rw [Nat.zero_add, rangeM_len] at h2
  exact ⟨s', h1, h2⟩
end M

namespace M
open PySem L2
open Classical

/-! ## fields -/
def fldAt (f : Str) : List Str → List MV → Option MV
  | k :: ks, v :: vs => if f = k then some v else fldAt f ks vs
  | _, _ => none
def putK (f : Str) : List Str → List Str
  | [] => [f]
  | g :: r => if g = f then g :: r else g :: putK f r
def putW (f : Str) (y : MV) : List Str → List MV → List MV
  | [], _ => [y]
  | _ :: _, [] => [y]
  | g :: r, v :: vs => if g = f then y :: vs else v :: putW f y r vs
def hasK (f : Str) (ks : List Str) : Bool := ks.any fun k => f == k
noncomputable def fldR (cs : List String) (f : Str) (o : Option MO) (s : MS) : R MV := match o with
  | some (.ins c ks vs) => if c ∈ cs then (match fldAt f ks vs with
    | some m => .ok m s
    | none => .stuck) else .stuck
  | _ => .stuck
noncomputable def oFld (cs : List String) (f : Str) : MV → EM := fun x s => match x with
  | .obj c ks vs => fldR cs f (some (.ins c ks vs)) s
  | .ref n => fldR cs f s.G[n]? s
  | _ => .stuck
theorem oFld_ref {cs : List String} {f : Str} {n : Nat} {s : MS} : oFld cs f (.ref n) s = fldR cs f s.G[n]? s := rfl
noncomputable def setR (cs : List String) (f : Str) (y : MV) (n : Nat) (o : Option MO) (s : MS) : R Fl := match o with
  | some (.ins c ks vs) => if c ∈ cs ∧ ks.length < 1000 then .ok .nx ⟨s.env, s.G.set n (.ins c (putK f ks) (putW f y ks vs))⟩ else .stuck
  | _ => .stuck
noncomputable def setX (cs : List String) (f : Str) (y x : MV) (s : MS) : R Fl := match x with
  | .ref n => setR cs f y n s.G[n]? s
  | _ => .stuck
theorem setX_ref {cs : List String} {f : Str} {y : MV} {n : Nat} {s : MS} : setX cs f y (.ref n) s = setR cs f y n s.G[n]? s := rfl
def FldI (ct : String → Addr) (K : PySem.W.Frag) (cs : List String) (f : Str) : Prop := ∀ c ∈ cs, Cls K (ct c) ∧ NoAttr K (ct c) f
theorem FldI.nil {ct : String → Addr} {K : PySem.W.Frag} {f : Str} : FldI ct K [] f := fun _ h => by cases h
theorem FldI.cons {ct : String → Addr} {K : PySem.W.Frag} {f : Str} {c : String} {cs : List String} (a : Cls K (ct c)) (b : NoAttr K (ct c) f) (r : FldI ct K cs f) : FldI ct K (c :: cs) f := fun d h => by
  rcases List.mem_cons.mp h with rfl | h
  · exact ⟨a, b⟩
  · exact r d h
noncomputable def mSetF (cs : List String) (f : Str) (me mo : EM) : SM := fun s => (me s).bind fun y s1 => (mo s1).bind fun x s2 => setX cs f y x s2
section
variable {ρ ρ' : List Addr} {K : KA} {H H' : Hp} {f : Str}
theorem fld_get : ∀ {fs : List (Str × V)} {ms : List MV} {m : MV}, fldAt f (fs.map (·.1)) ms = some m → Reps ρ K H ms (fs.map (·.2)) → ∃ v, fs.lookup f = some v ∧ Rep ρ K H m v
  | [], _, _, h, _ => by simp [fldAt] at h
  | (k, u) :: fs, _, m, h, .cons r rs => by
    rw [List.map_cons, fldAt] at h
    by_cases e : f = k
    · rw [if_pos e] at h
      cases h
      exact ⟨u, by rw [List.lookup_cons]; simp [e], r⟩
    · rw [if_neg e] at h
      obtain ⟨v, h1, h2⟩ := fld_get h rs
      exact ⟨v, by rw [List.lookup_cons, show (f == k) = false from beq_eq_false_iff_ne.mpr e]; exact h1, h2⟩
theorem hasK_none : ∀ {fs : List (Str × V)}, hasK f (fs.map (·.1)) = false → fs.lookup f = none
  | [], _ => rfl
  | (k, u) :: fs, h => by
    unfold hasK at h
    rw [List.map_cons, List.any_cons, Bool.or_eq_false_iff] at h
    rw [List.lookup_cons, h.1]
    exact hasK_none h.2
theorem putF_keys (u : V) : ∀ fs : List (Str × V), (putF f u fs).map (·.1) = putK f (fs.map (·.1))
  | [] => rfl
  | (k, x) :: fs => by
    rw [List.map_cons, putF, putK]
    by_cases e : k = f
    · rw [if_pos e, if_pos e]; rfl
    · rw [if_neg e, if_neg e, List.map_cons, putF_keys u fs]
theorem putF_reps {y : MV} {u : V} (r : Rep ρ K H y u) : ∀ {fs : List (Str × V)} {ms : List MV}, Reps ρ K H ms (fs.map (·.2)) → Reps ρ K H (putW f y (fs.map (·.1)) ms) ((putF f u fs).map (·.2))
  | [], _, _ => .cons r .nil
  | (k, x) :: fs, _, .cons q rs => by
    rw [List.map_cons, putF, putW]
    by_cases e : k = f
    · rw [if_pos e, if_pos e]; exact .cons r rs
    · rw [if_neg e, if_neg e]; exact .cons q (putF_reps r rs)
end
/-- a live object is written anew -/
theorem SR.setM {K : KA} {X : Addr → Prop} {ρ : List Addr} {O : Nat → Option Addr} {s : MS} {σ : L2.St} {H : Hp} (S : SR K X ρ O s σ H) {n : Nat} {a : Addr} {q : MO} {ho : HO} (hn : ρ[n]? = some a)
    (hq : ∀ Hz, Hz a = some ho → ObjR ρ K (view X ρ O H) Hz a q) :
    SR K X ρ O ⟨s.env, s.G.set n q⟩ σ (upd H a ho) ∧ Fut X ρ O H ρ O (upd H a ho) := by
  have ha : a ∈ ρ := List.mem_iff_getElem?.mpr ⟨n, hn⟩
  have nX := S.xρ a ha
  have ev : view X ρ O (upd H a ho) = view X ρ O H := by
    funext b
    unfold view
    by_cases e : b = a
    · subst e
      have q : Hid X ρ O b := .inr (.inl ha)
      rw [if_pos q, if_pos q]
    · rw [upd_ne e]
  have vx : Ex (view X ρ O H) (view X ρ O (upd H a ho)) := by rw [ev]; exact Ex.refl _
  have up : ∀ {Hz : Hp} {b : Addr} {o : MO}, ObjR ρ K (view X ρ O H) Hz b o → (∀ z, Hz b = some z → (upd H a ho) b = some z) → ObjR ρ K (view X ρ O (upd H a ho)) (upd H a ho) b o := fun {Hz b o} z hz => by
    cases o with
    | lst ms => obtain ⟨us, h2, h3⟩ := z; exact ⟨us, hz _ h2, h3.mono (Pre.refl _) vx⟩
    | ins c ks ms => obtain ⟨dx, fs, h2, h3, h4⟩ := z; exact ⟨dx, fs, hz _ h2, h3, h4.mono (Pre.refl _) vx⟩
    | dic ms => obtain ⟨fs, h2, h3, h4⟩ := z; exact ⟨fs, hz _ h2, h3, h4.mono (Pre.refl _) vx⟩
    | lck od fs ms => obtain ⟨h2, h3, h4⟩ := z; exact ⟨hz _ h2, h3, h4.mono (Pre.refl _) vx⟩
  refine ⟨⟨fun b hb => ?_, S.len, by simp [S.gl], S.nd, S.xρ, S.oX, S.oi, S.ol, fun j y h => ?_, fun k o h => ?_⟩, Pre.refl _, vx, fun b o hb e => ?_⟩
  · by_cases e : b = a
    · subst e; exact ⟨_, upd_same⟩
    · rw [upd_ne e]; exact S.xo b hb
  · have z := S.sl j y h
    cases y with
    | un => exact z
    | sh m => obtain ⟨h1, w, h2, h3⟩ := z; exact ⟨h1, w, h2, h3.mono (Pre.refl _) vx⟩
    | ow ns =>
      obtain ⟨b, us, h1, h2, h3, h4⟩ := z
      have ne : b ≠ a := fun q => (S.oX j b h1).2 (q ▸ ha)
      exact ⟨b, us, h1, h2, by rw [upd_ne ne]; exact h3, h4.mono (Pre.refl _) vx⟩
  · by_cases e : n = k
    · subst e
      have hl : n < s.G.length := by
        have := (List.getElem?_eq_some_iff.mp h).1; simpa using this
      have h : (s.G.set n q)[n]? = some o := h
      rw [List.getElem?_set_self hl] at h
      cases h
      exact ⟨a, hn, up (hq (upd H a ho) upd_same) fun z hz => hz⟩
    · have h : (s.G.set n q)[k]? = some o := h
      rw [List.getElem?_set_ne e] at h
      obtain ⟨b, h1, z⟩ := S.ob k o h
      have ne : b ≠ a := fun q => by
        subst q
        obtain ⟨l1, e1⟩ := List.getElem?_eq_some_iff.mp hn
        obtain ⟨l2, e2⟩ := List.getElem?_eq_some_iff.mp h1
        exact e ((List.getElem_inj S.nd).mp (e1.trans e2.symm))
      exact ⟨b, h1, up z fun y hy => by rw [upd_ne ne]; exact hy⟩
  · have ne : b ≠ a := fun q => nX (q ▸ hb)
    rw [upd_ne ne]; exact e
theorem SR.refI {K : KA} {X : Addr → Prop} {ρ : List Addr} {O : Nat → Option Addr} {s : MS} {σ : L2.St} {H : Hp} (S : SR K X ρ O s σ H) {n : Nat} {a : Addr} {c : String} {ks : List Str} {ms : List MV} (h : ρ[n]? = some a) (g : s.G[n]? = some (.ins c ks ms)) :
    ∃ dx fs, H a = some (.ins (K.ct c) dx fs) ∧ fs.map (·.1) = ks ∧ Reps ρ K (view X ρ O H) ms (fs.map (·.2)) := by
  obtain ⟨b, h1, dx, fs, h2, h3, h4⟩ := S.ob n _ g
  rw [h] at h1
  cases h1
  exact ⟨dx, fs, h2, h3, h4⟩
section
variable {K : KA} {W : WX} {ta tv : TE} {ma mv : EM} {cs : List String} {f : Str}
theorem sim_fld (hf : FldI K.ct K.F cs f) (ha : SimE K W ta ma) : SimE K W (tFld K.F ta f) (mUn (oFld cs f) ma) := by
  intro X ρ O s σ H Q S p
  refine ha.bindE S p fun x s1 ρ1 O1 H1 v S1 F1 r1 p1 => ?_
  cases r1 with
  | obj h1 h2 h3 =>
    rename_i a dx c ks ms fs
    unfold oFld fldR at p1
    by_cases hc : c ∈ cs
    · simp only [if_pos hc] at p1
      cases e : fldAt f ks ms with
      | none => simp only [e] at p1; exact p1.elim
      | some m =>
        simp only [e] at p1
        subst h2
        obtain ⟨u, h5, h6⟩ := fld_get e h3
        exact ⟨a, K.ct c, dx, fs, u, rfl, (view_some.mp h1).2, (hf c hc).1, (hf c hc).2, h5, p1.done S1 h6⟩
    · simp only [if_neg hc] at p1; exact p1.elim
  | ref hn =>
    rename_i n a
    unfold oFld fldR at p1
    cases g : s1.G[n]? with
    | none => simp only [g] at p1; exact p1.elim
    | some o => cases o with
      | lst ms => simp only [g] at p1; exact p1.elim
      | dic ms => simp only [g] at p1; exact p1.elim
      | lck od fs ms => simp only [g] at p1; exact p1.elim
      | ins c ks ms =>
        simp only [g] at p1
        by_cases hc : c ∈ cs
        · simp only [if_pos hc] at p1
          cases e : fldAt f ks ms with
          | none => simp only [e] at p1; exact p1.elim
          | some m =>
            simp only [e] at p1
            obtain ⟨dx, fs, h1, h2, h3⟩ := S1.refI hn g
            subst h2
            obtain ⟨u, h5, h6⟩ := fld_get e h3
            exact ⟨a, K.ct c, dx, fs, u, rfl, h1, (hf c hc).1, (hf c hc).2, h5, p1.done S1 h6⟩
        · simp only [if_neg hc] at p1; exact p1.elim
  | _ => exact p1.elim
theorem ss_setF (hf : FldI K.ct K.F cs f) (ha : SimE K W ta ma) (hv : SimE K W tv mv) : SimS K W (sFld K.F ta tv f) (mSetF cs f mv ma) := by
  intro X ρ O s σ H D S p
  refine hv.bindS S p fun y s1 ρ1 O1 H1 u S1 F1 r1 p1 => ?_
  refine ha.bindS S1 p1 fun x s2 ρ2 O2 H2 v S2 F2 r2 p2 => ?_
  cases r2 with
  | ref hn =>
    rename_i n a
    unfold setX setR at p2
    cases g : s2.G[n]? with
    | none => simp only [g] at p2; exact p2.elim
    | some o => cases o with
      | lst ms => simp only [g] at p2; exact p2.elim
      | dic ms => simp only [g] at p2; exact p2.elim
      | lck od fs ms => simp only [g] at p2; exact p2.elim
      | ins c ks ms =>
        simp only [g] at p2
        by_cases hc : c ∈ cs ∧ ks.length < 1000
        · simp only [if_pos hc] at p2
          obtain ⟨dx, fs, h1, h2, h3⟩ := S2.refI hn g
          subst h2
          obtain ⟨S3, F3⟩ := S2.setM (q := .ins c (putK f (fs.map (·.1))) (putW f y (fs.map (·.1)) ms)) (ho := .ins (K.ct c) dx (putF f u fs)) hn fun Hz hz => ⟨dx, _, hz, putF_keys u fs, putF_reps (F2.rep r1) h3⟩
          exact ⟨a, K.ct c, dx, fs, rfl, h1, (hf c hc.1).1, (hf c hc.1).2, by have := hc.2; rwa [List.length_map] at this, p2 ρ2 O2 σ _ S3 F3⟩
        · simp only [if_neg hc] at p2; exact p2.elim
  | _ => exact p2.elim
end

/-! ## values without live objects in them -/
mutual
def clo : MV → Bool
  | .non => true
  | .bl _ => true
  | .int _ => true
  | .str _ => true
  | .tup xs => clos xs
  | .lst xs => clos xs
  | .scr xs => clos xs
  | .obj _ _ vs => clos vs
  | .ref _ => false
  | .err _ => true
  | .dic => true
def clos : List MV → Bool
  | [] => true
  | x :: xs => clo x && clos xs
end
theorem clos_all : ∀ {xs : List MV}, clos xs = true ↔ ∀ x ∈ xs, clo x = true
  | [] => by simp [clos]
  | x :: xs => by rw [clos, Bool.and_eq_true, clos_all]; simp
theorem clos_ints (ns : List Int) : clos (ns.map MV.int) = true := clos_all.mpr fun x h => by
  obtain ⟨n, _, rfl⟩ := List.mem_map.mp h
  rfl
section
variable {ρ ρ' : List Addr} {K : KA} {H H1 H' : Hp}
mutual
theorem Rep.closed : ∀ {m : MV} {v : V}, clo m = true → Rep ρ K H m v → Rep ρ' K H m v
  | _, _, _, .non => .non
  | _, _, _, .bl b => .bl b
  | _, _, _, .int i => .int i
  | _, _, _, .str s => .str s
  | _, _, c, .tup h r => .tup h (Reps.closed (by rwa [clo] at c) r)
  | _, _, c, .lst h r => .lst h (Reps.closed (by rwa [clo] at c) r)
  | _, _, c, .scr h r => .scr h (Reps.closed (by rwa [clo] at c) r)
  | _, _, c, .obj h k r => .obj h k (Reps.closed (by rwa [clo] at c) r)
  | _, _, c, .ref h => by rw [clo] at c; cases c
  | _, _, _, .err h => .err h
  | _, _, _, .dic h => .dic h
theorem Reps.closed : ∀ {ms : List MV} {vs : List V}, clos ms = true → Reps ρ K H ms vs → Reps ρ' K H ms vs
  | _, _, _, .nil => .nil
  | _, _, c, .cons h r => by
    rw [clos, Bool.and_eq_true] at c
    exact .cons (Rep.closed c.1 h) (Reps.closed c.2 r)
end
mutual
theorem Rep.shrink (pr : Pre ρ ρ') (e : Ex H H') : ∀ {m : MV} {v u : V}, Rep ρ' K H m v → Rep ρ K H1 m u → Rep ρ K H' m v
  | _, _, _, .non, _ => .non
  | _, _, _, .bl b, _ => .bl b
  | _, _, _, .int i, _ => .int i
  | _, _, _, .str s, _ => .str s
  | _, _, _, .tup h r, .tup _ q => .tup (sqt_ex e h) (Reps.shrink pr e r q)
  | _, _, _, .lst h r, .lst _ q => .lst (e _ _ h) (Reps.shrink pr e r q)
  | _, _, _, .scr h r, .scr _ q => .scr (sql_ex e h) (Reps.shrink pr e r q)
  | _, _, _, .obj h k r, .obj _ _ q => .obj (e _ _ h) k (Reps.shrink pr e r q)
  | _, _, _, .ref h, .ref q => by
    have z := pr _ _ q
    rw [h] at z
    cases z
    exact .ref q
  | _, _, _, .err h, _ => .err (e _ _ h)
  | _, _, _, .dic h, _ => .dic (e _ _ h)
theorem Reps.shrink (pr : Pre ρ ρ') (e : Ex H H') : ∀ {ms : List MV} {vs us : List V}, Reps ρ' K H ms vs → Reps ρ K H1 ms us → Reps ρ K H' ms vs
  | _, _, _, .nil, _ => .nil
  | _, _, _, .cons h r, .cons q t => .cons (Rep.shrink pr e h q) (Reps.shrink pr e r t)
end
end

/-! ## an instance made -/
noncomputable def oMk (c : String) (fi : FM) (xs : List MV) : EM := fun s => match fi (.ref s.G.length :: xs) (s.G ++ [.ins c [] []]) with
  | .ok .non G' => .ok (.ref s.G.length) ⟨s.env, G'⟩
  | .exc e G' => .exc e ⟨s.env, G'⟩
  | _ => .stuck
noncomputable def mMk (c : String) (fi : FM) (a : AM) : EM := fun s => (a s).bind fun xs s1 => oMk c fi xs s1
noncomputable def lastI (G G' : MHeap) : Option (String × List Str × List MV) := match G'.getLast? with
  | some (.ins c ks vs) => if G'.dropLast = G ∧ clos vs = true then some (c, ks, vs) else none
  | _ => none
theorem lastI_ok {G : MHeap} {c : String} {ks : List Str} {vs : List MV} (h : clos vs = true) : lastI G (G ++ [.ins c ks vs]) = some (c, ks, vs) := by
  unfold lastI
  simp [h]
theorem lastI_eq {G G' : MHeap} {c : String} {ks : List Str} {vs : List MV} (h : lastI G G' = some (c, ks, vs)) : G' = G ++ [.ins c ks vs] ∧ clos vs = true := by
  unfold lastI at h
  split at h
  · rename_i c' ks' vs' e
    split at h
    · rename_i hc
      cases h
      refine ⟨?_, hc.2⟩
      rw [← hc.1]
      obtain ⟨ys, rfl⟩ := List.getLast?_eq_some_iff.mp e
      rw [List.dropLast_concat]
    · cases h
  · cases h
noncomputable def oMkF (c : String) (fi : FM) (xs : List MV) : EM := fun s => match fi (.ref s.G.length :: xs) (s.G ++ [.ins c [] []]) with
  | .ok .non G' => (match lastI s.G G' with
    | some (c, ks, vs) => .ok (.obj c ks vs) s
    | none => .stuck)
  | .exc e G' => .exc e ⟨s.env, G'⟩
  | _ => .stuck
noncomputable def mMkF (c : String) (fi : FM) (a : AM) : EM := fun s => (a s).bind fun xs s1 => oMkF c fi xs s1
theorem oMkF_ok {c : String} {fi : FM} {xs : List MV} {s : MS} {ks : List Str} {vs : List MV} (h : fi (.ref s.G.length :: xs) (s.G ++ [.ins c [] []]) = .ok .non (s.G ++ [.ins c ks vs])) (hc : clos vs = true) : oMkF c fi xs s = .ok (.obj c ks vs) s := by
  unfold oMkF
  rw [h]
  simp only [lastI_ok hc]
theorem oMk_ok {c : String} {fi : FM} {xs : List MV} {s : MS} {G' : MHeap} (h : fi (.ref s.G.length :: xs) (s.G ++ [.ins c [] []]) = .ok .non G') : oMk c fi xs s = .ok (.ref s.G.length) ⟨s.env, G'⟩ := by
  unfold oMk
  rw [h]
def tMakeS (C : Addr) (sp : Sp) (E : L2.St → XK) (t : TA) : TE := fun σ H Q => t σ H fun vs H1 => ∀ x dx, H1 x = none → H1 dx = none → dx ≠ x → sp (.ref x :: vs) (upd (upd H1 dx (.own x)) x (.ins C dx [])) (fun v H2 => v = .non ∧ Q (.ref x) H2) (E σ)
def tMethE (C : Addr) (m : Str) (sp : Sp) (E : L2.St → XK) (ta : TE) (t : TA) : TE := fun σ H Q => ta σ H fun x H1 => ∃ a dx fs, x = .ref a ∧ H1 a = some (.ins C dx fs) ∧ fs.lookup m = none ∧ t σ H1 fun vs H2 => sp (x :: vs) H2 Q (E σ)
section
variable {X : Cx} {k : Nat} {f C : Addr} {fd : FuncData} {ps : List Str} {sp : Sp} {E : L2.St → XK} {x m : Str} {p pos apos : Pos} {e o : Expr} {es : List Expr} {ta : TE} {t : TA}
theorem runMake {pins : List (Addr × Obj)} {σ : L2.St} {H : Hp} {s : Shared} {Q : VK} {us : List Value} {vs : List V} (Mc : Mk X.K C f) (F : FnOk X.prog X.w X.K X.mg X.base (L2.CX X.prog X.w) k f fd ps sp) (hr : Room (k + 1) X.A) (hb : Binds X.K fd ps [])
    (hx : ∀ σ, PassesAt (L2.CX X.prog X.w) X σ (E σ)) (I : Inv X pins σ H s) (r : Vals vs us)
    (h : ∀ x dx, H x = none → H dx = none → dx ≠ x → sp (.ref x :: vs) (upd (upd H dx (.own x)) x (.ins C dx [])) (fun v H2 => v = .non ∧ Q (.ref x) H2) (E σ)) :
    wpAny (model X.prog X.w) X.A (call (.ref C) us) (EP X pins σ Q) X.xe s := by
  have hq := h _ _ (I.hok.fresh (Nat.le_succ s.heap.objs.size)) (I.hok.fresh (Nat.le_refl s.heap.objs.size)) (Nat.ne_of_lt (Nat.lt_succ_self s.heap.objs.size))
  have I2 := Inv.made (C := C) I
  have r2 : Vals (V.ref (s.heap.objs.size + 1) :: vs) (Value.ref (s.heap.objs.size + 1) :: us) := .cons rfl r
  have hl : (Value.ref (s.heap.objs.size + 1) :: us).length = ps.length := r2.length.symm.trans (F.len _ _ _ _ hq)
  have bt := hb _ (Value.ref (s.heap.objs.size + 1) :: us) I2.kIn (by rw [List.append_nil]; exact hl)
  rw [List.append_nil] at bt
  refine wpAny_call (make_map (f := f) I.kIn Mc.makes Mc.init (beq_iff_eq.mp Mc.fn) (codeAny_mono (F.run _ X.stack _ _ _ _ _ _ (E σ) (hr.make C us []) (I2.env0.make C us []) bt r2 hq) fun r s' hz => ?_))
  cases r with
  | error e => exact hx σ pins _ _ e s' I2 hz
  | ok fl =>
    cases fl with
    | ret u =>
      obtain ⟨v, H', I3, rv, ev, q3⟩ := I2.after hz
      cases ev
      exact ⟨rv, V.ref (s.heap.objs.size + 1), H', I3, rfl, q3⟩
    | next => exact hz.elim
    | brk => exact hz.elim
    | cont => exact hz.elim
theorem pe_makeS (Mc : Mk X.K C f) (F : FnOk X.prog X.w X.K X.mg X.base (L2.CX X.prog X.w) k f fd ps sp) (hr : Room (k + 1) X.A) (hg : Gl X x) (hm : X.mg x = some (.ref C)) (hb : Binds X.K fd ps []) (hx : ∀ σ, PassesAt (L2.CX X.prog X.w) X σ (E σ))
    (ha : PA X (e :: es) t) (hdb : (x == ("__debug__" : Str)) = false) (he : starEach (e :: es) X.env = (false, eval e X.env) :: starEach es X.env) (hpl : (backTo pos (starEach es X.env)).any (·.1) = false) :
    PE X (.Call (.Name x p) (e :: es) [] pos) (tMakeS C sp E t) := by
  constructor
  intro pins s σ H Q I h
  refine wpAny_Call_Name_kw (ld_glob I hg hm ?_ hdb)
  refine PySem.W.callWith_K (h₀ := X.base) I.ok.mod.kin Mc.kp (thn (ha.run pos pins s σ H _ I h) ?_) he hpl
  rintro us s1 ⟨vs, H1, I1, r, q⟩
  exact ⟨I1.kIn, runMake Mc F hr hb hx I1 r q⟩
theorem pe_makeS0 (Mc : Mk X.K C f) (F : FnOk X.prog X.w X.K X.mg X.base (L2.CX X.prog X.w) k f fd ps sp) (hr : Room (k + 1) X.A) (hg : Gl X x) (hm : X.mg x = some (.ref C)) (hb : Binds X.K fd ps []) (hx : ∀ σ, PassesAt (L2.CX X.prog X.w) X σ (E σ))
    (hdb : (x == ("__debug__" : Str)) = false) : PE X (.Call (.Name x p) [] [] pos) (tMakeS C sp E tNil) := by
  constructor
  intro pins s σ H Q I h
  refine wpAny_Call_Name_kw (ld_glob I hg hm ?_ hdb)
  exact PySem.W.callWith_K0 I.kIn Mc.kp (runMake (us := []) Mc F hr hb hx I .nil h)
theorem pe_methE {pl : Sem Bool} (he : PE X o ta) (c : Cls X.K C) (hm : Meth X.K C m f) (F : FnOk X.prog X.w X.K X.mg X.base (L2.CX X.prog X.w) k f fd ps sp) (hr : Room k X.A) (hb : Binds X.K fd ps []) (hx : ∀ σ, PassesAt (L2.CX X.prog X.w) X σ (E σ)) (ha : PA X (e :: es) t)
    (hst : starEach (e :: es) X.env = (false, eval e X.env) :: starEach es X.env) (hpl : (backTo pos (starEach es X.env)).any (·.1) = false)
    (ht : eval (.Call (.Attribute o m apos) (e :: es) [] pos) X.env = (eval o X.env >>= fun ov => standAt apos.atName >>= fun _ => holding [ov] (getMethod ov m pl) >>= fun (f, first) => callWith pos f first (backTo pos (starEach (e :: es) X.env)) (backToKw pos (keywordEach [] X.env)))) :
    PE X (.Call (.Attribute o m apos) (e :: es) [] pos) (tMethE C m sp E ta t) := by
  constructor
  intro pins s σ H Q I h
  refine PySem.W.methodCall_KW (pl := pl) (thn (he.run pins s σ H _ I h) ?_) ht
  rintro u s1 ⟨x, H1, I1, rx, a, dx, fs, ex, ea, l, q⟩
  subst ex
  cases (show u = Value.ref a from rx)
  refine getmeth_ok I1 ea c hm l ?_
  refine PySem.W.callWith_K (first := [.ref a]) (h₀ := X.base) I.ok.mod.kin hm.kp (thn (ha.run pos pins s1 σ H1 _ I1 q) ?_) hst hpl
  rintro us s2 ⟨vs, H2, I2, r, q2⟩
  exact ⟨I2.kIn, run_fnS (us := .ref a :: us) (vs := .ref a :: vs) F hr hb (hx σ) I2 (.cons rfl r) q2⟩
theorem pe_methE0 {pl : Sem Bool} (he : PE X o ta) (c : Cls X.K C) (hm : Meth X.K C m f) (F : FnOk X.prog X.w X.K X.mg X.base (L2.CX X.prog X.w) k f fd ps sp) (hr : Room k X.A) (hb : Binds X.K fd ps []) (hx : ∀ σ, PassesAt (L2.CX X.prog X.w) X σ (E σ))
    (ht : eval (.Call (.Attribute o m apos) [] [] pos) X.env = (eval o X.env >>= fun ov => standAt apos.atName >>= fun _ => holding [ov] (getMethod ov m pl) >>= fun (f, first) => callWith pos f first (backTo pos (starEach [] X.env)) (backToKw pos (keywordEach [] X.env)))) :
    PE X (.Call (.Attribute o m apos) [] [] pos) (tMethE C m sp E ta tNil) := by
  constructor
  intro pins s σ H Q I h
  refine PySem.W.methodCall_KW (pl := pl) (thn (he.run pins s σ H _ I h) ?_) ht
  rintro u s1 ⟨x, H1, I1, rx, a, dx, fs, ex, ea, l, q⟩
  subst ex
  cases (show u = Value.ref a from rx)
  refine getmeth_ok I1 ea c hm l ?_
  exact PySem.W.callWith_K0 (first := [.ref a]) I1.kIn hm.kp (run_fnS (us := [.ref a]) (vs := [.ref a]) F hr hb (hx σ) I1 (.cons rfl .nil) q)
theorem PE.ex {ι : Type} {Pm : ι → Prop} {tt : ι → TE} (h : ∀ i, Pm i → PE X e (tt i)) : PE X e (fun σ H Q => ∃ i, Pm i ∧ tt i σ H Q) := by
  constructor
  rintro pins s σ H Q I ⟨i, hp, hi⟩
  exact (h i hp).run pins s σ H Q I hi
end
end M

namespace M
open PySem L2
open Classical

section
variable {K : KA} {X : Addr → Prop} {W : WX} {ρ ρ' : List Addr} {O O' : Nat → Option Addr} {s s' : MS} {σ : L2.St} {H H' : Hp} {a dx : Addr}
theorem FreshAt.mkI (S : SR K X ρ O s σ H) (nd : H dx = none) (na : H a = none) (ne : dx ≠ a) (c : String) : FreshAt K X ρ O H ρ O s σ (upd (upd H dx (.own a)) a (.ins (K.ct c) dx [])) a (.ins c [] []) := by
  have e1 : Ex H (upd H dx (.own a)) := Ex.new nd
  have n2 : (upd H dx (.own a)) a = none := by rw [upd_ne (Ne.symm ne)]; exact na
  have S1 := S.grow e1
  refine ⟨S1.hide n2 _, fun q => ?_, ⟨dx, [], upd_same, rfl, .nil⟩, Pre.refl _, ?_, fun b u h e => Ex.new n2 b u (e1 b u e)⟩
  · obtain ⟨u, e⟩ := S.xo a q
    rw [na] at e; cases e
  · rw [view_hide n2]; exact view_ex e1
theorem FreshAt.futL {o : MO} (f : FreshAt K X ρ O H ρ' O' s' σ H' a o) : Fut X ρ O H (ρ' ++ [a]) O' H' := ⟨f.pre.trans (Pre.app _ _), by rw [view_live]; exact f.ex, f.xs⟩
theorem sim_mk {ta : TA} {ma : AM} {fi : FM} (c : String) (h : SimA K W ta ma) : SimE K W (tMakeS (K.ct c) (spM K fi) (WE W) ta) (mMk c fi ma) := by
  intro X ρ O s σ H Q S p
  refine h.bindE S p fun xs s1 ρ1 O1 H1 vs S1 F1 r1 p1 x dx nx nd ne => ?_
  have f := FreshAt.mkI S1 nd nx ne c
  have SL := f.live
  have FL := f.futL
  have rx : Rep (ρ1 ++ [x]) K (view X (ρ1 ++ [x]) O1 (upd (upd H1 dx (.own x)) x (.ins (K.ct c) dx []))) (.ref s1.G.length) (.ref x) := .ref (by rw [← S1.gl, List.getElem?_append_right (Nat.le_refl _)]; simp)
  refine ⟨XO X O1, ρ1 ++ [x], s1.G ++ [.ins c [] []], .ref s1.G.length :: xs, SL.toCall, by rw [view_XO]; exact .cons rx (FL.reps r1), ?_⟩
  unfold oMk at p1
  cases e : fi (.ref s1.G.length :: xs) (s1.G ++ [.ins c [] []]) with
  | ok y G' =>
    rw [e] at p1
    cases y with
    | non =>
      intro ρ' H2 v Sc Fc rv
      cases rv
      obtain ⟨S2, F2⟩ := SL.ofCall Sc Fc
      exact ⟨rfl, p1 ρ' O1 H2 _ S2 (FL.trans F2) (F2.rep rx)⟩
    | _ => exact p1.elim
  | exc d G' =>
    rw [e] at p1
    intro ρ' H2 Sc Fc
    obtain ⟨S2, F2⟩ := SL.ofCall Sc Fc
    exact p1 ρ' O1 H2 S2 (FL.trans F2)
  | stuck => rw [e] at p1; exact p1.elim
theorem pre_last {x : Addr} (p : Pre (ρ ++ [x]) ρ') (l : ρ'.length = ρ.length + 1) : ρ' = ρ ++ [x] := by
  apply List.ext_getElem?
  intro i
  cases e : (ρ ++ [x])[i]? with
  | some z => exact p i z e
  | none =>
    rw [List.getElem?_eq_none_iff] at e ⊢
    rw [List.length_append, List.length_singleton] at e
    omega
theorem sim_mkF {ta : TA} {ma : AM} {fi : FM} (c : String) (h : SimA K W ta ma) : SimE K W (tMakeS (K.ct c) (spM K fi) (WE W) ta) (mMkF c fi ma) := by
  intro X ρ O s σ H Q S p
  refine h.bindE S p fun xs s1 ρ1 O1 H1 vs S1 F1 r1 p1 x dx nx nd ne => ?_
  have f := FreshAt.mkI S1 nd nx ne c
  have SL := f.live
  have FL := f.futL
  have rx : Rep (ρ1 ++ [x]) K (view X (ρ1 ++ [x]) O1 (upd (upd H1 dx (.own x)) x (.ins (K.ct c) dx []))) (.ref s1.G.length) (.ref x) := .ref (by rw [← S1.gl, List.getElem?_append_right (Nat.le_refl _)]; simp)
  refine ⟨XO X O1, ρ1 ++ [x], s1.G ++ [.ins c [] []], .ref s1.G.length :: xs, SL.toCall, by rw [view_XO]; exact .cons rx (FL.reps r1), ?_⟩
  unfold oMkF at p1
  cases e : fi (.ref s1.G.length :: xs) (s1.G ++ [.ins c [] []]) with
  | ok y G' =>
    rw [e] at p1
    cases y with
    | non =>
      simp only at p1
      cases el : lastI s1.G G' with
      | none => rw [el] at p1; exact p1.elim
      | some z =>
        obtain ⟨c2, ks, ws⟩ := z
        rw [el] at p1
        obtain ⟨eG, hcl⟩ := lastI_eq el
        subst eG
        intro ρ' H2 v Sc Fc rv
        cases rv
        refine ⟨rfl, ?_⟩
        have hl : ρ' = ρ1 ++ [x] := pre_last Fc.pre (by rw [Sc.gl]; simp [S1.gl])
        subst hl
        obtain ⟨S2, F2⟩ := SL.ofCall Sc Fc
        have FT := FL.trans F2
        have vs1 : Ex (view X (ρ1 ++ [x]) O1 H2) (view X ρ1 O1 H2) := fun b o q => by
          obtain ⟨q1, q2⟩ := view_some.mp q
          refine view_some.mpr ⟨fun z => q1 ?_, q2⟩
          rcases z with z | z | z
          · exact .inl z
          · exact .inr (.inl (List.mem_append_left _ z))
          · exact .inr (.inr z)
        have vx : Ex (view X ρ1 O1 H1) (view X ρ1 O1 H2) := FT.ex.trans vs1
        have nh : ¬ Hid X ρ1 O1 x := S1.nhid nx
        have S3 : SR K X ρ1 O1 s1 σ H2 := by
          refine ⟨S2.xo, S1.len, S1.gl, S1.nd, S1.xρ, S1.oX, S1.oi, S1.ol, fun i y hy => ?_, fun n o ho => ?_⟩
          · have z := S1.sl i y hy
            cases y with
            | un => exact z
            | sh m => obtain ⟨h1, w, h2, h3⟩ := z; exact ⟨h1, w, h2, h3.mono (Pre.refl _) vx⟩
            | ow ms =>
              obtain ⟨b, us, h1, h2, h3, h4⟩ := z
              have e1 : Ex H1 (upd H1 dx (.own x)) := Ex.new nd
              have e2 : Ex (upd H1 dx (.own x)) (upd (upd H1 dx (.own x)) x (.ins (K.ct c) dx [])) := Ex.new (by rw [upd_ne (Ne.symm ne)]; exact nx)
              exact ⟨b, us, h1, h2, Fc.xs _ _ (.inr ⟨i, h1⟩) (e2 _ _ (e1 _ _ h3)), h4.mono (Pre.refl _) vx⟩
          · have hn : n < s1.G.length := (List.getElem?_eq_some_iff.mp ho).1
            obtain ⟨b, hb, z⟩ := S1.ob n o ho
            obtain ⟨b', hb', z'⟩ := S2.ob n o (by show (s1.G ++ [MO.ins c2 ks ws])[n]? = some o; rw [List.getElem?_append_left hn]; exact ho)
            have eb : b' = b := by
              have := Pre.app ρ1 [x] n b hb
              rw [hb'] at this
              exact Option.some.inj this
            subst eb
            refine ⟨b', hb, ?_⟩
            cases o with
            | lst ms => obtain ⟨us, h1, h2⟩ := z'; obtain ⟨us', _, h2'⟩ := z; exact ⟨us, h1, Reps.shrink (Pre.app _ _) vs1 h2 h2'⟩
            | ins c ks ms => obtain ⟨d, fs, h1, h2, h3⟩ := z'; obtain ⟨_, _, _, _, h3'⟩ := z; exact ⟨d, fs, h1, h2, Reps.shrink (Pre.app _ _) vs1 h3 h3'⟩
            | dic ms => obtain ⟨fs, h1, h2, h3⟩ := z'; obtain ⟨_, _, _, h3'⟩ := z; exact ⟨fs, h1, h2, Reps.shrink (Pre.app _ _) vs1 h3 h3'⟩
            | lck od fs ms => obtain ⟨h1, h2, h3⟩ := z'; obtain ⟨_, _, h3'⟩ := z; exact ⟨h1, h2, Reps.shrink (Pre.app _ _) vs1 h3 h3'⟩
        have F3 : Fut X ρ1 O1 H1 ρ1 O1 H2 := ⟨Pre.refl _, vx, FT.xs⟩
        refine p1 ρ1 O1 H2 _ S3 F3 ?_
        obtain ⟨b, hb, d, fs, h1, h2, h3⟩ := S2.ob s1.G.length (.ins c2 ks ws) (by show (s1.G ++ [MO.ins c2 ks ws])[s1.G.length]? = _; rw [List.getElem?_append_right (Nat.le_refl _)]; simp)
        have eb : b = x := by
          rw [← S1.gl, List.getElem?_append_right (Nat.le_refl _)] at hb
          simp at hb
          exact hb.symm
        subst eb
        exact .obj (view_some.mpr ⟨nh, h1⟩) h2 ((Reps.closed hcl h3).mono (Pre.refl _) vs1)
    | _ => exact p1.elim
  | exc d G' =>
    rw [e] at p1
    intro ρ' H2 Sc Fc
    obtain ⟨S2, F2⟩ := SL.ofCall Sc Fc
    exact p1 ρ' O1 H2 S2 (FL.trans F2)
  | stuck => rw [e] at p1; exact p1.elim
end

/-! ## methods -/
def clsM (m : Str) : Option MO → Option String
  | some (.ins c ks _) => if hasK m ks = true then none else some c
  | _ => none
def clsOf (m : Str) (G : MHeap) : MV → Option String
  | .obj c ks vs => clsM m (some (.ins c ks vs))
  | .ref n => clsM m G[n]?
  | _ => none
noncomputable def methC (tb : List (String × FM)) (a : AM) (x : MV) (o : Option String) : EM := fun s => match o with
  | some c => (match tb.lookup c with
    | some fn => (a s).bind fun xs s2 => ofRF (fn (x :: xs) s2.G) s2
    | none => .stuck)
  | none => .stuck
noncomputable def oMeth (m : Str) (tb : List (String × FM)) (a : AM) (x : MV) : EM := fun s => methC tb a x (clsOf m s.G x) s
noncomputable def mMeth (m : Str) (tb : List (String × FM)) (eo : EM) (a : AM) : EM := fun s => (eo s).bind fun x s1 => oMeth m tb a x s1
structure MethI (ct : String → Addr) (P : Program) (w : World) (K : PySem.W.Frag) (mg : Str → Option Value) (base : Heap) (c : String) (m : Str) (k : Nat) (fn : FM) : Prop where
  cls : Cls K (ct c)
  ex : ∃ f fd ps, FnOk P w K mg base (L2.CX P w) k f fd ps (spM ⟨K, ct⟩ fn) ∧ Meth K (ct c) m f ∧ Binds K fd ps []
theorem MethI.mono {ct : String → Addr} {P : Program} {w : World} {K : PySem.W.Frag} {mg : Str → Option Value} {base : Heap} {c : String} {m : Str} {k j : Nat} {fn : FM} (I : MethI ct P w K mg base c m k fn) (h : k ≤ j) : MethI ct P w K mg base c m j fn := by
  obtain ⟨f, fd, ps, F, a, b⟩ := I.ex
  exact ⟨I.cls, f, fd, ps, F.mono h, a, b⟩
def MethT (ct : String → Addr) (P : Program) (w : World) (K : PySem.W.Frag) (mg : Str → Option Value) (base : Heap) (m : Str) (k : Nat) (tb : List (String × FM)) : Prop := ∀ i ∈ tb, MethI ct P w K mg base i.1 m k i.2
theorem MethT.nil {ct : String → Addr} {P : Program} {w : World} {K : PySem.W.Frag} {mg : Str → Option Value} {base : Heap} {m : Str} {k : Nat} : MethT ct P w K mg base m k [] := fun i h => by cases h
theorem MethT.cons {ct : String → Addr} {P : Program} {w : World} {K : PySem.W.Frag} {mg : Str → Option Value} {base : Heap} {m : Str} {k j : Nat} {c : String} {fn : FM} {tb : List (String × FM)} (I : MethI ct P w K mg base c m j fn) (h : j ≤ k) (r : MethT ct P w K mg base m k tb) : MethT ct P w K mg base m k ((c, fn) :: tb) := fun i hi => by
  rcases List.mem_cons.mp hi with rfl | hi
  · exact I.mono h
  · exact r i hi
theorem lookup_mem {α β : Type} [BEq α] [LawfulBEq α] {a : α} {b : β} : ∀ {l : List (α × β)}, l.lookup a = some b → (a, b) ∈ l
  | [], h => by simp at h
  | (x, y) :: l, h => by
    rw [List.lookup_cons] at h
    cases e : a == x with
    | true => rw [e] at h; cases h; rw [beq_iff_eq.mp e]; exact List.mem_cons_self
    | false => rw [e] at h; exact List.mem_cons_of_mem _ (lookup_mem h)
def tMethT (ct : String → Addr) (K : PySem.W.Frag) (m : Str) (W : WX) (tb : List (String × FM)) (ta : TE) (t : TA) : TE := fun σ H Q => ∃ i : String × FM, i ∈ tb ∧ tMethE (ct i.1) m (spM ⟨K, ct⟩ i.2) (WE W) ta t σ H Q
section
variable {K : KA} {W : WX} {ta : TE} {t : TA} {ma : EM} {mt : AM} {m : Str} {tb : List (String × FM)}
theorem sim_meth (ne : tb ≠ []) (ha : SimE K W ta ma) (ht : SimA K W t mt) : SimE K W (tMethT K.ct K.F m W tb ta t) (mMeth m tb ma mt) := by
  intro X ρ O s σ H Q S p
  unfold mMeth at p
  cases e : ma s with
  | stuck => rw [e] at p; exact p.elim
  | exc c s1 =>
    rw [e] at p
    cases tb with
    | nil => exact absurd rfl ne
    | cons i tb =>
      refine ⟨i, List.mem_cons_self, ha X ρ O s σ H _ S ?_⟩
      rw [e]; exact p
  | ok x s1 =>
    rw [e] at p
    simp only [R.bind_ok] at p
    unfold oMeth methC at p
    cases ec : clsOf m s1.G x with
    | none => rw [ec] at p; exact p.elim
    | some c =>
      rw [ec] at p
      simp only at p
      cases ef : tb.lookup c with
      | none => rw [ef] at p; exact p.elim
      | some fn =>
        rw [ef] at p
        simp only at p
        refine ⟨(c, fn), lookup_mem ef, ha X ρ O s σ H _ S ?_⟩
        rw [e]
        intro ρ1 O1 H1 v S1 F1 r1
        have p1 := p.later F1
        have key : ∃ a dx fs, v = .ref a ∧ H1 a = some (.ins (K.ct c) dx fs) ∧ fs.lookup m = none := by
          cases r1 with
          | obj h1 h2 h3 =>
            rename_i a dx c' ks ms fs
            unfold clsOf clsM at ec
            by_cases hk : hasK m ks = true
            · simp only [if_pos hk] at ec; cases ec
            · simp only [if_neg hk] at ec
              cases ec
              subst h2
              exact ⟨a, dx, fs, rfl, (view_some.mp h1).2, hasK_none (by simpa using hk)⟩
          | ref hn =>
            rename_i n a
            unfold clsOf clsM at ec
            cases g : s1.G[n]? with
            | none => simp only [g] at ec; cases ec
            | some o => cases o with
              | lst ms => simp only [g] at ec; cases ec
              | dic ms => simp only [g] at ec; cases ec
              | lck od fs ms => simp only [g] at ec; cases ec
              | ins c' ks ms =>
                simp only [g] at ec
                by_cases hk : hasK m ks = true
                · simp only [if_pos hk] at ec; cases ec
                · simp only [if_neg hk] at ec
                  cases ec
                  obtain ⟨dx, fs, h1, h2, _⟩ := S1.refI hn g
                  subst h2
                  exact ⟨a, dx, fs, rfl, h1, hasK_none (by simpa using hk)⟩
          | _ => cases ec
        obtain ⟨a, dx, fs, rfl, h1, h2⟩ := key
        refine ⟨a, dx, fs, rfl, h1, h2, ?_⟩
        refine ht.bindE S1 p1 fun xs s2 ρ2 O2 H2 us S2 F2 r2 p2 => ?_
        exact ⟨XO X O2, ρ2, s2.G, x :: xs, S2.toCall, by rw [view_XO]; exact .cons (F2.rep r1) r2, post_call S2 p2⟩
end

/-! ## isinstance(x, C), C an own class -/
structure InsC (K : PySem.W.Frag) (C : Addr) : Prop where
  cl : Cls K C
  ha : PySem.W.findIn K (.ref C) "__class__" = some (some (.builtin "object.__class__"))
  hn : PySem.W.specialIn K (.builtin "object.__class__") "__get__" = some (some (.builtin "getset_descriptor.__get__"))
  ht : PySem.W.takesIn K (.builtin "object.__class__") = some true
  hm : PySem.W.mroIn K C (.type "object") = some true
def tyO (G : MHeap) : MV → Option String
  | .obj c _ _ => some c
  | .ref n => (match G[n]? with
    | some (.ins c _ _) => some c
    | _ => none)
  | _ => none
def oIsiO (cs bs : List (String × Bool)) : MV → EM := fun x s => match tyO s.G x with
  | some c => (match cs.lookup c with
    | some b => .ok (.bl b) s
    | none => .stuck)
  | none => (match tyG s.G x with
    | some n => (match bs.lookup n with
      | some b => .ok (.bl b) s
      | none => .stuck)
    | none => .stuck)
structure IsiI (ct : String → Addr) (K : PySem.W.Frag) (T : String) (cs bs : List (String × Bool)) : Prop where
  own : ∀ p ∈ cs, InsC K (ct p.1) ∧ PySem.W.kitOne K (.ref (ct p.1)) (.ref (ct T)) = some p.2
  bi : ∀ p ∈ bs, PySem.W.kitOne K (.type p.1) (.ref (ct T)) = some p.2
theorem ownNil {ct : String → Addr} {K : PySem.W.Frag} {T : String} : ∀ p ∈ ([] : List (String × Bool)), InsC K (ct p.1) ∧ PySem.W.kitOne K (.ref (ct p.1)) (.ref (ct T)) = some p.2 := fun p h => by cases h
theorem ownCons {ct : String → Addr} {K : PySem.W.Frag} {T c : String} {b : Bool} {cs : List (String × Bool)} (i : InsC K (ct c)) (k : PySem.W.kitOne K (.ref (ct c)) (.ref (ct T)) = some b) (r : ∀ p ∈ cs, InsC K (ct p.1) ∧ PySem.W.kitOne K (.ref (ct p.1)) (.ref (ct T)) = some p.2) :
    ∀ p ∈ (c, b) :: cs, InsC K (ct p.1) ∧ PySem.W.kitOne K (.ref (ct p.1)) (.ref (ct T)) = some p.2 := fun p h => by
  rcases List.mem_cons.mp h with rfl | h
  · exact ⟨i, k⟩
  · exact r p h
theorem biNil {ct : String → Addr} {K : PySem.W.Frag} {T : String} : ∀ p ∈ ([] : List (String × Bool)), PySem.W.kitOne K (.type p.1) (.ref (ct T)) = some p.2 := fun p h => by cases h
theorem biCons {ct : String → Addr} {K : PySem.W.Frag} {T c : String} {b : Bool} {bs : List (String × Bool)} (k : PySem.W.kitOne K (.type c) (.ref (ct T)) = some b) (r : ∀ p ∈ bs, PySem.W.kitOne K (.type p.1) (.ref (ct T)) = some p.2) :
    ∀ p ∈ (c, b) :: bs, PySem.W.kitOne K (.type p.1) (.ref (ct T)) = some p.2 := fun p h => by
  rcases List.mem_cons.mp h with rfl | h
  · exact k
  · exact r p h
theorem tyO_of {K : KA} {X : Addr → Prop} {ρ : List Addr} {O : Nat → Option Addr} {s : MS} {σ : L2.St} {H : Hp} (S : SR K X ρ O s σ H) {x : MV} {v : V} {c : String} (r : Rep ρ K (view X ρ O H) x v) (h : tyO s.G x = some c) (i : InsC K.F (K.ct c)) : TyX K.F H v (.ref (K.ct c)) := by
  cases r with
  | obj h1 h2 h3 => cases h; exact .base (.ins (view_some.mp h1).2 i.cl i.ha i.hn i.ht i.hm)
  | ref hn =>
    rename_i n a
    unfold tyO at h
    cases g : s.G[n]? with
    | none => simp only [g] at h; cases h
    | some o => cases o with
      | lst ms => simp only [g] at h; cases h
      | dic ms => simp only [g] at h; cases h
      | lck od fs ms => simp only [g] at h; cases h
      | ins c' ks ms =>
        simp only [g] at h
        cases h
        obtain ⟨dx, fs, h1, _, _⟩ := S.refI hn g
        exact .base (.ins h1 i.cl i.ha i.hn i.ht i.hm)
  | _ => cases h
theorem sim_isiO {K : KA} {W : WX} {ta : TE} {ma : EM} {T : String} {cs bs : List (String × Bool)} (I : IsiI K.ct K.F T cs bs) (ha : SimE K W ta ma) : SimE K W (tCB (rIsi K.F) (tCons ta (tCons (tC (.ref (K.ct T))) tNil))) (mUn (oIsiO cs bs) ma) := by
  intro X ρ O s σ H Q S p
  refine ha.bindE S p fun x s1 ρ1 O1 H1 v S1 F1 r1 p1 => ?_
  unfold oIsiO at p1
  cases e1 : tyO s1.G x with
  | some c =>
    rw [e1] at p1
    simp only at p1
    cases e2 : cs.lookup c with
    | none => rw [e2] at p1; exact p1.elim
    | some b =>
      rw [e2] at p1
      obtain ⟨i, k⟩ := I.own _ (lookup_mem e2)
      exact ⟨v, _, _, _, b, rfl, .own _, tyO_of S1 r1 e1 i, k, p1.done S1 (.bl _)⟩
  | none =>
    rw [e1] at p1
    simp only at p1
    cases e2 : tyG s1.G x with
    | none => rw [e2] at p1; exact p1.elim
    | some n =>
      rw [e2] at p1
      simp only at p1
      cases e3 : bs.lookup n with
      | none => rw [e3] at p1; exact p1.elim
      | some b =>
        rw [e3] at p1
        exact ⟨v, _, _, _, b, rfl, .own _, tyxG_of S1 r1 e2, I.bi _ (lookup_mem e3), p1.done S1 (.bl _)⟩

/-! ## wrappers -/
structure MakeI (ct : String → Addr) (P : Program) (w : World) (K : PySem.W.Frag) (mg : Str → Option Value) (base : Heap) (c : String) (x : Str) (k : Nat) (fn : FM) : Prop where
  gm : mg x = some (.ref (ct c))
  ex : ∃ f fd ps, FnOk P w K mg base (L2.CX P w) k f fd ps (spM ⟨K, ct⟩ fn) ∧ Mk K (ct c) f ∧ Binds K fd ps []
section
variable {ct : String → Addr} {X : Cx} {W : WX} {e o v : Expr} {es : List Expr} {ta tv : TE} {ma mv : EM} {t : TA} {mt : AM} {p p2 pos apos : Pos} {f m x : Str} {cs : List String} {k : Nat} {fn : FM} {c : String} {tb : List (String × FM)}
theorem e_fld (hf : FldI ct X.K cs f) (h : PEM ct X W e ta ma) (hb : attributeBase e f X.env (eval e X.env) = eval e X.env := by rfl) : PEM ct X W (.Attribute e f pos) (tFld X.K ta f) (mUn (oFld cs f) ma) :=
  ⟨pe_fld h.pe hb, sim_fld (K := ⟨X.K, ct⟩) hf h.sim⟩
theorem s_setF (hf : FldI ct X.K cs f) (h : PEM ct X W o ta ma) (hv : PEM ct X W v tv mv) (hs : swapsWith v (some (.Attribute o f apos)) pos.line X.env = pure false := by rfl) : PSM ct X W (.Assign [.Attribute o f apos] v pos) (sFld X.K ta tv f) (mSetF cs f mv ma) :=
  ⟨ps_fld h.pe hv.pe hs, ss_setF (K := ⟨X.K, ct⟩) hf h.sim hv.sim⟩
theorem e_mk (I : MakeI ct X.prog X.w X.K X.mg X.base c x k fn) (hr : Room (k + 1) X.A) (tk : Takes X W) (ha : PAM ct X W (e :: es) t mt) (hg : Gl X x := by rfl) (hdb : (x == ("__debug__" : Str)) = false := by decide) (he : starEach (e :: es) X.env = (false, eval e X.env) :: starEach es X.env := by rfl) (hpl : (backTo pos (starEach es X.env)).any (·.1) = false := by rfl) :
    PEM ct X W (.Call (.Name x p) (e :: es) [] pos) (tMakeS (ct c) (spM ⟨X.K, ct⟩ fn) (WE W) t) (mMk c fn mt) := by
  obtain ⟨f, fd, ps, F, hm, hb⟩ := I.ex
  exact ⟨pe_makeS hm F hr hg I.gm hb (fun σ => passAt tk σ) ha.pe hdb he hpl, sim_mk (K := ⟨X.K, ct⟩) c ha.sim⟩
theorem e_mk0 (I : MakeI ct X.prog X.w X.K X.mg X.base c x k fn) (hr : Room (k + 1) X.A) (tk : Takes X W) (hg : Gl X x := by rfl) (hdb : (x == ("__debug__" : Str)) = false := by decide) :
    PEM ct X W (.Call (.Name x p) [] [] pos) (tMakeS (ct c) (spM ⟨X.K, ct⟩ fn) (WE W) tNil) (mMk c fn aNil) := by
  obtain ⟨f, fd, ps, F, hm, hb⟩ := I.ex
  exact ⟨pe_makeS0 hm F hr hg I.gm hb (fun σ => passAt tk σ) hdb, sim_mk (K := ⟨X.K, ct⟩) c sim_nil⟩
theorem e_mkF (I : MakeI ct X.prog X.w X.K X.mg X.base c x k fn) (hr : Room (k + 1) X.A) (tk : Takes X W) (ha : PAM ct X W (e :: es) t mt) (hg : Gl X x := by rfl) (hdb : (x == ("__debug__" : Str)) = false := by decide) (he : starEach (e :: es) X.env = (false, eval e X.env) :: starEach es X.env := by rfl) (hpl : (backTo pos (starEach es X.env)).any (·.1) = false := by rfl) :
    PEM ct X W (.Call (.Name x p) (e :: es) [] pos) (tMakeS (ct c) (spM ⟨X.K, ct⟩ fn) (WE W) t) (mMkF c fn mt) := by
  obtain ⟨f, fd, ps, F, hm, hb⟩ := I.ex
  exact ⟨pe_makeS hm F hr hg I.gm hb (fun σ => passAt tk σ) ha.pe hdb he hpl, sim_mkF (K := ⟨X.K, ct⟩) c ha.sim⟩
theorem e_meth {pl : Sem Bool} (T : MethT ct X.prog X.w X.K X.mg X.base m k tb) (hr : Room k X.A) (tk : Takes X W) (h : PEM ct X W o ta ma) (ha : PAM ct X W (e :: es) t mt) (ne : tb ≠ [] := by exact List.cons_ne_nil _ _)
    (hst : starEach (e :: es) X.env = (false, eval e X.env) :: starEach es X.env := by rfl) (hpl : (backTo pos (starEach es X.env)).any (·.1) = false := by rfl)
    (ht : eval (.Call (.Attribute o m apos) (e :: es) [] pos) X.env = (eval o X.env >>= fun ov => standAt apos.atName >>= fun _ => holding [ov] (getMethod ov m pl) >>= fun (f, first) => callWith pos f first (backTo pos (starEach (e :: es) X.env)) (backToKw pos (keywordEach [] X.env))) := by rfl) :
    PEM ct X W (.Call (.Attribute o m apos) (e :: es) [] pos) (tMethT ct X.K m W tb ta t) (mMeth m tb ma mt) :=
  ⟨PE.ex fun i hi => by
    have J := T i hi
    obtain ⟨f, fd, ps, F, hm, hb⟩ := J.ex
    exact pe_methE h.pe J.cls hm F hr hb (fun σ => passAt tk σ) ha.pe hst hpl ht, sim_meth (K := ⟨X.K, ct⟩) ne h.sim ha.sim⟩
theorem e_meth0 {pl : Sem Bool} (T : MethT ct X.prog X.w X.K X.mg X.base m k tb) (hr : Room k X.A) (tk : Takes X W) (h : PEM ct X W o ta ma) (ne : tb ≠ [] := by exact List.cons_ne_nil _ _)
    (ht : eval (.Call (.Attribute o m apos) [] [] pos) X.env = (eval o X.env >>= fun ov => standAt apos.atName >>= fun _ => holding [ov] (getMethod ov m pl) >>= fun (f, first) => callWith pos f first (backTo pos (starEach [] X.env)) (backToKw pos (keywordEach [] X.env))) := by rfl) :
    PEM ct X W (.Call (.Attribute o m apos) [] [] pos) (tMethT ct X.K m W tb ta tNil) (mMeth m tb ma aNil) :=
  ⟨PE.ex fun i hi => by
    have J := T i hi
    obtain ⟨f, fd, ps, F, hm, hb⟩ := J.ex
    exact pe_methE0 h.pe J.cls hm F hr hb (fun σ => passAt tk σ) ht, sim_meth (K := ⟨X.K, ct⟩) ne h.sim sim_nil⟩
theorem e_isiO {y : Str} {T : String} {bs ds : List (String × Bool)} (I : IsiI ct X.K T ds bs) (hmi : X.mg "isinstance" = none) (hmT : X.mg y = some (.ref (ct T))) (ha : PEM ct X W e ta ma) (hgi : Gl X "isinstance" := by rfl) (hgT : Gl X y := by rfl) (hdb : (y == ("__debug__" : Str)) = false := by decide)
    (hs : starEach [.Name y p2] X.env = (false, eval (.Name y p2) X.env) :: starEach [] X.env := by rfl) (he : starEach [e, .Name y p2] X.env = (false, eval e X.env) :: starEach [.Name y p2] X.env := by rfl) (hpl : (backTo pos (starEach [.Name y p2] X.env)).any (·.1) = false := by rfl) :
    PEM ct X W (.Call (.Name "isinstance" p) [e, .Name y p2] [] pos) (tCB (rIsi X.K) (tCons ta (tCons (tC (.ref (ct T))) tNil))) (mUn (oIsiO ds bs) ma) :=
  ⟨pe_callB call_isi hgi hmi (by decide +kernel) (pa_cons ha.pe (pa_cons (pe_glob hgT hmT rfl hdb) pa_nil hs) he) (by decide) (by decide) he hpl, sim_isiO (K := ⟨X.K, ct⟩) I ha.sim⟩
end
end M

namespace M
open PySem L2
open Classical

/-! ## class facts at ctOf -/
section
variable {K : PySem.W.Frag} {n d : String} {C D f : Addr} {m : Str}
theorem cls_mk (e : ctOf K n = C) (pg : PySem.W.plainGet K C Str.empty = true) (hd : PySem.W.hasDictIn K C = true) (po : PySem.W.plainOver K C = true) (sa : PySem.W.findIn K (.ref C) "__setattr__" = some (some (.builtin "object.__setattr__"))) : Cls K (ctOf K n) := by
  rw [e]; exact ⟨pg, hd, po, sa⟩
theorem na_mk (e : ctOf K n = C) (h : PySem.W.findIn K (.ref C) m = some none) : NoAttr K (ctOf K n) m := by rw [e]; exact h
theorem meth_mk (e : ctOf K n = C) (a : PySem.W.findIn K (.ref C) m = some (some (.ref f))) (i : PySem.W.isFn K (.ref f) = true) (k : PySem.W.keepIn K (.ref f) = true) : Meth K (ctOf K n) m f := by rw [e]; exact ⟨a, i, k⟩
theorem mk_mk (e : ctOf K n = C) (m : PySem.W.makesIn K C = true) (a : PySem.W.findIn K (.ref C) "__init__" = some (some (.ref f))) (i : PySem.W.isFn K (.ref f) = true) (k : PySem.W.keepIn K (.ref C) = true) : Mk K (ctOf K n) f := by rw [e]; exact ⟨m, a, i, k⟩
theorem ins_mk (e : ctOf K n = C) (cl : Cls K (ctOf K n)) (ha : PySem.W.findIn K (.ref C) "__class__" = some (some (.builtin "object.__class__"))) (hn : PySem.W.specialIn K (.builtin "object.__class__") "__get__" = some (some (.builtin "getset_descriptor.__get__"))) (ht : PySem.W.takesIn K (.builtin "object.__class__") = some true)
    (hm : PySem.W.mroIn K C (.type "object") = some true) : InsC K (ctOf K n) := ⟨cl, by rw [e]; exact ha, hn, ht, by rw [e]; exact hm⟩
theorem kit_sub {b : Bool} {t : Value} (hd : PySem.W.hasDictIn K D = true) (ty : PySem.W.typeIn K (.ref D) = some (.type "type")) (me : PySem.W.subIn K (.ref D) (.ref D) = some true) (h : PySem.W.subIn K t (.ref D) = some b) : PySem.W.kitOne K t (.ref D) = some b := by
  unfold PySem.W.kitOne
  by_cases e : (t == Value.ref D) = true
  · rw [if_pos e]
    have q := beq_iff_eq.mp e
    subst q
    rw [me] at h
    exact h
  · rw [if_neg e]
    show (if ((PySem.W.clsIn K D).isSome && PySem.W.typeIn K (.ref D) == some (.type "type")) = true then PySem.W.subIn K t (.ref D) else none) = some b
    have c : (PySem.W.clsIn K D).isSome = true := by
      unfold PySem.W.hasDictIn at hd
      cases z : PySem.W.clsIn K D with
      | none => rw [z] at hd; cases hd
      | some _ => rfl
    rw [c, ty, if_pos (by rfl)]
    exact h
theorem kit_mk {b : Bool} (e : ctOf K n = C) (e2 : ctOf K d = D) (h : PySem.W.kitOne K (.ref C) (.ref D) = some b) : PySem.W.kitOne K (.ref (ctOf K n)) (.ref (ctOf K d)) = some b := by rw [e, e2]; exact h
theorem kitB_mk {b : Bool} {t : String} (e2 : ctOf K d = D) (h : PySem.W.kitOne K (.type t) (.ref D) = some b) : PySem.W.kitOne K (.type t) (.ref (ctOf K d)) = some b := by rw [e2]; exact h
theorem gm_mk {mg : Str → Option Value} {h : Heap} (X : K.In h) (G : h.Ns mainGlobals mg) (a : PySem.W.nsIn K mainGlobals (Str.ofString n) = some (some (.ref C))) : mg (Str.ofString n) = some (.ref (ctOf K n)) := by
  rw [ctOf_eq a]; exact PySem.W.mg_of X G a
end

/-! ## how live instances are asked -/
noncomputable def methR (m : Str) (tb : List (String × FM)) (a : AM) (n : Nat) (o : Option MO) (s : MS) : R MV := methC tb a (.ref n) (clsM m o) s
theorem oMeth_ref {m : Str} {tb : List (String × FM)} {a : AM} {n : Nat} {s : MS} : oMeth m tb a (.ref n) s = methR m tb a n s.G[n]? s := rfl

/-! ## functions by typed data -/
def Inj {α : Type} (e : α → MV) : Prop := ∀ a b, e a = e b → a = b
theorem inj_int : Inj MV.int := fun _ _ h => by cases h; rfl
theorem inj_bl : Inj MV.bl := fun _ _ h => by cases h; rfl
theorem inj_str : Inj MV.str := fun _ _ h => by cases h; rfl
abbrev eL {α : Type} (e : α → MV) : List α → MV := fun xs => .lst (xs.map e)
abbrev eS {α : Type} (e : α → MV) : List α → MV := fun xs => .scr (xs.map e)
abbrev eP {α β : Type} (e : α → MV) (d : β → MV) : α × β → MV := fun p => .tup [e p.1, d p.2]
abbrev eU : Unit → MV := fun _ => .non
abbrev eI : Int → MV := MV.int
abbrev eB : Bool → MV := MV.bl
abbrev eZ : Str → MV := MV.str
theorem map_inj {α : Type} {e : α → MV} (h : Inj e) : ∀ a b : List α, a.map e = b.map e → a = b
  | [], [], _ => rfl
  | [], _ :: _, h => by simp at h
  | _ :: _, [], h => by simp at h
  | x :: xs, y :: ys, q => by
    simp only [List.map_cons, List.cons.injEq] at q
    rw [h x y q.1, map_inj h xs ys q.2]
theorem inj_L {α : Type} {e : α → MV} (h : Inj e) : Inj (eL e) := fun a b q => by
  injection q with q; exact map_inj h a b q
theorem inj_S {α : Type} {e : α → MV} (h : Inj e) : Inj (eS e) := fun a b q => by
  injection q with q; exact map_inj h a b q
theorem inj_P {α β : Type} {e : α → MV} {d : β → MV} (h : Inj e) (k : Inj d) : Inj (eP e d) := fun a b q => by
  simp only [eP, MV.tup.injEq, List.cons.injEq, and_true] at q
  exact Prod.ext (h _ _ q.1) (k _ _ q.2)
theorem inj_U : Inj eU := fun _ _ _ => rfl
section
variable {α β γ δ ε : Type}
noncomputable def sF1 (ea : α → MV) (er : ε → MV) (P : α → Prop) (f : α → ε) : FM := fun ms G => if h : ∃ a, ms = [ea a] ∧ P a then .ok (er (f (choose h))) G else .stuck
noncomputable def sF2 (ea : α → MV) (eb : β → MV) (er : ε → MV) (P : α → β → Prop) (f : α → β → ε) : FM := fun ms G => if h : ∃ p : α × β, ms = [ea p.1, eb p.2] ∧ P p.1 p.2 then .ok (er (f (choose h).1 (choose h).2)) G else .stuck
noncomputable def sF3 (ea : α → MV) (eb : β → MV) (ec : γ → MV) (er : ε → MV) (P : α → β → γ → Prop) (f : α → β → γ → ε) : FM := fun ms G => if h : ∃ p : α × β × γ, ms = [ea p.1, eb p.2.1, ec p.2.2] ∧ P p.1 p.2.1 p.2.2 then .ok (er (f (choose h).1 (choose h).2.1 (choose h).2.2)) G else .stuck
noncomputable def sF4 (ea : α → MV) (eb : β → MV) (ec : γ → MV) (ed : δ → MV) (er : ε → MV) (P : α → β → γ → δ → Prop) (f : α → β → γ → δ → ε) : FM := fun ms G => if h : ∃ p : α × β × γ × δ, ms = [ea p.1, eb p.2.1, ec p.2.2.1, ed p.2.2.2] ∧ P p.1 p.2.1 p.2.2.1 p.2.2.2 then .ok (er (f (choose h).1 (choose h).2.1 (choose h).2.2.1 (choose h).2.2.2)) G else .stuck
noncomputable def sF5 {ζ : Type} (ea : α → MV) (eb : β → MV) (ec : γ → MV) (ed : δ → MV) (ee : ζ → MV) (er : ε → MV) (P : α → β → γ → δ → ζ → Prop) (f : α → β → γ → δ → ζ → ε) : FM := fun ms G => if h : ∃ p : α × β × γ × δ × ζ, ms = [ea p.1, eb p.2.1, ec p.2.2.1, ed p.2.2.2.1, ee p.2.2.2.2] ∧ P p.1 p.2.1 p.2.2.1 p.2.2.2.1 p.2.2.2.2 then .ok (er (f (choose h).1 (choose h).2.1 (choose h).2.2.1 (choose h).2.2.2.1 (choose h).2.2.2.2)) G else .stuck
variable {ea : α → MV} {eb : β → MV} {ec : γ → MV} {ed : δ → MV} {er : ε → MV} {b : SM} {n : Nat} {G : MHeap}
theorem sF1_ev {P : α → Prop} {f : α → ε} (ia : Inj ea) {a : α} (h : P a) : sF1 ea er P f [ea a] G = .ok (er (f a)) G := by
  have q : ∃ a', [ea a] = [ea a'] ∧ P a' := ⟨a, rfl, h⟩
  unfold sF1
  rw [dif_pos q]
  have e := (choose_spec q).1
  have e1 := (List.cons.inj e).1
  rw [← ia _ _ e1]
theorem sF2_ev {P : α → β → Prop} {f : α → β → ε} (ia : Inj ea) (ib : Inj eb) {a : α} {b : β} (h : P a b) : sF2 ea eb er P f [ea a, eb b] G = .ok (er (f a b)) G := by
  have q : ∃ p : α × β, [ea a, eb b] = [ea p.1, eb p.2] ∧ P p.1 p.2 := ⟨(a, b), rfl, h⟩
  unfold sF2
  rw [dif_pos q]
  have e := (choose_spec q).1
  have e1 := (List.cons.inj e).1
  have e2 := (List.cons.inj (List.cons.inj e).2).1
  rw [← ia _ _ e1, ← ib _ _ e2]
theorem sF3_ev {P : α → β → γ → Prop} {f : α → β → γ → ε} (ia : Inj ea) (ib : Inj eb) (ic : Inj ec) {a : α} {b : β} {c : γ} (h : P a b c) : sF3 ea eb ec er P f [ea a, eb b, ec c] G = .ok (er (f a b c)) G := by
  have q : ∃ p : α × β × γ, [ea a, eb b, ec c] = [ea p.1, eb p.2.1, ec p.2.2] ∧ P p.1 p.2.1 p.2.2 := ⟨(a, b, c), rfl, h⟩
  unfold sF3
  rw [dif_pos q]
  have e := (choose_spec q).1
  have e1 := (List.cons.inj e).1
  have e2 := (List.cons.inj (List.cons.inj e).2).1
  have e3 := (List.cons.inj (List.cons.inj (List.cons.inj e).2).2).1
  rw [← ia _ _ e1, ← ib _ _ e2, ← ic _ _ e3]
theorem sF4_ev {P : α → β → γ → δ → Prop} {f : α → β → γ → δ → ε} (ia : Inj ea) (ib : Inj eb) (ic : Inj ec) (id : Inj ed) {a : α} {b : β} {c : γ} {d : δ} (h : P a b c d) : sF4 ea eb ec ed er P f [ea a, eb b, ec c, ed d] G = .ok (er (f a b c d)) G := by
  have q : ∃ p : α × β × γ × δ, [ea a, eb b, ec c, ed d] = [ea p.1, eb p.2.1, ec p.2.2.1, ed p.2.2.2] ∧ P p.1 p.2.1 p.2.2.1 p.2.2.2 := ⟨(a, b, c, d), rfl, h⟩
  unfold sF4
  rw [dif_pos q]
  have e := (choose_spec q).1
  have e1 := (List.cons.inj e).1
  have e2 := (List.cons.inj (List.cons.inj e).2).1
  have e3 := (List.cons.inj (List.cons.inj (List.cons.inj e).2).2).1
  have e4 := (List.cons.inj (List.cons.inj (List.cons.inj (List.cons.inj e).2).2).2).1
  rw [← ia _ _ e1, ← ib _ _ e2, ← ic _ _ e3, ← id _ _ e4]
theorem sF5_ev {ζ : Type} {ee : ζ → MV} {P : α → β → γ → δ → ζ → Prop} {f : α → β → γ → δ → ζ → ε} (ia : Inj ea) (ib : Inj eb) (ic : Inj ec) (id : Inj ed) (ie : Inj ee) {a : α} {b : β} {c : γ} {d : δ} {u : ζ} (h : P a b c d u) : sF5 ea eb ec ed ee er P f [ea a, eb b, ec c, ed d, ee u] G = .ok (er (f a b c d u)) G := by
  have q : ∃ p : α × β × γ × δ × ζ, [ea a, eb b, ec c, ed d, ee u] = [ea p.1, eb p.2.1, ec p.2.2.1, ed p.2.2.2.1, ee p.2.2.2.2] ∧ P p.1 p.2.1 p.2.2.1 p.2.2.2.1 p.2.2.2.2 := ⟨(a, b, c, d, u), rfl, h⟩
  unfold sF5
  rw [dif_pos q]
  have e := (choose_spec q).1
  have e1 := (List.cons.inj e).1
  have e2 := (List.cons.inj (List.cons.inj e).2).1
  have e3 := (List.cons.inj (List.cons.inj (List.cons.inj e).2).2).1
  have e4 := (List.cons.inj (List.cons.inj (List.cons.inj (List.cons.inj e).2).2).2).1
  have e5 := (List.cons.inj (List.cons.inj (List.cons.inj (List.cons.inj (List.cons.inj e).2).2).2).2).1
  rw [← ia _ _ e1, ← ib _ _ e2, ← ic _ _ e3, ← id _ _ e4, ← ie _ _ e5]
theorem sF5_run {ζ : Type} {ee : ζ → MV} {P : α → β → γ → δ → ζ → Prop} {f : α → β → γ → δ → ζ → ε} (h : ∀ x y z u v G, P x y z u v → runB b n [ea x, eb y, ec z, ed u, ee v] G = .ok (er (f x y z u v)) G) (ms : List MV) (G : MHeap) (hn : sF5 ea eb ec ed ee er P f ms G ≠ .stuck) : runB b n ms G = sF5 ea eb ec ed ee er P f ms G := by
  unfold sF5 at hn ⊢
  split at hn
  · rename_i q
    rw [dif_pos q]
    have e := choose_spec q
    have z := h (choose q).1 (choose q).2.1 (choose q).2.2.1 (choose q).2.2.2.1 (choose q).2.2.2.2 G e.2
    rw [← e.1] at z
    exact z
  · exact absurd rfl hn
theorem sF5_len {ζ : Type} {ee : ζ → MV} {P : α → β → γ → δ → ζ → Prop} {f : α → β → γ → δ → ζ → ε} (ms : List MV) (G : MHeap) (hn : sF5 ea eb ec ed ee er P f ms G ≠ .stuck) : ms.length = 5 := by
  unfold sF5 at hn
  split at hn
  · rename_i q; rw [(choose_spec q).1]; rfl
  · exact absurd rfl hn
theorem sF1_run {P : α → Prop} {f : α → ε} (h : ∀ a G, P a → runB b n [ea a] G = .ok (er (f a)) G) (ms : List MV) (G : MHeap) (hn : sF1 ea er P f ms G ≠ .stuck) : runB b n ms G = sF1 ea er P f ms G := by
  unfold sF1 at hn ⊢
  split at hn
  · rename_i q
    rw [dif_pos q]
    have e := choose_spec q
    have z := h (choose q) G e.2
    rw [← e.1] at z
    exact z
  · exact absurd rfl hn
theorem sF2_run {P : α → β → Prop} {f : α → β → ε} (h : ∀ x y G, P x y → runB b n [ea x, eb y] G = .ok (er (f x y)) G) (ms : List MV) (G : MHeap) (hn : sF2 ea eb er P f ms G ≠ .stuck) : runB b n ms G = sF2 ea eb er P f ms G := by
  unfold sF2 at hn ⊢
  split at hn
  · rename_i q
    rw [dif_pos q]
    have e := choose_spec q
    have z := h (choose q).1 (choose q).2 G e.2
    rw [← e.1] at z
    exact z
  · exact absurd rfl hn
theorem sF3_run {P : α → β → γ → Prop} {f : α → β → γ → ε} (h : ∀ x y z G, P x y z → runB b n [ea x, eb y, ec z] G = .ok (er (f x y z)) G) (ms : List MV) (G : MHeap) (hn : sF3 ea eb ec er P f ms G ≠ .stuck) : runB b n ms G = sF3 ea eb ec er P f ms G := by
  unfold sF3 at hn ⊢
  split at hn
  · rename_i q
    rw [dif_pos q]
    have e := choose_spec q
    have z := h (choose q).1 (choose q).2.1 (choose q).2.2 G e.2
    rw [← e.1] at z
    exact z
  · exact absurd rfl hn
theorem sF4_run {P : α → β → γ → δ → Prop} {f : α → β → γ → δ → ε} (h : ∀ x y z u G, P x y z u → runB b n [ea x, eb y, ec z, ed u] G = .ok (er (f x y z u)) G) (ms : List MV) (G : MHeap) (hn : sF4 ea eb ec ed er P f ms G ≠ .stuck) : runB b n ms G = sF4 ea eb ec ed er P f ms G := by
  unfold sF4 at hn ⊢
  split at hn
  · rename_i q
    rw [dif_pos q]
    have e := choose_spec q
    have z := h (choose q).1 (choose q).2.1 (choose q).2.2.1 (choose q).2.2.2 G e.2
    rw [← e.1] at z
    exact z
  · exact absurd rfl hn
theorem sF1_len {P : α → Prop} {f : α → ε} (ms : List MV) (G : MHeap) (hn : sF1 ea er P f ms G ≠ .stuck) : ms.length = 1 := by
  unfold sF1 at hn
  split at hn
  · rename_i q; rw [(choose_spec q).1]; rfl
  · exact absurd rfl hn
theorem sF2_len {P : α → β → Prop} {f : α → β → ε} (ms : List MV) (G : MHeap) (hn : sF2 ea eb er P f ms G ≠ .stuck) : ms.length = 2 := by
  unfold sF2 at hn
  split at hn
  · rename_i q; rw [(choose_spec q).1]; rfl
  · exact absurd rfl hn
theorem sF3_len {P : α → β → γ → Prop} {f : α → β → γ → ε} (ms : List MV) (G : MHeap) (hn : sF3 ea eb ec er P f ms G ≠ .stuck) : ms.length = 3 := by
  unfold sF3 at hn
  split at hn
  · rename_i q; rw [(choose_spec q).1]; rfl
  · exact absurd rfl hn
theorem sF4_len {P : α → β → γ → δ → Prop} {f : α → β → γ → δ → ε} (ms : List MV) (G : MHeap) (hn : sF4 ea eb ec ed er P f ms G ≠ .stuck) : ms.length = 4 := by
  unfold sF4 at hn
  split at hn
  · rename_i q; rw [(choose_spec q).1]; rfl
  · exact absurd rfl hn
end
end M

namespace M
open PySem L2
open Classical

/-! ## live lists looked through -/
mutual
def dn (G : MHeap) : MV → MV
  | .tup xs => .tup (dns G xs)
  | .lst xs => .lst (dns G xs)
  | .scr xs => .scr (dns G xs)
  | .ref n => (match G[n]? with
    | some (.lst xs) => .lst xs
    | _ => .ref n)
  | x => x
def dns (G : MHeap) : List MV → List MV
  | [] => []
  | x :: xs => dn G x :: dns G xs
end
theorem dns_map (G : MHeap) : ∀ xs : List MV, dns G xs = xs.map (dn G)
  | [] => rfl
  | x :: xs => by rw [dns, dns_map G xs]; rfl
mutual
theorem toG_dn (G : MHeap) : ∀ x : MV, toG G x = toD (dn G x)
  | .non => rfl
  | .bl _ => rfl
  | .int _ => rfl
  | .str _ => rfl
  | .tup xs => by rw [toG, dn, toD, toGs_dn G xs]
  | .lst xs => by rw [toG, dn, toD, toGs_dn G xs]
  | .scr xs => by rw [toG, dn, toD, toGs_dn G xs]
  | .obj _ _ _ => rfl
  | .ref n => by
    rw [toG, dn]
    cases G[n]? with
    | none => rfl
    | some o => cases o <;> rfl
  | .err _ => rfl
  | .dic => rfl
theorem toGs_dn (G : MHeap) : ∀ xs : List MV, toGs G xs = toDs (dns G xs)
  | [] => rfl
  | x :: xs => by
    rw [toGs, dns, toDs, toG_dn G x, toGs_dn G xs]
    all_goals (cases toD (dn G x) <;> cases toDs (dns G xs) <;> rfl)
end
theorem oEqG_dn (x y : MV) (s : MS) : oEqG x y s = oEq (dn s.G x) (dn s.G y) s := by
  unfold oEqG oEq
  rw [toG_dn, toG_dn]
  all_goals (cases toD (dn s.G x) <;> cases toD (dn s.G y) <;> rfl)
theorem oNeG_dn (x y : MV) (s : MS) : oNeG x y s = oNe (dn s.G x) (dn s.G y) s := by
  unfold oNeG oNe
  rw [toG_dn, toG_dn]
  all_goals (cases toD (dn s.G x) <;> cases toD (dn s.G y) <;> rfl)
theorem dn_ints (G : MHeap) (ns : List Int) : dns G (ns.map MV.int) = ns.map MV.int := by
  rw [dns_map, List.map_map]; rfl
theorem shp_up {n : Nat} {x : MV} (h : Shp n x) : ∀ {m : Nat}, n ≤ m → Shp m x := by
  induction h with
  | non => intros; exact .non
  | bl => intros; exact .bl
  | int => intros; exact .int
  | str h => intros; exact .str h
  | lst _ ih => intro m hm; cases m with
    | zero => omega
    | succ m => exact .lst fun x hx => ih x hx (by omega)
  | tup _ ih => intro m hm; cases m with
    | zero => omega
    | succ m => exact .tup fun x hx => ih x hx (by omega)
end M
namespace M
open PySem L2
theorem log2_mod (a b : Int) (n : Nat) (h : 0 < b) (hb : b.natAbs.log2 < n) : (a % b).natAbs.log2 < n := by
  have h1 := Int.emod_nonneg a (show b ≠ 0 by omega)
  have h2 := Int.emod_lt_of_pos a h
  exact Nat.lt_of_le_of_lt (log2_mono (show (a % b).natAbs ≤ b.natAbs by omega)) hb
theorem log2_div (a b : Int) (n : Nat) (h : 0 < b) (ha : a.natAbs.log2 < n) : (a / b).natAbs.log2 < n := by
  refine Nat.lt_of_le_of_lt (log2_mono ?_) ha
  exact Int.natAbs_ediv_le_natAbs a b
theorem log2_neg (a : Int) (n : Nat) (ha : a.natAbs.log2 < n) : (-a).natAbs.log2 < n := by rwa [Int.natAbs_neg]
theorem log2_ite {c : Prop} [Decidable c] {a b : Int} {n : Nat} (ha : a.natAbs.log2 < n) (hb : b.natAbs.log2 < n) : (if c then a else b).natAbs.log2 < n := by split <;> assumption
end M
namespace M
open PySem L2
abbrev eN : Nat → MV := fun n => .int (n : Int)
theorem inj_N : Inj eN := fun a b h => by
  have := MV.int.inj h
  omega
abbrev eT : List Int → MV := fun xs => .tup (xs.map MV.int)
theorem inj_T : Inj eT := fun a b q => by
  injection q with q; exact map_inj inj_int a b q
abbrev eIs : List Int → MV := fun xs => .lst (xs.map MV.int)
theorem inj_Is : Inj eIs := inj_L inj_int
abbrev eF : Int × Int → MV := fun p => .tup [.int p.1, .int p.2]
theorem inj_F : Inj eF := fun a b q => by
  simp only [eF, MV.tup.injEq, List.cons.injEq, and_true, MV.int.injEq] at q
  exact Prod.ext q.1 q.2
def sml (n : Nat) (ns : List Int) : Prop := ∀ z ∈ ns, z.natAbs.log2 < n
theorem sml_up {n m : Nat} {ns : List Int} (h : sml n ns) (k : n ≤ m) : sml m ns := fun z hz => Nat.lt_of_lt_of_le (h z hz) k
theorem getD_in (xs : List Int) (i : Nat) (h : i < xs.length) : xs.getD i 0 = xs[i] := by simp [List.getD, h]
theorem getD_out (xs : List Int) (i : Nat) (h : xs.length ≤ i) : xs.getD i 0 = 0 := by simp [List.getD, h]
theorem sml_at {n : Nat} {ns : List Int} (hn : 0 < n) (h : sml n ns) (i : Nat) : (ns.getD i 0).natAbs.log2 < n := by
  by_cases hi : i < ns.length
  · rw [getD_in _ _ hi]; exact h _ (List.getElem_mem hi)
  · rw [getD_out _ _ (by omega)]; exact hn
theorem sml_append {n : Nat} {xs ys : List Int} (h : sml n xs) (k : sml n ys) : sml n (xs ++ ys) := fun z hz => by
  rcases List.mem_append.mp hz with hz | hz
  · exact h z hz
  · exact k z hz
theorem oIdx_ints {xs : List Int} {i : Int} {s : MS} (h : 0 ≤ i) (h2 : i < xs.length) : oIdx (.lst (xs.map MV.int)) (.int i) s = .ok (.int (xs.getD i.toNat 0)) s := by
  have h3 : i.toNat < xs.length := by omega
  rw [oIdx_lst h]; simp [h3, ofO]
theorem oAdd_ints {xs ys : List Int} {s : MS} (h : xs.length + ys.length ≤ 16777216) : oAdd (.lst (xs.map MV.int)) (.lst (ys.map MV.int)) s = .ok (.lst ((xs ++ ys).map MV.int)) s := by
  rw [oAdd_lst (by simpa using h), List.map_append]
theorem nAdd_ints {xs ys : List Int} {s : MS} (h : xs.length + ys.length ≤ 16777216) : nAdd (.lst (xs.map MV.int)) (.lst (ys.map MV.int)) s = .ok (.lst ((xs ++ ys).map MV.int)) s := by
  rw [nAdd_lst (by simpa using h), List.map_append]
theorem cN0 : ((0 : Nat) : Int) = 0 := rfl
theorem cN1 : ((1 : Nat) : Int) = 1 := rfl
theorem cN2 : ((2 : Nat) : Int) = 2 := rfl
theorem cN3 : ((3 : Nat) : Int) = 3 := rfl
theorem cN4 : ((4 : Nat) : Int) = 4 := rfl
theorem cN5 : ((5 : Nat) : Int) = 5 := rfl
theorem cN6 : ((6 : Nat) : Int) = 6 := rfl
theorem cN7 : ((7 : Nat) : Int) = 7 := rfl
theorem cN8 : ((8 : Nat) : Int) = 8 := rfl
theorem cN9 : ((9 : Nat) : Int) = 9 := rfl
theorem cN10 : ((10 : Nat) : Int) = 10 := rfl
theorem mapInt_len (xs : List Int) : (xs.map MV.int).length = xs.length := List.length_map _
theorem range_map_succ {α : Type} (f : Nat → α) (n : Nat) : (List.range (n + 1)).map f = (List.range n).map f ++ [f n] := by
  rw [List.range_succ, List.map_append]; rfl
end M

namespace M
open PySem L2
open Classical

/-! ## raise -/
def mRaise (c : String) : SM := fun s => .exc c s
structure RaiI (ct : String → Addr) (K : PySem.W.Frag) (mg : Str → Option Value) (c : String) (x : Str) : Prop where
  gC : mg x = some (.ref (ct c))
  q : PySem.W.excIn K (ct c) [.type "ValueError", .type "Exception", .type "BaseException", .type "object"] "ValueError.__new__" = true
  kC : PySem.W.keepIn K (.ref (ct c)) = true
  b : PySem.W.subIn K (.ref (ct c)) (.type "BaseException") = some true
  t : PySem.W.typeIn K (.ref (ct c)) = some (.type "type")
theorem rai_mk {K : PySem.W.Frag} {mg : Str → Option Value} {n : String} {C : Addr} (e : ctOf K n = C) (gm : mg (Str.ofString n) = some (.ref (ctOf K n))) (q : PySem.W.excIn K C [.type "ValueError", .type "Exception", .type "BaseException", .type "object"] "ValueError.__new__" = true)
    (kC : PySem.W.keepIn K (.ref C) = true) (b : PySem.W.subIn K (.ref C) (.type "BaseException") = some true) (t : PySem.W.typeIn K (.ref C) = some (.type "type")) : RaiI (ctOf K) K mg n (Str.ofString n) :=
  ⟨gm, by rw [e]; exact q, by rw [e]; exact kC, by rw [e]; exact b, by rw [e]; exact t⟩
theorem s_raise {ct : String → Addr} {X : Cx} {W : WX} {c : String} {x m : Str} {j : Nat} {p p2 pos rpos : Pos} (I : RaiI ct X.K X.mg c x) (tk : Takes X W) (hc : X.calm = true := by rfl) (hg : Gl X x := by rfl) (hdb : (x == ("__debug__" : Str)) = false := by decide) :
    PSM ct X W (.Raise (some (.Call (.Name x p) [.Constant (.str m) j p2] [] pos)) none rpos) (fun _ σ H => W (.ref (ct c)) none σ H) (mRaise c) :=
  ⟨ps_raise hc tk (pmk_own PySem.F.excBase_ValueError I.q I.gC I.kC (raises_own I.b I.t) hg hdb), fun X ρ O s σ H D S p => p ρ O σ H S Fut.refl⟩
theorem set_same {α : Type} {l : List α} {n : Nat} {x : α} (h : l[n]? = some x) : l.set n x = l := by
  have hl := (List.getElem?_eq_some_iff.mp h).1
  apply List.ext_getElem?
  intro i
  by_cases e : n = i
  · subst e; rw [List.getElem?_set_self hl, h]
  · rw [List.getElem?_set_ne e]
/-! ## closed parts: the kernel does not look into them -/
noncomputable def shut {α : Type} (x : α) : α := Classical.choose (⟨x, rfl⟩ : ∃ y, y = x)
theorem shut_eq {α : Type} (x : α) : shut x = x := Classical.choose_spec (⟨x, rfl⟩ : ∃ y, y = x)
theorem b_shut {ct : String → Addr} {X : Cx} {W : WX} {sts : List Stmt} {t : TS} {m : SM} (h : PSsM ct X W sts t m) : PSsM ct X W sts t (shut m) := by rw [shut_eq]; exact h
theorem e_gintE {ct : String → Addr} {X : Cx} {W : WX} {pos : Pos} {x : Str} {i : Int} (hm : ∃ t, X.mg x = some (.int i t)) (hg : Gl X x := by rfl) (hd : (x == ("__debug__" : Str)) = false := by decide) : PEM ct X W (.Name x pos) (tC (.int i)) (mCon (.int i)) := by
  obtain ⟨t, h⟩ := hm
  exact e_gint h hg hd
theorem e_gstrE {ct : String → Addr} {X : Cx} {W : WX} {pos : Pos} {x : Str} {i : Str} (hm : ∃ t, X.mg x = some (.str i t)) (hg : Gl X x := by rfl) (hd : (x == ("__debug__" : Str)) = false := by decide) : PEM ct X W (.Name x pos) (tC (.str i)) (mCon (.str i)) := by
  obtain ⟨t, h⟩ := hm
  exact e_gstr h hg hd
end M

namespace M
open PySem L2
open Classical

/-! ## new live lists told by functions -/
theorem lcEndF_of {g : GM} {t : TM} {e : EM} {vs : List Nat} {xs ys : List MV} {s s' : MS} (h : lcEnd g t e vs xs s = .ok (.lst ys) s') : lcEndF g t e vs xs s = .ok (.lst ys) s' := by
  unfold lcEnd at h
  unfold lcEndF
  by_cases h1 : lim xs.length
  · rw [if_pos h1] at h ⊢
    by_cases h2 : noOw s.env vs = true
    · rw [if_pos h2] at h ⊢
      cases e1 : lcM g t e vs (wipeE s.env vs) xs [] s.G with
      | ok zs s2 => rw [e1] at h; cases h; rfl
      | exc c s2 => rw [e1] at h; cases h
      | stuck => rw [e1] at h; cases h
    · rw [if_neg h2] at h; cases h
  · rw [if_neg h1] at h; cases h
section
variable {α β : Type}
noncomputable def sL2 (ea : α → MV) (eb : β → MV) (P : α → β → Prop) (f : α → β → List Int) : FM := fun ms G => if h : ∃ p : α × β, ms = [ea p.1, eb p.2] ∧ P p.1 p.2 then .ok (.ref G.length) (G ++ [.lst ((f (choose h).1 (choose h).2).map MV.int)]) else .stuck
variable {ea : α → MV} {eb : β → MV} {b : SM} {n : Nat} {G : MHeap}
theorem sL2_ev {P : α → β → Prop} {f : α → β → List Int} (ia : Inj ea) (ib : Inj eb) {a : α} {b : β} (h : P a b) : sL2 ea eb P f [ea a, eb b] G = .ok (.ref G.length) (G ++ [.lst ((f a b).map MV.int)]) := by
  have q : ∃ p : α × β, [ea a, eb b] = [ea p.1, eb p.2] ∧ P p.1 p.2 := ⟨(a, b), rfl, h⟩
  unfold sL2
  rw [dif_pos q]
  have e := (choose_spec q).1
  have e1 := (List.cons.inj e).1
  have e2 := (List.cons.inj (List.cons.inj e).2).1
  rw [← ia _ _ e1, ← ib _ _ e2]
theorem sL2_run {P : α → β → Prop} {f : α → β → List Int} (h : ∀ x y G, P x y → runB b n [ea x, eb y] G = .ok (.ref G.length) (G ++ [.lst ((f x y).map MV.int)])) (ms : List MV) (G : MHeap) (hn : sL2 ea eb P f ms G ≠ .stuck) : runB b n ms G = sL2 ea eb P f ms G := by
  unfold sL2 at hn ⊢
  split at hn
  · rename_i q
    rw [dif_pos q]
    have e := choose_spec q
    have z := h (choose q).1 (choose q).2 G e.2
    rw [← e.1] at z
    exact z
  · exact absurd rfl hn
theorem sL2_len {P : α → β → Prop} {f : α → β → List Int} (ms : List MV) (G : MHeap) (hn : sL2 ea eb P f ms G ≠ .stuck) : ms.length = 2 := by
  unfold sL2 at hn
  split at hn
  · rename_i q; rw [(choose_spec q).1]; rfl
  · exact absurd rfl hn
end
end M

namespace M
open PySem L2 PyProof.Rows
open Classical

/-! ## divmod by a positive divisor -/
noncomputable def bDivmod : List MV → EM := fun xs s => match xs with
  | [.int i, .int j] => if 0 < j ∧ divOk j then .ok (.tup [.int (i / j), .int (i % j)]) s else .stuck
  | _ => .stuck
def rDivmod : List V → Hp → VK → Prop := fun xs H Q => ∃ i j, xs = [.int i, .int j] ∧ L2.CDivP i j ∧ ∀ p, H p = none → Q (.ref p) (upd H p (.tup [.int (i / j), .int (i % j)]))
variable {K : KA}
theorem sc_divmod : SimC K rDivmod bDivmod := by
  intro X W ρ O s σ H xs vs Q S r p
  cases r with
  | nil => exact p.elim
  | cons r1 rr => cases rr with
    | nil => cases r1 <;> exact p.elim
    | cons r2 r3 => cases r3 with
      | cons _ _ => cases r1 <;> first | exact p.elim | (cases r2 <;> exact p.elim)
      | nil => cases r1 with
        | int i => cases r2 with
          | int j =>
            unfold bDivmod at p
            by_cases h : 0 < j ∧ divOk j
            · simp only [if_pos h] at p
              refine ⟨i, j, rfl, ⟨h.1, ?_⟩, fun q hq => p.grown S (Ex.new hq) (.tup (.inl (.inl (S.view_new hq))) (.cons (.int _) (.cons (.int _) .nil)))⟩
              exact PyProof.noPylong_of_log2 h.2
            · simp only [if_neg h] at p; exact p.elim
          | _ => exact p.elim
        | _ => exact p.elim
theorem divmod_ev {i j : Int} {s : MS} (h : 0 < j) (hd : divOk j) : bDivmod [.int i, .int j] s = .ok (.tup [.int (i / j), .int (i % j)]) s := by
  unfold bDivmod
  simp only [if_pos (show 0 < j ∧ divOk j from ⟨h, hd⟩)]

/-! ## a function that is never reached: the ground of a recursion -/
def mfNo : FM := fun _ _ => .stuck
theorem no_ok {P : Program} {w : World} {K : PySem.W.Frag} {ct : String → Addr} {mg : Str → Option Value} {base : Heap} {k : Nat} {f : Addr} {fd : FuncData} {ps : List Str} : FnOk P w K mg base (L2.CX P w) k f fd ps (spM ⟨K, ct⟩ mfNo) :=
  ⟨fun vs H Q E h => by obtain ⟨X, ρ, G, ms, S, r, p⟩ := h; exact p.elim, fun A outer s H args us vs Q E hr he hb hv h => by obtain ⟨X, ρ, G, ms, S, r, p⟩ := h; exact p.elim⟩

/-! ## a op b op c -/
def mChain (f f' : MV → MV → EM) (ma mb mc : EM) : EM := fun s => (ma s).bind fun x s1 => (mb s1).bind fun y s2 => (f x y s2).bind fun z s3 => match z with
  | .bl true => (mc s3).bind fun w s4 => f' y w s4
  | .bl false => .ok (.bl false) s3
  | _ => .stuck
theorem sim_chain {W : WX} {r r' : R2} {f f' : MV → MV → EM} {ta tb tc : TE} {ma mb mc : EM} (ha : SimE K W ta ma) (hb : SimE K W tb mb) (hc : SimE K W tc mc) (hr : SimOp K r f) (hr' : SimOp K r' f') : SimE K W (tChain r r' ta tb tc) (mChain f f' ma mb mc) := by
  intro X ρ O s σ H Q S p
  refine ha.bindE S p fun x s1 ρ1 O1 H1 v S1 F1 r1 p1 => ?_
  refine hb.bindE S1 p1 fun y s2 ρ2 O2 H2 u S2 F2 r2 p2 => ?_
  refine hr X W ρ2 O2 s2 σ H2 x y v u _ S2 (F2.rep r1) r2 ?_
  cases e : f x y s2 with
  | ok z s3 =>
    rw [e] at p2
    intro ρ3 O3 H3 w S3 F3 r3
    have p3 := p2.later F3
    cases z with
    | bl k =>
      cases r3
      refine ⟨k, rfl, ?_⟩
      cases k with
      | false => rw [if_neg (by decide)]; exact p3.done S3 (.bl false)
      | true =>
        rw [if_pos rfl]
        exact hc.bindE S3 p3 fun w s4 ρ4 O4 H4 v4 S4 F4 r4 p4 => hr' X W ρ4 O4 s4 σ H4 y w u v4 Q S4 (F4.rep (F3.rep r2)) r4 p4
    | _ => exact p3.elim
  | exc c s1 => rw [e] at p2; exact p2
  | stuck => rw [e] at p2; exact p2
section
variable {ct : String → Addr} {X : Cx} {W : WX} {a b c : Expr} {ta tb tc : TE} {ma mb mc : EM} {pos : Pos}
theorem e_chain {op op' : CmpOp} {r r' : R2} {f f' : MV → MV → EM} (ho : OpR X (compareOp op) r) (so : SimOp ⟨X.K, ct⟩ r f) (ho' : OpR X (compareOp op') r') (so' : SimOp ⟨X.K, ct⟩ r' f') (ha : PEM ct X W a ta ma) (hb : PEM ct X W b tb mb) (hc : PEM ct X W c tc mc)
    (hm : lastMarks [op, op'] [b, c] = false := by with_unfolding_all rfl) : PEM ct X W (.Compare a [op, op'] [b, c] pos) (tChain r r' ta tb tc) (mChain f f' ma mb mc) := ⟨pe_chain ho ho' ha.pe hb.pe hc.pe hm, sim_chain ha.sim hb.sim hc.sim so so'⟩
theorem t_chain {op op' : CmpOp} {r r' : R2} {f f' : MV → MV → EM} (ho : OpR X (compareOp op) r) (so : SimOp ⟨X.K, ct⟩ r f) (ho' : OpR X (compareOp op') r') (so' : SimOp ⟨X.K, ct⟩ r' f') (ha : PEM ct X W a ta ma) (hb : PEM ct X W b tb mb) (hc : PEM ct X W c tc mc)
    (hm : lastMarks [op, op'] [b, c] = false := by with_unfolding_all rfl) : PTM ct X W (.Compare a [op, op'] [b, c] pos) (tTest (tChain r r' ta tb tc)) (tOf (mChain f f' ma mb mc)) := ⟨pt_chain ho ho' ha.pe hb.pe hc.pe hm, sim_test (sim_chain ha.sim hb.sim hc.sim so so')⟩
end
end M

namespace M
open PySem L2 PyProof.Rows
open Classical

/-! ## loops over typed lists -/
theorem forM_fold {α σ : Type} {g : GM} {b : SM} (e : α → MV) (f : σ → α → σ) (St : σ → MS → Prop) : ∀ (xs : List α) (a : σ) (s : MS), St a s →
    (∀ x ∈ xs, ∀ a s, St a s → ∃ s1 s2, g (e x) s = some s1 ∧ b s1 = .ok .nx s2 ∧ St (f a x) s2) → ∃ s', M.forM g b (xs.map e) s = .ok .nx s' ∧ St (xs.foldl f a) s'
  | [], a, s, h, _ => ⟨s, rfl, h⟩
  | x :: xs, a, s, h, t => by
    obtain ⟨s1, s2, h1, h2, h3⟩ := t x List.mem_cons_self a s h
    obtain ⟨s', h4, h5⟩ := forM_fold e f St xs (f a x) s2 h3 fun y hy => t y (List.mem_cons_of_mem _ hy)
    refine ⟨s', ?_, h5⟩
    rw [List.map_cons]
    unfold M.forM
    simp only [h1, h2]
    exact h4
theorem forM_all {α : Type} {g : GM} {b : SM} (e : α → MV) (St : MS → Prop) (xs : List α) (s : MS) (h : St s)
    (t : ∀ x ∈ xs, ∀ s, St s → ∃ s1 s2, g (e x) s = some s1 ∧ b s1 = .ok .nx s2 ∧ St s2) : ∃ s', M.forM g b (xs.map e) s = .ok .nx s' ∧ St s' :=
  forM_fold (σ := Unit) e (fun _ _ => ()) (fun _ => St) xs () s h fun x hx _ s hs => t x hx s hs
theorem forM_allI {g : GM} {b : SM} (St : MS → Prop) (ns : List Int) (s : MS) (h : St s)
    (t : ∀ x ∈ ns, ∀ s, St s → ∃ s1 s2, g (.int x) s = some s1 ∧ b s1 = .ok .nx s2 ∧ St s2) : ∃ s', M.forM g b (ns.map MV.int) s = .ok .nx s' ∧ St s' := forM_all MV.int St ns s h t
end M

namespace M
open PySem L2 PyProof.Rows
open Classical

/-! ## try .. except C as e: x = e; the error is tracked from there on -/
section
variable {X : Cx} {pins : List (Addr × Obj)} {σ : L2.St} {H : Hp} {s : Shared}
theorem track {a : Addr} {oe : Obj} {φ : Heap → Prop} (I : Inv X pins σ H s) (na : H a = none) (ho : s.heap.get? a = some oe) (nL : a ≠ X.env.locals) (nc : ∀ v, oe.data ≠ .cell v) (np : ∀ p ∈ X.pn ++ pins, p.1 ≠ a)
    (n0 : ∀ o, X.s_0.heap.get? a = some o → a ∈ X.ex) (hφ : φ s.heap) (st : ∀ h1 h2 : Heap, φ h1 → (∀ o, h1.get? a = some o → h2.get? a = some o) → φ h2) : Inv X pins σ (upd H a (.ext φ)) s where
  ok := I.ok
  os := I.os
  bare := I.bare
  base := ⟨I.base.keep, I.base.slot, fun b o e n hx => by
      have hb : b ≠ a := fun z => hx (by subst z; exact n0 o e)
      rw [upd_ne hb]; exact I.base.free b o e n hx, I.base.there,
    fun b xs e => by have z := I.base.tups b xs e; rw [upd_ne (ne_of_none z na)]; exact z,
    fun b o u e => by have z := I.base.frzs b o u e; rw [upd_ne (ne_of_none z na)]; exact z,
    fun b ps e => by obtain ⟨more, z⟩ := I.base.tbls b ps e; exact ⟨more, by rw [upd_ne (ne_of_none z na)]; exact z⟩⟩
  loc := I.loc
  cell := I.cell
  free := by rw [upd_ne (Ne.symm nL)]; exact I.free
  freeC := fun x c e => by
    obtain ⟨v, o, z1, z2⟩ := I.cell x c e
    have hc : c ≠ a := fun z => by
      subst z
      have := Option.some.inj (z1.symm.trans ho)
      subst this
      exact nc v z2
    rw [upd_ne hc]; exact I.freeC x c e
  pin := fun p hp => by
    obtain ⟨e, n, r⟩ := I.pin p hp
    exact ⟨e, by rw [upd_ne (np p hp)]; exact n, r⟩
  hok := fun b u e => by
    by_cases hb : b = a
    · subst hb; rw [upd_same] at e; cases e; exact ⟨hφ, ⟨oe, ho⟩, st⟩
    · rw [upd_ne hb] at e
      exact (I.hok b u e).stay (fun _ _ _ q => q) (fun c q => by rw [upd_ne (ne_of_none q na)]; exact q) fun c xs q => by rw [upd_ne (ne_of_none q na)]; exact q
  len := I.len
/-- an error in hand: what is known of it in the frame that handles it -/
structure Caught (X : Cx) (pins : List (Addr × Obj)) (a : Addr) (cls : Value) (d : Option Addr) (oe : Obj) (h : Heap) : Prop where
  at' : h.get? a = some oe
  zc : Zc cls d oe
  fl : ∃ vs, oe.data = .fields vs
  nL : a ≠ X.env.locals
  nF : a ∉ X.fs
  np : ∀ p ∈ X.pn ++ pins, p.1 ≠ a
  n0 : ∀ o, X.s_0.heap.get? a = some o → a ∈ X.ex
theorem caught_of {B : Heap} {a : Addr} {cls : Value} {d : Option Addr} {h3 : Heap} (hs : X.stack = X.env :: X.outer) (hf : X.env.frame = some X.env.locals) (J : Inv X pins σ H s) (nb : ∀ b o, s.heap.get? b = some o → b ∉ frs X.stack → B.get? b = some o)
    (fl : HandSPX.FlyingZ B (X.env :: X.outer) a (Zc cls d) h3) : ∃ oe, Caught X pins a cls d oe h3 := by
  obtain ⟨oe, vs, g1, g2, g3⟩ := fl.there
  have out : a ∉ frs (X.env :: X.outer) := fun hm => by
    obtain ⟨_, o2, g4, g5⟩ := fl.2.2.1.mem hm
    have := Option.some.inj (g1.symm.trans g4)
    subst this
    exact g5 _ g3
  have outS : a ∉ frs X.stack := by rw [hs]; exact out
  have gone : s.heap.get? a = none := by
    cases q : s.heap.get? a with
    | none => rfl
    | some o => have z := nb a o q outS; rw [fl.2.1] at z; cases z
  refine ⟨oe, g1, g2, ⟨vs, g3⟩, fun z => out (List.mem_filterMap.mpr ⟨X.env, List.mem_cons_self, by rw [hf, z]⟩), fun hm => ?_, fun p hp z => ?_, fun o e => ?_⟩
  · obtain ⟨e, he, q⟩ := List.mem_filterMap.mp hm
    exact out (List.mem_filterMap.mpr ⟨e, List.mem_cons_of_mem _ he, q⟩)
  · have := (J.pin p hp).1
    rw [z, gone] at this; cases this
  · refine Classical.byContradiction fun hx => ?_
    obtain ⟨o2, z⟩ := J.base.there a o e hx
    rw [gone] at z; cases z
end
def wKeep (K : PySem.W.Frag) (c : Value) (i : Nat) (ts : TS) (Wout : WX) (D : Ends) : WX := fun cls d σ H => ∃ b, PySem.W.exmOne K cls c = some b ∧
  (b = true → ∃ C, cls = .ref C ∧ d = none ∧ ∀ a, H a = none → ts { nx := fun σ' H' => D.nx (σ'.set i none) (upd H' a (ErrO C a)), rt := fun _ _ => False } (σ.set i (some (.ref a))) H) ∧ (b = false → Wout cls d σ H)
section
variable {X : Cx} {x n : Str} {c : Value} {i : Nat} {body suite : List Stmt} {b₀ : Stmt} {np pos pos' : Pos} {R : WX → TS → Prop} {ts : TS} {Wout : WX}
/-- the wish at the body's end, where clauses follow -/
def xeTry (X : Cx) (pins : List (Addr × Obj)) (D : Ends) (hds : List ExceptHandler) (e : Value) (t : Shared) : Prop :=
  wpAny (model X.prog X.w) X.A (noteFrame e X.env) (fun _ t1 => wpAny (model X.prog X.w) X.A (setFlight e none)
    (fun _ t2 => wpAny (model X.prog X.w) X.A (handleBy e X.env hds) (SP X pins D) X.xe t2) X.xe t1) X.xe t
theorem errO_st {C a : Addr} : ∀ h1 h2 : Heap, (∃ (oe : Obj) (vs : Array Value), h1.get? a = some oe ∧ Zc (.ref C) none oe ∧ oe.data = .fields vs) → (∀ o, h1.get? a = some o → h2.get? a = some o) → ∃ (oe : Obj) (vs : Array Value), h2.get? a = some oe ∧ Zc (.ref C) none oe ∧ oe.data = .fields vs :=
  fun h1 h2 ⟨oe, vs, x, y⟩ k => ⟨oe, vs, k _ x, y⟩
theorem ps_keep (hs : X.stack = X.env :: X.outer) (hf : X.env.frame = some X.env.locals) (hN : X.N.Nodup) (hi : X.N[i]? = some n) (hln : X.env.kindOf n = some .local) (hc : Names X x c) (tk : Takes X Wout)
    (hb : ∀ (W : WX) (pn : List (Addr × Obj)) (xe : Value → Shared → Prop), Takes (X.tr pn xe) W → PassesOwn (model X.prog X.w) X.A X.env xe → ∃ tb, PSs (X.tr pn xe) body tb ∧ R W tb)
    (hsu : ∀ (a : Addr) (oe : Obj) (pn : List (Addr × Obj)), PSs (X.suite a ((a, oe) :: pn)) (b₀ :: suite) ts) :
    PS X (.Try body [.ExceptHandler (some (.Name x np)) (some n) (b₀ :: suite) pos'] [] [] pos) (fun D σ H => ∀ tb, R (wKeep X.K c i ts Wout D) tb → tb D σ H) := by
  refine ⟨fun pins s σ H D I h => ?_⟩
  have kok := I.ok
  have frm : X.A.frames = some (X.env :: X.outer) := kok.frames.trans (congrArg some hs)
  have take : Takes (X.tr (X.pn ++ pins) (xeTry X pins D [.ExceptHandler (some (.Name x np)) (some n) (b₀ :: suite) pos'])) (wKeep X.K c i ts Wout D) := by
    intro u t xx
    obtain ⟨a, B, t0, pl, σ1, H1, cls, d, rfl, J0, nb, up, sky, na, os, ag, b, hb1, yes, no⟩ := xx
    have J : Inv X pins σ1 H1 t0 := J0.ofTry kok
    have sky1 : Sky B (X.env :: X.outer) a (Zc cls d) X.env.locals t.heap := hs ▸ sky
    refine Sky.land Zc.steady frm hf sky1 fun h3 fl3 up3 => ?_
    obtain ⟨o3, C3⟩ := caught_of hs hf J nb fl3
    have J3 : Inv X pins σ1 H1 { t with heap := h3 } := Inv.landed J nb fl3.1 (up.trans up3) os ag
    obtain ⟨v3, e3⟩ := C3.fl
    have S3 := Inv.suite J3 C3.at' e3 na C3.nL C3.nF
    have look : PySem.W.Looks (model X.prog X.w) h3 (excMatches (.ref a) c) b := PySem.W.exm_one J3.kIn (fun A Q E t k q => wpAny_typeOf_ref (k _ _ C3.at') (by rw [C3.zc.1]; exact q)) hb1
    have clause : ∀ {Q : Value → Shared → Prop} {E : Value → Shared → Prop}, Q c { t with heap := h3 } → wpAny (model X.prog X.w) (X.A.mark (some (.ref a))) (eval (.Name x np) X.env) Q E { t with heap := h3 } := by
      intro Q E q
      rcases hc with ⟨hg, hd, hm | ⟨hm, hv, hn⟩⟩
      · exact ld_glob (X := X.suite a ((a, o3) :: (X.pn ++ pins))) S3 hg hm q hd
      · exact ld_blt (X := X.suite a ((a, o3) :: (X.pn ++ pins))) S3 hg hm hv q hn hd
    refine wpAny_handleBy_cons (codeAny_handlers_test (clause (look.here ?_))) fun q => nomatch q
    cases b with
    | false =>
      apply wpAny_handleBy_nil
      obtain ⟨_, _, _, oe, vs, T, _, _, g1, _, g3, g4, _⟩ := id fl3
      have on : wpAny (model X.prog X.w) X.A (setFlight (.ref a) X.env.frame) (fun _ t4 => wpAny (model X.prog X.w) X.A (throw (.ref a) : Sem Flow) (SP X pins D) X.xe t4) X.xe { t with heap := h3 } := by
        rw [hf]
        exact HandSPX.setFlight_upZ fl3 fun h4 hd4 up4 => wpAny_throw (tk _ _ ⟨a, B, t0, pins, σ1, H1, cls, d, rfl, J, nb, (up.trans up3).trans up4, Or.inr (Or.inr (hs.symm ▸ hd4)), na, os, ag, no rfl⟩)
      unfold PySem.passOn
      apply wpAny_bind
      apply wpAny_field g1 g3 g4
      rw [if_neg (by simp : ¬ ((Value.ref T == Value.none) = true))]
      first
        | exact wpAny_bind (wpAny_pure (wpAny_bind on))
        | exact wpAny_bind on
    | true =>
      obtain ⟨C, rfl, rfl, go⟩ := yes rfl
      apply codeAny_handlers_suite_as
      refine HandSPX.lands_againZ fl3 fun h4 fl4 up4 => ?_
      obtain ⟨o4, C4⟩ := caught_of hs hf J nb fl4
      obtain ⟨v4, e4⟩ := C4.fl
      have S4 := Inv.suite (Inv.landed (s' := { t with heap := h4 }) J nb fl4.1 ((up.trans up3).trans up4) os ag) C4.at' e4 na C4.nL C4.nF
      refine store_ok (X := X.suite a ((a, o4) :: (X.pn ++ pins))) (v := .ref a) S4 hN hi (.inl hln) rfl (fun t5 S5 => ?_) (.inr hln)
      refine wpAny_mono ((hsu a o4 (X.pn ++ pins)).run [] t5 _ H1 _ S5 (go a na)) (fun f t6 q => ?_) fun _ _ z => z.elim
      cases f with
      | next =>
        obtain ⟨σ6, H6, S6, q6⟩ := q
        obtain ⟨g1, n6, _⟩ := S6.pin (a, o4) (List.mem_append_left _ List.mem_cons_self)
        have I6 := track (φ := fun hh => ∃ (oe : Obj) (vs : Array Value), hh.get? a = some oe ∧ Zc (.ref C) none oe ∧ oe.data = .fields vs) (Inv.unsuite S6 kok) n6 g1 C4.nL (fun v z => by rw [e4] at z; cases z) C4.np C4.n0 ⟨o4, v4, g1, C4.zc, e4⟩ errO_st
        exact gone_ok I6 hN hi hln fun t7 J7 => ⟨_, _, J7, q6⟩
      | brk => obtain ⟨_, _, _, z⟩ := q; exact z.elim
      | cont => obtain ⟨_, _, _, z⟩ := q; exact z.elim
      | ret u => obtain ⟨_, _, _, _, _, z⟩ := q; exact z.elim
  obtain ⟨tb, P, r⟩ := hb _ _ _ take PassesOwn.looking
  apply wpAny_Try_except
  refine wpAny_mono (P.run [] s σ H D (I.toTry _) (h tb r)) (fun f t q => ?_) fun _ _ z => z
  cases f with
  | next => obtain ⟨σ1, H1, J1, q1⟩ := q; exact wpAny_execs_nil ⟨σ1, H1, J1.ofTry kok, q1⟩
  | brk => obtain ⟨σ1, H1, J1, q1⟩ := q; exact ⟨σ1, H1, J1.ofTry kok, q1⟩
  | cont => obtain ⟨σ1, H1, J1, q1⟩ := q; exact ⟨σ1, H1, J1.ofTry kok, q1⟩
  | ret u => obtain ⟨v1, σ1, H1, J1, r1, q1⟩ := q; exact ⟨v1, σ1, H1, J1.ofTry kok, r1, q1⟩
end
end M

namespace M
open PySem L2 PyProof.Rows
open Classical

/-! ## the machine's try, and what is asked of an error -/
def mTry (i j : Nat) (cs : List (String × Bool)) (b : SM) : SM := fun s => match b s with
  | .exc c s1 => (match s1.env[i]? with
    | some _ => (match cs.lookup c with
      | some true => .ok .nx ⟨((s1.env.set i (.sh (.err c))).set j (.sh (.err c))).set i .un, s1.G⟩
      | some false => .exc c s1
      | none => .stuck)
    | none => .stuck)
  | r => r
theorem mTry_ok {i j : Nat} {cs : List (String × Bool)} {b : SM} {s s1 : MS} {x : Fl} (h : b s = .ok x s1) : mTry i j cs b s = .ok x s1 := by unfold mTry; rw [h]
theorem mTry_exc {i j : Nat} {cs : List (String × Bool)} {b : SM} {s s1 : MS} {c : String} {x : SV} (h : b s = .exc c s1) (hi : s1.env[i]? = some x) (hc : cs.lookup c = some true) : mTry i j cs b s = .ok .nx ⟨((s1.env.set i (.sh (.err c))).set j (.sh (.err c))).set i .un, s1.G⟩ := by
  unfold mTry; rw [h]; simp only [hi, hc]
section
variable {K : KA} {W : WX} {mb : SM} {C : String} {cs : List (String × Bool)} {i j : Nat}
theorem ss_keep (hc : ∀ p ∈ cs, PySem.W.exmOne K.F (.ref (K.ct p.1)) (.ref (K.ct C)) = some p.2) {Z : WX → TS → Prop} (hb : ∀ W' tb, Z W' tb → SimS K W' tb mb) :
    SimS K W (fun D σ H => ∀ tb, Z (wKeep K.F (.ref (K.ct C)) i (tAsg (tVar i) (gName j)) W D) tb → tb D σ H) (mTry i j cs mb) := by
  intro X ρ O s σ H D S p tb z
  refine hb _ tb z X ρ O s σ H D S ?_
  unfold mTry at p
  cases e : mb s with
  | ok x s1 => rw [e] at p; cases x <;> exact p
  | stuck => rw [e] at p; exact p.elim
  | exc c s1 =>
    rw [e] at p
    simp only at p
    intro ρ1 O1 σ1 H1 S1 F1
    cases e0 : s1.env[i]? with
    | none => rw [e0] at p; exact p.elim
    | some x0 =>
      rw [e0] at p
      simp only at p
      have hi := (List.getElem?_eq_some_iff.mp e0).1
      cases e1 : cs.lookup c with
      | none => rw [e1] at p; exact p.elim
      | some b =>
        rw [e1] at p
        cases b with
        | false => exact ⟨false, hc _ (lookup_mem e1), (fun q => Bool.noConfusion q), fun _ => p ρ1 O1 σ1 H1 S1 F1⟩
        | true =>
          refine ⟨true, hc _ (lookup_mem e1), fun _ => ⟨_, rfl, rfl, fun a na => ?_⟩, (fun q => Bool.noConfusion q)⟩
          refine ⟨.ref a, ?_, ?_⟩
          · rw [List.getElem?_set_self (by rw [← S1.len]; exact hi)]
          · have S2 := S1.grow (Ex.new (o := ErrO (K.ct c) a) na)
            have r2 : Rep ρ1 K (view X ρ1 O1 (upd H1 a (ErrO (K.ct c) a))) (.err c) (.ref a) := .err (S1.view_new na)
            have S3 := S2.setSh i r2
            have r3 := (fut_unO (X := X) (ρ := ρ1) (O := O1) (H := upd H1 a (ErrO (K.ct c) a)) i).rep r2
            have S4 := S3.setSh j r3
            have S5 := S4.setUn i
            exact p _ _ _ _ S5 (((F1.trans (Fut.grow (Ex.new na))).trans (fut_unO i)).trans ((fut_unO j).trans (fut_unO i)))
end
/-- an own class that an except clause names -/
structure CatI (ct : String → Addr) (K : PySem.W.Frag) (mg : Str → Option Value) (x : Str) (C : String) (cs : List (String × Bool)) : Prop where
  gm : mg x = some (.ref (ct C))
  all : ∀ p ∈ cs, PySem.W.exmOne K (.ref (ct p.1)) (.ref (ct C)) = some p.2
theorem catNil {ct : String → Addr} {K : PySem.W.Frag} {C : String} : ∀ p ∈ ([] : List (String × Bool)), PySem.W.exmOne K (.ref (ct p.1)) (.ref (ct C)) = some p.2 := fun p h => by cases h
theorem catCons {ct : String → Addr} {K : PySem.W.Frag} {C c : String} {b : Bool} {cs : List (String × Bool)} {A D : Addr} (eC : ct C = D) (e : ct c = A) (h1 : PySem.W.subIn K (.ref D) (.type "BaseException") = some true) (hd : PySem.W.hasDictIn K D = true) (ty : PySem.W.typeIn K (.ref D) = some (.type "type")) (h : PySem.W.subIn K (.ref A) (.ref D) = some b)
    (r : ∀ p ∈ cs, PySem.W.exmOne K (.ref (ct p.1)) (.ref (ct C)) = some p.2) : ∀ p ∈ (c, b) :: cs, PySem.W.exmOne K (.ref (ct p.1)) (.ref (ct C)) = some p.2 := fun p q => by
  rcases List.mem_cons.mp q with rfl | q
  · rw [eC, e]; exact PySem.W.exm_ref h1 hd ty h
  · exact r p q
section
variable {ct : String → Addr} {X : Cx} {W : WX} {x n y : Str} {C : String} {cs : List (String × Bool)} {body : List Stmt} {np pos pos' p1 p2 p3 : Pos} {mb : SM}
theorem s_keep (i j : Nat) (hN : X.N.Nodup) (I : CatI ct X.K X.mg x C cs) (tk : Takes X W)
    (hb : ∀ (W : WX) (pn : List (Addr × Obj)) (xe : Value → Shared → Prop), Takes (X.tr pn xe) W → PassesOwn (model X.prog X.w) X.A X.env xe → ∃ tb, PSsM ct (X.tr pn xe) W body tb mb)
    (hs : X.stack = X.env :: X.outer := by rfl) (hf : X.env.frame = some X.env.locals := by rfl) (hi : X.N[i]? = some n := by rfl) (hj : X.N[j]? = some y := by rfl) (hln : X.env.kindOf n = some .local := by rfl) (hg : Gl X x := by rfl) (hdb : (x == ("__debug__" : Str)) = false := by decide)
    (hv : Vis X.env.scope n := by first | exact Or.inl rfl | exact Or.inr (Or.inl rfl) | exact Or.inr (Or.inr rfl)) (hd : (n == ("__debug__" : Str)) = false := by decide) (hcd : (n == ("__classdict__" : Str)) = false := by decide)
    (hx : Loc X.env.scope y := by first | exact Or.inl rfl | exact Or.inr rfl) (hsw : swapsWith (.Name n p2) (some (.Name y p1)) p3.line X.env = pure false := by rfl) (hfn : X.fn y = true ∨ X.env.scope.names.lookup y = some .local := by first | exact .inl rfl | exact .inr rfl) :
    PSM ct X W (.Try body [.ExceptHandler (some (.Name x np)) (some n) [.Assign [.Name y p1] (.Name n p2) p3] pos'] [] [] pos) (fun D σ H => ∀ tb, (fun W tb => SimS ⟨X.K, ct⟩ W tb mb) (wKeep X.K (.ref (ct C)) i (tAsg (tVar i) (gName j)) W D) tb → tb D σ H) (mTry i j cs mb) :=
  ⟨ps_keep (R := fun W tb => SimS ⟨X.K, ct⟩ W tb mb) hs hf hN hi hln ⟨hg, hdb, .inl I.gm⟩ tk (fun W pn xe tk' ps => by
      obtain ⟨tb, P⟩ := hb W pn xe tk' ps
      exact ⟨tb, P.pe, P.sim⟩) (fun a oe pn => pss_one (ps_set (X := X.suite a ((a, oe) :: pn)) hN hj hx (pe_var (X := X.suite a ((a, oe) :: pn)) hi hv hd hcd) hsw hfn)),
    ss_keep (K := ⟨X.K, ct⟩) I.all fun _ _ z => z⟩
end
/-! ## isinstance of an error or None -/
def oIsiE (es bs : List (String × Bool)) : MV → EM := fun x s => match x with
  | .err c => (match es.lookup c with
    | some b => .ok (.bl b) s
    | none => .stuck)
  | x => (match tyG s.G x with
    | some n => (match bs.lookup n with
      | some b => .ok (.bl b) s
      | none => .stuck)
    | none => .stuck)
def rIsX (K : PySem.W.Frag) : List V → Hp → VK → Prop := fun xs H Q => ∃ (a D : Addr) (c : V) (u : Value) (b : Bool), xs = [.ref a, c] ∧ H a = some (ErrO D a) ∧ ExcC K D ∧ ClsV c u ∧ PySem.W.kitOne K (.ref D) u = some b ∧ Q (.bl b) H
theorem call_isX {X : Cx} : CallR X (.builtin "isinstance") (rIsX X.K) := by
  intro pins s σ H xs us Q I r h
  obtain ⟨a, D, c, u, b, rfl, hH, C, hc, e, q⟩ := h
  obtain ⟨u1, u2, rfl, r1, r2⟩ := vals2 r
  cases (show u1 = Value.ref a from r1)
  have e2 := hc.eq r2
  subst e2
  obtain ⟨⟨oe, vs, g1, g2, g3⟩, _⟩ := (show ObjOk X.prog X.w H s.heap a (ErrO D a) from I.hok a _ hH)
  have J : PySem.W.InstAt s.heap a oe D none := by
    rcases oe with ⟨c0, d0, t0, l0⟩
    obtain ⟨z1, z2⟩ := g2
    simp only at z1 z2 g3
    subst z1 z2 g3
    exact ⟨g1, rfl, rfl, trivial⟩
  exact PySem.W.kia_one (PySem.W.handS_kitx_exc C.hg C.hk C.hs C.hd C.ha C.hn C.ht C.hm) I.kIn J e (fun z => nomatch z) fun tk => ⟨.bl b, H, I.tok tk, rfl, q⟩
structure ErrI (ct : String → Addr) (K : PySem.W.Frag) (u : Value) (es bs : List (String × Bool)) : Prop where
  own : ∀ p ∈ es, ExcC K (ct p.1) ∧ PySem.W.kitOne K (.ref (ct p.1)) u = some p.2
  bi : ∀ p ∈ bs, PySem.W.kitOne K (.type p.1) u = some p.2
theorem errNil {ct : String → Addr} {K : PySem.W.Frag} {u : Value} : ∀ p ∈ ([] : List (String × Bool)), ExcC K (ct p.1) ∧ PySem.W.kitOne K (.ref (ct p.1)) u = some p.2 := fun p h => by cases h
theorem errCons {ct : String → Addr} {K : PySem.W.Frag} {u : Value} {c : String} {b : Bool} {es : List (String × Bool)} {A : Addr} (e : ct c = A) (i : ExcC K A) (k : PySem.W.kitOne K (.ref A) u = some b) (r : ∀ p ∈ es, ExcC K (ct p.1) ∧ PySem.W.kitOne K (.ref (ct p.1)) u = some p.2) :
    ∀ p ∈ (c, b) :: es, ExcC K (ct p.1) ∧ PySem.W.kitOne K (.ref (ct p.1)) u = some p.2 := fun p q => by
  rcases List.mem_cons.mp q with rfl | q
  · rw [e]; exact ⟨i, k⟩
  · exact r p q
theorem ebNil {K : PySem.W.Frag} {u : Value} : ∀ p ∈ ([] : List (String × Bool)), PySem.W.kitOne K (.type p.1) u = some p.2 := fun p h => by cases h
theorem ebCons {K : PySem.W.Frag} {u : Value} {c : String} {b : Bool} {bs : List (String × Bool)} (k : PySem.W.kitOne K (.type c) u = some b) (r : ∀ p ∈ bs, PySem.W.kitOne K (.type p.1) u = some p.2) : ∀ p ∈ (c, b) :: bs, PySem.W.kitOne K (.type p.1) u = some p.2 := fun p h => by
  rcases List.mem_cons.mp h with rfl | h
  · exact k
  · exact r p h
theorem sim_isiE {K : KA} {W : WX} {ta : TE} {ma : EM} {c : V} {u : Value} {es bs : List (String × Bool)} (hc : ClsV c u) (I : ErrI K.ct K.F u es bs) (ha : SimE K W ta ma) : SimE K W (tCB (fun xs H Q => rIsi K.F xs H Q ∨ rIsX K.F xs H Q) (tCons ta (tCons (tC c) tNil))) (mUn (oIsiE es bs) ma) := by
  intro X ρ O s σ H Q S p
  refine ha.bindE S p fun x s1 ρ1 O1 H1 v S1 F1 r1 p1 => ?_
  have other : PostE K X W ρ1 O1 H1 σ ((match tyG s1.G x with
    | some n => (match bs.lookup n with
      | some b => .ok (.bl b) s1
      | none => .stuck)
    | none => .stuck) : R MV) Q → rIsi K.F [v, c] H1 Q ∨ rIsX K.F [v, c] H1 Q := fun p1 => by
    cases e2 : tyG s1.G x with
    | none => rw [e2] at p1; exact p1.elim
    | some n =>
      rw [e2] at p1
      simp only at p1
      cases e3 : bs.lookup n with
      | none => rw [e3] at p1; exact p1.elim
      | some b =>
        rw [e3] at p1
        exact .inl ⟨v, _, _, _, b, rfl, hc, tyxG_of S1 r1 e2, I.bi _ (lookup_mem e3), p1.done S1 (.bl _)⟩
  cases x with
  | err k =>
    cases r1 with
    | err h1 =>
      simp only [oIsiE] at p1
      cases e2 : es.lookup k with
      | none => rw [e2] at p1; exact p1.elim
      | some b =>
        rw [e2] at p1
        obtain ⟨C, q⟩ := I.own _ (lookup_mem e2)
        exact .inr ⟨_, _, _, _, b, rfl, (view_some.mp h1).2, C, hc, q, p1.done S1 (.bl _)⟩
  | _ => exact other p1
section
variable {ct : String → Addr} {X : Cx} {W : WX} {e : Expr} {ta : TE} {ma : EM} {p p2 pos : Pos} {y : Str} {es bs : List (String × Bool)}
theorem e_isiE {T : String} (I : ErrI ct X.K (.ref (ct T)) es bs) (hmi : X.mg "isinstance" = none) (hmT : X.mg y = some (.ref (ct T))) (ha : PEM ct X W e ta ma) (hgi : Gl X "isinstance" := by rfl) (hgT : Gl X y := by rfl) (hdb : (y == ("__debug__" : Str)) = false := by decide)
    (hs : starEach [.Name y p2] X.env = (false, eval (.Name y p2) X.env) :: starEach [] X.env := by rfl) (he : starEach [e, .Name y p2] X.env = (false, eval e X.env) :: starEach [.Name y p2] X.env := by rfl) (hpl : (backTo pos (starEach [.Name y p2] X.env)).any (·.1) = false := by rfl) :
    PEM ct X W (.Call (.Name "isinstance" p) [e, .Name y p2] [] pos) (tCB (fun xs H Q => rIsi X.K xs H Q ∨ rIsX X.K xs H Q) (tCons ta (tCons (tC (.ref (ct T))) tNil))) (mUn (oIsiE es bs) ma) :=
  ⟨pe_callB (CallR.or call_isi call_isX) hgi hmi (by decide +kernel) (pa_cons ha.pe (pa_cons (pe_glob hgT hmT rfl hdb) pa_nil hs) he) (by decide) (by decide) he hpl, sim_isiE (K := ⟨X.K, ct⟩) (.own _) I ha.sim⟩
theorem e_isiEB {T : String} (I : ErrI ct X.K (.type T) es bs) (hmi : X.mg "isinstance" = none) (hmT : X.mg y = none) (ha : PEM ct X W e ta ma) (hgi : Gl X "isinstance" := by rfl) (hgT : Gl X y := by rfl) (hvT : bootBuiltins y = some (.type T) := by decide +kernel) (hn : y ≠ "__name__" := by decide) (hdb : (y == ("__debug__" : Str)) = false := by decide)
    (hs : starEach [.Name y p2] X.env = (false, eval (.Name y p2) X.env) :: starEach [] X.env := by rfl) (he : starEach [e, .Name y p2] X.env = (false, eval e X.env) :: starEach [.Name y p2] X.env := by rfl) (hpl : (backTo pos (starEach [.Name y p2] X.env)).any (·.1) = false := by rfl) :
    PEM ct X W (.Call (.Name "isinstance" p) [e, .Name y p2] [] pos) (tCB (fun xs H Q => rIsi X.K xs H Q ∨ rIsX X.K xs H Q) (tCons ta (tCons (tC (.ty T)) tNil))) (mUn (oIsiE es bs) ma) :=
  ⟨pe_callB (CallR.or call_isi call_isX) hgi hmi (by decide +kernel) (pa_cons ha.pe (pa_cons (pe_bltn hgT hmT hvT rfl hn hdb) pa_nil hs) he) (by decide) (by decide) he hpl, sim_isiE (K := ⟨X.K, ct⟩) (.ty _) I ha.sim⟩
end
end M
namespace M
open PySem L2 PyProof.Rows
theorem kit_subT {K : PySem.W.Frag} {C : Addr} {T : String} {b : Bool} (hm : PySem.W.kitMeta T = true) (h : PySem.W.subIn K (.ref C) (.type T) = some b) : PySem.W.kitOne K (.ref C) (.type T) = some b := by
  unfold PySem.W.kitOne
  have e : ¬ ((Value.ref C == Value.type T) = true) := fun q => by have := beq_iff_eq.mp q; cases this
  rw [if_neg e]
  show (if PySem.W.kitMeta T = true then PySem.W.subIn K (.ref C) (.type T) else none) = some b
  rw [if_pos hm]; exact h
end M

namespace M
open PySem L2 PyProof.Rows
open Classical

/-! ## comprehensions over typed lists, with a test -/
section
variable {α : Type} {g : GM} {t : TM} {el : EM} {vs : List Nat} {E0 : List SV} {G : MHeap}
theorem lcM_opt (e : α → MV) (f : α → Option MV) : ∀ (xs : List α) (acc : List MV), (∀ x ∈ xs, ∃ s, lcOne g t el vs E0 (e x) G = .ok (f x) s ∧ s.G = G) → lcM g t el vs E0 (xs.map e) acc G = .ok (acc ++ xs.filterMap f) ⟨E0, G⟩
  | [], acc, _ => by unfold lcM; simp
  | x :: xs, acc, h => by
    obtain ⟨s, h1, h2⟩ := h x (by simp)
    rw [List.map_cons]
    unfold lcM
    rw [h1]
    cases q : f x with
    | none =>
      simp only
      rw [h2, lcM_opt e f xs acc (fun y hy => h y (by simp [hy])), List.filterMap_cons_none q]
    | some y =>
      simp only
      rw [h2, lcM_opt e f xs (acc ++ [y]) (fun y hy => h y (by simp [hy])), List.filterMap_cons_some q]
      simp
theorem lcEnd_typed {xs : List α} {s : MS} (e f : α → MV) (hl : xs.length ≤ 16777216) (hn : noOw s.env vs = true) (h : ∀ x ∈ xs, ∃ s', lcOne g t el vs (wipeE s.env vs) (e x) s.G = .ok (some (f x)) s' ∧ s'.G = s.G) : lcEnd g t el vs (xs.map e) s = .ok (.lst (xs.map f)) s := by
  unfold lcEnd
  rw [if_pos (show lim _ by unfold lim; rw [List.length_map]; exact hl), if_pos hn, lcM_opt e (fun x => some (f x)) xs [] h, List.nil_append]
  simp
theorem lcEnd_test {xs : List α} {s : MS} (e f : α → MV) (p : α → Bool) (hl : xs.length ≤ 16777216) (hn : noOw s.env vs = true) (h : ∀ x ∈ xs, ∃ s', lcOne g t el vs (wipeE s.env vs) (e x) s.G = .ok (if p x = true then some (f x) else none) s' ∧ s'.G = s.G) :
    lcEnd g t el vs (xs.map e) s = .ok (.lst ((xs.filter p).map f)) s := by
  unfold lcEnd
  rw [if_pos (show lim _ by unfold lim; rw [List.length_map]; exact hl), if_pos hn, lcM_opt e (fun x => if p x = true then some (f x) else none) xs [] h, List.nil_append]
  have : xs.filterMap (fun x => if p x = true then some (f x) else none) = (xs.filter p).map f := by
    clear h hl
    induction xs with
    | nil => rfl
    | cons x xs ih => by_cases q : p x = true <;> simp [q, ih]
  rw [this]
end
theorem forM_raw {g : GM} {b : SM} (St : Nat → MS → Prop) : ∀ (xs : List MV) (k : Nat) (s : MS), St k s → (∀ x ∈ xs, ∀ k s, St k s → ∃ s1 s2, g x s = some s1 ∧ b s1 = .ok .nx s2 ∧ St (k + 1) s2) → ∃ s', M.forM g b xs s = .ok .nx s' ∧ St (k + xs.length) s'
  | [], k, s, h, _ => ⟨s, rfl, h⟩
  | x :: xs, k, s, h, t => by
    obtain ⟨s1, s2, h1, h2, h3⟩ := t x List.mem_cons_self k s h
    obtain ⟨s', h4, h5⟩ := forM_raw St xs (k + 1) s2 h3 fun y hy => t y (List.mem_cons_of_mem _ hy)
    refine ⟨s', ?_, by rw [List.length_cons, show k + (xs.length + 1) = k + 1 + xs.length by omega]; exact h5⟩
    unfold M.forM
    simp only [h1, h2]
    exact h4
end M

namespace M
open PySem L2 PyProof.Rows
open Classical

/-! ## texts: operations -/
section
variable {K : KA} {W : WX} {ta tb te : TE} {ma mb me : EM}
noncomputable def bStr : List MV → EM := fun xs s => match xs with
  | [.int i] => if i.natAbs.log2 < 1920 then .ok (.str (toString i)) s else .stuck
  | _ => .stuck
theorem sc_str : SimC K (fun xs H Q => ∃ i, xs = [.int i] ∧ i.natAbs.log2 < 1920 ∧ Q (.str (toString i)) H) bStr := by
  intro X W ρ O s σ H xs vs Q S r p
  cases r with
  | nil => exact p.elim
  | cons r1 rr => cases rr with
    | cons _ _ => cases r1 <;> exact p.elim
    | nil => cases r1 with
      | int i =>
        unfold bStr at p
        by_cases h : i.natAbs.log2 < 1920
        · simp only [if_pos h] at p
          exact ⟨i, rfl, h, p.done S (.str _)⟩
        · simp only [if_neg h] at p; exact p.elim
      | _ => exact p.elim
theorem bStr_ok {i : Int} {s : MS} (h : i.natAbs.log2 < 1920) : bStr [.int i] s = .ok (.str (toString i)) s := if_pos h
noncomputable def bIntS : List MV → EM := fun xs s => match xs with
  | [.str a] => (match PySem.intText? a with
    | some n => if a.length ≤ 640 then .ok (.int n) s else .stuck
    | none => .stuck)
  | _ => .stuck
theorem sc_intS : SimC K (fun xs H Q => ∃ a n, xs = [.str a] ∧ PySem.intText? a = some n ∧ a.length ≤ 640 ∧ Q (.int n) H) bIntS := by
  intro X W ρ O s σ H xs vs Q S r p
  cases r with
  | nil => exact p.elim
  | cons r1 rr => cases rr with
    | cons _ _ => cases r1 <;> exact p.elim
    | nil => cases r1 with
      | str a =>
        unfold bIntS at p
        cases e : PySem.intText? a with
        | none => simp only [e] at p; exact p.elim
        | some n =>
          simp only [e] at p
          by_cases h : a.length ≤ 640
          · simp only [if_pos h] at p
            exact ⟨a, n, rfl, e, h, p.done S (.int _)⟩
          · simp only [if_neg h] at p; exact p.elim
      | _ => exact p.elim
theorem bIntS_ok {a : Str} {n : Int} {s : MS} (e : PySem.intText? a = some n) (h : a.length ≤ 640) : bIntS [.str a] s = .ok (.int n) s := by
  unfold bIntS; simp only [e, if_pos h]
/-! ### methods of a text -/
def mStrM (f : Str → MV → EM) (a b : EM) : EM := fun s => (a s).bind fun x s1 => match x with
  | .str z => (b s1).bind fun y s2 => f z y s2
  | _ => .stuck
def SimM (K : KA) (r : V → List V → Hp → VK → Prop) (f : Str → MV → EM) : Prop := ∀ X W ρ O s σ H z y u Q, SR K X ρ O s σ H → Rep ρ K (view X ρ O H) y u → PostE K X W ρ O H σ (f z y s) Q → r (.str z) [u] H Q
theorem sim_m1 {r : V → List V → Hp → VK → Prop} {f : Str → MV → EM} (ha : SimE K W ta ma) (hb : SimE K W tb mb) (hr : SimM K r f) : SimE K W (tM1 r ta tb) (mStrM f ma mb) := by
  intro X ρ O s σ H Q S p
  refine ha.bindE S p fun x s1 ρ1 O1 H1 v S1 F1 r1 p1 => ?_
  cases r1 with
  | str z => exact ⟨⟨z, rfl⟩, hb.bindE S1 p1 fun y s2 ρ2 O2 H2 u S2 F2 r2 p2 => hr X W ρ2 O2 s2 σ H2 z y u Q S2 r2 p2⟩
  | _ => exact p1.elim
noncomputable def fPart : Str → MV → EM := fun a y s => match y with
  | .str b => if (b.length == 0) = false ∧ lim a.length then .ok (.tup [.str (Txt.partition a b).1, .str (Txt.partition a b).2.1, .str (Txt.partition a b).2.2]) s else .stuck
  | _ => .stuck
def rPart : V → List V → Hp → VK → Prop := fun x xs H Q => ∃ a b, x = .str a ∧ xs = [.str b] ∧ (b.length == 0) = false ∧ a.length ≤ sizeLine ∧
    ∀ p, H p = none → Q (.ref p) (upd H p (.tup [.str (Txt.partition a b).1, .str (Txt.partition a b).2.1, .str (Txt.partition a b).2.2]))
theorem sm_part : SimM K rPart fPart := by
  intro X W ρ O s σ H z y u Q S r p
  cases r with
  | str b =>
    unfold fPart at p
    by_cases h : (b.length == 0) = false ∧ lim z.length
    · simp only [if_pos h] at p
      exact ⟨z, b, rfl, rfl, h.1, by rw [sizeLine_eq]; exact h.2, fun q hq => p.grown S (Ex.new hq) (.tup (.inl (.inl (S.view_new hq))) (.cons (.str _) (.cons (.str _) (.cons (.str _) .nil))))⟩
    · simp only [if_neg h] at p; exact p.elim
  | _ => exact p.elim
theorem Reps.strs {ρ : List Addr} {H : Hp} : ∀ ys : List Str, Reps ρ K H (ys.map MV.str) (ys.map V.str)
  | [] => .nil
  | y :: ys => .cons (.str y) (Reps.strs ys)
noncomputable def fSplit : Str → MV → EM := fun a y s => match y with
  | .str b => if (b.length == 0) = false ∧ a.length + 2 ≤ 16777216 then .ok (.lst ((Txt.split a b).map MV.str)) s else .stuck
  | _ => .stuck
def rSplit : V → List V → Hp → VK → Prop := fun x xs H Q => ∃ a b, x = .str a ∧ xs = [.str b] ∧ (b.length == 0) = false ∧ a.length + 2 ≤ sizeLine ∧ rNewStrs (Txt.split a b) H Q
theorem sm_split : SimM K rSplit fSplit := by
  intro X W ρ O s σ H z y u Q S r p
  cases r with
  | str b =>
    unfold fSplit at p
    by_cases h : (b.length == 0) = false ∧ z.length + 2 ≤ 16777216
    · simp only [if_pos h] at p
      exact ⟨z, b, rfl, rfl, h.1, by rw [sizeLine_eq]; exact h.2, fun q hq => p.grown S (Ex.new hq) (.lst (S.view_new hq) (Reps.strs _))⟩
    · simp only [if_neg h] at p; exact p.elim
  | _ => exact p.elim
def strsOf : List MV → Option (List Str)
  | [] => some []
  | .str z :: xs => (strsOf xs).map (z :: ·)
  | _ => none
theorem strsOf_map : ∀ ys : List Str, strsOf (ys.map MV.str) = some ys
  | [] => rfl
  | y :: ys => by simp [strsOf, strsOf_map ys]
theorem strsOf_reps {ρ : List Addr} {H : Hp} : ∀ {xs : List MV} {vs : List V} {ys : List Str}, strsOf xs = some ys → Reps ρ K H xs vs → vs = ys.map V.str
  | [], _, ys, e, .nil => by cases e; rfl
  | x :: xs, _, ys, e, .cons r t => by
    cases r with
    | str z =>
      simp only [strsOf] at e
      cases e2 : strsOf xs with
      | none => rw [e2] at e; cases e
      | some zs => rw [e2] at e; cases e; rw [strsOf_reps e2 t]; rfl
    | _ => cases e
noncomputable def fJoin : Str → MV → EM := fun a y s => match y with
  | .lst xs => (match strsOf xs with
    | some ys => if (ys.map (·.length)).sum + ys.length * a.length ≤ 16777216 then .ok (.str (Txt.join a ys)) s else .stuck
    | none => .stuck)
  | _ => .stuck
def rJoin (K : PySem.W.Frag) : V → List V → Hp → VK → Prop := fun x xs H Q => ∃ a p, ∃ ys : List Str, x = .str a ∧ xs = [.ref p] ∧ (SqL K H p (ys.map V.str) ∨ SqT K H p (ys.map V.str)) ∧
    (ys.map (·.length)).sum + ys.length * a.length ≤ 16777216 ∧ Q (.str (Txt.join a ys)) H
theorem sm_join : SimM K (rJoin K.F) fJoin := by
  intro X W ρ O s σ H z y u Q S r p
  cases r with
  | lst hx rx =>
    unfold fJoin at p
    simp only at p
    split at p
    · rename_i ys e
      by_cases h : (ys.map (·.length)).sum + ys.length * z.length ≤ 16777216
      · rw [if_pos h] at p
        have e2 := strsOf_reps e rx
        subst e2
        exact ⟨z, _, ys, rfl, rfl, .inl (sqlv hx), h, p.done S (.str _)⟩
      · rw [if_neg h] at p; exact p.elim
    · exact p.elim
  | _ => exact p.elim
theorem fJoin_ok {a : Str} {ys : List Str} {s : MS} (h : (ys.map (·.length)).sum + ys.length * a.length ≤ 16777216) : fJoin a (.lst (ys.map MV.str)) s = .ok (.str (Txt.join a ys)) s := by
  unfold fJoin; simp only [strsOf_map, if_pos h]
noncomputable def fStarts : Str → MV → EM := fun a y s => match y with
  | .str b => .ok (.bl (Txt.startswith a b)) s
  | _ => .stuck
theorem sm_starts : SimM K (fun x xs H Q => ∃ a b, x = .str a ∧ xs = [.str b] ∧ Q (.bl (Txt.startswith a b)) H) fStarts := by
  intro X W ρ O s σ H z y u Q S r p
  cases r with
  | str b => exact ⟨z, b, rfl, rfl, p.done S (.bl _)⟩
  | _ => exact p.elim
noncomputable def fFind : Str → MV → EM := fun a y s => match y with
  | .str b => .ok (.int (Txt.find a b)) s
  | _ => .stuck
theorem sm_find : SimM K (fun x xs H Q => ∃ a b, x = .str a ∧ xs = [.str b] ∧ Q (.int (Txt.find a b)) H) fFind := by
  intro X W ρ O s σ H z y u Q S r p
  cases r with
  | str b => exact ⟨z, b, rfl, rfl, p.done S (.int _)⟩
  | _ => exact p.elim
/-! ### one sign in a text -/
noncomputable def oInS : MV → MV → EM := fun x y s => match x, y with
  | .str a, .str z => if a.cps.size = 1 then .ok (.bl (decide (a.cps.getD 0 0 ∈ z.cps.toList))) s else .stuck
  | _, _ => .stuck
noncomputable def oNotInS : MV → MV → EM := fun x y s => match x, y with
  | .str a, .str z => if a.cps.size = 1 then .ok (.bl (!decide (a.cps.getD 0 0 ∈ z.cps.toList))) s else .stuck
  | _, _ => .stuck
theorem one_sign {a : Str} (h : a.cps.size = 1) : a = ⟨#[a.cps.getD 0 0]⟩ := by
  obtain ⟨c⟩ := a
  simp only at h ⊢
  congr 1
  apply Array.ext
  · simp [h]
  · intro i h1 h2
    have : i = 0 := by omega
    subst this
    simp [Array.getD, h]
theorem so_inSg : SimOp K (fun x y H Q => ∃ (c : Nat) (z : Str), x = .str ⟨#[c]⟩ ∧ y = .str z ∧ Q (.bl (decide (c ∈ z.cps.toList))) H) oInS := by
  intro X W ρ O s σ H x y v u Q S r1 r2 p
  cases r1 with
  | str a => cases r2 with
    | str z =>
      unfold oInS at p
      by_cases h : a.cps.size = 1
      · simp only [if_pos h] at p
        refine ⟨_, z, by rw [← one_sign h], rfl, p.done S (.bl _)⟩
      · simp only [if_neg h] at p; exact p.elim
    | _ => exact p.elim
  | _ => cases r2 <;> exact p.elim
theorem so_notInSg : SimOp K (fun x y H Q => ∃ (c : Nat) (z : Str), x = .str ⟨#[c]⟩ ∧ y = .str z ∧ Q (.bl (!decide (c ∈ z.cps.toList))) H) oNotInS := by
  intro X W ρ O s σ H x y v u Q S r1 r2 p
  cases r1 with
  | str a => cases r2 with
    | str z =>
      unfold oNotInS at p
      by_cases h : a.cps.size = 1
      · simp only [if_pos h] at p
        refine ⟨_, z, by rw [← one_sign h], rfl, p.done S (.bl _)⟩
      · simp only [if_neg h] at p; exact p.elim
    | _ => exact p.elim
  | _ => cases r2 <;> exact p.elim
theorem oNotInS_ok {c : Nat} {z : Str} {s : MS} : oNotInS (.str ⟨#[c]⟩) (.str z) s = .ok (.bl (!decide (c ∈ z.cps.toList))) s := rfl
theorem oInS_ok {c : Nat} {z : Str} {s : MS} : oInS (.str ⟨#[c]⟩) (.str z) s = .ok (.bl (decide (c ∈ z.cps.toList))) s := rfl
end
theorem op_inSg {X : Cx} : OpR X (compareOp .In) (fun x y H Q => ∃ (c : Nat) (z : Str), x = .str ⟨#[c]⟩ ∧ y = .str z ∧ Q (.bl (decide (c ∈ z.cps.toList))) H) := op_in_sign
theorem op_notInSg {X : Cx} : OpR X (compareOp .NotIn) (fun x y H Q => ∃ (c : Nat) (z : Str), x = .str ⟨#[c]⟩ ∧ y = .str z ∧ Q (.bl (!decide (c ∈ z.cps.toList))) H) := op_notIn_sign
section
variable {ct : String → Addr} {X : Cx} {W : WX} {o e : Expr} {ta te : TE} {ma me : EM} {apos pos : Pos}
theorem e_str_partition (h : PEM ct X W o ta ma) (he : PEM ct X W e te me) (hs : starEach [e] X.env = [(false, eval e X.env)] := by rfl) (hbase : attributeBase o "partition" X.env (eval o X.env) = eval o X.env := by rfl) (hline : (apos.endLine == pos.line) = true := by rfl) :
    PEM ct X W (.Call (.Attribute o "partition" apos) [e] [] pos) (tM1 rPart ta te) (mStrM fPart ma me) := ⟨pe_partition h.pe he.pe hs hbase hline, sim_m1 h.sim he.sim sm_part⟩
theorem e_str_split (h : PEM ct X W o ta ma) (he : PEM ct X W e te me) (hs : starEach [e] X.env = [(false, eval e X.env)] := by rfl) (hbase : attributeBase o "split" X.env (eval o X.env) = eval o X.env := by rfl) (hline : (apos.endLine == pos.line) = true := by rfl) :
    PEM ct X W (.Call (.Attribute o "split" apos) [e] [] pos) (tM1 rSplit ta te) (mStrM fSplit ma me) := ⟨pe_split h.pe he.pe hs hbase hline, sim_m1 h.sim he.sim sm_split⟩
theorem e_str_join (h : PEM ct X W o ta ma) (he : PEM ct X W e te me) (hs : starEach [e] X.env = [(false, eval e X.env)] := by rfl) (hbase : attributeBase o "join" X.env (eval o X.env) = eval o X.env := by rfl) (hline : (apos.endLine == pos.line) = true := by rfl) :
    PEM ct X W (.Call (.Attribute o "join" apos) [e] [] pos) (tM1 (rJoin X.K) ta te) (mStrM fJoin ma me) := ⟨pe_join h.pe he.pe hs hbase hline, sim_m1 (K := ⟨X.K, ct⟩) h.sim he.sim sm_join⟩
theorem e_str_startswith (h : PEM ct X W o ta ma) (he : PEM ct X W e te me) (hs : starEach [e] X.env = [(false, eval e X.env)] := by rfl) (hbase : attributeBase o "startswith" X.env (eval o X.env) = eval o X.env := by rfl) (hline : (apos.endLine == pos.line) = true := by rfl) :
    PEM ct X W (.Call (.Attribute o "startswith" apos) [e] [] pos) (tM1 (fun x xs H Q => ∃ a b, x = .str a ∧ xs = [.str b] ∧ Q (.bl (Txt.startswith a b)) H) ta te) (mStrM fStarts ma me) := ⟨pe_m1 PySem.F.slot_str_startswith PySem.F.type_str_startswith mt_startswith h.pe he.pe hs hbase hline, sim_m1 h.sim he.sim sm_starts⟩
theorem e_str_find (h : PEM ct X W o ta ma) (he : PEM ct X W e te me) (hs : starEach [e] X.env = [(false, eval e X.env)] := by rfl) (hbase : attributeBase o "find" X.env (eval o X.env) = eval o X.env := by rfl) (hline : (apos.endLine == pos.line) = true := by rfl) :
    PEM ct X W (.Call (.Attribute o "find" apos) [e] [] pos) (tM1 (fun x xs H Q => ∃ a b, x = .str a ∧ xs = [.str b] ∧ Q (.int (Txt.find a b)) H) ta te) (mStrM fFind ma me) := ⟨pe_m1 PySem.F.slot_str_find PySem.F.type_str_find mt_find h.pe he.pe hs hbase hline, sim_m1 h.sim he.sim sm_find⟩
end
/-! ## a try whose body raises nothing -/
def mTryOk (b : SM) : SM := fun s => match b s with
  | .exc _ _ => .stuck
  | r => r
theorem mTryOk_ok {b : SM} {s s1 : MS} {x : Fl} (h : b s = .ok x s1) : mTryOk b s = .ok x s1 := by unfold mTryOk; rw [h]
theorem ss_tryOk {K : KA} {W W' : WX} {tb : TS} {mb : SM} (hb : SimS K W tb mb) : SimS K W' tb (mTryOk mb) := by
  intro X ρ O s σ H D S p
  refine hb X ρ O s σ H D S ?_
  unfold mTryOk at p
  cases e : mb s with
  | ok x s1 => rw [e] at p; cases x <;> exact p
  | stuck => rw [e] at p; exact p.elim
  | exc c s1 => rw [e] at p; exact p.elim
theorem s_tryOk {ct : String → Addr} {X : Cx} {W : WX} {body : List Stmt} {h₀ : ExceptHandler} {hs : List ExceptHandler} {tb : TS} {mb : SM} {pos : Pos} (hb : PSsM ct X.nox W0 body tb mb) : PSM ct X W (.Try body (h₀ :: hs) [] [] pos) tb (mTryOk mb) :=
  ⟨ps_try_thru0 hb.pe, ss_tryOk hb.sim⟩
end M

namespace M
open PySem L2 PyProof.Rows PySem.Builtin.Str
open Classical

/-! ## texts as lists of signs -/
abbrev T (l : List Nat) : Str := ⟨l.toArray⟩
abbrev sg (z : Str) : List Nat := z.cps.toList
theorem T_sg (z : Str) : T (sg z) = z := rfl
theorem sg_app (a b : Str) : sg (a ++ b) = sg a ++ sg b := cps_toList_append a b
theorem sg_inj {a b : Str} (h : sg a = sg b) : a = b := by
  obtain ⟨x⟩ := a
  obtain ⟨y⟩ := b
  have : x = y := Array.toList_inj.mp h
  rw [this]
theorem len_sg (z : Str) : z.length = (sg z).length := by show z.cps.size = _; simp
theorem sg_of (s : String) : sg (Str.ofString s) = s.toList.map Char.toNat := signs_ofString s
/-- the places of a sign -/
def idxs (c : Nat) : List Nat → Nat → List Nat
  | [], _ => []
  | d :: ds, k => if d = c then k :: idxs c ds (k + 1) else idxs c ds (k + 1)
theorem occ_run (x : Str) (c lim : Nat) : ∀ (k lo : Nat) (st : Array Nat × Nat), st.2 ≤ lo →
    (forIn (m := Id) (List.range' lo k) st (StrLaws.occBody x ⟨#[c]⟩ x.length lim)).run.fst.toList = st.1.toList ++ ((List.range' lo k).filter (fun i => decide ((sg x)[i]? = some c))).take (lim - st.1.size)
  | 0, lo, st, h => by simp
  | k + 1, lo, st, h => by
    rw [List.range'_succ, List.forIn_cons]
    unfold StrLaws.occBody
    by_cases hc : (sg x)[lo]? = some c
    · by_cases hs : st.1.size < lim
      · have q := (StrLaws.subAt_one x c lo).mpr hc
        have c1 : ((st.fst.size < lim ∧ st.snd ≤ lo) ∧ lo + (⟨#[c]⟩ : Str).length ≤ x.length) ∧ subAt x ⟨#[c]⟩ lo = true := ⟨⟨⟨hs, h⟩, q.1⟩, q.2⟩
        rw [if_pos c1]
        have ih := occ_run x c lim k (lo + 1) (st.1.push lo, lo + 1) (Nat.le_refl _)
        have e : (forIn (m := Id) (List.range' (lo + 1) k) (st.1.push lo, lo + (⟨#[c]⟩ : Str).length) (StrLaws.occBody x ⟨#[c]⟩ x.length lim)).run.fst.toList = _ := ih
        refine Eq.trans e ?_
        rw [List.filter_cons, if_pos (by simpa using hc), Array.toList_push, Array.size_push]
        have : lim - st.1.size = (lim - (st.1.size + 1)) + 1 := by omega
        rw [this, List.take_succ_cons]
        simp
      · have c2 : ¬ (((st.fst.size < lim ∧ st.snd ≤ lo) ∧ lo + (⟨#[c]⟩ : Str).length ≤ x.length) ∧ subAt x ⟨#[c]⟩ lo = true) := fun z => hs z.1.1.1
        rw [if_neg c2]
        have ih := occ_run x c lim k (lo + 1) st (by omega)
        refine Eq.trans ih ?_
        rw [show lim - st.1.size = 0 by omega]
        simp
    · have c2 : ¬ (((st.fst.size < lim ∧ st.snd ≤ lo) ∧ lo + (⟨#[c]⟩ : Str).length ≤ x.length) ∧ subAt x ⟨#[c]⟩ lo = true) := fun z => hc ((StrLaws.subAt_one x c lo).mp ⟨z.1.2, z.2⟩)
      rw [if_neg c2]
      have ih := occ_run x c lim k (lo + 1) st (by omega)
      refine Eq.trans ih ?_
      rw [List.filter_cons, if_neg (by simpa using hc)]
theorem idx_filter (xs : List Nat) (c : Nat) : ∀ (ys : List Nat) (k : Nat), xs.drop k = ys → (List.range' k (ys.length + 1)).filter (fun i => decide (xs[i]? = some c)) = idxs c ys k
  | [], k, h => by
    have : xs[k]? = none := by
      have := congrArg List.length h
      rw [List.length_drop] at this
      exact List.getElem?_eq_none (by simp at this; omega)
    simp [List.range'_succ, idxs, this]
  | d :: ds, k, h => by
    have e1 : xs[k]? = some d := by
      have : (xs.drop k)[0]? = some d := by rw [h]; rfl
      rw [List.getElem?_drop] at this
      simpa using this
    have e2 : xs.drop (k + 1) = ds := by
      rw [← List.drop_drop, h]; rfl
    rw [List.length_cons, List.range'_succ, List.filter_cons, e1, idx_filter xs c ds (k + 1) e2, idxs]
    by_cases q : d = c
    · rw [if_pos (by simp [q]), if_pos q]
    · rw [if_neg (by simp [q]), if_neg q]
theorem occ_one (x : Str) (c lim : Nat) : occurrences x ⟨#[c]⟩ 0 x.length lim = (idxs c (sg x) 0).take lim := by
  rw [StrLaws.occ_eq]
  have := occ_run x c lim (x.length + 1 - 0) 0 (#[], 0) (Nat.le_refl _)
  refine Eq.trans this ?_
  have e := idx_filter (sg x) c (sg x) 0 rfl
  rw [← len_sg] at e
  rw [Nat.sub_zero, e]
  simp
theorem idxs_len (c : Nat) : ∀ (ys : List Nat) (k : Nat), (idxs c ys k).length ≤ ys.length
  | [], _ => Nat.le_refl _
  | d :: ds, k => by
    have := idxs_len c ds (k + 1)
    unfold idxs; split <;> simp only [List.length_cons] <;> omega
/-- a list cut at each c -/
def splitL (c : Nat) : List Nat → List (List Nat)
  | [] => [[]]
  | d :: ds => if d = c then [] :: splitL c ds else (match splitL c ds with
    | p :: ps => (d :: p) :: ps
    | [] => [[d]])
theorem splitL_ne (c : Nat) : ∀ l, ∃ p ps, splitL c l = p :: ps
  | [] => ⟨_, _, rfl⟩
  | d :: ds => by
    obtain ⟨p, ps, e⟩ := splitL_ne c ds
    unfold splitL
    rw [e]
    split
    · exact ⟨_, _, rfl⟩
    · exact ⟨_, _, rfl⟩
theorem splitL_cons (c : Nat) : ∀ (a b : List Nat), c ∉ a → splitL c (a ++ c :: b) = a :: splitL c b
  | [], b, _ => by rw [List.nil_append, splitL, if_pos rfl]
  | d :: a, b, h => by
    have h1 : ¬ d = c := fun e => h (by rw [e]; exact List.mem_cons_self)
    have h2 : c ∉ a := fun e => h (List.mem_cons_of_mem _ e)
    rw [List.cons_append, splitL, if_neg h1, splitL_cons c a b h2]
theorem splitL_one (c : Nat) : ∀ (a : List Nat), c ∉ a → splitL c a = [a]
  | [], _ => rfl
  | d :: a, h => by
    have h1 : ¬ d = c := fun e => h (by rw [e]; exact List.mem_cons_self)
    have h2 : c ∉ a := fun e => h (List.mem_cons_of_mem _ e)
    rw [splitL, if_neg h1, splitL_one c a h2]
theorem parts_run (xs : List Nat) (c : Nat) : ∀ (ys : List Nat) (k st : Nat), xs.drop k = ys → st ≤ k →
    ((st :: (idxs c ys k).map (· + 1)).zip (idxs c ys k ++ [xs.length])).map (fun p => (xs.drop p.1).take (p.2 - p.1)) = (match splitL c ys with
      | p :: ps => ((xs.drop st).take (k - st) ++ p) :: ps
      | [] => [])
  | [], k, st, h, hk => by
    have l := congrArg List.length h
    rw [List.length_drop] at l
    simp only [List.length_nil] at l
    simp only [idxs, List.map_nil, List.nil_append, List.zip_cons_cons, List.zip_nil_left, List.map_cons, splitL, List.append_nil]
    congr 1
    rw [List.take_of_length_le (by rw [List.length_drop]; exact Nat.le_refl _), List.take_of_length_le (by rw [List.length_drop]; omega)]
  | d :: ds, k, st, h, hk => by
    have e2 : xs.drop (k + 1) = ds := by rw [← List.drop_drop, h]; rfl
    have e1 : xs[k]? = some d := by
      have : (xs.drop k)[0]? = some d := by rw [h]; rfl
      rw [List.getElem?_drop] at this
      simpa using this
    obtain ⟨p, ps, e⟩ := splitL_ne c ds
    by_cases q : d = c
    · have ih := parts_run xs c ds (k + 1) (k + 1) e2 (Nat.le_refl _)
      rw [e] at ih
      simp only [Nat.sub_self, List.take_zero, List.nil_append] at ih
      rw [idxs, if_pos q, splitL, if_pos q, e]
      simp only [List.map_cons, List.cons_append, List.zip_cons_cons, List.append_nil]
      rw [ih]
    · have ih := parts_run xs c ds (k + 1) st e2 (by omega)
      rw [e] at ih
      rw [idxs, if_neg q, splitL, if_neg q, e]
      simp only
      rw [ih]
      simp only
      congr 1
      rw [show k + 1 - st = (k - st) + 1 by omega, List.take_add_one, List.getElem?_drop, show st + (k - st) = k by omega, e1]
      simp
theorem extract_T (x : Str) (i j : Nat) : strSub x i j = T (((sg x).drop i).take (j - i)) := by
  apply sg_inj
  show (x.cps.extract i j).toList = _
  simp [Array.toList_extract, List.extract_eq_take_drop]
theorem split_eq (x : Str) (c : Nat) (hc : c < 256) : Txt.split x ⟨#[c]⟩ = (splitL c (sg x)).map T := by
  have run := parts_run (sg x) c (sg x) 0 0 rfl (Nat.le_refl _)
  obtain ⟨p, ps, e⟩ := splitL_ne c (sg x)
  rw [e] at run
  simp only [Nat.sub_self, List.take_zero, List.nil_append] at run
  have occ : occurrences x ⟨#[c]⟩ 0 x.length (x.length + 1) = idxs c (sg x) 0 := by
    rw [occ_one, List.take_of_length_le]
    have := idxs_len c (sg x) 0
    rw [len_sg]; omega
  have none_ : idxs c (sg x) 0 = [] → splitL c (sg x) = [sg x] := fun h => by
    rw [h] at run
    simp only [List.map_nil, List.nil_append, List.zip_cons_cons, List.zip_nil_left, List.map_cons, List.drop_zero, Nat.sub_zero, List.take_length] at run
    rw [e, ← run]
  unfold Txt.split
  by_cases h0 : (decide (x.length < (⟨#[c]⟩ : Str).length) || decide (Builtin.Str.strKind x < Builtin.Str.strKind ⟨#[c]⟩)) = true
  · rw [if_pos h0]
    have k1 : Builtin.Str.strKind ⟨#[c]⟩ = 1 := by simp [Builtin.Str.strKind, hc]
    have k2 : 1 ≤ Builtin.Str.strKind x := by unfold Builtin.Str.strKind; (repeat' split) <;> omega
    have l1 : (⟨#[c]⟩ : Str).length = 1 := rfl
    have hl : (sg x) = [] := by
      rw [k1, l1] at h0
      simp only [Bool.or_eq_true, decide_eq_true_eq] at h0
      have : (sg x).length = 0 := by rw [← len_sg]; omega
      exact List.eq_nil_of_length_eq_zero this
    rw [none_ (by rw [hl]; rfl)]
    rfl
  · rw [if_neg h0, occ]
    by_cases h1 : (idxs c (sg x) 0).isEmpty = true
    · rw [if_pos h1, none_ (by simpa using h1)]
      rfl
    · rw [if_neg h1]
      unfold partsBetween
      show ((0 :: (idxs c (sg x) 0).map (· + 1)).zip (idxs c (sg x) 0 ++ [x.length])).map (fun (p : Nat × Nat) => strSub x p.1 p.2) = _
      rw [e, ← run, List.map_map, ← len_sg]
      apply List.map_congr_left
      intro p _
      exact extract_T x p.1 p.2
theorem idxs_mid (c : Nat) : ∀ (a b : List Nat) (k : Nat), c ∉ a → idxs c (a ++ c :: b) k = (k + a.length) :: idxs c b (k + a.length + 1)
  | [], b, k, _ => by rw [List.nil_append, idxs, if_pos rfl]; simp
  | d :: a, b, k, h => by
    have h1 : ¬ d = c := fun e => h (by rw [e]; exact List.mem_cons_self)
    have h2 : c ∉ a := fun e => h (List.mem_cons_of_mem _ e)
    rw [List.cons_append, idxs, if_neg h1, idxs_mid c a b (k + 1) h2, List.length_cons]
    rw [show k + 1 + a.length = k + (a.length + 1) by omega]
theorem idxs_no (c : Nat) : ∀ (a : List Nat) (k : Nat), c ∉ a → idxs c a k = []
  | [], _, _ => rfl
  | d :: a, k, h => by
    have h1 : ¬ d = c := fun e => h (by rw [e]; exact List.mem_cons_self)
    rw [idxs, if_neg h1, idxs_no c a (k + 1) fun e => h (List.mem_cons_of_mem _ e)]
theorem part_mid {x : Str} {c : Nat} {a b : List Nat} (hx : sg x = a ++ c :: b) (ha : c ∉ a) : Txt.partition x ⟨#[c]⟩ = (T a, ⟨#[c]⟩, T b) := by
  unfold Txt.partition
  rw [occ_one, hx, idxs_mid c a b 0 ha, List.take_succ_cons]
  simp only [Nat.zero_add, extract_T, hx]
  have l : x.length = a.length + (b.length + 1) := by rw [len_sg, hx]; simp
  have e1 : (List.take (a.length - 0) ((a ++ c :: b).drop 0)) = a := by simp
  have e2 : (List.take (x.length - (a.length + (⟨#[c]⟩ : Str).length)) ((a ++ c :: b).drop (a.length + (⟨#[c]⟩ : Str).length))) = b := by
    have : (⟨#[c]⟩ : Str).length = 1 := rfl
    rw [this, l, ← List.drop_drop, List.drop_left]
    simp only [List.drop_succ_cons, List.drop_zero]
    exact List.take_of_length_le (by omega)
  rw [e1, e2]
theorem part_no {x : Str} {c : Nat} (hx : c ∉ sg x) : Txt.partition x ⟨#[c]⟩ = (x, Str.empty, Str.empty) := by
  unfold Txt.partition
  rw [occ_one, idxs_no c _ 0 hx]
  rfl
/-! ## whole numbers as texts -/
abbrev iT (i : Int) : Str := Str.ofString (toString i)
def dg (n : Nat) : List Nat := (Nat.toDigits 10 n).map Char.toNat
theorem sg_nat (n : Nat) : sg (iT (n : Int)) = dg n := PySem.W.KIN.signs_num n
theorem sg_neg (n : Nat) (h : 0 < n) : sg (iT (-(n : Int))) = 45 :: dg n := by
  obtain ⟨m, rfl⟩ : ∃ m, n = m + 1 := ⟨n - 1, by omega⟩
  rw [sg_of]
  show (toString (Int.negSucc m)).toList.map Char.toNat = _
  have : (toString (Int.negSucc m)) = "-" ++ (Nat.repr (m + 1)) := rfl
  rw [this, String.toList_append, List.map_append, Nat.toList_repr]
  rfl
theorem dg_digits (n : Nat) : ∀ c ∈ dg n, 48 ≤ c ∧ c ≤ 57 := fun c hc => by
  obtain ⟨ch, h1, rfl⟩ := List.mem_map.mp hc
  exact digit_range (Nat.isDigit_of_mem_toDigits (by decide) (by decide) h1)
theorem dg_val (n : Nat) : PySem.NumText.digitsVal (dg n) = n := PySem.W.KIN.val_back n
theorem dg_ne (n : Nat) : dg n ≠ [] := fun h => Nat.toDigits_ne_nil (List.map_eq_nil_iff.mp h)
theorem dg_len {n k : Nat} (hk : 0 < k) (h : n < 10 ^ k) : (dg n).length ≤ k := by
  unfold dg; rw [List.length_map]; exact (Nat.length_toDigits_le_iff (by decide) hk).mpr h
theorem dg_lt (n : Nat) (h : n < 10) : dg n = [48 + n] := by
  unfold dg
  rw [Nat.toDigits_of_lt_base h]
  have : ∀ d : Nat, d < 10 → [d.digitChar].map Char.toNat = [48 + d] := by decide
  exact this n h
theorem dg_head (n : Nat) : (dg n).head? = some 48 → n = 0 := by
  induction n using Nat.strongRecOn with
  | _ n ih =>
    by_cases h : n < 10
    · rw [dg_lt n h]; intro q; simp at q; omega
    · intro q
      have t : Nat.toDigits 10 (n / 10) ++ Nat.toDigits 10 (n % 10) = Nat.toDigits 10 (10 * (n / 10) + n % 10) := Nat.toDigits_append_toDigits (by decide) (by omega) (by omega)
      rw [Nat.div_add_mod] at t
      have e : dg n = dg (n / 10) ++ dg (n % 10) := by unfold dg; rw [← t, List.map_append]
      rw [e] at q
      obtain ⟨x, xs, hx⟩ := List.exists_cons_of_ne_nil (dg_ne (n / 10))
      rw [hx] at q
      have := ih (n / 10) (by omega) (by rw [hx]; exact q)
      omega
theorem dg_read (n : Nat) (h : n < 10 ^ 600) : PySem.intText? (iT (n : Int)) = some (n : Int) := by
  have hl : (iT (n : Int)).length ≤ 600 := by rw [len_sg, sg_nat]; exact dg_len (by decide) h
  have e := intText_digits (x := iT (n : Int)) (by rw [show (iT (n : Int)).cps.toList = dg n from sg_nat n]; exact dg_digits n) (by rw [show (iT (n : Int)).cps.toList = dg n from sg_nat n]; exact dg_ne n) (by omega)
  rw [e, show (iT (n : Int)).cps.toList = dg n from sg_nat n, dg_val]
theorem iT_free {c : Nat} (h : c ≠ 45) (h2 : c < 48 ∨ 57 < c) (i : Int) : c ∉ sg (iT i) := int_text_free' c ⟨h, h2⟩ i
end M

namespace M
open PySem L2 PyProof.Rows PySem.Builtin.Str
open Classical

/-! ## texts in the machine -/
def okS (l : List Nat) : Prop := ∀ c ∈ l, c < 1114112
theorem okS_app {a b : List Nat} (h : okS a) (k : okS b) : okS (a ++ b) := fun c hc => by
  rcases List.mem_append.mp hc with q | q
  · exact h c q
  · exact k c q
theorem okS_cons {c : Nat} {b : List Nat} (h : c < 1114112) (k : okS b) : okS (c :: b) := fun d hd => by
  rcases List.mem_cons.mp hd with rfl | q
  · exact h
  · exact k d q
theorem okS_dg (n : Nat) : okS (dg n) := fun c hc => by have := dg_digits n c hc; omega
theorem okS_iT (i : Int) : okS (sg (iT i)) := fun c hc => by
  rcases Classical.em (c < 1114112) with q | q
  · exact q
  · exact absurd hc (iT_free (by omega) (by omega) i)
theorem okS_lit (s : String) (h : (s.toList.map Char.toNat).all (· < 1114112) = true) : okS (sg (Str.ofString s)) := by
  rw [sg_of]; intro c hc; simpa using List.all_eq_true.mp h c hc
theorem okS_sub {a b : List Nat} (h : okS b) (k : ∀ c ∈ a, c ∈ b) : okS a := fun c hc => h c (k c hc)
theorem strOk_of {z : Str} (h : okS (sg z)) : PyData.strOk z = true := by
  unfold PyData.strOk
  rw [Array.all_eq_true_iff_forall_mem]
  intro c hc
  have := h c (Array.mem_toList_iff.mpr hc)
  simpa using this
theorem str_dec (a b : Str) : (a == b) = decide (sg a = sg b) := by
  by_cases h : sg a = sg b
  · have := sg_inj h; subst this; simp
  · have : a ≠ b := fun e => h (by rw [e])
    simp [h, this]
theorem oEq_str {a b : Str} {s : MS} (ha : okS (sg a)) (hb : okS (sg b)) : oEq (.str a) (.str b) s = .ok (.bl (decide (sg a = sg b))) s := by
  have h1 : SeqAt.shaped (.str a) = true := by simp [SeqAt.shaped, PyData.canLay0, PyData.depth, strOk_of ha]
  have h2 : SeqAt.shaped (.str b) = true := by simp [SeqAt.shaped, PyData.canLay0, PyData.depth, strOk_of hb]
  unfold oEq
  simp only [toD, h1, h2, and_self, if_true, PyData.eqv, str_dec]
theorem oNe_str {a b : Str} {s : MS} (ha : okS (sg a)) (hb : okS (sg b)) : oNe (.str a) (.str b) s = .ok (.bl (!decide (sg a = sg b))) s := by
  have h1 : SeqAt.shaped (.str a) = true := by simp [SeqAt.shaped, PyData.canLay0, PyData.depth, strOk_of ha]
  have h2 : SeqAt.shaped (.str b) = true := by simp [SeqAt.shaped, PyData.canLay0, PyData.depth, strOk_of hb]
  unfold oNe
  simp only [toD, h1, h2, and_self, if_true, PyData.eqv, str_dec]
theorem starts_one (z : Str) (c : Nat) : Txt.startswith z ⟨#[c]⟩ = decide ((sg z).head? = some c) := by
  unfold Txt.startswith
  have l1 : (⟨#[c]⟩ : Str).length = 1 := rfl
  have q := StrLaws.subAt_one z c 0
  rw [l1] at q ⊢
  rw [Bool.eq_iff_iff, Bool.and_eq_true, decide_eq_true_eq, decide_eq_true_eq, q, List.head?_eq_getElem?]
theorem cut_tail (z : Str) : cutS z (some 1) none = T (sg z).tail := by
  apply sg_inj
  show (((sg z).drop (HT.sIx z.length 0 (some 1))).take (HT.sIx z.length z.length none - HT.sIx z.length 0 (some 1))).toArray.toList = (sg z).tail
  have e1 : HT.sIx z.length 0 (some 1) = min 1 z.length := HT.sIx_nat z.length 0 1
  rw [e1, HT.sIx_none]
  simp only [List.toList_toArray]
  rw [len_sg]
  cases h : sg z with
  | nil => rfl
  | cons c l => simp
theorem oSl_tail {z : Str} {s : MS} (h : z.length ≤ 16777216) : oSl (.str z) (some 1) none s = .ok (.str (T (sg z).tail)) s := by
  unfold oSl
  simp only [if_pos (show lim z.length from h), cut_tail]
theorem oIdx_sign {z : Str} {c : Nat} {l : List Nat} {s : MS} (h : sg z = c :: l) (hl : z.length ≤ 16777216) : oIdx (.str z) (.int 0) s = .ok (.str ⟨#[c]⟩) s := by
  unfold oIdx
  have e : z.cps.toList[(0 : Int).toNat]? = some c := by
    show (sg z)[0]? = some c
    rw [h]; rfl
  simp only [e]
  rw [if_pos ⟨by decide, hl⟩]
theorem fPart_mid {z : Str} {c : Nat} {a b : List Nat} {s : MS} (hz : sg z = a ++ c :: b) (ha : c ∉ a) (hl : z.length ≤ 16777216) : fPart z (.str ⟨#[c]⟩) s = .ok (.tup [.str (T a), .str ⟨#[c]⟩, .str (T b)]) s := by
  unfold fPart
  simp only [part_mid hz ha]
  rw [if_pos ⟨rfl, hl⟩]
theorem fPart_no {z : Str} {c : Nat} {s : MS} (hz : c ∉ sg z) (hl : z.length ≤ 16777216) : fPart z (.str ⟨#[c]⟩) s = .ok (.tup [.str z, .str Str.empty, .str Str.empty]) s := by
  unfold fPart
  simp only [part_no hz]
  rw [if_pos ⟨rfl, hl⟩]
theorem fSplit_eq {z : Str} {c : Nat} {s : MS} (hc : c < 256) (hl : z.length ≤ 16000000) : fSplit z (.str ⟨#[c]⟩) s = .ok (.lst ((splitL c (sg z)).map fun l => .str (T l))) s := by
  unfold fSplit
  simp only [split_eq z c hc, List.map_map]
  rw [if_pos ⟨rfl, by omega⟩]
  rfl
/-- a loop that leaves with v at the first thing that does not pass -/
theorem forM_until {α : Type} {g : GM} {b : SM} (e : α → MV) (p : α → Prop) (v : MV) (St : MS → Prop) : ∀ (xs : List α) (s : MS), St s →
    (∀ x ∈ xs, ∀ s, St s → p x → ∃ s1 s2, g (e x) s = some s1 ∧ b s1 = .ok .nx s2 ∧ St s2) → (∀ x ∈ xs, ∀ s, St s → ¬ p x → ∃ s1 s2, g (e x) s = some s1 ∧ b s1 = .ok (.rt v) s2 ∧ St s2) →
    ((∀ x ∈ xs, p x) → ∃ s', M.forM g b (xs.map e) s = .ok .nx s' ∧ St s') ∧ ((¬ ∀ x ∈ xs, p x) → ∃ s', M.forM g b (xs.map e) s = .ok (.rt v) s' ∧ St s')
  | [], s, h, _, _ => ⟨fun _ => ⟨s, rfl, h⟩, fun q => absurd (fun x hx => by cases hx) q⟩
  | x :: xs, s, h, t1, t2 => by
    by_cases hp : p x
    · obtain ⟨s1, s2, h1, h2, h3⟩ := t1 x List.mem_cons_self s h hp
      obtain ⟨i1, i2⟩ := forM_until e p v St xs s2 h3 (fun y hy => t1 y (List.mem_cons_of_mem _ hy)) fun y hy => t2 y (List.mem_cons_of_mem _ hy)
      have step : M.forM g b ((x :: xs).map e) s = M.forM g b (xs.map e) s2 := by
        rw [List.map_cons]
        conv => lhs; unfold M.forM
        simp only [h1, h2]
      rw [step]
      refine ⟨fun q => i1 fun y hy => q y (List.mem_cons_of_mem _ hy), fun q => i2 fun z => q fun y hy => ?_⟩
      rcases List.mem_cons.mp hy with rfl | hy
      · exact hp
      · exact z y hy
    · obtain ⟨s1, s2, h1, h2, h3⟩ := t2 x List.mem_cons_self s h hp
      refine ⟨fun q => absurd (q x List.mem_cons_self) hp, fun _ => ⟨s2, ?_, h3⟩⟩
      rw [List.map_cons]
      unfold M.forM
      simp only [h1, h2]
end M
namespace M
open PySem L2 PyProof.Rows
open Classical
/-! ## readers -/
def cutAt (c : Nat) : List Nat → Option (List Nat × List Nat)
  | [] => none
  | d :: ds => if d = c then some ([], ds) else (cutAt c ds).map fun p => (d :: p.1, p.2)
theorem cutAt_mid {c : Nat} : ∀ {a b : List Nat}, c ∉ a → cutAt c (a ++ c :: b) = some (a, b)
  | [], b, _ => by rw [List.nil_append, cutAt, if_pos rfl]
  | d :: a, b, h => by
    have h1 : ¬ d = c := fun e => h (by rw [e]; exact List.mem_cons_self)
    rw [List.cons_append, cutAt, if_neg h1, cutAt_mid fun e => h (List.mem_cons_of_mem _ e)]
    rfl
theorem cutAt_some {c : Nat} : ∀ {l a b : List Nat}, cutAt c l = some (a, b) → l = a ++ c :: b ∧ c ∉ a
  | [], a, b, h => by cases h
  | d :: ds, a, b, h => by
    rw [cutAt] at h
    by_cases q : d = c
    · rw [if_pos q] at h; cases h; rw [q]; exact ⟨rfl, fun x => by cases x⟩
    · rw [if_neg q] at h
      obtain ⟨⟨a', b'⟩, h1, h2⟩ := Option.map_eq_some_iff.mp h
      cases h2
      obtain ⟨e, n⟩ := cutAt_some h1
      rw [e]
      exact ⟨rfl, fun x => by
        rcases List.mem_cons.mp x with rfl | x
        · exact q rfl
        · exact n x⟩
theorem cutAt_none {c : Nat} : ∀ {l : List Nat}, cutAt c l = none → c ∉ l
  | [], _, h => by cases h
  | d :: ds, h, x => by
    rw [cutAt] at h
    by_cases q : d = c
    · rw [if_pos q] at h; cases h
    · rw [if_neg q] at h
      have := cutAt_none (Option.map_eq_none_iff.mp h)
      rcases List.mem_cons.mp x with rfl | x
      · exact q rfl
      · exact this x
noncomputable def readW (l : List Nat) : Option Int := if l = [] ∨ 13 < l.length ∨ (l.head? = some 48 ∧ l ≠ [48]) ∨ ¬ (∀ c ∈ l, 48 ≤ c ∧ c ≤ 57) then none else some ((PySem.NumText.digitsVal l : Nat) : Int)
theorem readW_dg {n : Nat} (h : n < 10 ^ 13) : readW (dg n) = some (n : Int) := by
  unfold readW
  rw [if_neg, dg_val]
  rintro (q | q | q | q)
  · exact dg_ne n q
  · have := dg_len (by decide) h; omega
  · have := dg_head n q.1
    subst this
    exact q.2 rfl
  · exact q (dg_digits n)
theorem digitsVal_snoc' (l : List Nat) (c : Nat) : PySem.NumText.digitsVal (l ++ [c]) = PySem.NumText.digitsVal l * 10 + (c - 48) := by
  unfold PySem.NumText.digitsVal; rw [List.foldl_append]; rfl
theorem digitsVal_lt : ∀ (k : Nat) (l : List Nat), l.length = k → (∀ c ∈ l, 48 ≤ c ∧ c ≤ 57) → PySem.NumText.digitsVal l < 10 ^ k
  | 0, l, h, _ => by
    have := List.eq_nil_of_length_eq_zero h
    subst this; decide
  | k + 1, l, h, hd => by
    have ne : l ≠ [] := fun e => by subst e; cases h
    have e := List.dropLast_concat_getLast ne
    rw [← e, digitsVal_snoc']
    have b := hd _ (List.getLast_mem ne)
    have ih := digitsVal_lt k l.dropLast (by rw [List.length_dropLast, h]; rfl) fun c hc => hd c ((List.dropLast_sublist l).subset hc)
    rw [Nat.pow_succ]
    omega
theorem readW_bd {l : List Nat} {i : Int} {k : Nat} (h : readW l = some i) (hl : l.length ≤ k) : 0 ≤ i ∧ i < (10 : Int) ^ k := by
  unfold readW at h
  split at h
  · cases h
  · rename_i q
    have e := Option.some.inj h
    have hd : ∀ c ∈ l, 48 ≤ c ∧ c ≤ 57 := Classical.byContradiction fun z => q (Or.inr (Or.inr (Or.inr z)))
    have b := digitsVal_lt l.length l rfl hd
    have : (10 : Nat) ^ l.length ≤ 10 ^ k := Nat.pow_le_pow_right (by decide) hl
    have c : (((10 : Nat) ^ k : Nat) : Int) = (10 : Int) ^ k := by simp
    omega
def gT (g : Int × Int) : Str := iT g.1 ++ Str.ofString "/" ++ iT g.2
theorem sg_gT (g : Int × Int) : sg (gT g) = sg (iT g.1) ++ 47 :: sg (iT g.2) := by
  unfold gT
  rw [sg_app, sg_app, List.append_assoc]
  rfl
theorem iT_len {i : Int} (h : i.natAbs.log2 < 1900) : (iT i).length ≤ 601 := by
  have b : i.natAbs < 10 ^ 600 := by
    by_cases z : i.natAbs = 0
    · rw [z]; decide
    · exact Nat.lt_trans ((Nat.log2_lt z).mp h) (by decide)
  rw [len_sg]
  obtain ⟨n, rfl | rfl⟩ := Int.eq_nat_or_neg i
  · rw [sg_nat]; have := dg_len (n := n) (k := 600) (by decide) (by simpa using b); omega
  · by_cases z : n = 0
    · subst z; rw [show iT (-((0 : Nat) : Int)) = iT ((0 : Nat) : Int) from rfl, sg_nat]; have := dg_len (n := 0) (k := 600) (by decide) (by decide); omega
    · rw [sg_neg n (by omega), List.length_cons]; have := dg_len (n := n) (k := 600) (by decide) (by simpa using b); omega
theorem gT_len {g : Int × Int} (h : g.1.natAbs.log2 < 1900) (k : g.2.natAbs.log2 < 1900) : (gT g).length ≤ 1203 := by
  have a := iT_len h
  have b := iT_len k
  rw [len_sg] at *
  rw [sg_gT, List.length_append, List.length_cons]
  omega
theorem okS_gT (g : Int × Int) : okS (sg (gT g)) := by rw [sg_gT]; exact okS_app (okS_iT _) (okS_cons (by decide) (okS_iT _))
theorem gT_free {c : Nat} (h : c ≠ 45) (h1 : c ≠ 47) (h2 : c < 48 ∨ 57 < c) (g : Int × Int) : c ∉ sg (gT g) := by
  rw [sg_gT]
  intro q
  rcases List.mem_append.mp q with q | q
  · exact iT_free h h2 _ q
  · rcases List.mem_cons.mp q with q | q
    · exact h1 q
    · exact iT_free h h2 _ q
def bodyF (z : List Nat) : List Nat := if z.head? = some 45 then z.tail else z
def lowQ (p : Int × Int) : Int × Int := (p.1 / Int.gcd p.1 p.2, p.2 / Int.gcd p.1 p.2)
def signF (z : List Nat) (t : Int) : Int := if z.head? = some 45 then 0 - t else t
noncomputable def readB (z bd : List Nat) : Option (Int × Int) := match cutAt 47 bd with
  | none => none
  | some (a, b) => (match readW a, readW b with
    | some t, some l => if 9 < a.length ∨ 9 < b.length ∨ l = 0 then none else
        if sg (gT (lowQ (signF z t, l))) = z then some (signF z t, l) else none
    | _, _ => none)
noncomputable def readF (z : List Nat) : Option (Int × Int) := readB z (bodyF z)
theorem readF_gT {g : Int × Int} (h1 : g.1.natAbs < 10 ^ 9) (h2 : 0 < g.2) (h3 : g.2 < 10 ^ 9) (hg : Int.gcd g.1 g.2 = 1) : readF (sg (gT g)) = some g := by
  obtain ⟨t, l⟩ := g
  simp only at h1 h2 h3 hg
  obtain ⟨m, rfl⟩ : ∃ m : Nat, l = (m : Int) := ⟨l.toNat, by omega⟩
  have m9 : m < 10 ^ 9 := by omega
  have e2 : sg (iT (m : Int)) = dg m := sg_nat m
  have lq : ∀ t' : Int, t' = t → lowQ (t', (m : Int)) = (t, (m : Int)) := fun t' e => by subst e; unfold lowQ; simp only [hg]; simp
  have rm : readW (dg m) = some (m : Int) := readW_dg (Nat.lt_trans m9 (by decide))
  have lm := dg_len (n := m) (k := 9) (by decide) m9
  obtain ⟨n, hn⟩ : ∃ n : Nat, t.natAbs = n := ⟨_, rfl⟩
  have rn : readW (dg n) = some (n : Int) := readW_dg (Nat.lt_trans (by omega) (show (10 : Nat) ^ 9 < 10 ^ 13 by decide))
  have ln := dg_len (n := n) (k := 9) (by decide) (by omega)
  have fr : 47 ∉ dg n := fun q => by have := dg_digits n 47 q; omega
  unfold readF readB
  by_cases s : 0 ≤ t
  · have e1 : sg (iT t) = dg n := by rw [show t = (n : Int) by omega]; exact sg_nat n
    have hh : (sg (gT (t, (m : Int)))).head? ≠ some 45 := by
      rw [sg_gT]; simp only
      rw [e1]
      obtain ⟨x, xs, hx⟩ := List.exists_cons_of_ne_nil (dg_ne n)
      have := dg_digits n x (by rw [hx]; exact List.mem_cons_self)
      rw [hx]; simp; omega
    have sf : signF (sg (gT (t, (m : Int)))) (n : Int) = t := by unfold signF; rw [if_neg hh]; omega
    have bf : bodyF (sg (gT (t, (m : Int)))) = dg n ++ 47 :: dg m := by unfold bodyF; rw [if_neg hh, sg_gT]; simp only; rw [e1, e2]
    rw [bf, cutAt_mid fr]
    simp only [rn, rm, sf]
    rw [if_neg (by omega), lq t rfl, if_pos rfl]
  · have e1 : sg (iT t) = 45 :: dg n := by rw [show t = -(n : Int) by omega]; exact sg_neg n (by omega)
    have hh : (sg (gT (t, (m : Int)))).head? = some 45 := by rw [sg_gT]; simp only; rw [e1]; rfl
    have sf : signF (sg (gT (t, (m : Int)))) (n : Int) = t := by unfold signF; rw [if_pos hh]; omega
    have bf : bodyF (sg (gT (t, (m : Int)))) = dg n ++ 47 :: dg m := by unfold bodyF; rw [if_pos hh, sg_gT]; simp only; rw [e1, e2]; rfl
    rw [bf, cutAt_mid fr]
    simp only [rn, rm, sf]
    rw [if_neg (by omega), lq t rfl, if_pos rfl]
end M
namespace M
open PySem L2 PyProof.Rows
open Classical
/-! ## words -/
theorem splitL_mem (c : Nat) : ∀ (l : List Nat), ∀ p ∈ splitL c l, (∀ x ∈ p, x ∈ l) ∧ p.length ≤ l.length
  | [], p, h => by
    simp only [splitL, List.mem_singleton] at h
    subst h
    exact ⟨fun x q => q, Nat.le_refl _⟩
  | d :: ds, p, h => by
    obtain ⟨q, qs, e⟩ := splitL_ne c ds
    have ih := splitL_mem c ds
    rw [e] at ih
    rw [splitL, e] at h
    split at h
    · rcases List.mem_cons.mp h with rfl | h
      · exact ⟨(fun x q => by cases q), Nat.zero_le _⟩
      · obtain ⟨i1, i2⟩ := ih p h
        exact ⟨fun x q => List.mem_cons_of_mem _ (i1 x q), Nat.le_succ_of_le i2⟩
    · rcases List.mem_cons.mp h with rfl | h
      · obtain ⟨i1, i2⟩ := ih q List.mem_cons_self
        refine ⟨fun x hx => ?_, Nat.succ_le_succ i2⟩
        rcases List.mem_cons.mp hx with rfl | hx
        · exact List.mem_cons_self
        · exact List.mem_cons_of_mem _ (i1 x hx)
      · obtain ⟨i1, i2⟩ := ih p (List.mem_cons_of_mem _ h)
        exact ⟨fun x q => List.mem_cons_of_mem _ (i1 x q), Nat.le_succ_of_le i2⟩
theorem splitL_len (c : Nat) : ∀ (l : List Nat), (splitL c l).length ≤ l.length + 1
  | [] => Nat.le_refl _
  | d :: ds => by
    have ih := splitL_len c ds
    obtain ⟨q, qs, e⟩ := splitL_ne c ds
    rw [e] at ih
    rw [splitL, e]
    split <;> simp only [List.length_cons] at * <;> omega
theorem join_sg (c : Nat) : ∀ (ys : List Str), ys ≠ [] → (∀ y ∈ ys, c ∉ sg y) → splitL c (sg (Txt.join ⟨#[c]⟩ ys)) = ys.map sg := by
  intro ys ne h
  show splitL c (sg (PySem.Builtin.Str.glued ⟨#[c]⟩ ys)) = _
  rw [StrLaws.glued_eq_join]
  induction ys with
  | nil => exact absurd rfl ne
  | cons y ys ih =>
    cases ys with
    | nil => rw [join_one, splitL_one c _ (h y List.mem_cons_self)]; rfl
    | cons z zs =>
      rw [join_cons_cons, sg_app, sg_app, List.append_assoc]
      show splitL c (sg y ++ (c :: sg (Str.join ⟨#[c]⟩ (z :: zs)))) = _
      rw [splitL_cons c _ _ (h y List.mem_cons_self), ih (List.cons_ne_nil _ _) fun w hw => h w (List.mem_cons_of_mem _ hw)]
      rfl
theorem join_free (c d : Nat) (hcd : d ≠ c) : ∀ (ys : List Str), (∀ y ∈ ys, d ∉ sg y) → d ∉ sg (Txt.join ⟨#[c]⟩ ys) := by
  intro ys h
  show d ∉ sg (PySem.Builtin.Str.glued ⟨#[c]⟩ ys)
  rw [StrLaws.glued_eq_join]
  induction ys with
  | nil => intro q; cases q
  | cons y ys ih =>
    cases ys with
    | nil => rw [join_one]; exact h y List.mem_cons_self
    | cons z zs =>
      rw [join_cons_cons, sg_app, sg_app]
      intro q
      rcases List.mem_append.mp q with q | q
      · rcases List.mem_append.mp q with q | q
        · exact h y List.mem_cons_self q
        · have : d ∈ [c] := q
          exact hcd (by simpa using this)
      · exact ih (fun w hw => h w (List.mem_cons_of_mem _ hw)) q
theorem join_len {sep : Str} {ys : List Str} {m : Nat} (h : ∀ y ∈ ys, y.length ≤ m) : (Txt.join sep ys).length ≤ ys.length * (m + sep.length) ∧ (ys.map (·.length)).sum ≤ ys.length * m := by
  have s : (ys.map (·.length)).sum ≤ ys.length * m := by
    induction ys with
    | nil => simp
    | cons y ys ih =>
      have a := h y List.mem_cons_self
      have b := ih fun w hw => h w (List.mem_cons_of_mem _ hw)
      simp only [List.map_cons, List.sum_cons, List.length_cons, Nat.succ_mul]
      omega
  refine ⟨?_, s⟩
  show (PySem.Builtin.Str.glued sep ys).length ≤ _
  rw [StrLaws.glued_eq_join]
  have := StrLaws.join_length_le sep ys
  rw [Nat.mul_add]
  omega
theorem okS_join {c : Nat} (hc : c < 1114112) {ys : List Str} (h : ∀ y ∈ ys, okS (sg y)) : okS (sg (Txt.join ⟨#[c]⟩ ys)) := by
  intro d hd
  rcases Classical.em (d < 1114112) with q | q
  · exact q
  · refine absurd hd (join_free c d (by omega) ys fun y hy x => q (h y hy d x))
noncomputable def readG (z : List Nat) : Option (Int × Int) := match readF z with
  | some g => if g.1.natAbs ≤ 1000 ∧ g.2 ≤ 1000 then some g else none
  | none => none
noncomputable def readN (z : List Nat) (a b : Int) : Option Int := match readW z with
  | some n => if a ≤ n ∧ n ≤ b then some n else none
  | none => none
noncomputable def cornerV (l : List Nat) : Option (Int × (Int × Int)) := match cutAt 61 l with
  | some (a, b) => (match readN a 0 100000, readG b with
    | some n, some g => some (n, g)
    | _, _ => none)
  | none => none
noncomputable def cornersV : List (List Nat) → Option (List (Int × (Int × Int)))
  | [] => some []
  | l :: ls => (match cornerV l, cornersV ls with
    | some c, some cs => some (c :: cs)
    | _, _ => none)
theorem cornersV_at : ∀ {ls : List (List Nat)} {cs : List (Int × (Int × Int))}, cornersV ls = some cs → ls.length = cs.length ∧ ∀ (i : Nat) (l : List Nat), ls[i]? = some l → ∃ c, cs[i]? = some c ∧ cornerV l = some c
  | [], cs, h => by cases h; exact ⟨rfl, fun i l q => by simp at q⟩
  | l :: ls, cs, h => by
    rw [cornersV] at h
    cases e1 : cornerV l with
    | none => rw [e1] at h; cases h
    | some c =>
      cases e2 : cornersV ls with
      | none => rw [e1, e2] at h; cases h
      | some ds =>
        rw [e1, e2] at h
        cases h
        obtain ⟨i1, i2⟩ := cornersV_at e2
        refine ⟨by rw [List.length_cons, i1, List.length_cons], fun i k q => ?_⟩
        cases i with
        | zero => simp at q; subst q; exact ⟨c, rfl, e1⟩
        | succ i => exact i2 i k (by simpa using q)
def rise (cs : List (Int × (Int × Int))) : Prop := ∀ i, i + 1 < cs.length → (cs.getD i (0, 0, 0)).1 < (cs.getD (i + 1) (0, 0, 0)).1
def cT (c : Int × (Int × Int)) : Str := iT c.1 ++ Str.ofString "=" ++ gT c.2
theorem sg_cT (c : Int × (Int × Int)) : sg (cT c) = sg (iT c.1) ++ 61 :: sg (gT c.2) := by
  unfold cT; rw [sg_app, sg_app, List.append_assoc]; rfl
theorem readN_iT {n a b : Int} (h0 : 0 ≤ n) (h1 : n < 1000000) (ha : a ≤ n) (hb : n ≤ b) : readN (sg (iT n)) a b = some n := by
  obtain ⟨m, rfl⟩ := Int.eq_ofNat_of_zero_le h0
  unfold readN
  rw [sg_nat, readW_dg (Nat.lt_trans (show m < 1000000 by omega) (by decide))]
  simp only
  rw [if_pos ⟨ha, hb⟩]
theorem readG_gT {g : Int × Int} (h1 : g.1.natAbs ≤ 1000) (h2 : 0 < g.2) (h3 : g.2 ≤ 1000) (hg : Int.gcd g.1 g.2 = 1) : readG (sg (gT g)) = some g := by
  unfold readG
  rw [readF_gT (by have : (1000 : Nat) < 10 ^ 9 := by decide
                   omega) h2 (by have : (1000 : Int) < 10 ^ 9 := by decide
                                 omega) hg]
  simp only
  rw [if_pos ⟨h1, h3⟩]
theorem cornerV_cT {c : Int × (Int × Int)} (h0 : 0 ≤ c.1) (hm : c.1 ≤ 100000) (h1 : c.2.1.natAbs ≤ 1000) (h2 : 0 < c.2.2) (h3 : c.2.2 ≤ 1000) (hg : Int.gcd c.2.1 c.2.2 = 1) : cornerV (sg (cT c)) = some c := by
  unfold cornerV
  rw [sg_cT, cutAt_mid (iT_free (by decide) (by decide) _)]
  simp only
  rw [readN_iT h0 (by omega) h0 hm, readG_gT h1 h2 h3 hg]
theorem cornersV_cT : ∀ {cs : List (Int × (Int × Int))}, (∀ c ∈ cs, 0 ≤ c.1 ∧ c.1 ≤ 100000 ∧ c.2.1.natAbs ≤ 1000 ∧ 0 < c.2.2 ∧ c.2.2 ≤ 1000 ∧ Int.gcd c.2.1 c.2.2 = 1) → cornersV (cs.map fun c => sg (cT c)) = some cs
  | [], _ => rfl
  | c :: cs, h => by
    obtain ⟨h0, hm, h1, h2, h3, hg⟩ := h c List.mem_cons_self
    rw [List.map_cons, cornersV, cornerV_cT h0 hm h1 h2 h3 hg, cornersV_cT fun d hd => h d (List.mem_cons_of_mem _ hd)]
end M

namespace M
open PySem L2 PyProof.Rows
open Classical
/-! ## a loop that leaves at the first thing found -/
theorem forM_find {α : Type} {g : GM} {b : SM} (e : α → MV) (q : α → Bool) (v : α → MV) (St : MS → Prop) : ∀ (xs : List α) (s : MS), St s →
    (∀ x ∈ xs, ∀ s, St s → q x = false → ∃ s1 s2, g (e x) s = some s1 ∧ b s1 = .ok .nx s2 ∧ St s2) → (∀ x ∈ xs, ∀ s, St s → q x = true → ∃ s1 s2, g (e x) s = some s1 ∧ b s1 = .ok (.rt (v x)) s2 ∧ St s2) →
    (xs.find? q = none ∧ ∃ s', M.forM g b (xs.map e) s = .ok .nx s' ∧ St s') ∨ (∃ x, xs.find? q = some x ∧ ∃ s', M.forM g b (xs.map e) s = .ok (.rt (v x)) s' ∧ St s')
  | [], s, h, _, _ => .inl ⟨rfl, s, rfl, h⟩
  | x :: xs, s, h, t1, t2 => by
    cases hq : q x with
    | false =>
      obtain ⟨s1, s2, h1, h2, h3⟩ := t1 x List.mem_cons_self s h hq
      have step : M.forM g b ((x :: xs).map e) s = M.forM g b (xs.map e) s2 := by
        rw [List.map_cons]
        conv => lhs; unfold M.forM
        simp only [h1, h2]
      rw [step, List.find?_cons, hq]
      exact forM_find e q v St xs s2 h3 (fun y hy => t1 y (List.mem_cons_of_mem _ hy)) fun y hy => t2 y (List.mem_cons_of_mem _ hy)
    | true =>
      obtain ⟨s1, s2, h1, h2, h3⟩ := t2 x List.mem_cons_self s h hq
      refine .inr ⟨x, by rw [List.find?_cons, hq], s2, ?_, h3⟩
      rw [List.map_cons]
      unfold M.forM
      simp only [h1, h2]
end M

namespace M
open PySem L2 PyProof.Rows
open Classical

noncomputable def mClrL (mr : EM) : SM := fun s => (mr s).bind fun r s0 => match r with
  | .ref n => (match s0.G[n]? with
    | some (.lst _) => .ok .nx ⟨s0.env, s0.G.set n (.lst [])⟩
    | _ => .stuck)
  | _ => .stuck
section
variable {K : KA} {W : WX} {ta : TE} {ma : EM}
theorem ss_clrL (hr : SimE K W ta ma) : SimS K W (tDrop (tBM0 K.F "list" rClear ta)) (mClrL ma) := by
  intro X ρ O s σ H D S p
  refine hr.bindS S p fun r s0 ρ0 O0 H0 v S0 F0 r0 p0 => ?_
  cases r0 with
  | ref hn =>
    rename_i n a
    dsimp only at p0
    cases g : s0.G[n]? with
    | none => simp only [g] at p0; exact p0.elim
    | some o => cases o with
      | ins c ks vs => simp only [g] at p0; exact p0.elim
      | dic ms => simp only [g] at p0; exact p0.elim
      | lck od fs ms => simp only [g] at p0; exact p0.elim
      | lst ms0 =>
        simp only [g] at p0
        obtain ⟨vs0, hx0, _⟩ := S0.refL hn g
        refine ⟨.inl ⟨rfl, _, sqlh hx0⟩, ?_⟩
        refine ⟨a, vs0, rfl, rfl, hx0, ?_⟩
        obtain ⟨S2, F2⟩ := S0.setG hn (.nil)
        exact p0 ρ0 O0 σ _ S2 F2
  | _ => exact p0.elim
end
section
variable {ct : String → Addr} {X : Cx} {W : WX} {r : Expr} {ta : TE} {ma : EM} {pos apos spos : Pos}
theorem s_clrL (hr : PEM ct X W r ta ma)
    (hbase : attributeBase r "clear" X.env (eval r X.env) = eval r X.env := by rfl)
    (hline : (apos.endLine == pos.line) = true := by rfl)
    (hs : swapsWith (.Call (.Attribute r "clear" apos) [] [] pos) none spos.line X.env = pure false := by rfl) :
    PSM ct X W (.Expr (.Call (.Attribute r "clear" apos) [] [] pos) spos) (tDrop (tBM0 X.K "list" rClear ta)) (mClrL ma) :=
  ⟨ps_expr (pe_bm0 PySem.F.plainAttrs_list PySem.F.slot_list_clear PySem.F.type_list_clear mt_clear hr.pe hbase hline) hs, ss_clrL hr.sim⟩
end
noncomputable def mStL (me mr mi : EM) : SM := fun s => (me s).bind fun x s1 => (mr s1).bind fun r s2 => (mi s2).bind fun i s3 => match r with
  | .ref n => (match i with
    | .int k => (match s3.G[n]? with
      | some (.lst xs) => (match ixN xs.length k with
        | some j => .ok .nx ⟨s3.env, s3.G.set n (.lst (xs.set j x))⟩
        | none => .stuck)
      | _ => .stuck)
    | _ => .stuck)
  | _ => .stuck
section
variable {K : KA} {W : WX} {te tr ti : TE} {me mr mi : EM}
theorem ss_stL (hv : SimE K W te me) (hr : SimE K W tr mr) (hi : SimE K W ti mi) : SimS K W (tAsg te (gSub tr ti rSetL)) (mStL me mr mi) := by
  intro X ρ O s σ H D S p
  refine hv.bindS S p fun y s1 ρ1 O1 H1 u S1 F1 r1 p1 => ?_
  refine hr.bindS S1 p1 fun x s2 ρ2 O2 H2 v S2 F2 r2 p2 => ?_
  refine hi.bindS S2 p2 fun i s3 ρ3 O3 H3 w S3 F3 r3 p3 => ?_
  cases r2 with
  | ref hn =>
    rename_i n a
    dsimp only at p3
    cases r3 with
    | int k =>
      dsimp only at p3
      cases g : s3.G[n]? with
      | none => simp only [g] at p3; exact p3.elim
      | some o => cases o with
        | ins c ks vs => simp only [g] at p3; exact p3.elim
        | dic ms => simp only [g] at p3; exact p3.elim
        | lck od fs ms => simp only [g] at p3; exact p3.elim
        | lst xs =>
          simp only [g] at p3
          have hn3 := F3.pre n a hn
          obtain ⟨vs, hx, rx⟩ := S3.refL hn3 g
          cases hj : ixN xs.length k with
          | none => simp only [hj] at p3; exact p3.elim
          | some j =>
            simp only [hj] at p3
            obtain ⟨S4, F4⟩ := S3.setG hn3 (Reps.set (F3.rep (F2.rep r1)) j rx)
            exact ⟨a, vs, k, j, rfl, rfl, hx, by rw [← rx.length]; exact hj, p3 ρ3 O3 σ _ S4 F4⟩
    | _ => exact p3.elim
  | _ => exact p3.elim
end
section
variable {ct : String → Addr} {X : Cx} {W : WX} {o i e : Expr} {te tr ti : TE} {me mr mi : EM} {pos tpos : Pos}
theorem s_stL (hv : PEM ct X W e te me) (hr : PEM ct X W o tr mr) (hi : PEM ct X W i ti mi)
    (hs : swapsWithSole [.Subscript o i tpos] e pos.line X.env = pure false := by rfl) (hw : swappedStores [.Subscript o i tpos] e X.env = pure none := by rfl)
    (h1 : (assignEach [.Subscript o i tpos] X.env).map (·.2) = [assign (.Subscript o i tpos) X.env] := by rfl)
    (ha : ∀ v, assign (.Subscript o i tpos) X.env v = (do
      let ov ← holding [v] (eval o X.env)
      let iv ← holding [v, ov] (eval i X.env)
      standAt tpos
      holding [v, ov, iv] (setItem ov iv v)
      release [v, ov, iv] []) := by intro _; rfl) :
    PSM ct X W (.Assign [.Subscript o i tpos] e pos) (tAsg te (gSub tr ti rSetL)) (mStL me mr mi) :=
  ⟨ps_asg hv.pe (pg_sub hr.pe hi.pe set_list ha) hs hw h1, ss_stL hv.sim hr.sim hi.sim⟩
end

end M

namespace M
open PySem L2 PyProof.Rows
open Classical
/-! ## a loop over a live list that the body does not change -/
noncomputable def forML (g : GM) (b : SM) (n : Nat) (all : List MV) : List MV → SM
  | [] => fun s => if s.G[n]? = some (.lst all) then .ok .nx s else .stuck
  | x :: xs => fun s => if s.G[n]? = some (.lst all) then (match g x s with
    | none => .stuck
    | some s1 => match b s1 with
      | .ok .nx s2 => forML g b n all xs s2
      | .ok .ct s2 => forML g b n all xs s2
      | .ok .bk s2 => .ok .nx s2
      | .ok (.rt x) s2 => .ok (.rt x) s2
      | .exc x s2 => .exc x s2
      | .stuck => .stuck) else .stuck
noncomputable def mForL (e : EM) (g : GM) (b : SM) : SM := fun s => (e s).bind fun x s1 => match x with
  | .ref n => (match s1.G[n]? with
    | some (.lst xs) => forML g b n xs xs s1
    | _ => .stuck)
  | _ => .stuck
section
variable {K : KA} {W : WX}
theorem ss_forL {ts : List Nat} {te : TE} {me : EM} {g : TG} {mg : GM} {tb : TS} {mb : SM} (he : SimE K W te me) (hg : SimG K ts g mg) (hb : SimS K W tb mb) : SimS K W (tFor (iList K.F te) g tb) (mForL me mg mb) := by
  intro X ρ O s σ H D S p
  refine he.bindS S p fun x s1 ρ1 O1 H1 v S1 F1 r1 p1 => ?_
  cases r1 with
  | ref hn =>
    rename_i n a
    dsimp only at p1
    cases g1 : s1.G[n]? with
    | none => simp only [g1] at p1; exact p1.elim
    | some o => cases o with
      | ins c ks vs => simp only [g1] at p1; exact p1.elim
      | dic ms => simp only [g1] at p1; exact p1.elim
      | lck od fs ms => simp only [g1] at p1; exact p1.elim
      | lst xs =>
        simp only [g1] at p1
        obtain ⟨vs1, hx1, rx1⟩ := S1.refL hn g1
        refine ⟨a, rfl, ⟨_, sqlh hx1⟩, ?_⟩
        refine ⟨fun i m σ' H' => m = xs.length - i ∧ i ≤ xs.length ∧ ∃ ρ' O' s', SR K X ρ' O' s' σ' H' ∧ Fut X ρ1 O1 H1 ρ' O' H' ∧ PostS K X W ρ' O' H' (forML mg mb n xs (xs.drop i) s') D,
          ⟨xs.length, by simp, Nat.zero_le _, ρ1, O1, s1, S1, Fut.refl, p1⟩, ?_⟩
        rintro i m σ2 H2 ⟨rfl, hi', ρ2, O2, s2, S2, F2, p2⟩
        have hn2 := F2.pre n a hn
        by_cases hlt : i < xs.length
        · have hd : xs.drop i = xs[i] :: xs.drop (i + 1) := List.drop_eq_getElem_cons hlt
          rw [hd] at p2
          unfold forML at p2
          by_cases g2 : s2.G[n]? = some (.lst xs)
          · rw [if_pos g2] at p2
            obtain ⟨vs2, hx2, rx2⟩ := S2.refL hn2 g2
            have hv : i < vs2.length := by rw [← rx2.length]; exact hlt
            refine .inr ⟨⟨vs2, vs2[i], sqlh hx2, List.getElem?_eq_getElem hv⟩, fun σ' H' => i + 1 ≤ xs.length ∧ ∃ ρ' O' s', SR K X ρ' O' s' σ' H' ∧ Fut X ρ1 O1 H1 ρ' O' H' ∧ PostS K X W ρ' O' H' (forML mg mb n xs (xs.drop (i + 1)) s') D,
              fun σ' H' h => ⟨xs.length - (i + 1), by omega, rfl, h⟩, fun x H3 y => ?_⟩
            obtain ⟨rfl, y⟩ := y
            obtain ⟨v3, hv3, rv3⟩ := rx2.get (List.getElem?_eq_getElem hlt)
            have y2 := y vs2 (sqlh hx2)
            rw [hv3] at y2
            cases y2
            cases eg : mg xs[i] s2 with
            | none => rw [eg] at p2; exact p2.elim
            | some s3 =>
              rw [eg] at p2
              refine hg X ρ2 O2 s2 σ2 _ xs[i] _ s3 _ S2 rv3 eg fun O4 σ4 S4 F4 _ => ?_
              have F14 := F2.trans F4
              refine hb X ρ2 O4 s3 σ4 _ _ S4 ?_
              have p4 := p2.later F4
              cases eb : mb s3 with
              | ok f s5 =>
                simp only [eb] at p4
                cases f with
                | nx => intro ρ5 O5 σ5 H5 S5 F5; exact ⟨hlt, ρ5, O5, s5, S5, F14.trans F5, p4.later F5⟩
                | ct => intro ρ5 O5 σ5 H5 S5 F5; exact ⟨hlt, ρ5, O5, s5, S5, F14.trans F5, p4.later F5⟩
                | bk => exact p4
                | rt x => exact p4
              | exc c s5 => simp only [eb] at p4; exact p4
              | stuck => simp only [eb] at p4; exact p4
          · rw [if_neg g2] at p2; exact p2.elim
        · have e : i = xs.length := by omega
          subst e
          rw [List.drop_length] at p2
          unfold forML at p2
          by_cases g2 : s2.G[n]? = some (.lst xs)
          · rw [if_pos g2] at p2
            obtain ⟨vs2, hx2, rx2⟩ := S2.refL hn2 g2
            exact .inl ⟨⟨vs2, sqlh hx2, by rw [rx2.length]; exact Nat.le_refl _⟩, p2 ρ2 O2 σ2 H2 S2 Fut.refl⟩
          · rw [if_neg g2] at p2; exact p2.elim
  | _ => exact p1.elim
end
theorem forML_map {α : Type} {g : GM} {b : SM} {n : Nat} {all : List MV} (e : α → MV) (St : MS → Prop) (hS : ∀ s, St s → s.G[n]? = some (.lst all)) : ∀ (xs : List α) (s : MS), St s →
    (∀ x ∈ xs, ∀ s, St s → ∃ s1 s2, g (e x) s = some s1 ∧ b s1 = .ok .nx s2 ∧ St s2) → ∃ s', forML g b n all (xs.map e) s = .ok .nx s' ∧ St s'
  | [], s, h, _ => ⟨s, by simp only [List.map_nil, forML, hS s h, if_true], h⟩
  | x :: xs, s, h, t => by
    obtain ⟨s1, s2, h1, h2, h3⟩ := t x List.mem_cons_self s h
    obtain ⟨s', h4, h5⟩ := forML_map e St hS xs s2 h3 fun y hy => t y (List.mem_cons_of_mem _ hy)
    refine ⟨s', ?_, h5⟩
    simp only [List.map_cons, forML, hS s h, if_true, h1, h2]
    exact h4
end M

namespace M
open PySem L2 PyProof.Rows
open Classical
/-! ## a comprehension over a live list that the elements do not change -/
noncomputable def lcML (g : GM) (t : TM) (e : EM) (vs : List Nat) (E0 : List SV) (n : Nat) (all : List MV) : List MV → List MV → MHeap → R (List MV)
  | [], acc, G => if G[n]? = some (.lst all) then .ok acc ⟨E0, G⟩ else .stuck
  | x :: xs, acc, G => if G[n]? = some (.lst all) then (match lcOne g t e vs E0 x G with
    | .ok (some y) s => lcML g t e vs E0 n all xs (acc ++ [y]) s.G
    | .ok none s => lcML g t e vs E0 n all xs acc s.G
    | _ => .stuck) else .stuck
noncomputable def lcEndFL (g : GM) (t : TM) (e : EM) (vs : List Nat) (n : Nat) (xs : List MV) : MS → R MO := fun s =>
  if lim xs.length then if noOw s.env vs = true then match lcML g t e vs (wipeE s.env vs) n xs xs [] s.G with
    | .ok ys s2 => .ok (.lst ys) ⟨s.env, s2.G⟩
    | _ => .stuck
  else .stuck else .stuck
noncomputable def mLcLL (m0 : EM) (vs : List Nat) (g : GM) (t : TM) (e : EM) : LM := fun s => (m0 s).bind fun x s1 => match x with
  | .ref n => (match s1.G[n]? with
    | some (.lst xs) => lcEndFL g t e vs n xs s1
    | _ => .stuck)
  | _ => .stuck
theorem sf_lcL {K : KA} {W : WX} {t0 : TE} {m0 : EM} {ts vs : List Nat} {g : TG} {mg : GM} {tt : TT} {mt : TM} {te : TE} {me : EM} (hi : SimE K W t0 m0) (hg : SimG K ts g mg) (ht : SimT K W0 tt mt) (he : SimE K W0 te me) (hts : ∀ i ∈ ts, i ∈ vs) :
    SimN K W (tLc (iList K.F t0) g tt te vs) (mLcLL m0 vs mg mt me) := by
  intro X ρ O s σ H Q S p
  refine hi.bindN S p fun x s1 ρ1 O1 H1 v S1 F1 r1 p1 => ?_
  cases r1 with
  | ref hr =>
    rename_i n a
    dsimp only at p1
    cases g1 : s1.G[n]? with
    | none => simp only [g1] at p1; exact p1.elim
    | some o => cases o with
      | ins c ks vs => simp only [g1] at p1; exact p1.elim
      | dic ms => simp only [g1] at p1; exact p1.elim
      | lck od fs ms => simp only [g1] at p1; exact p1.elim
      | lst xs =>
        simp only [g1] at p1
        obtain ⟨vs1, hx1, rx1⟩ := S1.refL hr g1
        refine ⟨a, rfl, ⟨_, sqlh hx1⟩, ?_⟩
        intro D hD
        unfold lcEndFL at p1
        by_cases hz : lim xs.length
        case neg => rw [if_neg hz] at p1; exact p1.elim
        rw [if_pos hz] at p1
        by_cases hn : noOw s1.env vs = true
        case neg => rw [if_neg hn] at p1; exact p1.elim
        rw [if_pos hn] at p1
        cases er : lcML mg mt me vs (wipeE s1.env vs) n xs xs [] s1.G with
        | stuck => simp only [er] at p1; exact p1.elim
        | exc c s2 => simp only [er] at p1; exact p1.elim
        | ok ys sF =>
          simp only [er] at p1
          obtain ⟨O2, S2, F2⟩ := (S1.hide hD (.lst [])).wipe vs
          have v12 : Ex (view X ρ1 O1 H1) (view (fun b => X b ∨ b = D) ρ1 O2 (upd H1 D (.lst []))) := by
            have := F2.ex; rw [view_hide hD] at this; exact this
          refine ⟨fun i m H' => m = xs.length - i ∧ i ≤ xs.length ∧ ∃ ρ' O' G' acc accv, H' D = some (.lst accv) ∧ Reps ρ' K (view (fun b => X b ∨ b = D) ρ' O' H') acc accv ∧ acc.length ≤ i ∧
              SR K (fun b => X b ∨ b = D) ρ' O' ⟨wipeE s1.env vs, G'⟩ (L2.wipe σ vs) H' ∧ Pre ρ1 ρ' ∧ Ex (view X ρ1 O1 H1) (view (fun b => X b ∨ b = D) ρ' O' H') ∧ (∀ b o, X b → H1 b = some o → H' b = some o) ∧
              lcML mg mt me vs (wipeE s1.env vs) n xs (xs.drop i) acc G' = .ok ys sF,
            ⟨xs.length, by simp, Nat.zero_le _, ρ1, O2, s1.G, [], [], upd_same, .nil, Nat.le_refl _, S2, Pre.refl _, v12, fun b o hb e => Ex.new hD b o e, er⟩, ?_⟩
          rintro i m H2 ⟨rfl, hi', ρ2, O2, G2, acc, accv, hd2, ra, hl2, S2, q2, v2, x2, e2⟩
          have e02 : Ex (view X ρ1 O1 H1) H2 := v2.trans (view_le _ _ _ _)
          by_cases hlt : i < xs.length
          · have hd : xs.drop i = xs[i] :: xs.drop (i + 1) := List.drop_eq_getElem_cons hlt
            rw [hd] at e2
            unfold lcML lcOne at e2
            by_cases g2 : G2[n]? = some (.lst xs)
            case neg => rw [if_neg g2] at e2; cases e2
            rw [if_pos g2] at e2
            obtain ⟨vs2, hx2, rx2⟩ := S2.refL (q2 n a hr) g2
            have hv : i < vs2.length := by rw [← rx2.length]; exact hlt
            refine .inr ⟨⟨vs2, vs2[i], sqlh hx2, List.getElem?_eq_getElem hv⟩, fun H' => i + 1 ≤ xs.length ∧ ∃ ρ' O' G' acc accv, H' D = some (.lst accv) ∧ Reps ρ' K (view (fun b => X b ∨ b = D) ρ' O' H') acc accv ∧ acc.length ≤ i + 1 ∧
                SR K (fun b => X b ∨ b = D) ρ' O' ⟨wipeE s1.env vs, G'⟩ (L2.wipe σ vs) H' ∧ Pre ρ1 ρ' ∧ Ex (view X ρ1 O1 H1) (view (fun b => X b ∨ b = D) ρ' O' H') ∧ (∀ b o, X b → H1 b = some o → H' b = some o) ∧
                lcML mg mt me vs (wipeE s1.env vs) n xs (xs.drop (i + 1)) acc G' = .ok ys sF, fun H' h => ⟨xs.length - (i + 1), by omega, rfl, h⟩, fun x H3 y => ?_⟩
            obtain ⟨rfl, y⟩ := y
            obtain ⟨v3, hv3, rv3⟩ := rx2.get (List.getElem?_eq_getElem hlt)
            have y2 := y vs2 (sqlh hx2)
            rw [hv3] at y2
            cases y2
            cases eg : mg xs[i] ⟨wipeE s1.env vs, G2⟩ with
            | none => simp only [eg] at e2; cases e2
            | some s3 =>
              simp only [eg] at e2
              refine hg _ ρ2 O2 _ _ _ xs[i] _ s3 _ S2 rv3 eg fun O4 σ4 S4 F4 T4 => ?_
              have tw : L2.wipe σ4 vs = L2.wipe σ vs := (T4 vs hts).trans (wipe_idem σ vs)
              refine ⟨tw, ?_⟩
              have F24 := F4
              refine ht _ ρ2 O4 s3 σ4 _ _ S4 ?_
              cases et : mt s3 with
              | stuck => simp only [et, R.bind_stuck] at e2; cases e2
              | exc c s5 => simp only [et, R.bind_exc] at e2; cases e2
              | ok b s5 =>
                simp only [et, R.bind_ok] at e2
                intro ρ5 O5 H5 S5 F5
                have F25 := F24.trans F5
                cases b with
                | false =>
                  simp only [Bool.false_eq_true, if_false] at e2 ⊢
                  by_cases hw : wipeE s5.env vs = wipeE s1.env vs
                  · rw [if_pos hw] at e2
                    simp only at e2
                    obtain ⟨O6, S6, F6⟩ := S5.wipe vs
                    have F26 := F25.trans F6
                    rw [hw, tw] at S6
                    exact ⟨hlt, ρ5, O6, s5.G, acc, accv, F26.xs D _ (.inr rfl) hd2, F26.reps ra, by omega, S6, q2.trans F26.pre, v2.trans F26.ex, fun b o hb e => F26.xs b o (.inl hb) (x2 b o hb e), e2⟩
                  · rw [if_neg hw] at e2; cases e2
                | true =>
                  simp only [if_true] at e2 ⊢
                  refine he _ ρ5 O5 s5 σ4 H5 _ S5 ?_
                  cases ee : me s5 with
                  | stuck => simp only [ee, R.bind_stuck] at e2; cases e2
                  | exc c s7 => simp only [ee, R.bind_exc] at e2; cases e2
                  | ok y s7 =>
                    simp only [ee, R.bind_ok] at e2
                    intro ρ7 O7 H7 v S7 F7 r7
                    have F27 := F25.trans F7
                    by_cases hw : wipeE s7.env vs = wipeE s1.env vs
                    · rw [if_pos hw] at e2
                      simp only at e2
                      obtain ⟨O8, S8, F8⟩ := S7.wipe vs
                      have F28 := F27.trans F8
                      rw [hw, tw] at S8
                      have hd7 := F28.xs D _ (.inr rfl) hd2
                      have la : accv.length = acc.length := ra.length.symm
                      refine ⟨accv, hd7, ?_, hlt, ρ7, O8, s7.G, acc ++ [y], accv ++ [v], upd_same, ?_, by simp; omega, S8.put _, q2.trans F28.pre, ?_, fun b o hb e => ?_, e2⟩
                      · have hz' : xs.length ≤ 16777216 := hz
                        rw [sizeLine_eq, la]
                        omega
                      · rw [view_put]
                        exact (F28.reps ra).append (.cons (F8.rep r7) .nil)
                      · rw [view_put]; exact v2.trans F28.ex
                      · have h7 := F28.xs b o (.inl hb) (x2 b o hb e)
                        have ne : b ≠ D := fun q => by
                          subst q
                          rw [hD] at e; cases e
                        rw [upd_ne ne]; exact h7
                    · rw [if_neg hw] at e2; cases e2
          · have e : i = xs.length := by omega
            subst e
            rw [List.drop_length] at e2
            unfold lcML at e2
            by_cases g2 : G2[n]? = some (.lst xs)
            case neg => rw [if_neg g2] at e2; cases e2
            rw [if_pos g2] at e2
            cases e2
            obtain ⟨vs2, hx2, rx2⟩ := S2.refL (q2 n a hr) g2
            refine .inl ⟨⟨vs2, sqlh hx2, by rw [rx2.length]; exact Nat.le_refl _⟩, ?_⟩
            have SB := S1.backH hn q2 v2 S2
            refine p1 ρ2 O2 H2 D ⟨SB, fun q => ?_, ⟨accv, hd2, ra⟩, q2, v2, x2⟩
            obtain ⟨o, ho⟩ := S1.xo D q
            rw [hD] at ho; cases ho
  | _ => exact p1.elim
/-- every element alike: none raises, none changes anything -/
theorem lcML_map {α : Type} {g : GM} {t : TM} {e : EM} {vs : List Nat} {E0 : List SV} {n : Nat} {all : List MV} {G : MHeap} (hG : G[n]? = some (.lst all)) (i : α → MV) (f : α → MV) : ∀ (xs : List α) (acc : List MV), (∀ x ∈ xs, ∃ s, lcOne g t e vs E0 (i x) G = .ok (some (f x)) s ∧ s.G = G) → lcML g t e vs E0 n all (xs.map i) acc G = .ok (acc ++ xs.map f) ⟨E0, G⟩
  | [], acc, _ => by rw [List.map_nil, lcML, if_pos hG]; simp
  | x :: xs, acc, h => by
    obtain ⟨s, h1, h2⟩ := h x (by simp)
    rw [List.map_cons, lcML, if_pos hG, h1]
    simp only
    rw [h2, lcML_map hG i f xs (acc ++ [f x]) (fun y hy => h y (by simp [hy]))]
    simp
theorem lcEndFL_typed {α : Type} {g : GM} {t : TM} {el : EM} {vs : List Nat} {n : Nat} {xs : List α} {s : MS} (e f : α → MV) (hG : s.G[n]? = some (.lst (xs.map e))) (hl : xs.length ≤ 16777216) (hn : noOw s.env vs = true) (h : ∀ x ∈ xs, ∃ s', lcOne g t el vs (wipeE s.env vs) (e x) s.G = .ok (some (f x)) s' ∧ s'.G = s.G) : lcEndFL g t el vs n (xs.map e) s = .ok (.lst (xs.map f)) s := by
  unfold lcEndFL
  rw [if_pos (show lim _ by unfold lim; rw [List.length_map]; exact hl), if_pos hn, lcML_map hG e f xs [] h, List.nil_append]
section
variable {ct : String → Addr} {X : Cx} {W : WX} {scope : Scope} {elt tg iter : Expr} {ifs : List Expr} {t0 : TE} {m0 : EM} {mg : GM} {me : EM} {mt : TM} {ts : List Nat}
theorem f_lcL {own : List (Str × Nat)} {pos : Pos}
    (hN : X.N.Nodup) (hi : PEM ct X W iter t0 m0) (ok : BlkOk X.N X.env.scope scope own)
    (hg : ∀ s H C cl fp, ∃ g, PGM ct (blkX X scope s H C cl fp) tg ts g mg) (ht : ∀ s H C cl fp, ∃ te, PQM ct (blkX X scope s H C cl fp) W0 ifs te mt)
    (he : ∀ s H C cl fp, ∃ te, PEM ct (blkX X scope s H C cl fp) W0 elt te me) (hc : X.calm = true := by rfl) (hts : ∀ i ∈ ts, i ∈ own.map (·.2) := by decide) (hs : ∀ x, foldedSetIterable iter X.env x = pure x := by intro _; rfl) :
    PNM ct X W (.ListComp elt [⟨tg, iter, ifs, 0⟩] scope pos) (tLc (iList X.K t0) (gAll ct X scope tg ts mg) (qAll ct X scope ifs mt) (eAll ct X scope elt me) (own.map (·.2))) (mLcLL m0 (own.map (·.2)) mg mt me) :=
  ⟨pe_lc hc hN (pi_list hi.pe) ok (gAll_pe hg) (qAll_pe ht) (eAll_pe he) hs, sf_lcL hi.sim gAll_sim qAll_sim eAll_sim hts⟩
theorem s_forL {sts : List Stmt} {e : Expr} {g : TG} {ta : TS} {te : TE} {me : EM} {ma : SM} {pos : Pos} (hp : PassesOwn (model X.prog X.w) X.A X.env X.xe) (hi : PEM ct X W e te me) (hg : PGM ct X tg ts g mg) (hb : PSsM ct X W sts ta ma) (hc : X.calm = true := by rfl) (hs : ∀ x, foldedSetIterable e X.env x = pure x := by intro _; rfl) : PSM ct X W (.For tg e sts [] pos) (tFor (iList X.K te) g ta) (mForL me mg ma) :=
  ⟨ps_for hp hc (pi_list hi.pe) hg.pe hb.pe hs, ss_forL hi.sim hg.sim hb.sim⟩
end
end M

namespace M
open PySem L2 PyProof.Rows
section
variable {K : KA} {W : WX}
theorem sim_dic0 : SimE K W tDNewK (mCon .dic) := by
  intro X ρ O s σ H Q S p q hq
  exact p.grown S (Ex.new hq) (.dic (S.view_new hq))
end
section
variable {ct : String → Addr} {X : Cx} {W : WX} {pos : Pos}
theorem e_dic0 : PEM ct X W (.Dict [] [] pos) tDNewK (mCon .dic) := ⟨pe_dnewK, sim_dic0⟩
end
theorem kit_dict_int : kitB "dict" "int" = some false := by decide +kernel
theorem kit_dict_bool : kitB "dict" "bool" = some false := by decide +kernel
theorem kit_dict_str : kitB "dict" "str" = some false := by decide +kernel
theorem kit_dict_list : kitB "dict" "list" = some false := by decide +kernel
theorem kit_dict_tuple : kitB "dict" "tuple" = some false := by decide +kernel
theorem kit_dict_dict : kitB "dict" "dict" = some true := by decide +kernel
end M

namespace M
open PySem L2 PyProof.Rows
noncomputable def mIns (i : Nat) (mk me : EM) : SM := fun s => match s.env[i]? with
  | some (.ow _) => (mk s).bind fun k s1 => (me s1).bind fun y s2 => match s2.env[i]?, k with
    | some (.ow xs), .int j => if xs.length < 16777216 ∧ 0 ≤ j ∧ j < 1000000000 then .ok .nx ⟨s2.env.set i (.ow (xs.take j.toNat ++ [y] ++ xs.drop j.toNat)), s2.G⟩ else .stuck
    | _, _ => .stuck
  | _ => .stuck
noncomputable def mPopO (i : Nat) (mk : EM) : EM := fun s => match s.env[i]? with
  | some (.ow _) => (mk s).bind fun k s1 => match s1.env[i]?, k with
    | some (.ow xs), .int j => if 0 ≤ j ∧ j < 1000000000 then (match xs[j.toNat]? with
      | some y => .ok y ⟨s1.env.set i (.ow (xs.eraseIdx j.toNat)), s1.G⟩
      | none => .stuck) else .stuck
    | _, _ => .stuck
  | _ => .stuck
def rIns : V → List V → Hp → VK → Prop := fun x vs H Q => ∃ (l : Addr) (xs : List V) (i : Int) (y : V), x = .ref l ∧ vs = [.int i, y] ∧ H l = some (.lst xs) ∧ xs.length < sizeLine ∧ 0 ≤ i ∧ i < 2 ^ 63 ∧
    Q .non (upd H l (.lst (xs.take i.toNat ++ [y] ++ xs.drop i.toNat)))
section
variable {K : KA} {W : WX} {tk te : TE} {mk me : EM}
theorem ss_ins (i : Nat) (hk : SimE K W tk mk) (h : SimE K W te me) : SimS K W (tDrop (tBM K.F "list" rIns (tVar i) (tCons tk (tCons te tNil)))) (mIns i mk me) := by
  intro X ρ O s σ H D S p
  unfold mIns at p
  cases e : s.env[i]? with
  | none => rw [e] at p; exact p.elim
  | some z =>
    rw [e] at p
    have zz := S.sl i z e
    cases z with
    | un => exact p.elim
    | sh x => exact p.elim
    | ow xs0 =>
      obtain ⟨a, vs0, h1, h2, h3, h4⟩ := zz
      refine ⟨_, h2, .inl ⟨rfl, _, sqlh h3⟩, ?_⟩
      refine hk.bindS S p fun k s1 ρ1 O1 H1 w S1 F1 r1 p1 => ?_
      refine h.bindS S1 p1 fun y s2 ρ2 O2 H2 u S2 F2 r2 p2 => ?_
      cases e1 : s2.env[i]? with
      | none => rw [e1] at p2; exact p2.elim
      | some z1 =>
        rw [e1] at p2
        have zz1 := S2.sl i z1 e1
        cases z1 with
        | un => exact p2.elim
        | sh x => exact p2.elim
        | ow xs =>
          obtain ⟨b, vs, g1, g2, g3, g4⟩ := zz1
          rw [h2] at g2
          have eb : a = b := by have := Option.some.inj (Option.some.inj g2); cases this; rfl
          subst eb
          cases r1 with
          | int j =>
            dsimp only at p2
            by_cases hz : xs.length < 16777216 ∧ 0 ≤ j ∧ j < 1000000000
            · rw [if_pos hz] at p2
              refine ⟨a, vs, j, u, rfl, rfl, g3, by rw [← g4.length, sizeLine_eq]; exact hz.1, hz.2.1, by omega, ?_⟩
              have hi := (List.getElem?_eq_some_iff.mp e1).1
              obtain ⟨S3, F3⟩ := S2.setOw g1 hi h2 (((g4.take j.toNat).append (.cons r2 .nil)).append (g4.drop j.toNat))
              exact p2 ρ2 O2 σ _ S3 F3
            · rw [if_neg hz] at p2; exact p2.elim
          | _ => exact p2.elim
theorem Reps.erase {ρ : List Addr} {K : KA} {H : Hp} : ∀ {ms : List MV} {vs : List V} (i : Nat), Reps ρ K H ms vs → Reps ρ K H (ms.eraseIdx i) (vs.eraseIdx i)
  | _, _, _, .nil => .nil
  | _, _, 0, .cons _ t => t
  | _, _, i + 1, .cons q t => .cons q (Reps.erase i t)
theorem sim_popO (i : Nat) (hk : SimE K W tk mk) : SimE K W (tBM K.F "list" rPopAt (tVar i) (tCons tk tNil)) (mPopO i mk) := by
  intro X ρ O s σ H Q S p
  unfold mPopO at p
  cases e : s.env[i]? with
  | none => rw [e] at p; exact p.elim
  | some z =>
    rw [e] at p
    have zz := S.sl i z e
    cases z with
    | un => exact p.elim
    | sh x => exact p.elim
    | ow xs0 =>
      obtain ⟨a, vs0, h1, h2, h3, h4⟩ := zz
      refine ⟨_, h2, .inl ⟨rfl, _, sqlh h3⟩, ?_⟩
      refine hk.bindE S p fun k s1 ρ1 O1 H1 w S1 F1 r1 p1 => ?_
      cases e1 : s1.env[i]? with
      | none => rw [e1] at p1; exact p1.elim
      | some z1 =>
        rw [e1] at p1
        have zz1 := S1.sl i z1 e1
        cases z1 with
        | un => exact p1.elim
        | sh x => exact p1.elim
        | ow xs =>
          obtain ⟨b, vs, g1, g2, g3, g4⟩ := zz1
          rw [h2] at g2
          have eb : a = b := by have := Option.some.inj (Option.some.inj g2); cases this; rfl
          subst eb
          cases r1 with
          | int j =>
            dsimp only at p1
            by_cases hz : 0 ≤ j ∧ j < 1000000000
            · rw [if_pos hz] at p1
              cases ex : xs[j.toNat]? with
              | none => rw [ex] at p1; exact p1.elim
              | some y =>
                rw [ex] at p1
                obtain ⟨u, hu, ru⟩ := g4.get ex
                have hlt : j.toNat < vs.length := (List.getElem?_eq_some_iff.mp hu).1
                refine ⟨a, vs, j, j.toNat, u, rfl, rfl, g3, by omega, by omega, ?_, hu, ?_⟩
                · exact (ixN_seq (n := vs.length) (i := j) (j := j.toNat) (by unfold ixN; rw [if_pos (by omega), if_pos (by omega)])).1
                have hi := (List.getElem?_eq_some_iff.mp e1).1
                obtain ⟨S3, F3⟩ := S1.setOw g1 hi h2 (g4.erase j.toNat)
                exact p1 ρ1 O1 _ u S3 F3 (F3.rep ru)
            · rw [if_neg hz] at p1; exact p1.elim
          | _ => exact p1.elim
end
section
variable {ct : String → Addr} {X : Cx} {W : WX} {k e : Expr} {tk te : TE} {mk me : EM} {pos p : Pos}
theorem s_ins (i : Nat) {x : Str} {apos spos : Pos} (hk : PEM ct X W k tk mk) (h : PEM ct X W e te me) (hN : X.N[i]? = some x := by rfl) (hv : Vis X.env.scope x := by first | exact Or.inl rfl | exact Or.inr (Or.inl rfl) | exact Or.inr (Or.inr rfl)) (hd : (x == ("__debug__" : Str)) = false := by decide) (hcd : (x == ("__classdict__" : Str)) = false := by decide)
    (hke : starEach [k, e] X.env = (false, eval k X.env) :: starEach [e] X.env := by rfl)
    (he : starEach [e] X.env = (false, eval e X.env) :: starEach [] X.env := by rfl)
    (hbase : attributeBase (.Name x p) "insert" X.env (eval (.Name x p) X.env) = eval (.Name x p) X.env := by rfl)
    (hfew : ((backTo pos (starEach [k, e] X.env)).all (fun x => !x.1) && (backToKw pos (keywordEach [] X.env)).all (fun x => x.1.isSome)
      && decide ([k, e].length + ([] : List Keyword).length + (if ([] : List Keyword).isEmpty then 0 else 1) < 30)) = true := by rfl)
    (hline : (apos.endLine == pos.line) = true := by rfl) (hplain : (backTo pos (starEach [e] X.env)).any (·.1) = false := by rfl)
    (hs : swapsWith (.Call (.Attribute (.Name x p) "insert" apos) [k, e] [] pos) none spos.line X.env = pure false := by rfl) :
    PSM ct X W (.Expr (.Call (.Attribute (.Name x p) "insert" apos) [k, e] [] pos) spos) (tDrop (tBM X.K "list" rIns (tVar i) (tCons tk (tCons te tNil)))) (mIns i mk me) :=
  ⟨ps_expr (pe_bm PySem.F.plainAttrs_list PySem.F.slot_list_insert PySem.F.type_list_insert mt_insert (pe_var hN hv hd hcd) (pa_cons hk.pe (pa_cons h.pe pa_nil he) hke) hbase hfew hline hke hplain) hs, ss_ins i hk.sim h.sim⟩
theorem e_popO (i : Nat) {x : Str} {apos : Pos} (h : PEM ct X W e te me) (hN : X.N[i]? = some x := by rfl) (hv : Vis X.env.scope x := by first | exact Or.inl rfl | exact Or.inr (Or.inl rfl) | exact Or.inr (Or.inr rfl)) (hd : (x == ("__debug__" : Str)) = false := by decide) (hcd : (x == ("__classdict__" : Str)) = false := by decide)
    (he : starEach [e] X.env = (false, eval e X.env) :: starEach [] X.env := by rfl)
    (hbase : attributeBase (.Name x p) "pop" X.env (eval (.Name x p) X.env) = eval (.Name x p) X.env := by rfl)
    (hfew : ((backTo pos (starEach [e] X.env)).all (fun x => !x.1) && (backToKw pos (keywordEach [] X.env)).all (fun x => x.1.isSome)
      && decide ([e].length + ([] : List Keyword).length + (if ([] : List Keyword).isEmpty then 0 else 1) < 30)) = true := by rfl)
    (hline : (apos.endLine == pos.line) = true := by rfl) (hplain : (backTo pos (starEach [] X.env)).any (·.1) = false := by rfl) :
    PEM ct X W (.Call (.Attribute (.Name x p) "pop" apos) [e] [] pos) (tBM X.K "list" rPopAt (tVar i) (tCons te tNil)) (mPopO i me) :=
  ⟨pe_bm PySem.F.plainAttrs_list PySem.F.slot_list_pop PySem.F.type_list_pop mt_popAt (pe_var hN hv hd hcd) (pa_cons h.pe pa_nil he) hbase hfew hline he hplain, sim_popO i h.sim⟩
end
end M

namespace PySem
open Sem (wp)
section
variable {prog : Program} {w : World} {A : Around} {E : Value → Shared → Prop} {s : Shared}
theorem wpAny_extend_rev {R : Result → Shared → Prop} {it l : Addr} {items : Array Value} (hh : A.handled = none) (hit : s.heap.IsRevIter it l ((items.size : Int) - 1)) (hl : s.heap.IsList l items) (hne : l ≠ it) (hn : items.size ≤ sizeLine) (S : Addr) (res : Value) (c₀ : Nat)
    (hSi : S ≠ it) (hSl : S ≠ l) (hS : s.heap.get? S = some { cls := .type "list", data := .seq #[] c₀ })
    (hR : ∀ h' tk acc' c', (∀ b o, b ≠ it → b ≠ S → s.heap.get? b = some o → h'.get? b = some o) → h'.get? S = some { cls := .type "list", dict := none, data := .seq acc' c', slots := #[] } → ItemsOf (fun i v => items[items.size - 1 - i]? = some v) acc' items.size → R (.ok (.ret res)) { s with heap := h', toks := tk }) :
    wpAny (model prog w) A.in1 (Builtin.List.listExtendWith (.ref S) (.ref it) res)
      (fun fin s' => match fin with | .done f => R (.ok f) s' | .again c' => c'.quiet = true ∧ codeAny (model prog w) A c' R s') (fun e s' => R (.error e) s') s := by
  have W := (Walks.listRev (prog := prog) (w := w) (A := A.in1) hh it l hne items).toS
  have hSf : S ∉ [it, l] := by simp only [List.mem_cons, List.not_mem_nil, or_false, not_or]; exact ⟨hSi, hSl⟩
  have hT : s.TypeIs (.ref it) "list_reverseiterator" := Heap.IsRevIter.typeIs hit
  have h1 : Builtin.List.listSameRef (.ref S) (.ref it) = false := by simp [Builtin.List.listSameRef, hSi]
  unfold Builtin.List.listExtendWith
  refine wpAny_bind (wpAny_typeOf hT ?_)
  rw [if_neg (by rw [h1]; decide)]
  refine wpAny_bind (wpAny_pyIter_revIter hit ?_)
  refine wpAny_bind (wpAny_holding ?_)
  unfold Builtin.List.listLengthHint
  refine wpAny_bind (wpAny_specialOf hT RT.nolen_lri ?_)
  show wpAny _ A.in1 (specialOf (Value.ref it) (Str.ofString "__length_hint__") >>= _) _ _ _
  refine wpAny_bind (wpAny_specialOf hT RT.hint_lri ?_)
  generalize hid : ("list_reverseiterator.__length_hint__" : String) = id0
  wp_delta
  rw [show splitId id0 = some ("list_reverseiterator", "__length_hint__") from by subst hid; decide +kernel]
  subst hid
  refine wpAny_bind (wpAny_isInstance (b := true) hT (by rw [isSubtype_type]; kernel_rfl) ?_)
  refine wpAny_pure ?_
  rw [if_neg (by decide)]
  have e0 : ((items.size : Nat) : Int) - 1 - ((0 : Nat) : Int) = (items.size : Int) - 1 := by omega
  refine wpAny_pure ⟨plainId_quiet F.plain_extend_loop _, codeAny_extend_loopS W hn _ hSf _ items.size 0 _ _ _ rfl (Nat.zero_le _) ⟨Nat.zero_le _, by rw [e0]; exact hit, hl⟩ hS (ItemsOf.nil _) fun s' acc' c' hm hS' hacc => ?_⟩
  rw [Moved.eq_with hm]
  refine hR s'.heap s'.toks acc' c' (fun b o hb hbS e => hm.heap b o (fun hmem => ?_) e) hS' hacc
  rcases List.mem_cons.mp hmem with e' | hmem
  · exact hbS e'
  · exact hb (List.mem_singleton.mp hmem)
theorem wpAny_list_init_rev {R : Result → Shared → Prop} {it l : Addr} {items : Array Value} (hh : A.handled = none) (hit : s.heap.IsRevIter it l ((items.size : Int) - 1)) (hl : s.heap.IsList l items) (hne : l ≠ it) (hn : items.size ≤ sizeLine) (S : Addr) (hSi : S ≠ it) (hSl : S ≠ l)
    (hS : s.heap.get? S = some { cls := .type "list", data := .seq #[] })
    (hR : ∀ h' tk acc' c', (∀ b o, b ≠ it → b ≠ S → s.heap.get? b = some o → h'.get? b = some o) → h'.get? S = some { cls := .type "list", dict := none, data := .seq acc' c', slots := #[] } → ItemsOf (fun i v => items[items.size - 1 - i]? = some v) acc' items.size → R (.ok (.ret .none)) { s with heap := h', toks := tk }) :
    wpAny (model prog w) A.in1 (Builtin.«list.__init__» ⟨[.ref S, .ref it], []⟩)
      (fun fin s' => match fin with | .done f => R (.ok f) s' | .again c' => c'.quiet = true ∧ codeAny (model prog w) A c' R s') (fun e s' => R (.error e) s') s := by
  show wpAny _ _ (do let old ← Builtin.List.listItems (.ref S); Builtin.List.listUpdate (.ref S) (fun _ => #[]); letGo old.toList.reverse; Builtin.List.listExtendWith (.ref S) (.ref it) .none) _ _ s
  refine wpAny_bind ?_
  unfold Builtin.List.listItems
  refine wpAny_bind (wpAny_seqItems hS rfl (wpAny_pure ?_))
  show wpAny _ _ (updateSeq S (fun _ => #[]) >>= fun _ => letGo (#[] : Array Value).toList.reverse >>= fun _ => Builtin.List.listExtendWith (.ref S) (.ref it) .none) _ _ s
  refine wpAny_bind (wpAny_updateSeq hS rfl ?_)
  have hS₂ := Heap.get?_update_self (Obj.mapSeq (fun _ => (#[] : Array Value))) hS rfl
  have oth : ∀ b o, b ≠ S → s.heap.get? b = some o → (s.heap.update S (Obj.mapSeq (fun _ => (#[] : Array Value)))).get? b = some o :=
    fun b o hb e => (Heap.get?_update_other _ _ (Ne.symm hb)).trans e
  refine wpAny_bind (wpAny_letGo ?_)
  refine wpAny_extend_rev hh (hit.at fun o e => oth it o (Ne.symm hSi) e) ?_ hne hn S .none _ hSi hSl hS₂ fun h' tk acc' c' hk hS' hacc => ?_
  · obtain ⟨ol, hol, r⟩ := id hl
    exact ⟨ol, oth l ol (Ne.symm hSl) hol, r⟩
  · exact hR h' tk acc' c' (fun b o hb hbS e => hk b o hb hbS (oth b o hbS e)) hS' hacc
theorem call_list_rev {Q : Value → Shared → Prop} {it l : Addr} {items : Array Value} (hh : A.handled = none) (hit : s.heap.IsRevIter it l ((items.size : Int) - 1)) (hl : s.heap.IsList l items) (hne : l ≠ it) (hn : items.size ≤ sizeLine)
    (hQ : ∀ h' tk acc' c', (∀ b o, b ≠ it → s.heap.get? b = some o → h'.get? b = some o) →
      h'.get? s.heap.objs.size = some { cls := .type "list", dict := none, data := .seq acc' c', slots := #[] } → ItemsOf (fun i v => items[items.size - 1 - i]? = some v) acc' items.size → Q (.ref s.heap.objs.size) { s with heap := h', toks := tk }) :
    wpAny (model prog w) A (call (.type "list") [.ref it]) Q E s := by
  obtain ⟨oi, hoi, _⟩ := id hit
  obtain ⟨ol, hol, _⟩ := id hl
  refine callType_codes (Q₁ := fun obj s₁ => obj = .ref s.heap.objs.size ∧ s₁ = { s with heap := s.heap.push { cls := .type "list", data := .seq #[] } }) F.called_list (F.typeCall_list_1 _) F.entry_list_init
    (code_list_new _ ⟨rfl, rfl⟩) fun obj s₁ h₁ => ?_
  obtain ⟨rfl, rfl⟩ := h₁
  have hS : (s.heap.push { cls := .type "list", data := .seq #[] }).get? s.heap.objs.size = some { cls := .type "list", data := .seq #[] } := Heap.get?_push_size _ rfl
  refine ⟨⟨_, hS, rfl⟩, F.args_list_init_2 _ _, wpAny_list_init_rev (A := A.in1) hh (hit.at fun o e => Heap.get?_push_of_some _ e) (hl.push _) hne hn _ (Nat.ne_of_gt (Heap.lt_size hoi)) (Nat.ne_of_gt (Heap.lt_size hol)) hS fun h' tk acc' c' hk hS' hacc => ?_⟩
  exact ⟨rfl, hQ h' tk acc' c' (fun b o hb e => hk b o hb (Nat.ne_of_lt (Heap.lt_size e)) (Heap.get?_push_of_some _ e)) hS' hacc⟩
end
end PySem
namespace M
open PySem L2 PyProof.Rows
def tListRev (K : PySem.W.Frag) (te : TE) : TE := fun σ H Q => te σ H fun v H1 => ∃ (a : Addr) (xs : List V), v = .ref a ∧ SqL K H1 a xs ∧ ∀ q, H1 q = none → Q (.ref q) (upd H1 q (.lst xs.reverse))
section
variable {X : Cx}
theorem pe_listRev {e : Expr} {te : TE} {p p2 pos pos2 : Pos} (hc : X.calm = true) (hg : Gl X "list") (hm : X.mg "list" = none) (hg2 : Gl X "reversed") (hm2 : X.mg "reversed" = none) (he : PE X e te)
    (hs : starEach [e] X.env = (false, eval e X.env) :: starEach [] X.env := by rfl)
    (hs2 : starEach [.Call (.Name "reversed" p2) [e] [] pos2] X.env = (false, eval (.Call (.Name "reversed" p2) [e] [] pos2) X.env) :: starEach [] X.env := by rfl) :
    PE X (.Call (.Name "list" p) [.Call (.Name "reversed" p2) [e] [] pos2] [] pos) (tListRev X.K te) := by
  refine ⟨fun pins s σ H Q I h => ?_⟩
  refine Call_ (ld_blt I hg hm PyProof.Rows.boot_list (PyProof.Rows.callWith_type1 (args_cons (Call_ (ld_blt I hg2 hm2 PyProof.Rows.boot_reversed (PyProof.Rows.callWith_type1 (args_cons (thn (he.run pins s σ H _ I h) fun u s1 ⟨v, H1, I1, r1, q1⟩ => args_nil ?_) hs) hs rfl))) hs2) hs2 rfl))
  obtain ⟨a, xs, ev, hq, q⟩ := q1
  subst ev
  obtain rfl : u = Value.ref a := r1
  obtain ⟨its, rv, p', hz⟩ := I1.list hq
  refine call_reversed_list p'.isList (args_nil ?_)
  have k0 : ∀ b o, s1.heap.get? b = some o → (s1.heap.push (revObj a ((its.toArray.size : Int) - 1))).get? b = some o := fun b o e => Heap.get?_push_of_some _ e
  have hl := p'.isList
  obtain ⟨ol, hol, _⟩ := id hl
  have hne : a ≠ s1.heap.objs.size := Nat.ne_of_lt (Heap.lt_size hol)
  have hn : its.toArray.size ≤ sizeLine := by rw [List.size_toArray, ← rv.length]; exact hz
  refine call_list_rev (s := { s1 with heap := s1.heap.push (revObj a ((its.toArray.size : Int) - 1)) }) (I1.ok.hd hc) ⟨_, Heap.get?_push_size _ rfl, rfl, rfl⟩ (hl.push _) hne hn fun h' tk acc c' hk hS hi => ?_
  have le : s1.heap.objs.size ≤ (s1.heap.push (revObj a ((its.toArray.size : Int) - 1))).objs.size := by simp [Heap.push]
  refine ⟨.ref (s1.heap.push (revObj a ((its.toArray.size : Int) - 1))).objs.size, upd H1 (s1.heap.push (revObj a ((its.toArray.size : Int) - 1))).objs.size (.lst xs.reverse),
    I1.laid (t' := tk) (fun c o e => hk c o (Nat.ne_of_lt (Heap.lt_size e)) (k0 c o e)) le (show ObjOk X.prog X.w _ _ _ (.lst xs.reverse) from ⟨by rw [List.length_reverse]; exact hz, acc.toList, c', RT.vals_rev rv hi, by rw [Array.toArray_toList]; exact hS⟩), rfl, q _ (I1.hok.fresh le)⟩
end
def oRevL : MV → EM := fun x s => match x with
  | .lst xs => .ok (.lst xs.reverse) s
  | .scr xs => .ok (.lst xs.reverse) s
  | _ => .stuck
section
variable {K : KA} {W : WX} {te : TE} {me : EM}
theorem Reps.rev {ρ : List Addr} {K : KA} {H : Hp} : ∀ {ms : List MV} {vs : List V}, Reps ρ K H ms vs → Reps ρ K H ms.reverse vs.reverse
  | _, _, .nil => .nil
  | _, _, .cons r t => by rw [List.reverse_cons, List.reverse_cons]; exact (Reps.rev t).append (.cons r .nil)
theorem sim_listRev (h : SimE K W te me) : SimE K W (tListRev K.F te) (mUn oRevL me) := by
  intro X ρ O s σ H Q S p
  refine h.bindE S p fun x s1 ρ1 O1 H1 v S1 F1 r1 p1 => ?_
  cases r1 with
  | lst hx rx => exact ⟨_, _, rfl, sqlv hx, fun q hq => p1.grown S1 (Ex.new hq) (.lst (S1.view_new hq) ((Reps.rev rx).mono (Pre.refl _) (view_ex (Ex.new hq))))⟩
  | scr hx rx => exact ⟨_, _, rfl, sql_ex (view_le _ _ _ _) hx, fun q hq => p1.grown S1 (Ex.new hq) (.lst (S1.view_new hq) ((Reps.rev rx).mono (Pre.refl _) (view_ex (Ex.new hq))))⟩
  | _ => exact p1.elim
end
section
variable {ct : String → Addr} {X : Cx} {W : WX} {e : Expr} {te : TE} {me : EM} {p p2 pos pos2 : Pos}
theorem e_listRev (hm : X.mg "list" = none) (hm2 : X.mg "reversed" = none) (h : PEM ct X W e te me) (hc : X.calm = true := by rfl) (hg : Gl X "list" := by rfl) (hg2 : Gl X "reversed" := by rfl)
    (hs : starEach [e] X.env = (false, eval e X.env) :: starEach [] X.env := by rfl)
    (hs2 : starEach [.Call (.Name "reversed" p2) [e] [] pos2] X.env = (false, eval (.Call (.Name "reversed" p2) [e] [] pos2) X.env) :: starEach [] X.env := by rfl) :
    PEM ct X W (.Call (.Name "list" p) [.Call (.Name "reversed" p2) [e] [] pos2] [] pos) (tListRev X.K te) (mUn oRevL me) :=
  ⟨pe_listRev hc hg hm hg2 hm2 h.pe hs hs2, sim_listRev h.sim⟩
end
end M

namespace M
open PySem L2 PyProof.Rows
noncomputable def mNeO (i : Nat) (mb : EM) : EM := fun s => match s.env[i]? with
  | some (.ow _) => (mb s).bind fun y s1 => match s1.env[i]? with
    | some (.ow xs) => oNe (.lst xs) y s1
    | _ => .stuck
  | _ => .stuck
section
variable {K : KA} {W : WX} {te : TE} {me : EM}
theorem sim_neO (i : Nat) (h : SimE K W te me) : SimE K W (tOp (rNeD K.F) (tVar i) te) (mNeO i me) := by
  intro X ρ O s σ H Q S p
  unfold mNeO at p
  cases e : s.env[i]? with
  | none => rw [e] at p; exact p.elim
  | some z =>
    rw [e] at p
    have zz := S.sl i z e
    cases z with
    | un => exact p.elim
    | sh x => exact p.elim
    | ow xs0 =>
      obtain ⟨a, vs0, h1, h2, h3, h4⟩ := zz
      refine ⟨_, h2, ?_⟩
      refine h.bindE S p fun y s1 ρ1 O1 H1 u S1 F1 r1 p1 => ?_
      cases e1 : s1.env[i]? with
      | none => rw [e1] at p1; exact p1.elim
      | some z1 =>
        rw [e1] at p1
        have zz1 := S1.sl i z1 e1
        cases z1 with
        | un => exact p1.elim
        | sh x => exact p1.elim
        | ow xs =>
          obtain ⟨b, vs, g1, g2, g3, g4⟩ := zz1
          rw [h2] at g2
          have eb : a = b := by have := Option.some.inj (Option.some.inj g2); cases this; rfl
          subst eb
          dsimp only at p1
          unfold oNe at p1
          rw [toD] at p1
          cases f1 : toDs xs with
          | none => rw [f1] at p1; exact p1.elim
          | some ds =>
            cases f2 : toD y with
            | none => rw [f1, f2] at p1; exact p1.elim
            | some e =>
              rw [f1, f2] at p1
              simp only [Option.map_some] at p1
              by_cases hh : SeqAt.shaped (.list ds) = true ∧ SeqAt.shaped e = true
              · simp only [if_pos hh] at p1
                exact ⟨_, e, .lst (sqlh g3) (toDs_dp (view_le _ _ _ _) g4 f1), toD_dp (view_le _ _ _ _) r1 f2, hh.1, hh.2, p1.done S1 (.bl _)⟩
              · simp only [if_neg hh] at p1; exact p1.elim
end
section
variable {ct : String → Addr} {X : Cx} {W : WX} {b : Expr} {tb : TE} {mb : EM} {pos p : Pos}
theorem e_neO (i : Nat) {x : Str} (ho : OpR X (compareOp .NotEq) (rNeD X.K)) (hm : behindInMarks .NotEq b = false) (hb : PEM ct X W b tb mb) (hN : X.N[i]? = some x := by rfl) (hv : Vis X.env.scope x := by first | exact Or.inl rfl | exact Or.inr (Or.inl rfl) | exact Or.inr (Or.inr rfl)) (hd : (x == ("__debug__" : Str)) = false := by decide) (hcd : (x == ("__classdict__" : Str)) = false := by decide) :
    PEM ct X W (.Compare (.Name x p) [.NotEq] [b] pos) (tOp (rNeD X.K) (tVar i) tb) (mNeO i mb) := ⟨pe_cmpR ho (pe_var hN hv hd hcd) hb.pe hm, sim_neO i hb.sim⟩
theorem t_neO (i : Nat) {x : Str} (ho : OpR X (compareOp .NotEq) (rNeD X.K)) (hm : behindInMarks .NotEq b = false) (hb : PEM ct X W b tb mb) (hN : X.N[i]? = some x := by rfl) (hv : Vis X.env.scope x := by first | exact Or.inl rfl | exact Or.inr (Or.inl rfl) | exact Or.inr (Or.inr rfl)) (hd : (x == ("__debug__" : Str)) = false := by decide) (hcd : (x == ("__classdict__" : Str)) = false := by decide) :
    PTM ct X W (.Compare (.Name x p) [.NotEq] [b] pos) (tTest (tOp (rNeD X.K) (tVar i) tb)) (tOf (mNeO i mb)) := ⟨pt_cmpR ho (pe_var hN hv hd hcd) hb.pe hm, sim_test (sim_neO i hb.sim)⟩
end
end M

namespace PySem
open Sem (wp)
section
variable {prog : Program} {w : World} {A : Around} {R : Result → Shared → Prop} {I : Addr} {fp wr : List Addr} {n : Nat} {P : Nat → Value → Prop} {St : Nat → Heap → Prop} {d : Value}
theorem codeAny_max_loopD (W : Walks prog w A.in1 I fp wr n P St) (bt : Nat → Nat → Bool) (hcmp : CmpOf prog w A.in1 .Gt P bt) (S : Addr) (hSf : S ∉ fp) :
    ∀ (k j : Nat) (s : Shared) (vb : Value) (c : Nat), n - (j + 1) = k → j + 1 ≤ n → St (j + 1) s.heap → P (argBest bt j) vb →
    s.heap.get? S = some { cls := .type "list", dict := none, data := .seq #[vb, vb] c, slots := #[] } →
    (∀ v h' tk, P (argBest bt (n - 1)) v → (∀ b o, b ∉ wr → b ≠ S → s.heap.get? b = some o → h'.get? b = some o) → R (.ok (.ret v)) { s with heap := h', toks := tk }) →
    codeAny (model prog w) A (.builtin "max.loop" ⟨[.ref I, .none, .ref S], [("default", d)]⟩) R s := by
  have hSw : S ∉ wr := fun h => hSf (W.sub _ h)
  have hname : (toString "max" ++ toString ".loop" : String) = "max.loop" := by decide
  intro k
  induction k with
  | zero =>
    intro j s vb c hk hj hst hPb hS hR
    have hin : j + 1 = n := by omega
    refine codeAny_builtin F.entry_max_loop ?_
    rw [Around.under_plainId F.plain_max_loop _]
    show wpAny _ A.in1 (seqItems? (.ref S) >>= _) _ _ s
    refine wpAny_bind (wpAny_seqItems hS rfl ?_)
    show wpAny _ A.in1 (tryCatch (pyNext (.ref I)) _ >>= _) _ _ s
    refine wpAny_bind (wpAny_tryCatch (W.done s _ _ (hin ▸ hst) fun h' tk hk' => ?_))
    have hS' := hk' S _ hSw hS
    show wpAny _ A.in1 (updateSeq S (fun _ => #[]) >>= _) _ _ _
    refine wpAny_bind ?_
    refine wpAny_updateSeq hS' rfl (wpAny_bind (wpAny_letGo (wpAny_pure ?_)))
    refine hR vb _ tk (by rw [← hin]; exact hPb) fun b o hbw hbS e => (Heap.get?_update_other _ _ (Ne.symm hbS)).trans (hk' b o hbw e)
  | succ k ih =>
    intro j s vb c hk hj hst hPb hS hR
    have hlt : j + 1 < n := by omega
    refine codeAny_builtin F.entry_max_loop ?_
    rw [Around.under_plainId F.plain_max_loop _]
    show wpAny _ A.in1 (seqItems? (.ref S) >>= _) _ _ s
    refine wpAny_bind (wpAny_seqItems hS rfl ?_)
    show wpAny _ A.in1 (tryCatch (pyNext (.ref I)) _ >>= _) _ _ s
    refine wpAny_bind (wpAny_tryCatch (W.item (j + 1) s _ _ hlt hst fun v h' tk hP hst' hk' => ?_))
    have hS' := hk' S _ hSw hS
    show wpAny _ A.in1 (tryCatch (holding [v, v] (richCompare .Gt v vb >>= _)) _ >>= _) _ _ _
    refine wpAny_bind (wpAny_tryCatch (wpAny_holding (wpAny_bind (hcmp (j + 1) (argBest bt j) v vb _ _ _ hP hPb ?_))))
    refine wpAny_bind (wpAny_holding (wpAny_truthy_bool ?_))
    refine wpAny_bind (wpAny_letGo (wpAny_pure ?_))
    cases hb : bt (j + 1) (argBest bt j) with
    | true =>
      simp only [if_true]
      refine wpAny_bind ?_
      refine wpAny_updateSeq hS' rfl (wpAny_bind (wpAny_letGo ?_))
      rw [hname]
      refine wpAny_pure ⟨plainId_quiet F.plain_max_loop _, ih (j + 1) _ v _ (by omega) hlt (W.frame _ _ _ hst' fun b hbf o e => ?_) (by simp only [argBest, hb, if_true]; exact hP) (Heap.get?_update_self _ hS' rfl)
        fun v' h'' tk'' hP' hk'' => ?_⟩
      · exact (Heap.get?_update_other _ _ (fun h : S = b => hSf (by rw [h]; exact hbf))).trans e
      · exact hR v' h'' tk'' hP' fun b o hbw hbS e => hk'' b o hbw hbS ((Heap.get?_update_other _ _ (Ne.symm hbS)).trans (hk' b o hbw e))
    | false =>
      simp only [Bool.false_eq_true, if_false]
      refine wpAny_bind (wpAny_letGo ?_)
      rw [hname]
      refine wpAny_pure ⟨plainId_quiet F.plain_max_loop _, ih (j + 1) _ vb c (by omega) hlt hst' (by simp only [argBest, hb, Bool.false_eq_true, if_false]; exact hPb) hS' fun v' h'' tk'' hP' hk'' => ?_⟩
      exact hR v' h'' tk'' hP' fun b o hbw hbS e => hk'' b o hbw hbS (hk' b o hbw e)
theorem codeAny_max_loop_firstD (W : Walks prog w A.in1 I fp wr n P St) (bt : Nat → Nat → Bool) (hcmp : CmpOf prog w A.in1 .Gt P bt) (S : Addr) (hSf : S ∉ fp) {s : Shared} {c : Nat} (hst : St 0 s.heap)
    (hS : s.heap.get? S = some { cls := .type "list", dict := none, data := .seq #[] c, slots := #[] })
    (h0 : n = 0 → ∀ h' tk, (∀ b o, b ∉ wr → b ≠ S → s.heap.get? b = some o → h'.get? b = some o) → R (.ok (.ret d)) { s with heap := h', toks := tk })
    (hR : 0 < n → ∀ v h' tk, P (argBest bt (n - 1)) v → (∀ b o, b ∉ wr → b ≠ S → s.heap.get? b = some o → h'.get? b = some o) → R (.ok (.ret v)) { s with heap := h', toks := tk }) :
    codeAny (model prog w) A (.builtin "max.loop" ⟨[.ref I, .none, .ref S], [("default", d)]⟩) R s := by
  have hSw : S ∉ wr := fun h => hSf (W.sub _ h)
  have hname : (toString "max" ++ toString ".loop" : String) = "max.loop" := by decide
  refine codeAny_builtin F.entry_max_loop ?_
  rw [Around.under_plainId F.plain_max_loop _]
  show wpAny _ A.in1 (seqItems? (.ref S) >>= _) _ _ s
  refine wpAny_bind (wpAny_seqItems hS rfl ?_)
  show wpAny _ A.in1 (tryCatch (pyNext (.ref I)) _ >>= _) _ _ s
  by_cases hz : n = 0
  · refine wpAny_bind (wpAny_tryCatch (W.done s _ _ (hz ▸ hst) fun h' tk hk' => ?_))
    refine wpAny_bind (wpAny_rule ?_)
    exact wpAny_pure (h0 hz h' tk fun b o hbw _ e => hk' b o hbw e)
  · have hn : 0 < n := Nat.pos_of_ne_zero hz
    refine wpAny_bind (wpAny_tryCatch (W.item 0 s _ _ hn hst fun v h' tk hP hst' hk' => ?_))
    have hS' := hk' S _ hSw hS
    show wpAny _ A.in1 (updateSeq S (fun _ => #[v, v]) >>= _) _ _ _
    refine wpAny_bind ?_
    refine wpAny_updateSeq hS' rfl ?_
    rw [hname]
    refine wpAny_pure ⟨plainId_quiet F.plain_max_loop _, codeAny_max_loopD W bt hcmp S hSf _ 0 _ v _ rfl hn (W.frame _ _ _ hst' fun b hbf o e => ?_) hP (Heap.get?_update_self _ hS' rfl) fun v' h'' tk'' hP' hk'' => ?_⟩
    · exact (Heap.get?_update_other _ _ (fun h : S = b => hSf (by rw [h]; exact hbf))).trans e
    · exact hR hn v' h'' tk'' hP' fun b o hbw hbS e => hk'' b o hbw hbS ((Heap.get?_update_other _ _ (Ne.symm hbS)).trans (hk' b o hbw e))
end
theorem F.args_maxD (a d : Value) : argsOk "max" ⟨[a], [("default", d)]⟩ := by unfold argsOk; kernel_rfl
section
variable {prog : Program} {w : World} {A : Around} {E : Value → Shared → Prop} {s : Shared} {d : Value}
theorem call_function_treeK {id : String} {b : Builtin} {args : List Value} {kw : List (Str × Value)} {Q : Value → Shared → Prop} (hk : builtinKind id = none) (hp : plainId id = true)
    (hb : entryFor table id = some b) (ha : argsOk id ⟨args, kw⟩)
    (hc : wpAny (model prog w) A.in1 (b ⟨args, kw⟩) (fun fin s' => match fin with
      | .done f => (match (Except.ok f : Result) with | .ok (.ret v) => Q v s' | .ok _ => False | .error e => E e s')
      | .again c' => c'.quiet = true ∧ codeAny (model prog w) A c' (fun r s' => match r with | .ok (.ret v) => Q v s' | .ok _ => False | .error e => E e s') s') E s) :
    wpAny (model prog w) A (call (.builtin id) args kw) Q E s := by
  refine wpAny_call (codeAny_call_builtin hp hb ?_)
  simp only [checkBuiltinCall, hk]
  cases hsig : Manifest.signature? id with
  | none => exact wpAny_pure hc
  | some sig =>
    simp only [argsOk, hsig] at ha
    have h2 : Bind.checkArgs id sig ⟨args, kw⟩ = pure () := ha
    show wpAny _ A.in1 (Bind.checkArgs id sig ⟨args, kw⟩) _ _ s
    rw [h2]; exact wpAny_pure hc
theorem call_max_walkD {x : Value} {Q : Value → Shared → Prop}
    (h : wpAny (model prog w) A.in1 (pyIter x) (fun it s₂ => ∃ I fp wr n P St bt, it = .ref I ∧ Walks prog w A.in1 I fp wr n P St ∧ St 0 s₂.heap ∧ (∀ b ∈ fp, b < s₂.heap.objs.size) ∧ CmpOf prog w A.in1 .Gt P bt ∧
      (n = 0 → ∀ h' tk, (∀ b o, b ∉ wr → s₂.heap.get? b = some o → h'.get? b = some o) → Q d { s₂ with heap := h', toks := tk }) ∧
      (0 < n → ∀ v h' tk, P (argBest bt (n - 1)) v → (∀ b o, b ∉ wr → s₂.heap.get? b = some o → h'.get? b = some o) → Q v { s₂ with heap := h', toks := tk })) E s) :
    wpAny (model prog w) A (call (.builtin "max") [x] [("default", d)]) Q E s := by
  have hname : (toString "max" ++ toString ".loop" : String) = "max.loop" := by decide
  refine call_function_treeK F.kind_max F.plain_max F.entry_max (F.args_maxD _ _) ?_
  show wpAny _ A.in1 (Builtin.Builtins.bindParams "max" ["key", "default"] 0 ⟨[], [("default", d)]⟩ >>= _) _ _ s
  refine wpAny_bind (wpAny_of_eq (show Builtin.Builtins.bindParams "max" ["key", "default"] 0 ⟨[], [("default", d)]⟩ = pure [none, some d] from rfl) ?_)
  refine wpAny_bind (wpAny_pure ?_)
  refine wpAny_bind (wpAny_mono h (fun it s₂ h₂ => ?_) fun _ _ e => e)
  obtain ⟨I, fp, wr, n, P, St, bt, rfl, W, hst, hfp, hcmp, hQ0, hQ⟩ := h₂
  refine wpAny_bind (wpAny_newObj_type ?_)
  have hSf : s₂.heap.objs.size ∉ fp := fun hm => Nat.lt_irrefl _ (hfp _ hm)
  rw [hname]
  refine wpAny_pure ⟨plainId_quiet F.plain_max_loop _, codeAny_max_loop_firstD W bt hcmp s₂.heap.objs.size hSf (W.frame _ _ _ hst fun b _ o e => Heap.get?_push_of_some _ e) (Heap.get?_push_size _ rfl) (fun hz h' tk hk => ?_) fun hn v h' tk hP hk => ?_⟩
  · exact hQ0 hz h' tk fun b o hbw e => hk b o hbw (Nat.ne_of_lt (Heap.lt_size e)) (Heap.get?_push_of_some _ e)
  · exact hQ hn v h' tk hP fun b o hbw e => hk b o hbw (Nat.ne_of_lt (Heap.lt_size e)) (Heap.get?_push_of_some _ e)
theorem max_intListD {Q : Value → Shared → Prop} {l : Addr} {xs : Array (Int × Tok)} (hh : A.handled = none) (hl : s.heap.IsList l (intItems xs))
    (h0 : xs.size = 0 → ∀ h' tk, (∀ b o, s.heap.get? b = some o → h'.get? b = some o) → Q d { s with heap := h', toks := tk })
    (h : 0 < xs.size → ∀ v h' tk, (intItems xs)[argBest (fun i j => decide (numAt xs i > numAt xs j)) (xs.size - 1)]? = some v → (∀ b o, s.heap.get? b = some o → h'.get? b = some o) → Q v { s with heap := h', toks := tk }) :
    wpAny (model prog w) A (call (.builtin "max") [.ref l] [("default", d)]) Q E s := by
  refine call_max_walkD (iter_intList hl fun s₂ e st hfp hlI => ?_)
  subst e
  refine ⟨_, _, _, _, _, _, _, rfl, Walks.list (A := A.in1) hh _ l hlI (intItems xs), st, hfp, CmpOf.ints_gt (numAt xs) (fun _ _ => intItems_at), fun hz h' tk hk => ?_, fun hn v h' tk hP hk => ?_⟩
  · exact h0 (by simpa [intItems] using hz) h' tk (old_kept hk)
  · exact h (by simpa [intItems] using hn) v h' tk (by simpa [intItems] using hP) (old_kept hk)
end
end PySem
namespace M
open PySem L2 PyProof.Rows
def rMaxKw (K : PySem.W.Frag) : List V → List V → Hp → VK → Prop := fun vs zs H Q => ∃ (a : Addr) (ns : List Int) (d : Int), vs = [V.ref a] ∧ zs = [.int d] ∧ SqL K H a (ns.map V.int) ∧ (ns = [] → Q (.int d) H) ∧ ∀ m, m ∈ ns → (∀ y, y ∈ ns → y ≤ m) → Q (.int m) H
section
variable {X : Cx}
theorem cr_maxKw (hc : X.calm = true) : CallRK X (.builtin "max") [("default" : Str)] (rMaxKw X.K) := by
  intro pins s σ H vs zs us ws Q I r rz h
  obtain ⟨a, ns, d, rfl, rfl, hs, q0, q⟩ := h
  obtain ⟨its, rv, hl, _⟩ := I.list hs
  rw [Vals.ref1 r]
  obtain ⟨u, rfl, ru⟩ := rz.one
  obtain ⟨t, rfl⟩ := ru
  have hi := rv.ints
  obtain ⟨xs, e⟩ := hi.allInts.items
  have hn : numsOf (intItems xs).toList = ns := by rw [← e]; exact hi.numsOf
  rw [nums_intItems] at hn
  subst hn
  have hl' := hl.isList
  rw [e] at hl'
  show wpAny _ _ (call (.builtin "max") [.ref a] [("default", .int d t)]) _ _ s
  refine max_intListD (I.ok.hd hc) hl' (fun hz h' tk hk => ?_) fun hsz v h' tk hv hk => ?_
  · exact ⟨.int d, H, I.kept hk, ⟨_, rfl⟩, q0 (by
      apply List.eq_nil_of_length_eq_zero
      rw [List.length_map, Array.length_toList]; exact hz)⟩
  · obtain ⟨t2, rfl⟩ := intItems_at hv
    obtain ⟨h1, h2⟩ := argBest_gt (numAt xs) (xs.size - 1)
    refine ⟨.int _, H, I.kept hk, ⟨_, rfl⟩, q _ ?_ fun y hy => ?_⟩
    · rw [numAt_eq]; exact PySem.getD_mem (by rw [List.length_map, Array.length_toList]; omega)
    · obtain ⟨j, hj, rfl⟩ := mem_getD hy
      rw [List.length_map, Array.length_toList] at hj
      rw [← numAt_eq]; exact h2 j (by omega)
end
def maxL : Int → List Int → Int
  | m, [] => m
  | m, n :: ns => maxL (if m < n then n else m) ns
theorem maxL_ok : ∀ (ns : List Int) (m : Int), maxL m ns ∈ m :: ns ∧ ∀ y ∈ m :: ns, y ≤ maxL m ns
  | [], m => ⟨by simp [maxL], fun y hy => by simp at hy; subst hy; exact Int.le_refl _⟩
  | n :: ns, m => by
    rw [maxL]
    obtain ⟨x, hx⟩ : ∃ x, (if m < n then n else m) = x := ⟨_, rfl⟩
    have b : m ≤ x ∧ n ≤ x ∧ (x = m ∨ x = n) := by rw [← hx]; split <;> omega
    rw [hx]
    obtain ⟨h1, h2⟩ := maxL_ok ns x
    refine ⟨?_, fun y hy => ?_⟩
    · rcases List.mem_cons.mp h1 with q | q
      · rw [q]; rcases b.2.2 with z | z <;> rw [z] <;> simp
      · simp [q]
    · have h0 := h2 _ List.mem_cons_self
      rcases List.mem_cons.mp hy with q | q
      · rw [q]; omega
      · rcases List.mem_cons.mp q with q | q
        · rw [q]; omega
        · exact h2 y (List.mem_cons_of_mem _ q)
noncomputable def mMaxD (me : EM) (d : Int) : EM := fun s => (me s).bind fun x s1 => match x with
  | .lst xs => (match intsOf xs with
    | some [] => .ok (.int d) s1
    | some (n :: ns) => .ok (.int (maxL n ns)) s1
    | none => .stuck)
  | _ => .stuck
section
variable {K : KA} {W : WX} {te : TE} {me : EM}
theorem sim_maxD {d : Int} (h : SimE K W te me) : SimE K W (tCKw (rMaxKw K.F) (tCons te tNil) (tCons (tC (.int d)) tNil)) (mMaxD me d) := by
  intro X ρ O s σ H Q S p
  refine h.bindE S p fun x s1 ρ1 O1 H1 v S1 F1 r1 p1 => ?_
  cases r1 with
  | lst hx rx =>
    rename_i a ms us
    dsimp only at p1
    cases e : intsOf ms with
    | none => simp only [e] at p1; exact p1.elim
    | some ns =>
      have em := intsOf_eq e
      subst em
      have ev := rx.inv_ints
      subst ev
      cases ns with
      | nil =>
        simp only [e] at p1
        exact ⟨a, [], d, rfl, rfl, sqlv hx, fun _ => p1.done S1 (.int _), fun m hm => by cases hm⟩
      | cons n ns =>
        simp only [e] at p1
        refine ⟨a, n :: ns, d, rfl, rfl, sqlv hx, fun z => (by cases z), fun m hm hy => ?_⟩
        obtain ⟨h1, h2⟩ := maxL_ok ns n
        have e1 := h2 m hm
        have e2 := hy _ h1
        have e3 : m = maxL n ns := by omega
        rw [e3]
        exact p1.done S1 (.int _)
  | _ => exact p1.elim
end
section
variable {ct : String → Addr} {X : Cx} {W : WX} {e : Expr} {te : TE} {me : EM} {p pos cpos kpos : Pos} {d : Int} {j : Nat}
theorem e_maxD (hm : X.mg "max" = none) (h : PEM ct X W e te me) (hc : X.calm = true := by rfl) (hg : Gl X "max" := by rfl)
    (he : backTo pos (starEach [e] X.env) = (false, eval e X.env) :: backTo pos (starEach [] X.env) := by rfl) (hpl : (backTo pos (starEach [e] X.env)).any (·.1) = false := by rfl)
    (hall : (backToKw pos (keywordEach [⟨some "default", .Constant (.int d) j cpos, kpos⟩] X.env)).all (·.1.isSome) = true := by rfl) (hnone : (backToKw pos (keywordEach [⟨some "default", .Constant (.int d) j cpos, kpos⟩] X.env)).any (·.1.isNone) = false := by rfl)
    (hks : (backToKw pos (keywordEach [⟨some "default", .Constant (.int d) j cpos, kpos⟩] X.env)).filterMap (·.1) = [("default" : Str)] := by rfl)
    (hse : starEach [e] X.env = (false, eval e X.env) :: starEach [] X.env := by rfl) :
    PEM ct X W (.Call (.Name "max" p) [e] [⟨some "default", .Constant (.int d) j cpos, kpos⟩] pos) (tCKw (rMaxKw X.K) (tCons te tNil) (tCons (tC (.int d)) tNil)) (mMaxD me d) :=
  ⟨pe_callBK (cr_maxKw hc) hg hm (by decide +kernel) (pa_cons h.pe pa_nil hse) (pk_cons pe_int pk_nil) (by decide) (by decide) he hpl hall hnone hks, sim_maxD h.sim⟩
end
end M

namespace M
open PySem L2 PyProof.Rows
def idxG (n : Nat) (lo st : Option Int) : List Nat := sliceRange (sliceBounds lo none st n).1 (sliceBounds lo none st n).2.1 (sliceBounds lo none st n).2.2
def pickG {α : Type} (xs : List α) (lo st : Option Int) : List α := (idxG xs.length lo st).filterMap (xs[·]?)
theorem ediv_up {m k : Int} (hm : 0 ≤ m) (hk : 0 < k) : (m + k - 1) / k ≤ m := by
  by_cases h : m = 0
  · subst h
    have : (0 + k - 1) / k = 0 := Int.ediv_eq_zero_of_lt (by omega) (by omega)
    omega
  · refine Int.ediv_le_of_le_mul hk ?_
    have := Int.mul_nonneg (show 0 ≤ m - 1 by omega) (show 0 ≤ k - 1 by omega)
    have e : (m - 1) * (k - 1) = m * k - m - k + 1 := by grind
    omega
theorem idxG_len {n : Nat} {a b : Int} (ha : 0 ≤ a) (hb : 0 < b) : (idxG n (some a) (some b)).length ≤ n := by
  unfold idxG sliceRange sliceBounds
  simp only [Option.getD_some, List.length_map, List.length_range]
  rw [if_neg (show ¬ a < 0 by omega)]
  have hb' : b > 0 := hb
  simp only [hb', if_true]
  have h0 : 0 ≤ max 0 (min a (n : Int)) ∧ max 0 (min a (n : Int)) ≤ n := by omega
  generalize max 0 (min a (n : Int)) = c at *
  split
  · have := ediv_up (m := (n : Int) - c) (k := b) (by omega) hb
    omega
  · omega
theorem pickG_len {α : Type} {xs : List α} {a b : Int} (ha : 0 ≤ a) (hb : 0 < b) : (pickG xs (some a) (some b)).length ≤ xs.length := Nat.le_trans (List.length_filterMap_le _ _) (idxG_len ha hb)
theorem pickG_mem {α : Type} {xs : List α} {lo st : Option Int} {x : α} (h : x ∈ pickG xs lo st) : x ∈ xs := by
  obtain ⟨i, _, hi⟩ := List.mem_filterMap.mp h
  exact List.mem_of_getElem? hi
theorem pickG_map {α β : Type} (f : α → β) (xs : List α) (lo st : Option Int) : pickG (xs.map f) lo st = (pickG xs lo st).map f := by
  unfold pickG
  rw [List.length_map, List.map_filterMap]
  congr 1
  funext i
  rw [List.getElem?_map]
theorem vals_pick {xs : List V} {its : List Value} (r : Vals xs its) : ∀ idx : List Nat, Vals (idx.filterMap (xs[·]?)) (idx.filterMap (its[·]?))
  | [] => .nil
  | i :: idx => by
    by_cases h : i < xs.length
    · obtain ⟨u, hu, ru⟩ := r.get (List.getElem?_eq_getElem h)
      rw [List.filterMap_cons, List.filterMap_cons, List.getElem?_eq_getElem h, hu]
      exact .cons ru (vals_pick r idx)
    · have h2 : ¬ i < its.length := by rw [← r.length]; exact h
      rw [List.filterMap_cons, List.filterMap_cons, List.getElem?_eq_none (by omega), List.getElem?_eq_none (by omega)]
      exact vals_pick r idx
theorem slicePick_pick (its : List Value) (lo st : Option Int) : slicePick its.toArray lo none st = (pickG its lo st).toArray := by
  unfold slicePick pickG idxG
  simp
def rSlK (K : PySem.W.Frag) : V → Option Int → Option Int → Hp → VK → Prop := fun x lo st H Q => ∃ (l : Addr) (xs : List V) (a b : Int), x = .ref l ∧ SqL K H l xs ∧ lo = some a ∧ st = some b ∧ 0 ≤ a ∧ 0 < b ∧ ∀ p, H p = none → Q (.ref p) (upd H p (.lst (pickG xs lo st)))
section
variable {X : Cx} {e st : Expr} {te : TE} {lo : Option Expr} {tl th : TO} {pos p2 : Pos}
theorem pe_sliceK (he : PE X e te) (hl : PO X lo tl) (hk : PO X (some st) th) : PE X (.Subscript e (.Slice lo none (some st) p2) pos) (tSl (rSlK X.K) te tl th) := by
  refine ⟨fun pins s σ H Q I h => ?_⟩
  refine Subscript_ (thn (he.run pins s σ H _ I h) fun v s1 ⟨x, H1, I1, r1, q1⟩ => ?_)
  refine wpAny_Slice (thn (hl.run pins s1 σ H1 _ I1 q1) fun vl s2 ⟨l, H2, I2, pl, q2⟩ => ?_)
  rw [evalPart_none]
  refine wpAny_pure (thn (hk.run pins s2 σ H2 _ I2 q2) fun vk s3 ⟨u, H3, I3, pk, q3⟩ => ?_)
  have I4 : Inv X pins σ H3 { s3 with heap := s3.heap.push { cls := .type "slice", data := .fields #[vl, .none, vk] } } := I3.kept (t' := s3.toks) fun b ob q => Heap.get?_push_of_some _ q
  obtain ⟨a, xs, i, k, rfl, hx, rfl, rfl, hi, hk0, q⟩ := q3
  obtain rfl : v = Value.ref a := r1
  obtain ⟨its, r, ht, hz⟩ := I4.list hx
  have hlen := r.length
  show wpAny (model X.prog X.w) X.A (subscriptTail e (.Slice lo none (some st) p2) (.ref a) (.ref s3.heap.objs.size)) (EP X pins σ Q) X.xe { s3 with heap := s3.heap.push { cls := .type "slice", data := .fields #[vl, .none, vk] } }
  refine tail_any (ops := [.ref a, .ref s3.heap.objs.size]) ht.isList.typeIs slot_list_getitem.lookup ?_ (by with_unfolding_all rfl)
  refine wpAny_getItem_list_slice ht.isList (Heap.IsSliceOf.new ..) pl .none pk (fun z => by cases z; omega) ?_ (by rw [List.size_toArray] <;> omega)
  rw [slicePick_pick]
  refine ⟨.ref _, _, I4.laid (t' := s3.toks) (o := .lst (pickG xs (some i) (some k))) (fun b ob q => Heap.get?_push_of_some _ q) (Nat.le_refl _) ?_, rfl, q _ (I4.hok.fresh (Nat.le_refl _))⟩
  refine ⟨Nat.le_trans (pickG_len hi hk0) hz, _, 0, ?_, Heap.get?_push_size _ rfl⟩
  unfold pickG
  rw [← hlen]
  exact vals_pick r _
end
noncomputable def mSlK (me : EM) (ml mk : OM) : EM := fun s => (me s).bind fun x s1 => (ml s1).bind fun lo s2 => (mk s2).bind fun st s3 => match lo, st with
  | some a, some b => if 0 ≤ a ∧ 0 < b then (match x with
    | .lst xs => .ok (.lst (pickG xs (some a) (some b))) s3
    | .scr xs => .ok (.lst (pickG xs (some a) (some b))) s3
    | _ => .stuck) else .stuck
  | _, _ => .stuck
theorem Reps.pick {ρ : List Addr} {K : KA} {H : Hp} {ms : List MV} {vs : List V} (r : Reps ρ K H ms vs) : ∀ idx : List Nat, Reps ρ K H (idx.filterMap (ms[·]?)) (idx.filterMap (vs[·]?))
  | [] => .nil
  | i :: idx => by
    by_cases h : i < ms.length
    · obtain ⟨u, hu, ru⟩ := r.get (List.getElem?_eq_getElem h)
      rw [List.filterMap_cons, List.filterMap_cons, List.getElem?_eq_getElem h, hu]
      exact .cons ru (Reps.pick r idx)
    · have h2 : ¬ i < vs.length := by rw [← r.length]; exact h
      rw [List.filterMap_cons, List.filterMap_cons, List.getElem?_eq_none (by omega), List.getElem?_eq_none (by omega)]
      exact Reps.pick r idx
section
variable {K : KA} {W : WX} {te : TE} {me : EM} {tl th : TO} {ml mh : OM}
theorem sim_slK (he : SimE K W te me) (hl : SimO K W tl ml) (hh : SimO K W th mh) : SimE K W (tSl (rSlK K.F) te tl th) (mSlK me ml mh) := by
  intro X ρ O s σ H Q S p
  refine he.bindE S p fun x s1 ρ1 O1 H1 v S1 F1 r1 p1 => ?_
  refine hl.bindE S1 p1 fun lo s2 ρ2 O2 H2 S2 F2 p2 => ?_
  refine hh.bindE S2 p2 fun st s3 ρ3 O3 H3 S3 F3 p3 => ?_
  have r3 := (F2.trans F3).rep r1
  cases lo with
  | none => exact p3.elim
  | some a => cases st with
    | none => exact p3.elim
    | some b =>
      dsimp only at p3
      by_cases h : 0 ≤ a ∧ 0 < b
      · rw [if_pos h] at p3
        cases r3 with
        | lst hx rx =>
          rename_i l ms vs
          refine ⟨_, vs, a, b, rfl, sqlv hx, rfl, rfl, h.1, h.2, fun q hq => ?_⟩
          have rp : Reps ρ3 K (view X ρ3 O3 H3) (pickG ms (some a) (some b)) (pickG vs (some a) (some b)) := by
            unfold pickG; rw [← rx.length]; exact Reps.pick rx _
          exact p3.grown S3 (Ex.new hq) (.lst (S3.view_new hq) (rp.mono (Pre.refl _) (view_ex (Ex.new hq))))
        | scr hx rx =>
          rename_i l ms vs
          refine ⟨_, vs, a, b, rfl, sql_ex (view_le _ _ _ _) hx, rfl, rfl, h.1, h.2, fun q hq => ?_⟩
          have rp : Reps ρ3 K (view X ρ3 O3 H3) (pickG ms (some a) (some b)) (pickG vs (some a) (some b)) := by
            unfold pickG; rw [← rx.length]; exact Reps.pick rx _
          exact p3.grown S3 (Ex.new hq) (.lst (S3.view_new hq) (rp.mono (Pre.refl _) (view_ex (Ex.new hq))))
        | _ => exact p3.elim
      · rw [if_neg h] at p3; exact p3.elim
end
section
variable {ct : String → Addr} {X : Cx} {W : WX} {e st : Expr} {te : TE} {me : EM} {lo : Option Expr} {tl th : TO} {ml mh : OM} {pos p2 : Pos}
theorem e_slK (h : PEM ct X W e te me) (hl : POM ct X W lo tl ml) (hh : POM ct X W (some st) th mh) : PEM ct X W (.Subscript e (.Slice lo none (some st) p2) pos) (tSl (rSlK X.K) te tl th) (mSlK me ml mh) := ⟨pe_sliceK h.pe hl.pe hh.pe, sim_slK h.sim hl.sim hh.sim⟩
end
end M

namespace M
open PySem L2 PyProof.Rows
def rngM (a b : Int) : List MV := (List.range (b - a).toNat).map fun i => MV.int (a + (i : Nat))
theorem rngM_rep {ρ : List Addr} {K : KA} {H : Hp} (a b : Int) : Reps ρ K H (rngM a b) (rgV a b) := by
  have e1 : rngM a b = ((List.range (b - a).toNat).map fun (i : Nat) => a + (i : Int)).map MV.int := by unfold rngM; rw [List.map_map]; rfl
  have e2 : rgV a b = ((List.range (b - a).toNat).map fun (i : Nat) => a + (i : Int)).map V.int := by unfold rgV; rw [List.map_map]; rfl
  rw [e1, e2]
  exact Reps.ints _
noncomputable def mLstR1 (ma : EM) : EM := fun s => (ma s).bind fun x s1 => match x with
  | .int n => if 0 ≤ n ∧ n < 1000000 then .ok (.lst (rngM 0 n)) s1 else .stuck
  | _ => .stuck
noncomputable def mLstR2 (ma mb : EM) : EM := fun s => (ma s).bind fun x s1 => (mb s1).bind fun y s2 => match x, y with
  | .int a, .int b => if (0 ≤ a ∧ a < 1000000) ∧ 0 ≤ b ∧ b < 1000000 then .ok (.lst (rngM a b)) s2 else .stuck
  | _, _ => .stuck
section
variable {K : KA} {W : WX} {ta tb : TE} {ma mb : EM}
theorem sim_lstR1 (h : SimE K W ta ma) : SimE K W (tLstRg (tRg1 ta)) (mLstR1 ma) := by
  intro X ρ O s σ H Q S p
  refine h.bindE S p fun x s1 ρ1 O1 H1 v S1 F1 r1 p1 => ?_
  cases r1 with
  | int n =>
    dsimp only at p1
    by_cases h : 0 ≤ n ∧ n < 1000000
    · rw [if_pos h] at p1
      exact ⟨n, rfl, .of_le (by omega) (by omega) (by omega) (by omega), fun q hq => p1.grown S1 (Ex.new hq) (.lst (S1.view_new hq) (rngM_rep _ _))⟩
    · rw [if_neg h] at p1; exact p1.elim
  | _ => exact p1.elim
theorem sim_lstR2 (h : SimE K W ta ma) (h' : SimE K W tb mb) : SimE K W (tLstRg (tRg2 ta tb)) (mLstR2 ma mb) := by
  intro X ρ O s σ H Q S p
  refine h.bindE S p fun x s1 ρ1 O1 H1 v S1 F1 r1 p1 => ?_
  refine h'.bindE S1 p1 fun y s2 ρ2 O2 H2 u S2 F2 r2 p2 => ?_
  have r1 := F2.rep r1
  cases r1 with
  | int a => cases r2 with
    | int b =>
      dsimp only at p2
      by_cases h : (0 ≤ a ∧ a < 1000000) ∧ 0 ≤ b ∧ b < 1000000
      · rw [if_pos h] at p2
        exact ⟨a, b, rfl, rfl, .of_le (by omega) (by omega) (by omega) (by omega), fun q hq => p2.grown S2 (Ex.new hq) (.lst (S2.view_new hq) (rngM_rep _ _))⟩
      · rw [if_neg h] at p2; exact p2.elim
    | _ => exact p2.elim
  | _ => cases r2 <;> exact p2.elim
end
section
variable {ct : String → Addr} {X : Cx} {W : WX} {a b : Expr} {ta tb : TE} {ma mb : EM} {p p2 pos pos2 : Pos}
theorem e_lstR1 (hm : X.mg "list" = none) (hm2 : X.mg "range" = none) (h : PEM ct X W a ta ma) (hc : X.calm = true := by rfl) (hg : Gl X "list" := by rfl) (hg2 : Gl X "range" := by rfl)
    (na : starEach [a] X.env = (false, eval a X.env) :: starEach [] X.env := by rfl)
    (na2 : starEach [.Call (.Name "range" p2) [a] [] pos2] X.env = (false, eval (.Call (.Name "range" p2) [a] [] pos2) X.env) :: starEach [] X.env := by rfl) :
    PEM ct X W (.Call (.Name "list" p) [.Call (.Name "range" p2) [a] [] pos2] [] pos) (tLstRg (tRg1 ta)) (mLstR1 ma) :=
  ⟨pe_listRg hc hg hm (prg_1 hg2 hm2 h.pe na) na2, sim_lstR1 h.sim⟩
theorem e_lstR2 (hm : X.mg "list" = none) (hm2 : X.mg "range" = none) (h : PEM ct X W a ta ma) (h' : PEM ct X W b tb mb) (hc : X.calm = true := by rfl) (hg : Gl X "list" := by rfl) (hg2 : Gl X "range" := by rfl)
    (na : starEach [a, b] X.env = (false, eval a X.env) :: starEach [b] X.env := by rfl) (nb : starEach [b] X.env = (false, eval b X.env) :: starEach [] X.env := by rfl) (hp : (backTo pos2 (starEach [b] X.env)).any (·.1) = false := by rfl)
    (na2 : starEach [.Call (.Name "range" p2) [a, b] [] pos2] X.env = (false, eval (.Call (.Name "range" p2) [a, b] [] pos2) X.env) :: starEach [] X.env := by rfl) :
    PEM ct X W (.Call (.Name "list" p) [.Call (.Name "range" p2) [a, b] [] pos2] [] pos) (tLstRg (tRg2 ta tb)) (mLstR2 ma mb) :=
  ⟨pe_listRg hc hg hm (prg_2 hg2 hm2 h.pe h'.pe na nb hp) na2, sim_lstR2 h.sim h'.sim⟩
end
end M

namespace M
open PySem L2 PyProof.Rows
open Classical
/-! ## what is never reached -/
def tsNo : TS := fun _ _ _ => False
def smNo : SM := fun _ => .stuck
def teNo : TE := fun _ _ _ => False
def emNo : EM := fun _ => .stuck
section
variable {ct : String → Addr} {X : Cx} {W : WX} {st : Stmt} {e : Expr}
theorem s_no : PSM ct X W st tsNo smNo := ⟨⟨fun _ _ _ _ _ _ h => h.elim⟩, fun _ _ _ _ _ _ _ _ p => p⟩
theorem e_no : PEM ct X W e teNo emNo := ⟨⟨fun _ _ _ _ _ _ h => h.elim⟩, fun _ _ _ _ _ _ _ _ p => p⟩
end
/-! ## in a list of flat values -/
def flatM : MV → Bool
  | .non => true
  | .bl _ => true
  | .int _ => true
  | .str _ => true
  | _ => false
def eqM : MV → MV → Bool
  | .non, .non => true
  | .bl a, .bl b => a == b
  | .bl a, .int b => (if a then 1 else 0) == b
  | .int a, .bl b => a == (if b then 1 else 0)
  | .int a, .int b => a == b
  | .str a, .str b => a == b
  | _, _ => false
def seqG (G : MHeap) : MV → Option (List MV)
  | .lst xs => some xs
  | .tup xs => some xs
  | .scr xs => some xs
  | .ref n => (match G[n]? with
    | some (.lst xs) => some xs
    | _ => none)
  | _ => none
def oIn : MV → MV → EM := fun x y s => match seqG s.G y with
  | some xs => if flatM x = true ∧ xs.all flatM = true then .ok (.bl (xs.any fun z => eqM z x)) s else .stuck
  | none => .stuck
def oNotIn : MV → MV → EM := fun x y s => match seqG s.G y with
  | some xs => if flatM x = true ∧ xs.all flatM = true then .ok (.bl (!(xs.any fun z => eqM z x))) s else .stuck
  | none => .stuck
section
variable {K : KA} {X : Addr → Prop} {ρ : List Addr} {O : Nat → Option Addr} {s : MS} {σ : L2.St} {H Hz : Hp}
theorem flat_rep {m : MV} {v : V} (r : Rep ρ K Hz m v) (h : flatM m = true) : flatV v = true := by
  cases r <;> first | rfl | cases h
theorem eq_rep {m n : MV} {v u : V} (r : Rep ρ K Hz m v) (q : Rep ρ K Hz n u) (h : flatM m = true) (g : flatM n = true) : eqM m n = eqV v u := by
  cases r <;> first | exact absurd h Bool.false_ne_true | (cases q <;> first | rfl | exact absurd g Bool.false_ne_true)
theorem any_rep {x : MV} {u : V} (q : Rep ρ K Hz x u) (g : flatM x = true) : ∀ {ms : List MV} {vs : List V}, Reps ρ K Hz ms vs → ms.all flatM = true → vs.all flatV = true ∧ (ms.any fun z => eqM z x) = inV u vs
  | _, _, .nil, _ => ⟨rfl, rfl⟩
  | _, _, .cons r t, h => by
    rw [List.all_cons, Bool.and_eq_true] at h
    obtain ⟨h1, h2⟩ := any_rep q g t h.2
    refine ⟨by rw [List.all_cons, flat_rep r h.1, h1]; rfl, ?_⟩
    unfold inV at h2 ⊢
    rw [List.any_cons, List.any_cons, eq_rep r q h.1 g, h2]
theorem seqG_of (S : SR K X ρ O s σ H) {y : MV} {u : V} {ms : List MV} (r : Rep ρ K (view X ρ O H) y u) (h : seqG s.G y = some ms) : ∃ p vs, u = .ref p ∧ (SqL K.F H p vs ∨ SqT K.F H p vs) ∧ Reps ρ K (view X ρ O H) ms vs := by
  cases r with
  | lst hx rx => cases h; exact ⟨_, _, rfl, .inl (sqlv hx), rx⟩
  | scr hx rx => cases h; exact ⟨_, _, rfl, .inl (sql_ex (view_le _ _ _ _) hx), rx⟩
  | tup hx rx => cases h; exact ⟨_, _, rfl, .inr (sqt_ex (view_le _ _ _ _) hx), rx⟩
  | ref hn =>
    rename_i n a
    unfold seqG at h
    cases g : s.G[n]? with
    | none => simp only [g] at h; cases h
    | some o => cases o with
      | ins c ks vs => simp only [g] at h; cases h
      | dic ms => simp only [g] at h; cases h
      | lck od fs ms => simp only [g] at h; cases h
      | lst xs =>
        simp only [g] at h
        cases h
        obtain ⟨vs, hx, rx⟩ := S.refL hn g
        exact ⟨_, _, rfl, .inl (sqlh hx), rx⟩
  | _ => cases h
end
theorem so_in {K : KA} : SimOp K (rIn K.F false) oIn := by
  intro X W ρ O s σ H x y v u Q S rx ry p
  unfold oIn at p
  cases e : seqG s.G y with
  | none => simp only [e] at p; exact p.elim
  | some xs =>
    simp only [e] at p
    by_cases h : flatM x = true ∧ xs.all flatM = true
    · rw [if_pos h] at p
      obtain ⟨a, vs, rfl, h1, h2⟩ := seqG_of S ry e
      obtain ⟨h3, h4⟩ := any_rep rx h.1 h2 h.2
      refine ⟨a, vs, rfl, h1, flat_rep rx h.1, h3, ?_⟩
      rw [if_neg (by decide), ← h4]
      exact p.done S (.bl _)
    · rw [if_neg h] at p; exact p.elim
theorem so_notIn {K : KA} : SimOp K (rIn K.F true) oNotIn := by
  intro X W ρ O s σ H x y v u Q S rx ry p
  unfold oNotIn at p
  cases e : seqG s.G y with
  | none => simp only [e] at p; exact p.elim
  | some xs =>
    simp only [e] at p
    by_cases h : flatM x = true ∧ xs.all flatM = true
    · rw [if_pos h] at p
      obtain ⟨a, vs, rfl, h1, h2⟩ := seqG_of S ry e
      obtain ⟨h3, h4⟩ := any_rep rx h.1 h2 h.2
      refine ⟨a, vs, rfl, h1, flat_rep rx h.1, h3, ?_⟩
      rw [if_pos rfl, ← h4]
      exact p.done S (.bl _)
    · rw [if_neg h] at p; exact p.elim
theorem any_strs (z : Str) : ∀ zs : List Str, ((zs.map MV.str).any fun y => eqM y (.str z)) = decide (z ∈ zs)
  | [] => rfl
  | y :: zs => by
    rw [List.map_cons, List.any_cons, any_strs z zs]
    show ((y == z) || decide (z ∈ zs)) = _
    by_cases h : y = z
    · subst h; simp
    · have h2 : ¬ z = y := fun e => h e.symm
      simp [h, h2]
theorem flat_strs : ∀ zs : List Str, (zs.map MV.str).all flatM = true
  | [] => rfl
  | _ :: zs => by rw [List.map_cons, List.all_cons, flat_strs zs]; rfl
theorem oIn_strs {z : Str} {zs : List Str} {s : MS} {y : MV} (h : seqG s.G y = some (zs.map MV.str)) : oIn (.str z) y s = .ok (.bl (decide (z ∈ zs))) s := by
  unfold oIn
  simp only [h]
  rw [if_pos ⟨rfl, flat_strs zs⟩, any_strs]
theorem oNotIn_strs {z : Str} {zs : List Str} {s : MS} {y : MV} (h : seqG s.G y = some (zs.map MV.str)) : oNotIn (.str z) y s = .ok (.bl (!decide (z ∈ zs))) s := by
  unfold oNotIn
  simp only [h]
  rw [if_pos ⟨rfl, flat_strs zs⟩, any_strs]
theorem seqG_ref {G : MHeap} {n : Nat} {xs : List MV} (h : G[n]? = some (.lst xs)) : seqG G (.ref n) = some xs := by unfold seqG; simp only [h]
/-! ## dicts by texts -/
def valD (kvs : List (Str × MV)) (z : Str) : Option MV := (kvs.find? fun p => decide (p.1 = z)).map (·.2)
def putD (kvs : List (Str × MV)) (z : Str) (m : MV) : List (Str × MV) :=
  if (kvs.any fun p => decide (p.1 = z)) = true then kvs.map (fun p => if p.1 = z then (p.1, m) else p) else kvs ++ [(z, m)]
section
variable {K : KA} {ρ : List Addr} {Hz : Hp}
def KDR (ρ : List Addr) (K : KA) (Hz : Hp) (kvs : List (Str × MV)) (fs : List (Key × V)) : Prop := fs.map (·.1) = kvs.map (fun p => Sum.inr p.1) ∧ Reps ρ K Hz (kvs.map (·.2)) (fs.map (·.2))
theorem KDR.cons {p : Str × MV} {q : Key × V} {kvs : List (Str × MV)} {fs : List (Key × V)} (h : KDR ρ K Hz (p :: kvs) (q :: fs)) : q.1 = .inr p.1 ∧ Rep ρ K Hz p.2 q.2 ∧ KDR ρ K Hz kvs fs := by
  obtain ⟨h1, h2⟩ := h
  rw [List.map_cons, List.map_cons] at h1 h2
  injection h1 with h1 h3
  cases h2 with
  | cons a b => exact ⟨h1, a, h3, b⟩
theorem KDR.val (z : Str) : ∀ {kvs : List (Str × MV)} {fs : List (Key × V)}, KDR ρ K Hz kvs fs → (valD kvs z = none ∧ valV fs (.inr z) = none) ∨ ∃ m v, valD kvs z = some m ∧ valV fs (.inr z) = some v ∧ Rep ρ K Hz m v
  | [], [], _ => .inl ⟨rfl, rfl⟩
  | [], _ :: _, h => by cases h.1
  | _ :: _, [], h => by cases h.1
  | p :: kvs, q :: fs, h => by
    obtain ⟨h1, h2, h3⟩ := h.cons
    by_cases e : p.1 = z
    · exact .inr ⟨p.2, q.2, by simp [valD, List.find?_cons, e], valV_pos (by rw [h1, e]), h2⟩
    · have e1 : valD (p :: kvs) z = valD kvs z := by simp [valD, List.find?_cons, e]
      have e2 : valV (q :: fs) (Sum.inr z) = valV fs (.inr z) := valV_neg (by rw [h1]; intro w; injection w with w; exact e w)
      rw [e1, e2]
      exact KDR.val z h3
theorem KDR.len {kvs : List (Str × MV)} {fs : List (Key × V)} (h : KDR ρ K Hz kvs fs) : kvs.length = fs.length := by
  have := congrArg List.length h.1
  rw [List.length_map, List.length_map] at this
  exact this.symm
theorem KDR.any (z : Str) {kvs : List (Str × MV)} {fs : List (Key × V)} (h : KDR ρ K Hz kvs fs) : (fs.any fun kv => decide (kv.1 = .inr z)) = kvs.any fun p => decide (p.1 = z) := by
  have e1 : (fs.any fun kv => decide (kv.1 = (.inr z : Key))) = (fs.map (·.1)).any fun k => decide (k = .inr z) := by rw [List.any_map]; rfl
  have e2 : (kvs.any fun p => decide (p.1 = z)) = (kvs.map fun p => (Sum.inr p.1 : Key)).any fun k => decide (k = .inr z) := by
    rw [List.any_map]
    congr 1
    funext p
    simp
  rw [e1, e2, h.1]
theorem KDR.repl (z : Str) {m : MV} {v : V} (r : Rep ρ K Hz m v) : ∀ {kvs : List (Str × MV)} {fs : List (Key × V)}, KDR ρ K Hz kvs fs → KDR ρ K Hz (kvs.map fun p => if p.1 = z then (p.1, m) else p) (fs.map fun kv => if kv.1 = .inr z then (kv.1, v) else kv)
  | [], [], _ => ⟨rfl, .nil⟩
  | [], _ :: _, h => by cases h.1
  | _ :: _, [], h => by cases h.1
  | p :: kvs, q :: fs, h => by
    obtain ⟨h1, h2, h3⟩ := h.cons
    obtain ⟨i1, i2⟩ := KDR.repl z r h3
    by_cases e : p.1 = z
    · have e2 : q.1 = (.inr z : Key) := by rw [h1, e]
      refine ⟨?_, ?_⟩
      · rw [List.map_cons, List.map_cons, List.map_cons, List.map_cons, i1, if_pos e, if_pos e2, h1]
      · rw [List.map_cons, List.map_cons, List.map_cons, List.map_cons, if_pos e, if_pos e2]
        exact .cons r i2
    · have e2 : ¬ q.1 = (.inr z : Key) := by rw [h1]; intro w; injection w with w; exact e w
      refine ⟨?_, ?_⟩
      · rw [List.map_cons, List.map_cons, List.map_cons, List.map_cons, i1, if_neg e, if_neg e2, h1]
      · rw [List.map_cons, List.map_cons, List.map_cons, List.map_cons, if_neg e, if_neg e2]
        exact .cons h2 i2
theorem KDR.put (z : Str) {m : MV} {v : V} (r : Rep ρ K Hz m v) {kvs : List (Str × MV)} {fs : List (Key × V)} (h : KDR ρ K Hz kvs fs) : KDR ρ K Hz (putD kvs z m) (L2.putK fs (.inr z) v) := by
  unfold putD L2.putK
  rw [h.any z]
  split
  · exact h.repl z r
  · refine ⟨by rw [List.map_append, List.map_append, h.1]; rfl, ?_⟩
    rw [List.map_append, List.map_append]
    exact h.2.append (.cons r .nil)
end
theorem SR.refD {K : KA} {X : Addr → Prop} {ρ : List Addr} {O : Nat → Option Addr} {s : MS} {σ : L2.St} {H : Hp} (S : SR K X ρ O s σ H) {n : Nat} {a : Addr} {kvs : List (Str × MV)} (h : ρ[n]? = some a) (g : s.G[n]? = some (.dic kvs)) : ∃ fs, H a = some (.dK fs) ∧ KDR ρ K (view X ρ O H) kvs fs := by
  obtain ⟨b, h1, fs, h2, h3⟩ := S.ob n _ g
  rw [h] at h1
  cases h1
  exact ⟨fs, h2, h3⟩
noncomputable def mDic0 : LM := fun s => .ok (.dic []) s
noncomputable def mDic1 (mk mv : EM) : LM := fun s => (mk s).bind fun k s1 => (mv s1).bind fun v s2 => match k with
  | .str z => .ok (.dic [(z, v)]) s2
  | _ => .stuck
noncomputable def mInD (my md : EM) : EM := fun s => (my s).bind fun y s1 => (md s1).bind fun d s2 => match d, y with
  | .ref n, .str z => (match s2.G[n]? with
    | some (.dic kvs) => .ok (.bl (valD kvs z).isSome) s2
    | some (.lck _ _ kvs) => .ok (.bl (valD kvs z).isSome) s2
    | _ => .stuck)
  | _, _ => .stuck
noncomputable def mNotInD (my md : EM) : EM := fun s => (my s).bind fun y s1 => (md s1).bind fun d s2 => match d, y with
  | .ref n, .str z => (match s2.G[n]? with
    | some (.dic kvs) => .ok (.bl (!(valD kvs z).isSome)) s2
    | some (.lck _ _ kvs) => .ok (.bl (!(valD kvs z).isSome)) s2
    | _ => .stuck)
  | _, _ => .stuck
noncomputable def mGetD (md my : EM) : EM := fun s => (md s).bind fun d s1 => (my s1).bind fun y s2 => match d, y with
  | .ref n, .str z => (match s2.G[n]? with
    | some (.dic kvs) => (match valD kvs z with
      | some m => .ok m s2
      | none => .stuck)
    | some (.lck _ _ kvs) => (match valD kvs z with
      | some m => .ok m s2
      | none => .stuck)
    | _ => .stuck)
  | _, _ => .stuck
noncomputable def mPutD (mv md my : EM) : SM := fun s => (mv s).bind fun v s1 => (md s1).bind fun d s2 => (my s2).bind fun y s3 => match d, y with
  | .ref n, .str z => (match s3.G[n]? with
    | some (.dic kvs) => if kvs.length < 16777216 then .ok .nx ⟨s3.env, s3.G.set n (.dic (putD kvs z v))⟩ else .stuck
    | _ => .stuck)
  | _, _ => .stuck
section
variable {K : KA} {W : WX} {tk tv td ty : TE} {mk mv md my : EM}
theorem sn_dic0 : SimN K W tDNewK mDic0 := by
  intro X ρ O s σ H Q S p D hD
  refine p ρ O _ D ⟨S.hide hD _, fun q => ?_, ⟨[], upd_same, rfl, .nil⟩, Pre.refl _, by rw [view_hide hD]; exact Ex.refl _, fun b o _ e => Ex.new hD b o e⟩
  obtain ⟨u, e⟩ := S.xo D q
  rw [hD] at e; cases e
theorem sn_dic1 (hk : SimE K W tk mk) (hv : SimE K W tv mv) : SimN K W (tDisp [(tk, tv)]) (mDic1 mk mv) := by
  intro X ρ O s σ H Q S p D hD
  have S0 := S.hide hD (.dK [])
  have nX : ¬ X D := fun q => by
    obtain ⟨u, e⟩ := S.xo D q
    rw [hD] at e; cases e
  have v0 : Ex (view X ρ O H) (view (fun b => X b ∨ b = D) ρ O (upd H D (.dK []))) := by rw [view_hide hD]; exact Ex.refl _
  have fb : ∀ {ρ' O' H'}, Fut (fun b => X b ∨ b = D) ρ O (upd H D (.dK [])) ρ' O' H' → Fut X ρ O H ρ' O' H' := fun F => ⟨F.pre, (v0.trans F.ex).trans view_bare, fun b o hb e => F.xs b o (.inl hb) (Ex.new hD b o e)⟩
  unfold mDic1 at p
  show tk σ (upd H D (.dK [])) _
  refine hk (fun b => X b ∨ b = D) ρ O s σ _ _ S0 ?_
  cases e1 : mk s with
  | stuck => rw [e1] at p; exact p.elim
  | exc c s1 => rw [e1] at p; intro a b c S1 F1; exact p a b c S1.bare (fb F1)
  | ok k s1 =>
    rw [e1] at p
    intro ρ1 O1 H1 x S1 F1 r1
    show tv σ H1 _
    refine hv (fun b => X b ∨ b = D) ρ1 O1 s1 σ _ _ S1 ?_
    dsimp only [R.bind_ok] at p
    cases e2 : mv s1 with
    | stuck => rw [e2] at p; exact p.elim
    | exc c s2 => rw [e2] at p; intro a b c S2 F2; exact p a b c S2.bare (fb (F1.trans F2))
    | ok v s2 =>
      rw [e2] at p
      intro ρ2 O2 H2 u S2 F2 r2
      have r1 := F2.rep r1
      dsimp only [R.bind_ok] at p
      cases r1 with
      | str z =>
        dsimp only at p
        refine ⟨(F1.trans F2).xs D _ (.inr rfl) upd_same, [(.inr z, u)], rfl, by simp, ?_⟩
        refine p ρ2 O2 _ D ⟨S2.put _, nX, ⟨mergeK [] [(.inr z, u)], upd_same, rfl, ?_⟩, (F1.trans F2).pre, ?_, fun b o hb e => ?_⟩
        · rw [view_put]; exact .cons r2 .nil
        · rw [view_put]; exact v0.trans (F1.trans F2).ex
        · have ne : b ≠ D := fun q => nX (q ▸ hb)
          rw [upd_ne ne]
          exact (F1.trans F2).xs b o (.inl hb) (Ex.new hD b o e)
      | _ => exact p.elim
theorem dget_of {X : Addr → Prop} {ρ : List Addr} {O : Nat → Option Addr} {s : MS} {σ : L2.St} {H : Hp} (S : SR K X ρ O s σ H) {n : Nat} {a : Addr} {kvs : List (Str × MV)} (h : ρ[n]? = some a) (g : s.G[n]? = some (.dic kvs)) (z : Str) :
    (valD kvs z = none ∧ DGet H a (.str z) none) ∨ ∃ m v, valD kvs z = some m ∧ DGet H a (.str z) (some v) ∧ Rep ρ K (view X ρ O H) m v := by
  obtain ⟨fs, h1, h2⟩ := S.refD h g
  have d : DGet H a (.str z) (valV fs (.inr z)) := DGet.k (k := .inr z) h1
  rcases h2.val z with ⟨e1, e2⟩ | ⟨m, v, e1, e2, r⟩
  · rw [e2] at d; exact .inl ⟨e1, d⟩
  · rw [e2] at d; exact .inr ⟨m, v, e1, d, r⟩
theorem dget_lck {X : Addr → Prop} {ρ : List Addr} {O : Nat → Option Addr} {s : MS} {σ : L2.St} {H : Hp} (S : SR K X ρ O s σ H) {n : Nat} {a : Addr} {od : Obj} {gs : List (Key × V)} {kvs : List (Str × MV)} (h : ρ[n]? = some a) (g : s.G[n]? = some (.lck od gs kvs)) (z : Str) :
    (valD kvs z = none ∧ DGet H a (.str z) none) ∨ ∃ m v, valD kvs z = some m ∧ DGet H a (.str z) (some v) ∧ Rep ρ K (view X ρ O H) m v := by
  obtain ⟨b, h0, h1, h2⟩ := S.ob n _ g
  rw [h] at h0
  cases h0
  have h2 : KDR ρ K (view X ρ O H) kvs gs := h2
  have d : DGet H a (.str z) (valV gs (.inr z)) := .inl ⟨gs, .inr z, .inr ⟨od, h1⟩, rfl, rfl⟩
  rcases h2.val z with ⟨e1, e2⟩ | ⟨m, v, e1, e2, r⟩
  · rw [e2] at d; exact .inl ⟨e1, d⟩
  · rw [e2] at d; exact .inr ⟨m, v, e1, d, r⟩
theorem sim_inD (hy : SimE K W ty my) (hd : SimE K W td md) : SimE K W (tDIn ty td) (mInD my md) := by
  intro X ρ O s σ H Q S p
  refine hy.bindE S p fun y s1 ρ1 O1 H1 v S1 F1 r1 p1 => ?_
  refine hd.bindE S1 p1 fun d s2 ρ2 O2 H2 u S2 F2 r2 p2 => ?_
  have r1 := F2.rep r1
  cases r2 with
  | ref hn => cases r1 with
    | str z =>
      rename_i n a
      dsimp only at p2
      cases g : s2.G[n]? with
      | none => simp only [g] at p2; exact p2.elim
      | some o => cases o with
        | ins c ks vs => simp only [g] at p2; exact p2.elim
        | lst xs => simp only [g] at p2; exact p2.elim
        | lck od gs kvs =>
          simp only [g] at p2
          rcases dget_lck S2 hn g z with ⟨e1, d⟩ | ⟨m, v, e1, d, r⟩
          · rw [e1] at p2; exact ⟨a, none, rfl, d, p2.done S2 (.bl _)⟩
          · rw [e1] at p2; exact ⟨a, some v, rfl, d, p2.done S2 (.bl _)⟩
        | dic kvs =>
          simp only [g] at p2
          rcases dget_of S2 hn g z with ⟨e1, d⟩ | ⟨m, v, e1, d, r⟩
          · rw [e1] at p2; exact ⟨a, none, rfl, d, p2.done S2 (.bl _)⟩
          · rw [e1] at p2; exact ⟨a, some v, rfl, d, p2.done S2 (.bl _)⟩
    | _ => exact p2.elim
  | _ => exact p2.elim
theorem sim_notInD (hy : SimE K W ty my) (hd : SimE K W td md) : SimE K W (tDNotIn ty td) (mNotInD my md) := by
  intro X ρ O s σ H Q S p
  refine hy.bindE S p fun y s1 ρ1 O1 H1 v S1 F1 r1 p1 => ?_
  refine hd.bindE S1 p1 fun d s2 ρ2 O2 H2 u S2 F2 r2 p2 => ?_
  have r1 := F2.rep r1
  cases r2 with
  | ref hn => cases r1 with
    | str z =>
      rename_i n a
      dsimp only at p2
      cases g : s2.G[n]? with
      | none => simp only [g] at p2; exact p2.elim
      | some o => cases o with
        | ins c ks vs => simp only [g] at p2; exact p2.elim
        | lst xs => simp only [g] at p2; exact p2.elim
        | lck od gs kvs =>
          simp only [g] at p2
          rcases dget_lck S2 hn g z with ⟨e1, d⟩ | ⟨m, v, e1, d, r⟩
          · rw [e1] at p2; exact ⟨a, none, rfl, d, p2.done S2 (.bl _)⟩
          · rw [e1] at p2; exact ⟨a, some v, rfl, d, p2.done S2 (.bl _)⟩
        | dic kvs =>
          simp only [g] at p2
          rcases dget_of S2 hn g z with ⟨e1, d⟩ | ⟨m, v, e1, d, r⟩
          · rw [e1] at p2; exact ⟨a, none, rfl, d, p2.done S2 (.bl _)⟩
          · rw [e1] at p2; exact ⟨a, some v, rfl, d, p2.done S2 (.bl _)⟩
    | _ => exact p2.elim
  | _ => exact p2.elim
theorem sim_getD (hd : SimE K W td md) (hy : SimE K W ty my) : SimE K W (tDGet td ty) (mGetD md my) := by
  intro X ρ O s σ H Q S p
  refine hd.bindE S p fun d s1 ρ1 O1 H1 u S1 F1 r1 p1 => ?_
  refine hy.bindE S1 p1 fun y s2 ρ2 O2 H2 v S2 F2 r2 p2 => ?_
  have r1 := F2.rep r1
  cases r1 with
  | ref hn => cases r2 with
    | str z =>
      rename_i n a
      dsimp only at p2
      cases g : s2.G[n]? with
      | none => simp only [g] at p2; exact p2.elim
      | some o => cases o with
        | ins c ks vs => simp only [g] at p2; exact p2.elim
        | lst xs => simp only [g] at p2; exact p2.elim
        | lck od gs kvs =>
          simp only [g] at p2
          rcases dget_lck S2 hn g z with ⟨e1, d⟩ | ⟨m, v, e1, d, r⟩
          · simp only [e1] at p2; exact p2.elim
          · simp only [e1] at p2; exact ⟨a, v, rfl, d, p2.done S2 r⟩
        | dic kvs =>
          simp only [g] at p2
          rcases dget_of S2 hn g z with ⟨e1, d⟩ | ⟨m, v, e1, d, r⟩
          · simp only [e1] at p2; exact p2.elim
          · simp only [e1] at p2; exact ⟨a, v, rfl, d, p2.done S2 r⟩
    | _ => exact p2.elim
  | _ => exact p2.elim
theorem ss_putD (hv : SimE K W tv mv) (hd : SimE K W td md) (hy : SimE K W ty my) : SimS K W (sDPut td ty tv) (mPutD mv md my) := by
  intro X ρ O s σ H D S p
  refine hv.bindS S p fun x s1 ρ1 O1 H1 w S1 F1 r1 p1 => ?_
  refine hd.bindS S1 p1 fun d s2 ρ2 O2 H2 u S2 F2 r2 p2 => ?_
  refine hy.bindS S2 p2 fun y s3 ρ3 O3 H3 v S3 F3 r3 p3 => ?_
  have r2 := F3.rep r2
  cases r2 with
  | ref hn => cases r3 with
    | str z =>
      rename_i n a
      dsimp only at p3
      cases g : s3.G[n]? with
      | none => simp only [g] at p3; exact p3.elim
      | some o => cases o with
        | ins c ks vs => simp only [g] at p3; exact p3.elim
        | lst xs => simp only [g] at p3; exact p3.elim
        | lck od fs2 kvs2 => simp only [g] at p3; exact p3.elim
        | dic kvs =>
          simp only [g] at p3
          by_cases hl : kvs.length < 16777216
          · rw [if_pos hl] at p3
            obtain ⟨fs, h1, h2⟩ := S3.refD hn g
            have h3 := h2.put z (F3.rep (F2.rep r1))
            obtain ⟨S4, F4⟩ := S3.setM (q := .dic (putD kvs z x)) (ho := .dK (L2.putK fs (.inr z) w)) hn fun Hz hz => ⟨_, hz, h3⟩
            exact ⟨a, _, rfl, DPut.k (k := .inr z) h1 (by rw [← h2.len, sizeLine_eq]; exact hl), p3 ρ3 O3 σ _ S4 F4⟩
          · rw [if_neg hl] at p3; exact p3.elim
    | _ => exact p3.elim
  | _ => exact p3.elim
end
section
variable {ct : String → Addr} {X : Cx} {W : WX} {o i e k v : Expr} {tk tv td ty te : TE} {mk mv md my me : EM} {pos pos' : Pos}
theorem f_dic0 : PNM ct X W (.Dict [] [] pos) tDNewK mDic0 := ⟨pe_dnewK, sn_dic0⟩
theorem f_dic1 (hk : PEM ct X W k tk mk) (hv : PEM ct X W v tv mv) : PNM ct X W (.Dict [some k] [v] pos) (tDisp [(tk, tv)]) (mDic1 mk mv) := ⟨pe_disp (pps_cons hk.pe hv.pe pps_nil) rfl rfl (by intro z; cases z) (by simp), sn_dic1 hk.sim hv.sim⟩
theorem e_inD (hu : X.A.units + 64 < cLine) (hi : PEM ct X W i ty my) (hd : PEM ct X W o td md) (hm : behindInMarks .In o = false := by rfl) : PEM ct X W (.Compare i [.In] [o] pos) (tDIn ty td) (mInD my md) := ⟨pe_cmp (pc_din (by omega) hi.pe hd.pe) hm, sim_inD hi.sim hd.sim⟩
theorem t_inD (hu : X.A.units + 64 < cLine) (hi : PEM ct X W i ty my) (hd : PEM ct X W o td md) (hm : behindInMarks .In o = false := by rfl) : PTM ct X W (.Compare i [.In] [o] pos) (tB (tDIn ty td)) (tOf (mInD my md)) := ⟨pt_cmp (pc_din (by omega) hi.pe hd.pe) hm, sim_tB (sim_inD hi.sim hd.sim)⟩
theorem e_notInD (hu : X.A.units + 64 < cLine) (hi : PEM ct X W i ty my) (hd : PEM ct X W o td md) (hm : behindInMarks .NotIn o = false := by rfl) : PEM ct X W (.Compare i [.NotIn] [o] pos) (tDNotIn ty td) (mNotInD my md) := ⟨pe_cmp (pc_dnotin (by omega) hi.pe hd.pe) hm, sim_notInD hi.sim hd.sim⟩
theorem t_notInD (hu : X.A.units + 64 < cLine) (hi : PEM ct X W i ty my) (hd : PEM ct X W o td md) (hm : behindInMarks .NotIn o = false := by rfl) : PTM ct X W (.Compare i [.NotIn] [o] pos) (tB (tDNotIn ty td)) (tOf (mNotInD my md)) := ⟨pt_cmp (pc_dnotin (by omega) hi.pe hd.pe) hm, sim_tB (sim_notInD hi.sim hd.sim)⟩
theorem e_getD (hu : X.A.units + 64 < cLine) (hd : PEM ct X W o td md) (hi : PEM ct X W i ty my) (hs : NoSl i := by intro _ _; rfl) : PEM ct X W (.Subscript o i pos) (tDGet td ty) (mGetD md my) := ⟨pe_dget (by omega) hd.pe hi.pe hs, sim_getD hd.sim hi.sim⟩
theorem s_putD (hu : X.A.units + 64 < cLine) (hv : PEM ct X W e tv mv) (hd : PEM ct X W o td md) (hi : PEM ct X W i ty my) (hs : swapsWith e (some (.Subscript o i pos')) pos.line X.env = pure false := by rfl) :
    PSM ct X W (.Assign [.Subscript o i pos'] e pos) (sDPut td ty tv) (mPutD mv md my) := ⟨ps_dput (by omega) hd.pe hi.pe hv.pe hs, ss_putD hv.sim hd.sim hi.sim⟩
end
/-! ## turned about: xs[::-1] -/
noncomputable def oRevSl : MV → EM := fun x s => match x with
  | .lst xs => .ok (.lst xs.reverse) s
  | .scr xs => .ok (.lst xs.reverse) s
  | _ => .stuck
theorem Reps.revC {ρ : List Addr} {K : KA} {H : Hp} : ∀ {ms : List MV} {vs : List V}, Reps ρ K H ms vs → Reps ρ K H ms.reverse vs.reverse
  | _, _, .nil => .nil
  | _, _, .cons r t => by rw [List.reverse_cons, List.reverse_cons]; exact (Reps.revC t).append (.cons r .nil)
theorem sim_revSl {K : KA} {W : WX} {te : TE} {me : EM} (h : SimE K W te me) : SimE K W (tRevL K.F te) (mUn oRevSl me) := by
  intro X ρ O s σ H Q S p
  refine h.bindE S p fun x s1 ρ1 O1 H1 v S1 F1 r1 p1 => ?_
  cases r1 with
  | lst hx rx => exact ⟨_, _, rfl, sqlv hx, fun q hq => p1.grown S1 (Ex.new hq) (.lst (S1.view_new hq) (rx.revC.mono (Pre.refl _) (view_ex (Ex.new hq))))⟩
  | scr hx rx => exact ⟨_, _, rfl, sql_ex (view_le _ _ _ _) hx, fun q hq => p1.grown S1 (Ex.new hq) (.lst (S1.view_new hq) (rx.revC.mono (Pre.refl _) (view_ex (Ex.new hq))))⟩
  | _ => exact p1.elim
section
variable {ct : String → Addr} {X : Cx} {W : WX} {e : Expr} {te : TE} {me : EM}
theorem e_revSl {k : Nat} {p1 p2 p3 pos : Pos} (h : PEM ct X W e te me) : PEM ct X W (.Subscript e (.Slice none none (some (.UnaryOp .USub (.Constant (.int 1) k p1) p2)) p3) pos) (tRevL X.K te) (mUn oRevSl me) := ⟨pe_revL h.pe, sim_revSl h.sim⟩
end
/-! ## a comprehension over a live list, frozen; a loop over a live list that leaves -/
section
variable {ct : String → Addr} {X : Cx} {W : WX} {e : Expr} {te : TE} {m : LM}
theorem e_frz (h : PNM ct X W e te m) : PEM ct X W e te (mFrz m) := ⟨h.pe, sim_frz h.sim⟩
end
section
variable {ct : String → Addr} {X : Cx} {W : WX} {scope : Scope} {elt tg iter : Expr} {ifs : List Expr} {t0 : TE} {m0 : EM} {mg : GM} {me : EM} {mt : TM} {ts : List Nat}
theorem s_setLcL (i : Nat) {own : List (Str × Nat)} {y : Str} {py : Pos} {pos spos : Pos}
    (hN : X.N.Nodup) (hi : PEM ct X W iter t0 m0) (ok : BlkOk X.N X.env.scope scope own)
    (hg : ∀ s H C cl fp, ∃ g, PGM ct (blkX X scope s H C cl fp) tg ts g mg) (ht : ∀ s H C cl fp, ∃ te, PQM ct (blkX X scope s H C cl fp) W0 ifs te mt)
    (he : ∀ s H C cl fp, ∃ te, PEM ct (blkX X scope s H C cl fp) W0 elt te me) (hc : X.calm = true := by rfl) (hts : ∀ i ∈ ts, i ∈ own.map (·.2) := by decide) (hs : ∀ x, foldedSetIterable iter X.env x = pure x := by intro _; rfl)
    (hy : X.N[i]? = some y := by rfl) (hyl : X.env.scope.names.lookup y = some .local := by rfl) (hk : X.env.scope.kind = .function := by rfl) (hl : (py.line == pos.line) = true := by rfl) (ha : (scope.names.any fun (n, k) => n == y && (k == .local || k == .cell)) = false := by rfl) :
    PSM ct X W (.Assign [.Name y py] (.ListComp elt [⟨tg, iter, ifs, 0⟩] scope pos) spos) (tAsg (tLc (iList X.K t0) (gAll ct X scope tg ts mg) (qAll ct X scope ifs mt) (eAll ct X scope elt me) (own.map (·.2))) (gName i)) (mAsg (gSet i) (mFrz (mLcLL m0 (own.map (·.2)) mg mt me))) :=
  ⟨ps_setLc hc hN hy hyl (sw_true hk hyl hl ha) (pi_list hi.pe) ok (gAll_pe hg) (qAll_pe ht) (eAll_pe he) hs,
   ss_asg (sim_frz (sf_lcL hi.sim gAll_sim qAll_sim eAll_sim hts)) (sg_name i)⟩
end
theorem forML_all {g : GM} {b : SM} {n : Nat} {all : List MV} (St : List MV → MS → Prop) (hS : ∀ xs s, St xs s → s.G[n]? = some (.lst all)) : ∀ (xs : List MV) (s : MS), St xs s →
    (∀ x xs s, St (x :: xs) s → ∃ s1, g x s = some s1 ∧ ((∃ s2, b s1 = .ok .nx s2 ∧ St xs s2))) → ∃ s', forML g b n all xs s = .ok .nx s' ∧ St [] s'
  | [], s, h, _ => ⟨s, by simp only [forML, hS _ s h, if_true], h⟩
  | x :: xs, s, h, t => by
    obtain ⟨s1, h1, s2, h2, h3⟩ := t x xs s h
    obtain ⟨s', h4, h5⟩ := forML_all St hS xs s2 h3 t
    refine ⟨s', ?_, h5⟩
    simp only [forML, hS _ s h, if_true, h1, h2]
    exact h4
theorem forML_find {α : Type} {g : GM} {b : SM} {n : Nat} {all : List MV} (e : α → MV) (q : α → Bool) (v : α → MV) (St : MS → Prop) (hS : ∀ s, St s → s.G[n]? = some (.lst all)) : ∀ (xs : List α) (s : MS), St s →
    (∀ x ∈ xs, ∀ s, St s → q x = false → ∃ s1 s2, g (e x) s = some s1 ∧ b s1 = .ok .nx s2 ∧ St s2) → (∀ x ∈ xs, ∀ s, St s → q x = true → ∃ s1 s2, g (e x) s = some s1 ∧ b s1 = .ok (.rt (v x)) s2 ∧ St s2) →
    (xs.find? q = none ∧ ∃ s', forML g b n all (xs.map e) s = .ok .nx s' ∧ St s') ∨ (∃ x, xs.find? q = some x ∧ ∃ s', forML g b n all (xs.map e) s = .ok (.rt (v x)) s' ∧ St s')
  | [], s, h, _, _ => .inl ⟨rfl, s, by simp only [List.map_nil, forML, hS s h, if_true], h⟩
  | x :: xs, s, h, t1, t2 => by
    cases hq : q x with
    | false =>
      obtain ⟨s1, s2, h1, h2, h3⟩ := t1 x List.mem_cons_self s h hq
      have step : forML g b n all ((x :: xs).map e) s = forML g b n all (xs.map e) s2 := by
        rw [List.map_cons]
        conv => lhs; unfold forML
        simp only [hS s h, if_true, h1, h2]
      rw [step, List.find?_cons, hq]
      exact forML_find e q v St hS xs s2 h3 (fun y hy => t1 y (List.mem_cons_of_mem _ hy)) fun y hy => t2 y (List.mem_cons_of_mem _ hy)
    | true =>
      obtain ⟨s1, s2, h1, h2, h3⟩ := t2 x List.mem_cons_self s h hq
      refine .inr ⟨x, by rw [List.find?_cons, hq], s2, ?_, h3⟩
      rw [List.map_cons]
      unfold forML
      simp only [hS s h, if_true, h1, h2]
theorem lcML_opt {α : Type} {g : GM} {t : TM} {e : EM} {vs : List Nat} {E0 : List SV} {n : Nat} {all : List MV} {G : MHeap} (hG : G[n]? = some (.lst all)) (i : α → MV) (f : α → Option MV) : ∀ (xs : List α) (acc : List MV), (∀ x ∈ xs, ∃ s, lcOne g t e vs E0 (i x) G = .ok (f x) s ∧ s.G = G) → lcML g t e vs E0 n all (xs.map i) acc G = .ok (acc ++ xs.filterMap f) ⟨E0, G⟩
  | [], acc, _ => by rw [List.map_nil, lcML, if_pos hG]; simp
  | x :: xs, acc, h => by
    obtain ⟨s, h1, h2⟩ := h x (by simp)
    rw [List.map_cons, lcML, if_pos hG, h1]
    cases hf : f x with
    | none =>
      simp only
      rw [h2, lcML_opt hG i f xs acc (fun y hy => h y (by simp [hy])), List.filterMap_cons, hf]
    | some z =>
      simp only
      rw [h2, lcML_opt hG i f xs (acc ++ [z]) (fun y hy => h y (by simp [hy])), List.filterMap_cons, hf]
      simp
theorem lcEndFL_test {α : Type} {g : GM} {t : TM} {el : EM} {vs : List Nat} {n : Nat} {xs : List α} {s : MS} (e f : α → MV) (p : α → Bool) (hG : s.G[n]? = some (.lst (xs.map e))) (hl : xs.length ≤ 16777216) (hn : noOw s.env vs = true)
    (h : ∀ x ∈ xs, ∃ s', lcOne g t el vs (wipeE s.env vs) (e x) s.G = .ok (if p x = true then some (f x) else none) s' ∧ s'.G = s.G) : lcEndFL g t el vs n (xs.map e) s = .ok (.lst ((xs.filter p).map f)) s := by
  unfold lcEndFL
  rw [if_pos (show lim _ by unfold lim; rw [List.length_map]; exact hl), if_pos hn, lcML_opt hG e (fun x => if p x = true then some (f x) else none) xs [] h, List.nil_append]
  have q : ∀ l : List α, l.filterMap (fun x => if p x = true then some (f x) else none) = (l.filter p).map f := by
    intro l
    induction l with
    | nil => rfl
    | cons a l ih =>
      rw [List.filterMap_cons, List.filter_cons]
      by_cases c : p a = true
      · simp only [c, if_true, List.map_cons, ih]
      · simp only [c, Bool.false_eq_true, if_false, ih]
  rw [q]
theorem forML_fold {α σ : Type} {g : GM} {b : SM} {n : Nat} {all : List MV} (e : α → MV) (f : σ → α → σ) (St : σ → MS → Prop) (hS : ∀ a s, St a s → s.G[n]? = some (.lst all)) : ∀ (xs : List α) (a : σ) (s : MS), St a s →
    (∀ x ∈ xs, ∀ a s, St a s → ∃ s1 s2, g (e x) s = some s1 ∧ b s1 = .ok .nx s2 ∧ St (f a x) s2) → ∃ s', forML g b n all (xs.map e) s = .ok .nx s' ∧ St (xs.foldl f a) s'
  | [], a, s, h, _ => ⟨s, by simp only [List.map_nil, forML, hS a s h, if_true], h⟩
  | x :: xs, a, s, h, t => by
    obtain ⟨s1, s2, h1, h2, h3⟩ := t x List.mem_cons_self a s h
    obtain ⟨s', h4, h5⟩ := forML_fold e f St hS xs (f a x) s2 h3 fun y hy => t y (List.mem_cons_of_mem _ hy)
    refine ⟨s', ?_, h5⟩
    simp only [List.map_cons, forML, hS a s h, if_true, h1, h2]
    exact h4
theorem ap0 {α : Type} (B : List α) (x y : α) : (B ++ [x, y])[B.length]? = some x := by rw [List.getElem?_append_right (Nat.le_refl _), Nat.sub_self]; rfl
theorem ap1 {α : Type} (B : List α) (x y : α) : (B ++ [x, y])[B.length + 1]? = some y := by rw [List.getElem?_append_right (by omega), show B.length + 1 - B.length = 1 by omega]; rfl
theorem apl {α : Type} {B : List α} {n : Nat} {z : α} (D : List α) (h : B[n]? = some z) : (B ++ D)[n]? = some z := by rw [List.getElem?_append_left (List.getElem?_eq_some_iff.mp h).1, h]
theorem st0 {α : Type} (B : List α) (x y z : α) : (B ++ [x, y]).set B.length z = B ++ [z, y] := by rw [List.set_append_right _ _ (Nat.le_refl _), Nat.sub_self]; rfl
theorem st1 {α : Type} (B : List α) (x y z : α) : (B ++ [x, y]).set (B.length + 1) z = B ++ [x, z] := by rw [List.set_append_right _ _ (by omega), show B.length + 1 - B.length = 1 by omega]; rfl
theorem a00 {α : Type} (B : List α) (x : α) : (B ++ [x])[B.length]? = some x := by rw [List.getElem?_append_right (Nat.le_refl _), Nat.sub_self]; rfl
theorem s00 {α : Type} (B : List α) (x z : α) : (B ++ [x]).set B.length z = B ++ [z] := by rw [List.set_append_right _ _ (Nat.le_refl _), Nat.sub_self]; rfl
end M

namespace M
open PySem L2 PyProof.Rows
open Classical
/-! ## equality of data with live lists in live lists -/
mutual
def toGr (f : Nat → Option PyData) : MV → Option PyData
  | .non => some .none
  | .bl b => some (.bool b)
  | .int i => some (.int i)
  | .str s => some (.str s)
  | .tup xs => (toGrs f xs).map .tuple
  | .lst xs => (toGrs f xs).map .list
  | .scr xs => (toGrs f xs).map .list
  | .obj _ _ _ => none
  | .ref n => f n
  | .err _ => none
  | .dic => none
def toGrs (f : Nat → Option PyData) : List MV → Option (List PyData)
  | [] => some []
  | x :: xs => match toGr f x, toGrs f xs with
    | some d, some ds => some (d :: ds)
    | _, _ => none
end
def refD (G : MHeap) : Nat → Nat → Option PyData
  | 0, _ => none
  | k + 1, n => (match G[n]? with
    | some (.lst xs) => (toGrs (refD G k) xs).map .list
    | _ => none)
def toH (G : MHeap) : MV → Option PyData := toGr (refD G 4)
noncomputable def oEqH : MV → MV → EM := fun x y s => match toH s.G x, toH s.G y with
  | some d, some e => if SeqAt.shaped d = true ∧ SeqAt.shaped e = true then .ok (.bl (PyData.eqv d e)) s else .stuck
  | _, _ => .stuck
noncomputable def oNeH : MV → MV → EM := fun x y s => match toH s.G x, toH s.G y with
  | some d, some e => if SeqAt.shaped d = true ∧ SeqAt.shaped e = true then .ok (.bl (!PyData.eqv d e)) s else .stuck
  | _, _ => .stuck
section
variable {K : KA} {X : Addr → Prop} {ρ : List Addr} {O : Nat → Option Addr} {s : MS} {σ : L2.St} {H : Hp}
mutual
theorem toGr_dp {f : Nat → Option PyData} (hf : ∀ n a d, ρ[n]? = some a → f n = some d → Dp K.F H (.ref a) d) : ∀ {x : MV} {v : V} {d : PyData}, Rep ρ K (view X ρ O H) x v → toGr f x = some d → Dp K.F H v d
  | _, _, _, .non, h => by simp only [toGr] at h; cases h; exact .non
  | _, _, _, .bl b, h => by simp only [toGr] at h; cases h; exact .bl b
  | _, _, _, .int i, h => by simp only [toGr] at h; cases h; exact .int i
  | _, _, _, .str s, h => by simp only [toGr] at h; cases h; exact .str s
  | .tup xs, _, d, .tup hs r, h => by
    rw [toGr] at h
    obtain ⟨ds, h1, rfl⟩ := Option.map_eq_some_iff.mp h
    exact .tup (sqt_ex (view_le _ _ _ _) hs) (toGrs_dp hf r h1)
  | .lst xs, _, d, .lst hs r, h => by
    rw [toGr] at h
    obtain ⟨ds, h1, rfl⟩ := Option.map_eq_some_iff.mp h
    exact .lst (sqlv hs) (toGrs_dp hf r h1)
  | .scr xs, _, d, .scr hs r, h => by
    rw [toGr] at h
    obtain ⟨ds, h1, rfl⟩ := Option.map_eq_some_iff.mp h
    exact .lst (sql_ex (view_le _ _ _ _) hs) (toGrs_dp hf r h1)
  | _, _, _, .obj _ _ _, h => by simp only [toGr] at h; cases h
  | .ref n, _, d, .ref hn, h => by
    rw [toGr] at h
    exact hf _ _ _ hn h
  | _, _, _, .err _, h => by simp only [toGr] at h; cases h
  | _, _, _, .dic _, h => by simp only [toGr] at h; cases h
theorem toGrs_dp {f : Nat → Option PyData} (hf : ∀ n a d, ρ[n]? = some a → f n = some d → Dp K.F H (.ref a) d) : ∀ {x : List MV} {v : List V} {d : List PyData}, Reps ρ K (view X ρ O H) x v → toGrs f x = some d → DpAll K.F H v d
  | _, _, _, .nil, h => by simp only [toGrs] at h; cases h; exact .nil
  | x :: xs, _, d, .cons r t, h => by
    rw [toGrs] at h
    cases e1 : toGr f x with
    | none => simp only [e1] at h; cases h
    | some d1 =>
      cases e2 : toGrs f xs with
      | none => simp only [e1, e2] at h; cases h
      | some d2 =>
        simp only [e1, e2] at h
        cases h
        exact .cons (toGr_dp hf r e1) (toGrs_dp hf t e2)
end
theorem refD_dp (S : SR K X ρ O s σ H) : ∀ (k n : Nat) (a : Addr) (d : PyData), ρ[n]? = some a → refD s.G k n = some d → Dp K.F H (.ref a) d
  | 0, n, a, d, _, h => by cases h
  | k + 1, n, a, d, hn, h => by
    unfold refD at h
    cases g : s.G[n]? with
    | none => simp only [g] at h; cases h
    | some o => cases o with
      | ins c ks vs => simp only [g] at h; cases h
      | dic ms => simp only [g] at h; cases h
      | lck od fs ms => simp only [g] at h; cases h
      | lst ms =>
        simp only [g] at h
        obtain ⟨ds, h1, rfl⟩ := Option.map_eq_some_iff.mp h
        obtain ⟨us, hx, rx⟩ := S.refL hn g
        exact .lst (sqlh hx) (toGrs_dp (refD_dp S k) rx h1)
theorem toH_dp (S : SR K X ρ O s σ H) {x : MV} {v : V} {d : PyData} (r : Rep ρ K (view X ρ O H) x v) (h : toH s.G x = some d) : Dp K.F H v d := toGr_dp (refD_dp S 4) r h
end
theorem so_eqH {K : KA} : SimOp K (rEqD K.F) oEqH := by
  intro X W ρ O s σ H x y v u Q S rx ry p
  unfold oEqH at p
  cases e1 : toH s.G x with
  | none => simp only [e1] at p; exact p.elim
  | some d =>
    cases e2 : toH s.G y with
    | none => simp only [e1, e2] at p; exact p.elim
    | some e =>
      simp only [e1, e2] at p
      by_cases h : SeqAt.shaped d = true ∧ SeqAt.shaped e = true
      · rw [if_pos h] at p
        exact ⟨d, e, toH_dp S rx e1, toH_dp S ry e2, h.1, h.2, p.done S (.bl _)⟩
      · rw [if_neg h] at p; exact p.elim
theorem so_neH {K : KA} : SimOp K (rNeD K.F) oNeH := by
  intro X W ρ O s σ H x y v u Q S rx ry p
  unfold oNeH at p
  cases e1 : toH s.G x with
  | none => simp only [e1] at p; exact p.elim
  | some d =>
    cases e2 : toH s.G y with
    | none => simp only [e1, e2] at p; exact p.elim
    | some e =>
      simp only [e1, e2] at p
      by_cases h : SeqAt.shaped d = true ∧ SeqAt.shaped e = true
      · rw [if_pos h] at p
        exact ⟨d, e, toH_dp S rx e1, toH_dp S ry e2, h.1, h.2, p.done S (.bl _)⟩
      · rw [if_neg h] at p; exact p.elim
/-- the same data on both sides -/
theorem oEqH_refl {x y m : MV} {s : MS} (hm : Shp 64 m) (h1 : toH s.G x = toD m) (h2 : toH s.G y = toD m) : oEqH x y s = .ok (.bl true) s := by
  obtain ⟨d, g1, g2, g3⟩ := hm.shaped
  unfold oEqH
  rw [h1, h2, g1]
  simp only [g2, and_self, if_true, g3]
theorem oNeH_refl {x y m : MV} {s : MS} (hm : Shp 64 m) (h1 : toH s.G x = toD m) (h2 : toH s.G y = toD m) : oNeH x y s = .ok (.bl false) s := by
  obtain ⟨d, g1, g2, g3⟩ := hm.shaped
  unfold oNeH
  rw [h1, h2, g1]
  simp only [g2, and_self, if_true, g3, Bool.not_true]
mutual
theorem toGr_D (f : Nat → Option PyData) : ∀ (m : MV) (d : PyData), toD m = some d → toGr f m = some d
  | .non, _, h => h
  | .bl _, _, h => h
  | .int _, _, h => h
  | .str _, _, h => h
  | .tup xs, d, h => by
    rw [toD] at h
    obtain ⟨ds, h1, rfl⟩ := Option.map_eq_some_iff.mp h
    rw [toGr, toGrs_D f xs ds h1]; rfl
  | .lst xs, d, h => by
    rw [toD] at h
    obtain ⟨ds, h1, rfl⟩ := Option.map_eq_some_iff.mp h
    rw [toGr, toGrs_D f xs ds h1]; rfl
  | .scr xs, d, h => by
    rw [toD] at h
    obtain ⟨ds, h1, rfl⟩ := Option.map_eq_some_iff.mp h
    rw [toGr, toGrs_D f xs ds h1]; rfl
  | .obj _ _ _, _, h => by rw [toD] at h; cases h
  | .ref _, _, h => by rw [toD] at h; cases h
  | .err _, _, h => by rw [toD] at h; cases h
  | .dic, _, h => by rw [toD] at h; cases h
theorem toGrs_D (f : Nat → Option PyData) : ∀ (ms : List MV) (ds : List PyData), toDs ms = some ds → toGrs f ms = some ds
  | [], _, h => h
  | m :: ms, ds, h => by
    rw [toDs] at h
    cases e1 : toD m with
    | none => simp only [e1] at h; cases h
    | some d1 =>
      cases e2 : toDs ms with
      | none => simp only [e1, e2] at h; cases h
      | some d2 =>
        simp only [e1, e2] at h
        cases h
        rw [toGrs, toGr_D f m d1 e1, toGrs_D f ms d2 e2]
end
end M

namespace M
open PySem L2 PyProof.Rows
theorem walk_X {b : SM} {n : Nat} (hrun : ∀ ns : List Int, ns.length ≤ 63 → (∀ z ∈ ns, Builtin.Int.intBits z ≤ 1048576) → ∃ G', runB b n [.scr (ns.map MV.int)] [] = .ok (.bl true) G') {l : PySem.W.OpenLaw} {k m : Nat} {q : Program} {loose : List Str} {XP : (Str → Option Value) → Heap → Prop} {d : DefRec} {x : Str} {fa : List FF} {fn : List He.FnD}
    (hn : l.most = some 63) (hdf : d.params.defaults = []) (hr : Room k callerA)
    (F : ∀ (w : World) (mg : Str → Option Value) (f : Addr) (h : Heap) (K : PySem.W.Frag), K.In h → SaysX fa fn K → h.Ns mainGlobals mg → mg d.name = some (.ref f) →
      ∃ fd : FuncData, (∀ (s : Shared) (u : Value), BindsTo s fd ⟨[u], []⟩ [(x, u)]) ∧
        ∀ base : Heap, K.In base → base.Ns mainGlobals mg → FnOk l.prog w K mg base (L2.CX l.prog w) k f fd [x] (spM ⟨K, ctOf K⟩ (fnLaw b n))) :
    PySem.W.WalkO q loose XP (hookX m fa fn).says l.row.toRowW d [] (fun f vs => PySem.call f vs) := by
  refine Att.attach_callB hn hdf fun w s₀ s₁ mg mb f o pm cd doc a vs ns G Y ho hd hcd hmg hobj hints hlen hbits hg => ?_
  obtain ⟨K, KX, c⟩ := Y
  obtain ⟨fd, hb, hF⟩ := F w mg f _ K KX c G.T.g hmg
  exact law_call KX G.T.g G.T.b G.T.builtins G.T.nolimit hg hobj hints (Nat.le_trans hlen (by decide)) hr hF hb (fun H hO hS => law_sp hrun hlen hbits hS) fun H e s' h => by
    obtain ⟨_, _, _, _, _, _, _, _, _, _, _, _, z⟩ := h
    exact z
/-- a comprehension in a comprehension -/
theorem relabel_look {env : Env} {x : Str} : ∀ {names : List (Str × NameKind)}, (names.lookup x = some .cell ∨ names.lookup x = some .free) →
    (names.map fun (n, k) => if (k == NameKind.free && env.scope.kind == .function && env.kindOf n == some .cell) then (n, NameKind.cell) else (n, k)).lookup x = some .cell ∨ (names.map fun (n, k) => if (k == NameKind.free && env.scope.kind == .function && env.kindOf n == some .cell) then (n, NameKind.cell) else (n, k)).lookup x = some .free
  | [], h => by simp at h
  | (n, k) :: r, h => by
    rw [List.map_cons]
    dsimp only
    cases hx : x == n with
    | true =>
      simp only [List.lookup_cons, hx, Option.some.injEq] at h
      by_cases hc : (k == NameKind.free && env.scope.kind == .function && env.kindOf n == some .cell) = true
      · rw [if_pos hc]; exact .inl (by simp only [List.lookup_cons, hx])
      · rw [if_neg hc]; simp only [List.lookup_cons, hx, Option.some.injEq]; exact h
    | false =>
      simp only [List.lookup_cons, hx] at h
      have ih := relabel_look (env := env) h
      by_cases hc : (k == NameKind.free && env.scope.kind == .function && env.kindOf n == some .cell) = true
      · rw [if_pos hc]; simp only [List.lookup_cons, hx]; exact ih
      · rw [if_neg hc]; simp only [List.lookup_cons, hx]; exact ih
theorem blkOk_n {X : Cx} {scope sc2 : Scope} {s : Shared} {H : Hp} {C : Addr} {cl : List (Str × Addr)} {fp : List Addr} {own : List (Str × Nat)} (h : BlkOk X.N scope sc2 own) : BlkOk (blkX X scope s H C cl fp).N (blkX X scope s H C cl fp).env.scope sc2 own :=
  ⟨h.kind, h.uniq, h.ix, fun y hy e => relabel_look (h.free y hy e), h.own⟩
end M

namespace M
open PySem L2 PyProof.Rows
open Classical

/-! ## a try whose suite raises another one -/
/-- a function where it raises nothing -/
def noexc (fn : FM) : FM := fun ms G => match fn ms G with
  | .ok x G' => .ok x G'
  | _ => .stuck
theorem noexc_ok {fn : FM} {ms : List MV} {G G' : MHeap} {x : MV} (h : fn ms G = .ok x G') : noexc fn ms G = .ok x G' := by unfold noexc; rw [h]
section
variable {K : KA} {W : WX}
theorem noexc_spM {fn : FM} {vs : List V} {H : Hp} {Q : VK} {E : XK} (h : spM K (noexc fn) vs H Q E) : spM K fn vs H Q E := by
  obtain ⟨X, ρ, G, ms, S, r, p⟩ := h
  refine ⟨X, ρ, G, ms, S, r, ?_⟩
  unfold noexc at p
  cases e : fn ms G with
  | ok x G' => rw [e] at p; exact p
  | exc c G' => rw [e] at p; exact p.elim
  | stuck => rw [e] at p; exact p.elim
theorem sim_callQ {ta : TA} {ma : AM} {fn : FM} (h : SimA K W ta ma) : SimE K W (tCallS (spM K (noexc fn)) (fun _ _ _ _ => False) ta) (mCall (noexc fn) ma) := by
  intro X ρ O s σ H Q S p
  refine h.bindE S p fun x s1 ρ1 O1 H1 v S1 F1 r1 p1 => ?_
  refine ⟨XO X O1, ρ1, s1.G, x, S1.toCall, by rw [view_XO]; exact r1, ?_⟩
  have q := post_call S1 p1
  unfold noexc at q ⊢
  cases e : fn x s1.G with
  | ok y G' => rw [e] at q; exact q
  | exc c G' => rw [e] at q; exact q.elim
  | stuck => rw [e] at q; exact q.elim
end
section
variable {ct : String → Addr} {X : Cx} {W : WX} {e : Expr} {es : List Expr} {mr : AM} {p pos : Pos} {k : Nat} {fn : FM} {x : Str} {tr : TA}
theorem e_fnQ (I : FnI ct X.prog X.w X.K X.mg X.base x k fn) (hr : Room k X.A)
    (ha : PAM ct X W (e :: es) tr mr) (hg : Gl X x := by rfl) (hdb : (x == ("__debug__" : Str)) = false := by decide) (he : starEach (e :: es) X.env = (false, eval e X.env) :: starEach es X.env := by rfl) (hpl : (backTo pos (starEach es X.env)).any (·.1) = false := by rfl) :
    PEM ct X W (.Call (.Name x p) (e :: es) [] pos) (tCallS (spM ⟨X.K, ct⟩ (noexc fn)) (fun _ _ _ _ => False) tr) (mCall (noexc fn) mr) := by
  obtain ⟨f, fd, ps, F, hm, hk, hb⟩ := I.ex
  have F' : FnOk X.prog X.w X.K X.mg X.base (L2.CX X.prog X.w) k f fd ps (spM ⟨X.K, ct⟩ (noexc fn)) := F.imp fun vs H Q E h => noexc_spM h
  exact ⟨pe_callS F' hr hg hm hk hb (fun σ _ _ _ _ _ _ c => by obtain ⟨_, _, _, _, _, _, _, _, _, _, _, _, z⟩ := c; exact z.elim) ha.pe hdb he hpl, sim_callQ ha.sim⟩
/-- a def whose exceptions have no other one behind them -/
structure FnIN (ct : String → Addr) (P : Program) (w : World) (K : PySem.W.Frag) (mg : Str → Option Value) (base : Heap) (x : Str) (k : Nat) (fn : FM) : Prop where
  ex : ∃ f fd ps, FnOk P w K mg base (L2N.CX P w) k f fd ps (spM ⟨K, ct⟩ fn) ∧ mg x = some (.ref f) ∧ PySem.W.keepIn K (.ref f) = true ∧ Binds K fd ps []
theorem e_fnN (I : FnIN ct X.prog X.w X.K X.mg X.base x k fn) (hr : Room k X.A) (tk : L2N.Takes X W)
    (ha : PAM ct X W (e :: es) tr mr) (hg : Gl X x := by rfl) (hdb : (x == ("__debug__" : Str)) = false := by decide) (he : starEach (e :: es) X.env = (false, eval e X.env) :: starEach es X.env := by rfl) (hpl : (backTo pos (starEach es X.env)).any (·.1) = false := by rfl) :
    PEM ct X W (.Call (.Name x p) (e :: es) [] pos) (tCallS (spM ⟨X.K, ct⟩ fn) (WE W) tr) (mCall fn mr) := by
  obtain ⟨f, fd, ps, F, hm, hk, hb⟩ := I.ex
  exact ⟨pe_callS F hr hg hm hk hb (fun σ _ _ _ e s' I c => tk e s' (L2N.XE.of_call I (fun _ _ _ h => h) c)) ha.pe hdb he hpl, sim_call ha.sim⟩
theorem s_raiseN {c : String} {m : Str} {j : Nat} {p2 rpos : Pos} (I : RaiI ct X.K X.mg c x) (tk : L2N.Takes X W) (hc : X.calm = true := by rfl) (hg : Gl X x := by rfl) (hdb : (x == ("__debug__" : Str)) = false := by decide) :
    PSM ct X W (.Raise (some (.Call (.Name x p) [.Constant (.str m) j p2] [] pos)) none rpos) (fun _ σ H => W (.ref (ct c)) none σ H) (mRaise c) :=
  ⟨L2N.ps_raise hc tk (L2N.pmk_own PySem.F.excBase_ValueError I.q I.gC I.kC (raises_own I.b I.t) hg hdb), fun X ρ O s σ H D S p => p ρ O σ H S Fut.refl⟩
end
/-- from a body to its function, the exceptions with none behind -/
theorem fnMN {P : Program} {w : World} {K : PySem.W.Frag} (ct : String → Addr) {mg : Str → Option Value} {base : Heap} {x qual : Str} {st : Stmt} {f : Addr} {fd : FuncData} {N ps : List Str} {k : Nat} (fn : FM) (F : Fun K x qual st f fd) (Sc : FnScope N ps (defScope st))
    (len : ∀ ms G, fn ms G ≠ .stuck → ms.length = ps.length) (b : SM)
    (hb : ∀ (cdv : Value) (A : Around) (outer : List Env) (s : Shared) (H : Hp) (E : XK), Room k (A.deeper (PyProof.Rows.envOfC qual (defScope st) s.heap.objs.size f cdv)) →
      ∃ t, PSsM ct (cxOf (L2N.CX P w) P w K mg base N qual (defScope st) f cdv A outer s H E) (fun cls d _ H => E cls d H) (defBody st) t b)
    (hm : ∀ ms G, fn ms G ≠ .stuck → runB b N.length ms G = fn ms G) : FnOk P w K mg base (L2N.CX P w) (k + 1) f fd ps (spM ⟨K, ct⟩ fn) := by
  obtain ⟨oc, od, kV, doc, pm, an, cdv, cty, osl, rfl, lk, hcd⟩ := F.ex
  refine fn_of lk hcd Sc (fun vs H Q E h => ?_) (fun A outer s H vs Q E hr h => ?_)
  · obtain ⟨X, ρ, G, ms, S, r, p⟩ := h
    rw [← r.length]
    refine len ms G fun e => ?_
    rw [e] at p
    exact p.elim
  · obtain ⟨t, D⟩ := hb cdv A outer s H E hr
    refine ⟨t, D.pe, ?_⟩
    obtain ⟨X, ρ, G, ms, S, r, p⟩ := h
    have hne : fn ms G ≠ .stuck := fun e => by rw [e] at p; exact p.elim
    have e := hm ms G hne
    refine D.sim X ρ O0 ⟨env0 N.length ms, G⟩ (L2.start N vs) H _ (S.enter r) ?_
    unfold runB toRF at e
    cases eb : b ⟨env0 N.length ms, G⟩ with
    | ok f s' =>
      rw [eb] at e
      cases f with
      | nx =>
        rw [← e] at p
        intro ρ' O' σ' H' S' F'
        exact p ρ' H' .non S'.drop (F'.trans fut_drop) .non
      | rt x =>
        rw [← e] at p
        intro ρ' O' σ' H' v S' F' r'
        exact p ρ' H' v S'.drop (F'.trans fut_drop) (fut_drop.rep r')
      | bk => exact absurd e.symm hne
      | ct => exact absurd e.symm hne
    | exc c s' =>
      rw [eb] at e
      rw [← e] at p
      intro ρ' O' σ' H' S' F'
      exact p ρ' H' S'.drop (F'.trans fut_drop)
    | stuck => rw [eb] at e; exact absurd e.symm hne
/-! ### the machine's step -/
def mTryR (cs : List (String × Bool)) (c2 : String) (b : SM) : SM := fun s => match b s with
  | .exc c s1 => (match cs.lookup c with
    | some true => .exc c2 s1
    | some false => .exc c s1
    | none => .stuck)
  | r => r
theorem mTryR_ok {cs : List (String × Bool)} {c2 : String} {b : SM} {s s1 : MS} {x : Fl} (h : b s = .ok x s1) : mTryR cs c2 b s = .ok x s1 := by unfold mTryR; rw [h]
theorem mTryR_exc {cs : List (String × Bool)} {c c2 : String} {b : SM} {s s1 : MS} (h : b s = .exc c s1) (hc : cs.lookup c = some true) : mTryR cs c2 b s = .exc c2 s1 := by
  unfold mTryR; rw [h]; simp only [hc]
section
variable {K : KA} {W : WX} {mb : SM} {C : String} {cs : List (String × Bool)} {c2 : String}
theorem ss_tryR (hc : ∀ p ∈ cs, PySem.W.exmOne K.F (.ref (K.ct p.1)) (.ref (K.ct C)) = some p.2) :
    SimS K W (fun D σ H => ∀ tb, SimS K (wOnly K.F (.ref (K.ct C)) (fun _ _ _ _ σ H => W (.ref (K.ct c2)) none σ H) W D) tb mb → tb D σ H) (mTryR cs c2 mb) := by
  intro X ρ O s σ H D S p tb z
  refine z X ρ O s σ H D S ?_
  unfold mTryR at p
  cases e : mb s with
  | ok x s1 => rw [e] at p; cases x <;> exact p
  | stuck => rw [e] at p; exact p.elim
  | exc c s1 =>
    rw [e] at p
    simp only at p
    intro ρ1 O1 σ1 H1 S1 F1
    cases e1 : cs.lookup c with
    | none => rw [e1] at p; exact p.elim
    | some b =>
      rw [e1] at p
      cases b with
      | false => exact ⟨false, hc _ (lookup_mem e1), (fun q => Bool.noConfusion q), fun _ => p ρ1 O1 σ1 H1 S1 F1⟩
      | true => exact ⟨true, hc _ (lookup_mem e1), fun _ a na => p ρ1 O1 σ1 H1 S1 F1, (fun q => Bool.noConfusion q)⟩
end
section
variable {ct : String → Addr} {X : Cx} {W : WX} {x x2 m : Str} {C c2 : String} {cs : List (String × Bool)} {body : List Stmt} {j : Nat} {np pos pos' p p2 p3 p4 : Pos} {mb : SM}
theorem s_tryR (I : CatI ct X.K X.mg x C cs) (R : RaiI ct X.K X.mg c2 x2) (tk : Takes X W) (hpa : ∀ hd : Option Value, PassesOwnAt (model X.prog X.w) (X.A.mark hd) X.A X.env X.xe)
    (hb : ∀ (W : WX) (pn : List (Addr × Obj)) (xe : Value → Shared → Prop), L2N.Takes (X.tr pn xe) W → PassesOwn (model X.prog X.w) X.A X.env xe → ∃ tb, PSsM ct (X.tr pn xe) W body tb mb)
    (hs : X.stack = X.env :: X.outer := by rfl) (hf : X.env.frame = some X.env.locals := by rfl) (hg : Gl X x := by rfl) (hdb : (x == ("__debug__" : Str)) = false := by decide) (hg2 : Gl X x2 := by rfl) (hdb2 : (x2 == ("__debug__" : Str)) = false := by decide) :
    PSM ct X W (.Try body [.ExceptHandler (some (.Name x np)) none [.Raise (some (.Call (.Name x2 p) [.Constant (.str m) j p2] [] p3)) none p4] pos'] [] [] pos)
      (fun D σ H => ∀ tb, SimS ⟨X.K, ct⟩ (wOnly X.K (.ref (ct C)) (fun _ _ _ _ σ H => W (.ref (ct c2)) none σ H) W D) tb mb → tb D σ H) (mTryR cs c2 mb) :=
  ⟨L2H.ps_try_onlyX (tb := fun W D σ H => ∀ tb, SimS ⟨X.K, ct⟩ W tb mb → tb D σ H) (ts := fun _ _ _ _ σ H => W (.ref (ct c2)) none σ H) hs hf ⟨hg, hdb, .inl I.gm⟩ hpa tk (fun W pn xe tkN _ ps => by
      obtain ⟨tb, P⟩ := hb W pn xe tkN ps
      exact ⟨fun pins s σ H D Iv h => P.pe.run pins s σ H D Iv (h tb P.sim)⟩) (fun a oe cls d pn _ _ tkS hot =>
      pss_one (L2H.ps_raiseH (X := L2H.suiteX X a ((a, oe) :: pn)) hot tkS (L2N.pmk_own (X := L2H.suiteX X a ((a, oe) :: pn)) PySem.F.excBase_ValueError R.q R.gC R.kC (raises_own R.b R.t) hg2 hdb2))),
    ss_tryR (K := ⟨X.K, ct⟩) I.all⟩
end
end M

namespace M
open PySem PySem.Spec L2 PyProof.Rows
open Classical

/-! ## live dicts: isinstance, len, sorted; min and max of a list; a walk over an empty dict's items -/
def tyH (G : MHeap) : MV → Option String
  | .ref n => (match G[n]? with
    | some (.lst _) => some "list"
    | some (.dic _) => some "dict"
    | _ => none)
  | x => tyName x
def oIsiD (T : String) : MV → EM := fun x s => match tyH s.G x with
  | some n => (match kitB n T with
    | some b => .ok (.bl b) s
    | none => .stuck)
  | none => .stuck
section
variable {K : KA}
theorem tyxH_of {X : Addr → Prop} {ρ : List Addr} {O : Nat → Option Addr} {s : MS} {σ : L2.St} {H : Hp} (S : SR K X ρ O s σ H) {x : MV} {v : V} {n : String} (r : Rep ρ K (view X ρ O H) x v) (h : tyH s.G x = some n) : TyX K.F H v (.type n) := by
  cases x with
  | ref k =>
    cases r with
    | ref hk =>
      unfold tyH at h
      cases g : s.G[k]? with
      | none => simp only [g] at h; cases h
      | some o => cases o with
        | ins c ks vs => simp only [g] at h; cases h
        | lck od fs2 kvs2 => simp only [g] at h; cases h
        | dic ms =>
          simp only [g] at h
          cases h
          obtain ⟨fs, hx, _⟩ := S.refD hk g
          exact .base (.dK hx)
        | lst ms =>
          simp only [g] at h
          cases h
          obtain ⟨us, hx, _⟩ := S.refL hk g
          exact .base (.lst hx)
  | _ => exact tyx_of (view_le _ _ _ _) r h
theorem sim_isiD {W : WX} {ta : TE} {ma : EM} (T : String) (ha : SimE K W ta ma) : SimE K W (tCB (rIsi K.F) (tCons ta (tCons (tC (.ty T)) tNil))) (mUn (oIsiD T) ma) := by
  intro X ρ O s σ H Q S p
  refine ha.bindE S p fun x s1 ρ1 O1 H1 v S1 F1 r1 p1 => ?_
  unfold oIsiD at p1
  cases e1 : tyH s1.G x with
  | none => rw [e1] at p1; exact p1.elim
  | some n =>
    rw [e1] at p1
    cases e2 : kitB n T with
    | none => simp only [e2] at p1; exact p1.elim
    | some b =>
      simp only [e2] at p1
      exact ⟨v, .ty T, .type n, .type T, b, rfl, .ty T, tyxH_of S1 r1 e1, kit_ty e2, p1.done S1 (.bl _)⟩
section
variable {ct : String → Addr} {X : Cx} {W : WX} {a : Expr} {ta : TE} {ma : EM} {p p2 pos : Pos}
theorem e_isiD {y : Str} {T : String} (hmi : X.mg "isinstance" = none) (hmT : X.mg y = none) (ha : PEM ct X W a ta ma) (hgi : Gl X "isinstance" := by rfl) (hgT : Gl X y := by rfl) (hvT : bootBuiltins y = some (.type T) := by decide +kernel) (hn : y ≠ "__name__" := by decide) (hdb : (y == ("__debug__" : Str)) = false := by decide)
    (hs : starEach [Expr.Name y p2] X.env = (false, eval (.Name y p2) X.env) :: starEach [] X.env := by rfl) (he : starEach (a :: [Expr.Name y p2]) X.env = (false, eval a X.env) :: starEach [Expr.Name y p2] X.env := by rfl) (hpl : (backTo pos (starEach [Expr.Name y p2] X.env)).any (·.1) = false := by rfl) :
    PEM ct X W (.Call (.Name "isinstance" p) [a, .Name y p2] [] pos) (tCB (rIsi X.K) (tCons ta (tCons (tC (.ty T)) tNil))) (mUn (oIsiD T) ma) :=
  ⟨pe_callB call_isi hgi hmi (by decide +kernel) (pa_cons ha.pe (pa_cons (pe_bltn hgT hmT hvT rfl hn hdb) pa_nil hs) he) (by decide) (by decide) he hpl, sim_isiD T ha.sim⟩
end
def bLenD : List MV → EM := fun xs s => match xs with
  | [.ref n] => (match s.G[n]? with
    | some (.dic kvs) => .ok (.int kvs.length) s
    | _ => .stuck)
  | _ => .stuck
theorem sc_lenD : SimC K (fun xs H Q => ∃ a kvs, xs = [V.ref a] ∧ H a = some (.dK kvs) ∧ Q (.int kvs.length) H) bLenD := by
  intro X W ρ O s σ H xs vs Q S r p
  cases r with
  | nil => exact p.elim
  | cons r1 rr => cases rr with
    | cons _ _ => cases r1 <;> exact p.elim
    | nil => cases r1 with
      | ref hn =>
        rename_i n a
        unfold bLenD at p
        cases g : s.G[n]? with
        | none => simp only [g] at p; exact p.elim
        | some o => cases o with
          | ins c ks vs => simp only [g] at p; exact p.elim
          | lst ms => simp only [g] at p; exact p.elim
          | lck od fs2 kvs2 => simp only [g] at p; exact p.elim
          | dic ms =>
            simp only [g] at p
            obtain ⟨fs, hx, kr⟩ := S.refD hn g
            refine ⟨a, fs, rfl, hx, ?_⟩
            rw [← kr.len]
            exact p.done S (.int _)
      | _ => exact p.elim
def minL : Int → List Int → Int
  | m, [] => m
  | m, n :: ns => minL (if n < m then n else m) ns
theorem minL_ok : ∀ (ns : List Int) (m : Int), minL m ns ∈ m :: ns ∧ ∀ y ∈ m :: ns, minL m ns ≤ y
  | [], m => ⟨by simp [minL], fun y hy => by simp at hy; subst hy; exact Int.le_refl _⟩
  | n :: ns, m => by
    rw [minL]
    obtain ⟨h1, h2⟩ := minL_ok ns (if n < m then n else m)
    refine ⟨?_, fun y hy => ?_⟩
    · rcases List.mem_cons.mp h1 with h | h
      · rw [h]; split
        · exact List.mem_cons_of_mem _ List.mem_cons_self
        · exact List.mem_cons_self
      · exact List.mem_cons_of_mem _ (List.mem_cons_of_mem _ h)
    · have h0 := h2 _ List.mem_cons_self
      rcases List.mem_cons.mp hy with q | q
      · rw [q]; split at h0 <;> rename_i z <;> (first | rw [if_pos z] at * | rw [if_neg z] at *) <;> omega
      · rcases List.mem_cons.mp q with q | q
        · rw [q]; split at h0 <;> rename_i z <;> (first | rw [if_pos z] at * | rw [if_neg z] at *) <;> omega
        · exact h2 y (List.mem_cons_of_mem _ q)
noncomputable def bMinL : List MV → EM := fun xs s => match xs with
  | [.lst ys] => (match intsOf ys with
    | some (n :: ns) => .ok (.int (minL n ns)) s
    | _ => .stuck)
  | _ => .stuck
noncomputable def bMaxL : List MV → EM := fun xs s => match xs with
  | [.lst ys] => (match intsOf ys with
    | some (n :: ns) => .ok (.int (maxL n ns)) s
    | _ => .stuck)
  | _ => .stuck
theorem sc_minL : SimC K (rMin K.F) bMinL := by
  intro X W ρ O s σ H xs vs Q S r p
  cases r with
  | nil => exact p.elim
  | cons r1 rr => cases rr with
    | cons _ _ => cases r1 <;> exact p.elim
    | nil => cases r1 with
      | lst hx rx =>
        rename_i a ms us
        unfold bMinL at p
        simp only at p
        cases e : intsOf ms with
        | none => simp only [e] at p; exact p.elim
        | some ns =>
          have em := intsOf_eq e
          subst em
          have ev := rx.inv_ints
          subst ev
          cases ns with
          | nil => simp only [e] at p; exact p.elim
          | cons n ns =>
            simp only [e] at p
            refine ⟨a, n :: ns, rfl, sqlv hx, by simp, fun m hm hy => ?_⟩
            obtain ⟨h1, h2⟩ := minL_ok ns n
            have e1 := h2 m hm
            have e2 := hy _ h1
            have e3 : m = minL n ns := by omega
            rw [e3]
            exact p.done S (.int _)
      | _ => exact p.elim
theorem sc_maxL : SimC K (rMax K.F) bMaxL := by
  intro X W ρ O s σ H xs vs Q S r p
  cases r with
  | nil => exact p.elim
  | cons r1 rr => cases rr with
    | cons _ _ => cases r1 <;> exact p.elim
    | nil => cases r1 with
      | lst hx rx =>
        rename_i a ms us
        unfold bMaxL at p
        simp only at p
        cases e : intsOf ms with
        | none => simp only [e] at p; exact p.elim
        | some ns =>
          have em := intsOf_eq e
          subst em
          have ev := rx.inv_ints
          subst ev
          cases ns with
          | nil => simp only [e] at p; exact p.elim
          | cons n ns =>
            simp only [e] at p
            refine ⟨a, n :: ns, rfl, sqlv hx, by simp, fun m hm hy => ?_⟩
            obtain ⟨h1, h2⟩ := maxL_ok ns n
            have e1 := h2 m hm
            have e2 := hy _ h1
            have e3 : m = maxL n ns := by omega
            rw [e3]
            exact p.done S (.int _)
      | _ => exact p.elim
end
/-! ### sorted texts -/
def leS (a b : Str) : Prop := ltCps b.cps.toList a.cps.toList = false
theorem ltC_tri : ∀ (a b : List Nat), ltCps a b = false → ltCps b a = false → a = b
  | [], [], _, _ => rfl
  | [], b :: bs, h, _ => by simp [ltCps] at h
  | a :: as, [], _, h => by simp [ltCps] at h
  | a :: as, b :: bs, h1, h2 => by
    simp only [ltCps, Bool.or_eq_false_iff, decide_eq_false_iff_not] at h1 h2
    have e : a = b := by omega
    subst e
    simp at h1 h2
    rw [ltC_tri as bs h1 h2]
theorem leS_anti {a b : Str} (h1 : leS a b) (h2 : leS b a) : a = b := by
  have := ltC_tri _ _ h1 h2
  exact sg_inj (this.symm)
theorem ltC_irr : ∀ a : List Nat, ltCps a a = false
  | [] => rfl
  | a :: as => by simp [ltCps, ltC_irr as]
theorem ltC_tra : ∀ (a b c : List Nat), ltCps b a = false → ltCps c b = false → ltCps c a = false
  | [], b, c, _, _ => by cases c <;> rfl
  | a :: as, [], c, h, _ => by simp [ltCps] at h
  | a :: as, b :: bs, [], _, h => by simp [ltCps] at h
  | a :: as, b :: bs, c :: cs, h1, h2 => by
    have ih := ltC_tra as bs cs
    simp only [ltCps] at h1 h2 ⊢
    grind
theorem rise_pw : ∀ (r : List Str) (x : Str), risingS x r = true → List.Pairwise leS (x :: r)
  | [], x, _ => by simp
  | y :: r, x, h => by
    simp only [risingS, Bool.and_eq_true, Bool.not_eq_true'] at h
    have ih := rise_pw r y h.2
    refine List.pairwise_cons.mpr ⟨fun z hz => ?_, ih⟩
    rcases List.mem_cons.mp hz with rfl | hz
    · exact h.1
    · exact ltC_tra _ _ _ h.1 ((List.pairwise_cons.mp ih).1 z hz)
theorem sorted_pw {xs : List Str} (h : sortedS xs = true) : List.Pairwise leS xs := by
  cases xs with
  | nil => simp
  | cons x r => exact rise_pw r x h
theorem pw_uniq : ∀ {xs ys : List Str}, xs.Perm ys → List.Pairwise leS xs → List.Pairwise leS ys → xs = ys
  | [], ys, p, _, _ => (List.Perm.nil_eq p)
  | x :: xs, [], p, _, _ => by have := p.length_eq; simp at this
  | x :: xs, y :: ys, p, h1, h2 => by
    have e : x = y := by
      have hx : x ∈ y :: ys := p.mem_iff.mp List.mem_cons_self
      have hy : y ∈ x :: xs := p.mem_iff.mpr List.mem_cons_self
      rcases List.mem_cons.mp hx with q | q
      · exact q
      rcases List.mem_cons.mp hy with r | r
      · exact r.symm
      exact leS_anti ((List.pairwise_cons.mp h1).1 y r) ((List.pairwise_cons.mp h2).1 x q)
    subst e
    rw [pw_uniq p.cons_inv (List.pairwise_cons.mp h1).2 (List.pairwise_cons.mp h2).2]
noncomputable def srtS (ks : List Str) : List Str := if h : ∃ ys : List Str, ys.Perm ks ∧ sortedS ys = true then choose h else []
theorem srtS_is {ks ys : List Str} (p : ys.Perm ks) (h : sortedS ys = true) : srtS ks = ys := by
  have hh : ∃ ys : List Str, ys.Perm ks ∧ sortedS ys = true := ⟨ys, p, h⟩
  unfold srtS
  rw [dif_pos hh]
  have c := choose_spec hh
  exact pw_uniq (c.1.trans p.symm) (sorted_pw c.2) (sorted_pw h)
theorem srtS_perm {a b : List Str} (p : a.Perm b) : srtS a = srtS b := by
  have e : (fun ys : List Str => ys.Perm a ∧ sortedS ys = true) = fun ys => ys.Perm b ∧ sortedS ys = true := by
    funext ys
    exact propext ⟨fun h => ⟨h.1.trans p, h.2⟩, fun h => ⟨h.1.trans p.symm, h.2⟩⟩
  unfold srtS
  by_cases q : ∃ ys : List Str, ys.Perm a ∧ sortedS ys = true
  · obtain ⟨ys, q1, q2⟩ := q
    have := srtS_is q1 q2
    have h2 := srtS_is (q1.trans p) q2
    unfold srtS at this h2
    rw [this, h2]
  · have q2 : ¬ ∃ ys : List Str, ys.Perm b ∧ sortedS ys = true := fun ⟨ys, h1, h2⟩ => q ⟨ys, h1.trans p.symm, h2⟩
    rw [dif_neg q, dif_neg q2]
theorem srtS_mem {ks : List Str} {z : Str} (h : z ∈ srtS ks) : z ∈ ks := by
  unfold srtS at h
  split at h
  · rename_i q
    exact (choose_spec q).1.mem_iff.mp h
  · cases h
noncomputable def bSort : List MV → EM := fun xs s => match xs with
  | [.lst ys] => (match strsOf ys with
    | some ks => if ks.length < 64 then .ok (.lst ((srtS ks).map MV.str)) s else .stuck
    | none => .stuck)
  | _ => .stuck
noncomputable def bSortD : List MV → EM := fun xs s => match xs with
  | [.ref n] => (match s.G[n]? with
    | some (.dic kvs) => if kvs.length < 64 then .ok (.lst ((srtS (kvs.map (·.1))).map MV.str)) s else .stuck
    | _ => .stuck)
  | _ => .stuck
section
variable {K : KA}
theorem reps_strs {ρ : List Addr} {Hz : Hp} : ∀ zs : List Str, Reps ρ K Hz (zs.map MV.str) (zs.map V.str)
  | [] => .nil
  | z :: zs => .cons (.str z) (reps_strs zs)
theorem sc_sort : SimC K (rSortedS K.F) bSort := by
  intro X W ρ O s σ H xs vs Q S r p
  cases r with
  | nil => exact p.elim
  | cons r1 rr => cases rr with
    | cons _ _ => cases r1 <;> exact p.elim
    | nil => cases r1 with
      | lst hx rx =>
        rename_i a ms us
        unfold bSort at p
        simp only at p
        cases e : strsOf ms with
        | none => simp only [e] at p; exact p.elim
        | some ks =>
          simp only [e] at p
          by_cases hl : ks.length < 64
          · rw [if_pos hl] at p
            have ev := strsOf_reps e rx
            subst ev
            refine ⟨a, ks, rfl, sqlv hx, hl, fun ys q pm so hq => ?_⟩
            rw [srtS_is pm so] at p
            exact p.grown S (Ex.new hq) (.lst (S.view_new hq) (reps_strs ys))
          · rw [if_neg hl] at p; exact p.elim
      | _ => exact p.elim
theorem sc_sortD : SimC K (fun xs H Q => ∃ (a : Addr) (kvs : List (Key × V)) (ks : List Str), xs = [.ref a] ∧ Rd H a (.dK kvs) ∧ kvs.map (·.1) = ks.map Sum.inr ∧ ks.length < 64 ∧
    ∀ ys p, ys.Perm ks → sortedS ys = true → H p = none → Q (.ref p) (upd H p (.lst (ys.map V.str)))) bSortD := by
  intro X W ρ O s σ H xs vs Q S r p
  cases r with
  | nil => exact p.elim
  | cons r1 rr => cases rr with
    | cons _ _ => cases r1 <;> exact p.elim
    | nil => cases r1 with
      | ref hn =>
        rename_i n a
        unfold bSortD at p
        cases g : s.G[n]? with
        | none => simp only [g] at p; exact p.elim
        | some o => cases o with
          | ins c ks vs => simp only [g] at p; exact p.elim
          | lst ms => simp only [g] at p; exact p.elim
          | lck od fs2 kvs2 => simp only [g] at p; exact p.elim
          | dic kvs =>
            simp only [g] at p
            by_cases hl : kvs.length < 64
            · rw [if_pos hl] at p
              obtain ⟨fs, hx, kr⟩ := S.refD hn g
              refine ⟨a, fs, kvs.map (·.1), rfl, .inl hx, by rw [kr.1, List.map_map]; rfl, by rw [List.length_map]; exact hl, fun ys q pm so hq => ?_⟩
              rw [srtS_is pm so] at p
              exact p.grown S (Ex.new hq) (.lst (S.view_new hq) (reps_strs ys))
            · rw [if_neg hl] at p; exact p.elim
      | _ => exact p.elim
end
end M

namespace M
open PySem L2 PyProof.Rows
open Classical

/-! ## a walk over the items of a dict that is empty -/
noncomputable def mForD0 (m : EM) : SM := fun s => match m s with
  | .ok .dic s' => if s' = s then .ok .nx s else .stuck
  | _ => .stuck
theorem upd_back {H : Hp} {d : Addr} {u o : HO} (h : H d = some u) : upd (upd H d o) d u = H := by
  funext b
  by_cases e : b = d
  · subst e; rw [upd_same, h]
  · rw [upd_ne e, upd_ne e]
section
variable {K : KA} {W : WX}
theorem ss_forD0 {i : Nat} {cs : List String} {f : Str} (hf : FldI K.ct K.F cs f) {g : TG} {tb : TS} : SimS K W (tLock (tFor (iItems (tFld K.F (tVar i) f)) g tb)) (mForD0 (mUn (oFld cs f) (mVar i))) := by
  intro X ρ O s σ H D S p
  unfold mForD0 mUn mVar at p
  cases e0 : s.env[i]? with
  | none => simp only [e0, R.bind_stuck] at p; exact p.elim
  | some sv =>
    cases sv with
    | un => simp only [e0, R.bind_stuck] at p; exact p.elim
    | ow xs => simp only [e0, R.bind_stuck] at p; exact p.elim
    | sh x =>
      simp only [e0, R.bind_ok] at p
      obtain ⟨_, v, hv, rv⟩ := S.sl i _ e0
      -- the dict's own place
      have key : ∀ (a : Addr) (C : Addr) (dx : Addr) (fs : List (Str × V)) (d : Addr), v = .ref a → H a = some (.ins C dx fs) → Cls K.F C → NoAttr K.F C f → fs.lookup f = some (.ref d) → H d = some (.dK []) → D.nx σ H →
          tLock (tFor (iItems (tFld K.F (tVar i) f)) g tb) D σ H := by
        intro a C dx fs d ev ha hc hna hl hd hD
        have ne : a ≠ d := fun z => by subst z; rw [ha] at hd; cases hd
        refine ⟨d, .dK [], hd, trivial, fun od => ?_⟩
        refine ⟨v, hv, a, C, dx, fs, .ref d, ev, by rw [upd_ne ne]; exact ha, hc, hna, hl, d, od, [], rfl, upd_same, ?_⟩
        refine ⟨fun k m σ' H' => k = 0 ∧ σ' = σ ∧ H' = upd H d (.frz od (.dK [])), ⟨0, rfl, rfl, rfl⟩, ?_⟩
        rintro k m σ' H' ⟨rfl, rfl, rfl⟩
        refine .inl ⟨⟨upd_same, Nat.zero_le _⟩, upd_same, ?_⟩
        rw [upd_back hd]
        exact hD
      cases rv with
      | obj h1 h2 h3 =>
        rename_i a dx c ks ms fs
        unfold oFld fldR at p
        by_cases hcs : c ∈ cs
        · simp only [if_pos hcs] at p
          cases e : fldAt f ks ms with
          | none => simp only [e] at p; exact p.elim
          | some m =>
            simp only [e] at p
            subst h2
            obtain ⟨u, h5, h6⟩ := fld_get e h3
            cases h6 with
            | dic hd =>
              simp only [if_true] at p
              exact key a (K.ct c) dx fs _ rfl (view_some.mp h1).2 (hf c hcs).1 (hf c hcs).2 h5 (view_some.mp hd).2 (p ρ O σ H S Fut.refl)
            | _ => exact p.elim
        · simp only [if_neg hcs] at p; exact p.elim
      | ref hn =>
        rename_i n a
        unfold oFld fldR at p
        cases gg : s.G[n]? with
        | none => simp only [gg] at p; exact p.elim
        | some o => cases o with
          | lst ms => simp only [gg] at p; exact p.elim
          | dic ms => simp only [gg] at p; exact p.elim
          | lck od fs ms => simp only [gg] at p; exact p.elim
          | ins c ks ms =>
            simp only [gg] at p
            by_cases hcs : c ∈ cs
            · simp only [if_pos hcs] at p
              cases e : fldAt f ks ms with
              | none => simp only [e] at p; exact p.elim
              | some m =>
                simp only [e] at p
                obtain ⟨a', ha', dx, fs, h1, h2, h3⟩ := S.ob n _ gg
                rw [hn] at ha'
                cases ha'
                subst h2
                obtain ⟨u, h5, h6⟩ := fld_get e h3
                cases h6 with
                | dic hd =>
                  simp only [if_true] at p
                  exact key a (K.ct c) dx fs _ rfl h1 (hf c hcs).1 (hf c hcs).2 h5 (view_some.mp hd).2 (p ρ O σ H S Fut.refl)
                | _ => exact p.elim
            · simp only [if_neg hcs] at p; exact p.elim
      | _ => exact p.elim
end
section
variable {ct : String → Addr} {X : Cx} {W : WX} {elts : List Expr} {sts : List Stmt} {y f : Str} {kk : Nat} {p apos fpos cpos tpos pos : Pos} {cs : List String} {ts : List Nat} {g : TG} {mg : GM} {ta : TS} {ma : SM}
theorem s_forD0 (i : Nat) (hf : FldI ct X.K cs f) (hp : PassesOwn (model X.prog X.w) X.A X.env X.xe) (hg : PGM ct X (.Tuple elts kk tpos) ts g mg) (hb : PSsM ct X W sts ta ma)
    (hN : X.N[i]? = some y := by rfl) (hv : Vis X.env.scope y := by first | exact Or.inl rfl | exact Or.inr (Or.inl rfl) | exact Or.inr (Or.inr rfl)) (hd : (y == ("__debug__" : Str)) = false := by decide) (hcd : (y == ("__classdict__" : Str)) = false := by decide)
    (hc : X.calm = true := by rfl) (hab : attributeBase (.Name y p) f X.env (eval (.Name y p) X.env) = eval (.Name y p) X.env := by rfl)
    (hbase : attributeBase (.Attribute (.Name y p) f fpos) "items" X.env (eval (.Attribute (.Name y p) f fpos) X.env) = eval (.Attribute (.Name y p) f fpos) X.env := by rfl) (hline : (apos.endLine == cpos.line) = true := by rfl)
    (hs : ∀ x, foldedSetIterable (.Call (.Attribute (.Attribute (.Name y p) f fpos) "items" apos) [] [] cpos) X.env x = pure x := by intro _; rfl) :
    PSM ct X W (.For (.Tuple elts kk tpos) (.Call (.Attribute (.Attribute (.Name y p) f fpos) "items" apos) [] [] cpos) sts [] pos) (tLock (tFor (iItems (tFld X.K (tVar i) f)) g ta)) (mForD0 (mUn (oFld cs f) (mVar i))) :=
  ⟨ps_lock (ps_for hp hc (pi_items (pe_fld (pe_var hN hv hd hcd) hab) hbase hline) hg.pe hb.pe hs), ss_forD0 (K := ⟨X.K, ct⟩) hf⟩
end
end M

namespace M
open PySem PySem.Spec L2 PyProof.Rows
open Classical

/-! ## walks over a dict: it is locked meanwhile -/
noncomputable def forMG (g : GM) (b : SM) (n : Nat) (o : MO) : List MV → SM
  | [] => fun s => if s.G[n]? = some o then .ok .nx s else .stuck
  | x :: xs => fun s => if s.G[n]? = some o then (match g x s with
    | none => .stuck
    | some s1 => match b s1 with
      | .ok .nx s2 => forMG g b n o xs s2
      | .ok .ct s2 => forMG g b n o xs s2
      | .ok .bk s2 => if s2.G[n]? = some o then .ok .nx s2 else .stuck
      | .ok (.rt x) s2 => if s2.G[n]? = some o then .ok (.rt x) s2 else .stuck
      | .exc _ _ => .stuck
      | .stuck => .stuck) else .stuck
def LoopD (g : GM) (b : SM) (n : Nat) (kvs : List (Str × MV)) (xs : List MV) (s : MS) (r : Fl × List SV × MHeap) : Prop :=
  ∀ od fs, forMG g b n (.lck od fs kvs) xs ⟨s.env, s.G.set n (.lck od fs kvs)⟩ = .ok r.1 ⟨r.2.1, r.2.2.set n (.lck od fs kvs)⟩
noncomputable def runD (g : GM) (b : SM) (n : Nat) (kvs : List (Str × MV)) (xs : List MV) (s : MS) : R Fl :=
  if h : ∃ r, LoopD g b n kvs xs s r then .ok (choose h).1 ⟨(choose h).2.1, (choose h).2.2.set n (.dic kvs)⟩ else .stuck
theorem runD_ok {g : GM} {b : SM} {n : Nat} {kvs : List (Str × MV)} {xs : List MV} {s : MS} {f : Fl} {e : List SV} {G : MHeap} (h : LoopD g b n kvs xs s (f, e, G)) : runD g b n kvs xs s = .ok f ⟨e, G.set n (.dic kvs)⟩ := by
  have hx : ∃ r, LoopD g b n kvs xs s r := ⟨_, h⟩
  unfold runD
  rw [dif_pos hx]
  have c := choose_spec hx
  have e1 := (c (default : Obj) []).symm.trans (h (default : Obj) [])
  obtain ⟨e2, e3⟩ := R.ok.inj e1
  obtain ⟨e4, e5⟩ := MS.mk.inj e3
  have e6 := congrArg (fun z : MHeap => z.set n (.dic kvs)) e5
  simp only [List.set_set] at e6
  rw [e2, e4, e6]
noncomputable def mForD (sel : Str × MV → MV) (m : EM) (g : GM) (b : SM) : SM := fun s => match m s with
  | .ok (.ref n) s1 => if s1 = s then (match s.G[n]? with
    | some (.dic kvs) => runD g b n kvs (kvs.map sel) s
    | _ => .stuck) else .stuck
  | _ => .stuck
def selI (p : Str × MV) : MV := .tup [.str p.1, p.2]
def selK (p : Str × MV) : MV := .str p.1
def selV (p : Str × MV) : MV := p.2
structure ItD (K : KA) (J : Addr → Obj → List (Key × V) → It) (sel : Str × MV → MV) : Prop where
  go : ∀ (d : Addr) (od : Obj) (fs : List (Key × V)) (i : Nat) (H : Hp), H d = some (.frz od (.dK fs)) → i < fs.length → (J d od fs).go i H
  stop : ∀ (d : Addr) (od : Obj) (fs : List (Key × V)) (H : Hp), H d = some (.frz od (.dK fs)) → (J d od fs).stop fs.length H
  yld : ∀ (d : Addr) (od : Obj) (fs : List (Key × V)) (i : Nat) (H : Hp) (x : V) (H' : Hp) (X : Addr → Prop) (ρ : List Addr) (O : Nat → Option Addr) (s : MS) (σ : L2.St) (kvs : List (Str × MV)), (J d od fs).yld i H x H' → SR K X ρ O s σ H → KDR ρ K (view X ρ O H) kvs fs →
    Ex H H' ∧ ∃ p, kvs[i]? = some p ∧ Rep ρ K (view X ρ O H') (sel p) x
section
variable {K : KA}
theorem kdr_get {ρ : List Addr} {Hz : Hp} {kvs : List (Str × MV)} {fs : List (Key × V)} (h : KDR ρ K Hz kvs fs) {i : Nat} {k : Key} {v : V} (e : fs[i]? = some (k, v)) : ∃ p, kvs[i]? = some p ∧ k = .inr p.1 ∧ Rep ρ K Hz p.2 v := by
  obtain ⟨h1, h2⟩ := h
  have hl : i < fs.length := (List.getElem?_eq_some_iff.mp e).1
  have ll : kvs.length = fs.length := by have := congrArg List.length h1; simpa using this.symm
  refine ⟨kvs[i], List.getElem?_eq_getElem (by omega), ?_, ?_⟩
  · have := congrArg (fun z => z[i]?) h1
    simp only [List.getElem?_map, e, List.getElem?_eq_getElem (show i < kvs.length by omega), Option.map_some] at this
    exact Option.some.inj this
  · obtain ⟨u, h3, h4⟩ := h2.get (i := i) (m := kvs[i].2) (by rw [List.getElem?_map, List.getElem?_eq_getElem (by omega)]; rfl)
    rw [List.getElem?_map, e] at h3
    cases h3
    exact h4
theorem itD_items : ItD K Iti selI where
  go := fun d od fs i H h hi => ⟨h, hi⟩
  stop := fun d od fs H h => ⟨h, Nat.le_refl _⟩
  yld := fun d od fs i H x H' X ρ O s σ kvs y S kd => by
    obtain ⟨T, k, v, e, rfl, hT, rfl⟩ := y
    obtain ⟨p, h1, rfl, h2⟩ := kdr_get kd e
    exact ⟨Ex.new hT, p, h1, .tup (.inl (.inl (S.view_new hT))) (.cons (.str _) (.cons (h2.mono (Pre.refl _) (view_ex (Ex.new hT))) .nil))⟩
theorem itD_keys : ItD K Itk selK where
  go := fun d od fs i H h hi => ⟨h, hi⟩
  stop := fun d od fs H h => ⟨h, Nat.le_refl _⟩
  yld := fun d od fs i H x H' X ρ O s σ kvs y S kd => by
    obtain ⟨rfl, k, v, e, rfl⟩ := y
    obtain ⟨p, h1, rfl, h2⟩ := kdr_get kd e
    exact ⟨Ex.refl _, p, h1, .str _⟩
theorem itD_vals : ItD K Itd selV where
  go := fun d od fs i H h hi => ⟨h, hi⟩
  stop := fun d od fs H h => ⟨h, Nat.le_refl _⟩
  yld := fun d od fs i H x H' X ρ O s σ kvs y S kd => by
    obtain ⟨rfl, k, e⟩ := y
    obtain ⟨p, h1, rfl, h2⟩ := kdr_get kd e
    exact ⟨Ex.refl _, p, h1, h2⟩
/-- what stands for the dict is read alike while the dict is locked -/
def PureD (K : KA) (me : EM) (te : TE) : Prop := ∀ X ρ O s σ H n d fs, SR K X ρ O s σ H → me s = .ok (.ref n) s → ρ[n]? = some d → H d = some (.dK fs) → ∀ od (Q : VK), Q (.ref d) (upd H d (.frz od (.dK fs))) → te σ (upd H d (.frz od (.dK fs))) Q
theorem pureD_var (i : Nat) : PureD K (mVar i) (tVar i) := by
  intro X ρ O s σ H n d fs S hm hn hd od Q q
  unfold mVar at hm
  cases e : s.env[i]? with
  | none => rw [e] at hm; cases hm
  | some z =>
    rw [e] at hm
    cases z with
    | un => cases hm
    | ow xs => cases hm
    | sh x =>
      cases hm
      obtain ⟨_, v, h1, h2⟩ := S.sl i _ e
      cases h2 with
      | ref h3 =>
        rw [hn] at h3
        cases h3
        exact ⟨_, h1, q⟩
theorem pureD_fld {i : Nat} {cs : List String} {f : Str} (hf : FldI K.ct K.F cs f) : PureD K (mUn (oFld cs f) (mVar i)) (tFld K.F (tVar i) f) := by
  intro X ρ O s σ H n d fs S hm hn hd od Q q
  unfold mUn mVar at hm
  cases e0 : s.env[i]? with
  | none => simp only [e0, R.bind_stuck] at hm; cases hm
  | some sv =>
    cases sv with
    | un => simp only [e0, R.bind_stuck] at hm; cases hm
    | ow xs => simp only [e0, R.bind_stuck] at hm; cases hm
    | sh x =>
      simp only [e0, R.bind_ok] at hm
      obtain ⟨_, v, hv, rv⟩ := S.sl i _ e0
      have key : ∀ (a : Addr) (C : Addr) (dx : Addr) (gs : List (Str × V)), v = .ref a → H a = some (.ins C dx gs) → Cls K.F C → NoAttr K.F C f → gs.lookup f = some (.ref d) → tFld K.F (tVar i) f σ (upd H d (.frz od (.dK fs))) Q := by
        intro a C dx gs ev ha hc hna hl
        have ne : a ≠ d := fun z => by subst z; rw [ha] at hd; cases hd
        exact ⟨v, hv, a, C, dx, gs, .ref d, ev, by rw [upd_ne ne]; exact ha, hc, hna, hl, q⟩
      cases rv with
      | obj h1 h2 h3 =>
        rename_i a dx c ks ms gs
        unfold oFld fldR at hm
        by_cases hcs : c ∈ cs
        · simp only [if_pos hcs] at hm
          cases e : fldAt f ks ms with
          | none => simp only [e] at hm; cases hm
          | some m =>
            simp only [e] at hm
            cases hm
            subst h2
            obtain ⟨u, h5, h6⟩ := fld_get e h3
            cases h6 with
            | ref h7 =>
              rw [hn] at h7
              cases h7
              exact key a (K.ct c) dx gs rfl (view_some.mp h1).2 (hf c hcs).1 (hf c hcs).2 h5
        · simp only [if_neg hcs] at hm; cases hm
      | ref hq =>
        rename_i n2 a
        unfold oFld fldR at hm
        cases gg : s.G[n2]? with
        | none => simp only [gg] at hm; cases hm
        | some o => cases o with
          | lst ms => simp only [gg] at hm; cases hm
          | dic ms => simp only [gg] at hm; cases hm
          | lck od fs ms => simp only [gg] at hm; cases hm
          | ins c ks ms =>
            simp only [gg] at hm
            by_cases hcs : c ∈ cs
            · simp only [if_pos hcs] at hm
              cases e : fldAt f ks ms with
              | none => simp only [e] at hm; cases hm
              | some m =>
                simp only [e] at hm
                cases hm
                obtain ⟨a', ha', dx, gs, h1, h2, h3⟩ := S.ob n2 _ gg
                rw [hq] at ha'
                cases ha'
                subst h2
                obtain ⟨u, h5, h6⟩ := fld_get e h3
                cases h6 with
                | ref h7 =>
                  rw [hn] at h7
                  cases h7
                  exact key a (K.ct c) dx gs rfl h1 (hf c hcs).1 (hf c hcs).2 h5
            · simp only [if_neg hcs] at hm; cases hm
      | _ => cases hm
end
section
variable {K : KA} {W : WX}
theorem SR.lckD {X : Addr → Prop} {ρ : List Addr} {O : Nat → Option Addr} {s : MS} {σ : L2.St} {H : Hp} (S : SR K X ρ O s σ H) {n : Nat} {a : Addr} {od : Obj} {fs : List (Key × V)} {kvs : List (Str × MV)} (h : ρ[n]? = some a) (g : s.G[n]? = some (.lck od fs kvs)) : H a = some (.frz od (.dK fs)) ∧ KDR ρ K (view X ρ O H) kvs fs := by
  obtain ⟨b, h1, h2, h3⟩ := S.ob n _ g
  rw [h] at h1
  cases h1
  exact ⟨h2, h3⟩
theorem ss_forD {J : Addr → Obj → List (Key × V) → It} {sel : Str × MV → MV} (hJ : ItD K J sel) {ts : List Nat} {te : TE} {me : EM} {wi : TI} (hp : PureD K me te) (hw : ∀ σ H R d od fs, H d = some (.frz od (.dK fs)) → R (J d od fs) H → (∀ Q : VK, Q (.ref d) H → te σ H Q) → wi σ H R)
    {g : TG} {mg : GM} {tb : TS} {mb : SM} (hg : SimG K ts g mg) (hb : SimS K W tb mb) : SimS K W (tLock (tFor wi g tb)) (mForD sel me mg mb) := by
  intro X ρ O s σ H D S p
  unfold mForD at p
  cases em : me s with
  | stuck => simp only [em] at p; exact p.elim
  | exc c s1 => simp only [em] at p; exact p.elim
  | ok x s1 =>
    cases x with
    | ref n =>
      simp only [em] at p
      by_cases es : s1 = s
      · rw [if_pos es] at p
        subst es
        cases gg : s1.G[n]? with
        | none => simp only [gg] at p; exact p.elim
        | some o => cases o with
          | lst ms => simp only [gg] at p; exact p.elim
          | ins c ks ms => simp only [gg] at p; exact p.elim
          | lck od fs ms => simp only [gg] at p; exact p.elim
          | dic kvs =>
            simp only [gg] at p
            unfold runD at p
            by_cases hx : ∃ r, LoopD mg mb n kvs (kvs.map sel) s1 r
            · rw [dif_pos hx] at p
              have c := choose_spec hx
              generalize choose hx = r at c p
              obtain ⟨fl, e', G'⟩ := r
              simp only at p
              obtain ⟨d, hd, fs, h1, h2⟩ := S.ob n _ gg
              have lfs : (kvs.map sel).length = fs.length := by have := congrArg List.length h2.1; simpa using this.symm
              refine ⟨d, .dK fs, h1, trivial, fun od => ?_⟩
              have c := c od fs
              simp only at c
              obtain ⟨S0, F0⟩ := S.setM (q := .lck od fs kvs) (ho := .frz od (.dK fs)) hd fun Hz hz => ⟨hz, h2⟩
              have un : ∀ {ρ2 O2 s2 σ2 H2}, SR K X ρ2 O2 s2 σ2 H2 → Fut X ρ O (upd H d (.frz od (.dK fs))) ρ2 O2 H2 → s2.G[n]? = some (.lck od fs kvs) → H2 d = some (.frz od (.dK fs)) ∧ SR K X ρ2 O2 ⟨s2.env, s2.G.set n (.dic kvs)⟩ σ2 (upd H2 d (.dK fs)) ∧ Fut X ρ O H ρ2 O2 (upd H2 d (.dK fs)) := fun {ρ2 O2 s2 σ2 H2} S2 F2 g2 => by
                have hd2 := F2.pre n d hd
                obtain ⟨z1, z2⟩ := S2.lckD hd2 g2
                obtain ⟨S3, F3⟩ := S2.setM (q := .dic kvs) (ho := .dK fs) hd2 fun Hz hz => ⟨fs, hz, z2⟩
                exact ⟨z1, S3, (F0.trans F2).trans F3⟩
              refine hw σ _ _ d od fs upd_same ?_ (fun Q q => hp X ρ O s1 σ H n d fs S em hd h1 od Q q)
              refine ⟨fun i m σ' H' => m = (kvs.map sel).length - i ∧ i ≤ (kvs.map sel).length ∧ ∃ ρ' O' s', SR K X ρ' O' s' σ' H' ∧ Fut X ρ O (upd H d (.frz od (.dK fs))) ρ' O' H' ∧ forMG mg mb n (.lck od fs kvs) ((kvs.map sel).drop i) s' = .ok fl ⟨e', G'.set n (.lck od fs kvs)⟩,
                ⟨(kvs.map sel).length, by rw [Nat.sub_zero], Nat.zero_le _, ρ, O, _, S0, Fut.refl, c⟩, ?_⟩
              rintro i m σ2 H2 ⟨rfl, hi', ρ2, O2, s2, S2, F2, p2⟩
              have fin : ∀ {ρ3 O3 s3 σ3 H3}, SR K X ρ3 O3 s3 σ3 H3 → Fut X ρ O (upd H d (.frz od (.dK fs))) ρ3 O3 H3 → s3 = ⟨e', G'.set n (.lck od fs kvs)⟩ → s3.G[n]? = some (.lck od fs kvs) → H3 d = some (.frz od (.dK fs)) ∧ SR K X ρ3 O3 ⟨e', G'.set n (.dic kvs)⟩ σ3 (upd H3 d (.dK fs)) ∧ Fut X ρ O H ρ3 O3 (upd H3 d (.dK fs)) := fun {ρ3 O3 s3 σ3 H3} S3 F3 e3 g3 => by
                obtain ⟨z1, z2, z3⟩ := un S3 F3 g3
                subst e3
                rw [List.set_set] at z2
                exact ⟨z1, z2, z3⟩
              by_cases hlt : i < (kvs.map sel).length
              · have hdr : (kvs.map sel).drop i = (kvs.map sel)[i] :: (kvs.map sel).drop (i + 1) := List.drop_eq_getElem_cons hlt
                rw [hdr] at p2
                unfold forMG at p2
                by_cases g2 : s2.G[n]? = some (.lck od fs kvs)
                · rw [if_pos g2] at p2
                  obtain ⟨hz, kd⟩ := S2.lckD (F2.pre n d hd) g2
                  refine .inr ⟨hJ.go d od fs i H2 hz (by omega), fun σ' H' => i + 1 ≤ (kvs.map sel).length ∧ ∃ ρ' O' s', SR K X ρ' O' s' σ' H' ∧ Fut X ρ O (upd H d (.frz od (.dK fs))) ρ' O' H' ∧ forMG mg mb n (.lck od fs kvs) ((kvs.map sel).drop (i + 1)) s' = .ok fl ⟨e', G'.set n (.lck od fs kvs)⟩,
                    fun σ' H' h => ⟨(kvs.map sel).length - (i + 1), by omega, rfl, h⟩, fun x H3 y => ?_⟩
                  obtain ⟨e23, pq, hpq, rep⟩ := hJ.yld d od fs i H2 x H3 X ρ2 O2 s2 σ2 kvs y S2 kd
                  have ei : (kvs.map sel)[i] = sel pq := by
                    rw [List.getElem_map]
                    rw [List.getElem?_eq_getElem (by simpa using hlt)] at hpq
                    rw [Option.some.inj hpq]
                  rw [ei] at p2
                  cases eg : mg (sel pq) s2 with
                  | none => rw [eg] at p2; cases p2
                  | some s3 =>
                    rw [eg] at p2
                    have S3 := S2.grow e23
                    refine hg X ρ2 O2 s2 σ2 H3 _ x s3 _ S3 rep eg fun O4 σ4 S4 F4 _ => ?_
                    have F14 := F2.trans ((Fut.grow e23).trans F4)
                    refine hb X ρ2 O4 s3 σ4 H3 _ S4 ?_
                    cases eb : mb s3 with
                    | ok f s5 =>
                      simp only [eb] at p2
                      cases f with
                      | nx => intro ρ5 O5 σ5 H5 S5 F5; exact ⟨hlt, ρ5, O5, s5, S5, F14.trans F5, p2⟩
                      | ct => intro ρ5 O5 σ5 H5 S5 F5; exact ⟨hlt, ρ5, O5, s5, S5, F14.trans F5, p2⟩
                      | bk =>
                        by_cases g5 : s5.G[n]? = some (.lck od fs kvs)
                        · simp only [if_pos g5] at p2
                          obtain ⟨rfl, e5⟩ := R.ok.inj p2
                          intro ρ5 O5 σ5 H5 S5 F5
                          obtain ⟨z1, z2, z3⟩ := fin S5 (F14.trans F5) e5 g5
                          exact ⟨z1, p ρ5 O5 σ5 _ z2 z3⟩
                        · simp only [if_neg g5] at p2; cases p2
                      | rt x2 =>
                        by_cases g5 : s5.G[n]? = some (.lck od fs kvs)
                        · simp only [if_pos g5] at p2
                          obtain ⟨rfl, e5⟩ := R.ok.inj p2
                          intro ρ5 O5 σ5 H5 v5 S5 F5 r5
                          obtain ⟨z1, z2, z3⟩ := fin S5 (F14.trans F5) e5 g5
                          refine ⟨z1, p ρ5 O5 σ5 _ v5 z2 z3 (r5.mono (Pre.refl _) ?_)⟩
                          have hd5 := (F14.trans F5).pre n d hd
                          exact (S5.setM (q := .dic kvs) (ho := .dK fs) hd5 fun Hz hz => ⟨fs, hz, (S5.lckD hd5 g5).2⟩).2.ex
                        · simp only [if_neg g5] at p2; cases p2
                    | exc c s5 => simp only [eb] at p2; cases p2
                    | stuck => simp only [eb] at p2; cases p2
                · rw [if_neg g2] at p2; cases p2
              · have e : i = (kvs.map sel).length := by omega
                subst e
                rw [List.drop_length] at p2
                unfold forMG at p2
                by_cases g2 : s2.G[n]? = some (.lck od fs kvs)
                · rw [if_pos g2] at p2
                  obtain ⟨rfl, e5⟩ := R.ok.inj p2
                  obtain ⟨hz, kd⟩ := S2.lckD (F2.pre n d hd) g2
                  obtain ⟨z1, z2, z3⟩ := fin S2 F2 e5 g2
                  refine .inl ⟨by rw [lfs]; exact hJ.stop d od fs H2 hz, z1, p ρ2 O2 σ2 _ z2 z3⟩
                · rw [if_neg g2] at p2; cases p2
            · rw [dif_neg hx] at p; exact p.elim
      · rw [if_neg es] at p; exact p.elim
    | _ => simp only [em] at p; exact p.elim
end
section
variable {ct : String → Addr} {X : Cx} {W : WX} {tg : Expr} {elts : List Expr} {sts : List Stmt} {y f : Str} {kk : Nat} {p apos fpos cpos tpos pos : Pos} {cs : List String} {ts : List Nat} {g : TG} {mg : GM} {ta : TS} {ma : SM}
/-- for .. in x.f.items() -/
theorem s_forDi (i : Nat) (hf : FldI ct X.K cs f) (hp : PassesOwn (model X.prog X.w) X.A X.env X.xe) (hg : PGM ct X (.Tuple elts kk tpos) ts g mg) (hb : PSsM ct X W sts ta ma)
    (hN : X.N[i]? = some y := by rfl) (hv : Vis X.env.scope y := by first | exact Or.inl rfl | exact Or.inr (Or.inl rfl) | exact Or.inr (Or.inr rfl)) (hd : (y == ("__debug__" : Str)) = false := by decide) (hcd : (y == ("__classdict__" : Str)) = false := by decide)
    (hc : X.calm = true := by rfl) (hab : attributeBase (.Name y p) f X.env (eval (.Name y p) X.env) = eval (.Name y p) X.env := by rfl)
    (hbase : attributeBase (.Attribute (.Name y p) f fpos) "items" X.env (eval (.Attribute (.Name y p) f fpos) X.env) = eval (.Attribute (.Name y p) f fpos) X.env := by rfl) (hline : (apos.endLine == cpos.line) = true := by rfl)
    (hs : ∀ x, foldedSetIterable (.Call (.Attribute (.Attribute (.Name y p) f fpos) "items" apos) [] [] cpos) X.env x = pure x := by intro _; rfl) :
    PSM ct X W (.For (.Tuple elts kk tpos) (.Call (.Attribute (.Attribute (.Name y p) f fpos) "items" apos) [] [] cpos) sts [] pos) (tLock (tFor (iItems (tFld X.K (tVar i) f)) g ta)) (mForD selI (mUn (oFld cs f) (mVar i)) mg ma) :=
  ⟨ps_lock (ps_for hp hc (pi_items (pe_fld (pe_var hN hv hd hcd) hab) hbase hline) hg.pe hb.pe hs), ss_forD (K := ⟨X.K, ct⟩) itD_items (pureD_fld hf) (fun σ H R d od fs h r q => q _ ⟨d, od, fs, rfl, h, r⟩) hg.sim hb.sim⟩
/-- for .. in d -/
theorem s_forDk (i : Nat) (hp : PassesOwn (model X.prog X.w) X.A X.env X.xe) (hg : PGM ct X tg ts g mg) (hb : PSsM ct X W sts ta ma)
    (hN : X.N[i]? = some y := by rfl) (hv : Vis X.env.scope y := by first | exact Or.inl rfl | exact Or.inr (Or.inl rfl) | exact Or.inr (Or.inr rfl)) (hd : (y == ("__debug__" : Str)) = false := by decide) (hcd : (y == ("__classdict__" : Str)) = false := by decide)
    (hc : X.calm = true := by rfl) (hs : ∀ x, foldedSetIterable (.Name y p) X.env x = pure x := by intro _; rfl) :
    PSM ct X W (.For tg (.Name y p) sts [] pos) (tLock (tFor (iKeys (tVar i)) g ta)) (mForD selK (mVar i) mg ma) :=
  ⟨ps_lock (ps_for hp hc (pi_keys (pe_var hN hv hd hcd)) hg.pe hb.pe hs), ss_forD (K := ⟨X.K, ct⟩) itD_keys (pureD_var i) (fun σ H R d od fs h r q => q _ ⟨d, od, rfl, .inl ⟨fs, h, r⟩⟩) hg.sim hb.sim⟩
end
end M

namespace M
open PySem PySem.Spec L2 PyProof.Rows
open Classical

/-! ## a live list of a comprehension, named -/
section
variable {ct : String → Addr} {X : Cx} {W : WX} {elt tg iter : Expr} {ifs : List Expr} {scope : Scope} {ts : List Nat} {mg : GM} {mt : TM} {me : EM}
theorem s_setLcV (i : Nat) {own : List (Str × Nat)} {y : Str} {py : Pos} {pos spos : Pos} {wi : TI} {mi : AM}
    (hN : X.N.Nodup) (hi : PIM ct X W tg iter wi mi) (ok : BlkOk X.N X.env.scope scope own)
    (hg : ∀ s H C cl fp, ∃ g, PGM ct (blkX X scope s H C cl fp) tg ts g mg) (ht : ∀ s H C cl fp, ∃ te, PQM ct (blkX X scope s H C cl fp) W0 ifs te mt)
    (he : ∀ s H C cl fp, ∃ te, PEM ct (blkX X scope s H C cl fp) W0 elt te me) (hc : X.calm = true := by rfl) (hts : ∀ i ∈ ts, i ∈ own.map (·.2) := by decide) (hs : ∀ x, foldedSetIterable iter X.env x = pure x := by intro _; rfl)
    (hy : X.N[i]? = some y := by rfl) (hyl : X.env.scope.names.lookup y = some .local := by rfl) (hk : X.env.scope.kind = .function := by rfl) (hl : (py.line == pos.line) = true := by rfl) (ha : (scope.names.any fun (n, k) => n == y && (k == .local || k == .cell)) = false := by rfl) :
    PSM ct X W (.Assign [.Name y py] (.ListComp elt [⟨tg, iter, ifs, 0⟩] scope pos) spos) (tAsg (tLc wi (gAll ct X scope tg ts mg) (qAll ct X scope ifs mt) (eAll ct X scope elt me) (own.map (·.2))) (gName i)) (mAsg (gSet i) (mLive (mLcL mi (own.map (·.2)) mg mt me))) :=
  ⟨ps_setLc hc hN hy hyl (sw_true hk hyl hl ha) hi.pe ok (gAll_pe hg) (qAll_pe ht) (eAll_pe he) hs,
   ss_asg (sim_live (sf_lc hi.sim gAll_sim qAll_sim eAll_sim hts)) (sg_name i)⟩
end
/-! ## a dict of two pairs -/
noncomputable def mDic2 (mk mv mk2 mv2 : EM) : LM := fun s => (mk s).bind fun k s1 => (mv s1).bind fun v s2 => (mk2 s2).bind fun k2 s3 => (mv2 s3).bind fun v2 s4 => match k, k2 with
  | .str z, .str z2 => .ok (.dic (putD (putD [] z v) z2 v2)) s4
  | _, _ => .stuck
section
variable {K : KA} {W : WX} {tk tv tk2 tv2 : TE} {mk mv mk2 mv2 : EM}
theorem sn_dic2 (hk : SimE K W tk mk) (hv : SimE K W tv mv) (hk2 : SimE K W tk2 mk2) (hv2 : SimE K W tv2 mv2) : SimN K W (tDisp [(tk, tv), (tk2, tv2)]) (mDic2 mk mv mk2 mv2) := by
  intro X ρ O s σ H Q S p D hD
  have S0 := S.hide hD (.dK [])
  have nX : ¬ X D := fun q => by
    obtain ⟨u, e⟩ := S.xo D q
    rw [hD] at e; cases e
  have v0 : Ex (view X ρ O H) (view (fun b => X b ∨ b = D) ρ O (upd H D (.dK []))) := by rw [view_hide hD]; exact Ex.refl _
  have fb : ∀ {ρ' O' H'}, Fut (fun b => X b ∨ b = D) ρ O (upd H D (.dK [])) ρ' O' H' → Fut X ρ O H ρ' O' H' := fun F => ⟨F.pre, (v0.trans F.ex).trans view_bare, fun b o hb e => F.xs b o (.inl hb) (Ex.new hD b o e)⟩
  unfold mDic2 at p
  show tk σ (upd H D (.dK [])) _
  refine hk (fun b => X b ∨ b = D) ρ O s σ _ _ S0 ?_
  cases e1 : mk s with
  | stuck => rw [e1] at p; exact p.elim
  | exc c s1 => rw [e1] at p; intro a b c S1 F1; exact p a b c S1.bare (fb F1)
  | ok k s1 =>
    rw [e1] at p
    intro ρ1 O1 H1 x S1 F1 r1
    show tv σ H1 _
    refine hv (fun b => X b ∨ b = D) ρ1 O1 s1 σ _ _ S1 ?_
    dsimp only [R.bind_ok] at p
    cases e2 : mv s1 with
    | stuck => rw [e2] at p; exact p.elim
    | exc c s2 => rw [e2] at p; intro a b c S2 F2; exact p a b c S2.bare (fb (F1.trans F2))
    | ok v s2 =>
      rw [e2] at p
      intro ρ2 O2 H2 u S2 F2 r2
      show tk2 σ H2 _
      refine hk2 (fun b => X b ∨ b = D) ρ2 O2 s2 σ _ _ S2 ?_
      dsimp only [R.bind_ok] at p
      cases e3 : mk2 s2 with
      | stuck => rw [e3] at p; exact p.elim
      | exc c s3 => rw [e3] at p; intro a b c S3 F3; exact p a b c S3.bare (fb ((F1.trans F2).trans F3))
      | ok k2 s3 =>
        rw [e3] at p
        intro ρ3 O3 H3 x2 S3 F3 r3
        show tv2 σ H3 _
        refine hv2 (fun b => X b ∨ b = D) ρ3 O3 s3 σ _ _ S3 ?_
        dsimp only [R.bind_ok] at p
        cases e4 : mv2 s3 with
        | stuck => rw [e4] at p; exact p.elim
        | exc c s4 => rw [e4] at p; intro a b c S4 F4; exact p a b c S4.bare (fb (((F1.trans F2).trans F3).trans F4))
        | ok v2 s4 =>
          rw [e4] at p
          intro ρ4 O4 H4 u2 S4 F4 r4
          have q1 := F4.rep (F3.rep (F2.rep r1))
          have q2 := F4.rep (F3.rep r2)
          have q3 := F4.rep r3
          have FA := ((F1.trans F2).trans F3).trans F4
          dsimp only [R.bind_ok] at p
          cases q1 with
          | str z => cases q3 with
            | str z2 =>
              dsimp only at p
              refine ⟨FA.xs D _ (.inr rfl) upd_same, [(.inr z, u), (.inr z2, u2)], rfl, by simp, ?_⟩
              have kd : KDR ρ4 K (view (fun b => X b ∨ b = D) ρ4 O4 H4) (putD (putD [] z v) z2 v2) (mergeK [] [(.inr z, u), (.inr z2, u2)]) := by
                have k0 : KDR ρ4 K (view (fun b => X b ∨ b = D) ρ4 O4 H4) [] [] := ⟨rfl, .nil⟩
                exact (k0.put z q2).put z2 r4
              refine p ρ4 O4 _ D ⟨S4.put _, nX, ⟨mergeK [] [(.inr z, u), (.inr z2, u2)], upd_same, kd.1, ?_⟩, FA.pre, ?_, fun b o hb e => ?_⟩
              · rw [view_put]; exact kd.2
              · rw [view_put]; exact v0.trans FA.ex
              · have ne : b ≠ D := fun q => nX (q ▸ hb)
                rw [upd_ne ne]
                exact FA.xs b o (.inl hb) (Ex.new hD b o e)
            | _ => exact p.elim
          | _ => exact p.elim
end
section
variable {ct : String → Addr} {X : Cx} {W : WX} {k v k2 v2 : Expr} {tk tv tk2 tv2 : TE} {mk mv mk2 mv2 : EM} {pos : Pos}
theorem f_dic2 (hk : PEM ct X W k tk mk) (hv : PEM ct X W v tv mv) (hk2 : PEM ct X W k2 tk2 mk2) (hv2 : PEM ct X W v2 tv2 mv2) : PNM ct X W (.Dict [some k, some k2] [v, v2] pos) (tDisp [(tk, tv), (tk2, tv2)]) (mDic2 mk mv mk2 mv2) :=
  ⟨pe_disp (pps_cons hk.pe hv.pe (pps_cons hk2.pe hv2.pe pps_nil)) rfl rfl (by intro z; cases z) (by simp), sn_dic2 hk.sim hv.sim hk2.sim hv2.sim⟩
end
end M

namespace M
open PySem PySem.Spec L2 PyProof.Rows
open Classical

/-! ## walks over a dict by what stands at each turn -/
theorem forMG_inv {g : GM} {b : SM} {n : Nat} {kvs : List (Str × MV)} (P : Nat → List SV → MHeap → Prop) (xs : List MV) (hn : ∀ i e G, P i e G → n < G.length)
    (t : ∀ i m e G, xs[i]? = some m → P i e G → ∃ e1 e2 G2, P (i + 1) e2 G2 ∧ ∀ od fs, g m ⟨e, G.set n (.lck od fs kvs)⟩ = some ⟨e1, G.set n (.lck od fs kvs)⟩ ∧ b ⟨e1, G.set n (.lck od fs kvs)⟩ = .ok .nx ⟨e2, G2.set n (.lck od fs kvs)⟩) :
    ∀ (r k : Nat) (e : List SV) (G : MHeap), k + r = xs.length → P k e G → ∃ e' G', P xs.length e' G' ∧ ∀ od fs, forMG g b n (.lck od fs kvs) (xs.drop k) ⟨e, G.set n (.lck od fs kvs)⟩ = .ok .nx ⟨e', G'.set n (.lck od fs kvs)⟩
  | 0, k, e, G, hk, hp => by
    have ek : k = xs.length := by omega
    subst ek
    refine ⟨e, G, hp, fun od fs => ?_⟩
    rw [List.drop_length]
    unfold forMG
    rw [if_pos (List.getElem?_set_self (hn _ _ _ hp))]
  | r + 1, k, e, G, hk, hp => by
    have kl : k < xs.length := by omega
    obtain ⟨e1, e2, G2, h1, h2⟩ := t k xs[k] e G (List.getElem?_eq_getElem kl) hp
    obtain ⟨e', G', h3, h4⟩ := forMG_inv P xs hn t r (k + 1) e2 G2 (by omega) h1
    refine ⟨e', G', h3, fun od fs => ?_⟩
    obtain ⟨h5, h6⟩ := h2 od fs
    rw [List.drop_eq_getElem_cons kl]
    unfold forMG
    rw [if_pos (List.getElem?_set_self (hn _ _ _ hp)), h5]
    simp only [h6]
    exact h4 od fs
theorem mForD_inv {sel : Str × MV → MV} {m : EM} {g : GM} {b : SM} {s : MS} {n : Nat} {kvs : List (Str × MV)} (P : Nat → List SV → MHeap → Prop) (hm : m s = .ok (.ref n) s) (hd : ∀ i e G, P i e G → G[n]? = some (.dic kvs)) (h0 : P 0 s.env s.G)
    (t : ∀ i p e G, kvs[i]? = some p → P i e G → ∃ e1 e2 G2, P (i + 1) e2 G2 ∧ ∀ od fs, g (sel p) ⟨e, G.set n (.lck od fs kvs)⟩ = some ⟨e1, G.set n (.lck od fs kvs)⟩ ∧ b ⟨e1, G.set n (.lck od fs kvs)⟩ = .ok .nx ⟨e2, G2.set n (.lck od fs kvs)⟩) :
    ∃ e' G', P kvs.length e' G' ∧ mForD sel m g b s = .ok .nx ⟨e', G'⟩ := by
  obtain ⟨e', G', h1, h2⟩ := forMG_inv (g := g) (b := b) (n := n) (kvs := kvs) P (kvs.map sel) (fun i e G h => (List.getElem?_eq_some_iff.mp (hd i e G h)).1) (fun i mv e G hmv hp => by
    rw [List.getElem?_map] at hmv
    obtain ⟨p, hp1, rfl⟩ := Option.map_eq_some_iff.mp hmv
    exact t i p e G hp1 hp) (kvs.map sel).length 0 s.env s.G (by omega) h0
  rw [List.length_map] at h1
  refine ⟨e', G', h1, ?_⟩
  have hd' := hd _ _ _ h1
  have hl := (List.getElem?_eq_some_iff.mp hd').1
  have e0 : G'.set n (.dic kvs) = G' := by
    apply List.ext_getElem?
    intro i
    by_cases q : n = i
    · subst q; rw [List.getElem?_set_self hl, hd']
    · rw [List.getElem?_set_ne q]
  unfold mForD
  simp only [hm, if_true, hd 0 _ _ h0]
  have := runD_ok (g := g) (b := b) (n := n) (kvs := kvs) (xs := kvs.map sel) (s := s) (f := .nx) (e := e') (G := G') (fun od fs => by
    have := h2 od fs
    rw [List.drop_zero] at this
    exact this)
  rw [e0] at this
  exact this
end M

namespace M
open PySem PySem.Spec L2 PyProof.Rows
open Classical

/-! ## // by a divisor of any size, where the quotient is small -/
noncomputable def oDivW : MV → MV → EM := fun x y s => match x, y with
  | .int i, .int j => if CDivP i j then .ok (.int (i / j)) s else .stuck
  | _, _ => .stuck
def rDivW : R2 := rI CDivP fun i j => .int (i / j)
theorem op_divW {X : Cx} : OpR X (binaryOp .FloorDiv) rDivW := opI fun i j _ _ _ _ _ hc q => by
  have h := hc.1
  exact floordiv_int (by omega) (by rw [Int.fdiv_eq_ediv_of_nonneg i (by omega)]; exact q) (.inl hc.2)
section
variable {K : KA}
theorem so_divW : SimOp K rDivW oDivW := by
  intro X W ρ O s σ H x y v u Q S rx ry p
  cases rx with
  | int i => cases ry with
    | int j =>
      unfold oDivW at p
      by_cases h : CDivP i j
      · simp only [if_pos h] at p
        exact ⟨i, j, rfl, rfl, h, p.done S (.int _)⟩
      · simp only [if_neg h] at p; exact p.elim
    | _ => exact p.elim
  | _ => cases ry <;> exact p.elim
end
section
variable {ct : String → Addr} {X : Cx} {W : WX} {a b : Expr} {ta tb : TE} {ma mb : EM} {pos : Pos}
theorem e_divW (ha : PEM ct X W a ta ma) (hb : PEM ct X W b tb mb) : PEM ct X W (.BinOp a .FloorDiv b pos) (tOp rDivW ta tb) (mBin oDivW ma mb) := ⟨pe_op op_divW ha.pe hb.pe, sim_op ha.sim hb.sim so_divW⟩
end
theorem oDivW_ok {i j : Int} {s : MS} (h : 0 < j) (hq : Builtin.Int.intBits i ≤ Builtin.Int.intBits j + 4000) : oDivW (.int i) (.int j) s = .ok (.int (i / j)) s := by
  unfold oDivW
  simp only [if_pos (divp_ok h hq)]
/-- the same by a bound of the dividend -/
theorem bits_up {i j : Int} {n : Nat} (h : i.natAbs ≤ j.natAbs * 2 ^ n) (hj : 0 < j) : Builtin.Int.intBits i ≤ Builtin.Int.intBits j + n := by
  unfold Builtin.Int.intBits
  rw [if_neg (show ¬ (j == 0) = true by simpa using (show j ≠ 0 by omega))]
  split
  · omega
  · rename_i z
    have i0 : i.natAbs ≠ 0 := by
      intro e
      exact z (by simpa using Int.natAbs_eq_zero.mp e)
    have hl : i.natAbs.log2 < j.natAbs.log2 + 1 + n := by
      rw [Nat.log2_lt i0]
      have : j.natAbs < 2 ^ (j.natAbs.log2 + 1) := Nat.lt_log2_self
      rw [Nat.pow_add]
      exact Nat.lt_of_le_of_lt h (Nat.mul_lt_mul_of_pos_right this (Nat.pow_pos (by decide)))
    omega
theorem oDivW_up {i j : Int} {n : Nat} {s : MS} (h : 0 < j) (hn : n ≤ 4000) (hq : i.natAbs ≤ j.natAbs * 2 ^ n) : oDivW (.int i) (.int j) s = .ok (.int (i / j)) s := oDivW_ok h (by have := bits_up hq h; omega)
end M

namespace M
open PySem PySem.Spec L2 PyProof.Rows
open Classical

/-! ## a live dict against another one, both empty -/
noncomputable def oNeD0 : MV → MV → EM := fun x y s => match x, y with
  | .ref n, .ref m => (match s.G[n]?, s.G[m]? with
    | some (.dic ka), some (.dic kb) => if ka.length = 0 ∧ kb.length = 0 then .ok (.bl false) s else .stuck
    | _, _ => .stuck)
  | _, _ => .stuck
section
variable {K : KA}
theorem so_neD0 : SimOp K rNeDA oNeD0 := by
  intro X W ρ O s σ H x y v u Q S rx ry p
  unfold oNeD0 at p
  cases rx with
  | ref hn => cases ry with
    | ref hm =>
      rename_i n a m b
      dsimp only at p
      cases g1 : s.G[n]? with
      | none => simp only [g1] at p; exact p.elim
      | some o1 => cases g2 : s.G[m]? with
        | none => cases o1 <;> (simp only [g1, g2] at p; exact p.elim)
        | some o2 =>
          cases o1 with
          | dic ka => cases o2 with
            | dic kb =>
              simp only [g1, g2] at p
              by_cases h : ka.length = 0 ∧ kb.length = 0
              · rw [if_pos h] at p
                obtain ⟨fs, h1, k1⟩ := S.refD hn g1
                obtain ⟨gs, h2, k2⟩ := S.refD hm g2
                have l1 := k1.len
                have l2 := k2.len
                have e1 : fs = [] := List.length_eq_zero_iff.mp (by omega)
                subst e1
                exact ⟨_, _, [], gs, rfl, rfl, h1, h2, by simp; omega, fun q hq => (by simp at hq), p.done S (.bl _)⟩
              · rw [if_neg h] at p; exact p.elim
            | _ => simp only [g1, g2] at p; exact p.elim
          | _ => simp only [g1, g2] at p; exact p.elim
    | _ => exact p.elim
  | _ => exact p.elim
end
theorem oNeD0_ok {n m : Nat} {s : MS} (h1 : s.G[n]? = some (.dic [])) (h2 : s.G[m]? = some (.dic [])) : oNeD0 (.ref n) (.ref m) s = .ok (.bl false) s := by
  unfold oNeD0
  simp only [h1, h2]
  rfl
/-! ## a comprehension whose elements make objects -/
section
variable {α : Type} {g : GM} {t : TM} {el : EM} {vs : List Nat}
theorem lcM_inv {E0 : List SV} (e f : α → MV) (P : Nat → MHeap → Prop) (xs : List α) (h : ∀ i x G, xs[i]? = some x → P i G → ∃ s', lcOne g t el vs E0 (e x) G = .ok (some (f x)) s' ∧ P (i + 1) s'.G) :
    ∀ (r k : Nat) (acc : List MV) (G : MHeap), k + r = xs.length → P k G → ∃ G', P xs.length G' ∧ lcM g t el vs E0 ((xs.drop k).map e) acc G = .ok (acc ++ (xs.drop k).map f) ⟨E0, G'⟩
  | 0, k, acc, G, hk, hp => by
    have ek : k = xs.length := by omega
    subst ek
    refine ⟨G, hp, ?_⟩
    rw [List.drop_length]
    simp [lcM]
  | r + 1, k, acc, G, hk, hp => by
    have kl : k < xs.length := by omega
    obtain ⟨s', h1, h2⟩ := h k xs[k] G (List.getElem?_eq_getElem kl) hp
    obtain ⟨G', h3, h4⟩ := lcM_inv e f P xs h r (k + 1) (acc ++ [f xs[k]]) s'.G (by omega) h2
    refine ⟨G', h3, ?_⟩
    rw [List.drop_eq_getElem_cons kl, List.map_cons, lcM]
    simp only [h1, h4, List.map_cons, List.append_assoc, List.cons_append, List.nil_append]
theorem lcEnd_inv {s : MS} (e f : α → MV) (P : Nat → MHeap → Prop) (xs : List α) (hl : xs.length ≤ 16777216) (hn : noOw s.env vs = true) (h0 : P 0 s.G) (h : ∀ i x G, xs[i]? = some x → P i G → ∃ s', lcOne g t el vs (wipeE s.env vs) (e x) G = .ok (some (f x)) s' ∧ P (i + 1) s'.G) :
    ∃ G', P xs.length G' ∧ lcEnd g t el vs (xs.map e) s = .ok (.lst (xs.map f)) ⟨s.env, G'⟩ := by
  obtain ⟨G', h1, h2⟩ := lcM_inv e f P xs h xs.length 0 [] s.G (by omega) h0
  rw [List.drop_zero, List.nil_append] at h2
  refine ⟨G', h1, ?_⟩
  unfold lcEnd
  have hl2 : lim (xs.map e).length := by
    rw [List.length_map]
    exact hl
  rw [if_pos hl2, if_pos hn, h2]
end
end M

namespace M
open PySem PySem.Spec L2 PyProof.Rows
open Classical

/-! ## 1 << k -/
noncomputable def oShl : MV → MV → EM := fun x y s => match x, y with
  | .int i, .int j => if i = 1 ∧ 0 ≤ j ∧ j ≤ 1000 then .ok (.int ((2 ^ j.toNat : Nat) : Int)) s else .stuck
  | _, _ => .stuck
def rShl : R2 := fun x y H Q => ∃ k : Nat, x = .int 1 ∧ y = .int (k : Int) ∧ k ≤ 134217727 ∧ Q (.int (2 ^ k)) H
section
variable {K : KA}
theorem so_shl : SimOp K rShl oShl := by
  intro X W ρ O s σ H x y v u Q S rx ry p
  cases rx with
  | int i => cases ry with
    | int j =>
      unfold oShl at p
      by_cases h : i = 1 ∧ 0 ≤ j ∧ j ≤ 1000
      · simp only [if_pos h] at p
        obtain ⟨rfl, h1, h2⟩ := h
        refine ⟨j.toNat, rfl, by rw [Int.toNat_of_nonneg h1], by omega, ?_⟩
        rw [show ((2 : Int) ^ j.toNat) = ((2 ^ j.toNat : Nat) : Int) by push_cast; rfl]
        exact p.done S (.int _)
      · simp only [if_neg h] at p; exact p.elim
    | _ => exact p.elim
  | _ => cases ry <;> exact p.elim
end
section
variable {ct : String → Addr} {X : Cx} {W : WX} {a b : Expr} {ta tb : TE} {ma mb : EM} {pos : Pos}
theorem e_shl (ha : PEM ct X W a ta ma) (hb : PEM ct X W b tb mb) : PEM ct X W (.BinOp a .LShift b pos) (tOp rShl ta tb) (mBin oShl ma mb) := ⟨pe_op op_oneShl ha.pe hb.pe, sim_op ha.sim hb.sim so_shl⟩
end
theorem oShl_ok {k : Nat} {s : MS} (h : k ≤ 1000) : oShl (.int 1) (.int (k : Int)) s = .ok (.int ((2 ^ k : Nat) : Int)) s := by
  unfold oShl
  dsimp only
  rw [if_pos (show ((1 : Int) = 1 ∧ 0 ≤ (k : Int) ∧ (k : Int) ≤ 1000) by omega), Int.toNat_natCast]
end M

namespace M
open PySem PySem.Spec L2 PyProof.Rows
open Classical

/-! ## == of two dicts with rows of numbers that are equal -/
noncomputable def oEqDV : MV → MV → EM := fun x y s => match x, y with
  | .ref n, .ref m => (match s.G[n]?, s.G[m]? with
    | some (.dic ka), some (.dic kb) => if ka.length = kb.length ∧ ∀ p ∈ ka, ∃ ns : List Int, p.2 = .lst (ns.map MV.int) ∧ valD kb p.1 = some p.2 then .ok (.bl true) s else .stuck
    | _, _ => .stuck)
  | _, _ => .stuck
section
variable {K : KA}
theorem paired_ints {F : V → V → Prop} (h : ∀ x : Int, F (.int x) (.int x)) : ∀ ns : List Int, Paired F (ns.map V.int) (ns.map V.int)
  | [] => .nil
  | n :: ns => .cons (h n) (paired_ints h ns)
theorem so_eqDV : SimOp K (rEqV K.F) oEqDV := by
  intro X W ρ O s σ H x y v u Q S rx ry p
  unfold oEqDV at p
  cases rx with
  | ref hn => cases ry with
    | ref hm =>
      rename_i n a m b
      dsimp only at p
      cases g1 : s.G[n]? with
      | none => simp only [g1] at p; exact p.elim
      | some o1 => cases g2 : s.G[m]? with
        | none => cases o1 <;> (simp only [g1, g2] at p; exact p.elim)
        | some o2 =>
          cases o1 with
          | dic ka => cases o2 with
            | dic kb =>
              simp only [g1, g2] at p
              by_cases h : ka.length = kb.length ∧ ∀ p ∈ ka, ∃ ns : List Int, p.2 = .lst (ns.map MV.int) ∧ valD kb p.1 = some p.2
              · rw [if_pos h] at p
                obtain ⟨fs, h1, k1⟩ := S.refD hn g1
                obtain ⟨gs, h2, k2⟩ := S.refD hm g2
                have l1 := k1.len
                have l2 := k2.len
                refine ⟨2, by decide, .inr ⟨_, _, fs, gs, rfl, rfl, h1, h2, by omega, fun q hq => ?_⟩, p.done S (.bl _)⟩
                obtain ⟨i, hi, e⟩ := List.getElem_of_mem hq
                obtain ⟨k, w⟩ := q
                obtain ⟨r, r1, r2, r3⟩ := kdr_get k1 (i := i) (k := k) (v := w) (by rw [List.getElem?_eq_getElem hi, e])
                obtain ⟨ns, e1, e2⟩ := h.2 r (List.mem_of_getElem? r1)
                subst r2
                rcases k2.val r.1 with ⟨c1, _⟩ | ⟨m2, v2, c1, c2, c3⟩
                · rw [e2] at c1; cases c1
                · rw [e2] at c1
                  cases c1
                  refine ⟨v2, c2, .inr (.inr ?_)⟩
                  rw [e1] at r3 c3
                  cases r3 with
                  | lst x1 y1 => cases c3 with
                    | lst x2 y2 =>
                      rename_i a1 us1 a2 us2
                      have z1 := y1.inv_ints
                      have z2 := y2.inv_ints
                      subst z1 z2
                      exact .inl ⟨a1, a2, _, _, rfl, rfl, sqlv x1, sqlv x2, paired_ints (fun x => .inl ⟨rfl, rfl⟩) ns⟩
              · rw [if_neg h] at p; exact p.elim
            | _ => simp only [g1, g2] at p; exact p.elim
          | _ => simp only [g1, g2] at p; exact p.elim
    | _ => exact p.elim
  | _ => exact p.elim
end
theorem oEqDV_ok {n m : Nat} {s : MS} {ka kb : List (Str × MV)} (h1 : s.G[n]? = some (.dic ka)) (h2 : s.G[m]? = some (.dic kb)) (hl : ka.length = kb.length) (h : ∀ p ∈ ka, ∃ ns : List Int, p.2 = .lst (ns.map MV.int) ∧ valD kb p.1 = some p.2) : oEqDV (.ref n) (.ref m) s = .ok (.bl true) s := by
  unfold oEqDV
  simp only [h1, h2]
  rw [if_pos ⟨hl, h⟩]
end M

namespace M
open PySem PySem.Spec L2 PyProof.Rows
open Classical

/-! ## enumerate(list) -/
def enumF : Nat → List MV → List MV
  | _, [] => []
  | k, x :: xs => .tup [.int (k : Int), x] :: enumF (k + 1) xs
theorem enumF_len : ∀ (k : Nat) (xs : List MV), (enumF k xs).length = xs.length
  | _, [] => rfl
  | k, x :: xs => by simp [enumF, enumF_len (k + 1) xs]
theorem enumF_get : ∀ (k : Nat) (xs : List MV) (i : Nat), (enumF k xs)[i]? = (xs[i]?).map fun x => MV.tup [.int ((k + i : Nat) : Int), x]
  | k, [], i => by simp [enumF]
  | k, x :: xs, 0 => by simp [enumF]
  | k, x :: xs, i + 1 => by
    rw [enumF, List.getElem?_cons_succ, List.getElem?_cons_succ, enumF_get (k + 1) xs i, show k + 1 + i = k + (i + 1) by omega]
def oEnum : List MV → MS → R (List MV) := fun xs s => match xs with
  | [a] => (match seqOf a with
    | some xs => .ok (enumF 0 xs) s
    | none => .stuck)
  | _ => .stuck
def iEnumM (a : AM) : AM := fun s => (a s).bind oEnum
section
variable {K : KA} {W : WX}
theorem si_enum {ta : TA} {ma : AM} (h : SimA K W ta ma) : SimI K W (iEnum K.F ta) (iEnumM ma) := by
  intro X ρ O s σ H Q S p
  refine h.bindI S p fun x s1 ρ1 O1 H1 v S1 F1 r1 p1 => ?_
  unfold oEnum at p1
  cases r1 with
  | nil => exact p1.elim
  | cons r1 rr => cases rr with
    | cons _ _ => exact p1.elim
    | nil =>
      rename_i a va
      dsimp only at p1
      cases ea : seqOf a with
      | none => rw [ea] at p1; exact p1.elim
      | some xs =>
        rw [ea] at p1
        obtain ⟨pa, us, rfl, ha, ra⟩ := rep_seq r1 ea
        have e1 := view_le X ρ1 O1 H1
        have hlen : (enumF 0 xs).length = us.length := by rw [enumF_len, ra.length]
        have hg : ∀ i, i < (enumF 0 xs).length → ∃ x u, us[i]? = some u ∧ (enumF 0 xs)[i]? = some (.tup [.int (i : Int), x]) ∧ Rep ρ1 K (view X ρ1 O1 H1) x u := fun i hi => by
          have hx : i < xs.length := by rw [enumF_len] at hi; exact hi
          obtain ⟨u, hu, ru⟩ := ra.get (List.getElem?_eq_getElem hx)
          exact ⟨xs[i], u, hu, by rw [enumF_get, List.getElem?_eq_getElem hx, Nat.zero_add]; rfl, ru⟩
        refine ⟨pa, us, rfl, sql_ex e1 ha, p1.done S1 ⟨fun i H2 e hi => ?_, fun H2 e => ?_, fun i H2 x H3 e hi y => ?_⟩⟩
        · obtain ⟨x, u, hu, _, _⟩ := hg i hi
          exact ⟨us, u, sql_ex e ha, hu⟩
        · exact ⟨us, sql_ex e ha, by rw [hlen]; exact Nat.le_refl _⟩
        · obtain ⟨T, u, rfl, hT, rfl, hu⟩ := y
          obtain ⟨x, u', hu', h3, ru⟩ := hg i hi
          have eu : u' = u := by have := hu us (sql_ex e ha); rw [hu'] at this; exact Option.some.inj this
          subst eu
          refine ⟨Ex.new hT, _, h3, fun X2 ρ2 O2 s2 σ2 S2 p2 e2 => ?_⟩
          refine .tup (.inl (.inl (S2.view_new hT))) ?_
          have e3 := e2.trans (view_ex (X := X2) (ρ := ρ2) (O := O2) (Ex.new (o := HO.tup [.int (i : Nat), u']) hT))
          exact .cons (.int _) (.cons (ru.mono p2 e3) .nil)
end
section
variable {ct : String → Addr} {X : Cx} {W : WX} {e : Expr} {ta : TA} {ma : AM} {p pos tpos : Pos} {elts : List Expr} {kk : Nat}
theorem i_enum (hm : X.mg "enumerate" = none) (ha : PAM ct X W [e] ta ma) (hg : Gl X "enumerate" := by rfl) (hs : starEach [e] X.env = [(false, eval e X.env)] := by rfl) :
    PIM ct X W (.Tuple elts kk tpos) (.Call (.Name "enumerate" p) [e] [] pos) (iEnum X.K ta) (iEnumM ma) := ⟨pi_enum hg hm ha.pe hs, si_enum ha.sim⟩
end
end M

namespace M
open PySem PySem.Spec L2 PyProof.Rows
open Classical

/-! ## dict(d): a copy -/
noncomputable def mDicC (me : EM) : LM := fun s => (me s).bind fun x s1 => match x with
  | .ref n => (match s1.G[n]? with
    | some (.dic kvs) => .ok (.dic kvs) s1
    | _ => .stuck)
  | _ => .stuck
def rDictC : List V → Hp → VK → Prop := fun xs H Q => ∃ (a : Addr) (kvs : List (Key × V)), xs = [.ref a] ∧ Rd H a (.dK kvs) ∧ ∀ p, H p = none → Q (.ref p) (upd H p (.dK kvs))
section
variable {K : KA} {W : WX} {te : TE} {me : EM}
theorem sn_dicC (h : SimE K W te me) : SimN K W (tCB rDictC (tCons te tNil)) (mDicC me) := by
  intro X ρ O s σ H Q S p
  show te σ H _
  refine h.bindN S p fun x s1 ρ1 O1 H1 v S1 F1 r1 p1 => ?_
  cases r1 with
  | ref hn =>
    rename_i n a
    dsimp only at p1
    cases g : s1.G[n]? with
    | none => simp only [g] at p1; exact p1.elim
    | some o => cases o with
      | dic kvs =>
        simp only [g] at p1
        obtain ⟨fs, hx, kr⟩ := S1.refD hn g
        refine ⟨a, fs, rfl, .inl hx, fun D hD => ?_⟩
        refine p1 ρ1 O1 _ D ⟨S1.hide hD _, fun q => ?_, ⟨fs, upd_same, kr.1, by rw [view_hide hD]; exact kr.2⟩, Pre.refl _, by rw [view_hide hD]; exact Ex.refl _, fun b o _ e => Ex.new hD b o e⟩
        obtain ⟨u, e⟩ := S1.xo D q
        rw [hD] at e; cases e
      | _ => simp only [g] at p1; exact p1.elim
  | _ => exact p1.elim
end
section
variable {ct : String → Addr} {X : Cx} {W : WX} {e : Expr} {te : TE} {me : EM} {p pos : Pos}
theorem f_dicC (hm : X.mg "dict" = none) (h : PEM ct X W e te me) (hg : Gl X "dict" := by rfl) (he : starEach [e] X.env = (false, eval e X.env) :: starEach [] X.env := by rfl) (hpl : (backTo pos (starEach [] X.env)).any (·.1) = false := by rfl) :
    PNM ct X W (.Call (.Name "dict" p) [e] [] pos) (tCB rDictC (tCons te tNil)) (mDicC me) := ⟨pe_callTy call_dictD hg hm (by decide +kernel) (pa_cons h.pe pa_nil he) (by decide) (by decide) he hpl, sn_dicC h.sim⟩
end
end M

namespace M
open PySem PySem.Spec L2 PyProof.Rows
open Classical

/-! ## comprehensions over a dict: it is locked meanwhile -/
noncomputable def lcMG (g : GM) (t : TM) (e : EM) (vs : List Nat) (E0 : List SV) (n : Nat) (o : MO) : List MV → List MV → MHeap → R (List MV)
  | [], acc, G => if G[n]? = some o then .ok acc ⟨E0, G⟩ else .stuck
  | x :: xs, acc, G => if G[n]? = some o then (match lcOne g t e vs E0 x G with
    | .ok (some y) s => lcMG g t e vs E0 n o xs (acc ++ [y]) s.G
    | .ok none s => lcMG g t e vs E0 n o xs acc s.G
    | _ => .stuck) else .stuck
def LcD (g : GM) (t : TM) (e : EM) (vs : List Nat) (n : Nat) (kvs : List (Str × MV)) (xs : List MV) (s : MS) (r : List MV × MHeap) : Prop :=
  ∀ od fs, lcMG g t e vs (wipeE s.env vs) n (.lck od fs kvs) xs [] (s.G.set n (.lck od fs kvs)) = .ok r.1 ⟨wipeE s.env vs, r.2.set n (.lck od fs kvs)⟩
noncomputable def mLcD (sel : Str × MV → MV) (m : EM) (vs : List Nat) (g : GM) (t : TM) (e : EM) : LM := fun s => match m s with
  | .ok (.ref n) s1 => if s1 = s then (match s.G[n]? with
    | some (.dic kvs) => if lim kvs.length ∧ noOw s.env vs = true then (if h : ∃ r, LcD g t e vs n kvs (kvs.map sel) s r then .ok (.lst (choose h).1) ⟨s.env, (choose h).2.set n (.dic kvs)⟩ else .stuck) else .stuck
    | _ => .stuck) else .stuck
  | _ => .stuck
section
variable {K : KA} {W : WX}
theorem sn_lcD {J : Addr → Obj → List (Key × V) → It} {sel : Str × MV → MV} (hJ : ItD K J sel) {ts vs : List Nat} {td : TE} {md : EM} {wi : TI} (hp : PureD K md td) (hw : ∀ σ H R d od fs, H d = some (.frz od (.dK fs)) → R (J d od fs) H → (∀ Q : VK, Q (.ref d) H → td σ H Q) → wi σ H R)
    {g : TG} {mg : GM} {tt : TT} {mt : TM} {te : TE} {me : EM} (hg : SimG K ts g mg) (ht : SimT K W0 tt mt) (he : SimE K W0 te me) (hts : ∀ i ∈ ts, i ∈ vs) : SimN K W (tLockE (tLc wi g tt te vs)) (mLcD sel md vs mg mt me) := by
  intro X ρ O s σ H Q S p
  unfold mLcD at p
  cases em : md s with
  | stuck => simp only [em] at p; exact p.elim
  | exc c s1 => simp only [em] at p; exact p.elim
  | ok x s1 =>
    cases x with
    | ref n =>
      simp only [em] at p
      by_cases es : s1 = s
      case neg => rw [if_neg es] at p; exact p.elim
      rw [if_pos es] at p
      subst es
      cases gg : s1.G[n]? with
      | none => simp only [gg] at p; exact p.elim
      | some o => cases o with
        | lst ms => simp only [gg] at p; exact p.elim
        | ins c ks ms => simp only [gg] at p; exact p.elim
        | lck od fs ms => simp only [gg] at p; exact p.elim
        | dic kvs =>
          simp only [gg] at p
          by_cases hln : lim kvs.length ∧ noOw s1.env vs = true
          case neg => rw [if_neg hln] at p; exact p.elim
          rw [if_pos hln] at p
          obtain ⟨hz, hn⟩ := hln
          by_cases hx : ∃ r, LcD mg mt me vs n kvs (kvs.map sel) s1 r
          case neg => rw [dif_neg hx] at p; exact p.elim
          rw [dif_pos hx] at p
          have c := choose_spec hx
          generalize choose hx = r at c p
          obtain ⟨ys, G'⟩ := r
          simp only at p
          obtain ⟨d, hd, fs, h1, h2⟩ := S.ob n _ gg
          have lfs : (kvs.map sel).length = fs.length := by have := congrArg List.length h2.1; simpa using this.symm
          refine ⟨d, .dK fs, h1, trivial, fun od => ?_⟩
          have er := c od fs
          simp only at er
          obtain ⟨S0, F0⟩ := S.setM (q := .lck od fs kvs) (ho := .frz od (.dK fs)) hd fun Hz hz => ⟨hz, h2⟩
          refine hw σ _ _ d od fs upd_same ?_ (fun Q q => hp X ρ O s1 σ H n d fs S em hd h1 od Q q)
          obtain ⟨H1, eH1⟩ : ∃ H1, upd H d (.frz od (.dK fs)) = H1 := ⟨_, rfl⟩
          rw [eH1] at S0 F0
          rw [eH1]
          intro D hD
          obtain ⟨O2, S2, F2⟩ := (S0.hide hD (.lst [])).wipe vs
          have v12 : Ex (view X ρ O H1) (view (fun b => X b ∨ b = D) ρ O2 (upd H1 D (.lst []))) := by
            have := F2.ex; rw [view_hide hD] at this; exact this
          obtain ⟨xs, exs⟩ : ∃ xs, kvs.map sel = xs := ⟨_, rfl⟩
          rw [exs] at er lfs
          have lxs : xs.length = kvs.length := by rw [← exs, List.length_map]
          refine ⟨fun i m H' => m = xs.length - i ∧ i ≤ xs.length ∧ ∃ ρ' O' G'' acc accv, H' D = some (.lst accv) ∧ Reps ρ' K (view (fun b => X b ∨ b = D) ρ' O' H') acc accv ∧ acc.length ≤ i ∧
              SR K (fun b => X b ∨ b = D) ρ' O' ⟨wipeE s1.env vs, G''⟩ (L2.wipe σ vs) H' ∧ Pre ρ ρ' ∧ Ex (view X ρ O H1) (view (fun b => X b ∨ b = D) ρ' O' H') ∧ (∀ b o, X b → H1 b = some o → H' b = some o) ∧
              lcMG mg mt me vs (wipeE s1.env vs) n (.lck od fs kvs) (xs.drop i) acc G'' = .ok ys ⟨wipeE s1.env vs, G'.set n (.lck od fs kvs)⟩,
            ⟨xs.length, by simp, Nat.zero_le _, ρ, O2, _, [], [], upd_same, .nil, Nat.le_refl _, S2, Pre.refl _, v12, fun b o hb e => Ex.new hD b o e, er⟩, ?_⟩
          rintro i m H2 ⟨rfl, hi', ρ2, O2, G2, acc, accv, hd2, ra, hl2, S2, q2, v2, x2, e2⟩
          have dn := q2 n d hd
          by_cases hlt : i < xs.length
          · have hdr : xs.drop i = xs[i] :: xs.drop (i + 1) := List.drop_eq_getElem_cons hlt
            rw [hdr] at e2
            unfold lcMG at e2
            by_cases g2 : G2[n]? = some (.lck od fs kvs)
            case neg => rw [if_neg g2] at e2; cases e2
            rw [if_pos g2] at e2
            obtain ⟨hz2, kd⟩ := S2.lckD dn g2
            refine .inr ⟨hJ.go d od fs i H2 hz2 (by omega), fun H' => i + 1 ≤ xs.length ∧ ∃ ρ' O' G'' acc accv, H' D = some (.lst accv) ∧ Reps ρ' K (view (fun b => X b ∨ b = D) ρ' O' H') acc accv ∧ acc.length ≤ i + 1 ∧
                SR K (fun b => X b ∨ b = D) ρ' O' ⟨wipeE s1.env vs, G''⟩ (L2.wipe σ vs) H' ∧ Pre ρ ρ' ∧ Ex (view X ρ O H1) (view (fun b => X b ∨ b = D) ρ' O' H') ∧ (∀ b o, X b → H1 b = some o → H' b = some o) ∧
                lcMG mg mt me vs (wipeE s1.env vs) n (.lck od fs kvs) (xs.drop (i + 1)) acc G'' = .ok ys ⟨wipeE s1.env vs, G'.set n (.lck od fs kvs)⟩, fun H' h => ⟨xs.length - (i + 1), by omega, rfl, h⟩, fun x H3 y => ?_⟩
            obtain ⟨e23, pq, hpq, r3⟩ := hJ.yld d od fs i H2 x H3 _ ρ2 O2 _ _ kvs y S2 kd
            have ei : xs[i] = sel pq := by
              have : (kvs.map sel)[i]? = some (sel pq) := by rw [List.getElem?_map, hpq]; rfl
              rw [exs, List.getElem?_eq_getElem hlt] at this
              exact Option.some.inj this
            rw [ei] at e2
            unfold lcOne at e2
            cases eg : mg (sel pq) ⟨wipeE s1.env vs, G2⟩ with
            | none => simp only [eg] at e2; cases e2
            | some s3 =>
              simp only [eg] at e2
              have S3 := S2.grow e23
              refine hg _ ρ2 O2 _ _ H3 (sel pq) x s3 _ S3 r3 eg fun O4 σ4 S4 F4 T4 => ?_
              have tw : L2.wipe σ4 vs = L2.wipe σ vs := (T4 vs hts).trans (wipe_idem σ vs)
              refine ⟨tw, ?_⟩
              have F24 : Fut (fun b => X b ∨ b = D) ρ2 O2 H2 ρ2 O4 H3 := (Fut.grow e23).trans F4
              refine ht _ ρ2 O4 s3 σ4 H3 _ S4 ?_
              cases et : mt s3 with
              | stuck => simp only [et, R.bind_stuck] at e2; cases e2
              | exc c s5 => simp only [et, R.bind_exc] at e2; cases e2
              | ok b s5 =>
                simp only [et, R.bind_ok] at e2
                intro ρ5 O5 H5 S5 F5
                have F25 := F24.trans F5
                cases b with
                | false =>
                  simp only [Bool.false_eq_true, if_false] at e2 ⊢
                  by_cases hw : wipeE s5.env vs = wipeE s1.env vs
                  · rw [if_pos hw] at e2
                    simp only at e2
                    obtain ⟨O6, S6, F6⟩ := S5.wipe vs
                    have F26 := F25.trans F6
                    rw [hw, tw] at S6
                    exact ⟨hlt, ρ5, O6, s5.G, acc, accv, F26.xs D _ (.inr rfl) hd2, F26.reps ra, by omega, S6, q2.trans F26.pre, v2.trans F26.ex, fun b o hb e => F26.xs b o (.inl hb) (x2 b o hb e), e2⟩
                  · rw [if_neg hw] at e2; cases e2
                | true =>
                  simp only [if_true] at e2 ⊢
                  refine he _ ρ5 O5 s5 σ4 H5 _ S5 ?_
                  cases ee : me s5 with
                  | stuck => simp only [ee, R.bind_stuck] at e2; cases e2
                  | exc c s7 => simp only [ee, R.bind_exc] at e2; cases e2
                  | ok y s7 =>
                    simp only [ee, R.bind_ok] at e2
                    intro ρ7 O7 H7 v S7 F7 r7
                    have F27 := F25.trans F7
                    by_cases hw : wipeE s7.env vs = wipeE s1.env vs
                    · rw [if_pos hw] at e2
                      simp only at e2
                      obtain ⟨O8, S8, F8⟩ := S7.wipe vs
                      have F28 := F27.trans F8
                      rw [hw, tw] at S8
                      have hd7 := F28.xs D _ (.inr rfl) hd2
                      have la : accv.length = acc.length := ra.length.symm
                      refine ⟨accv, hd7, ?_, hlt, ρ7, O8, s7.G, acc ++ [y], accv ++ [v], upd_same, ?_, by simp; omega, S8.put _, q2.trans F28.pre, ?_, fun b o hb e => ?_, e2⟩
                      · have hz' : kvs.length ≤ 16777216 := hz
                        rw [sizeLine_eq, la]
                        omega
                      · rw [view_put]
                        exact (F28.reps ra).append (.cons (F8.rep r7) .nil)
                      · rw [view_put]; exact v2.trans F28.ex
                      · have h7 := F28.xs b o (.inl hb) (x2 b o hb e)
                        have ne : b ≠ D := fun q => by
                          subst q
                          rw [hD] at e; cases e
                        rw [upd_ne ne]; exact h7
                    · rw [if_neg hw] at e2; cases e2
          · have e : i = xs.length := by omega
            subst e
            rw [List.drop_length] at e2
            unfold lcMG at e2
            by_cases g2 : G2[n]? = some (.lck od fs kvs)
            case neg => rw [if_neg g2] at e2; cases e2
            rw [if_pos g2] at e2
            obtain ⟨e3, e4⟩ := R.ok.inj e2
            subst e3
            have e4 : G2 = G'.set n (.lck od fs kvs) := congrArg MS.G e4
            obtain ⟨hz2, kd⟩ := S2.lckD dn g2
            have SB := S0.backH hn q2 v2 S2
            have kd' := (SB.lckD dn g2).2
            obtain ⟨S9, F9⟩ := SB.setM (q := .dic kvs) (ho := .dK fs) dn fun Hz hz => ⟨fs, hz, kd'⟩
            have eG : G2.set n (.dic kvs) = G'.set n (.dic kvs) := by rw [e4, List.set_set]
            have S9 : SR K (fun b => X b ∨ b = D) ρ2 O2 ⟨s1.env, G'.set n (.dic kvs)⟩ σ (upd H2 d (.dK fs)) := by rw [← eG]; exact S9
            refine .inl ⟨by rw [lfs]; exact hJ.stop d od fs H2 hz2, hz2, ?_⟩
            refine p ρ2 O2 _ D ⟨S9, fun q => ?_, ⟨accv, F9.xs D _ (.inr rfl) hd2, ra.mono (Pre.refl _) F9.ex⟩, q2, (F0.ex.trans v2).trans F9.ex, fun b o hb e => F9.xs b o (.inl hb) (x2 b o hb (F0.xs b o hb e))⟩
            obtain ⟨o, ho⟩ := S0.xo D q
            rw [hD] at ho; cases ho
    | _ => simp only [em] at p; exact p.elim
end
section
variable {g : GM} {t : TM} {e : EM} {vs : List Nat} {n : Nat} {kvs : List (Str × MV)} {sel : Str × MV → MV}
theorem lcMG_opt {E0 : List SV} {o : MO} {G : MHeap} {f : Str × MV → Option MV} (hG : G[n]? = some o) : ∀ (ps : List (Str × MV)) (acc : List MV), (∀ p ∈ ps, ∃ s', lcOne g t e vs E0 (sel p) G = .ok (f p) s' ∧ s'.G = G) → lcMG g t e vs E0 n o (ps.map sel) acc G = .ok (acc ++ ps.filterMap f) ⟨E0, G⟩
  | [], acc, _ => by
    rw [List.map_nil, lcMG, if_pos hG, List.filterMap_nil, List.append_nil]
  | p :: ps, acc, h => by
    obtain ⟨s', e1, e2⟩ := h p List.mem_cons_self
    have ih := fun acc => lcMG_opt hG ps acc fun q hq => h q (List.mem_cons_of_mem _ hq)
    rw [List.map_cons, lcMG, if_pos hG, e1]
    cases q : f p with
    | none =>
      simp only
      rw [e2, ih, List.filterMap_cons_none q]
    | some y =>
      simp only
      rw [e2, ih, List.filterMap_cons_some q, List.append_assoc]
      rfl
theorem mLcD_opt {m : EM} {env : List SV} {G : MHeap} {f : Str × MV → Option MV} (hm : m ⟨env, G⟩ = .ok (.ref n) ⟨env, G⟩) (hG : G[n]? = some (.dic kvs)) (hl : kvs.length ≤ 16777216) (hn : noOw env vs = true)
    (h : ∀ od fs, ∀ p ∈ kvs, ∃ s', lcOne g t e vs (wipeE env vs) (sel p) (G.set n (.lck od fs kvs)) = .ok (f p) s' ∧ s'.G = G.set n (.lck od fs kvs)) : mFrz (mLcD sel m vs g t e) ⟨env, G⟩ = .ok (.lst (kvs.filterMap f)) ⟨env, G⟩ := by
  have hk : n < G.length := (List.getElem?_eq_some_iff.mp hG).1
  have L : LcD g t e vs n kvs (kvs.map sel) ⟨env, G⟩ (kvs.filterMap f, G) := fun od fs => by
    have := lcMG_opt (g := g) (t := t) (e := e) (vs := vs) (sel := sel) (E0 := wipeE env vs) (o := .lck od fs kvs) (G := G.set n (.lck od fs kvs)) (f := f) (List.getElem?_set_self hk) kvs [] (h od fs)
    rw [List.nil_append] at this
    exact this
  have hx : ∃ r, LcD g t e vs n kvs (kvs.map sel) ⟨env, G⟩ r := ⟨_, L⟩
  have key : (choose hx).1 = kvs.filterMap f ∧ (choose hx).2.set n (.dic kvs) = G := by
    have c := choose_spec hx
    have e1 := (c (default : Obj) []).symm.trans (L (default : Obj) [])
    obtain ⟨e2, e3⟩ := R.ok.inj e1
    obtain ⟨_, e5⟩ := MS.mk.inj e3
    have e6 := congrArg (fun z : MHeap => z.set n (.dic kvs)) e5
    simp only [List.set_set] at e6
    refine ⟨e2, e6.trans ?_⟩
    apply List.ext_getElem?
    intro j
    by_cases q : n = j
    · subst q; rw [List.getElem?_set_self hk, hG]
    · rw [List.getElem?_set_ne q]
  unfold mFrz mLcD
  simp only [hm, if_true, hG]
  rw [if_pos ⟨hl, hn⟩, dif_pos hx, key.1, key.2]
  rfl
end
section
variable {ct : String → Addr} {X : Cx} {W : WX} {scope : Scope} {elt tg : Expr} {ifs : List Expr} {mg : GM} {mt : TM} {me : EM} {ts : List Nat} {p : Pos} {y : Str}
/-- [elt for tg in d if ..], d a variable -/
theorem f_lcDk (i : Nat) {own : List (Str × Nat)} {pos : Pos}
    (hsc : X.N.Nodup) (ok : BlkOk X.N X.env.scope scope own)
    (hg : ∀ s H C cl fp, ∃ g, PGM ct (blkX X scope s H C cl fp) tg ts g mg) (ht : ∀ s H C cl fp, ∃ te, PQM ct (blkX X scope s H C cl fp) W0 ifs te mt)
    (he : ∀ s H C cl fp, ∃ te, PEM ct (blkX X scope s H C cl fp) W0 elt te me)
    (hN : X.N[i]? = some y := by rfl) (hv : Vis X.env.scope y := by first | exact Or.inl rfl | exact Or.inr (Or.inl rfl) | exact Or.inr (Or.inr rfl)) (hd : (y == ("__debug__" : Str)) = false := by decide) (hcd : (y == ("__classdict__" : Str)) = false := by decide)
    (hc : X.calm = true := by rfl) (hts : ∀ i ∈ ts, i ∈ own.map (·.2) := by decide) (hs : ∀ x, foldedSetIterable (.Name y p) X.env x = pure x := by intro _; rfl) :
    PNM ct X W (.ListComp elt [⟨tg, .Name y p, ifs, 0⟩] scope pos) (tLockE (tLc (iKeys (tVar i)) (gAll ct X scope tg ts mg) (qAll ct X scope ifs mt) (eAll ct X scope elt me) (own.map (·.2)))) (mLcD selK (mVar i) (own.map (·.2)) mg mt me) :=
  ⟨pe_lock (pe_lc hc hsc (pi_keys (pe_var hN hv hd hcd)) ok (gAll_pe hg) (qAll_pe ht) (eAll_pe he) hs), sn_lcD (K := ⟨X.K, ct⟩) itD_keys (pureD_var i) (fun σ H R d od fs h r q => q _ ⟨d, od, rfl, .inl ⟨fs, h, r⟩⟩) gAll_sim qAll_sim eAll_sim hts⟩
end
end M

namespace M
open PySem PySem.Spec L2 PyProof.Rows
open Classical

/-! ## xs[i], any sign -/
def oIdxZ : MV → MV → EM := fun x y s => match x, y with
  | .lst xs, .int i => (match atI xs i with
    | some m => .ok m s
    | none => .stuck)
  | _, _ => .stuck
section
variable {K : KA}
theorem so_idxZ : SimOp K (rIx K.F) oIdxZ := by
  intro X W ρ O s σ H x y v u Q S rx ry p
  cases rx with
  | lst hx rx => cases ry with
    | int i =>
      rename_i a ms vs
      unfold oIdxZ at p
      dsimp only at p
      cases e : atI ms i with
      | none => rw [e] at p; exact p.elim
      | some m =>
        rw [e] at p
        unfold atI at e
        cases ej : ixN ms.length i with
        | none => rw [ej] at e; cases e
        | some j =>
          rw [ej] at e
          obtain ⟨w, hw, rw'⟩ := rx.get (show ms[j]? = some m from e)
          refine .inl ⟨a, vs, i, w, rfl, rfl, sqlv hx, ?_, p.done S rw'⟩
          unfold atI
          rw [← rx.length, ej]
          exact hw
    | _ => exact p.elim
  | _ => exact p.elim
end
section
variable {ct : String → Addr} {X : Cx} {W : WX} {a b : Expr} {ta tb : TE} {ma mb : EM} {pos : Pos}
theorem e_ixZ (ha : PEM ct X W a ta ma) (hb : PEM ct X W b tb mb) (hs : PlainIx b := by exact fun _ _ => rfl) : PEM ct X W (.Subscript a b pos) (tOp (rIx X.K) ta tb) (mBin oIdxZ ma mb) := ⟨pe_ix ix_seq ha.pe hb.pe hs, sim_op ha.sim hb.sim so_idxZ⟩
end
theorem oIdxZ_last {xs : List MV} {m : MV} {s : MS} (h : xs[xs.length - 1]? = some m) : oIdxZ (.lst xs) (.int (-1)) s = .ok m s := by
  have hl := (List.getElem?_eq_some_iff.mp h).1
  have e : ixN xs.length (-1) = some (xs.length - 1) := by
    unfold ixN
    rw [if_neg (by decide), if_pos (by omega)]
    congr 1
    omega
  have : atI xs (-1) = some m := by
    unfold atI
    rw [e]
    exact h
  unfold oIdxZ
  simp only [this]
end M

namespace M
open PySem PySem.Spec L2 PyProof.Rows
open Classical

/-! ## sorted of a list, frozen or live; xs.index(z) of signs' texts -/
/-- the members of a list of texts -/
def strsG (G : MHeap) : MV → Option (List Str)
  | .lst xs => strsOf xs
  | .ref n => (match G[n]? with
    | some (.lst xs) => strsOf xs
    | _ => none)
  | _ => none
noncomputable def bSortR : List MV → EM := fun xs s => match xs with
  | [x] => (match strsG s.G x with
    | some ks => if ks.length < 64 then .ok (.lst ((srtS ks).map MV.str)) s else .stuck
    | none => .stuck)
  | _ => .stuck
section
variable {K : KA} {X : Addr → Prop} {ρ : List Addr} {O : Nat → Option Addr} {s : MS} {σ : L2.St} {H : Hp}
theorem strsG_sql (S : SR K X ρ O s σ H) {x : MV} {v : V} {ks : List Str} (r : Rep ρ K (view X ρ O H) x v) (e : strsG s.G x = some ks) : ∃ a, v = .ref a ∧ SqL K.F H a (ks.map V.str) := by
  cases r with
  | lst hx rx =>
    have e := e
    unfold strsG at e
    have ev := strsOf_reps e rx
    subst ev
    exact ⟨_, rfl, sqlv hx⟩
  | ref hn =>
    rename_i n a
    unfold strsG at e
    simp only at e
    cases g : s.G[n]? with
    | none => simp only [g] at e; cases e
    | some o => cases o with
      | ins c ks vs => simp only [g] at e; cases e
      | dic ms => simp only [g] at e; cases e
      | lck od fs ms => simp only [g] at e; cases e
      | lst ms =>
        simp only [g] at e
        obtain ⟨vs, hx, rx⟩ := S.refL hn g
        have ev := strsOf_reps e rx
        subst ev
        exact ⟨_, rfl, sqlh hx⟩
  | _ => cases e
end
section
variable {K : KA}
theorem sc_sortR : SimC K (rSortedS K.F) bSortR := by
  intro X W ρ O s σ H xs vs Q S r p
  cases r with
  | nil => exact p.elim
  | cons r1 rr => cases rr with
    | cons _ _ => exact p.elim
    | nil =>
      rename_i x v
      unfold bSortR at p
      simp only at p
      cases e : strsG s.G x with
      | none => simp only [e] at p; exact p.elim
      | some ks =>
        simp only [e] at p
        by_cases hl : ks.length < 64
        · rw [if_pos hl] at p
          obtain ⟨a, rfl, hq⟩ := strsG_sql S r1 e
          refine ⟨a, ks, rfl, hq, hl, fun ys q pm so hq => ?_⟩
          rw [srtS_is pm so] at p
          exact p.grown S (Ex.new hq) (.lst (S.view_new hq) (reps_strs ys))
        · rw [if_neg hl] at p; exact p.elim
end
/-- xs.index(z) -/
noncomputable def mIndex (mr me : EM) : EM := fun s => (mr s).bind fun r s0 => (match strsG s0.G r with
  | some _ => (me s0).bind fun y s1 => (match strsG s1.G r, y with
    | some ks, .str z => if z ∈ ks then .ok (.int (ks.idxOf z : Nat)) s1 else .stuck
    | _, _ => .stuck)
  | none => .stuck)
section
variable {K : KA} {W : WX} {ta te : TE} {ma me : EM}
theorem idxOf_first {z : Str} : ∀ {ks : List Str} {m : Nat}, m < ks.idxOf z → ks[m]? ≠ some z
  | [], m, h => by simp
  | k :: ks, m, h => by
    rw [List.idxOf_cons] at h
    by_cases q : k = z
    · subst q; simp at h
    · have e : (k == z) = false := by simpa using q
      rw [e, cond_false] at h
      match m with
      | 0 => intro w; rw [List.getElem?_cons_zero] at w; exact q (Option.some.inj w)
      | m + 1 => rw [List.getElem?_cons_succ]; exact idxOf_first (by omega)
theorem sim_index (hr : SimE K W ta ma) (h : SimE K W te me) : SimE K W (tBM K.F "list" (rIndex K.F) ta (tCons te tNil)) (mIndex ma me) := by
  intro X ρ O s σ H Q S p
  refine hr.bindE S p fun r s0 ρ0 O0 H0 v S0 F0 r0 p0 => ?_
  cases e0 : strsG s0.G r with
  | none => simp only [e0] at p0; exact p0.elim
  | some ks0 =>
    simp only [e0] at p0
    obtain ⟨a, rfl, hq0⟩ := strsG_sql S0 r0 e0
    refine ⟨.inl ⟨rfl, _, hq0⟩, ?_⟩
    refine h.bindE S0 p0 fun y s1 ρ1 O1 H1 u S1 F1 r1 p1 => ?_
    cases e1 : strsG s1.G r with
    | none => simp only [e1] at p1; exact p1.elim
    | some ks =>
      cases r1 with
      | str z =>
        simp only [e1] at p1
        by_cases hz : z ∈ ks
        · rw [if_pos hz] at p1
          obtain ⟨a', e2, hq⟩ := strsG_sql S1 (F1.rep r0) e1
          cases e2
          have hl := List.idxOf_lt_length_iff.mpr hz
          refine ⟨a, ks.map V.str, .str z, ks.idxOf z, .str z, rfl, rfl, hq, rfl, ?_, ?_, ?_, ?_, p1.done S1 (.int _)⟩
          · rw [List.all_map, List.all_eq_true]; intro _ _; rfl
          · rw [List.getElem?_map, List.getElem?_eq_getElem hl, List.getElem_idxOf hl]; rfl
          · show (z == z) = true; simp
          · intro m z' hm hz'
            rw [List.getElem?_map] at hz'
            obtain ⟨k, hk, rfl⟩ := Option.map_eq_some_iff.mp hz'
            have ne : k ≠ z := fun w => idxOf_first hm (w ▸ hk)
            show (k == z) = false
            simpa using ne
        · rw [if_neg hz] at p1; exact p1.elim
      | _ => simp only [e1] at p1; exact p1.elim
end
section
variable {ct : String → Addr} {X : Cx} {W : WX} {r e : Expr} {ta te : TE} {ma me : EM} {pos apos : Pos}
theorem e_index (hr : PEM ct X W r ta ma) (h : PEM ct X W e te me)
    (he : starEach [e] X.env = (false, eval e X.env) :: starEach [] X.env := by rfl)
    (hbase : attributeBase r "index" X.env (eval r X.env) = eval r X.env := by rfl)
    (hfew : ((backTo pos (starEach [e] X.env)).all (fun x => !x.1) && (backToKw pos (keywordEach [] X.env)).all (fun x => x.1.isSome)
      && decide ([e].length + ([] : List Keyword).length + (if ([] : List Keyword).isEmpty then 0 else 1) < 30)) = true := by rfl)
    (hline : (apos.endLine == pos.line) = true := by rfl) (hplain : (backTo pos (starEach [] X.env)).any (·.1) = false := by rfl) :
    PEM ct X W (.Call (.Attribute r "index" apos) [e] [] pos) (tBM X.K "list" (rIndex X.K) ta (tCons te tNil)) (mIndex ma me) :=
  ⟨pe_bm PySem.F.plainAttrs_list PySem.F.slot_list_index PySem.F.type_list_index mt_index hr.pe (pa_cons h.pe pa_nil he) hbase hfew hline he hplain, sim_index hr.sim h.sim⟩
end
theorem bSortR_ok {x : MV} {ks : List Str} {s : MS} (h : strsG s.G x = some ks) (hl : ks.length < 64) : bSortR [x] s = .ok (.lst ((srtS ks).map MV.str)) s := by unfold bSortR; simp only [h, if_pos hl]
theorem mIndex_ok {mr me : EM} {s s0 s1 : MS} {r : MV} {z : Str} {ks ks0 : List Str} (h1 : mr s = .ok r s0) (h2 : strsG s0.G r = some ks0) (h3 : me s0 = .ok (.str z) s1) (h4 : strsG s1.G r = some ks) (hz : z ∈ ks) : mIndex mr me s = .ok (.int (ks.idxOf z : Nat)) s1 := by
  unfold mIndex; rw [h1, R.bind_ok, h2]; simp only; rw [h3, R.bind_ok]; simp only [h4, if_pos hz]
theorem strsG_ref {G : MHeap} {n : Nat} {ks : List Str} (h : G[n]? = some (.lst (ks.map MV.str))) : strsG G (.ref n) = some ks := by unfold strsG; simp only [h, strsOf_map]
theorem strsG_lst {G : MHeap} {ks : List Str} : strsG G (.lst (ks.map MV.str)) = some ks := strsOf_map ks
end M

namespace M
open PySem L2 PyProof.Rows
open Classical

/-! ## functions that never raise, called where the errors have none behind them -/
theorem noexc_of {fn : FM} (h : ∀ ms G c G', fn ms G ≠ .exc c G') : noexc fn = fn := by
  funext ms G
  unfold noexc
  cases e : fn ms G with
  | ok x G' => rfl
  | exc c G' => exact absurd e (h ms G c G')
  | stuck => rfl
section
variable {α β γ ε : Type}
theorem quiet_sF1 {ea : α → MV} {er : ε → MV} {P : α → Prop} {f : α → ε} : noexc (sF1 ea er P f) = sF1 ea er P f := noexc_of fun ms G c G' => by
  unfold sF1; split <;> exact fun e => nomatch e
theorem quiet_sF2 {ea : α → MV} {eb : β → MV} {er : ε → MV} {P : α → β → Prop} {f : α → β → ε} : noexc (sF2 ea eb er P f) = sF2 ea eb er P f := noexc_of fun ms G c G' => by
  unfold sF2; split <;> exact fun e => nomatch e
theorem quiet_sF3 {ea : α → MV} {eb : β → MV} {ec : γ → MV} {er : ε → MV} {P : α → β → γ → Prop} {f : α → β → γ → ε} : noexc (sF3 ea eb ec er P f) = sF3 ea eb ec er P f := noexc_of fun ms G c G' => by
  unfold sF3; split <;> exact fun e => nomatch e
end
section
variable {ct : String → Addr} {X : Cx} {W : WX} {e : Expr} {es : List Expr} {mr : AM} {p pos : Pos} {k : Nat} {fn : FM} {x : Str} {tr : TA}
theorem e_fnQq (I : FnI ct X.prog X.w X.K X.mg X.base x k fn) (hr : Room k X.A) (hq : noexc fn = fn)
    (ha : PAM ct X W (e :: es) tr mr) (hg : Gl X x := by rfl) (hdb : (x == ("__debug__" : Str)) = false := by decide) (he : starEach (e :: es) X.env = (false, eval e X.env) :: starEach es X.env := by rfl) (hpl : (backTo pos (starEach es X.env)).any (·.1) = false := by rfl) :
    PEM ct X W (.Call (.Name x p) (e :: es) [] pos) (tCallS (spM ⟨X.K, ct⟩ (noexc fn)) (fun _ _ _ _ => False) tr) (mCall fn mr) := by
  have h := e_fnQ (pos := pos) (p := p) I hr ha hg hdb he hpl
  rwa [show (mCall (noexc fn) mr) = mCall fn mr by rw [hq]] at h
end
end M

namespace M
open PySem PySem.Spec L2 PyProof.Rows
open Classical

/-! ## a list comprehension whose element may raise -/
section
variable {Mo : Model} {A : Around} {E : Value → Shared → Prop} {s : Shared} {Z : Obj → Prop} {base : Heap} {env : Env} {outer l : List Env} {L e : Addr}
/-- noted by a frame, the flight told of another place -/
theorem looks_fromZ {fl : Value} {Q : Unit → Shared → Prop} (hZ : HandSPX.Steady Z) (hfr : A.frames = some (env :: outer)) (hf : env.frame = some L)
    (hkb : base.StaysIn s.heap) (hen : base.get? e = none) (hl : s.heap.FunFrames base (env :: outer)) (ht : HandSPX.TracedZ s.heap base e Z fl) (hne : ¬ ((fl == rawInt L) = true))
    (hQ : ∀ h', HandSPX.HeldZ base (env :: outer) e Z L h' → s.heap.UpToSlots h' → Q () { s with heap := h' }) : wpAny Mo A (noteFrame (.ref e) env) Q E s := by
  obtain ⟨oe, vs, T, oT, ts, he, hz, hd, h1, hnT, hTe, hT, hdT, h3⟩ := ht
  unfold noteFrame
  simp only [hf]
  refine wpAny_bind (wpAny_field he hd h1 ?_)
  rw [if_pos (show (Value.ref T != Value.none) = true from by simp)]
  refine wpAny_bind (wpAny_field hT hdT h3 ?_)
  rw [if_neg hne]
  refine wpAny_bind (wpAny_setField hT hdT (Array.getElem?_eq_some_iff.mp h3).1 ?_)
  have other : ∀ b, b ≠ T → (s.heap.update T (Obj.mapFields (·.setIfInBounds 3 Value.none))).get? b = s.heap.get? b := fun b hb => Heap.get?_update_other _ _ (Ne.symm hb)
  have noRecord : ∀ b o, s.heap.get? b = some o → (∀ vs, o.data ≠ .fields vs) → b ≠ T := fun b o hb hnf q => by
    rw [q, hT] at hb; injection hb with hb; subst hb; exact hnf ts hdT
  refine HandSPX.wpAny_entryZ hZ hfr (hl.of_keeps fun b o hb hnf => ⟨o, (other b (noRecord b o hb hnf)).trans hb, rfl⟩) hf ((other e (Ne.symm hTe)).trans he)
    (fun b o hbo => (other b fun q => by rw [q, hnT] at hbo; cases hbo).trans (hkb b o hbo)) hen hd (Array.getElem?_eq_some_iff.mp h1).1 hz fun h' hN => ?_
  obtain ⟨x1, x2, x3, x4⟩ := hN
  exact hQ h' ⟨x1, hen, x2, x3⟩ fun b o hb hnf => x4 b o ((other b (noRecord b o hb hnf)).trans hb) hnf
theorem notes_any {C : Addr} {Q : Unit → Shared → Prop} (hZ : HandSPX.Steady Z) (hfr : A.frames = some (env :: outer)) (hf : env.frame = some L) (hC : C ≠ L)
    (x : Sky base (env :: outer) e Z C s.heap) (hQ : ∀ h', HandSPX.HeldZ base (env :: outer) e Z L h' → s.heap.UpToSlots h' → Q () { s with heap := h' }) : wpAny Mo A (noteFrame (.ref e) env) Q E s := by
  rcases x with ⟨hB, hn, hl, oe, vs, he, hz, hd, h1⟩ | fl | ⟨f1, f2, f3, f4⟩
  · exact HandSPX.look_newZ hZ hfr hl hf he hB hn hd h1 hz hQ
  · exact HandSPX.looks_onZ hZ hfr hf fl hQ
  · exact looks_fromZ hZ hfr hf f1 f2 f3 f4 (fun h => hC (by have e : (C : Int) = (L : Int) := by simpa [rawInt] using h
                                                             exact Int.ofNat.inj e)) hQ
theorem traced_but {h h' : Heap} {fl : Value} {m : Str → Option Value} (x : HandSPX.TracedZ h base e Z fl) (hn : h.Ns L m) (hs : Heap.SameBut L h h') : HandSPX.TracedZ h' base e Z fl := by
  obtain ⟨oe, vs, T, oT, ts, he, hc, hd, h1, hnT, hTe, hT, hdT, h3⟩ := x
  obtain ⟨oL, es, ep, hoL, hdL, _⟩ := hn
  have neE : e ≠ L := fun q => by
    rw [q, hoL] at he
    have z := Option.some.inj he
    rw [← z, hdL] at hd
    cases hd
  have neT : T ≠ L := fun q => by
    rw [q, hoL] at hT
    have z := Option.some.inj hT
    rw [← z, hdL] at hdT
    cases hdT
  exact ⟨oe, vs, T, oT, ts, (hs.2 e neE).trans he, hc, hd, h1, hnT, hTe, (hs.2 T neT).trans hT, hdT, h3⟩
end
section
variable {X : Cx} {pins : List (Addr × Obj)} {σ : L2.St} {H : Hp} {W : WX}
theorem comp_fails (hs : X.stack = X.env :: X.outer) (hf : X.env.frame = some X.env.locals) (tk : Takes X W) {ce : Env} (hcf : ce.frame = X.env.frame) {sI t : Shared} {B : Heap} {a : Addr} {cls : Value} {d : Option Addr} {m : Str → Option Value}
    (J : Inv X pins σ H sI) (fC : FpOk X pins H ce.locals) (hn : sI.heap.Ns ce.locals m) (nb : ∀ b o, sI.heap.get? b = some o → b ∉ frs X.stack → B.get? b = some o) (up : sI.heap.UpToSlots t.heap)
    (sky : Sky B X.stack a (Zc cls d) ce.locals t.heap) (na : H a = none) (os : t.os = sI.os) (ag : AllBare t.gens) (w : W cls d σ H) : notedBy (model X.prog X.w) X.A ce (CompFails (model X.prog X.w) X.A X.xe ce) (.ref a) t := by
  have hfr : X.A.frames = some (X.env :: X.outer) := by rw [J.ok.frames, hs]
  obtain ⟨B', gB, nC, kB⟩ : ∃ B' : Heap, (∀ b o, B'.get? b = some o → B.get? b = some o) ∧ B'.get? ce.locals = none ∧ ∀ b o, b ≠ ce.locals → B.get? b = some o → B'.get? b = some o :=
    ⟨PySem.W.hideAll B [ce.locals], fun b o e => PySem.W.of_hideAll _ e, PySem.W.hideAll_none _ (by simp), fun b o hb e => PySem.W.hideAll_get _ e (by simpa using hb)⟩
  have nB : ∀ b, B.get? b = none → B'.get? b = none := fun b e => by
    cases q : B'.get? b with
    | none => rfl
    | some o => have z := gB b o q; rw [e] at z; cases z
  have ffr : ∀ {h : Heap}, h.FunFrames B X.stack → h.FunFrames B' X.stack := fun hl => funFrames_none hl fun L hL => nB L (hl.mem hL).1
  have trc : ∀ {h : Heap} {fl : Value}, HandSPX.TracedZ h B a (Zc cls d) fl → HandSPX.TracedZ h B' a (Zc cls d) fl := fun ⟨oe, vs, T, oT, ts, he, hz, hd, h1, hnT, r⟩ => ⟨oe, vs, T, oT, ts, he, hz, hd, h1, nB T hnT, r⟩
  have sky' : Sky B' X.stack a (Zc cls d) ce.locals t.heap := by
    rcases sky with ⟨hB, hn, hl, r⟩ | ⟨f1, f2, f3, f4⟩ | ⟨f1, f2, f3, f4⟩
    · exact .inl ⟨fun b o e => hB b o (gB b o e), nB a hn, ffr hl, r⟩
    · exact .inr (.inl ⟨fun b o e => f1 b o (gB b o e), nB a f2, ffr f3, trc f4⟩)
    · exact .inr (.inr ⟨fun b o e => f1 b o (gB b o e), nB a f2, ffr f3, trc f4⟩)
  have J' : Inv X pins σ H { sI with heap := PySem.W.hideAll sI.heap [ce.locals], toks := sI.toks } := J.turnedL (ch := [ce.locals]) (fun b o hb e => PySem.W.hideAll_get _ e hb) fun b hb => by
    have e : b = ce.locals := by simpa using hb
    rw [e]; exact fC
  have neC : ∀ b o, (PySem.W.hideAll sI.heap [ce.locals]).get? b = some o → b ≠ ce.locals := fun b o e q => by
    rw [q, PySem.W.hideAll_none _ (by simp)] at e; cases e
  have nb' : ∀ b o, (PySem.W.hideAll sI.heap [ce.locals]).get? b = some o → b ∉ frs X.stack → B'.get? b = some o := fun b o e hb => kB b o (neC b o e) (nb b o (PySem.W.of_hideAll _ e) hb)
  show wpAny _ _ (noteFrame (.ref a) ce) _ _ t
  rw [noteFrame_env _ hcf]
  rw [hs] at sky'
  refine notes_any Zc.steady hfr hf fC.2.1 sky' fun h1 hh1 up1 => ?_
  have hn1 : h1.Ns ce.locals m := (hn.upToSlots up).upToSlots up1
  refine ⟨m, hn1, fun h2 m2 hn2 sb => ?_⟩
  obtain ⟨b1, b0, f1, t1⟩ := hh1
  have b2 : B'.StaysIn h2 := fun b o hb => (sb.2 b fun q => by rw [q, nC] at hb; cases hb).trans (b1 b o hb)
  have f2 : h2.FunFrames B' (X.env :: X.outer) := Heap.FunFrames.sameBut sb hn2 f1
  have t2 := traced_but t1 hn1 sb
  obtain ⟨oe, vs, T, oT, ts, he, hz, hd, h1', r⟩ := id t2
  unfold PySem.passOn
  refine wpAny_bind (wpAny_field he hd h1' ?_)
  rw [if_neg (show ¬ ((Value.ref T == Value.none) = true) from by simp)]
  rw [hcf, hf]
  refine wpAny_bind (HandSPX.setFlight_onZ (s := { t with heap := h2 }) ⟨b2, b0, f2, t2⟩ fun h3 hh3 up3 => ?_)
  refine wpAny_throw (tk _ _ ⟨a, B', _, pins, σ, H, cls, d, rfl, J', nb', fun b o e hnf => ?_, .inr (.inr (by rw [hs]; exact hh3)), na, os, ag, w⟩)
  obtain ⟨sl, q⟩ := up b o (PySem.W.of_hideAll _ e) hnf
  obtain ⟨sl1, q1⟩ := up1 b _ q hnf
  obtain ⟨sl3, q3⟩ := up3 b _ ((sb.2 b (neC b o e)).trans q1) (fun vs z => hnf vs z)
  exact ⟨sl3, q3⟩
end
/-- a block with a wish -/
abbrev blkR (X : Cx) (scope : Scope) (s : Shared) (H : Hp) (C : Addr) (cl : List (Str × Addr)) (fp : List Addr) (xe : Value → Shared → Prop) : Cx := { X.blk s H scope (compEnvC scope cl C X.env) fp with xe := xe }
section
variable {X : Cx}
theorem lc_coreR {pins : List (Addr × Obj)} {s : Shared} {σ : L2.St} {H : Hp} {Q : VK} {elt tg iter : Expr} {ifs : List Expr} {scope : Scope} {own : List (Str × Nat)} {pos pos' : Pos} {wi : TI} {g : TG} {tt : TT} {te : WX → TE} {W : WX} {use : Option (Value → Sem Unit)} {Qf : Value → Shared → Prop}
    (hst : X.stack = X.env :: X.outer) (hfm : X.env.frame = some X.env.locals) (tk : Takes X W)
    (hc : X.calm = true) (hN : X.N.Nodup) (I : Inv X pins σ H s) (hi : PI X tg iter wi) (ok : BlkOk X.N X.env.scope scope own)
    (hg : ∀ (s : Shared) (H : Hp) (C : Addr) (cl : List (Str × Addr)) (fp : List Addr) xe, PG (blkR X scope s H C cl fp xe) tg g) (ht : ∀ (s : Shared) (H : Hp) (C : Addr) (cl : List (Str × Addr)) (fp : List Addr) xe, PTs (blkR X scope s H C cl fp xe) ifs tt)
    (he : ∀ (s : Shared) (H : Hp) (C : Addr) (cl : List (Str × Addr)) (fp : List Addr) xe W', Takes (blkR X scope s H C cl fp xe) W' → PE (blkR X scope s H C cl fp xe) elt (te W')) (hs : ∀ x, foldedSetIterable iter X.env x = pure x)
    (h : tLc wi g tt (te fun cls d _ H => W cls d σ H) (own.map (·.2)) σ H Q)
    (hRR : ∀ D C s' m H', Inv X pins σ H' s' → Q (.ref D) H' → s'.heap.Ns C m → FpOk X pins H' C → ∀ ce : Env, ce.locals = C → compEnds (model X.prog X.w) X.A X.xe use Qf (.ref D) ce (.ok .next) s') :
    wpAny (model X.prog X.w) X.A (comprehension (.ListComp elt [⟨tg, iter, ifs, 0⟩] scope pos) scope X.env pos' (newList []) false (eval iter X.env) use) Qf X.xe s := by
  have hfree : ∀ y ∈ scope.names, y.2 = .free → ∃ c, X.env.cells.lookup y.1 = some c := fun y hy e => by
    rcases ok.free y hy e with k | k
    · exact I.ok.has _ (.inl k)
    · exact I.ok.has _ (.inr k)
  refine comprehension_at (use := use) rfl hs (closure_ok hfree) ok.kind (fun y hy e => by rw [ok.uniq y hy, e])
    (thn (hi.run pins s σ H _ I h) fun xv s1 hx => thn hx fun itv s2 h2 => ?_)
  obtain ⟨it, fp, tn, J, H2, e, I2, T, st2, f2, q⟩ := h2
  subst e
  refine wpAny_newObj_type (newEnv_comp ?_) (by show 0 ≤ sizeLine; decide)
  generalize hD : s2.heap.objs.size = D
  have hDn : H2 D = none := I2.hok.fresh (Nat.le_of_eq hD)
  obtain ⟨Wi, ⟨m0, w0⟩, turn⟩ := q D hDn
  generalize hs3 : ({ s2 with heap := s2.heap.push { cls := .type "list", data := .seq ([] : List Value).toArray } } : Shared) = s3
  have I3 : Inv X pins σ (upd H2 D (.lst [])) s3 := by
    rw [← hs3]
    refine I2.laid (t' := s2.toks) (fun b o e => Heap.get?_push_of_some _ e) (Nat.le_of_eq hD) ⟨Nat.zero_le _, [], 0, .nil, ?_⟩
    rw [← hD]
    exact Heap.get?_push_size _ rfl
  have h3 : s3.heap = s2.heap.push { cls := .type "list", data := .seq ([] : List Value).toArray } := by rw [← hs3]
  have sz : ∀ b ∈ fp, b < s2.heap.objs.size := fun b hb => by
    obtain ⟨o, e, _⟩ := T.obj _ _ st2 b hb
    exact Heap.lt_size e
  have f3 : ∀ b ∈ fp, FpOk X pins (upd H2 D (.lst [])) b ∧ b < s3.heap.objs.size := fun b hb => by
    have hlt := sz b hb
    refine ⟨⟨?_, (f2 b hb).2⟩, by rw [h3, Heap.size_push]; exact Nat.lt_succ_of_lt hlt⟩
    rw [upd_ne (by rw [← hD]; exact Nat.ne_of_lt hlt)]
    exact (f2 b hb).1
  have st3 : tn 0 s3.heap := T.keep _ _ _ st2 fun b _ o e => by rw [h3]; exact Heap.get?_push_of_some _ e
  have I4 := block_start I3 ok hN f3
  have pg := hg s3 (upd H2 D (.lst [])) s3.heap.objs.size (cellsFrom (s3.heap.objs.size + 1) scope.names (cloFrom X.env.cells scope.names [])) fp
  have pt := ht s3 (upd H2 D (.lst [])) s3.heap.objs.size (cellsFrom (s3.heap.objs.size + 1) scope.names (cloFrom X.env.cells scope.names [])) fp
  have pe := he s3 (upd H2 D (.lst [])) s3.heap.objs.size (cellsFrom (s3.heap.objs.size + 1) scope.names (cloFrom X.env.cells scope.names [])) fp
  show codeAny _ _ (.compStart (.ListComp elt [⟨tg, iter, ifs, 0⟩] scope pos) 0 (.ref it) (.ref D) (compEnvC scope (cellsFrom (s3.heap.objs.size + 1) scope.names (cloFrom X.env.cells scope.names [])) s3.heap.objs.size X.env)) (compEnds (model X.prog X.w) X.A X.xe use Qf (.ref D) (compEnvC scope (cellsFrom (s3.heap.objs.size + 1) scope.names (cloFrom X.env.cells scope.names [])) s3.heap.objs.size X.env)) { s3 with heap := pushCells (s3.heap.push { cls := .type "dict", data := .dict #[] }) scope.names }
  have nfp : ∀ b ∈ fp, (upd H2 D (.lst [])) b = none := fun b hb => (f3 b hb).1.1
  unfold blkR at pg pt pe
  generalize hce : compEnvC scope (cellsFrom (s3.heap.objs.size + 1) scope.names (cloFrom X.env.cells scope.names [])) s3.heap.objs.size X.env = ce at I4 pg pt pe ⊢
  have cL : ce.locals = s3.heap.objs.size := by subst hce; rfl
  have cF : ce.frame = X.env.frame := by subst hce; rfl
  generalize hH3 : upd H2 D (.lst []) = H3 at I3 I4 pg pt pe w0 nfp f3
  generalize hs4 : ({ s3 with heap := pushCells (s3.heap.push { cls := .type "dict", data := .dict #[] }) scope.names } : Shared) = s4 at I4 ⊢
  have st4 : tn 0 s4.heap := T.keep _ _ _ st3 fun b _ o e => by rw [← hs4]; exact pushCells_keeps _ _ _ _ (Heap.get?_push_of_some _ e)
  generalize hxe : (fun x s' => wpAny (model X.prog X.w) X.A (noteFrame x ce) (fun _ s'' => compEnds (model X.prog X.w) X.A X.xe use Qf (.ref D) ce (.error x) s'') (fun x s' => compEnds (model X.prog X.w) X.A X.xe use Qf (.ref D) ce (.error x) s') s' : Value → Shared → Prop) = xe
  have I4 : Inv { X.blk s3 H3 scope ce fp with xe := xe } [] (wipe σ (own.map (·.2))) H3 s4 := I4.wish xe
  have pg := pg xe
  have pt := pt xe
  -- back in the def's context
  have back : ∀ {pn : List (Addr × Obj)} {σ' : L2.St} {H5 : Hp} {s6 : Shared}, Inv { X.blk s3 H3 scope ce fp with xe := xe } pn σ' H5 s6 → Inv X pins σ H5 s6 ∧ H5 s3.heap.objs.size = none ∧ ∃ m, s6.heap.Ns ce.locals m := fun {pn σ' H5 s6} I6 => by
    have I7 : Inv X pins σ H5 s6 := I3.call' (ch := fp) I6.os I6.base I6.hok I6.bare fun b hb => ⟨(f3 b hb).1.2.2.2.1, (f3 b hb).1.2.1, (f3 b hb).1.2.2.2.2.1, (f3 b hb).1.2.2.2.2.2⟩
    have nC : H5 s3.heap.objs.size = none := by
      have z : H5 ce.locals = none := I6.free
      rw [cL] at z
      exact z
    obtain ⟨m, hn, _⟩ := I6.loc
    exact ⟨I7, nC, m, hn⟩
  have take : Takes { X.blk s3 H3 scope ce fp with xe := xe } fun cls d _ H => W cls d σ H := fun u t xx => by
    obtain ⟨a, B, sI, pn, σ', H', cls, d, rfl, I', nb, up, sky, na, os, ag, w⟩ := xx
    obtain ⟨J7, nC, m, hn⟩ := back I'
    have fC : FpOk X pins H' ce.locals := by rw [cL]; exact I3.fpOk (Nat.le_refl _) nC
    have z := comp_fails hst hfm tk cF J7 fC hn nb up sky na os ag w
    rw [← hxe]
    cases use <;> exact z
  have pe := pe xe _ take
  have stat : ∀ {σ' : L2.St} {H' : Hp} {s' : Shared}, Inv { X.blk s3 H3 scope ce fp with xe := xe } [] σ' H' s' → (∀ b ∈ fp, H' b = none) → ∀ b ∈ fp, FpOk { X.blk s3 H3 scope ce fp with xe := xe } [] H' b := fun {σ' H' s'} I' hn b hb =>
    ⟨hn b hb, (I'.ok.exf b hb).1, I'.ok.exfs b hb, .inl hb, fun x c e => (I'.ok.exf b hb).2 x c e, fun p hp => absurd (show p ∈ ([] : List (Addr × Obj)) ++ [] from hp) (by simp)⟩
  have loop : codeAny (model X.prog X.w) X.A (.compLoop (.ListComp elt [⟨tg, iter, ifs, 0⟩] scope pos) 0 (.ref it) (.ref D) ce) (compEnds (model X.prog X.w) X.A X.xe use Qf (.ref D) ce) s4 := by
    refine compLoop_any (fun n s' => ∃ i H', Inv { X.blk s3 H3 scope ce fp with xe := xe } [] (wipe σ (own.map (·.2))) H' s' ∧ tn i s'.heap ∧ (∀ b ∈ fp, H' b = none) ∧ Wi i n H') ?_ m0 ⟨0, H3, I4, st4, nfp, w0⟩
    rintro n s5 ⟨i, H5, I5, st5, n5, w5⟩
    have hX : (notedBy (model X.prog X.w) X.A ce fun e s' => compEnds (model X.prog X.w) X.A X.xe use Qf (.ref D) ce (.error e) s') = xe := hxe
    rw [hX]
    rcases turn i n H5 w5 with ⟨stop, qq⟩ | ⟨go, Nx, hNx, step⟩
    · have td := T.done { X.blk s3 H3 scope ce fp with xe := xe } rfl rfl rfl hc i [] s5 _ H5 (fun _ _ => False) I5 (stat I5 n5) st5 stop
      refine thnF td fun r s6 ⟨hr, I6⟩ => ?_
      subst hr
      obtain ⟨I7, nC, m, hn⟩ := back I6
      have hn : s6.heap.Ns s3.heap.objs.size m := cL ▸ hn
      exact hRR D s3.heap.objs.size s6 m H5 I7 qq hn (I3.fpOk (Nat.le_refl _) nC) ce cL
    · have ti := T.item { X.blk s3 H3 scope ce fp with xe := xe } rfl rfl rfl hc i [] s5 _ H5 (fun _ _ => False) I5 (stat I5 n5) st5 go
      refine thnF ti fun r s6 ⟨u, hr, h6⟩ => ?_
      subst hr
      refine thnF h6 fun _ s7 ⟨x, H7, I7, r7, y7, st7, n7⟩ => ?_
      have I7' := I7.pinned (stat I7 n7) (T.obj _ _ st7)
      refine wpAny_mono (pg.run _ s7 _ H7 x u _ I7' r7 (step x H7 y7)) (fun _ s8 ⟨σ8, H8, I8, hw8, q8⟩ => ?_) fun _ _ z => z
      refine wpAny_mono (pt.run _ s8 σ8 H8 _ I8 q8) (fun b s9 ⟨H9, I9, q9⟩ => ?_) fun _ _ z => z
      have fin : ∀ {s' : Shared} {H' : Hp}, Inv { X.blk s3 H3 scope ce fp with xe := xe } ([] ++ pinsAt fp s7.heap) σ8 H' s' → Nx H' → ∃ m, m < n ∧ ∃ i H', Inv { X.blk s3 H3 scope ce fp with xe := xe } [] (wipe σ (own.map (·.2))) H' s' ∧ tn i s'.heap ∧ (∀ b ∈ fp, H' b = none) ∧ Wi i m H' := fun {s' H'} I' nx => by
        obtain ⟨m', hm, w'⟩ := hNx H' nx
        have pin' : ∀ b ∈ fp, ∀ o, s7.heap.get? b = some o → s'.heap.get? b = some o ∧ H' b = none := fun b hb o e =>
          let z := I'.pin (b, o) (List.mem_append_right _ (List.mem_append_right _ (mem_pinsAt hb e)))
          ⟨z.1, z.2.1⟩
        have hl : (wipe σ (own.map (·.2))).length = σ8.length := by rw [← hw8, wipe_length]
        refine ⟨m', hm, i + 1, H', (I'.unpinned (pins := [])).weak hl (fun j v e => ?_), T.keep _ _ _ st7 fun b hb o e => (pin' b hb o e).1, fun b hb => ?_, w'⟩
        · rw [← hw8] at e
          exact (wipe_some e).1
        · obtain ⟨o, e, _⟩ := T.obj _ _ st7 b hb
          exact (pin' b hb o e).2
      cases b with
      | false =>
        simp only [Bool.false_eq_true, if_false] at q9 ⊢
        exact fin I9 q9
      | true =>
        simp only [if_true] at q9 ⊢
        refine wpAny_mono (pe.run _ s9 σ8 H9 _ I9 q9) (fun z s10 ⟨yv, H10, I10, r10, acc, hD10, hz10, nx⟩ => ?_) fun _ _ z => z
        exact app_ok (X := { X.blk s3 H3 scope ce fp with xe := xe }) I10 hD10 hz10 r10 fun s11 I11 => fin I11 nx
  exact codeAny_compStart_list loop (T.self X.A 0 _ _ _ st4 loop)
theorem pe_lcR {elt tg iter : Expr} {ifs : List Expr} {scope : Scope} {own : List (Str × Nat)} {pos : Pos} {wi : TI} {g : TG} {tt : TT} {te : WX → TE} {W : WX}
    (hst : X.stack = X.env :: X.outer) (hfm : X.env.frame = some X.env.locals) (tk : Takes X W) (hc : X.calm = true) (hN : X.N.Nodup) (hi : PI X tg iter wi) (ok : BlkOk X.N X.env.scope scope own)
    (hg : ∀ (s : Shared) (H : Hp) (C : Addr) (cl : List (Str × Addr)) (fp : List Addr) xe, PG (blkR X scope s H C cl fp xe) tg g) (ht : ∀ (s : Shared) (H : Hp) (C : Addr) (cl : List (Str × Addr)) (fp : List Addr) xe, PTs (blkR X scope s H C cl fp xe) ifs tt)
    (he : ∀ (s : Shared) (H : Hp) (C : Addr) (cl : List (Str × Addr)) (fp : List Addr) xe W', Takes (blkR X scope s H C cl fp xe) W' → PE (blkR X scope s H C cl fp xe) elt (te W')) (hs : ∀ x, foldedSetIterable iter X.env x = pure x := by intro _; rfl) :
    PE X (.ListComp elt [⟨tg, iter, ifs, 0⟩] scope pos) (fun σ H Q => tLc wi g tt (te fun cls d _ H => W cls d σ H) (own.map (·.2)) σ H Q) := by
  refine ⟨fun pins s σ H Q I h => ?_⟩
  rw [eval_ListComp]
  refine lc_coreR hst hfm tk hc hN I hi ok hg ht he hs h fun D C s' m H' I' q hn f ce cl => ⟨m, by rw [cl]; exact hn, fun h'' sb => ?_⟩
  rw [cl] at sb
  obtain ⟨f0, f1, f2, f3, f4, f5⟩ := f
  exact ⟨.ref D, H', I'.turned (t' := s'.toks) (fun b o hb e => (sb.2 b hb).trans e) f0 f1 f3 f4 f5, rfl, q⟩
end
/-! ### the machine's step -/
noncomputable def lcOneR (g : GM) (t : TM) (e : EM) (vs : List Nat) (E0 : List SV) (x : MV) (G : MHeap) : R (Option MV) := match g x ⟨E0, G⟩ with
  | none => .stuck
  | some s1 => match t s1 with
    | .ok b s2 => if b = true then (match e s2 with
      | .ok y s3 => if wipeE s3.env vs = E0 then .ok (some y) s3 else .stuck
      | .exc c s3 => if wipeE s3.env vs = E0 then .exc c s3 else .stuck
      | .stuck => .stuck)
      else if wipeE s2.env vs = E0 then .ok none s2 else .stuck
    | _ => .stuck
noncomputable def lcMR (g : GM) (t : TM) (e : EM) (vs : List Nat) (E0 : List SV) : List MV → List MV → MHeap → R (List MV)
  | [], acc, G => .ok acc ⟨E0, G⟩
  | x :: xs, acc, G => match lcOneR g t e vs E0 x G with
    | .ok (some y) s => lcMR g t e vs E0 xs (acc ++ [y]) s.G
    | .ok none s => lcMR g t e vs E0 xs acc s.G
    | .exc c s => .exc c s
    | .stuck => .stuck
noncomputable def lcEndFR (g : GM) (t : TM) (e : EM) (vs : List Nat) (xs : List MV) : MS → R MO := fun s =>
  if lim xs.length then if noOw s.env vs = true then match lcMR g t e vs (wipeE s.env vs) xs [] s.G with
    | .ok ys s2 => .ok (.lst ys) ⟨s.env, s2.G⟩
    | .exc c s2 => .exc c ⟨s.env, s2.G⟩
    | .stuck => .stuck
  else .stuck else .stuck
noncomputable def mLcLR (it : AM) (vs : List Nat) (g : GM) (t : TM) (e : EM) : MS → R MO := fun s => (it s).bind fun xs s1 => lcEndFR g t e vs xs s1
theorem sf_lcR {K : KA} {W : WX} {wi : TI} {mi : AM} {ts vs : List Nat} {g : TG} {mg : GM} {tt : TT} {mt : TM} {te : WX → TE} {me : EM} (hi : SimI K W wi mi) (hg : SimG K ts g mg) (ht : SimT K W0 tt mt) (he : ∀ W', SimE K W' (te W') me) (hts : ∀ i ∈ ts, i ∈ vs) :
    SimN K W (fun σ H Q => tLc wi g tt (te fun cls d _ H => W cls d σ H) vs σ H Q) (mLcLR mi vs mg mt me) := by
  intro X ρ O s σ H Q S p
  refine hi X ρ O s σ H _ S ?_
  unfold mLcLR at p
  cases ei : mi s with
  | stuck => rw [ei] at p; exact p.elim
  | exc c s1 => rw [ei] at p; exact p
  | ok xs s1 =>
    rw [ei] at p
    intro ρ1 O1 H1 J S1 F1 wk D hD
    have p1 : PostN K X W ρ1 O1 H1 σ (lcEndFR mg mt me vs xs s1) Q := p.later F1
    clear p
    unfold lcEndFR at p1
    by_cases hz : lim xs.length
    case neg => rw [if_neg hz] at p1; exact p1.elim
    rw [if_pos hz] at p1
    by_cases hn : noOw s1.env vs = true
    case neg => rw [if_neg hn] at p1; exact p1.elim
    rw [if_pos hn] at p1
    generalize er : lcMR mg mt me vs (wipeE s1.env vs) xs [] s1.G = rr at p1
    have ns : rr ≠ .stuck := fun e => by rw [e] at p1; exact p1.elim
    obtain ⟨O2, S2, F2⟩ := (S1.hide hD (.lst [])).wipe vs
    have v12 : Ex (view X ρ1 O1 H1) (view (fun b => X b ∨ b = D) ρ1 O2 (upd H1 D (.lst []))) := by
      have := F2.ex; rw [view_hide hD] at this; exact this
    refine ⟨fun i m H' => m = xs.length - i ∧ i ≤ xs.length ∧ ∃ ρ' O' G' acc accv, H' D = some (.lst accv) ∧ Reps ρ' K (view (fun b => X b ∨ b = D) ρ' O' H') acc accv ∧ acc.length ≤ i ∧
        SR K (fun b => X b ∨ b = D) ρ' O' ⟨wipeE s1.env vs, G'⟩ (L2.wipe σ vs) H' ∧ Pre ρ1 ρ' ∧ Ex (view X ρ1 O1 H1) (view (fun b => X b ∨ b = D) ρ' O' H') ∧ (∀ b o, X b → H1 b = some o → H' b = some o) ∧
        lcMR mg mt me vs (wipeE s1.env vs) (xs.drop i) acc G' = rr,
      ⟨xs.length, by simp, Nat.zero_le _, ρ1, O2, s1.G, [], [], upd_same, .nil, Nat.le_refl _, S2, Pre.refl _, v12, fun b o hb e => Ex.new hD b o e, er⟩, ?_⟩
    rintro i m H2 ⟨rfl, hi', ρ2, O2, G2, acc, accv, hd2, ra, hl2, S2, q2, v2, x2, e2⟩
    have e02 : Ex (view X ρ1 O1 H1) H2 := v2.trans (view_le _ _ _ _)
    by_cases hlt : i < xs.length
    · refine .inr ⟨wk.go i H2 e02 hlt, fun H' => i + 1 ≤ xs.length ∧ ∃ ρ' O' G' acc accv, H' D = some (.lst accv) ∧ Reps ρ' K (view (fun b => X b ∨ b = D) ρ' O' H') acc accv ∧ acc.length ≤ i + 1 ∧
          SR K (fun b => X b ∨ b = D) ρ' O' ⟨wipeE s1.env vs, G'⟩ (L2.wipe σ vs) H' ∧ Pre ρ1 ρ' ∧ Ex (view X ρ1 O1 H1) (view (fun b => X b ∨ b = D) ρ' O' H') ∧ (∀ b o, X b → H1 b = some o → H' b = some o) ∧
          lcMR mg mt me vs (wipeE s1.env vs) (xs.drop (i + 1)) acc G' = rr, fun H' h => ⟨xs.length - (i + 1), by omega, rfl, h⟩, fun x H3 y => ?_⟩
      obtain ⟨e23, m, hm, rep⟩ := wk.yld i H2 x H3 e02 hlt y
      have r3 := rep _ ρ2 O2 _ _ S2 q2 v2
      have hd : xs.drop i = m :: xs.drop (i + 1) := by
        rw [List.drop_eq_getElem_cons hlt]
        rw [List.getElem?_eq_getElem hlt] at hm
        rw [Option.some.inj hm]
      rw [hd] at e2
      unfold lcMR lcOneR at e2
      cases eg : mg m ⟨wipeE s1.env vs, G2⟩ with
      | none => simp only [eg] at e2; exact absurd e2.symm ns
      | some s3 =>
        simp only [eg] at e2
        have S3 := S2.grow e23
        refine hg _ ρ2 O2 _ _ H3 m x s3 _ S3 r3 eg fun O4 σ4 S4 F4 T4 => ?_
        have tw : L2.wipe σ4 vs = L2.wipe σ vs := (T4 vs hts).trans (wipe_idem σ vs)
        refine ⟨tw, ?_⟩
        have F24 : Fut (fun b => X b ∨ b = D) ρ2 O2 H2 ρ2 O4 H3 := (Fut.grow e23).trans F4
        refine ht _ ρ2 O4 s3 σ4 H3 _ S4 ?_
        cases et : mt s3 with
        | stuck => simp only [et] at e2; exact absurd e2.symm ns
        | exc c s5 => simp only [et] at e2; exact absurd e2.symm ns
        | ok b s5 =>
          simp only [et] at e2
          intro ρ5 O5 H5 S5 F5
          have F25 := F24.trans F5
          cases b with
          | false =>
            simp only [Bool.false_eq_true, if_false] at e2 ⊢
            by_cases hw : wipeE s5.env vs = wipeE s1.env vs
            · rw [if_pos hw] at e2
              simp only at e2
              obtain ⟨O6, S6, F6⟩ := S5.wipe vs
              have F26 := F25.trans F6
              rw [hw, tw] at S6
              exact ⟨hlt, ρ5, O6, s5.G, acc, accv, F26.xs D _ (.inr rfl) hd2, F26.reps ra, by omega, S6, q2.trans F26.pre, v2.trans F26.ex, fun b o hb e => F26.xs b o (.inl hb) (x2 b o hb e), e2⟩
            · rw [if_neg hw] at e2; exact absurd e2.symm ns
          | true =>
            simp only [if_true] at e2 ⊢
            refine he _ _ ρ5 O5 s5 σ4 H5 _ S5 ?_
            cases ee : me s5 with
            | stuck => simp only [ee] at e2; exact absurd e2.symm ns
            | exc c s7 =>
              simp only [ee] at e2
              intro ρ7 O7 H7 S7 F7
              have F27 := F25.trans F7
              by_cases hw : wipeE s7.env vs = wipeE s1.env vs
              · rw [if_pos hw] at e2
                simp only at e2
                subst e2
                obtain ⟨O8, S8, F8⟩ := S7.wipe vs
                have F28 := F27.trans F8
                rw [hw, tw] at S8
                have SB := S1.backH hn (q2.trans F28.pre) (v2.trans F28.ex) S8
                exact p1 ρ7 O8 H7 SB.bare ⟨q2.trans F28.pre, (v2.trans F28.ex).trans view_bare, fun b o hb e => F28.xs b o (.inl hb) (x2 b o hb e)⟩
              · rw [if_neg hw] at e2; exact absurd e2.symm ns
            | ok y s7 =>
              simp only [ee] at e2
              intro ρ7 O7 H7 v S7 F7 r7
              have F27 := F25.trans F7
              by_cases hw : wipeE s7.env vs = wipeE s1.env vs
              · rw [if_pos hw] at e2
                simp only at e2
                obtain ⟨O8, S8, F8⟩ := S7.wipe vs
                have F28 := F27.trans F8
                rw [hw, tw] at S8
                have hd7 := F28.xs D _ (.inr rfl) hd2
                have la : accv.length = acc.length := ra.length.symm
                refine ⟨accv, hd7, ?_, hlt, ρ7, O8, s7.G, acc ++ [y], accv ++ [v], upd_same, ?_, by simp; omega, S8.put _, q2.trans F28.pre, ?_, fun b o hb e => ?_, e2⟩
                · have hz' : xs.length ≤ 16777216 := hz
                  rw [sizeLine_eq, la]
                  omega
                · rw [view_put]
                  exact (F28.reps ra).append (.cons (F8.rep r7) .nil)
                · rw [view_put]; exact v2.trans F28.ex
                · have h7 := F28.xs b o (.inl hb) (x2 b o hb e)
                  have ne : b ≠ D := fun q => by
                    subst q
                    rw [hD] at e; cases e
                  rw [upd_ne ne]; exact h7
              · rw [if_neg hw] at e2; exact absurd e2.symm ns
    · have e : i = xs.length := by omega
      subst e
      rw [List.drop_length] at e2
      unfold lcMR at e2
      subst e2
      refine .inl ⟨wk.stop H2 e02, ?_⟩
      have SB := S1.backH hn q2 v2 S2
      refine p1 ρ2 O2 H2 D ⟨SB, fun q => ?_, ⟨accv, hd2, ra⟩, q2, v2, x2⟩
      obtain ⟨o, ho⟩ := S1.xo D q
      rw [hD] at ho; cases ho
section
variable {ct : String → Addr} {X : Cx} {W : WX}
def eAllR (ct : String → Addr) (X : Cx) (scope : Scope) (elt : Expr) (me : EM) (W : WX) : TE := fun σ H Q => ∀ s H0 C cl fp xe te, PEM ct (blkR X scope s H0 C cl fp xe) W elt te me → te σ H Q
def qAllR (ct : String → Addr) (X : Cx) (scope : Scope) (ifs : List Expr) (mt : TM) : TT := fun σ H Q => ∀ s H0 C cl fp xe te, PQM ct (blkR X scope s H0 C cl fp xe) W0 ifs te mt → te σ H Q
def gAllR (ct : String → Addr) (X : Cx) (scope : Scope) (tg : Expr) (ts : List Nat) (mg : GM) : TG := fun v σ H Q => ∀ s H0 C cl fp xe g, PGM ct (blkR X scope s H0 C cl fp xe) tg ts g mg → g v σ H Q
variable {scope : Scope} {elt tg iter : Expr} {ifs : List Expr} {mg : GM} {mt : TM} {me : EM} {ts : List Nat}
theorem f_lcR {own : List (Str × Nat)} {pos : Pos} {wi : TI} {mi : AM} (tk : Takes X W)
    (hN : X.N.Nodup) (hi : PIM ct X W tg iter wi mi) (ok : BlkOk X.N X.env.scope scope own)
    (hg : ∀ s H C cl fp xe, ∃ g, PGM ct (blkR X scope s H C cl fp xe) tg ts g mg) (ht : ∀ s H C cl fp xe, ∃ te, PQM ct (blkR X scope s H C cl fp xe) W0 ifs te mt)
    (he : ∀ s H C cl fp xe W', Takes (blkR X scope s H C cl fp xe) W' → ∃ te, PEM ct (blkR X scope s H C cl fp xe) W' elt te me) (hc : X.calm = true := by rfl) (hst : X.stack = X.env :: X.outer := by rfl) (hfm : X.env.frame = some X.env.locals := by rfl)
    (hts : ∀ i ∈ ts, i ∈ own.map (·.2) := by decide) (hs : ∀ x, foldedSetIterable iter X.env x = pure x := by intro _; rfl) :
    PNM ct X W (.ListComp elt [⟨tg, iter, ifs, 0⟩] scope pos) (fun σ H Q => tLc wi (gAllR ct X scope tg ts mg) (qAllR ct X scope ifs mt) (eAllR ct X scope elt me fun cls d _ H => W cls d σ H) (own.map (·.2)) σ H Q) (mLcLR mi (own.map (·.2)) mg mt me) :=
  ⟨pe_lcR hst hfm tk hc hN hi.pe ok (fun s H C cl fp xe => by
      obtain ⟨g, P⟩ := hg s H C cl fp xe
      exact ⟨fun pins s1 σ H1 v u Q I rv w => P.pe.run pins s1 σ H1 v u Q I rv (w s H C cl fp xe g P)⟩)
    (fun s H C cl fp xe => by
      obtain ⟨te, P⟩ := ht s H C cl fp xe
      exact ⟨fun pins s1 σ H1 Q I w => P.pe.run pins s1 σ H1 Q I (w s H C cl fp xe te P)⟩)
    (fun s H C cl fp xe W' tk' => by
      obtain ⟨te, P⟩ := he s H C cl fp xe W' tk'
      exact ⟨fun pins s1 σ H1 Q I w => P.pe.run pins s1 σ H1 Q I (w s H C cl fp xe te P)⟩) hs,
   sf_lcR hi.sim (fun Xh ρ O s σ H x v s' Q S r e k s0 H0 C cl fp xe g P => P.sim Xh ρ O s σ H x v s' Q S r e k) (fun Xh ρ O s σ H Q S p s0 H0 C cl fp xe te P => P.sim Xh ρ O s σ H Q S p)
     (fun W' Xh ρ O s σ H Q S p s0 H0 C cl fp xe te P => P.sim Xh ρ O s σ H Q S p) hts⟩
end
/-! ### what it tells -/
theorem lcMR_ok {g : GM} {t : TM} {e : EM} {vs : List Nat} {E0 : List SV} : ∀ {xs acc : List MV} {G : MHeap} {ys : List MV} {s : MS}, lcM g t e vs E0 xs acc G = .ok ys s → lcMR g t e vs E0 xs acc G = .ok ys s
  | [], acc, G, ys, s, h => by unfold lcM at h; unfold lcMR; exact h
  | x :: xs, acc, G, ys, s, h => by
    unfold lcM lcOne at h
    unfold lcMR lcOneR
    cases eg : g x ⟨E0, G⟩ with
    | none => simp only [eg] at h; cases h
    | some s1 =>
      simp only [eg] at h ⊢
      cases et : t s1 with
      | stuck => simp only [et, R.bind_stuck] at h; cases h
      | exc c s5 => simp only [et, R.bind_exc] at h; cases h
      | ok b s5 =>
        simp only [et, R.bind_ok] at h ⊢
        cases b with
        | false =>
          simp only [Bool.false_eq_true, if_false] at h ⊢
          by_cases hw : wipeE s5.env vs = E0
          · rw [if_pos hw] at h ⊢
            simp only at h ⊢
            exact lcMR_ok h
          · rw [if_neg hw] at h; cases h
        | true =>
          simp only [if_true] at h ⊢
          cases ee : e s5 with
          | stuck => simp only [ee, R.bind_stuck] at h; cases h
          | exc c s7 => simp only [ee, R.bind_exc] at h; cases h
          | ok y s7 =>
            simp only [ee, R.bind_ok] at h ⊢
            by_cases hw : wipeE s7.env vs = E0
            · rw [if_pos hw] at h ⊢
              simp only at h ⊢
              exact lcMR_ok h
            · rw [if_neg hw] at h; cases h
theorem lcEndFR_ok {g : GM} {t : TM} {e : EM} {vs : List Nat} {xs : List MV} {s s' : MS} {o : MO} (h : lcEndF g t e vs xs s = .ok o s') : lcEndFR g t e vs xs s = .ok o s' := by
  unfold lcEndF at h
  unfold lcEndFR
  split at h
  · rename_i hz
    rw [if_pos hz]
    split at h
    · rename_i hn
      rw [if_pos hn]
      cases er : lcM g t e vs (wipeE s.env vs) xs [] s.G with
      | ok ys s2 => rw [er] at h; rw [lcMR_ok er]; exact h
      | exc c s2 => rw [er] at h; cases h
      | stuck => rw [er] at h; cases h
    · cases h
  · cases h
/-- the elements ahead are told, one raises -/
theorem lcMR_exc {g : GM} {t : TM} {e : EM} {vs : List Nat} {E0 : List SV} {G : MHeap} {c : String} (f : MV → MV) : ∀ (xs ys acc : List MV) (x : MV) (s : MS), (∀ x ∈ xs, ∃ s, lcOneR g t e vs E0 x G = .ok (some (f x)) s ∧ s.G = G) → lcOneR g t e vs E0 x G = .exc c s →
    lcMR g t e vs E0 (xs ++ x :: ys) acc G = .exc c s
  | [], ys, acc, x, s, _, h => by rw [List.nil_append]; unfold lcMR; rw [h]
  | z :: xs, ys, acc, x, s, hx, h => by
    obtain ⟨s1, h1, h2⟩ := hx z (by simp)
    rw [List.cons_append]
    unfold lcMR
    rw [h1]
    simp only
    rw [h2]
    exact lcMR_exc f xs ys _ x s (fun y hy => hx y (by simp [hy])) h
theorem lcEndFR_exc {g : GM} {t : TM} {e : EM} {vs : List Nat} {env : List SV} {G : MHeap} {c : String} {s : MS} (f : MV → MV) (xs ys : List MV) (x : MV) (hl : (xs ++ x :: ys).length ≤ 10000) (hn : noOw env vs = true)
    (hx : ∀ x ∈ xs, ∃ s, lcOneR g t e vs (wipeE env vs) x G = .ok (some (f x)) s ∧ s.G = G) (h : lcOneR g t e vs (wipeE env vs) x G = .exc c s) (hG : s.G = G) : lcEndFR g t e vs (xs ++ x :: ys) ⟨env, G⟩ = .exc c ⟨env, G⟩ := by
  unfold lcEndFR
  have hz : lim (xs ++ x :: ys).length := by show (xs ++ x :: ys).length ≤ 16777216; omega
  rw [if_pos hz, if_pos hn, lcMR_exc f xs ys [] x s hx h]
  simp only [hG]
end M

namespace PySem.SeqAt
open AutoSeq1 (wpAny_loadPart')
open MeetsSeq
theorem dict_eq_declines_str (l : Addr) (es : Array DictEntry) (n : Nat) (dd : Option Addr) (sl : Array (Option Value)) (b : Str) (u : Tok) :
    Meets (Builtin.«dict.__eq__» ⟨[.ref l, .str b u], []⟩) (fun _ R s => s.heap.get? l = some { cls := .type "dict", dict := dd, data := .dict es n, slots := sl } ∧ R (.ok (.ret .notImplemented)) s) :=
  .of_wp fun prog w A R s h => by obtain ⟨hp, g, d, tk, os⟩ := s; obtain ⟨hl, h⟩ := h; have f1 := F.sub_str_dict; wp_walk using wpAny_loadPart' hl, wpAny_load hl; exact ⟨_, rfl, h⟩
theorem str_eq_declines_dict (b : Str) (u : Tok) (l : Addr) (c : Value) (es : Array DictEntry) (n : Nat) (dd : Option Addr) (sl : Array (Option Value)) :
    Meets (Builtin.«str.__eq__» ⟨[.str b u, .ref l], []⟩) (fun _ R s => s.heap.get? l = some { cls := c, dict := dd, data := .dict es n, slots := sl } ∧ R (.ok (.ret .notImplemented)) s) :=
  .of_wp fun prog w A R s h => by obtain ⟨hp, g, d, tk, os⟩ := s; obtain ⟨hl, h⟩ := h; wp_walk using wpAny_loadPart' hl, wpAny_load hl; exact ⟨_, rfl, h⟩
end PySem.SeqAt
namespace PySem.SeqAt
open AutoSeq1 (wpAny_loadPart')
open MeetsSeq
section
variable {A : Around} {s : Shared}
theorem RcAt.str_dict {l : Addr} {es : Array DictEntry} {n : Nat} {o : Obj} (b : Str) (u : Tok) (ho : s.heap.get? l = some o) (hc : o.cls = .type "dict") (hd : o.data = .dict es n) (hu : A.units < cLine) : RcAt A s (.str b u) (.ref l) false := fun prog w E Q h => by
  obtain ⟨cls, dd, data, sl⟩ := o
  simp only at hc hd
  subst hc hd
  exact rc_eq_decline_or (k := false) (typeIs_str s b u) ⟨_, ho, rfl⟩ (by decide) F.sub_dict_str F.slot_str_eq F.slot_dict_eq_refl
    (fun _ hq => call_meets F.slot_str_eq (typeIs_str s b u) F.entry_str_eq (F.args_str_eq_2 _ _) (str_eq_declines_dict b u l (.type "dict") es n dd sl) ⟨ho, hq⟩)
    (fun _ hq => call_meets F.slot_dict_eq_refl ⟨_, ho, rfl⟩ F.entry_dict_eq (F.args_dict_eq_2 _ _) (dict_eq_declines_str l es n dd sl b u) ⟨ho, hq⟩)
    (fun _ hq => wpAny_of_eq (rfl : isSame (.str b u) (.ref l) = pure false) hq) (.inr hu) h
theorem EqAt.str_dict {l : Addr} {es : Array DictEntry} {n : Nat} {o : Obj} (b : Str) (u : Tok) (ho : s.heap.get? l = some o) (hc : o.cls = .type "dict") (hd : o.data = .dict es n) (hu : A.units < cLine) : EqAt A s (.str b u) (.ref l) false := fun prog w E Q h => by
  unfold eqBool
  refine wpAny_holding ?_
  refine wpAny_ite_split (fun hab => absurd (eq_of_beq hab) nofun) (fun _ => ?_)
  exact wpAny_bind (RcAt.str_dict b u ho hc hd hu prog w E _ (wpAny_truthy_bool h))
end
end PySem.SeqAt
namespace M
open PySem L2 PyProof.Rows
open Classical

/-! ## a text in great letters -/
noncomputable def mUpM (a : EM) : EM := fun s => (a s).bind fun x s1 => match x with
  | .str z => if z.length ≤ 5592405 then .ok (.str (Txt.upper z)) s1 else .stuck
  | _ => .stuck
section
variable {K : KA} {W : WX} {ta : TE} {ma : EM}
theorem sim_up (ha : SimE K W ta ma) : SimE K W (tM0 (fun x xs H Q => ∃ a, x = .str a ∧ xs = [] ∧ a.length ≤ 5592405 ∧ Q (.str (Txt.upper a)) H) ta) (mUpM ma) := by
  intro X ρ O s σ H Q S p
  refine ha.bindE S p fun x s1 ρ1 O1 H1 v S1 F1 r1 p1 => ?_
  cases r1 with
  | str z =>
    simp only at p1
    by_cases h : z.length ≤ 5592405
    · simp only [if_pos h] at p1
      exact ⟨⟨z, rfl⟩, z, rfl, rfl, h, p1.done S1 (.str _)⟩
    · simp only [if_neg h] at p1; exact p1.elim
  | _ => exact p1.elim
end
section
variable {ct : String → Addr} {X : Cx} {W : WX} {o : Expr} {ta : TE} {ma : EM} {apos pos : Pos}
theorem e_upper (h : PEM ct X W o ta ma) (hbase : attributeBase o "upper" X.env (eval o X.env) = eval o X.env := by rfl) (hline : (apos.endLine == pos.line) = true := by rfl) :
    PEM ct X W (.Call (.Attribute o "upper" apos) [] [] pos) (tM0 (fun x xs H Q => ∃ a, x = .str a ∧ xs = [] ∧ a.length ≤ 5592405 ∧ Q (.str (Txt.upper a)) H) ta) (mUpM ma) := ⟨pe_upper h.pe hbase hline, sim_up h.sim⟩
end
theorem mUpM_ok {a : EM} {z : Str} {s s1 : MS} (h : a s = .ok (.str z) s1) (hl : z.length ≤ 5592405) : mUpM a s = .ok (.str (Txt.upper z)) s1 := by
  unfold mUpM; rw [h]; simp only [R.bind_ok, if_pos hl]

theorem _root_.L2.Room.units65 {k : Nat} {A : Around} (r : L2.Room k A) : A.units + 65 < cLine := by have := r.un; omega
/-! ## x not in a list of texts, whatever x is -/
def rDicNotIn (K : PySem.W.Frag) : R2 := fun x y H Q => ∃ (a : Addr) (zs : List Str), x = .ref a ∧ H a = some (.dK []) ∧ Dp K H y (.list (zs.map PyData.str)) ∧ Q (.bl true) H
def rNotInX (K : PySem.W.Frag) : R2 := fun x y H Q => rIn K true x y H Q ∨ rNotInD K x y H Q ∨ rDicNotIn K x y H Q
theorem reads_strs {h : Heap} : ∀ {zs : List Str} {vs : List Value} {as : List Addr}, ReadsAll h vs (zs.map PyData.str) as → ∀ y ∈ vs, ∃ z t, y = .str z t
  | [], _, _, r, y, hy => by cases r; cases hy
  | z :: zs, _, _, r, y, hy => by
    rw [List.map_cons] at r
    cases r with
    | cons r1 r2 =>
      rcases List.mem_cons.mp hy with rfl | hy
      · cases r1; exact ⟨_, _, rfl⟩
      · exact reads_strs r2 y hy
theorem op_dicNotIn {X : Cx} (hu : X.A.units + 1 < cLine) : OpR X (compareOp .NotIn) (rDicNotIn X.K) := by
  intro pins s σ H x y v u Q I rx ry h
  obtain ⟨a, zs, rfl, ha, he, q⟩ := h
  obtain ⟨bs, r2⟩ := Dp.reads I _ y u he ry
  cases rx
  obtain ⟨_, _, vs, kv, o, es, ep, ho, hx, hd, _⟩ := dk_of I.hok ha
  cases r2 with
  | list h1 h2 h3 h4 =>
    refine SeqAt.notIn_listAt (fun _ => false) ⟨_, h1, h2, _, h3⟩ (fun y hy => ?_) ?_
    · obtain ⟨z, t, rfl⟩ := reads_strs h4 y (by simpa using hy)
      exact SeqAt.EqAt.str_dict z t ho hx.1 hd hu
    · have none : ∀ (vs : Array Value), (!vs.any fun _ => false) = true := fun vs => by simp
      rw [none]
      exact ⟨.bl _, H, I, rfl, q⟩
theorem op_notInX {X : Cx} (hu : X.A.units + 65 < cLine) : OpR X (compareOp .NotIn) (rNotInX X.K) := by
  intro pins s σ H x y v u Q I rx ry h
  rcases h with h | h | h
  · exact op_notIn_seq pins s σ H x y v u Q I rx ry h
  · exact op_notInD hu pins s σ H x y v u Q I rx ry h
  · exact op_dicNotIn (by omega) pins s σ H x y v u Q I rx ry h
noncomputable def oNotInX : MV → MV → EM := fun x y s => match strsG s.G y with
  | some zs => (match x with
    | .str z => .ok (.bl (!decide (z ∈ zs))) s
    | .non => .ok (.bl true) s
    | .bl _ => .ok (.bl true) s
    | .int _ => .ok (.bl true) s
    | .dic => .ok (.bl true) s
    | .lst xs => (match toD (.lst xs) with
      | some d => if SeqAt.shaped d = true ∧ SeqAt.shaped (.list (zs.map PyData.str)) = true then .ok (.bl true) s else .stuck
      | none => .stuck)
    | .tup xs => (match toD (.tup xs) with
      | some d => if SeqAt.shaped d = true ∧ SeqAt.shaped (.list (zs.map PyData.str)) = true then .ok (.bl true) s else .stuck
      | none => .stuck)
    | _ => .stuck)
  | none => .stuck
theorem strsOf_eq : ∀ {xs : List MV} {zs : List Str}, strsOf xs = some zs → xs = zs.map MV.str
  | [], _, h => by cases h; rfl
  | x :: xs, zs, h => by
    cases x with
    | str z =>
      simp only [strsOf] at h
      cases e : strsOf xs with
      | none => rw [e] at h; cases h
      | some ys => rw [e] at h; cases h; rw [List.map_cons, ← strsOf_eq e]
    | _ => cases h
theorem strsG_seq {G : MHeap} {y : MV} {zs : List Str} (h : strsG G y = some zs) : seqG G y = some (zs.map MV.str) := by
  unfold strsG at h
  cases y with
  | lst xs => rw [← strsOf_eq h]; rfl
  | ref n =>
    simp only at h
    unfold seqG
    cases g : G[n]? with
    | none => simp only [g] at h; cases h
    | some o => cases o with
      | lst xs => simp only [g] at h ⊢; rw [← strsOf_eq h]
      | _ => simp only [g] at h; cases h
  | _ => cases h
theorem any_no (x : MV) (hx : ∀ z : Str, eqM (.str z) x = false) : ∀ zs : List Str, ((zs.map MV.str).any fun y => eqM y x) = false
  | [] => rfl
  | z :: zs => by rw [List.map_cons, List.any_cons, hx, any_no x hx zs]; rfl
theorem notIn_no {x y : MV} {zs : List Str} {s : MS} (h : seqG s.G y = some (zs.map MV.str)) (hf : flatM x = true) (hx : ∀ z : Str, eqM (.str z) x = false) : oNotIn x y s = .ok (.bl true) s := by
  unfold oNotIn
  rw [h]
  simp only
  rw [if_pos ⟨hf, flat_strs zs⟩, any_no x hx]
  rfl
theorem dp_strs {K : PySem.W.Frag} {H : Hp} : ∀ zs : List Str, DpAll K H (zs.map V.str) (zs.map PyData.str)
  | [] => .nil
  | z :: zs => .cons (.str z) (dp_strs zs)
theorem eqv_str_no (d : PyData) (h : (∃ xs, d = .list xs) ∨ ∃ xs, d = .tuple xs) : ∀ zs : List Str, ((zs.map PyData.str).any fun z => PyData.eqv z d) = false
  | [] => rfl
  | z :: zs => by
    rw [List.map_cons, List.any_cons, eqv_str_no d h zs]
    rcases h with ⟨xs, rfl⟩ | ⟨xs, rfl⟩ <;> rfl
theorem so_notInX {K : KA} : SimOp K (rNotInX K.F) oNotInX := by
  intro X W ρ O s σ H x y v u Q S rx ry p
  unfold oNotInX at p
  cases e : strsG s.G y with
  | none => simp only [e] at p; exact p.elim
  | some zs =>
    simp only [e] at p
    have sq := strsG_seq e
    obtain ⟨a, rfl, hq⟩ := strsG_sql S ry e
    have DL : Dp K.F H (.ref a) (.list (zs.map PyData.str)) := .lst hq (dp_strs zs)
    have flat : oNotIn x y s = .ok (.bl true) s → PostE K X W ρ O H σ (.ok (.bl true) s) Q → rNotInX K.F v (.ref a) H Q := fun h q => .inl (so_notIn X W ρ O s σ H x y v (.ref a) Q S rx ry (by rw [h]; exact q))
    cases x with
    | str z => exact .inl (so_notIn X W ρ O s σ H _ y v (.ref a) Q S rx ry (by rw [oNotIn_strs sq]; exact p))
    | non => exact flat (notIn_no sq rfl fun _ => rfl) p
    | bl b => exact flat (notIn_no sq rfl fun _ => rfl) p
    | int i => exact flat (notIn_no sq rfl fun _ => rfl) p
    | dic =>
      cases rx with
      | dic h => exact .inr (.inr ⟨_, zs, rfl, (view_some.mp h).2, DL, p.done S (.bl _)⟩)
    | lst xs =>
      simp only at p
      cases d0 : toD (.lst xs) with
      | none => simp only [d0] at p; exact p.elim
      | some d =>
        simp only [d0] at p
        by_cases h : SeqAt.shaped d = true ∧ SeqAt.shaped (.list (zs.map PyData.str)) = true
        · rw [if_pos h] at p
          have q := p.done S (.bl _)
          refine .inr (.inl ⟨d, zs.map PyData.str, toD_dp (view_le X ρ O H) rx d0, DL, h.1, h.2, ?_⟩)
          rw [eqv_str_no d (by
            simp only [toD] at d0
            cases t : toDs xs with
            | none => rw [t] at d0; cases d0
            | some ds => rw [t] at d0; cases d0; exact .inl ⟨_, rfl⟩)]
          exact q
        · rw [if_neg h] at p; exact p.elim
    | tup xs =>
      simp only at p
      cases d0 : toD (.tup xs) with
      | none => simp only [d0] at p; exact p.elim
      | some d =>
        simp only [d0] at p
        by_cases h : SeqAt.shaped d = true ∧ SeqAt.shaped (.list (zs.map PyData.str)) = true
        · rw [if_pos h] at p
          have q := p.done S (.bl _)
          refine .inr (.inl ⟨d, zs.map PyData.str, toD_dp (view_le X ρ O H) rx d0, DL, h.1, h.2, ?_⟩)
          rw [eqv_str_no d (by
            simp only [toD] at d0
            cases t : toDs xs with
            | none => rw [t] at d0; cases d0
            | some ds => rw [t] at d0; cases d0; exact .inr ⟨_, rfl⟩)]
          exact q
        · rw [if_neg h] at p; exact p.elim
    | _ => exact p.elim
theorem oNotInX_str {G : MHeap} {y : MV} {zs : List Str} (h : strsG G y = some zs) (z : Str) (e : List SV) : oNotInX (.str z) y ⟨e, G⟩ = .ok (.bl (!decide (z ∈ zs))) ⟨e, G⟩ := by
  unfold oNotInX; simp only [h]

/-! ## where True stands in a list of truths -/
def blsOf : List MV → Option (List Bool)
  | [] => some []
  | .bl z :: xs => (blsOf xs).map (z :: ·)
  | _ => none
def mIndexB (mr : EM) : EM := fun s => (mr s).bind fun r s0 => match r with
  | .lst xs => (match blsOf xs with
    | some bs => if true ∈ bs then .ok (.int (bs.idxOf true : Nat)) s0 else .stuck
    | none => .stuck)
  | _ => .stuck
theorem blsOf_reps {ρ : List Addr} {K : KA} {H : Hp} : ∀ {xs : List MV} {vs : List V} {ys : List Bool}, blsOf xs = some ys → Reps ρ K H xs vs → vs = ys.map V.bl
  | [], _, ys, e, .nil => by cases e; rfl
  | x :: xs, _, ys, e, .cons r t => by
    cases r with
    | bl z =>
      simp only [blsOf] at e
      cases e2 : blsOf xs with
      | none => rw [e2] at e; cases e
      | some zs => rw [e2] at e; cases e; rw [blsOf_reps e2 t]; rfl
    | _ => cases e
theorem idxB_first {z : Bool} : ∀ {ks : List Bool} {m : Nat}, m < ks.idxOf z → ks[m]? ≠ some z
  | [], m, h => by simp
  | k :: ks, m, h => by
    rw [List.idxOf_cons] at h
    by_cases q : k = z
    · subst q; simp at h
    · have e : (k == z) = false := by simpa using q
      rw [e, cond_false] at h
      match m with
      | 0 => intro w; rw [List.getElem?_cons_zero] at w; exact q (Option.some.inj w)
      | m + 1 => rw [List.getElem?_cons_succ]; exact idxB_first (by omega)
section
variable {K : KA} {W : WX} {ta : TE} {ma : EM}
theorem sim_indexB {te : TE} (hr : SimE K W ta ma) (h : SimE K W te (mCon (.bl true))) : SimE K W (tBM K.F "list" (rIndex K.F) ta (tCons te tNil)) (mIndexB ma) := by
  intro X ρ O s σ H Q S p
  refine hr.bindE S p fun r s0 ρ0 O0 H0 v S0 F0 r0 p0 => ?_
  cases r0 with
  | lst hx rx =>
    rename_i a ms vs
    simp only at p0
    cases e0 : blsOf ms with
    | none => simp only [e0] at p0; exact p0.elim
    | some bs =>
      simp only [e0] at p0
      by_cases hz : true ∈ bs
      · rw [if_pos hz] at p0
        have ev := blsOf_reps e0 rx
        subst ev
        refine ⟨.inl ⟨rfl, _, sqlv hx⟩, ?_⟩
        refine h X ρ0 O0 s0 σ H0 _ S0 ?_
        intro ρ1 O1 H1 u S1 F1 r1
        cases r1
        have hl := List.idxOf_lt_length_iff.mpr hz
        have hq := F1.ex _ _ hx
        refine ⟨a, bs.map V.bl, .bl true, bs.idxOf true, .bl true, rfl, rfl, sqlv hq, rfl, ?_, ?_, ?_, ?_, ?_⟩
        · rw [List.all_map, List.all_eq_true]; intro _ _; rfl
        · rw [List.getElem?_map, List.getElem?_eq_getElem hl, List.getElem_idxOf hl]; rfl
        · rfl
        · intro m z' hm hz'
          rw [List.getElem?_map] at hz'
          obtain ⟨k, hk, rfl⟩ := Option.map_eq_some_iff.mp hz'
          have ne : k ≠ true := fun w => idxB_first hm (w ▸ hk)
          cases k with
          | true => exact absurd rfl ne
          | false => rfl
        · exact p0 ρ1 O1 H1 _ S1 F1 (.int _)
      · rw [if_neg hz] at p0; exact p0.elim
  | _ => exact p0.elim
end
section
variable {ct : String → Addr} {X : Cx} {W : WX} {r e : Expr} {ta te : TE} {ma : EM} {pos apos : Pos}
theorem e_indexB (hr : PEM ct X W r ta ma) (h : PEM ct X W e te (mCon (.bl true)))
    (he : starEach [e] X.env = (false, eval e X.env) :: starEach [] X.env := by rfl)
    (hbase : attributeBase r "index" X.env (eval r X.env) = eval r X.env := by rfl)
    (hfew : ((backTo pos (starEach [e] X.env)).all (fun x => !x.1) && (backToKw pos (keywordEach [] X.env)).all (fun x => x.1.isSome)
      && decide ([e].length + ([] : List Keyword).length + (if ([] : List Keyword).isEmpty then 0 else 1) < 30)) = true := by rfl)
    (hline : (apos.endLine == pos.line) = true := by rfl) (hplain : (backTo pos (starEach [] X.env)).any (·.1) = false := by rfl) :
    PEM ct X W (.Call (.Attribute r "index" apos) [e] [] pos) (tBM X.K "list" (rIndex X.K) ta (tCons te tNil)) (mIndexB ma) :=
  ⟨pe_bm PySem.F.plainAttrs_list PySem.F.slot_list_index PySem.F.type_list_index mt_index hr.pe (pa_cons h.pe pa_nil he) hbase hfew hline he hplain, sim_indexB hr.sim h.sim⟩
end
theorem mIndexB_ok {mr : EM} {s s0 : MS} {xs : List MV} {bs : List Bool} (h1 : mr s = .ok (.lst xs) s0) (h2 : blsOf xs = some bs) (hz : true ∈ bs) : mIndexB mr s = .ok (.int (bs.idxOf true : Nat)) s0 := by
  unfold mIndexB; rw [h1, R.bind_ok]; simp only [h2, if_pos hz]
end M

namespace M
open PySem L2 PyProof.Rows
open Classical

/-! ## xs.insert(i, x) of a live list -/
noncomputable def mInsL (mr mk me : EM) : SM := fun s => (mr s).bind fun r s0 => match r with
  | .ref n => (match s0.G[n]? with
    | some (.lst _) => (mk s0).bind fun k s1 => (me s1).bind fun y s2 => (match s2.G[n]?, k with
      | some (.lst xs), .int j => if xs.length < 16777216 ∧ 0 ≤ j ∧ j < 1000000000 then .ok .nx ⟨s2.env, s2.G.set n (.lst (xs.take j.toNat ++ [y] ++ xs.drop j.toNat))⟩ else .stuck
      | _, _ => .stuck)
    | _ => .stuck)
  | _ => .stuck
section
variable {K : KA} {W : WX} {ta tk te : TE} {ma mk me : EM}
theorem ss_insL (hr : SimE K W ta ma) (hk : SimE K W tk mk) (h : SimE K W te me) : SimS K W (tDrop (tBM K.F "list" rIns ta (tCons tk (tCons te tNil)))) (mInsL ma mk me) := by
  intro X ρ O s σ H D S p
  refine hr.bindS S p fun r s0 ρ0 O0 H0 v S0 F0 r0 p0 => ?_
  cases r0 with
  | ref hn =>
    rename_i n a
    dsimp only at p0
    cases g : s0.G[n]? with
    | none => simp only [g] at p0; exact p0.elim
    | some o => cases o with
      | ins c ks vs => simp only [g] at p0; exact p0.elim
      | dic ms => simp only [g] at p0; exact p0.elim
      | lck od fs ms => simp only [g] at p0; exact p0.elim
      | lst ms0 =>
        simp only [g] at p0
        obtain ⟨vs0, hx0, _⟩ := S0.refL hn g
        refine ⟨.inl ⟨rfl, _, sqlh hx0⟩, ?_⟩
        refine hk.bindS S0 p0 fun k s1 ρ1 O1 H1 w S1 F1 r1 p1 => ?_
        refine h.bindS S1 p1 fun y s2 ρ2 O2 H2 u S2 F2 r2 p2 => ?_
        cases g1 : s2.G[n]? with
        | none => simp only [g1] at p2; exact p2.elim
        | some o => cases o with
          | ins c ks vs => simp only [g1] at p2; exact p2.elim
          | dic ms => simp only [g1] at p2; exact p2.elim
          | lck od fs ms => simp only [g1] at p2; exact p2.elim
          | lst xs =>
            cases r1 with
            | int j =>
              simp only [g1] at p2
              have hn1 := F2.pre n a (F1.pre n a hn)
              obtain ⟨vs, hx, rx⟩ := S2.refL hn1 g1
              by_cases hz : xs.length < 16777216 ∧ 0 ≤ j ∧ j < 1000000000
              · rw [if_pos hz] at p2
                refine ⟨a, vs, j, u, rfl, rfl, hx, by rw [← rx.length, sizeLine_eq]; exact hz.1, hz.2.1, by omega, ?_⟩
                obtain ⟨S3, F3⟩ := S2.setG hn1 (((rx.take j.toNat).append (.cons r2 .nil)).append (rx.drop j.toNat))
                exact p2 ρ2 O2 σ _ S3 F3
              · rw [if_neg hz] at p2; exact p2.elim
            | _ => simp only [g1] at p2; exact p2.elim
  | _ => exact p0.elim
end
section
variable {ct : String → Addr} {X : Cx} {W : WX} {r k e : Expr} {ta tk te : TE} {ma mk me : EM} {pos apos spos : Pos}
theorem s_insL (hr : PEM ct X W r ta ma) (hk : PEM ct X W k tk mk) (h : PEM ct X W e te me)
    (hke : starEach [k, e] X.env = (false, eval k X.env) :: starEach [e] X.env := by rfl)
    (he : starEach [e] X.env = (false, eval e X.env) :: starEach [] X.env := by rfl)
    (hbase : attributeBase r "insert" X.env (eval r X.env) = eval r X.env := by rfl)
    (hfew : ((backTo pos (starEach [k, e] X.env)).all (fun x => !x.1) && (backToKw pos (keywordEach [] X.env)).all (fun x => x.1.isSome)
      && decide ([k, e].length + ([] : List Keyword).length + (if ([] : List Keyword).isEmpty then 0 else 1) < 30)) = true := by rfl)
    (hline : (apos.endLine == pos.line) = true := by rfl) (hplain : (backTo pos (starEach [e] X.env)).any (·.1) = false := by rfl)
    (hs : swapsWith (.Call (.Attribute r "insert" apos) [k, e] [] pos) none spos.line X.env = pure false := by rfl) :
    PSM ct X W (.Expr (.Call (.Attribute r "insert" apos) [k, e] [] pos) spos) (tDrop (tBM X.K "list" rIns ta (tCons tk (tCons te tNil)))) (mInsL ma mk me) :=
  ⟨ps_expr (pe_bm PySem.F.plainAttrs_list PySem.F.slot_list_insert PySem.F.type_list_insert mt_insert hr.pe (pa_cons hk.pe (pa_cons h.pe pa_nil he) hke) hbase hfew hline hke hplain) hs, ss_insL hr.sim hk.sim h.sim⟩
end
end M

namespace M
open PySem PySem.Spec L2 PyProof.Rows RT
open Classical

/-! ## for x in reversed(list) -/
def iRevM (e : EM) : AM := fun s => (e s).bind fun x s1 => match x with
  | .lst xs => .ok xs.reverse s1
  | .scr xs => .ok xs.reverse s1
  | _ => .stuck
section
variable {K : KA} {W : WX}
theorem isWalk_rev {ρ : List Addr} {V0 : Hp} {a : Addr} {ms : List MV} {vs : List V} (h : SqL K.F V0 a vs) (r : Reps ρ K V0 ms vs) : IsWalk K ρ V0 (Itv K.F a vs.length) ms.reverse where
  go := fun i H2 e hi => by
    rw [List.length_reverse, r.length] at hi
    exact ⟨hi, vs, vs[vs.length - 1 - i]'(by omega), sql_ex e h, List.getElem?_eq_getElem _⟩
  stop := fun H2 e => by
    rw [List.length_reverse, r.length]; exact Nat.le_refl _
  yld := fun i H2 x H3 e hi y => by
    obtain ⟨rfl, y⟩ := y
    rw [List.length_reverse] at hi
    have hm : ms.length - 1 - i < ms.length := by omega
    refine ⟨Ex.refl _, ms[ms.length - 1 - i], by rw [List.getElem?_reverse hi, List.getElem?_eq_getElem hm], fun X ρ2 O2 s2 σ2 S p e2 => ?_⟩
    obtain ⟨v, hv, rv⟩ := r.get (List.getElem?_eq_getElem hm)
    have := y vs (sql_ex e h)
    rw [← r.length, hv] at this
    cases this
    exact rv.mono p e2
theorem si_rev {te : TE} {me : EM} (h : SimE K W te me) : SimI K W (iRevA K.F te) (iRevM me) := by
  intro X ρ O s σ H Q S p
  refine h.bindI S p fun x s1 ρ1 O1 H1 v S1 F1 r1 p1 => ?_
  cases r1 with
  | lst hx rx => exact ⟨_, _, rfl, .inl ⟨sqlv hx, p1.done S1 (isWalk_rev (.inl (.inl hx)) rx)⟩⟩
  | scr hx rx => exact ⟨_, _, rfl, .inl ⟨sql_ex (view_le _ _ _ _) hx, p1.done S1 (isWalk_rev hx rx)⟩⟩
  | _ => exact p1.elim
end
section
variable {ct : String → Addr} {X : Cx} {W : WX} {e : Expr} {te : TE} {me : EM} {p pos : Pos}
theorem i_rev {tg : Expr} (hm : X.mg "reversed" = none) (h : PEM ct X W e te me) (hg : Gl X "reversed" := by rfl) (hs : starEach [e] X.env = (false, eval e X.env) :: starEach [] X.env := by rfl) :
    PIM ct X W tg (.Call (.Name "reversed" p) [e] [] pos) (iRevA X.K te) (iRevM me) := ⟨pi_revA hg hm h.pe hs, si_rev h.sim⟩
end
end M

namespace M
open PySem L2
/-- F() : a call without arguments -/
theorem pe_callS0 {X : Cx} {CX : CXT} {k : Nat} {f : Addr} {fd : FuncData} {ps : List Str} {sp : Sp} {E : St → XK} {x : Str} {p pos : Pos} (F : FnOk X.prog X.w X.K X.mg X.base CX k f fd ps sp) (hr : Room k X.A) (hg : Gl X x) (hm : X.mg x = some (.ref f)) (hk : PySem.W.keepIn X.K (.ref f) = true) (hb : Binds X.K fd ps []) (hx : ∀ σ, PassesAt CX X σ (E σ))
    (hdb : (x == ("__debug__" : Str)) = false := by decide) : PE X (.Call (.Name x p) [] [] pos) (tCallS sp E tNil) := by
  refine ⟨fun pins s σ H Q I h => ?_⟩
  refine wpAny_Call_Name_kw (ld_glob I hg hm ?_ hdb)
  exact PySem.W.callWith_K0 I.kIn hk (run_fnS (us := []) F hr hb (hx σ) I .nil h)
theorem e_fn0 {ct : String → Addr} {X : Cx} {W : WX} {p pos : Pos} {k : Nat} {fn : FM} {x : Str} (I : FnI ct X.prog X.w X.K X.mg X.base x k fn) (hr : Room k X.A) (tk : Takes X W)
    (hg : Gl X x := by rfl) (hdb : (x == ("__debug__" : Str)) = false := by decide) :
    PEM ct X W (.Call (.Name x p) [] [] pos) (tCallS (spM ⟨X.K, ct⟩ fn) (WE W) tNil) (mCall fn aNil) := by
  obtain ⟨f, fd, ps, F, hm, hk, hb⟩ := I.ex
  exact ⟨pe_callS0 F hr hg hm hk hb (fun σ => passAt tk σ) hdb, sim_call sim_nil⟩
end M

namespace M
open PySem L2 PyProof.Rows
open Classical

/-! ## defs called while an exception is handled -/
structure FnC (P : Program) (w : World) (K : PySem.W.Frag) (mg : Str → Option Value) (base : Heap) (CX : CXT) (k : Nat) (f : Addr) (fd : FuncData) (ps : List Str) (sp : Sp) : Prop where
  len : ∀ vs H Q E, sp vs H Q E → vs.length = ps.length
  run : ∀ (A : Around) (outer : List Env) (s : Shared) (H : Hp) (args : Args) (us : List Value) (vs : List V) (Q : VK) (E : XK), L2H.RoomH k A → Env0 P w K mg base A outer s H → BindsTo s fd args (ps.zip us) → Vals vs us → sp vs H Q E →
    codeAny (model P w) A (.call (.ref f) args) (CR CX outer P w H s Q E) s
abbrev cxC (CX : CXT) (P : Program) (w : World) (K : PySem.W.Frag) (mg : Str → Option Value) (base : Heap) (N : List Str) (qual : Str) (scope : Scope) (f : Addr) (cd : Value) (A : Around) (outer : List Env) (s : Shared) (H : Hp) (E : XK) : Cx :=
  { cxOf CX P w K mg base N qual scope f cd A outer s H E with calm := false }
theorem inv_startC {CX : CXT} {P : Program} {w : World} {K : PySem.W.Frag} {mg : Str → Option Value} {base : Heap} {N ps : List Str} {qual : Str} {scope : Scope} {f : Addr} {cd : Value} {A : Around} {outer : List Env} {s s1 : Shared} {H : Hp} {E : XK} {us : List Value} {vs : List V}
    (S : FnScope N ps scope) (e0 : Env0 P w K mg base A outer s H) (hl : vs.length = ps.length) (r : Vals vs us)
    (x : InCallC s s.heap.objs.size (bindL (envOfC qual scope s.heap.objs.size f cd).kindOf (ps.zip us) fun _ => none) (cellsFrom (s.heap.objs.size + 1) scope.names []) (bindC (envOfC qual scope s.heap.objs.size f cd).kindOf (ps.zip us) fun _ => none) s1) :
    Inv (cxC CX P w K mg base N qual scope f cd A outer s H E) [] (L2.start N vs) H s1 := by
  have hpl : ps.length ≤ N.length := by have q := congrArg List.length S.pre; rw [List.length_take] at q; omega
  obtain ⟨h1, tk, rfl, hk⟩ := x.done
  have noA : ∀ b : Addr, b ∉ (cxC CX P w K mg base N qual scope f cd A outer s H E).ex := fun b z => absurd (show b ∈ ([] : List Addr) from z) (by simp)
  refine ⟨⟨e0.mod, S.kind, rfl, rfl, Nat.le_refl _, fun y z c h1 h2 => ?_, fun y hy => ?_, fun y c _ h => ?_, (fun z => Bool.noConfusion (show false = true from z)), Around.frames_deeper e0.frames, .inr ⟨rfl, rfl⟩, fun b z => absurd z (noA b), e0.bs, e0.bsz, fun b _ _ => noA b, fun b z => absurd z (noA b), e0.funs, e0.frf⟩,
    rfl, e0.bare, Un.kept hk, ⟨_, x.toInCall.ns, fun i y v h1 h2 h3 => ?_⟩, fun y c h => ⟨_, x.cell y c h⟩, e0.hok.fresh (Nat.le_refl _), fun y c h => ?_, fun p hp => absurd (show p ∈ ([] : List (Addr × Obj)) from hp) (by simp), e0.hok.kept hk, ?_⟩
  · exact name_of_addr x.apart (PySem.mem_of_lookup h1) (PySem.mem_of_lookup h2)
  · have hy' : scope.names.lookup y = some .cell ∨ scope.names.lookup y = some .free := hy
    rcases hy' with c | c
    · exact cell_has c
    · exact absurd rfl (S.nofree _ (PySem.mem_of_lookup c))
  · exact Nat.le_of_lt (x.above y c (PySem.mem_of_lookup h))
  · have hi : i < vs.length := by
      unfold L2.start at h2
      by_cases q : i < vs.length
      · exact q
      · rw [List.getElem?_append_right (by simpa using q), List.getElem?_replicate] at h2
        split at h2 <;> cases h2
    have ha : vs[i]? = some v := by
      unfold L2.start at h2
      rw [List.getElem?_append_left (by simpa using hi), List.getElem?_map] at h2
      cases e : vs[i]? with
      | none => rw [e] at h2; cases h2
      | some a => rw [e] at h2; cases h2; rfl
    obtain ⟨u, hu, rv⟩ := r.get ha
    have hp : ps[i]? = some y := by rw [← S.pre, List.getElem?_take_of_lt (by omega)]; exact h1
    have ndP : ps.Nodup := by rw [← S.pre]; exact S.nd.sublist (List.take_sublist _ _)
    refine ⟨u, rv, ?_⟩
    rcases S.par y (List.mem_of_getElem? hp) with k | k
    · exact .inl ⟨k, bindL_get ndP hp hu k⟩
    · obtain ⟨c, e⟩ := cell_has (n := s.heap.objs.size + 1) k
      have q := x.cell y c e
      rw [bindC_get ndP hp hu (by show scope.names.lookup y ≠ _; rw [k]; decide)] at q
      exact .inr ⟨.inl k, c, e, q⟩
  · exact e0.hok.fresh (Nat.le_of_lt (x.above y c (PySem.mem_of_lookup h)))
  · unfold L2.start
    show _ = N.length
    rw [List.length_append, List.length_map, List.length_replicate]
    omega
theorem fn_ofC {CX : CXT} {P : Program} {w : World} {K : PySem.W.Frag} {mg : Str → Option Value} {base : Heap} {k : Nat} {f : Addr} {name qual : Str} {params : Arguments} {body : List Stmt} {scope : Scope} {dV kV doc pm cdv ct oc : Value} {an od : Option Addr}
    {osl : Array (Option Value)} {N ps : List Str} {sp : Sp} (lk : K.lookup f = some ⟨oc, od, .func (PySem.W.fnOf name qual params body scope dV kV doc pm an cdv ct), osl⟩) (hcd : PySem.W.codeIn K cdv qual = true) (S : FnScope N ps scope)
    (len : ∀ vs H Q E, sp vs H Q E → vs.length = ps.length)
    (hbody : ∀ (A : Around) (outer : List Env) (s : Shared) (H : Hp) (vs : List V) (Q : VK) (E : XK), L2H.RoomH k (A.deeper (envOfC qual scope s.heap.objs.size f cdv)) → sp vs H Q E →
      ∃ t, PSs (cxC CX P w K mg base N qual scope f cdv A outer s H E) body t ∧ t { nx := fun _ H' => Q .non H', rt := Q } (L2.start N vs) H) :
    FnC P w K mg base CX (k + 1) f (PySem.W.fnOf name qual params body scope dV kV doc pm an cdv ct) ps sp := by
  refine ⟨len, fun A outer s H args us vs Q E hr e0 hb r hsp => ?_⟩
  have KX : K.In s.heap := e0.mod.kin.keeps fun b o e => (e0.bs b o e).1
  have lim : s.heap.NoLimit := e0.mod.nolimit.keeps fun b o e => (e0.bs b o e).1
  have hkind : ∀ y ∈ ps.zip us, scope.names.lookup y.1 = some .local ∨ (scope.names.lookup y.1 = some .cell ∧ ((cellsFrom (s.heap.objs.size + 1) scope.names []).lookup y.1).isSome = true) := by
    rintro ⟨n, v⟩ hy
    exact (S.par n (List.of_mem_zip hy).1).imp id fun q => ⟨q, PySem.W.cellsFrom_some _ _ _ (.inl q)⟩
  refine codeAny_call_function hr.depth (KX _ _ lk) rfl S.co S.gen rfl (PySem.W.codeRec_of KX hcd) (hb _ _ _ _ ?_)
  refine wpAny_newFunctionEnv_cells S.kind hkind fun env he s1 x => ?_
  subst he
  refine ⟨lim.keeps x.toInCall.keep, codeAny_func ?_⟩
  obtain ⟨t, ht, hq⟩ := hbody A outer s H vs Q E (hr.deeper _) hsp
  have I : Inv (cxC CX P w K mg base N qual scope f cdv A outer s H E) [] (L2.start N vs) H s1 := inv_startC S e0 (len _ _ _ _ hsp) r x
  refine wpAny_mono (ht.run [] s1 (L2.start N vs) H _ I hq) (fun fl s' hs => ?_) fun _ _ z => z
  cases fl with
  | ret u => obtain ⟨v, σ', H', J, rv, q⟩ := hs; exact ⟨v, H', J.os, J.bare, J.base, J.hok, rv, q⟩
  | next => obtain ⟨σ', H', J, q⟩ := hs; exact ⟨.non, H', J.os, J.bare, J.base, J.hok, (show RelV .non Value.none from rfl), q⟩
  | brk => obtain ⟨_, _, _, q⟩ := hs; exact q.elim
  | cont => obtain ⟨_, _, _, q⟩ := hs; exact q.elim
section
variable {X : Cx} {CX : CXT} {k : Nat} {f : Addr} {fd : FuncData} {ps : List Str} {sp : Sp} {E : L2.St → XK} {x : Str} {q pos : Pos} {e : Expr} {es : List Expr} {t : TA}
theorem run_fnC {pins : List (Addr × Obj)} {σ : L2.St} {H : Hp} {s : Shared} {Q : VK} {us : List Value} {vs : List V} (F : FnC X.prog X.w X.K X.mg X.base CX k f fd ps sp) (hr : L2H.RoomH k X.A) (hb : Binds X.K fd ps []) (hx : PassesAt CX X σ (E σ))
    (I : Inv X pins σ H s) (r : Vals vs us) (h : sp vs H Q (E σ)) : wpAny (model X.prog X.w) X.A (call (.ref f) us) (EP X pins σ Q) X.xe s := by
  have b := hb s us I.kIn (by rw [List.append_nil, ← r.length]; exact F.len _ _ _ _ h)
  rw [List.append_nil] at b
  refine wpAny_call (codeAny_mono (F.run X.A X.stack s H ⟨us, []⟩ us vs Q (E σ) hr I.env0 b r h) fun z s' hq => ?_)
  rcases z with e | fl
  · exact hx pins H s e s' I hq
  · cases fl with
    | ret u => exact I.after hq
    | next => exact hq.elim
    | brk => exact hq.elim
    | cont => exact hq.elim
theorem pe_callC (F : FnC X.prog X.w X.K X.mg X.base CX k f fd ps sp) (hr : L2H.RoomH k X.A) (hg : Gl X x) (hm : X.mg x = some (.ref f)) (hk : PySem.W.keepIn X.K (.ref f) = true) (hb : Binds X.K fd ps []) (hx : ∀ σ, PassesAt CX X σ (E σ))
    (ha : PA X (e :: es) t) (hdb : (x == ("__debug__" : Str)) = false := by decide) (he : starEach (e :: es) X.env = (false, eval e X.env) :: starEach es X.env := by rfl) (hpl : (backTo pos (starEach es X.env)).any (·.1) = false := by rfl) :
    PE X (.Call (.Name x q) (e :: es) [] pos) (tCallS sp E t) := by
  refine ⟨fun pins s σ H Q I h => wpAny_Call_Name_kw (ld_glob I hg hm ?_ hdb)⟩
  refine PySem.W.callWith_K (h₀ := X.base) I.ok.mod.kin hk (thn (ha.run pos pins s σ H _ I h) fun us s1 ⟨vs, H1, I1, r, q1⟩ => ⟨I1.kIn, ?_⟩) he hpl
  exact run_fnC F hr hb (hx σ) I1 r q1
end
/-- from a body to its function, called while an exception is handled -/
theorem fnMC {P : Program} {w : World} {K : PySem.W.Frag} (ct : String → Addr) {mg : Str → Option Value} {base : Heap} {x qual : Str} {st : Stmt} {f : Addr} {fd : FuncData} {N ps : List Str} {k : Nat} (fn : FM) (F : Fun K x qual st f fd) (Sc : FnScope N ps (defScope st))
    (len : ∀ ms G, fn ms G ≠ .stuck → ms.length = ps.length) (b : SM)
    (hb : ∀ (cdv : Value) (A : Around) (outer : List Env) (s : Shared) (H : Hp) (E : XK), L2H.RoomH k (A.deeper (PyProof.Rows.envOfC qual (defScope st) s.heap.objs.size f cdv)) →
      ∃ t, PSsM ct (cxC (L2.CX P w) P w K mg base N qual (defScope st) f cdv A outer s H E) (fun cls d _ H => E cls d H) (defBody st) t b)
    (hm : ∀ ms G, fn ms G ≠ .stuck → runB b N.length ms G = fn ms G) : FnC P w K mg base (L2.CX P w) (k + 1) f fd ps (spM ⟨K, ct⟩ fn) := by
  obtain ⟨oc, od, kV, doc, pm, an, cdv, cty, osl, rfl, lk, hcd⟩ := F.ex
  refine fn_ofC lk hcd Sc (fun vs H Q E h => ?_) (fun A outer s H vs Q E hr h => ?_)
  · obtain ⟨X, ρ, G, ms, S, r, p⟩ := h
    rw [← r.length]
    refine len ms G fun e => ?_
    rw [e] at p
    exact p.elim
  · obtain ⟨t, D⟩ := hb cdv A outer s H E hr
    refine ⟨t, D.pe, ?_⟩
    obtain ⟨X, ρ, G, ms, S, r, p⟩ := h
    have hne : fn ms G ≠ .stuck := fun e => by rw [e] at p; exact p.elim
    have e := hm ms G hne
    refine D.sim X ρ O0 ⟨env0 N.length ms, G⟩ (L2.start N vs) H _ (S.enter r) ?_
    unfold runB toRF at e
    cases eb : b ⟨env0 N.length ms, G⟩ with
    | ok f s' =>
      rw [eb] at e
      cases f with
      | nx =>
        rw [← e] at p
        intro ρ' O' σ' H' S' F'
        exact p ρ' H' .non S'.drop (F'.trans fut_drop) .non
      | rt x =>
        rw [← e] at p
        intro ρ' O' σ' H' v S' F' r'
        exact p ρ' H' v S'.drop (F'.trans fut_drop) (fut_drop.rep r')
      | bk => exact absurd e.symm hne
      | ct => exact absurd e.symm hne
    | exc c s' =>
      rw [eb] at e
      rw [← e] at p
      intro ρ' O' σ' H' S' F'
      exact p ρ' H' S'.drop (F'.trans fut_drop)
    | stuck => rw [eb] at e; exact absurd e.symm hne
structure FnIC (ct : String → Addr) (P : Program) (w : World) (K : PySem.W.Frag) (mg : Str → Option Value) (base : Heap) (x : Str) (k : Nat) (fn : FM) : Prop where
  ex : ∃ f fd ps, FnC P w K mg base (L2.CX P w) k f fd ps (spM ⟨K, ct⟩ fn) ∧ mg x = some (.ref f) ∧ PySem.W.keepIn K (.ref f) = true ∧ Binds K fd ps []
theorem roomS {j k : Nat} {A : Around} {v : Option Value} (r : Room k A) (h : j ≤ k) : L2H.RoomH j (A.mark v) := ⟨by have q := r.dp; show A.depth + 3 * j + 5 < _; omega, by have q := r.un; show A.units + 16 * j + 200 < _; omega⟩
abbrev wNo : WX := fun _ _ _ _ => False
theorem takesNo {X : Cx} : Takes X wNo := fun _ _ ⟨_, _, _, _, _, _, _, _, _, _, _, _, _, _, _, _, z⟩ => z.elim
theorem e_fnC {ct : String → Addr} {X : Cx} {e : Expr} {es : List Expr} {mr : AM} {p pos : Pos} {k : Nat} {fn : FM} {x : Str} {tr : TA} (I : FnIC ct X.prog X.w X.K X.mg X.base x k fn) (hr : L2H.RoomH k X.A)
    (ha : PAM ct X wNo (e :: es) tr mr) (hg : Gl X x := by rfl) (hdb : (x == ("__debug__" : Str)) = false := by decide) (he : starEach (e :: es) X.env = (false, eval e X.env) :: starEach es X.env := by rfl) (hpl : (backTo pos (starEach es X.env)).any (·.1) = false := by rfl) :
    PEM ct X wNo (.Call (.Name x p) (e :: es) [] pos) (tCallS (spM ⟨X.K, ct⟩ fn) (WE wNo) tr) (mCall fn mr) := by
  obtain ⟨f, fd, ps, F, hm, hk, hb⟩ := I.ex
  exact ⟨pe_callC F hr hg hm hk hb (fun σ => passAt takesNo σ) ha.pe hdb he hpl, sim_call ha.sim⟩

/-! ## try .. except C as e: a suite that ends quietly -/
def wSuite (K : PySem.W.Frag) (c : Value) (i : Nat) (R2 : TS → Prop) (Wout : WX) (D : Ends) : WX := fun cls d σ H => ∃ b, PySem.W.exmOne K cls c = some b ∧
  (b = true → ∃ C, cls = .ref C ∧ d = none ∧ ∀ a, H a = none → ∀ ts, R2 ts → ts { nx := fun σ' H' => D.nx (σ'.set i none) H', rt := fun _ _ => False } (σ.set i (some (.ref a))) (upd H a (ErrO C a))) ∧ (b = false → Wout cls d σ H)
section
variable {X : Cx} {x n : Str} {c : Value} {i : Nat} {body suite : List Stmt} {b₀ : Stmt} {np pos pos' : Pos} {R : WX → TS → Prop} {R2 : TS → Prop} {Wout : WX}
theorem ps_suite (hs : X.stack = X.env :: X.outer) (hf : X.env.frame = some X.env.locals) (hN : X.N.Nodup) (hi : X.N[i]? = some n) (hln : X.env.kindOf n = some .local) (hc : Names X x c) (tk : Takes X Wout)
    (hb : ∀ (W : WX) (pn : List (Addr × Obj)) (xe : Value → Shared → Prop), Takes (X.tr pn xe) W → PassesOwn (model X.prog X.w) X.A X.env xe → ∃ tb, PSs (X.tr pn xe) body tb ∧ R W tb)
    (hsu : ∀ (a : Addr) (pn : List (Addr × Obj)), ∃ ts, PSs (X.suite a pn) (b₀ :: suite) ts ∧ R2 ts) :
    PS X (.Try body [.ExceptHandler (some (.Name x np)) (some n) (b₀ :: suite) pos'] [] [] pos) (fun D σ H => ∀ tb, R (wSuite X.K c i R2 Wout D) tb → tb D σ H) := by
  refine ⟨fun pins s σ H D I h => ?_⟩
  have kok := I.ok
  have frm : X.A.frames = some (X.env :: X.outer) := kok.frames.trans (congrArg some hs)
  have take : Takes (X.tr (X.pn ++ pins) (xeTry X pins D [.ExceptHandler (some (.Name x np)) (some n) (b₀ :: suite) pos'])) (wSuite X.K c i R2 Wout D) := by
    intro u t xx
    obtain ⟨a, B, t0, pl, σ1, H1, cls, d, rfl, J0, nb, up, sky, na, os, ag, b, hb1, yes, no⟩ := xx
    have J : Inv X pins σ1 H1 t0 := J0.ofTry kok
    have sky1 : Sky B (X.env :: X.outer) a (Zc cls d) X.env.locals t.heap := hs ▸ sky
    refine Sky.land Zc.steady frm hf sky1 fun h3 fl3 up3 => ?_
    obtain ⟨o3, C3⟩ := caught_of hs hf J nb fl3
    have J3 : Inv X pins σ1 H1 { t with heap := h3 } := Inv.landed J nb fl3.1 (up.trans up3) os ag
    obtain ⟨v3, e3⟩ := C3.fl
    have S3 := Inv.suite J3 C3.at' e3 na C3.nL C3.nF
    have look : PySem.W.Looks (model X.prog X.w) h3 (excMatches (.ref a) c) b := PySem.W.exm_one J3.kIn (fun A Q E t k q => wpAny_typeOf_ref (k _ _ C3.at') (by rw [C3.zc.1]; exact q)) hb1
    have clause : ∀ {Q : Value → Shared → Prop} {E : Value → Shared → Prop}, Q c { t with heap := h3 } → wpAny (model X.prog X.w) (X.A.mark (some (.ref a))) (eval (.Name x np) X.env) Q E { t with heap := h3 } := by
      intro Q E q
      rcases hc with ⟨hg, hd, hm | ⟨hm, hv, hn⟩⟩
      · exact ld_glob (X := X.suite a ((a, o3) :: (X.pn ++ pins))) S3 hg hm q hd
      · exact ld_blt (X := X.suite a ((a, o3) :: (X.pn ++ pins))) S3 hg hm hv q hn hd
    refine wpAny_handleBy_cons (codeAny_handlers_test (clause (look.here ?_))) fun q => nomatch q
    cases b with
    | false =>
      apply wpAny_handleBy_nil
      obtain ⟨_, _, _, oe, vs, T, _, _, g1, _, g3, g4, _⟩ := id fl3
      have on : wpAny (model X.prog X.w) X.A (setFlight (.ref a) X.env.frame) (fun _ t4 => wpAny (model X.prog X.w) X.A (throw (.ref a) : Sem Flow) (SP X pins D) X.xe t4) X.xe { t with heap := h3 } := by
        rw [hf]
        exact HandSPX.setFlight_upZ fl3 fun h4 hd4 up4 => wpAny_throw (tk _ _ ⟨a, B, t0, pins, σ1, H1, cls, d, rfl, J, nb, (up.trans up3).trans up4, Or.inr (Or.inr (hs.symm ▸ hd4)), na, os, ag, no rfl⟩)
      unfold PySem.passOn
      apply wpAny_bind
      apply wpAny_field g1 g3 g4
      rw [if_neg (by simp : ¬ ((Value.ref T == Value.none) = true))]
      first
        | exact wpAny_bind (wpAny_pure (wpAny_bind on))
        | exact wpAny_bind on
    | true =>
      obtain ⟨C, rfl, rfl, go⟩ := yes rfl
      apply codeAny_handlers_suite_as
      refine HandSPX.lands_againZ fl3 fun h4 fl4 up4 => ?_
      obtain ⟨o4, C4⟩ := caught_of hs hf J nb fl4
      obtain ⟨v4, e4⟩ := C4.fl
      have J4 := Inv.landed (s' := { t with heap := h4 }) J nb fl4.1 ((up.trans up3).trans up4) os ag
      have U4 := track (φ := fun hh => ∃ (oe : Obj) (vs : Array Value), hh.get? a = some oe ∧ Zc (.ref C) none oe ∧ oe.data = .fields vs) J4 na C4.at' C4.nL (fun v z => by rw [e4] at z; cases z) C4.np C4.n0 ⟨o4, v4, C4.at', C4.zc, e4⟩ errO_st
      have S4 : Inv (X.suite a (X.pn ++ pins)) [] σ1 (upd H1 a (ErrO C a)) { t with heap := h4 } :=
        ⟨U4.ok.suite _ _, U4.os, U4.bare, U4.base, U4.loc, U4.cell, U4.free, U4.freeC, fun p hp => U4.pin p (by rw [List.append_nil] at hp; exact hp), U4.hok, U4.len⟩
      refine store_ok (X := X.suite a (X.pn ++ pins)) (v := .ref a) S4 hN hi (.inl hln) rfl (fun t5 S5 => ?_) (.inr hln)
      obtain ⟨ts, PT, r2⟩ := hsu a (X.pn ++ pins)
      refine wpAny_mono (PT.run [] t5 _ _ _ S5 (go a na ts r2)) (fun f t6 q => ?_) fun _ _ z => z.elim
      cases f with
      | next =>
        obtain ⟨σ6, H6, S6, q6⟩ := q
        have I6 : Inv X pins σ6 H6 t6 := ⟨kok, S6.os, S6.bare, S6.base, S6.loc, S6.cell, S6.free, S6.freeC, fun p hp => S6.pin p (by rw [List.append_nil]; exact hp), S6.hok, S6.len⟩
        exact gone_ok I6 hN hi hln fun t7 J7 => ⟨_, _, J7, q6⟩
      | brk => obtain ⟨_, _, _, z⟩ := q; exact z.elim
      | cont => obtain ⟨_, _, _, z⟩ := q; exact z.elim
      | ret u => obtain ⟨_, _, _, _, _, z⟩ := q; exact z.elim
  obtain ⟨tb, P, r⟩ := hb _ _ _ take PassesOwn.looking
  apply wpAny_Try_except
  refine wpAny_mono (P.run [] s σ H D (I.toTry _) (h tb r)) (fun f t q => ?_) fun _ _ z => z
  cases f with
  | next => obtain ⟨σ1, H1, J1, q1⟩ := q; exact wpAny_execs_nil ⟨σ1, H1, J1.ofTry kok, q1⟩
  | brk => obtain ⟨σ1, H1, J1, q1⟩ := q; exact ⟨σ1, H1, J1.ofTry kok, q1⟩
  | cont => obtain ⟨σ1, H1, J1, q1⟩ := q; exact ⟨σ1, H1, J1.ofTry kok, q1⟩
  | ret u => obtain ⟨v1, σ1, H1, J1, r1, q1⟩ := q; exact ⟨v1, σ1, H1, J1.ofTry kok, r1, q1⟩
end
def mTryS (i : Nat) (cs : List (String × Bool)) (su b : SM) : SM := fun s => match b s with
  | .exc c s1 => (match s1.env[i]? with
    | some _ => (match cs.lookup c with
      | some true => (match su ⟨s1.env.set i (.sh (.err c)), s1.G⟩ with
        | .ok .nx s2 => .ok .nx ⟨s2.env.set i .un, s2.G⟩
        | _ => .stuck)
      | some false => .exc c s1
      | none => .stuck)
    | none => .stuck)
  | r => r
theorem mTryS_ok {i : Nat} {cs : List (String × Bool)} {su b : SM} {s s1 : MS} {x : Fl} (h : b s = .ok x s1) : mTryS i cs su b s = .ok x s1 := by unfold mTryS; rw [h]
theorem mTryS_exc {i : Nat} {cs : List (String × Bool)} {su b : SM} {s s1 s2 : MS} {c : String} {x : SV} (h : b s = .exc c s1) (hi : s1.env[i]? = some x) (hc : cs.lookup c = some true) (hu : su ⟨s1.env.set i (.sh (.err c)), s1.G⟩ = .ok .nx s2) : mTryS i cs su b s = .ok .nx ⟨s2.env.set i .un, s2.G⟩ := by
  unfold mTryS; rw [h]; simp only [hi, hc, hu]
section
variable {K : KA} {W : WX} {mb mu : SM} {C : String} {cs : List (String × Bool)} {i : Nat}
theorem ss_suite (hc : ∀ p ∈ cs, PySem.W.exmOne K.F (.ref (K.ct p.1)) (.ref (K.ct C)) = some p.2) {Z : WX → TS → Prop} (hb : ∀ W' tb, Z W' tb → SimS K W' tb mb) :
    SimS K W (fun D σ H => ∀ tb, Z (wSuite K.F (.ref (K.ct C)) i (fun ts => SimS K wNo ts mu) W D) tb → tb D σ H) (mTryS i cs mu mb) := by
  intro X ρ O s σ H D S p tb z
  refine hb _ tb z X ρ O s σ H D S ?_
  unfold mTryS at p
  cases e : mb s with
  | ok x s1 => rw [e] at p; cases x <;> exact p
  | stuck => rw [e] at p; exact p.elim
  | exc c s1 =>
    rw [e] at p
    simp only at p
    intro ρ1 O1 σ1 H1 S1 F1
    cases e0 : s1.env[i]? with
    | none => rw [e0] at p; exact p.elim
    | some x0 =>
      rw [e0] at p
      simp only at p
      have hi := (List.getElem?_eq_some_iff.mp e0).1
      cases e1 : cs.lookup c with
      | none => rw [e1] at p; exact p.elim
      | some b =>
        rw [e1] at p
        cases b with
        | false => exact ⟨false, hc _ (lookup_mem e1), (fun q => Bool.noConfusion q), fun _ => p ρ1 O1 σ1 H1 S1 F1⟩
        | true =>
          refine ⟨true, hc _ (lookup_mem e1), fun _ => ⟨_, rfl, rfl, fun a na ts hu => ?_⟩, (fun q => Bool.noConfusion q)⟩
          have S2 := S1.grow (Ex.new (o := ErrO (K.ct c) a) na)
          have r2 : Rep ρ1 K (view X ρ1 O1 (upd H1 a (ErrO (K.ct c) a))) (.err c) (.ref a) := .err (S1.view_new na)
          have S3 := S2.setSh i r2
          refine hu X _ _ _ _ _ _ S3 ?_
          simp only at p
          cases e2 : mu ⟨s1.env.set i (.sh (.err c)), s1.G⟩ with
          | stuck => rw [e2] at p; exact p.elim
          | exc c2 s2 => rw [e2] at p; exact p.elim
          | ok f s2 =>
            rw [e2] at p
            cases f with
            | nx =>
              intro ρ' O' σ' H' S' F'
              exact p _ _ _ _ (S'.setUn i) (((F1.trans (Fut.grow (Ex.new na))).trans (fut_unO i)).trans (F'.trans (fut_unO i)))
            | rt x => exact p.elim
            | bk => exact p.elim
            | ct => exact p.elim
end
section
variable {ct : String → Addr} {X : Cx} {W : WX} {x n : Str} {C : String} {cs : List (String × Bool)} {body suite : List Stmt} {b₀ : Stmt} {np pos pos' : Pos} {mb mu : SM}
theorem s_suite (i : Nat) (hN : X.N.Nodup) (I : CatI ct X.K X.mg x C cs) (tk : Takes X W)
    (hb : ∀ (W : WX) (pn : List (Addr × Obj)) (xe : Value → Shared → Prop), Takes (X.tr pn xe) W → PassesOwn (model X.prog X.w) X.A X.env xe → ∃ tb, PSsM ct (X.tr pn xe) W body tb mb)
    (hu : ∀ (a : Addr) (pn : List (Addr × Obj)), ∃ ts, PSsM ct (X.suite a pn) wNo (b₀ :: suite) ts mu)
    (hs : X.stack = X.env :: X.outer := by rfl) (hf : X.env.frame = some X.env.locals := by rfl) (hi : X.N[i]? = some n := by rfl) (hln : X.env.kindOf n = some .local := by rfl) (hg : Gl X x := by rfl) (hdb : (x == ("__debug__" : Str)) = false := by decide) :
    PSM ct X W (.Try body [.ExceptHandler (some (.Name x np)) (some n) (b₀ :: suite) pos'] [] [] pos) (fun D σ H => ∀ tb, (fun W tb => SimS ⟨X.K, ct⟩ W tb mb) (wSuite X.K (.ref (ct C)) i (fun ts => SimS ⟨X.K, ct⟩ wNo ts mu) W D) tb → tb D σ H) (mTryS i cs mu mb) :=
  ⟨ps_suite (R := fun W tb => SimS ⟨X.K, ct⟩ W tb mb) hs hf hN hi hln ⟨hg, hdb, .inl I.gm⟩ tk (fun W pn xe tk' ps => by
      obtain ⟨tb, P⟩ := hb W pn xe tk' ps
      exact ⟨tb, P.pe, P.sim⟩) (fun a pn => by
      obtain ⟨ts, P⟩ := hu a pn
      exact ⟨ts, P.pe, P.sim⟩),
    ss_suite (K := ⟨X.K, ct⟩) I.all (fun _ _ z => z)⟩
end
end M

namespace Lk04
open PySem L2 M


def rM : Option Int → MV
  | none => .non
  | some i => .int i
def lowV (p : Int × Int) : Int × Int := (p.1 / Int.gcd p.1 p.2, p.2 / Int.gcd p.1 p.2)
noncomputable def mf_divisor : FM := fn2 fun a b G => match a, b with
  | .int a, .int b => .ok (.int (Int.gcd a b)) G
  | _, _ => .stuck
noncomputable def mf_lowest : FM := sF2 eI eI eF (fun _ b => 0 < b ∧ b.natAbs.log2 < 8900) fun t b => lowV (t, b)
noncomputable def mf_fraction_text : FM := sF1 eF eZ (fun g => g.1.natAbs.log2 < 1900 ∧ g.2.natAbs.log2 < 1900) gT
noncomputable def mf_read_whole : FM := sF1 eZ rM (fun z => okS (sg z) ∧ z.length ≤ 100000) fun z => readW (sg z)
def resF : Option (Int × Int) → MHeap → RF
  | some g, G => .ok (eF g) G
  | none, G => .exc "NoText" G
open Classical in
noncomputable def mf_read_fraction : FM := fn1 fun x G => match x with
  | .str z => if okS (sg z) ∧ z.length ≤ 100000 then resF (readF (sg z)) G else .stuck
  | .non => .exc "NoText" G
  | .int _ => .exc "NoText" G
  | .bl _ => .exc "NoText" G
  | .tup _ => .exc "NoText" G
  | .lst _ => .exc "NoText" G
  | .dic => .exc "NoText" G
  | _ => .stuck
noncomputable def mf__law_cell_at : FM := fn2 fun a b G => match a, b with
  | .scr xs, .int k => if 0 ≤ k then .ok (if k < xs.length then xs.getD k.toNat .non else .int 0) G else .stuck
  | _, _ => .stuck

def mf__law_whole : FM := fn1 fun a G => match a with
  | .int _ => .ok (.bl true) G
  | _ => .stuck

noncomputable def mf__law_divisor : FM := fn2 fun a b G => match a, b with
  | .int a, .int b => .ok (.int (Int.gcd a b)) G
  | _, _ => .stuck


def N_divisor : List Str := ["one", "other", "here", "there", "rest"]
noncomputable def c_divisor_1 : TM := (tOf (mBin oGt (mVar 3) (mCon (.int 0))))
noncomputable def b_divisor_1 : SM := (mSeq (mAsg (gSet 4) (mBin oMod (mVar 2) (mVar 3)))
  (mSeq (mAsg (gSet 2) (mVar 3))
  (mAsg (gSet 3) (mVar 4))))
noncomputable def ms_divisor : SM := (mSeq (mAsg (gSet 2) (mArg bAbs (aCons (mVar 0) aNil)))
  (mSeq (mAsg (gSet 3) (mArg bAbs (aCons (mVar 1) aNil)))
  (mSeq (mWhile c_divisor_1 b_divisor_1)
  (mRet (mVar 2)))))
def N_lowest : List Str := ["top", "bottom", "by"]
noncomputable def k_lowest_1 : SM := (mRet (mArg oTup (aCons (mBin oDiv (mVar 0) (mVar 2)) (aCons (mBin oDiv (mVar 1) (mVar 2)) aNil))))
noncomputable def ms_lowest : SM := (mSeq (mAsg (gSet 2) (mCall mf_divisor (aCons (mVar 0) (aCons (mVar 1) aNil))))
  (mSeq (mIf (tOf (mBin oLt (mVar 1) (mCon (.int 0)))) (mAsg (gSet 2) (mBin oSub (mCon (.int 0)) (mVar 2))) mNx)
  k_lowest_1))
def N_fraction_text : List Str := ["one"]
noncomputable def ms_fraction_text : SM := (mRet (mBin oAdd (mBin oAdd (mArg bStr (aCons (mBin oIdx (mVar 0) (mCon (.int 0))) aNil)) (mCon (.str "/"))) (mArg bStr (aCons (mBin oIdx (mVar 0) (mCon (.int 1))) aNil))))
def N_read_whole : List Str := ["text", "sign"]
noncomputable def b_read_whole_1 : SM := (mIf (tOf (mBin oNotInS (mVar 1) (mCon (.str "0123456789")))) (mRet (mCon .non)) mNx)
noncomputable def ms_read_whole : SM := (mSeq (mIf (tOrM (tOf (mBin oEq (mVar 0) (mCon (.str "")))) (tOrM (tOf (mBin oGt (mArg bLen (aCons (mVar 0) aNil)) (mCon (.int 13)))) (tAndM (tOf (mBin oEq (mBin oIdx (mVar 0) (mCon (.int 0))) (mCon (.str "0")))) (tOf (mBin oNe (mVar 0) (mCon (.str "0"))))))) (mRet (mCon .non)) mNx)
  (mSeq (mFor (iSigns (mVar 0)) (gSet 1) b_read_whole_1)
  (mRet (mArg bIntS (aCons (mVar 0) aNil)))))
def N_read_fraction : List Str := ["text", "body", "over", "stroke", "under", "top", "bottom"]
noncomputable def k_read_fraction_1 : SM := (mSeq (mIf (tOf (mBin oNe (mCall mf_fraction_text (aCons (mCall mf_lowest (aCons (mVar 5) (aCons (mVar 6) aNil))) aNil)) (mVar 0))) (mRaise "NoText") mNx)
  (mRet (mArg oTup (aCons (mVar 5) (aCons (mVar 6) aNil)))))
noncomputable def k_read_fraction_2 : SM := (mSeq (mAsg (gTupM 3 (gsConsM (gSet 2) (gsConsM (gSet 3) (gsConsM (gSet 4) gsNilM)))) (mStrM fPart (mVar 1) (mCon (.str "/"))))
  (mSeq (mAsg (gSet 5) (mCall mf_read_whole (aCons (mVar 2) aNil)))
  (mSeq (mAsg (gSet 6) (mCall mf_read_whole (aCons (mVar 4) aNil)))
  (mSeq (mIf (tOrM (tOf (mBin oEq (mVar 3) (mCon (.str "")))) (tOrM (tOf (mBin oIs (mVar 5) (mCon .non))) (tOrM (tOf (mBin oIs (mVar 6) (mCon .non))) (tOrM (tOf (mBin oGt (mArg bLen (aCons (mVar 2) aNil)) (mCon (.int 9)))) (tOrM (tOf (mBin oGt (mArg bLen (aCons (mVar 4) aNil)) (mCon (.int 9)))) (tOf (mBin oEq (mVar 6) (mCon (.int 0))))))))) (mRaise "NoText") mNx)
  (mSeq (mIf (tOf (mStrM fStarts (mVar 0) (mCon (.str "-")))) (mAsg (gSet 5) (mBin oSub (mCon (.int 0)) (mVar 5))) mNx)
  k_read_fraction_1)))))
noncomputable def ms_read_fraction : SM := (mSeq (mIf (tNotM (tOf (mUn (oIsi "str") (mVar 0)))) (mRaise "NoText") mNx)
  (mSeq (mAsg (gSet 1) (mVar 0))
  (mSeq (mIf (tOf (mStrM fStarts (mVar 0) (mCon (.str "-")))) (mAsg (gSet 1) (mSl (mVar 0) (oSomeM (mCon (.int 1))) oNoneM)) mNx)
  k_read_fraction_2)))
def N__law_cell_at : List Str := ["_law_script", "_law_k"]
noncomputable def ms__law_cell_at : SM := (mSeq (mIf (tOf (mBin oLt (mVar 1) (mArg bLen (aCons (mVar 0) aNil)))) (mRet (mBin oIdx (mVar 0) (mVar 1))) mNx)
  (mRet (mCon (.int 0))))
def N__law_whole : List Str := ["_law_found"]
noncomputable def ms__law_whole : SM := (mRet (mAndV (mUn (oIsi "int") (mVar 0)) (mNotV (mUn (oIsi "bool") (mVar 0)))))
def N__law_divisor : List Str := ["_law_one", "_law_other_here", "_law_rest"]
noncomputable def c__law_divisor_1 : TM := (tOf (mBin oGt (mVar 1) (mCon (.int 0))))
noncomputable def b__law_divisor_1 : SM := (mSeq (mAsg (gSet 2) (mBin oMod (mVar 0) (mVar 1)))
  (mSeq (mAsg (gSet 0) (mVar 1))
  (mAsg (gSet 1) (mVar 2))))
noncomputable def ms__law_divisor : SM := (mSeq (mAsg (gSet 0) (mArg bAbs (aCons (mVar 0) aNil)))
  (mSeq (mAsg (gSet 1) (mArg bAbs (aCons (mVar 1) aNil)))
  (mSeq (mWhile c__law_divisor_1 b__law_divisor_1)
  (mRet (mVar 0)))))
def N__law_fraction : List Str := ["_law_cell", "_law_other_here", "_law_mixed", "_law_top", "_law_bottom", "_law_by"]
noncomputable def k__law_fraction_1 : SM := (mSeq (mAsg (gSet 5) (mCall mf__law_divisor (aCons (mVar 3) (aCons (mVar 4) aNil))))
  (mRet (mArg oTup (aCons (mBin oDiv (mVar 3) (mVar 5)) (aCons (mBin oDiv (mVar 4) (mVar 5)) aNil)))))
noncomputable def k__law_fraction_2 : SM := (mSeq (mIf (tOf (mBin oEq (mBin oMod (mVar 2) (mCon (.int 4))) (mCon (.int 2)))) (mSeq (mAsg (gSet 3) (mBin oMul (mVar 0) (mCon (.int 61803398874989484820458683436563811772030917980576286213))))
  (mSeq (mAsg (gSet 3) (mBin oAdd (mBin oSub (mBin oMod (mVar 3) (mBin oSub (mBin oMul (mCon (.int 2)) (mBin oPow (mCon (.int 10)) (mCon (.int 60)))) (mCon (.int 1)))) (mBin oPow (mCon (.int 10)) (mCon (.int 60)))) (mCon (.int 1))))
  (mSeq (mAsg (gSet 4) (mBin oMul (mVar 1) (mCon (.int 41421356237309504880168872420969807856967187537694807317))))
  (mAsg (gSet 4) (mBin oAdd (mCon (.int 1)) (mBin oMod (mVar 4) (mBin oSub (mBin oPow (mCon (.int 10)) (mCon (.int 60))) (mCon (.int 1))))))))) mNx)
  k__law_fraction_1)
noncomputable def ms__law_fraction : SM := (mSeq (mAsg (gSet 2) (mBin oMod (mBin oMul (mVar 0) (mCon (.int 48271))) (mCon (.int 999983))))
  (mSeq (mAsg (gSet 3) (mBin oSub (mBin oMod (mBin oDiv (mVar 2) (mCon (.int 4))) (mCon (.int 41))) (mCon (.int 20))))
  (mSeq (mAsg (gSet 4) (mBin oAdd (mCon (.int 1)) (mBin oMod (mBin oMod (mBin oMul (mVar 1) (mCon (.int 16807))) (mCon (.int 999979))) (mCon (.int 24)))))
  (mSeq (mIf (tOf (mBin oEq (mBin oMod (mVar 2) (mCon (.int 2))) (mCon (.int 1)))) (mSeq (mAsg (gSet 3) (mBin oAdd (mBin oSub (mBin oMod (mBin oMul (mVar 0) (mCon (.int 618033988749894848204587))) (mBin oSub (mBin oMul (mCon (.int 2)) (mBin oPow (mCon (.int 10)) (mCon (.int 9)))) (mCon (.int 1)))) (mBin oPow (mCon (.int 10)) (mCon (.int 9)))) (mCon (.int 1))))
  (mAsg (gSet 4) (mBin oAdd (mCon (.int 1)) (mBin oMod (mBin oMul (mVar 1) (mCon (.int 414213562373095048801689))) (mBin oSub (mBin oPow (mCon (.int 10)) (mCon (.int 9))) (mCon (.int 1))))))) mNx)
  k__law_fraction_2))))
noncomputable def mf__law_fraction : FM := fun ms G => if ms.length = 2 then runB (shut ms__law_fraction) N__law_fraction.length ms G else .stuck
theorem len__law_fraction (ms : List MV) (G : MHeap) (h : mf__law_fraction ms G ≠ .stuck) : ms.length = 2 := by
  unfold mf__law_fraction at h
  split at h
  · assumption
  · exact absurd rfl h
theorem self__law_fraction (ms : List MV) (G : MHeap) (h : ms.length = 2) : mf__law_fraction ms G = runB ms__law_fraction N__law_fraction.length ms G := by
  unfold mf__law_fraction
  rw [if_pos h, shut_eq]
def N__law_number : List Str := ["_law_text", "_law_number_here", "_law_sign"]
noncomputable def b__law_number_1 : SM := (mSeq (mIf (tOf (mBin oNotInS (mVar 2) (mCon (.str "0123456789")))) (mRet (mUn oNeg (mCon (.int 1)))) mNx)
  (mAsg (gSet 1) (mBin oAdd (mBin oMul (mCon (.int 10)) (mVar 1)) (mStrM fFind (mCon (.str "0123456789")) (mVar 2)))))
noncomputable def ms__law_number : SM := (mSeq (mIf (tOrM (tOf (mBin oEq (mVar 0) (mCon (.str "")))) (tOrM (tOf (mBin oGt (mArg bLen (aCons (mVar 0) aNil)) (mCon (.int 9)))) (tAndM (tOf (mBin oEq (mBin oIdx (mVar 0) (mCon (.int 0))) (mCon (.str "0")))) (tOf (mBin oGt (mArg bLen (aCons (mVar 0) aNil)) (mCon (.int 1))))))) (mRet (mUn oNeg (mCon (.int 1)))) mNx)
  (mSeq (mAsg (gSet 1) (mCon (.int 0)))
  (mSeq (mFor (iSigns (mVar 0)) (gSet 2) b__law_number_1)
  (mRet (mVar 1)))))
noncomputable def mf__law_number : FM := fun ms G => if ms.length = 1 then runB (shut ms__law_number) N__law_number.length ms G else .stuck
theorem len__law_number (ms : List MV) (G : MHeap) (h : mf__law_number ms G ≠ .stuck) : ms.length = 1 := by
  unfold mf__law_number at h
  split at h
  · assumption
  · exact absurd rfl h
theorem self__law_number (ms : List MV) (G : MHeap) (h : ms.length = 1) : mf__law_number ms G = runB ms__law_number N__law_number.length ms G := by
  unfold mf__law_number
  rw [if_pos h, shut_eq]
def N__law_due : List Str := ["_law_text", "_law_at", "_law_first", "_law_top", "_law_bottom"]
noncomputable def ms__law_due : SM := (mSeq (mAsg (gSet 1) (mStrM fFind (mVar 0) (mCon (.str "/"))))
  (mSeq (mAsg (gSet 2) (mArg bInt (aCons (mBin oEq (mSl (mVar 0) oNoneM (oSomeM (mCon (.int 1)))) (mCon (.str "-"))) aNil)))
  (mSeq (mIf (tOf (mBin oLt (mVar 1) (mCon (.int 0)))) (mRet (mCon .non)) mNx)
  (mSeq (mAsg (gSet 3) (mCall mf__law_number (aCons (mSl (mVar 0) (oSomeM (mVar 2)) (oSomeM (mVar 1))) aNil)))
  (mSeq (mAsg (gSet 4) (mCall mf__law_number (aCons (mSl (mVar 0) (oSomeM (mBin oAdd (mVar 1) (mCon (.int 1)))) oNoneM) aNil)))
  (mSeq (mIf (tOrM (tOf (mBin oLt (mVar 3) (mCon (.int 0)))) (tOrM (tOf (mBin oLt (mVar 4) (mCon (.int 1)))) (tOrM (tOf (mBin oNe (mCall mf__law_divisor (aCons (mVar 3) (aCons (mVar 4) aNil))) (mCon (.int 1)))) (tAndM (tOf (mBin oEq (mVar 2) (mCon (.int 1)))) (tOf (mBin oEq (mVar 3) (mCon (.int 0)))))))) (mRet (mCon .non)) mNx)
  (mRet (mArg oTup (aCons (mBin oMul (mVar 3) (mBin oSub (mCon (.int 1)) (mBin oMul (mCon (.int 2)) (mVar 2)))) (aCons (mVar 4) aNil))))))))))
noncomputable def mf__law_due : FM := fun ms G => if ms.length = 1 then runB (shut ms__law_due) N__law_due.length ms G else .stuck
theorem len__law_due (ms : List MV) (G : MHeap) (h : mf__law_due ms G ≠ .stuck) : ms.length = 1 := by
  unfold mf__law_due at h
  split at h
  · assumption
  · exact absurd rfl h
theorem self__law_due (ms : List MV) (G : MHeap) (h : ms.length = 1) : mf__law_due ms G = runB ms__law_due N__law_due.length ms G := by
  unfold mf__law_due
  rw [if_pos h, shut_eq]
def N__law_spoilt : List Str := ["_law_text", "_law_one", "_law_cell", "_law_sign", "_law_at", "_law_by", "_law_some"]
noncomputable def ms__law_spoilt : SM := (mSeq (mAsg (gSet 3) (mBin oIdx (mCon (.str "0123456789/-+. _a\n")) (mBin oMod (mBin oDiv (mVar 2) (mCon (.int 4))) (mCon (.int 18)))))
  (mSeq (mAsg (gSet 4) (mBin oMod (mBin oDiv (mVar 2) (mCon (.int 72))) (mBin oAdd (mArg bLen (aCons (mVar 0) aNil)) (mCon (.int 1)))))
  (mSeq (mIf (tOf (mBin oEq (mBin oMod (mVar 2) (mCon (.int 4))) (mCon (.int 0)))) (mRet (mBin oAdd (mBin oAdd (mSl (mVar 0) oNoneM (oSomeM (mVar 4))) (mVar 3)) (mSl (mVar 0) (oSomeM (mVar 4)) oNoneM))) mNx)
  (mSeq (mIf (tOf (mBin oEq (mBin oMod (mVar 2) (mCon (.int 4))) (mCon (.int 1)))) (mRet (mBin oAdd (mSl (mVar 0) oNoneM (oSomeM (mVar 4))) (mSl (mVar 0) (oSomeM (mBin oAdd (mVar 4) (mCon (.int 1)))) oNoneM))) mNx)
  (mSeq (mIf (tOf (mBin oEq (mBin oMod (mVar 2) (mCon (.int 4))) (mCon (.int 2)))) (mRet (mBin oAdd (mBin oAdd (mSl (mVar 0) oNoneM (oSomeM (mVar 4))) (mVar 3)) (mSl (mVar 0) (oSomeM (mBin oAdd (mVar 4) (mCon (.int 1)))) oNoneM))) mNx)
  (mSeq (mAsg (gSet 5) (mBin oAdd (mCon (.int 2)) (mBin oMod (mBin oDiv (mVar 2) (mCon (.int 4))) (mCon (.int 2)))))
  (mSeq (mAsg (gSet 6) (mArg oLst (aCons (mBin oAdd (mBin oAdd (mArg bStr (aCons (mBin oMul (mBin oIdx (mVar 1) (mCon (.int 0))) (mVar 5)) aNil)) (mCon (.str "/"))) (mArg bStr (aCons (mBin oMul (mBin oIdx (mVar 1) (mCon (.int 1))) (mVar 5)) aNil))) (aCons (mCon (.str "1/1000000000")) (aCons (mCon (.str "1000000000/1")) aNil)))))
  (mSeq (mAsg (gSet 6) (mBin oAdd (mVar 6) (mArg oLst (aCons (mCon (.str "-999999999/1")) (aCons (mCon (.str "1/999999999")) (aCons (mBin oAdd (mCon (.str "0/")) (mArg bStr (aCons (mVar 5) aNil))) (aCons (mCon (.str "-0/1")) (aCons (mCon (.str "1/0")) aNil))))))))
  (mRet (mBin oIdx (mVar 6) (mBin oMod (mBin oDiv (mVar 2) (mCon (.int 8))) (mCon (.int 8)))))))))))))
noncomputable def mf__law_spoilt : FM := fun ms G => if ms.length = 3 then runB (shut ms__law_spoilt) N__law_spoilt.length ms G else .stuck
theorem len__law_spoilt (ms : List MV) (G : MHeap) (h : mf__law_spoilt ms G ≠ .stuck) : ms.length = 3 := by
  unfold mf__law_spoilt at h
  split at h
  · assumption
  · exact absurd rfl h
theorem self__law_spoilt (ms : List MV) (G : MHeap) (h : ms.length = 3) : mf__law_spoilt ms G = runB ms__law_spoilt N__law_spoilt.length ms G := by
  unfold mf__law_spoilt
  rw [if_pos h, shut_eq]
def N__law_other : List Str := ["_law_error"]
noncomputable def ms__law_other : SM := (mSeq (mIf (tOrM (tOf (mUn (oIsiE [("NoText", false)] [("NoneType", false)]) (mVar 0))) (tOrM (tOf (mUn (oIsiE [("NoText", false)] [("NoneType", false)]) (mVar 0))) (tOf (mUn (oIsiE [("NoText", false)] [("NoneType", false)]) (mVar 0))))) (mRet (mCon (.bl true))) mNx)
  (mSeq (mIf (tOrM (tOf (mUn (oIsiE [("NoText", false)] [("NoneType", false)]) (mVar 0))) (tOrM (tOf (mUn (oIsiE [("NoText", false)] [("NoneType", false)]) (mVar 0))) (tOf (mUn (oIsiE [("NoText", false)] [("NoneType", false)]) (mVar 0))))) (mRet (mCon (.bl true))) mNx)
  (mRet (mOrV (mUn (oIsiE [("NoText", false)] [("NoneType", false)]) (mVar 0)) (mOrV (mUn (oIsiE [("NoText", false)] [("NoneType", false)]) (mVar 0)) (mUn (oIsiE [("NoText", false)] [("NoneType", false)]) (mVar 0)))))))
noncomputable def mf__law_other : FM := fun ms G => if ms.length = 1 then runB (shut ms__law_other) N__law_other.length ms G else .stuck
theorem len__law_other (ms : List MV) (G : MHeap) (h : mf__law_other ms G ≠ .stuck) : ms.length = 1 := by
  unfold mf__law_other at h
  split at h
  · assumption
  · exact absurd rfl h
theorem self__law_other (ms : List MV) (G : MHeap) (h : ms.length = 1) : mf__law_other ms G = runB ms__law_other N__law_other.length ms G := by
  unfold mf__law_other
  rw [if_pos h, shut_eq]
def N__law_good : List Str := ["_law_text", "_law_found", "_law_refused", "_law_error", "_law_due_here"]
noncomputable def e__law_good_1 : SM := (mAsg (gSet 2) (mArg oTup (aCons (mAndV (mUn (oIsiE [("NoText", true)] [("NoneType", false)]) (mVar 3)) (mUn (oIsiE [("NoText", true)] [("NoneType", false)]) (mVar 3))) (aCons (mCall mf__law_other (aCons (mVar 3) aNil)) aNil))))
noncomputable def b__law_good_1 : SM := (mAsg (gSet 1) (mCall mf_read_fraction (aCons (mVar 0) aNil)))
noncomputable def k__law_good_1 : SM := (mSeq (mIf (tOf (mBin oIs (mVar 4) (mCon .non))) (mRet (mAndV (mBin oIs (mVar 1) (mCon .non)) (mBin oEq (mVar 2) (mArg oTup (aCons (mCon (.bl true)) (aCons (mCon (.bl false)) aNil)))))) mNx)
  (mSeq (mIf (tOrM (tNotM (tOf (mUn (oIsi "tuple") (mVar 1)))) (tOrM (tOf (mBin oNe (mArg bLen (aCons (mVar 1) aNil)) (mCon (.int 2)))) (tOrM (tNotM (tOf (mCall mf__law_whole (aCons (mBin oIdx (mVar 1) (mCon (.int 0))) aNil)))) (tNotM (tOf (mCall mf__law_whole (aCons (mBin oIdx (mVar 1) (mCon (.int 1))) aNil))))))) (mRet (mCon (.bl false))) mNx)
  (mRet (mBin oEq (mVar 1) (mVar 4)))))
noncomputable def ms__law_good : SM := (mSeq (mAsg (gSet 1) (mCon .non))
  (mSeq (mAsg (gSet 2) (mArg oTup (aCons (mCon (.bl false)) (aCons (mCon (.bl false)) aNil))))
  (mSeq (mTryS 3 [("NoText", true)] e__law_good_1 b__law_good_1)
  (mSeq (mAsg (gSet 4) (mCon .non))
  (mSeq (mIf (tOf (mUn (oIsi "str") (mVar 0))) (mAsg (gSet 4) (mCall mf__law_due (aCons (mVar 0) aNil))) mNx)
  k__law_good_1)))))
noncomputable def mf__law_good : FM := fun ms G => if ms.length = 1 then runB (shut ms__law_good) N__law_good.length ms G else .stuck
theorem len__law_good (ms : List MV) (G : MHeap) (h : mf__law_good ms G ≠ .stuck) : ms.length = 1 := by
  unfold mf__law_good at h
  split at h
  · assumption
  · exact absurd rfl h
theorem self__law_good (ms : List MV) (G : MHeap) (h : ms.length = 1) : mf__law_good ms G = runB ms__law_good N__law_good.length ms G := by
  unfold mf__law_good
  rw [if_pos h, shut_eq]
def N_law : List Str := ["_law_script", "_law_at", "_law_other_here", "_law_one", "_law_text", "_law_mixed", "_law_odd"]
noncomputable def t_law_1 : SM := shut ((mIf (tOrM (tNotM (tOf (mCall mf__law_good (aCons (mVar 4) aNil)))) (tOrM (tNotM (tOf (mCall mf__law_good (aCons (mCall mf__law_spoilt (aCons (mVar 4) (aCons (mVar 3) (aCons (mVar 5) aNil)))) aNil)))) (tNotM (tOf (mCall mf__law_good (aCons (mVar 6) aNil)))))) (mRet (mCon (.bl false))) mNx))
noncomputable def t_law_2 : SM := shut ((mSeq (mAsg (gSet 6) (mBin oIdx (mArg oLst (aCons (mCon .non) (aCons (mCon (.int 1)) (aCons (mVar 3) (aCons (mArg oLst (aCons (mCon (.str "1/2")) aNil)) (aCons (mCon (.bl true)) (aCons (mCon .dic) aNil))))))) (mBin oMod (mVar 5) (mCon (.int 6)))))
  t_law_1))
noncomputable def t_law_3 : SM := shut ((mSeq (mAsg (gSet 5) (mBin oMod (mBin oMul (mBin oAdd (mBin oIdx (mVar 0) (mVar 1)) (mBin oMul (mCon (.int 3)) (mVar 2))) (mCon (.int 69621))) (mCon (.int 999961))))
  t_law_2))
noncomputable def t_law_4 : SM := shut ((mSeq (mIf (tOrM (tNotM (tOf (mUn (oIsi "str") (mVar 4)))) (tOf (mBin oNe (mVar 4) (mBin oAdd (mBin oAdd (mArg bStr (aCons (mBin oIdx (mVar 3) (mCon (.int 0))) aNil)) (mCon (.str "/"))) (mArg bStr (aCons (mBin oIdx (mVar 3) (mCon (.int 1))) aNil)))))) (mRet (mCon (.bl false))) mNx)
  t_law_3))
noncomputable def t_law_5 : SM := shut ((mSeq (mAsg (gSet 4) (mCall mf_fraction_text (aCons (mVar 3) aNil)))
  t_law_4))
noncomputable def t_law_6 : SM := shut ((mSeq (mAsg (gSet 3) (mCall mf__law_fraction (aCons (mBin oIdx (mVar 0) (mVar 1)) (aCons (mVar 2) aNil))))
  t_law_5))
noncomputable def b_law_1 : SM := (mSeq (mAsg (gSet 2) (mCall mf__law_cell_at (aCons (mVar 0) (aCons (mBin oAdd (mVar 1) (mCon (.int 1))) aNil))))
  t_law_6)
noncomputable def t_law_7 : SM := shut ((mRet (mCon (.bl true))))
noncomputable def ms_law : SM := (mSeq (mFor (iR3 (aCons (mCon (.int 0)) (aCons (mArg bLen (aCons (mVar 0) aNil)) (aCons (mCon (.int 2)) aNil)))) (gSet 1) b_law_1)
  t_law_7)
end Lk04
namespace Lk04
open PySem L2 M

local macro_rules | `(tactic| walk_at "m") => `(tactic| simp only [mVar, mCon, mBin, mUn, aNil, aCons, mArg, tOf, tAndM, tOrM, tNotM, mIte, mAndV, mOrV, mNotV, mChain, mStrM, iSigns, oAdd_int, oAdd_str, oAdd_lst, oSub, oCmpI_int, oIs, oIsNot, isN, oNeg, oTup_ok, oLst_ok, oIsi, tyG, tyName, bAbs_int, bMax, bMin, bLen_lst, bLen_scr, bLen_tup, bLen_str, bInt, bList, bTuple, mNx, mSeq, mIf, mRet, mRetN, mDrop, mAsg, mBrk, mCt, gSet, gsNilM, gsConsM, gTupM, mCall, ofRF_ok, ofRF_exc, ofRF_stuck, R.bind_ok, R.bind_exc, R.bind_stuck, mFor, iOf, iR1, iR2, iR3, oR1_ok, oR1_len, oR2_ok, oR3_ok,
  oMod_pos, oDiv_lt, oPow_10, oEq_int, oNe_int, oEq_t2, oNe_t2, oEq_bl, oNe_bl, mSl, oNoneM, oSomeM, oSl_lst, oSl_scr, mDic0, mDic1, mLcF, iZipM, oZip, iEnumM, oEnum, seqOf, cutG_map, zipM_ints, qYes, oEq_ints, oNe_ints, oEq_nil, oNe_nil, mFrz, frzM, mLive, mLcL, mLstN, nLst_ok, mArgN, nList, mBinN, nAdd_lst, mSlN, nSl_lst, nSl_scr, mSetO, mApp, mVarF, mLenO, mIxO, mAppL, mClrL, mStL, mForL, mLcLL, bLen_ref, oAdd_lref, wipeE, mUn, oFld_ref, mRaise, mSetF, setX_ref, mMeth, oMeth_ref, mMkF, mMk, eF, eT, eIs, eI, eB, eN, eL, eP, eU, eZ, oIdx_ints, ↓oAdd_ints, ↓nAdd_ints, mapInt_len, cN0, cN1, cN2, cN3, cN4, cN5, cN6, cN7, cN8, cN9, cN10, oIdx_t0, oIdx_t1, oIdx_t2, oMul_ok, oMul_lit, oIdx_scr, oIdx_lst, ofO_some, toRF_rt, toRF_nx, toRF_exc, toRF_stuck, toRF_ite, R.bind_ite,
  env0, List.map_cons, List.map_nil, List.length_cons, List.length_nil, List.replicate_succ, List.replicate_zero, List.cons_append, List.nil_append, List.getElem?_set_self, List.set_set, List.length_set, List.getElem?_cons_zero, List.getElem?_cons_succ, List.set_cons_zero, List.set_cons_succ, if_true, if_false, decide_eq_true_eq, Bool.not_eq_true', Bool.not_true, Bool.not_false, decide_eq_false_iff_not, Bool.false_eq_true, Bool.not_eq_true, decide_not, reduceIte, Option.bind_some, Option.map_some, Nat.reduceAdd, Nat.reduceSub, Nat.reduceLeDiff, Nat.reduceLT, Nat.reduceEqDiff, Nat.reduceMul, Int.reduceNeg, Int.reduceToNat, Int.reduceLE, Int.reduceLT, Int.reduceEq, Int.reduceNe, Int.reducePow, Int.reduceMul, Int.reduceAdd, Int.reduceSub, ne_eq, not_false_eq_true, not_true_eq_false, and_self, and_true, true_and, decide_true, decide_false, fn1, fn2, fn3, fn4, fn5, kit_NoneType_int, kit_NoneType_bool, kit_NoneType_str, kit_NoneType_list, kit_NoneType_tuple, kit_NoneType_dict, kit_bool_int, kit_bool_bool, kit_bool_str, kit_bool_list, kit_bool_tuple, kit_bool_dict, kit_int_int, kit_int_bool, kit_int_str, kit_int_list, kit_int_tuple, kit_int_dict, kit_str_int, kit_str_bool, kit_str_str, kit_str_list, kit_str_tuple, kit_str_dict, kit_tuple_int, kit_tuple_bool, kit_tuple_str, kit_tuple_list, kit_tuple_tuple, kit_tuple_dict, kit_list_int, kit_list_bool, kit_list_str, kit_list_list, kit_list_tuple, kit_list_dict, kit_dict_int, kit_dict_bool, kit_dict_str, kit_dict_list, kit_dict_tuple, kit_dict_dict])
local macro_rules | `(tactic| walk_at "ms") => `(tactic| simp only [mVar, mCon, mBin, mUn, aNil, aCons, mArg, tOf, tAndM, tOrM, tNotM, mIte, mAndV, mOrV, mNotV, mChain, mStrM, iSigns, oAdd_int, oAdd_str, oAdd_lst, oSub, oCmpI_int, oIs, oIsNot, isN, oNeg, oTup_ok, oLst_ok, oIsi, tyG, tyName, bAbs_int, bMax, bMin, bLen_lst, bLen_scr, bLen_tup, bLen_str, bInt, bList, bTuple, mNx, mSeq, mIf, mRet, mRetN, mDrop, mAsg, mBrk, mCt, gSet, gsNilM, gsConsM, gTupM, mCall, ofRF_ok, ofRF_exc, ofRF_stuck, R.bind_ok, R.bind_exc, R.bind_stuck, mFor, iOf, iR1, iR2, iR3, oR1_ok, oR1_len, oR2_ok, oR3_ok,
  oMod_pos, oDiv_lt, oPow_10, oEq_int, oNe_int, oEq_t2, oNe_t2, oEq_bl, oNe_bl, mSl, oNoneM, oSomeM, oSl_lst, oSl_scr, mDic0, mDic1, mLcF, iZipM, oZip, iEnumM, oEnum, seqOf, cutG_map, zipM_ints, qYes, oEq_ints, oNe_ints, oEq_nil, oNe_nil, mFrz, frzM, mLive, mLcL, mLstN, nLst_ok, mArgN, nList, mBinN, nAdd_lst, mSlN, nSl_lst, nSl_scr, mSetO, mApp, mVarF, mLenO, mIxO, mAppL, mClrL, mStL, mForL, mLcLL, bLen_ref, oAdd_lref, wipeE, mUn, oFld_ref, mRaise, mSetF, setX_ref, mMeth, oMeth_ref, mMkF, mMk, eF, eT, eIs, eI, eB, eN, eL, eP, eU, eZ, oIdx_ints, ↓oAdd_ints, ↓nAdd_ints, mapInt_len, cN0, cN1, cN2, cN3, cN4, cN5, cN6, cN7, cN8, cN9, cN10, oIdx_t0, oIdx_t1, oIdx_t2, oMul_ok, oMul_lit, oIdx_scr, oIdx_lst, ofO_some, toRF_rt, toRF_nx, toRF_exc, toRF_stuck, toRF_ite, R.bind_ite,
  env0, List.map_cons, List.map_nil, List.length_cons, List.length_nil, List.replicate_succ, List.replicate_zero, List.cons_append, List.nil_append, List.getElem?_set_self, List.set_set, List.length_set, List.getElem?_cons_zero, List.getElem?_cons_succ, List.set_cons_zero, List.set_cons_succ, if_true, if_false, decide_eq_true_eq, Bool.not_eq_true', Bool.not_true, Bool.not_false, decide_eq_false_iff_not, Bool.false_eq_true, Bool.not_eq_true, decide_not, reduceIte, Option.bind_some, Option.map_some, Nat.reduceAdd, Nat.reduceSub, Nat.reduceLeDiff, Nat.reduceLT, Nat.reduceEqDiff, Nat.reduceMul, Int.reduceNeg, Int.reduceToNat, Int.reduceLE, Int.reduceLT, Int.reduceEq, Int.reduceNe, Int.reducePow, Int.reduceMul, Int.reduceAdd, Int.reduceSub, ne_eq, not_false_eq_true, not_true_eq_false, and_self, and_true, true_and, decide_true, decide_false, fn1, fn2, fn3, fn4, fn5, kit_NoneType_int, kit_NoneType_bool, kit_NoneType_str, kit_NoneType_list, kit_NoneType_tuple, kit_NoneType_dict, kit_bool_int, kit_bool_bool, kit_bool_str, kit_bool_list, kit_bool_tuple, kit_bool_dict, kit_int_int, kit_int_bool, kit_int_str, kit_int_list, kit_int_tuple, kit_int_dict, kit_str_int, kit_str_bool, kit_str_str, kit_str_list, kit_str_tuple, kit_str_dict, kit_tuple_int, kit_tuple_bool, kit_tuple_str, kit_tuple_list, kit_tuple_tuple, kit_tuple_dict, kit_list_int, kit_list_bool, kit_list_str, kit_list_list, kit_list_tuple, kit_list_dict, kit_dict_int, kit_dict_bool, kit_dict_str, kit_dict_list, kit_dict_tuple, kit_dict_dict, *])
theorem run__law_fraction : ∀ ms G, mf__law_fraction ms G ≠ .stuck → runB ms__law_fraction N__law_fraction.length ms G = mf__law_fraction ms G := fun ms G h => (self__law_fraction ms G (len__law_fraction ms G h)).symm
theorem run__law_number : ∀ ms G, mf__law_number ms G ≠ .stuck → runB ms__law_number N__law_number.length ms G = mf__law_number ms G := fun ms G h => (self__law_number ms G (len__law_number ms G h)).symm
theorem run__law_due : ∀ ms G, mf__law_due ms G ≠ .stuck → runB ms__law_due N__law_due.length ms G = mf__law_due ms G := fun ms G h => (self__law_due ms G (len__law_due ms G h)).symm
theorem run__law_spoilt : ∀ ms G, mf__law_spoilt ms G ≠ .stuck → runB ms__law_spoilt N__law_spoilt.length ms G = mf__law_spoilt ms G := fun ms G h => (self__law_spoilt ms G (len__law_spoilt ms G h)).symm
theorem run__law_other : ∀ ms G, mf__law_other ms G ≠ .stuck → runB ms__law_other N__law_other.length ms G = mf__law_other ms G := fun ms G h => (self__law_other ms G (len__law_other ms G h)).symm
theorem run__law_good : ∀ ms G, mf__law_good ms G ≠ .stuck → runB ms__law_good N__law_good.length ms G = mf__law_good ms G := fun ms G h => (self__law_good ms G (len__law_good ms G h)).symm
theorem gcd_pos {a b : Int} (h : ¬ (a = 0 ∧ b = 0)) : (0 : Int) < Int.gcd a b := by
  have : Int.gcd a b ≠ 0 := fun e => h (Int.gcd_eq_zero_iff.mp e)
  omega
theorem gcd_log2 {a b : Int} {n : Nat} (ha : a.natAbs.log2 < n) (h : a ≠ 0) : ((Int.gcd a b : Nat) : Int).natAbs.log2 < n := by
  have h1 : Int.gcd a b ≤ a.natAbs := Nat.le_of_dvd (by omega) (Int.gcd_dvd_natAbs_left a b)
  have := log2_mono h1
  rw [Int.natAbs_natCast]
  omega
theorem gcd_div_one {a b : Int} (h : ¬ (a = 0 ∧ b = 0)) : Int.gcd (a / Int.gcd a b) (b / Int.gcd a b) = 1 := by
  have := gcd_pos h
  exact Int.gcd_ediv_gcd_ediv_gcd (by omega)

theorem lowV_pos {t b : Int} (h : 0 < b) : 0 < (lowV (t, b)).2 := by
  have d0 : (0 : Int) < Int.gcd t b := gcd_pos fun e => by omega
  exact Int.ediv_pos_of_pos_of_dvd h (by omega) (Int.gcd_dvd_right ..)
theorem lowV_le {t b : Int} (h : 0 < b) : (lowV (t, b)).2 ≤ b := by
  have : ((lowV (t, b)).2).natAbs ≤ b.natAbs := Int.natAbs_ediv_le_natAbs _ _
  have := lowV_pos (t := t) h
  omega
theorem lowV_top {t b : Int} : ((lowV (t, b)).1).natAbs ≤ t.natAbs := Int.natAbs_ediv_le_natAbs _ _
theorem lowV_cross {t b : Int} : (lowV (t, b)).1 * b = t * (lowV (t, b)).2 := by
  have e1 : t / Int.gcd t b * Int.gcd t b = t := Int.ediv_mul_cancel (Int.gcd_dvd_left ..)
  have e2 : b / Int.gcd t b * Int.gcd t b = b := Int.ediv_mul_cancel (Int.gcd_dvd_right ..)
  show t / Int.gcd t b * b = t * (b / Int.gcd t b)
  calc t / Int.gcd t b * b = t / Int.gcd t b * (b / Int.gcd t b * Int.gcd t b) := by rw [e2]
    _ = (t / Int.gcd t b * Int.gcd t b) * (b / Int.gcd t b) := by rw [Int.mul_comm (b / Int.gcd t b), ← Int.mul_assoc]
    _ = t * (b / Int.gcd t b) := by rw [e1]
theorem lowV_gcd {t b : Int} (h : 0 < b) : Int.gcd (lowV (t, b)).1 (lowV (t, b)).2 = 1 := gcd_div_one fun e => by omega

theorem loop_divisor (x0 x1 : SV) (G : MHeap) : ∀ (n m : Nat) (r : SV), ∃ z, mWhile c_divisor_1 b_divisor_1
    ⟨[x0, x1, .sh (.int m), .sh (.int n), r], G⟩ = .ok .nx ⟨[x0, x1, .sh (.int (Nat.gcd m n)), .sh (.int 0), z], G⟩ := by
  intro n
  induction n using Nat.strongRecOn with
  | ind n ih =>
    intro m r
    rw [mWhile_if]
    unfold c_divisor_1 b_divisor_1
    walk_at "m"
    by_cases h : n = 0
    · subst h
      exact ⟨r, by rw [if_neg (by decide), Nat.gcd_zero_right]; rfl⟩
    · have hp : (0 : Int) < n := by omega
      obtain ⟨z, hz⟩ := ih (m % n) (Nat.mod_lt _ (by omega)) n (.sh (.int ((m % n : Nat) : Int)))
      refine ⟨z, ?_⟩
      rw [if_pos hp, oMod_pos hp]
      walk_at "m"
      rw [show (m : Int) % n = ((m % n : Nat) : Int) by simp]
      unfold c_divisor_1 b_divisor_1 at hz
      rw [hz, Nat.gcd_comm n, ← Nat.gcd_rec, Nat.gcd_comm]
theorem run_divisor : ∀ ms G, mf_divisor ms G ≠ .stuck → runB ms_divisor N_divisor.length ms G = mf_divisor ms G := by
  refine fn2_run fun x y G h => ?_
  cases x <;> cases y <;> first | exact absurd rfl h | skip
  rename_i a b
  obtain ⟨z, hz⟩ := loop_divisor (.sh (.int a)) (.sh (.int b)) G b.natAbs a.natAbs .un
  unfold runB ms_divisor N_divisor
  walk_at "m"
  rw [hz]
  rfl

theorem run_lowest : ∀ ms G, mf_lowest ms G ≠ .stuck → runB ms_lowest N_lowest.length ms G = mf_lowest ms G := by
  refine sF2_run fun a b G h => ?_
  obtain ⟨h3, h2⟩ := h
  have h4 : ¬ b < 0 := by omega
  have d0 : (0 : Int) < Int.gcd a b := gcd_pos fun e => by omega
  have d1 : divOk (Int.gcd a b) := by rw [Int.gcd_comm]; exact Nat.lt_trans (gcd_log2 h2 (by omega)) (by decide)
  have q : ∀ (x : Int) s, oDiv (.int x) (.int ((Int.gcd a b : Nat) : Int)) s = .ok (.int (x / Int.gcd a b)) s := fun x s => oDiv_ok d0 d1
  clear h3 h2
  unfold runB ms_lowest N_lowest k_lowest_1 mf_divisor lowV
  walk_at "ms"
theorem lowest_ev {t b : Int} (h3 : 0 < b) (h2 : b.natAbs.log2 < 8900) (G : MHeap) : mf_lowest [.int t, .int b] G = .ok (eF (lowV (t, b))) G := sF2_ev (er := eF) inj_int inj_int (a := t) (b := b) ⟨h3, h2⟩

theorem inj_rM : Inj rM := fun a b h => by cases a <;> cases b <;> simp_all [rM]
theorem text_ev {g : Int × Int} (h1 : g.1.natAbs.log2 < 1900) (h2 : g.2.natAbs.log2 < 1900) (G : MHeap) : mf_fraction_text [.tup [.int g.1, .int g.2]] G = .ok (.str (gT g)) G := sF1_ev (ea := eF) (er := eZ) inj_F (a := g) ⟨h1, h2⟩
theorem whole_evR {z : Str} (h : okS (sg z)) (hl : z.length ≤ 100000) (G : MHeap) : mf_read_whole [.str z] G = .ok (rM (readW (sg z))) G := sF1_ev (ea := eZ) (er := rM) inj_str (a := z) ⟨h, hl⟩
theorem run_fraction_text : ∀ ms G, mf_fraction_text ms G ≠ .stuck → runB ms_fraction_text N_fraction_text.length ms G = mf_fraction_text ms G := by
  refine sF1_run fun g G h => ?_
  obtain ⟨h1, h2⟩ := h
  have l1 := iT_len h1
  have l2 := iT_len h2
  have s1 : ∀ s, bStr [.int g.1] s = .ok (.str (iT g.1)) s := fun s => bStr_ok (by omega)
  have s2 : ∀ s, bStr [.int g.2] s = .ok (.str (iT g.2)) s := fun s => bStr_ok (by omega)
  have k1 : ∀ s, oAdd (.str (iT g.1)) (.str "/") s = .ok (.str (iT g.1 ++ Str.ofString "/")) s := fun s => oAdd_str (by show _ + 1 ≤ _; omega)
  have k2 : ∀ s, oAdd (.str (iT g.1 ++ Str.ofString "/")) (.str (iT g.2)) s = .ok (.str (gT g)) s := fun s => oAdd_str (by rw [Str.length_append]; show _ + 1 + _ ≤ _; omega)
  clear h1 h2 l1 l2
  unfold runB ms_fraction_text N_fraction_text
  walk_at "ms"
theorem sg_figs : sg (Str.ofString "0123456789") = [48, 49, 50, 51, 52, 53, 54, 55, 56, 57] := by rw [sg_of]; rfl
theorem fig_mem (c : Nat) : decide (c ∈ sg (Str.ofString "0123456789")) = decide (48 ≤ c ∧ c ≤ 57) := by
  rw [sg_figs, decide_eq_decide]
  simp only [List.mem_cons, List.not_mem_nil, or_false]
  omega
theorem len_ge {z : Str} {s : MS} (h : z.length ≤ 16777216) : bLen [.str z] s = .ok (.int ((sg z).length : Int)) s := by
  rw [← len_sg]
  unfold bLen
  simp only
  first
    | exact if_pos h
    | (rw [if_pos h])
theorem run_read_whole : ∀ ms G, mf_read_whole ms G ≠ .stuck → runB ms_read_whole N_read_whole.length ms G = mf_read_whole ms G := by
  refine sF1_run fun z G h => ?_
  obtain ⟨hk, hl⟩ := h
  have L := fun s => len_ge (z := z) (s := s) (by omega)
  have E0 : ∀ s, oEq (.str z) (.str "") s = .ok (.bl (decide (sg z = []))) s := fun s => oEq_str hk (okS_lit "" rfl)
  have E3 : ∀ s, oNe (.str z) (.str "0") s = .ok (.bl (!decide (sg z = [48]))) s := fun s => oNe_str hk (okS_lit "0" rfl)
  have hz : z.length = (sg z).length := len_sg z
  cases hs : sg z with
  | nil =>
    have r : readW (sg z) = none := by unfold readW; rw [if_pos (Or.inl hs)]
    rw [hs] at r E0
    clear hk hl L E3 hz
    unfold runB ms_read_whole N_read_whole
    walk_at "ms"
    rfl
  | cons c l =>
    have ne : ¬ sg z = [] := fun e => by rw [hs] at e; cases e
    have E0' : ∀ s, oEq (.str z) (.str "") s = .ok (.bl false) s := fun s => by rw [E0, decide_eq_false ne]
    have I0 : ∀ s, oIdx (.str z) (.int 0) s = .ok (.str ⟨#[c]⟩) s := fun s => oIdx_sign hs (by omega)
    have E2 : ∀ s, oEq (.str ⟨#[c]⟩) (.str "0") s = .ok (.bl (decide (c = 48))) s := fun s => by
      rw [oEq_str (fun d hd => hk d (by rw [hs]; simp only [List.mem_cons]; left; simpa using hd)) (okS_lit "0" rfl)]
      have : sg (Str.ofString "0") = [48] := by rw [sg_of]; rfl
      rw [this]
      show (R.ok (MV.bl (decide ([c] = [48]))) s : R MV) = _
      simp
    rw [← hs]
    by_cases q1 : 13 < (sg z).length
    · have q1' : (13 : Int) < ((sg z).length : Int) := by omega
      have r : readW (sg z) = none := by unfold readW; rw [if_pos (Or.inr (Or.inl q1))]
      rw [r]
      clear hk hl E0 E3 hz hs ne q1 E2
      unfold runB ms_read_whole N_read_whole
      walk_at "ms"
      rfl
    · have q1' : ¬ (13 : Int) < ((sg z).length : Int) := by omega
      by_cases q2 : c = 48 ∧ sg z ≠ [48]
      · have r : readW (sg z) = none := by unfold readW; rw [if_pos (Or.inr (Or.inr (Or.inl ⟨by rw [hs, q2.1]; rfl, q2.2⟩)))]
        rw [r]
        obtain ⟨q2a, q2b⟩ := q2
        have E2' : ∀ s, oEq (.str ⟨#[c]⟩) (.str "0") s = .ok (.bl true) s := fun s => by rw [E2, decide_eq_true q2a]
        have E3' : ∀ s, oNe (.str z) (.str "0") s = .ok (.bl true) s := fun s => by rw [E3, decide_eq_false q2b]; rfl
        clear hk hl E0 E3 hz hs ne q1 q2b q2a E2
        unfold runB ms_read_whole N_read_whole
        walk_at "ms"
        rfl
      · obtain ⟨u1, u2⟩ := forM_until (g := gSet 1) (b := b_read_whole_1) (fun c : Nat => MV.str ⟨#[c]⟩) (fun c => 48 ≤ c ∧ c ≤ 57) .non
          (fun s => ∃ e1, s = ⟨[.sh (.str z), e1], G⟩) (sg z) ⟨[.sh (.str z), .un], G⟩ ⟨_, rfl⟩ (by
            rintro d hd s ⟨e1, rfl⟩ hp
            refine ⟨_, _, rfl, ?_, .sh (.str ⟨#[d]⟩), rfl⟩
            have N : ∀ s, oNotInS (.str ⟨#[d]⟩) (.str "0123456789") s = .ok (.bl false) s := fun s => by
              rw [oNotInS_ok, show decide (d ∈ (Str.ofString "0123456789").cps.toList) = decide (48 ≤ d ∧ d ≤ 57) from fig_mem d, decide_eq_true hp]; rfl
            clear hd hp hk hl L E0 E3 hz hs ne E0' I0 E2 q1 q1' q2
            unfold b_read_whole_1
            walk_at "ms") (by
            rintro d hd s ⟨e1, rfl⟩ hp
            refine ⟨_, _, rfl, ?_, .sh (.str ⟨#[d]⟩), rfl⟩
            have N : ∀ s, oNotInS (.str ⟨#[d]⟩) (.str "0123456789") s = .ok (.bl true) s := fun s => by
              rw [oNotInS_ok, show decide (d ∈ (Str.ofString "0123456789").cps.toList) = decide (48 ≤ d ∧ d ≤ 57) from fig_mem d, decide_eq_false hp]; rfl
            clear hd hp hk hl L E0 E3 hz hs ne E0' I0 E2 q1 q1' q2
            unfold b_read_whole_1
            walk_at "ms")
        have q23 : ∀ b : Bool, c = 48 → ∀ s, oNe (.str z) (.str "0") s = .ok (.bl false) s := fun _ q3 s => by
          have q4 : sg z = [48] := Classical.byContradiction fun e => q2 ⟨q3, e⟩
          rw [E3, decide_eq_true q4]; rfl
        by_cases q5 : ∀ c ∈ sg z, 48 ≤ c ∧ c ≤ 57
        · obtain ⟨s', hf, e1, rfl⟩ := u1 q5
          have rd := PySem.intText_digits (x := z) q5 ne (by omega)
          have B : ∀ s, bIntS [.str z] s = .ok (.int ((PySem.NumText.digitsVal (sg z) : Nat) : Int)) s := fun s => bIntS_ok rd (by omega)
          have r : readW (sg z) = some ((PySem.NumText.digitsVal (sg z) : Nat) : Int) := by
            unfold readW
            rw [if_neg]
            rintro (w | w | w | w)
            · exact ne w
            · exact q1 w
            · exact q2 ⟨by rw [hs] at w; exact Option.some.inj w.1, w.2⟩
            · exact w q5
          rw [r]
          by_cases q3 : c = 48
          · have E3' := q23 true q3
            have E2' : ∀ s, oEq (.str ⟨#[c]⟩) (.str "0") s = .ok (.bl true) s := fun s => by rw [E2, decide_eq_true q3]
            clear q3 E2 hk hl E0 E3 hz hs ne q1 q2 u1 u2 q5 rd r q23
            unfold runB ms_read_whole N_read_whole
            walk_at "ms"
            rfl
          · clear hk hl E0 E3 hz hs ne q1 q2 u1 u2 q5 rd r q23
            unfold runB ms_read_whole N_read_whole
            walk_at "ms"
            rfl
        · obtain ⟨s', hf, e1, rfl⟩ := u2 q5
          have r : readW (sg z) = none := by unfold readW; rw [if_pos (Or.inr (Or.inr (Or.inr q5)))]
          rw [r]
          by_cases q3 : c = 48
          · have E3' := q23 true q3
            have E2' : ∀ s, oEq (.str ⟨#[c]⟩) (.str "0") s = .ok (.bl true) s := fun s => by rw [E2, decide_eq_true q3]
            clear q3 E2 hk hl E0 E3 hz hs ne q1 q2 u1 u2 q5 r q23
            unfold runB ms_read_whole N_read_whole
            walk_at "ms"
            rfl
          · clear hk hl E0 E3 hz hs ne q1 q2 u1 u2 q5 r q23
            unfold runB ms_read_whole N_read_whole
            walk_at "ms"
            rfl
theorem neg_head (z : Str) (s : MS) : fStarts z (.str "-") s = .ok (.bl (decide ((sg z).head? = some 45))) s := by
  show (R.ok (MV.bl (Txt.startswith z ⟨#[45]⟩)) s : R MV) = _
  rw [starts_one]
theorem tail_rf (z : Str) (bd : List Nat) (hk : okS (sg z)) (hl : z.length ≤ 100000) (hb : okS bd) (hbl : bd.length ≤ 100000) (a1 : SV) (ha : a1 = .sh (.str (T bd))) (G : MHeap) :
    toRF (k_read_fraction_2 ⟨[.sh (.str z), a1, .un, .un, .un, .un, .un], G⟩) = resF (readB (sg z) bd) G := by
  subst ha
  have W : ∀ l : List Nat, okS l → l.length ≤ 100000 → ∀ G, mf_read_whole [.str (T l)] G = .ok (rM (readW l)) G := fun l h1 h2 G => whole_evR (z := T l) h1 (by rw [len_sg]; exact h2) G
  have S1 : ∀ s, oEq (.str ⟨#[47]⟩) (.str "") s = .ok (.bl false) s := fun s => by rw [oEq_str (fun c hc => by have : c ∈ [47] := hc; simp at this; omega) (okS_lit "" rfl)]; rfl
  cases hc : cutAt 47 bd with
  | none =>
    have P : ∀ s, fPart (T bd) (.str "/") s = .ok (.tup [.str (T bd), .str Str.empty, .str Str.empty]) s := fun s => fPart_no (cutAt_none hc) (by rw [len_sg]; show bd.length ≤ _; omega)
    have W1 := W bd hb hbl
    have W2 : ∀ G, mf_read_whole [.str Str.empty] G = .ok (rM (readW [])) G := W [] (fun c hc => by cases hc) (by decide)
    have S2 : ∀ s, oEq (.str Str.empty) (.str "") s = .ok (.bl true) s := fun s => by rw [oEq_str (fun c hc => by cases hc) (okS_lit "" rfl)]; rfl
    rw [show readB (sg z) bd = none by simp only [readB, hc]]
    clear W hk hl hb hbl hc S1
    unfold k_read_fraction_2
    walk_at "ms"
    rfl
  | some p =>
    obtain ⟨a, b⟩ := p
    obtain ⟨e, na⟩ := cutAt_some hc
    have oa : okS a := okS_sub hb fun c q => by rw [e]; exact List.mem_append_left _ q
    have ob : okS b := okS_sub hb fun c q => by rw [e]; exact List.mem_append_right _ (List.mem_cons_of_mem _ q)
    have le : a.length + 1 + b.length ≤ 100000 := by rw [e] at hbl; simp at hbl; omega
    have P : ∀ s, fPart (T bd) (.str "/") s = .ok (.tup [.str (T a), .str ⟨#[47]⟩, .str (T b)]) s := fun s => fPart_mid (c := 47) (by show bd = _; exact e) na (by rw [len_sg]; show bd.length ≤ _; omega)
    have W1 := W a oa (by omega)
    have W2 := W b ob (by omega)
    have L1 : ∀ s, bLen [.str (T a)] s = .ok (.int (a.length : Int)) s := fun s => len_ge (by rw [len_sg]; show a.length ≤ _; omega)
    have L2 : ∀ s, bLen [.str (T b)] s = .ok (.int (b.length : Int)) s := fun s => len_ge (by rw [len_sg]; show b.length ≤ _; omega)
    cases ra : readW a with
    | none =>
      have W1' : ∀ G, mf_read_whole [.str (T a)] G = .ok .non G := fun G => by rw [W1, ra]; rfl
      cases rb : readW b with
      | none =>
        have W2' : ∀ G, mf_read_whole [.str (T b)] G = .ok .non G := fun G => by rw [W2, rb]; rfl
        rw [show readB (sg z) bd = none by simp only [readB, hc, ra, rb]]
        clear W hk hl hb hbl hc e na oa ob le ra rb W1 W2
        unfold k_read_fraction_2
        walk_at "ms"
        rfl
      | some l =>
        have W2' : ∀ G, mf_read_whole [.str (T b)] G = .ok (.int l) G := fun G => by rw [W2, rb]; rfl
        rw [show readB (sg z) bd = none by simp only [readB, hc, ra, rb]]
        clear W hk hl hb hbl hc e na oa ob le ra rb W1 W2
        unfold k_read_fraction_2
        walk_at "ms"
        rfl
    | some t =>
      have W1' : ∀ G, mf_read_whole [.str (T a)] G = .ok (.int t) G := fun G => by rw [W1, ra]; rfl
      cases rb : readW b with
      | none =>
        have W2' : ∀ G, mf_read_whole [.str (T b)] G = .ok .non G := fun G => by rw [W2, rb]; rfl
        rw [show readB (sg z) bd = none by simp only [readB, hc, ra, rb]]
        clear W hk hl hb hbl hc e na oa ob le ra rb W1 W2
        unfold k_read_fraction_2
        walk_at "ms"
        rfl
      | some l =>
        have W2' : ∀ G, mf_read_whole [.str (T b)] G = .ok (.int l) G := fun G => by rw [W2, rb]; rfl
        have rB : readB (sg z) bd = if 9 < a.length ∨ 9 < b.length ∨ l = 0 then none else if sg (gT (lowV (signF (sg z) t, l))) = sg z then some (signF (sg z) t, l) else none := by
          simp only [readB, hc, ra, rb]; rfl
        rw [rB]
        clear rB
        by_cases q1 : 9 < a.length
        · rw [if_pos (Or.inl q1)]
          have q1' : (9 : Int) < (a.length : Int) := by omega
          clear W hk hl hb hbl hc e na oa ob le ra rb W1 W2 q1
          unfold k_read_fraction_2
          walk_at "ms"
          rfl
        · have q1' : ¬ (9 : Int) < (a.length : Int) := by omega
          by_cases q2 : 9 < b.length
          · rw [if_pos (Or.inr (Or.inl q2))]
            have q2' : (9 : Int) < (b.length : Int) := by omega
            clear W hk hl hb hbl hc e na oa ob le ra rb W1 W2 q1 q2
            unfold k_read_fraction_2
            walk_at "ms"
            rfl
          · have q2' : ¬ (9 : Int) < (b.length : Int) := by omega
            by_cases q3 : l = 0
            · rw [if_pos (Or.inr (Or.inr q3))]
              subst q3
              clear W hk hl hb hbl hc e na oa ob le ra rb W1 W2 q1 q2
              unfold k_read_fraction_2
              walk_at "ms"
              rfl
            · rw [if_neg (by omega)]
              have bt := readW_bd ra (k := 9) (by omega)
              have bl := readW_bd rb (k := 9) (by omega)
              have b9 : (10 : Int) ^ 9 = 1000000000 := rfl
              rw [b9] at bt bl
              obtain ⟨u, hu⟩ : ∃ u, signF (sg z) t = u := ⟨_, rfl⟩
              have bu : -1000000000 < u ∧ u < 1000000000 := by rw [← hu]; unfold signF; split <;> omega
              have LO := lowest_ev (t := u) (b := l) (by omega) (bits_lt 8900 (by decide) (by omega))
              have l1 := lowV_pos (t := u) (b := l) (by omega)
              have l2 := lowV_le (t := u) (b := l) (by omega)
              have l3 := lowV_top (t := u) (b := l)
              have TX := text_ev (g := lowV (u, l)) (bits_lt 1900 (by decide) (by omega)) (bits_lt 1900 (by decide) (by omega))
              have NE : ∀ s, oNe (.str (gT (lowV (u, l)))) (.str z) s = .ok (.bl (!decide (sg (gT (lowV (u, l))) = sg z))) s := fun s => oNe_str (okS_gT _) hk
              have NH := neg_head z
              rw [hu]
              clear W hl hb hbl hc e na oa ob le ra rb W1 W2 q1 q2 bt bl b9 bu l1 l2 l3
              unfold signF at hu
              by_cases q4 : (sg z).head? = some 45
              · rw [if_pos q4] at hu
                by_cases q5 : sg (gT (lowV (u, l))) = sg z
                · have NE' : ∀ s, oNe (.str (gT (lowV (u, l)))) (.str z) s = .ok (.bl false) s := fun s => by rw [NE, decide_eq_true q5]; rfl
                  rw [if_pos q5]
                  clear NE q5 hk
                  unfold k_read_fraction_2 k_read_fraction_1
                  walk_at "ms"
                  all_goals first | done | rfl
                · have NE' : ∀ s, oNe (.str (gT (lowV (u, l)))) (.str z) s = .ok (.bl true) s := fun s => by rw [NE, decide_eq_false q5]; rfl
                  rw [if_neg q5]
                  clear NE q5 hk
                  unfold k_read_fraction_2 k_read_fraction_1
                  walk_at "ms"
                  all_goals first | done | rfl
              · rw [if_neg q4] at hu
                subst hu
                by_cases q5 : sg (gT (lowV (t, l))) = sg z
                · have NE' : ∀ s, oNe (.str (gT (lowV (t, l)))) (.str z) s = .ok (.bl false) s := fun s => by rw [NE, decide_eq_true q5]; rfl
                  rw [if_pos q5]
                  clear NE q5 hk
                  unfold k_read_fraction_2 k_read_fraction_1
                  walk_at "ms"
                  all_goals first | done | rfl
                · have NE' : ∀ s, oNe (.str (gT (lowV (t, l)))) (.str z) s = .ok (.bl true) s := fun s => by rw [NE, decide_eq_false q5]; rfl
                  rw [if_neg q5]
                  clear NE q5 hk
                  unfold k_read_fraction_2 k_read_fraction_1
                  walk_at "ms"
                  all_goals first | done | rfl

theorem run_read_fraction : ∀ ms G, mf_read_fraction ms G ≠ .stuck → runB ms_read_fraction N_read_fraction.length ms G = mf_read_fraction ms G := by
  refine fn1_run fun x G h => ?_
  cases x <;> first | exact absurd rfl h | skip
  case str z =>
    simp only at h ⊢
    by_cases hc : okS (sg z) ∧ z.length ≤ 100000
    · rw [if_pos hc]
      obtain ⟨hk, hl⟩ := hc
      have ls := len_sg z
      have NH := neg_head z
      clear h
      unfold readF bodyF
      by_cases q : (sg z).head? = some 45
      · rw [if_pos q, ← tail_rf z (sg z).tail hk hl (okS_sub hk fun c hc => List.mem_of_mem_tail hc) (by rw [List.length_tail]; omega) _ rfl]
        have SL : ∀ s, oSl (.str z) (some 1) none s = .ok (.str (T (sg z).tail)) s := fun s => oSl_tail (by omega)
        clear hk hl ls
        unfold runB ms_read_fraction N_read_fraction
        walk_at "ms"
      · rw [if_neg q, ← tail_rf z (sg z) hk hl hk (by omega) _ rfl]
        clear hk hl ls
        unfold runB ms_read_fraction N_read_fraction
        walk_at "ms"
    · rw [if_neg hc] at h; exact absurd rfl h
  all_goals
    clear h
    unfold runB ms_read_fraction N_read_fraction
    walk_at "ms"
theorem run__law_cell_at : ∀ ms G, mf__law_cell_at ms G ≠ .stuck → runB ms__law_cell_at N__law_cell_at.length ms G = mf__law_cell_at ms G := by
  refine fn2_run fun x y G h => ?_
  cases x <;> cases y <;> first | exact absurd rfl h | skip
  rename_i xs k
  by_cases hk : 0 ≤ k
  · clear h
    unfold runB ms__law_cell_at N__law_cell_at
    by_cases hl : k < xs.length
    · have hn : xs[k.toNat]? = some (xs.getD k.toNat .non) := by
        rw [List.getElem?_eq_getElem (show k.toNat < xs.length by omega)]
        simp [List.getElem?_eq_getElem (show k.toNat < xs.length by omega)]
      walk_at "ms"
    · walk_at "ms"
  · simp only [if_neg hk] at h; exact absurd rfl h

theorem cell_ev (ns : List Int) (hb : ∀ z ∈ ns, z.natAbs.log2 < 1048577) (k : Int) (h0 : 0 ≤ k) : ∃ c : Int, (∀ G, mf__law_cell_at [.scr (ns.map MV.int), .int k] G = .ok (.int c) G) ∧ c.natAbs.log2 < 1048577 := by
  by_cases h : k < ns.length
  · have h2 : k.toNat < ns.length := by omega
    exact ⟨ns[k.toNat], fun G => by simp [mf__law_cell_at, fn2, h0, h, h2], hb _ (List.getElem_mem _)⟩
  · exact ⟨0, fun G => by simp [mf__law_cell_at, fn2, h0, h], by decide⟩

theorem run__law_whole : ∀ ms G, mf__law_whole ms G ≠ .stuck → runB ms__law_whole N__law_whole.length ms G = mf__law_whole ms G := by
  refine fn1_run fun x G h => ?_
  cases x <;> first | exact absurd rfl h | skip
  unfold runB ms__law_whole N__law_whole
  walk_at "m"


theorem loop__law_divisor (G : MHeap) : ∀ (n m : Nat) (r : SV), ∃ z, mWhile c__law_divisor_1 b__law_divisor_1
    ⟨[.sh (.int m), .sh (.int n), r], G⟩ = .ok .nx ⟨[.sh (.int (Nat.gcd m n)), .sh (.int 0), z], G⟩ := by
  intro n
  induction n using Nat.strongRecOn with
  | ind n ih =>
    intro m r
    rw [mWhile_if]
    unfold c__law_divisor_1 b__law_divisor_1
    walk_at "m"
    by_cases h : n = 0
    · subst h
      exact ⟨r, by rw [if_neg (by decide), Nat.gcd_zero_right]; rfl⟩
    · have hp : (0 : Int) < n := by omega
      obtain ⟨z, hz⟩ := ih (m % n) (Nat.mod_lt _ (by omega)) n (.sh (.int ((m % n : Nat) : Int)))
      refine ⟨z, ?_⟩
      rw [if_pos hp, oMod_pos hp]
      walk_at "m"
      rw [show (m : Int) % n = ((m % n : Nat) : Int) by simp]
      unfold c__law_divisor_1 b__law_divisor_1 at hz
      rw [hz, Nat.gcd_comm n, ← Nat.gcd_rec, Nat.gcd_comm]
theorem run__law_divisor : ∀ ms G, mf__law_divisor ms G ≠ .stuck → runB ms__law_divisor N__law_divisor.length ms G = mf__law_divisor ms G := by
  refine fn2_run fun x y G h => ?_
  cases x <;> cases y <;> first | exact absurd rfl h | skip
  rename_i a b
  obtain ⟨z, hz⟩ := loop__law_divisor G b.natAbs a.natAbs .un
  unfold runB ms__law_divisor N__law_divisor
  walk_at "m"
  rw [hz]
  rfl

/-! ## slices of texts -/
theorem cutS_to (z : Str) (k : Nat) : cutS z none (some (k : Int)) = T ((sg z).take k) := by
  apply sg_inj
  show (((sg z).drop (HT.sIx z.length 0 none)).take (HT.sIx z.length z.length (some (k : Int)) - HT.sIx z.length 0 none)).toArray.toList = _
  rw [HT.sIx_none, HT.sIx_nat]
  simp only [List.toList_toArray, List.drop_zero, Nat.sub_zero]
  rw [len_sg]
  rcases Nat.le_total k (sg z).length with h | h
  · rw [Nat.min_eq_left h]
  · rw [Nat.min_eq_right h, List.take_length, List.take_of_length_le h]
theorem cutS_from (z : Str) (k : Nat) : cutS z (some (k : Int)) none = T ((sg z).drop k) := by
  apply sg_inj
  show (((sg z).drop (HT.sIx z.length 0 (some (k : Int)))).take (HT.sIx z.length z.length none - HT.sIx z.length 0 (some (k : Int)))).toArray.toList = _
  rw [HT.sIx_none, HT.sIx_nat]
  simp only [List.toList_toArray]
  rw [len_sg]
  rcases Nat.le_total k (sg z).length with h | h
  · rw [Nat.min_eq_left h, List.take_of_length_le (by rw [List.length_drop]; exact Nat.le_refl _)]
  · rw [Nat.min_eq_right h, List.drop_length, List.drop_of_length_le h]; simp
theorem oSl_to {z : Str} {k : Nat} {s : MS} (h : z.length ≤ 16777216) : oSl (.str z) none (some (k : Int)) s = .ok (.str (T ((sg z).take k))) s := by
  unfold oSl
  simp only [if_pos (show lim z.length from h), cutS_to]
theorem oSl_from {z : Str} {k : Nat} {s : MS} (h : z.length ≤ 16777216) : oSl (.str z) (some (k : Int)) none s = .ok (.str (T ((sg z).drop k))) s := by
  unfold oSl
  simp only [if_pos (show lim z.length from h), cutS_from]
theorem oIdx_strN {z : Str} {k c : Nat} {s : MS} (h : (sg z)[k]? = some c) (hl : z.length ≤ 16777216) : oIdx (.str z) (.int (k : Int)) s = .ok (.str ⟨#[c]⟩) s := by
  unfold oIdx
  have e : z.cps.toList[((k : Int)).toNat]? = some c := h
  simp only [e]
  rw [if_pos ⟨by omega, hl⟩]
theorem oAdd_T {l r : List Nat} {s : MS} (h : l.length + r.length ≤ 16777216) : oAdd (.str (T l)) (.str (T r)) s = .ok (.str (T (l ++ r))) s := by
  have e : (T l ++ T r : Str) = T (l ++ r) := by apply sg_inj; rw [sg_app]
  rw [oAdd_str (by rw [len_sg, len_sg]; exact h), e]

/-! ## the law's own reading of a number -/
noncomputable def numV (l : List Nat) : Int := match readW l with
  | some i => if l.length ≤ 9 then i else -1
  | none => -1
def digs (l : List Nat) (v : Int) : Int := l.foldl (fun (v : Int) (c : Nat) => 10 * v + ((c : Int) - 48)) v
theorem digs_val (l : List Nat) (h : ∀ c ∈ l, 48 ≤ c ∧ c ≤ 57) : digs l 0 = (PySem.NumText.digitsVal l : Nat) := by
  obtain ⟨n, hn⟩ : ∃ n, l.length = n := ⟨_, rfl⟩
  induction n generalizing l with
  | zero => rw [List.eq_nil_of_length_eq_zero hn]; rfl
  | succ n ih =>
    have ne : l ≠ [] := fun z => by rw [z] at hn; cases hn
    obtain ⟨L, c, rfl⟩ : ∃ L c, l = L ++ [c] := ⟨_, _, (List.dropLast_concat_getLast ne).symm⟩
    have i := ih L (fun x hx => h x (List.mem_append_left _ hx)) (by simpa using hn)
    have b := h c (List.mem_append_right _ List.mem_cons_self)
    unfold digs at i ⊢
    rw [List.foldl_append, i, digitsVal_snoc']
    simp only [List.foldl_cons, List.foldl_nil]
    push_cast
    omega
theorem fig_find {c : Nat} (h : 48 ≤ c ∧ c ≤ 57) (s : MS) : fFind (.ofString "0123456789") (.str ⟨#[c]⟩) s = .ok (.int ((c : Int) - 48)) s := by
  have : c = 48 ∨ c = 49 ∨ c = 50 ∨ c = 51 ∨ c = 52 ∨ c = 53 ∨ c = 54 ∨ c = 55 ∨ c = 56 ∨ c = 57 := by omega
  unfold fFind
  simp only [Txt.find, occ_one, sg_figs]
  rcases this with rfl | rfl | rfl | rfl | rfl | rfl | rfl | rfl | rfl | rfl <;> rfl
theorem loopN (G : MHeap) (a0 : SV) : ∀ (l : List Nat) (v : Int) (k : Nat) (e : SV), 0 ≤ v → v < ((10 ^ k : Nat) : Int) → k + l.length ≤ 9 →
    ((∀ c ∈ l, 48 ≤ c ∧ c ≤ 57) → ∃ e', M.forM (gSet 2) b__law_number_1 (l.map fun c => MV.str ⟨#[c]⟩) ⟨[a0, .sh (.int v), e], G⟩ = .ok .nx ⟨[a0, .sh (.int (digs l v)), e'], G⟩) ∧
    ((¬ ∀ c ∈ l, 48 ≤ c ∧ c ≤ 57) → ∃ E, M.forM (gSet 2) b__law_number_1 (l.map fun c => MV.str ⟨#[c]⟩) ⟨[a0, .sh (.int v), e], G⟩ = .ok (.rt (.int (-1))) ⟨E, G⟩)
  | [], v, k, e, _, _, _ => ⟨fun _ => ⟨e, rfl⟩, fun q => absurd (fun c hc => by cases hc) q⟩
  | c :: l, v, k, e, h0, h1, hk => by
    rw [List.length_cons] at hk
    have p9 : 10 ^ k ≤ 10 ^ 8 := Nat.pow_le_pow_right (by decide) (by omega)
    have p8 : 10 ^ 8 = 100000000 := rfl
    by_cases q : 48 ≤ c ∧ c ≤ 57
    · have N : ∀ s, oNotInS (.str ⟨#[c]⟩) (.str "0123456789") s = .ok (.bl false) s := fun s => by
        rw [oNotInS_ok, show decide (c ∈ (Str.ofString "0123456789").cps.toList) = decide (48 ≤ c ∧ c ≤ 57) from fig_mem c, decide_eq_true q]; rfl
      have F : ∀ s, fFind "0123456789" (.str ⟨#[c]⟩) s = .ok (.int ((c : Int) - 48)) s := fig_find q
      have MU : ∀ s, oMul (.int 10) (.int v) s = .ok (.int (10 * v)) s := fun s => oMul_lit (by decide) (by decide) (by omega) (by omega)
      have st : b__law_number_1 ⟨[a0, .sh (.int v), .sh (.str ⟨#[c]⟩)], G⟩ = .ok .nx ⟨[a0, .sh (.int (10 * v + ((c : Int) - 48))), .sh (.str ⟨#[c]⟩)], G⟩ := by
        clear p9 p8 hk h0 h1 q
        unfold b__law_number_1
        walk_at "ms"
      have pk : 10 ^ (k + 1) = 10 ^ k * 10 := Nat.pow_succ 10 k
      obtain ⟨i1, i2⟩ := loopN G a0 l (10 * v + ((c : Int) - 48)) (k + 1) (.sh (.str ⟨#[c]⟩)) (by omega) (by omega) (by omega)
      have step : M.forM (gSet 2) b__law_number_1 ((c :: l).map fun c => MV.str ⟨#[c]⟩) ⟨[a0, .sh (.int v), e], G⟩ = M.forM (gSet 2) b__law_number_1 (l.map fun c => MV.str ⟨#[c]⟩) ⟨[a0, .sh (.int (10 * v + ((c : Int) - 48))), .sh (.str ⟨#[c]⟩)], G⟩ := by
        rw [List.map_cons]
        conv => lhs; unfold M.forM
        have g1 : gSet 2 (.str ⟨#[c]⟩) ⟨[a0, .sh (.int v), e], G⟩ = some ⟨[a0, .sh (.int v), .sh (.str ⟨#[c]⟩)], G⟩ := rfl
        simp only [g1, st]
      rw [step]
      refine ⟨fun z => ?_, fun z => ?_⟩
      · exact i1 fun d hd => z d (List.mem_cons_of_mem _ hd)
      · exact i2 fun w => z fun d hd => by
          rcases List.mem_cons.mp hd with rfl | hd
          · exact q
          · exact w d hd
    · have N : ∀ s, oNotInS (.str ⟨#[c]⟩) (.str "0123456789") s = .ok (.bl true) s := fun s => by
        rw [oNotInS_ok, show decide (c ∈ (Str.ofString "0123456789").cps.toList) = decide (48 ≤ c ∧ c ≤ 57) from fig_mem c, decide_eq_false q]; rfl
      have st : b__law_number_1 ⟨[a0, .sh (.int v), .sh (.str ⟨#[c]⟩)], G⟩ = .ok (.rt (.int (-1))) ⟨[a0, .sh (.int v), .sh (.str ⟨#[c]⟩)], G⟩ := by
        clear p9 p8 hk h0 h1 q
        unfold b__law_number_1
        walk_at "ms"
      refine ⟨fun z => absurd (z c List.mem_cons_self) q, fun _ => ⟨[a0, .sh (.int v), .sh (.str ⟨#[c]⟩)], ?_⟩⟩
      rw [List.map_cons]
      unfold M.forM
      have g1 : gSet 2 (.str ⟨#[c]⟩) ⟨[a0, .sh (.int v), e], G⟩ = some ⟨[a0, .sh (.int v), .sh (.str ⟨#[c]⟩)], G⟩ := rfl
      simp only [g1, st]
theorem numV_none {l : List Nat} (h : readW l = none) : numV l = -1 := by unfold numV; rw [h]
theorem lnum_ev {z : Str} (hk : okS (sg z)) (hl : z.length ≤ 100000) (G : MHeap) : mf__law_number [.str z] G = .ok (.int (numV (sg z))) G := by
  rw [self__law_number _ _ rfl]
  have L := fun s => len_ge (z := z) (s := s) (by omega)
  have E0 : ∀ s, oEq (.str z) (.str "") s = .ok (.bl (decide (sg z = []))) s := fun s => oEq_str hk (okS_lit "" rfl)
  have hz : z.length = (sg z).length := len_sg z
  cases hs : sg z with
  | nil =>
    have r : numV (sg z) = -1 := numV_none (by unfold readW; rw [if_pos (Or.inl hs)])
    rw [hs] at r E0
    rw [r]
    clear hk hl L hz r
    unfold runB ms__law_number N__law_number
    walk_at "ms"
    all_goals first | done | rfl
  | cons c l =>
    have ne : ¬ sg z = [] := fun e => by rw [hs] at e; cases e
    have E0' : ∀ s, oEq (.str z) (.str "") s = .ok (.bl false) s := fun s => by rw [E0, decide_eq_false ne]
    have I0 : ∀ s, oIdx (.str z) (.int 0) s = .ok (.str ⟨#[c]⟩) s := fun s => oIdx_sign hs (by omega)
    have E2 : ∀ s, oEq (.str ⟨#[c]⟩) (.str "0") s = .ok (.bl (decide (c = 48))) s := fun s => by
      rw [oEq_str (fun d hd => hk d (by rw [hs]; simp only [List.mem_cons]; left; simpa using hd)) (okS_lit "0" rfl)]
      have : sg (Str.ofString "0") = [48] := by rw [sg_of]; rfl
      rw [this]
      show (R.ok (MV.bl (decide ([c] = [48]))) s : R MV) = _
      simp
    rw [← hs]
    by_cases q1 : 9 < (sg z).length
    · have q1' : (9 : Int) < ((sg z).length : Int) := by omega
      have r : numV (sg z) = -1 := by
        unfold numV
        split
        · rw [if_neg (by omega)]
        · rfl
      rw [r]
      clear hk hl E0 hz hs ne q1 E2 r
      unfold runB ms__law_number N__law_number
      walk_at "ms"
      all_goals first | done | rfl
    · have q1' : ¬ (9 : Int) < ((sg z).length : Int) := by omega
      by_cases q2 : c = 48 ∧ 1 < (sg z).length
      · have r : numV (sg z) = -1 := numV_none (by
          unfold readW
          rw [if_pos (Or.inr (Or.inr (Or.inl ⟨by rw [hs, q2.1]; rfl, fun e => by rw [e] at q2; simp at q2⟩)))])
        rw [r]
        obtain ⟨q2a, q2b⟩ := q2
        have q2c : (1 : Int) < ((sg z).length : Int) := by omega
        have E2' : ∀ s, oEq (.str ⟨#[c]⟩) (.str "0") s = .ok (.bl true) s := fun s => by rw [E2, decide_eq_true q2a]
        clear hk hl E0 hz hs ne q1 q2b q2a E2 r
        unfold runB ms__law_number N__law_number
        walk_at "ms"
        all_goals first | done | rfl
      · obtain ⟨u1, u2⟩ := loopN G (.sh (.str z)) (sg z) 0 0 .un (by decide) (by decide) (by omega)
        by_cases q5 : ∀ c ∈ sg z, 48 ≤ c ∧ c ≤ 57
        · obtain ⟨e1, hf⟩ := u1 q5
          have r : numV (sg z) = digs (sg z) 0 := by
            rw [digs_val _ q5]
            unfold numV readW
            rw [if_neg]
            · simp only
              rw [if_pos (by omega)]
            · rintro (w | w | w | w)
              · exact ne w
              · omega
              · refine q2 ⟨by rw [hs] at w; exact Option.some.inj w.1, ?_⟩
                rcases Nat.lt_or_ge 1 (sg z).length with z1 | z1
                · exact z1
                · refine absurd ?_ w.2
                  rw [hs] at z1 w ⊢
                  have l0 : l = [] := List.eq_nil_of_length_eq_zero (by simp only [List.length_cons] at z1; omega)
                  have c0 : c = 48 := Option.some.inj w.1
                  rw [l0, c0]
              · exact w q5
          rw [r]
          by_cases q3 : c = 48
          · have q4 : ¬ (1 : Int) < ((sg z).length : Int) := fun w => q2 ⟨q3, by omega⟩
            have E2' : ∀ s, oEq (.str ⟨#[c]⟩) (.str "0") s = .ok (.bl true) s := fun s => by rw [E2, decide_eq_true q3]
            clear hk hl E0 hz hs ne q1 q2 u1 u2 q3 E2 r q5
            unfold runB ms__law_number N__law_number
            walk_at "ms"
            all_goals first | done | rfl
          · have E2' : ∀ s, oEq (.str ⟨#[c]⟩) (.str "0") s = .ok (.bl false) s := fun s => by rw [E2, decide_eq_false q3]
            clear hk hl E0 hz hs ne q1 q2 u1 u2 q3 E2 r q5
            unfold runB ms__law_number N__law_number
            walk_at "ms"
            all_goals first | done | rfl
        · obtain ⟨e1, hf⟩ := u2 q5
          have r : numV (sg z) = -1 := numV_none (by unfold readW; rw [if_pos (Or.inr (Or.inr (Or.inr q5)))])
          rw [r]
          by_cases q3 : c = 48
          · have q4 : ¬ (1 : Int) < ((sg z).length : Int) := fun w => q2 ⟨q3, by omega⟩
            have E2' : ∀ s, oEq (.str ⟨#[c]⟩) (.str "0") s = .ok (.bl true) s := fun s => by rw [E2, decide_eq_true q3]
            clear hk hl E0 hz hs ne q1 q2 u1 u2 q3 E2 r q5
            unfold runB ms__law_number N__law_number
            walk_at "ms"
            all_goals first | done | rfl
          · have E2' : ∀ s, oEq (.str ⟨#[c]⟩) (.str "0") s = .ok (.bl false) s := fun s => by rw [E2, decide_eq_false q3]
            clear hk hl E0 hz hs ne q1 q2 u1 u2 q3 E2 r q5
            unfold runB ms__law_number N__law_number
            walk_at "ms"
            all_goals first | done | rfl
/-! ## the law's own reading of a fraction -/
theorem fFind_mid {z : Str} {c : Nat} {a b : List Nat} {s : MS} (hz : sg z = a ++ c :: b) (ha : c ∉ a) : fFind z (.str ⟨#[c]⟩) s = .ok (.int (a.length : Int)) s := by
  unfold fFind
  simp only [Txt.find, occ_one, hz, idxs_mid c a b 0 ha, List.take_succ_cons, Nat.zero_add]
theorem fFind_no {z : Str} {c : Nat} {s : MS} (hz : c ∉ sg z) : fFind z (.str ⟨#[c]⟩) s = .ok (.int (-1)) s := by
  unfold fFind
  simp only [Txt.find, occ_one, idxs_no c _ 0 hz, List.take_nil]
theorem cutS_mid (z : Str) (a b : Nat) (h : b ≤ (sg z).length) (h2 : a ≤ b) : cutS z (some (a : Int)) (some (b : Int)) = T (((sg z).take b).drop a) := by
  apply sg_inj
  show (((sg z).drop (HT.sIx z.length 0 (some (a : Int)))).take (HT.sIx z.length z.length (some (b : Int)) - HT.sIx z.length 0 (some (a : Int)))).toArray.toList = _
  rw [HT.sIx_nat, HT.sIx_nat]
  simp only [List.toList_toArray]
  rw [len_sg, Nat.min_eq_left h, Nat.min_eq_left (Nat.le_trans h2 h), List.drop_take]
theorem oSl_mid {z : Str} {a b : Nat} {s : MS} (hl : z.length ≤ 16777216) (h : b ≤ (sg z).length) (h2 : a ≤ b) : oSl (.str z) (some (a : Int)) (some (b : Int)) s = .ok (.str (T (((sg z).take b).drop a))) s := by
  unfold oSl
  simp only [if_pos (show lim z.length from hl), cutS_mid z a b h h2]
noncomputable def dueV (z : List Nat) : Option (Int × Int) := match cutAt 47 z with
  | none => none
  | some (a, b) => if numV (bodyF a) < 0 ∨ numV b < 1 ∨ Int.gcd (numV (bodyF a)) (numV b) ≠ 1 ∨ (a.head? = some 45 ∧ numV (bodyF a) = 0) then none else some (signF a (numV (bodyF a)), numV b)
def optF : Option (Int × Int) → MV
  | some g => eF g
  | none => .non
theorem numV_bd {l : List Nat} : -1 ≤ numV l ∧ numV l < 1000000000 := by
  unfold numV
  split
  · rename_i i h
    split
    · have b := readW_bd h (k := 9) (by assumption)
      have b9 : (10 : Int) ^ 9 = 1000000000 := rfl
      omega
    · omega
  · exact ⟨by decide, by decide⟩
theorem ldue_ev {z : Str} (hk : okS (sg z)) (hl : z.length ≤ 100000) (G : MHeap) : mf__law_due [.str z] G = .ok (optF (dueV (sg z))) G := by
  rw [self__law_due _ _ rfl]
  have hz : z.length = (sg z).length := len_sg z
  have T1 : ∀ s, oSl (.str z) none (some 1) s = .ok (.str (T ((sg z).take 1))) s := fun s => oSl_to (k := 1) (by omega)
  have E1 : ∀ s, oEq (.str (T ((sg z).take 1))) (.str "-") s = .ok (.bl (decide ((sg z).head? = some 45))) s := fun s => by
    rw [oEq_str (okS_sub hk fun c hc => List.mem_of_mem_take hc) (okS_lit "-" rfl)]
    have : sg (Str.ofString "-") = [45] := by rw [sg_of]; rfl
    rw [this]
    show (R.ok (MV.bl (decide ((sg z).take 1 = [45]))) s : R MV) = _
    congr 2
    rw [decide_eq_decide]
    cases sg z <;> simp
  cases hc : cutAt 47 (sg z) with
  | none =>
    have F : ∀ s, fFind z (.str "/") s = .ok (.int (-1)) s := fun s => fFind_no (cutAt_none hc)
    rw [show dueV (sg z) = none by unfold dueV; rw [hc]]
    clear hk hl hz hc
    unfold runB ms__law_due N__law_due
    walk_at "ms"
    all_goals first | done | rfl
  | some p =>
    obtain ⟨a, b⟩ := p
    obtain ⟨e, na⟩ := cutAt_some hc
    have F : ∀ s, fFind z (.str "/") s = .ok (.int (a.length : Int)) s := fun s => fFind_mid e na
    have len : (sg z).length = a.length + (b.length + 1) := by rw [e]; simp
    have hd : (sg z).head? = some 45 ↔ a.head? = some 45 := by
      rw [e]
      cases a with
      | nil => simp
      | cons x a => simp
    have S2 : ∀ s, oSl (.str z) (some ((a.length : Int) + 1)) none s = .ok (.str (T b)) s := fun s => by
      have q := oSl_from (z := z) (k := a.length + 1) (s := s) (by omega)
      rw [e, show (a ++ 47 :: b).drop (a.length + 1) = b by rw [← List.drop_drop, List.drop_left]; rfl] at q
      exact_mod_cast q
    have oa : okS a := okS_sub hk fun c q => by rw [e]; exact List.mem_append_left _ q
    have ob : okS b := okS_sub hk fun c q => by rw [e]; exact List.mem_append_right _ (List.mem_cons_of_mem _ q)
    have N2 : ∀ G, mf__law_number [.str (T b)] G = .ok (.int (numV b)) G := fun G => lnum_ev (z := T b) ob (by rw [len_sg]; show b.length ≤ _; omega) G
    have N1 : ∀ G, mf__law_number [.str (T (bodyF a))] G = .ok (.int (numV (bodyF a))) G := fun G => lnum_ev (z := T (bodyF a)) (by
        show okS (bodyF a)
        unfold bodyF
        split
        · exact okS_sub oa fun c hc => List.mem_of_mem_tail hc
        · exact oa) (by
        rw [len_sg]; show (bodyF a).length ≤ _
        unfold bodyF
        split
        · rw [List.length_tail]; omega
        · omega) G
    have D : ∀ x y : Int, ∀ G, mf__law_divisor [.int x, .int y] G = .ok (.int (Int.gcd x y)) G := fun _ _ _ => rfl
    have b1 := @numV_bd (bodyF a)
    have b2 := @numV_bd b
    rw [show dueV (sg z) = if numV (bodyF a) < 0 ∨ numV b < 1 ∨ Int.gcd (numV (bodyF a)) (numV b) ≠ 1 ∨ (a.head? = some 45 ∧ numV (bodyF a) = 0) then none else some (signF a (numV (bodyF a)), numV b) by unfold dueV; rw [hc]]
    generalize numV (bodyF a) = x at *
    generalize numV b = y at *
    have D1 := D x y
    by_cases q : a.head? = some 45
    · have E1' : ∀ s, oEq (.str (T ((sg z).take 1))) (.str "-") s = .ok (.bl true) s := fun s => by rw [E1, decide_eq_true (hd.mpr q)]
      have S1 : ∀ s, oSl (.str z) (some 1) (some (a.length : Int)) s = .ok (.str (T (bodyF a))) s := fun s => by
        have p1 : 1 ≤ a.length := by cases a with
          | nil => cases q
          | cons x a => simp
        have w := oSl_mid (z := z) (a := 1) (b := a.length) (s := s) (by omega) (by omega) p1
        rw [e, List.take_left, List.drop_one] at w
        unfold bodyF
        rw [if_pos q]
        exact w
      have M1 : ∀ s, oMul (.int x) (.int (-1)) s = .ok (.int (x * -1)) s := fun s => oMul_lit (by omega) (by omega) (by decide) (by decide)
      have sx : signF a x = x * -1 := by unfold signF; rw [if_pos q]; omega
      rw [sx]
      by_cases q1 : x < 0
      · rw [if_pos (Or.inl q1)]
        clear hk hl hz hc e na len hd oa ob D E1 b1 b2 q sx
        unfold runB ms__law_due N__law_due
        walk_at "ms"
        all_goals first | done | rfl
      · by_cases q2 : y < 1
        · rw [if_pos (Or.inr (Or.inl q2))]
          clear hk hl hz hc e na len hd oa ob D E1 b1 b2 q sx
          unfold runB ms__law_due N__law_due
          walk_at "ms"
          all_goals first | done | rfl
        · by_cases q3 : Int.gcd x y = 1
          · have NE : ∀ s, oNe (.int (Int.gcd x y)) (.int 1) s = .ok (.bl false) s := fun s => by rw [q3]; exact oNe_int.trans (by simp)
            by_cases q4 : x = 0
            · rw [if_pos (Or.inr (Or.inr (Or.inr ⟨q, q4⟩)))]
              have QE : ∀ s, oEq (.int x) (.int 0) s = .ok (.bl true) s := fun s => by rw [oEq_int, decide_eq_true q4]
              clear hk hl hz hc e na len hd oa ob D E1 b1 b2 q sx q3 q4
              unfold runB ms__law_due N__law_due
              walk_at "ms"
              all_goals first | done | rfl
            · rw [if_neg (fun z => by rcases z with z | z | z | z; exact q1 z; exact q2 z; exact z q3; exact q4 z.2)]
              clear hk hl hz hc e na len hd oa ob D E1 b1 b2 q sx q3
              unfold runB ms__law_due N__law_due
              walk_at "ms"
              all_goals first | done | rfl
          · have NE : ∀ s, oNe (.int (Int.gcd x y)) (.int 1) s = .ok (.bl true) s := fun s => by rw [oNe_int]; congr 2; simp; omega
            rw [if_pos (Or.inr (Or.inr (Or.inl q3)))]
            clear hk hl hz hc e na len hd oa ob D E1 b1 b2 q sx q3
            unfold runB ms__law_due N__law_due
            walk_at "ms"
            all_goals first | done | rfl
    · have E1' : ∀ s, oEq (.str (T ((sg z).take 1))) (.str "-") s = .ok (.bl false) s := fun s => by rw [E1, decide_eq_false (fun w => q (hd.mp w))]
      have S1 : ∀ s, oSl (.str z) (some 0) (some (a.length : Int)) s = .ok (.str (T (bodyF a))) s := fun s => by
        have w := oSl_mid (z := z) (a := 0) (b := a.length) (s := s) (by omega) (by omega) (by omega)
        rw [e, List.take_left, List.drop_zero] at w
        unfold bodyF
        rw [if_neg q]
        exact w
      have M1 : ∀ s, oMul (.int x) (.int 1) s = .ok (.int (x * 1)) s := fun s => oMul_lit (by omega) (by omega) (by decide) (by decide)
      have sx : signF a x = x * 1 := by unfold signF; rw [if_neg q]; omega
      rw [sx]
      by_cases q1 : x < 0
      · rw [if_pos (Or.inl q1)]
        clear hk hl hz hc e na len hd oa ob D E1 b1 b2 q sx
        unfold runB ms__law_due N__law_due
        walk_at "ms"
        all_goals first | done | rfl
      · by_cases q2 : y < 1
        · rw [if_pos (Or.inr (Or.inl q2))]
          clear hk hl hz hc e na len hd oa ob D E1 b1 b2 q sx
          unfold runB ms__law_due N__law_due
          walk_at "ms"
          all_goals first | done | rfl
        · by_cases q3 : Int.gcd x y = 1
          · have NE : ∀ s, oNe (.int (Int.gcd x y)) (.int 1) s = .ok (.bl false) s := fun s => by rw [q3]; exact oNe_int.trans (by simp)
            rw [if_neg (fun z => by rcases z with z | z | z | z; exact q1 z; exact q2 z; exact z q3; exact q z.1)]
            clear hk hl hz hc e na len hd oa ob D E1 b1 b2 q q3 sx
            unfold runB ms__law_due N__law_due
            walk_at "ms"
            all_goals first | done | rfl
          · have NE : ∀ s, oNe (.int (Int.gcd x y)) (.int 1) s = .ok (.bl true) s := fun s => by rw [oNe_int]; congr 2; simp; omega
            rw [if_pos (Or.inr (Or.inr (Or.inl q3)))]
            clear hk hl hz hc e na len hd oa ob D E1 b1 b2 q q3 sx
            unfold runB ms__law_due N__law_due
            walk_at "ms"
            all_goals first | done | rfl
/-! ## both readings are the same -/
theorem readW_le {l : List Nat} {i : Int} (h : readW l = some i) : l.length ≤ 13 ∧ okS l := by
  unfold readW at h
  split at h
  · cases h
  · rename_i q
    refine ⟨Nat.le_of_not_lt fun z => q (Or.inr (Or.inl z)), fun c hc => ?_⟩
    have hd : ∀ c ∈ l, 48 ≤ c ∧ c ≤ 57 := Classical.byContradiction fun z => q (Or.inr (Or.inr (Or.inr z)))
    have := hd c hc
    omega

theorem dg_snoc {n d : Nat} (hn : 0 < n) (hd : d < 10) : dg (n * 10 + d) = dg n ++ [48 + d] := by
  have t : Nat.toDigits 10 n ++ Nat.toDigits 10 d = Nat.toDigits 10 (10 * n + d) := Nat.toDigits_append_toDigits (by decide) hn hd
  rw [← dg_lt d hd, Nat.mul_comm]
  unfold dg
  rw [← t, List.map_append]
theorem dg_back : ∀ (k : Nat) (l : List Nat), l.length = k → l ≠ [] → (∀ c ∈ l, 48 ≤ c ∧ c ≤ 57) → (l.head? = some 48 → l = [48]) → dg (PySem.NumText.digitsVal l) = l
  | 0, l, h, ne, _, _ => absurd (List.eq_nil_of_length_eq_zero h) ne
  | k + 1, l, h, ne, hd, hz => by
    have e := List.dropLast_concat_getLast ne
    have b := hd _ (List.getLast_mem ne)
    obtain ⟨L, c, rfl⟩ : ∃ L c, l = L ++ [c] := ⟨_, _, e.symm⟩
    rw [List.getLast_concat] at b
    rw [digitsVal_snoc']
    by_cases q : L = []
    · subst q
      show dg (0 * 10 + (c - 48)) = [c]
      rw [show 0 * 10 + (c - 48) = c - 48 by omega, dg_lt _ (by omega), show 48 + (c - 48) = c by omega]
    · have hL : ¬ L.head? = some 48 := fun z => by
        have : (L ++ [c]).head? = some 48 := by rw [List.head?_append, z]; rfl
        have := congrArg List.length (hz this)
        cases L with
        | nil => exact q rfl
        | cons x xs => simp at this
      have ih := dg_back k L (by simpa using h) q (fun x hx => hd x (List.mem_append_left _ hx)) fun z => absurd z hL
      have pos : 0 < PySem.NumText.digitsVal L := by
        rcases Nat.eq_zero_or_pos (PySem.NumText.digitsVal L) with z | z
        · rw [z, dg_lt 0 (by decide)] at ih
          exact absurd (by rw [← ih]; rfl) hL
        · exact z
      rw [dg_snoc pos (by omega), ih, show 48 + (c - 48) = c by omega]
theorem readW_can {l : List Nat} {i : Int} (h : readW l = some i) : ∃ n : Nat, i = (n : Int) ∧ l = dg n ∧ n < 10 ^ 13 := by
  obtain ⟨b1, b2⟩ := readW_bd h (k := 13) (readW_le h).1
  unfold readW at h
  split at h
  · cases h
  · rename_i q
    refine ⟨_, (Option.some.inj h).symm, ?_, ?_⟩
    · refine (dg_back _ l rfl (fun z => q (Or.inl z)) (Classical.byContradiction fun z => q (Or.inr (Or.inr (Or.inr z)))) fun z => ?_).symm
      exact Classical.byContradiction fun w => q (Or.inr (Or.inr (Or.inl ⟨z, w⟩)))
    · have e := Option.some.inj h
      have c : (((10 : Nat) ^ 13 : Nat) : Int) = (10 : Int) ^ 13 := by simp
      omega

theorem readW_len {l : List Nat} {i : Int} (h : readW l = some i) (hl : l.length ≤ 9) : ∃ n : Nat, i = (n : Int) ∧ l = dg n ∧ n < 10 ^ 9 := by
  obtain ⟨n, rfl, e, _⟩ := readW_can h
  obtain ⟨b1, b2⟩ := readW_bd h (k := 9) hl
  exact ⟨n, rfl, e, by have c : (10 : Int) ^ 9 = 1000000000 := rfl; omega⟩
def okF (g : Int × Int) : Prop := g.1.natAbs < 10 ^ 9 ∧ 0 < g.2 ∧ g.2 < 10 ^ 9 ∧ Int.gcd g.1 g.2 = 1
theorem readF_can {z : List Nat} {g : Int × Int} (h : readF z = some g) : okF g ∧ z = sg (gT g) := by
  have hf0 := h
  unfold readF readB at h
  cases hc : cutAt 47 (bodyF z) with
  | none => simp only [hc] at h; cases h
  | some p =>
    obtain ⟨a, b⟩ := p
    simp only [hc] at h
    cases ra : readW a with
    | none => simp only [ra] at h; cases h
    | some t =>
      cases rb : readW b with
      | none => simp only [ra, rb] at h; cases h
      | some d =>
        simp only [ra, rb] at h
        split at h
        · cases h
        · rename_i w
          split at h
          · rename_i q
            have e := Option.some.inj h
            obtain ⟨n, rfl, _, n9⟩ := readW_len ra (by omega)
            obtain ⟨m, rfl, _, m9⟩ := readW_len rb (by omega)
            rw [e] at q
            have g1 : g.1.natAbs = n := by
              rw [← e]; unfold signF; simp only; split <;> omega
            have g2 : g.2 = (m : Int) := by rw [← e]
            have pos : 0 < g.2 := by omega
            have l1 := lowV_pos (t := g.1) (b := g.2) pos
            have l2 := lowV_le (t := g.1) (b := g.2) pos
            have l3 := lowV_top (t := g.1) (b := g.2)
            have l4 := lowV_gcd (t := g.1) (b := g.2) pos
            have p9 : (10 : Nat) ^ 9 = 1000000000 := rfl
            have p8 : (10 : Int) ^ 9 = 1000000000 := rfl
            have r := readF_gT (g := lowV (g.1, g.2)) (by omega) l1 (by omega) l4
            have q' : sg (gT (lowV (g.1, g.2))) = z := q
            rw [q', hf0] at r
            have r' : g = lowV (g.1, g.2) := Option.some.inj r
            rw [← r'] at q' l4
            exact ⟨⟨by omega, pos, by omega, l4⟩, q'.symm⟩
          · cases h
theorem numV_some {l : List Nat} (h : 0 ≤ numV l) : ∃ n : Nat, numV l = (n : Int) ∧ l = dg n ∧ n < 10 ^ 9 := by
  unfold numV at h ⊢
  cases r : readW l with
  | none => simp only [r] at h; omega
  | some i =>
    simp only [r] at h ⊢
    by_cases q : l.length ≤ 9
    · rw [if_pos q]
      obtain ⟨n, e1, e2, e3⟩ := readW_len r q
      exact ⟨n, e1, e2, e3⟩
    · rw [if_neg q] at h; omega
theorem numV_dg {n : Nat} (h : n < 10 ^ 9) : numV (dg n) = (n : Int) := by
  unfold numV
  rw [readW_dg (Nat.lt_trans h (by decide))]
  simp only
  rw [if_pos (dg_len (by decide) h)]
theorem dueV_can {z : List Nat} {g : Int × Int} (h : dueV z = some g) : okF g ∧ z = sg (gT g) := by
  unfold dueV at h
  cases hc : cutAt 47 z with
  | none => rw [hc] at h; cases h
  | some p =>
    obtain ⟨a, b⟩ := p
    rw [hc] at h
    simp only at h
    obtain ⟨e, na⟩ := cutAt_some hc
    split at h
    · cases h
    · rename_i q
      obtain ⟨n, n1, n2, n9⟩ := numV_some (l := bodyF a) (by omega)
      obtain ⟨m, m1, m2, m9⟩ := numV_some (l := b) (by omega)
      rw [n1, m1] at q h
      have g1 := Option.some.inj h
      have p9 : (10 : Nat) ^ 9 = 1000000000 := rfl
      have p8 : (10 : Int) ^ 9 = 1000000000 := rfl
      have gc : Int.gcd (n : Int) (m : Int) = 1 := Classical.byContradiction fun w => q (Or.inr (Or.inr (Or.inl w)))
      by_cases s : a.head? = some 45
      · have n0 : 0 < n := Classical.byContradiction fun w => q (Or.inr (Or.inr (Or.inr ⟨s, by omega⟩)))
        have ea : a = 45 :: dg n := by
          unfold bodyF at n2
          rw [if_pos s] at n2
          cases a with
          | nil => cases s
          | cons x a => rw [List.head?_cons, Option.some.injEq] at s; rw [s]; exact congrArg _ n2
        have sf : signF a (n : Int) = -(n : Int) := by unfold signF; rw [if_pos s]; omega
        rw [sf] at g1
        subst g1
        refine ⟨⟨by simp only; omega, by simp only; omega, by simp only; omega, by simp only; rw [Int.neg_gcd]; exact gc⟩, ?_⟩
        rw [sg_gT]
        simp only
        rw [sg_neg n n0, sg_nat, e, ea, m2]
      · have ea : a = dg n := by unfold bodyF at n2; rw [if_neg s] at n2; exact n2
        have sf : signF a (n : Int) = (n : Int) := by unfold signF; rw [if_neg s]
        rw [sf] at g1
        subst g1
        refine ⟨⟨by simp only; omega, by simp only; omega, by simp only; omega, gc⟩, ?_⟩
        rw [sg_gT]
        simp only
        rw [sg_nat, sg_nat, e, ea, m2]
theorem dueV_gT {g : Int × Int} (h : okF g) : dueV (sg (gT g)) = some g := by
  obtain ⟨h1, h2, h3, hg⟩ := h
  obtain ⟨t, l⟩ := g
  simp only at h1 h2 h3 hg
  obtain ⟨m, rfl⟩ : ∃ m : Nat, l = (m : Int) := ⟨l.toNat, by omega⟩
  have p9 : (10 : Nat) ^ 9 = 1000000000 := rfl
  have p8 : (10 : Int) ^ 9 = 1000000000 := rfl
  have nm := numV_dg (n := m) (by omega)
  have e2 : sg (iT (m : Int)) = dg m := sg_nat m
  unfold dueV
  rw [sg_gT]
  simp only
  by_cases s : 0 ≤ t
  · obtain ⟨n, rfl⟩ := Int.eq_ofNat_of_zero_le s
    have nn := numV_dg (n := n) (by omega)
    have e1 : sg (iT (n : Int)) = dg n := sg_nat n
    have fr : 47 ∉ dg n := fun q => by have := dg_digits n 47 q; omega
    have hh : ¬ (dg n).head? = some 45 := by
      obtain ⟨x, xs, hx⟩ := List.exists_cons_of_ne_nil (dg_ne n)
      have := dg_digits n x (by rw [hx]; exact List.mem_cons_self)
      rw [hx]; simp; omega
    rw [e1, e2, cutAt_mid fr]
    simp only
    rw [show bodyF (dg n) = dg n by unfold bodyF; rw [if_neg hh], nn, nm, show signF (dg n) (n : Int) = (n : Int) by unfold signF; rw [if_neg hh]]
    rw [if_neg]
    rintro (w | w | w | w)
    · omega
    · omega
    · exact w hg
    · exact hh w.1
  · obtain ⟨n, hn⟩ : ∃ n : Nat, t.natAbs = n := ⟨_, rfl⟩
    obtain rfl : t = -(n : Int) := by omega
    have n0 : 0 < n := by omega
    have nn := numV_dg (n := n) (by omega)
    have e1 : sg (iT (-(n : Int))) = 45 :: dg n := sg_neg n n0
    have fr : 47 ∉ 45 :: dg n := fun q => by
      rcases List.mem_cons.mp q with q | q
      · omega
      · have := dg_digits n 47 q; omega
    have hh : (45 :: dg n).head? = some 45 := rfl
    rw [e1, e2, cutAt_mid fr]
    simp only
    rw [show bodyF (45 :: dg n) = dg n by unfold bodyF; rw [if_pos hh]; rfl, nn, nm, show signF (45 :: dg n) (n : Int) = -(n : Int) by unfold signF; rw [if_pos hh]; omega]
    rw [if_neg]
    rintro (w | w | w | w)
    · omega
    · omega
    · rw [Int.neg_gcd] at hg; exact w hg
    · omega
theorem due_read (z : List Nat) : dueV z = readF z := by
  cases r : readF z with
  | some g =>
    obtain ⟨h, e⟩ := readF_can r
    rw [e]; exact dueV_gT h
  | none =>
    cases d : dueV z with
    | none => rfl
    | some g =>
      obtain ⟨h, e⟩ := dueV_can d
      rw [e, readF_gT h.1 h.2.1 h.2.2.1 h.2.2.2] at r
      cases r
/-! ## the fractions drawn -/
structure GG (g : Int × Int) : Prop where
  pos : 0 < g.2
  top : g.1.natAbs < 10 ^ 60
  bot : g.2.natAbs ≤ 10 ^ 60
  one : Int.gcd g.1 g.2 = 1
theorem fr_tail (x0 x1 x2 x5 : SV) (t b : Int) (h0 : 0 < b) (h2 : b.natAbs ≤ 10 ^ 60) (G : MHeap) :
    toRF (k__law_fraction_1 ⟨[x0, x1, x2, .sh (.int t), .sh (.int b), x5], G⟩) = .ok (eF (lowV (t, b))) G := by
  have D : ∀ G, mf__law_divisor [.int t, .int b] G = .ok (.int (Int.gcd t b)) G := fun _ => rfl
  have d0 : (0 : Int) < Int.gcd t b := gcd_pos fun e => by omega
  have d1 : ((Int.gcd t b : Nat) : Int).natAbs.log2 < 8900 := by
    have : Int.gcd t b ≤ b.natAbs := Nat.le_of_dvd (by omega) (Int.gcd_dvd_natAbs_right t b)
    have p : (10 : Nat) ^ 60 < 2 ^ 200 := by decide
    exact Nat.lt_trans (log2_lt (k := 200) (by decide) (by rw [Int.natAbs_natCast]; omega)) (by decide)
  have Q : ∀ x : Int, ((Int.gcd t b : Nat) : Int) ∣ x → ∀ s, oDiv (.int x) (.int ((Int.gcd t b : Nat) : Int)) s = .ok (.int (x / ((Int.gcd t b : Nat) : Int))) s := fun x hx s => by
    unfold oDiv
    simp only
    rw [if_pos ⟨by omega, Nat.lt_trans d1 (by decide)⟩, Int.fdiv_eq_ediv_of_dvd hx]
  have Q1 := Q t (Int.gcd_dvd_left ..)
  have Q2 := Q b (Int.gcd_dvd_right ..)
  clear Q d0 d1 h0 h2
  unfold k__law_fraction_1
  walk_at "ms"
  all_goals first | done | rfl
theorem GG_low {t b : Int} (h0 : 0 < b) (h1 : t.natAbs < 10 ^ 60) (h2 : b.natAbs ≤ 10 ^ 60) : GG (lowV (t, b)) :=
  ⟨lowV_pos h0, by have := lowV_top (t := t) (b := b); omega, by have := lowV_le (t := t) h0; have := lowV_pos (t := t) h0; omega, lowV_gcd h0⟩
theorem fr_ev (c o : Int) (hc : c.natAbs.log2 < 1048577) (ho : o.natAbs.log2 < 1048577) (G : MHeap) : ∃ g, GG g ∧ mf__law_fraction [.int c, .int o] G = .ok (eF g) G := by
  rw [self__law_fraction _ _ rfl]
  have p60 : (10 : Nat) ^ 60 = 1000000000000000000000000000000000000000000000000000000000000 := rfl
  have A1 : ∀ s, oMul (.int c) (.int 48271) s = .ok (.int (c * 48271)) s := fun s => oMul_ok (mulOk_of 2000000 100 (by omega) (by decide) (by decide))
  have A2 : ∀ s, oMul (.int o) (.int 16807) s = .ok (.int (o * 16807)) s := fun s => oMul_ok (mulOk_of 2000000 100 (by omega) (by decide) (by decide))
  have A3 : ∀ s, oMul (.int c) (.int 618033988749894848204587) s = .ok (.int (c * 618033988749894848204587)) s := fun s => oMul_ok (mulOk_of 2000000 100 (by omega) (by decide) (by decide))
  have A4 : ∀ s, oMul (.int o) (.int 414213562373095048801689) s = .ok (.int (o * 414213562373095048801689)) s := fun s => oMul_ok (mulOk_of 2000000 100 (by omega) (by decide) (by decide))
  have A5 : ∀ s, oMul (.int c) (.int 61803398874989484820458683436563811772030917980576286213) s = .ok (.int (c * 61803398874989484820458683436563811772030917980576286213)) s := fun s => oMul_ok (mulOk_of 2000000 1000 (by omega) (by decide) (by decide))
  have A6 : ∀ s, oMul (.int o) (.int 41421356237309504880168872420969807856967187537694807317) s = .ok (.int (o * 41421356237309504880168872420969807856967187537694807317)) s := fun s => oMul_ok (mulOk_of 2000000 1000 (by omega) (by decide) (by decide))
  have P9 : ∀ s, oPow (.int 10) (.int 9) s = .ok (.int 1000000000) s := fun s => oPow_10 (by decide) (by decide)
  have P60 : ∀ s, oPow (.int 10) (.int 60) s = .ok (.int 1000000000000000000000000000000000000000000000000000000000000) s := fun s => oPow_10 (by decide) (by decide)
  have M2 : ∀ s, oMul (.int 2) (.int 1000000000000000000000000000000000000000000000000000000000000) s = .ok (.int 2000000000000000000000000000000000000000000000000000000000000) s := fun s => oMul_lit (by decide) (by decide) (by decide) (by decide)
  clear hc ho
  generalize c * 48271 = c1 at *
  generalize o * 16807 = o1 at *
  generalize c * 618033988749894848204587 = c2 at *
  generalize o * 414213562373095048801689 = o2 at *
  generalize c * 61803398874989484820458683436563811772030917980576286213 = c3 at *
  generalize o * 41421356237309504880168872420969807856967187537694807317 = o3 at *
  have key : ∃ t b : Int, ∃ x0 x1 x2 x5 : SV, 0 < b ∧ t.natAbs < 10 ^ 60 ∧ b.natAbs ≤ 10 ^ 60 ∧ runB ms__law_fraction N__law_fraction.length [.int c, .int o] G = toRF (k__law_fraction_1 ⟨[x0, x1, x2, .sh (.int t), .sh (.int b), x5], G⟩) := by
    by_cases q1 : c1 % 999983 % 2 = 1
    · have q2 : ¬ c1 % 999983 % 4 = 2 := by omega
      refine ⟨c2 % 1999999999 - 1000000000 + 1, 1 + o2 % 999999999, .sh (.int c), .sh (.int o), .sh (.int (c1 % 999983)), .un, by omega, by omega, by omega, ?_⟩
      clear p60 P60 M2 A5 A6
      unfold runB ms__law_fraction N__law_fraction k__law_fraction_2
      walk_at "ms"
    · by_cases q2 : c1 % 999983 % 4 = 2
      · refine ⟨c3 % 1999999999999999999999999999999999999999999999999999999999999 - 1000000000000000000000000000000000000000000000000000000000000 + 1, 1 + o3 % 999999999999999999999999999999999999999999999999999999999999, .sh (.int c), .sh (.int o), .sh (.int (c1 % 999983)), .un, by omega, by omega, by omega, ?_⟩
        clear p60 A3 A4
        unfold runB ms__law_fraction N__law_fraction k__law_fraction_2
        walk_at "ms"
      · refine ⟨c1 % 999983 / 4 % 41 - 20, 1 + o1 % 999979 % 24, .sh (.int c), .sh (.int o), .sh (.int (c1 % 999983)), .un, by omega, by omega, by omega, ?_⟩
        clear p60 P60 M2 A5 A6 A3 A4
        unfold runB ms__law_fraction N__law_fraction k__law_fraction_2
        walk_at "ms"
  obtain ⟨t, b, x0, x1, x2, x5, h0, h1, h2, e⟩ := key
  exact ⟨_, GG_low h0 h1 h2, e.trans (fr_tail x0 x1 x2 x5 t b h0 h2 G)⟩
/-! ## texts bent -/
theorem sign_at {k : Int} (h : 0 ≤ k) : ∃ c : Nat, c < 1114112 ∧ ∀ s, oIdx (.str "0123456789/-+. _a\n") (.int (k / 4 % 18)) s = .ok (.str ⟨#[c]⟩) s := by
  obtain ⟨j, hj⟩ : ∃ j : Nat, k / 4 % 18 = (j : Int) := ⟨(k / 4 % 18).toNat, by omega⟩
  have hl : (sg (Str.ofString "0123456789/-+. _a\n")).length = 18 := by rw [sg_of]; rfl
  have hj2 : j < (sg (Str.ofString "0123456789/-+. _a\n")).length := by omega
  refine ⟨(sg (Str.ofString "0123456789/-+. _a\n"))[j], okS_lit _ rfl _ (List.getElem_mem hj2), fun s => ?_⟩
  rw [hj]
  exact oIdx_strN (List.getElem?_eq_getElem hj2) (by rw [len_sg, hl]; decide)
theorem sp_ev {z : Str} (hk : okS (sg z)) (hl : z.length ≤ 2000) (g : Int × Int) (hg : GG g) (k : Int) (h0 : 0 ≤ k) (G : MHeap) :
    ∃ z', (okS (sg z') ∧ z'.length ≤ 100000) ∧ mf__law_spoilt [.str z, eF g, .int k] G = .ok (.str z') G := by
  rw [self__law_spoilt _ _ rfl]
  obtain ⟨c, hc, IX⟩ := sign_at h0
  have hz : z.length = (sg z).length := len_sg z
  have L := fun s => len_ge (z := z) (s := s) (by omega)
  obtain ⟨a, ha, hal⟩ : ∃ a : Nat, k / 72 % (((sg z).length : Int) + 1) = (a : Int) ∧ a ≤ (sg z).length := by
    have b1 := Int.emod_nonneg (k / 72) (show ((sg z).length : Int) + 1 ≠ 0 by omega)
    have b2 := Int.emod_lt_of_pos (k / 72) (show (0 : Int) < ((sg z).length : Int) + 1 by omega)
    exact ⟨(k / 72 % (((sg z).length : Int) + 1)).toNat, by omega, by omega⟩
  have MO : ∀ s, oMod (.int (k / 72)) (.int (((sg z).length : Int) + 1)) s = .ok (.int (a : Int)) s := fun s => by rw [oMod_pos (by omega), ha]
  have S1 : ∀ s, oSl (.str z) none (some (a : Int)) s = .ok (.str (T ((sg z).take a))) s := fun s => oSl_to (by omega)
  have S2 : ∀ s, oSl (.str z) (some (a : Int)) none s = .ok (.str (T ((sg z).drop a))) s := fun s => oSl_from (by omega)
  have S3 : ∀ s, oSl (.str z) (some ((a : Int) + 1)) none s = .ok (.str (T ((sg z).drop (a + 1)))) s := fun s => by
    have q := oSl_from (z := z) (k := a + 1) (s := s) (by omega)
    exact_mod_cast q
  have l1 : ((sg z).take a).length ≤ 2000 := by rw [List.length_take]; omega
  have l2 : ((sg z).drop a).length ≤ 2000 := by rw [List.length_drop]; omega
  have l3 : ((sg z).drop (a + 1)).length ≤ 2000 := by rw [List.length_drop]; omega
  have o1 : okS ((sg z).take a) := okS_sub hk fun c hc => List.mem_of_mem_take hc
  have o2 : okS ((sg z).drop a) := okS_sub hk fun c hc => List.mem_of_mem_drop hc
  have o3 : okS ((sg z).drop (a + 1)) := okS_sub hk fun c hc => List.mem_of_mem_drop hc
  have oc : okS [c] := okS_cons hc fun c hc => by cases hc
  have fin : ∀ l : List Nat, okS l → l.length ≤ 100000 → okS (sg (T l)) ∧ (T l).length ≤ 100000 := fun l h1 h2 => ⟨h1, by rw [len_sg]; exact h2⟩
  generalize (sg z).take a = u at *
  generalize (sg z).drop a = v at *
  generalize (sg z).drop (a + 1) = w at *
  have A1 : ∀ s, oAdd (.str (T u)) (.str ⟨#[c]⟩) s = .ok (.str (T (u ++ [c]))) s := fun s => oAdd_T (r := [c]) (by simp only [List.length_cons, List.length_nil]; omega)
  have ul : (u ++ [c]).length ≤ 2001 := by simp only [List.length_append, List.length_cons, List.length_nil]; omega
  have A2 : ∀ s, oAdd (.str (T (u ++ [c]))) (.str (T v)) s = .ok (.str (T (u ++ [c] ++ v))) s := fun s => oAdd_T (by omega)
  have A3 : ∀ s, oAdd (.str (T u)) (.str (T w)) s = .ok (.str (T (u ++ w))) s := fun s => oAdd_T (by omega)
  have A4 : ∀ s, oAdd (.str (T (u ++ [c]))) (.str (T w)) s = .ok (.str (T (u ++ [c] ++ w))) s := fun s => oAdd_T (by omega)
  by_cases q0 : k % 4 = 0
  · refine ⟨T (u ++ [c] ++ v), fin _ (okS_app (okS_app o1 oc) o2) (by rw [List.length_append]; omega), ?_⟩
    clear hk hl hg h0 hc hz ha hal l1 l2 l3 o1 o2 o3 oc fin ul A3 A4 S3
    unfold runB ms__law_spoilt N__law_spoilt
    walk_at "ms"
  by_cases q1 : k % 4 = 1
  · refine ⟨T (u ++ w), fin _ (okS_app o1 o3) (by rw [List.length_append]; omega), ?_⟩
    clear hk hl hg h0 hc hz ha hal l1 l2 l3 o1 o2 o3 oc fin ul A2 A4 A1 S2
    unfold runB ms__law_spoilt N__law_spoilt
    walk_at "ms"
  by_cases q2 : k % 4 = 2
  · refine ⟨T (u ++ [c] ++ w), fin _ (okS_app (okS_app o1 oc) o3) (by rw [List.length_append]; omega), ?_⟩
    clear hk hl hg h0 hc hz ha hal l1 l2 l3 o1 o2 o3 oc fin ul A2 A3 S2
    unfold runB ms__law_spoilt N__law_spoilt
    walk_at "ms"
  have p60 : (10 : Nat) ^ 60 = 1000000000000000000000000000000000000000000000000000000000000 := rfl
  obtain ⟨y, hy, y1, y2⟩ : ∃ y : Int, k / 4 % 2 = y ∧ 0 ≤ y ∧ y ≤ 1 := ⟨_, rfl, by omega, by omega⟩
  have hgt := hg.top
  have hgb := hg.bot
  rw [p60] at hgt hgb
  have M1 : ∀ s, oMul (.int g.1) (.int (2 + y)) s = .ok (.int (g.1 * (2 + y))) s := fun s => oMul_lit (by omega) (by omega) (by omega) (by omega)
  have M2 : ∀ s, oMul (.int g.2) (.int (2 + y)) s = .ok (.int (g.2 * (2 + y))) s := fun s => oMul_lit (by omega) (by omega) (by omega) (by omega)
  have b2 : ∀ i : Int, i.natAbs < 10000000000000000000000000000000000000000000000000000000000000 → i.natAbs.log2 < 1900 := fun i hi => Nat.lt_trans (log2_lt (k := 210) (by decide) (Nat.lt_trans hi (by decide))) (by decide)
  have g1 : (g.1 * (2 + y)).natAbs.log2 < 1900 := b2 _ (by rcases (show y = 0 ∨ y = 1 by omega) with rfl | rfl <;> omega)
  have g2 : (g.2 * (2 + y)).natAbs.log2 < 1900 := b2 _ (by rcases (show y = 0 ∨ y = 1 by omega) with rfl | rfl <;> omega)
  have g3 : (2 + y).natAbs.log2 < 1900 := b2 _ (by omega)
  generalize g.1 * (2 + y) = t1 at *
  generalize g.2 * (2 + y) = t2 at *
  have B1 : ∀ s, bStr [.int t1] s = .ok (.str (iT t1)) s := fun s => bStr_ok (by omega)
  have B2 : ∀ s, bStr [.int t2] s = .ok (.str (iT t2)) s := fun s => bStr_ok (by omega)
  have B3 : ∀ s, bStr [.int (2 + y)] s = .ok (.str (iT (2 + y))) s := fun s => bStr_ok (by omega)
  have n1 := iT_len g1
  have n2 := iT_len g2
  have n3 := iT_len g3
  have K1 : ∀ s, oAdd (.str (iT t1)) (.str "/") s = .ok (.str (iT t1 ++ Str.ofString "/")) s := fun s => oAdd_str (by show _ + 1 ≤ _; omega)
  have K2 : ∀ s, oAdd (.str (iT t1 ++ Str.ofString "/")) (.str (iT t2)) s = .ok (.str (gT (t1, t2))) s := fun s => oAdd_str (by rw [Str.length_append]; show _ + 1 + _ ≤ _; omega)
  have K3 : ∀ s, oAdd (.str "0/") (.str (iT (2 + y))) s = .ok (.str (Str.ofString "0/" ++ iT (2 + y))) s := fun s => oAdd_str (by show 2 + _ ≤ _; omega)
  have f1 : okS (sg (gT (t1, t2))) ∧ (gT (t1, t2)).length ≤ 100000 := ⟨okS_gT _, by have := gT_len (g := (t1, t2)) g1 g2; omega⟩
  have f2 : okS (sg (Str.ofString "0/" ++ iT (2 + y))) ∧ (Str.ofString "0/" ++ iT (2 + y)).length ≤ 100000 := ⟨by rw [sg_app]; exact okS_app (okS_lit "0/" rfl) (okS_iT _), by rw [Str.length_append]; show 2 + _ ≤ _; omega⟩
  have f3 : ∀ x : String, (x.toList.map Char.toNat).all (· < 1114112) = true → (Str.ofString x).length ≤ 100000 → okS (sg (Str.ofString x)) ∧ (Str.ofString x).length ≤ 100000 := fun x h1 h2 => ⟨okS_lit x h1, h2⟩
  have j8 : k / 8 % 8 = 0 ∨ k / 8 % 8 = 1 ∨ k / 8 % 8 = 2 ∨ k / 8 % 8 = 3 ∨ k / 8 % 8 = 4 ∨ k / 8 % 8 = 5 ∨ k / 8 % 8 = 6 ∨ k / 8 % 8 = 7 := by omega
  clear hk hl hg h0 hc hz ha hal l1 l2 l3 o1 o2 o3 oc fin ul A1 A2 A3 A4 S1 S2 S3 p60 hgt hgb b2 g1 g2 g3 n1 n2 n3 y1 y2
  rcases j8 with j | j | j | j | j | j | j | j
  · refine ⟨_, f1, ?_⟩
    clear f1 f2 f3
    unfold runB ms__law_spoilt N__law_spoilt
    walk_at "ms"
  · refine ⟨_, f3 "1/1000000000" rfl (by decide), ?_⟩
    clear f1 f2 f3
    unfold runB ms__law_spoilt N__law_spoilt
    walk_at "ms"
  · refine ⟨_, f3 "1000000000/1" rfl (by decide), ?_⟩
    clear f1 f2 f3
    unfold runB ms__law_spoilt N__law_spoilt
    walk_at "ms"
  · refine ⟨_, f3 "-999999999/1" rfl (by decide), ?_⟩
    clear f1 f2 f3
    unfold runB ms__law_spoilt N__law_spoilt
    walk_at "ms"
  · refine ⟨_, f3 "1/999999999" rfl (by decide), ?_⟩
    clear f1 f2 f3
    unfold runB ms__law_spoilt N__law_spoilt
    walk_at "ms"
  · refine ⟨_, f2, ?_⟩
    clear f1 f2 f3
    unfold runB ms__law_spoilt N__law_spoilt
    walk_at "ms"
  · refine ⟨_, f3 "-0/1" rfl (by decide), ?_⟩
    clear f1 f2 f3
    unfold runB ms__law_spoilt N__law_spoilt
    walk_at "ms"
  · refine ⟨_, f3 "1/0" rfl (by decide), ?_⟩
    clear f1 f2 f3
    unfold runB ms__law_spoilt N__law_spoilt
    walk_at "ms"
/-! ## asked of a text, of a thing that is none -/
theorem other_ev (G : MHeap) : mf__law_other [.err "NoText"] G = .ok (.bl false) G := by
  rw [self__law_other _ _ rfl]
  rfl
theorem eq_bb (a b c d : Bool) (s : MS) : oEq (.tup [.bl a, .bl b]) (.tup [.bl c, .bl d]) s = .ok (.bl (decide (a = c ∧ b = d))) s := by
  cases a <;> cases b <;> cases c <;> cases d <;> rfl
theorem suite_ev (x : SV) (x1 x2 x4 : SV) (G : MHeap) : e__law_good_1 ⟨[x, x1, x2, .sh (.err "NoText"), x4], G⟩ = .ok .nx ⟨[x, x1, .sh (.tup [.bl true, .bl false]), .sh (.err "NoText"), x4], G⟩ := by
  have O := other_ev
  have I : ∀ s, oIsiE [("NoText", true)] [("NoneType", false)] (.err "NoText") s = .ok (.bl true) s := fun s => rfl
  unfold e__law_good_1
  walk_at "ms"
theorem try_ok (x : MV) (g : Int × Int) (G : MHeap) (R : ∀ G, mf_read_fraction [x] G = .ok (eF g) G) :
    mTryS 3 [("NoText", true)] e__law_good_1 b__law_good_1 ⟨[.sh x, .sh .non, .sh (.tup [.bl false, .bl false]), .un, .un], G⟩ = .ok .nx ⟨[.sh x, .sh (.tup [.int g.1, .int g.2]), .sh (.tup [.bl false, .bl false]), .un, .un], G⟩ :=
  mTryS_ok (by
    unfold b__law_good_1
    walk_at "ms")
theorem try_no (x : MV) (G : MHeap) (R : ∀ G, mf_read_fraction [x] G = .exc "NoText" G) :
    mTryS 3 [("NoText", true)] e__law_good_1 b__law_good_1 ⟨[.sh x, .sh .non, .sh (.tup [.bl false, .bl false]), .un, .un], G⟩ = .ok .nx ⟨[.sh x, .sh .non, .sh (.tup [.bl true, .bl false]), .un, .un], G⟩ :=
  mTryS_exc (s1 := ⟨[.sh x, .sh .non, .sh (.tup [.bl false, .bl false]), .un, .un], G⟩) (s2 := ⟨[.sh x, .sh .non, .sh (.tup [.bl true, .bl false]), .sh (.err "NoText"), .un], G⟩) (c := "NoText") (by
    unfold b__law_good_1
    walk_at "ms") rfl rfl (suite_ev _ _ _ _ _)
theorem good_str {z : Str} (hk : okS (sg z)) (hl : z.length ≤ 100000) (G : MHeap) : mf__law_good [.str z] G = .ok (.bl true) G := by
  rw [self__law_good _ _ rfl]
  have D := ldue_ev hk hl
  rw [due_read] at D
  have R : ∀ G, mf_read_fraction [.str z] G = resF (readF (sg z)) G := fun G => by
    simp only [mf_read_fraction, fn1]
    rw [if_pos ⟨hk, hl⟩]
  have EB := eq_bb true false true false
  cases r : readF (sg z) with
  | some g =>
    rw [r] at D R
    have TR := fun G => try_ok (.str z) g G R
    have D' : ∀ G, mf__law_due [.str z] G = .ok (.tup [.int g.1, .int g.2]) G := D
    have W : ∀ (i : Int) G, mf__law_whole [.int i] G = .ok (.bl true) G := fun _ _ => rfl
    clear hk hl R r D EB
    unfold runB ms__law_good N__law_good k__law_good_1
    walk_at "ms"
    all_goals first | done | rfl
  | none =>
    rw [r] at D R
    have TR := fun G => try_no (.str z) G R
    have D' : ∀ G, mf__law_due [.str z] G = .ok .non G := D
    clear hk hl R r D
    unfold runB ms__law_good N__law_good k__law_good_1
    walk_at "ms"
    all_goals first | done | rfl
theorem good_odd (x : MV) (g : Int × Int) (hx : x ∈ [MV.non, .int 1, eF g, .lst [.str "1/2"], .bl true, .dic]) (G : MHeap) : mf__law_good [x] G = .ok (.bl true) G := by
  rw [self__law_good _ _ rfl]
  have EB := eq_bb true false true false
  have R : ∀ G, mf_read_fraction [x] G = .exc "NoText" G := fun G => by
    simp only [List.mem_cons, List.not_mem_nil, or_false] at hx
    rcases hx with rfl | rfl | rfl | rfl | rfl | rfl <;> rfl
  have TR := fun G => try_no x G R
  have R' := hx
  clear R
  simp only [List.mem_cons, List.not_mem_nil, or_false] at R'
  rcases R' with rfl | rfl | rfl | rfl | rfl | rfl
  all_goals
    clear hx
    unfold runB ms__law_good N__law_good k__law_good_1
    walk_at "ms"
    all_goals first | done | rfl
theorem odd_idx (g : Int × Int) {i : Int} (h0 : 0 ≤ i) (h6 : i < 6) : ∃ x ∈ [MV.non, .int 1, eF g, .lst [.str "1/2"], .bl true, .dic], ∀ s, oIdx (.lst [MV.non, .int 1, .tup [.int g.1, .int g.2], .lst [.str "1/2"], .bl true, .dic]) (.int i) s = .ok x s := by
  have : i = 0 ∨ i = 1 ∨ i = 2 ∨ i = 3 ∨ i = 4 ∨ i = 5 := by omega
  rcases this with rfl | rfl | rfl | rfl | rfl | rfl
  · exact ⟨.non, by simp, fun s => by rw [oIdx_lst (by decide)]; rfl⟩
  · exact ⟨.int 1, by simp, fun s => by rw [oIdx_lst (by decide)]; rfl⟩
  · exact ⟨eF g, by simp, fun s => by rw [oIdx_lst (by decide)]; rfl⟩
  · exact ⟨.lst [.str "1/2"], by simp, fun s => by rw [oIdx_lst (by decide)]; rfl⟩
  · exact ⟨.bl true, by simp, fun s => by rw [oIdx_lst (by decide)]; rfl⟩
  · exact ⟨.dic, by simp, fun s => by rw [oIdx_lst (by decide)]; rfl⟩
theorem turn_law (ns : List Int) (hb : ∀ z ∈ ns, z.natAbs.log2 < 1048577) (k : Nat) (hk : k < ns.length) (e2 e3 e4 e5 e6 : SV) (G : MHeap) :
    ∃ x2 x3 x4 x5 x6, b_law_1 ⟨[.sh (.scr (ns.map MV.int)), .sh (.int (k : Int)), e2, e3, e4, e5, e6], G⟩ = .ok .nx ⟨[.sh (.scr (ns.map MV.int)), .sh (.int (k : Int)), x2, x3, x4, x5, x6], G⟩ := by
  obtain ⟨d, hd, gd⟩ := cell_ev ns hb ((k : Int) + 1) (by omega)
  have hc : (ns[k]).natAbs.log2 < 1048577 := hb _ (List.getElem_mem _)
  have I0 : ∀ s, oIdx (.scr (ns.map MV.int)) (.int (k : Int)) s = .ok (.int ns[k]) s := fun s => by
    rw [oIdx_scr (by omega), Int.toNat_natCast]; simp [hk, ofO]
  generalize ns[k] = c at *
  obtain ⟨g, gg, FR⟩ := fr_ev c d hc gd G
  have FR' : mf__law_fraction [.int c, .int d] G = .ok (.tup [.int g.1, .int g.2]) G := FR
  have p60 : (10 : Nat) ^ 60 = 1000000000000000000000000000000000000000000000000000000000000 := rfl
  have hgt := gg.top
  have hgb := gg.bot
  rw [p60] at hgt hgb
  have b2 : ∀ i : Int, i.natAbs < 10000000000000000000000000000000000000000000000000000000000000 → i.natAbs < 2 ^ 210 := fun i hi => Nat.lt_trans hi (by decide)
  have g1 : g.1.natAbs.log2 < 1900 := Nat.lt_trans (log2_lt (k := 210) (by decide) (b2 _ (by omega))) (by decide)
  have g2 : g.2.natAbs.log2 < 1900 := Nat.lt_trans (log2_lt (k := 210) (by decide) (b2 _ (by omega))) (by decide)
  have TX := fun G => text_ev (g := g) g1 g2 G
  have B1 : ∀ s, bStr [.int g.1] s = .ok (.str (iT g.1)) s := fun s => bStr_ok (by omega)
  have B2 : ∀ s, bStr [.int g.2] s = .ok (.str (iT g.2)) s := fun s => bStr_ok (by omega)
  have n1 := iT_len g1
  have n2 := iT_len g2
  have K1 : ∀ s, oAdd (.str (iT g.1)) (.str "/") s = .ok (.str (iT g.1 ++ Str.ofString "/")) s := fun s => oAdd_str (by show _ + 1 ≤ _; omega)
  have K2 : ∀ s, oAdd (.str (iT g.1 ++ Str.ofString "/")) (.str (iT g.2)) s = .ok (.str (gT g)) s := fun s => oAdd_str (by rw [Str.length_append]; show _ + 1 + _ ≤ _; omega)
  have NE : ∀ s, oNe (.str (gT g)) (.str (gT g)) s = .ok (.bl false) s := fun s => by rw [oNe_str (okS_gT g) (okS_gT g), decide_eq_true rfl]; rfl
  have gl := gT_len g1 g2
  have m1 : ∀ s, oMul (.int 3) (.int d) s = .ok (.int (3 * d)) s := fun s => oMul_ok (mulOk_of 100 1048577 (by decide) gd (by decide))
  have l2 : (c + 3 * d).natAbs.log2 < 1048679 := log2_add c (3 * d) 1048678 (by omega) (Nat.lt_of_lt_of_le (log2_mulI 3 d 100 1048577 (by decide) gd) (by decide))
  have m2 : ∀ s, oMul (.int (c + 3 * d)) (.int 69621) s = .ok (.int ((c + 3 * d) * 69621)) s := fun s => oMul_ok (mulOk_of 1048679 100 l2 (by decide) (by decide))
  obtain ⟨m, hm, m0⟩ : ∃ m : Int, (∀ s, oMod (.int ((c + 3 * d) * 69621)) (.int 999961) s = .ok (.int m) s) ∧ 0 ≤ m := ⟨_, fun s => oMod_pos (by decide), by omega⟩
  obtain ⟨z', ⟨zk, zl⟩, SP⟩ := sp_ev (z := gT g) (okS_gT g) (by omega) g gg m m0 G
  have SP' : mf__law_spoilt [.str (gT g), .tup [.int g.1, .int g.2], .int m] G = .ok (.str z') G := SP
  obtain ⟨x, hx, OX⟩ := odd_idx g (i := m % 6) (by omega) (by omega)
  have Q1 := fun G => good_str (okS_gT g) (by omega) G
  have Q2 := fun G => good_str zk zl G
  have Q3 := fun G => good_odd x g hx G
  refine ⟨.sh (.int d), .sh (.tup [.int g.1, .int g.2]), .sh (.str (gT g)), .sh (.int m), .sh x, ?_⟩
  clear hb hk hc gd FR gg p60 hgt hgb b2 g1 g2 n1 n2 gl l2 m0 zk zl SP hx
  unfold b_law_1
  walk_at "ms"
  unfold t_law_6
  rw [shut_eq]
  walk_at "ms"
  unfold t_law_5
  rw [shut_eq]
  walk_at "ms"
  unfold t_law_4
  rw [shut_eq]
  walk_at "ms"
  unfold t_law_3
  rw [shut_eq]
  walk_at "ms"
  unfold t_law_2
  rw [shut_eq]
  walk_at "ms"
  unfold t_law_1
  rw [shut_eq]
  walk_at "ms"
theorem run_law : LawOk ms_law N_law.length := by
  intro ns hl hb
  have R3 : ∀ s, oR3 [.int 0, .int ((ns.length : Nat) : Int), .int 2] s = .ok (rangeM 0 2 ((ns.length + 1) / 2)) s := fun s => by
    rw [oR3_ok (by decide) (by decide) (by omega) (by omega) (by decide) (by decide)]
    congr 2
    split <;> omega
  refine ⟨[], ?_⟩
  obtain ⟨s', hf, e1, e2, e3, e4, e5, e6, rfl⟩ := forM_range (g := gSet 1) (b := b_law_1) (lo := 0) (c := 2) (n := (ns.length + 1) / 2)
    (s := ⟨[.sh (.scr (ns.map MV.int)), .un, .un, .un, .un, .un, .un], []⟩)
    (fun i s => ∃ e1 e2 e3 e4 e5 e6, s = ⟨[.sh (.scr (ns.map MV.int)), e1, e2, e3, e4, e5, e6], []⟩) ⟨_, _, _, _, _, _, rfl⟩ (by
      rintro i s hi ⟨e1, e2, e3, e4, e5, e6, rfl⟩
      rw [show ((0 : Int) + (i : Nat) * 2) = ((2 * i : Nat) : Int) by omega]
      obtain ⟨x2, x3, x4, x5, x6, hd⟩ := turn_law ns hb (2 * i) (by omega) e2 e3 e4 e5 e6 []
      exact ⟨_, _, rfl, hd, _, _, _, _, _, _, rfl⟩)
  clear hb hl
  unfold runB ms_law N_law
  walk_at "ms"
  unfold t_law_7
  rw [shut_eq]
  walk_at "ms"
end Lk04
namespace Lk04
open PySem L2 M
def top (i : Nat) : Stmt := PySem.Challenge.pw_mixbench_k04_texts_of_fractions.main.body.getD i (.Pass ⟨0, 0, 0, 0⟩)
abbrev s_divisor : Stmt := (top 14)
abbrev s_lowest : Stmt := (top 15)
abbrev s_fraction_text : Stmt := (top 16)
abbrev s_read_whole : Stmt := (top 17)
abbrev s_read_fraction : Stmt := (top 18)
abbrev s__law_cell_at : Stmt := (top 20)
abbrev s__law_whole : Stmt := (top 21)
abbrev s__law_divisor : Stmt := (top 22)
abbrev s__law_fraction : Stmt := (top 23)
abbrev s__law_number : Stmt := (top 24)
abbrev s__law_due : Stmt := (top 25)
abbrev s__law_spoilt : Stmt := (top 26)
abbrev s__law_other : Stmt := (top 27)
abbrev s__law_good : Stmt := (top 28)
abbrev s_law : Stmt := (top 29)
structure Txt (ct : String → Addr) (K : PySem.W.Frag) (mg : Str → Option Value) : Prop where
  b_len : mg "len" = none
  b_range : mg "range" = none
  b_isinstance : mg "isinstance" = none
  b_str : mg "str" = none
  b_ValueError : mg "ValueError" = none
  b_tuple : mg "tuple" = none
  b_abs : mg "abs" = none
  b_int : mg "int" = none
  b_bool : mg "bool" = none
  g_FIGURES : ∃ t, mg "FIGURES" = some (.str "0123456789" t)
  r_NoText : RaiI ct K mg "NoText" "NoText"
  c_MixError : CatI ct K mg "MixError" "MixError" [("NoText", true)]
  e_NoText : ErrI ct K (.ref (ct "NoText")) [("NoText", true)] [("NoneType", false)]
  n_NoText : mg "NoText" = some (.ref (ct "NoText"))
  e_ValueError : ErrI ct K (.type "ValueError") [("NoText", true)] [("NoneType", false)]
  e_NoNumber : ErrI ct K (.ref (ct "NoNumber")) [("NoText", false)] [("NoneType", false)]
  n_NoNumber : mg "NoNumber" = some (.ref (ct "NoNumber"))
  e_NoPart : ErrI ct K (.ref (ct "NoPart")) [("NoText", false)] [("NoneType", false)]
  n_NoPart : mg "NoPart" = some (.ref (ct "NoPart"))
  e_NoName : ErrI ct K (.ref (ct "NoName")) [("NoText", false)] [("NoneType", false)]
  n_NoName : mg "NoName" = some (.ref (ct "NoName"))
  e_Twice : ErrI ct K (.ref (ct "Twice")) [("NoText", false)] [("NoneType", false)]
  n_Twice : mg "Twice" = some (.ref (ct "Twice"))
  e_NoBus : ErrI ct K (.ref (ct "NoBus")) [("NoText", false)] [("NoneType", false)]
  n_NoBus : mg "NoBus" = some (.ref (ct "NoBus"))
  e_Ring : ErrI ct K (.ref (ct "Ring")) [("NoText", false)] [("NoneType", false)]
  n_Ring : mg "Ring" = some (.ref (ct "Ring"))
  e_NoBlock : ErrI ct K (.ref (ct "NoBlock")) [("NoText", false)] [("NoneType", false)]
  n_NoBlock : mg "NoBlock" = some (.ref (ct "NoBlock"))
  e_NoRow : ErrI ct K (.ref (ct "NoRow")) [("NoText", false)] [("NoneType", false)]
  n_NoRow : mg "NoRow" = some (.ref (ct "NoRow"))
  e_NoDeed : ErrI ct K (.ref (ct "NoDeed")) [("NoText", false)] [("NoneType", false)]
  n_NoDeed : mg "NoDeed" = some (.ref (ct "NoDeed"))
section
variable {ct : String → Addr} {P : Program} {w : World} {K : PySem.W.Frag} {mg : Str → Option Value} {base : Heap}
theorem sc_divisor : FnScope N_divisor ["one", "other"] (defScope s_divisor) := ⟨rfl, rfl, rfl, by decide +kernel, rfl, by decide +kernel, by decide +kernel⟩
theorem d_divisor (T : Txt ct K mg)  {f : Addr} (cdv : Value) (A : Around) (outer : List Env) (s : Shared) (H : Hp) (E : XK) (hr : Room 0 (A.deeper (PyProof.Rows.envOfC "divisor" (defScope s_divisor) s.heap.objs.size f cdv))) :
    ∃ t, PSsM ct (cxOf (L2.CX P w) P w K mg base N_divisor "divisor" (defScope s_divisor) f cdv A outer s H E) (fun cls d _ H => E cls d H) (defBody s_divisor) t ms_divisor := ⟨_,
  (b_cons (s_set 2 sc_divisor.nd (e_callB call_abs sc_abs T.b_abs (a_cons (e_var 0) a_nil)))
  (b_cons (s_set 3 sc_divisor.nd (e_callB call_abs sc_abs T.b_abs (a_cons (e_var 1) a_nil)))
  (b_cons (s_while (passes_of rfl) (t_cmp op_gt so_cmpI (nomark _) (e_var 3) e_int) (b_cons (s_set 4 sc_divisor.nd (e_mod (e_var 2) (e_var 3)))
  (b_cons (s_set 2 sc_divisor.nd (e_var 3))
  (b_one (s_set 3 sc_divisor.nd (e_var 4))))))
  (b_one (s_ret (e_var 2))))))⟩
theorem sc_lowest : FnScope N_lowest ["top", "bottom"] (defScope s_lowest) := ⟨rfl, rfl, rfl, by decide +kernel, rfl, by decide +kernel, by decide +kernel⟩
theorem d_lowest (T : Txt ct K mg) (I_divisor : FnI ct P w K mg base "divisor" 1 mf_divisor) {f : Addr} (cdv : Value) (A : Around) (outer : List Env) (s : Shared) (H : Hp) (E : XK) (hr : Room 1 (A.deeper (PyProof.Rows.envOfC "lowest" (defScope s_lowest) s.heap.objs.size f cdv))) :
    ∃ t, PSsM ct (cxOf (L2.CX P w) P w K mg base N_lowest "lowest" (defScope s_lowest) f cdv A outer s H E) (fun cls d _ H => E cls d H) (defBody s_lowest) t ms_lowest := ⟨_,
  (b_cons (s_set 2 sc_lowest.nd (e_fn I_divisor (hr.mono (by decide)) (takes_of rfl rfl rfl rfl) (a_cons (e_var 0) (a_cons (e_var 1) a_nil))))
  (b_cons (s_if (t_cmp op_lt so_cmpI (nomark _) (e_var 1) e_int) (b_one (s_set 2 sc_lowest.nd (e_sub e_int (e_var 2)))) b_nil)
  (b_one (s_ret (e_tup (a_cons (e_div (e_var 0) (e_var 2)) (a_cons (e_div (e_var 1) (e_var 2)) a_nil)))))))⟩
theorem sc_fraction_text : FnScope N_fraction_text ["one"] (defScope s_fraction_text) := ⟨rfl, rfl, rfl, by decide +kernel, rfl, by decide +kernel, by decide +kernel⟩
theorem d_fraction_text (T : Txt ct K mg)  {f : Addr} (cdv : Value) (A : Around) (outer : List Env) (s : Shared) (H : Hp) (E : XK) (hr : Room 0 (A.deeper (PyProof.Rows.envOfC "fraction_text" (defScope s_fraction_text) s.heap.objs.size f cdv))) :
    ∃ t, PSsM ct (cxOf (L2.CX P w) P w K mg base N_fraction_text "fraction_text" (defScope s_fraction_text) f cdv A outer s H E) (fun cls d _ H => E cls d H) (defBody s_fraction_text) t ms_fraction_text := ⟨_,
  (b_one (s_ret (e_add (e_add (e_callTy call_str_int sc_str T.b_str (a_cons (e_ix (e_var 0) e_int) a_nil)) e_str) (e_callTy call_str_int sc_str T.b_str (a_cons (e_ix (e_var 0) e_int) a_nil)))))⟩
theorem sc_read_whole : FnScope N_read_whole ["text"] (defScope s_read_whole) := ⟨rfl, rfl, rfl, by decide +kernel, rfl, by decide +kernel, by decide +kernel⟩
theorem d_read_whole (T : Txt ct K mg)  {f : Addr} (cdv : Value) (A : Around) (outer : List Env) (s : Shared) (H : Hp) (E : XK) (hr : Room 0 (A.deeper (PyProof.Rows.envOfC "read_whole" (defScope s_read_whole) s.heap.objs.size f cdv))) :
    ∃ t, PSsM ct (cxOf (L2.CX P w) P w K mg base N_read_whole "read_whole" (defScope s_read_whole) f cdv A outer s H E) (fun cls d _ H => E cls d H) (defBody s_read_whole) t ms_read_whole := ⟨_,
  (b_cons (s_if (t_w (w_or (t_cmp (op_eqD hr.units) so_eq (nomark _) (e_var 0) e_str) (w_or (t_cmp op_gt so_cmpI (nomark _) (e_callB call_lenA sc_len T.b_len (a_cons (e_var 0) a_nil)) e_int) (w_or1 (t_w (w_and (t_cmp (op_eqD hr.units) so_eq (nomark _) (e_ix (e_var 0) e_int) e_str) (w_and1 (t_cmp (op_neD hr.units) so_ne (nomark _) (e_var 0) e_str)))))))) (b_one (s_ret e_non)) b_nil)
  (b_cons (s_for (passes_of rfl) (i_str (e_var 0)) (g_name 1 sc_read_whole.nd) (b_one (s_if (t_cmp op_notInSg so_notInSg rfl (e_var 1) (e_gstrE T.g_FIGURES)) (b_one (s_ret e_non)) b_nil)))
  (b_one (s_ret (e_callTy call_int_str sc_intS T.b_int (a_cons (e_var 0) a_nil))))))⟩
theorem sc_read_fraction : FnScope N_read_fraction ["text"] (defScope s_read_fraction) := ⟨rfl, rfl, rfl, by decide +kernel, rfl, by decide +kernel, by decide +kernel⟩
theorem d_read_fraction (T : Txt ct K mg) (I_read_whole : FnI ct P w K mg base "read_whole" 1 mf_read_whole) (I_fraction_text : FnI ct P w K mg base "fraction_text" 1 mf_fraction_text) (I_lowest : FnI ct P w K mg base "lowest" 2 mf_lowest) {f : Addr} (cdv : Value) (A : Around) (outer : List Env) (s : Shared) (H : Hp) (E : XK) (hr : Room 2 (A.deeper (PyProof.Rows.envOfC "read_fraction" (defScope s_read_fraction) s.heap.objs.size f cdv))) :
    ∃ t, PSsM ct (cxOf (L2.CX P w) P w K mg base N_read_fraction "read_fraction" (defScope s_read_fraction) f cdv A outer s H E) (fun cls d _ H => E cls d H) (defBody s_read_fraction) t ms_read_fraction := ⟨_,
  (b_cons (s_if (t_not (t_val (e_isi (T := "str") T.b_isinstance T.b_str (e_var 0)))) (b_one (s_raise T.r_NoText (takes_of rfl rfl rfl rfl))) b_nil)
  (b_cons (s_set 1 sc_read_fraction.nd (e_var 0))
  (b_cons (s_if (t_val (e_str_startswith (e_var 0) e_str)) (b_one (s_set 1 sc_read_fraction.nd (e_sl (e_var 0) (o_some e_int) o_none))) b_nil)
  (b_cons (s_asg (e_str_partition (e_var 1) e_str) (g_tup (gs_cons (g_name 2 sc_read_fraction.nd) (gs_cons (g_name 3 sc_read_fraction.nd) (gs_cons (g_name 4 sc_read_fraction.nd) gs_nil)))))
  (b_cons (s_set 5 sc_read_fraction.nd (e_fn I_read_whole (hr.mono (by decide)) (takes_of rfl rfl rfl rfl) (a_cons (e_var 2) a_nil)))
  (b_cons (s_set 6 sc_read_fraction.nd (e_fn I_read_whole (hr.mono (by decide)) (takes_of rfl rfl rfl rfl) (a_cons (e_var 4) a_nil)))
  (b_cons (s_if (t_w (w_or (t_cmp (op_eqD hr.units) so_eq (nomark _) (e_var 3) e_str) (w_or (t_cmp op_isN so_is (nomark _) (e_var 5) e_non) (w_or (t_cmp op_isN so_is (nomark _) (e_var 6) e_non) (w_or (t_cmp op_gt so_cmpI (nomark _) (e_callB call_lenA sc_len T.b_len (a_cons (e_var 2) a_nil)) e_int) (w_or (t_cmp op_gt so_cmpI (nomark _) (e_callB call_lenA sc_len T.b_len (a_cons (e_var 4) a_nil)) e_int) (w_or1 (t_cmp (op_eqD hr.units) so_eq (nomark _) (e_var 6) e_int)))))))) (b_one (s_raise T.r_NoText (takes_of rfl rfl rfl rfl))) b_nil)
  (b_cons (s_if (t_val (e_str_startswith (e_var 0) e_str)) (b_one (s_set 5 sc_read_fraction.nd (e_sub e_int (e_var 5)))) b_nil)
  (b_cons (s_if (t_cmp (op_neD hr.units) so_ne (nomark _) (e_fn I_fraction_text (hr.mono (by decide)) (takes_of rfl rfl rfl rfl) (a_cons (e_fn I_lowest (hr.mono (by decide)) (takes_of rfl rfl rfl rfl) (a_cons (e_var 5) (a_cons (e_var 6) a_nil))) a_nil)) (e_var 0)) (b_one (s_raise T.r_NoText (takes_of rfl rfl rfl rfl))) b_nil)
  (b_one (s_ret (e_tup (a_cons (e_var 5) (a_cons (e_var 6) a_nil))))))))))))))⟩
theorem sc__law_cell_at : FnScope N__law_cell_at ["_law_script", "_law_k"] (defScope s__law_cell_at) := ⟨rfl, rfl, rfl, by decide +kernel, rfl, by decide +kernel, by decide +kernel⟩
theorem d__law_cell_at (T : Txt ct K mg)  {f : Addr} (cdv : Value) (A : Around) (outer : List Env) (s : Shared) (H : Hp) (E : XK) (hr : Room 0 (A.deeper (PyProof.Rows.envOfC "_law_cell_at" (defScope s__law_cell_at) s.heap.objs.size f cdv))) :
    ∃ t, PSsM ct (cxOf (L2.CX P w) P w K mg base N__law_cell_at "_law_cell_at" (defScope s__law_cell_at) f cdv A outer s H E) (fun cls d _ H => E cls d H) (defBody s__law_cell_at) t ms__law_cell_at := ⟨_,
  (b_cons (s_if (t_cmp op_lt so_cmpI (nomark _) (e_var 1) (e_callB call_lenA sc_len T.b_len (a_cons (e_var 0) a_nil))) (b_one (s_ret (e_ix (e_var 0) (e_var 1)))) b_nil)
  (b_one (s_ret e_int)))⟩
theorem sc__law_whole : FnScope N__law_whole ["_law_found"] (defScope s__law_whole) := ⟨rfl, rfl, rfl, by decide +kernel, rfl, by decide +kernel, by decide +kernel⟩
theorem d__law_whole (T : Txt ct K mg)  {f : Addr} (cdv : Value) (A : Around) (outer : List Env) (s : Shared) (H : Hp) (E : XK) (hr : Room 0 (A.deeper (PyProof.Rows.envOfC "_law_whole" (defScope s__law_whole) s.heap.objs.size f cdv))) :
    ∃ t, PSsM ct (cxOf (L2.CX P w) P w K mg base N__law_whole "_law_whole" (defScope s__law_whole) f cdv A outer s H E) (fun cls d _ H => E cls d H) (defBody s__law_whole) t ms__law_whole := ⟨_,
  (b_one (s_ret (e_and (e_isi (T := "int") T.b_isinstance T.b_int (e_var 0)) (e_one (e_not (e_isi (T := "bool") T.b_isinstance T.b_bool (e_var 0)))))))⟩
theorem sc__law_divisor : FnScope N__law_divisor ["_law_one", "_law_other_here"] (defScope s__law_divisor) := ⟨rfl, rfl, rfl, by decide +kernel, rfl, by decide +kernel, by decide +kernel⟩
theorem d__law_divisor (T : Txt ct K mg)  {f : Addr} (cdv : Value) (A : Around) (outer : List Env) (s : Shared) (H : Hp) (E : XK) (hr : Room 0 (A.deeper (PyProof.Rows.envOfC "_law_divisor" (defScope s__law_divisor) s.heap.objs.size f cdv))) :
    ∃ t, PSsM ct (cxOf (L2.CX P w) P w K mg base N__law_divisor "_law_divisor" (defScope s__law_divisor) f cdv A outer s H E) (fun cls d _ H => E cls d H) (defBody s__law_divisor) t ms__law_divisor := ⟨_,
  (b_cons (s_set 0 sc__law_divisor.nd (e_callB call_abs sc_abs T.b_abs (a_cons (e_var 0) a_nil)))
  (b_cons (s_set 1 sc__law_divisor.nd (e_callB call_abs sc_abs T.b_abs (a_cons (e_var 1) a_nil)))
  (b_cons (s_while (passes_of rfl) (t_cmp op_gt so_cmpI (nomark _) (e_var 1) e_int) (b_cons (s_set 2 sc__law_divisor.nd (e_mod (e_var 0) (e_var 1)))
  (b_cons (s_set 0 sc__law_divisor.nd (e_var 1))
  (b_one (s_set 1 sc__law_divisor.nd (e_var 2))))))
  (b_one (s_ret (e_var 0))))))⟩
theorem sc__law_fraction : FnScope N__law_fraction ["_law_cell", "_law_other_here"] (defScope s__law_fraction) := ⟨rfl, rfl, rfl, by decide +kernel, rfl, by decide +kernel, by decide +kernel⟩
theorem d__law_fraction (T : Txt ct K mg) (I__law_divisor : FnI ct P w K mg base "_law_divisor" 1 mf__law_divisor) {f : Addr} (cdv : Value) (A : Around) (outer : List Env) (s : Shared) (H : Hp) (E : XK) (hr : Room 1 (A.deeper (PyProof.Rows.envOfC "_law_fraction" (defScope s__law_fraction) s.heap.objs.size f cdv))) :
    ∃ t, PSsM ct (cxOf (L2.CX P w) P w K mg base N__law_fraction "_law_fraction" (defScope s__law_fraction) f cdv A outer s H E) (fun cls d _ H => E cls d H) (defBody s__law_fraction) t ms__law_fraction := ⟨_,
  (b_cons (s_set 2 sc__law_fraction.nd (e_mod (e_mul (e_var 0) e_int) e_int))
  (b_cons (s_set 3 sc__law_fraction.nd (e_sub (e_mod (e_div (e_var 2) e_int) e_int) e_int))
  (b_cons (s_set 4 sc__law_fraction.nd (e_add e_int (e_mod (e_mod (e_mul (e_var 1) e_int) e_int) e_int)))
  (b_cons (s_if (t_cmp (op_eqD hr.units) so_eq (nomark _) (e_mod (e_var 2) e_int) e_int) (b_cons (s_set 3 sc__law_fraction.nd (e_add (e_sub (e_mod (e_mul (e_var 0) e_int) (e_sub (e_mul e_int (e_pow e_int e_int)) e_int)) (e_pow e_int e_int)) e_int))
  (b_one (s_set 4 sc__law_fraction.nd (e_add e_int (e_mod (e_mul (e_var 1) e_int) (e_sub (e_pow e_int e_int) e_int)))))) b_nil)
  (b_cons (s_if (t_cmp (op_eqD hr.units) so_eq (nomark _) (e_mod (e_var 2) e_int) e_int) (b_cons (s_set 3 sc__law_fraction.nd (e_mul (e_var 0) e_int))
  (b_cons (s_set 3 sc__law_fraction.nd (e_add (e_sub (e_mod (e_var 3) (e_sub (e_mul e_int (e_pow e_int e_int)) e_int)) (e_pow e_int e_int)) e_int))
  (b_cons (s_set 4 sc__law_fraction.nd (e_mul (e_var 1) e_int))
  (b_one (s_set 4 sc__law_fraction.nd (e_add e_int (e_mod (e_var 4) (e_sub (e_pow e_int e_int) e_int)))))))) b_nil)
  (b_cons (s_set 5 sc__law_fraction.nd (e_fn I__law_divisor (hr.mono (by decide)) (takes_of rfl rfl rfl rfl) (a_cons (e_var 3) (a_cons (e_var 4) a_nil))))
  (b_one (s_ret (e_tup (a_cons (e_div (e_var 3) (e_var 5)) (a_cons (e_div (e_var 4) (e_var 5)) a_nil)))))))))))⟩
theorem sc__law_number : FnScope N__law_number ["_law_text"] (defScope s__law_number) := ⟨rfl, rfl, rfl, by decide +kernel, rfl, by decide +kernel, by decide +kernel⟩
theorem d__law_number (T : Txt ct K mg)  {f : Addr} (cdv : Value) (A : Around) (outer : List Env) (s : Shared) (H : Hp) (E : XK) (hr : Room 0 (A.deeper (PyProof.Rows.envOfC "_law_number" (defScope s__law_number) s.heap.objs.size f cdv))) :
    ∃ t, PSsM ct (cxOf (L2.CX P w) P w K mg base N__law_number "_law_number" (defScope s__law_number) f cdv A outer s H E) (fun cls d _ H => E cls d H) (defBody s__law_number) t ms__law_number := ⟨_,
  (b_cons (s_if (t_w (w_or (t_cmp (op_eqD hr.units) so_eq (nomark _) (e_var 0) e_str) (w_or (t_cmp op_gt so_cmpI (nomark _) (e_callB call_lenA sc_len T.b_len (a_cons (e_var 0) a_nil)) e_int) (w_or1 (t_w (w_and (t_cmp (op_eqD hr.units) so_eq (nomark _) (e_ix (e_var 0) e_int) e_str) (w_and1 (t_cmp op_gt so_cmpI (nomark _) (e_callB call_lenA sc_len T.b_len (a_cons (e_var 0) a_nil)) e_int)))))))) (b_one (s_ret (e_neg e_int))) b_nil)
  (b_cons (s_set 1 sc__law_number.nd e_int)
  (b_cons (s_for (passes_of rfl) (i_str (e_var 0)) (g_name 2 sc__law_number.nd) (b_cons (s_if (t_cmp op_notInSg so_notInSg rfl (e_var 2) e_str) (b_one (s_ret (e_neg e_int))) b_nil)
  (b_one (s_set 1 sc__law_number.nd (e_add (e_mul e_int (e_var 1)) (e_str_find e_str (e_var 2)))))))
  (b_one (s_ret (e_var 1))))))⟩
theorem sc__law_due : FnScope N__law_due ["_law_text"] (defScope s__law_due) := ⟨rfl, rfl, rfl, by decide +kernel, rfl, by decide +kernel, by decide +kernel⟩
theorem d__law_due (T : Txt ct K mg) (I__law_number : FnI ct P w K mg base "_law_number" 1 mf__law_number) (I__law_divisor : FnI ct P w K mg base "_law_divisor" 1 mf__law_divisor) {f : Addr} (cdv : Value) (A : Around) (outer : List Env) (s : Shared) (H : Hp) (E : XK) (hr : Room 1 (A.deeper (PyProof.Rows.envOfC "_law_due" (defScope s__law_due) s.heap.objs.size f cdv))) :
    ∃ t, PSsM ct (cxOf (L2.CX P w) P w K mg base N__law_due "_law_due" (defScope s__law_due) f cdv A outer s H E) (fun cls d _ H => E cls d H) (defBody s__law_due) t ms__law_due := ⟨_,
  (b_cons (s_set 1 sc__law_due.nd (e_str_find (e_var 0) e_str))
  (b_cons (s_set 2 sc__law_due.nd (e_callTy call_int1 sc_int T.b_int (a_cons (e_cmp (op_eqD hr.units) so_eq (nomark _) (e_sl (e_var 0) o_none (o_some e_int)) e_str) a_nil)))
  (b_cons (s_if (t_cmp op_lt so_cmpI (nomark _) (e_var 1) e_int) (b_one (s_ret e_non)) b_nil)
  (b_cons (s_set 3 sc__law_due.nd (e_fn I__law_number (hr.mono (by decide)) (takes_of rfl rfl rfl rfl) (a_cons (e_sl (e_var 0) (o_some (e_var 2)) (o_some (e_var 1))) a_nil)))
  (b_cons (s_set 4 sc__law_due.nd (e_fn I__law_number (hr.mono (by decide)) (takes_of rfl rfl rfl rfl) (a_cons (e_sl (e_var 0) (o_some (e_add (e_var 1) e_int)) o_none) a_nil)))
  (b_cons (s_if (t_w (w_or (t_cmp op_lt so_cmpI (nomark _) (e_var 3) e_int) (w_or (t_cmp op_lt so_cmpI (nomark _) (e_var 4) e_int) (w_or (t_cmp (op_neD hr.units) so_ne (nomark _) (e_fn I__law_divisor (hr.mono (by decide)) (takes_of rfl rfl rfl rfl) (a_cons (e_var 3) (a_cons (e_var 4) a_nil))) e_int) (w_or1 (t_w (w_and (t_cmp (op_eqD hr.units) so_eq (nomark _) (e_var 2) e_int) (w_and1 (t_cmp (op_eqD hr.units) so_eq (nomark _) (e_var 3) e_int))))))))) (b_one (s_ret e_non)) b_nil)
  (b_one (s_ret (e_tup (a_cons (e_mul (e_var 3) (e_sub e_int (e_mul e_int (e_var 2)))) (a_cons (e_var 4) a_nil)))))))))))⟩
theorem sc__law_spoilt : FnScope N__law_spoilt ["_law_text", "_law_one", "_law_cell"] (defScope s__law_spoilt) := ⟨rfl, rfl, rfl, by decide +kernel, rfl, by decide +kernel, by decide +kernel⟩
theorem d__law_spoilt (T : Txt ct K mg)  {f : Addr} (cdv : Value) (A : Around) (outer : List Env) (s : Shared) (H : Hp) (E : XK) (hr : Room 0 (A.deeper (PyProof.Rows.envOfC "_law_spoilt" (defScope s__law_spoilt) s.heap.objs.size f cdv))) :
    ∃ t, PSsM ct (cxOf (L2.CX P w) P w K mg base N__law_spoilt "_law_spoilt" (defScope s__law_spoilt) f cdv A outer s H E) (fun cls d _ H => E cls d H) (defBody s__law_spoilt) t ms__law_spoilt := ⟨_,
  (b_cons (s_set 3 sc__law_spoilt.nd (e_ix e_str (e_mod (e_div (e_var 2) e_int) e_int)))
  (b_cons (s_set 4 sc__law_spoilt.nd (e_mod (e_div (e_var 2) e_int) (e_add (e_callB call_lenA sc_len T.b_len (a_cons (e_var 0) a_nil)) e_int)))
  (b_cons (s_if (t_cmp (op_eqD hr.units) so_eq (nomark _) (e_mod (e_var 2) e_int) e_int) (b_one (s_ret (e_add (e_add (e_sl (e_var 0) o_none (o_some (e_var 4))) (e_var 3)) (e_sl (e_var 0) (o_some (e_var 4)) o_none)))) b_nil)
  (b_cons (s_if (t_cmp (op_eqD hr.units) so_eq (nomark _) (e_mod (e_var 2) e_int) e_int) (b_one (s_ret (e_add (e_sl (e_var 0) o_none (o_some (e_var 4))) (e_sl (e_var 0) (o_some (e_add (e_var 4) e_int)) o_none)))) b_nil)
  (b_cons (s_if (t_cmp (op_eqD hr.units) so_eq (nomark _) (e_mod (e_var 2) e_int) e_int) (b_one (s_ret (e_add (e_add (e_sl (e_var 0) o_none (o_some (e_var 4))) (e_var 3)) (e_sl (e_var 0) (o_some (e_add (e_var 4) e_int)) o_none)))) b_nil)
  (b_cons (s_set 5 sc__law_spoilt.nd (e_add e_int (e_mod (e_div (e_var 2) e_int) e_int)))
  (b_cons (s_set 6 sc__law_spoilt.nd (e_lst (a_cons (e_add (e_add (e_callTy call_str_int sc_str T.b_str (a_cons (e_mul (e_ix (e_var 1) e_int) (e_var 5)) a_nil)) e_str) (e_callTy call_str_int sc_str T.b_str (a_cons (e_mul (e_ix (e_var 1) e_int) (e_var 5)) a_nil))) (a_cons e_str (a_cons e_str a_nil)))))
  (b_cons (s_set 6 sc__law_spoilt.nd (e_add (e_var 6) (e_lst (a_cons e_str (a_cons e_str (a_cons (e_add e_str (e_callTy call_str_int sc_str T.b_str (a_cons (e_var 5) a_nil))) (a_cons e_str (a_cons e_str a_nil))))))))
  (b_one (s_ret (e_ix (e_var 6) (e_mod (e_div (e_var 2) e_int) e_int))))))))))))⟩
theorem sc__law_other : FnScope N__law_other ["_law_error"] (defScope s__law_other) := ⟨rfl, rfl, rfl, by decide +kernel, rfl, by decide +kernel, by decide +kernel⟩
theorem d__law_other (T : Txt ct K mg)  {f : Addr} (cdv : Value) (A : Around) (outer : List Env) (s : Shared) (H : Hp) (E : XK) (hr : Room 0 (A.deeper (PyProof.Rows.envOfC "_law_other" (defScope s__law_other) s.heap.objs.size f cdv))) :
    ∃ t, PSsM ct (cxOf (L2.CX P w) P w K mg base N__law_other "_law_other" (defScope s__law_other) f cdv A outer s H E) (fun cls d _ H => E cls d H) (defBody s__law_other) t ms__law_other := ⟨_,
  (b_cons (s_if (t_w (w_or (t_val (e_isiE T.e_NoNumber T.b_isinstance T.n_NoNumber (e_var 0))) (w_or (t_val (e_isiE T.e_NoPart T.b_isinstance T.n_NoPart (e_var 0))) (w_or1 (t_val (e_isiE T.e_NoName T.b_isinstance T.n_NoName (e_var 0))))))) (b_one (s_ret e_bl)) b_nil)
  (b_cons (s_if (t_w (w_or (t_val (e_isiE T.e_Twice T.b_isinstance T.n_Twice (e_var 0))) (w_or (t_val (e_isiE T.e_NoBus T.b_isinstance T.n_NoBus (e_var 0))) (w_or1 (t_val (e_isiE T.e_Ring T.b_isinstance T.n_Ring (e_var 0))))))) (b_one (s_ret e_bl)) b_nil)
  (b_one (s_ret (e_or (e_isiE T.e_NoBlock T.b_isinstance T.n_NoBlock (e_var 0)) (e_or (e_isiE T.e_NoRow T.b_isinstance T.n_NoRow (e_var 0)) (e_one (e_isiE T.e_NoDeed T.b_isinstance T.n_NoDeed (e_var 0)))))))))⟩
theorem dH__law_other (T : Txt ct K mg)  {f : Addr} (cdv : Value) (A : Around) (outer : List Env) (s : Shared) (H : Hp) (E : XK) (hr : L2H.RoomH 0 (A.deeper (PyProof.Rows.envOfC "_law_other" (defScope s__law_other) s.heap.objs.size f cdv))) :
    ∃ t, PSsM ct (cxC (L2.CX P w) P w K mg base N__law_other "_law_other" (defScope s__law_other) f cdv A outer s H E) (fun cls d _ H => E cls d H) (defBody s__law_other) t ms__law_other := ⟨_,
  (b_cons (s_if (t_w (w_or (t_val (e_isiE T.e_NoNumber T.b_isinstance T.n_NoNumber (e_var 0))) (w_or (t_val (e_isiE T.e_NoPart T.b_isinstance T.n_NoPart (e_var 0))) (w_or1 (t_val (e_isiE T.e_NoName T.b_isinstance T.n_NoName (e_var 0))))))) (b_one (s_ret e_bl)) b_nil)
  (b_cons (s_if (t_w (w_or (t_val (e_isiE T.e_Twice T.b_isinstance T.n_Twice (e_var 0))) (w_or (t_val (e_isiE T.e_NoBus T.b_isinstance T.n_NoBus (e_var 0))) (w_or1 (t_val (e_isiE T.e_Ring T.b_isinstance T.n_Ring (e_var 0))))))) (b_one (s_ret e_bl)) b_nil)
  (b_one (s_ret (e_or (e_isiE T.e_NoBlock T.b_isinstance T.n_NoBlock (e_var 0)) (e_or (e_isiE T.e_NoRow T.b_isinstance T.n_NoRow (e_var 0)) (e_one (e_isiE T.e_NoDeed T.b_isinstance T.n_NoDeed (e_var 0)))))))))⟩
theorem sc__law_good : FnScope N__law_good ["_law_text"] (defScope s__law_good) := ⟨rfl, rfl, rfl, by decide +kernel, rfl, by decide +kernel, by decide +kernel⟩
theorem d__law_good (T : Txt ct K mg) (I_read_fraction : FnI ct P w K mg base "read_fraction" 3 mf_read_fraction) (I__law_other : FnI ct P w K mg base "_law_other" 1 mf__law_other) (I__law_due : FnI ct P w K mg base "_law_due" 2 mf__law_due) (I__law_whole : FnI ct P w K mg base "_law_whole" 1 mf__law_whole) (IH__law_other : FnIC ct P w K mg base "_law_other" 1 mf__law_other) {f : Addr} (cdv : Value) (A : Around) (outer : List Env) (s : Shared) (H : Hp) (E : XK) (hr : Room 3 (A.deeper (PyProof.Rows.envOfC "_law_good" (defScope s__law_good) s.heap.objs.size f cdv))) :
    ∃ t, PSsM ct (cxOf (L2.CX P w) P w K mg base N__law_good "_law_good" (defScope s__law_good) f cdv A outer s H E) (fun cls d _ H => E cls d H) (defBody s__law_good) t ms__law_good := ⟨_,
  (b_cons (s_set 1 sc__law_good.nd e_non)
  (b_cons (s_set 2 sc__law_good.nd (e_tup (a_cons e_bl (a_cons e_bl a_nil))))
  (b_cons (s_suite 3 sc__law_good.nd T.c_MixError (takes_of rfl rfl rfl rfl) (fun _ _ _ tk ps => ⟨_, (b_one (s_set 1 sc__law_good.nd (e_fn I_read_fraction (hr.mono (by decide)) tk (a_cons (e_var 0) a_nil))))⟩) (fun _ _ => ⟨_, (b_one (s_set 2 sc__law_good.nd (e_tup (a_cons (e_and (e_isiE T.e_NoText T.b_isinstance T.n_NoText (e_var 3)) (e_one (e_isiEB T.e_ValueError T.b_isinstance T.b_ValueError (e_var 3)))) (a_cons (e_fnC IH__law_other (roomS hr (by decide)) (a_cons (e_var 3) a_nil)) a_nil)))))⟩))
  (b_cons (s_set 4 sc__law_good.nd e_non)
  (b_cons (s_if (t_val (e_isi (T := "str") T.b_isinstance T.b_str (e_var 0))) (b_one (s_set 4 sc__law_good.nd (e_fn I__law_due (hr.mono (by decide)) (takes_of rfl rfl rfl rfl) (a_cons (e_var 0) a_nil)))) b_nil)
  (b_cons (s_if (t_cmp op_isN so_is (nomark _) (e_var 4) e_non) (b_one (s_ret (e_and (e_cmp op_isN so_is (nomark _) (e_var 1) e_non) (e_one (e_cmp (op_eqD hr.units) so_eq (nomark _) (e_var 2) (e_tup (a_cons e_bl (a_cons e_bl a_nil)))))))) b_nil)
  (b_cons (s_if (t_w (w_or (t_not (t_val (e_isi (T := "tuple") T.b_isinstance T.b_tuple (e_var 1)))) (w_or (t_cmp (op_neD hr.units) so_ne (nomark _) (e_callB call_lenA sc_len T.b_len (a_cons (e_var 1) a_nil)) e_int) (w_or (t_not (t_val (e_fn I__law_whole (hr.mono (by decide)) (takes_of rfl rfl rfl rfl) (a_cons (e_ix (e_var 1) e_int) a_nil)))) (w_or1 (t_not (t_val (e_fn I__law_whole (hr.mono (by decide)) (takes_of rfl rfl rfl rfl) (a_cons (e_ix (e_var 1) e_int) a_nil))))))))) (b_one (s_ret e_bl)) b_nil)
  (b_one (s_ret (e_cmp (op_eqD hr.units) so_eq (nomark _) (e_var 1) (e_var 4)))))))))))⟩
theorem sc_law : FnScope N_law ["_law_script"] (defScope s_law) := ⟨rfl, rfl, rfl, by decide +kernel, rfl, by decide +kernel, by decide +kernel⟩
theorem d_law (T : Txt ct K mg) (I__law_cell_at : FnI ct P w K mg base "_law_cell_at" 1 mf__law_cell_at) (I__law_fraction : FnI ct P w K mg base "_law_fraction" 2 mf__law_fraction) (I_fraction_text : FnI ct P w K mg base "fraction_text" 1 mf_fraction_text) (I__law_good : FnI ct P w K mg base "_law_good" 4 mf__law_good) (I__law_spoilt : FnI ct P w K mg base "_law_spoilt" 1 mf__law_spoilt) {f : Addr} (cdv : Value) (A : Around) (outer : List Env) (s : Shared) (H : Hp) (E : XK) (hr : Room 4 (A.deeper (PyProof.Rows.envOfC "law" (defScope s_law) s.heap.objs.size f cdv))) :
    ∃ t, PSsM ct (cxOf (L2.CX P w) P w K mg base N_law "law" (defScope s_law) f cdv A outer s H E) (fun cls d _ H => E cls d H) (defBody s_law) t ms_law := ⟨_,
  (b_cons (s_for (passes_of rfl) (i_r3 T.b_range (a_cons e_int (a_cons (e_callB call_lenA sc_len T.b_len (a_cons (e_var 0) a_nil)) (a_cons e_int a_nil)))) (g_name 1 sc_law.nd) (b_cons (s_set 2 sc_law.nd (e_fn I__law_cell_at (hr.mono (by decide)) (takes_of rfl rfl rfl rfl) (a_cons (e_var 0) (a_cons (e_add (e_var 1) e_int) a_nil))))
  (b_shut (b_cons (s_set 3 sc_law.nd (e_fn I__law_fraction (hr.mono (by decide)) (takes_of rfl rfl rfl rfl) (a_cons (e_ix (e_var 0) (e_var 1)) (a_cons (e_var 2) a_nil))))
  (b_shut (b_cons (s_set 4 sc_law.nd (e_fn I_fraction_text (hr.mono (by decide)) (takes_of rfl rfl rfl rfl) (a_cons (e_var 3) a_nil)))
  (b_shut (b_cons (s_if (t_w (w_or (t_not (t_val (e_isi (T := "str") T.b_isinstance T.b_str (e_var 4)))) (w_or1 (t_cmp (op_neD hr.units) so_ne (nomark _) (e_var 4) (e_add (e_add (e_callTy call_str_int sc_str T.b_str (a_cons (e_ix (e_var 3) e_int) a_nil)) e_str) (e_callTy call_str_int sc_str T.b_str (a_cons (e_ix (e_var 3) e_int) a_nil))))))) (b_one (s_ret e_bl)) b_nil)
  (b_shut (b_cons (s_set 5 sc_law.nd (e_mod (e_mul (e_add (e_ix (e_var 0) (e_var 1)) (e_mul e_int (e_var 2))) e_int) e_int))
  (b_shut (b_cons (s_set 6 sc_law.nd (e_ix (e_lst (a_cons e_non (a_cons e_int (a_cons (e_var 3) (a_cons (e_lst (a_cons e_str a_nil)) (a_cons e_bl (a_cons e_dic0 a_nil))))))) (e_mod (e_var 5) e_int)))
  (b_shut (b_one (s_if (t_w (w_or (t_not (t_val (e_fn I__law_good (hr.mono (by decide)) (takes_of rfl rfl rfl rfl) (a_cons (e_var 4) a_nil)))) (w_or (t_not (t_val (e_fn I__law_good (hr.mono (by decide)) (takes_of rfl rfl rfl rfl) (a_cons (e_fn I__law_spoilt (hr.mono (by decide)) (takes_of rfl rfl rfl rfl) (a_cons (e_var 4) (a_cons (e_var 3) (a_cons (e_var 5) a_nil)))) a_nil)))) (w_or1 (t_not (t_val (e_fn I__law_good (hr.mono (by decide)) (takes_of rfl rfl rfl rfl) (a_cons (e_var 6) a_nil)))))))) (b_one (s_ret e_bl)) b_nil)))))))))))))))
  (b_shut (b_one (s_ret e_bl))))⟩
theorem ok_divisor (T : Txt ct K mg)  {f : Addr} {fd : FuncData} (F : Fun K "divisor" "divisor" s_divisor f fd) : FnOk P w K mg base (L2.CX P w) 1 f fd ["one", "other"] (spM ⟨K, ct⟩ mf_divisor) :=
  fnM ct mf_divisor F sc_divisor (by first | exact len_divisor | exact fn2_len | exact sF2_len | exact sL2_len) ms_divisor (fun cdv A outer s H E hr => d_divisor T  cdv A outer s H E hr) run_divisor
theorem ok_lowest (T : Txt ct K mg) (I_divisor : FnI ct P w K mg base "divisor" 1 mf_divisor) {f : Addr} {fd : FuncData} (F : Fun K "lowest" "lowest" s_lowest f fd) : FnOk P w K mg base (L2.CX P w) 2 f fd ["top", "bottom"] (spM ⟨K, ct⟩ mf_lowest) :=
  fnM ct mf_lowest F sc_lowest (by first | exact len_lowest | exact fn2_len | exact sF2_len | exact sL2_len) ms_lowest (fun cdv A outer s H E hr => d_lowest T I_divisor cdv A outer s H E hr) run_lowest
theorem ok_fraction_text (T : Txt ct K mg)  {f : Addr} {fd : FuncData} (F : Fun K "fraction_text" "fraction_text" s_fraction_text f fd) : FnOk P w K mg base (L2.CX P w) 1 f fd ["one"] (spM ⟨K, ct⟩ mf_fraction_text) :=
  fnM ct mf_fraction_text F sc_fraction_text (by first | exact len_fraction_text | exact fn1_len | exact sF1_len | exact sL1_len) ms_fraction_text (fun cdv A outer s H E hr => d_fraction_text T  cdv A outer s H E hr) run_fraction_text
theorem ok_read_whole (T : Txt ct K mg)  {f : Addr} {fd : FuncData} (F : Fun K "read_whole" "read_whole" s_read_whole f fd) : FnOk P w K mg base (L2.CX P w) 1 f fd ["text"] (spM ⟨K, ct⟩ mf_read_whole) :=
  fnM ct mf_read_whole F sc_read_whole (by first | exact len_read_whole | exact fn1_len | exact sF1_len | exact sL1_len) ms_read_whole (fun cdv A outer s H E hr => d_read_whole T  cdv A outer s H E hr) run_read_whole
theorem ok_read_fraction (T : Txt ct K mg) (I_read_whole : FnI ct P w K mg base "read_whole" 1 mf_read_whole) (I_fraction_text : FnI ct P w K mg base "fraction_text" 1 mf_fraction_text) (I_lowest : FnI ct P w K mg base "lowest" 2 mf_lowest) {f : Addr} {fd : FuncData} (F : Fun K "read_fraction" "read_fraction" s_read_fraction f fd) : FnOk P w K mg base (L2.CX P w) 3 f fd ["text"] (spM ⟨K, ct⟩ mf_read_fraction) :=
  fnM ct mf_read_fraction F sc_read_fraction (by first | exact len_read_fraction | exact fn1_len | exact sF1_len | exact sL1_len) ms_read_fraction (fun cdv A outer s H E hr => d_read_fraction T I_read_whole I_fraction_text I_lowest cdv A outer s H E hr) run_read_fraction
theorem ok__law_cell_at (T : Txt ct K mg)  {f : Addr} {fd : FuncData} (F : Fun K "_law_cell_at" "_law_cell_at" s__law_cell_at f fd) : FnOk P w K mg base (L2.CX P w) 1 f fd ["_law_script", "_law_k"] (spM ⟨K, ct⟩ mf__law_cell_at) :=
  fnM ct mf__law_cell_at F sc__law_cell_at (by first | exact len__law_cell_at | exact fn2_len | exact sF2_len | exact sL2_len) ms__law_cell_at (fun cdv A outer s H E hr => d__law_cell_at T  cdv A outer s H E hr) run__law_cell_at
theorem ok__law_whole (T : Txt ct K mg)  {f : Addr} {fd : FuncData} (F : Fun K "_law_whole" "_law_whole" s__law_whole f fd) : FnOk P w K mg base (L2.CX P w) 1 f fd ["_law_found"] (spM ⟨K, ct⟩ mf__law_whole) :=
  fnM ct mf__law_whole F sc__law_whole (by first | exact len__law_whole | exact fn1_len | exact sF1_len | exact sL1_len) ms__law_whole (fun cdv A outer s H E hr => d__law_whole T  cdv A outer s H E hr) run__law_whole
theorem ok__law_divisor (T : Txt ct K mg)  {f : Addr} {fd : FuncData} (F : Fun K "_law_divisor" "_law_divisor" s__law_divisor f fd) : FnOk P w K mg base (L2.CX P w) 1 f fd ["_law_one", "_law_other_here"] (spM ⟨K, ct⟩ mf__law_divisor) :=
  fnM ct mf__law_divisor F sc__law_divisor (by first | exact len__law_divisor | exact fn2_len | exact sF2_len | exact sL2_len) ms__law_divisor (fun cdv A outer s H E hr => d__law_divisor T  cdv A outer s H E hr) run__law_divisor
theorem ok__law_fraction (T : Txt ct K mg) (I__law_divisor : FnI ct P w K mg base "_law_divisor" 1 mf__law_divisor) {f : Addr} {fd : FuncData} (F : Fun K "_law_fraction" "_law_fraction" s__law_fraction f fd) : FnOk P w K mg base (L2.CX P w) 2 f fd ["_law_cell", "_law_other_here"] (spM ⟨K, ct⟩ mf__law_fraction) :=
  fnM ct mf__law_fraction F sc__law_fraction (by first | exact len__law_fraction | exact fn2_len | exact sF2_len | exact sL2_len) ms__law_fraction (fun cdv A outer s H E hr => d__law_fraction T I__law_divisor cdv A outer s H E hr) run__law_fraction
theorem ok__law_number (T : Txt ct K mg)  {f : Addr} {fd : FuncData} (F : Fun K "_law_number" "_law_number" s__law_number f fd) : FnOk P w K mg base (L2.CX P w) 1 f fd ["_law_text"] (spM ⟨K, ct⟩ mf__law_number) :=
  fnM ct mf__law_number F sc__law_number (by first | exact len__law_number | exact fn1_len | exact sF1_len | exact sL1_len) ms__law_number (fun cdv A outer s H E hr => d__law_number T  cdv A outer s H E hr) run__law_number
theorem ok__law_due (T : Txt ct K mg) (I__law_number : FnI ct P w K mg base "_law_number" 1 mf__law_number) (I__law_divisor : FnI ct P w K mg base "_law_divisor" 1 mf__law_divisor) {f : Addr} {fd : FuncData} (F : Fun K "_law_due" "_law_due" s__law_due f fd) : FnOk P w K mg base (L2.CX P w) 2 f fd ["_law_text"] (spM ⟨K, ct⟩ mf__law_due) :=
  fnM ct mf__law_due F sc__law_due (by first | exact len__law_due | exact fn1_len | exact sF1_len | exact sL1_len) ms__law_due (fun cdv A outer s H E hr => d__law_due T I__law_number I__law_divisor cdv A outer s H E hr) run__law_due
theorem ok__law_spoilt (T : Txt ct K mg)  {f : Addr} {fd : FuncData} (F : Fun K "_law_spoilt" "_law_spoilt" s__law_spoilt f fd) : FnOk P w K mg base (L2.CX P w) 1 f fd ["_law_text", "_law_one", "_law_cell"] (spM ⟨K, ct⟩ mf__law_spoilt) :=
  fnM ct mf__law_spoilt F sc__law_spoilt (by first | exact len__law_spoilt | exact fn3_len | exact sF3_len | exact sL3_len) ms__law_spoilt (fun cdv A outer s H E hr => d__law_spoilt T  cdv A outer s H E hr) run__law_spoilt
theorem ok__law_other (T : Txt ct K mg)  {f : Addr} {fd : FuncData} (F : Fun K "_law_other" "_law_other" s__law_other f fd) : FnOk P w K mg base (L2.CX P w) 1 f fd ["_law_error"] (spM ⟨K, ct⟩ mf__law_other) :=
  fnM ct mf__law_other F sc__law_other (by first | exact len__law_other | exact fn1_len | exact sF1_len | exact sL1_len) ms__law_other (fun cdv A outer s H E hr => d__law_other T  cdv A outer s H E hr) run__law_other
theorem okH__law_other (T : Txt ct K mg)  {f : Addr} {fd : FuncData} (F : Fun K "_law_other" "_law_other" s__law_other f fd) : FnC P w K mg base (L2.CX P w) 1 f fd ["_law_error"] (spM ⟨K, ct⟩ mf__law_other) :=
  fnMC ct mf__law_other F sc__law_other (by first | exact len__law_other | exact fn1_len | exact sF1_len | exact sL1_len) ms__law_other (fun cdv A outer s H E hr => dH__law_other T  cdv A outer s H E hr) run__law_other
theorem ok__law_good (T : Txt ct K mg) (I_read_fraction : FnI ct P w K mg base "read_fraction" 3 mf_read_fraction) (I__law_other : FnI ct P w K mg base "_law_other" 1 mf__law_other) (I__law_due : FnI ct P w K mg base "_law_due" 2 mf__law_due) (I__law_whole : FnI ct P w K mg base "_law_whole" 1 mf__law_whole) (IH__law_other : FnIC ct P w K mg base "_law_other" 1 mf__law_other) {f : Addr} {fd : FuncData} (F : Fun K "_law_good" "_law_good" s__law_good f fd) : FnOk P w K mg base (L2.CX P w) 4 f fd ["_law_text"] (spM ⟨K, ct⟩ mf__law_good) :=
  fnM ct mf__law_good F sc__law_good (by first | exact len__law_good | exact fn1_len | exact sF1_len | exact sL1_len) ms__law_good (fun cdv A outer s H E hr => d__law_good T I_read_fraction I__law_other I__law_due I__law_whole IH__law_other cdv A outer s H E hr) run__law_good
theorem ok_law (T : Txt ct K mg) (I__law_cell_at : FnI ct P w K mg base "_law_cell_at" 1 mf__law_cell_at) (I__law_fraction : FnI ct P w K mg base "_law_fraction" 2 mf__law_fraction) (I_fraction_text : FnI ct P w K mg base "fraction_text" 1 mf_fraction_text) (I__law_good : FnI ct P w K mg base "_law_good" 4 mf__law_good) (I__law_spoilt : FnI ct P w K mg base "_law_spoilt" 1 mf__law_spoilt) {f : Addr} {fd : FuncData} (F : Fun K "law" "law" s_law f fd) : FnOk P w K mg base (L2.CX P w) 5 f fd ["_law_script"] (spM ⟨K, ct⟩ (fnLaw ms_law N_law.length)) :=
  fnM ct (fnLaw ms_law N_law.length) F sc_law fnLaw_len ms_law (fun cdv A outer s H E hr => d_law T I__law_cell_at I__law_fraction I_fraction_text I__law_good I__law_spoilt cdv A outer s H E hr) fnLaw_run
end
theorem all_mk {l : PySem.W.OpenLaw} {w : World} {K : PySem.W.Frag} {h : Heap} {mg : Str → Option Value} {fa : Addr} (X : K.In h) (G : h.Ns mainGlobals mg) (hfa : mg "law" = some (.ref fa))
    {f0 f1 f2 f3 f4 f5 f6 f7 f8 f9 f10 f11 f12 f13 f14 A_NoText A_MixError A_NoNumber A_NoPart A_NoName A_Twice A_NoBus A_Ring A_NoBlock A_NoRow A_NoDeed : Addr} {od0 an0 od1 an1 od2 an2 od3 an3 od4 an4 od5 an5 od6 an6 od7 an7 od8 an8 od9 an9 od10 an10 od11 an11 od12 an12 od13 an13 od14 an14 : Option Addr} {sl0 sl1 sl2 sl3 sl4 sl5 sl6 sl7 sl8 sl9 sl10 sl11 sl12 sl13 sl14 : Array (Option Value)} {oc0 kV0 dc0 pm0 cd0 ct0 oc1 kV1 dc1 pm1 cd1 ct1 oc2 kV2 dc2 pm2 cd2 ct2 oc3 kV3 dc3 pm3 cd3 ct3 oc4 kV4 dc4 pm4 cd4 ct4 oc5 kV5 dc5 pm5 cd5 ct5 oc6 kV6 dc6 pm6 cd6 ct6 oc7 kV7 dc7 pm7 cd7 ct7 oc8 kV8 dc8 pm8 cd8 ct8 oc9 kV9 dc9 pm9 cd9 ct9 oc10 kV10 dc10 pm10 cd10 ct10 oc11 kV11 dc11 pm11 cd11 ct11 oc12 kV12 dc12 pm12 cd12 ct12 oc13 kV13 dc13 pm13 cd13 ct13 oc14 kV14 dc14 pm14 cd14 ct14 : Value}
    (cA_NoText : PySem.W.nsIn K mainGlobals "NoText" = some (some (.ref A_NoText)))
    (cA_MixError : PySem.W.nsIn K mainGlobals "MixError" = some (some (.ref A_MixError)))
    (cA_NoNumber : PySem.W.nsIn K mainGlobals "NoNumber" = some (some (.ref A_NoNumber)))
    (cA_NoPart : PySem.W.nsIn K mainGlobals "NoPart" = some (some (.ref A_NoPart)))
    (cA_NoName : PySem.W.nsIn K mainGlobals "NoName" = some (some (.ref A_NoName)))
    (cA_Twice : PySem.W.nsIn K mainGlobals "Twice" = some (some (.ref A_Twice)))
    (cA_NoBus : PySem.W.nsIn K mainGlobals "NoBus" = some (some (.ref A_NoBus)))
    (cA_Ring : PySem.W.nsIn K mainGlobals "Ring" = some (some (.ref A_Ring)))
    (cA_NoBlock : PySem.W.nsIn K mainGlobals "NoBlock" = some (some (.ref A_NoBlock)))
    (cA_NoRow : PySem.W.nsIn K mainGlobals "NoRow" = some (some (.ref A_NoRow)))
    (cA_NoDeed : PySem.W.nsIn K mainGlobals "NoDeed" = some (some (.ref A_NoDeed)))
    (a0 : PySem.W.nsIn K mainGlobals "divisor" = some (some (.ref f0)))
    (l0 : K.lookup f0 = some ⟨oc0, od0, .func (PySem.W.fnOf "divisor" "divisor" (defArgs s_divisor) (defBody s_divisor) (defScope s_divisor) .none kV0 dc0 pm0 an0 cd0 ct0), sl0⟩)
    (c0 : PySem.W.codeIn K cd0 "divisor" = true)
    (k0 : PySem.W.keepIn K (.ref f0) = true)
    (a1 : PySem.W.nsIn K mainGlobals "lowest" = some (some (.ref f1)))
    (l1 : K.lookup f1 = some ⟨oc1, od1, .func (PySem.W.fnOf "lowest" "lowest" (defArgs s_lowest) (defBody s_lowest) (defScope s_lowest) .none kV1 dc1 pm1 an1 cd1 ct1), sl1⟩)
    (c1 : PySem.W.codeIn K cd1 "lowest" = true)
    (k1 : PySem.W.keepIn K (.ref f1) = true)
    (a2 : PySem.W.nsIn K mainGlobals "fraction_text" = some (some (.ref f2)))
    (l2 : K.lookup f2 = some ⟨oc2, od2, .func (PySem.W.fnOf "fraction_text" "fraction_text" (defArgs s_fraction_text) (defBody s_fraction_text) (defScope s_fraction_text) .none kV2 dc2 pm2 an2 cd2 ct2), sl2⟩)
    (c2 : PySem.W.codeIn K cd2 "fraction_text" = true)
    (k2 : PySem.W.keepIn K (.ref f2) = true)
    (a3 : PySem.W.nsIn K mainGlobals "read_whole" = some (some (.ref f3)))
    (l3 : K.lookup f3 = some ⟨oc3, od3, .func (PySem.W.fnOf "read_whole" "read_whole" (defArgs s_read_whole) (defBody s_read_whole) (defScope s_read_whole) .none kV3 dc3 pm3 an3 cd3 ct3), sl3⟩)
    (c3 : PySem.W.codeIn K cd3 "read_whole" = true)
    (k3 : PySem.W.keepIn K (.ref f3) = true)
    (a4 : PySem.W.nsIn K mainGlobals "read_fraction" = some (some (.ref f4)))
    (l4 : K.lookup f4 = some ⟨oc4, od4, .func (PySem.W.fnOf "read_fraction" "read_fraction" (defArgs s_read_fraction) (defBody s_read_fraction) (defScope s_read_fraction) .none kV4 dc4 pm4 an4 cd4 ct4), sl4⟩)
    (c4 : PySem.W.codeIn K cd4 "read_fraction" = true)
    (k4 : PySem.W.keepIn K (.ref f4) = true)
    (a5 : PySem.W.nsIn K mainGlobals "_law_cell_at" = some (some (.ref f5)))
    (l5 : K.lookup f5 = some ⟨oc5, od5, .func (PySem.W.fnOf "_law_cell_at" "_law_cell_at" (defArgs s__law_cell_at) (defBody s__law_cell_at) (defScope s__law_cell_at) .none kV5 dc5 pm5 an5 cd5 ct5), sl5⟩)
    (c5 : PySem.W.codeIn K cd5 "_law_cell_at" = true)
    (k5 : PySem.W.keepIn K (.ref f5) = true)
    (a6 : PySem.W.nsIn K mainGlobals "_law_whole" = some (some (.ref f6)))
    (l6 : K.lookup f6 = some ⟨oc6, od6, .func (PySem.W.fnOf "_law_whole" "_law_whole" (defArgs s__law_whole) (defBody s__law_whole) (defScope s__law_whole) .none kV6 dc6 pm6 an6 cd6 ct6), sl6⟩)
    (c6 : PySem.W.codeIn K cd6 "_law_whole" = true)
    (k6 : PySem.W.keepIn K (.ref f6) = true)
    (a7 : PySem.W.nsIn K mainGlobals "_law_divisor" = some (some (.ref f7)))
    (l7 : K.lookup f7 = some ⟨oc7, od7, .func (PySem.W.fnOf "_law_divisor" "_law_divisor" (defArgs s__law_divisor) (defBody s__law_divisor) (defScope s__law_divisor) .none kV7 dc7 pm7 an7 cd7 ct7), sl7⟩)
    (c7 : PySem.W.codeIn K cd7 "_law_divisor" = true)
    (k7 : PySem.W.keepIn K (.ref f7) = true)
    (a8 : PySem.W.nsIn K mainGlobals "_law_fraction" = some (some (.ref f8)))
    (l8 : K.lookup f8 = some ⟨oc8, od8, .func (PySem.W.fnOf "_law_fraction" "_law_fraction" (defArgs s__law_fraction) (defBody s__law_fraction) (defScope s__law_fraction) .none kV8 dc8 pm8 an8 cd8 ct8), sl8⟩)
    (c8 : PySem.W.codeIn K cd8 "_law_fraction" = true)
    (k8 : PySem.W.keepIn K (.ref f8) = true)
    (a9 : PySem.W.nsIn K mainGlobals "_law_number" = some (some (.ref f9)))
    (l9 : K.lookup f9 = some ⟨oc9, od9, .func (PySem.W.fnOf "_law_number" "_law_number" (defArgs s__law_number) (defBody s__law_number) (defScope s__law_number) .none kV9 dc9 pm9 an9 cd9 ct9), sl9⟩)
    (c9 : PySem.W.codeIn K cd9 "_law_number" = true)
    (k9 : PySem.W.keepIn K (.ref f9) = true)
    (a10 : PySem.W.nsIn K mainGlobals "_law_due" = some (some (.ref f10)))
    (l10 : K.lookup f10 = some ⟨oc10, od10, .func (PySem.W.fnOf "_law_due" "_law_due" (defArgs s__law_due) (defBody s__law_due) (defScope s__law_due) .none kV10 dc10 pm10 an10 cd10 ct10), sl10⟩)
    (c10 : PySem.W.codeIn K cd10 "_law_due" = true)
    (k10 : PySem.W.keepIn K (.ref f10) = true)
    (a11 : PySem.W.nsIn K mainGlobals "_law_spoilt" = some (some (.ref f11)))
    (l11 : K.lookup f11 = some ⟨oc11, od11, .func (PySem.W.fnOf "_law_spoilt" "_law_spoilt" (defArgs s__law_spoilt) (defBody s__law_spoilt) (defScope s__law_spoilt) .none kV11 dc11 pm11 an11 cd11 ct11), sl11⟩)
    (c11 : PySem.W.codeIn K cd11 "_law_spoilt" = true)
    (k11 : PySem.W.keepIn K (.ref f11) = true)
    (a12 : PySem.W.nsIn K mainGlobals "_law_other" = some (some (.ref f12)))
    (l12 : K.lookup f12 = some ⟨oc12, od12, .func (PySem.W.fnOf "_law_other" "_law_other" (defArgs s__law_other) (defBody s__law_other) (defScope s__law_other) .none kV12 dc12 pm12 an12 cd12 ct12), sl12⟩)
    (c12 : PySem.W.codeIn K cd12 "_law_other" = true)
    (k12 : PySem.W.keepIn K (.ref f12) = true)
    (a13 : PySem.W.nsIn K mainGlobals "_law_good" = some (some (.ref f13)))
    (l13 : K.lookup f13 = some ⟨oc13, od13, .func (PySem.W.fnOf "_law_good" "_law_good" (defArgs s__law_good) (defBody s__law_good) (defScope s__law_good) .none kV13 dc13 pm13 an13 cd13 ct13), sl13⟩)
    (c13 : PySem.W.codeIn K cd13 "_law_good" = true)
    (k13 : PySem.W.keepIn K (.ref f13) = true)
    (a14 : PySem.W.nsIn K mainGlobals "law" = some (some (.ref f14)))
    (l14 : K.lookup f14 = some ⟨oc14, od14, .func (PySem.W.fnOf "law" "law" (defArgs s_law) (defBody s_law) (defScope s_law) .none kV14 dc14 pm14 an14 cd14 ct14), sl14⟩)
    (c14 : PySem.W.codeIn K cd14 "law" = true)
    (k14 : PySem.W.keepIn K (.ref f14) = true)
    (is_n : PySem.W.specialIn K (.builtin "object.__class__") "__get__" = some (some (.builtin "getset_descriptor.__get__")))
    (is_t : PySem.W.takesIn K (.builtin "object.__class__") = some true)
    (xd_MixError : PySem.W.hasDictIn K A_MixError = true)
    (xy_MixError : PySem.W.typeIn K (.ref A_MixError) = some (.type "type"))
    (xs_MixError : PySem.W.subIn K (.ref A_MixError) (.ref A_MixError) = some true)
    (xi_MixError_NoText : PySem.W.subIn K (.ref A_NoText) (.ref A_MixError) = some true)
    (xd_NoText : PySem.W.hasDictIn K A_NoText = true)
    (xy_NoText : PySem.W.typeIn K (.ref A_NoText) = some (.type "type"))
    (xs_NoText : PySem.W.subIn K (.ref A_NoText) (.ref A_NoText) = some true)
    (xi_NoText_NoText : PySem.W.subIn K (.ref A_NoText) (.ref A_NoText) = some true)
    (xd_NoNumber : PySem.W.hasDictIn K A_NoNumber = true)
    (xy_NoNumber : PySem.W.typeIn K (.ref A_NoNumber) = some (.type "type"))
    (xs_NoNumber : PySem.W.subIn K (.ref A_NoNumber) (.ref A_NoNumber) = some true)
    (xi_NoNumber_NoText : PySem.W.subIn K (.ref A_NoText) (.ref A_NoNumber) = some false)
    (xd_NoPart : PySem.W.hasDictIn K A_NoPart = true)
    (xy_NoPart : PySem.W.typeIn K (.ref A_NoPart) = some (.type "type"))
    (xs_NoPart : PySem.W.subIn K (.ref A_NoPart) (.ref A_NoPart) = some true)
    (xi_NoPart_NoText : PySem.W.subIn K (.ref A_NoText) (.ref A_NoPart) = some false)
    (xd_NoName : PySem.W.hasDictIn K A_NoName = true)
    (xy_NoName : PySem.W.typeIn K (.ref A_NoName) = some (.type "type"))
    (xs_NoName : PySem.W.subIn K (.ref A_NoName) (.ref A_NoName) = some true)
    (xi_NoName_NoText : PySem.W.subIn K (.ref A_NoText) (.ref A_NoName) = some false)
    (xd_Twice : PySem.W.hasDictIn K A_Twice = true)
    (xy_Twice : PySem.W.typeIn K (.ref A_Twice) = some (.type "type"))
    (xs_Twice : PySem.W.subIn K (.ref A_Twice) (.ref A_Twice) = some true)
    (xi_Twice_NoText : PySem.W.subIn K (.ref A_NoText) (.ref A_Twice) = some false)
    (xd_NoBus : PySem.W.hasDictIn K A_NoBus = true)
    (xy_NoBus : PySem.W.typeIn K (.ref A_NoBus) = some (.type "type"))
    (xs_NoBus : PySem.W.subIn K (.ref A_NoBus) (.ref A_NoBus) = some true)
    (xi_NoBus_NoText : PySem.W.subIn K (.ref A_NoText) (.ref A_NoBus) = some false)
    (xd_Ring : PySem.W.hasDictIn K A_Ring = true)
    (xy_Ring : PySem.W.typeIn K (.ref A_Ring) = some (.type "type"))
    (xs_Ring : PySem.W.subIn K (.ref A_Ring) (.ref A_Ring) = some true)
    (xi_Ring_NoText : PySem.W.subIn K (.ref A_NoText) (.ref A_Ring) = some false)
    (xd_NoBlock : PySem.W.hasDictIn K A_NoBlock = true)
    (xy_NoBlock : PySem.W.typeIn K (.ref A_NoBlock) = some (.type "type"))
    (xs_NoBlock : PySem.W.subIn K (.ref A_NoBlock) (.ref A_NoBlock) = some true)
    (xi_NoBlock_NoText : PySem.W.subIn K (.ref A_NoText) (.ref A_NoBlock) = some false)
    (xd_NoRow : PySem.W.hasDictIn K A_NoRow = true)
    (xy_NoRow : PySem.W.typeIn K (.ref A_NoRow) = some (.type "type"))
    (xs_NoRow : PySem.W.subIn K (.ref A_NoRow) (.ref A_NoRow) = some true)
    (xi_NoRow_NoText : PySem.W.subIn K (.ref A_NoText) (.ref A_NoRow) = some false)
    (xd_NoDeed : PySem.W.hasDictIn K A_NoDeed = true)
    (xy_NoDeed : PySem.W.typeIn K (.ref A_NoDeed) = some (.type "type"))
    (xs_NoDeed : PySem.W.subIn K (.ref A_NoDeed) (.ref A_NoDeed) = some true)
    (xi_NoDeed_NoText : PySem.W.subIn K (.ref A_NoText) (.ref A_NoDeed) = some false)
    (xc_MixError : PySem.W.subIn K (.ref A_MixError) (.type "BaseException") = some true)
    (xn_NoText : PySem.W.subIn K (.type "NoneType") (.ref A_NoText) = some false)
    (xn_NoNumber : PySem.W.subIn K (.type "NoneType") (.ref A_NoNumber) = some false)
    (xn_NoPart : PySem.W.subIn K (.type "NoneType") (.ref A_NoPart) = some false)
    (xn_NoName : PySem.W.subIn K (.type "NoneType") (.ref A_NoName) = some false)
    (xn_Twice : PySem.W.subIn K (.type "NoneType") (.ref A_Twice) = some false)
    (xn_NoBus : PySem.W.subIn K (.type "NoneType") (.ref A_NoBus) = some false)
    (xn_Ring : PySem.W.subIn K (.type "NoneType") (.ref A_Ring) = some false)
    (xn_NoBlock : PySem.W.subIn K (.type "NoneType") (.ref A_NoBlock) = some false)
    (xn_NoRow : PySem.W.subIn K (.type "NoneType") (.ref A_NoRow) = some false)
    (xn_NoDeed : PySem.W.subIn K (.type "NoneType") (.ref A_NoDeed) = some false)
    (xv_ValueError_NoText : PySem.W.subIn K (.ref A_NoText) (.type "ValueError") = some true)
    (eg_NoText : PySem.W.findIn K (.ref A_NoText) "__getattribute__" = some (some (.builtin "BaseException.__getattribute__")))
    (ek_NoText : PySem.W.findIn K (.ref A_NoText) "__getattr__" = some none)
    (es_NoText : PySem.W.subIn K (.ref A_NoText) (.type "BaseException") = some true)
    (ed_NoText : PySem.W.hasDictIn K A_NoText = true)
    (ea_NoText : PySem.W.findIn K (.ref A_NoText) "__class__" = some (some (.builtin "object.__class__")))
    (em_NoText : PySem.W.mroIn K A_NoText (.type "object") = some true)
    (xp_NoText : PySem.W.excIn K A_NoText [.type "ValueError", .type "Exception", .type "BaseException", .type "object"] "ValueError.__new__" = true)
    (xk_NoText : PySem.W.keepIn K (.ref A_NoText) = true)
    (xb_NoText : PySem.W.subIn K (.ref A_NoText) (.type "BaseException") = some true)
    (xt_NoText : PySem.W.typeIn K (.ref A_NoText) = some (.type "type"))
    (z_len : PySem.W.nsIn K mainGlobals "len" = some none)
    (z_range : PySem.W.nsIn K mainGlobals "range" = some none)
    (z_isinstance : PySem.W.nsIn K mainGlobals "isinstance" = some none)
    (z_str : PySem.W.nsIn K mainGlobals "str" = some none)
    (z_ValueError : PySem.W.nsIn K mainGlobals "ValueError" = some none)
    (z_tuple : PySem.W.nsIn K mainGlobals "tuple" = some none)
    (z_abs : PySem.W.nsIn K mainGlobals "abs" = some none)
    (z_int : PySem.W.nsIn K mainGlobals "int" = some none)
    (z_bool : PySem.W.nsIn K mainGlobals "bool" = some none)
    {t_FIGURES : Tok}
    (y_FIGURES : PySem.W.nsIn K mainGlobals "FIGURES" = some (some (.str "0123456789" t_FIGURES)))
    : ∃ fd : FuncData, (∀ (s : Shared) (v : Value), PySem.BindsTo s fd ⟨[v], []⟩ [("_law_script", v)]) ∧ ∀ base : Heap, K.In base → base.Ns mainGlobals mg → FnOk l.prog w K mg base (L2.CX l.prog w) 5 fa fd ["_law_script"] (spM ⟨K, ctOf K⟩ (fnLaw ms_law N_law.length)) := by
  have e := hfa.symm.trans (PySem.W.mg_of X G a14)
  cases e
  have e_NoText : ctOf K "NoText" = A_NoText := ctOf_eq cA_NoText
  have e_MixError : ctOf K "MixError" = A_MixError := ctOf_eq cA_MixError
  have e_NoNumber : ctOf K "NoNumber" = A_NoNumber := ctOf_eq cA_NoNumber
  have e_NoPart : ctOf K "NoPart" = A_NoPart := ctOf_eq cA_NoPart
  have e_NoName : ctOf K "NoName" = A_NoName := ctOf_eq cA_NoName
  have e_Twice : ctOf K "Twice" = A_Twice := ctOf_eq cA_Twice
  have e_NoBus : ctOf K "NoBus" = A_NoBus := ctOf_eq cA_NoBus
  have e_Ring : ctOf K "Ring" = A_Ring := ctOf_eq cA_Ring
  have e_NoBlock : ctOf K "NoBlock" = A_NoBlock := ctOf_eq cA_NoBlock
  have e_NoRow : ctOf K "NoRow" = A_NoRow := ctOf_eq cA_NoRow
  have e_NoDeed : ctOf K "NoDeed" = A_NoDeed := ctOf_eq cA_NoDeed
  have T : Txt (ctOf K) K mg := ⟨PySem.W.mg_none_of X G z_len, PySem.W.mg_none_of X G z_range, PySem.W.mg_none_of X G z_isinstance, PySem.W.mg_none_of X G z_str, PySem.W.mg_none_of X G z_ValueError, PySem.W.mg_none_of X G z_tuple, PySem.W.mg_none_of X G z_abs, PySem.W.mg_none_of X G z_int, PySem.W.mg_none_of X G z_bool, ⟨_, PySem.W.mg_of X G y_FIGURES⟩, rai_mk e_NoText (gm_mk X G cA_NoText) xp_NoText xk_NoText xb_NoText xt_NoText, ⟨gm_mk X G cA_MixError, (catCons e_MixError e_NoText xc_MixError xd_MixError xy_MixError xi_MixError_NoText catNil)⟩, ⟨(errCons e_NoText ⟨eg_NoText, ek_NoText, es_NoText, ed_NoText, ea_NoText, is_n, is_t, em_NoText⟩ (by rw [e_NoText]; exact (kit_sub xd_NoText xy_NoText xs_NoText xi_NoText_NoText)) errNil), ebCons (by rw [e_NoText]; exact kit_sub xd_NoText xy_NoText xs_NoText xn_NoText) ebNil⟩, gm_mk X G cA_NoText, ⟨(errCons e_NoText ⟨eg_NoText, ek_NoText, es_NoText, ed_NoText, ea_NoText, is_n, is_t, em_NoText⟩ (kit_subT (by decide +kernel) xv_ValueError_NoText) errNil), ebCons (kit_ty (by decide +kernel)) ebNil⟩, ⟨(errCons e_NoText ⟨eg_NoText, ek_NoText, es_NoText, ed_NoText, ea_NoText, is_n, is_t, em_NoText⟩ (by rw [e_NoNumber]; exact (kit_sub xd_NoNumber xy_NoNumber xs_NoNumber xi_NoNumber_NoText)) errNil), ebCons (by rw [e_NoNumber]; exact kit_sub xd_NoNumber xy_NoNumber xs_NoNumber xn_NoNumber) ebNil⟩, gm_mk X G cA_NoNumber, ⟨(errCons e_NoText ⟨eg_NoText, ek_NoText, es_NoText, ed_NoText, ea_NoText, is_n, is_t, em_NoText⟩ (by rw [e_NoPart]; exact (kit_sub xd_NoPart xy_NoPart xs_NoPart xi_NoPart_NoText)) errNil), ebCons (by rw [e_NoPart]; exact kit_sub xd_NoPart xy_NoPart xs_NoPart xn_NoPart) ebNil⟩, gm_mk X G cA_NoPart, ⟨(errCons e_NoText ⟨eg_NoText, ek_NoText, es_NoText, ed_NoText, ea_NoText, is_n, is_t, em_NoText⟩ (by rw [e_NoName]; exact (kit_sub xd_NoName xy_NoName xs_NoName xi_NoName_NoText)) errNil), ebCons (by rw [e_NoName]; exact kit_sub xd_NoName xy_NoName xs_NoName xn_NoName) ebNil⟩, gm_mk X G cA_NoName, ⟨(errCons e_NoText ⟨eg_NoText, ek_NoText, es_NoText, ed_NoText, ea_NoText, is_n, is_t, em_NoText⟩ (by rw [e_Twice]; exact (kit_sub xd_Twice xy_Twice xs_Twice xi_Twice_NoText)) errNil), ebCons (by rw [e_Twice]; exact kit_sub xd_Twice xy_Twice xs_Twice xn_Twice) ebNil⟩, gm_mk X G cA_Twice, ⟨(errCons e_NoText ⟨eg_NoText, ek_NoText, es_NoText, ed_NoText, ea_NoText, is_n, is_t, em_NoText⟩ (by rw [e_NoBus]; exact (kit_sub xd_NoBus xy_NoBus xs_NoBus xi_NoBus_NoText)) errNil), ebCons (by rw [e_NoBus]; exact kit_sub xd_NoBus xy_NoBus xs_NoBus xn_NoBus) ebNil⟩, gm_mk X G cA_NoBus, ⟨(errCons e_NoText ⟨eg_NoText, ek_NoText, es_NoText, ed_NoText, ea_NoText, is_n, is_t, em_NoText⟩ (by rw [e_Ring]; exact (kit_sub xd_Ring xy_Ring xs_Ring xi_Ring_NoText)) errNil), ebCons (by rw [e_Ring]; exact kit_sub xd_Ring xy_Ring xs_Ring xn_Ring) ebNil⟩, gm_mk X G cA_Ring, ⟨(errCons e_NoText ⟨eg_NoText, ek_NoText, es_NoText, ed_NoText, ea_NoText, is_n, is_t, em_NoText⟩ (by rw [e_NoBlock]; exact (kit_sub xd_NoBlock xy_NoBlock xs_NoBlock xi_NoBlock_NoText)) errNil), ebCons (by rw [e_NoBlock]; exact kit_sub xd_NoBlock xy_NoBlock xs_NoBlock xn_NoBlock) ebNil⟩, gm_mk X G cA_NoBlock, ⟨(errCons e_NoText ⟨eg_NoText, ek_NoText, es_NoText, ed_NoText, ea_NoText, is_n, is_t, em_NoText⟩ (by rw [e_NoRow]; exact (kit_sub xd_NoRow xy_NoRow xs_NoRow xi_NoRow_NoText)) errNil), ebCons (by rw [e_NoRow]; exact kit_sub xd_NoRow xy_NoRow xs_NoRow xn_NoRow) ebNil⟩, gm_mk X G cA_NoRow, ⟨(errCons e_NoText ⟨eg_NoText, ek_NoText, es_NoText, ed_NoText, ea_NoText, is_n, is_t, em_NoText⟩ (by rw [e_NoDeed]; exact (kit_sub xd_NoDeed xy_NoDeed xs_NoDeed xi_NoDeed_NoText)) errNil), ebCons (by rw [e_NoDeed]; exact kit_sub xd_NoDeed xy_NoDeed xs_NoDeed xn_NoDeed) ebNil⟩, gm_mk X G cA_NoDeed⟩
  have F0 := fun_mk (st := s_divisor) l0 c0 k0
  have F1 := fun_mk (st := s_lowest) l1 c1 k1
  have F2 := fun_mk (st := s_fraction_text) l2 c2 k2
  have F3 := fun_mk (st := s_read_whole) l3 c3 k3
  have F4 := fun_mk (st := s_read_fraction) l4 c4 k4
  have F5 := fun_mk (st := s__law_cell_at) l5 c5 k5
  have F6 := fun_mk (st := s__law_whole) l6 c6 k6
  have F7 := fun_mk (st := s__law_divisor) l7 c7 k7
  have F8 := fun_mk (st := s__law_fraction) l8 c8 k8
  have F9 := fun_mk (st := s__law_number) l9 c9 k9
  have F10 := fun_mk (st := s__law_due) l10 c10 k10
  have F11 := fun_mk (st := s__law_spoilt) l11 c11 k11
  have F12 := fun_mk (st := s__law_other) l12 c12 k12
  have F13 := fun_mk (st := s__law_good) l13 c13 k13
  have F14 := fun_mk (st := s_law) l14 c14 k14
  refine ⟨PySem.W.fnOf "law" "law" (defArgs s_law) (defBody s_law) (defScope s_law) .none kV14 dc14 pm14 an14 cd14 ct14, fun s v => .of_eq rfl, fun base _ _ => ?_⟩
  have I_divisor : FnI (ctOf K) l.prog w K mg base "divisor" 1 mf_divisor := ⟨f0, _, _, ok_divisor T  F0, PySem.W.mg_of X G a0, k0, F0.binds (ps := ["one", "other"]) fun _ _ _ _ _ _ us hl => match us, hl with | [_, _], _ => rfl⟩
  have I_lowest : FnI (ctOf K) l.prog w K mg base "lowest" 2 mf_lowest := ⟨f1, _, _, ok_lowest T I_divisor F1, PySem.W.mg_of X G a1, k1, F1.binds (ps := ["top", "bottom"]) fun _ _ _ _ _ _ us hl => match us, hl with | [_, _], _ => rfl⟩
  have I_fraction_text : FnI (ctOf K) l.prog w K mg base "fraction_text" 1 mf_fraction_text := ⟨f2, _, _, ok_fraction_text T  F2, PySem.W.mg_of X G a2, k2, F2.binds (ps := ["one"]) fun _ _ _ _ _ _ us hl => match us, hl with | [_], _ => rfl⟩
  have I_read_whole : FnI (ctOf K) l.prog w K mg base "read_whole" 1 mf_read_whole := ⟨f3, _, _, ok_read_whole T  F3, PySem.W.mg_of X G a3, k3, F3.binds (ps := ["text"]) fun _ _ _ _ _ _ us hl => match us, hl with | [_], _ => rfl⟩
  have I_read_fraction : FnI (ctOf K) l.prog w K mg base "read_fraction" 3 mf_read_fraction := ⟨f4, _, _, ok_read_fraction T I_read_whole I_fraction_text I_lowest F4, PySem.W.mg_of X G a4, k4, F4.binds (ps := ["text"]) fun _ _ _ _ _ _ us hl => match us, hl with | [_], _ => rfl⟩
  have I__law_cell_at : FnI (ctOf K) l.prog w K mg base "_law_cell_at" 1 mf__law_cell_at := ⟨f5, _, _, ok__law_cell_at T  F5, PySem.W.mg_of X G a5, k5, F5.binds (ps := ["_law_script", "_law_k"]) fun _ _ _ _ _ _ us hl => match us, hl with | [_, _], _ => rfl⟩
  have I__law_whole : FnI (ctOf K) l.prog w K mg base "_law_whole" 1 mf__law_whole := ⟨f6, _, _, ok__law_whole T  F6, PySem.W.mg_of X G a6, k6, F6.binds (ps := ["_law_found"]) fun _ _ _ _ _ _ us hl => match us, hl with | [_], _ => rfl⟩
  have I__law_divisor : FnI (ctOf K) l.prog w K mg base "_law_divisor" 1 mf__law_divisor := ⟨f7, _, _, ok__law_divisor T  F7, PySem.W.mg_of X G a7, k7, F7.binds (ps := ["_law_one", "_law_other_here"]) fun _ _ _ _ _ _ us hl => match us, hl with | [_, _], _ => rfl⟩
  have I__law_fraction : FnI (ctOf K) l.prog w K mg base "_law_fraction" 2 mf__law_fraction := ⟨f8, _, _, ok__law_fraction T I__law_divisor F8, PySem.W.mg_of X G a8, k8, F8.binds (ps := ["_law_cell", "_law_other_here"]) fun _ _ _ _ _ _ us hl => match us, hl with | [_, _], _ => rfl⟩
  have I__law_number : FnI (ctOf K) l.prog w K mg base "_law_number" 1 mf__law_number := ⟨f9, _, _, ok__law_number T  F9, PySem.W.mg_of X G a9, k9, F9.binds (ps := ["_law_text"]) fun _ _ _ _ _ _ us hl => match us, hl with | [_], _ => rfl⟩
  have I__law_due : FnI (ctOf K) l.prog w K mg base "_law_due" 2 mf__law_due := ⟨f10, _, _, ok__law_due T I__law_number I__law_divisor F10, PySem.W.mg_of X G a10, k10, F10.binds (ps := ["_law_text"]) fun _ _ _ _ _ _ us hl => match us, hl with | [_], _ => rfl⟩
  have I__law_spoilt : FnI (ctOf K) l.prog w K mg base "_law_spoilt" 1 mf__law_spoilt := ⟨f11, _, _, ok__law_spoilt T  F11, PySem.W.mg_of X G a11, k11, F11.binds (ps := ["_law_text", "_law_one", "_law_cell"]) fun _ _ _ _ _ _ us hl => match us, hl with | [_, _, _], _ => rfl⟩
  have I__law_other : FnI (ctOf K) l.prog w K mg base "_law_other" 1 mf__law_other := ⟨f12, _, _, ok__law_other T  F12, PySem.W.mg_of X G a12, k12, F12.binds (ps := ["_law_error"]) fun _ _ _ _ _ _ us hl => match us, hl with | [_], _ => rfl⟩
  have IH__law_other : FnIC (ctOf K) l.prog w K mg base "_law_other" 1 mf__law_other := ⟨f12, _, _, okH__law_other T  F12, PySem.W.mg_of X G a12, k12, F12.binds (ps := ["_law_error"]) fun _ _ _ _ _ _ us hl => match us, hl with | [_], _ => rfl⟩
  have I__law_good : FnI (ctOf K) l.prog w K mg base "_law_good" 4 mf__law_good := ⟨f13, _, _, ok__law_good T I_read_fraction I__law_other I__law_due I__law_whole IH__law_other F13, PySem.W.mg_of X G a13, k13, F13.binds (ps := ["_law_text"]) fun _ _ _ _ _ _ us hl => match us, hl with | [_], _ => rfl⟩
  exact ok_law T I__law_cell_at I__law_fraction I_fraction_text I__law_good I__law_spoilt F14
end Lk04
open PySem PySem.W PyProof.Rows
set_option maxRecDepth 100000 in
set_option maxHeartbeats 0 in
theorem PySem.Challenge.cw_mixbench_k04_texts_of_fractions_holds : PySem.Challenge.rw_mixbench_k04_texts_of_fractions.Holds := by
  w_on; o_law; k_head; (case hw => w_witness2)
  k_fill
  refine M.walk_M (b := Lk04.ms_law) (n := Lk04.N_law.length) (fun ns h1 h2 => Lk04.run_law ns h1 fun z hz => M.script_log2 (h2 z hz)) (l := PySem.Challenge.rw_mixbench_k04_texts_of_fractions) (k := 5) (x := "_law_script") rfl rfl ⟨rfl, by decide, by decide⟩ (fun w h Y => PySem.W.kIn_of Y) ?F
  case F =>
    intro w mg fa h KX G hmg
    refine' Lk04.all_mk (l := PySem.Challenge.rw_mixbench_k04_texts_of_fractions) KX G hmg ?cA_NoText ?cA_MixError ?cA_NoNumber ?cA_NoPart ?cA_NoName ?cA_Twice ?cA_NoBus ?cA_Ring ?cA_NoBlock ?cA_NoRow ?cA_NoDeed ?a0 ?l0 ?c0 ?k0 ?a1 ?l1 ?c1 ?k1 ?a2 ?l2 ?c2 ?k2 ?a3 ?l3 ?c3 ?k3 ?a4 ?l4 ?c4 ?k4 ?a5 ?l5 ?c5 ?k5 ?a6 ?l6 ?c6 ?k6 ?a7 ?l7 ?c7 ?k7 ?a8 ?l8 ?c8 ?k8 ?a9 ?l9 ?c9 ?k9 ?a10 ?l10 ?c10 ?k10 ?a11 ?l11 ?c11 ?k11 ?a12 ?l12 ?c12 ?k12 ?a13 ?l13 ?c13 ?k13 ?a14 ?l14 ?c14 ?k14 ?is_n ?is_t ?xd_MixError ?xy_MixError ?xs_MixError ?xi_MixError_NoText ?xd_NoText ?xy_NoText ?xs_NoText ?xi_NoText_NoText ?xd_NoNumber ?xy_NoNumber ?xs_NoNumber ?xi_NoNumber_NoText ?xd_NoPart ?xy_NoPart ?xs_NoPart ?xi_NoPart_NoText ?xd_NoName ?xy_NoName ?xs_NoName ?xi_NoName_NoText ?xd_Twice ?xy_Twice ?xs_Twice ?xi_Twice_NoText ?xd_NoBus ?xy_NoBus ?xs_NoBus ?xi_NoBus_NoText ?xd_Ring ?xy_Ring ?xs_Ring ?xi_Ring_NoText ?xd_NoBlock ?xy_NoBlock ?xs_NoBlock ?xi_NoBlock_NoText ?xd_NoRow ?xy_NoRow ?xs_NoRow ?xi_NoRow_NoText ?xd_NoDeed ?xy_NoDeed ?xs_NoDeed ?xi_NoDeed_NoText ?xc_MixError ?xn_NoText ?xn_NoNumber ?xn_NoPart ?xn_NoName ?xn_Twice ?xn_NoBus ?xn_Ring ?xn_NoBlock ?xn_NoRow ?xn_NoDeed ?xv_ValueError_NoText ?eg_NoText ?ek_NoText ?es_NoText ?ed_NoText ?ea_NoText ?em_NoText ?xp_NoText ?xk_NoText ?xb_NoText ?xt_NoText ?z_len ?z_range ?z_isinstance ?z_str ?z_ValueError ?z_tuple ?z_abs ?z_int ?z_bool ?y_FIGURES
    (case cA_NoText => k_is)
    (case cA_MixError => k_is)
    (case cA_NoNumber => k_is)
    (case cA_NoPart => k_is)
    (case cA_NoName => k_is)
    (case cA_Twice => k_is)
    (case cA_NoBus => k_is)
    (case cA_Ring => k_is)
    (case cA_NoBlock => k_is)
    (case cA_NoRow => k_is)
    (case cA_NoDeed => k_is)
    (case a0 => k_is)
    (case l0 => k_is)
    (case c0 => k_is)
    (case k0 => k_is)
    (case a1 => k_is)
    (case l1 => k_is)
    (case c1 => k_is)
    (case k1 => k_is)
    (case a2 => k_is)
    (case l2 => k_is)
    (case c2 => k_is)
    (case k2 => k_is)
    (case a3 => k_is)
    (case l3 => k_is)
    (case c3 => k_is)
    (case k3 => k_is)
    (case a4 => k_is)
    (case l4 => k_is)
    (case c4 => k_is)
    (case k4 => k_is)
    (case a5 => k_is)
    (case l5 => k_is)
    (case c5 => k_is)
    (case k5 => k_is)
    (case a6 => k_is)
    (case l6 => k_is)
    (case c6 => k_is)
    (case k6 => k_is)
    (case a7 => k_is)
    (case l7 => k_is)
    (case c7 => k_is)
    (case k7 => k_is)
    (case a8 => k_is)
    (case l8 => k_is)
    (case c8 => k_is)
    (case k8 => k_is)
    (case a9 => k_is)
    (case l9 => k_is)
    (case c9 => k_is)
    (case k9 => k_is)
    (case a10 => k_is)
    (case l10 => k_is)
    (case c10 => k_is)
    (case k10 => k_is)
    (case a11 => k_is)
    (case l11 => k_is)
    (case c11 => k_is)
    (case k11 => k_is)
    (case a12 => k_is)
    (case l12 => k_is)
    (case c12 => k_is)
    (case k12 => k_is)
    (case a13 => k_is)
    (case l13 => k_is)
    (case c13 => k_is)
    (case k13 => k_is)
    (case a14 => k_is)
    (case l14 => k_is)
    (case c14 => k_is)
    (case k14 => k_is)
    (case is_n => k_is)
    (case is_t => k_is)
    (case xd_MixError => k_is)
    (case xy_MixError => k_is)
    (case xs_MixError => k_is)
    (case xi_MixError_NoText => k_is)
    (case xd_NoText => k_is)
    (case xy_NoText => k_is)
    (case xs_NoText => k_is)
    (case xi_NoText_NoText => k_is)
    (case xd_NoNumber => k_is)
    (case xy_NoNumber => k_is)
    (case xs_NoNumber => k_is)
    (case xi_NoNumber_NoText => k_is)
    (case xd_NoPart => k_is)
    (case xy_NoPart => k_is)
    (case xs_NoPart => k_is)
    (case xi_NoPart_NoText => k_is)
    (case xd_NoName => k_is)
    (case xy_NoName => k_is)
    (case xs_NoName => k_is)
    (case xi_NoName_NoText => k_is)
    (case xd_Twice => k_is)
    (case xy_Twice => k_is)
    (case xs_Twice => k_is)
    (case xi_Twice_NoText => k_is)
    (case xd_NoBus => k_is)
    (case xy_NoBus => k_is)
    (case xs_NoBus => k_is)
    (case xi_NoBus_NoText => k_is)
    (case xd_Ring => k_is)
    (case xy_Ring => k_is)
    (case xs_Ring => k_is)
    (case xi_Ring_NoText => k_is)
    (case xd_NoBlock => k_is)
    (case xy_NoBlock => k_is)
    (case xs_NoBlock => k_is)
    (case xi_NoBlock_NoText => k_is)
    (case xd_NoRow => k_is)
    (case xy_NoRow => k_is)
    (case xs_NoRow => k_is)
    (case xi_NoRow_NoText => k_is)
    (case xd_NoDeed => k_is)
    (case xy_NoDeed => k_is)
    (case xs_NoDeed => k_is)
    (case xi_NoDeed_NoText => k_is)
    (case xc_MixError => k_is)
    (case xn_NoText => k_is)
    (case xn_NoNumber => k_is)
    (case xn_NoPart => k_is)
    (case xn_NoName => k_is)
    (case xn_Twice => k_is)
    (case xn_NoBus => k_is)
    (case xn_Ring => k_is)
    (case xn_NoBlock => k_is)
    (case xn_NoRow => k_is)
    (case xn_NoDeed => k_is)
    (case xv_ValueError_NoText => k_is)
    (case eg_NoText => k_is)
    (case ek_NoText => k_is)
    (case es_NoText => k_is)
    (case ed_NoText => k_is)
    (case ea_NoText => k_is)
    (case em_NoText => k_is)
    (case xp_NoText => k_exc)
    (case xk_NoText => k_is)
    (case xb_NoText => k_is)
    (case xt_NoText => k_is)
    (case z_len => k_is)
    (case z_range => k_is)
    (case z_isinstance => k_is)
    (case z_str => k_is)
    (case z_ValueError => k_is)
    (case z_tuple => k_is)
    (case z_abs => k_is)
    (case z_int => k_is)
    (case z_bool => k_is)
    (case y_FIGURES => k_is)
