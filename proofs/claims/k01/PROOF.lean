import PyProof.Rows.All
import HandS.ForMost
import HandS.ForExc
import HandS.Defaults
import HandS.Property
import HandS.Wide
import HandS.Lambda
import HandS.Deep
import HandS.TupAny
import HandS.IsInst
import HandS.Comp
import HandS.Iter
import PyProof.Rows.IntMath
import PyProof.NoPylong
import HandS.Style
import HandS.CallSlots
import HandS.Ends
import HandS.HeadEnd
import HandS.TryOnly
import HandS.Dict
import PyProof.ReprReads
import PyProof.CallFns
import HandS.HeadNt
import HandS.ExcIs
import HandS.ExcField
import HandS.TryMany
import HandS.HotCalls
import HandS.ExcInit
import KE.KExcSuper
import PyProof.InstEq
import OpenK.AllK
import HandS.Zip
import KE.DataMinMax
import PyProof.MaxThree
import HandS.Small
import HandS.SortInts
import PyProof.EnumMake
import KE.GoesMore
import PyProof.Draws
import HandS.FStr
import KE.KSortTupG
import KE.KCallOwn
import HandS.Head0
import HandS.Head1
import HandS.Head2
import HandS.Conv
import HandS.TupSets
import HandS.SortKw
import KE.SortKeyHeap
import Wide.All
import Wide.FinOn
import KE.KStateDown
import Lean
import HandS.HeadHook1
import HandS.HeadHook2
import PySem.Challenge.RW_spirowheels_k01_constants_and_errors
set_option Elab.async false
set_option linter.all false
set_option maxRecDepth 100000
set_option maxHeartbeats 4000000
namespace PU
open PySem PySem.Spec PyProof.Rows L2

/-- plain data -/
inductive D where
  | non | bl (b : Bool) | int (i : Int) | str (x : Str)
  | tup (xs : List D) | lst (xs : List D)
  /-- a written tuple of the top; a list that is only read (the script) -/
  | ktup (xs : List D) | klst (xs : List D)
  | dct (ks vs : List D)
  | ins (C : Nat) (fs : List Nat) (vs : List D)
  /-- a class of the text's own, a built-in one -/
  | cls (C : Nat) | ty (n : String)
  /-- an error of a class of the text's own -/
  | exn (C : Nat) (fs : List Nat) (vs : List D)
/-- what a name may hold: plain data, or a thing that is still being changed -/
inductive W where | d (x : D) | cell (k : Nat)
inductive Cell where
  | lst (xs : List D)
  | dct (ks vs : List D)
  /-- a dict with tuples as keys -/
  | dcT (ks vs : List D)
  | ins (C : Nat) (fs : List Nat) (vs : List W)
  | dead
abbrev Mem := List Cell
abbrev Env := List (Option W)
structure Ex where
  C : Nat
  fs : List Nat
  vs : List D
inductive R (α : Type) where
  | stuck
  | ok (a : α) (M : Mem)
  | exc (x : Ex) (M : Mem)
def R.bind {α β : Type} (r : R α) (k : α → Mem → R β) : R β := match r with
  | .stuck => .stuck
  | .ok a M => k a M
  | .exc x M => .exc x M
@[simp] theorem R.bind_ok {α β : Type} (a : α) (M : Mem) (k : α → Mem → R β) : (R.ok a M).bind k = k a M := rfl
@[simp] theorem R.bind_exc {α β : Type} (x : Ex) (M : Mem) (k : α → Mem → R β) : (R.exc x M : R α).bind k = .exc x M := rfl
@[simp] theorem R.bind_stuck {α β : Type} (k : α → Mem → R β) : (R.stuck : R α).bind k = .stuck := rfl

/-- the written part, the classes' addresses, the attributes' names -/
structure Glo where
  K : PySem.W.Frag
  cls : Nat → Addr
  an : Nat → Str
  /-- the classes that are there -/
  has : Nat → Prop
  /-- the tables of code objects (for lambdas), and the names of what they hold -/
  T : List (Addr × Str) := []
  /-- the classes of errors that are there -/
  err : Nat → Prop := fun _ => False

def keyD : D → Option Key
  | .int i => some (.inl i)
  | .str x => some (.inr x)
  | _ => none
def keysD : List D → Option (List Key)
  | [] => some []
  | d :: r => match keyD d, keysD r with
    | some k, some ks => some (k :: ks)
    | _, _ => none
def keyT : D → Option (List Key)
  | .tup ds => keysD ds
  | _ => none

/-- the object at a is just oe -/
def ExP (a : Addr) (oe : Obj) : HO := .ext fun h => h.get? a = some oe
mutual
def Rep (G : Glo) (F : Hp) : D → V → Prop
  | .non, v => v = .non
  | .bl b, v => v = .bl b
  | .int i, v => v = .int i
  | .str x, v => v = .str x
  | .tup ds, v => ∃ a vs, v = .ref a ∧ F a = some (.tup vs) ∧ RepL G F ds vs
  | .lst ds, v => ∃ a vs, v = .ref a ∧ F a = some (.lst vs) ∧ RepL G F ds vs
  | .ktup ds, v => ∃ a vs, v = .ref a ∧ SqT G.K (fun _ => none) a vs ∧ RepL G F ds vs
  | .klst ds, v => ∃ a vs, v = .ref a ∧ ((∃ o, F a = some (.frz o (.lst vs))) ∨ SqL G.K (fun _ => none) a vs) ∧ RepL G F ds vs
  | .dct ks ds, v => ∃ a vs, v = .ref a ∧ RepL G F ds vs ∧
      ((∃ ps : List (Key × V), Rd F a (.dK ps) ∧ ks.map keyD = ps.map (fun p => some p.1) ∧ ps.map (·.2) = vs) ∨
       (∃ ps : List (List Key × V), Rd F a (.dT ps) ∧ ks.map keyT = ps.map (fun p => some p.1) ∧ ps.map (·.2) = vs))
  | .ins C fs ds, v => G.has C ∧ ∃ a dx ps, v = .ref a ∧ F a = some (.ins (G.cls C) dx ps) ∧ ps.map (·.1) = fs.map G.an ∧ RepL G F ds (ps.map (·.2))
  | .cls C, v => G.has C ∧ v = .ref (G.cls C)
  | .ty n, v => v = .ty n
  | .exn C fs ds, v => G.err C ∧ ∃ a d oe, v = .ref a ∧ F a = some (ExP a oe) ∧ Zc (.ref (G.cls C)) d oe ∧ (∃ us, oe.data = .fields us) ∧
      ((d = none ∧ fs = [] ∧ ds = []) ∨ ∃ dd ps, d = some dd ∧ F dd = some (.xd ps) ∧ ps.map (·.1) = fs.map G.an ∧ RepL G F ds (ps.map (·.2)))
def RepL (G : Glo) (F : Hp) : List D → List V → Prop
  | [], vs => vs = []
  | d :: ds, vs => ∃ v r, vs = v :: r ∧ Rep G F d v ∧ RepL G F ds r
end

/-- what is known goes on being known -/
structure LE (F F' : Hp) : Prop where
  lst : ∀ a xs, F a = some (.lst xs) → F' a = some (.lst xs)
  tup : ∀ a xs, F a = some (.tup xs) → F' a = some (.tup xs)
  frz : ∀ a o u, F a = some (.frz o u) → F' a = some (.frz o u)
  dK : ∀ a ps, Rd F a (.dK ps) → Rd F' a (.dK ps)
  dT : ∀ a ps, Rd F a (.dT ps) → Rd F' a (.dT ps)
  ins : ∀ a C dx ps, F a = some (.ins C dx ps) → F' a = some (.ins C dx ps)
  xd : ∀ a ps, F a = some (.xd ps) → F' a = some (.xd ps)
  ext : ∀ a φ, F a = some (.ext φ) → F' a = some (.ext φ)
theorem LE.refl (F : Hp) : LE F F := ⟨fun _ _ h => h, fun _ _ h => h, fun _ _ _ h => h, fun _ _ h => h, fun _ _ h => h, fun _ _ _ _ h => h, fun _ _ h => h, fun _ _ h => h⟩
theorem LE.trans {F F1 F2 : Hp} (a : LE F F1) (b : LE F1 F2) : LE F F2 :=
  ⟨fun x y h => b.lst x y (a.lst x y h), fun x y h => b.tup x y (a.tup x y h), fun x y z h => b.frz x y z (a.frz x y z h), fun x y h => b.dK x y (a.dK x y h), fun x y h => b.dT x y (a.dT x y h), fun x y z u h => b.ins x y z u (a.ins x y z u h), fun x y h => b.xd x y (a.xd x y h), fun x y h => b.ext x y (a.ext x y h)⟩
theorem LE.of_sub {F F' : Hp} (h : ∀ a o, F a = some o → F' a = some o) : LE F F' := by
  have r : ∀ a u, Rd F a u → Rd F' a u := fun a u q => q.elim (fun q => .inl (h _ _ q)) fun ⟨o, q⟩ => .inr ⟨o, h _ _ q⟩
  exact ⟨fun a _ => h a _, fun a _ => h a _, fun a _ _ => h a _, fun a _ => r a _, fun a _ => r a _, fun a _ _ _ => h a _, fun a _ => h a _, fun a _ => h a _⟩
mutual
theorem Rep.mono {G : Glo} {F F' : Hp} (l : LE F F') : ∀ {d : D} {v : V}, Rep G F d v → Rep G F' d v
  | .non, _, h => by simpa only [Rep] using h
  | .bl _, _, h => by simpa only [Rep] using h
  | .int _, _, h => by simpa only [Rep] using h
  | .str _, _, h => by simpa only [Rep] using h
  | .cls _, _, h => by simpa only [Rep] using h
  | .ty _, _, h => by simpa only [Rep] using h
  | .exn C fs ds, _, h => by
    simp only [Rep] at h ⊢
    obtain ⟨hc, a, d, oe, e, h1, h2, h3, h4⟩ := h
    refine ⟨hc, a, d, oe, e, l.ext _ _ h1, h2, h3, ?_⟩
    rcases h4 with h4 | ⟨dd, ps, q1, q2, q3, q4⟩
    · exact .inl h4
    · exact .inr ⟨dd, ps, q1, l.xd _ _ q2, q3, RepL.mono l q4⟩
  | .tup ds, _, h => by
    simp only [Rep] at h ⊢
    obtain ⟨a, vs, e, h1, h2⟩ := h
    exact ⟨a, vs, e, l.tup _ _ h1, RepL.mono l h2⟩
  | .lst ds, _, h => by
    simp only [Rep] at h ⊢
    obtain ⟨a, vs, e, h1, h2⟩ := h
    exact ⟨a, vs, e, l.lst _ _ h1, RepL.mono l h2⟩
  | .ktup ds, _, h => by
    simp only [Rep] at h ⊢
    obtain ⟨a, vs, e, h1, h2⟩ := h
    exact ⟨a, vs, e, h1, RepL.mono l h2⟩
  | .klst ds, _, h => by
    simp only [Rep] at h ⊢
    obtain ⟨a, vs, e, h1, h2⟩ := h
    exact ⟨a, vs, e, h1.imp (fun ⟨o, z⟩ => ⟨o, l.frz _ _ _ z⟩) id, RepL.mono l h2⟩
  | .dct ks ds, _, h => by
    simp only [Rep] at h ⊢
    obtain ⟨a, vs, e, h1, h2⟩ := h
    refine ⟨a, vs, e, RepL.mono l h1, ?_⟩
    rcases h2 with ⟨ps, q, r⟩ | ⟨ps, q, r⟩
    · exact .inl ⟨ps, l.dK _ _ q, r⟩
    · exact .inr ⟨ps, l.dT _ _ q, r⟩
  | .ins C fs ds, _, h => by
    simp only [Rep] at h ⊢
    obtain ⟨hc, a, dx, ps, e, h1, h2, h3⟩ := h
    exact ⟨hc, a, dx, ps, e, l.ins _ _ _ _ h1, h2, RepL.mono l h3⟩
theorem RepL.mono {G : Glo} {F F' : Hp} (l : LE F F') : ∀ {ds : List D} {vs : List V}, RepL G F ds vs → RepL G F' ds vs
  | [], _, h => by simpa only [RepL] using h
  | d :: ds, _, h => by
    simp only [RepL] at h ⊢
    obtain ⟨v, r, e, h1, h2⟩ := h
    exact ⟨v, r, e, Rep.mono l h1, RepL.mono l h2⟩
end
theorem RepL.length {G : Glo} {F : Hp} : ∀ {ds : List D} {vs : List V}, RepL G F ds vs → vs.length = ds.length
  | [], _, h => by simp only [RepL] at h; rw [h]; rfl
  | d :: ds, _, h => by
    simp only [RepL] at h
    obtain ⟨v, r, rfl, _, h2⟩ := h
    simp [RepL.length h2]
theorem RepL.get {G : Glo} {F : Hp} : ∀ {ds : List D} {vs : List V} {i : Nat} {d : D}, RepL G F ds vs → ds[i]? = some d → ∃ v, vs[i]? = some v ∧ Rep G F d v
  | [], _, _, _, _, e => by simp at e
  | d :: ds, _, i, x, h, e => by
    simp only [RepL] at h
    obtain ⟨v, r, rfl, h1, h2⟩ := h
    cases i with
    | zero => simp at e; subst e; exact ⟨v, rfl, h1⟩
    | succ i =>
      obtain ⟨u, q1, q2⟩ := RepL.get h2 (by simpa using e)
      exact ⟨u, by simpa using q1, q2⟩
theorem RepL.append {G : Glo} {F : Hp} : ∀ {ds es : List D} {vs us : List V}, RepL G F ds vs → RepL G F es us → RepL G F (ds ++ es) (vs ++ us)
  | [], _, _, _, h, q => by simp only [RepL] at h; subst h; exact q
  | d :: ds, _, _, _, h, q => by
    simp only [RepL] at h
    obtain ⟨v, r, rfl, h1, h2⟩ := h
    show RepL G F (d :: (ds ++ _)) (v :: (r ++ _))
    simp only [RepL]
    exact ⟨v, _, rfl, h1, RepL.append h2 q⟩
theorem RepL.one {G : Glo} {F : Hp} {d : D} {v : V} (h : Rep G F d v) : RepL G F [d] [v] := by
  simp only [RepL]; exact ⟨v, [], rfl, h, rfl⟩
theorem RepL.cons {G : Glo} {F : Hp} {d : D} {v : V} {ds : List D} {vs : List V} (h : Rep G F d v) (q : RepL G F ds vs) : RepL G F (d :: ds) (v :: vs) := by
  simp only [RepL]; exact ⟨v, vs, rfl, h, q⟩
theorem RepL.nil {G : Glo} {F : Hp} : RepL G F [] [] := by simp only [RepL]
theorem RepL.take {G : Glo} {F : Hp} : ∀ {ds : List D} {vs : List V} (n : Nat), RepL G F ds vs → RepL G F (ds.take n) (vs.take n)
  | [], _, n, h => by simp only [RepL] at h; subst h; simp [RepL]
  | d :: ds, _, 0, h => by simp [RepL]
  | d :: ds, _, n + 1, h => by
    simp only [RepL] at h
    obtain ⟨v, r, rfl, h1, h2⟩ := h
    simp only [List.take_succ_cons]
    exact RepL.cons h1 (RepL.take n h2)
theorem RepL.drop {G : Glo} {F : Hp} : ∀ {ds : List D} {vs : List V} (n : Nat), RepL G F ds vs → RepL G F (ds.drop n) (vs.drop n)
  | [], _, n, h => by simp only [RepL] at h; subst h; simp [RepL]
  | d :: ds, _, 0, h => by simpa using h
  | d :: ds, _, n + 1, h => by
    simp only [RepL] at h
    obtain ⟨v, r, rfl, h1, h2⟩ := h
    simp only [List.drop_succ_cons]
    exact RepL.drop n h2
theorem RepL.set {G : Glo} {F : Hp} {d : D} {v : V} (q : Rep G F d v) : ∀ {ds : List D} {vs : List V} (i : Nat), RepL G F ds vs → RepL G F (ds.set i d) (vs.set i v)
  | [], _, n, h => by simp only [RepL] at h; subst h; simp [RepL]
  | d :: ds, _, 0, h => by
    simp only [RepL] at h
    obtain ⟨v, r, rfl, h1, h2⟩ := h
    exact RepL.cons q h2
  | d :: ds, _, i + 1, h => by
    simp only [RepL] at h
    obtain ⟨v, r, rfl, h1, h2⟩ := h
    exact RepL.cons h1 (RepL.set q i h2)

/-! ### memory -/
def RepW (G : Glo) (F : Hp) (θ : List Addr) : W → V → Prop
  | .d x, v => Rep G F x v
  | .cell k, v => ∃ a, θ[k]? = some a ∧ v = .ref a
def RepWL (G : Glo) (F : Hp) (θ : List Addr) : List W → List V → Prop
  | [], vs => vs = []
  | w :: ws, vs => ∃ v r, vs = v :: r ∧ RepW G F θ w v ∧ RepWL G F θ ws r
def CellOk (G : Glo) (F : Hp) (θ : List Addr) (H : Hp) (a : Addr) : Cell → Prop
  | .lst ds => F a = none ∧ ∃ vs, H a = some (.lst vs) ∧ RepL G F ds vs
  | .dct ks ds => F a = none ∧ ∃ ps : List (Key × V), H a = some (.dK ps) ∧ ks.map keyD = ps.map (fun p => some p.1) ∧ RepL G F ds (ps.map (·.2))
  | .dcT ks ds => F a = none ∧ ∃ ps : List (List Key × V), H a = some (.dT ps) ∧ ks.map keyT = ps.map (fun p => some p.1) ∧ RepL G F ds (ps.map (·.2))
  | .ins C fs ws => F a = none ∧ G.has C ∧ ∃ dx ps, H a = some (.ins (G.cls C) dx ps) ∧ ps.map (·.1) = fs.map G.an ∧ RepWL G F θ ws (ps.map (·.2))
  | .dead => H a ≠ none
/-- what stands of the tables stays where what is neither table nor code object changes -/
theorem tabs_upd {T : List (Addr × Str)} {F : Hp} {a : Addr} {u : HO} (t : LamX.Tabs T F) (h : ∀ o, F a = some o → (∀ ps, o ≠ .tbl ps) ∧ ∀ q, o ≠ LamX.CodeO a q) : LamX.Tabs T (upd F a u) := fun p hp => by
  obtain ⟨ps, h1, h2, h3⟩ := t p hp
  refine ⟨ps, by rw [upd_ne (fun z => by rw [z] at h1; exact (h _ h1).1 ps rfl)]; exact h1, h2, fun pos cv hc => ?_⟩
  obtain ⟨c, e1, e2⟩ := h3 pos cv hc
  exact ⟨c, e1, by rw [upd_ne (fun z => by rw [z] at e2; exact (h _ e2).2 _ rfl)]; exact e2⟩
theorem tabs_new {T : List (Addr × Str)} {F : Hp} {a : Addr} {u : HO} (t : LamX.Tabs T F) (h : F a = none) : LamX.Tabs T (upd F a u) := tabs_upd t fun o e => by rw [h] at e; cases e
theorem tabs_frz {T : List (Addr × Str)} {F : Hp} {a : Addr} {u : HO} {od : Obj} {x : HO} (t : LamX.Tabs T F) (h : F a = some (.frz od x)) : LamX.Tabs T (upd F a u) := tabs_upd t fun o e => by
  rw [h] at e; cases e
  exact ⟨(fun _ z => by cases z), (fun q z => by unfold LamX.CodeO at z; cases z)⟩
theorem tabs_nil (F : Hp) : LamX.Tabs [] F := fun p hp => by simp at hp
structure HR (G : Glo) (F : Hp) (θ : List Addr) (H : Hp) (M : Mem) : Prop where
  tab : LamX.Tabs G.T F
  sub : ∀ a o, F a = some o → H a = some o
  len : θ.length = M.length
  nd : θ.Nodup
  cell : ∀ k a c, θ[k]? = some a → M[k]? = some c → CellOk G F (θ.take k) H a c

theorem RepW.mono {G : Glo} {F F' : Hp} {θ θ' : List Addr} (l : LE F F') (p : θ <+: θ') {w : W} {v : V} (h : RepW G F θ w v) : RepW G F' θ' w v := by
  cases w with
  | d x => exact Rep.mono l h
  | cell k =>
    obtain ⟨a, h1, h2⟩ := h
    obtain ⟨η, rfl⟩ := p
    exact ⟨a, by rw [List.getElem?_append_left (List.getElem?_eq_some_iff.mp h1).1]; exact h1, h2⟩
theorem RepWL.mono {G : Glo} {F F' : Hp} {θ θ' : List Addr} (l : LE F F') (p : θ <+: θ') : ∀ {ws : List W} {vs : List V}, RepWL G F θ ws vs → RepWL G F' θ' ws vs
  | [], _, h => h
  | w :: ws, _, h => by
    obtain ⟨v, r, e, h1, h2⟩ := h
    exact ⟨v, r, e, RepW.mono l p h1, RepWL.mono l p h2⟩
theorem RepWL.length {G : Glo} {F : Hp} {θ : List Addr} : ∀ {ws : List W} {vs : List V}, RepWL G F θ ws vs → vs.length = ws.length
  | [], _, h => by rw [h]; rfl
  | w :: ws, _, h => by
    obtain ⟨v, r, rfl, _, h2⟩ := h
    simp [RepWL.length h2]
theorem RepWL.append {G : Glo} {F : Hp} {θ : List Addr} : ∀ {ds es : List W} {vs us : List V}, RepWL G F θ ds vs → RepWL G F θ es us → RepWL G F θ (ds ++ es) (vs ++ us)
  | [], _, _, _, h, q => by simp only [RepWL] at h; subst h; exact q
  | d :: ds, _, _, _, h, q => by
    obtain ⟨v, r, rfl, h1, h2⟩ := h
    exact ⟨v, _, rfl, h1, RepWL.append h2 q⟩
theorem HR.ne {G : Glo} {F : Hp} {θ : List Addr} {H : Hp} {M : Mem} (h : HR G F θ H M) {a : Addr} (ha : a ∈ θ) : H a ≠ none := by
  obtain ⟨k, hk⟩ := List.getElem?_of_mem ha
  have hl : k < M.length := by rw [← h.len]; exact (List.getElem?_eq_some_iff.mp hk).1
  have c := h.cell k a M[k] hk (List.getElem?_eq_getElem hl)
  cases e : M[k] with
  | lst ds => rw [e] at c; obtain ⟨_, vs, q, _⟩ := c; rw [q]; exact fun z => nomatch z
  | dct ks ds => rw [e] at c; obtain ⟨_, ps, q, _⟩ := c; rw [q]; exact fun z => nomatch z
  | dcT ks ds => rw [e] at c; obtain ⟨_, ps, q, _⟩ := c; rw [q]; exact fun z => nomatch z
  | ins C fs ws => rw [e] at c; obtain ⟨_, _, dx, ps, q, _⟩ := c; rw [q]; exact fun z => nomatch z
  | dead => rw [e] at c; exact c
/-- a cell's content goes on where the heap at it is the same -/
theorem CellOk.mono {G : Glo} {F F' : Hp} {θ θ' : List Addr} {H H' : Hp} {a : Addr} {c : Cell} (l : LE F F') (p : θ <+: θ') (hF : F a = none → F' a = none) (hH : H' a = H a) (h : CellOk G F θ H a c) : CellOk G F' θ' H' a c := by
  cases c with
  | lst ds => obtain ⟨h0, vs, q, r⟩ := h; exact ⟨hF h0, vs, hH.trans q, RepL.mono l r⟩
  | dct ks ds => obtain ⟨h0, ps, q, r, z⟩ := h; exact ⟨hF h0, ps, hH.trans q, r, RepL.mono l z⟩
  | dcT ks ds => obtain ⟨h0, ps, q, r, z⟩ := h; exact ⟨hF h0, ps, hH.trans q, r, RepL.mono l z⟩
  | ins C fs ws => obtain ⟨h0, hc, dx, ps, q, r, z⟩ := h; exact ⟨hF h0, hc, dx, ps, hH.trans q, r, RepWL.mono l p z⟩
  | dead => show H' a ≠ none; rw [hH]; exact h
/-- a new object, known from now on -/
theorem HR.alloc {G : Glo} {F : Hp} {θ : List Addr} {H : Hp} {M : Mem} (h : HR G F θ H M) {p : Addr} (hp : H p = none) (o : HO) : HR G (upd F p o) θ (upd H p o) M ∧ LE F (upd F p o) := by
  have hF : F p = none := by
    cases e : F p with
    | none => rfl
    | some u => have := h.sub p u e; rw [hp] at this; cases this
  have le : LE F (upd F p o) := LE.of_sub fun a u e => by
    rw [upd_ne (fun z => by subst z; rw [hF] at e; cases e)]; exact e
  refine ⟨⟨tabs_new h.tab hF, fun a u e => ?_, h.len, h.nd, fun k a c hk hc => ?_⟩, le⟩
  · by_cases ha : a = p
    · subst ha; rw [upd_same] at e ⊢; exact e
    · rw [upd_ne ha] at e ⊢; exact h.sub a u e
  · have ha : a ≠ p := fun z => h.ne (List.mem_of_getElem? hk) (by rw [z]; exact hp)
    exact (h.cell k a c hk hc).mono le (List.prefix_refl _) (fun z => by rw [upd_ne ha]; exact z) (upd_ne ha)
/-- a new object, a cell from now on -/
theorem HR.push {G : Glo} {F : Hp} {θ : List Addr} {H : Hp} {M : Mem} (h : HR G F θ H M) {p : Addr} (hp : H p = none) {o : HO} {c : Cell} (hc : CellOk G F θ (upd H p o) p c) : HR G F (θ ++ [p]) (upd H p o) (M ++ [c]) := by
  have hF : F p = none := by
    cases e : F p with
    | none => rfl
    | some u => have := h.sub p u e; rw [hp] at this; cases this
  have hn : p ∉ θ := fun z => h.ne z hp
  refine ⟨h.tab, fun a u e => ?_, by simp [h.len], ?_, fun k a c' hk hc' => ?_⟩
  · rw [upd_ne (fun z => by subst z; rw [hF] at e; cases e)]; exact h.sub a u e
  · rw [List.nodup_append]
    exact ⟨h.nd, by simp, fun a ha b hb => by simp at hb; subst hb; exact fun z => hn (z ▸ ha)⟩
  · by_cases hlt : k < θ.length
    · rw [List.getElem?_append_left hlt] at hk
      rw [List.getElem?_append_left (by rw [← h.len]; exact hlt)] at hc'
      have ha : a ≠ p := fun z => hn (z ▸ List.mem_of_getElem? hk)
      rw [List.take_append_of_le_length (Nat.le_of_lt hlt)]
      exact (h.cell k a c' hk hc').mono (LE.refl F) (List.prefix_refl _) (fun z => z) (upd_ne ha)
    · have e1 : k = θ.length := by
        have := (List.getElem?_eq_some_iff.mp hk).1
        simp at this
        omega
      subst e1
      rw [List.getElem?_append_right (Nat.le_refl _)] at hk
      simp at hk
      subst hk
      rw [h.len, List.getElem?_append_right (Nat.le_refl _)] at hc'
      simp at hc'
      subst hc'
      simpa using hc
/-- a cell is written -/
theorem HR.write {G : Glo} {F : Hp} {θ : List Addr} {H : Hp} {M : Mem} (h : HR G F θ H M) {k : Nat} {a : Addr} {o : HO} {c : Cell} (hk : θ[k]? = some a) (hF : F a = none) (hc : CellOk G F (θ.take k) (upd H a o) a c) : HR G F θ (upd H a o) (M.set k c) := by
  refine ⟨h.tab, fun b u e => ?_, by simp [h.len], h.nd, fun j b c' hj hc' => ?_⟩
  · rw [upd_ne (fun z => by subst z; rw [hF] at e; cases e)]; exact h.sub b u e
  · by_cases hjk : j = k
    · subst hjk
      rw [hk] at hj; cases hj
      have hl : j < M.length := by rw [← h.len]; exact (List.getElem?_eq_some_iff.mp hk).1
      rw [List.getElem?_set_self hl] at hc'
      cases hc'
      exact hc
    · rw [List.getElem?_set_ne (Ne.symm hjk)] at hc'
      have hb : b ≠ a := fun z => by
        subst z
        have h1 := (List.getElem?_eq_some_iff.mp hj).1
        have h2 := (List.getElem?_eq_some_iff.mp hk).1
        have e1 : θ[j] = b := (List.getElem?_eq_some_iff.mp hj).2
        have e2 : θ[k] = b := (List.getElem?_eq_some_iff.mp hk).2
        exact hjk ((List.getElem_inj h.nd).mp (e1.trans e2.symm))
      exact (h.cell j b c' hj hc').mono (LE.refl F) (List.prefix_refl _) (fun z => z) (upd_ne hb)
/-- the younger cells are forgotten -/
theorem HR.cut {G : Glo} {F : Hp} {θ : List Addr} {H : Hp} {M : Mem} (h : HR G F θ H M) (n : Nat) : HR G F (θ.take n) H (M.take n) := by
  refine ⟨h.tab, h.sub, by simp [h.len], ?_, fun k a c hk hc => ?_⟩
  · exact h.nd.sublist (List.take_sublist n θ)
  · have hkn : k < n := by
      have := (List.getElem?_eq_some_iff.mp hk).1
      simp at this; omega
    rw [List.getElem?_take_of_lt hkn] at hk hc
    rw [List.take_take, Nat.min_eq_left (Nat.le_of_lt hkn)]
    exact h.cell k a c hk hc
theorem prefix_take {θ θ' : List Addr} (p : θ <+: θ') : θ'.take θ.length = θ := by
  obtain ⟨η, rfl⟩ := p
  simp
/-- a cell is known as data from now on -/
theorem HR.freeze {G : Glo} {F : Hp} {θ : List Addr} {H : Hp} {M : Mem} (h : HR G F θ H M) {k : Nat} {a : Addr} {o : HO} (hk : θ[k]? = some a) (hF : F a = none) (ho : H a = some o) : HR G (upd F a o) θ H (M.set k .dead) ∧ LE F (upd F a o) := by
  have le : LE F (upd F a o) := LE.of_sub fun b u e => by
    rw [upd_ne (fun z => by subst z; rw [hF] at e; cases e)]; exact e
  refine ⟨⟨tabs_new h.tab hF, fun b u e => ?_, by simp [h.len], h.nd, fun j b c' hj hc' => ?_⟩, le⟩
  · by_cases hb : b = a
    · subst hb; rw [upd_same] at e; cases e; exact ho
    · rw [upd_ne hb] at e; exact h.sub b u e
  · by_cases hjk : j = k
    · subst hjk
      rw [hk] at hj; cases hj
      have hl : j < M.length := by rw [← h.len]; exact (List.getElem?_eq_some_iff.mp hk).1
      rw [List.getElem?_set_self hl] at hc'
      cases hc'
      show H a ≠ none
      rw [ho]; exact fun z => nomatch z
    · rw [List.getElem?_set_ne (Ne.symm hjk)] at hc'
      have hb : b ≠ a := fun z => by
        subst z
        have h1 := (List.getElem?_eq_some_iff.mp hj).1
        have h2 := (List.getElem?_eq_some_iff.mp hk).1
        have e1 : θ[j] = b := (List.getElem?_eq_some_iff.mp hj).2
        have e2 : θ[k] = b := (List.getElem?_eq_some_iff.mp hk).2
        exact hjk ((List.getElem_inj h.nd).mp (e1.trans e2.symm))
      exact (h.cell j b c' hj hc').mono le (List.prefix_refl _) (fun z => by rw [upd_ne hb]; exact z) rfl
/-! ### the names -/
def Slots (G : Glo) (F : Hp) (θ : List Addr) (σ : L2.St) (ρ : Env) : Prop := ∀ (i : Nat) (w : W), ρ[i]? = some (some w) → ∃ v, σ[i]? = some (some v) ∧ RepW G F θ w v
theorem Slots.mono {G : Glo} {F F' : Hp} {θ θ' : List Addr} {σ : L2.St} {ρ : Env} (l : LE F F') (p : θ <+: θ') (h : Slots G F θ σ ρ) : Slots G F' θ' σ ρ := fun i w e => by
  obtain ⟨v, h1, h2⟩ := h i w e
  exact ⟨v, h1, h2.mono l p⟩
structure SR (G : Glo) (F : Hp) (θ : List Addr) (σ : L2.St) (H : Hp) (ρ : Env) (M : Mem) : Prop where
  hr : HR G F θ H M
  len : σ.length = ρ.length
  sl : Slots G F θ σ ρ
theorem SR.mono {G : Glo} {F F' : Hp} {θ θ' : List Addr} {σ : L2.St} {H H' : Hp} {ρ : Env} {M M' : Mem} (h : SR G F θ σ H ρ M) (l : LE F F') (p : θ <+: θ') (r : HR G F' θ' H' M') : SR G F' θ' σ H' ρ M' := ⟨r, h.len, h.sl.mono l p⟩
theorem SR.set {G : Glo} {F : Hp} {θ : List Addr} {σ : L2.St} {H : Hp} {ρ : Env} {M : Mem} (h : SR G F θ σ H ρ M) {i : Nat} {w : W} {v : V} (r : RepW G F θ w v) : SR G F θ (σ.set i (some v)) H (ρ.set i (some w)) M := by
  refine ⟨h.hr, by simp [h.len], fun j w' e => ?_⟩
  by_cases hj : j = i
  · subst hj
    have hl : j < ρ.length := by
      have := (List.getElem?_eq_some_iff.mp e).1
      simpa using this
    rw [List.getElem?_set_self hl] at e
    cases e
    exact ⟨v, List.getElem?_set_self (by rw [h.len]; exact hl), r⟩
  · rw [List.getElem?_set_ne (Ne.symm hj)] at e
    obtain ⟨v', h1, h2⟩ := h.sl j w' e
    exact ⟨v', by rw [List.getElem?_set_ne (Ne.symm hj)]; exact h1, h2⟩

/-! ### exceptions -/
def RepX (G : Glo) (F : Hp) (x : Ex) (c : Value) (d : Option Addr) (H : Hp) : Prop := G.err x.C ∧ c = .ref (G.cls x.C) ∧
  ((d = none ∧ x.fs = [] ∧ x.vs = []) ∨ ∃ dd ps, d = some dd ∧ H dd = some (.xd ps) ∧ ps.map (·.1) = x.fs.map G.an ∧ RepL G F x.vs (ps.map (·.2)))

/-! ### readings -/
/-- what is wanted of a result: P of what is given, Wx of an exception -/
def Good {α : Type} (G : Glo) (F : Hp) (θ : List Addr) (P : Hp → List Addr → Hp → α → Prop) (Wx : Value → Option Addr → Hp → Prop) : R α → Prop
  | .stuck => False
  | .ok a M' => ∀ F' θ' H', LE F F' → θ <+: θ' → HR G F' θ' H' M' → P F' θ' H' a
  | .exc x M' => ∀ F' θ' H' c d, LE F F' → θ <+: θ' → HR G F' θ' H' M' → RepX G F' x c d H' → Wx c d H'
theorem Good.up {α : Type} {G : Glo} {F F1 : Hp} {θ θ1 : List Addr} {P : Hp → List Addr → Hp → α → Prop} {Wx : Value → Option Addr → Hp → Prop} {r : R α} (h : Good G F θ P Wx r) (l : LE F F1) (p : θ <+: θ1) : Good G F1 θ1 P Wx r := by
  cases r with
  | stuck => exact h
  | ok a M => exact fun F' θ' H' l' p' => h F' θ' H' (l.trans l') (p.trans p')
  | exc x M => exact fun F' θ' H' c d l' p' => h F' θ' H' c d (l.trans l') (p.trans p')
/-- one after another -/
theorem Good.seq {α β : Type} {G : Glo} {F : Hp} {θ : List Addr} {P : Hp → List Addr → Hp → β → Prop} {P' : Hp → List Addr → Hp → α → Prop} {Wx : Value → Option Addr → Hp → Prop} {r : R α} {k : α → Mem → R β} (hg : Good G F θ P Wx (r.bind k))
    (h : ∀ a M1 F1 θ1 H1, r = .ok a M1 → LE F F1 → θ <+: θ1 → HR G F1 θ1 H1 M1 → Good G F1 θ1 P Wx (k a M1) → P' F1 θ1 H1 a) : Good G F θ P' Wx r := by
  cases r with
  | stuck => exact hg
  | ok a M => exact fun F' θ' H' l p hr => h a M F' θ' H' rfl l p hr (Good.up (r := k a M) hg l p)
  | exc x M => exact hg
theorem Good.imp {α : Type} {G : Glo} {F : Hp} {θ : List Addr} {P P' : Hp → List Addr → Hp → α → Prop} {Wx Wx' : Value → Option Addr → Hp → Prop} {r : R α} (h : Good G F θ P Wx r) (i : ∀ F' θ' H' a, P F' θ' H' a → P' F' θ' H' a) (j : ∀ c d H', Wx c d H' → Wx' c d H') : Good G F θ P' Wx' r := by
  cases r with
  | stuck => exact h
  | ok a M => exact fun F' θ' H' l p hr => i _ _ _ _ (h F' θ' H' l p hr)
  | exc x M => exact fun F' θ' H' c d l p hr rx => j _ _ _ (h F' θ' H' c d l p hr rx)
abbrev Ev := Env → Mem → R W
abbrev Tv := Env → Mem → R Bool
abbrev Av := Env → Mem → R (List W)
abbrev postE (G : Glo) (Q : VK) : Hp → List Addr → Hp → W → Prop := fun F' θ' H' w => ∀ v, RepW G F' θ' w v → Q v H'
abbrev postT (Q : Bool → Hp → Prop) : Hp → List Addr → Hp → Bool → Prop := fun _ _ H' b => Q b H'
abbrev postA (G : Glo) (Q : List V → Hp → Prop) : Hp → List Addr → Hp → List W → Prop := fun F' θ' H' ws => ∀ vs, RepWL G F' θ' ws vs → Q vs H'
def SemE (G : Glo) (t : L2.WX → TE) (f : Ev) : Prop := ∀ (Wx : L2.WX) (F : Hp) (θ : List Addr) (σ : L2.St) (H : Hp) (ρ : Env) (M : Mem) (Q : VK),
  SR G F θ σ H ρ M → Good G F θ (postE G Q) (fun c d H' => Wx c d σ H') (f ρ M) → t Wx σ H Q
structure PU (G : Glo) (X : Cx) (e : Expr) (t : L2.WX → TE) (f : Ev) : Prop where
  pe : ∀ Wx, Takes X Wx → PE X e (t Wx)
  sem : SemE G t f
def SemT (G : Glo) (t : L2.WX → TT) (f : Tv) : Prop := ∀ (Wx : L2.WX) (F : Hp) (θ : List Addr) (σ : L2.St) (H : Hp) (ρ : Env) (M : Mem) (Q : Bool → Hp → Prop),
  SR G F θ σ H ρ M → Good G F θ (postT Q) (fun c d H' => Wx c d σ H') (f ρ M) → t Wx σ H Q
structure PUT (G : Glo) (X : Cx) (e : Expr) (t : L2.WX → TT) (f : Tv) : Prop where
  pe : ∀ Wx, Takes X Wx → PT X e (t Wx)
  sem : SemT G t f
structure PUW (G : Glo) (X : Cx) (e : Expr) (t : L2.WX → TT) (f : Tv) : Prop where
  pe : ∀ Wx, Takes X Wx → PW X e (t Wx)
  sem : SemT G t f
def SemA (G : Glo) (t : L2.WX → TA) (f : Av) : Prop := ∀ (Wx : L2.WX) (F : Hp) (θ : List Addr) (σ : L2.St) (H : Hp) (ρ : Env) (M : Mem) (Q : List V → Hp → Prop),
  SR G F θ σ H ρ M → Good G F θ (postA G Q) (fun c d H' => Wx c d σ H') (f ρ M) → t Wx σ H Q
structure PUA (G : Glo) (X : Cx) (es : List Expr) (t : L2.WX → TA) (f : Av) : Prop where
  pe : ∀ Wx, Takes X Wx → PA X es (t Wx)
  sem : SemA G t f
end PU
set_option Elab.async false
set_option linter.all false
set_option maxRecDepth 100000
set_option maxHeartbeats 4000000
namespace PU
open PySem PySem.Spec PyProof.Rows L2

/-! ### views -/
def viewL (M : Mem) : W → Option (List D)
  | .d (.lst xs) => some xs
  | .d (.klst xs) => some xs
  | .cell k => match M[k]? with
    | some (.lst xs) => some xs
    | _ => none
  | _ => none
def viewT : W → Option (List D)
  | .d (.tup xs) => some xs
  | .d (.ktup xs) => some xs
  | _ => none
section
variable {G : Glo} {F : Hp} {θ : List Addr} {H : Hp} {M : Mem}
theorem SqT.up {K : PySem.W.Frag} {a : Addr} {vs : List V} {H : Hp} (h : SqT K (fun _ => none) a vs) : SqT K H a vs := by
  rcases h with (h | ⟨o, h⟩) | h
  · cases h
  · cases h
  · exact .inr h
theorem SqL.up {K : PySem.W.Frag} {a : Addr} {vs : List V} {H F : Hp} (hs : ∀ a o, F a = some o → H a = some o) (h : (∃ o, F a = some (.frz o (.lst vs))) ∨ SqL K (fun _ => none) a vs) : SqL K H a vs := by
  rcases h with ⟨o, h⟩ | (h | ⟨o, h⟩) | h
  · exact .inl (.inr ⟨o, hs _ _ h⟩)
  · cases h
  · cases h
  · exact .inr h
theorem viewL_ok (hr : HR G F θ H M) {w : W} {v : V} {xs : List D} (r : RepW G F θ w v) (h : viewL M w = some xs) : ∃ a vs, v = .ref a ∧ SqL G.K H a vs ∧ RepL G F xs vs := by
  unfold viewL at h
  split at h
  · cases h
    simp only [RepW, Rep] at r
    obtain ⟨a, vs, e, h1, h2⟩ := r
    exact ⟨a, vs, e, SqL.of (hr.sub _ _ h1), h2⟩
  · cases h
    simp only [RepW, Rep] at r
    obtain ⟨a, vs, e, h1, h2⟩ := r
    exact ⟨a, vs, e, SqL.up hr.sub h1, h2⟩
  · rename_i k
    split at h
    · rename_i ys e
      cases h
      obtain ⟨a, h1, h2⟩ := r
      obtain ⟨_, vs, q, rl⟩ := hr.cell k a _ h1 e
      exact ⟨a, vs, h2, SqL.of q, rl⟩
    · cases h
  · cases h
/-- .. a list of the text's own making -/
def viewR (M : Mem) : W → Option (List D)
  | .d (.lst xs) => some xs
  | .cell k => match M[k]? with
    | some (.lst xs) => some xs
    | _ => none
  | _ => none
theorem viewR_ok (hr : HR G F θ H M) {w : W} {v : V} {xs : List D} (r : RepW G F θ w v) (h : viewR M w = some xs) : ∃ a vs, v = .ref a ∧ Rd H a (.lst vs) ∧ RepL G F xs vs := by
  unfold viewR at h
  split at h
  · cases h
    simp only [RepW, Rep] at r
    obtain ⟨a, vs, e, h1, h2⟩ := r
    exact ⟨a, vs, e, .inl (hr.sub _ _ h1), h2⟩
  · rename_i k
    split at h
    · rename_i ys e
      cases h
      obtain ⟨a, h1, h2⟩ := r
      obtain ⟨_, vs, q, rl⟩ := hr.cell k a _ h1 e
      exact ⟨a, vs, h2, .inl q, rl⟩
    · cases h
  · cases h
theorem viewT_ok (hr : HR G F θ H M) {w : W} {v : V} {xs : List D} (r : RepW G F θ w v) (h : viewT w = some xs) : ∃ a vs, v = .ref a ∧ SqT G.K H a vs ∧ RepL G F xs vs := by
  unfold viewT at h
  split at h
  · cases h
    simp only [RepW, Rep] at r
    obtain ⟨a, vs, e, h1, h2⟩ := r
    exact ⟨a, vs, e, SqT.of (hr.sub _ _ h1), h2⟩
  · cases h
    simp only [RepW, Rep] at r
    obtain ⟨a, vs, e, h1, h2⟩ := r
    exact ⟨a, vs, e, SqT.up h1, h2⟩
  · cases h
end

/-! ### names, constants -/
section
variable {G : Glo} {X : Cx}
def eVar (i : Nat) : Ev := fun ρ M => match ρ[i]? with
  | some (some w) => .ok w M
  | _ => .stuck
def eC (d : D) : Ev := fun _ M => .ok (.d d) M
theorem sem_var (i : Nat) : SemE G (fun _ => tVar i) (eVar i) := by
  intro Wx F θ σ H ρ M Q sr hg
  unfold eVar at hg
  split at hg
  · rename_i w e
    obtain ⟨v, h1, h2⟩ := sr.sl i w e
    exact ⟨v, h1, hg F θ H (LE.refl F) (List.prefix_refl _) sr.hr v h2⟩
  · exact hg.elim
theorem pu_var (i : Nat) {x : Str} {pos : Pos} (hN : X.N[i]? = some x := by rfl) (hv : Vis X.env.scope x := by first | exact Or.inl rfl | exact Or.inr (Or.inl rfl) | exact Or.inr (Or.inr rfl))
    (hd : (x == ("__debug__" : Str)) = false := by decide +kernel) (hcd : (x == ("__classdict__" : Str)) = false := by decide +kernel) : PU G X (.Name x pos) (fun _ => tVar i) (eVar i) := ⟨fun _ _ => pe_var hN hv hd hcd, sem_var i⟩
theorem sem_c {d : D} {v : V} (h : ∀ F, Rep G F d v) : SemE G (fun _ => tC v) (eC d) := by
  intro Wx F θ σ H ρ M Q sr hg
  exact hg F θ H (LE.refl F) (List.prefix_refl _) sr.hr v (h F)
theorem pu_int {i : Int} {j pos} : PU G X (.Constant (.int i) j pos) (fun _ => tC (.int i)) (eC (.int i)) := ⟨fun _ _ => pe_int, sem_c fun F => by simp only [Rep]⟩
theorem pu_bl {b : Bool} {j pos} : PU G X (.Constant (.bool b) j pos) (fun _ => tC (.bl b)) (eC (.bl b)) := ⟨fun _ _ => pe_bl, sem_c fun F => by simp only [Rep]⟩
theorem pu_non {j pos} : PU G X (.Constant .none j pos) (fun _ => tC .non) (eC .non) := ⟨fun _ _ => pe_non, sem_c fun F => by simp only [Rep]⟩
theorem pu_str {x : Str} {j pos} : PU G X (.Constant (.str x) j pos) (fun _ => tC (.str x)) (eC (.str x)) := ⟨fun _ _ => pe_str, sem_c fun F => by simp only [Rep]⟩
/-- a module's int, text -/
theorem pu_gint {x : Str} {i : Int} {pos : Pos} (hm : ∃ t, X.mg x = some (.int i t)) (hg : L2.Gl X x := by rfl) (hd : (x == ("__debug__" : Str)) = false := by decide +kernel) : PU G X (.Name x pos) (fun _ => tC (.int i)) (eC (.int i)) :=
  ⟨fun _ _ => let ⟨t, e⟩ := hm; pe_glob hg e ⟨t, rfl⟩ hd, sem_c fun F => by simp only [Rep]⟩
theorem pu_gstr {x z : Str} {pos : Pos} (hm : ∃ t, X.mg x = some (.str z t)) (hg : L2.Gl X x := by rfl) (hd : (x == ("__debug__" : Str)) = false := by decide +kernel) : PU G X (.Name x pos) (fun _ => tC (.str z)) (eC (.str z)) :=
  ⟨fun _ _ => let ⟨t, e⟩ := hm; pe_glob hg e ⟨t, rfl⟩ hd, sem_c fun F => by simp only [Rep]⟩
/-- a module's written tuple -/
theorem pu_gtup {x : Str} {a : Addr} {ds : List D} {vs : List V} {pos : Pos} (hm : X.mg x = some (.ref a)) (hs : SqT G.K (fun _ => none) a vs) (hr : ∀ F, RepL G F ds vs) (hg : L2.Gl X x := by rfl) (hd : (x == ("__debug__" : Str)) = false := by decide +kernel) :
    PU G X (.Name x pos) (fun _ => tC (.ref a)) (eC (.ktup ds)) :=
  ⟨fun _ _ => pe_glob hg hm rfl hd, sem_c fun F => by simp only [Rep]; exact ⟨a, vs, rfl, hs, hr F⟩⟩

/-! ### operators -/
abbrev Op2 := Mem → W → W → R W
def OpS (G : Glo) (r : R2) (g : Op2) : Prop := ∀ (F : Hp) (θ : List Addr) (H : Hp) (M : Mem) (x y : W) (v u : V) (Q : VK) (Wx : Value → Option Addr → Hp → Prop),
  HR G F θ H M → RepW G F θ x v → RepW G F θ y u → Good G F θ (postE G Q) Wx (g M x y) → r v u H Q
def e2 (g : Op2) (fa fb : Ev) : Ev := fun ρ M => (fa ρ M).bind fun x M1 => (fb ρ M1).bind fun y M2 => g M2 x y
variable {a b c : Expr} {ta tb tc : L2.WX → TE} {fa fb fc : Ev} {pos : Pos}
theorem sem_2 {r : R2} {g : Op2} (hs : OpS G r g) (ha : SemE G ta fa) (hb : SemE G tb fb) : SemE G (fun Wx => tOp r (ta Wx) (tb Wx)) (e2 g fa fb) := by
  intro Wx F θ σ H ρ M Q sr hg
  refine ha Wx F θ σ H ρ M _ sr (Good.seq hg fun x M1 F1 θ1 H1 _ l1 p1 hr1 hg1 v rv => ?_)
  refine hb Wx F1 θ1 σ H1 ρ M1 _ (sr.mono l1 p1 hr1) (Good.seq hg1 fun y M2 F2 θ2 H2 _ l2 p2 hr2 hg2 u ru => ?_)
  exact hs F2 θ2 H2 M2 x y v u Q _ hr2 (rv.mono l2 p2) ru hg2
theorem pu_2 {op : Operator} {r : R2} {g : Op2} (ho : OpR X (binaryOp op) r) (hs : OpS G r g) (ha : PU G X a ta fa) (hb : PU G X b tb fb) : PU G X (.BinOp a op b pos) (fun Wx => tOp r (ta Wx) (tb Wx)) (e2 g fa fb) :=
  ⟨fun Wx tk => pe_op ho (ha.pe Wx tk) (hb.pe Wx tk), sem_2 hs ha.sem hb.sem⟩
theorem pu_cmp {op : CmpOp} {r : R2} {g : Op2} (ho : OpR X (compareOp op) r) (hs : OpS G r g) (ha : PU G X a ta fa) (hb : PU G X b tb fb) (hm : behindInMarks op b = false) : PU G X (.Compare a [op] [b] pos) (fun Wx => tOp r (ta Wx) (tb Wx)) (e2 g fa fb) :=
  ⟨fun Wx tk => pe_cmpR ho (ha.pe Wx tk) (hb.pe Wx tk) hm, sem_2 hs ha.sem hb.sem⟩
/-- a value as a test -/
def truB : W → Mem → R Bool
  | .d (.bl b), M => .ok b M
  | _, _ => .stuck
def tB' (f : Ev) : Tv := fun ρ M => (f ρ M).bind truB
theorem truB_ok {F : Hp} {θ : List Addr} {H : Hp} {M : Mem} {w : W} {v : V} {Q : Bool → Hp → Prop} {Wx : Value → Option Addr → Hp → Prop} (hr : HR G F θ H M) (r : RepW G F θ w v) (hg : Good G F θ (postT Q) Wx (truB w M)) : ∃ k, v = .bl k ∧ Q k H := by
  unfold truB at hg
  split at hg
  · rename_i b
    simp only [RepW, Rep] at r
    exact ⟨b, r, hg F θ H (LE.refl F) (List.prefix_refl _) hr⟩
  · exact hg.elim
theorem sem_tB {t : L2.WX → TE} {f : Ev} (h : SemE G t f) : SemT G (fun Wx => tTest (t Wx)) (tB' f) := by
  intro Wx F θ σ H ρ M Q sr hg
  refine h Wx F θ σ H ρ M _ sr (Good.seq hg fun x M1 F1 θ1 H1 _ l1 p1 hr1 hg1 v rv => ?_)
  exact truB_ok hr1 rv hg1
theorem put_cmp {op : CmpOp} {r : R2} {g : Op2} (ho : OpR X (compareOp op) r) (hs : OpS G r g) (ha : PU G X a ta fa) (hb : PU G X b tb fb) (hm : behindInMarks op b = false) : PUT G X (.Compare a [op] [b] pos) (fun Wx => tTest (tOp r (ta Wx) (tb Wx))) (tB' (e2 g fa fb)) :=
  ⟨fun Wx tk => pt_cmpR ho (ha.pe Wx tk) (hb.pe Wx tk) hm, sem_tB (sem_2 hs ha.sem hb.sem)⟩
/-- an expression whose value is True or False, as a test -/
theorem put_val {e : Expr} {t : L2.WX → TE} {f : Ev} (h : PU G X e t f) (he : ∀ whole, isTrue e X.env whole = (do let v ← whole; standAt e.pos; holding [v] (truthy v)) := by intro _; rfl) : PUT G X e (fun Wx => tB (t Wx)) (tB' f) :=
  ⟨fun Wx tk => pt_val (h.pe Wx tk) he, sem_tB h.sem⟩
/-! ints -/
def i2 (C : Int → Int → Prop) [∀ i j, Decidable (C i j)] (g : Int → Int → D) : Op2 := fun M x y => match x, y with
  | .d (.int i), .d (.int j) => if C i j then .ok (.d (g i j)) M else .stuck
  | _, _ => .stuck
theorem ops_i {C : Int → Int → Prop} [∀ i j, Decidable (C i j)] {g : Int → Int → D} {h : Int → Int → V} (e : ∀ F i j, Rep G F (g i j) (h i j)) : OpS G (rI C h) (i2 C g) := by
  intro F θ H M x y v u Q Wx hr rx ry hg
  unfold i2 at hg
  split at hg
  · rename_i i j
    split at hg
    · rename_i hc
      simp only [RepW, Rep] at rx ry
      exact ⟨i, j, rx, ry, hc, hg F θ H (LE.refl F) (List.prefix_refl _) hr _ (e F i j)⟩
    · exact hg.elim
  · exact hg.elim
def i20 (g : Int → Int → D) : Op2 := fun M x y => match x, y with
  | .d (.int i), .d (.int j) => .ok (.d (g i j)) M
  | _, _ => .stuck
theorem ops_i0 {g : Int → Int → D} {h : Int → Int → V} (e : ∀ F i j, Rep G F (g i j) (h i j)) : OpS G (rI0 h) (i20 g) := by
  intro F θ H M x y v u Q Wx hr rx ry hg
  unfold i20 at hg
  split at hg
  · rename_i i j
    simp only [RepW, Rep] at rx ry
    exact ⟨i, j, rx, ry, hg F θ H (LE.refl F) (List.prefix_refl _) hr _ (e F i j)⟩
  · exact hg.elim
/-- two rules for one operator: which one is told by the function -/
theorem OpS.or {r r' : R2} {g g' : Op2} (p : Mem → W → W → Bool) (h : OpS G r g) (h' : OpS G r' g') : OpS G (fun x y H Q => r x y H Q ∨ r' x y H Q) (fun M x y => if p M x y then g M x y else g' M x y) := by
  intro F θ H M x y v u Q Wx hr rx ry hg
  by_cases c : p M x y = true
  · simp only [c, if_true] at hg
    exact .inl (h F θ H M x y v u Q Wx hr rx ry hg)
  · simp only [c] at hg
    exact .inr (h' F θ H M x y v u Q Wx hr rx ry hg)
end

/-! ### addition of texts, tuples, lists -/
section
variable {X : Cx} {pins : List (Addr × Obj)} {σ : L2.St} {H : Hp} {s : Shared}
theorem Inv.lstR {l : Addr} {xs : List V} (I : Inv X pins σ H s) (hH : Rd H l (.lst xs)) : xs.length ≤ sizeLine ∧ ∃ (its : List Value) (n : Nat), Vals xs its ∧ xs.length = its.length ∧ s.heap.get? l = some { cls := .type "list", data := .seq its.toArray n } := by
  have x : ObjOk X.prog X.w H s.heap l (.lst xs) := hH.ok I.hok
  obtain ⟨z, its, n, r, e⟩ := x
  exact ⟨z, its, n, r, r.length, e⟩
def rCatR : R2 := fun x y H Q => ∃ l b xs zs, x = .ref l ∧ y = .ref b ∧ Rd H l (.lst xs) ∧ Rd H b (.lst zs) ∧ xs.length + zs.length ≤ sizeLine ∧ ∀ p, H p = none → Q (.ref p) (upd H p (.lst (xs ++ zs)))
theorem op_catR : OpR X (binaryOp .Add) rCatR := by
  intro pins s σ H x y v u Q I rx ry h
  obtain ⟨l, b, xs, zs, rfl, rfl, hH, hB, hz, q⟩ := h
  cases rx
  cases ry
  obtain ⟨z, its, n, r, hl, e⟩ := PU.Inv.lstR I hH
  obtain ⟨z2, its2, n2, r2, hl2, e2⟩ := PU.Inv.lstR I hB
  have big : its.toArray.size + its2.toArray.size ≤ sizeLine := by rw [List.size_toArray, List.size_toArray]; omega
  refine PySem.P.add_list e e2 ?_ big
  rw [show its.toArray ++ its2.toArray = (its ++ its2).toArray from by simp]
  refine ⟨.ref _, _, I.lnew (t' := s.toks) (r.append r2) ?_, rfl, q _ I.fresh⟩
  rw [List.length_append]
  exact hz
end
section
variable {G : Glo} {X : Cx}
def rStrAdd : R2 := fun x y H Q => ∃ i j, x = .str i ∧ y = .str j ∧ i.length + j.length ≤ sizeLine ∧ Q (.str (i ++ j)) H
def s2add : Op2 := fun M x y => match x, y with
  | .d (.str i), .d (.str j) => if i.length + j.length ≤ sizeLine then .ok (.d (.str (i ++ j))) M else .stuck
  | _, _ => .stuck
theorem ops_sadd : OpS G rStrAdd s2add := by
  intro F θ H M x y v u Q Wx hr rx ry hg
  unfold s2add at hg
  split at hg
  · rename_i i j
    split at hg
    · rename_i hc
      simp only [RepW, Rep] at rx ry
      exact ⟨i, j, rx, ry, hc, hg F θ H (LE.refl F) (List.prefix_refl _) hr _ (by simp only [RepW, Rep])⟩
    · exact hg.elim
  · exact hg.elim
def t2add : Op2 := fun M x y => match viewT x, viewT y with
  | some xs, some ys => if xs.length + ys.length ≤ sizeLine then match xs, ys with
    | [], _ => .ok y M
    | _ :: _, [] => .ok x M
    | _ :: _, _ :: _ => .ok (.d (.tup (xs ++ ys))) M
    else .stuck
  | _, _ => .stuck
instance (xs : List D) : Decidable (xs ≠ []) := match xs with
  | [] => isFalse fun h => h rfl
  | _ :: _ => isTrue fun h => by cases h
theorem ops_tadd : OpS G (rCatA G.K) t2add := by
  intro F θ H M x y v u Q Wx hr rx ry hg
  unfold t2add at hg
  split at hg
  · rename_i xs ys e1 e2
    split at hg
    · rename_i hc
      obtain ⟨a, vs, ea, h1, h2⟩ := viewT_ok hr rx e1
      obtain ⟨b, us, eb, h3, h4⟩ := viewT_ok hr ry e2
      have l1 := h2.length
      have l2 := h4.length
      have z1 : xs = [] ↔ vs = [] := by rw [← List.length_eq_zero_iff, ← List.length_eq_zero_iff, l1]
      have z2 : ys = [] ↔ us = [] := by rw [← List.length_eq_zero_iff, ← List.length_eq_zero_iff, l2]
      refine ⟨a, b, vs, us, ea, eb, h1, h3, by omega, fun q => ?_, fun q1 q2 => ?_, fun q1 q2 p hp => ?_⟩
      · have := z1.mpr q
        subst this
        exact hg F θ H (LE.refl F) (List.prefix_refl _) hr _ (eb ▸ ry)
      · have := z2.mpr q2
        subst this
        cases xs with
        | nil => exact absurd (z1.mp rfl) q1
        | cons x0 xr => exact hg F θ H (LE.refl F) (List.prefix_refl _) hr _ (ea ▸ rx)
      · cases xs with
        | nil => exact absurd (z1.mp rfl) q1
        | cons x0 xr =>
          cases ys with
          | nil => exact absurd (z2.mp rfl) q2
          | cons y0 yr =>
            obtain ⟨hr', le⟩ := hr.alloc hp (.tup (vs ++ us))
            refine hg _ θ _ le (List.prefix_refl _) hr' _ ?_
            simp only [RepW, Rep]
            exact ⟨p, _, rfl, upd_same, (h2.mono le).append (h4.mono le)⟩
    · exact hg.elim
  · exact hg.elim
def l2add : Op2 := fun M x y => match viewR M x, viewR M y with
  | some xs, some ys => if xs.length + ys.length ≤ sizeLine then .ok (.d (.lst (xs ++ ys))) M else .stuck
  | _, _ => .stuck
theorem ops_ladd : OpS G rCatR l2add := by
  intro F θ H M x y v u Q Wx hr rx ry hg
  unfold l2add at hg
  split at hg
  · rename_i xs ys e1 e2
    split at hg
    · rename_i hc
      obtain ⟨a, vs, ea, h1, h2⟩ := viewR_ok hr rx e1
      obtain ⟨b, us, eb, h3, h4⟩ := viewR_ok hr ry e2
      have l1 := h2.length
      have l2 := h4.length
      refine ⟨a, b, vs, us, ea, eb, h1, h3, by omega, fun p hp => ?_⟩
      obtain ⟨hr', le⟩ := hr.alloc hp (.lst (vs ++ us))
      refine hg _ θ _ le (List.prefix_refl _) hr' _ ?_
      simp only [RepW, Rep]
      exact ⟨p, _, rfl, upd_same, (h2.mono le).append (h4.mono le)⟩
    · exact hg.elim
  · exact hg.elim
/-- + -/
def isInts (_ : Mem) : W → W → Bool
  | .d (.int _), .d (.int _) => true
  | _, _ => false
def isStrs (_ : Mem) : W → W → Bool
  | .d (.str _), .d (.str _) => true
  | _, _ => false
def isTups (_ : Mem) : W → W → Bool
  | .d (.tup _), _ => true
  | .d (.ktup _), _ => true
  | _, _ => false
def addW : Op2 := fun M x y => if isInts M x y then i20 (fun i j => .int (i + j)) M x y else if isTups M x y then t2add M x y else if isStrs M x y then s2add M x y else l2add M x y
def rAddA (K : PySem.W.Frag) : R2 := fun x y H Q => rI0 (fun i j => .int (i + j)) x y H Q ∨ (rCatA K x y H Q ∨ (rStrAdd x y H Q ∨ rCatR x y H Q))
variable {a b c : Expr} {ta tb tc : L2.WX → TE} {fa fb fc : Ev} {pos : Pos}
theorem pu_add (ha : PU G X a ta fa) (hb : PU G X b tb fb) (hK : X.K = G.K := by rfl) : PU G X (.BinOp a .Add b pos) (fun Wx => tOp (rAddA G.K) (ta Wx) (tb Wx)) (e2 addW fa fb) :=
  pu_2 (op_add.or ((hK ▸ op_catA).or ((op_add_str : OpR X (binaryOp .Add) rStrAdd).or op_catR))) ((ops_i0 (g := fun i j => .int (i + j)) fun F i j => by simp only [Rep]).or isInts (ops_tadd.or isTups (ops_sadd.or isStrs ops_ladd))) ha hb
def subW : Op2 := i20 fun i j => .int (i - j)
theorem pu_sub (ha : PU G X a ta fa) (hb : PU G X b tb fb) : PU G X (.BinOp a .Sub b pos) (fun Wx => tOp (rI0 fun i j => .int (i - j)) (ta Wx) (tb Wx)) (e2 subW fa fb) :=
  pu_2 op_sub (ops_i0 fun F i j => by simp only [Rep]) ha hb
/-- a product of ints, of a list and an int -/
def CMulX (i j : Int) : Prop := i.natAbs.log2 + j.natAbs.log2 < 100000000
instance (i j : Int) : Decidable (CMulX i j) := inferInstanceAs (Decidable (_ < _))
theorem CMulX.ok {i j : Int} (h : CMulX i j) : IntMulOk i j := by
  have b : ∀ x : Int, Builtin.Int.intBits x ≤ x.natAbs.log2 + 1 := fun x => by
    unfold Builtin.Int.intBits
    split <;> omega
  exact IntMulOk.of_le (b i) (b j) (by unfold CMulX at h; omega)
theorem op_mulX : OpR X (binaryOp .Mult) (rI CMulX fun i j => .int (i * j)) := opI fun _ _ _ _ _ _ _ hc q => mul_int q hc.ok
def rRepR : R2 := fun x y H Q => ∃ l k xs, x = .ref l ∧ y = .int k ∧ H l = some (.lst xs) ∧ -(2 ^ 63) ≤ k ∧ k < 2 ^ 63 ∧ xs.length * k.toNat ≤ sizeLine ∧
  ∀ p, H p = none → Q (.ref p) (upd H p (.lst (List.replicate k.toNat xs).flatten))
theorem RepL.rep {F : Hp} {ds : List D} {vs : List V} (h : RepL G F ds vs) : ∀ n : Nat, RepL G F (List.replicate n ds).flatten (List.replicate n vs).flatten
  | 0 => by simp [RepL]
  | n + 1 => by
    rw [List.replicate_succ, List.replicate_succ, List.flatten_cons, List.flatten_cons]
    exact h.append (RepL.rep h n)
def l2rep : Op2 := fun M x y => match x, y with
  | .d (.lst xs), .d (.int k) => if -(2 ^ 63) ≤ k ∧ k < 2 ^ 63 ∧ xs.length * k.toNat ≤ sizeLine then .ok (.d (.lst (List.replicate k.toNat xs).flatten)) M else .stuck
  | _, _ => .stuck
theorem ops_lrep : OpS G rRepR l2rep := by
  intro F θ H M x y v u Q Wx hr rx ry hg
  unfold l2rep at hg
  split at hg
  · rename_i xs k
    split at hg
    · rename_i hc
      simp only [RepW, Rep] at rx ry
      obtain ⟨a, vs, ea, h1, h2⟩ := rx
      have l1 := h2.length
      refine ⟨a, k, vs, ea, ry, hr.sub _ _ h1, hc.1, hc.2.1, by rw [l1]; exact hc.2.2, fun p hp => ?_⟩
      obtain ⟨hr', le⟩ := hr.alloc hp (.lst (List.replicate k.toNat vs).flatten)
      refine hg _ θ _ le (List.prefix_refl _) hr' _ ?_
      simp only [RepW, Rep]
      exact ⟨p, _, rfl, upd_same, (h2.mono le).rep k.toNat⟩
    · exact hg.elim
  · exact hg.elim
def mulW : Op2 := fun M x y => if isInts M x y then i2 CMulX (fun i j => .int (i * j)) M x y else l2rep M x y
def rMulA : R2 := fun x y H Q => rI CMulX (fun i j => .int (i * j)) x y H Q ∨ rRepR x y H Q
theorem pu_mul (ha : PU G X a ta fa) (hb : PU G X b tb fb) : PU G X (.BinOp a .Mult b pos) (fun Wx => tOp rMulA (ta Wx) (tb Wx)) (e2 mulW fa fb) :=
  pu_2 (op_mulX.or (op_rep : OpR X (binaryOp .Mult) rRepR)) ((ops_i (C := CMulX) (g := fun i j => .int (i * j)) fun F i j => by simp only [Rep]).or isInts ops_lrep) ha hb
instance (i j : Int) : Decidable (CDivW i j) := inferInstanceAs (Decidable (_ ∧ _))
def fdivW : Op2 := i2 CDivW fun i j => .int (i / j)
theorem pu_fdiv (ha : PU G X a ta fa) (hb : PU G X b tb fb) : PU G X (.BinOp a .FloorDiv b pos) (fun Wx => tOp (rI CDivW fun i j => .int (i / j)) (ta Wx) (tb Wx)) (e2 fdivW fa fb) :=
  pu_2 op_fdivW (ops_i (C := CDivW) fun F i j => by simp only [Rep]) ha hb
def modW : Op2 := i2 (fun _ j => 0 < j) fun i j => .int (i % j)
theorem pu_mod (ha : PU G X a ta fa) (hb : PU G X b tb fb) : PU G X (.BinOp a .Mod b pos) (fun Wx => tOp (rI (fun _ j => 0 < j) fun i j => .int (i % j)) (ta Wx) (tb Wx)) (e2 modW fa fb) :=
  pu_2 op_mod (ops_i (C := fun _ j => 0 < j) fun F i j => by simp only [Rep]) ha hb
instance (i j : Int) : Decidable (CPow i j) := inferInstanceAs (Decidable (_ ∧ _ ∧ _))
def powW : Op2 := i2 CPow fun i j => .int (i ^ j.toNat)
theorem pu_pow (ha : PU G X a ta fa) (hb : PU G X b tb fb) : PU G X (.BinOp a .Pow b pos) (fun Wx => tOp (rI CPow fun i j => .int (i ^ j.toNat)) (ta Wx) (tb Wx)) (e2 powW fa fb) :=
  pu_2 op_pow (ops_i (C := CPow) fun F i j => by simp only [Rep]) ha hb

/-! ### one operand -/
abbrev Op1 := Mem → W → R W
def e1 (g : Op1) (fa : Ev) : Ev := fun ρ M => (fa ρ M).bind fun x M1 => g M1 x
def OpS1 (G : Glo) (r : V → Hp → VK → Prop) (g : Op1) : Prop := ∀ (F : Hp) (θ : List Addr) (H : Hp) (M : Mem) (x : W) (v : V) (Q : VK) (Wx : Value → Option Addr → Hp → Prop),
  HR G F θ H M → RepW G F θ x v → Good G F θ (postE G Q) Wx (g M x) → r v H Q
theorem sem_1 {r : V → Hp → VK → Prop} {g : Op1} (hs : OpS1 G r g) (ha : SemE G ta fa) : SemE G (fun Wx => tUn r (ta Wx)) (e1 g fa) := by
  intro Wx F θ σ H ρ M Q sr hg
  refine ha Wx F θ σ H ρ M _ sr (Good.seq hg fun x M1 F1 θ1 H1 _ l1 p1 hr1 hg1 v rv => ?_)
  exact hs F1 θ1 H1 M1 x v Q _ hr1 rv hg1
def negW : Op1 := fun M x => match x with
  | .d (.int i) => .ok (.d (.int (-i))) M
  | _ => .stuck
theorem pu_neg (ha : PU G X a ta fa) : PU G X (.UnaryOp .USub a pos) (fun Wx => tUn (rU fun i => .int (-i)) (ta Wx)) (e1 negW fa) := by
  refine ⟨fun Wx tk => pe_un un_neg (ha.pe Wx tk), sem_1 ?_ ha.sem⟩
  intro F θ H M x v Q Wx hr rx hg
  unfold negW at hg
  split at hg
  · rename_i i
    simp only [RepW, Rep] at rx
    exact ⟨i, rx, hg F θ H (LE.refl F) (List.prefix_refl _) hr _ (by simp only [RepW, Rep])⟩
  · exact hg.elim
/-- a written negative number is one constant or a unary minus; both are met -/
def notW : Op1 := fun M x => match x with
  | .d (.bl b) => .ok (.d (.bl (!b))) M
  | _ => .stuck
theorem pu_not (ha : PU G X a ta fa) : PU G X (.UnaryOp .Not a pos) (fun Wx => tNotV (ta Wx)) (e1 notW fa) := by
  refine ⟨fun Wx tk => pe_not (ha.pe Wx tk), ?_⟩
  intro Wx F θ σ H ρ M Q sr hg
  refine ha.sem Wx F θ σ H ρ M _ sr (Good.seq hg fun x M1 F1 θ1 H1 _ l1 p1 hr1 hg1 v rv => ?_)
  unfold notW at hg1
  split at hg1
  · simp only [RepW, Rep] at rv
    exact ⟨_, rv, hg1 F1 θ1 H1 (LE.refl F1) (List.prefix_refl _) hr1 _ (by simp only [RepW, Rep])⟩
  · exact hg1.elim

/-! ### comparisons -/
def ltW : Op2 := i20 fun i j => .bl (decide (i < j))
def leW : Op2 := i20 fun i j => .bl (decide (i ≤ j))
def gtW : Op2 := i20 fun i j => .bl (decide (j < i))
def geW : Op2 := i20 fun i j => .bl (decide (j ≤ i))
theorem pu_lt (ha : PU G X a ta fa) (hb : PU G X b tb fb) : PU G X (.Compare a [.Lt] [b] pos) (fun Wx => tOp (rI0 fun i j => .bl (decide (i < j))) (ta Wx) (tb Wx)) (e2 ltW fa fb) := pu_cmp op_lt (ops_i0 fun F i j => by simp only [Rep]) ha hb (nomark _)
theorem pu_le (ha : PU G X a ta fa) (hb : PU G X b tb fb) : PU G X (.Compare a [.LtE] [b] pos) (fun Wx => tOp (rI0 fun i j => .bl (decide (i ≤ j))) (ta Wx) (tb Wx)) (e2 leW fa fb) := pu_cmp op_le (ops_i0 fun F i j => by simp only [Rep]) ha hb (nomark _)
theorem pu_gt (ha : PU G X a ta fa) (hb : PU G X b tb fb) : PU G X (.Compare a [.Gt] [b] pos) (fun Wx => tOp (rI0 fun i j => .bl (decide (j < i))) (ta Wx) (tb Wx)) (e2 gtW fa fb) := pu_cmp op_gt (ops_i0 fun F i j => by simp only [Rep]) ha hb (nomark _)
theorem pu_ge (ha : PU G X a ta fa) (hb : PU G X b tb fb) : PU G X (.Compare a [.GtE] [b] pos) (fun Wx => tOp (rI0 fun i j => .bl (decide (j ≤ i))) (ta Wx) (tb Wx)) (e2 geW fa fb) := pu_cmp op_ge (ops_i0 fun F i j => by simp only [Rep]) ha hb (nomark _)
theorem put_lt (ha : PU G X a ta fa) (hb : PU G X b tb fb) : PUT G X (.Compare a [.Lt] [b] pos) (fun Wx => tTest (tOp (rI0 fun i j => .bl (decide (i < j))) (ta Wx) (tb Wx))) (tB' (e2 ltW fa fb)) := put_cmp op_lt (ops_i0 fun F i j => by simp only [Rep]) ha hb (nomark _)
theorem put_le (ha : PU G X a ta fa) (hb : PU G X b tb fb) : PUT G X (.Compare a [.LtE] [b] pos) (fun Wx => tTest (tOp (rI0 fun i j => .bl (decide (i ≤ j))) (ta Wx) (tb Wx))) (tB' (e2 leW fa fb)) := put_cmp op_le (ops_i0 fun F i j => by simp only [Rep]) ha hb (nomark _)
theorem put_gt (ha : PU G X a ta fa) (hb : PU G X b tb fb) : PUT G X (.Compare a [.Gt] [b] pos) (fun Wx => tTest (tOp (rI0 fun i j => .bl (decide (j < i))) (ta Wx) (tb Wx))) (tB' (e2 gtW fa fb)) := put_cmp op_gt (ops_i0 fun F i j => by simp only [Rep]) ha hb (nomark _)
theorem put_ge (ha : PU G X a ta fa) (hb : PU G X b tb fb) : PUT G X (.Compare a [.GtE] [b] pos) (fun Wx => tTest (tOp (rI0 fun i j => .bl (decide (j ≤ i))) (ta Wx) (tb Wx))) (tB' (e2 geW fa fb)) := put_cmp op_ge (ops_i0 fun F i j => by simp only [Rep]) ha hb (nomark _)
/-! is None -/
def isNW : Op1 := fun M x => match x with
  | .d .non => .ok (.d (.bl true)) M
  | _ => .ok (.d (.bl false)) M
def notNW : Op1 := fun M x => match x with
  | .d .non => .ok (.d (.bl false)) M
  | _ => .ok (.d (.bl true)) M
theorem RepW.non_iff {F : Hp} {θ : List Addr} {w : W} {v : V} (r : RepW G F θ w v) : decide (v = .non) = (match w with | .d .non => true | _ => false) := by
  cases w with
  | cell k => obtain ⟨a, _, rfl⟩ := r; rfl
  | d x =>
    cases x with
    | non => simp only [RepW, Rep] at r; subst r; rfl
    | bl b => simp only [RepW, Rep] at r; subst r; rfl
    | int b => simp only [RepW, Rep] at r; subst r; rfl
    | str b => simp only [RepW, Rep] at r; subst r; rfl
    | tup b => simp only [RepW, Rep] at r; obtain ⟨a, vs, rfl, _⟩ := r; rfl
    | lst b => simp only [RepW, Rep] at r; obtain ⟨a, vs, rfl, _⟩ := r; rfl
    | ktup b => simp only [RepW, Rep] at r; obtain ⟨a, vs, rfl, _⟩ := r; rfl
    | klst b => simp only [RepW, Rep] at r; obtain ⟨a, vs, rfl, _⟩ := r; rfl
    | dct b c => simp only [RepW, Rep] at r; obtain ⟨a, vs, rfl, _⟩ := r; rfl
    | ins b c d => simp only [RepW, Rep] at r; obtain ⟨_, a, dx, vs, rfl, _⟩ := r; rfl
    | cls C => simp only [RepW, Rep] at r; obtain ⟨_, rfl⟩ := r; rfl
    | ty n => simp only [RepW, Rep] at r; subst r; rfl
    | exn C b c => simp only [RepW, Rep] at r; obtain ⟨_, a, d, oe, rfl, _⟩ := r; rfl
theorem sem_isN (ha : SemE G ta fa) : SemE G (fun Wx => tIsN (ta Wx)) (e1 isNW fa) := by
  intro Wx F θ σ H ρ M Q sr hg
  refine ha Wx F θ σ H ρ M _ sr (Good.seq hg fun x M1 F1 θ1 H1 _ l1 p1 hr1 hg1 v rv => ?_)
  show Q (.bl (decide (v = .non))) H1
  rw [rv.non_iff]
  unfold isNW at hg1
  split at hg1
  · exact hg1 F1 θ1 H1 (LE.refl F1) (List.prefix_refl _) hr1 _ (by simp only [RepW, Rep])
  · rename_i hn
    have := hg1 F1 θ1 H1 (LE.refl F1) (List.prefix_refl _) hr1 (.bl false) (by simp only [RepW, Rep])
    split
    · rename_i hh; exact absurd rfl hn
    · exact this
theorem sem_notN (ha : SemE G ta fa) : SemE G (fun Wx => tNotN (ta Wx)) (e1 notNW fa) := by
  intro Wx F θ σ H ρ M Q sr hg
  refine ha Wx F θ σ H ρ M _ sr (Good.seq hg fun x M1 F1 θ1 H1 _ l1 p1 hr1 hg1 v rv => ?_)
  show Q (.bl (!decide (v = .non))) H1
  rw [rv.non_iff]
  unfold notNW at hg1
  split at hg1
  · exact hg1 F1 θ1 H1 (LE.refl F1) (List.prefix_refl _) hr1 _ (by simp only [RepW, Rep, Bool.not_true])
  · rename_i hn
    have := hg1 F1 θ1 H1 (LE.refl F1) (List.prefix_refl _) hr1 (.bl true) (by simp only [RepW, Rep])
    split
    · rename_i hh; exact absurd rfl hn
    · exact this
theorem pu_isN {j pos'} (ha : PU G X a ta fa) : PU G X (.Compare a [.Is] [.Constant .none j pos'] pos) (fun Wx => tIsN (ta Wx)) (e1 isNW fa) := ⟨fun Wx tk => pe_cmp (pc_isN (ha.pe Wx tk)), sem_isN ha.sem⟩
theorem pu_notN {j pos'} (ha : PU G X a ta fa) : PU G X (.Compare a [.IsNot] [.Constant .none j pos'] pos) (fun Wx => tNotN (ta Wx)) (e1 notNW fa) := ⟨fun Wx tk => pe_cmp (pc_notN (ha.pe Wx tk)), sem_notN ha.sem⟩
theorem put_isN {j pos'} (ha : PU G X a ta fa) : PUT G X (.Compare a [.Is] [.Constant .none j pos'] pos) (fun Wx => L2.tB (tIsN (ta Wx))) (tB' (e1 isNW fa)) := ⟨fun Wx tk => pt_cmp (pc_isN (ha.pe Wx tk)), sem_tB (sem_isN ha.sem)⟩
theorem put_notN {j pos'} (ha : PU G X a ta fa) : PUT G X (.Compare a [.IsNot] [.Constant .none j pos'] pos) (fun Wx => L2.tB (tNotN (ta Wx))) (tB' (e1 notNW fa)) := ⟨fun Wx tk => pt_cmp (pc_notN (ha.pe Wx tk)), sem_tB (sem_notN ha.sem)⟩
end
end PU
set_option Elab.async false
set_option linter.all false
set_option maxRecDepth 100000
set_option maxHeartbeats 4000000
namespace PU
open PySem PySem.Spec PyProof.Rows L2
/-! ### == of data -/
mutual
def pyD : D → PyData
  | .non => .none
  | .bl b => .bool b
  | .int i => .int i
  | .str x => .str x
  | .tup ds => .tuple (pyL ds)
  | .lst ds => .list (pyL ds)
  | .ktup ds => .tuple (pyL ds)
  | .klst ds => .list (pyL ds)
  | .dct _ _ => .dict []
  | .ins _ _ _ => .dict []
  | .cls _ => .dict []
  | .ty _ => .dict []
  | .exn _ _ _ => .dict []
def pyL : List D → List PyData
  | [] => []
  | d :: r => pyD d :: pyL r
end
mutual
/-- data without dicts and instances -/
def flatD : D → Bool
  | .tup ds | .lst ds | .ktup ds | .klst ds => flatL ds
  | .dct _ _ => false
  | .ins _ _ _ => false
  | .cls _ => false
  | .ty _ => false
  | .exn _ _ _ => false
  | _ => true
def flatL : List D → Bool
  | [] => true
  | d :: r => flatD d && flatL r
end
def pyW (M : Mem) : W → Option PyData
  | .d x => if flatD x then some (pyD x) else none
  | .cell k => match M[k]? with
    | some (.lst xs) => if flatL xs then some (.list (pyL xs)) else none
    | _ => none
section
variable {G : Glo} {X : Cx} {F : Hp} {θ : List Addr} {H : Hp} {M : Mem}
mutual
theorem dp_of (hs : ∀ a o, F a = some o → H a = some o) : ∀ {d : D} {v : V}, flatD d = true → Rep G F d v → Dp G.K H v (pyD d)
  | .non, _, _, h => by simp only [Rep] at h; subst h; simp only [pyD]; exact .non
  | .bl b, _, _, h => by simp only [Rep] at h; subst h; simp only [pyD]; exact .bl b
  | .int b, _, _, h => by simp only [Rep] at h; subst h; simp only [pyD]; exact .int b
  | .str b, _, _, h => by simp only [Rep] at h; subst h; simp only [pyD]; exact .str b
  | .tup ds, _, q, h => by
    simp only [Rep] at h
    obtain ⟨a, vs, rfl, h1, h2⟩ := h
    simp only [pyD]
    exact .tup (SqT.of (hs _ _ h1)) (dps_of hs (by simpa only [flatD] using q) h2)
  | .lst ds, _, q, h => by
    simp only [Rep] at h
    obtain ⟨a, vs, rfl, h1, h2⟩ := h
    simp only [pyD]
    exact .lst (SqL.of (hs _ _ h1)) (dps_of hs (by simpa only [flatD] using q) h2)
  | .ktup ds, _, q, h => by
    simp only [Rep] at h
    obtain ⟨a, vs, rfl, h1, h2⟩ := h
    simp only [pyD]
    exact .tup (SqT.up h1) (dps_of hs (by simpa only [flatD] using q) h2)
  | .klst ds, _, q, h => by
    simp only [Rep] at h
    obtain ⟨a, vs, rfl, h1, h2⟩ := h
    simp only [pyD]
    exact .lst (SqL.up hs h1) (dps_of hs (by simpa only [flatD] using q) h2)
  | .dct _ _, _, q, _ => by simp [flatD] at q
  | .ins _ _ _, _, q, _ => by simp [flatD] at q
  | .cls _, _, q, _ => by simp [flatD] at q
  | .ty _, _, q, _ => by simp [flatD] at q
  | .exn _ _ _, _, q, _ => by simp [flatD] at q
theorem dps_of (hs : ∀ a o, F a = some o → H a = some o) : ∀ {ds : List D} {vs : List V}, flatL ds = true → RepL G F ds vs → DpAll G.K H vs (pyL ds)
  | [], _, _, h => by simp only [RepL] at h; subst h; simp only [pyL]; exact .nil
  | d :: ds, _, q, h => by
    simp only [RepL] at h
    obtain ⟨v, r, rfl, h1, h2⟩ := h
    simp only [flatL, Bool.and_eq_true] at q
    simp only [pyL]
    exact .cons (dp_of hs q.1 h1) (dps_of hs q.2 h2)
end
theorem dp_w (hr : HR G F θ H M) {w : W} {v : V} {p : PyData} (r : RepW G F θ w v) (h : pyW M w = some p) : Dp G.K H v p := by
  unfold pyW at h
  split at h
  · split at h
    · rename_i q
      cases h
      exact dp_of hr.sub q r
    · cases h
  · rename_i k
    split at h
    · rename_i xs e
      split at h
      · rename_i q
        cases h
        obtain ⟨a, h1, rfl⟩ := r
        obtain ⟨_, vs, z, rl⟩ := hr.cell k a _ h1 e
        exact .lst (SqL.of z) (dps_of hr.sub q rl)
      · cases h
    · cases h
def eqW : Op2 := fun M x y => match pyW M x, pyW M y with
  | some d, some e => if SeqAt.shaped d = true ∧ SeqAt.shaped e = true then .ok (.d (.bl (PyData.eqv d e))) M else .stuck
  | _, _ => .stuck
def neW : Op2 := fun M x y => match pyW M x, pyW M y with
  | some d, some e => if SeqAt.shaped d = true ∧ SeqAt.shaped e = true then .ok (.d (.bl (!PyData.eqv d e))) M else .stuck
  | _, _ => .stuck
theorem ops_eq : OpS G (rEqD G.K) eqW := by
  intro F θ H M x y v u Q Wx hr rx ry hg
  unfold eqW at hg
  split at hg
  · rename_i d e e1 e2
    split at hg
    · rename_i hc
      exact ⟨d, e, dp_w hr rx e1, dp_w hr ry e2, hc.1, hc.2, hg F θ H (LE.refl F) (List.prefix_refl _) hr _ (by simp only [RepW, Rep])⟩
    · exact hg.elim
  · exact hg.elim
theorem ops_ne : OpS G (rNeD G.K) neW := by
  intro F θ H M x y v u Q Wx hr rx ry hg
  unfold neW at hg
  split at hg
  · rename_i d e e1 e2
    split at hg
    · rename_i hc
      exact ⟨d, e, dp_w hr rx e1, dp_w hr ry e2, hc.1, hc.2, hg F θ H (LE.refl F) (List.prefix_refl _) hr _ (by simp only [RepW, Rep])⟩
    · exact hg.elim
  · exact hg.elim
variable {a b c : Expr} {ta tb tc : L2.WX → TE} {fa fb fc : Ev} {pos : Pos} {k : Nat}
theorem pu_eq (hr : Room k X.A) (ha : PU G X a ta fa) (hb : PU G X b tb fb) (hK : X.K = G.K := by rfl) : PU G X (.Compare a [.Eq] [b] pos) (fun Wx => tOp (rEqD G.K) (ta Wx) (tb Wx)) (e2 eqW fa fb) := pu_cmp (hK ▸ op_eqD hr.units) ops_eq ha hb (nomark _)
theorem pu_ne (hr : Room k X.A) (ha : PU G X a ta fa) (hb : PU G X b tb fb) (hK : X.K = G.K := by rfl) : PU G X (.Compare a [.NotEq] [b] pos) (fun Wx => tOp (rNeD G.K) (ta Wx) (tb Wx)) (e2 neW fa fb) := pu_cmp (hK ▸ op_neD hr.units) ops_ne ha hb (nomark _)
theorem put_eq (hr : Room k X.A) (ha : PU G X a ta fa) (hb : PU G X b tb fb) (hK : X.K = G.K := by rfl) : PUT G X (.Compare a [.Eq] [b] pos) (fun Wx => tTest (tOp (rEqD G.K) (ta Wx) (tb Wx))) (tB' (e2 eqW fa fb)) := put_cmp (hK ▸ op_eqD hr.units) ops_eq ha hb (nomark _)
theorem put_ne (hr : Room k X.A) (ha : PU G X a ta fa) (hb : PU G X b tb fb) (hK : X.K = G.K := by rfl) : PUT G X (.Compare a [.NotEq] [b] pos) (fun Wx => tTest (tOp (rNeD G.K) (ta Wx) (tb Wx))) (tB' (e2 neW fa fb)) := put_cmp (hK ▸ op_neD hr.units) ops_ne ha hb (nomark _)

/-! ### in -/
def keyW (M : Mem) : W → Option (Sum Key (List Key))
  | .d x => match keyD x with
    | some k => some (.inl k)
    | none => match keyT x with
      | some k => some (.inr k)
      | none => none
  | .cell _ => none
/-- the keys and values of a dict -/
def viewD (M : Mem) : W → Option (List D × List D)
  | .d (.dct ks vs) => some (ks, vs)
  | .cell k => match M[k]? with
    | some (.dct ks vs) => some (ks, vs)
    | some (.dcT ks vs) => some (ks, vs)
    | _ => none
  | _ => none
/-! ### and, or, not, if -/
variable {pa pb pc : L2.WX → TT} {ga gb gc : Tv} {rest : List Expr}
def tAnd' (f g : Tv) : Tv := fun ρ M => (f ρ M).bind fun b M1 => if b then g ρ M1 else .ok false M1
def tOr' (f g : Tv) : Tv := fun ρ M => (f ρ M).bind fun b M1 => if b then .ok true M1 else g ρ M1
def tNot' (f : Tv) : Tv := fun ρ M => (f ρ M).bind fun b M1 => .ok (!b) M1
theorem sem_and (ha : SemT G pa ga) (hb : SemT G pb gb) : SemT G (fun Wx => tAnd (pa Wx) (pb Wx)) (tAnd' ga gb) := by
  intro Wx F θ σ H ρ M Q sr hg
  refine ha Wx F θ σ H ρ M _ sr (Good.seq hg fun x M1 F1 θ1 H1 _ l1 p1 hr1 hg1 => ?_)
  cases x with
  | true => exact hb Wx F1 θ1 σ H1 ρ M1 Q (sr.mono l1 p1 hr1) hg1
  | false => exact hg1 F1 θ1 H1 (LE.refl F1) (List.prefix_refl _) hr1
theorem sem_or (ha : SemT G pa ga) (hb : SemT G pb gb) : SemT G (fun Wx => tOr (pa Wx) (pb Wx)) (tOr' ga gb) := by
  intro Wx F θ σ H ρ M Q sr hg
  refine ha Wx F θ σ H ρ M _ sr (Good.seq hg fun x M1 F1 θ1 H1 _ l1 p1 hr1 hg1 => ?_)
  cases x with
  | false => exact hb Wx F1 θ1 σ H1 ρ M1 Q (sr.mono l1 p1 hr1) hg1
  | true => exact hg1 F1 θ1 H1 (LE.refl F1) (List.prefix_refl _) hr1
theorem puw_and1 (ha : PUT G X a pa ga) : PUW G X (.BoolOp .And [a] pos) pa ga := ⟨fun Wx tk => pw_and1 (ha.pe Wx tk), ha.sem⟩
theorem puw_or1 (ha : PUT G X a pa ga) : PUW G X (.BoolOp .Or [a] pos) pa ga := ⟨fun Wx tk => pw_or1 (ha.pe Wx tk), ha.sem⟩
theorem puw_and (ha : PUT G X a pa ga) (hb : PUW G X (.BoolOp .And (b :: rest) pos) pb gb) : PUW G X (.BoolOp .And (a :: b :: rest) pos) (fun Wx => tAnd (pa Wx) (pb Wx)) (tAnd' ga gb) := ⟨fun Wx tk => pw_and (ha.pe Wx tk) (hb.pe Wx tk), sem_and ha.sem hb.sem⟩
theorem puw_or (ha : PUT G X a pa ga) (hb : PUW G X (.BoolOp .Or (b :: rest) pos) pb gb) : PUW G X (.BoolOp .Or (a :: b :: rest) pos) (fun Wx => tOr (pa Wx) (pb Wx)) (tOr' ga gb) := ⟨fun Wx tk => pw_or (ha.pe Wx tk) (hb.pe Wx tk), sem_or ha.sem hb.sem⟩
theorem put_w (h : PUW G X a pa ga) : PUT G X a pa ga := ⟨fun Wx tk => (h.pe Wx tk).pt, h.sem⟩
theorem put_not (ha : PUT G X a pa ga) : PUT G X (.UnaryOp .Not a pos) (fun Wx => tNot (pa Wx)) (tNot' ga) := by
  refine ⟨fun Wx tk => pt_not (ha.pe Wx tk), ?_⟩
  intro Wx F θ σ H ρ M Q sr hg
  refine ha.sem Wx F θ σ H ρ M _ sr (Good.seq hg fun x M1 F1 θ1 H1 _ l1 p1 hr1 hg1 => ?_)
  exact hg1 F1 θ1 H1 (LE.refl F1) (List.prefix_refl _) hr1
/-- as values: all but the last are True or False -/
def eAnd (f g : Ev) : Ev := fun ρ M => (f ρ M).bind fun x M1 => (truB x M1).bind fun b M2 => if b then g ρ M2 else .ok (.d (.bl false)) M2
def eOr (f g : Ev) : Ev := fun ρ M => (f ρ M).bind fun x M1 => (truB x M1).bind fun b M2 => if b then .ok (.d (.bl true)) M2 else g ρ M2
theorem pu_one {op} (ha : PU G X a ta fa) : PU G X (.BoolOp op [a] pos) ta fa := ⟨fun Wx tk => pe_one (ha.pe Wx tk), ha.sem⟩
theorem truB_cases {w : W} {v : V} {M : Mem} {P : Hp → List Addr → Hp → W → Prop} {Wx : Value → Option Addr → Hp → Prop} {k : Bool → Mem → R W} (r : RepW G F θ w v) (hg : Good G F θ P Wx ((truB w M).bind k)) : ∃ b, v = .bl b ∧ Good G F θ P Wx (k b M) := by
  unfold truB at hg
  split at hg
  · rename_i b
    simp only [RepW, Rep] at r
    exact ⟨b, r, hg⟩
  · exact hg.elim
theorem pu_and (ha : PU G X a ta fa) (hb : PU G X (.BoolOp .And (b :: rest) pos) tb fb) : PU G X (.BoolOp .And (a :: b :: rest) pos) (fun Wx => tAndV (ta Wx) (tb Wx)) (eAnd fa fb) := by
  refine ⟨fun Wx tk => pe_and (ha.pe Wx tk) (hb.pe Wx tk), ?_⟩
  intro Wx F θ σ H ρ M Q sr hg
  refine ha.sem Wx F θ σ H ρ M _ sr (Good.seq hg fun x M1 F1 θ1 H1 _ l1 p1 hr1 hg1 v rv => ?_)
  obtain ⟨c, e, hg2⟩ := truB_cases rv hg1
  refine ⟨c, e, ?_⟩
  cases c with
  | true => exact hb.sem Wx F1 θ1 σ H1 ρ M1 Q (sr.mono l1 p1 hr1) hg2
  | false => exact hg2 F1 θ1 H1 (LE.refl F1) (List.prefix_refl _) hr1 _ (by simp only [RepW, Rep])
theorem pu_or (ha : PU G X a ta fa) (hb : PU G X (.BoolOp .Or (b :: rest) pos) tb fb) : PU G X (.BoolOp .Or (a :: b :: rest) pos) (fun Wx => tOrV (ta Wx) (tb Wx)) (eOr fa fb) := by
  refine ⟨fun Wx tk => pe_or (ha.pe Wx tk) (hb.pe Wx tk), ?_⟩
  intro Wx F θ σ H ρ M Q sr hg
  refine ha.sem Wx F θ σ H ρ M _ sr (Good.seq hg fun x M1 F1 θ1 H1 _ l1 p1 hr1 hg1 v rv => ?_)
  obtain ⟨c, e, hg2⟩ := truB_cases rv hg1
  refine ⟨c, e, ?_⟩
  cases c with
  | false => exact hb.sem Wx F1 θ1 σ H1 ρ M1 Q (sr.mono l1 p1 hr1) hg2
  | true => exact hg2 F1 θ1 H1 (LE.refl F1) (List.prefix_refl _) hr1 _ (by simp only [RepW, Rep])
def eIf (t : Tv) (f g : Ev) : Ev := fun ρ M => (t ρ M).bind fun b M1 => if b then f ρ M1 else g ρ M1
theorem pu_if (ht : PUT G X c pc gc) (ha : PU G X a ta fa) (hb : PU G X b tb fb) : PU G X (.IfExp c a b pos) (fun Wx => tIf (pc Wx) (ta Wx) (tb Wx)) (eIf gc fa fb) := by
  refine ⟨fun Wx tk => pe_ifExp (ht.pe Wx tk) (ha.pe Wx tk) (hb.pe Wx tk), ?_⟩
  intro Wx F θ σ H ρ M Q sr hg
  refine ht.sem Wx F θ σ H ρ M _ sr (Good.seq hg fun x M1 F1 θ1 H1 _ l1 p1 hr1 hg1 => ?_)
  cases x with
  | true => exact ha.sem Wx F1 θ1 σ H1 ρ M1 Q (sr.mono l1 p1 hr1) hg1
  | false => exact hb.sem Wx F1 θ1 σ H1 ρ M1 Q (sr.mono l1 p1 hr1) hg1
/-- a < b < c -/
def eChain (g g' : Op2) (fa fb fc : Ev) : Ev := fun ρ M => (fa ρ M).bind fun x M1 => (fb ρ M1).bind fun y M2 => (g M2 x y).bind fun z M3 => (truB z M3).bind fun k M4 => if k then (fc ρ M4).bind fun w M5 => g' M5 y w else .ok (.d (.bl false)) M4

/-! ### several expressions -/
variable {es : List Expr} {t : L2.WX → TA} {fs : Av} {e : Expr} {te : L2.WX → TE} {fe : Ev}
def aNil : Av := fun _ M => .ok [] M
def aCons (f : Ev) (g : Av) : Av := fun ρ M => (f ρ M).bind fun x M1 => (g ρ M1).bind fun xs M2 => .ok (x :: xs) M2
theorem pua_nil : PUA G X [] (fun _ => tNil) aNil := ⟨fun _ _ => pa_nil, fun Wx F θ σ H ρ M Q sr hg => hg F θ H (LE.refl F) (List.prefix_refl _) sr.hr [] rfl⟩
theorem sem_cons (he : SemE G te fe) (hs : SemA G t fs) : SemA G (fun Wx => tCons (te Wx) (t Wx)) (aCons fe fs) := by
  intro Wx F θ σ H ρ M Q sr hg
  refine he Wx F θ σ H ρ M _ sr (Good.seq hg fun x M1 F1 θ1 H1 _ l1 p1 hr1 hg1 v rv => ?_)
  refine hs Wx F1 θ1 σ H1 ρ M1 _ (sr.mono l1 p1 hr1) (Good.seq hg1 fun xs M2 F2 θ2 H2 _ l2 p2 hr2 hg2 vs rvs => ?_)
  exact hg2 F2 θ2 H2 (LE.refl F2) (List.prefix_refl _) hr2 (v :: vs) ⟨v, vs, rfl, rv.mono l2 p2, rvs⟩
theorem pua_cons (he : PU G X e te fe) (hs : PUA G X es t fs) (hst : starEach (e :: es) X.env = (false, eval e X.env) :: starEach es X.env := by rfl) : PUA G X (e :: es) (fun Wx => tCons (te Wx) (t Wx)) (aCons fe fs) :=
  ⟨fun Wx tk => pa_cons (he.pe Wx tk) (hs.pe Wx tk) hst, sem_cons he.sem hs.sem⟩
/-- all are plain data -/
def allD : List W → Option (List D)
  | [] => some []
  | .d x :: r => (allD r).map (x :: ·)
  | .cell _ :: _ => none
theorem allD_ok : ∀ {ws : List W} {vs : List V} {ds : List D}, RepWL G F θ ws vs → allD ws = some ds → RepL G F ds vs
  | [], _, _, h, e => by simp only [allD] at e; cases e; rw [h]; exact RepL.nil
  | .d x :: r, _, _, h, e => by
    obtain ⟨v, u, rfl, h1, h2⟩ := h
    simp only [allD] at e
    obtain ⟨ds, e1, rfl⟩ := Option.map_eq_some_iff.mp e
    exact RepL.cons h1 (allD_ok h2 e1)
  | .cell _ :: _, _, _, _, e => by simp [allD] at e
def tupW (ws : List W) (M : Mem) : R W := match allD ws with
  | some ds => if ds.length ≤ sizeLine then .ok (.d (.tup ds)) M else .stuck
  | none => .stuck
def lstW (ws : List W) (M : Mem) : R W := match allD ws with
  | some ds => if ds.length ≤ sizeLine then .ok (.d (.lst ds)) M else .stuck
  | none => .stuck
/-- a list that will be changed -/
def lstC (ws : List W) (M : Mem) : R W := match allD ws with
  | some ds => if ds.length ≤ sizeLine then .ok (.cell M.length) (M ++ [.lst ds]) else .stuck
  | none => .stuck
def eA (g : List W → Mem → R W) (f : Av) : Ev := fun ρ M => (f ρ M).bind g
theorem pu_tup {x1} (h : PUA G X es t fs) : PU G X (.Tuple es x1 pos) (fun Wx => tTup (t Wx)) (eA tupW fs) := by
  refine ⟨fun Wx tk => pe_tup (h.pe Wx tk), ?_⟩
  intro Wx F θ σ H ρ M Q sr hg
  refine h.sem Wx F θ σ H ρ M _ sr (Good.seq hg fun ws M1 F1 θ1 H1 _ l1 p1 hr1 hg1 vs rvs => ?_)
  unfold tupW at hg1
  split at hg1
  · rename_i ds e
    have rl := allD_ok rvs e
    split at hg1
    · rename_i hz
      refine ⟨by rw [rl.length]; exact hz, fun p hp => ?_⟩
      obtain ⟨hr', le⟩ := hr1.alloc hp (.tup vs)
      refine hg1 _ θ1 _ le (List.prefix_refl _) hr' _ ?_
      simp only [RepW, Rep]
      exact ⟨p, _, rfl, upd_same, rl.mono le⟩
    · exact hg1.elim
  · exact hg1.elim
theorem pu_lst (h : PUA G X es t fs) : PU G X (.List es pos) (fun Wx => tLst (t Wx)) (eA lstW fs) := by
  refine ⟨fun Wx tk => pe_lst (h.pe Wx tk), ?_⟩
  intro Wx F θ σ H ρ M Q sr hg
  refine h.sem Wx F θ σ H ρ M _ sr (Good.seq hg fun ws M1 F1 θ1 H1 _ l1 p1 hr1 hg1 vs rvs => ?_)
  unfold lstW at hg1
  split at hg1
  · rename_i ds e
    have rl := allD_ok rvs e
    split at hg1
    · rename_i hz
      refine ⟨by rw [rl.length]; exact hz, fun p hp => ?_⟩
      obtain ⟨hr', le⟩ := hr1.alloc hp (.lst vs)
      refine hg1 _ θ1 _ le (List.prefix_refl _) hr' _ ?_
      simp only [RepW, Rep]
      exact ⟨p, _, rfl, upd_same, rl.mono le⟩
    · exact hg1.elim
  · exact hg1.elim
theorem pu_lstC (h : PUA G X es t fs) : PU G X (.List es pos) (fun Wx => tLst (t Wx)) (eA lstC fs) := by
  refine ⟨fun Wx tk => pe_lst (h.pe Wx tk), ?_⟩
  intro Wx F θ σ H ρ M Q sr hg
  refine h.sem Wx F θ σ H ρ M _ sr (Good.seq hg fun ws M1 F1 θ1 H1 _ l1 p1 hr1 hg1 vs rvs => ?_)
  unfold lstC at hg1
  split at hg1
  · rename_i ds e
    have rl := allD_ok rvs e
    split at hg1
    · rename_i hz
      refine ⟨by rw [rl.length]; exact hz, fun p hp => ?_⟩
      have hF : F1 p = none := by
        cases e : F1 p with
        | none => rfl
        | some u => have := hr1.sub p u e; rw [hp] at this; cases this
      have hr' := hr1.push (c := .lst ds) hp (o := .lst vs) ⟨hF, vs, upd_same, rl⟩
      refine hg1 F1 (θ1 ++ [p]) _ (LE.refl _) (List.prefix_append _ _) hr' _ ?_
      refine ⟨p, ?_, rfl⟩
      rw [← hr1.len]
      simp
    · exact hg1.elim
  · exact hg1.elim

/-! ### items, slices -/
def atD (xs : List D) (i : Int) : Option D := atI xs i
theorem atD_ok {xs : List D} {vs : List V} {i : Int} {d : D} (r : RepL G F xs vs) (h : atI xs i = some d) : ∃ v, atI vs i = some v ∧ Rep G F d v := by
  unfold atI at h ⊢
  rw [r.length]
  cases e : ixN xs.length i with
  | none => rw [e] at h; cases h
  | some j =>
    rw [e] at h
    exact r.get h
def ixW : Op2 := fun M x y => match y with
  | .d (.int i) => match viewL M x with
    | some xs => match atI xs i with
      | some d => .ok (.d d) M
      | none => .stuck
    | none => match viewT x with
      | some xs => match atI xs i with
        | some d => .ok (.d d) M
        | none => .stuck
      | none => match x with
        | .d (.str z) => if z.length ≤ sizeLine then match atI z.cps.toList i with
          | some c => .ok (.d (.str ⟨#[c]⟩)) M
          | none => .stuck
          else .stuck
        | _ => .stuck
  | _ => .stuck
theorem ops_ix : OpS G (rIx G.K) ixW := by
  intro F θ H M x y v u Q Wx hr rx ry hg
  unfold ixW at hg
  split at hg
  · rename_i i
    simp only [RepW, Rep] at ry
    split at hg
    · rename_i xs e
      split at hg
      · rename_i d ed
        obtain ⟨a, vs, ea, h1, h2⟩ := viewL_ok hr rx e
        obtain ⟨z, ez, rz⟩ := atD_ok h2 ed
        exact .inl ⟨a, vs, i, z, ea, ry, h1, ez, hg F θ H (LE.refl F) (List.prefix_refl _) hr z rz⟩
      · exact hg.elim
    · split at hg
      · rename_i xs e
        split at hg
        · rename_i d ed
          obtain ⟨a, vs, ea, h1, h2⟩ := viewT_ok hr rx e
          obtain ⟨z, ez, rz⟩ := atD_ok h2 ed
          exact .inr (.inl ⟨a, vs, i, z, ea, ry, h1, ez, hg F θ H (LE.refl F) (List.prefix_refl _) hr z rz⟩)
        · exact hg.elim
      · split at hg
        · rename_i z _ _
          split at hg
          · rename_i hz
            split at hg
            · rename_i c ec
              simp only [RepW, Rep] at rx
              exact .inr (.inr ⟨z, i, c, rx, ry, hz, ec, hg F θ H (LE.refl F) (List.prefix_refl _) hr _ (by simp only [RepW, Rep])⟩)
            · exact hg.elim
          · exact hg.elim
        · exact hg.elim
  · exact hg.elim
theorem pu_ix (ha : PU G X a ta fa) (hb : PU G X b tb fb) (hs : PlainIx b := by exact fun _ _ => rfl) (hK : X.K = G.K := by rfl) : PU G X (.Subscript a b pos) (fun Wx => tOp (rIx G.K) (ta Wx) (tb Wx)) (e2 ixW fa fb) :=
  ⟨fun Wx tk => pe_ix (hK ▸ ix_seq) (ha.pe Wx tk) (hb.pe Wx tk) hs, sem_2 ops_ix ha.sem hb.sem⟩
end
end PU
set_option Elab.async false
set_option linter.all false
set_option maxRecDepth 100000
set_option maxHeartbeats 4000000
namespace PU
open PySem PySem.Spec PyProof.Rows L2
section
variable {G : Glo} {X : Cx} {a b c : Expr} {ta tb tc : L2.WX → TE} {fa fb fc : Ev} {pos p2 : Pos} {k : Nat}
/-! ### slices -/
abbrev Ov := Env → Mem → R (Option Int)
abbrev postO (Q : Option Int → Hp → Prop) : Hp → List Addr → Hp → Option Int → Prop := fun _ _ H' b => Q b H'
def SemO (G : Glo) (t : L2.WX → TO) (f : Ov) : Prop := ∀ (Wx : L2.WX) (F : Hp) (θ : List Addr) (σ : L2.St) (H : Hp) (ρ : Env) (M : Mem) (Q : Option Int → Hp → Prop),
  SR G F θ σ H ρ M → Good G F θ (postO Q) (fun c d H' => Wx c d σ H') (f ρ M) → t Wx σ H Q
structure PUO (G : Glo) (X : Cx) (e : Option Expr) (t : L2.WX → TO) (f : Ov) : Prop where
  pe : ∀ Wx, Takes X Wx → PO X e (t Wx)
  sem : SemO G t f
def oNone : Ov := fun _ M => .ok none M
def oSome (f : Ev) : Ov := fun ρ M => (f ρ M).bind fun x M1 => match x with
  | .d (.int i) => .ok (some i) M1
  | _ => .stuck
theorem puo_none : PUO G X none (fun _ => tNoPart) oNone := ⟨fun _ _ => po_none, fun Wx F θ σ H ρ M Q sr hg => hg F θ H (LE.refl F) (List.prefix_refl _) sr.hr⟩
theorem puo_some (ha : PU G X a ta fa) : PUO G X (some a) (fun Wx => tPart (ta Wx)) (oSome fa) := by
  refine ⟨fun Wx tk => po_some (ha.pe Wx tk), ?_⟩
  intro Wx F θ σ H ρ M Q sr hg
  refine ha.sem Wx F θ σ H ρ M _ sr (Good.seq hg fun x M1 F1 θ1 H1 _ l1 p1 hr1 hg1 v rv => ?_)
  split at hg1
  · simp only [RepW, Rep] at rv
    exact ⟨_, rv, hg1 F1 θ1 H1 (LE.refl F1) (List.prefix_refl _) hr1⟩
  · exact hg1.elim
def cutD (xs : List D) (lo hi : Option Int) : List D := (xs.drop (HT.sIx xs.length 0 lo)).take (HT.sIx xs.length xs.length hi - HT.sIx xs.length 0 lo)
theorem cutD_ok {F : Hp} {xs : List D} {vs : List V} (lo hi : Option Int) (r : RepL G F xs vs) : RepL G F (cutD xs lo hi) (cutV vs lo hi) := by
  unfold cutD cutV
  rw [r.length]
  exact (r.drop _).take _
abbrev Op3 := Mem → W → Option Int → Option Int → R W
def eSl (g : Op3) (fa : Ev) (lo hi : Ov) : Ev := fun ρ M => (fa ρ M).bind fun x M1 => (lo ρ M1).bind fun l M2 => (hi ρ M2).bind fun u M3 => g M3 x l u
def slW : Op3 := fun M x lo hi => match viewL M x with
  | some xs => .ok (.d (.lst (cutD xs lo hi))) M
  | none => match viewT x with
    | some xs => if HT.sIx xs.length 0 lo = 0 ∧ HT.sIx xs.length xs.length hi = xs.length then .ok x M else .ok (.d (.tup (cutD xs lo hi))) M
    | none => match x with
      | .d (.str z) => if z.length ≤ sizeLine then .ok (.d (.str (cutS z lo hi))) M else .stuck
      | _ => .stuck
def rSlLR : V → Option Int → Option Int → Hp → VK → Prop := fun x lo hi H Q => ∃ a xs, x = .ref a ∧ Rd H a (.lst xs) ∧ ∀ p, H p = none → Q (.ref p) (upd H p (.lst (cutV xs lo hi)))
theorem sl_listR : SlR X rSlLR := by
  intro pins s σ H x v vl vu lo hi sl Q I rx hs pl pu ⟨a, xs, e, hq, q⟩
  exact L2.sl_list pins s σ H x v vl vu lo hi sl Q I rx hs pl pu ⟨a, xs, e, .inl hq, q⟩
variable {lo hi : Option Expr} {tl th : L2.WX → TO} {fl fh : Ov}
theorem pu_slice (ha : PU G X a ta fa) (hl : PUO G X lo tl fl) (hh : PUO G X hi th fh) (hK : X.K = G.K := by rfl) : PU G X (.Subscript a (.Slice lo hi none p2) pos) (fun Wx => tSl (fun x lo hi H Q => rSlL G.K x lo hi H Q ∨ (rSlA G.K x lo hi H Q ∨ rSlS x lo hi H Q)) (ta Wx) (tl Wx) (th Wx)) (eSl slW fa fl fh) := by
  refine ⟨fun Wx tk => pe_slice ((hK ▸ sl_list).or ((hK ▸ sl_tupA).or sl_str)) (ha.pe Wx tk) (hl.pe Wx tk) (hh.pe Wx tk), ?_⟩
  intro Wx F θ σ H ρ M Q sr hg
  refine ha.sem Wx F θ σ H ρ M _ sr (Good.seq hg fun x M1 F1 θ1 H1 _ l1 p1 hr1 hg1 v rv => ?_)
  refine hl.sem Wx F1 θ1 σ H1 ρ M1 _ (sr.mono l1 p1 hr1) (Good.seq hg1 fun l M2 F2 θ2 H2 _ l2 p2 hr2 hg2 => ?_)
  refine hh.sem Wx F2 θ2 σ H2 ρ M2 _ ((sr.mono l1 p1 hr1).mono l2 p2 hr2) (Good.seq hg2 fun u M3 F3 θ3 H3 _ l3 p3 hr3 hg3 => ?_)
  have rx := (rv.mono l2 p2).mono l3 p3
  unfold slW at hg3
  split at hg3
  · rename_i xs e
    obtain ⟨p, vs, ea, h1, h2⟩ := viewL_ok hr3 rx e
    refine .inl ⟨p, vs, ea, h1, fun q hq => ?_⟩
    obtain ⟨hr', le⟩ := hr3.alloc hq (.lst (cutV vs l u))
    refine hg3 _ θ3 _ le (List.prefix_refl _) hr' _ ?_
    simp only [RepW, Rep]
    exact ⟨q, _, rfl, upd_same, cutD_ok l u (h2.mono le)⟩
  · split at hg3
    · rename_i xs e
      split at hg3
      · rename_i hc
        obtain ⟨p, vs, ea, h1, h2⟩ := viewT_ok hr3 rx e
        subst ea
        exact .inr (.inl ⟨p, vs, rfl, h1, fun _ => hg3 F3 θ3 H3 (LE.refl _) (List.prefix_refl _) hr3 _ rx, fun z => absurd (by rw [h2.length]; exact hc) z⟩)
      · rename_i hc
        obtain ⟨p, vs, ea, h1, h2⟩ := viewT_ok hr3 rx e
        refine .inr (.inl ⟨p, vs, ea, h1, fun z => absurd (by rw [← h2.length]; exact z) hc, fun _ q hq => ?_⟩)
        obtain ⟨hr', le⟩ := hr3.alloc hq (.tup (cutV vs l u))
        refine hg3 _ θ3 _ le (List.prefix_refl _) hr' _ ?_
        simp only [RepW, Rep]
        exact ⟨q, _, rfl, upd_same, cutD_ok l u (h2.mono le)⟩
    · split at hg3
      · rename_i z _ _ _
        split at hg3
        · rename_i hz
          simp only [RepW, Rep] at rx
          exact .inr (.inr ⟨z, rx, hz, hg3 F3 θ3 H3 (LE.refl _) (List.prefix_refl _) hr3 _ (by simp only [RepW, Rep])⟩)
        · exact hg3.elim
      · exact hg3.elim

/-! ### calls of built-in functions -/
abbrev OpN := List W → Mem → R W
def CallS (G : Glo) (r : List V → Hp → VK → Prop) (g : OpN) : Prop := ∀ (F : Hp) (θ : List Addr) (H : Hp) (M : Mem) (xs : List W) (vs : List V) (Q : VK) (Wx : Value → Option Addr → Hp → Prop),
  HR G F θ H M → RepWL G F θ xs vs → Good G F θ (postE G Q) Wx (g xs M) → r vs H Q
variable {es : List Expr} {t : L2.WX → TA} {fs : Av} {e : Expr} {te : L2.WX → TE} {fe : Ev} {x : Str} {p : Pos} {bid T : String}
theorem sem_call {r : List V → Hp → VK → Prop} {g : OpN} (hs : CallS G r g) (ha : SemA G t fs) : SemE G (fun Wx => tCB r (t Wx)) (eA g fs) := by
  intro Wx F θ σ H ρ M Q sr hg
  refine ha Wx F θ σ H ρ M _ sr (Good.seq hg fun ws M1 F1 θ1 H1 _ l1 p1 hr1 hg1 vs rvs => ?_)
  exact hs F1 θ1 H1 M1 ws vs Q _ hr1 rvs hg1
theorem pu_callB {r : List V → Hp → VK → Prop} {g : OpN} (hc : CallR X (.builtin bid) r) (hs : CallS G r g) (hm : X.mg x = none) (hv : bootBuiltins x = some (.builtin bid)) (ha : PUA G X (e :: es) t fs) (hg : L2.Gl X x := by rfl) (hn : x ≠ "__name__" := by decide +kernel) (hdb : (x == ("__debug__" : Str)) = false := by decide +kernel)
    (he : starEach (e :: es) X.env = (false, eval e X.env) :: starEach es X.env := by rfl) (hpl : (backTo pos (starEach es X.env)).any (·.1) = false := by rfl) : PU G X (.Call (.Name x p) (e :: es) [] pos) (fun Wx => tCB r (t Wx)) (eA g fs) :=
  ⟨fun Wx tk => pe_callB hc hg hm hv (ha.pe Wx tk) hn hdb he hpl, sem_call hs ha.sem⟩
theorem pu_callTy {r : List V → Hp → VK → Prop} {g : OpN} (hc : CallR X (.type T) r) (hs : CallS G r g) (hm : X.mg x = none) (hv : bootBuiltins x = some (.type T)) (ha : PUA G X (e :: es) t fs) (hg : L2.Gl X x := by rfl) (hn : x ≠ "__name__" := by decide +kernel) (hdb : (x == ("__debug__" : Str)) = false := by decide +kernel)
    (he : starEach (e :: es) X.env = (false, eval e X.env) :: starEach es X.env := by rfl) (hpl : (backTo pos (starEach es X.env)).any (·.1) = false := by rfl) : PU G X (.Call (.Name x p) (e :: es) [] pos) (fun Wx => tCB r (t Wx)) (eA g fs) :=
  ⟨fun Wx tk => pe_callTy hc hg hm hv (ha.pe Wx tk) hn hdb he hpl, sem_call hs ha.sem⟩
theorem RepWL.one {F : Hp} {θ : List Addr} {w : W} {vs : List V} (h : RepWL G F θ [w] vs) : ∃ v, vs = [v] ∧ RepW G F θ w v := by
  obtain ⟨v, r, rfl, h1, h2⟩ := h
  simp only [RepWL] at h2
  subst h2
  exact ⟨v, rfl, h1⟩
theorem RepWL.two {F : Hp} {θ : List Addr} {w u : W} {vs : List V} (h : RepWL G F θ [w, u] vs) : ∃ v z, vs = [v, z] ∧ RepW G F θ w v ∧ RepW G F θ u z := by
  obtain ⟨v, r, rfl, h1, h2⟩ := h
  obtain ⟨z, rfl, h3⟩ := RepWL.one h2
  exact ⟨v, z, rfl, h1, h3⟩
/-! len -/
def lenW : OpN := fun ws M => match ws with
  | [w] => match viewL M w with
    | some xs => .ok (.d (.int xs.length)) M
    | none => match viewT w with
      | some xs => .ok (.d (.int xs.length)) M
      | none => match w with
        | .d (.str z) => if z.length ≤ sizeLine then .ok (.d (.int z.length)) M else .stuck
        | _ => .stuck
  | _ => .stuck
abbrev rLenA (K : PySem.W.Frag) : List V → Hp → VK → Prop := fun xs H Q => ∃ x n, xs = [x] ∧ LenV K x H n ∧ Q (.int n) H
theorem calls_len : CallS G (rLenA G.K) lenW := by
  intro F θ H M ws vs Q Wx hr rw' hg
  unfold lenW at hg
  split at hg
  · rename_i w
    obtain ⟨v, rfl, rv⟩ := RepWL.one rw'
    split at hg
    · rename_i xs e
      obtain ⟨p, us, rfl, h1, h2⟩ := viewL_ok hr rv e
      exact ⟨_, us.length, rfl, .inl ⟨us, h1, rfl⟩, hg F θ H (LE.refl F) (List.prefix_refl _) hr _ (by simp only [RepW, Rep]; rw [h2.length])⟩
    · split at hg
      · rename_i xs e
        obtain ⟨p, us, rfl, h1, h2⟩ := viewT_ok hr rv e
        exact ⟨_, us.length, rfl, .inr ⟨us, h1, rfl⟩, hg F θ H (LE.refl F) (List.prefix_refl _) hr _ (by simp only [RepW, Rep]; rw [h2.length])⟩
      · split at hg
        · split at hg
          · rename_i z _ _ hz
            simp only [RepW, Rep] at rv
            subst rv
            exact ⟨_, _, rfl, ⟨hz, rfl⟩, hg F θ H (LE.refl F) (List.prefix_refl _) hr _ (by simp only [RepW, Rep])⟩
          · exact hg.elim
        · exact hg.elim
  · exact hg.elim
theorem pu_len (hm : X.mg "len" = none) (ha : PUA G X [e] t fs) (hK : X.K = G.K := by rfl) (hg : L2.Gl X "len" := by rfl) (he : starEach (e :: []) X.env = (false, eval e X.env) :: starEach [] X.env := by rfl) (hpl : (backTo pos (starEach [] X.env)).any (·.1) = false := by rfl) :
    PU G X (.Call (.Name "len" p) [e] [] pos) (fun Wx => tCB (rLenA G.K) (t Wx)) (eA lenW fs) := pu_callB (hK ▸ call_len) calls_len hm boot_len ha hg (by decide +kernel) (by decide +kernel) he hpl
/-! abs, int, min, max, divmod -/
def absW : OpN := fun ws M => match ws with
  | [.d (.int i)] => .ok (.d (.int (if i < 0 then -i else i))) M
  | _ => .stuck
abbrev rAbsA : List V → Hp → VK → Prop := fun xs H Q => ∃ i, xs = [.int i] ∧ Q (.int (if i < 0 then -i else i)) H
theorem calls_abs : CallS G rAbsA absW := by
  intro F θ H M ws vs Q Wx hr rw' hg
  unfold absW at hg
  split at hg
  · rename_i i
    obtain ⟨v, rfl, rv⟩ := RepWL.one rw'
    simp only [RepW, Rep] at rv
    subst rv
    exact ⟨i, rfl, hg F θ H (LE.refl F) (List.prefix_refl _) hr _ (by simp only [RepW, Rep])⟩
  · exact hg.elim
theorem pu_abs (hm : X.mg "abs" = none) (ha : PUA G X [e] t fs) (hg : L2.Gl X "abs" := by rfl) (he : starEach (e :: []) X.env = (false, eval e X.env) :: starEach [] X.env := by rfl) (hpl : (backTo pos (starEach [] X.env)).any (·.1) = false := by rfl) :
    PU G X (.Call (.Name "abs" p) [e] [] pos) (fun Wx => tCB rAbsA (t Wx)) (eA absW fs) := pu_callB call_abs calls_abs hm (by decide +kernel) ha hg (by decide +kernel) (by decide +kernel) he hpl
def intW : OpN := fun ws M => match ws with
  | [.d (.int i)] => .ok (.d (.int i)) M
  | [.d (.bl b)] => .ok (.d (.int (if b then 1 else 0))) M
  | _ => .stuck
abbrev rIntA : List V → Hp → VK → Prop := fun xs H Q => (∃ i, xs = [.int i] ∧ Q (.int i) H) ∨ ∃ k, xs = [.bl k] ∧ Q (.int (if k then 1 else 0)) H
theorem calls_int : CallS G rIntA intW := by
  intro F θ H M ws vs Q Wx hr rw' hg
  unfold intW at hg
  split at hg
  · rename_i i
    obtain ⟨v, rfl, rv⟩ := RepWL.one rw'
    simp only [RepW, Rep] at rv
    subst rv
    exact .inl ⟨i, rfl, hg F θ H (LE.refl F) (List.prefix_refl _) hr _ (by simp only [RepW, Rep])⟩
  · rename_i i
    obtain ⟨v, rfl, rv⟩ := RepWL.one rw'
    simp only [RepW, Rep] at rv
    subst rv
    exact .inr ⟨i, rfl, hg F θ H (LE.refl F) (List.prefix_refl _) hr _ (by simp only [RepW, Rep])⟩
  · exact hg.elim
theorem pu_intf (hm : X.mg "int" = none) (ha : PUA G X [e] t fs) (hg : L2.Gl X "int" := by rfl) (he : starEach (e :: []) X.env = (false, eval e X.env) :: starEach [] X.env := by rfl) (hpl : (backTo pos (starEach [] X.env)).any (·.1) = false := by rfl) :
    PU G X (.Call (.Name "int" p) [e] [] pos) (fun Wx => tCB rIntA (t Wx)) (eA intW fs) := pu_callTy call_int1 calls_int hm (by decide +kernel) ha hg (by decide +kernel) (by decide +kernel) he hpl
def max2W : OpN := fun ws M => match ws with
  | [.d (.int i), .d (.int j)] => .ok (.d (.int (if j > i then j else i))) M
  | _ => .stuck
def min2W : OpN := fun ws M => match ws with
  | [.d (.int i), .d (.int j)] => .ok (.d (.int (if j < i then j else i))) M
  | _ => .stuck
abbrev rMax2A : List V → Hp → VK → Prop := fun xs H Q => ∃ i j, xs = [.int i, .int j] ∧ Q (.int (if j > i then j else i)) H
abbrev rMin2A : List V → Hp → VK → Prop := fun xs H Q => ∃ i j, xs = [.int i, .int j] ∧ Q (.int (if j < i then j else i)) H
theorem calls_max2 : CallS G rMax2A max2W := by
  intro F θ H M ws vs Q Wx hr rw' hg
  unfold max2W at hg
  split at hg
  · rename_i i j
    obtain ⟨v, u, rfl, rv, ru⟩ := RepWL.two rw'
    simp only [RepW, Rep] at rv ru
    subst rv ru
    exact ⟨i, j, rfl, hg F θ H (LE.refl F) (List.prefix_refl _) hr _ (by simp only [RepW, Rep])⟩
  · exact hg.elim
theorem calls_min2 : CallS G rMin2A min2W := by
  intro F θ H M ws vs Q Wx hr rw' hg
  unfold min2W at hg
  split at hg
  · rename_i i j
    obtain ⟨v, u, rfl, rv, ru⟩ := RepWL.two rw'
    simp only [RepW, Rep] at rv ru
    subst rv ru
    exact ⟨i, j, rfl, hg F θ H (LE.refl F) (List.prefix_refl _) hr _ (by simp only [RepW, Rep])⟩
  · exact hg.elim
theorem pu_max2 {e2 : Expr} (hc : X.calm = true) (hm : X.mg "max" = none) (ha : PUA G X [e, e2] t fs) (hg : L2.Gl X "max" := by rfl) (he : starEach (e :: [e2]) X.env = (false, eval e X.env) :: starEach [e2] X.env := by rfl) (hpl : (backTo pos (starEach [e2] X.env)).any (·.1) = false := by rfl) :
    PU G X (.Call (.Name "max" p) [e, e2] [] pos) (fun Wx => tCB rMax2A (t Wx)) (eA max2W fs) := pu_callB (call_max2 hc) calls_max2 hm (by decide +kernel) ha hg (by decide +kernel) (by decide +kernel) he hpl
theorem pu_min2 {e2 : Expr} (hc : X.calm = true) (hm : X.mg "min" = none) (ha : PUA G X [e, e2] t fs) (hg : L2.Gl X "min" := by rfl) (he : starEach (e :: [e2]) X.env = (false, eval e X.env) :: starEach [e2] X.env := by rfl) (hpl : (backTo pos (starEach [e2] X.env)).any (·.1) = false := by rfl) :
    PU G X (.Call (.Name "min" p) [e, e2] [] pos) (fun Wx => tCB rMin2A (t Wx)) (eA min2W fs) := pu_callB (call_min2 hc) calls_min2 hm (by decide +kernel) ha hg (by decide +kernel) (by decide +kernel) he hpl
instance (i j : Int) : Decidable (CDiv i j) := inferInstanceAs (Decidable (_ ∧ _))
def CDivQ (i j : Int) : Prop := 0 < j ∧ Builtin.divisionGoesByPylong i j = false
theorem cdivP_of {i j : Int} (h : CDiv i j ∨ CDivW i j) : CDivQ i j := by
  have w : CDivW i j := h.elim (fun c => ⟨c.1, by
    have h0 : j.natAbs ≠ 0 := by have := c.1; omega
    have : j.natAbs.log2 < 30 := (Nat.log2_lt h0).mpr (by have := c.1; have := c.2; omega)
    omega⟩) id
  exact ⟨w.1, PyProof.noPylong_of_log2 w.2⟩
def divmodW : OpN := fun ws M => match ws with
  | [.d (.int i), .d (.int j)] => if CDiv i j ∨ CDivW i j then .ok (.d (.tup [.int (i / j), .int (i % j)])) M else .stuck
  | _ => .stuck
abbrev rDivmodA : List V → Hp → VK → Prop := fun xs H Q => ∃ i j, xs = [.int i, .int j] ∧ CDivQ i j ∧ ∀ p, H p = none → Q (.ref p) (upd H p (.tup [.int (i / j), .int (i % j)]))
/-- divmod of any two ints by a divisor above 0 that needs no long division of its own -/
theorem cr_divmodQ : CallR X (.builtin "divmod") rDivmodA := by
  intro pins s σ H xs us Q I r h
  obtain ⟨i, j, e, hc, q⟩ := h
  subst e
  obtain ⟨u, w', e, hu, hw⟩ := vals2 r
  obtain ⟨t, rfl⟩ := hu
  obtain ⟨t', rfl⟩ := hw
  subst e
  have fresh := I.hok.fresh (Nat.le_refl s.heap.objs.size)
  have j0 : j ≠ 0 := fun z => by have := hc.1; omega
  refine divmod_int j0 ?_ (.inl hc.2)
  have e1 : i.fdiv j = i / j := Int.fdiv_eq_ediv_of_nonneg i (Int.le_of_lt hc.1)
  have e2 : i.fmod j = i % j := Int.fmod_eq_emod_of_nonneg i (Int.le_of_lt hc.1)
  rw [e1, e2]
  have two : 2 ≤ sizeLine := by rw [sizeLine_eq]; decide
  have at0 := Heap.get?_push_size s.heap (o := { cls := .type "tuple", data := .seq #[.int (i / j) s.toks, .int (i % j) (s.toks + 1)] }) rfl
  exact ⟨.ref s.heap.objs.size, upd H s.heap.objs.size (.tup [.int (i / j), .int (i % j)]), I.laid (fun b o e => Heap.get?_push_of_some _ e) (Nat.le_refl _) ⟨two, [.int (i / j) s.toks, .int (i % j) (s.toks + 1)], .cons ⟨_, rfl⟩ (.cons ⟨_, rfl⟩ .nil), ⟨_, at0, rfl, 0, rfl⟩⟩, rfl, q _ fresh⟩
theorem calls_divmod : CallS G rDivmodA divmodW := by
  intro F θ H M ws vs Q Wx hr rw' hg
  unfold divmodW at hg
  split at hg
  · rename_i i j
    split at hg
    · rename_i hc
      obtain ⟨v, u, rfl, rv, ru⟩ := RepWL.two rw'
      simp only [RepW, Rep] at rv ru
      subst rv ru
      refine ⟨i, j, rfl, cdivP_of hc, fun p hp => ?_⟩
      obtain ⟨hr', le⟩ := hr.alloc hp (.tup [.int (i / j), .int (i % j)])
      refine hg _ θ _ le (List.prefix_refl _) hr' _ ?_
      simp only [RepW, Rep, RepL]
      exact ⟨p, _, rfl, upd_same, _, _, rfl, rfl, _, _, rfl, rfl, rfl⟩
    · exact hg.elim
  · exact hg.elim
theorem pu_divmod {e2 : Expr} (hm : X.mg "divmod" = none) (ha : PUA G X [e, e2] t fs) (hg : L2.Gl X "divmod" := by rfl) (he : starEach (e :: [e2]) X.env = (false, eval e X.env) :: starEach [e2] X.env := by rfl) (hpl : (backTo pos (starEach [e2] X.env)).any (·.1) = false := by rfl) :
    PU G X (.Call (.Name "divmod" p) [e, e2] [] pos) (fun Wx => tCB rDivmodA (t Wx)) (eA divmodW fs) := pu_callB cr_divmodQ calls_divmod hm (by decide +kernel) ha hg (by decide +kernel) (by decide +kernel) he hpl
/-! all, any of a list of True and False -/
def blsD : List D → Option (List Bool)
  | [] => some []
  | .bl b :: r => (blsD r).map (b :: ·)
  | _ => none
theorem blsD_ok {F : Hp} : ∀ {ds : List D} {vs : List V} {bs : List Bool}, RepL G F ds vs → blsD ds = some bs → vs = bs.map V.bl
  | [], _, _, h, e => by simp only [blsD] at e; cases e; simp only [RepL] at h; subst h; rfl
  | .bl b :: r, _, _, h, e => by
    simp only [RepL, Rep] at h
    obtain ⟨v, u, rfl, h1, h2⟩ := h
    simp only [blsD] at e
    obtain ⟨bs, e1, rfl⟩ := Option.map_eq_some_iff.mp e
    rw [h1, blsD_ok h2 e1]
    rfl
  | .non :: r, _, _, h, e => by simp [blsD] at e
  | .int _ :: r, _, _, h, e => by simp [blsD] at e
  | .str _ :: r, _, _, h, e => by simp [blsD] at e
  | .tup _ :: r, _, _, h, e => by simp [blsD] at e
  | .lst _ :: r, _, _, h, e => by simp [blsD] at e
  | .ktup _ :: r, _, _, h, e => by simp [blsD] at e
  | .klst _ :: r, _, _, h, e => by simp [blsD] at e
  | .dct _ _ :: r, _, _, h, e => by simp [blsD] at e
  | .ins _ _ _ :: r, _, _, h, e => by simp [blsD] at e
  | .cls _ :: r, _, _, h, e => by simp [blsD] at e
  | .ty _ :: r, _, _, h, e => by simp [blsD] at e
  | .exn _ _ _ :: r, _, _, h, e => by simp [blsD] at e
def allW : OpN := fun ws M => match ws with
  | [w] => match viewL M w with
    | some xs => match blsD xs with
      | some bs => .ok (.d (.bl (bs.all id))) M
      | none => .stuck
    | none => .stuck
  | _ => .stuck
def anyW : OpN := fun ws M => match ws with
  | [w] => match viewL M w with
    | some xs => match blsD xs with
      | some bs => .ok (.d (.bl (bs.any id))) M
      | none => .stuck
    | none => .stuck
  | _ => .stuck
theorem calls_all : CallS G (rAll G.K) allW := by
  intro F θ H M ws vs Q Wx hr rw' hg
  unfold allW at hg
  split at hg
  · rename_i w
    obtain ⟨v, rfl, rv⟩ := RepWL.one rw'
    split at hg
    · rename_i xs e
      split at hg
      · rename_i bs eb
        obtain ⟨p, us, rfl, h1, h2⟩ := viewL_ok hr rv e
        have e3 := blsD_ok h2 eb
        subst e3
        exact ⟨p, bs, rfl, h1, hg F θ H (LE.refl F) (List.prefix_refl _) hr _ (by simp only [RepW, Rep])⟩
      · exact hg.elim
    · exact hg.elim
  · exact hg.elim
theorem calls_any : CallS G (rAny G.K) anyW := by
  intro F θ H M ws vs Q Wx hr rw' hg
  unfold anyW at hg
  split at hg
  · rename_i w
    obtain ⟨v, rfl, rv⟩ := RepWL.one rw'
    split at hg
    · rename_i xs e
      split at hg
      · rename_i bs eb
        obtain ⟨p, us, rfl, h1, h2⟩ := viewL_ok hr rv e
        have e3 := blsD_ok h2 eb
        subst e3
        exact ⟨p, bs, rfl, h1, hg F θ H (LE.refl F) (List.prefix_refl _) hr _ (by simp only [RepW, Rep])⟩
      · exact hg.elim
    · exact hg.elim
  · exact hg.elim
theorem pu_all (hc : X.calm = true) (hm : X.mg "all" = none) (ha : PUA G X [e] t fs) (hK : X.K = G.K := by rfl) (hg : L2.Gl X "all" := by rfl) (he : starEach (e :: []) X.env = (false, eval e X.env) :: starEach [] X.env := by rfl) (hpl : (backTo pos (starEach [] X.env)).any (·.1) = false := by rfl) :
    PU G X (.Call (.Name "all" p) [e] [] pos) (fun Wx => tCB (rAll G.K) (t Wx)) (eA allW fs) := pu_callB (hK ▸ cr_all hc) calls_all hm (by decide +kernel) ha hg (by decide +kernel) (by decide +kernel) he hpl
theorem pu_any (hc : X.calm = true) (hm : X.mg "any" = none) (ha : PUA G X [e] t fs) (hK : X.K = G.K := by rfl) (hg : L2.Gl X "any" := by rfl) (he : starEach (e :: []) X.env = (false, eval e X.env) :: starEach [] X.env := by rfl) (hpl : (backTo pos (starEach [] X.env)).any (·.1) = false := by rfl) :
    PU G X (.Call (.Name "any" p) [e] [] pos) (fun Wx => tCB (rAny G.K) (t Wx)) (eA anyW fs) := pu_callB (hK ▸ cr_any hc) calls_any hm (by decide +kernel) ha hg (by decide +kernel) (by decide +kernel) he hpl
/-! tuple(list), list(list or tuple) -/
def tupleW : OpN := fun ws M => match ws with
  | [w] => match viewL M w with
    | some xs => .ok (.d (.tup xs)) M
    | none => match w with
      | .d (.tup xs) => .ok (.d (.tup xs)) M
      | _ => .stuck
  | _ => .stuck
abbrev rTupleA (K : PySem.W.Frag) : List V → Hp → VK → Prop := fun xs H Q => ∃ p ys, xs = [.ref p] ∧ ((SqL K H p ys ∧ ∀ l, H l = none → Q (.ref l) (upd H l (.tup ys))) ∨ (SqT K H p ys ∧ Q (.ref p) H))
theorem calls_tuple : CallS G (rTupleA G.K) tupleW := by
  intro F θ H M ws vs Q Wx hr rw' hg
  unfold tupleW at hg
  split at hg
  · rename_i w
    obtain ⟨v, rfl, rv⟩ := RepWL.one rw'
    split at hg
    · rename_i xs e
      obtain ⟨p, us, rfl, h1, h2⟩ := viewL_ok hr rv e
      refine ⟨p, us, rfl, .inl ⟨h1, fun q hq => ?_⟩⟩
      obtain ⟨hr', le⟩ := hr.alloc hq (.tup us)
      refine hg _ θ _ le (List.prefix_refl _) hr' _ ?_
      simp only [RepW, Rep]
      exact ⟨q, _, rfl, upd_same, h2.mono le⟩
    · split at hg
      · have rv2 := rv
        simp only [RepW, Rep] at rv2
        obtain ⟨a, us, rfl, h1, h2⟩ := rv2
        exact ⟨a, us, rfl, .inr ⟨SqT.of (hr.sub _ _ h1), hg F θ H (LE.refl F) (List.prefix_refl _) hr _ rv⟩⟩
      · exact hg.elim
  · exact hg.elim
theorem pu_tupleOf (hm : X.mg "tuple" = none) (ha : PUA G X [e] t fs) (hK : X.K = G.K := by rfl) (hg : L2.Gl X "tuple" := by rfl) (he : starEach (e :: []) X.env = (false, eval e X.env) :: starEach [] X.env := by rfl) (hpl : (backTo pos (starEach [] X.env)).any (·.1) = false := by rfl) :
    PU G X (.Call (.Name "tuple" p) [e] [] pos) (fun Wx => tCB (rTupleA G.K) (t Wx)) (eA tupleW fs) := pu_callTy (hK ▸ call_tuple_of) calls_tuple hm (by decide +kernel) ha hg (by decide +kernel) (by decide +kernel) he hpl
def listW : OpN := fun ws M => match ws with
  | [w] => match viewL M w with
    | some xs => .ok (.d (.lst xs)) M
    | none => match viewT w with
      | some xs => .ok (.d (.lst xs)) M
      | none => .stuck
  | _ => .stuck
abbrev rListA (K : PySem.W.Frag) : List V → Hp → VK → Prop := fun xs H Q => ∃ p ys, xs = [.ref p] ∧ (SqL K H p ys ∨ SqT K H p ys) ∧ ∀ l, H l = none → Q (.ref l) (upd H l (.lst ys))
theorem calls_list : CallS G (rListA G.K) listW := by
  intro F θ H M ws vs Q Wx hr rw' hg
  have fin : ∀ {xs : List D} {us : List V}, RepL G F xs us → Good G F θ (postE G Q) Wx (.ok (.d (.lst xs)) M) → ∀ q, H q = none → Q (.ref q) (upd H q (.lst us)) := fun {xs us} h2 hg q hq => by
    obtain ⟨hr', le⟩ := hr.alloc hq (.lst us)
    refine hg _ θ _ le (List.prefix_refl _) hr' _ ?_
    simp only [RepW, Rep]
    exact ⟨q, _, rfl, upd_same, h2.mono le⟩
  unfold listW at hg
  split at hg
  · rename_i w
    obtain ⟨v, rfl, rv⟩ := RepWL.one rw'
    split at hg
    · rename_i xs e
      obtain ⟨p, us, rfl, h1, h2⟩ := viewL_ok hr rv e
      exact ⟨p, us, rfl, .inl (h1), fin h2 hg⟩
    · split at hg
      · rename_i xs e
        obtain ⟨p, us, rfl, h1, h2⟩ := viewT_ok hr rv e
        exact ⟨p, us, rfl, .inr h1, fin h2 hg⟩
      · exact hg.elim
  · exact hg.elim
theorem pu_listOf (hm : X.mg "list" = none) (ha : PUA G X [e] t fs) (hK : X.K = G.K := by rfl) (hg : L2.Gl X "list" := by rfl) (he : starEach (e :: []) X.env = (false, eval e X.env) :: starEach [] X.env := by rfl) (hpl : (backTo pos (starEach [] X.env)).any (·.1) = false := by rfl) :
    PU G X (.Call (.Name "list" p) [e] [] pos) (fun Wx => tCB (rListA G.K) (t Wx)) (eA listW fs) := pu_callTy (hK ▸ call_list_of) calls_list hm (by decide +kernel) ha hg (by decide +kernel) (by decide +kernel) he hpl
end
end PU
set_option Elab.async false
set_option linter.all false
set_option maxRecDepth 100000
set_option maxHeartbeats 4000000
namespace PU
open PySem PySem.Spec PyProof.Rows L2
/-! ### statements -/
inductive Fl where | nx | ret (w : W) | bk | ct
inductive RS where
  | stuck
  | go (f : Fl) (ρ : Env) (M : Mem)
  | exc (x : Ex) (ρ : Env) (M : Mem)
abbrev Sv := Env → Mem → RS
def FlOk (G : Glo) (F : Hp) (θ : List Addr) (σ : L2.St) (H : Hp) (D : Ends) : Fl → Prop
  | .nx => D.nx σ H
  | .bk => D.bk σ H
  | .ct => D.ct σ H
  | .ret w => ∀ v, RepW G F θ w v → D.rt v H
def GoodS (G : Glo) (F : Hp) (θ : List Addr) (D : Ends) (Wx : L2.WX) : RS → Prop
  | .stuck => False
  | .go f ρ' M' => ∀ F' θ' σ' H', LE F F' → θ <+: θ' → SR G F' θ' σ' H' ρ' M' → FlOk G F' θ' σ' H' D f
  | .exc x ρ' M' => ∀ F' θ' σ' H' c d, LE F F' → θ <+: θ' → SR G F' θ' σ' H' ρ' M' → RepX G F' x c d H' → Wx c d σ' H'
theorem GoodS.up {G : Glo} {F F1 : Hp} {θ θ1 : List Addr} {D : Ends} {Wx : L2.WX} {r : RS} (h : GoodS G F θ D Wx r) (l : LE F F1) (p : θ <+: θ1) : GoodS G F1 θ1 D Wx r := by
  cases r with
  | stuck => exact h
  | go f ρ M => exact fun F' θ' σ' H' l' p' => h F' θ' σ' H' (l.trans l') (p.trans p')
  | exc x ρ M => exact fun F' θ' σ' H' c d l' p' => h F' θ' σ' H' c d (l.trans l') (p.trans p')
/-- a statement that begins by an expression -/
def R.bindS {α : Type} (r : R α) (ρ : Env) (k : α → Mem → RS) : RS := match r with
  | .stuck => .stuck
  | .ok a M => k a M
  | .exc x M => .exc x ρ M
@[simp] theorem R.bindS_ok {α : Type} (a : α) (M : Mem) (ρ : Env) (k : α → Mem → RS) : (R.ok a M).bindS ρ k = k a M := rfl
@[simp] theorem R.bindS_exc {α : Type} (x : Ex) (M : Mem) (ρ : Env) (k : α → Mem → RS) : (R.exc x M : R α).bindS ρ k = .exc x ρ M := rfl
theorem GoodS.seq0 {α : Type} {G : Glo} {F : Hp} {θ : List Addr} {σ : L2.St} {H : Hp} {ρ : Env} {M : Mem} {D : Ends} {Wx : L2.WX} {P' : Hp → List Addr → Hp → α → Prop} {r : R α} {k : α → Mem → RS} (sr : SR G F θ σ H ρ M) (hg : GoodS G F θ D Wx (r.bindS ρ k))
    (h : ∀ a M1 F1 θ1 H1, r = .ok a M1 → LE F F1 → θ <+: θ1 → SR G F1 θ1 σ H1 ρ M1 → GoodS G F θ D Wx (k a M1) → P' F1 θ1 H1 a) : Good G F θ P' (fun c d H' => Wx c d σ H') r := by
  cases r with
  | stuck => exact hg
  | ok a M => exact fun F' θ' H' l p hr => h a M F' θ' H' rfl l p (sr.mono l p hr) hg
  | exc x M => exact fun F' θ' H' c d l p hr rx => hg F' θ' σ H' c d l p (sr.mono l p hr) rx
theorem GoodS.seqE {α : Type} {G : Glo} {F : Hp} {θ : List Addr} {σ : L2.St} {H : Hp} {ρ : Env} {M : Mem} {D : Ends} {Wx : L2.WX} {P' : Hp → List Addr → Hp → α → Prop} {r : R α} {k : α → Mem → RS} (sr : SR G F θ σ H ρ M) (hg : GoodS G F θ D Wx (r.bindS ρ k))
    (h : ∀ a M1 F1 θ1 H1, r = .ok a M1 → LE F F1 → θ <+: θ1 → SR G F1 θ1 σ H1 ρ M1 → GoodS G F1 θ1 D Wx (k a M1) → P' F1 θ1 H1 a) : Good G F θ P' (fun c d H' => Wx c d σ H') r := by
  cases r with
  | stuck => exact hg
  | ok a M => exact fun F' θ' H' l p hr => h a M F' θ' H' rfl l p (sr.mono l p hr) (GoodS.up (r := k a M) hg l p)
  | exc x M => exact fun F' θ' H' c d l p hr rx => hg F' θ' σ H' c d l p (sr.mono l p hr) rx
def SemS (G : Glo) (t : L2.WX → TS) (g : Sv) : Prop := ∀ (Wx : L2.WX) (F : Hp) (θ : List Addr) (σ : L2.St) (H : Hp) (ρ : Env) (M : Mem) (D : Ends),
  SR G F θ σ H ρ M → GoodS G F θ D Wx (g ρ M) → t Wx D σ H
structure PUS (G : Glo) (X : Cx) (st : Stmt) (t : L2.WX → TS) (g : Sv) : Prop where
  pe : ∀ Wx, Takes X Wx → PS X st (t Wx)
  sem : SemS G t g
structure PUSs (G : Glo) (X : Cx) (st : List Stmt) (t : L2.WX → TS) (g : Sv) : Prop where
  pe : ∀ Wx, Takes X Wx → PSs X st (t Wx)
  sem : SemS G t g
section
variable {G : Glo} {X : Cx} {st : Stmt} {rest : List Stmt} {t u : L2.WX → TS} {g g' : Sv} {e : Expr} {te : L2.WX → TE} {fe : Ev} {pos : Pos}
def sNext : Sv := fun ρ M => .go .nx ρ M
def sSeq (g g' : Sv) : Sv := fun ρ M => match g ρ M with
  | .go .nx ρ1 M1 => g' ρ1 M1
  | r => r
theorem sem_next : SemS G (fun _ => tNext) sNext := fun Wx F θ σ H ρ M D sr hg => hg F θ σ H (LE.refl F) (List.prefix_refl _) sr
theorem puss_nil : PUSs G X [] (fun _ => tNext) sNext := ⟨fun _ _ => pss_nil, sem_next⟩
theorem pus_pass : PUS G X (.Pass pos) (fun _ => tNext) sNext := ⟨fun _ _ => ps_pass, sem_next⟩
theorem sem_seq (h1 : SemS G t g) (h2 : SemS G u g') : SemS G (fun Wx => tSeq (t Wx) (u Wx)) (sSeq g g') := by
  intro Wx F θ σ H ρ M D sr hg
  refine h1 Wx F θ σ H ρ M _ sr ?_
  unfold sSeq at hg
  cases e : g ρ M with
  | stuck => rw [e] at hg; exact hg
  | exc x ρ1 M1 => rw [e] at hg; exact hg
  | go f ρ1 M1 =>
    rw [e] at hg
    cases f with
    | nx => exact fun F' θ' σ' H' l p sr' => h2 Wx F' θ' σ' H' ρ1 M1 D sr' (GoodS.up (r := g' ρ1 M1) hg l p)
    | ret w => exact hg
    | bk => exact hg
    | ct => exact hg
theorem puss_cons (h1 : PUS G X st t g) (h2 : PUSs G X rest u g') : PUSs G X (st :: rest) (fun Wx => tSeq (t Wx) (u Wx)) (sSeq g g') := ⟨fun Wx tk => pss_cons (h1.pe Wx tk) (h2.pe Wx tk), sem_seq h1.sem h2.sem⟩
theorem puss_one (h1 : PUS G X st t g) : PUSs G X [st] t g := ⟨fun Wx tk => pss_one (h1.pe Wx tk), h1.sem⟩
def sBreak : Sv := fun ρ M => .go .bk ρ M
def sCont : Sv := fun ρ M => .go .ct ρ M
theorem pus_break : PUS G X (.Break pos) (fun _ => tBreak) sBreak := ⟨fun _ _ => ps_break, fun Wx F θ σ H ρ M D sr hg => hg F θ σ H (LE.refl F) (List.prefix_refl _) sr⟩
theorem pus_continue : PUS G X (.Continue pos) (fun _ => tCont) sCont := ⟨fun _ _ => ps_continue, fun Wx F θ σ H ρ M D sr hg => hg F θ σ H (LE.refl F) (List.prefix_refl _) sr⟩
theorem pus_doc {x j pos pos'} : PUS G X (.Expr (.Constant (.str x) j pos) pos') (fun _ => tNext) sNext := ⟨fun _ _ => ps_doc, sem_next⟩
def sExpr (f : Ev) : Sv := fun ρ M => (f ρ M).bindS ρ fun _ M1 => .go .nx ρ M1
theorem pus_expr (he : PU G X e te fe) (hs : swapsWith e none pos.line X.env = pure false := by rfl) : PUS G X (.Expr e pos) (fun Wx => tDrop (te Wx)) (sExpr fe) := by
  refine ⟨fun Wx tk => ps_expr (he.pe Wx tk) hs, ?_⟩
  intro Wx F θ σ H ρ M D sr hg
  refine he.sem Wx F θ σ H ρ M _ sr (GoodS.seqE sr hg fun x M1 F1 θ1 H1 _ l1 p1 sr1 hg1 v rv => ?_)
  exact hg1 F1 θ1 σ H1 (LE.refl F1) (List.prefix_refl _) sr1
def sRet (f : Ev) : Sv := fun ρ M => (f ρ M).bindS ρ fun w M1 => .go (.ret w) ρ M1
theorem pus_ret (he : PU G X e te fe) : PUS G X (.Return (some e) pos) (fun Wx => tRet (te Wx)) (sRet fe) := by
  refine ⟨fun Wx tk => ps_ret (he.pe Wx tk), ?_⟩
  intro Wx F θ σ H ρ M D sr hg
  refine he.sem Wx F θ σ H ρ M _ sr (GoodS.seqE sr hg fun x M1 F1 θ1 H1 _ l1 p1 sr1 hg1 v rv => ?_)
  exact hg1 F1 θ1 σ H1 (LE.refl F1) (List.prefix_refl _) sr1 v rv
def sRetN : Sv := fun ρ M => .go (.ret (.d .non)) ρ M
theorem pus_retN : PUS G X (.Return none pos) (fun _ => tRetN) sRetN := ⟨fun _ _ => ps_retN, fun Wx F θ σ H ρ M D sr hg => hg F θ σ H (LE.refl F) (List.prefix_refl _) sr _ (by simp only [RepW, Rep])⟩
def sIf (c : Tv) (g g' : Sv) : Sv := fun ρ M => (c ρ M).bindS ρ fun b M1 => if b then g ρ M1 else g' ρ M1
variable {c : Expr} {tc : L2.WX → TT} {fc : Tv} {sa sb : List Stmt}
theorem pus_if (hc : PUT G X c tc fc) (ha : PUSs G X sa t g) (hb : PUSs G X sb u g') : PUS G X (.If c sa sb pos) (fun Wx => tIfS (tc Wx) (t Wx) (u Wx)) (sIf fc g g') := by
  refine ⟨fun Wx tk => ps_if (hc.pe Wx tk) (ha.pe Wx tk) (hb.pe Wx tk), ?_⟩
  intro Wx F θ σ H ρ M D sr hg
  refine hc.sem Wx F θ σ H ρ M _ sr (GoodS.seqE sr hg fun b M1 F1 θ1 H1 _ l1 p1 sr1 hg1 => ?_)
  cases b with
  | true => exact ha.sem Wx F1 θ1 σ H1 ρ M1 D sr1 hg1
  | false => exact hb.sem Wx F1 θ1 σ H1 ρ M1 D sr1 hg1
/-! targets -/
abbrev Gv := W → Env → Mem → R Env
def GoodG (G : Glo) (F : Hp) (θ : List Addr) (σ : L2.St) (Q : L2.St → Hp → Prop) (Wx : L2.WX) : R Env → Prop
  | .stuck => False
  | .ok ρ' M' => ∀ F' θ' σ' H', LE F F' → θ <+: θ' → SR G F' θ' σ' H' ρ' M' → Q σ' H'
  | .exc x M' => False
theorem GoodG.up {F F1 : Hp} {θ θ1 : List Addr} {σ : L2.St} {Q : L2.St → Hp → Prop} {Wx : L2.WX} {r : R Env} (h : GoodG G F θ σ Q Wx r) (l : LE F F1) (p : θ <+: θ1) : GoodG G F1 θ1 σ Q Wx r := by
  cases r with
  | stuck => exact h
  | ok ρ M => exact fun F' θ' σ' H' l' p' => h F' θ' σ' H' (l.trans l') (p.trans p')
  | exc x M => exact h
def SemG (G : Glo) (t : TG) (g : Gv) : Prop := ∀ (Wx : L2.WX) (F : Hp) (θ : List Addr) (σ : L2.St) (H : Hp) (ρ : Env) (M : Mem) (w : W) (v : V) (Q : L2.St → Hp → Prop),
  SR G F θ σ H ρ M → RepW G F θ w v → GoodG G F θ σ Q Wx (g w ρ M) → t v σ H Q
structure PUG (G : Glo) (X : Cx) (tg : Expr) (t : TG) (g : Gv) : Prop where
  pe : PG X tg t
  sem : SemG G t g
def gvName (i : Nat) : Gv := fun w ρ M => .ok (ρ.set i (some w)) M
theorem pug_name (i : Nat) {x : Str} (hN : X.N.Nodup) (hi : X.N[i]? = some x := by rfl) (hx : Loc X.env.scope x := by first | exact Or.inl rfl | exact Or.inr rfl) (hf : X.fn x = true ∨ X.env.scope.names.lookup x = some .local := by first | exact .inl rfl | exact .inr rfl) : PUG G X (.Name x pos) (gName i) (gvName i) :=
  ⟨pg_name hN hi hx hf, fun Wx F θ σ H ρ M w v Q sr rv hg => hg F θ _ H (LE.refl F) (List.prefix_refl _) (sr.set rv)⟩
abbrev Gvs := List D → Env → Mem → R Env
def SemGs (G : Glo) (t : TGs) (g : Gvs) : Prop := ∀ (Wx : L2.WX) (F : Hp) (θ : List Addr) (σ : L2.St) (H : Hp) (ρ : Env) (M : Mem) (ds : List D) (vs : List V) (Q : L2.St → Hp → Prop),
  SR G F θ σ H ρ M → RepL G F ds vs → GoodG G F θ σ Q Wx (g ds ρ M) → t vs σ H Q
structure PUGs (G : Glo) (X : Cx) (ts : List Expr) (t : TGs) (g : Gvs) : Prop where
  pe : PGs X ts t
  sem : SemGs G t g
def gvNil : Gvs := fun ds ρ M => match ds with
  | [] => .ok ρ M
  | _ => .stuck
def gvCons (g : Gv) (h : Gvs) : Gvs := fun ds ρ M => match ds with
  | d :: r => (g (.d d) ρ M).bind fun ρ1 M1 => h r ρ1 M1
  | [] => .stuck
theorem pugs_nil : PUGs G X [] gNil gvNil := by
  refine ⟨pgs_nil, ?_⟩
  intro Wx F θ σ H ρ M ds vs Q sr rv hg
  cases ds with
  | nil =>
    simp only [RepL] at rv
    exact ⟨rv, hg F θ σ H (LE.refl F) (List.prefix_refl _) sr⟩
  | cons d r => exact hg.elim
variable {tg : Expr} {tgs : List Expr} {tt : TG} {tts : TGs} {gg : Gv} {ggs : Gvs}
theorem pugs_cons (h1 : PUG G X tg tt gg) (h2 : PUGs G X tgs tts ggs) (hs : (assignEach (tg :: tgs) X.env).map (·.2) = assign tg X.env :: (assignEach tgs X.env).map (·.2) := by rfl) : PUGs G X (tg :: tgs) (gCons tt tts) (gvCons gg ggs) := by
  refine ⟨pgs_cons h1.pe h2.pe hs, ?_⟩
  intro Wx F θ σ H ρ M ds vs Q sr rv hg
  cases ds with
  | nil => exact hg.elim
  | cons d r =>
    simp only [RepL] at rv
    obtain ⟨v, vr, rfl, h3, h4⟩ := rv
    refine ⟨v, vr, rfl, h1.sem Wx F θ σ H ρ M (.d d) v _ sr h3 ?_⟩
    have hg : GoodG G F θ σ Q Wx ((gg (.d d) ρ M).bind fun ρ1 M1 => ggs r ρ1 M1) := hg
    cases e : gg (.d d) ρ M with
    | stuck => rw [e] at hg; exact hg
    | exc x M1 => rw [e] at hg; exact hg
    | ok ρ1 M1 =>
      rw [e] at hg
      intro F1 θ1 σ1 H1 l1 p1 sr1
      refine h2.sem Wx F1 θ1 σ1 H1 ρ1 M1 r vr Q sr1 (h4.mono l1) ?_
      have hg' : GoodG G F θ σ Q Wx (ggs r ρ1 M1) := hg
      cases e2 : ggs r ρ1 M1 with
      | stuck => rw [e2] at hg'; exact hg'
      | exc x M2 => rw [e2] at hg'; exact hg'
      | ok ρ2 M2 => rw [e2] at hg'; exact fun F' θ' σ' H' l' p' => hg' F' θ' σ' H' (l1.trans l') (p1.trans p')
def gvTup (n : Nat) (g : Gvs) : Gv := fun w ρ M => match viewT w with
  | some ds => if ds.length = n then g ds ρ M else .stuck
  | none => .stuck
theorem pug_tup {k n : Nat} (hc : X.calm = true) (h : PUGs G X tgs tts ggs) (hn : (assignEach tgs X.env).length = n := by rfl) (hst : (assignEach tgs X.env).findIdx? (·.1) = none := by rfl) (hK : X.K = G.K := by rfl) : PUG G X (.Tuple tgs k pos) (gTup G.K n tts) (gvTup n ggs) := by
  refine ⟨hK ▸ pg_tup hc h.pe hn hst, ?_⟩
  intro Wx F θ σ H ρ M w v Q sr rv hg
  unfold gvTup at hg
  split at hg
  · rename_i ds e
    split at hg
    · rename_i hl
      obtain ⟨a, vs, rfl, h1, h2⟩ := viewT_ok sr.hr rv e
      exact ⟨a, vs, rfl, h1, by rw [h2.length]; exact hl, h.sem Wx F θ σ H ρ M ds vs Q sr h2 hg⟩
    · exact hg.elim
  · exact hg.elim
/-- target = e -/
def R.toS (r : R Env) (ρ : Env) : RS := match r with
  | .stuck => .stuck
  | .ok ρ' M' => .go .nx ρ' M'
  | .exc x M' => .stuck
def sAsg (f : Ev) (g : Gv) : Sv := fun ρ M => (f ρ M).bindS ρ fun w M1 => (g w ρ M1).toS ρ
theorem toS_ok {F : Hp} {θ : List Addr} {σ : L2.St} {D : Ends} {Wx : L2.WX} {r : R Env} {ρ : Env} (h : GoodS G F θ D Wx (r.toS ρ)) : GoodG G F θ σ D.nx Wx r := by
  cases r with
  | stuck => exact h
  | ok ρ' M' => exact h
  | exc x M' => exact h
theorem pus_asg (he : PU G X e te fe) (hg' : PUG G X tg tt gg) (hs : swapsWithSole [tg] e pos.line X.env = pure false := by rfl) (hw : swappedStores [tg] e X.env = pure none := by rfl)
    (h1 : (assignEach [tg] X.env).map (·.2) = [assign tg X.env] := by rfl) : PUS G X (.Assign [tg] e pos) (fun Wx => tAsg (te Wx) tt) (sAsg fe gg) := by
  refine ⟨fun Wx tk => ps_asg (he.pe Wx tk) hg'.pe hs hw h1, ?_⟩
  intro Wx F θ σ H ρ M D sr hg
  refine he.sem Wx F θ σ H ρ M _ sr (GoodS.seqE sr hg fun x M1 F1 θ1 H1 _ l1 p1 sr1 hg1 v rv => ?_)
  exact hg'.sem Wx F1 θ1 σ H1 ρ M1 x v _ sr1 rv (toS_ok hg1)
/-- name = e -/
def sSet (i : Nat) (f : Ev) : Sv := fun ρ M => (f ρ M).bindS ρ fun w M1 => .go .nx (ρ.set i (some w)) M1
theorem pus_set (i : Nat) {x : Str} {pos' : Pos} (hN : X.N.Nodup) (he : PU G X e te fe) (hi : X.N[i]? = some x := by rfl) (hx : Loc X.env.scope x := by first | exact Or.inl rfl | exact Or.inr rfl) (hs : swapsWith e (some (.Name x pos')) pos.line X.env = pure false := by rfl) (hf : X.fn x = true ∨ X.env.scope.names.lookup x = some .local := by first | exact .inl rfl | exact .inr rfl) :
    PUS G X (.Assign [.Name x pos'] e pos) (fun Wx => tAsg (te Wx) (gName i)) (sSet i fe) := by
  refine ⟨fun Wx tk => ps_set hN hi hx (he.pe Wx tk) hs hf, ?_⟩
  intro Wx F θ σ H ρ M D sr hg
  refine he.sem Wx F θ σ H ρ M _ sr (GoodS.seqE sr hg fun w M1 F1 θ1 H1 _ l1 p1 sr1 hg1 v rv => ?_)
  exact hg1 F1 θ1 _ H1 (LE.refl F1) (List.prefix_refl _) (sr1.set rv)
variable {a b d : Expr} {ta : L2.WX → TA} {fa : Av}
def sPar (i j : Nat) (f : Av) : Sv := fun ρ M => (f ρ M).bindS ρ fun ws M1 => match ws with
  | [w, u] => .go .nx ((ρ.set i (some w)).set j (some u)) M1
  | _ => .stuck
theorem pus_par (i j : Nat) {x y : Str} {px py pt : Pos} {kt k2 pt2} (hc : X.calm = true) (hN : X.N.Nodup) (ha : PUA G X [a, b] ta fa)
    (hw : swappedStores [.Tuple [.Name x px, .Name y py] kt pt] (.Tuple [a, b] k2 pt2) X.env = pure (some [x, y]) := by rfl) (hi : X.N[i]? = some x := by rfl) (hj : X.N[j]? = some y := by rfl) (hij : i ≠ j := by decide)
    (hx : X.env.scope.names.lookup x = some .local := by rfl) (hy : X.env.scope.names.lookup y = some .local := by rfl)
    (hs : swapsWithSole [.Tuple [.Name x px, .Name y py] kt pt] (.Tuple [a, b] k2 pt2) pos.line X.env = pure false := by rfl) :
    PUS G X (.Assign [.Tuple [.Name x px, .Name y py] kt pt] (.Tuple [a, b] k2 pt2) pos) (fun Wx => tPar i j (ta Wx)) (sPar i j fa) := by
  refine ⟨fun Wx tk => ps_par hc hN hi hj hij hx hy (ha.pe Wx tk) hw hs, ?_⟩
  intro Wx F θ σ H ρ M D sr hg
  refine ha.sem Wx F θ σ H ρ M _ sr (GoodS.seqE sr hg fun ws M1 F1 θ1 H1 _ l1 p1 sr1 hg1 vs rvs => ?_)
  split at hg1
  · obtain ⟨v, z, rfl, rv, rz⟩ := RepWL.two rvs
    exact ⟨v, z, rfl, hg1 F1 θ1 _ H1 (LE.refl F1) (List.prefix_refl _) ((sr1.set rv).set rz)⟩
  · exact hg1.elim
def sPar3 (i j l : Nat) (f : Av) : Sv := fun ρ M => (f ρ M).bindS ρ fun ws M1 => match ws with
  | [w, u, z] => .go .nx (((ρ.set i (some w)).set j (some u)).set l (some z)) M1
  | _ => .stuck
theorem pus_par3 (i j l : Nat) {x y z : Str} {px py pz pt : Pos} {kt k2 pt2} (hc : X.calm = true) (hN : X.N.Nodup) (ha : PUA G X [a, b, d] ta fa)
    (hw : swappedStores [.Tuple [.Name x px, .Name y py, .Name z pz] kt pt] (.Tuple [a, b, d] k2 pt2) X.env = pure (some [x, y, z]) := by rfl) (hi : X.N[i]? = some x := by rfl) (hj : X.N[j]? = some y := by rfl) (hl : X.N[l]? = some z := by rfl)
    (hij : i ≠ j := by decide) (hil : i ≠ l := by decide) (hjl : j ≠ l := by decide)
    (hx : X.env.scope.names.lookup x = some .local := by rfl) (hy : X.env.scope.names.lookup y = some .local := by rfl) (hz : X.env.scope.names.lookup z = some .local := by rfl)
    (hs : swapsWithSole [.Tuple [.Name x px, .Name y py, .Name z pz] kt pt] (.Tuple [a, b, d] k2 pt2) pos.line X.env = pure false := by rfl) :
    PUS G X (.Assign [.Tuple [.Name x px, .Name y py, .Name z pz] kt pt] (.Tuple [a, b, d] k2 pt2) pos) (fun Wx => tPar3 i j l (ta Wx)) (sPar3 i j l fa) := by
  refine ⟨fun Wx tk => ps_par3 hc hN hi hj hl hij hil hjl hx hy hz (ha.pe Wx tk) hw hs, ?_⟩
  intro Wx F θ σ H ρ M D sr hg
  refine ha.sem Wx F θ σ H ρ M _ sr (GoodS.seqE sr hg fun ws M1 F1 θ1 H1 _ l1 p1 sr1 hg1 vs rvs => ?_)
  split at hg1
  · obtain ⟨v, r, rfl, rv, r2⟩ := rvs
    obtain ⟨v2, v3, rfl, rv2, rv3⟩ := RepWL.two r2
    exact ⟨v, v2, v3, rfl, hg1 F1 θ1 _ H1 (LE.refl F1) (List.prefix_refl _) (((sr1.set rv).set rv2).set rv3)⟩
  · exact hg1.elim
end

/-! ### loops -/
/-- the younger cells are forgotten -/
def forget (n : Nat) : Option W → Option W
  | some (.cell k) => if k < n then some (.cell k) else none
  | o => o
def cutE (n : Nat) (ρ : Env) : Env := ρ.map (forget n)
section
variable {G : Glo}
theorem SR.cut {F : Hp} {θ : List Addr} {σ : L2.St} {H : Hp} {ρ : Env} {M : Mem} (h : SR G F θ σ H ρ M) (n : Nat) : SR G F (θ.take n) σ H (cutE n ρ) (M.take n) := by
  refine ⟨h.hr.cut n, by simp [cutE, h.len], fun i w e => ?_⟩
  unfold cutE at e
  rw [List.getElem?_map] at e
  cases q : ρ[i]? with
  | none => rw [q] at e; cases e
  | some o =>
    rw [q] at e
    have e2 : forget n o = some w := by simpa using e
    cases o with
    | none => cases e2
    | some u =>
      obtain ⟨v, h1, h2⟩ := h.sl i u q
      cases u with
      | d x =>
        have e3 : W.d x = w := Option.some.inj e2
        subst e3
        exact ⟨v, h1, h2⟩
      | cell k =>
        simp only [forget] at e2
        split at e2
        · rename_i hk
          have e3 : W.cell k = w := Option.some.inj e2
          subst e3
          obtain ⟨a, h3, h4⟩ := h2
          exact ⟨v, h1, a, by rw [List.getElem?_take_of_lt hk]; exact h3, h4⟩
        · cases e2
/-- a turn's end: on to the next turn -/
def again (n : Nat) (next : Sv) : RS → RS
  | .go .nx ρ M => next (cutE n ρ) (M.take n)
  | .go .ct ρ M => next (cutE n ρ) (M.take n)
  | .go .bk ρ M => .go .nx (cutE n ρ) (M.take n)
  | r => r
def whileN (n0 : Nat) (c : Tv) (b : Sv) : Nat → Sv
  | 0, _, _ => .stuck
  | m + 1, ρ, M => (c ρ M).bindS ρ fun k M1 => if k then again n0 (whileN n0 c b m) (b ρ M1) else .go .nx (cutE n0 ρ) (M1.take n0)
def sWhile (c : Tv) (b : Sv) : Sv := fun ρ M => whileN M.length c b 1048576 ρ M
/-- what stands between turns -/
def Btw (G : Glo) (F0 : Hp) (θ0 : List Addr) (D : Ends) (Wx : L2.WX) (σ : L2.St) (H : Hp) (next : Sv) : Prop := ∃ F ρ M, LE F0 F ∧ SR G F θ0 σ H ρ M ∧ GoodS G F θ0 D Wx (next ρ M)
theorem take_len {θ θ' : List Addr} {n : Nat} (p : θ <+: θ') (e : θ.length = n) : θ'.take n = θ := by rw [← e]; exact prefix_take p
/-- the body's end, seen from its own ends -/
theorem again_ok {F0 F1 F2 : Hp} {θ0 θ2 : List Addr} {D : Ends} {Wx : L2.WX} {n : Nat} {next : Sv} {r : RS} {N : L2.St → Hp → Prop} (hn : θ0.length = n) (l0 : LE F0 F1) (l2 : LE F1 F2) (p2 : θ0 <+: θ2) (hN : ∀ σ H, Btw G F0 θ0 D Wx σ H next → N σ H) (hg : GoodS G F1 θ0 D Wx (again n next r)) :
    GoodS G F2 θ2 { D with nx := N, ct := N, bk := D.nx } Wx r := by
  cases r with
  | stuck => exact hg
  | exc x ρ M => exact fun F' θ' σ' H' c d l p => hg F' θ' σ' H' c d (l2.trans l) (p2.trans p)
  | go f ρ M =>
    intro F' θ' σ' H' l p sr
    have sr2 := sr.cut n
    rw [take_len (p2.trans p) hn] at sr2
    cases f with
    | nx => exact hN _ _ ⟨F', _, _, (l0.trans l2).trans l, sr2, GoodS.up (r := next (cutE n ρ) (M.take n)) hg (l2.trans l) (List.prefix_refl _)⟩
    | ct => exact hN _ _ ⟨F', _, _, (l0.trans l2).trans l, sr2, GoodS.up (r := next (cutE n ρ) (M.take n)) hg (l2.trans l) (List.prefix_refl _)⟩
    | bk => exact hg F' θ0 σ' H' (l2.trans l) (List.prefix_refl _) sr2
    | ret w => exact hg F' θ' σ' H' (l2.trans l) (p2.trans p) sr
variable {X : Cx} {c : Expr} {tc : L2.WX → TT} {fc : Tv} {body : List Stmt} {t : L2.WX → TS} {g : Sv} {pos : Pos}
theorem sem_while (hc : SemT G tc fc) (hb : SemS G t g) : SemS G (fun Wx => tWhile (tc Wx) (t Wx)) (sWhile fc g) := by
  intro Wx F θ σ H ρ M D sr hg
  refine ⟨fun m σ H => Btw G F θ D Wx σ H (whileN M.length fc g m), ⟨_, F, ρ, M, LE.refl F, sr, hg⟩, ?_⟩
  rintro m σ1 H1 ⟨F1, ρ1, M1, l1, sr1, hg1⟩
  cases m with
  | zero => exact hg1.elim
  | succ m =>
    refine hc Wx F1 θ σ1 H1 ρ1 M1 _ sr1 (GoodS.seq0 sr1 hg1 fun k M2 F2 θ2 H2 _ l2 p2 sr2 hg2 => ?_)
    cases k with
    | true =>
      exact ⟨fun σ' H' => Btw G F θ D Wx σ' H' (whileN M.length fc g m), fun σ' H' q => ⟨m, Nat.lt_succ_self _, q⟩,
        hb Wx F2 θ2 σ1 H2 ρ1 M2 _ sr2 (again_ok sr.hr.len l1 l2 p2 (fun _ _ q => q) hg2)⟩
    | false =>
      have sr3 := sr2.cut M.length
      rw [take_len p2 sr.hr.len] at sr3
      exact hg2 F2 θ σ1 H2 l2 (List.prefix_refl _) sr3
theorem pus_while (hp : PassesOwn (model X.prog X.w) X.A X.env X.xe) (hc : PUT G X c tc fc) (hb : PUSs G X body t g) : PUS G X (.While c body [] pos) (fun Wx => tWhile (tc Wx) (t Wx)) (sWhile fc g) :=
  ⟨fun Wx tk => ps_while hp (hc.pe Wx tk) (hb.pe Wx tk), sem_while hc.sem hb.sem⟩

/-! ### what is walked -/
/-- the walk J gives the data ds, one after another -/
def Walk (G : Glo) (J : It) (F : Hp) (θ : List Addr) (ds : List D) : Prop := ∀ (F1 : Hp) (θ1 : List Addr) (H1 : Hp) (M1 : Mem), LE F F1 → θ <+: θ1 → HR G F1 θ1 H1 M1 → ∀ i : Nat,
  (∀ d, ds[i]? = some d → J.go i H1 ∧ ∀ x H2, J.yld i H1 x H2 → ∃ F2, LE F1 F2 ∧ HR G F2 θ1 H2 M1 ∧ Rep G F2 d x) ∧ (ds.length ≤ i → J.stop i H1)
abbrev Iv := Env → Mem → R (List D)
abbrev postI (G : Glo) (Rk : It → Hp → Prop) : Hp → List Addr → Hp → List D → Prop := fun F' θ' H' ds => ∀ J, Walk G J F' θ' ds → Rk J H'
def SemI (G : Glo) (wi : L2.WX → TI) (f : Iv) : Prop := ∀ (Wx : L2.WX) (F : Hp) (θ : List Addr) (σ : L2.St) (H : Hp) (ρ : Env) (M : Mem) (Rk : It → Hp → Prop),
  SR G F θ σ H ρ M → Good G F θ (postI G Rk) (fun c d H' => Wx c d σ H') (f ρ M) → wi Wx σ H Rk
structure PUI (G : Glo) (X : Cx) (tg iter : Expr) (wi : L2.WX → TI) (f : Iv) : Prop where
  pe : ∀ Wx, Takes X Wx → PI X tg iter (wi Wx)
  sem : SemI G wi f
variable {tg iter e : Expr} {te : L2.WX → TE} {fe : Ev} {wi : L2.WX → TI} {fi : Iv} {tt : TG} {gg : Gv}
/-- frozen lists, tuples -/
def iSeq (f : Ev) : Iv := fun ρ M => (f ρ M).bind fun w M1 => match w with
  | .d (.lst ds) => .ok ds M1
  | .d (.klst ds) => .ok ds M1
  | _ => .stuck
def iTupV (f : Ev) : Iv := fun ρ M => (f ρ M).bind fun w M1 => match viewT w with
  | some ds => .ok ds M1
  | none => .stuck
theorem walk_list {F : Hp} {θ : List Addr} {a : Addr} {ds : List D} {vs : List V} (hq : ∀ F1 θ1 H1 M1, LE F F1 → HR G F1 θ1 H1 M1 → SqL G.K H1 a vs) (r : RepL G F ds vs) : Walk G (Itl G.K a) F θ ds := by
  intro F1 θ1 H1 M1 l1 p1 hr1 i
  have q := hq F1 θ1 H1 M1 l1 hr1
  refine ⟨fun d hd => ?_, fun hl => ⟨vs, q, by rw [r.length]; exact hl⟩⟩
  obtain ⟨v, hv, rv⟩ := r.get hd
  refine ⟨⟨vs, v, q, hv⟩, fun x H2 hy => ?_⟩
  obtain ⟨rfl, hy⟩ := hy
  have hx := hy vs q
  rw [hv] at hx
  cases hx
  exact ⟨F1, LE.refl F1, hr1, rv.mono l1⟩
theorem walk_tup {F : Hp} {θ : List Addr} {a : Addr} {ds : List D} {vs : List V} (hq : ∀ F1 θ1 H1 M1, LE F F1 → HR G F1 θ1 H1 M1 → SqT G.K H1 a vs) (r : RepL G F ds vs) : Walk G (Itt G.K a) F θ ds := by
  intro F1 θ1 H1 M1 l1 p1 hr1 i
  have q := hq F1 θ1 H1 M1 l1 hr1
  refine ⟨fun d hd => ?_, fun hl => ⟨vs, q, by rw [r.length]; exact hl⟩⟩
  obtain ⟨v, hv, rv⟩ := r.get hd
  refine ⟨⟨vs, v, q, hv⟩, fun x H2 hy => ?_⟩
  obtain ⟨rfl, hy⟩ := hy
  have hx := hy vs q
  rw [hv] at hx
  cases hx
  exact ⟨F1, LE.refl F1, hr1, rv.mono l1⟩
theorem pui_list (he : PU G X e te fe) (hK : X.K = G.K := by rfl) : PUI G X tg e (fun Wx => iList G.K (te Wx)) (iSeq fe) := by
  refine ⟨fun Wx tk => hK ▸ pi_list (he.pe Wx tk), ?_⟩
  intro Wx F θ σ H ρ M Rk sr hg
  refine he.sem Wx F θ σ H ρ M _ sr (Good.seq hg fun w M1 F1 θ1 H1 _ l1 p1 hr1 hg1 v rv => ?_)
  split at hg1
  · simp only [RepW, Rep] at rv
    obtain ⟨a, vs, rfl, h1, h2⟩ := rv
    exact ⟨a, rfl, ⟨vs, SqL.of (hr1.sub _ _ h1)⟩, hg1 F1 θ1 H1 (LE.refl F1) (List.prefix_refl _) hr1 _ (walk_list (fun F2 θ2 H2 M2 l2 hr2 => SqL.of (hr2.sub _ _ (l2.lst _ _ h1))) h2)⟩
  · simp only [RepW, Rep] at rv
    obtain ⟨a, vs, rfl, h1, h2⟩ := rv
    exact ⟨a, rfl, ⟨vs, SqL.up hr1.sub h1⟩, hg1 F1 θ1 H1 (LE.refl F1) (List.prefix_refl _) hr1 _ (walk_list (fun F2 θ2 H2 M2 l2 hr2 => SqL.up hr2.sub (h1.imp (fun ⟨o, z⟩ => ⟨o, l2.frz _ _ _ z⟩) id)) h2)⟩
  · exact hg1.elim
theorem pui_tup (he : PU G X e te fe) (hK : X.K = G.K := by rfl) : PUI G X tg e (fun Wx => iTup G.K (te Wx)) (iTupV fe) := by
  refine ⟨fun Wx tk => hK ▸ pi_tup (he.pe Wx tk), ?_⟩
  intro Wx F θ σ H ρ M Rk sr hg
  refine he.sem Wx F θ σ H ρ M _ sr (Good.seq hg fun w M1 F1 θ1 H1 _ l1 p1 hr1 hg1 v rv => ?_)
  split at hg1
  · rename_i ds e
    unfold viewT at e
    split at e
    · cases e
      simp only [RepW, Rep] at rv
      obtain ⟨a, vs, rfl, h1, h2⟩ := rv
      exact ⟨a, rfl, ⟨vs, SqT.of (hr1.sub _ _ h1)⟩, hg1 F1 θ1 H1 (LE.refl F1) (List.prefix_refl _) hr1 _ (walk_tup (fun F2 θ2 H2 M2 l2 hr2 => SqT.of (hr2.sub _ _ (l2.tup _ _ h1))) h2)⟩
    · cases e
      simp only [RepW, Rep] at rv
      obtain ⟨a, vs, rfl, h1, h2⟩ := rv
      exact ⟨a, rfl, ⟨vs, SqT.up h1⟩, hg1 F1 θ1 H1 (LE.refl F1) (List.prefix_refl _) hr1 _ (walk_tup (fun F2 θ2 H2 M2 l2 hr2 => SqT.up h1) h2)⟩
    · cases e
  · exact hg1.elim
/-- lo, lo + 1, .. -/
def rangeD (lo hi : Int) : List D := (List.range (hi - lo).toNat).map fun i => D.int (lo + (i : Nat))
def rngOk (i : Int) : Bool := decide (-(2 ^ 62) ≤ i ∧ i < 2 ^ 62)
def iRange1 (f : Av) : Iv := fun ρ M => (f ρ M).bind fun ws M1 => match ws with
  | [.d (.int j)] => if rngOk j then .ok (rangeD 0 j) M1 else .stuck
  | _ => .stuck
def iRange2 (f : Av) : Iv := fun ρ M => (f ρ M).bind fun ws M1 => match ws with
  | [.d (.int i), .d (.int j)] => if rngOk i && rngOk j then .ok (rangeD i j) M1 else .stuck
  | _ => .stuck
theorem walk_range {F : Hp} {θ : List Addr} (lo hi : Int) : Walk G (Itr lo (hi - lo).toNat) F θ (rangeD lo hi) := by
  intro F1 θ1 H1 M1 l1 p1 hr1 i
  unfold rangeD
  refine ⟨fun d hd => ?_, fun hl => by rw [List.length_map, List.length_range] at hl; exact hl⟩
  rw [List.getElem?_map] at hd
  obtain ⟨j, hj, rfl⟩ := Option.map_eq_some_iff.mp hd
  obtain ⟨hlt, e⟩ := List.getElem?_eq_some_iff.mp hj
  rw [List.length_range] at hlt
  rw [List.getElem_range] at e
  subst e
  refine ⟨hlt, fun x H2 hy => ?_⟩
  obtain ⟨rfl, rfl⟩ := hy
  exact ⟨F1, LE.refl F1, hr1, by simp only [Rep]⟩
variable {ea eb : Expr} {ta : L2.WX → TA} {fa : Av} {p : Pos}
theorem pui_range1 (hm : X.mg "range" = none) (ha : PUA G X [ea] ta fa) (hg : L2.Gl X "range" := by rfl) (hs : starEach [ea] X.env = [(false, eval ea X.env)] := by rfl) : PUI G X tg (.Call (.Name "range" p) [ea] [] pos) (fun Wx => iRng1 (ta Wx)) (iRange1 fa) := by
  refine ⟨fun Wx tk => pi_range1 hg hm (ha.pe Wx tk) hs, ?_⟩
  intro Wx F θ σ H ρ M Rk sr hg
  refine ha.sem Wx F θ σ H ρ M _ sr (Good.seq hg fun ws M1 F1 θ1 H1 _ l1 p1 hr1 hg1 vs rvs => ?_)
  split at hg1
  · rename_i ws j _
    split at hg1
    · rename_i hc
      obtain ⟨v, rfl, rv⟩ := RepWL.one rvs
      simp only [RepW, Rep] at rv
      subst rv
      simp only [rngOk, decide_eq_true_eq] at hc
      refine ⟨_, rfl, hc.1, hc.2, hg1 F1 θ1 H1 (LE.refl F1) (List.prefix_refl _) hr1 _ ?_⟩
      have := walk_range (G := G) (F := F1) (θ := θ1) 0 j
      rw [Int.sub_zero] at this
      exact this
    · exact hg1.elim
  · exact hg1.elim
theorem pui_range2 (hm : X.mg "range" = none) (ha : PUA G X [ea, eb] ta fa) (hg : L2.Gl X "range" := by rfl) (hs : starEach [ea, eb] X.env = [(false, eval ea X.env), (false, eval eb X.env)] := by rfl) (hs2 : starEach [eb] X.env = [(false, eval eb X.env)] := by rfl) : PUI G X tg (.Call (.Name "range" p) [ea, eb] [] pos) (fun Wx => iRng2 (ta Wx)) (iRange2 fa) := by
  refine ⟨fun Wx tk => pi_range2 hg hm (ha.pe Wx tk) hs hs2, ?_⟩
  intro Wx F θ σ H ρ M Rk sr hg
  refine ha.sem Wx F θ σ H ρ M _ sr (Good.seq hg fun ws M1 F1 θ1 H1 _ l1 p1 hr1 hg1 vs rvs => ?_)
  split at hg1
  · rename_i i j
    split at hg1
    · rename_i hc
      obtain ⟨v, u, rfl, rv, ru⟩ := RepWL.two rvs
      simp only [RepW, Rep] at rv ru
      subst rv ru
      simp only [rngOk, Bool.and_eq_true, decide_eq_true_eq] at hc
      exact ⟨_, _, rfl, ⟨hc.1.1, hc.1.2, hc.2.1, hc.2.2⟩, hg1 F1 θ1 H1 (LE.refl F1) (List.prefix_refl _) hr1 _ (walk_range _ _)⟩
    · exact hg1.elim
  · exact hg1.elim

/-! ### for -/
def R.bindG (r : R Env) (k : Env → Mem → RS) : RS := match r with
  | .ok ρ M => k ρ M
  | _ => .stuck
@[simp] theorem R.bindG_ok (ρ : Env) (M : Mem) (k : Env → Mem → RS) : (R.ok ρ M).bindG k = k ρ M := rfl
def forN (n0 : Nat) (g : Gv) (b : Sv) : List D → Sv
  | [], ρ, M => .go .nx ρ M
  | d :: r, ρ, M => (g (.d d) ρ M).bindG fun ρ1 M1 => again n0 (forN n0 g b r) (b ρ1 M1)
/-- the source's own cells go on standing -/
def sFor (f : Iv) (g : Gv) (b : Sv) : Sv := fun ρ M => (f ρ M).bindS ρ fun ds M1 => forN M1.length g b ds ρ M1
theorem sem_for (hi : SemI G wi fi) (hg' : SemG G tt gg) (hb : SemS G t g) : SemS G (fun Wx => tFor (wi Wx) tt (t Wx)) (sFor fi gg g) := by
  intro Wx F θ σ H ρ M D sr hg
  refine hi Wx F θ σ H ρ M _ sr (GoodS.seqE sr hg fun ds M1 F1 θ1 H1 _ l1 p1 sr1 hg1 J hw => ?_)
  refine ⟨fun i m σ H => m = ds.length - i ∧ i ≤ ds.length ∧ Btw G F1 θ1 D Wx σ H (forN M1.length gg g (ds.drop i)), ⟨_, rfl, Nat.zero_le _, F1, ρ, M1, LE.refl F1, sr1, by rw [List.drop_zero]; exact hg1⟩, ?_⟩
  rintro i m σ2 H2 ⟨rfl, hi2, F2, ρ2, M2, l2, sr2, hg2⟩
  have wk := hw F2 θ1 H2 M2 l2 (List.prefix_refl _) sr2.hr i
  by_cases hlt : i < ds.length
  · obtain ⟨go, yl⟩ := wk.1 ds[i] (List.getElem?_eq_getElem hlt)
    refine .inr ⟨go, fun σ' H' => Btw G F1 θ1 D Wx σ' H' (forN M1.length gg g (ds.drop (i + 1))), fun σ' H' q => ⟨_, by omega, rfl, hlt, q⟩, fun x H3 hy => ?_⟩
    obtain ⟨F3, l3, hr3, r3⟩ := yl x H3 hy
    have sr3 := sr2.mono l3 (List.prefix_refl _) hr3
    rw [List.drop_eq_getElem_cons hlt] at hg2
    have hg3 : GoodS G F2 θ1 D Wx ((gg (.d ds[i]) ρ2 M2).bindG fun ρ3 M3 => again M1.length (forN M1.length gg g (ds.drop (i + 1))) (g ρ3 M3)) := hg2
    refine hg' Wx F3 θ1 σ2 H3 ρ2 M2 (.d ds[i]) x _ sr3 r3 ?_
    cases e : gg (.d ds[i]) ρ2 M2 with
    | stuck => rw [e] at hg3; exact hg3
    | exc y M3 =>
      rw [e] at hg3
      exact hg3
    | ok ρ3 M3 =>
      rw [e] at hg3
      intro F4 θ4 σ4 H4 l4 p4 sr4
      exact hb Wx F4 θ4 σ4 H4 ρ3 M3 _ sr4 (again_ok sr1.hr.len l2 (l3.trans l4) p4 (fun _ _ q => q) hg3)
  · exact .inl ⟨wk.2 (Nat.le_of_not_lt hlt), by
      have e : ds.drop i = [] := List.drop_eq_nil_of_le (Nat.le_of_not_lt hlt)
      rw [e] at hg2
      exact hg2 F2 θ1 σ2 H2 (LE.refl F2) (List.prefix_refl _) sr2⟩
theorem pus_for (hp : PassesOwn (model X.prog X.w) X.A X.env X.xe) (hc : X.calm = true) (hi : PUI G X tg iter wi fi) (hg : PUG G X tg tt gg) (hb : PUSs G X body t g) (hs : ∀ x, foldedSetIterable iter X.env x = pure x := by intro _; rfl) : PUS G X (.For tg iter body [] pos) (fun Wx => tFor (wi Wx) tt (t Wx)) (sFor fi gg g) :=
  ⟨fun Wx tk => ps_for hp hc (hi.pe Wx tk) hg.pe (hb.pe Wx tk) hs, sem_for hi.sem hg.sem hb.sem⟩
end
end PU
set_option Elab.async false
set_option linter.all false
set_option maxRecDepth 100000
set_option maxHeartbeats 4000000
namespace PU
open PySem PySem.Spec PyProof.Rows L2
/-! ### promises under an empty list of guards (repr wants it) -/
structure RoomG (k : Nat) (A : Around) : Prop where
  rm : Room k A
  gd : A.guards = some []
theorem RoomG.deeper {k : Nat} {A : Around} (r : RoomG (k + 1) A) (env : PySem.Env) : RoomG k (A.deeper env) := ⟨r.rm.deeper env, r.gd⟩
theorem RoomG.in1 {k : Nat} {A : Around} (r : RoomG (k + 1) A) : RoomG k A.in1 := ⟨r.rm.in1, r.gd⟩
theorem RoomG.mono {j k : Nat} {A : Around} (r : RoomG k A) (h : j ≤ k) : RoomG j A := ⟨r.rm.mono h, r.gd⟩
theorem RoomG.make {k : Nat} {A : Around} (r : RoomG (k + 1) A) (C : Addr) (us : List Value) (kw : List (Str × Value)) : RoomG k (A.under (.builtin "type.__call__" ⟨.ref C :: us, kw⟩)) := by
  refine ⟨r.rm.make C us kw, ?_⟩
  have h := r.gd
  simp [Around.under, Code.guards, Code.isGuard, guardIds, h, pushGuards]
structure FnG (P : Program) (w : World) (K : PySem.W.Frag) (mg : Str → Option Value) (base : Heap) (CX : CXT) (k : Nat) (f : Addr) (fd : FuncData) (ps : List Str) (sp : Sp) : Prop where
  len : ∀ vs H Q E, sp vs H Q E → vs.length = ps.length
  run : ∀ (A : Around) (outer : List PySem.Env) (s : Shared) (H : Hp) (args : Args) (us : List Value) (vs : List V) (Q : VK) (E : XK), RoomG k A → Env0 P w K mg base A outer s H →
    BindsTo s fd args (ps.zip us) → Vals vs us → sp vs H Q E → codeAny (model P w) A (.call (.ref f) args) (CR CX outer P w H s Q E) s
section
variable {P : Program} {w : World} {K : PySem.W.Frag} {mg : Str → Option Value} {base : Heap} {CX : CXT} {j k : Nat} {f : Addr} {fd : FuncData} {ps : List Str} {sp sp' : Sp}
theorem FnG.mono (F : FnG P w K mg base CX j f fd ps sp) (h : j ≤ k) : FnG P w K mg base CX k f fd ps sp :=
  ⟨F.len, fun A outer s H args us vs Q E r => F.run A outer s H args us vs Q E (r.mono h)⟩
theorem FnG.imp (F : FnG P w K mg base CX k f fd ps sp) (h : ∀ vs H Q E, sp' vs H Q E → sp vs H Q E) : FnG P w K mg base CX k f fd ps sp' :=
  ⟨fun vs H Q E q => F.len vs H Q E (h _ _ _ _ q), fun A outer s H args us vs Q E r e0 bd rv hs => F.run A outer s H args us vs Q E r e0 bd rv (h _ _ _ _ hs)⟩
variable {x qual : Str} {params : Arguments} {body : List Stmt} {scope : Scope} {dvs : List V} {kws : List (Str × V)} {N : List Str}
/-- a def's promise, from its body -/
theorem FnG.ofC (F : FunD K x qual params body scope dvs kws f fd) (S : FnScope N ps scope) (len : ∀ vs H Q E, sp vs H Q E → vs.length = ps.length)
    (hbody : ∀ (cdv : Value), fd.code = cdv → ∀ (A : Around) (outer : List PySem.Env) (s : Shared) (H : Hp) (vs : List V) (Q : VK) (E : XK), RoomG k (A.deeper (envOfC qual scope s.heap.objs.size f cdv)) → sp vs H Q E →
      ∃ t, PSs (cxOf CX P w K mg base N qual scope f cdv A outer s H E) body t ∧ t { nx := fun _ H' => Q .non H', rt := Q } (start N vs) H) : FnG P w K mg base CX (k + 1) f fd ps sp := by
  obtain ⟨oc, od, dV, kV, doc, pm, an, cdv, ct, osl, efd, lk, hcd, _, _⟩ := F.ex
  subst efd
  refine ⟨len, ?_⟩
  intro A outer s H args us vs Q E rg e0 bd rv hs
  have keepAll := fun (b : Addr) (o : Obj) (e : base.get? b = some o) => (e0.bs b o e).1
  have inHeap : K.In s.heap := e0.mod.kin.keeps keepAll
  have noLim : s.heap.NoLimit := e0.mod.nolimit.keeps keepAll
  have kinds : ∀ q ∈ ps.zip us, scope.names.lookup q.1 = some .local ∨
      (scope.names.lookup q.1 = some .cell ∧ ((cellsFrom (s.heap.objs.size + 1) scope.names []).lookup q.1).isSome = true) := by
    intro q hq
    have hm : q.1 ∈ ps := (List.of_mem_zip (show (q.1, q.2) ∈ ps.zip us from hq)).1
    cases S.par q.1 hm with
    | inl z => exact Or.inl z
    | inr z => exact Or.inr ⟨z, PySem.W.cellsFrom_some _ _ _ (Or.inl z)⟩
  apply codeAny_call_function rg.rm.depth (inHeap _ _ lk) rfl S.co S.gen rfl (PySem.W.codeRec_of inHeap hcd) (bd _ _ _ _ _)
  apply wpAny_newFunctionEnv_cells S.kind kinds
  intro env he s1 ic
  subst he
  refine ⟨noLim.keeps ic.toInCall.keep, codeAny_func ?_⟩
  obtain ⟨t, ht, hq⟩ := hbody cdv rfl A outer s H vs Q E (rg.deeper _) hs
  have I := inv_start (CX := CX) (P := P) (E := E) S rg.rm.hd e0 (len _ _ _ _ hs) rv ic
  have ended : ∀ {σ' : L2.St} {H' : Hp} {v : V} {u : Value} {s' : Shared}, Inv (cxOf CX P w K mg base N qual scope f cdv A outer s H E) [] σ' H' s' → RelV v u → Q v H' → CE outer P w H s Q u s' := by
    intro σ' H' v u s' J r q
    exact ⟨v, H', J.os, J.bare, J.base, J.hok, r, q⟩
  refine wpAny_mono (ht.run [] s1 _ H _ I hq) ?_ (fun e s' z => z)
  intro fl s' z
  cases fl
  case ret u =>
    obtain ⟨v, σ', H', J, r, q⟩ := z
    exact ended J r q
  case next =>
    obtain ⟨σ', H', J, q⟩ := z
    exact ended (v := V.non) (u := Value.none) J rfl q
  case brk =>
    obtain ⟨_, _, _, q⟩ := z
    exact q.elim
  case cont =>
    obtain ⟨_, _, _, q⟩ := z
    exact q.elim
theorem FnG.of (F : FunD K x qual params body scope dvs kws f fd) (S : FnScope N ps scope) (len : ∀ vs H Q E, sp vs H Q E → vs.length = ps.length)
    (hbody : ∀ (cdv : Value) (A : Around) (outer : List PySem.Env) (s : Shared) (H : Hp) (vs : List V) (Q : VK) (E : XK), RoomG k (A.deeper (envOfC qual scope s.heap.objs.size f cdv)) → sp vs H Q E →
      ∃ t, PSs (cxOf CX P w K mg base N qual scope f cdv A outer s H E) body t ∧ t { nx := fun _ H' => Q .non H', rt := Q } (start N vs) H) : FnG P w K mg base CX (k + 1) f fd ps sp :=
  FnG.ofC F S len fun cdv _ => hbody cdv
end
/-! calls -/
section
variable {X : Cx} {CX : CXT} {k : Nat} {f C g a dx pp : Addr} {fd : FuncData} {ps : List Str} {sp : Sp} {dvs : List V} {ds : List Value} {E : L2.St → XK} {E1 : XK} {x m : Str} {p pos : Pos} {e : Expr} {es : List Expr} {t : TA} {te : TE} {fs : List (Str × V)} {pins : List (Addr × Obj)} {σ : L2.St} {H : Hp} {s : Shared} {Q : VK} {us : List Value} {vs : List V}
theorem run_fnG (F : FnG X.prog X.w X.K X.mg X.base CX k f fd ps sp) (hr : RoomG k X.A) (hb : Binds X.K fd ps ds) (hd : Vals dvs ds) (hx : PassesAt CX X σ (E σ)) (I : Inv X pins σ H s) (r : Vals vs us) (h : sp (vs ++ dvs) H Q (E σ)) :
    wpAny (model X.prog X.w) X.A (call (.ref f) us) (EP X pins σ Q) X.xe s := by
  have rall := r.append hd
  have hlen : (us ++ ds).length = ps.length := rall.length.symm.trans (F.len _ _ _ _ h)
  apply wpAny_call
  refine codeAny_mono (F.run X.A X.stack s H ⟨us, []⟩ _ _ Q (E σ) hr I.env0 (hb s us I.kIn hlen) rall h) ?_
  intro res s' z
  cases res with
  | error e => exact hx pins H s e s' I z
  | ok fl =>
    cases fl
    case ret u => exact I.after z
    all_goals exact False.elim z
theorem pe_callG (F : FnG X.prog X.w X.K X.mg X.base CX k f fd ps sp) (hr : RoomG k X.A) (hg : Gl X x) (hm : X.mg x = some (.ref f)) (hk : PySem.W.keepIn X.K (.ref f) = true) (hb : Binds X.K fd ps ds) (hd : Vals dvs ds) (hx : ∀ σ, PassesAt CX X σ (E σ)) (ha : PA X (e :: es) t)
    (hdb : (x == ("__debug__" : Str)) = false := by decide) (he : starEach (e :: es) X.env = (false, eval e X.env) :: starEach es X.env := by rfl) (hpl : (backTo pos (starEach es X.env)).any (·.1) = false := by rfl) : PE X (.Call (.Name x p) (e :: es) [] pos) (tCallSD sp dvs E t) := by
  constructor
  intro pins s σ H Q I h
  apply wpAny_Call_Name_kw (ld_glob I hg hm _ hdb)
  refine PySem.W.callWith_K (h₀ := X.base) I.ok.mod.kin hk (thn (ha.run pos pins s σ H _ I h) ?_) he hpl
  intro us s1 ⟨vs, H1, I1, r, q⟩
  exact ⟨I1.kIn, run_fnG F hr hb hd (hx σ) I1 r q⟩
theorem getpropG {b : Bool} {E' : Value → Shared → Prop} (I : Inv X pins σ H s) (ea : H a = some (.ins C dx fs)) (c : L2.Cls X.K C) (hp : PropOf X.K C m pp g) (F : FnG X.prog X.w X.K X.mg X.base CX k g fd ps sp) (hr : RoomG (k + 1) X.A) (hb : Binds X.K fd ps ds) (hd : Vals dvs ds) (hx : Passes CX X.nox E1)
    (h : sp (.ref a :: dvs) H Q E1) : wpAny (model X.prog X.w) X.A (getAttr (.ref a) m b) (EP X pins σ Q) E' s := by
  obtain ⟨mA, O, _, _, _, _⟩ := ins_get I.hok ea
  obtain ⟨od, J, _⟩ := O.look
  obtain ⟨rest, hrec⟩ := hp.rec_
  have I1 := I.tok (s.toks + 1)
  have hlen : ([Value.ref a] ++ ds).length = ps.length := by
    have h1 := F.len _ _ _ _ h
    have h2 := hd.length
    simp only [List.length_cons, List.length_append] at h1 ⊢
    simp only [List.length_nil]
    omega
  have isC : (PySem.W.clsIn X.K C).isSome = true := by
    obtain ⟨cd, z, _⟩ := PySem.W.any_some c.hd
    rw [z]; rfl
  have cg := c.get m
  apply PySem.W.get_bind I.kIn J (PySem.W.plainGet_of cg).1 (PySem.W.findObj_data isC hp.at_ hp.get hp.tak) (PySem.W.plainGet_of cg).2
  apply wpAny_call
  apply PySem.W.prop_get (s := { s with toks := s.toks + 1 }) I.kIn hrec
  refine codeAny_mono (F.run X.A.in1 X.stack { s with toks := s.toks + 1 } H ⟨[.ref a], []⟩ _ _ Q E1 hr.in1 I1.env0.in1 (hb _ [.ref a] I1.kIn hlen) (show Vals (V.ref a :: dvs) (Value.ref a :: ds) from .cons rfl hd) h) ?_
  intro res s' z
  cases res with
  | error er => exact (hx pins σ H { s with toks := s.toks + 1 } er s' (I1.wish _) z).elim
  | ok fl =>
    cases fl
    case ret u =>
      obtain ⟨v, H', I3, rv, q3⟩ := I1.after z
      show wpAny _ _ (handedOut u) _ _ _
      rw [PySem.W.handedOut_of (handed_of rv)]
      exact wpAny_pure ⟨v, H', I3, rv, q3⟩
    all_goals exact False.elim z
theorem pe_propG (he : PE X e te) (c : L2.Cls X.K C) (hp : PropOf X.K C m pp g) (F : FnG X.prog X.w X.K X.mg X.base CX k g fd ps sp) (hr : RoomG (k + 1) X.A) (hb : Binds X.K fd ps ds) (hd : Vals dvs ds) (hx : Passes CX X.nox E1) (hab : attributeBase e m X.env (eval e X.env) = eval e X.env) :
    PE X (.Attribute e m pos) (tProp C sp dvs E1 te) := by
  constructor
  intro pins s σ H Q I h
  apply attr_of hab
  refine thn (he.run pins s σ H _ I h) ?_
  intro u s1 ⟨y, H1, I1, ry, a, dx, fs, ey, ea, q⟩
  subst ey
  have eu : u = Value.ref a := ry
  subst eu
  exact getpropG I1 ea c hp F hr hb hd hx q
end
end PU
set_option Elab.async false
set_option linter.all false
set_option maxRecDepth 100000
set_option maxHeartbeats 4000000
namespace PU
open PySem PySem.Spec PyProof.Rows L2
/-! ### defs -/
abbrev Fn := List W → Mem → R W
/-- the promise: what the function f says -/
def spF (G : Glo) (n : Nat) (f : Fn) : Sp := fun vs H Q E => vs.length = n ∧ ∃ F θ ws M, HR G F θ H M ∧ RepWL G F θ ws vs ∧ Good G F θ (postE G Q) E (f ws M)
/-- what a def hands back -/
def fin (n : Nat) (w : W) (M : Mem) : R W := match w with
  | .d x => .ok (.d x) (M.take n)
  | .cell k => if k < n then .ok (.cell k) (M.take n) else match M[k]? with
    | some (.lst ds) => .ok (.d (.lst ds)) (M.take n)
    | some (.dct ks vs) => .ok (.d (.dct ks vs)) (M.take n)
    | some (.dcT ks vs) => .ok (.d (.dct ks vs)) (M.take n)
    | some (.ins C fs ws) => match allD ws with
      | some ds => .ok (.d (.ins C fs ds)) (M.take n)
      | none => .stuck
    | _ => .stuck
/-- .. where it is to be changed further: a list -/
def finC (n : Nat) (w : W) (M : Mem) : R W := match w with
  | .d x => .ok (.d x) (M.take n)
  | .cell k => if k < n then .ok (.cell k) (M.take n) else match M[k]? with
    | some (.lst ds) => .ok (.cell n) (M.take n ++ [.lst ds])
    | _ => .stuck
def fnW (fi : Nat → W → Mem → R W) (n : Nat) (g : Sv) : Fn := fun ws M => match g (ws.map some ++ List.replicate (n - ws.length) none) M with
  | .go (.ret w) _ M' => fi M.length w M'
  | .go .nx _ M' => .ok (.d .non) (M'.take M.length)
  | .exc x _ M' => .exc x (M'.take M.length)
  | _ => .stuck
abbrev fnF : Nat → Sv → Fn := fnW fin
abbrev fnC : Nat → Sv → Fn := fnW finC
/-- an end's rule -/
def FinOk (G : Glo) (fi : Nat → W → Mem → R W) : Prop := ∀ (F F' : Hp) (θ θ' : List Addr) (H' : Hp) (M' : Mem) (n : Nat) (w : W) (v : V) (Q : VK) (E : XK), θ.length = n → LE F F' → θ <+: θ' → HR G F' θ' H' M' → RepW G F' θ' w v →
  Good G F θ (postE G Q) E (fi n w M') → Q v H'
section
variable {G : Glo}
theorem RepWL.allD' {F : Hp} {θ : List Addr} {ws : List W} {vs : List V} {ds : List D} (h : RepWL G F θ ws vs) (e : allD ws = some ds) : RepL G F ds vs := allD_ok h e
theorem fin_ok : FinOk G fin := by
  intro F F' θ θ' H' M' n w v Q E hn l p hr rw' hg
  have hr2 := hr.cut n
  rw [take_len p hn] at hr2
  unfold fin at hg
  cases w with
  | d x => exact hg F' θ H' l (List.prefix_refl _) hr2 v rw'
  | cell k =>
    simp only at hg
    obtain ⟨a, ha, rfl⟩ := rw'
    split at hg
    · rename_i hk
      refine hg F' θ H' l (List.prefix_refl _) hr2 _ ⟨a, ?_, rfl⟩
      obtain ⟨η, rfl⟩ := p
      rw [List.getElem?_append_left (by omega)] at ha
      exact ha
    · rename_i hk
      have tk : (M'.set k .dead).take n = M'.take n := by
        rw [List.take_set_of_le (Nat.le_of_not_lt hk)]
      split at hg
      · rename_i ds e
        obtain ⟨hF, vs, hH, rl⟩ := hr.cell k a _ ha e
        obtain ⟨hr3, le⟩ := hr.freeze ha hF hH
        have hr4 := hr3.cut n
        rw [take_len p hn, tk] at hr4
        refine hg _ θ H' (l.trans le) (List.prefix_refl _) hr4 _ ?_
        simp only [RepW, Rep]
        exact ⟨a, vs, rfl, upd_same, rl.mono le⟩
      · rename_i ks ds e
        obtain ⟨hF, ps, hH, e1, rl⟩ := hr.cell k a _ ha e
        obtain ⟨hr3, le⟩ := hr.freeze ha hF hH
        have hr4 := hr3.cut n
        rw [take_len p hn, tk] at hr4
        refine hg _ θ H' (l.trans le) (List.prefix_refl _) hr4 _ ?_
        simp only [RepW, Rep]
        exact ⟨a, _, rfl, rl.mono le, .inl ⟨ps, .inl upd_same, e1, rfl⟩⟩
      · rename_i ks ds e
        obtain ⟨hF, ps, hH, e1, rl⟩ := hr.cell k a _ ha e
        obtain ⟨hr3, le⟩ := hr.freeze ha hF hH
        have hr4 := hr3.cut n
        rw [take_len p hn, tk] at hr4
        refine hg _ θ H' (l.trans le) (List.prefix_refl _) hr4 _ ?_
        simp only [RepW, Rep]
        exact ⟨a, _, rfl, rl.mono le, .inr ⟨ps, .inl upd_same, e1, rfl⟩⟩
      · rename_i C fs ws e
        split at hg
        · rename_i ds ed
          obtain ⟨hF, hhas, dx, ps, hH, e1, rl⟩ := hr.cell k a _ ha e
          obtain ⟨hr3, le⟩ := hr.freeze ha hF hH
          have hr4 := hr3.cut n
          rw [take_len p hn, tk] at hr4
          refine hg _ θ H' (l.trans le) (List.prefix_refl _) hr4 _ ?_
          simp only [RepW, Rep]
          exact ⟨hhas, a, dx, ps, rfl, upd_same, e1, (allD_ok rl ed).mono le⟩
        · exact hg.elim
      · exact hg.elim
theorem finC_ok : FinOk G finC := by
  intro F F' θ θ' H' M' n w v Q E hn l p hr rw' hg
  have hr2 := hr.cut n
  rw [take_len p hn] at hr2
  unfold finC at hg
  cases w with
  | d x => exact hg F' θ H' l (List.prefix_refl _) hr2 v rw'
  | cell k =>
    simp only at hg
    obtain ⟨a, ha, rfl⟩ := rw'
    split at hg
    · rename_i hk
      refine hg F' θ H' l (List.prefix_refl _) hr2 _ ⟨a, ?_, rfl⟩
      obtain ⟨η, rfl⟩ := p
      rw [List.getElem?_append_left (by omega)] at ha
      exact ha
    · rename_i hk
      split at hg
      · rename_i ds e
        obtain ⟨hF, vs, hH, rl⟩ := hr.cell k a _ ha e
        have hna : a ∉ θ := fun z => by
          obtain ⟨j, hj⟩ := List.getElem?_of_mem z
          obtain ⟨hjl, ej⟩ := List.getElem?_eq_some_iff.mp hj
          obtain ⟨hkl, ek⟩ := List.getElem?_eq_some_iff.mp ha
          obtain ⟨η, rfl⟩ := p
          have e3 : (θ ++ η)[j]'(by simp; omega) = a := by rw [List.getElem_append_left hjl]; exact ej
          have := (List.getElem_inj hr.nd).mp (e3.trans ek.symm)
          omega
        have hr5 : HR G F' (θ ++ [a]) H' (M'.take n ++ [.lst ds]) := by
          refine ⟨hr2.tab, hr2.sub, by simp [hr2.len], ?_, fun j b c hj hc => ?_⟩
          · rw [List.nodup_append]
            exact ⟨hr2.nd, by simp, fun x hx y hy => by simp at hy; subst hy; exact fun z => hna (z ▸ hx)⟩
          · by_cases hlt : j < θ.length
            · rw [List.getElem?_append_left hlt] at hj
              rw [List.getElem?_append_left (by rw [← hr2.len]; exact hlt)] at hc
              rw [List.take_append_of_le_length (Nat.le_of_lt hlt)]
              exact hr2.cell j b c hj hc
            · have e1 : j = θ.length := by
                have := (List.getElem?_eq_some_iff.mp hj).1
                simp at this
                omega
              subst e1
              rw [List.getElem?_append_right (Nat.le_refl _)] at hj
              simp at hj
              subst hj
              rw [hr2.len, List.getElem?_append_right (Nat.le_refl _)] at hc
              simp at hc
              subst hc
              exact ⟨hF, vs, hH, rl⟩
        refine hg F' (θ ++ [a]) H' l (List.prefix_append _ _) hr5 _ ⟨a, ?_, rfl⟩
        rw [← hn]
        simp
      · exact hg.elim
theorem slots_start {F : Hp} {θ : List Addr} {ws : List W} {vs : List V} (r : RepWL G F θ ws vs) (n : Nat) : Slots G F θ (vs.map some ++ List.replicate n none) (ws.map some ++ List.replicate n none) := by
  intro i w e
  by_cases h : i < ws.length
  · rw [List.getElem?_append_left (by simpa using h), List.getElem?_map] at e
    obtain ⟨u, hu, e2⟩ := Option.map_eq_some_iff.mp e
    have e3 : u = w := Option.some.inj e2
    subst e3
    have key : ∀ (ws : List W) (vs : List V) (i : Nat), RepWL G F θ ws vs → ws[i]? = some u → ∃ v, vs[i]? = some v ∧ RepW G F θ u v := by
      intro ws
      induction ws with
      | nil => intro vs i _ e; simp at e
      | cons w ws ih =>
        intro vs i h e
        obtain ⟨v, r, rfl, h1, h2⟩ := h
        cases i with
        | zero => simp at e; subst e; exact ⟨v, rfl, h1⟩
        | succ i =>
          obtain ⟨z, q1, q2⟩ := ih r i h2 (by simpa using e)
          exact ⟨z, by simpa using q1, q2⟩
    obtain ⟨v, hv, rv⟩ := key ws vs i r hu
    refine ⟨v, ?_, rv⟩
    rw [List.getElem?_append_left (by rw [List.length_map, r.length]; exact h), List.getElem?_map, hv]
    rfl
  · rw [List.getElem?_append_right (by simpa using h)] at e
    rw [List.getElem?_replicate] at e
    split at e
    · cases e
    · cases e
/-- THE RULE of a def: from its body's reading -/
theorem fn_okC {P : Program} {w : World} {K : PySem.W.Frag} {mg : Str → Option Value} {base : Heap} {x qual : Str} {params : Arguments} {body : List Stmt} {scope : Scope} {dvs : List V} {kws : List (Str × V)} {f : Addr} {fd : FuncData} {N ps : List Str} {k : Nat}
    {fi : Nat → W → Mem → R W} {g : Sv} (hfi : FinOk G fi) (F : FunD K x qual params body scope dvs kws f fd) (S : FnScope N ps scope)
    (hb : ∀ (cdv : Value), fd.code = cdv → ∀ (A : Around) (outer : List PySem.Env) (s : Shared) (H : Hp) (E : XK), RoomG k (A.deeper (envOfC qual scope s.heap.objs.size f cdv)) →
      ∃ t, PUSs G (cxOf (L2.CX P w) P w K mg base N qual scope f cdv A outer s H E) body t g) :
    FnG P w K mg base (L2.CX P w) (k + 1) f fd ps (spF G ps.length (fnW fi N.length g)) := by
  refine FnG.ofC F S (fun vs H Q E h => h.1) fun cdv hcd A outer s H vs Q E hr h => ?_
  obtain ⟨t, ht⟩ := hb cdv hcd A outer s H E hr
  refine ⟨t fun cls d _ H => E cls d H, ht.pe _ (takes_of rfl rfl rfl rfl), ?_⟩
  obtain ⟨hl, F0, θ, ws, M, hr0, rws, hg⟩ := h
  have hlen := rws.length
  refine ht.sem _ F0 θ _ H (ws.map some ++ List.replicate (N.length - ws.length) none) M _ ⟨hr0, by simp [L2.start, hlen], ?_⟩ ?_
  · unfold L2.start
    rw [hlen]
    exact slots_start rws _
  · unfold fnW at hg
    have hn : θ.length = M.length := hr0.len
    cases e : g (ws.map some ++ List.replicate (N.length - ws.length) none) M with
    | stuck => rw [e] at hg; exact hg
    | exc x ρ' M' =>
      rw [e] at hg
      intro F' θ' σ' H' c d l p sr rx
      have hr2 := sr.hr.cut M.length
      rw [take_len p hn] at hr2
      exact hg F' θ H' c d l (List.prefix_refl _) hr2 rx
    | go fl ρ' M' =>
      rw [e] at hg
      intro F' θ' σ' H' l p sr
      cases fl with
      | nx =>
        have hr2 := sr.hr.cut M.length
        rw [take_len p hn] at hr2
        exact hg F' θ H' l (List.prefix_refl _) hr2 _ (by simp only [RepW, Rep])
      | bk => exact hg.elim
      | ct => exact hg.elim
      | ret w' => exact fun v rv => hfi F0 F' θ θ' H' M' M.length w' v Q E hn l p sr.hr rv hg
theorem fn_ok {P : Program} {w : World} {K : PySem.W.Frag} {mg : Str → Option Value} {base : Heap} {x qual : Str} {params : Arguments} {body : List Stmt} {scope : Scope} {dvs : List V} {kws : List (Str × V)} {f : Addr} {fd : FuncData} {N ps : List Str} {k : Nat}
    {fi : Nat → W → Mem → R W} {g : Sv} (hfi : FinOk G fi) (F : FunD K x qual params body scope dvs kws f fd) (S : FnScope N ps scope)
    (hb : ∀ (cdv : Value) (A : Around) (outer : List PySem.Env) (s : Shared) (H : Hp) (E : XK), RoomG k (A.deeper (envOfC qual scope s.heap.objs.size f cdv)) →
      ∃ t, PUSs G (cxOf (L2.CX P w) P w K mg base N qual scope f cdv A outer s H E) body t g) :
    FnG P w K mg base (L2.CX P w) (k + 1) f fd ps (spF G ps.length (fnW fi N.length g)) :=
  fn_okC hfi F S fun cdv _ => hb cdv
end

/-! ### calls -/
section
variable {G : Glo} {X : Cx} {k : Nat} {f C : Addr} {fd : FuncData} {ps : List Str} {fs : Fn} {x m : Str} {p pos apos : Pos} {e o : Expr} {es : List Expr} {t : L2.WX → TA} {fa : Av} {te : L2.WX → TE} {fe : Ev} {dds : List D} {dvs : List V} {ds : List Value} {n : Nat}
def eCall (f : Fn) (dds : List D) (fa : Av) : Ev := fun ρ M => (fa ρ M).bind fun ws M1 => f (ws ++ dds.map W.d) M1
theorem RepL.toW {F : Hp} {θ : List Addr} : ∀ {ds : List D} {vs : List V}, RepL G F ds vs → RepWL G F θ (ds.map W.d) vs
  | [], _, h => by simp only [RepL] at h; exact h
  | d :: r, _, h => by
    simp only [RepL] at h
    obtain ⟨v, u, rfl, h1, h2⟩ := h
    exact ⟨v, u, rfl, h1, RepL.toW h2⟩
/-- constants stand for themselves in every heap -/
def Cst (G : Glo) (dds : List D) (dvs : List V) : Prop := ∀ F, RepL G F dds dvs
theorem cst_nil : Cst G [] [] := fun F => RepL.nil
theorem sp_of {F : Hp} {θ : List Addr} {H : Hp} {M : Mem} {ws : List W} {vs : List V} {Q : VK} {E : XK} (hl : (vs ++ dvs).length = n) (hd : Cst G dds dvs) (hr : HR G F θ H M) (r : RepWL G F θ ws vs) (hg : Good G F θ (postE G Q) E (fs (ws ++ dds.map W.d) M)) : spF G n fs (vs ++ dvs) H Q E :=
  ⟨hl, F, θ, ws ++ dds.map W.d, M, hr, r.append (RepL.toW (hd F)), hg⟩
/-- the number of arguments is right -/
def eN (n : Nat) (f : Fn) : Fn := fun ws M => if ws.length = n then f ws M else .stuck
theorem pu_call (F : FnG X.prog X.w X.K X.mg X.base (L2.CX X.prog X.w) k f fd ps (spF G n fs)) (hr : RoomG k X.A) (hm : X.mg x = some (.ref f)) (hk : PySem.W.keepIn X.K (.ref f) = true) (hb : Binds X.K fd ps ds) (hd : Vals dvs ds) (hdd : Cst G dds dvs) (ha : PUA G X (e :: es) t fa)
    (hg : L2.Gl X x := by rfl) (hdb : (x == ("__debug__" : Str)) = false := by decide +kernel) (he : starEach (e :: es) X.env = (false, eval e X.env) :: starEach es X.env := by rfl) (hpl : (backTo pos (starEach es X.env)).any (·.1) = false := by rfl) :
    PU G X (.Call (.Name x p) (e :: es) [] pos) (fun Wx => tCallSD (spF G n fs) dvs (L2.WE Wx) (t Wx)) (eCall (eN n fs) dds fa) := by
  refine ⟨fun Wx tk => pe_callG F hr hg hm hk hb hd (passAt tk) (ha.pe Wx tk) hdb he hpl, ?_⟩
  intro Wx F0 θ σ H ρ M Q sr hg
  refine ha.sem Wx F0 θ σ H ρ M _ sr (Good.seq hg fun ws M1 F1 θ1 H1 _ l1 p1 hr1 hg1 vs rvs => ?_)
  unfold eN at hg1
  split at hg1
  · rename_i hn
    refine sp_of ?_ hdd hr1 rvs hg1
    have h2 := (hdd F1).length
    rw [List.length_append, List.length_map] at hn
    rw [List.length_append, rvs.length, h2]
    exact hn
  · exact hg1.elim
theorem pe_call0S {E : L2.St → XK} {sp : Sp} (F : FnG X.prog X.w X.K X.mg X.base (L2.CX X.prog X.w) k f fd ps sp) (hr : RoomG k X.A) (hg : L2.Gl X x) (hm : X.mg x = some (.ref f)) (hk : PySem.W.keepIn X.K (.ref f) = true) (hb : Binds X.K fd ps ds) (hd : Vals dvs ds) (hx : ∀ σ, PassesAt (L2.CX X.prog X.w) X σ (E σ))
    (hdb : (x == ("__debug__" : Str)) = false := by decide) : PE X (.Call (.Name x p) [] [] pos) (tCallSD sp dvs E tNil) := by
  refine ⟨fun pins s σ H Q I h => ?_⟩
  refine wpAny_Call_Name_kw (ld_glob I hg hm ?_ hdb)
  exact PySem.W.callWith_K0 I.kIn hk (run_fnG (us := []) F hr hb hd (hx σ) I .nil h)
theorem pu_call0 (F : FnG X.prog X.w X.K X.mg X.base (L2.CX X.prog X.w) k f fd ps (spF G n fs)) (hr : RoomG k X.A) (hm : X.mg x = some (.ref f)) (hk : PySem.W.keepIn X.K (.ref f) = true) (hb : Binds X.K fd ps ds) (hd : Vals dvs ds) (hdd : Cst G dds dvs)
    (hg : L2.Gl X x := by rfl) (hdb : (x == ("__debug__" : Str)) = false := by decide +kernel) :
    PU G X (.Call (.Name x p) [] [] pos) (fun Wx => tCallSD (spF G n fs) dvs (L2.WE Wx) tNil) (eCall (eN n fs) dds aNil) := by
  refine ⟨fun Wx tk => pe_call0S F hr hg hm hk hb hd (passAt tk) hdb, ?_⟩
  intro Wx F0 θ σ H ρ M Q sr hg
  have hg1 : Good G F0 θ (postE G Q) (fun c d H' => Wx c d σ H') (eN n fs ([] ++ dds.map W.d) M) := hg
  unfold eN at hg1
  split at hg1
  · rename_i hn
    show spF G n fs ([] ++ dvs) H Q _
    refine sp_of ?_ hdd sr.hr (show RepWL G F0 θ [] [] from rfl) hg1
    have h2 := (hdd F0).length
    rw [List.length_append, List.length_map] at hn
    rw [List.length_append, h2]
    exact hn
  · exact hg1.elim
/-! keywords -/
structure PUK (G : Glo) (X : Cx) (kws : List Keyword) (t : L2.WX → TA) (f : Av) : Prop where
  pe : ∀ Wx, Takes X Wx → PK X kws (t Wx)
  sem : SemA G t f
variable {kws : List Keyword} {tk : L2.WX → TA} {fk : Av} {kpos : Pos} {nm : Option Str} {ks : List Str}
theorem puk_nil : PUK G X [] (fun _ => tNil) aNil := ⟨fun _ _ => pk_nil, fun Wx F θ σ H ρ M Q sr hg => hg F θ H (LE.refl F) (List.prefix_refl _) sr.hr [] rfl⟩
theorem puk_cons (he : PU G X e te fe) (hs : PUK G X kws tk fk) : PUK G X (⟨nm, e, kpos⟩ :: kws) (fun Wx => tCons (te Wx) (tk Wx)) (aCons fe fk) :=
  ⟨fun Wx tk => pk_cons (he.pe Wx tk) (hs.pe Wx tk), sem_cons he.sem hs.sem⟩
/-- how positional and keyword values are ordered: gW on ours, gV on values -/
def eCallK (f : Fn) (gW : List W → List W → List W) (fa fk : Av) : Ev := fun ρ M => (fa ρ M).bind fun ws M1 => (fk ρ M1).bind fun zs M2 => f (gW ws zs) M2

/-! ### fields of instances -/
def idxF : List Nat → Nat → Nat → Option Nat
  | [], _, _ => none
  | g :: r, f, i => if g = f then some i else idxF r f (i + 1)
def getF (fs : List Nat) (vs : List D) (f : Nat) : Option D := (idxF fs f 0).bind fun i => vs[i]?
def getFW (fs : List Nat) (vs : List W) (f : Nat) : Option W := (idxF fs f 0).bind fun i => vs[i]?
theorem lookup_idx {an : Nat → Str} (hinj : ∀ i j, an i = an j → i = j) : ∀ (ps : List (Str × V)) (fs : List Nat) (f i j : Nat), ps.map (·.1) = fs.map an → idxF fs f i = some j → i ≤ j ∧ ps.lookup (an f) = (ps[j - i]?).map (·.2)
  | [], [], _, _, _, _, h => by simp [idxF] at h
  | [], _ :: _, _, _, _, e, _ => by simp at e
  | _ :: _, [], _, _, _, e, _ => by simp at e
  | (n, v) :: ps, g :: fs, f, i, j, e, h => by
    simp only [List.map_cons, List.cons.injEq] at e
    obtain ⟨e1, e2⟩ := e
    subst e1
    unfold idxF at h
    split at h
    · rename_i hgf
      subst hgf
      cases h
      simp [List.lookup_cons]
    · rename_i hgf
      obtain ⟨h1, h2⟩ := lookup_idx hinj ps fs f (i + 1) j e2 h
      refine ⟨by omega, ?_⟩
      have hne : (an f == an g) = false := by
        rw [beq_eq_false_iff_ne]
        exact fun z => hgf (hinj _ _ z.symm)
      rw [List.lookup_cons, hne]
      rw [h2]
      obtain ⟨d, hd⟩ : ∃ d, j - i = d + 1 := ⟨j - i - 1, by omega⟩
      rw [hd]
      have : j - (i + 1) = d := by omega
      rw [this]
      rfl
/-- the attributes' names differ -/
def AnInj (G : Glo) : Prop := ∀ i j, G.an i = G.an j → i = j
theorem RepWL.get {F : Hp} {θ : List Addr} : ∀ {ws : List W} {vs : List V} {i : Nat} {w : W}, RepWL G F θ ws vs → ws[i]? = some w → ∃ v, vs[i]? = some v ∧ RepW G F θ w v
  | [], _, _, _, _, e => by simp at e
  | w :: ws, _, i, u, h, e => by
    obtain ⟨v, r, rfl, h1, h2⟩ := h
    cases i with
    | zero => simp at e; subst e; exact ⟨v, rfl, h1⟩
    | succ i =>
      obtain ⟨z, q1, q2⟩ := RepWL.get h2 (by simpa using e)
      exact ⟨z, by simpa using q1, q2⟩
/-- the class of an instance, its fields -/
def viewI (M : Mem) : W → Option (Nat × List Nat × List W)
  | .d (.ins C fs vs) => some (C, fs, vs.map W.d)
  | .cell k => match M[k]? with
    | some (.ins C fs ws) => some (C, fs, ws)
    | _ => none
  | _ => none
theorem viewI_ok {F : Hp} {θ : List Addr} {H : Hp} {M : Mem} (hr : HR G F θ H M) {w : W} {v : V} {C : Nat} {fs : List Nat} {ws : List W} (r : RepW G F θ w v) (h : viewI M w = some (C, fs, ws)) :
    ∃ a dx ps, G.has C ∧ v = .ref a ∧ H a = some (.ins (G.cls C) dx ps) ∧ ps.map (·.1) = fs.map G.an ∧ RepWL G F θ ws (ps.map (·.2)) := by
  unfold viewI at h
  split at h
  · cases h
    simp only [RepW, Rep] at r
    obtain ⟨hc, a, dx, ps, rfl, h1, h2, h3⟩ := r
    exact ⟨a, dx, ps, hc, rfl, hr.sub _ _ h1, h2, RepL.toW h3⟩
  · rename_i k
    split at h
    · rename_i C' fs' ws' e
      cases h
      obtain ⟨a, ha, rfl⟩ := r
      obtain ⟨_, hc, dx, ps, h1, h2, h3⟩ := hr.cell k a _ ha e
      exact ⟨a, dx, ps, hc, rfl, h1, h2, h3.mono (LE.refl F) (List.take_prefix _ _)⟩
    · cases h
  · cases h
/-- o.f, a field of an instance of one of the classes cs -/
def fldW (f : Nat) (ok : Nat → Bool) : Op1 := fun M x => match viewI M x with
  | some (C, fs, ws) => if ok C then match getFW fs ws f with
    | some w => .ok w M
    | none => .stuck
    else .stuck
  | none => .stuck
theorem pu_fld (f : Nat) (ok : Nat → Bool) (hinj : AnInj G) (hcl : ∀ C, ok C = true → G.has C → L2.Cls G.K (G.cls C) ∧ NoAttr G.K (G.cls C) (G.an f)) (he : PU G X o te fe) (hm : m = G.an f := by rfl) (hb : attributeBase o m X.env (eval o X.env) = eval o X.env := by rfl) (hK : X.K = G.K := by rfl) :
    PU G X (.Attribute o m pos) (fun Wx => tFld G.K (te Wx) (G.an f)) (e1 (fldW f ok) fe) := by
  subst hm
  refine ⟨fun Wx tk => hK ▸ pe_fld (he.pe Wx tk) hb, ?_⟩
  intro Wx F θ σ H ρ M Q sr hg
  refine he.sem Wx F θ σ H ρ M _ sr (Good.seq hg fun x M1 F1 θ1 H1 _ l1 p1 hr1 hg1 v rv => ?_)
  unfold fldW at hg1
  split at hg1
  · rename_i C fs ws e
    split at hg1
    · rename_i hok
      split at hg1
      · rename_i w ew
        obtain ⟨a, dx, ps, hhas, rfl, h1, h2, h3⟩ := viewI_ok hr1 rv e
        obtain ⟨c1, c2⟩ := hcl C hok hhas
        unfold getFW at ew
        obtain ⟨j, hj, hw⟩ := Option.bind_eq_some_iff.mp ew
        obtain ⟨_, hlk⟩ := lookup_idx hinj ps fs f 0 j h2 hj
        obtain ⟨z, hz, rz⟩ := h3.get hw
        rw [List.getElem?_map] at hz
        refine ⟨a, _, dx, ps, z, rfl, h1, c1, c2, ?_, hg1 F1 θ1 H1 (LE.refl F1) (List.prefix_refl _) hr1 z rz⟩
        rw [hlk, Nat.sub_zero]
        exact hz
      · exact hg1.elim
    · exact hg1.elim
  · exact hg1.elim
/-- the attributes' names by number -/
def anOf (L : List Str) (i : Nat) : Str := (L[i]?).getD ⟨#[1114112 + i]⟩
def anOk (L : List Str) : Bool := decide L.Nodup && L.all fun x => x.cps.all fun c => decide (c < 1114112)
theorem an_inj {L : List Str} (h : anOk L = true) : ∀ i j, anOf L i = anOf L j → i = j := by
  obtain ⟨h1, h2⟩ := Bool.and_eq_true_iff.mp h
  have hn : L.Nodup := of_decide_eq_true h1
  have hs : ∀ (x : Str) (i : Nat), x ∈ L → x ≠ ⟨#[1114112 + i]⟩ := fun x i hx e => by
    have q := List.all_eq_true.mp h2 x hx
    subst e
    simp at q
    omega
  intro i j e
  unfold anOf at e
  cases hi : L[i]? with
  | none =>
    cases hj : L[j]? with
    | none =>
      rw [hi, hj] at e
      simp at e
      omega
    | some y =>
      rw [hi, hj] at e
      exact absurd e.symm (hs y i (List.mem_of_getElem? hj))
  | some x =>
    cases hj : L[j]? with
    | none =>
      rw [hi, hj] at e
      exact absurd e (hs x j (List.mem_of_getElem? hi))
    | some y =>
      rw [hi, hj] at e
      have e2 : x = y := e
      subst e2
      exact L2.nodup_ix hn hi hj
end
end PU
set_option Elab.async false
set_option linter.all false
set_option maxRecDepth 100000
set_option maxHeartbeats 4000000
namespace PU
open PySem PySem.Spec PyProof.Rows L2
/-! ### comprehensions -/
theorem set_comm' {α : Type} {l : List α} {i j : Nat} {a b : α} (h : i ≠ j) : (l.set i a).set j b = (l.set j b).set i a := List.set_comm a b h
theorem wipe_set {σ : L2.St} {i : Nat} {x : Option V} : ∀ {vs : List Nat}, i ∈ vs → wipe (σ.set i x) vs = wipe σ vs
  | v :: vs, h => by
    unfold wipe
    by_cases hi : i ∈ vs
    · rw [wipe_set hi]
    · have e : i = v := by
        rcases List.mem_cons.mp h with e | e
        · exact e
        · exact absurd e hi
      subst e
      have out : ∀ {vs : List Nat}, i ∉ vs → wipe (σ.set i x) vs = (wipe σ vs).set i x := by
        intro vs
        induction vs with
        | nil => intro _; rfl
        | cons w vs ih =>
          intro hn
          simp only [List.mem_cons, not_or] at hn
          unfold wipe
          rw [ih hn.2, set_comm' hn.1]
      rw [out hi, List.set_set]
def wipeE (ρ : Env) : List Nat → Env
  | [] => ρ
  | v :: vs => (wipeE ρ vs).set v none
theorem wipeE_length (ρ : Env) : ∀ vs : List Nat, (wipeE ρ vs).length = ρ.length
  | [] => rfl
  | v :: vs => by unfold wipeE; rw [List.length_set, wipeE_length ρ vs]
section
variable {G : Glo} {X : Cx}
theorem Slots.wipe {F : Hp} {θ : List Addr} {σ : L2.St} {ρ : Env} (h : Slots G F θ σ ρ) (hl : σ.length = ρ.length) : ∀ vs : List Nat, Slots G F θ (L2.wipe σ vs) (wipeE ρ vs)
  | [] => h
  | v :: vs => fun i w e => by
    unfold wipeE at e
    unfold L2.wipe
    by_cases hi : v = i
    · subst hi
      by_cases hlt : v < (wipeE ρ vs).length
      · rw [List.getElem?_set_self hlt] at e; cases e
      · rw [List.getElem?_eq_none (by simpa using hlt)] at e; cases e
    · rw [List.getElem?_set_ne hi] at e ⊢
      exact Slots.wipe h hl vs i w e
/-- a target that stores in its own slots alone -/
def OwnT (t : TG) (vs : List Nat) : Prop := ∀ (v : V) (σ : L2.St) (H : Hp) (Q : L2.St → Hp → Prop), t v σ H (fun σ' H' => wipe σ' vs = wipe σ vs → Q σ' H') → t v σ H Q
def OwnTs (t : TGs) (vs : List Nat) : Prop := ∀ (us : List V) (σ : L2.St) (H : Hp) (Q : L2.St → Hp → Prop), t us σ H (fun σ' H' => wipe σ' vs = wipe σ vs → Q σ' H') → t us σ H Q
theorem own_name {i : Nat} {vs : List Nat} (h : i ∈ vs) : OwnT (gName i) vs := fun v σ H Q q => q (wipe_set h)
theorem own_nil {vs : List Nat} : OwnTs gNil vs := fun us σ H Q ⟨e, q⟩ => ⟨e, q rfl⟩
theorem own_cons {t : TG} {u : TGs} {vs : List Nat} (h : OwnT t vs) (h2 : OwnTs u vs) (mono : ∀ v σ H Q Q', (∀ σ' H', Q σ' H' → Q' σ' H') → t v σ H Q → t v σ H Q') : OwnTs (gCons t u) vs := fun us σ H Q ⟨v, r, e, q⟩ =>
  ⟨v, r, e, h v σ H _ (mono v σ H _ _ (fun σ' H' q2 e2 => h2 r σ' H' _ (by rw [e2]; exact q2)) q)⟩
theorem own_cons_name {i : Nat} {u : TGs} {vs : List Nat} (h : i ∈ vs) (h2 : OwnTs u vs) : OwnTs (gCons (gName i) u) vs := own_cons (own_name h) h2 fun v σ H Q Q' i q => i _ _ q
theorem own_tup {K : PySem.W.Frag} {n : Nat} {t : TGs} {vs : List Nat} (h : OwnTs t vs) : OwnT (gTup K n t) vs := fun v σ H Q ⟨a, xs, e, q1, q2, q⟩ => ⟨a, xs, e, q1, q2, h xs σ H Q q⟩
/-- the clauses' tests -/
structure PUTs (G : Glo) (X : Cx) (ifs : List Expr) (t : L2.WX → TT) (f : Tv) : Prop where
  pe : ∀ Wx, Takes X Wx → PTs X ifs (t Wx)
  sem : SemT G t f
def tvYes : Tv := fun _ M => .ok true M
theorem puts_nil : PUTs G X [] (fun _ => tYes) tvYes := ⟨fun _ _ => pts_nil, fun Wx F θ σ H ρ M Q sr hg => hg F θ H (LE.refl F) (List.prefix_refl _) sr.hr⟩
theorem puts_one {c : Expr} {t : L2.WX → TT} {f : Tv} (h : PUT G X c t f) : PUTs G X [c] t f := ⟨fun Wx tk => pts_one (h.pe Wx tk), h.sem⟩
/-- nothing may be raised -/
def noX {α : Type} (r : R α) : R α := match r with
  | .exc _ _ => .stuck
  | r => r
theorem noX_good {α : Type} {F : Hp} {θ : List Addr} {P : Hp → List Addr → Hp → α → Prop} {Wx Wx' : Value → Option Addr → Hp → Prop} {r : R α} (h : Good G F θ P Wx (noX r)) : Good G F θ P Wx' r := by
  cases r with
  | stuck => exact h
  | ok a M => exact h
  | exc x M => exact h.elim
def compN (n0 : Nat) (ρw : Env) (g : Gv) (tt : Tv) (fe : Ev) : List D → Mem → R W
  | [], M => match M[n0]? with
    | some (.lst acc) => .ok (.d (.lst acc)) (M.take n0)
    | _ => .stuck
  | d :: r, M => match g (.d d) ρw M with
    | .ok ρ1 M1 => (noX (tt ρ1 M1)).bind fun b M2 => if b then (noX (fe ρ1 M2)).bind fun w M3 => (fin (n0 + 1) w M3).bind fun w' M4 => match w', M4[n0]? with
        | .d x, some (.lst acc) => if acc.length < sizeLine then compN n0 ρw g tt fe r (M4.set n0 (.lst (acc ++ [x]))) else .stuck
        | _, _ => .stuck
      else compN n0 ρw g tt fe r (M2.take (n0 + 1))
    | _ => .stuck
def eComp (vs : List Nat) (fi : Iv) (g : Gv) (tt : Tv) (fe : Ev) : Ev := fun ρ M => (fi ρ M).bind fun ds M1 => compN M1.length (wipeE ρ vs) g tt fe ds (M1 ++ [.lst []])
variable {tg iter elt e : Expr} {ifs : List Expr} {wi : L2.WX → TI} {fi : Iv} {tt : TG} {gg : Gv} {tc : L2.WX → TT} {fc : Tv} {te : L2.WX → TE} {fe : Ev} {vs : List Nat}
theorem compN_noexc (n0 : Nat) (ρw : Env) (g : Gv) (t : Tv) (fe : Ev) : ∀ (ds : List D) (M : Mem) (x : Ex) (M' : Mem), compN n0 ρw g t fe ds M ≠ .exc x M'
  | [], M, x, M', h => by
    unfold compN at h
    split at h <;> cases h
  | d :: r, M, x, M', h => by
    unfold compN at h
    split at h
    · rename_i ρ1 M1 e1
      cases e2 : t ρ1 M1 with
      | stuck => rw [e2] at h; cases h
      | exc y N => rw [e2] at h; cases h
      | ok b M2 =>
        rw [e2] at h
        simp only [noX, R.bind_ok] at h
        split at h
        · cases e3 : fe ρ1 M2 with
          | stuck => rw [e3] at h; cases h
          | exc y N => rw [e3] at h; cases h
          | ok w M3 =>
            rw [e3] at h
            simp only [noX, R.bind_ok] at h
            cases e4 : fin (n0 + 1) w M3 with
            | stuck => rw [e4] at h; cases h
            | exc y N => unfold fin at e4; split at e4 <;> (try split at e4) <;> (try split at e4) <;> (try split at e4) <;> cases e4
            | ok w' M4 =>
              rw [e4] at h
              simp only [R.bind_ok] at h
              split at h
              · split at h
                · exact compN_noexc n0 ρw g t fe r _ x M' h
                · cases h
              · cases h
        · exact compN_noexc n0 ρw g t fe r _ x M' h
    · cases h
abbrev WF : L2.WX := fun _ _ _ _ => False
theorem sem_comp (hi : SemI G wi fi) (hg' : SemG G tt gg) (own : OwnT tt vs) (hc : SemT G tc fc) (he : SemE G te fe) : SemE G (fun Wx => tLc (wi Wx) tt (tc WF) (te WF) vs) (eComp vs fi gg fc fe) := by
  intro Wx F θ σ H ρ M Q sr hg
  refine hi Wx F θ σ H ρ M _ sr (Good.seq hg fun ds M1 F1 θ1 H1 _ l1 p1 hr1 hg1 J hw D hD => ?_)
  have hF : F1 D = none := by
    cases e : F1 D with
    | none => rfl
    | some u => have := hr1.sub D u e; rw [hD] at this; cases this
  have sr1 := sr.mono l1 p1 hr1
  have swp : Slots G F1 θ1 (wipe σ vs) (wipeE ρ vs) := Slots.wipe sr1.sl sr1.len vs
  have hr2 : HR G F1 (θ1 ++ [D]) (upd H1 D (.lst [])) (M1 ++ [.lst []]) := hr1.push (c := .lst []) hD ⟨hF, [], upd_same, RepL.nil⟩
  have hn : θ1.length = M1.length := hr1.len
  refine ⟨fun i m H => m = ds.length - i ∧ i ≤ ds.length ∧ ∃ F2 M2, LE F1 F2 ∧ HR G F2 (θ1 ++ [D]) H M2 ∧ Good G F1 θ1 (postE G Q) (fun c d H' => Wx c d σ H') (compN M1.length (wipeE ρ vs) gg fc fe (ds.drop i) M2),
    ⟨_, rfl, Nat.zero_le _, F1, _, LE.refl F1, hr2, by rw [List.drop_zero]; exact hg1⟩, ?_⟩
  rintro i m H2 ⟨rfl, hil, F2, M2, l2, hr3, hg2⟩
  have wk := hw F2 (θ1 ++ [D]) H2 M2 l2 (List.prefix_append _ _) hr3 i
  have pD : (θ1 ++ [D])[M1.length]? = some D := by rw [← hn]; simp
  by_cases hlt : i < ds.length
  · obtain ⟨go, yl⟩ := wk.1 ds[i] (List.getElem?_eq_getElem hlt)
    rw [List.drop_eq_getElem_cons hlt] at hg2
    refine .inr ⟨go, fun H' => ∃ F3 M3, LE F1 F3 ∧ HR G F3 (θ1 ++ [D]) H' M3 ∧ Good G F1 θ1 (postE G Q) (fun c d H' => Wx c d σ H') (compN M1.length (wipeE ρ vs) gg fc fe (ds.drop (i + 1)) M3),
      fun H' q => ⟨_, by omega, rfl, hlt, q⟩, fun x H3 hy => ?_⟩
    obtain ⟨F3, l3, hr4, rx⟩ := yl x H3 hy
    have sr4 : SR G F3 (θ1 ++ [D]) (wipe σ vs) H3 (wipeE ρ vs) M2 := ⟨hr4, by rw [wipe_length, wipeE_length]; exact sr.len, (swp.mono (l2.trans l3) (List.prefix_append _ _))⟩
    refine own x _ H3 _ ?_
    have ww : wipe (wipe σ vs) vs = wipe σ vs := by
      have key : ∀ (us : List Nat) (σ : L2.St), (∀ v ∈ us, σ[v]? = some none ∨ σ[v]? = none) → wipe σ us = σ := by
        intro us
        induction us with
        | nil => intro σ _; rfl
        | cons v us ih =>
          intro σ h
          unfold wipe
          rw [ih σ fun w hw => h w (List.mem_cons_of_mem _ hw)]
          rcases h v List.mem_cons_self with e | e
          · obtain ⟨hl, e2⟩ := List.getElem?_eq_some_iff.mp e
            have : σ.set v none = σ.set v σ[v] := by rw [e2]
            rw [this, List.set_getElem_self]
          · exact List.set_eq_of_length_le (List.getElem?_eq_none_iff.mp e)
      refine key vs _ fun v hv => ?_
      cases e : (wipe σ vs)[v]? with
      | none => exact .inr rfl
      | some o =>
        cases o with
        | none => exact .inl rfl
        | some y => exact absurd hv (wipe_some e).2
    unfold compN at hg2
    refine hg' (fun _ _ _ _ => False) F3 (θ1 ++ [D]) (wipe σ vs) H3 _ M2 (.d ds[i]) x _ sr4 rx ?_
    cases e : gg (.d ds[i]) (wipeE ρ vs) M2 with
    | stuck => rw [e] at hg2; exact hg2
    | exc y N => rw [e] at hg2; exact hg2
    | ok ρ1 N1 =>
      rw [e] at hg2
      dsimp only at hg2
      intro F4 θ4 σ4 H4 l4 p4 sr5 ew
      refine ⟨by rw [ew, ww], ?_⟩
      -- the test
      have hgT : Good G F4 θ4 (postT fun b H5 => if b = true then te WF σ4 H5 fun y H6 => ∃ acc, H6 D = some (.lst acc) ∧ acc.length < sizeLine ∧ ∃ F3 M3, LE F1 F3 ∧ HR G F3 (θ1 ++ [D]) (upd H6 D (.lst (acc ++ [y]))) M3 ∧ Good G F1 θ1 (postE G Q) (fun c d H' => Wx c d σ H') (compN M1.length (wipeE ρ vs) gg fc fe (ds.drop (i + 1)) M3)
          else ∃ F3 M3, LE F1 F3 ∧ HR G F3 (θ1 ++ [D]) H5 M3 ∧ Good G F1 θ1 (postE G Q) (fun c d H' => Wx c d σ H') (compN M1.length (wipeE ρ vs) gg fc fe (ds.drop (i + 1)) M3)) (fun c d H' => Wx c d σ H') (noX (fc ρ1 N1)) := by
        cases e5 : fc ρ1 N1 with
        | stuck => rw [e5] at hg2; exact hg2
        | exc y N => rw [e5] at hg2; exact hg2
        | ok b N2 =>
          rw [e5] at hg2
          simp only [noX, R.bind_ok] at hg2
          intro F5 θ5 H5 l5 p5 hr5
          have lF5 : LE F1 F5 := (((l2.trans l3).trans l4)).trans l5
          have pth : (θ1 ++ [D]) <+: θ5 := p4.trans p5
          have hn2 : (θ1 ++ [D]).length = M1.length + 1 := by simp [hn]
          cases b with
          | false =>
            simp only [Bool.false_eq_true, if_false] at hg2 ⊢
            have hr6 := hr5.cut (M1.length + 1)
            rw [take_len pth hn2] at hr6
            exact ⟨F5, _, lF5, hr6, hg2⟩
          | true =>
            simp only [if_true] at hg2 ⊢
            have sr6 : SR G F5 θ5 σ4 H5 ρ1 N2 := sr5.mono l5 p5 hr5
            refine he (fun _ _ _ _ => False) F5 θ5 σ4 H5 ρ1 N2 _ sr6 ?_
            cases e6 : fe ρ1 N2 with
            | stuck => rw [e6] at hg2; exact hg2
            | exc y N => rw [e6] at hg2; exact hg2.elim
            | ok w N3 =>
              rw [e6] at hg2
              simp only [noX, R.bind_ok] at hg2
              intro F6 θ6 H6 l6 p6 hr6 y ry
              have pth6 : (θ1 ++ [D]) <+: θ6 := pth.trans p6
              have lF6 : LE F1 F6 := lF5.trans l6
              -- the end of the element: frozen
              refine fin_ok F1 F6 (θ1 ++ [D]) θ6 H6 N3 (M1.length + 1) w y (fun y H6 => ∃ acc, H6 D = some (.lst acc) ∧ acc.length < sizeLine ∧ ∃ F3 M3, LE F1 F3 ∧ HR G F3 (θ1 ++ [D]) (upd H6 D (.lst (acc ++ [y]))) M3 ∧ Good G F1 θ1 (postE G Q) (fun c d H' => Wx c d σ H') (compN M1.length (wipeE ρ vs) gg fc fe (ds.drop (i + 1)) M3)) (fun _ _ _ => False) hn2 lF6 pth6 hr6 ry ?_
              cases e7 : fin (M1.length + 1) w N3 with
              | stuck => rw [e7] at hg2; exact hg2
              | exc z N => unfold fin at e7; split at e7 <;> (try split at e7) <;> (try split at e7) <;> (try split at e7) <;> cases e7
              | ok w' N4 =>
                rw [e7] at hg2
                simp only [R.bind_ok] at hg2
                intro F7 θ7 H7 l7 p7 hr7 y2 ry2
                split at hg2
                · rename_i x' acc e8
                  split at hg2
                  · rename_i hz
                    have pD7 : θ7[M1.length]? = some D := by
                      obtain ⟨η, rfl⟩ := p7
                      rw [List.getElem?_append_left (by simp [hn])]
                      exact pD
                    obtain ⟨hF7, vs7, hH7, rl7⟩ := hr7.cell M1.length D _ pD7 e8
                    have r2 : Rep G F7 x' y2 := ry2
                    refine ⟨vs7, hH7, by rw [rl7.length]; exact hz, F7, N4.set M1.length (.lst (acc ++ [x'])), l7, ?_, hg2⟩
                    have hr8 := hr7.write (k := M1.length) (c := .lst (acc ++ [x'])) (o := .lst (vs7 ++ [y2])) pD7 hF7 ⟨hF7, _, upd_same, rl7.append (RepL.one r2)⟩
                    have hl4 : N4.length = M1.length + 1 := by
                      unfold fin at e7
                      have tl : (N3.take (M1.length + 1)).length = M1.length + 1 := by
                        rw [List.length_take, ← hr6.len]
                        have := pth6.length_le
                        simp at this
                        omega
                      split at e7 <;> (try split at e7) <;> (try split at e7) <;> (try split at e7) <;> cases e7 <;> exact tl
                    have e9 : θ7 = θ1 ++ [D] := by
                      have h1 : θ7.length = M1.length + 1 := by rw [hr7.len]; exact hl4
                      have h2 := prefix_take p7
                      rw [hn2, ← h1, List.take_length] at h2
                      exact h2
                    rw [← e9]
                    exact hr8
                  · exact hg2.elim
                · exact hg2.elim
      have hgT2 : Good G F4 θ4 (postT fun b H5 => if b = true then te WF σ4 H5 fun y H6 => ∃ acc, H6 D = some (.lst acc) ∧ acc.length < sizeLine ∧ ∃ F3 M3, LE F1 F3 ∧ HR G F3 (θ1 ++ [D]) (upd H6 D (.lst (acc ++ [y]))) M3 ∧ Good G F1 θ1 (postE G Q) (fun c d H' => Wx c d σ H') (compN M1.length (wipeE ρ vs) gg fc fe (ds.drop (i + 1)) M3)
          else ∃ F3 M3, LE F1 F3 ∧ HR G F3 (θ1 ++ [D]) H5 M3 ∧ Good G F1 θ1 (postE G Q) (fun c d H' => Wx c d σ H') (compN M1.length (wipeE ρ vs) gg fc fe (ds.drop (i + 1)) M3)) (fun _ _ _ => False) (fc ρ1 N1) := noX_good hgT
      exact hc (fun _ _ _ _ => False) F4 θ4 σ4 H4 ρ1 N1 _ sr5 hgT2
  · refine .inl ⟨wk.2 (Nat.le_of_not_lt hlt), ?_⟩
    have e0 : ds.drop i = [] := List.drop_eq_nil_of_le (Nat.le_of_not_lt hlt)
    rw [e0] at hg2
    unfold compN at hg2
    split at hg2
    · rename_i acc ea
      obtain ⟨hFD, vs2, hH2, rl2⟩ := hr3.cell M1.length D _ pD ea
      obtain ⟨hr5, le⟩ := hr3.freeze pD hFD hH2
      have hr6 := hr5.cut M1.length
      rw [take_len (List.prefix_append _ _) hn, List.take_set_of_le (Nat.le_refl _)] at hr6
      refine hg2 _ θ1 H2 (l2.trans le) (List.prefix_refl _) hr6 _ ?_
      simp only [RepW, Rep]
      exact ⟨D, vs2, rfl, upd_same, rl2.mono le⟩
    · exact hg2.elim
end
end PU
set_option Elab.async false
set_option linter.all false
set_option maxRecDepth 100000
set_option maxHeartbeats 4000000
namespace PU
open PySem PySem.Spec PyProof.Rows L2
section
variable {G : Glo} {X : Cx}
variable {tg iter elt e : Expr} {ifs : List Expr} {wi : L2.WX → TI} {fi : Iv} {tt : TG} {gg : Gv} {tc : L2.WX → TT} {fc : Tv} {te : L2.WX → TE} {fe : Ev} {scope : Scope} {pos spos : Pos}
/-- [e for t in it if ..] -/
theorem pu_lc (own : List (Str × Nat)) (hc : X.calm = true) (hN : X.N.Nodup) (hi : PUI G X tg iter wi fi) (ow : OwnT tt (own.map (·.2)))
    (hg : ∀ (s : Shared) (H : Hp) (C : Addr) (cl : List (Str × Addr)) (fp : List Addr), PUG G (X.blk s H scope (compEnvC scope cl C X.env) fp) tg tt gg) (ht : ∀ (s : Shared) (H : Hp) (C : Addr) (cl : List (Str × Addr)) (fp : List Addr), PUTs G (X.blk s H scope (compEnvC scope cl C X.env) fp) ifs tc fc)
    (he : ∀ (s : Shared) (H : Hp) (C : Addr) (cl : List (Str × Addr)) (fp : List Addr), PU G (X.blk s H scope (compEnvC scope cl C X.env) fp) elt te fe)
    (ok : blkC X.N X.env.scope scope own = true := by kernel_rfl) (hs : ∀ x, foldedSetIterable iter X.env x = pure x := by intro _; rfl) :
    PU G X (.ListComp elt [⟨tg, iter, ifs, 0⟩] scope pos) (fun Wx => tLc (wi Wx) tt (tc WF) (te WF) (own.map (·.2))) (eComp (own.map (·.2)) fi gg fc fe) :=
  ⟨fun Wx tk => pe_lc hc hN (hi.pe Wx tk) (blkOk_by ok) (fun s H C cl fp => (hg s H C cl fp).pe) (fun s H C cl fp => (ht s H C cl fp).pe WF takes0) (fun s H C cl fp => (he s H C cl fp).pe WF takes0) hs,
    sem_comp hi.sem (hg X.s_0 X.H_0 0 [] []).sem ow (ht X.s_0 X.H_0 0 [] []).sem (he X.s_0 X.H_0 0 [] []).sem⟩
/-- y = [e for t in it if ..], y a local -/
theorem pus_setLc (i : Nat) {y : Str} {py : Pos} (own : List (Str × Nat)) (hc : X.calm = true) (hN : X.N.Nodup) (hi : PUI G X tg iter wi fi) (ow : OwnT tt (own.map (·.2)))
    (hg : ∀ (s : Shared) (H : Hp) (C : Addr) (cl : List (Str × Addr)) (fp : List Addr), PUG G (X.blk s H scope (compEnvC scope cl C X.env) fp) tg tt gg) (ht : ∀ (s : Shared) (H : Hp) (C : Addr) (cl : List (Str × Addr)) (fp : List Addr), PUTs G (X.blk s H scope (compEnvC scope cl C X.env) fp) ifs tc fc)
    (he : ∀ (s : Shared) (H : Hp) (C : Addr) (cl : List (Str × Addr)) (fp : List Addr), PU G (X.blk s H scope (compEnvC scope cl C X.env) fp) elt te fe)
    (hsw : swapsWith (.ListComp elt [⟨tg, iter, ifs, 0⟩] scope pos) (some (.Name y py)) spos.line X.env = pure true := by exact sw_true rfl rfl rfl (by decide +kernel))
    (ok : blkC X.N X.env.scope scope own = true := by kernel_rfl) (hy : X.N[i]? = some y := by rfl) (hyl : X.env.scope.names.lookup y = some .local := by rfl) (hs : ∀ x, foldedSetIterable iter X.env x = pure x := by intro _; rfl) :
    PUS G X (.Assign [.Name y py] (.ListComp elt [⟨tg, iter, ifs, 0⟩] scope pos) spos) (fun Wx => tAsg (tLc (wi Wx) tt (tc WF) (te WF) (own.map (·.2))) (gName i)) (sSet i (eComp (own.map (·.2)) fi gg fc fe)) := by
  refine ⟨fun Wx tk => ps_setLc hc hN hy hyl hsw (hi.pe Wx tk) (blkOk_by ok) (fun s H C cl fp => (hg s H C cl fp).pe) (fun s H C cl fp => (ht s H C cl fp).pe WF takes0) (fun s H C cl fp => (he s H C cl fp).pe WF takes0) hs, ?_⟩
  intro Wx F θ σ H ρ M D sr hq
  refine sem_comp hi.sem (hg X.s_0 X.H_0 0 [] []).sem ow (ht X.s_0 X.H_0 0 [] []).sem (he X.s_0 X.H_0 0 [] []).sem Wx F θ σ H ρ M _ sr (GoodS.seqE sr hq fun w M1 F1 θ1 H1 _ l1 p1 sr1 hg1 v rv => ?_)
  exact hg1 F1 θ1 _ H1 (LE.refl F1) (List.prefix_refl _) (sr1.set rv)
end

/-! ### methods, properties, new instances -/
section
variable {G : Glo} {X : Cx} {CX : CXT} {k : Nat} {f C : Addr} {fd : FuncData} {ps : List Str} {sp : Sp} {fs : Fn} {x m : Str} {p pos apos : Pos} {e o : Expr} {es : List Expr} {t : L2.WX → TA} {ta : TA} {fa : Av} {te : L2.WX → TE} {to : TE} {fe : Ev} {dds : List D} {dvs : List V} {ds : List Value} {n : Nat} {E : L2.St → XK}
def tMethS (C : Addr) (m : Str) (sp : Sp) (dvs : List V) (E : L2.St → XK) (to : TE) (t : TA) : TE := fun σ H Q => to σ H fun x H1 => ∃ a dx fs, x = .ref a ∧ H1 a = some (.ins C dx fs) ∧ fs.lookup m = none ∧
  t σ H1 fun vs H2 => sp (x :: (vs ++ dvs)) H2 Q (E σ)
theorem pe_methS {pl : Sem Bool} (he : PE X o to) (c : L2.Cls X.K C) (hm : Meth X.K C m f) (F : FnG X.prog X.w X.K X.mg X.base CX k f fd ps sp) (hr : RoomG k X.A) (hb : Binds X.K fd ps ds) (hd : Vals dvs ds) (hx : ∀ σ, PassesAt CX X σ (E σ)) (ha : PA X (e :: es) ta)
    (hst : starEach (e :: es) X.env = (false, eval e X.env) :: starEach es X.env := by rfl) (hpl : (backTo pos (starEach es X.env)).any (·.1) = false := by rfl)
    (ht : eval (.Call (.Attribute o m apos) (e :: es) [] pos) X.env = (do
      let ov ← eval o X.env
      standAt apos.atName
      let (f, first) ← holding [ov] (getMethod ov m pl)
      callWith pos f first (backTo pos (starEach (e :: es) X.env)) (backToKw pos (keywordEach [] X.env))) := by rfl) :
    PE X (.Call (.Attribute o m apos) (e :: es) [] pos) (tMethS C m sp dvs E to ta) := by
  refine ⟨fun pins s σ H Q I h => ?_⟩
  refine PySem.W.methodCall_KW (pl := pl) (thn (he.run pins s σ H _ I h) fun u s1 ⟨x, H1, I1, rx, a, dx, fs, ex, ea, l, q⟩ => ?_) ht
  subst ex
  obtain rfl : u = Value.ref a := rx
  refine getmeth_ok I1 ea c hm l ?_
  refine PySem.W.callWith_K (first := [.ref a]) (h₀ := X.base) I.ok.mod.kin hm.kp (thn (ha.run pos pins s1 σ H1 _ I1 q) fun us s2 ⟨vs, H2, I2, r, q2⟩ => ⟨I2.kIn, ?_⟩) hst hpl
  exact run_fnG (us := .ref a :: us) (vs := .ref a :: vs) F hr hb hd (hx σ) I2 (.cons rfl r) q2
theorem pe_methS0 {pl : Sem Bool} (he : PE X o to) (c : L2.Cls X.K C) (hm : Meth X.K C m f) (F : FnG X.prog X.w X.K X.mg X.base CX k f fd ps sp) (hr : RoomG k X.A) (hb : Binds X.K fd ps ds) (hd : Vals dvs ds) (hx : ∀ σ, PassesAt CX X σ (E σ))
    (ht : eval (.Call (.Attribute o m apos) [] [] pos) X.env = (do
      let ov ← eval o X.env
      standAt apos.atName
      let (f, first) ← holding [ov] (getMethod ov m pl)
      callWith pos f first (backTo pos (starEach [] X.env)) (backToKw pos (keywordEach [] X.env))) := by rfl) :
    PE X (.Call (.Attribute o m apos) [] [] pos) (tMethS C m sp dvs E to tNil) := by
  refine ⟨fun pins s σ H Q I h => ?_⟩
  refine PySem.W.methodCall_KW (pl := pl) (thn (he.run pins s σ H _ I h) fun u s1 ⟨x, H1, I1, rx, a, dx, fs, ex, ea, l, q⟩ => ?_) ht
  subst ex
  obtain rfl : u = Value.ref a := rx
  refine getmeth_ok I1 ea c hm l ?_
  exact PySem.W.callWith_K0 (first := [.ref a]) I1.kIn hm.kp (run_fnG (us := [.ref a]) (vs := [.ref a]) F hr hb hd (hx σ) I1 (.cons rfl .nil) q)
theorem lookup_none {an : Nat → Str} (hinj : ∀ i j, an i = an j → i = j) : ∀ (ps : List (Str × V)) (fs : List Nat) (f i : Nat), ps.map (·.1) = fs.map an → idxF fs f i = none → ps.lookup (an f) = none
  | [], _, _, _, _, _ => rfl
  | _ :: _, [], _, _, e, _ => by simp at e
  | (n, v) :: ps, g :: fs, f, i, e, h => by
    simp only [List.map_cons, List.cons.injEq] at e
    obtain ⟨e1, e2⟩ := e
    subst e1
    unfold idxF at h
    split at h
    · cases h
    · rename_i hgf
      have hne : (an f == an g) = false := by
        rw [beq_eq_false_iff_ne]
        exact fun z => hgf (hinj _ _ z.symm)
      rw [List.lookup_cons, hne]
      exact lookup_none hinj ps fs f (i + 1) e2 h
/-- the receiver is an instance of C that has no such field -/
def rcvW (C mi : Nat) (M : Mem) (x : W) : Bool := match viewI M x with
  | some (C', fl, _) => decide (C' = C) && (idxF fl mi 0).isNone
  | none => false
theorem rcv_ok {F : Hp} {θ : List Addr} {H : Hp} {M : Mem} (hinj : AnInj G) (hr : HR G F θ H M) {w : W} {v : V} {C mi : Nat} (r : RepW G F θ w v) (h : rcvW C mi M w = true) : ∃ a dx ps, v = .ref a ∧ H a = some (.ins (G.cls C) dx ps) ∧ ps.lookup (G.an mi) = none := by
  unfold rcvW at h
  split at h
  · rename_i C' fl ws e
    obtain ⟨h1, h2⟩ := Bool.and_eq_true_iff.mp h
    obtain ⟨a, dx, ps, _, ea, hH, hn, _⟩ := viewI_ok hr r e
    have ec : C' = C := of_decide_eq_true h1
    subst ec
    exact ⟨a, dx, ps, ea, hH, lookup_none hinj ps fl mi 0 hn (Option.isNone_iff_eq_none.mp h2)⟩
  · cases h
def eMeth (C mi : Nat) (f : Fn) (dds : List D) (fe : Ev) (fa : Av) : Ev := fun ρ M => (fe ρ M).bind fun x M1 => if rcvW C mi M1 x then (fa ρ M1).bind fun ws M2 => f (x :: (ws ++ dds.map W.d)) M2 else .stuck
theorem pu_meth (C mi : Nat) {pl : Sem Bool} (hinj : AnInj G) (c : L2.Cls X.K (G.cls C)) (hm : Meth X.K (G.cls C) m f) (F : FnG X.prog X.w X.K X.mg X.base (L2.CX X.prog X.w) k f fd ps (spF G n fs)) (hr : RoomG k X.A) (hb : Binds X.K fd ps ds) (hd : Vals dvs ds) (hdd : Cst G dds dvs) (he : PU G X o te fe) (ha : PUA G X (e :: es) t fa)
    (hmi : m = G.an mi := by rfl) (hst : starEach (e :: es) X.env = (false, eval e X.env) :: starEach es X.env := by rfl) (hpl : (backTo pos (starEach es X.env)).any (·.1) = false := by rfl)
    (ht : eval (.Call (.Attribute o m apos) (e :: es) [] pos) X.env = (do
      let ov ← eval o X.env
      standAt apos.atName
      let (f, first) ← holding [ov] (getMethod ov m pl)
      callWith pos f first (backTo pos (starEach (e :: es) X.env)) (backToKw pos (keywordEach [] X.env))) := by rfl) :
    PU G X (.Call (.Attribute o m apos) (e :: es) [] pos) (fun Wx => tMethS (G.cls C) m (spF G n fs) dvs (L2.WE Wx) (te Wx) (t Wx)) (eMeth C mi (eN n fs) dds fe fa) := by
  refine ⟨fun Wx tk => pe_methS (he.pe Wx tk) c hm F hr hb hd (passAt tk) (ha.pe Wx tk) hst hpl ht, ?_⟩
  subst hmi
  intro Wx F0 θ σ H ρ M Q sr hg
  refine he.sem Wx F0 θ σ H ρ M _ sr (Good.seq hg fun x M1 F1 θ1 H1 _ l1 p1 hr1 hg1 v rv => ?_)
  split at hg1
  · rename_i hrc
    obtain ⟨a, dx, qs, rfl, hH, hl⟩ := rcv_ok hinj hr1 rv hrc
    refine ⟨a, dx, qs, rfl, hH, hl, ?_⟩
    refine ha.sem Wx F1 θ1 σ H1 ρ M1 _ (sr.mono l1 p1 hr1) (Good.seq hg1 fun ws M2 F2 θ2 H2 _ l2 p2 hr2 hg2 vs rvs => ?_)
    unfold eN at hg2
    split at hg2
    · rename_i hn
      have h2 := (hdd F2).length
      have e0 : V.ref a :: (vs ++ dvs) = (V.ref a :: vs) ++ dvs := rfl
      rw [e0]
      refine sp_of (fs := fs) ?_ hdd hr2 (ws := x :: ws) (show RepWL G F2 θ2 (x :: ws) (V.ref a :: vs) from ⟨_, _, rfl, rv.mono l2 p2, rvs⟩) hg2
      simp only [List.length_cons, List.length_append, List.length_map] at hn ⊢
      rw [rvs.length, h2]
      omega
    · exact hg2.elim
  · exact hg1.elim
theorem pu_meth0 (C mi : Nat) {pl : Sem Bool} (hinj : AnInj G) (c : L2.Cls X.K (G.cls C)) (hm : Meth X.K (G.cls C) m f) (F : FnG X.prog X.w X.K X.mg X.base (L2.CX X.prog X.w) k f fd ps (spF G n fs)) (hr : RoomG k X.A) (hb : Binds X.K fd ps ds) (hd : Vals dvs ds) (hdd : Cst G dds dvs) (he : PU G X o te fe)
    (hmi : m = G.an mi := by rfl)
    (ht : eval (.Call (.Attribute o m apos) [] [] pos) X.env = (do
      let ov ← eval o X.env
      standAt apos.atName
      let (f, first) ← holding [ov] (getMethod ov m pl)
      callWith pos f first (backTo pos (starEach [] X.env)) (backToKw pos (keywordEach [] X.env))) := by rfl) :
    PU G X (.Call (.Attribute o m apos) [] [] pos) (fun Wx => tMethS (G.cls C) m (spF G n fs) dvs (L2.WE Wx) (te Wx) tNil) (eMeth C mi (eN n fs) dds fe aNil) := by
  refine ⟨fun Wx tk => pe_methS0 (he.pe Wx tk) c hm F hr hb hd (passAt tk) ht, ?_⟩
  subst hmi
  intro Wx F0 θ σ H ρ M Q sr hg
  refine he.sem Wx F0 θ σ H ρ M _ sr (Good.seq hg fun x M1 F1 θ1 H1 _ l1 p1 hr1 hg1 v rv => ?_)
  split at hg1
  · rename_i hrc
    obtain ⟨a, dx, qs, rfl, hH, hl⟩ := rcv_ok hinj hr1 rv hrc
    refine ⟨a, dx, qs, rfl, hH, hl, ?_⟩
    have hg2 : Good G F1 θ1 (postE G Q) (fun c d H' => Wx c d σ H') (eN n fs (x :: ([] ++ dds.map W.d)) M1) := hg1
    unfold eN at hg2
    split at hg2
    · rename_i hn
      have h2 := (hdd F1).length
      show spF G n fs ([V.ref a] ++ dvs) H1 Q _
      refine sp_of (fs := fs) ?_ hdd hr1 (ws := [x]) (show RepWL G F1 θ1 [x] [V.ref a] from ⟨_, _, rfl, rv, rfl⟩) hg2
      simp only [List.length_cons, List.length_append, List.length_map, List.length_nil] at hn ⊢
      rw [h2]
      omega
    · exact hg2.elim
  · exact hg1.elim
/-- o.f, a property -/
def eProp (C : Nat) (f : Fn) (fe : Ev) : Ev := fun ρ M => (fe ρ M).bind fun x M1 => match viewI M1 x with
  | some (C', _, _) => if C' = C then noX (f [x] M1) else .stuck
  | none => .stuck
variable {pa : Addr} {fp : Addr}
theorem pu_prop (C : Nat) (c : L2.Cls X.K (G.cls C)) (hp : PropOf X.K (G.cls C) m pa f) (F : FnG X.prog X.w X.K X.mg X.base (L2.CX X.prog X.w) k f fd ps (spF G 1 fs)) (hr : RoomG (k + 1) X.A) (hb : Binds X.K fd ps []) (he : PU G X o te fe)
    (hab : attributeBase o m X.env (eval o X.env) = eval o X.env := by rfl) : PU G X (.Attribute o m pos) (fun Wx => tProp (G.cls C) (spF G 1 fs) [] E0 (te Wx)) (eProp C fs fe) := by
  refine ⟨fun Wx tk => pe_propG (he.pe Wx tk) c hp F hr hb .nil passL hab, ?_⟩
  intro Wx F0 θ σ H ρ M Q sr hg
  refine he.sem Wx F0 θ σ H ρ M _ sr (Good.seq hg fun x M1 F1 θ1 H1 _ l1 p1 hr1 hg1 v rv => ?_)
  split at hg1
  · rename_i C' fl ws e
    split at hg1
    · rename_i ec
      subst ec
      obtain ⟨a, dx, qs, _, rfl, hH, _, _⟩ := viewI_ok hr1 rv e
      refine ⟨a, dx, qs, rfl, hH, rfl, F1, θ1, [x], M1, hr1, ⟨_, _, rfl, rv, rfl⟩, noX_good hg1⟩
    · exact hg1.elim
  · exact hg1.elim
/-! C(..) -/
def tMakeS (C : Addr) (sp : Sp) (dvs : List V) (E : L2.St → XK) (t : TA) : TE := fun σ H Q => t σ H fun vs H1 => ∀ x dx, H1 x = none → H1 dx = none → dx ≠ x →
  sp (.ref x :: (vs ++ dvs)) (upd (upd H1 dx (.own x)) x (.ins C dx [])) (fun v H2 => v = .non ∧ Q (.ref x) H2) (E σ)
theorem run_makeS {pins : List (Addr × Obj)} {σ : L2.St} {H : Hp} {s : Shared} {Q : VK} {us : List Value} {vs : List V} {fa : Addr} (Mk' : Mk X.K C fa) (F : FnG X.prog X.w X.K X.mg X.base CX k fa fd ps sp) (hr : RoomG (k + 1) X.A) (hb : Binds X.K fd ps ds) (hd : Vals dvs ds)
    (hx : PassesAt CX X σ (E σ)) (I : Inv X pins σ H s) (r : Vals vs us)
    (h : ∀ x dx, H x = none → H dx = none → dx ≠ x → sp (.ref x :: (vs ++ dvs)) (upd (upd H dx (.own x)) x (.ins C dx [])) (fun v H2 => v = .non ∧ Q (.ref x) H2) (E σ)) :
    wpAny (model X.prog X.w) X.A (call (.ref C) us) (EP X pins σ Q) X.xe s := by
  have hq := h (s.heap.objs.size + 1) s.heap.objs.size (I.hok.fresh (Nat.le_succ _)) (I.hok.fresh (Nat.le_refl _)) (Nat.ne_of_lt (Nat.lt_succ_self _))
  have I2 := Inv.made (C := C) I
  have r2 : Vals (V.ref (s.heap.objs.size + 1) :: (vs ++ dvs)) (Value.ref (s.heap.objs.size + 1) :: (us ++ ds)) := .cons rfl (r.append hd)
  have hl : (Value.ref (s.heap.objs.size + 1) :: us ++ ds).length = ps.length := by
    have e := r2.length
    rw [F.len _ _ _ _ hq] at e
    exact e.symm
  refine wpAny_call (make_map (f := fa) I.kIn Mk'.makes Mk'.init (beq_iff_eq.mp Mk'.fn) (codeAny_mono (F.run _ X.stack _ _ ⟨Value.ref (s.heap.objs.size + 1) :: us, []⟩ (Value.ref (s.heap.objs.size + 1) :: (us ++ ds)) _ _ (E σ) (hr.make C us [])
    (I2.env0.make C us []) (hb _ (Value.ref (s.heap.objs.size + 1) :: us) I2.kIn hl) r2 hq) fun r s' hq' => ?_))
  cases r with
  | error e => exact hx pins _ _ e s' I2 hq'
  | ok fl =>
    cases fl with
    | ret u =>
      obtain ⟨v, H', I3, rv, ev, q3⟩ := I2.after hq'
      subst ev
      exact ⟨rv, ⟨V.ref (s.heap.objs.size + 1), H', I3, rfl, q3⟩⟩
    | next => exact False.elim hq'
    | brk => exact False.elim hq'
    | cont => exact False.elim hq'
theorem pe_makeS {fa : Addr} (Mk' : Mk X.K C fa) (F : FnG X.prog X.w X.K X.mg X.base CX k fa fd ps sp) (hr : RoomG (k + 1) X.A) (hg : L2.Gl X x) (hm : X.mg x = some (.ref C)) (hb : Binds X.K fd ps ds) (hd : Vals dvs ds) (hx : ∀ σ, PassesAt CX X σ (E σ))
    (ha : PA X (e :: es) ta) (hdb : (x == ("__debug__" : Str)) = false := by decide) (he : starEach (e :: es) X.env = (false, eval e X.env) :: starEach es X.env := by rfl) (hpl : (backTo pos (starEach es X.env)).any (·.1) = false := by rfl) :
    PE X (.Call (.Name x p) (e :: es) [] pos) (tMakeS C sp dvs E ta) := by
  refine ⟨fun pins s σ H Q I h => ?_⟩
  refine wpAny_Call_Name_kw (ld_glob I hg hm ?_ hdb)
  refine PySem.W.callWith_K (h₀ := X.base) I.ok.mod.kin Mk'.kp (thn (ha.run pos pins s σ H _ I h) fun us s1 ⟨vs, H1, I1, r, q⟩ => ⟨I1.kIn, ?_⟩) he hpl
  exact run_makeS Mk' F hr hb hd (hx σ) I1 r q
/-- the new instance, known as data from now on -/
def mkEnd (n : Nat) (r : W) (M : Mem) : R W := match r, M[n]? with
  | .d .non, some (.ins C fs ws) => match allD ws with
    | some ds => .ok (.d (.ins C fs ds)) (M.take n)
    | none => .stuck
  | _, _ => .stuck
/-- .. to be changed further -/
def mkEndC (n : Nat) (r : W) (M : Mem) : R W := match r with
  | .d .non => .ok (.cell n) M
  | _ => .stuck
def eMake (fin : Nat → W → Mem → R W) (C : Nat) (f : Fn) (dds : List D) (fa : Av) : Ev := fun ρ M => (fa ρ M).bind fun ws M1 => (f (.cell M1.length :: (ws ++ dds.map W.d)) (M1 ++ [.ins C [] []])).bind fun r M2 => fin M1.length r M2
theorem HR.other {F : Hp} {θ : List Addr} {H : Hp} {M : Mem} (h : HR G F θ H M) {p : Addr} (hp : H p = none) (o : HO) : HR G F θ (upd H p o) M := by
  have hF : F p = none := by
    cases e : F p with
    | none => rfl
    | some u => have := h.sub p u e; rw [hp] at this; cases this
  refine ⟨h.tab, fun a u e => ?_, h.len, h.nd, fun k a c hk hc => ?_⟩
  · rw [upd_ne (fun z => by subst z; rw [hF] at e; cases e)]; exact h.sub a u e
  · have ha : a ≠ p := fun z => h.ne (List.mem_of_getElem? hk) (by rw [z]; exact hp)
    exact (h.cell k a c hk hc).mono (LE.refl F) (List.prefix_refl _) (fun z => z) (upd_ne ha)
def MkOk (G : Glo) (fi : Nat → W → Mem → R W) : Prop := ∀ (F F' : Hp) (θ θ' : List Addr) (x : Addr) (H' : Hp) (M' : Mem) (n : Nat) (w : W) (v : V) (Q : VK) (E : XK), θ.length = n → LE F F' → θ ++ [x] <+: θ' → HR G F' θ' H' M' → RepW G F' θ' w v →
  Good G F θ (postE G Q) E (fi n w M') → v = .non ∧ Q (.ref x) H'
theorem mkEnd_ok : MkOk G mkEnd := by
  intro F F' θ θ' x H' M' n w v Q E hn l p hr rv hg
  unfold mkEnd at hg
  split at hg
  · rename_i C fs ws e
    split at hg
    · rename_i ds ed
      have hx : θ'[n]? = some x := by
        obtain ⟨η, rfl⟩ := p
        rw [List.getElem?_append_left (by simp [hn]), ← hn]
        simp
      obtain ⟨hF, hhas, dx, qs, hH, e1, rl⟩ := hr.cell n x _ hx e
      obtain ⟨hr3, le⟩ := hr.freeze hx hF hH
      have hr4 := hr3.cut n
      rw [take_len ((List.prefix_append θ [x]).trans p) hn, List.take_set_of_le (Nat.le_refl _)] at hr4
      refine ⟨by simpa only [RepW, Rep] using rv, hg _ θ H' (l.trans le) (List.prefix_refl _) hr4 _ ?_⟩
      simp only [RepW, Rep]
      exact ⟨hhas, x, dx, qs, rfl, upd_same, e1, (allD_ok rl ed).mono le⟩
    · exact hg.elim
  · exact hg.elim
theorem mkEndC_ok : MkOk G mkEndC := by
  intro F F' θ θ' x H' M' n w v Q E hn l p hr rv hg
  unfold mkEndC at hg
  split at hg
  · have hx : θ'[n]? = some x := by
      obtain ⟨η, rfl⟩ := p
      rw [List.getElem?_append_left (by simp [hn]), ← hn]
      simp
    exact ⟨by simpa only [RepW, Rep] using rv, hg F' θ' H' l ((List.prefix_append θ [x]).trans p) hr _ ⟨x, hx, rfl⟩⟩
  · exact hg.elim
theorem pu_make {fi : Nat → W → Mem → R W} (C : Nat) {fa' : Addr} (hhas : G.has C) (hfi : MkOk G fi) (Mk' : Mk X.K (G.cls C) fa') (F : FnG X.prog X.w X.K X.mg X.base (L2.CX X.prog X.w) k fa' fd ps (spF G n fs)) (hr : RoomG (k + 1) X.A) (hm : X.mg x = some (.ref (G.cls C))) (hb : Binds X.K fd ps ds) (hd : Vals dvs ds) (hdd : Cst G dds dvs) (ha : PUA G X (e :: es) t fa)
    (hg : L2.Gl X x := by rfl) (hdb : (x == ("__debug__" : Str)) = false := by decide +kernel) (he : starEach (e :: es) X.env = (false, eval e X.env) :: starEach es X.env := by rfl) (hpl : (backTo pos (starEach es X.env)).any (·.1) = false := by rfl) :
    PU G X (.Call (.Name x p) (e :: es) [] pos) (fun Wx => tMakeS (G.cls C) (spF G n fs) dvs (L2.WE Wx) (t Wx)) (eMake fi C (eN n fs) dds fa) := by
  refine ⟨fun Wx tk => pe_makeS Mk' F hr hg hm hb hd (passAt tk) (ha.pe Wx tk) hdb he hpl, ?_⟩
  intro Wx F0 θ σ H ρ M Q sr hg
  refine ha.sem Wx F0 θ σ H ρ M _ sr (Good.seq hg fun ws M1 F1 θ1 H1 _ l1 p1 hr1 hg1 vs rvs => ?_)
  intro y dx hy hdx hne
  have hF : F1 y = none := by
    cases e : F1 y with
    | none => rfl
    | some u => have := hr1.sub y u e; rw [hy] at this; cases this
  have hr2 := hr1.other hdx (.own y)
  have hy2 : upd H1 dx (.own y) y = none := by rw [upd_ne (Ne.symm hne)]; exact hy
  have hr3 := hr2.push (c := .ins C [] []) hy2 (o := .ins (G.cls C) dx []) ⟨hF, hhas, dx, [], upd_same, rfl, rfl⟩
  unfold eN at hg1
  split at hg1
  · rename_i hn
    have h2 := (hdd F1).length
    have e0 : V.ref y :: (vs ++ dvs) = (V.ref y :: vs) ++ dvs := rfl
    rw [e0]
    have rw2 : RepWL G F1 (θ1 ++ [y]) (.cell M1.length :: ws) (V.ref y :: vs) := ⟨_, _, rfl, ⟨y, by rw [← hr1.len]; simp, rfl⟩, rvs.mono (LE.refl _) (List.prefix_append _ _)⟩
    refine sp_of (fs := fs) ?_ hdd hr3 (ws := .cell M1.length :: ws) rw2 ?_
    · simp only [List.length_cons, List.length_append, List.length_map] at hn ⊢
      rw [rvs.length, h2]
      omega
    · show Good G F1 (θ1 ++ [y]) _ _ (fs (.cell M1.length :: (ws ++ dds.map W.d)) (M1 ++ [.ins C [] []]))
      cases e : fs (.cell M1.length :: (ws ++ dds.map W.d)) (M1 ++ [.ins C [] []]) with
      | stuck => rw [e] at hg1; exact hg1
      | exc z M2 => rw [e] at hg1; exact Good.up (r := (R.exc z M2 : R W)) hg1 (LE.refl _) (List.prefix_append _ _)
      | ok w M2 =>
        rw [e] at hg1
        intro F' θ' H' l p hr' v rv
        exact hfi F1 F' θ1 θ' y H' M2 M1.length w v Q _ hr1.len l p hr' rv hg1
  · exact hg1.elim
end
end PU
set_option Elab.async false
set_option linter.all false
set_option maxRecDepth 100000
set_option maxHeartbeats 4000000
namespace PU
open PySem PySem.Spec PyProof.Rows L2
section
variable {G : Glo} {X : Cx} {pos pos' : Pos}
/-! ### a statement that is not reached -/
def sStuck : Sv := fun _ _ => .stuck
theorem pus_never {st : Stmt} : PUS G X st (fun _ => tNever) sStuck := ⟨fun _ _ => ps_never, fun Wx F θ σ H ρ M D sr hg => hg⟩

/-! ### o.f = e -/
def putFs (fs : List Nat) (f : Nat) : List Nat := match idxF fs f 0 with
  | some _ => fs
  | none => fs ++ [f]
def putWs (fs : List Nat) (ws : List W) (f : Nat) (w : W) : List W := match idxF fs f 0 with
  | some i => ws.set i w
  | none => ws ++ [w]
theorem idxF_ge : ∀ (fs : List Nat) (f i j : Nat), idxF fs f i = some j → i ≤ j
  | [], _, _, _, h => by simp [idxF] at h
  | g :: r, f, i, j, h => by
    unfold idxF at h
    split at h
    · cases h; exact Nat.le_refl _
    · have := idxF_ge r f (i + 1) j h; omega
theorem putF_some {an : Nat → Str} (hinj : ∀ i j, an i = an j → i = j) (v : V) : ∀ (ps : List (Str × V)) (fs : List Nat) (f i j : Nat), ps.map (·.1) = fs.map an → idxF fs f i = some j → (putF (an f) v ps).map (·.1) = fs.map an ∧ (putF (an f) v ps).map (·.2) = (ps.map (·.2)).set (j - i) v
  | [], [], _, _, _, _, h => by simp [idxF] at h
  | [], _ :: _, _, _, _, e, _ => by simp at e
  | _ :: _, [], _, _, _, e, _ => by simp at e
  | (n, u) :: ps, g :: fs, f, i, j, e, h => by
    simp only [List.map_cons, List.cons.injEq] at e
    obtain ⟨e1, e2⟩ := e
    have e1 : n = an g := e1
    subst e1
    unfold idxF at h
    split at h
    · rename_i hgf
      subst hgf
      cases h
      unfold putF
      rw [if_pos rfl, Nat.sub_self]
      exact ⟨by simp [e2], rfl⟩
    · rename_i hgf
      have hne : ¬ an g = an f := fun z => hgf (hinj _ _ z)
      obtain ⟨q1, q2⟩ := putF_some hinj v ps fs f (i + 1) j e2 h
      have hj := idxF_ge _ _ _ _ h
      unfold putF
      rw [if_neg hne]
      refine ⟨by simp [q1], ?_⟩
      have ej : j - i = (j - (i + 1)) + 1 := by omega
      rw [ej]
      show u :: (putF (an f) v ps).map (·.2) = (u :: ps.map (·.2)).set _ v
      rw [q2]
      rfl
theorem putF_none {an : Nat → Str} (hinj : ∀ i j, an i = an j → i = j) (v : V) : ∀ (ps : List (Str × V)) (fs : List Nat) (f i : Nat), ps.map (·.1) = fs.map an → idxF fs f i = none → putF (an f) v ps = ps ++ [(an f, v)]
  | [], [], _, _, _, _ => rfl
  | [], _ :: _, _, _, e, _ => by simp at e
  | _ :: _, [], _, _, e, _ => by simp at e
  | (n, u) :: ps, g :: fs, f, i, e, h => by
    simp only [List.map_cons, List.cons.injEq] at e
    obtain ⟨e1, e2⟩ := e
    have e1 : n = an g := e1
    subst e1
    unfold idxF at h
    split at h
    · cases h
    · rename_i hgf
      have hne : ¬ an g = an f := fun z => hgf (hinj _ _ z)
      unfold putF
      rw [if_neg hne, putF_none hinj v ps fs f (i + 1) e2 h]
      rfl
theorem RepWL.set {F : Hp} {θ : List Addr} {w : W} {v : V} (q : RepW G F θ w v) : ∀ {ws : List W} {vs : List V} (i : Nat), RepWL G F θ ws vs → RepWL G F θ (ws.set i w) (vs.set i v)
  | [], _, _, h => by
    have h : _ = [] := h
    subst h; exact rfl
  | u :: ws, _, 0, h => by
    obtain ⟨z, r, rfl, _, h2⟩ := h
    exact ⟨v, r, rfl, q, h2⟩
  | u :: ws, _, i + 1, h => by
    obtain ⟨z, r, rfl, h1, h2⟩ := h
    exact ⟨z, r.set i v, rfl, h1, RepWL.set q i h2⟩
/-- w may lie within the k-th cell -/
def olderW (k : Nat) : W → Bool
  | .d _ => true
  | .cell j => decide (j < k)
theorem older_ok {F : Hp} {θ : List Addr} {k : Nat} {w : W} {v : V} (r : RepW G F θ w v) (h : olderW k w = true) : RepW G F (θ.take k) w v := by
  cases w with
  | d x => exact r
  | cell j =>
    obtain ⟨a, h1, h2⟩ := r
    exact ⟨a, by rw [List.getElem?_take_of_lt (of_decide_eq_true h)]; exact h1, h2⟩
def sFldS (f : Nat) (ok : Nat → Bool) (fo fe : Ev) : Sv := fun ρ M => (fe ρ M).bindS ρ fun w M1 => (fo ρ M1).bindS ρ fun o M2 => match o with
  | .cell k => match M2[k]? with
    | some (.ins C fs ws) => if ok C && olderW k w && decide (fs.length < 1000) then .go .nx ρ (M2.set k (.ins C (putFs fs f) (putWs fs ws f w))) else .stuck
    | _ => .stuck
  | _ => .stuck
theorem pus_fld (f : Nat) (ok : Nat → Bool) {o value : Expr} {m : Str} {to tv : L2.WX → TE} {fo fv : Ev} (hinj : AnInj G) (hcl : ∀ C, ok C = true → G.has C → L2.Cls G.K (G.cls C) ∧ NoAttr G.K (G.cls C) (G.an f)) (ho : PU G X o to fo) (hv : PU G X value tv fv) (hm : m = G.an f := by rfl)
    (hs : swapsWith value (some (.Attribute o m pos')) pos.line X.env = pure false := by rfl) (hK : X.K = G.K := by rfl) :
    PUS G X (.Assign [.Attribute o m pos'] value pos) (fun Wx => sFld G.K (to Wx) (tv Wx) (G.an f)) (sFldS f ok fo fv) := by
  subst hm
  refine ⟨fun Wx tk => hK ▸ ps_fld (ho.pe Wx tk) (hv.pe Wx tk) hs, ?_⟩
  intro Wx F θ σ H ρ M D sr hg
  refine hv.sem Wx F θ σ H ρ M _ sr (GoodS.seqE sr hg fun w M1 F1 θ1 H1 _ l1 p1 sr1 hg1 v rv => ?_)
  refine ho.sem Wx F1 θ1 σ H1 ρ M1 _ sr1 (GoodS.seqE sr1 hg1 fun x M2 F2 θ2 H2 eq2 l2 p2 sr2 hg2 u ru => ?_)
  clear eq2
  split at hg2
  · rename_i k
    split at hg2
    · rename_i C fs ws e
      split at hg2
      · rename_i hc
        obtain ⟨hc, hlen⟩ := Bool.and_eq_true_iff.mp hc
        obtain ⟨hok, hold⟩ := Bool.and_eq_true_iff.mp hc
        have hlen := of_decide_eq_true hlen
        obtain ⟨a, ha, rfl⟩ := ru
        obtain ⟨hF, hhas, dx, ps, hH, en, rl⟩ := sr2.hr.cell k a _ ha e
        obtain ⟨c1, c2⟩ := hcl C hok hhas
        have hl : ps.length = fs.length := by
          have := congrArg List.length en
          simpa using this
        refine ⟨a, G.cls C, dx, ps, rfl, hH, c1, c2, by omega, ?_⟩
        have rv2 : RepW G F2 (θ2.take k) w v := older_ok (rv.mono l2 p2) hold
        refine hg2 F2 θ2 σ _ (LE.refl _) (List.prefix_refl _) ?_
        refine sr2.mono (LE.refl _) (List.prefix_refl _) (sr2.hr.write ha hF ⟨hF, hhas, dx, _, upd_same, ?_, ?_⟩)
        · unfold putFs
          cases ei : idxF fs f 0 with
          | some j => exact (putF_some hinj v ps fs f 0 j en ei).1
          | none =>
            rw [putF_none hinj v ps fs f 0 en ei]
            simp [en]
        · unfold putWs
          cases ei : idxF fs f 0 with
          | some j =>
            rw [(putF_some hinj v ps fs f 0 j en ei).2]
            exact RepWL.set rv2 _ rl
          | none =>
            rw [putF_none hinj v ps fs f 0 en ei, List.map_append]
            exact rl.append ⟨v, [], rfl, rv2, rfl⟩
      · exact hg2.elim
    · exact hg2.elim
  · exact hg2.elim

/-! ### xs[i] as a target -/
def gvSub (fo fi : Ev) : Gv := fun w ρ M => (noX (fo ρ M)).bind fun o M1 => (noX (fi ρ M1)).bind fun i M2 => match o, i, w with
  | .cell k, .d (.int j), .d x => match M2[k]? with
    | some (.lst xs) => match ixN xs.length j with
      | some n => .ok ρ (M2.set k (.lst (xs.set n x)))
      | none => .stuck
    | _ => .stuck
  | _, _, _ => .stuck
theorem GoodG.seq {α : Type} {F : Hp} {θ : List Addr} {σ : L2.St} {Q : L2.St → Hp → Prop} {Wx : L2.WX} {Wy : Value → Option Addr → Hp → Prop} {P' : Hp → List Addr → Hp → α → Prop} {r : R α} {k : α → Mem → R Env} (hg : GoodG G F θ σ Q Wx ((noX r).bind k))
    (h : ∀ a M1 F1 θ1 H1, r = .ok a M1 → LE F F1 → θ <+: θ1 → HR G F1 θ1 H1 M1 → GoodG G F1 θ1 σ Q Wx (k a M1) → P' F1 θ1 H1 a) : Good G F θ P' Wy r := by
  cases r with
  | stuck => exact hg
  | exc x M => exact hg.elim
  | ok a M => exact fun F' θ' H' l p hr => h a M F' θ' H' rfl l p hr (GoodG.up (Wx := Wx) (r := k a M) hg l p)
theorem pug_sub {o i : Expr} {to ti : L2.WX → TE} {fo fi : Ev} (ho : PU G X o to fo) (hi : PU G X i ti fi)
    (ha : ∀ v, assign (.Subscript o i pos) X.env v = (do
      let ov ← holding [v] (eval o X.env)
      let iv ← holding [v, ov] (eval i X.env)
      standAt pos
      holding [v, ov, iv] (setItem ov iv v)
      release [v, ov, iv] []) := by intro _; rfl) : PUG G X (.Subscript o i pos) (gSub (to WF) (ti WF) rSetL) (gvSub fo fi) := by
  refine ⟨pg_sub (ho.pe WF takes0) (hi.pe WF takes0) set_list ha, ?_⟩
  intro Wx F θ σ H ρ M w v Q sr rv hg
  refine ho.sem WF F θ σ H ρ M _ sr (GoodG.seq (Wx := Wx) hg fun x M1 F1 θ1 H1 eq1 l1 p1 hr1 hg1 u ru => ?_)
  refine hi.sem WF F1 θ1 σ H1 ρ M1 _ (sr.mono l1 p1 hr1) (GoodG.seq (Wx := Wx) hg1 fun y M2 F2 θ2 H2 eq2 l2 p2 hr2 hg2 z rz => ?_)
  clear eq1 eq2
  split at hg2
  · rename_i k j d
    split at hg2
    · rename_i xs e
      split at hg2
      · rename_i n en
        obtain ⟨a, ha, rfl⟩ := ru.mono l2 p2
        simp only [RepW, Rep] at rz
        subst rz
        obtain ⟨hF, vs, hH, rl⟩ := hr2.cell k a _ ha e
        have rd : Rep G F2 d v := (rv.mono l1 p1).mono l2 p2
        refine ⟨a, vs, j, n, rfl, rfl, hH, by rw [rl.length]; exact en, ?_⟩
        exact hg2 F2 θ2 σ _ (LE.refl _) (List.prefix_refl _) ((sr.mono l1 p1 hr1).mono l2 p2 (hr2.write ha hF ⟨hF, _, upd_same, rl.set rd n⟩))
      · exact hg2.elim
    · exact hg2.elim
  · exact hg2.elim
/-! ### a list taken apart -/
def gvLst (n : Nat) (g : Gvs) : Gv := fun w ρ M => match viewL M w with
  | some ds => if ds.length = n then g ds ρ M else .stuck
  | none => .stuck
theorem pug_lst {k n : Nat} {tgs : List Expr} {tts : TGs} {ggs : Gvs} (hc : X.calm = true) (h : PUGs G X tgs tts ggs) (hn : (assignEach tgs X.env).length = n := by rfl) (hst : (assignEach tgs X.env).findIdx? (·.1) = none := by rfl) (hK : X.K = G.K := by rfl) : PUG G X (.Tuple tgs k pos) (gLst G.K n tts) (gvLst n ggs) := by
  refine ⟨hK ▸ pg_lst hc h.pe hn hst, ?_⟩
  intro Wx F θ σ H ρ M w v Q sr rv hg
  unfold gvLst at hg
  split at hg
  · rename_i ds e
    split at hg
    · rename_i hl
      obtain ⟨a, vs, rfl, h1, h2⟩ := viewL_ok sr.hr rv e
      exact ⟨a, vs, rfl, h1, by rw [h2.length]; exact hl, h.sem Wx F θ σ H ρ M ds vs Q sr h2 hg⟩
    · exact hg.elim
  · exact hg.elim
end
end PU
set_option Elab.async false
set_option linter.all false
set_option maxRecDepth 100000
set_option maxHeartbeats 4000000
namespace PU
open PySem PySem.Spec PyProof.Rows L2
section
variable {G : Glo} {X : Cx} {pos pos' p : Pos} {a b e o : Expr} {es : List Expr} {ta tb te to : L2.WX → TE} {fa fb fe fo : Ev} {k : Nat}
/-! ### names: built-in types, own classes -/
theorem pu_bty {x : Str} (n : String) (hm : X.mg x = none) (hv : bootBuiltins x = some (.type n)) (hg : L2.Gl X x := by rfl) (hn : x ≠ "__name__" := by decide +kernel) (hd : (x == ("__debug__" : Str)) = false := by decide +kernel) :
    PU G X (.Name x pos) (fun _ => tC (.ty n)) (eC (.ty n)) := ⟨fun _ _ => pe_bltn hg hm hv rfl hn hd, sem_c fun F => by simp only [Rep]⟩
theorem pu_ocl {x : Str} (C : Nat) (hhas : G.has C) (hm : X.mg x = some (.ref (G.cls C))) (hg : L2.Gl X x := by rfl) (hd : (x == ("__debug__" : Str)) = false := by decide +kernel) :
    PU G X (.Name x pos) (fun _ => tC (.ref (G.cls C))) (eC (.cls C)) := ⟨fun _ _ => pe_glob hg hm rfl hd, sem_c fun F => by simp only [Rep]; exact ⟨hhas, trivial⟩⟩

/-! ### dicts: displays, d[k] -/
/-- keys, values that alternate -/
def ePairs : List (Ev × Ev) → Env → Mem → R (List (W × W))
  | [], _, M => .ok [] M
  | (f, g) :: r, ρ, M => (f ρ M).bind fun x M1 => (g ρ M1).bind fun y M2 => (ePairs r ρ M2).bind fun xs M3 => .ok ((x, y) :: xs) M3
def RepP (G : Glo) (F : Hp) (θ : List Addr) : List (W × W) → List (V × V) → Prop := Paired fun p q => RepW G F θ p.1 q.1 ∧ RepW G F θ p.2 q.2
theorem RepP.mono {F F' : Hp} {θ θ' : List Addr} (l : LE F F') (q : θ <+: θ') {ws : List (W × W)} {vs : List (V × V)} (h : RepP G F θ ws vs) : RepP G F' θ' ws vs := by
  unfold RepP at h ⊢
  induction h with
  | nil => exact .nil
  | cons z _ ih => exact .cons ⟨z.1.mono l q, z.2.mono l q⟩ ih
structure PUP (G : Glo) (X : Cx) (pos : Pos) (keys : List (Option Expr)) (values : List Expr) (t : L2.WX → List (TE × TE)) (f : List (Ev × Ev)) : Prop where
  pe : ∀ Wx, Takes X Wx → PPs X pos keys values (t Wx)
  sem : ∀ (Wx : L2.WX) (F : Hp) (θ : List Addr) (σ : L2.St) (H : Hp) (ρ : Env) (M : Mem) (Q : List (V × V) → Hp → Prop), SR G F θ σ H ρ M →
    Good G F θ (fun F' θ' H' ws => ∀ vs, RepP G F' θ' ws vs → Q vs H') (fun c d H' => Wx c d σ H') (ePairs f ρ M) → tPairs (t Wx) σ H Q
theorem pup_nil : PUP G X pos [] [] (fun _ => []) [] := ⟨fun _ _ => pps_nil, fun Wx F θ σ H ρ M Q sr hg => hg F θ H (LE.refl F) (List.prefix_refl _) sr.hr [] .nil⟩
variable {keys : List (Option Expr)} {values : List Expr} {tp : L2.WX → List (TE × TE)} {fp : List (Ev × Ev)}
theorem pup_cons (ha : PU G X a ta fa) (hb : PU G X b tb fb) (hr : PUP G X pos keys values tp fp) : PUP G X pos (some a :: keys) (b :: values) (fun Wx => (ta Wx, tb Wx) :: tp Wx) ((fa, fb) :: fp) := by
  refine ⟨fun Wx tk => pps_cons (ha.pe Wx tk) (hb.pe Wx tk) (hr.pe Wx tk), ?_⟩
  intro Wx F θ σ H ρ M Q sr hg
  refine ha.sem Wx F θ σ H ρ M _ sr (Good.seq hg fun x M1 F1 θ1 H1 _ l1 p1 hr1 hg1 v rv => ?_)
  refine hb.sem Wx F1 θ1 σ H1 ρ M1 _ (sr.mono l1 p1 hr1) (Good.seq hg1 fun y M2 F2 θ2 H2 _ l2 p2 hr2 hg2 u ru => ?_)
  refine hr.sem Wx F2 θ2 σ H2 ρ M2 _ ((sr.mono l1 p1 hr1).mono l2 p2 hr2) (Good.seq hg2 fun xs M3 F3 θ3 H3 _ l3 p3 hr3 hg3 vs rvs => ?_)
  exact hg3 F3 θ3 H3 (LE.refl _) (List.prefix_refl _) hr3 _ (.cons ⟨(rv.mono l2 p2).mono l3 p3, ru.mono l3 p3⟩ rvs)
/-- what stands in the pairs -/
def pairK : List (W × W) → Option (List (Key × D))
  | [] => some []
  | (.d x, .d y) :: r => match keyD x, pairK r with
    | some k, some l => some ((k, y) :: l)
    | _, _ => none
  | _ => none
def kD : Key → D
  | .inl i => .int i
  | .inr x => .str x
theorem keyD_kD (k : Key) : keyD (kD k) = some k := by cases k <;> rfl
theorem keyD_eq {d : D} {k : Key} (h : keyD d = some k) : d = kD k := by
  cases d <;> simp [keyD] at h <;> subst h <;> rfl
theorem rep_key {F : Hp} {d : D} {v : V} {k : Key} (r : Rep G F d v) (h : keyD d = some k) : v = kV k := by
  rw [keyD_eq h] at r
  cases k with
  | inl i => exact (by simpa only [kD, Rep] using r : v = V.int i)
  | inr i => exact (by simpa only [kD, Rep] using r : v = V.str i)
theorem pairK_ok {F : Hp} {θ : List Addr} : ∀ {ws : List (W × W)} {vs : List (V × V)} {l : List (Key × D)}, RepP G F θ ws vs → pairK ws = some l → ∃ kvs : List (Key × V), vs = kvs.map (fun kv => (kV kv.1, kv.2)) ∧ kvs.map (·.1) = l.map (·.1) ∧ RepL G F (l.map (·.2)) (kvs.map (·.2))
  | [], _, _, .nil, h => by
    simp [pairK] at h; subst h
    exact ⟨[], rfl, rfl, RepL.nil⟩
  | (x, y) :: ws, _, l, .cons hp hr, h => by
    cases x with
    | cell j => simp [pairK] at h
    | d x =>
      cases y with
      | cell j => simp [pairK] at h
      | d y =>
        unfold pairK at h
        split at h
        · rename_i kk ll e1 e2
          cases h
          obtain ⟨kvs, q1, q2, q3⟩ := pairK_ok hr e2
          have hv := rep_key (show Rep G F x _ from hp.1) e1
          exact ⟨(kk, _) :: kvs, by rw [q1, List.map_cons, ← hv], by simp [q2], RepL.cons (show Rep G F y _ from hp.2) q3⟩
        · cases h
theorem putK_nodup : ∀ (kvs : List (Key × V)) (k : Key) (v : V), k ∉ kvs.map (·.1) → putK kvs k v = kvs ++ [(k, v)] := by
  intro kvs k v h
  refine putK_new v ?_
  induction kvs with
  | nil => rfl
  | cons p r ih =>
    simp only [List.map_cons, List.mem_cons, not_or] at h
    rw [valV_neg (fun z => h.1 z.symm)]
    exact ih h.2
theorem mergeK_nodup : ∀ (more kvs : List (Key × V)), (kvs.map (·.1) ++ more.map (·.1)).Nodup → mergeK kvs more = kvs ++ more
  | [], kvs, _ => by simp [mergeK]
  | p :: r, kvs, h => by
    have h1 : p.1 ∉ kvs.map (·.1) := by
      intro z
      rw [List.nodup_append] at h
      exact h.2.2 p.1 z p.1 (by simp) rfl
    show mergeK (putK kvs p.1 p.2) r = _
    rw [putK_nodup kvs p.1 p.2 h1, mergeK_nodup r (kvs ++ [(p.1, p.2)]) (by simpa using h)]
    simp
def eDisp (f : List (Ev × Ev)) : Ev := fun ρ M => (ePairs f ρ (M ++ [.dct [] []])).bind fun ws M2 => match M2[M.length]?, pairK ws with
  | some (.dct [] []), some l => if (l.map (·.1)).Nodup ∧ l.length ≤ 15 then .ok (.d (.dct (l.map fun q => kD q.1) (l.map (·.2)))) (M2.set M.length .dead) else .stuck
  | _, _ => .stuck
theorem pu_disp (h : PUP G X pos keys values tp fp) (hall : keys.all (·.isSome) = true := by rfl) (hl : keys.length = values.length := by rfl) (h0 : keys ≠ [] := by exact fun z => nomatch z) (h15 : keys.length ≤ 15 := by decide) :
    PU G X (.Dict keys values pos) (fun Wx => tDisp (tp Wx)) (eDisp fp) := by
  refine ⟨fun Wx tk => pe_disp (h.pe Wx tk) hall hl h0 h15, ?_⟩
  intro Wx F θ σ H ρ M Q sr hg q hq
  have hF : F q = none := by
    cases e : F q with
    | none => rfl
    | some u => have := sr.hr.sub q u e; rw [hq] at this; cases this
  have hr1 := sr.hr.push (c := .dct [] []) hq (o := .dK []) ⟨hF, [], upd_same, rfl, RepL.nil⟩
  have sr1 := sr.mono (LE.refl F) (List.prefix_append θ [q]) hr1
  refine h.sem Wx F (θ ++ [q]) σ _ ρ (M ++ [.dct [] []]) _ sr1 (Good.seq (Good.up hg (LE.refl F) (List.prefix_append θ [q])) fun ws M2 F2 θ2 H2 _ l2 p2 hr2 hg2 vs rvs => ?_)
  split at hg2
  · rename_i l e1 e2
    split at hg2
    · rename_i hc
      obtain ⟨kvs, q1, q2, q3⟩ := pairK_ok rvs e2
      have hx : θ2[M.length]? = some q := by
        obtain ⟨η, rfl⟩ := p2
        rw [← sr.hr.len, List.getElem?_append_left (by simp)]
        simp
      obtain ⟨hF2, ps, hH, hp, _⟩ := hr2.cell _ q _ hx e1
      have hl2 : kvs.length = l.length := by
        have := congrArg List.length q2
        simpa using this
      have hm : mergeK [] kvs = kvs := mergeK_nodup kvs [] (by simpa [q2] using hc.1)
      have hw : CellOk G F2 (θ2.take M.length) (upd H2 q (.dK kvs)) q (.dct (l.map fun q => kD q.1) (l.map (·.2))) := by
        refine ⟨hF2, kvs, upd_same, ?_, q3⟩
        rw [List.map_map]
        have e3 : (fun z : Key × V => some z.1) = (fun k : Key => some k) ∘ (fun z : Key × V => z.1) := rfl
        have e4 : (keyD ∘ fun q : Key × D => kD q.1) = (fun k : Key => some k) ∘ (fun z : Key × D => z.1) := funext fun z => keyD_kD z.1
        rw [e3, e4, ← List.map_map, ← List.map_map, q2]
      have hr3 := hr2.write hx hF2 hw
      have ek : H2 q = some (.dK []) := by
        cases ps with
        | nil => exact hH
        | cons z r => simp at hp
      refine ⟨ek, kvs, q1, by omega, ?_⟩
      rw [hm]
      obtain ⟨hr4, le⟩ := hr3.freeze hx hF2 upd_same
      rw [List.set_set] at hr4
      refine hg2 _ θ2 _ le (List.prefix_refl _) hr4 _ ?_
      simp only [RepW, Rep]
      refine ⟨q, _, rfl, q3.mono le, .inl ⟨kvs, .inl upd_same, ?_, rfl⟩⟩
      obtain ⟨_, ps, zH, zp, _⟩ := hw
      rw [upd_same] at zH; cases zH; exact zp
    · exact hg2.elim
  · exact hg2.elim
end
end PU
set_option Elab.async false
set_option linter.all false
set_option maxRecDepth 100000
set_option maxHeartbeats 4000000
namespace PU
open PySem PySem.Spec PyProof.Rows L2
section
variable {G : Glo} {X : Cx} {pos pos' p : Pos} {a b e o c : Expr} {es : List Expr} {ta tb tc te to : L2.WX → TE} {fa fb fc fe fo : Ev} {k : Nat}
/-! ### d[k] -/
def findD : List D → List D → Key → Option D
  | d :: ks, v :: vs, k => if keyD d = some k then some v else findD ks vs k
  | _, _, _ => none
def findT : List D → List D → List Key → Option D
  | d :: ks, v :: vs, k => if keyT d = some k then some v else findT ks vs k
  | _, _, _ => none
def dgetW : Op2 := fun M x y => match viewD M x, keyW M y with
  | some (ks, vs), some (.inl k) => match findD ks vs k with
    | some d => .ok (.d d) M
    | none => .stuck
  | some (ks, vs), some (.inr k) => match findT ks vs k with
    | some d => .ok (.d d) M
    | none => .stuck
  | _, _ => .stuck
theorem find_k {F : Hp} : ∀ {ks vs : List D} {us : List V} {ps : List (Key × V)} {k : Key} {d : D}, RepL G F vs us → ks.map keyD = ps.map (fun p => some p.1) → ps.map (·.2) = us → findD ks vs k = some d → ∃ v, valV ps k = some v ∧ Rep G F d v
  | [], _, _, _, _, _, _, _, _, h => by simp [findD] at h
  | _ :: _, [], _, _, _, _, _, _, _, h => by simp [findD] at h
  | x :: ks, y :: vs, us, [], k, d, r, e1, e2, h => by simp at e1
  | x :: ks, y :: vs, us, q :: ps, k, d, r, e1, e2, h => by
    simp only [RepL] at r
    obtain ⟨v, ur, rfl, r1, r2⟩ := r
    simp only [List.map_cons, List.cons.injEq] at e1 e2
    unfold findD at h
    split at h
    · rename_i hk
      cases h
      rw [e1.1] at hk
      exact ⟨q.2, valV_pos (Option.some.inj hk), by rw [e2.1]; exact r1⟩
    · rename_i hk
      rw [e1.1] at hk
      obtain ⟨w, h1, h2⟩ := find_k r2 e1.2 e2.2 h
      exact ⟨w, (valV_neg (fun z => hk (congrArg some z))).trans h1, h2⟩
theorem find_t {F : Hp} : ∀ {ks vs : List D} {us : List V} {ps : List (List Key × V)} {k : List Key} {d : D}, RepL G F vs us → ks.map keyT = ps.map (fun p => some p.1) → ps.map (·.2) = us → findT ks vs k = some d → ∃ v, valV ps k = some v ∧ Rep G F d v
  | [], _, _, _, _, _, _, _, _, h => by simp [findT] at h
  | _ :: _, [], _, _, _, _, _, _, _, h => by simp [findT] at h
  | x :: ks, y :: vs, us, [], k, d, r, e1, e2, h => by simp at e1
  | x :: ks, y :: vs, us, q :: ps, k, d, r, e1, e2, h => by
    simp only [RepL] at r
    obtain ⟨v, ur, rfl, r1, r2⟩ := r
    simp only [List.map_cons, List.cons.injEq] at e1 e2
    unfold findT at h
    split at h
    · rename_i hk
      cases h
      rw [e1.1] at hk
      exact ⟨q.2, valV_pos (Option.some.inj hk), by rw [e2.1]; exact r1⟩
    · rename_i hk
      rw [e1.1] at hk
      obtain ⟨w, h1, h2⟩ := find_t r2 e1.2 e2.2 h
      exact ⟨w, (valV_neg (fun z => hk (congrArg some z))).trans h1, h2⟩
theorem keysD_v {F : Hp} : ∀ {ds : List D} {vs : List V} {k : List Key}, RepL G F ds vs → keysD ds = some k → vs = k.map kV
  | [], _, _, r, h => by
    simp only [RepL] at r; subst r
    simp [keysD] at h; subst h; rfl
  | d :: ds, _, _, r, h => by
    simp only [RepL] at r
    obtain ⟨v, u, rfl, r1, r2⟩ := r
    unfold keysD at h
    split at h
    · rename_i k ks e1 e2
      cases h
      rw [rep_key r1 e1, keysD_v r2 e2]
      rfl
    · cases h
/-- a key: its value -/
theorem keyW_l {F : Hp} {θ : List Addr} {M : Mem} {w : W} {v : V} {k : Key} (r : RepW G F θ w v) (h : keyW M w = some (.inl k)) : v = kV k := by
  cases w with
  | cell j => simp [keyW] at h
  | d x =>
    unfold keyW at h
    cases e : keyD x with
    | some z => simp [e] at h; subst h; exact rep_key r e
    | none =>
      cases e2 : keyT x with
      | some z => simp [e, e2] at h
      | none => simp [e, e2] at h
theorem keyW_r {F : Hp} {θ : List Addr} {H : Hp} {M : Mem} (hr : HR G F θ H M) {w : W} {v : V} {k : List Key} (r : RepW G F θ w v) (h : keyW M w = some (.inr k)) : ∃ b, v = .ref b ∧ H b = some (.tup (k.map kV)) := by
  cases w with
  | cell j => simp [keyW] at h
  | d x =>
    unfold keyW at h
    cases e : keyD x with
    | some z => simp [e] at h
    | none =>
      cases e2 : keyT x with
      | none => simp [e, e2] at h
      | some z =>
        simp [e, e2] at h
        subst h
        cases x with
        | tup ds =>
          simp only [RepW, Rep] at r
          obtain ⟨b, vs, rfl, h1, h2⟩ := r
          exact ⟨b, rfl, by rw [← keysD_v h2 e2]; exact hr.sub _ _ h1⟩
        | _ => simp [keyT] at e2
theorem Rd.sub {F H : Hp} {a : Addr} {o : HO} (hs : ∀ a o, F a = some o → H a = some o) (h : Rd F a o) : Rd H a o := h.elim (fun q => .inl (hs _ _ q)) fun ⟨u, q⟩ => .inr ⟨u, hs _ _ q⟩
theorem viewD_ok {F : Hp} {θ : List Addr} {H : Hp} {M : Mem} (hr : HR G F θ H M) {w : W} {v : V} {ks vs : List D} (r : RepW G F θ w v) (h : viewD M w = some (ks, vs)) : ∃ a us, v = .ref a ∧ RepL G F vs us ∧
    ((∃ ps : List (Key × V), Rd H a (.dK ps) ∧ ks.map keyD = ps.map (fun p => some p.1) ∧ ps.map (·.2) = us) ∨ (∃ ps : List (List Key × V), Rd H a (.dT ps) ∧ ks.map keyT = ps.map (fun p => some p.1) ∧ ps.map (·.2) = us)) := by
  unfold viewD at h
  split at h
  · cases h
    simp only [RepW, Rep] at r
    obtain ⟨a, us, e, r1, r2⟩ := r
    exact ⟨a, us, e, r1, r2.imp (fun ⟨ps, q, z⟩ => ⟨ps, Rd.sub hr.sub q, z⟩) fun ⟨ps, q, z⟩ => ⟨ps, Rd.sub hr.sub q, z⟩⟩
  · rename_i j
    split at h
    · rename_i ks' vs' e
      cases h
      obtain ⟨a, h1, h2⟩ := r
      obtain ⟨_, ps, q, z, rl⟩ := hr.cell j a _ h1 e
      exact ⟨a, _, h2, rl, .inl ⟨ps, .inl q, z, rfl⟩⟩
    · rename_i ks' vs' e
      cases h
      obtain ⟨a, h1, h2⟩ := r
      obtain ⟨_, ps, q, z, rl⟩ := hr.cell j a _ h1 e
      exact ⟨a, _, h2, rl, .inr ⟨ps, .inl q, z, rfl⟩⟩
    · cases h
  · cases h
theorem findD_T {ks vs : List D} {ps : List (List Key × V)} {k : Key} {d : D} (h : findD ks vs k = some d) (e : ks.map keyT = ps.map (fun p => some p.1)) : False := by
  induction ks generalizing vs ps with
  | nil => simp [findD] at h
  | cons x r ih =>
    cases vs with
    | nil => simp [findD] at h
    | cons y vs =>
      cases ps with
      | nil => simp at e
      | cons q ps =>
        simp only [List.map_cons, List.cons.injEq] at e
        unfold findD at h
        split at h
        · rename_i hk
          cases x <;> simp [keyD] at hk <;> simp [keyT] at e
        · exact ih h e.2
theorem findT_K {ks vs : List D} {ps : List (Key × V)} {k : List Key} {d : D} (h : findT ks vs k = some d) (e : ks.map keyD = ps.map (fun p => some p.1)) : False := by
  induction ks generalizing vs ps with
  | nil => simp [findT] at h
  | cons x r ih =>
    cases vs with
    | nil => simp [findT] at h
    | cons y vs =>
      cases ps with
      | nil => simp at e
      | cons q ps =>
        simp only [List.map_cons, List.cons.injEq] at e
        unfold findT at h
        split at h
        · rename_i hk
          cases x <;> simp [keyT] at hk <;> simp [keyD] at e
        · exact ih h e.2
theorem dget_ok {F : Hp} {θ : List Addr} {H : Hp} {M : Mem} {x y : W} {v u : V} {P : Hp → List Addr → Hp → W → Prop} {Wx : Value → Option Addr → Hp → Prop} (hr : HR G F θ H M) (rx : RepW G F θ x v) (ry : RepW G F θ y u) (hg : Good G F θ P Wx (dgetW M x y)) :
    ∃ a z d, v = .ref a ∧ DGet H a u (some z) ∧ Rep G F d z ∧ Good G F θ P Wx (.ok (.d d) M) := by
  unfold dgetW at hg
  split at hg
  · rename_i ks vs kk e1 e2
    split at hg
    · rename_i d e3
      obtain ⟨a, us, rfl, r1, r2⟩ := viewD_ok hr rx e1
      have hk : u = kV kk := keyW_l ry e2
      rcases r2 with ⟨ps, h1, h2, h3⟩ | ⟨ps, h1, h2, h3⟩
      · obtain ⟨z, hz, rz⟩ := find_k r1 h2 h3 e3
        exact ⟨a, z, d, rfl, .inl ⟨ps, kk, h1, hk, hz.symm⟩, rz, hg⟩
      · exact (findD_T e3 h2).elim
    · exact hg.elim
  · rename_i ks vs kk e1 e2
    split at hg
    · rename_i d e3
      obtain ⟨a, us, rfl, r1, r2⟩ := viewD_ok hr rx e1
      obtain ⟨b, hb, hb2⟩ : ∃ b, u = .ref b ∧ H b = some (.tup (kk.map kV)) := keyW_r hr ry e2
      rcases r2 with ⟨ps, h1, h2, h3⟩ | ⟨ps, h1, h2, h3⟩
      · exact (findT_K e3 h2).elim
      · obtain ⟨z, hz, rz⟩ := find_t r1 h2 h3 e3
        exact ⟨a, z, d, rfl, .inr ⟨ps, kk, b, h1, hb, hb2, hz.symm⟩, rz, hg⟩
    · exact hg.elim
  · exact hg.elim
theorem pu_dget (hr : RoomG k X.A) (ha : PU G X a ta fa) (hb : PU G X b tb fb) (hs : NoSl b := by exact fun _ _ => rfl) : PU G X (.Subscript a b pos) (fun Wx => tDGet (ta Wx) (tb Wx)) (e2 dgetW fa fb) := by
  refine ⟨fun Wx tk => pe_dget (by have := hr.rm.un; omega) (ha.pe Wx tk) (hb.pe Wx tk) hs, ?_⟩
  intro Wx F θ σ H ρ M Q sr hg
  refine ha.sem Wx F θ σ H ρ M _ sr (Good.seq hg fun x M1 F1 θ1 H1 _ l1 p1 hr1 hg1 v rv => ?_)
  refine hb.sem Wx F1 θ1 σ H1 ρ M1 _ (sr.mono l1 p1 hr1) (Good.seq hg1 fun y M2 F2 θ2 H2 _ l2 p2 hr2 hg2 u ru => ?_)
  obtain ⟨a, z, d, rfl, h1, h2, h3⟩ := dget_ok hr2 (rv.mono l2 p2) ru hg2
  exact ⟨a, z, rfl, h1, h3 F2 θ2 H2 (LE.refl _) (List.prefix_refl _) hr2 _ h2⟩

/-! ### in, not in: flat values; lists of data -/
def toV : D → Option V
  | .non => some .non
  | .bl b => some (.bl b)
  | .int i => some (.int i)
  | .str x => some (.str x)
  | _ => none
def toVs : List D → Option (List V)
  | [] => some []
  | d :: r => match toV d, toVs r with
    | some v, some vs => some (v :: vs)
    | _, _ => none
theorem toV_ok {F : Hp} {d : D} {v u : V} (h : toV d = some v) (r : Rep G F d u) : u = v ∧ flatV v = true := by
  cases d <;> simp [toV] at h <;> subst h <;> simp only [Rep] at r <;> exact ⟨r, rfl⟩
theorem toVs_ok {F : Hp} : ∀ {ds : List D} {vs us : List V}, toVs ds = some vs → RepL G F ds us → us = vs ∧ vs.all flatV = true
  | [], _, _, h, r => by
    simp [toVs] at h; subst h
    simp only [RepL] at r
    exact ⟨r, rfl⟩
  | d :: ds, _, _, h, r => by
    simp only [RepL] at r
    obtain ⟨u, ur, rfl, r1, r2⟩ := r
    unfold toVs at h
    split at h
    · rename_i v vs e1 e2
      cases h
      obtain ⟨q1, q2⟩ := toV_ok e1 r1
      obtain ⟨q3, q4⟩ := toVs_ok e2 r2
      exact ⟨by rw [q1, q3], by rw [List.all_cons, q2, q4]; rfl⟩
    · cases h
def seqW (M : Mem) (w : W) : Option (List D) := match viewL M w with
  | some xs => some xs
  | none => viewT w
def inFW (neg : Bool) : Op2 := fun M x y => match x, seqW M y with
  | .d d, some ds => match toV d, toVs ds with
    | some v, some vs => .ok (.d (.bl (if neg then !inV v vs else inV v vs))) M
    | _, _ => .stuck
  | _, _ => .stuck
theorem seqW_ok {F : Hp} {θ : List Addr} {H : Hp} {M : Mem} (hr : HR G F θ H M) {w : W} {v : V} {ds : List D} (r : RepW G F θ w v) (h : seqW M w = some ds) : ∃ a vs, v = .ref a ∧ (SqL G.K H a vs ∨ SqT G.K H a vs) ∧ RepL G F ds vs := by
  unfold seqW at h
  split at h
  · rename_i xs e
    cases h
    obtain ⟨a, vs, h1, h2, h3⟩ := viewL_ok hr r e
    exact ⟨a, vs, h1, .inl h2, h3⟩
  · obtain ⟨a, vs, h1, h2, h3⟩ := viewT_ok hr r h
    exact ⟨a, vs, h1, .inr h2, h3⟩
theorem ops_inF (neg : Bool) : OpS G (rIn G.K neg) (inFW neg) := by
  intro F θ H M x y v u Q Wx hr rx ry hg
  unfold inFW at hg
  split at hg
  · rename_i d ds e
    split at hg
    · rename_i z zs e1 e2
      obtain ⟨a, vs, rfl, h1, h2⟩ := seqW_ok hr ry e
      obtain ⟨q1, q2⟩ := toV_ok e1 (show Rep G F d v from rx)
      obtain ⟨q3, q4⟩ := toVs_ok e2 h2
      subst q1 q3
      exact ⟨a, _, rfl, h1, q2, q4, hg F θ H (LE.refl F) (List.prefix_refl _) hr _ (by simp only [RepW, Rep])⟩
    · exact hg.elim
  · exact hg.elim
theorem pu_in (ha : PU G X a ta fa) (hb : PU G X b tb fb) (hK : X.K = G.K := by rfl) (hm : behindInMarks .In b = false := by rfl) : PU G X (.Compare a [.In] [b] pos) (fun Wx => tOp (rIn G.K false) (ta Wx) (tb Wx)) (e2 (inFW false) fa fb) := pu_cmp (hK ▸ op_in_seq) (ops_inF false) ha hb hm
theorem put_in (ha : PU G X a ta fa) (hb : PU G X b tb fb) (hK : X.K = G.K := by rfl) (hm : behindInMarks .In b = false := by rfl) : PUT G X (.Compare a [.In] [b] pos) (fun Wx => tTest (tOp (rIn G.K false) (ta Wx) (tb Wx))) (tB' (e2 (inFW false) fa fb)) := put_cmp (hK ▸ op_in_seq) (ops_inF false) ha hb hm
theorem pu_nin (ha : PU G X a ta fa) (hb : PU G X b tb fb) (hK : X.K = G.K := by rfl) (hm : behindInMarks .NotIn b = false := by rfl) : PU G X (.Compare a [.NotIn] [b] pos) (fun Wx => tOp (rIn G.K true) (ta Wx) (tb Wx)) (e2 (inFW true) fa fb) := pu_cmp (hK ▸ op_notIn_seq) (ops_inF true) ha hb hm
theorem put_nin (ha : PU G X a ta fa) (hb : PU G X b tb fb) (hK : X.K = G.K := by rfl) (hm : behindInMarks .NotIn b = false := by rfl) : PUT G X (.Compare a [.NotIn] [b] pos) (fun Wx => tTest (tOp (rIn G.K true) (ta Wx) (tb Wx))) (tB' (e2 (inFW true) fa fb)) := put_cmp (hK ▸ op_notIn_seq) (ops_inF true) ha hb hm
/-- .. a list of data -/
def inDW (neg : Bool) : Op2 := fun M x y => match pyW M x, pyW M y with
  | some d, some (.list ds) => if SeqAt.shaped d = true ∧ SeqAt.shaped (.list ds) = true then .ok (.d (.bl (if neg then !ds.any (fun z => PyData.eqv z d) else ds.any fun z => PyData.eqv z d))) M else .stuck
  | _, _ => .stuck
theorem ops_inD : OpS G (rInD G.K) (inDW false) := by
  intro F θ H M x y v u Q Wx hr rx ry hg
  unfold inDW at hg
  split at hg
  · rename_i d ds e1 e2
    split at hg
    · rename_i hc
      exact ⟨d, ds, dp_w hr rx e1, dp_w hr ry e2, hc.1, hc.2, hg F θ H (LE.refl F) (List.prefix_refl _) hr _ (by simp only [RepW, Rep]; rfl)⟩
    · exact hg.elim
  · exact hg.elim
theorem ops_ninD : OpS G (rNotInD G.K) (inDW true) := by
  intro F θ H M x y v u Q Wx hr rx ry hg
  unfold inDW at hg
  split at hg
  · rename_i d ds e1 e2
    split at hg
    · rename_i hc
      exact ⟨d, ds, dp_w hr rx e1, dp_w hr ry e2, hc.1, hc.2, hg F θ H (LE.refl F) (List.prefix_refl _) hr _ (by simp only [RepW, Rep]; rfl)⟩
    · exact hg.elim
  · exact hg.elim
theorem pu_inD (hr : RoomG k X.A) (ha : PU G X a ta fa) (hb : PU G X b tb fb) (hK : X.K = G.K := by rfl) (hm : behindInMarks .In b = false := by rfl) : PU G X (.Compare a [.In] [b] pos) (fun Wx => tOp (rInD G.K) (ta Wx) (tb Wx)) (e2 (inDW false) fa fb) := pu_cmp (hK ▸ op_inD (by have := hr.rm.un; omega)) ops_inD ha hb hm
theorem put_inD (hr : RoomG k X.A) (ha : PU G X a ta fa) (hb : PU G X b tb fb) (hK : X.K = G.K := by rfl) (hm : behindInMarks .In b = false := by rfl) : PUT G X (.Compare a [.In] [b] pos) (fun Wx => tTest (tOp (rInD G.K) (ta Wx) (tb Wx))) (tB' (e2 (inDW false) fa fb)) := put_cmp (hK ▸ op_inD (by have := hr.rm.un; omega)) ops_inD ha hb hm
theorem pu_ninD (hr : RoomG k X.A) (ha : PU G X a ta fa) (hb : PU G X b tb fb) (hK : X.K = G.K := by rfl) (hm : behindInMarks .NotIn b = false := by rfl) : PU G X (.Compare a [.NotIn] [b] pos) (fun Wx => tOp (rNotInD G.K) (ta Wx) (tb Wx)) (e2 (inDW true) fa fb) := pu_cmp (hK ▸ op_notInD (by have := hr.rm.un; omega)) ops_ninD ha hb hm
theorem put_ninD (hr : RoomG k X.A) (ha : PU G X a ta fa) (hb : PU G X b tb fb) (hK : X.K = G.K := by rfl) (hm : behindInMarks .NotIn b = false := by rfl) : PUT G X (.Compare a [.NotIn] [b] pos) (fun Wx => tTest (tOp (rNotInD G.K) (ta Wx) (tb Wx))) (tB' (e2 (inDW true) fa fb)) := put_cmp (hK ▸ op_notInD (by have := hr.rm.un; omega)) ops_ninD ha hb hm
end
end PU
set_option Elab.async false
set_option linter.all false
set_option maxRecDepth 100000
set_option maxHeartbeats 4000000
namespace PU
open PySem PySem.Spec PyProof.Rows L2
section
variable {G : Glo} {X : Cx} {pos pos' p : Pos} {a b e o c : Expr} {es : List Expr} {ta tb tc te to : L2.WX → TE} {fa fb fc fe fo : Ev} {k : Nat} {t : L2.WX → TA} {fs : Av}
/-! ### isinstance -/
abbrev Ty := String ⊕ Nat
def tyV (G : Glo) : Ty → Value
  | .inl n => .type n
  | .inr C => .ref (G.cls C)
def tyM (M : Mem) : W → Option Ty
  | .d .non => some (.inl "NoneType")
  | .d (.bl _) => some (.inl "bool")
  | .d (.int _) => some (.inl "int")
  | .d (.str _) => some (.inl "str")
  | .d (.tup _) => some (.inl "tuple")
  | .d (.lst _) => some (.inl "list")
  | .d (.ins C _ _) => some (.inr C)
  | .cell k => match M[k]? with
    | some (.lst _) => some (.inl "list")
    | some (.dct _ _) => some (.inl "dict")
    | some (.ins C _ _) => some (.inr C)
    | _ => none
  | _ => none
/-- what is asked of an own class -/
structure InsC (G : Glo) (C : Nat) : Prop where
  cl : L2.Cls G.K (G.cls C)
  ha : PySem.W.findIn G.K (.ref (G.cls C)) "__class__" = some (some (.builtin "object.__class__"))
  hn : PySem.W.specialIn G.K (.builtin "object.__class__") "__get__" = some (some (.builtin "getset_descriptor.__get__"))
  ht : PySem.W.takesIn G.K (.builtin "object.__class__") = some true
  hm : PySem.W.mroIn G.K (G.cls C) (.type "object") = some true
  ne : PySem.W.findIn G.K (.ref (G.cls C)) "__ne__" = some (some (.builtin "object.__ne__"))
/-- the types that are there -/
def hasT (G : Glo) : Ty → Prop
  | .inl _ => True
  | .inr C => G.has C
/-- the answers: isT t u -/
def IsiOk (G : Glo) (isT : Ty → Ty → Option Bool) : Prop := (∀ C, G.has C → InsC G C) ∧ ∀ t u r, hasT G t → hasT G u → isT t u = some r → PySem.W.kitOne G.K (tyV G t) (tyV G u) = some r
def clsW : W → Option Ty
  | .d (.ty n) => some (.inl n)
  | .d (.cls C) => some (.inr C)
  | _ => none
def isiW (isT : Ty → Ty → Option Bool) : OpN := fun ws M => match ws with
  | [x, c] => match tyM M x, clsW c with
    | some t, some u => match isT t u with
      | some r => .ok (.d (.bl r)) M
      | none => .stuck
    | _, _ => .stuck
  | _ => .stuck
theorem tyM_ok {F : Hp} {θ : List Addr} {H : Hp} {M : Mem} (hI : ∀ C, G.has C → InsC G C) (hr : HR G F θ H M) {w : W} {v : V} {ty : Ty} (r : RepW G F θ w v) (h : tyM M w = some ty) : TyX G.K H v (tyV G ty) ∧ hasT G ty := by
  have ins : ∀ {a dx ps} (C : Nat), H a = some (.ins (G.cls C) dx ps) → G.has C → TyX G.K H (.ref a) (.ref (G.cls C)) ∧ G.has C := fun {a dx ps} C e q => ⟨let z := hI C q; .base (.ins e z.cl z.ha z.hn z.ht z.hm), q⟩
  cases w with
  | d x =>
    cases x <;> simp only [tyM, Option.some.injEq, reduceCtorEq] at h <;> subst h
    · simp only [RepW, Rep] at r; subst r; exact ⟨.base .non, trivial⟩
    · simp only [RepW, Rep] at r; subst r; exact ⟨.base (.bl _), trivial⟩
    · simp only [RepW, Rep] at r; subst r; exact ⟨.base (.int _), trivial⟩
    · simp only [RepW, Rep] at r; subst r; exact ⟨.base (.str _), trivial⟩
    · simp only [RepW, Rep] at r; obtain ⟨a, vs, rfl, h1, _⟩ := r; exact ⟨.base (.tup (hr.sub _ _ h1)), trivial⟩
    · simp only [RepW, Rep] at r; obtain ⟨a, vs, rfl, h1, _⟩ := r; exact ⟨.base (.lst (hr.sub _ _ h1)), trivial⟩
    · simp only [RepW, Rep] at r; obtain ⟨hc, a, dx, ps, rfl, h1, _⟩ := r; exact ins _ (hr.sub _ _ h1) hc
  | cell j =>
    unfold tyM at h
    simp only at h
    obtain ⟨a, ha, rfl⟩ := r
    split at h
    · rename_i e; cases h; obtain ⟨_, vs, q, _⟩ := hr.cell j a _ ha e; exact ⟨.base (.lst q), trivial⟩
    · rename_i e; cases h; obtain ⟨_, ps, q, _⟩ := hr.cell j a _ ha e; exact ⟨.base (.dK q), trivial⟩
    · rename_i e; cases h; obtain ⟨_, hc, dx, ps, q, _⟩ := hr.cell j a _ ha e; exact ins _ q hc
    · cases h
theorem calls_isi {isT : Ty → Ty → Option Bool} (hI : IsiOk G isT) : CallS G (rIsi G.K) (isiW isT) := by
  intro F θ H M ws vs Q Wx hr rw' hg
  unfold isiW at hg
  split at hg
  · rename_i x c
    obtain ⟨v, u, rfl, rv, ru⟩ := RepWL.two rw'
    split at hg
    · rename_i ty tu e1 e2
      split at hg
      · rename_i r e3
        have cv : ClsV u (tyV G tu) ∧ hasT G tu := by
          unfold clsW at e2
          split at e2
          · cases e2; simp only [RepW, Rep] at ru; subst ru; exact ⟨.ty _, trivial⟩
          · cases e2; simp only [RepW, Rep] at ru; obtain ⟨hc, rfl⟩ := ru; exact ⟨.own _, hc⟩
          · cases e2
        obtain ⟨t1, t2⟩ := tyM_ok hI.1 hr rv e1
        exact ⟨v, u, tyV G ty, tyV G tu, r, rfl, cv.1, t1, hI.2 _ _ _ t2 cv.2 e3, hg F θ H (LE.refl F) (List.prefix_refl _) hr _ (by simp only [RepW, Rep])⟩
      · exact hg.elim
    · exact hg.elim
  · exact hg.elim
theorem pu_isi {isT : Ty → Ty → Option Bool} (hI : IsiOk G isT) (hm : X.mg "isinstance" = none) (ha : PUA G X [a, b] t fs) (hK : X.K = G.K := by rfl) (hg : L2.Gl X "isinstance" := by rfl) (he : starEach (a :: [b]) X.env = (false, eval a X.env) :: starEach [b] X.env := by rfl) (hpl : (backTo pos (starEach [b] X.env)).any (·.1) = false := by rfl) :
    PU G X (.Call (.Name "isinstance" p) [a, b] [] pos) (fun Wx => tCB (rIsi G.K) (t Wx)) (eA (isiW isT) fs) := pu_callB (hK ▸ call_isi) (calls_isi hI) hm (by decide +kernel) ha hg (by decide +kernel) (by decide +kernel) he hpl

/-! ### repr -/
def rReprD (K : PySem.W.Frag) : List V → Hp → VK → Prop := fun xs H Q => ∃ x d, xs = [x] ∧ Dp K H x d ∧ d.showable = true ∧ d.hasDict = false ∧ d.depth ≤ 64 ∧ d.shown.length ≤ sizeLine ∧ Q (.str d.shown) H
theorem call_reprD (hr : RoomG k X.A) : CallR X (.builtin "repr") (rReprD X.K) := by
  intro pins s σ H xs us Q I r h
  obtain ⟨x, d, rfl, hd, h1, h2, h3, h4, q⟩ := h
  obtain ⟨u, rfl, ru⟩ : ∃ u, us = [u] ∧ RelV x u := by
    cases r with
    | cons a b => cases b; exact ⟨_, rfl, a⟩
  have hun := hr.rm.un
  cases hd with
  | non =>
    cases (show u = Value.none from ru)
    exact P.repr_of_none ⟨.str _, H, I.tok _, ⟨_, rfl⟩, q⟩
  | bl b =>
    cases (show u = Value.bool b from ru)
    exact P.repr_of_bool ⟨.str _, H, I.tok _, ⟨_, by cases b <;> rfl⟩, q⟩
  | int i =>
    obtain ⟨t, rfl⟩ := (show ∃ t, u = Value.int i t from ru)
    exact P.repr_of_int (of_decide_eq_true h1) ⟨.str _, H, I.tok _, ⟨_, rfl⟩, q⟩
  | str z =>
    obtain ⟨t, rfl⟩ := (show ∃ t, u = Value.str z t from ru)
    exact P.repr_of_str ⟨.str _, H, I.tok _, ⟨_, rfl⟩, q⟩ h4
  | lst hs ha =>
    obtain ⟨as, rd⟩ := Dp.reads I _ _ u (.lst hs ha) ru
    cases (show u = Value.ref _ from ru)
    refine repr_of_reads' rd h1 (fun z => by rw [h2] at z; cases z) hr.gd (by omega) (fun _ _ z => z) (fun h' u tk keep => ⟨.str _, H, ?_, ⟨_, rfl⟩, q⟩) h4
    exact I.kept keep
  | tup hs ha =>
    obtain ⟨as, rd⟩ := Dp.reads I _ _ u (.tup hs ha) ru
    cases (show u = Value.ref _ from ru)
    refine repr_of_reads' rd h1 (fun z => by rw [h2] at z; cases z) hr.gd (by omega) (fun _ _ z => z) (fun h' u tk keep => ⟨.str _, H, ?_, ⟨_, rfl⟩, q⟩) h4
    exact I.kept keep
def reprW : OpN := fun ws M => match ws with
  | [x] => match pyW M x with
    | some d => if d.showable = true ∧ d.hasDict = false ∧ d.depth ≤ 64 ∧ d.shown.length ≤ sizeLine then .ok (.d (.str d.shown)) M else .stuck
    | none => .stuck
  | _ => .stuck
theorem calls_repr : CallS G (rReprD G.K) reprW := by
  intro F θ H M ws vs Q Wx hr rw' hg
  unfold reprW at hg
  split at hg
  · obtain ⟨v, rfl, rv⟩ := RepWL.one rw'
    split at hg
    · rename_i d e
      split at hg
      · rename_i hc
        exact ⟨v, d, rfl, dp_w hr rv e, hc.1, hc.2.1, hc.2.2.1, hc.2.2.2, hg F θ H (LE.refl F) (List.prefix_refl _) hr _ (by simp only [RepW, Rep])⟩
      · exact hg.elim
    · exact hg.elim
  · exact hg.elim
theorem pu_repr (hr : RoomG k X.A) (hm : X.mg "repr" = none) (ha : PUA G X [a] t fs) (hK : X.K = G.K := by rfl) (hg : L2.Gl X "repr" := by rfl) (he : starEach (a :: []) X.env = (false, eval a X.env) :: starEach [] X.env := by rfl) (hpl : (backTo pos (starEach [] X.env)).any (·.1) = false := by rfl) :
    PU G X (.Call (.Name "repr" p) [a] [] pos) (fun Wx => tCB (rReprD G.K) (t Wx)) (eA reprW fs) := pu_callB (hK ▸ call_reprD hr) calls_repr hm (by decide +kernel) ha hg (by decide +kernel) (by decide +kernel) he hpl

/-! ### a < b < c -/
variable {op op' : CmpOp} {r r' : R2} {g g' : Op2}
theorem sem_chain (h1 : OpS G r g) (h2 : OpS G r' g') (ha : SemE G ta fa) (hb : SemE G tb fb) (hc : SemE G tc fc) : SemE G (fun Wx => tChain r r' (ta Wx) (tb Wx) (tc Wx)) (eChain g g' fa fb fc) := by
  intro Wx F θ σ H ρ M Q sr hg
  refine ha Wx F θ σ H ρ M _ sr (Good.seq hg fun x M1 F1 θ1 H1 _ l1 p1 hr1 hg1 v rv => ?_)
  refine hb Wx F1 θ1 σ H1 ρ M1 _ (sr.mono l1 p1 hr1) (Good.seq hg1 fun y M2 F2 θ2 H2 _ l2 p2 hr2 hg2 u ru => ?_)
  have sr2 := (sr.mono l1 p1 hr1).mono l2 p2 hr2
  refine h1 F2 θ2 H2 M2 x y v u _ (fun c d H' => Wx c d σ H') hr2 (rv.mono l2 p2) ru (Good.seq hg2 fun z M3 F3 θ3 H3 _ l3 p3 hr3 hg3 z' rz => ?_)
  obtain ⟨kk, rfl, hg4⟩ := truB_cases rz hg3
  refine ⟨kk, rfl, ?_⟩
  cases kk with
  | true =>
    simp only [if_true] at hg4 ⊢
    refine hc Wx F3 θ3 σ H3 ρ M3 _ (sr2.mono l3 p3 hr3) (Good.seq hg4 fun w M5 F5 θ5 H5 _ l5 p5 hr5 hg5 w' rw' => ?_)
    exact h2 F5 θ5 H5 M5 y w u w' _ (fun c d H' => Wx c d σ H') hr5 ((ru.mono l3 p3).mono l5 p5) rw' hg5
  | false => exact hg4 F3 θ3 H3 (LE.refl _) (List.prefix_refl _) hr3 _ (by simp only [RepW, Rep])
theorem pu_chain (h1 : OpS G r g) (h2 : OpS G r' g') (ho : OpR X (compareOp op) r) (ho' : OpR X (compareOp op') r') (ha : PU G X a ta fa) (hb : PU G X b tb fb) (hc : PU G X c tc fc) (hm : lastMarks [op, op'] [b, c] = false := by with_unfolding_all rfl) :
    PU G X (.Compare a [op, op'] [b, c] pos) (fun Wx => tChain r r' (ta Wx) (tb Wx) (tc Wx)) (eChain g g' fa fb fc) := ⟨fun Wx tk => pe_chain ho ho' (ha.pe Wx tk) (hb.pe Wx tk) (hc.pe Wx tk) hm, sem_chain h1 h2 ha.sem hb.sem hc.sem⟩
theorem put_chain (h1 : OpS G r g) (h2 : OpS G r' g') (ho : OpR X (compareOp op) r) (ho' : OpR X (compareOp op') r') (ha : PU G X a ta fa) (hb : PU G X b tb fb) (hc : PU G X c tc fc) (hm : lastMarks [op, op'] [b, c] = false := by with_unfolding_all rfl) :
    PUT G X (.Compare a [op, op'] [b, c] pos) (fun Wx => tTest (tChain r r' (ta Wx) (tb Wx) (tc Wx))) (tB' (eChain g g' fa fb fc)) := ⟨fun Wx tk => pt_chain ho ho' (ha.pe Wx tk) (hb.pe Wx tk) (hc.pe Wx tk) hm, sem_tB (sem_chain h1 h2 ha.sem hb.sem hc.sem)⟩
end
end PU
set_option Elab.async false
set_option linter.all false
set_option maxRecDepth 100000
set_option maxHeartbeats 4000000
namespace PU
open PySem PySem.Spec PyProof.Rows L2
/-! ### calls with keywords: ix says where each parameter's value stands among the positional values, the keywords', the defaults -/
def permL {α : Type} (ix : List Nat) (L : List α) : List α := ix.filterMap (L[·]?)
theorem Vals.at : ∀ {vs : List V} {us : List Value} (i : Nat), Vals vs us → (∀ v, vs[i]? = some v → ∃ u, us[i]? = some u ∧ RelV v u) ∧ (vs[i]? = none → us[i]? = none)
  | _, _, _, .nil => ⟨fun v e => by simp at e, fun _ => by simp⟩
  | _, _, 0, .cons r t => ⟨fun v e => by simp at e; subst e; exact ⟨_, by simp, r⟩, fun e => by simp at e⟩
  | _, _, i + 1, .cons r t => by
    obtain ⟨h1, h2⟩ := Vals.at i t
    exact ⟨fun v e => by simpa using h1 v (by simpa using e), fun e => by simpa using h2 (by simpa using e)⟩
theorem Vals.perm {vs : List V} {us : List Value} (r : Vals vs us) : ∀ ix : List Nat, Vals (permL ix vs) (permL ix us)
  | [] => .nil
  | i :: ix => by
    obtain ⟨h1, h2⟩ := Vals.at i r
    unfold permL
    rw [List.filterMap_cons, List.filterMap_cons]
    cases e : vs[i]? with
    | none => rw [h2 e]; exact Vals.perm r ix
    | some v =>
      obtain ⟨u, e2, q⟩ := h1 v e
      rw [e2]
      exact .cons q (Vals.perm r ix)
theorem RepWL.get0 {G : Glo} {F : Hp} {θ : List Addr} {ws : List W} {vs : List V} {i : Nat} (r : RepWL G F θ ws vs) (h : ws[i]? = none) : vs[i]? = none := by
  rw [List.getElem?_eq_none_iff] at h ⊢
  rw [r.length]; exact h
theorem RepWL.perm {G : Glo} {F : Hp} {θ : List Addr} {ws : List W} {vs : List V} (r : RepWL G F θ ws vs) : ∀ ix : List Nat, RepWL G F θ (permL ix ws) (permL ix vs)
  | [] => rfl
  | i :: ix => by
    unfold permL
    rw [List.filterMap_cons, List.filterMap_cons]
    cases e : ws[i]? with
    | none => rw [r.get0 e]; exact RepWL.perm r ix
    | some w =>
      obtain ⟨v, e2, q⟩ := r.get e
      rw [e2]
      exact ⟨v, _, rfl, q, RepWL.perm r ix⟩
/-- how such a call binds -/
structure KBP (K : PySem.W.Frag) (fd : FuncData) (ps : List Str) (n : Nat) (ks : List Str) (ix : List Nat) (ds : List Value) : Prop where
  to : ∀ (s : Shared) (us ws : List Value), K.In s.heap → us.length = n → ws.length = ks.length → BindsTo s fd ⟨us, ks.zip ws⟩ (ps.zip (permL ix (us ++ (ws ++ ds))))
section
variable {K : PySem.W.Frag} {x qual : Str} {params : Arguments} {body : List Stmt} {scope : Scope} {dvs : List V} {kws : List (Str × V)} {f : Addr} {fd : FuncData} {ps : List Str}
theorem kbp0 (F : FunD K x qual params body scope [] kws f fd) (n : Nat) (ks : List Str) (ix : List Nat)
    (h : ∀ (kV doc pm : Value) (an : Option Addr) (cdv ct : Value) (us ws : List Value), us.length = n → ws.length = ks.length → bindArgs (PySem.W.fnOf x qual params body scope .none kV doc pm an cdv ct) ⟨us, ks.zip ws⟩ = pure (ps.zip (permL ix (us ++ (ws ++ []))))) : KBP K fd ps n ks ix [] := by
  obtain ⟨oc, od, dV, kV, doc, pm, an, cdv, ct, osl, rfl, lk, hcd, hD, hK⟩ := F.ex
  rcases hD with ⟨_, rfl⟩ | ⟨e, _⟩
  · exact ⟨fun s us ws _ h1 h2 => .of_eq (h kV doc pm an cdv ct us ws h1 h2)⟩
  · exact absurd rfl e
theorem kbpD (F : FunD K x qual params body scope dvs kws f fd) (n : Nat) (ks : List Str) (ix : List Nat) (hd : dvs ≠ [])
    (h : ∀ (T : Addr) (kV doc pm : Value) (an : Option Addr) (cdv ct : Value) (us its ws : List Value), us.length = n → its.length = dvs.length → ws.length = ks.length →
      ∃ k, bindArgs (PySem.W.fnOf x qual params body scope (.ref T) kV doc pm an cdv ct) ⟨us, ks.zip ws⟩ = seqItems? (.ref T) >>= k ∧ k (some its.toArray) = pure (ps.zip (permL ix (us ++ (ws ++ its))))) :
    ∃ ds, Vals dvs ds ∧ KBP K fd ps n ks ix ds := by
  obtain ⟨oc, od, dV, kV, doc, pm, an, cdv, ct, osl, rfl, lk, hcd, hD, hK⟩ := F.ex
  rcases hD with ⟨e, _⟩ | ⟨_, T, o, its, m, rfl, lT, oT, rT⟩
  · exact absurd e hd
  · refine ⟨its, rT, ⟨fun s us ws X h1 h2 => ?_⟩⟩
    obtain ⟨k, e1, e2⟩ := h T kV doc pm an cdv ct us its ws h1 rT.length.symm h2
    refine BindsTo.of_looks fun M => ?_
    rw [e1]
    exact looks_items X lT oT (.of_pure e2)
end
section
variable {G : Glo} {X : Cx} {CX : CXT} {k n m l : Nat} {f C : Addr} {fd : FuncData} {ps ks : List Str} {sp : Sp} {fs : Fn} {x mn : Str} {p pos apos : Pos} {e o : Expr} {es : List Expr} {kws : List Keyword} {t u : L2.WX → TA} {ta tk : TA} {fa fk : Av} {te : L2.WX → TE} {to : TE} {fe : Ev} {dds : List D} {dvs : List V} {ds : List Value} {ix : List Nat} {E : L2.St → XK}
def tCallP (n m : Nat) (sp : Sp) (ix : List Nat) (dvs : List V) (E : L2.St → XK) (t tk : TA) : TE := fun σ H Q => t σ H fun vs H1 => tk σ H1 fun zs H2 => vs.length = n ∧ zs.length = m ∧ sp (permL ix (vs ++ (zs ++ dvs))) H2 Q (E σ)
theorem run_fnP {pins : List (Addr × Obj)} {σ : L2.St} {H : Hp} {s : Shared} {Q : VK} {us ws : List Value} {vs zs : List V} (F : FnG X.prog X.w X.K X.mg X.base CX k f fd ps sp) (hr : RoomG k X.A) (hb : KBP X.K fd ps n ks ix ds) (hd : Vals dvs ds) (hx : PassesAt CX X σ (E σ)) (I : Inv X pins σ H s) (r : Vals vs us) (rz : Vals zs ws)
    (l1 : vs.length = n) (l2 : zs.length = ks.length) (h : sp (permL ix (vs ++ (zs ++ dvs))) H Q (E σ)) : wpAny (model X.prog X.w) X.A (call (.ref f) us (ks.zip ws)) (EP X pins σ Q) X.xe s := by
  have rall := Vals.perm (r.append (rz.append hd)) ix
  apply wpAny_call
  refine codeAny_mono (F.run X.A X.stack s H ⟨us, ks.zip ws⟩ _ _ Q (E σ) hr I.env0 (hb.to s us ws I.kIn (r.length.symm.trans l1) (rz.length.symm.trans l2)) rall h) ?_
  intro res s' z
  cases res with
  | error e => exact hx pins H s e s' I z
  | ok fl =>
    cases fl
    case ret u => exact I.after z
    all_goals exact False.elim z
theorem pe_callP (F : FnG X.prog X.w X.K X.mg X.base CX k f fd ps sp) (hr : RoomG k X.A) (hg : Gl X x) (hm : X.mg x = some (.ref f)) (hk : PySem.W.keepIn X.K (.ref f) = true) (hb : KBP X.K fd ps n ks ix ds) (hd : Vals dvs ds) (hx : ∀ σ, PassesAt CX X σ (E σ)) (ha : PA X (e :: es) ta) (hkw : PK X kws tk)
    (hall : (backToKw pos (keywordEach kws X.env)).all (·.1.isSome) = true) (hks : (backToKw pos (keywordEach kws X.env)).filterMap (·.1) = ks) (hdb : (x == ("__debug__" : Str)) = false) (he : starEach (e :: es) X.env = (false, eval e X.env) :: starEach es X.env)
    (hpl : ((backTo pos (starEach (e :: es) X.env)).any (·.1) || (backToKw pos (keywordEach kws X.env)).any (·.1.isNone)) = false) : PE X (.Call (.Name x p) (e :: es) kws pos) (tCallP n ks.length sp ix dvs E ta tk) := by
  constructor
  intro pins s σ H Q I h
  apply wpAny_Call_Name_kw (ld_glob I hg hm _ hdb)
  refine PySem.W.callWith_KW (h₀ := X.base) I.ok.mod.kin hk hall (thn (ha.run pos pins s σ H _ I h) ?_) hpl he
  intro us s1 ⟨vs, H1, I1, r, q⟩
  refine thn (hkw.run pos pins s1 σ H1 _ I1 q) ?_
  intro ws s2 ⟨zs, H2, I2, rz, l1, l2, q2⟩
  refine ⟨I2.kIn, ?_⟩
  rw [hks]
  exact run_fnP F hr hb hd (hx σ) I2 r rz l1 l2 q2
theorem pe_callP0 (F : FnG X.prog X.w X.K X.mg X.base CX k f fd ps sp) (hr : RoomG k X.A) (hg : Gl X x) (hm : X.mg x = some (.ref f)) (hk : PySem.W.keepIn X.K (.ref f) = true) (hb : KBP X.K fd ps 0 ks ix ds) (hd : Vals dvs ds) (hx : ∀ σ, PassesAt CX X σ (E σ)) (hkw : PK X kws tk)
    (hall : (backToKw pos (keywordEach kws X.env)).all (·.1.isSome) = true) (hks : (backToKw pos (keywordEach kws X.env)).filterMap (·.1) = ks) (hdb : (x == ("__debug__" : Str)) = false)
    (hpl : ((backTo pos (starEach [] X.env)).any (·.1) || (backToKw pos (keywordEach kws X.env)).any (·.1.isNone)) = false) : PE X (.Call (.Name x p) [] kws pos) (tCallP 0 ks.length sp ix dvs E tNil tk) := by
  constructor
  intro pins s σ H Q I h
  apply wpAny_Call_Name_kw (ld_glob I hg hm _ hdb)
  refine PySem.W.callWith_KW0 (h₀ := X.base) I.ok.mod.kin hk hall (thn (hkw.run pos pins s σ H _ I h) ?_) hpl
  intro ws s2 ⟨zs, H2, I2, rz, l1, l2, q2⟩
  refine ⟨I2.kIn, ?_⟩
  rw [hks]
  exact run_fnP (us := []) F hr hb hd (hx σ) I2 .nil rz l1 l2 q2
def eCallP (n m : Nat) (N : Nat) (f : Fn) (ix : List Nat) (dds : List D) (fa fk : Av) : Ev := fun ρ M => (fa ρ M).bind fun ws M1 => (fk ρ M1).bind fun zs M2 => if ws.length = n ∧ zs.length = m ∧ (permL ix (ws ++ (zs ++ dds.map W.d))).length = N then f (permL ix (ws ++ (zs ++ dds.map W.d))) M2 else .stuck
theorem sem_callP (hdd : Cst G dds dvs) (ha : SemA G t fa) (hk : SemA G u fk) : SemE G (fun Wx => tCallP n m (spF G k fs) ix dvs (L2.WE Wx) (t Wx) (u Wx)) (eCallP n m k fs ix dds fa fk) := by
  intro Wx F0 θ σ H ρ M Q sr hg
  refine ha Wx F0 θ σ H ρ M _ sr (Good.seq hg fun ws M1 F1 θ1 H1 _ l1 p1 hr1 hg1 vs rvs => ?_)
  refine hk Wx F1 θ1 σ H1 ρ M1 _ (sr.mono l1 p1 hr1) (Good.seq hg1 fun zs M2 F2 θ2 H2 _ l2 p2 hr2 hg2 us rus => ?_)
  split at hg2
  · rename_i hc
    have rr := RepWL.perm ((rvs.mono l2 p2).append (rus.append (RepL.toW (hdd F2)))) ix
    refine ⟨by rw [rvs.length]; exact hc.1, by rw [rus.length]; exact hc.2.1, ?_⟩
    exact ⟨by rw [rr.length]; exact hc.2.2, F2, θ2, _, M2, hr2, rr, hg2⟩
  · exact hg2.elim
theorem pu_callP (F : FnG X.prog X.w X.K X.mg X.base (L2.CX X.prog X.w) k f fd ps (spF G n fs)) (hr : RoomG k X.A) (hm : X.mg x = some (.ref f)) (hk : PySem.W.keepIn X.K (.ref f) = true) (hb : KBP X.K fd ps m ks ix ds) (hd : Vals dvs ds) (hdd : Cst G dds dvs) (ha : PUA G X (e :: es) t fa) (hkw : PUK G X kws u fk) (hl : ks.length = l := by rfl) (hg : Gl X x := by rfl)
    (hall : (backToKw pos (keywordEach kws X.env)).all (·.1.isSome) = true := by rfl) (hks : (backToKw pos (keywordEach kws X.env)).filterMap (·.1) = ks := by rfl) (hdb : (x == ("__debug__" : Str)) = false := by decide +kernel) (he : starEach (e :: es) X.env = (false, eval e X.env) :: starEach es X.env := by rfl)
    (hpl : ((backTo pos (starEach (e :: es) X.env)).any (·.1) || (backToKw pos (keywordEach kws X.env)).any (·.1.isNone)) = false := by rfl) : PU G X (.Call (.Name x p) (e :: es) kws pos) (fun Wx => tCallP m ks.length (spF G n fs) ix dvs (L2.WE Wx) (t Wx) (u Wx)) (eCallP m l n fs ix dds fa fk) := by
  subst hl
  exact ⟨fun Wx tk => pe_callP F hr hg hm hk hb hd (passAt tk) (ha.pe Wx tk) (hkw.pe Wx tk) hall hks hdb he hpl, sem_callP hdd ha.sem hkw.sem⟩
theorem pu_callP0 (F : FnG X.prog X.w X.K X.mg X.base (L2.CX X.prog X.w) k f fd ps (spF G n fs)) (hr : RoomG k X.A) (hm : X.mg x = some (.ref f)) (hk : PySem.W.keepIn X.K (.ref f) = true) (hb : KBP X.K fd ps 0 ks ix ds) (hd : Vals dvs ds) (hdd : Cst G dds dvs) (hkw : PUK G X kws u fk) (hl : ks.length = l := by rfl) (hg : Gl X x := by rfl)
    (hall : (backToKw pos (keywordEach kws X.env)).all (·.1.isSome) = true := by rfl) (hks : (backToKw pos (keywordEach kws X.env)).filterMap (·.1) = ks := by rfl) (hdb : (x == ("__debug__" : Str)) = false := by decide +kernel)
    (hpl : ((backTo pos (starEach [] X.env)).any (·.1) || (backToKw pos (keywordEach kws X.env)).any (·.1.isNone)) = false := by rfl) : PU G X (.Call (.Name x p) [] kws pos) (fun Wx => tCallP 0 ks.length (spF G n fs) ix dvs (L2.WE Wx) tNil (u Wx)) (eCallP 0 l n fs ix dds aNil fk) := by
  subst hl
  exact ⟨fun Wx tk => pe_callP0 F hr hg hm hk hb hd (passAt tk) (hkw.pe Wx tk) hall hks hdb hpl, sem_callP hdd (pua_nil (X := X)).sem hkw.sem⟩
end
end PU
set_option Elab.async false
set_option linter.all false
set_option maxRecDepth 100000
set_option maxHeartbeats 4000000
namespace PU
open PySem PySem.Spec PyProof.Rows L2
/-! ### the head: a hook with a check of our own -/
/-- what a def that says super() closes over is not compared -/
def eraseC : He5.FnW → He5.FnW := Option.map fun z => match z with
  | (n1, n2, n3, n4, n5, n6, _, n8) => (n1, n2, n3, n4, n5, n6, [], n8)
def isErrI (d : He5.DefA) : Bool := d.scope.names.any fun p => decide (p = (("__class__" : Str), NameKind.free))
def fnA1 (K : PySem.W.Frag) (d : He5.DefA) : He5.FnW := if isErrI d = true then eraseC (He5.fnA K (d.at_ K)) else He5.fnA K (d.at_ K)
def obsP (ex : PySem.W.Frag → Bool) (fn : List He5.DefA) (K : PySem.W.Frag) : He.AlD := (ex K && fn.all fun d => d.ok K, fn.map fun d => fnA1 K d)
def valP (fn : List He5.DefA) : He.AlD := (true, fn.map He5.DefA.val)
def SaysP (ex : PySem.W.Frag → Bool) (fn : List He5.DefA) (K : PySem.W.Frag) : Prop := obsP ex fn K = valP fn
def obsPG (n : Nat) (ex : PySem.W.Frag → Bool) (fn : List He5.DefA) (g : Addr → Option Obj) : He.AlD := obsP ex fn (He.frG g (He.asD g n))
def hookP (n : Nat) (ex : PySem.W.Frag → Bool) (fn : List He5.DefA) : PySem.W.Hook where
  α := He.AlD
  obs := fun s => obsPG n ex fn s.heap.get?
  val := fun _ => valP fn
  says := fun _ h => ∃ K : PySem.W.Frag, K.In h ∧ SaysP ex fn K
  of := fun _ _ e => ⟨_, He.frG_in, e⟩
  keeps := fun _ _ _ ⟨K, hK, c⟩ k => ⟨K, PySem.W.Frag.In.keeps hK k, c⟩
theorem obsPG_eq {n : Nat} {ex : PySem.W.Frag → Bool} {fn : List He5.DefA} {g : Addr → Option Obj} {s : Shared} (h : ∀ a, g a = s.heap.get? a) : obsPG n ex fn g = (hookP n ex fn).obs s := by
  have e : g = s.heap.get? := funext h
  subst e
  rfl
section
variable {ex : PySem.W.Frag → Bool} {fn : List He5.DefA} {K : PySem.W.Frag}
theorem SaysP.chk (c : SaysP ex fn K) : ex K = true := (Bool.and_eq_true_iff.mp (show (ex K && fn.all fun d => d.ok K) = true from congrArg (fun z : He.AlD => z.1) c)).1
theorem SaysP.def_ (c : SaysP ex fn K) (i : Nat) {d : He5.DefA} (h : fn[i]? = some d := by rfl) (hE : isErrI d = false := by kernel_rfl) : ∃ fd, FunD K d.name d.qual d.params d.body d.scope (d.dvs K) (d.kws K) (d.at_ K) fd := by
  have c2 := (Bool.and_eq_true_iff.mp (show (ex K && fn.all fun d => d.ok K) = true from congrArg (fun z : He.AlD => z.1) c)).2
  have e : fn.map (fun d => fnA1 K d) = fn.map He5.DefA.val := congrArg (fun z : He.AlD => z.2) c
  have e2 := congrArg (fun l : List He.FnW => l[i]?) e
  simp only [List.getElem?_map, h, Option.map_some, Option.some.injEq] at e2
  unfold fnA1 at e2
  rw [if_neg (by rw [hE]; exact Bool.false_ne_true)] at e2
  exact He5.DefA.funD e2 (List.all_eq_true.mp c2 d (List.mem_of_getElem? h))
/-- .. a def that says super() -/
theorem SaysP.err_ (c : SaysP ex fn K) (i : Nat) {d : He5.DefA} (h : fn[i]? = some d := by rfl) (hE : isErrI d = true := by kernel_rfl) : ∃ oc od osl cl dV kV doc pm an cdv ct, K.lookup (d.at_ K) = some ⟨oc, od, .func (PySem.W.fnX d.name d.qual d.params d.body d.scope cl dV kV doc pm an cdv ct), osl⟩ ∧ PySem.W.codeIn K cdv d.qual = true := by
  have c2 := (Bool.and_eq_true_iff.mp (show (ex K && fn.all fun d => d.ok K) = true from congrArg (fun z : He.AlD => z.1) c)).2
  have e : fn.map (fun d => fnA1 K d) = fn.map He5.DefA.val := congrArg (fun z : He.AlD => z.2) c
  have e2 := congrArg (fun l : List He.FnW => l[i]?) e
  simp only [List.getElem?_map, h, Option.map_some, Option.some.injEq] at e2
  unfold fnA1 at e2
  rw [if_pos hE] at e2
  obtain ⟨_, c3⟩ := Bool.and_eq_true_iff.mp (List.all_eq_true.mp c2 d (List.mem_of_getElem? h))
  unfold He5.fnA at e2
  cases q : K.lookup (d.at_ K) with
  | none => rw [q] at c3; cases c3
  | some o =>
    obtain ⟨oc, od, dt, osl⟩ := o
    rw [q] at c3 e2
    cases dt with
    | func fd =>
      obtain ⟨n1, n2, n3, n4, n5, n6, n7, n8, n9, n10, n11, n12, n13, n14, n15⟩ := fd
      have e3 : (some (n1, n2, n3, n4, n5, n6, [], n15) : He5.FnW) = some (d.name, d.qual, d.params, .stmts d.body, d.scope, mainGlobals, [], builtinsNs) := e2
      simp only [Option.some.injEq, Prod.mk.injEq] at e3
      obtain ⟨h1, h2, h3, h4, h5, h6, _, h8⟩ := e3
      subst h1 h2 h3 h4 h5 h6 h8
      exact ⟨oc, od, osl, n7, n8, n9, n10, n11, n12, n13, n14, rfl, (Bool.and_eq_true_iff.mp c3).1⟩
    | _ => cases c3
end
/-- a property's getter -/
def getterAt (C m : Str) (K : PySem.W.Frag) : Addr := match PySem.W.findIn K (.ref (He.ga K C)) m with
  | some (some (.ref p)) => match PySem.W.recIn K p "property" with
    | some (.ref g :: _) => g
    | _ => 0
  | _ => 0
def propAt (C m : Str) (K : PySem.W.Frag) : Addr := match PySem.W.findIn K (.ref (He.ga K C)) m with
  | some (some (.ref p)) => p
  | _ => 0
def propB (C m : Str) (K : PySem.W.Frag) : Bool := decide (PySem.W.findIn K (.ref (He.ga K C)) m = some (some (.ref (propAt C m K)))) && (decide (PySem.W.specialIn K (.ref (propAt C m K)) "__get__" = some (some (.builtin "property.__get__"))) &&
  (decide (PySem.W.takesIn K (.ref (propAt C m K)) = some true) && match PySem.W.recIn K (propAt C m K) "property" with
    | some (.ref g :: _) => decide (g = getterAt C m K)
    | _ => false))
theorem propB_ok {C m : Str} {K : PySem.W.Frag} (h : propB C m K = true) : PropOf K (He.ga K C) m (propAt C m K) (getterAt C m K) := by
  obtain ⟨h1, h⟩ := Bool.and_eq_true_iff.mp h
  obtain ⟨h2, h⟩ := Bool.and_eq_true_iff.mp h
  obtain ⟨h3, h4⟩ := Bool.and_eq_true_iff.mp h
  refine ⟨of_decide_eq_true h1, of_decide_eq_true h2, of_decide_eq_true h3, ?_⟩
  split at h4
  · rename_i g r e
    have := of_decide_eq_true h4
    subst this
    exact ⟨r, e⟩
  · cases h4
/-- a class of the text's own: what isinstance asks -/
def insB (C : Str) (K : PySem.W.Frag) : Bool := (He.Fa.cls C).ok K && (decide (PySem.W.findIn K (.ref (He.ga K C)) "__class__" = some (some (.builtin "object.__class__"))) && (decide (PySem.W.specialIn K (.builtin "object.__class__") "__get__" = some (some (.builtin "getset_descriptor.__get__"))) &&
  (decide (PySem.W.takesIn K (.builtin "object.__class__") = some true) && (decide (PySem.W.mroIn K (He.ga K C) (.type "object") = some true) && decide (PySem.W.findIn K (.ref (He.ga K C)) "__ne__" = some (some (.builtin "object.__ne__")))))))
theorem insB_ok {C : Str} {G : Glo} {i : Nat} (h : insB C G.K = true) (e : G.cls i = He.ga G.K C) : InsC G i := by
  obtain ⟨h1, h⟩ := Bool.and_eq_true_iff.mp h
  obtain ⟨h2, h⟩ := Bool.and_eq_true_iff.mp h
  obtain ⟨h3, h⟩ := Bool.and_eq_true_iff.mp h
  obtain ⟨h4, h⟩ := Bool.and_eq_true_iff.mp h
  obtain ⟨h5, h6⟩ := Bool.and_eq_true_iff.mp h
  exact ⟨by rw [e]; exact He.cls_ok h1, by rw [e]; exact of_decide_eq_true h2, of_decide_eq_true h3, of_decide_eq_true h4, by rw [e]; exact of_decide_eq_true h5, by rw [e]; exact of_decide_eq_true h6⟩

/-! ### a law's end -/
section
variable {P : Program} {w : World} {K : PySem.W.Frag} {mg mb : Str → Option Value} {k : Nat} {fa a : Addr} {fd : FuncData} {x : Str} {sp : Sp} {s₁ : Shared} {vs : List Value} {ns : List Int}
/-- nothing but tables, and lists that are known for good -/
def OnlyT (T : List (Addr × Str)) (H : Hp) : Prop := ∀ b, H b = none ∨ (∃ p ∈ T, p.1 = b) ∨ ∃ o xs, H b = some (.frz o (.lst xs))
theorem law_callG {T : List (Addr × Str)} (KX : K.In s₁.heap) (hns : s₁.heap.Ns mainGlobals mg) (hb : s₁.heap.Ns builtinsNs mb) (hbb : ∀ x : Str, x ≠ "__name__" → mb x = bootBuiltins x) (hlim : s₁.heap.NoLimit) (hg : s₁.gens = #[])
    (hT : ∀ p ∈ T, s₁.heap.get? p.1 = some { cls := .none, data := .fields #[] }) (nT : ∀ p ∈ T, K.lookup p.1 = none) (CT : ∀ p ∈ T, ∃ c, PySem.W.CodeHd s₁.heap c p.1)
    (ha : s₁.heap.get? a = some { cls := .type "list", data := .seq vs.toArray }) (hi : IntsAre vs ns) (hl : ns.length ≤ sizeLine) (hr : Room k callerA)
    (F : ∀ base : Heap, K.In base → base.Ns mainGlobals mg → FnG P w K mg base (L2.CX P w) k fa fd [x] sp) (hbind : ∀ (s : Shared) (u : Value), BindsTo s fd ⟨[u], []⟩ [(x, u)])
    (hsp : ∀ H : Hp, (∀ p ∈ T, H p.1 = some (.tbl #[])) → (∀ p ∈ T, p.1 ≠ a) → ((∃ o, H a = some (.frz o (.lst (ns.map V.int)))) ∨ SqL K (fun _ => none) a (ns.map V.int)) → sp [.ref a] H (fun v _ => v = .bl true) fun _ _ _ => False) :
    codeAny (model P w) callerA (.call (.ref fa) ⟨[.ref a], []⟩) (fun r s' => r = .ok (.ret (.bool true)) ∧ OldK s₁.heap s'.heap ∧ s'.os = s₁.os ∧ AllBare s'.gens) s₁ := by
  have valsI := vals_ints hi
  have isT : ∀ b, (∃ p ∈ T, p.1 = b) → s₁.heap.get? b = some { cls := .none, data := .fields #[] } := fun b ⟨p, hp, e⟩ => e ▸ hT p hp
  have aT : ¬ ∃ p ∈ T, p.1 = a := fun z => by
    have e := isT a z
    rw [ha] at e
    exact nomatch congrArg Obj.data (Option.some.inj e)
  have core : ∀ H : Hp, OnlyT T H → (∀ p ∈ T, H p.1 = some (.tbl #[])) → ((∃ o, H a = some (.frz o (.lst (ns.map V.int)))) ∨ SqL K (fun _ => none) a (ns.map V.int)) → HOk P w H s₁.heap → (∀ b, H b ≠ none → b = a ∨ ∃ p ∈ T, p.1 = b) → (H a ≠ none → K.lookup a = none) →
      codeAny (model P w) callerA (.call (.ref fa) ⟨[.ref a], []⟩) (fun r s' => r = .ok (.ret (.bool true)) ∧ OldK s₁.heap s'.heap ∧ s'.os = s₁.os ∧ AllBare s'.gens) s₁ := by
    intro H only tabs script hok onlyA noK
    have untr : ∀ {b : Addr} {o : Obj} {es : Array DictEntry} {ep : Nat}, s₁.heap.get? b = some o → o.data = .dict es ep → H b = none := by
      intro b o es ep e d
      by_cases q : H b = none
      · exact q
      · rcases onlyA b q with eb | eb
        · subst eb
          rw [ha] at e
          cases e
          exact absurd d (fun z => nomatch (show Data.seq vs.toArray _ = Data.dict es ep from z))
        · rw [isT b eb] at e
          cases e
          exact absurd d (fun z => nomatch z)
    have nsUp : ∀ {b : Addr} {m : Str → Option Value}, s₁.heap.Ns b m → (hidT s₁.heap H).Ns b m := by
      intro b m ⟨o, es, ep, e, d, r⟩
      exact ⟨o, es, ep, hidT_get e (untr e d), d, r⟩
    have inBase : K.In (hidT s₁.heap H) := by
      intro b o e
      refine hidT_get (KX b o e) ?_
      by_cases q : H b = none
      · exact q
      · rcases onlyA b q with eb | ⟨p, hp, eb⟩
        · subst eb
          rw [noK q] at e
          cases e
        · rw [← eb, nT p hp] at e
          cases e
    obtain ⟨mc, lim1, lim2⟩ := hlim
    have md : Mod K mg (hidT s₁.heap H) := ⟨inBase, nsUp hns, ⟨mb, nsUp hb, hbb⟩, mc, nsUp lim1, lim2⟩
    have e0 : Env0 P w K mg (hidT s₁.heap H) callerA [] s₁ H := { frames := rfl, mod := md, bs := fun b o e => of_hidT e, bsz := Nat.le_of_eq (hidT_size _ _), funs := trivial, frf := fun b hb => (List.not_mem_nil (show b ∈ ([] : List Addr) from hb)).elim, hok := hok, bare := .of_eq hg }
    refine codeAny_mono ((F _ inBase (nsUp hns)).run callerA [] s₁ H ⟨[.ref a], []⟩ [.ref a] [.ref a] _ _ ⟨hr, rfl⟩ e0 (hbind s₁ (.ref a)) (.cons rfl .nil) (hsp H tabs (fun p hp z => aT ⟨p, hp, z⟩) script)) ?_
    intro r s' h
    cases r with
    | error e =>
      obtain ⟨_, _, _, _, _, _, _, _, _, _, _, _, z⟩ := (show L2.CX P w [] H s₁ (fun _ _ _ => False) e s' from h)
      exact z.elim
    | ok fl =>
      cases fl
      case ret u =>
        obtain ⟨v, H', os, bare, un, hok', r', q⟩ := h
        have ev : v = .bl true := q
        subst ev
        have eu : u = Value.bool true := r'
        subst eu
        have same : ∀ b o, ¬ (∃ p ∈ T, p.1 = b) → s₁.heap.get? b = some o → s'.heap.get? b = some o := by
          intro b o nb e
          rcases only b with z | z | ⟨ob, xs, z⟩
          · exact un.keep b o e z (fun y => List.not_mem_nil (show b ∈ ([] : List Addr) from y)) (by simp)
          · exact absurd z nb
          · obtain ⟨e1, _⟩ := hok b _ z
            obtain ⟨e2, _⟩ := hok' b _ (un.frzs b ob _ z)
            rw [e] at e1
            cases e1
            exact e2
        have grown : ∀ p ∈ T, ∃ more : Array Value, s'.heap.get? p.1 = some { cls := .none, data := .fields more } := fun p hp =>
          let ⟨more, z⟩ := un.tbls p.1 #[] (tabs p hp); ⟨_, hok' p.1 _ z⟩
        refine ⟨rfl, ⟨fun b o e => ?_, fun b o e => ?_⟩, os, bare⟩
        · by_cases hb2 : ∃ p ∈ T, p.1 = b
          · obtain ⟨p, hp, rfl⟩ := hb2
            obtain ⟨more, hm⟩ := grown p hp
            obtain ⟨c, hc⟩ := CT p hp
            rw [hT p hp] at e
            cases e
            exact .inr (.inl ⟨(hc.tab (hT p hp)).isCodeTable, rfl, #[], more, rfl, by rw [Array.empty_append]; exact hm⟩)
          · exact .inl (same b o hb2 e)
        · by_cases hb2 : ∃ p ∈ T, p.1 = b
          · obtain ⟨p, hp, rfl⟩ := hb2
            obtain ⟨more, hm⟩ := grown p hp
            exact ⟨_, hm⟩
          · exact ⟨o, same b o hb2 e⟩
      all_goals exact False.elim h
  have inT : ∀ b, Decidable (∃ p ∈ T, p.1 = b) := fun b => Classical.propDecidable _
  let H0 : Hp := fun b => if ∃ p ∈ T, p.1 = b then some (.tbl #[]) else none
  have H0T : ∀ p ∈ T, H0 p.1 = some (.tbl #[]) := fun p hp => if_pos ⟨p, hp, rfl⟩
  have H0n : ∀ b, ¬ (∃ p ∈ T, p.1 = b) → H0 b = none := fun b z => if_neg z
  have H0e : ∀ b u, H0 b = some u → (∃ p ∈ T, p.1 = b) ∧ u = .tbl #[] := fun b u z => by
    by_cases hb2 : ∃ p ∈ T, p.1 = b
    · exact ⟨hb2, Option.some.inj (z.symm.trans (if_pos hb2))⟩
    · rw [H0n b hb2] at z; cases z
  cases hk : K.lookup a with
  | some o =>
    have e := KX a o hk
    rw [ha] at e
    cases e
    have script : SqL K (fun _ => none) a (ns.map V.int) := by
      refine .inr ⟨_, vs.toArray, _, hk, rfl, rfl, rfl, ?_, by simpa using valsI⟩
      rw [List.size_toArray, hi.length]
      exact hl
    refine core H0 (fun b => ?_) H0T (.inr script) (fun b u z => ?_) (fun b z => ?_) (fun z => absurd (H0n a aT) z)
    · by_cases hb2 : ∃ p ∈ T, p.1 = b
      · exact .inr (.inl hb2)
      · exact .inl (H0n b hb2)
    · obtain ⟨z1, rfl⟩ := H0e b u z
      exact isT b z1
    · by_cases hb2 : ∃ p ∈ T, p.1 = b
      · exact .inr hb2
      · exact absurd (H0n b hb2) z
  | none =>
    let ob : Obj := { cls := .type "list", data := .seq vs.toArray }
    let H1 : Hp := fun b => if b = a then some (.frz ob (.lst (ns.map V.int))) else H0 b
    have at1 : ∀ b u, H1 b = some u → (b = a ∧ u = .frz ob (.lst (ns.map V.int))) ∨ ((∃ p ∈ T, p.1 = b) ∧ u = .tbl #[]) := by
      intro b u z
      by_cases eb : b = a
      · exact .inl ⟨eb, (Option.some.inj ((if_pos eb).symm.trans z)).symm⟩
      · exact .inr (H0e b u ((if_neg eb).symm.trans z))
    refine core H1 ?_ (fun p hp => (if_neg (fun z => aT ⟨p, hp, z⟩)).trans (H0T p hp)) (.inl ⟨ob, if_pos rfl⟩) ?_ ?_ (fun _ => hk)
    · intro b
      cases e : H1 b with
      | none => exact .inl rfl
      | some u =>
        rcases at1 b u e with ⟨eb, rfl⟩ | ⟨z, _⟩
        · exact .inr (.inr ⟨ob, _, rfl⟩)
        · exact .inr (.inl z)
    · intro b u z
      rcases at1 b u z with ⟨eb, eu⟩ | ⟨z1, eu⟩
      · subst eb eu
        exact ⟨ha, by rw [List.length_map]; exact hl, vs, _, valsI, ha⟩
      · subst eu
        exact isT b z1
    · intro b z
      cases e : H1 b with
      | none => exact absurd e z
      | some u =>
        rcases at1 b u e with ⟨eb, _⟩ | ⟨z, _⟩
        · exact .inl eb
        · exact .inr z
end
/-- a law, by a head with facts: the script's reading is given as data -/
theorem walkG {l : PySem.W.OpenLaw} {n k : Nat} {q : Program} {loose : List Str} {XP : (Str → Option Value) → Heap → Prop} {YP : World → Heap → Prop} {d : DefRec} {x : Str} (hn : l.most = some n) (hn2 : n ≤ sizeLine) (hdf : d.params.defaults = []) (hr : Room k callerA)
    (F : ∀ (w : World) (mg : Str → Option Value) (fa : Addr) (h : Heap), YP w h → h.Ns mainGlobals mg → mg d.name = some (.ref fa) → ∃ (G : Glo) (fd : FuncData) (f : Fn), (∀ p ∈ G.T, h.get? p.1 = some { cls := .none, data := .fields #[] } ∧ G.K.lookup p.1 = none ∧ ∃ c, PySem.W.CodeHd h c p.1) ∧ G.K.In h ∧ (∀ (s : Shared) (u : Value), BindsTo s fd ⟨[u], []⟩ [(x, u)]) ∧
      (∀ ns : List Int, ns.length ≤ n → (∀ z ∈ ns, z.natAbs < 2 ^ (2 ^ 20)) → ∃ M, f [.d (.klst (ns.map D.int))] [] = .ok (.d (.bl true)) M) ∧ ∀ base : Heap, G.K.In base → base.Ns mainGlobals mg → FnG l.prog w G.K mg base (L2.CX l.prog w) k fa fd [x] (spF G 1 f)) :
    PySem.W.WalkO q loose XP YP l.row.toRowW d [] (fun f vs => PySem.call f vs) := by
  intro w s₀ s₁ mg mb W0 Y fa o pm cd doc dV kV ho hd hcd hD hmg hg args vals as hpre hlay hrd hwl hlo
  have eD : dV = .none := PySem.W.Dflts.none hD hdf
  subst eD
  have eK : kV = .none := PySem.W.Dflts.noKw hD
  subst eK
  obtain ⟨a, vs, ns, rfl, rfl, hobj, hints, hlen⟩ := Att.script_of hn hpre hwl
  have bits : ∀ z ∈ ns, z.natAbs < 2 ^ (2 ^ 20) := by
    intro z hz
    have h1 := PySem.W.layableW_item (PySem.W.layableW_arg hlay _ (List.mem_singleton.mpr rfl)) (PySem.W.WData.int z) (List.mem_map_of_mem hz)
    obtain ⟨_, _, h2⟩ := PySem.W.layableW_iff.mp h1
    by_cases h0 : z = 0
    · subst h0; exact Nat.two_pow_pos _
    · have h3 : z.natAbs.log2 + 1 ≤ 2 ^ 20 := by
        have h4 : (if z == 0 then 0 else z.natAbs.log2 + 1) ≤ 2 ^ 20 := h2
        rw [if_neg (by simpa using h0)] at h4
        exact h4
      have h5 : z.natAbs ≠ 0 := by omega
      exact (Nat.log2_lt h5).mp h3
  apply PySem.W.enter_call
  have core : codeAny (model l.prog w) callerA (.call (.ref fa) ⟨[.ref a], []⟩) (fun r s' => r = .ok (.ret (.bool true)) ∧ OldK s₁.heap s'.heap ∧ s'.os = s₁.os ∧ AllBare s'.gens) s₁ := by
    obtain ⟨G, fd, f, hT0, inK, hb, hf, hF⟩ := F w mg fa _ Y W0.T.g hmg
    refine law_callG (T := G.T) inK W0.T.g W0.T.b W0.T.builtins W0.T.nolimit hg (fun p hp => (hT0 p hp).1) (fun p hp => (hT0 p hp).2.1) (fun p hp => (hT0 p hp).2.2) hobj hints (Nat.le_trans hlen hn2) hr hF hb ?_
    intro H tabs nTa script
    obtain ⟨M, e⟩ := hf ns hlen bits
    have inT : ∀ b, Decidable (∃ p ∈ G.T, p.1 = b) := fun b => Classical.propDecidable _
    refine ⟨rfl, fun b => if b = a then H a else if ∃ p ∈ G.T, p.1 = b then some (.tbl #[]) else none, [], [.d (.klst (ns.map D.int))], [], ⟨fun p hp => ?_, ?_, rfl, List.nodup_nil, fun k a c hk => by simp at hk⟩, ⟨_, [], rfl, ?_, rfl⟩, ?_⟩
    · exact LamX.TabS.nil ((if_neg (nTa p hp)).trans (if_pos ⟨p, hp, rfl⟩))
    · intro b u z
      by_cases eb : b = a
      · subst eb; rw [← z]; exact (if_pos rfl).symm
      · have z' : (if ∃ p ∈ G.T, p.1 = b then some (HO.tbl #[]) else none) = some u := (if_neg eb).symm.trans z
        by_cases hb2 : ∃ p ∈ G.T, p.1 = b
        · rw [if_pos hb2] at z'
          cases z'
          obtain ⟨p, hp, rfl⟩ := hb2
          exact tabs p hp
        · rw [if_neg hb2] at z'; cases z'
    · simp only [RepW, Rep]
      refine ⟨a, ns.map V.int, rfl, script.imp (fun ⟨o, z⟩ => ⟨o, (if_pos rfl).trans z⟩) id, ?_⟩
      clear hf e script hlen hints hobj hpre hlay hrd hwl hlo bits
      induction ns with
      | nil => exact RepL.nil
      | cons i r ih => exact RepL.cons (by simp only [Rep]) ih
    · rw [e]
      intro F' θ' H' l p hr' v rv
      simpa only [RepW, Rep] using rv
  refine codeAny_mono core ?_
  intro r s' ⟨er, h2, h3, h4⟩
  subst er
  refine ⟨.inl ⟨.bool true, .bool true, [], rfl, fun _ => rfl, .bool true, Att.post_true l _, fun _ => ⟨List.Pairwise.nil, ?_⟩⟩, h2, h3, h4⟩
  intro _ hm
  exact nomatch hm
end PU
set_option Elab.async false
set_option linter.all false
set_option maxRecDepth 100000
set_option maxHeartbeats 4000000
/-! errors of the text's own classes: isinstance of a pinned one, promises of defs that get one, try with several clauses -/
namespace PWX
open PySem PySem.Spec PySem.Calls PyProof.Rows PySem.W
section
variable {prog : Program} {w : World} {A : Around} {E : Value → Shared → Prop} {s : Shared} {K : Frag} {xa D : Addr} {obj : Obj} {dct : Option Obj}
/-- the class of an error, its dict there or not -/
theorem er_class {Q : Option Value → Shared → Prop} (C : L2.ExcC K D) (inH : K.In s.heap) (at_ : InstAt s.heap xa obj D dct) (hq : Q (some (.ref D)) { s with toks := s.toks + 1 }) :
    wpAny (model prog w) A (getAttr? (.ref xa) "__class__") Q E s := by
  have isC : (clsIn K D).isSome = true := by obtain ⟨cd, hc, _⟩ := any_some C.hd; rw [hc]; rfl
  have fo : findObj K D dct "__class__" = some (.bind (.builtin "getset_descriptor.__get__") (.builtin "object.__class__")) := by
    cases dct with
    | none => exact findObj_dataN isC C.ha C.hn C.ht
    | some od => exact findObj_data isC C.ha C.hn C.ht
  obtain ⟨hp, gs, dr, tk, os⟩ := s
  have la := at_.type (M := model prog w)
  have lb := looks_findIn (M := model prog w) inH C.hg
  have lc := looks_findIn (M := model prog w) inH C.hk
  have ld := looks_find (M := model prog w) inH at_ fo
  have isB : Looks (model prog w) hp (isInstance (.ref xa) (.type "BaseException")) true := la.andThen (looks_subIn inH C.hs)
  have z0 : (false && onTheHeap (Value.builtin "BaseException.__getattribute__")) = false := rfl
  have z2 : (Value.builtin "BaseException.__getattribute__" == Value.builtin "object.__getattribute__") = false := by decide +kernel
  have z1 : (onTheHeap (Value.ref D) && Value.builtin "BaseException.__getattribute__" == Value.builtin "object.__getattribute__") = false := by rw [z2]; rfl
  unfold getAttr? getAttrBy?
  unfold getAttrBy
  refine wpAny_bind (wpAny_mkText (wpAny_bind (wpAny_attempt (wpAny_holding (wpAny_bind (la.at (wpAny_bind (lb.at ?_))))))))
  show wpAny (model prog w) A (if (onTheHeap (Value.ref D) && Value.builtin "BaseException.__getattribute__" == Value.builtin "object.__getattribute__") = true then _ else _) _ _ _
  rw [z1, if_neg (show ¬ (false = true) from Bool.false_ne_true)]
  unfold getAttrByItsOwn
  unfold hookBefore
  refine wpAny_bind ?_
  rw [if_pos (show onTheHeap (Value.ref D) = true by rfl)]
  refine lc.at ?_
  refine wpAny_bind (wpAny_attempt (wpAny_holding (?_)))
  unfold callGetattribute
  rw [z0, if_neg (show ¬ (false = true) from Bool.false_ne_true)]
  unfold boundAndCalled
  rw [PySem.F.excAttr_ValueError.ga.bind (Value.ref xa)]
  refine wpAny_bind (wpAny_pure ?_)
  show wpAny (model prog w) A (call (.builtin "BaseException.__getattribute__") [.ref xa, .str "__class__" tk]) _ _ _
  refine wpAny_call (codeAny_call_builtin PySem.F.excAttr_ValueError.ga.plain PySem.F.entry_bexc_ga (?_))
  refine @check_slot (model prog w) _ _ ⟨hp, gs, dr, tk + 1, os⟩ "BaseException.__getattribute__" "BaseException" "__getattribute__" (.ref xa) [.str "__class__" tk] [] _ (by decide +kernel) (by decide +kernel) isB (PySem.F.args_bexc_ga (.ref xa) (.str "__class__" tk)) ?_
  unfold Builtin.«object.__getattribute__»
  refine wpAny_bind (wpAny_of_eq (a := ((Value.ref xa : Value), [Value.str "__class__" tk])) (by first | rfl | (simp only [slotArgs]; rfl)) ?_)
  refine wpAny_bind (wpAny_pure (wpAny_bind (la.at (wpAny_bind (ld.at ?_)))))
  show wpAny (model prog w) _ (holding [Value.builtin "object.__class__"] (call (.builtin "getset_descriptor.__get__") [.builtin "object.__class__", .ref xa, .ref D]) >>= ret) _ _ _
  refine wpAny_bind (wpAny_holding (wpAny_call (class_get (s := ⟨hp, gs, dr, tk + 1, os⟩) (ox := obj) (od := dct) inH at_ C.hm (?_))))
  refine wpAny_pure ?_
  show wpAny (model prog w) _ (handedOut (.ref D)) _ _ _
  rw [handedOut_of (v := Value.ref D) rfl]
  first
    | exact wpAny_pure (wpAny_pure hq)
    | exact wpAny_pure hq
    | exact wpAny_pure (wpAny_bind (wpAny_pure (wpAny_pure hq)))
theorem er_kit (C : L2.ExcC K D) : KitX K (.ref xa) (.ref D) (fun h => InstAt h xa obj D dct) where
  ty := fun _ _ _ z => z.type
  it := fun _ _ inH _ => by
    obtain ⟨cd, hc, _⟩ := any_some C.hd
    unfold clsIn at hc
    split at hc
    · rename_i c' d' cd' sl' ho
      intro A' Q' E' s' k q
      unfold isType
      unfold loadHead
      exact wpAny_bind (wpAny_loadPart (k _ _ (inH _ _ ho)) (wpAny_pure q))
    · cases hc
  ne := fun h tp dd its n sl inH htp => by
    obtain ⟨cd, hc, _⟩ := any_some C.hd
    refine Bool.eq_false_iff.mpr fun q => ?_
    obtain rfl : D = tp := Value.ref.inj (beq_iff_eq.mp q)
    unfold clsIn at hc
    split at hc
    · rename_i c' d' cd' sl' ho
      have z := (inH _ _ ho).symm.trans htp
      cases z
    · cases hc
  ca := fun inH z k => er_class C inH z k
end
end PWX
namespace PW
open PySem PySem.Spec PyProof.Rows L2
/-- isinstance(e, c) of the error at a, which stands pinned -/
def rIsX (K : PySem.W.Frag) (D a : Addr) (d : Option Addr) : List V → Hp → VK → Prop := fun xs H Q => ∃ (c : V) (cv : Value) (b : Bool), xs = [.ref a, c] ∧ (∀ u, RelV c u → u = cv) ∧ PySem.W.kitOne K (.ref D) cv = some b ∧
  (∀ dd, d = some dd → ∃ fs, H dd = some (.xd fs)) ∧ Q (.bl b) H
theorem call_isX {X : Cx} {a D : Addr} {d : Option Addr} {oe : Obj} (C : ExcC X.K D) (hp : (a, oe) ∈ X.pn) (hz : Zc (.ref D) d oe) (hf : ∃ vs, oe.data = .fields vs) : CallR X (.builtin "isinstance") (rIsX X.K D a d) := by
  intro pins s σ H xs us Q I r h
  obtain ⟨c, cv, b, rfl, hcv, e, hd, q⟩ := h
  cases r with
  | cons rx rr =>
    cases rr with
    | cons rt rr =>
      cases rr
      cases rx
      obtain rfl := hcv _ rt
      have hget := (I.pin (a, oe) (List.mem_append_left _ hp)).1
      obtain ⟨vs, hv⟩ := hf
      have nc : PySem.W.notCls oe = true := by unfold PySem.W.notCls; rw [hv] <;> rfl
      have at_ : ∃ od, PySem.W.InstAt s.heap a oe D od := by
        cases d with
        | none => exact ⟨none, hget, hz.1, nc, by rw [hz.2]; trivial⟩
        | some dd =>
          obtain ⟨fs, hx⟩ := hd dd rfl
          obtain ⟨mA, hns, _⟩ := I.hok dd _ hx
          obtain ⟨od, ho, _⟩ := lookIn_ns hns
          exact ⟨some od, hget, hz.1, nc, by rw [hz.2]; exact ho⟩
      obtain ⟨od, at_⟩ := at_
      exact PySem.W.kia_one (PWX.er_kit C) I.kIn at_ e (fun z => nomatch z) fun tk => ⟨.bl b, H, I.kept (t' := tk) fun _ _ z => z, rfl, q⟩
end PW
set_option Elab.async false
set_option linter.all false
set_option maxRecDepth 100000
set_option maxHeartbeats 4000000
namespace PW
open PySem PySem.Spec PyProof.Rows L2
/-! ### room, where an error may be in hand -/
structure RoomP (k : Nat) (A : Around) : Prop where
  dp : A.depth + 3 * k + 5 < recursionLimit
  un : A.units + 16 * k + 200 < cLine
  gd : A.guards = some []
section
variable {j k : Nat} {A : Around}
theorem RoomP.deeper (r : RoomP (k + 1) A) (env : PySem.Env) : RoomP k (A.deeper env) :=
  ⟨by have h := r.dp; show A.depth + 1 + 3 * k + 5 < recursionLimit; omega, by have h := r.un; show A.units + 3 + 16 * k + 200 < cLine; omega, r.gd⟩
theorem RoomP.mono (r : RoomP k A) (h : j ≤ k) : RoomP j A := ⟨by have h := r.dp; omega, by have h := r.un; omega, r.gd⟩
theorem roomP_of (r : PU.RoomG k A) : RoomP k A := ⟨r.rm.dp, r.rm.un, r.gd⟩
theorem RoomP.mark (r : RoomP k A) (u : Option Value) : RoomP k (A.mark u) := ⟨r.dp, r.un, r.gd⟩
theorem RoomP.depth (r : RoomP k A) : A.depth < recursionLimit := by have h := r.dp; omega
end
/-! ### an error is tracked from now on -/
section
variable {X : Cx} {pins : List (Addr × Obj)} {σ : L2.St} {H : Hp} {s : Shared} {a : Addr} {oe : Obj}
theorem Inv.track (I : Inv X pins σ H s) (ha : s.heap.get? a = some oe) (hn : H a = none) (n0 : X.s_0.heap.get? a = none) (nL : a ≠ X.env.locals) (nC : ∀ x c, X.env.cells.lookup x = some c → c ≠ a) (nP : ∀ p ∈ X.pn ++ pins, p.1 ≠ a) : Inv X pins σ (upd H a (PU.ExP a oe)) s := by
  have ne : ∀ {b : Addr} {o : HO}, H b = some o → b ≠ a := fun {b o} e z => by rw [z, hn] at e; cases e
  refine ⟨I.ok, I.os, I.bare, ⟨I.base.keep, I.base.slot, fun b o e n hx => ?_, I.base.there, fun b xs e => ?_, fun b o u e => ?_, fun b ps e => ?_⟩, I.loc, I.cell, ?_, fun x c e => ?_, fun p hp => ?_, fun b u e => ?_, I.len⟩
  · rw [upd_ne (fun z => by rw [z, n0] at e; cases e)]; exact I.base.free b o e n hx
  · have q := I.base.tups b xs e
    rw [upd_ne (ne q)]; exact q
  · have q := I.base.frzs b o u e
    rw [upd_ne (ne q)]; exact q
  · obtain ⟨m, q⟩ := I.base.tbls b ps e
    exact ⟨m, by rw [upd_ne (ne q)]; exact q⟩
  · rw [upd_ne (Ne.symm nL)]; exact I.free
  · rw [upd_ne (nC x c e)]; exact I.freeC x c e
  · obtain ⟨p1, p2, p3, p4, p5⟩ := I.pin p hp
    exact ⟨p1, by rw [upd_ne (nP p hp)]; exact p2, p3, p4, p5⟩
  · by_cases hb : b = a
    · subst hb
      rw [upd_same] at e
      cases e
      exact ⟨ha, ⟨oe, ha⟩, fun h1 h2 p st => st _ p⟩
    · rw [upd_ne hb] at e
      refine (I.hok b u e).stay (fun _ _ _ q => q) (fun c q => ?_) fun c xs q => ?_
      · rw [upd_ne (ne q)]; exact q
      · rw [upd_ne (ne q)]; exact q
end
/-! ### try with several clauses, each with a class or a tuple of such, with a name or without -/
def TestR (X : Cx) (t : Expr) (cs : List Value) : Prop := ∀ (a : Addr) (oe : Obj) (pn pins : List (Addr × Obj)) (σ : L2.St) (H : Hp) (s : Shared) (cls : Value) (b : Bool) (Q : Bool → Shared → Prop) (E : Value → Shared → Prop),
  Inv (X.suite a ((a, oe) :: pn)) pins σ H s → PySem.W.Looks (model X.prog X.w) s.heap (typeOf (.ref a)) cls → PySem.W.exmAny X.K cls cs = some b →
  (∀ h', (∀ q o, s.heap.get? q = some o → h'.get? q = some o) → Q b { s with heap := h' }) →
  wpAny (model X.prog X.w) (X.A.mark (some (.ref a))) (eval t X.env) (fun c s1 => wpAny (model X.prog X.w) (X.A.mark (some (.ref a))) (excMatches (.ref a) c) Q E s1) E s
section
variable {X : Cx}
theorem test_one {x : Str} {c : Value} {p : Pos} (hc : Names X x c) : TestR X (.Name x p) [c] := by
  intro a oe pn pins σ H s cls b Q E I lt hb hq
  obtain ⟨b1, d1, e1, e2, rfl⟩ := PySem.W.exmAny_cons hb
  cases e2
  have lm := PySem.W.exm_one (M := model X.prog X.w) I.kIn lt e1
  have fin : wpAny (model X.prog X.w) (X.A.mark (some (.ref a))) (excMatches (.ref a) c) Q E s := lm.here (by
    have := hq s.heap fun _ _ z => z
    simpa using this)
  obtain ⟨hg, hdbg, hm | ⟨hm, hv, hnn⟩⟩ := hc
  · exact ld_glob (X := X.suite a ((a, oe) :: pn)) I hg hm fin hdbg
  · exact ld_blt (X := X.suite a ((a, oe) :: pn)) I hg hm hv fin hnn hdbg
theorem test_tup3 {x1 x2 x3 : Str} {c1 c2 c3 : Value} {p1 p2 p3 pos : Pos} {k} (n1 : Names X x1 c1) (n2 : Names X x2 c2) (n3 : Names X x3 c3) : TestR X (.Tuple [.Name x1 p1, .Name x2 p2, .Name x3 p3] k pos) [c1, c2, c3] := by
  intro a oe pn pins σ H s cls b Q E I lt hb hq
  have nm : ∀ {x : Str} {c : Value} {p : Pos} {Q : Value → Shared → Prop} {E : Value → Shared → Prop}, Names X x c → Q c s → wpAny (model X.prog X.w) (X.A.mark (some (.ref a))) (eval (.Name x p) X.env) Q E s := by
    intro x c p Q E hc q
    obtain ⟨hg, hdbg, hm | ⟨hm, hv, hnn⟩⟩ := hc
    · exact ld_glob (X := X.suite a ((a, oe) :: pn)) I hg hm q hdbg
    · exact ld_blt (X := X.suite a ((a, oe) :: pn)) I hg hm hv q hnn hdbg
  refine wpAny_Tuple ?_
  refine wpAny_items_cons (nm n1 (wpAny_items_cons (nm n2 (wpAny_items_cons (nm n3 (wpAny_items_nil ⟨by size_fits, ?_⟩))))))
  have kp : ∀ q o, s.heap.get? q = some o → (s.heap.push { cls := .type "tuple", data := .seq [c1, c2, c3].toArray }).get? q = some o := fun _ _ z => Heap.get?_push_of_some _ z
  exact (PySem.W.exm_tup3 (I.kIn.keeps kp) (lt.keeps kp) (Heap.get?_push_size s.heap rfl) hb).here (hq _ kp)
abbrev Hd := List Value × Option Nat × (Addr → Obj → Value → Option Addr → TS)
def endsP : Option Nat → Ends → Ends
  | none, D => D
  | some i, D => { nx := fun σ' H' => D.nx (σ'.set i none) H', rt := D.rt, bk := fun σ' H' => D.bk (σ'.set i none) H', ct := fun σ' H' => D.ct (σ'.set i none) H' }
def slotP : Option Nat → Addr → L2.St → L2.St
  | none, _, σ => σ
  | some i, a, σ => σ.set i (some (.ref a))
def wHds (K : PySem.W.Frag) (Wout : WX) (D : Ends) : List Hd → WX
  | [] => Wout
  | (cs, n, ts) :: r => fun cls d σ H => ∃ b, PySem.W.exmAny K cls cs = some b ∧ (b = true → ∀ a oe, H a = none → Zc cls d oe → (∃ vs, oe.data = .fields vs) → ts a oe cls d (endsP n D) (slotP n a σ) (upd H a (PU.ExP a oe))) ∧ (b = false → wHds K Wout D r cls d σ H)
inductive HdsP (X : Cx) : List ExceptHandler → List Hd → Prop
  | nil : HdsP X [] []
  | plain {t : Expr} {cs : List Value} {ts : Addr → Obj → Value → Option Addr → TS} {b₀ : Stmt} {suite : List Stmt} {pos' : Pos} {hds : List ExceptHandler} {l : List Hd} (hc : TestR X t cs)
      (hsu : ∀ (a : Addr) (oe : Obj) (cls : Value) (d : Option Addr) (pn : List (Addr × Obj)), Zc cls d oe → (∃ vs, oe.data = .fields vs) → PSs (X.suite a pn) (b₀ :: suite) (ts a oe cls d)) (r : HdsP X hds l) :
      HdsP X (.ExceptHandler (some t) none (b₀ :: suite) pos' :: hds) ((cs, none, ts) :: l)
  | named {t : Expr} {cs : List Value} {ts : Addr → Obj → Value → Option Addr → TS} {b₀ : Stmt} {suite : List Stmt} {pos' : Pos} {hds : List ExceptHandler} {l : List Hd} {i : Nat} {n : Str} (hc : TestR X t cs) (hi : X.N[i]? = some n) (hln : X.env.kindOf n = some .local)
      (hsu : ∀ (a : Addr) (oe : Obj) (cls : Value) (d : Option Addr) (pn : List (Addr × Obj)), Zc cls d oe → (∃ vs, oe.data = .fields vs) → PSs (X.suite a pn) (b₀ :: suite) (ts a oe cls d)) (r : HdsP X hds l) :
      HdsP X (.ExceptHandler (some t) (some n) (b₀ :: suite) pos' :: hds) ((cs, some i, ts) :: l)
theorem flying_up {B h h' : Heap} {l : List PySem.Env} {e : Addr} {Z : Obj → Prop} (fl : HandSPX.FlyingZ B l e Z h) (kp : ∀ q o, h.get? q = some o → h'.get? q = some o) : HandSPX.FlyingZ B l e Z h' := by
  obtain ⟨f1, f2, f3, oe, vs, T, oT, ts, he, hz, hd, h1, hnT, hTe, hT, hdT, h3⟩ := fl
  exact ⟨fun b o z => kp b o (f1 b o z), f2, f3.of_keeps fun b o z _ => ⟨o, kp b o z, rfl⟩, oe, vs, T, oT, ts, kp _ _ he, hz, hd, h1, hnT, hTe, kp _ _ hT, hdT, h3⟩
theorem ps_try_gen {body : List Stmt} {hd0 : ExceptHandler} {hds : List ExceptHandler} {l : List Hd} {pos : Pos} {tb : WX → TS} {Wout : WX} (hs : X.stack = X.env :: X.outer) (hf : X.env.frame = some X.env.locals) (hN : X.N.Nodup) (hex : X.ex = []) (tk : Takes X Wout)
    (hb : ∀ (W : WX) (pn : List (Addr × Obj)) (xe : Value → Shared → Prop), Takes (X.tr pn xe) W → PSs (X.tr pn xe) body (tb W))
    (hh : HdsP X (hd0 :: hds) l) : PS X (.Try body (hd0 :: hds) [] [] pos) (fun D σ H => tb (wHds X.K Wout D l) D σ H) := by
  refine ⟨fun pins s σ H D I h => ?_⟩
  have ok := I.ok
  have exNo : ∀ b, b ∈ X.ex → False := fun b hb => by rw [hex] at hb; exact List.not_mem_nil hb
  have hfr : X.A.frames = some (X.env :: X.outer) := by rw [ok.frames, hs]
  refine wpAny_Try_except ?_
  refine wpAny_mono ((hb (wHds X.K Wout D l) (X.pn ++ pins) (fun e s₁ => wpAny (model X.prog X.w) X.A (noteFrame e X.env) (fun _ s₂ => wpAny (model X.prog X.w) X.A (setFlight e none) (fun _ s₃ =>
    wpAny (model X.prog X.w) X.A (handleBy e X.env (hd0 :: hds)) (SP X pins D) X.xe s₃) X.xe s₂) X.xe s₁) (fun u s' xx => ?_)).run [] s σ H D (I.toTry _) h) (fun f s1 hsp => ?_) (fun e s1 he => he)
  · obtain ⟨a, B, sI, pins', σ', H', cls, d, rfl, J', nb, up, sky, na, os, ag, wish⟩ := xx
    have J : Inv X pins σ' H' sI := J'.ofTry ok
    have sky' : Sky B (X.env :: X.outer) a (Zc cls d) X.env.locals s'.heap := by rw [← hs]; exact sky
    show wpAny (model X.prog X.w) X.A (noteFrame (.ref a) X.env) _ _ _
    refine Sky.land Zc.steady hfr hf sky' fun h0 fl0 up0 => ?_
    have go : ∀ {hds' : List ExceptHandler} {l' : List Hd}, HdsP X hds' l' → ∀ h3 : Heap, HandSPX.FlyingZ B (X.env :: X.outer) a (Zc cls d) h3 → sI.heap.UpToSlots h3 → wHds X.K Wout D l' cls d σ' H' →
        wpAny (model X.prog X.w) X.A (handleBy (.ref a) X.env hds') (SP X pins D) X.xe { s' with heap := h3 } := by
      intro hds' l' hk
      have notFr : ∀ {h : Heap} {o : Obj} {vs : Array Value}, h.FunFrames B (X.env :: X.outer) → h.get? a = some o → o.data = .fields vs → a ∉ frs (X.env :: X.outer) := by
        intro h o vs ff e dd hm
        obtain ⟨_, o', e', hnf⟩ := ff.mem hm
        rw [e] at e'; cases e'
        exact hnf _ dd
      have pins_ : ∀ h3 : Heap, HandSPX.FlyingZ B (X.env :: X.outer) a (Zc cls d) h3 → sI.heap.UpToSlots h3 → Inv X pins σ' H' { s' with heap := h3 } ∧ ∃ oe, h3.get? a = some oe ∧ Zc cls d oe ∧ (∃ vs, oe.data = .fields vs) ∧ Inv (X.suite a (X.pn ++ pins)) [] σ' (upd H' a (PU.ExP a oe)) { s' with heap := h3 } ∧ Inv (X.suite a ((a, oe) :: (X.pn ++ pins))) [] σ' H' { s' with heap := h3 } := by
        intro h3 fl3 up3
        have J3 : Inv X pins σ' H' { s' with heap := h3 } := J.landed nb fl3.1 up3 os ag
        obtain ⟨oe, vs, he3, hz3, hd3⟩ := fl3.there
        have nfr := notFr fl3.2.2.1 he3 hd3
        have nL : a ≠ X.env.locals := fun z => nfr (List.mem_filterMap.mpr ⟨X.env, List.mem_cons_self, by rw [hf, z]⟩)
        have nI : ∀ o, sI.heap.get? a = some o → False := fun o e => by
          have z := nb a o e (by rw [hs]; exact nfr)
          rw [fl3.2.1] at z
          cases z
        have n0 : X.s_0.heap.get? a = none := by
          cases e : X.s_0.heap.get? a with
          | none => rfl
          | some o =>
            by_cases hx : a ∈ X.ex
            · exact ((exNo a hx).elim)
            · obtain ⟨o', e'⟩ := J.base.there a o e hx
              exact (nI o' e').elim
        have T3 : Inv X pins σ' (upd H' a (PU.ExP a oe)) { s' with heap := h3 } := PW.Inv.track J3 he3 na n0 nL (fun x c e z => by
          obtain ⟨v, o, ho, _⟩ := J.cell x c e
          rw [z] at ho
          exact nI _ ho) (fun p hp z => by
          have e := (J.pin p hp).1
          rw [z] at e
          exact nI _ e)
        refine ⟨J3, oe, he3, hz3, ⟨vs, hd3⟩, ⟨T3.ok.suite a _, T3.os, T3.bare, T3.base, T3.loc, T3.cell, T3.free, T3.freeC, fun p hp => T3.pin p (by simpa using hp), T3.hok, T3.len⟩, J3.suite he3 hd3 na nL fun hm => ?_⟩
        obtain ⟨e, he, q⟩ := List.mem_filterMap.mp hm
        exact nfr (List.mem_filterMap.mpr ⟨e, List.mem_cons_of_mem _ he, q⟩)
      have unS : ∀ {σ6 : L2.St} {H6 : Hp} {s6 : Shared}, Inv (X.suite a (X.pn ++ pins)) [] σ6 H6 s6 → Inv X pins σ6 H6 s6 := fun {σ6 H6 s6} S6 => ⟨ok, S6.os, S6.bare, S6.base, S6.loc, S6.cell, S6.free, S6.freeC, fun p hp => S6.pin p (List.mem_append_left _ hp), S6.hok, S6.len⟩
      induction hk with
      | nil =>
        intro h3 fl3 up3 w
        refine wpAny_handleBy_nil ?_
        obtain ⟨k1, k2, k3, oe, vs, T, oT, ts', he, hz, hd, h1, hr⟩ := id fl3
        unfold PySem.passOn
        refine wpAny_bind (wpAny_field he hd h1 (?_))
        rw [if_neg (show ¬ ((Value.ref T == Value.none) = true) by simp)]
        have fin : wpAny (model X.prog X.w) X.A (setFlight (.ref a) X.env.frame) (fun _ s4 => wpAny (model X.prog X.w) X.A (throw (.ref a) : Sem Flow) (SP X pins D) X.xe s4) X.xe { s' with heap := h3 } := by
          rw [hf]
          refine HandSPX.setFlight_upZ fl3 fun h4 hh4 up4 => wpAny_throw (tk _ _ (?_))
          exact ⟨a, B, sI, pins, σ', H', cls, d, rfl, J, nb, up3.trans up4, .inr (.inr (by rw [hs]; exact hh4)), na, os, ag, w⟩
        first
          | exact wpAny_bind (wpAny_pure (wpAny_bind fin))
          | exact wpAny_bind fin
      | @plain t cs ts b₀ suite pos' hds2 l2 hc hsu r ih =>
        intro h3 fl3 up3 w
        obtain ⟨b, hb1, hyes, hno⟩ := w
        obtain ⟨J3, oe3, he3, hz3, hd3, _, S3⟩ := pins_ h3 fl3 up3
        refine wpAny_handleBy_cons (codeAny_handlers_test (?_)) (by intro q; cases q)
        have lt : PySem.W.Looks (model X.prog X.w) h3 (typeOf (.ref a)) cls := fun A Q E s k q => wpAny_typeOf_ref (k _ _ he3) (by rw [hz3.1]; exact q)
        refine hc a oe3 (X.pn ++ pins) [] σ' H' _ cls b _ _ S3 lt hb1 fun h5 kp => ?_
        have fl5 := flying_up fl3 kp
        have up5 := up3.trans (Heap.UpToSlots.of_keeps kp)
        cases b with
        | true =>
          refine codeAny_handlers_suite ?_
          refine HandSPX.lands_againZ fl5 fun h4 fl4 up4 => ?_
          obtain ⟨J4, oe4, he4, hz4, hd4, S4, _⟩ := pins_ h4 fl4 (up5.trans up4)
          refine wpAny_mono ((hsu a oe4 cls d (X.pn ++ pins) hz4 hd4).run [] _ _ _ _ S4 (hyes rfl a oe4 na hz4 hd4)) (fun f s6 hsp => ?_) (fun _ _ z => z.elim)
          cases f with
          | next =>
            obtain ⟨σ6, H6, S6, q6⟩ := hsp
            exact ⟨_, _, (unS S6), q6⟩
          | brk =>
            obtain ⟨σ6, H6, S6, q6⟩ := hsp
            exact ⟨_, _, (unS S6), q6⟩
          | cont =>
            obtain ⟨σ6, H6, S6, q6⟩ := hsp
            exact ⟨_, _, (unS S6), q6⟩
          | ret u =>
            obtain ⟨v6, σ6, H6, S6, r6, q6⟩ := hsp
            exact ⟨_, _, _, (unS S6), r6, q6⟩
        | false =>
          show wpAny _ X.A (handleBy (.ref a) X.env hds2) _ _ _
          exact ih h5 fl5 up5 (hno rfl)
      | @named t cs ts b₀ suite pos' hds2 l2 i n hc hi hln hsu r ih =>
        intro h3 fl3 up3 w
        obtain ⟨b, hb1, hyes, hno⟩ := w
        obtain ⟨J3, oe3, he3, hz3, hd3, _, S3⟩ := pins_ h3 fl3 up3
        refine wpAny_handleBy_cons (codeAny_handlers_test (?_)) (by intro q; cases q)
        have lt : PySem.W.Looks (model X.prog X.w) h3 (typeOf (.ref a)) cls := fun A Q E s k q => wpAny_typeOf_ref (k _ _ he3) (by rw [hz3.1]; exact q)
        refine hc a oe3 (X.pn ++ pins) [] σ' H' _ cls b _ _ S3 lt hb1 fun h5 kp => ?_
        have fl5 := flying_up fl3 kp
        have up5 := up3.trans (Heap.UpToSlots.of_keeps kp)
        cases b with
        | true =>
          refine codeAny_handlers_suite_as ?_
          refine HandSPX.lands_againZ fl5 fun h4 fl4 up4 => ?_
          obtain ⟨J4, oe4, he4, hz4, hd4, S4, _⟩ := pins_ h4 fl4 (up5.trans up4)
          refine store_ok (X := X.suite a (X.pn ++ pins)) (v := .ref a) S4 hN hi (.inl hln) rfl (fun s5 S5 => ?_) (.inr hln)
          refine wpAny_mono ((hsu a oe4 cls d (X.pn ++ pins) hz4 hd4).run [] s5 _ _ _ S5 (hyes rfl a oe4 na hz4 hd4)) (fun f s6 hsp => ?_) (fun _ _ z => z.elim)
          have end_ : ∀ {σ6 : L2.St} {H6 : Hp} {Q : Shared → Prop}, Inv (X.suite a (X.pn ++ pins)) [] σ6 H6 s6 → (∀ s7, Inv X pins (σ6.set i none) H6 s7 → Q s7) →
              wpAny (model X.prog X.w) X.A (do bindName X.env n .none; unbindBehindTheSuite X.env n pos') (fun _ s7 => Q s7) X.xe s6 := by
            intro σ6 H6 Q S6 hq
            exact gone_ok ((unS S6)) hN hi hln hq
          cases f with
          | next =>
            obtain ⟨σ6, H6, S6, q6⟩ := hsp
            exact end_ S6 fun s7 J7 => ⟨_, _, J7, q6⟩
          | brk =>
            obtain ⟨σ6, H6, S6, q6⟩ := hsp
            exact end_ S6 fun s7 J7 => ⟨_, _, J7, q6⟩
          | cont =>
            obtain ⟨σ6, H6, S6, q6⟩ := hsp
            exact end_ S6 fun s7 J7 => ⟨_, _, J7, q6⟩
          | ret u =>
            obtain ⟨v6, σ6, H6, S6, r6, q6⟩ := hsp
            exact end_ S6 fun s7 J7 => ⟨_, _, _, J7, r6, q6⟩
        | false =>
          show wpAny _ X.A (handleBy (.ref a) X.env hds2) _ _ _
          exact ih h5 fl5 up5 (hno rfl)
    exact go hh h0 fl0 (up.trans up0) wish
  · cases f with
    | next =>
      obtain ⟨σ', H', J', q⟩ := hsp
      exact wpAny_execs_nil ⟨σ', H', J'.ofTry ok, q⟩
    | brk =>
      obtain ⟨σ', H', J', q⟩ := hsp
      exact ⟨σ', H', J'.ofTry ok, q⟩
    | cont =>
      obtain ⟨σ', H', J', q⟩ := hsp
      exact ⟨σ', H', J'.ofTry ok, q⟩
    | ret u =>
      obtain ⟨v, σ', H', J', r, q⟩ := hsp
      exact ⟨v, σ', H', J'.ofTry ok, r, q⟩
theorem takesF : Takes X (fun _ _ _ _ => False) := fun _ _ z => by
  obtain ⟨_, _, _, _, _, _, _, _, _, _, _, _, _, _, _, _, y⟩ := z
  exact y.elim
end
end PW
set_option Elab.async false
set_option linter.all false
set_option maxRecDepth 100000
set_option maxHeartbeats 4000000
/-! an own error's __init__(self, par): super().__init__(par); self.par = par -/
namespace PWX
open PySem PySem.Spec PySem.Calls PyProof.Rows PySem.W Builtin Builtin.ObjectAttr
/-- a built-in class of errors -/
structure BaseE (B newId initId : String) (tail : List Value) : Prop where
  fb : ExcBaseFacts B newId initId tail
  kx : KxsFacts B initId
  pass : ∀ self, refuseLoop self "__setattr__" tail = pure ()
  obj : tail.contains (.type "object") = true
theorem baseVE : BaseE "ValueError" "ValueError.__new__" "ValueError.__init__" [.type "ValueError", .type "Exception", .type "BaseException", .type "object"] :=
  ⟨PySem.F.excBase_ValueError, kxs_ValueError, PySem.F.store_ValueError.passes, by decide +kernel⟩
theorem baseLE : BaseE "LookupError" "LookupError.__new__" "LookupError.__init__" [.type "LookupError", .type "Exception", .type "BaseException", .type "object"] :=
  ⟨PySem.F.excBase_LookupError, kxs_LookupError, PySem.F.store_LookupError.passes, by decide +kernel⟩
theorem baseAE : BaseE "ArithmeticError" "ArithmeticError.__new__" "ArithmeticError.__init__" [.type "ArithmeticError", .type "Exception", .type "BaseException", .type "object"] :=
  ⟨PySem.F.excBase_ArithmeticError, kxs_ArithmeticError, PySem.F.store_ArithmeticError.passes, by decide +kernel⟩
theorem own_contains (tail : List Value) (T : String) : ∀ rs : List Addr, (rs.map Value.ref ++ tail).contains (.type T) = tail.contains (.type T)
  | [] => rfl
  | r :: rs => by
    rw [List.map_cons, List.cons_append, List.contains_cons, own_contains tail T rs]
    rfl
theorem own_pass {tail : List Value} (self : Value) (h : refuseLoop self "__setattr__" tail = pure ()) : ∀ rs : List Addr, refuseLoop self "__setattr__" (rs.map Value.ref ++ tail) = pure ()
  | [] => h
  | r :: rs => by
    rw [List.map_cons, List.cons_append]
    rw [refuseLoop_ref]
    exact own_pass self h rs
abbrev eArgs (par : Str) (p1 p2 : Pos) : Arguments := { posonlyargs := [], args := [{ arg := "self", annotation := none, pos := p1 }, { arg := par, annotation := none, pos := p2 }], vararg := none, kwonlyargs := [], kw_defaults := [], kwarg := none, defaults := [] }
abbrev eBody (par : Str) (q1 q2 q3 q4 q5 q6 q7 q8 q9 q10 : Pos) : List Stmt := [.Expr (.Call (.Attribute (.Call (.Name "super" q1) [] [] q2) "__init__" q3) [.Name par q4] [] q5) q6, .Assign [.Attribute (.Name "self" q7) par q8] (.Name par q9) q10]
abbrev eScope (par : Str) : Scope := { kind := .function, names := [("self", .local), (par, .local), ("__class__", .free), ("super", .globalImplicit)], isGenerator := false, isCoroutine := false, more := [] }
section
variable {prog : Program} {w : World} {A : Around} {E : Value → Shared → Prop} {h : Heap} {g : Array GenState} {d : Drawn} {t : Nat} {os : OsState}
variable {B newId initId : String} {tail : List Value}
/-- self.name = v, an error without a dict as yet -/
theorem er_osa {R : Result → Shared → Prop} {K : Frag} {name : Str} {tk : Tok} {v : Value} {x C : Addr} {fv : Array Value} {cd : ClassData} {rs : List Addr} (be : BaseE B newId initId tail)
    (inH : K.In h) (hx : h.get? x = some { cls := .ref C, data := .fields fv }) (hcd : clsIn K C = some cd) (hm : cd.mro = rs.map Value.ref ++ tail) (hne : rs ≠ []) (hh : cd.hasDict = true) (ha : findIn K (.ref C) name = some none)
    (hq : ∀ h' tk' dx, (∀ b o, b ≠ x → h.get? b = some o → h'.get? b = some o) → h.objs.size ≤ dx → dx ≠ x → h'.get? x = some { cls := .ref C, dict := some dx, data := .fields fv } →
      h'.Ns1 dx (fun y => if y = name then some v else none) → R (.ok (.ret .none)) ⟨h', g, d, tk', os⟩) :
    codeAny (model prog w) A (.call (.builtin "object.__setattr__") ⟨[.ref x, .str name tk, v], []⟩) R ⟨h, g, d, t, os⟩ := by
  have at_ : InstAt h x { cls := .ref C, data := .fields fv } C none := ⟨hx, rfl, rfl, trivial⟩
  have so := PySem.F.store_object
  have emp : cd.mro.isEmpty = false := by
    rw [hm]
    cases rs with
    | nil => exact absurd rfl hne
    | cons r rs => rfl
  have hob : cd.mro.contains (.type "object") = true := by rw [hm]; exact (own_contains tail "object" rs).trans be.obj
  have hxs : x ≠ h.objs.size := Nat.ne_of_lt (Heap.lt_size hx)
  have sub : Looks (model prog w) h (isInstance (.ref x) (.type "object")) true := at_.type.andThen (looks_mroIn inH (by unfold mroIn; rw [hcd, Option.bind_some, if_neg (by rw [emp]; decide), hob]))
  refine codeAny_call_builtin so.slot.plain so.entry (@check_slot (model prog w) _ _ ⟨h, g, d, t, os⟩ "object.__setattr__" "object" "__setattr__" (.ref x) [.str name tk, v] [] _ so.kind so.split sub (so.args (.ref x) (.str name tk) v) ?_)
  have hmr : Looks (model prog w) h (mroOf (.ref C)) cd.mro := (looks_clsIn inH hcd).andThen .now
  have nt : Looks (model prog w) h (storeTaker? none) none := .now
  have hcls : Looks (model prog w) h (classData C) cd := looks_clsIn inH hcd
  rw [osa_eq, refuse_eq]
  refine wpAny_bind (wpAny_bind (at_.type.at (wpAny_bind (hmr.at (?_)))))
  rw [show refuseLoop (.ref x) "__setattr__" cd.mro = pure () by rw [hm]; exact own_pass _ (be.pass _) rs]
  refine wpAny_pure (wpAny_bind (at_.type.at (wpAny_bind ((looks_findIn inH ha).at (wpAny_bind (nt.at (?_)))))))
  show wpAny (model prog w) _ (storeInOwnDict (.ref x) (.ref C) (.str name tk) name v false) _ _ _
  obtain ⟨nm, bs, mro, ns, qn, hd, sn, sb, ab, col, del⟩ := cd
  dsimp only at hh
  subst hh
  unfold storeInOwnDict
  unfold ownDictForStores
  repeat (first | with_reducible refine HandSPX.store_in_new ?_ ?_ | with_reducible refine wpAny_loadPart_at hx ?_ | with_reducible refine hcls.at ?_ | wp_step)
  · exact ⟨_, #[], _, (Heap.get?_update_ne _ _ _ _ hxs.symm).trans (Heap.get?_push_at rfl rfl), rfl, fun e he => absurd he (by simp), fun _ => rfl⟩
  · intro h' tk' hn' hs
    have hx1 : (h.push { cls := .type "dict", data := .dict #[] }).get? x = some { cls := .ref C, data := .fields fv } := Heap.get?_push_of_some _ hx
    refine hq h' tk' h.objs.size (fun b o hb ho => ?_) (Nat.le_refl _) hxs.symm ?_ hn'
    · exact (hs.2 b (Nat.ne_of_lt (Heap.lt_size ho))).trans ((Heap.get?_update_ne _ _ _ _ hb).trans (Heap.get?_push_of_some _ ho))
    · exact (hs.2 x hxs).trans (Heap.get?_update_self _ hx1 rfl)
end
end PWX
set_option Elab.async false
set_option linter.all false
set_option maxRecDepth 100000
set_option maxHeartbeats 4000000
namespace PWX
open PySem PySem.Spec PySem.Calls PyProof.Rows PySem.W Builtin Builtin.ObjectAttr
/-- what a law's program and its written part say of a class C of errors, whose __init__ at fI takes par -/
structure ErrF (prog : Program) (K : Frag) (C fI : Addr) (par : Str) (B newId initId : String) (tail : List Value) : Prop where
  be : BaseE B newId initId tail
  cls : ∃ nm q N bs rs sn sub ab col dd k0 k1 k2 k3 k5, K.lookup C = some (excClassObj nm q C N bs (List.map Value.ref rs ++ tail) true sn sub ab col dd k0 k1 k2 k3 k5 newId)
  sa : findIn K (.ref C) "__setattr__" = some (some (.builtin "object.__setattr__"))
  no : findIn K (.ref C) par = some none
  iC : findIn K (.ref C) "__init__" = some (some (.ref fI))
  tI : typeIn K (.ref fI) = some (.type "function")
  ini : ∃ qual p1 p2 q1 q2 q3 q4 q5 q6 q7 q8 q9 q10 doc pm an cda ct cc oc od osl, K.lookup fI = some ⟨oc, od, .func (ksFn "__init__" qual (eArgs par p1 p2) (eBody par q1 q2 q3 q4 q5 q6 q7 q8 q9 q10) (eScope par) .none .none doc pm an (.ref cda) ct cc), osl⟩ ∧ codeIn K (.ref cda) qual = true ∧
    (∃ pl : Sem Bool, ∀ env : Env, PySem.eval (.Call (.Attribute (.Call (.Name "super" q1) [] [] q2) "__init__" q3) [.Name par q4] [] q5) env = (do
      let ov ← attributeBase (.Call (.Name "super" q1) [] [] q2) "__init__" env (PySem.eval (.Call (.Name "super" q1) [] [] q2) env)
      standAt q3.atName
      let (f, first) ← holding [ov] (getMethod ov "__init__" pl)
      callWith q5 f first (backTo q5 (starEach [.Name par q4] env)) [])) ∧
    (∃ ccl cdd vs ccs file tf, K.lookup cda = some ⟨ccl, cdd, .fields vs, ccs⟩ ∧ vs[2]? = some (.str file tf) ∧ ((prog.main.file : Str) == file) = true) ∧ (∃ cl cld csl, K.lookup cc = some ⟨cl, cld, .cell (some (.ref C)), csl⟩)
  al : ks_superIn K C C "__init__" = some (some (.builtin initId))
  sB : subIn K (.ref C) (.type B) = some true
  sC : mroIn K C (.ref C) = some true
  nan : nsIn K cStatics "thirdparty.any" = some none
  top : (prog.main.scope.names.lookup ("super" : Str)).isSome = false
  pr : par = "given" ∨ par = "index" ∨ par = "number"
section
variable {prog : Program} {w : World} {A : Around} {E : Value → Shared → Prop} {h : Heap} {g : Array GenState} {d : Drawn} {t : Nat} {os : OsState}
variable {B newId initId : String} {tail : List Value}
/-- the bound __init__ of the built-in class called -/
theorem er_mw {nm q : Str} {C N u e t0 : Addr} {bs bm : List Value} {hdct : Bool} {sn : List Str} {sub : List Value} {ab : Bool} {col : Option Bool} {dd : Option Addr} {k0 k1 k2 k3 k5 : Option Value} {rest : List Value} {Q : Value → Shared → Prop} (be : BaseE B newId initId tail)
    (hC : h.get? C = some (excClassObj nm q C N bs bm hdct sn sub ab col dd k0 k1 k2 k3 k5 newId)) (he : h.get? e = some (excRec (.ref C) t0 none .none .none (.bool false))) (hu : h.get? u = some (kxs_mw initId e)) (hz : rest.length ≤ sizeLine)
    (hq : ∀ h', (∀ b o, b ≠ e → h.get? b = some o → h'.get? b = some o) → h'.get? e = some (excRec (.ref C) h.objs.size none .none .none (.bool false)) → Q .none ⟨h', g, d, t, os⟩) :
    wpAny (model prog w) A (call (.ref u) rest) Q E ⟨h, g, d, t, os⟩ := by
  refine wpAny_call (codeAny_of_tree (?_))
  show wpAny (model prog w) A.in1 (callAny (.ref u) ⟨rest, []⟩) _ _ _
  simp only [callAny]
  refine wpAny_bind (wpAny_load hu (?_))
  simp only [kxs_mw, show (Value.type "method-wrapper" == Value.type "method" || Value.type "method-wrapper" == Value.type "builtin_function_or_method" || Value.type "method-wrapper" == Value.type "method-wrapper") = true from by decide, if_true]
  refine KFB.if_so (by decide) (?_)
  refine wpAny_bind (check_bound_init be.fb.toExcCallFacts hC he rfl (?_))
  refine wpAny_bind (wpAny_pure (wpAny_pure (?_)))
  refine ⟨plainId_quiet be.fb.init.plain _, codeAny_builtin be.fb.initEntry (?_)⟩
  exact exc_init_tree (cls := .ref C) (t0 := t0) (dv := none) (c2 := .none) (c3 := .none) (b4 := .bool false) he hz fun h' k ke kt => hq h' k ke
end
section
variable {prog : Program} {w : World} {A : Around} {K : Frag} {C fI : Addr} {par : Str} {B newId initId : String} {tail : List Value}
theorem ns_keep {h h' : Heap} {L : Addr} {m : Str → Option Value} (n : h.Ns L m) (k : ∀ o, h.get? L = some o → h'.get? L = some o) : h'.Ns L m := by
  obtain ⟨o, es, ep, ho, r⟩ := n
  exact ⟨o, es, ep, k o ho, r⟩
theorem er_init (ef : ErrF prog K C fI par B newId initId tail) {mg mb : Str → Option Value} {R : Result → Shared → Prop} {s : Shared} {a t0 : Addr} {v : Value} (hd : A.depth < recursionLimit) (inH : K.In s.heap) (lim : s.heap.NoLimit)
    (hg : s.heap.Ns mainGlobals mg) (mgS : mg "super" = none) (hb : s.heap.Ns builtinsNs mb) (hbb : ∀ x : Str, x ≠ "__name__" → mb x = bootBuiltins x) (hx : s.heap.get? a = some (excRec (.ref C) t0 none .none .none (.bool false))) (na : K.lookup a = none)
    (hR : ∀ h' t1 dx tk, (∀ b o, b ≠ a → s.heap.get? b = some o → h'.get? b = some o) → s.heap.objs.size ≤ dx → dx ≠ a → h'.get? a = some (excRec (.ref C) t1 (some dx) .none .none (.bool false)) → h'.Ns1 dx (fun y => if y = par then some v else none) →
      R (.ok (.ret .none)) { s with heap := h', toks := tk }) :
    codeAny (model prog w) A (.call (.ref fI) ⟨[.ref a, v], []⟩) R s := by
  obtain ⟨nm, qn, N, bs, rs, sn, sub, ab, col, dd, k0, k1, k2, k3, k5, hC⟩ := ef.cls
  obtain ⟨qual, p1, p2, q1, q2, q3, q4, q5, q6, q7, q8, q9, q10, doc, pm, an, cda, ct, cc, oc, od, osl, lkF, hcd, ⟨pl, hev⟩, ⟨ccl, cdd, vs, ccs, file, tf, lkC, hv2, hfile⟩, cl, cld, csl, lkK⟩ := ef.ini
  have hcl : clsIn K C = some { name := nm, bases := bs, mro := .ref C :: (List.map Value.ref rs ++ tail), ns := N, qualname := qn, hasDict := true, slotNames := sn, subclasses := sub, abstract := ab, collection := col, hasDel := false } := by unfold clsIn; rw [hC] <;> rfl
  have hal : alongIn K "__init__" (List.map Value.ref rs ++ tail) = some (some (.builtin initId)) := by
    have z := ef.al
    unfold ks_superIn at z
    rw [hcl] at z
    simpa [List.dropWhile_cons] using z
  refine ks_codeAny_call_defAt (fd := ksFn "__init__" qual (eArgs par p1 p2) (eBody par q1 q2 q3 q4 q5 q6 q7 q8 q9 q10) (eScope par) .none .none doc pm an (.ref cda) ct cc) (body := eBody par q1 q2 q3 q4 q5 q6 q7 q8 q9 q10) (binds := [("self", .ref a), (par, v)])
    hd (inH _ _ lkF) rfl lim (codeRec_of inH hcd) rfl (by rcases ef.pr with rfl | rfl | rfl <;> exact BindsTo.of_eq (by first | rfl | kernel_rfl)) (by intro y hy; have hy : y ∈ (eScope par).names := hy; simp only [List.mem_cons, List.not_mem_nil, or_false] at hy; rcases hy with rfl | rfl | rfl | rfl <;> exact (fun z => nomatch z)) (by rcases ef.pr with rfl | rfl | rfl <;> (intro y hy; simp only [List.mem_cons, List.not_mem_nil, or_false] at hy; rcases hy with rfl | rfl <;> rfl)) (fun h1 hns hk1 => ?_)
  obtain ⟨hh, gs, dr, tk, os⟩ := s
  have hxs : a < hh.objs.size := Heap.lt_size hx
  have nL : hh.objs.size ≠ a := Nat.ne_of_gt hxs
  obtain ⟨oL, _, _, hoL, _⟩ := id hns
  have nam : ∀ {h' : Heap} {A : Around} {E : Value → Shared → Prop} {Q : Value → Shared → Prop} {x : Str} {u : Value} {tk' : Nat}, (∀ o, h1.get? hh.objs.size = some o → h'.get? hh.objs.size = some o) → x = "self" ∧ u = .ref a ∨ x = par ∧ u = v → Q u ⟨h', gs, dr, tk', os⟩ →
      wpAny (model prog w) A (loadName (ksEnv qual (eScope par) hh.objs.size fI (.ref cda) cc) x) Q E ⟨h', gs, dr, tk', os⟩ := by
    intro h' A E Q x u tk' k hxu hq
    refine wpAny_loadName_local rfl ?_ (ns_keep hns k) ?_ hq
    · rcases ef.pr with rfl | rfl | rfl <;> rcases hxu with ⟨rfl, rfl⟩ | ⟨rfl, rfl⟩ <;> rfl
    · rcases ef.pr with rfl | rfl | rfl <;> rcases hxu with ⟨rfl, rfl⟩ | ⟨rfl, rfl⟩ <;> rfl
  have hsz : hh.objs.size < h1.objs.size := Heap.lt_size hoL
  have inH1 : K.In h1 := inH.keeps hk1
  have fin : ∀ {A : Around} {E : Value → Shared → Prop} {Qf : Flow → Shared → Prop} {h' : Heap} {t1 : Addr} {tk' : Nat}, (∀ b o, b ≠ a → h1.get? b = some o → h'.get? b = some o) → h'.get? a = some (excRec (.ref C) t1 none .none .none (.bool false)) →
      (∀ s', R (.ok (.ret .none)) s' → Qf .next s') →
      wpAny (model prog w) A (execs [.Assign [.Attribute (.Name "self" q7) par q8] (.Name par q9) q10] (ksEnv qual (eScope par) hh.objs.size fI (.ref cda) cc)) Qf E ⟨h', gs, dr, tk', os⟩ := by
    intro A E Qf h' t1 tk' k ha hQ
    have kL : ∀ o, h1.get? hh.objs.size = some o → h'.get? hh.objs.size = some o := fun o e => k _ o nL e
    refine wpAny_execs_cons (plainObj_wpAny_Assign_Attribute (wpAny_Name (nam kL (.inr ⟨rfl, rfl⟩) (wpAny_Name (nam kL (.inl ⟨rfl, rfl⟩) ?_) (by decide))) (by rcases ef.pr with rfl | rfl | rfl <;> decide)) (by rcases ef.pr with rfl | rfl | rfl <;> rfl))
    have inH' : K.In h' := fun b o e => k b o (fun z => by rw [z, na] at e; cases e) (inH1 b o e)
    refine set_plain (C := C) (s := ⟨h', gs, dr, tk', os⟩) inH' (ox := excRec (.ref C) t1 none .none .none (.bool false)) (od := none) ⟨ha, rfl, rfl, trivial⟩ ef.sa ?_
    refine er_osa ef.be inH' ha hcl (rs := C :: rs) rfl (by simp) rfl ef.no (fun h2 tk2 dx k2 dn dne hx2 hn => ?_)
    have e3 := kL _ hoL
    refine wpAny_execs_nil (hQ _ (hR h2 t1 dx tk2 (fun b o hb e => k2 b o hb (k b o hb (hk1 b o e))) ?_ dne hx2 hn))
    have z1 : hh.objs.size < h'.objs.size := Heap.lt_size e3
    have z2 : h'.objs.size ≤ dx := dn
    show hh.objs.size ≤ dx
    omega
  have kd : (ksEnv qual (eScope par) hh.objs.size fI (.ref cda) cc).kindOf "super" = some .globalImplicit ∧ (ksEnv qual (eScope par) hh.objs.size fI (.ref cda) cc).kindOf "__class__" = some .free ∧ (ksEnv qual (eScope par) hh.objs.size fI (.ref cda) cc).kindOf "self" = some .local := by
    rcases ef.pr with rfl | rfl | rfl <;> exact ⟨rfl, rfl, rfl⟩
  refine ks_wpAt_execs_cons (ks_wpAt_Expr_any (ks_wpAt_MethodCall (pl := pl) ?_ (hev _)) ?hi ?hs)
  case hi => rfl
  case hs => rcases ef.pr with rfl | rfl | rfl <;> rfl
  refine ks_wpAt_super_base (f := fI) (cc := cda) (ar := { arg := "self", annotation := none, pos := p1 }) kd.1 kd.2.1 (by decide) rfl (inH1 _ _ lkF) rfl rfl rfl (inH1 _ _ lkC) rfl hv2 hfile ef.top ?_
  refine ks_loadName_global rfl kd.1 (loadGlobal_builtin (ns_keep hg fun o e => hk1 _ _ e) mgS (ns_keep hb fun o e => hk1 _ _ e) ((hbb _ (by decide +kernel)).trans (by first | boot_by_name | rfl | kernel_rfl)) ⟨rfl, ?_⟩)
  refine wpAny_loadName_free rfl kd.2.1 rfl ⟨_, inH1 _ _ lkK, rfl⟩ ?_
  refine nam (fun _ e => e) (.inl ⟨rfl, rfl⟩) ?_
  refine ks_wpAny_isType_cls (inH1 _ _ hC) rfl ⟨rfl, ?_⟩
  have hx1 := hk1 _ _ hx
  refine ks_wpAny_call_super (x := a) (C := C) (inH1 _ _ hC) rfl hx1 rfl (fun c e => nomatch e) (looks_mroIn inH1 ef.sC) (fun h2 eso k2 => ?_)
  have inH2 : K.In h2 := inH1.keeps k2
  have hx2 := k2 _ _ hx1
  have at2 : InstAt h2 a (excRec (.ref C) t0 none .none .none (.bool false)) C none := ⟨hx2, rfl, rfl, trivial⟩
  refine kxs_getMethod ef.be.kx (C := C) (D := C) (x := a) eso (looks_opaque inH2 ef.nan) (l₀ := .ref C :: (List.map Value.ref rs ++ tail)) ((looks_clsIn inH2 hcl).andThen .now) rfl inH2 (by simpa [List.dropWhile_cons] using hal) (at2.type.andThen (looks_subIn inH2 ef.sB)) (ks_ne inH2 at2 hcl) (by decide) ?_
  have k3 : ∀ b o, h2.get? b = some o → (h2.push (kxs_mw initId a)).get? b = some o := fun b o e => Heap.get?_push_of_some _ e
  have eu : (h2.push (kxs_mw initId a)).get? h2.objs.size = some (kxs_mw initId a) := Heap.get?_push_at rfl rfl
  refine kxs_callWith (i := initId) (x := a) rfl (evalArgs_plain (spliced_cons (wpAny_Name (nam (fun o e => k3 _ _ (k2 _ _ e)) (.inr ⟨rfl, rfl⟩) (spliced_nil ⟨eu, ?_⟩)) (by rcases ef.pr with rfl | rfl | rfl <;> decide))))
  refine er_mw ef.be (inH2.keeps k3 _ _ hC) (k3 _ _ hx2) eu (by show 1 ≤ sizeLine; rw [sizeLine_eq]; omega) fun h4 k4 e4 => ?_
  exact wpAt_of_wpAny (fin (fun b o hb e => k4 b o hb (k3 _ _ (k2 _ _ e))) e4 fun s' z => z)
end
end PWX
set_option Elab.async false
set_option linter.all false
set_option maxRecDepth 100000
set_option maxHeartbeats 4000000
namespace PWX
open PySem PySem.Spec PySem.Calls PyProof.Rows PySem.W Builtin Builtin.ObjectAttr
/-! ### which errors there are (by number): 13, 14, 15 the bases -/
inductive Rt where | v | l | a
  deriving DecidableEq
def Rt.B : Rt → String | .v => "ValueError" | .l => "LookupError" | .a => "ArithmeticError"
def Rt.newId : Rt → String | .v => "ValueError.__new__" | .l => "LookupError.__new__" | .a => "ArithmeticError.__new__"
def Rt.initId : Rt → String | .v => "ValueError.__init__" | .l => "LookupError.__init__" | .a => "ArithmeticError.__init__"
def Rt.tail : Rt → List Value
  | .v => [.type "ValueError", .type "Exception", .type "BaseException", .type "object"]
  | .l => [.type "LookupError", .type "Exception", .type "BaseException", .type "object"]
  | .a => [.type "ArithmeticError", .type "Exception", .type "BaseException", .type "object"]
theorem Rt.be (r : Rt) : BaseE r.B r.newId r.initId r.tail := by
  cases r
  · exact baseVE
  · exact baseLE
  · exact baseAE
def rootE (C : Nat) : Rt := if C = 13 ∨ (16 ≤ C ∧ C ≤ 33) then .v else if C = 14 ∨ C = 34 ∨ C = 35 then .l else .a
def subE (C : Nat) : String ⊕ Nat → Bool
  | .inr D => decide (C = D) || (decide (D = 13) && decide (16 ≤ C) && decide (C ≤ 33)) || (decide (D = 14) && (decide (C = 34) || decide (C = 35))) || (decide (D = 15) && decide (36 ≤ C))
  | .inl b => decide (b = (rootE C).B)
def tailB (tail : List Value) : List Value → Bool
  | .ref _ :: r => tailB tail r
  | l => l == tail
theorem tailB_ok {tail : List Value} : ∀ {l : List Value}, tailB tail l = true → ∃ rs : List Addr, l = rs.map Value.ref ++ tail := by
  intro l
  induction l with
  | nil => intro h; exact ⟨[], by simpa [tailB] using h⟩
  | cons v r ih =>
    intro h
    cases v with
    | ref c =>
      obtain ⟨rs, e⟩ := ih h
      exact ⟨c :: rs, by rw [e]; rfl⟩
    | _ => exact ⟨[], by simpa [tailB] using h⟩
abbrev fileC : Str := "/claim/cut.py"
def initB (K : Frag) (C fI : Addr) : Bool := match K.lookup fI with
  | some ⟨_, _, .func fd, _⟩ => (match fd.closure, fd.code, fd.defaults, fd.kwdefaults with
    | [(nm, cc)], .ref cda, .none, .none => decide (nm = ("__class__" : Str)) && ((match K.lookup cc with
        | some ⟨_, _, .cell (some (.ref D)), _⟩ => decide (D = C)
        | _ => false) && (match K.lookup cda with
        | some ⟨_, _, .fields vs, _⟩ => (match (vs[2]? : Option Value) with
          | some (Value.str file _) => decide (file = fileC)
          | _ => false)
        | _ => false))
    | _, _, _, _ => false)
  | _ => false
def clsB (r : Rt) (K : Frag) (C : Addr) : Bool := match K.lookup C with
  | some ⟨.type "type", _, .cls cd, sl⟩ => (match cd.mro, sl.toList with
    | .ref C' :: bm, [_, _, _, _, some (.builtin n), _] => decide (C' = C) && (decide (n = r.newId) && (cd.hasDict && (!cd.hasDel && tailB r.tail bm)))
    | _, _ => false)
  | _ => false
/-- what a class that is raised must say -/
def riB (r : Rt) (x par : Str) (K : Frag) : Bool := clsB r K (He.ga K x) && (decide (findIn K (.ref (He.ga K x)) "__setattr__" = some (some (.builtin "object.__setattr__"))) && (decide (findIn K (.ref (He.ga K x)) par = some none) &&
  (decide (findIn K (.ref (He.ga K x)) "__init__" = some (some (.ref (He.ma K (He.ga K x) "__init__")))) && (decide (typeIn K (.ref (He.ma K (He.ga K x) "__init__")) = some (.type "function")) && (initB K (He.ga K x) (He.ma K (He.ga K x) "__init__") &&
  (decide (ks_superIn K (He.ga K x) (He.ga K x) "__init__" = some (some (.builtin r.initId))) && (decide (subIn K (.ref (He.ga K x)) (.type r.B) = some true) && (decide (mroIn K (He.ga K x) (.ref (He.ga K x)) = some true) && decide (nsIn K cStatics "thirdparty.any" = some none)))))))))
theorem clsB_ok {r : Rt} {K : Frag} {C : Addr} (h : clsB r K C = true) : ∃ nm q N bs rs sn sub ab col dd k0 k1 k2 k3 k5, K.lookup C = some (excClassObj nm q C N bs (List.map Value.ref rs ++ r.tail) true sn sub ab col dd k0 k1 k2 k3 k5 r.newId) := by
  unfold clsB at h
  split at h
  · rename_i dd cd sl ho
    split at h
    · rename_i C' bm k0 k1 k2 k3 n k5 hm hs
      simp only [Bool.and_eq_true, decide_eq_true_eq, Bool.not_eq_true'] at h
      obtain ⟨rfl, rfl, hd1, hdel, ht⟩ := h
      obtain ⟨nm, bs, mro, ns, qn, hd, sn, sub, ab, col, del⟩ := cd
      dsimp only at hm hdel hd1
      subst hm hdel hd1
      obtain ⟨rs, rfl⟩ := tailB_ok ht
      have hsl : sl = #[k0, k1, k2, k3, some (.builtin r.newId), k5] := by
        obtain ⟨l⟩ := sl
        simp only at hs
        rw [hs]
      subst hsl
      exact ⟨nm, qn, ns, bs, rs, sn, sub, ab, col, dd, k0, k1, k2, k3, k5, ho⟩
    · cases h
  · cases h
theorem ErrF.of {prog : Program} {K : Frag} {r : Rt} {x par qual : Str} {p1 p2 q1 q2 q3 q4 q5 q6 q7 q8 q9 q10 : Pos} {params : Arguments} {body : List Stmt} {scope : Scope} (h : riB r x par K = true)
    (lk : ∃ oc od osl cl dV kV doc pm an cdv ct, K.lookup (He.ma K (He.ga K x) "__init__") = some ⟨oc, od, .func (fnX "__init__" qual params body scope cl dV kV doc pm an cdv ct), osl⟩ ∧ codeIn K cdv qual = true)
    (hp : params = eArgs par p1 p2) (hb : body = eBody par q1 q2 q3 q4 q5 q6 q7 q8 q9 q10) (hs : scope = eScope par) (pr : par = "given" ∨ par = "index" ∨ par = "number")
    (hev : ∃ pl : Sem Bool, ∀ env : Env, PySem.eval (.Call (.Attribute (.Call (.Name "super" q1) [] [] q2) "__init__" q3) [.Name par q4] [] q5) env = (do
      let ov ← attributeBase (.Call (.Name "super" q1) [] [] q2) "__init__" env (PySem.eval (.Call (.Name "super" q1) [] [] q2) env)
      standAt q3.atName
      let (f, first) ← holding [ov] (getMethod ov "__init__" pl)
      callWith q5 f first (backTo q5 (starEach [.Name par q4] env)) []))
    (hfile : prog.main.file = fileC) (htop : (prog.main.scope.names.lookup ("super" : Str)).isSome = false) :
    ErrF prog K (He.ga K x) (He.ma K (He.ga K x) "__init__") par r.B r.newId r.initId r.tail := by
  subst hp hb hs
  unfold riB at h
  simp only [Bool.and_eq_true, decide_eq_true_eq] at h
  obtain ⟨h1, h2, h3, h4, h5, h6, h7, h8, h9, h10⟩ := h
  obtain ⟨oc, od, osl, cl, dV, kV, doc, pm, an, cdv, ct, l1, l2⟩ := lk
  unfold initB at h6
  rw [l1] at h6
  simp only at h6
  split at h6
  · rename_i nm cc cda
    simp only [Bool.and_eq_true, decide_eq_true_eq] at h6
    obtain ⟨rfl, g2, g3⟩ := h6
    refine ⟨r.be, clsB_ok h1, h2, h3, h4, h5, ⟨qual, p1, p2, q1, q2, q3, q4, q5, q6, q7, q8, q9, q10, doc, pm, an, cda, ct, cc, oc, od, osl, l1, l2, hev, ?_, ?_⟩, h7, h8, h9, h10, htop, pr⟩
    · split at g3
      · rename_i o1 o2 vs o3 e
        split at g3
        · rename_i file tf e5
          have := of_decide_eq_true g3
          exact ⟨o1, o2, vs, o3, file, tf, e, e5, by rw [hfile, this]; exact beq_self_eq_true _⟩
        · cases g3
      · cases g3
    · split at g2
      · rename_i o1 o2 D o3 e
        have := of_decide_eq_true g2
        subst this
        exact ⟨o1, o2, o3, e⟩
      · cases g2
  · cases h6
end PWX
namespace PW
open PySem PySem.Spec PyProof.Rows L2
/-! ### C(e), an own class of errors called -/
def tMkE (C : Addr) (par : Str) (te : TE) : L2.St → Hp → XK → Prop := fun σ H Q => te σ H fun v H1 => ∀ d, H1 d = none → Q (.ref C) (some d) (upd H1 d (.xd [(par, v)]))
theorem pmk_er {X : Cx} {x par : Str} {C fI : Addr} {B newId initId : String} {tail : List Value} {k : Nat} {e : Expr} {te : TE} {p pos : Pos} (ef : PWX.ErrF X.prog X.K C fI par B newId initId tail) (exC : PySem.W.subIn X.K (.ref C) (.type "BaseException") = some true) (tyC : PySem.W.typeIn X.K (.ref C) = some (.type "type")) (kC : PySem.W.keepIn X.K (.ref C) = true)
    (hr : Room (k + 1) X.A) (hg : Gl X x) (hm : X.mg x = some (.ref C)) (mgS : X.mg "super" = none) (he : PE X e te)
    (hdb : (x == ("__debug__" : Str)) = false := by decide) (hs : starEach [e] X.env = (false, eval e X.env) :: starEach [] X.env := by rfl) (hpl : (backTo pos (starEach [] X.env)).any (·.1) = false := by rfl) : PMk X (.Call (.Name x p) [e] [] pos) (tMkE C par te) := by
  intro pins s σ H Q I h
  obtain ⟨nm, q, N, bs, rs, sn, sub, ab, col, dd, k0, k1, k2, k3, k5, hC⟩ := ef.cls
  refine wpAny_Call_Name_kw (ld_glob I hg hm ?_ hdb)
  refine PySem.W.callWith_K (h₀ := X.base) I.ok.mod.kin kC ?_ hs hpl
  rw [hs]
  show wpAny _ _ (spliced ((false, eval e X.env) :: backTo pos (starEach [] X.env))) _ _ s
  refine Calls.spliced_cons (thn (he.run pins s σ H _ I h) fun u s1 ⟨v, H1, I1, r1, q1⟩ => ?_)
  refine Calls.spliced_nil ⟨I1.kIn, ?_⟩
  show wpAny _ _ (call (.ref C) [u]) _ _ _
  obtain ⟨hp, g, dr, tk, os⟩ := s1
  have kk : ∀ b o, hp.get? b = some o → ((hp.push (PySem.W.kdv_tup [u])).push (PySem.HandSPX.excO C hp.objs.size)).get? b = some o := fun b o e => Heap.get?_push_of_some _ (Heap.get?_push_of_some _ e)
  have hget : ((hp.push (PySem.W.kdv_tup [u])).push (PySem.HandSPX.excO C hp.objs.size)).get? (hp.objs.size + 1) = some (PySem.HandSPX.excO C hp.objs.size) := by heap_get
  obtain ⟨mb, hb, hbb⟩ := I1.mod.blt
  have kb : ∀ b o, X.base.get? b = some o → ((hp.push (PySem.W.kdv_tup [u])).push (PySem.HandSPX.excO C hp.objs.size)).get? b = some o := fun b o e => kk b o (I1.bk b o e)
  have nK : X.K.lookup (hp.objs.size + 1) = none := by
    cases e : X.K.lookup (hp.objs.size + 1) with
    | none => rfl
    | some o =>
      have := Heap.lt_size (I1.kIn _ _ e)
      exact absurd this (by show ¬ (hp.objs.size + 1 < hp.objs.size); omega)
  refine wpAny_call (PySem.HandSPX.call_own ef.be.fb (fun Y => PWX.own_contains tail Y rs) (I1.kIn _ _ hC) (PySem.W.looks_findIn I1.kIn ef.iC) (fun self => PySem.W.bind_fn I1.kIn self ef.tI) (by show 1 ≤ sizeLine; rw [sizeLine_eq]; omega)
    (PWX.er_init (mg := X.mg) (mb := mb) ef ?_ (fun b o e => kb b o (I1.ok.mod.kin b o e)) (I1.nolimit.keeps kk) (PWX.ns_keep I1.mod.glob fun o e => kb _ _ e) mgS (PWX.ns_keep hb fun o e => kb _ _ e) hbb hget nK fun h' t1 dx tk' k dn dne hx hns => ?_))
  · rw [make_depth]
    have := hr.dp
    omega
  · have hsz : ((hp.push (PySem.W.kdv_tup [u])).push (PySem.HandSPX.excO C hp.objs.size)).objs.size = hp.objs.size + 2 := by simp [Heap.push]
    have dn2 : hp.objs.size + 2 ≤ dx := by
      have z := dn
      simp only at z
      omega
    have nd1 : H1 dx = none := I1.hok.fresh (by show hp.objs.size ≤ dx; omega)
    have na1 : H1 (hp.objs.size + 1) = none := I1.hok.fresh (by show hp.objs.size ≤ hp.objs.size + 1; omega)
    obtain ⟨G, g1, g2⟩ := restrict h' fun b => decide (b ≠ hp.objs.size + 1)
    have gk : ∀ b, b ≠ hp.objs.size + 1 → G.get? b = h'.get? b := fun b hb => g1 b (decide_eq_true hb)
    have ge : G.get? (hp.objs.size + 1) = none := g2 _ (by simp)
    have J : Inv X pins σ (upd H1 dx (.xd [(par, v)])) ⟨G, g, dr, tk', os⟩ := I1.laid (t' := tk') (a := dx) (o := .xd [(par, v)]) (h' := G) (fun b o e => by
      have hne : b ≠ hp.objs.size + 1 := fun z => by
        rw [z] at e
        exact absurd (Heap.lt_size e) (by show ¬ (hp.objs.size + 1 < hp.objs.size); omega)
      rw [gk b hne]
      exact k b o hne (kk b o e)) (by show hp.objs.size ≤ dx; omega) ⟨_, hns.at fun o y => (gk dx dne).trans y, fun f => by
        by_cases hf : f = par
        · subst hf
          simpa [List.lookup_cons, RelO] using r1
        · have : (f == par) = false := by simpa using hf
          simp [List.lookup_cons, this, RelO, hf]⟩
    refine ⟨rfl, hp.objs.size + 1, _, _, ⟨G, g, dr, tk', os⟩, _, .ref C, some dx, rfl, J, fun b o z => ?_, ge, hx, ⟨rfl, rfl⟩, rfl, rfl, ?_, rfl, I1.bare, raises_own exC tyC, q1 dx nd1⟩
    · by_cases hba : b = hp.objs.size + 1
      · rw [hba, ge] at z; cases z
      · exact (gk b hba).symm.trans z
    · rw [upd_ne (Ne.symm dne)]; exact na1
end PW
set_option Elab.async false
set_option linter.all false
set_option maxRecDepth 100000
set_option maxHeartbeats 4000000
namespace PU
open PySem PySem.Spec PyProof.Rows L2 PWX
/-!  a law's names: all classes by number (CN), those that are there (PR) -/
/-- the code object of the def x, and its table -/
def tcode (K : PySem.W.Frag) (x : Str) : Addr := ((PySem.W.tabIn K x).getD (0, 0)).1
def ttab (K : PySem.W.Frag) (x : Str) : Addr := ((PySem.W.tabIn K x).getD (0, 0)).2
def lamNm (x : Str) : Str := x ++ ".<locals>." ++ "<lambda>"
def mkG (CN AN : List Str) (PR : List Nat) (K : PySem.W.Frag) (LN : List Str := []) (XN : List (Nat × Option Str) := []) : Glo := { K := K, err := fun C => (XN.map (·.1)).contains C = true, cls := fun i => He.ga K (CN.getD i Str.empty), an := anOf AN, has := fun C => PR.contains C = true, T := LN.map fun x => (ttab K x, lamNm x) }
def builtB (K : PySem.W.Frag) (P : Addr) : Bool := (He.Fa.glo ("__builtins__" : Str)).ok K && (match K.lookup (He.ga K ("__builtins__" : Str)) with
    | some ⟨.type "module", some d, .plain, _⟩ => decide (d = builtinsNs)
    | _ => false) && decide (He.ga K ("__builtins__" : Str) ≠ builtinsNs) && decide (He.ga K ("__builtins__" : Str) ≠ mainGlobals) && decide (He.ga K ("__builtins__" : Str) ≠ P)
/-- what a def with lambdas asks of the head -/
def tabOkB (x : Str) (K : PySem.W.Frag) : Bool := decide (PySem.W.tabIn K x = some (tcode K x, ttab K x)) && (PySem.W.codeHdIn K (tcode K x) (ttab K x) && (decide (mainGlobals ≠ ttab K x) && (builtB K (ttab K x) && (He.Fa.glo x).ok K)))
section
variable {x : Str} {K : PySem.W.Frag} {base : Heap} {mg : Str → Option Value}
theorem tabOkB_tab (h : tabOkB x K = true) (X : K.In base) (N : base.Ns mainGlobals mg) : LamX.TabB base mg (tcode K x) (ttab K x) := by
  obtain ⟨_, h⟩ := Bool.and_eq_true_iff.mp h
  obtain ⟨h2, h⟩ := Bool.and_eq_true_iff.mp h
  obtain ⟨h3, h⟩ := Bool.and_eq_true_iff.mp h
  obtain ⟨h4, _⟩ := Bool.and_eq_true_iff.mp h
  refine ⟨PySem.W.codeHd_of_K X h2, ?_, of_decide_eq_true h3⟩
  unfold builtB at h4
  simp only [Bool.and_eq_true, decide_eq_true_eq] at h4
  obtain ⟨⟨⟨⟨g1, g2⟩, g3⟩, g4⟩, g5⟩ := h4
  split at g2
  · rename_i d sl e
    have := of_decide_eq_true g2
    subst this
    exact ⟨_, _, He.glo_ok X N g1, g3, g4, g5, X _ _ e, rfl, rfl, rfl⟩
  · cases g2
theorem tabOkB_code (h : tabOkB x K = true) (X : K.In base) (N : base.Ns mainGlobals mg) {oc : Value} {od : Option Addr} {fd : FuncData} {osl : Array (Option Value)} (lk : K.lookup (He.ga K x) = some ⟨oc, od, .func fd, osl⟩) : fd.code = .ref (tcode K x) := by
  obtain ⟨h1, h⟩ := Bool.and_eq_true_iff.mp h
  obtain ⟨_, h⟩ := Bool.and_eq_true_iff.mp h
  obtain ⟨_, h⟩ := Bool.and_eq_true_iff.mp h
  obtain ⟨_, h5⟩ := Bool.and_eq_true_iff.mp h
  exact PySem.W.law_code X N (of_decide_eq_true h1) (He.glo_ok X N h5) (X _ _ lk) rfl
end
def okF (FT : List (Nat × Nat)) (f : Nat) (C : Nat) : Bool := FT.contains (C, f)
/-- the fields that instances have -/
def exF (CN AN : List Str) (PR : List Nat) (FT : List (Nat × Nat)) (K : PySem.W.Frag) : Bool := FT.all fun q => !PR.contains q.1 || ((He.Fa.cls (CN.getD q.1 Str.empty)).ok K && (He.Fa.noat (CN.getD q.1 Str.empty) (anOf AN q.2)).ok K)
theorem exF_ok {CN AN LN : List Str} {XN : List (Nat × Option Str)} {PR : List Nat} {FT : List (Nat × Nat)} {K : PySem.W.Frag} (h : exF CN AN PR FT K = true) (f : Nat) : ∀ C, okF FT f C = true → (mkG CN AN PR K LN XN).has C → L2.Cls (mkG CN AN PR K LN XN).K ((mkG CN AN PR K LN XN).cls C) ∧ NoAttr (mkG CN AN PR K LN XN).K ((mkG CN AN PR K LN XN).cls C) ((mkG CN AN PR K LN XN).an f) := by
  intro C hc hp
  have hm : (C, f) ∈ FT := List.contains_iff_mem.mp hc
  have h0 := List.all_eq_true.mp h _ hm
  have hp' : PR.contains C = true := hp
  simp only [hp', Bool.not_true, Bool.false_or] at h0
  obtain ⟨h1, h2⟩ := Bool.and_eq_true_iff.mp h0
  exact ⟨He.cls_ok h1, He.noat_ok h2⟩
def TYS : List String := ["NoneType", "bool", "int", "str", "list", "tuple", "dict"]
def isT0 : Ty → Ty → Option Bool
  | .inl a, .inl b => if TYS.contains a && TYS.contains b then kitB a b else none
  | .inl a, .inr _ => if TYS.contains a then some false else none
  | .inr _, .inl b => if TYS.contains b then some false else none
  | .inr C, .inr D => some (decide (C = D))
def exI (CN : List Str) (PR : List Nat) (K : PySem.W.Frag) : Bool := PR.all fun i => insB (CN.getD i Str.empty) K &&
  (TYS.all fun a => decide (PySem.W.kitOne K (.type a) (.ref (He.ga K (CN.getD i Str.empty))) = some false) && decide (PySem.W.kitOne K (.ref (He.ga K (CN.getD i Str.empty))) (.type a) = some false)) &&
  (PR.all fun j => decide (PySem.W.kitOne K (.ref (He.ga K (CN.getD i Str.empty))) (.ref (He.ga K (CN.getD j Str.empty))) = some (decide (i = j))))
theorem exI_ok {CN AN LN : List Str} {XN : List (Nat × Option Str)} {PR : List Nat} {K : PySem.W.Frag} (h : exI CN PR K = true) : IsiOk (mkG CN AN PR K LN XN) isT0 := by
  have at_ : ∀ i, PR.contains i = true → insB (CN.getD i Str.empty) K = true ∧ (∀ a, TYS.contains a = true → PySem.W.kitOne K (.type a) (.ref (He.ga K (CN.getD i Str.empty))) = some false ∧ PySem.W.kitOne K (.ref (He.ga K (CN.getD i Str.empty))) (.type a) = some false) ∧
      ∀ j, PR.contains j = true → PySem.W.kitOne K (.ref (He.ga K (CN.getD i Str.empty))) (.ref (He.ga K (CN.getD j Str.empty))) = some (decide (i = j)) := by
    intro i hi
    have h1 := List.all_eq_true.mp h i (List.contains_iff_mem.mp hi)
    simp only [Bool.and_eq_true] at h1
    obtain ⟨⟨h1, h2⟩, h3⟩ := h1
    refine ⟨h1, fun a ha => ?_, fun j hj => of_decide_eq_true (List.all_eq_true.mp h3 j (List.contains_iff_mem.mp hj))⟩
    have h4 := List.all_eq_true.mp h2 a (List.contains_iff_mem.mp ha)
    obtain ⟨h5, h6⟩ := Bool.and_eq_true_iff.mp h4
    exact ⟨of_decide_eq_true h5, of_decide_eq_true h6⟩
  refine ⟨fun C hC => insB_ok (G := mkG CN AN PR K LN XN) (at_ C hC).1 rfl, fun t u r ht hu e => ?_⟩
  cases t with
  | inl a =>
    cases u with
    | inl b =>
      simp only [isT0] at e
      split at e
      · exact kit_ty e
      · cases e
    | inr C =>
      simp only [isT0] at e
      split at e
      · rename_i hc
        cases e
        exact ((at_ C hu).2.1 a hc).1
      · cases e
  | inr C =>
    cases u with
    | inl b =>
      simp only [isT0] at e
      split at e
      · rename_i hc
        cases e
        exact ((at_ C ht).2.1 b hc).2
      · cases e
    | inr D =>
      simp only [isT0, Option.some.injEq] at e
      subst e
      exact (at_ C ht).2.2 D hu
/-- the module's names -/
def exG (GN FN : List Str) (IN : List (Str × Int)) (K : PySem.W.Frag) : Bool := (GN.all fun x => (He.Fa.glo x).ok K) && ((FN.all fun x => (He.Fa.free x).ok K) && IN.all fun q => (He.Fa.int q.1 q.2).ok K)
section
variable {GN FN : List Str} {IN : List (Str × Int)} {K : PySem.W.Frag} {h : Heap} {mg : Str → Option Value}
theorem gl_ok (X : K.In h) (N : h.Ns mainGlobals mg) (c : exG GN FN IN K = true) (i : Nat) {x : Str} (e : GN[i]? = some x) : mg x = some (.ref (He.ga K x)) := by
  obtain ⟨h1, _⟩ := Bool.and_eq_true_iff.mp c
  exact He.glo_ok X N (List.all_eq_true.mp h1 x (List.mem_of_getElem? e))
theorem fr_ok (X : K.In h) (N : h.Ns mainGlobals mg) (c : exG GN FN IN K = true) (i : Nat) {x : Str} (e : FN[i]? = some x) : mg x = none := by
  obtain ⟨_, h1⟩ := Bool.and_eq_true_iff.mp c
  obtain ⟨h1, _⟩ := Bool.and_eq_true_iff.mp h1
  exact He.free_ok X N (List.all_eq_true.mp h1 x (List.mem_of_getElem? e))
theorem in_ok (X : K.In h) (N : h.Ns mainGlobals mg) (c : exG GN FN IN K = true) (i : Nat) {x : Str} {z : Int} (e : IN[i]? = some (x, z)) : ∃ t, mg x = some (.int z t) := by
  obtain ⟨_, h1⟩ := Bool.and_eq_true_iff.mp c
  obtain ⟨_, h1⟩ := Bool.and_eq_true_iff.mp h1
  exact He.int_ok X N (List.all_eq_true.mp h1 (x, z) (List.mem_of_getElem? e))
end
/-- what the head tells, seen from a base heap -/
structure Bas (ex : PySem.W.Frag → Bool) (fn : List He5.DefA) (K : PySem.W.Frag) (mg : Str → Option Value) (base : Heap) : Prop where
  inK : K.In base
  ns : base.Ns mainGlobals mg
  c : SaysP ex fn K
/-! ### the classes of errors -/
def xcB (K : PySem.W.Frag) (C : Addr) : Bool := decide (PySem.W.findIn K (.ref C) "__getattribute__" = some (some (.builtin "BaseException.__getattribute__"))) && (decide (PySem.W.findIn K (.ref C) "__getattr__" = some none) && (decide (PySem.W.subIn K (.ref C) (.type "BaseException") = some true) && (PySem.W.hasDictIn K C &&
  (decide (PySem.W.findIn K (.ref C) "__class__" = some (some (.builtin "object.__class__"))) && (decide (PySem.W.specialIn K (.builtin "object.__class__") "__get__" = some (some (.builtin "getset_descriptor.__get__"))) && (decide (PySem.W.takesIn K (.builtin "object.__class__") = some true) && (decide (PySem.W.mroIn K C (.type "object") = some true) &&
  (PySem.W.keepIn K (.ref C) && (decide (PySem.W.typeIn K (.ref C) = some (.type "type")) && ([("given" : Str), ("index" : Str), ("number" : Str)].all fun f => decide (PySem.W.findIn K (.ref C) f = some none)))))))))))
structure XcOk (K : PySem.W.Frag) (C : Addr) : Prop where
  exc : L2.ExcC K C
  kp : PySem.W.keepIn K (.ref C) = true
  ty : PySem.W.typeIn K (.ref C) = some (.type "type")
  nf : ∀ f ∈ [("given" : Str), ("index" : Str), ("number" : Str)], PySem.W.findIn K (.ref C) f = some none
theorem xcB_ok {K : PySem.W.Frag} {C : Addr} (h : xcB K C = true) : XcOk K C := by
  unfold xcB at h
  simp only [Bool.and_eq_true, decide_eq_true_eq] at h
  obtain ⟨h1, h2, h3, h4, h5, h6, h7, h8, h9, h10, h11⟩ := h
  exact ⟨⟨h1, h2, h3, h4, h5, h6, h7, h8⟩, h9, h10, fun f hf => of_decide_eq_true (List.all_eq_true.mp h11 f hf)⟩
abbrev BTy : List String := ["ValueError", "LookupError", "ArithmeticError"]
def xB (CN : List Str) (XN : List (Nat × Option Str)) (K : PySem.W.Frag) : Bool := XN.all fun p => xcB K (He.ga K (CN.getD p.1 Str.empty)) &&
  ((XN.all fun q => decide (PySem.W.kitOne K (.ref (He.ga K (CN.getD p.1 Str.empty))) (.ref (He.ga K (CN.getD q.1 Str.empty))) = some (subE p.1 (.inr q.1))) && decide (PySem.W.exmOne K (.ref (He.ga K (CN.getD p.1 Str.empty))) (.ref (He.ga K (CN.getD q.1 Str.empty))) = some (subE p.1 (.inr q.1)))) &&
  ((BTy.all fun b => decide (PySem.W.kitOne K (.ref (He.ga K (CN.getD p.1 Str.empty))) (.type b) = some (subE p.1 (.inl b)))) && (match p.2 with
    | some par => riB (rootE p.1) (CN.getD p.1 Str.empty) par K
    | none => PySem.W.excIn K (He.ga K (CN.getD p.1 Str.empty)) (rootE p.1).tail (rootE p.1).newId)))
/-- a def, walked -/
def OkD (P : Program) (w : World) (mg : Str → Option Value) (base : Heap) (G : Glo) (d : He5.DefA) (ps : List Str) (k : Nat) (f : Fn) : Prop :=
  ∃ fd, FunD G.K d.name d.qual d.params d.body d.scope (d.dvs G.K) (d.kws G.K) (d.at_ G.K) fd ∧ FnG P w G.K mg base (L2.CX P w) k (d.at_ G.K) fd ps (spF G ps.length f)
/-- all that a law of ours asks of the head -/
def exAll (CN AN : List Str) (PR : List Nat) (FT : List (Nat × Nat)) (GN FN : List Str) (IN : List (Str × Int)) (TN : List (Str × List He.Dv)) (MN PN : List (Str × Str)) (KN : List Str) (LN : List Str) (XN : List (Nat × Option Str)) (K : PySem.W.Frag) : Bool :=
  exF CN AN PR FT K && (exI CN PR K && (exG GN FN IN K && ((TN.all fun q => He.tupB K q.1 q.2) && ((MN.all fun q => (He.Fa.meth q.1 q.2).ok K) && ((PN.all fun q => propB q.1 q.2 K) && ((KN.all fun x => (He.Fa.mkr x).ok K) && ((LN.all fun x => tabOkB x K) && xB CN XN K)))))))
abbrev BasA (CN AN : List Str) (PR : List Nat) (FT : List (Nat × Nat)) (GN FN : List Str) (IN : List (Str × Int)) (TN : List (Str × List He.Dv)) (MN PN : List (Str × Str)) (KN LN : List Str) (XN : List (Nat × Option Str)) (fn : List He5.DefA) (K : PySem.W.Frag) (mg : Str → Option Value) (base : Heap) : Prop :=
  Bas (fun K => exAll CN AN PR FT GN FN IN TN MN PN KN LN XN K) fn K mg base
section
variable {CN AN : List Str} {PR : List Nat} {FT : List (Nat × Nat)} {GN FN : List Str} {IN : List (Str × Int)} {TN : List (Str × List He.Dv)} {MN PN : List (Str × Str)} {KN LN : List Str} {XN : List (Nat × Option Str)} {fn : List He5.DefA} {K : PySem.W.Frag} {mg : Str → Option Value} {base : Heap}
theorem Bas.all (B : BasA CN AN PR FT GN FN IN TN MN PN KN LN XN fn K mg base) : exF CN AN PR FT K = true ∧ exI CN PR K = true ∧ exG GN FN IN K = true ∧ (TN.all fun q => He.tupB K q.1 q.2) = true ∧ (MN.all fun q => (He.Fa.meth q.1 q.2).ok K) = true ∧ (PN.all fun q => propB q.1 q.2 K) = true ∧ (KN.all fun x => (He.Fa.mkr x).ok K) = true ∧ (LN.all fun x => tabOkB x K) = true ∧ xB CN XN K = true := by
  have h := B.c.chk
  unfold exAll at h
  simpa only [Bool.and_eq_true] using h
theorem Bas.gl (B : BasA CN AN PR FT GN FN IN TN MN PN KN LN XN fn K mg base) (i : Nat) {x : Str} (e : GN[i]? = some x := by rfl) : mg x = some (.ref (He.ga K x)) := gl_ok B.inK B.ns B.all.2.2.1 i e
theorem Bas.fr (B : BasA CN AN PR FT GN FN IN TN MN PN KN LN XN fn K mg base) (i : Nat) {x : Str} (e : FN[i]? = some x := by rfl) : mg x = none := fr_ok B.inK B.ns B.all.2.2.1 i e
theorem Bas.int (B : BasA CN AN PR FT GN FN IN TN MN PN KN LN XN fn K mg base) (i : Nat) {x : Str} {z : Int} (e : IN[i]? = some (x, z) := by rfl) : ∃ t, mg x = some (.int z t) := in_ok B.inK B.ns B.all.2.2.1 i e
theorem Bas.inj (_B : BasA CN AN PR FT GN FN IN TN MN PN KN LN XN fn K mg base) (h : anOk AN = true) : AnInj (mkG CN AN PR K LN XN) := an_inj h
theorem Bas.hcl (B : BasA CN AN PR FT GN FN IN TN MN PN KN LN XN fn K mg base) (f : Nat) : ∀ C, okF FT f C = true → (mkG CN AN PR K LN XN).has C → L2.Cls (mkG CN AN PR K LN XN).K ((mkG CN AN PR K LN XN).cls C) ∧ NoAttr (mkG CN AN PR K LN XN).K ((mkG CN AN PR K LN XN).cls C) ((mkG CN AN PR K LN XN).an f) := exF_ok B.all.1 f
theorem Bas.isi (B : BasA CN AN PR FT GN FN IN TN MN PN KN LN XN fn K mg base) : IsiOk (mkG CN AN PR K LN XN) isT0 := exI_ok B.all.2.1
theorem Bas.cls (B : BasA CN AN PR FT GN FN IN TN MN PN KN LN XN fn K mg base) (i : Nat) (h : PR.contains i = true := by decide) : L2.Cls (mkG CN AN PR K LN XN).K ((mkG CN AN PR K LN XN).cls i) := (B.isi.1 i h).cl
theorem Bas.hs (_B : BasA CN AN PR FT GN FN IN TN MN PN KN LN XN fn K mg base) (i : Nat) (h : PR.contains i = true := by decide) : (mkG CN AN PR K LN XN).has i := h
theorem Bas.ins (B : BasA CN AN PR FT GN FN IN TN MN PN KN LN XN fn K mg base) (i : Nat) (h : PR.contains i = true := by decide) : InsC (mkG CN AN PR K LN XN) i := B.isi.1 i h
theorem Bas.tup (B : BasA CN AN PR FT GN FN IN TN MN PN KN LN XN fn K mg base) (i : Nat) {x : Str} {vs : List He.Dv} (e : TN[i]? = some (x, vs) := by rfl) : SqT K (fun _ => none) (He.ga K x) (vs.map (He.Dv.v K)) := He.tupB_ok (List.all_eq_true.mp B.all.2.2.2.1 (x, vs) (List.mem_of_getElem? e)) _
theorem Bas.meth (B : BasA CN AN PR FT GN FN IN TN MN PN KN LN XN fn K mg base) (i : Nat) {x m : Str} (e : MN[i]? = some (x, m) := by rfl) : Meth K (He.ga K x) m (He.ma K (He.ga K x) m) := He.meth_ok (List.all_eq_true.mp B.all.2.2.2.2.1 (x, m) (List.mem_of_getElem? e))
theorem Bas.prop (B : BasA CN AN PR FT GN FN IN TN MN PN KN LN XN fn K mg base) (i : Nat) {x m : Str} (e : PN[i]? = some (x, m) := by rfl) : PropOf K (He.ga K x) m (propAt x m K) (getterAt x m K) := propB_ok (List.all_eq_true.mp B.all.2.2.2.2.2.1 (x, m) (List.mem_of_getElem? e))
theorem Bas.mkr (B : BasA CN AN PR FT GN FN IN TN MN PN KN LN XN fn K mg base) (i : Nat) {x : Str} (e : KN[i]? = some x := by rfl) : Mk K (He.ga K x) (He.ma K (He.ga K x) "__init__") := He.mkr_ok (List.all_eq_true.mp B.all.2.2.2.2.2.2.1 x (List.mem_of_getElem? e))
theorem Bas.tabB (B : BasA CN AN PR FT GN FN IN TN MN PN KN LN XN fn K mg base) (i : Nat) {x : Str} (e : LN[i]? = some x := by rfl) : LamX.TabB base mg (tcode K x) (ttab K x) := tabOkB_tab (List.all_eq_true.mp B.all.2.2.2.2.2.2.2.1 x (List.mem_of_getElem? e)) B.inK B.ns
theorem Bas.code (B : BasA CN AN PR FT GN FN IN TN MN PN KN LN XN fn K mg base) (i : Nat) {x qual : Str} {params : Arguments} {body : List Stmt} {scope : Scope} {dvs : List V} {kws : List (Str × V)} {fd : FuncData} (F : FunD K x qual params body scope dvs kws (He.ga K x) fd) (e : LN[i]? = some x := by rfl) : fd.code = .ref (tcode K x) := by
  obtain ⟨_, _, _, _, _, _, _, _, _, _, _, lk, _⟩ := F.ex
  exact tabOkB_code (List.all_eq_true.mp B.all.2.2.2.2.2.2.2.1 x (List.mem_of_getElem? e)) B.inK B.ns lk
theorem Bas.xe (_B : BasA CN AN PR FT GN FN IN TN MN PN KN LN XN fn K mg base) (i : Nat) {C : Nat} {o : Option Str} (e : XN[i]? = some (C, o) := by rfl) : (mkG CN AN PR K LN XN).err C := by
  show (XN.map (·.1)).contains C = true
  exact List.contains_iff_mem.mpr (List.mem_map.mpr ⟨_, List.mem_of_getElem? e, rfl⟩)
theorem Bas.xn (B : BasA CN AN PR FT GN FN IN TN MN PN KN LN XN fn K mg base) {C : Nat} (h : (mkG CN AN PR K LN XN).err C) : ∃ o, (C, o) ∈ XN := by
  obtain ⟨⟨c, o⟩, h1, h2⟩ := List.mem_map.mp (List.contains_iff_mem.mp (show (XN.map (·.1)).contains C = true from h))
  exact ⟨o, h2 ▸ h1⟩
theorem Bas.xc (B : BasA CN AN PR FT GN FN IN TN MN PN KN LN XN fn K mg base) {C : Nat} (h : (mkG CN AN PR K LN XN).err C) : XcOk K ((mkG CN AN PR K LN XN).cls C) := by
  obtain ⟨o, ho⟩ := Bas.xn B h
  have z := List.all_eq_true.mp (show xB CN XN K = true from B.all.2.2.2.2.2.2.2.2) _ ho
  simp only [Bool.and_eq_true] at z
  exact xcB_ok z.1
theorem Bas.xkit (B : BasA CN AN PR FT GN FN IN TN MN PN KN LN XN fn K mg base) {C D : Nat} (h : (mkG CN AN PR K LN XN).err C) (h2 : (mkG CN AN PR K LN XN).err D) : PySem.W.kitOne K (.ref ((mkG CN AN PR K LN XN).cls C)) (.ref ((mkG CN AN PR K LN XN).cls D)) = some (subE C (.inr D)) ∧ PySem.W.exmOne K (.ref ((mkG CN AN PR K LN XN).cls C)) (.ref ((mkG CN AN PR K LN XN).cls D)) = some (subE C (.inr D)) := by
  obtain ⟨o, ho⟩ := Bas.xn B h
  have z := List.all_eq_true.mp (show xB CN XN K = true from B.all.2.2.2.2.2.2.2.2) _ ho
  simp only [Bool.and_eq_true] at z
  obtain ⟨o2, ho2⟩ := Bas.xn B h2
  have y := List.all_eq_true.mp z.2.1 _ ho2
  simp only [Bool.and_eq_true, decide_eq_true_eq] at y
  exact y
theorem Bas.xkitT (B : BasA CN AN PR FT GN FN IN TN MN PN KN LN XN fn K mg base) {C : Nat} {b : String} (h : (mkG CN AN PR K LN XN).err C) (hb : b ∈ BTy) : PySem.W.kitOne K (.ref ((mkG CN AN PR K LN XN).cls C)) (.type b) = some (subE C (.inl b)) := by
  obtain ⟨o, ho⟩ := Bas.xn B h
  have z := List.all_eq_true.mp (show xB CN XN K = true from B.all.2.2.2.2.2.2.2.2) _ ho
  simp only [Bool.and_eq_true] at z
  have y := List.all_eq_true.mp z.2.2.1 b hb
  exact of_decide_eq_true y
theorem Bas.x0 (B : BasA CN AN PR FT GN FN IN TN MN PN KN LN XN fn K mg base) (i : Nat) {C : Nat} (e : XN[i]? = some (C, none) := by rfl) : PySem.W.excIn K ((mkG CN AN PR K LN XN).cls C) (rootE C).tail (rootE C).newId = true := by
  have z := List.all_eq_true.mp (show xB CN XN K = true from B.all.2.2.2.2.2.2.2.2) _ (List.mem_of_getElem? e)
  simp only [Bool.and_eq_true] at z
  exact z.2.2.2
theorem Bas.ri (B : BasA CN AN PR FT GN FN IN TN MN PN KN LN XN fn K mg base) (i : Nat) {C : Nat} {par : Str} (e : XN[i]? = some (C, some par) := by rfl) : riB (rootE C) (CN.getD C Str.empty) par K = true := by
  have z := List.all_eq_true.mp (show xB CN XN K = true from B.all.2.2.2.2.2.2.2.2) _ (List.mem_of_getElem? e)
  simp only [Bool.and_eq_true] at z
  exact z.2.2.2
theorem mkG_T (i : Nat) {x : Str} (e : LN[i]? = some x := by rfl) : (ttab K x, lamNm x) ∈ (mkG CN AN PR K LN XN).T := List.mem_map.mpr ⟨x, List.mem_of_getElem? e, rfl⟩
theorem mkG_u {x : Str} {P : Addr} : ∀ p ∈ (mkG CN AN PR K [x] XN).T, p.1 = P → p.2 = lamNm x := fun p hp _ => by
  have h : p = (ttab K x, lamNm x) := by simpa [mkG] using hp
  rw [h]
end
theorem FunD.uniq {K : PySem.W.Frag} {x qual x' qual' : Str} {params params' : Arguments} {body body' : List Stmt} {scope scope' : Scope} {dvs dvs' : List V} {kws kws' : List (Str × V)} {f : Addr} {fd fd' : FuncData} (F : FunD K x qual params body scope dvs kws f fd) (F' : FunD K x' qual' params' body' scope' dvs' kws' f fd') : fd = fd' := by
  obtain ⟨_, _, _, _, _, _, _, _, _, _, _, l1, _⟩ := F.ex
  obtain ⟨_, _, _, _, _, _, _, _, _, _, _, l2, _⟩ := F'.ex
  rw [l1] at l2
  cases l2
  rfl
def clsBody : Stmt → List Stmt
  | .ClassDef _ _ _ body _ _ _ _ _ _ _ => body
  | _ => []
end PU
set_option Elab.async false
set_option linter.all false
set_option maxRecDepth 100000
set_option maxHeartbeats 4000000
namespace PU
open PySem PySem.Spec PyProof.Rows L2
/-! ### methods with keywords, new instances with keywords -/
section
variable {G : Glo} {X : Cx} {CX : CXT} {k n m l : Nat} {f : Addr} {fd : FuncData} {ps ks : List Str} {sp : Sp} {fs : Fn} {x mn : Str} {p pos apos : Pos} {e o : Expr} {es : List Expr} {kws : List Keyword} {t u : L2.WX → TA} {ta tk : TA} {fa fk : Av} {te : L2.WX → TE} {to : TE} {fe : Ev} {dds : List D} {dvs : List V} {ds : List Value} {ix : List Nat} {E : L2.St → XK}
def tMethP (n m : Nat) (C : Addr) (mn : Str) (sp : Sp) (ix : List Nat) (dvs : List V) (E : L2.St → XK) (to : TE) (t tk : TA) : TE := fun σ H Q => to σ H fun x H1 => ∃ a dx fs, x = .ref a ∧ H1 a = some (.ins C dx fs) ∧ fs.lookup mn = none ∧
  t σ H1 fun vs H2 => tk σ H2 fun zs H3 => vs.length = n ∧ zs.length = m ∧ sp (permL ix (x :: (vs ++ (zs ++ dvs)))) H3 Q (E σ)
theorem pe_methP0 {C : Addr} {pl : Sem Bool} (he : PE X o to) (c : L2.Cls X.K C) (hm : Meth X.K C mn f) (F : FnG X.prog X.w X.K X.mg X.base CX k f fd ps sp) (hr : RoomG k X.A) (hb : KBP X.K fd ps 1 ks ix ds) (hd : Vals dvs ds) (hx : ∀ σ, PassesAt CX X σ (E σ)) (hkw : PK X kws tk)
    (hall : (backToKw pos (keywordEach kws X.env)).all (·.1.isSome) = true) (hks : (backToKw pos (keywordEach kws X.env)).filterMap (·.1) = ks) (hpl : ((backTo pos (starEach [] X.env)).any (·.1) || (backToKw pos (keywordEach kws X.env)).any (·.1.isNone)) = false)
    (ht : eval (.Call (.Attribute o mn apos) [] kws pos) X.env = (do
      let ov ← eval o X.env
      standAt apos.atName
      let (f, first) ← holding [ov] (getMethod ov mn pl)
      callWith pos f first (backTo pos (starEach [] X.env)) (backToKw pos (keywordEach kws X.env)))) :
    PE X (.Call (.Attribute o mn apos) [] kws pos) (tMethP 0 ks.length C mn sp ix dvs E to tNil tk) := by
  constructor
  intro pins s σ H Q I h
  refine PySem.W.methodCall_KW (pl := pl) (thn (he.run pins s σ H _ I h) ?_) ht
  intro u s1 ⟨x, H1, I1, rx, a, dx, fs, ex, ea, lk, q⟩
  subst ex
  have eu : u = Value.ref a := rx
  subst eu
  refine getmeth_ok I1 ea c hm lk ?_
  refine PySem.W.callWith_KW0 (h₀ := X.base) I1.ok.mod.kin hm.kp hall (thn (hkw.run pos pins s1 σ H1 _ I1 q) ?_) hpl
  intro ws s2 ⟨zs, H2, I2, rz, l1, l2, q2⟩
  refine ⟨I2.kIn, ?_⟩
  rw [hks]
  exact run_fnP (us := [.ref a]) (vs := [.ref a]) F hr hb hd (hx σ) I2 (.cons rfl .nil) rz rfl l2 q2
def eMethP (n m N : Nat) (C mi : Nat) (f : Fn) (ix : List Nat) (dds : List D) (fe : Ev) (fa fk : Av) : Ev := fun ρ M => (fe ρ M).bind fun x M1 => if rcvW C mi M1 x then (fa ρ M1).bind fun ws M2 => (fk ρ M2).bind fun zs M3 =>
  if ws.length = n ∧ zs.length = m ∧ (permL ix (x :: (ws ++ (zs ++ dds.map W.d)))).length = N then f (permL ix (x :: (ws ++ (zs ++ dds.map W.d)))) M3 else .stuck else .stuck
theorem sem_methP {C mi : Nat} (hinj : AnInj G) (hmi : mn = G.an mi) (hdd : Cst G dds dvs) (he : SemE G te fe) (ha : SemA G t fa) (hk : SemA G u fk) : SemE G (fun Wx => tMethP n m (G.cls C) mn (spF G k fs) ix dvs (L2.WE Wx) (te Wx) (t Wx) (u Wx)) (eMethP n m k C mi fs ix dds fe fa fk) := by
  subst hmi
  intro Wx F0 θ σ H ρ M Q sr hg
  refine he Wx F0 θ σ H ρ M _ sr (Good.seq hg fun x M1 F1 θ1 H1 _ l1 p1 hr1 hg1 v rv => ?_)
  split at hg1
  · rename_i hrc
    obtain ⟨a, dx, qs, rfl, hH, hl⟩ := rcv_ok hinj hr1 rv hrc
    refine ⟨a, dx, qs, rfl, hH, hl, ?_⟩
    refine ha Wx F1 θ1 σ H1 ρ M1 _ (sr.mono l1 p1 hr1) (Good.seq hg1 fun ws M2 F2 θ2 H2 _ l2 p2 hr2 hg2 vs rvs => ?_)
    refine hk Wx F2 θ2 σ H2 ρ M2 _ ((sr.mono l1 p1 hr1).mono l2 p2 hr2) (Good.seq hg2 fun zs M3 F3 θ3 H3 _ l3 p3 hr3 hg3 us rus => ?_)
    split at hg3
    · rename_i hc
      have rall : RepWL G F3 θ3 (x :: (ws ++ (zs ++ dds.map W.d))) (V.ref a :: (vs ++ (us ++ dvs))) := ⟨_, _, rfl, (rv.mono l2 p2).mono l3 p3, (rvs.mono l3 p3).append (rus.append (RepL.toW (hdd F3)))⟩
      have rr := RepWL.perm rall ix
      exact ⟨by rw [rvs.length]; exact hc.1, by rw [rus.length]; exact hc.2.1, by rw [rr.length]; exact hc.2.2, F3, θ3, _, M3, hr3, rr, hg3⟩
    · exact hg3.elim
  · exact hg1.elim
theorem pu_methP0 (C mi : Nat) {pl : Sem Bool} (hinj : AnInj G) (c : L2.Cls X.K (G.cls C)) (hm : Meth X.K (G.cls C) mn f) (F : FnG X.prog X.w X.K X.mg X.base (L2.CX X.prog X.w) k f fd ps (spF G n fs)) (hr : RoomG k X.A) (hb : KBP X.K fd ps 1 ks ix ds) (hd : Vals dvs ds) (hdd : Cst G dds dvs) (he : PU G X o te fe) (hkw : PUK G X kws u fk)
    (hl : ks.length = l := by rfl) (hmi : mn = G.an mi := by rfl) (hall : (backToKw pos (keywordEach kws X.env)).all (·.1.isSome) = true := by rfl) (hks : (backToKw pos (keywordEach kws X.env)).filterMap (·.1) = ks := by rfl)
    (hpl : ((backTo pos (starEach [] X.env)).any (·.1) || (backToKw pos (keywordEach kws X.env)).any (·.1.isNone)) = false := by rfl)
    (ht : eval (.Call (.Attribute o mn apos) [] kws pos) X.env = (do
      let ov ← eval o X.env
      standAt apos.atName
      let (f, first) ← holding [ov] (getMethod ov mn pl)
      callWith pos f first (backTo pos (starEach [] X.env)) (backToKw pos (keywordEach kws X.env))) := by rfl) :
    PU G X (.Call (.Attribute o mn apos) [] kws pos) (fun Wx => tMethP 0 ks.length (G.cls C) mn (spF G n fs) ix dvs (L2.WE Wx) (te Wx) tNil (u Wx)) (eMethP 0 l n C mi fs ix dds fe aNil fk) := by
  subst hl
  exact ⟨fun Wx tk => pe_methP0 (he.pe Wx tk) c hm F hr hb hd (passAt tk) (hkw.pe Wx tk) hall hks hpl ht, sem_methP hinj hmi hdd he.sem (pua_nil (X := X)).sem hkw.sem⟩
end
end PU
set_option Elab.async false
set_option linter.all false
set_option maxRecDepth 100000
set_option maxHeartbeats 4000000
namespace PU
open PySem PySem.Spec PyProof.Rows L2
/-! ### == and != by an own __eq__ -/
section
variable {prog : Program} {w : World} {A : Around} {E : Value → Shared → Prop} {s : Shared} {K : PySem.W.Frag} {x C f : Addr} {ox : Obj} {od : Option Obj} {b : Value}
theorem ifBound_ne {Q : Option Value → Shared → Prop} (X : K.In s.heap) (I : PySem.W.InstAt s.heap x ox C od) (hs : PySem.W.findIn K (.ref C) "__ne__" = some (some (.builtin "object.__ne__")))
    (h : wpAny (model prog w) A (call (.builtin "object.__ne__") [.ref x, b]) (fun v => Q (some v)) E s) : wpAny (model prog w) A (callSpecialIfBound? (.ref x) "__ne__" [b]) Q E s := by
  simp only [callSpecialIfBound?, bindSpecialIfBound?]
  refine wpAny_holding (wpAny_bind (wpAny_bind (wpAny_bind (I.type.here ((PySem.W.looks_findIn X hs).here ?_)))))
  simp only [PySem.F.cmp_object.ne.bind]
  refine wpAny_bind (wpAny_askSetting (wpAny_ite ?_))
  have fin : wpAny (model prog w) A (call (.builtin "object.__ne__") ([.ref x] ++ [b]) >>= fun v => pure (some v)) Q E s := wpAny_bind (wpAny_mono h (fun v s' z => wpAny_pure z) fun _ _ z => z)
  split
  · exact wpAny_bind (wpAny_pure (wpAny_pure fin))
  · exact wpAny_tryCatch (wpAny_bind (wpAny_pure (wpAny_pure fin)))
theorem ne_body {Q : Fin → Shared → Prop} (X : K.In s.heap) (I : PySem.W.InstAt s.heap x ox C od) (hu : A.units < cLine) (hs : PySem.W.findIn K (.ref C) "__eq__" = some (some (.ref f))) (hf : PySem.W.isFn K (.ref f) = true)
    (h : wpAny (model prog w) A (call (.ref f) [.ref x, b]) (fun v s' => ∃ r, v = .bool r ∧ Q (.done (.ret (.bool (!r)))) s') E s) : wpAny (model prog w) A (Builtin.«object.__ne__» ⟨[.ref x, b], []⟩) Q E s := by
  unfold Builtin.«object.__ne__»
  repeat (first
    | with_reducible refine wpAny_cRoomFor hu ?_
    | (refine wpAny_bind (m := callSpecialIfBound? (.ref x) (Str.ofString "__eq__") [b])
        (PySem.W.ifBound_K X I hs hf (wpAny_mono h (fun v s' hr => by
          obtain ⟨r, rfl, hq⟩ := hr
          repeat (first | exact hq | exact wpAny_pure hq | exact wpAny_truthy_bool hq | (refine wpAny_bind (m := truthy (.bool _)) (wpAny_truthy_bool ?_)) | wp_step)) fun _ _ e => e)))
    | wp_step)
theorem rich_ne {Q : Value → Shared → Prop} (X : K.In s.heap) (I : PySem.W.InstAt s.heap x ox C od) (hb : PySem.W.Looks (model prog w) s.heap (typeOf b) (.ref C)) (hu : A.units + 1 < cLine) (hm : PySem.W.mroIn K C (.type "object") = some true)
    (hn : PySem.W.findIn K (.ref C) "__ne__" = some (some (.builtin "object.__ne__"))) (hs : PySem.W.findIn K (.ref C) "__eq__" = some (some (.ref f))) (hf : PySem.W.isFn K (.ref f) = true)
    (h : wpAny (model prog w) A.in1 (call (.ref f) [.ref x, b]) (fun v s' => ∃ r, v = .bool r ∧ Q (.bool (!r)) s') E s) : wpAny (model prog w) A (richCompare .NotEq (.ref x) b) Q E s := by
  have one : wpAny (model prog w) A (tryCompare (.ref x) "__ne__" b) (fun r s' => ∃ v, r = some v ∧ Q v s') E s := by
    unfold tryCompare
    refine wpAny_bind (ifBound_ne X I hn (wpAny_call (codeAny_call_builtin PySem.F.cmp_object.ne.plain PySem.F.cmpEntry_ne
      (@PySem.W.check_slot (model prog w) _ _ s "object.__ne__" "object" "__ne__" (.ref x) [b] [] _ PySem.F.cmpKind_ne PySem.F.cmpSplit_ne (I.type.andThen (PySem.W.looks_mroIn X hm)) (PySem.F.cmpArgs_ne _ _)
        (ne_body (A := A.in1) X I hu hs hf (wpAny_mono h (fun v s' hv => ?_) fun _ _ e => e))))))
    obtain ⟨r, rfl, hq⟩ := hv
    refine ⟨r, rfl, ?_⟩
    first | exact wpAny_pure ⟨_, rfl, hq⟩ | exact wpAny_pure (wpAny_pure ⟨_, rfl, hq⟩) | exact ⟨_, rfl, hq⟩
  unfold richCompare
  simp only [oneThing_ref]
  refine wpAny_holding (wpAny_bind (wpAny_cRoomFor (Nat.lt_of_succ_lt hu) ?_))
  rw [cmpInfo_NotEq]
  refine wpAny_bind (I.type.here (wpAny_bind (hb.here ?_)))
  rw [show (Value.ref C != Value.ref C) = false from by simp]
  simp only [Bool.false_eq_true, if_false]
  refine wpAny_bind (wpAny_pure ?_)
  simp only [Bool.false_eq_true, if_false]
  refine wpAny_bind (wpAny_mono one (fun r s' z => ?_) fun _ _ e => e)
  obtain ⟨v, rfl, hq⟩ := z
  exact wpAny_pure hq
end
section
variable {X : Cx} {k : Nat} {C f : Addr} {fd : FuncData} {ps : List Str} {sp : Sp}
/-- x == y, x != y: two instances of the class at C -/
def rOwnEq (C : Addr) (sp : Sp) (neg : Bool) : R2 := fun x y H Q => ∃ a b dx dy fs gs, x = .ref a ∧ y = .ref b ∧ H a = some (.ins C dx fs) ∧ H b = some (.ins C dy gs) ∧ sp [.ref a, .ref b] H (fun v H' => ∃ r, v = .bl r ∧ Q (.bl (if neg then !r else r)) H') E0
theorem op_own_eq (F : FnG X.prog X.w X.K X.mg X.base (L2.CX X.prog X.w) k f fd ps sp) (hr : RoomG k X.A) (hs : PySem.W.findIn X.K (.ref C) "__eq__" = some (some (.ref f))) (hf : PySem.W.isFn X.K (.ref f) = true) (hb : Binds X.K fd ps []) : OpR X (compareOp .Eq) (rOwnEq C sp false) := by
  intro pins s σ H x y u v Q I rx ry h
  obtain ⟨a, b, dx, dy, fs, gs, rfl, rfl, ha, hb', hsp⟩ := h
  cases rx
  cases ry
  obtain ⟨mA, J, _⟩ := ins_get I.hok ha
  obtain ⟨mB, J', _⟩ := ins_get I.hok hb'
  obtain ⟨od, J, _⟩ := J.look
  obtain ⟨od', J', _⟩ := J'.look
  apply PySem.W.cmp_ofEq
  have hl := F.len _ _ _ _ hsp
  have bd := hb s [.ref a, .ref b] I.kIn (by simpa using hl)
  have r2 : Vals [V.ref a, V.ref b] [Value.ref a, Value.ref b] := .cons rfl (.cons rfl .nil)
  obtain ⟨m, hF⟩ := I.fr
  refine PySem.W.cmp_K (op := .Eq) (tb := .ref C) hr.rm.units0 hF I.ok.mod.kin J J'.type (by simp [PySem.W.notFirst]) hs hf (wpAny_call (codeAny_mono (F.run X.A X.stack s H ⟨[.ref a, .ref b], []⟩ [.ref a, .ref b] [.ref a, .ref b] _ _ hr I.env0 (by simpa using bd) r2 hsp) ?_))
  intro r s' hq
  cases r with
  | error e => exact passL (X := X) pins σ H s e s' I hq
  | ok fl =>
    cases fl
    case ret u =>
      obtain ⟨v, H', I', rv, t, ev, q⟩ := I.after hq
      subst ev
      have eu : u = Value.bool t := rv
      subst eu
      exact ⟨V.bl t, H', I', rfl, q⟩
    all_goals exact False.elim hq
theorem op_own_ne (F : FnG X.prog X.w X.K X.mg X.base (L2.CX X.prog X.w) k f fd ps sp) (hr : RoomG (k + 1) X.A) (hm : PySem.W.mroIn X.K C (.type "object") = some true) (hn : PySem.W.findIn X.K (.ref C) "__ne__" = some (some (.builtin "object.__ne__")))
    (hs : PySem.W.findIn X.K (.ref C) "__eq__" = some (some (.ref f))) (hf : PySem.W.isFn X.K (.ref f) = true) (hb : Binds X.K fd ps []) : OpR X (compareOp .NotEq) (rOwnEq C sp true) := by
  intro pins s σ H x y u v Q I rx ry h
  obtain ⟨a, b, dx, dy, fs, gs, rfl, rfl, ha, hb', hsp⟩ := h
  cases rx
  cases ry
  obtain ⟨mA, J, _⟩ := ins_get I.hok ha
  obtain ⟨mB, J', _⟩ := ins_get I.hok hb'
  obtain ⟨od, J, _⟩ := J.look
  obtain ⟨od', J', _⟩ := J'.look
  apply PySem.W.cmp_ofNotEq
  have hl := F.len _ _ _ _ hsp
  have bd := hb s [.ref a, .ref b] I.kIn (by simpa using hl)
  have r2 : Vals [V.ref a, V.ref b] [Value.ref a, Value.ref b] := .cons rfl (.cons rfl .nil)
  have hun := hr.rm.un
  refine rich_ne I.kIn J J'.type (by omega) hm hn hs hf (wpAny_call (codeAny_mono (F.run X.A.in1 X.stack s H ⟨[.ref a, .ref b], []⟩ [.ref a, .ref b] [.ref a, .ref b] _ _ hr.in1 I.env0.in1 (by simpa using bd) r2 hsp) ?_))
  intro r s' hq
  cases r with
  | error e => exact passL (X := X) pins σ H s e s' I hq
  | ok fl =>
    cases fl
    case ret u =>
      obtain ⟨v, H', I', rv, t, ev, q⟩ := I.after hq
      subst ev
      have eu : u = Value.bool t := rv
      subst eu
      exact ⟨t, rfl, V.bl (!t), H', I', rfl, q⟩
    all_goals exact False.elim hq
end
/-! the semantics -/
section
variable {G : Glo} {X : Cx} {k : Nat} {f : Addr} {fd : FuncData} {ps : List Str} {fs : Fn} {a b : Expr} {ta tb : L2.WX → TE} {fa fb : Ev} {pos : Pos}
def isIns (C : Nat) (M : Mem) (x : W) : Bool := match viewI M x with
  | some (C', _, _) => decide (C' = C)
  | none => false
def negB (neg : Bool) (w : W) (M1 : Mem) : R W := match w with
  | .d (.bl r) => .ok (.d (.bl (if neg then !r else r))) M1
  | _ => .stuck
def ownEqW (C : Nat) (f : Fn) (neg : Bool) : Op2 := fun M x y => if isIns C M x && isIns C M y then (noX (f [x, y] M)).bind (negB neg) else .stuck
theorem isIns_ok {F : Hp} {θ : List Addr} {H : Hp} {M : Mem} {C : Nat} {w : W} {v : V} (hr : HR G F θ H M) (r : RepW G F θ w v) (h : isIns C M w = true) : ∃ a dx fs, v = .ref a ∧ H a = some (.ins (G.cls C) dx fs) := by
  unfold isIns at h
  split at h
  · rename_i C' fl ws e
    have ec : C' = C := of_decide_eq_true h
    subst ec
    obtain ⟨a, dx, ps, _, e1, e2, _, _⟩ := viewI_ok hr r e
    exact ⟨a, dx, ps, e1, e2⟩
  · cases h
theorem ops_ownEq (C : Nat) (neg : Bool) : OpS G (rOwnEq (G.cls C) (spF G 2 fs) neg) (ownEqW C fs neg) := by
  intro F θ H M x y v u Q Wx hr rx ry hg
  unfold ownEqW at hg
  split at hg
  · rename_i hc
    obtain ⟨h1, h2⟩ := Bool.and_eq_true_iff.mp hc
    obtain ⟨a, dx, ps, rfl, ha⟩ := isIns_ok hr rx h1
    obtain ⟨b, dy, qs, rfl, hb⟩ := isIns_ok hr ry h2
    refine ⟨a, b, dx, dy, ps, qs, rfl, rfl, ha, hb, rfl, F, θ, [x, y], M, hr, ⟨_, _, rfl, rx, _, _, rfl, ry, rfl⟩, ?_⟩
    cases e : fs [x, y] M with
    | stuck => rw [e] at hg; exact hg
    | exc z N => rw [e] at hg; exact hg.elim
    | ok w N =>
      rw [e] at hg
      have hg : Good G F θ (postE G Q) Wx (negB neg w N) := hg
      unfold negB at hg
      split at hg
      · rename_i r _
        intro F' θ' H' l p hr' z rz
        simp only [RepW, Rep] at rz
        exact ⟨r, rz, hg F' θ' H' l p hr' _ (by simp only [RepW, Rep])⟩
      · exact hg.elim
  · exact hg.elim
theorem pu_oeq (C : Nat) (F : FnG X.prog X.w X.K X.mg X.base (L2.CX X.prog X.w) k f fd ps (spF G 2 fs)) (hr : RoomG k X.A) (hm : Meth X.K (G.cls C) "__eq__" f) (hb : Binds X.K fd ps []) (ha : PU G X a ta fa) (hc : PU G X b tb fb) : PU G X (.Compare a [.Eq] [b] pos) (fun Wx => tOp (rOwnEq (G.cls C) (spF G 2 fs) false) (ta Wx) (tb Wx)) (e2 (ownEqW C fs false) fa fb) :=
  pu_cmp (op_own_eq F hr hm.at_ hm.fn hb) (ops_ownEq C false) ha hc (nomark _)
theorem put_oeq (C : Nat) (F : FnG X.prog X.w X.K X.mg X.base (L2.CX X.prog X.w) k f fd ps (spF G 2 fs)) (hr : RoomG k X.A) (hm : Meth X.K (G.cls C) "__eq__" f) (hb : Binds X.K fd ps []) (ha : PU G X a ta fa) (hc : PU G X b tb fb) : PUT G X (.Compare a [.Eq] [b] pos) (fun Wx => tTest (tOp (rOwnEq (G.cls C) (spF G 2 fs) false) (ta Wx) (tb Wx))) (tB' (e2 (ownEqW C fs false) fa fb)) :=
  put_cmp (op_own_eq F hr hm.at_ hm.fn hb) (ops_ownEq C false) ha hc (nomark _)
theorem pu_one' (C : Nat) (F : FnG X.prog X.w X.K X.mg X.base (L2.CX X.prog X.w) k f fd ps (spF G 2 fs)) (hr : RoomG (k + 1) X.A) (hi : InsC G C) (hm : Meth X.K (G.cls C) "__eq__" f) (hb : Binds X.K fd ps []) (ha : PU G X a ta fa) (hc : PU G X b tb fb) (hK : X.K = G.K := by rfl) : PU G X (.Compare a [.NotEq] [b] pos) (fun Wx => tOp (rOwnEq (G.cls C) (spF G 2 fs) true) (ta Wx) (tb Wx)) (e2 (ownEqW C fs true) fa fb) :=
  pu_cmp (op_own_ne F hr (hK ▸ hi.hm) (hK ▸ hi.ne) hm.at_ hm.fn hb) (ops_ownEq C true) ha hc (nomark _)
theorem put_one' (C : Nat) (F : FnG X.prog X.w X.K X.mg X.base (L2.CX X.prog X.w) k f fd ps (spF G 2 fs)) (hr : RoomG (k + 1) X.A) (hi : InsC G C) (hm : Meth X.K (G.cls C) "__eq__" f) (hb : Binds X.K fd ps []) (ha : PU G X a ta fa) (hc : PU G X b tb fb) (hK : X.K = G.K := by rfl) : PUT G X (.Compare a [.NotEq] [b] pos) (fun Wx => tTest (tOp (rOwnEq (G.cls C) (spF G 2 fs) true) (ta Wx) (tb Wx))) (tB' (e2 (ownEqW C fs true) fa fb)) :=
  put_cmp (op_own_ne F hr (hK ▸ hi.hm) (hK ▸ hi.ne) hm.at_ hm.fn hb) (ops_ownEq C true) ha hc (nomark _)
end
end PU
set_option Elab.async false
set_option linter.all false
set_option maxRecDepth 100000
set_option maxHeartbeats 4000000
namespace PU
open PySem PySem.Spec PyProof.Rows L2
section
variable {G : Glo} {X : Cx} {pos pos' p apos cpos tpos : Pos} {a b c e o : Expr} {es : List Expr} {ta tb tc te to : L2.WX → TE} {fa fb fc fe fo : Ev} {k : Nat} {t : L2.WX → TA} {fs : Av}
/-! ### methods of built-in types -/
abbrev OpM := W → List W → Mem → R W
def MethS (G : Glo) (r : V → List V → Hp → VK → Prop) (g : OpM) : Prop := ∀ (F : Hp) (θ : List Addr) (H : Hp) (M : Mem) (x : W) (v : V) (ws : List W) (vs : List V) (Q : VK) (Wx : Value → Option Addr → Hp → Prop),
  HR G F θ H M → RepW G F θ x v → RepWL G F θ ws vs → Good G F θ (postE G Q) Wx (g x ws M) → r v vs H Q
def TyS (G : Glo) (T : String) (ty : Mem → W → Bool) : Prop := ∀ (F : Hp) (θ : List Addr) (H : Hp) (M : Mem) (x : W) (v : V), HR G F θ H M → RepW G F θ x v → ty M x = true → L2.tyV G.K T v H
def eBM (ty : Mem → W → Bool) (g : OpM) (fo : Ev) (fa : Av) : Ev := fun ρ M => (fo ρ M).bind fun x M1 => if ty M1 x then (fa ρ M1).bind fun ws M2 => g x ws M2 else .stuck
theorem sem_bm {T : String} {r : V → List V → Hp → VK → Prop} {ty : Mem → W → Bool} {g : OpM} (hT : TyS G T ty) (hs : MethS G r g) (ho : SemE G to fo) (ha : SemA G t fs) : SemE G (fun Wx => tBM G.K T r (to Wx) (t Wx)) (eBM ty g fo fs) := by
  intro Wx F θ σ H ρ M Q sr hg
  refine ho Wx F θ σ H ρ M _ sr (Good.seq hg fun x M1 F1 θ1 H1 _ l1 p1 hr1 hg1 v rv => ?_)
  split at hg1
  · rename_i hty
    refine ⟨hT F1 θ1 H1 M1 x v hr1 rv hty, ?_⟩
    refine ha Wx F1 θ1 σ H1 ρ M1 _ (sr.mono l1 p1 hr1) (Good.seq hg1 fun ws M2 F2 θ2 H2 _ l2 p2 hr2 hg2 vs rvs => ?_)
    exact hs F2 θ2 H2 M2 x v ws vs Q _ hr2 (rv.mono l2 p2) rvs hg2
  · exact hg1.elim
theorem sem_bm0 {T : String} {r : V → List V → Hp → VK → Prop} {ty : Mem → W → Bool} {g : OpM} (hT : TyS G T ty) (hs : MethS G r g) (ho : SemE G to fo) : SemE G (fun Wx => tBM0 G.K T r (to Wx)) (eBM ty g fo aNil) := by
  intro Wx F θ σ H ρ M Q sr hg
  refine ho Wx F θ σ H ρ M _ sr (Good.seq hg fun x M1 F1 θ1 H1 _ l1 p1 hr1 hg1 v rv => ?_)
  split at hg1
  · rename_i hty
    refine ⟨hT F1 θ1 H1 M1 x v hr1 rv hty, ?_⟩
    exact hs F1 θ1 H1 M1 x v [] [] Q _ hr1 rv rfl hg1
  · exact hg1.elim
theorem pu_bm {T id : String} {name : Str} {r : V → List V → Hp → VK → Prop} {ty : Mem → W → Bool} {g : OpM} (pa : PlainAttrs T) (slot : Slot T name id) (hty : typeOf (.builtin id) = pure (.type "method_descriptor")) (hm : MtR X id r) (hT : TyS G T ty) (hs : MethS G r g) (ho : PU G X o to fo) (ha : PUA G X (e :: es) t fs) (hK : X.K = G.K := by rfl)
    (hbase : attributeBase o name X.env (eval o X.env) = eval o X.env := by rfl)
    (hfew : ((backTo cpos (starEach (e :: es) X.env)).all (fun x => !x.1) && (backToKw cpos (keywordEach [] X.env)).all (fun x => x.1.isSome)
      && decide ((e :: es).length + ([] : List Keyword).length + (if ([] : List Keyword).isEmpty then 0 else 1) < 30)) = true := by rfl)
    (hline : (apos.endLine == cpos.line) = true := by rfl) (hst : starEach (e :: es) X.env = (false, eval e X.env) :: starEach es X.env := by rfl) (hplain : (backTo cpos (starEach es X.env)).any (·.1) = false := by rfl) :
    PU G X (.Call (.Attribute o name apos) (e :: es) [] cpos) (fun Wx => tBM G.K T r (to Wx) (t Wx)) (eBM ty g fo fs) :=
  ⟨fun Wx tk => hK ▸ pe_bm pa slot hty hm (ho.pe Wx tk) (ha.pe Wx tk) hbase hfew hline hst hplain, sem_bm hT hs ho.sem ha.sem⟩
/-! append, extend -/
def tyL (M : Mem) (x : W) : Bool := (viewL M x).isSome
theorem tyL_ok : TyS G "list" tyL := by
  intro F θ H M x v hr rv h
  unfold tyL at h
  obtain ⟨xs, e⟩ := Option.isSome_iff_exists.mp h
  obtain ⟨a, vs, rfl, h1, _⟩ := viewL_ok hr rv e
  exact .inl ⟨rfl, vs, h1⟩
def appW : OpM := fun x ws M => match x, ws with
  | .cell k, [.d y] => match M[k]? with
    | some (.lst xs) => if xs.length < sizeLine then .ok (.d .non) (M.set k (.lst (xs ++ [y]))) else .stuck
    | _ => .stuck
  | _, _ => .stuck
theorem meth_app : MethS G rAppend appW := by
  intro F θ H M x v ws vs Q Wx hr rv rvs hg
  unfold appW at hg
  split at hg
  · rename_i k y
    split at hg
    · rename_i xs e
      split at hg
      · rename_i hz
        obtain ⟨a, ha, rfl⟩ := rv
        obtain ⟨u, rfl, ru⟩ := RepWL.one rvs
        obtain ⟨hF, us, hH, rl⟩ := hr.cell k a _ ha e
        refine ⟨a, us, u, rfl, rfl, hH, by rw [rl.length]; exact hz, ?_⟩
        exact hg F θ _ (LE.refl _) (List.prefix_refl _) (hr.write ha hF ⟨hF, _, upd_same, rl.append (RepL.one ru)⟩) _ (by simp only [RepW, Rep])
      · exact hg.elim
    · exact hg.elim
  · exact hg.elim
theorem pu_append (ho : PU G X o to fo) (ha : PUA G X [e] t fs) (hK : X.K = G.K := by rfl) (hbase : attributeBase o "append" X.env (eval o X.env) = eval o X.env := by rfl)
    (hfew : ((backTo cpos (starEach (e :: []) X.env)).all (fun x => !x.1) && (backToKw cpos (keywordEach [] X.env)).all (fun x => x.1.isSome)
      && decide ((e :: []).length + ([] : List Keyword).length + (if ([] : List Keyword).isEmpty then 0 else 1) < 30)) = true := by rfl)
    (hline : (apos.endLine == cpos.line) = true := by rfl) (hst : starEach (e :: []) X.env = (false, eval e X.env) :: starEach [] X.env := by rfl) (hplain : (backTo cpos (starEach [] X.env)).any (·.1) = false := by rfl) :
    PU G X (.Call (.Attribute o "append" apos) [e] [] cpos) (fun Wx => tBM G.K "list" rAppend (to Wx) (t Wx)) (eBM tyL appW fo fs) :=
  pu_bm PySem.F.plainAttrs_list PySem.F.slot_list_append PySem.F.type_list_append mt_append tyL_ok meth_app ho ha hK hbase hfew hline hst hplain
/-- the items of a list that stands in H as one: a list of the text's own making -/
def rExtendS (K : PySem.W.Frag) : V → List V → Hp → VK → Prop := rExtend
def extW : OpM := fun x ws M => match x, ws with
  | .cell k, [.d (.lst ys)] => match M[k]? with
    | some (.lst xs) => if xs.length + ys.length ≤ sizeLine then .ok (.d .non) (M.set k (.lst (xs ++ ys))) else .stuck
    | _ => .stuck
  | .cell k, [.cell j] => match M[k]?, M[j]? with
    | some (.lst xs), some (.lst ys) => if xs.length + ys.length ≤ sizeLine ∧ j ≠ k then .ok (.d .non) (M.set k (.lst (xs ++ ys))) else .stuck
    | _, _ => .stuck
  | _, _ => .stuck
theorem meth_ext : MethS G rExtend extW := by
  intro F θ H M x v ws vs Q Wx hr rv rvs hg
  unfold extW at hg
  split at hg
  · rename_i k ys
    split at hg
    · rename_i xs e
      split at hg
      · rename_i hz
        obtain ⟨a, ha, rfl⟩ := rv
        obtain ⟨u, rfl, ru⟩ := RepWL.one rvs
        simp only [RepW, Rep] at ru
        obtain ⟨b, us, rfl, h1, h2⟩ := ru
        obtain ⟨hF, zs, hH, rl⟩ := hr.cell k a _ ha e
        refine ⟨a, b, zs, us, rfl, rfl, hH, hr.sub _ _ h1, by rw [rl.length, h2.length]; exact hz, ?_⟩
        exact hg F θ _ (LE.refl _) (List.prefix_refl _) (hr.write ha hF ⟨hF, _, upd_same, rl.append h2⟩) _ (by simp only [RepW, Rep])
      · exact hg.elim
    · exact hg.elim
  · rename_i k j
    split at hg
    · rename_i xs ys e e2
      split at hg
      · rename_i hz
        obtain ⟨a, ha, rfl⟩ := rv
        obtain ⟨u, rfl, ru⟩ := RepWL.one rvs
        obtain ⟨b, hb, rfl⟩ := ru
        obtain ⟨hF, zs, hH, rl⟩ := hr.cell k a _ ha e
        obtain ⟨_, us, hHb, rl2⟩ := hr.cell j b _ hb e2
        refine ⟨a, b, zs, us, rfl, rfl, hH, hHb, by rw [rl.length, rl2.length]; exact hz.1, ?_⟩
        exact hg F θ _ (LE.refl _) (List.prefix_refl _) (hr.write ha hF ⟨hF, _, upd_same, rl.append rl2⟩) _ (by simp only [RepW, Rep])
      · exact hg.elim
    · exact hg.elim
  · exact hg.elim
theorem pu_extend (ho : PU G X o to fo) (ha : PUA G X [e] t fs) (hK : X.K = G.K := by rfl) (hbase : attributeBase o "extend" X.env (eval o X.env) = eval o X.env := by rfl)
    (hfew : ((backTo cpos (starEach (e :: []) X.env)).all (fun x => !x.1) && (backToKw cpos (keywordEach [] X.env)).all (fun x => x.1.isSome)
      && decide ((e :: []).length + ([] : List Keyword).length + (if ([] : List Keyword).isEmpty then 0 else 1) < 30)) = true := by rfl)
    (hline : (apos.endLine == cpos.line) = true := by rfl) (hst : starEach (e :: []) X.env = (false, eval e X.env) :: starEach [] X.env := by rfl) (hplain : (backTo cpos (starEach [] X.env)).any (·.1) = false := by rfl) :
    PU G X (.Call (.Attribute o "extend" apos) [e] [] cpos) (fun Wx => tBM G.K "list" rExtend (to Wx) (t Wx)) (eBM tyL extW fo fs) :=
  pu_bm PySem.F.plainAttrs_list PySem.F.slot_list_extend PySem.F.type_list_extend mt_extend tyL_ok meth_ext ho ha hK hbase hfew hline hst hplain
/-! index: the first that is == -/
def findE (d : PyData) : List PyData → Option Nat
  | [] => none
  | z :: zs => if PyData.eqv z d then some 0 else (findE d zs).map (· + 1)
theorem findE_ok {d : PyData} : ∀ {zs : List PyData} {j : Nat}, findE d zs = some j → ∃ z, zs[j]? = some z ∧ PyData.eqv z d = true ∧ ∀ (m : Nat) (z' : PyData), m < j → zs[m]? = some z' → PyData.eqv z' d = false
  | [], _, h => by simp [findE] at h
  | z :: zs, j, h => by
    unfold findE at h
    split at h
    · rename_i hz
      cases h
      exact ⟨z, rfl, hz, fun m z' hm => absurd hm (Nat.not_lt_zero m)⟩
    · rename_i hz
      obtain ⟨i, h1, rfl⟩ := Option.map_eq_some_iff.mp h
      obtain ⟨y, q1, q2, q3⟩ := findE_ok h1
      refine ⟨y, by simpa using q1, q2, fun m z' hm he => ?_⟩
      cases m with
      | zero => simp at he; subst he; simpa using hz
      | succ m => exact q3 m z' (by omega) (by simpa using he)
def indexW : OpM := fun x ws M => match ws with
  | [y] => match pyW M x, pyW M y with
    | some (.list ds), some d => if SeqAt.shaped (.list ds) = true ∧ SeqAt.shaped d = true then match findE d ds with
      | some j => .ok (.d (.int (j : Nat))) M
      | none => .stuck
      else .stuck
    | _, _ => .stuck
  | _ => .stuck
theorem meth_index : MethS G (rIndexD G.K) indexW := by
  intro F θ H M x v ws vs Q Wx hr rv rvs hg
  unfold indexW at hg
  split at hg
  · rename_i y
    split at hg
    · rename_i ds d e1 e2
      split at hg
      · rename_i hc
        split at hg
        · rename_i j ej
          obtain ⟨u, rfl, ru⟩ := RepWL.one rvs
          obtain ⟨z, q1, q2, q3⟩ := findE_ok ej
          have dx := dp_w hr rv e1
          obtain ⟨a, rfl⟩ : ∃ a, v = V.ref a := by
            cases dx with
            | lst h1 h2 => exact ⟨_, rfl⟩
          exact ⟨a, u, d, ds, j, z, rfl, rfl, dx, dp_w hr ru e2, hc.1, hc.2, q1, q2, q3, hg F θ H (LE.refl F) (List.prefix_refl _) hr _ (by simp only [RepW, Rep])⟩
        · exact hg.elim
      · exact hg.elim
    · exact hg.elim
  · exact hg.elim
theorem pu_index (hr : RoomG k X.A) (ho : PU G X o to fo) (ha : PUA G X [e] t fs) (hK : X.K = G.K := by rfl) (hbase : attributeBase o "index" X.env (eval o X.env) = eval o X.env := by rfl)
    (hfew : ((backTo cpos (starEach (e :: []) X.env)).all (fun x => !x.1) && (backToKw cpos (keywordEach [] X.env)).all (fun x => x.1.isSome)
      && decide ((e :: []).length + ([] : List Keyword).length + (if ([] : List Keyword).isEmpty then 0 else 1) < 30)) = true := by rfl)
    (hline : (apos.endLine == cpos.line) = true := by rfl) (hst : starEach (e :: []) X.env = (false, eval e X.env) :: starEach [] X.env := by rfl) (hplain : (backTo cpos (starEach [] X.env)).any (·.1) = false := by rfl) :
    PU G X (.Call (.Attribute o "index" apos) [e] [] cpos) (fun Wx => tBM G.K "list" (rIndexD G.K) (to Wx) (t Wx)) (eBM tyL indexW fo fs) :=
  pu_bm PySem.F.plainAttrs_list PySem.F.slot_list_index PySem.F.type_list_index (hK ▸ mt_indexD (by have := hr.rm.un; omega)) tyL_ok meth_index ho ha hK hbase hfew hline hst hplain
end
end PU
set_option Elab.async false
set_option linter.all false
set_option maxRecDepth 100000
set_option maxHeartbeats 4000000
namespace PU
open PySem PySem.Spec PyProof.Rows L2 RZ
section
variable {G : Glo} {X : Cx} {pos pos' p apos cpos tpos : Pos} {a b c e e2 o tg iter : Expr} {es : List Expr} {ta tb tc te to : L2.WX → TE} {fa fb fc fe fo : Ev} {k kk : Nat} {t : L2.WX → TA} {fs : Av} {elts : List Expr}
/-! ### walks over lists, tuples, texts -/
def iAnyT (K : PySem.W.Frag) (te : TE) : TI := fun σ H R => te σ H fun x H1 => (∃ a, x = .ref a ∧ (∃ xs, SqL K H1 a xs) ∧ R (Itl K a) H1) ∨ (∃ a, x = .ref a ∧ (∃ xs, SqT K H1 a xs) ∧ R (Itt K a) H1) ∨ ∃ z, x = .str z ∧ R (Its z) H1
theorem pi_any {te : TE} (he : PE X e te) : PI X tg e (iAnyT X.K te) := by
  refine ⟨fun pins s σ H R I h => ?_⟩
  refine thn (he.run pins s σ H _ I h) fun v s1 ⟨x, H1, I1, r1, q1⟩ => ?_
  have nw : ∀ b, b ∈ [s1.heap.objs.size] → FpOk X pins H1 b := fun b hb => by
    have e : b = s1.heap.objs.size := by simpa using hb
    subst e
    exact I1.fpOk (Nat.le_refl _) (I1.hok.fresh (Nat.le_refl _))
  rcases q1 with ⟨a, e, ⟨xs, hq⟩, q⟩ | ⟨a, e, ⟨xs, hq⟩, q⟩ | ⟨z, e, q⟩
  · subst e
    cases r1
    obtain ⟨its, rv, p, hz⟩ := I1.list hq
    refine wpAny_pyIter_list p.isList ?_
    exact ⟨s1.heap.objs.size, [s1.heap.objs.size], _, _, H1, rfl, I1.kept (t' := s1.toks) fun b o e => Heap.get?_push_of_some _ e, turn_list a _, ⟨_, Heap.get?_push_size _ rfl, rfl, rfl⟩, nw, q⟩
  · subst e
    cases r1
    obtain ⟨its, rv, p, hz⟩ := I1.tuple hq
    refine wpAny_pyIter_tuple (show s1.heap.IsTuple a its.toArray from p) ?_
    exact ⟨s1.heap.objs.size, [s1.heap.objs.size], _, _, H1, rfl, I1.kept (t' := s1.toks) fun b o e => Heap.get?_push_of_some _ e, turn_tuple a _, ⟨_, Heap.get?_push_size _ rfl, rfl, rfl⟩, nw, q⟩
  · subst e
    obtain ⟨t, rfl⟩ := r1
    cases ha : z.cps.all (· < 128)
    · exact wpAny_pyIter_wide ha (pi_one (tk := s1.toks) I1 _ (turn_str _ z t "str_iterator" (.inr rfl)) ⟨_, Heap.get?_push_size _ rfl, rfl, rfl⟩ q)
    · exact wpAny_pyIter_ascii ha (pi_one (tk := s1.toks) I1 _ (turn_str _ z t "str_ascii_iterator" (.inl rfl)) ⟨_, Heap.get?_push_size _ rfl, rfl, rfl⟩ q)
def sgnD (z : Str) : List D := z.cps.toList.map fun c => D.str ⟨#[c]⟩
def viewA : W → Option (List D)
  | .d (.lst ds) => some ds
  | .d (.klst ds) => some ds
  | .d (.tup ds) => some ds
  | .d (.ktup ds) => some ds
  | .d (.str z) => some (sgnD z)
  | _ => none
def iAny (f : Ev) : Iv := fun ρ M => (f ρ M).bind fun w M1 => match viewA w with
  | some ds => .ok ds M1
  | none => .stuck
theorem walk_str {F : Hp} {θ : List Addr} (z : Str) : Walk G (Its z) F θ (sgnD z) := by
  intro F1 θ1 H1 M1 l1 p1 hr1 i
  unfold sgnD
  refine ⟨fun d hd => ?_, fun hl => by
    rw [List.length_map, Array.length_toList] at hl
    exact hl⟩
  rw [List.getElem?_map] at hd
  obtain ⟨c, hc, rfl⟩ := Option.map_eq_some_iff.mp hd
  rw [Array.getElem?_toList] at hc
  refine ⟨by obtain ⟨h, _⟩ := Array.getElem?_eq_some_iff.mp hc; exact h, fun x H2 hy => ?_⟩
  obtain ⟨rfl, c', hc', rfl⟩ := hy
  rw [hc] at hc'
  cases hc'
  exact ⟨F1, LE.refl F1, hr1, by simp only [Rep]⟩
theorem pui_any (he : PU G X e te fe) (hK : X.K = G.K := by rfl) : PUI G X tg e (fun Wx => iAnyT G.K (te Wx)) (iAny fe) := by
  refine ⟨fun Wx tk => hK ▸ pi_any (he.pe Wx tk), ?_⟩
  intro Wx F θ σ H ρ M Rk sr hg
  refine he.sem Wx F θ σ H ρ M _ sr (Good.seq hg fun w M1 F1 θ1 H1 _ l1 p1 hr1 hg1 v rv => ?_)
  split at hg1
  · rename_i ds e
    unfold viewA at e
    split at e
    · cases e
      simp only [RepW, Rep] at rv
      obtain ⟨a, vs, rfl, h1, h2⟩ := rv
      exact .inl ⟨a, rfl, ⟨vs, SqL.of (hr1.sub _ _ h1)⟩, hg1 F1 θ1 H1 (LE.refl F1) (List.prefix_refl _) hr1 _ (walk_list (fun F2 θ2 H2 M2 l2 hr2 => SqL.of (hr2.sub _ _ (l2.lst _ _ h1))) h2)⟩
    · cases e
      simp only [RepW, Rep] at rv
      obtain ⟨a, vs, rfl, h1, h2⟩ := rv
      exact .inl ⟨a, rfl, ⟨vs, SqL.up hr1.sub h1⟩, hg1 F1 θ1 H1 (LE.refl F1) (List.prefix_refl _) hr1 _ (walk_list (fun F2 θ2 H2 M2 l2 hr2 => SqL.up hr2.sub (h1.imp (fun ⟨o, z⟩ => ⟨o, l2.frz _ _ _ z⟩) id)) h2)⟩
    · cases e
      simp only [RepW, Rep] at rv
      obtain ⟨a, vs, rfl, h1, h2⟩ := rv
      exact .inr (.inl ⟨a, rfl, ⟨vs, SqT.of (hr1.sub _ _ h1)⟩, hg1 F1 θ1 H1 (LE.refl F1) (List.prefix_refl _) hr1 _ (walk_tup (fun F2 θ2 H2 M2 l2 hr2 => SqT.of (hr2.sub _ _ (l2.tup _ _ h1))) h2)⟩)
    · cases e
      simp only [RepW, Rep] at rv
      obtain ⟨a, vs, rfl, h1, h2⟩ := rv
      exact .inr (.inl ⟨a, rfl, ⟨vs, SqT.up h1⟩, hg1 F1 θ1 H1 (LE.refl F1) (List.prefix_refl _) hr1 _ (walk_tup (fun F2 θ2 H2 M2 l2 hr2 => SqT.up h1) h2)⟩)
    · cases e
      simp only [RepW, Rep] at rv
      exact .inr (.inr ⟨_, rv, hg1 F1 θ1 H1 (LE.refl F1) (List.prefix_refl _) hr1 _ (walk_str _)⟩)
    · cases e
  · exact hg1.elim
/-! zip of two lists, of two tuples -/
def zipD : List D → List D → List D
  | x :: xs, y :: ys => .tup [x, y] :: zipD xs ys
  | _, _ => []
theorem zipD_get : ∀ {xs ys : List D} {i : Nat} {d : D}, (zipD xs ys)[i]? = some d → ∃ x y, xs[i]? = some x ∧ ys[i]? = some y ∧ d = .tup [x, y]
  | [], _, _, _, h => by simp [zipD] at h
  | _ :: _, [], _, _, h => by simp [zipD] at h
  | x :: xs, y :: ys, 0, d, h => by simp [zipD] at h; exact ⟨x, y, rfl, rfl, h.symm⟩
  | x :: xs, y :: ys, i + 1, d, h => by
    simp only [zipD, List.getElem?_cons_succ] at h
    obtain ⟨x', y', h1, h2, h3⟩ := zipD_get h
    exact ⟨x', y', by simpa using h1, by simpa using h2, h3⟩
theorem zipD_len : ∀ {xs ys : List D} {i : Nat}, (zipD xs ys).length ≤ i → xs.length ≤ i ∨ ys.length ≤ i
  | [], _, i, _ => .inl (Nat.zero_le i)
  | _ :: _, [], i, _ => .inr (Nat.zero_le i)
  | x :: xs, y :: ys, 0, h => by simp [zipD] at h
  | x :: xs, y :: ys, i + 1, h => by
    simp only [zipD, List.length_cons] at h ⊢
    rcases zipD_len (xs := xs) (ys := ys) (i := i) (by omega) with q | q
    · exact .inl (by omega)
    · exact .inr (by omega)
theorem two_rep {F : Hp} {x y : D} {v u : V} (h : Rep G F x v) (q : Rep G F y u) : RepL G F [x, y] [v, u] := RepL.cons h (RepL.one q)
theorem walk_zip {F : Hp} {θ : List Addr} {a b : Addr} {xs ys : List D} {vs us : List V} (hq : ∀ F1 θ1 H1 M1, LE F F1 → HR G F1 θ1 H1 M1 → SqL G.K H1 a vs) (hq2 : ∀ F1 θ1 H1 M1, LE F F1 → HR G F1 θ1 H1 M1 → SqL G.K H1 b us) (r : RepL G F xs vs) (r2 : RepL G F ys us) :
    Walk G (Itz G.K a b) F θ (zipD xs ys) := by
  intro F1 θ1 H1 M1 l1 p1 hr1 i
  have q := hq F1 θ1 H1 M1 l1 hr1
  have q2 := hq2 F1 θ1 H1 M1 l1 hr1
  refine ⟨fun d hd => ?_, fun hl => ⟨vs, us, q, q2, by rw [r.length, r2.length]; exact zipD_len hl⟩⟩
  obtain ⟨x, y, hx, hy, rfl⟩ := zipD_get hd
  obtain ⟨v, hv, rv⟩ := r.get hx
  obtain ⟨u, hu, ru⟩ := r2.get hy
  refine ⟨⟨vs, us, v, u, q, q2, hv, hu⟩, fun z H2 hz => ?_⟩
  obtain ⟨T, v', u', rfl, hT, rfl, h1, h2⟩ := hz
  have e1 := h1 vs q
  rw [hv] at e1
  cases e1
  have e2 := h2 us q2
  rw [hu] at e2
  cases e2
  obtain ⟨hr2, le⟩ := hr1.alloc hT (.tup [v, u])
  exact ⟨_, le, hr2, by simp only [Rep]; exact ⟨T, _, rfl, upd_same, two_rep ((rv.mono l1).mono le) ((ru.mono l1).mono le)⟩⟩
theorem walk_zipT {F : Hp} {θ : List Addr} {a b : Addr} {xs ys : List D} {vs us : List V} (hq : ∀ F1 θ1 H1 M1, LE F F1 → HR G F1 θ1 H1 M1 → SqT G.K H1 a vs) (hq2 : ∀ F1 θ1 H1 M1, LE F F1 → HR G F1 θ1 H1 M1 → SqT G.K H1 b us) (r : RepL G F xs vs) (r2 : RepL G F ys us) :
    Walk G (ItzT G.K a b) F θ (zipD xs ys) := by
  intro F1 θ1 H1 M1 l1 p1 hr1 i
  have q := hq F1 θ1 H1 M1 l1 hr1
  have q2 := hq2 F1 θ1 H1 M1 l1 hr1
  refine ⟨fun d hd => ?_, fun hl => ⟨vs, us, q, q2, by rw [r.length, r2.length]; exact zipD_len hl⟩⟩
  obtain ⟨x, y, hx, hy, rfl⟩ := zipD_get hd
  obtain ⟨v, hv, rv⟩ := r.get hx
  obtain ⟨u, hu, ru⟩ := r2.get hy
  refine ⟨⟨vs, us, v, u, q, q2, hv, hu⟩, fun z H2 hz => ?_⟩
  obtain ⟨T, v', u', rfl, hT, rfl, h1, h2⟩ := hz
  have e1 := h1 vs q
  rw [hv] at e1
  cases e1
  have e2 := h2 us q2
  rw [hu] at e2
  cases e2
  obtain ⟨hr2, le⟩ := hr1.alloc hT (.tup [v, u])
  exact ⟨_, le, hr2, by simp only [Rep]; exact ⟨T, _, rfl, upd_same, two_rep ((rv.mono l1).mono le) ((ru.mono l1).mono le)⟩⟩
def viewF : W → Option (Bool × List D)
  | .d (.lst ds) => some (true, ds)
  | .d (.tup ds) => some (false, ds)
  | _ => none
def iZipV (f : Av) : Iv := fun ρ M => (f ρ M).bind fun ws M1 => match ws with
  | [x, y] => match viewF x, viewF y with
    | some (i, xs), some (j, ys) => if i = j then .ok (zipD xs ys) M1 else .stuck
    | _, _ => .stuck
  | _ => .stuck
theorem pui_zip (hm : X.mg "zip" = none) (ha : PUA G X [e, e2] t fs) (hK : X.K = G.K := by rfl) (hg : L2.Gl X "zip" := by rfl) (hs : starEach [e, e2] X.env = (false, eval e X.env) :: starEach [e2] X.env := by rfl) (hpl : (backTo pos (starEach [e2] X.env)).any (·.1) = false := by rfl) :
    PUI G X (.Tuple elts kk tpos) (.Call (.Name "zip" p) [e, e2] [] pos) (fun Wx => iZipA G.K (t Wx)) (iZipV fs) := by
  refine ⟨fun Wx tk => hK ▸ pi_zipA hg hm (ha.pe Wx tk) hs hpl, ?_⟩
  intro Wx F θ σ H ρ M Rk sr hg
  refine ha.sem Wx F θ σ H ρ M _ sr (Good.seq hg fun ws M1 F1 θ1 H1 _ l1 p1 hr1 hg1 vs rvs => ?_)
  split at hg1
  · rename_i x y
    obtain ⟨v, u, rfl, rv, ru⟩ := RepWL.two rvs
    split at hg1
    · rename_i i xs j ys e1 e2
      split at hg1
      · rename_i hij
        subst hij
        unfold viewF at e1 e2
        split at e1
        · cases e1
          split at e2
          · cases e2
            simp only [RepW, Rep] at rv ru
            obtain ⟨a, vs, rfl, h1, h2⟩ := rv
            obtain ⟨b, us, rfl, h3, h4⟩ := ru
            exact ⟨a, b, vs, us, rfl, .inl ⟨SqL.of (hr1.sub _ _ h1), SqL.of (hr1.sub _ _ h3), hg1 F1 θ1 H1 (LE.refl F1) (List.prefix_refl _) hr1 _ (walk_zip (fun F2 θ2 H2 M2 l2 hr2 => SqL.of (hr2.sub _ _ (l2.lst _ _ h1))) (fun F2 θ2 H2 M2 l2 hr2 => SqL.of (hr2.sub _ _ (l2.lst _ _ h3))) h2 h4)⟩⟩
          · cases e2
          · cases e2
        · cases e1
          split at e2
          · cases e2
          · cases e2
            simp only [RepW, Rep] at rv ru
            obtain ⟨a, vs, rfl, h1, h2⟩ := rv
            obtain ⟨b, us, rfl, h3, h4⟩ := ru
            exact ⟨a, b, vs, us, rfl, .inr ⟨SqT.of (hr1.sub _ _ h1), SqT.of (hr1.sub _ _ h3), hg1 F1 θ1 H1 (LE.refl F1) (List.prefix_refl _) hr1 _ (walk_zipT (fun F2 θ2 H2 M2 l2 hr2 => SqT.of (hr2.sub _ _ (l2.tup _ _ h1))) (fun F2 θ2 H2 M2 l2 hr2 => SqT.of (hr2.sub _ _ (l2.tup _ _ h3))) h2 h4)⟩⟩
          · cases e2
        · cases e1
      · exact hg1.elim
    · exact hg1.elim
  · exact hg1.elim
/-! enumerate of a list -/
def enumD : Nat → List D → List D
  | _, [] => []
  | i, x :: xs => .tup [.int (i : Nat), x] :: enumD (i + 1) xs
theorem enumD_get : ∀ {xs : List D} {n i : Nat} {d : D}, (enumD n xs)[i]? = some d → ∃ x, xs[i]? = some x ∧ d = .tup [.int ((n + i : Nat) : Int), x]
  | [], _, _, _, h => by simp [enumD] at h
  | x :: xs, n, 0, d, h => by simp [enumD] at h; exact ⟨x, rfl, by rw [← h]; rfl⟩
  | x :: xs, n, i + 1, d, h => by
    simp only [enumD, List.getElem?_cons_succ] at h
    obtain ⟨x', h1, h2⟩ := enumD_get h
    exact ⟨x', by simpa using h1, by rw [h2]; congr 3; congr 1; omega⟩
theorem enumD_len : ∀ (xs : List D) (n : Nat), (enumD n xs).length = xs.length
  | [], _ => rfl
  | x :: xs, n => by simp [enumD, enumD_len xs (n + 1)]
theorem walk_enum {F : Hp} {θ : List Addr} {a : Addr} {xs : List D} {vs : List V} (hq : ∀ F1 θ1 H1 M1, LE F F1 → HR G F1 θ1 H1 M1 → SqL G.K H1 a vs) (r : RepL G F xs vs) : Walk G (Ite G.K a) F θ (enumD 0 xs) := by
  intro F1 θ1 H1 M1 l1 p1 hr1 i
  have q := hq F1 θ1 H1 M1 l1 hr1
  refine ⟨fun d hd => ?_, fun hl => ⟨vs, q, by rw [r.length, ← enumD_len xs 0]; exact hl⟩⟩
  obtain ⟨x, hx, rfl⟩ := enumD_get hd
  obtain ⟨v, hv, rv⟩ := r.get hx
  refine ⟨⟨vs, v, q, hv⟩, fun z H2 hz => ?_⟩
  obtain ⟨T, v', rfl, hT, rfl, h1⟩ := hz
  have e1 := h1 vs q
  rw [hv] at e1
  cases e1
  obtain ⟨hr2, le⟩ := hr1.alloc hT (.tup [.int (i : Nat), v])
  exact ⟨_, le, hr2, by simp only [Rep]; exact ⟨T, _, rfl, upd_same, two_rep (by simp only [Rep]; rw [Nat.zero_add]) ((rv.mono l1).mono le)⟩⟩
def iEnumV (f : Av) : Iv := fun ρ M => (f ρ M).bind fun ws M1 => match ws with
  | [.d (.lst xs)] => .ok (enumD 0 xs) M1
  | _ => .stuck
theorem pui_enum (hm : X.mg "enumerate" = none) (ha : PUA G X [e] t fs) (hK : X.K = G.K := by rfl) (hg : L2.Gl X "enumerate" := by rfl) (hs : starEach [e] X.env = [(false, eval e X.env)] := by rfl) :
    PUI G X (.Tuple elts kk tpos) (.Call (.Name "enumerate" p) [e] [] pos) (fun Wx => iEnum G.K (t Wx)) (iEnumV fs) := by
  refine ⟨fun Wx tk => hK ▸ pi_enum hg hm (ha.pe Wx tk) hs, ?_⟩
  intro Wx F θ σ H ρ M Rk sr hg
  refine ha.sem Wx F θ σ H ρ M _ sr (Good.seq hg fun ws M1 F1 θ1 H1 _ l1 p1 hr1 hg1 vs rvs => ?_)
  split at hg1
  · obtain ⟨v, rfl, rv⟩ := RepWL.one rvs
    simp only [RepW, Rep] at rv
    obtain ⟨a, vs, rfl, h1, h2⟩ := rv
    exact ⟨a, vs, rfl, SqL.of (hr1.sub _ _ h1), hg1 F1 θ1 H1 (LE.refl F1) (List.prefix_refl _) hr1 _ (walk_enum (fun F2 θ2 H2 M2 l2 hr2 => SqL.of (hr2.sub _ _ (l2.lst _ _ h1))) h2)⟩
  · exact hg1.elim
end
end PU
set_option Elab.async false
set_option linter.all false
set_option maxRecDepth 100000
set_option maxHeartbeats 4000000
namespace PU
open PySem PySem.Spec PyProof.Rows L2 RZ
section
variable {G : Glo} {X : Cx} {pos pos' p p1 p2 p3 apos cpos tpos : Pos} {a b c e e2 o tg iter : Expr} {es : List Expr} {ta tb tc te to : L2.WX → TE} {fa fb fc fe fo : Ev} {k kk : Nat} {t : L2.WX → TA} {fs : Av} {elts : List Expr}
/-! ### name += e, name -= e: ints -/
def sAug (i : Nat) (g : Int → Int → Int) (fe : Ev) : Sv := fun ρ M => match ρ[i]? with
  | some (some (.d (.int x))) => (fe ρ M).bindS ρ fun w M1 => match w with
    | .d (.int y) => .go .nx (ρ.set i (some (.d (.int (g x y))))) M1
    | _ => .stuck
  | _ => .stuck
theorem sem_aug (i : Nat) {g : Int → Int → Int} {ti : TIp} (hti : ∀ x y H Q, Q (.int (g x y)) H → ti (.int x) (.int y) H Q) (he : SemE G te fe) : SemS G (fun Wx => tAug i (te Wx) ti) (sAug i g fe) := by
  intro Wx F θ σ H ρ M D sr hg
  unfold sAug at hg
  split at hg
  · rename_i x ex
    obtain ⟨v, hv, rv⟩ := sr.sl i _ ex
    simp only [RepW, Rep] at rv
    subst rv
    refine ⟨.int x, hv, ?_⟩
    refine he Wx F θ σ H ρ M _ sr (GoodS.seqE sr hg fun w M1 F1 θ1 H1 _ l1 q1 sr1 hg1 u ru => ?_)
    split at hg1
    · simp only [RepW, Rep] at ru
      subst ru
      exact hti x _ H1 _ (hg1 F1 θ1 _ H1 (LE.refl F1) (List.prefix_refl _) (sr1.set (by simp only [RepW, Rep])))
    · exact hg1.elim
  · exact hg.elim
theorem pus_augA (i : Nat) {x : Str} (hN : X.N.Nodup) (he : PU G X e te fe) (hi : X.N[i]? = some x := by rfl) (hx : Loc X.env.scope x := by first | exact Or.inl rfl | exact Or.inr rfl) (hf : X.fn x = true ∨ X.env.scope.names.lookup x = some .local := by first | exact .inl rfl | exact .inr rfl) :
    PUS G X (.AugAssign (.Name x pos') .Add e pos) (fun Wx => tAug i (te Wx) rAdd) (sAug i (· + ·) fe) :=
  ⟨fun Wx tk => ps_aug hN hi hx (he.pe Wx tk) (fun pins s σ H x y v u Q I rx ry h => in_add pins s σ H x y v u Q I rx ry h) hf, sem_aug i (fun x y H Q q => ⟨x, y, rfl, rfl, q⟩) he.sem⟩
theorem pus_augS (i : Nat) {x : Str} (hN : X.N.Nodup) (he : PU G X e te fe) (hi : X.N[i]? = some x := by rfl) (hx : Loc X.env.scope x := by first | exact Or.inl rfl | exact Or.inr rfl) (hf : X.fn x = true ∨ X.env.scope.names.lookup x = some .local := by first | exact .inl rfl | exact .inr rfl) :
    PUS G X (.AugAssign (.Name x pos') .Sub e pos) (fun Wx => tAug i (te Wx) rSub) (sAug i (· - ·) fe) :=
  ⟨fun Wx tk => ps_aug hN hi hx (he.pe Wx tk) (fun pins s σ H x y v u Q I rx ry h => in_sub pins s σ H x y v u Q I rx ry h) hf, sem_aug i (fun x y H Q q => ⟨x, y, rfl, rfl, q⟩) he.sem⟩
/-! ### sum, max, min of ints -/
def intsD : List D → Option (List Int)
  | [] => some []
  | .int i :: r => (intsD r).map (i :: ·)
  | _ => none
theorem intsD_ok {F : Hp} : ∀ {ds : List D} {vs : List V} {ns : List Int}, RepL G F ds vs → intsD ds = some ns → vs = ns.map V.int
  | [], _, _, h, e => by simp only [intsD] at e; cases e; simp only [RepL] at h; subst h; rfl
  | d :: r, _, _, h, e => by
    cases d with
    | int i =>
      simp only [RepL, Rep] at h
      obtain ⟨v, u, rfl, h1, h2⟩ := h
      simp only [intsD] at e
      obtain ⟨ns, e1, rfl⟩ := Option.map_eq_some_iff.mp e
      rw [h1, intsD_ok h2 e1]
      rfl
    | _ => simp [intsD] at e
theorem intsD_map (ns : List Int) : intsD (ns.map D.int) = some ns := by
  induction ns with
  | nil => rfl
  | cons n ns ih => simp [intsD, ih]
def sumW : OpN := fun ws M => match ws with
  | [w] => match viewL M w with
    | some xs => match intsD xs with
      | some ns => .ok (.d (.int ns.sum)) M
      | none => .stuck
    | none => .stuck
  | _ => .stuck
theorem calls_sum : CallS G (rSum G.K) sumW := by
  intro F θ H M ws vs Q Wx hr rw' hg
  unfold sumW at hg
  split at hg
  · rename_i w
    obtain ⟨v, rfl, rv⟩ := RepWL.one rw'
    split at hg
    · rename_i xs e
      split at hg
      · rename_i ns en
        obtain ⟨a, us, rfl, h1, h2⟩ := viewL_ok hr rv e
        have := intsD_ok h2 en
        subst this
        exact ⟨a, ns, rfl, h1, hg F θ H (LE.refl F) (List.prefix_refl _) hr _ (by simp only [RepW, Rep])⟩
      · exact hg.elim
    · exact hg.elim
  · exact hg.elim
theorem pu_sum (hc : X.calm = true) (hm : X.mg "sum" = none) (ha : PUA G X [e] t fs) (hK : X.K = G.K := by rfl) (hg : L2.Gl X "sum" := by rfl) (he : starEach (e :: []) X.env = (false, eval e X.env) :: starEach [] X.env := by rfl) (hpl : (backTo pos (starEach [] X.env)).any (·.1) = false := by rfl) :
    PU G X (.Call (.Name "sum" p) [e] [] pos) (fun Wx => tCB (rSum G.K) (t Wx)) (eA sumW fs) := pu_callB (hK ▸ cr_sum hc) calls_sum hm (by decide +kernel) ha hg (by decide +kernel) (by decide +kernel) he hpl
/-- the greatest, the least -/
def maxI : List Int → Option Int
  | [] => none
  | n :: ns => some (ns.foldl max n)
def minI : List Int → Option Int
  | [] => none
  | n :: ns => some (ns.foldl min n)
theorem fold_max : ∀ (ns : List Int) (n : Int), n ≤ ns.foldl max n ∧ (∀ y ∈ ns, y ≤ ns.foldl max n) ∧ (ns.foldl max n = n ∨ ns.foldl max n ∈ ns)
  | [], n => ⟨Int.le_refl n, fun _ h => absurd h (by simp), .inl rfl⟩
  | m :: ns, n => by
    obtain ⟨h1, h2, h3⟩ := fold_max ns (max n m)
    simp only [List.foldl_cons, List.mem_cons]
    refine ⟨by omega, fun y hy => ?_, ?_⟩
    · rcases hy with rfl | hy
      · omega
      · exact h2 y hy
    · rcases h3 with h3 | h3
      · rw [h3]
        rcases (show max n m = n ∨ max n m = m by omega) with e | e
        · exact .inl e
        · exact .inr (.inl e)
      · exact .inr (.inr h3)
theorem fold_min : ∀ (ns : List Int) (n : Int), ns.foldl min n ≤ n ∧ (∀ y ∈ ns, ns.foldl min n ≤ y) ∧ (ns.foldl min n = n ∨ ns.foldl min n ∈ ns)
  | [], n => ⟨Int.le_refl n, fun _ h => absurd h (by simp), .inl rfl⟩
  | m :: ns, n => by
    obtain ⟨h1, h2, h3⟩ := fold_min ns (min n m)
    simp only [List.foldl_cons, List.mem_cons]
    refine ⟨by omega, fun y hy => ?_, ?_⟩
    · rcases hy with rfl | hy
      · omega
      · exact h2 y hy
    · rcases h3 with h3 | h3
      · rw [h3]
        rcases (show min n m = n ∨ min n m = m by omega) with e | e
        · exact .inl e
        · exact .inr (.inl e)
      · exact .inr (.inr h3)
theorem maxI_iff {ns : List Int} {m : Int} (h : maxI ns = some m) : 0 < ns.length ∧ ∀ m', m' ∈ ns → (∀ y, y ∈ ns → y ≤ m') → m' = m := by
  cases ns with
  | nil => simp [maxI] at h
  | cons n ns =>
    simp only [maxI, Option.some.injEq] at h
    obtain ⟨h1, h2, h3⟩ := fold_max ns n
    rw [h] at h1 h2 h3
    refine ⟨by simp, fun m' hm hle => ?_⟩
    have q1 : m ≤ m' := by
      rcases h3 with rfl | h3
      · exact hle m (by simp)
      · exact hle m (by simp [h3])
    have q2 : m' ≤ m := by
      rcases List.mem_cons.mp hm with rfl | hm
      · exact h1
      · exact h2 m' hm
    omega
theorem minI_iff {ns : List Int} {m : Int} (h : minI ns = some m) : 0 < ns.length ∧ ∀ m', m' ∈ ns → (∀ y, y ∈ ns → m' ≤ y) → m' = m := by
  cases ns with
  | nil => simp [minI] at h
  | cons n ns =>
    simp only [minI, Option.some.injEq] at h
    obtain ⟨h1, h2, h3⟩ := fold_min ns n
    rw [h] at h1 h2 h3
    refine ⟨by simp, fun m' hm hle => ?_⟩
    have q1 : m' ≤ m := by
      rcases h3 with rfl | h3
      · exact hle m (by simp)
      · exact hle m (by simp [h3])
    have q2 : m ≤ m' := by
      rcases List.mem_cons.mp hm with rfl | hm
      · exact h1
      · exact h2 m' hm
    omega
/-! max of a tuple of ints -/
def rMaxT (K : PySem.W.Frag) : List V → Hp → VK → Prop := fun vs H Q => ∃ (a : Addr) (n : Int) (ns : List Int), vs = [V.ref a] ∧ SqT K H a ((n :: ns).map V.int) ∧ (n :: ns).length ≤ 100 ∧ Q (.int (ns.foldl max n)) H
theorem reads_ints {h : Heap} : ∀ {ns : List Int} {its : List Value}, Vals (ns.map V.int) its → ∃ as, ReadsAll h its (ns.map PyData.int) as
  | [], _, .nil => ⟨_, .nil⟩
  | n :: ns, _, .cons r rs => by
    obtain ⟨t, rfl⟩ := r
    obtain ⟨as, q⟩ := reads_ints (h := h) rs
    exact ⟨_, .cons (.int n t) q⟩
theorem alike_ints (ns : List Int) : PySem.W.AlikeAll (ns.map PyData.int) := by
  refine ⟨fun x hx y hy => ?_, fun x hx => ?_⟩
  · obtain ⟨i, _, rfl⟩ := List.mem_map.mp hx
    obtain ⟨j, _, rfl⟩ := List.mem_map.mp hy
    rfl
  · obtain ⟨i, _, rfl⟩ := List.mem_map.mp hx
    exact fun z => nomatch z
theorem depth_ints : ∀ ns : List Int, PyData.depthAll (ns.map PyData.int) ≤ 1
  | [] => by simp [PyData.depthAll]
  | n :: ns => by
    have := depth_ints ns
    simp only [List.map_cons, PyData.depthAll, PyData.depth]
    omega
theorem cr_maxT (hr : RoomG k X.A) (hc : X.calm = true) : CallR X (.builtin "max") (rMaxT X.K) := by
  intro pins s σ H vs us Q I r h
  obtain ⟨a, n, ns, rfl, hs, hz, q⟩ := h
  obtain ⟨its, rv, ht, _⟩ := I.tuple hs
  rw [Vals.ref1 r]
  obtain ⟨as, rd⟩ := reads_ints (h := s.heap) (ns := n :: ns) rv
  have hun := hr.rm.un
  have hd := depth_ints (n :: ns)
  refine PySem.W.max_tuple_data (x := .int n) (xs := ns.map PyData.int) (I.ok.hd hc) (show s.heap.IsTuple a its.toArray from ht) (by simpa using rd) (by simpa using alike_ints (n :: ns)) (by simp only [List.map_cons] at hd; omega) fun i v h' tk bs hv hr' keep => ?_
  rw [PySem.W.maxD_ints] at hr'
  cases hr'
  exact ⟨.int _, H, I.kept keep, ⟨_, rfl⟩, q⟩
def max1W : OpN := fun ws M => match ws with
  | [w] => match viewL M w with
    | some xs => match intsD xs with
      | some ns => match maxI ns with
        | some m => .ok (.d (.int m)) M
        | none => .stuck
      | none => .stuck
    | none => match viewT w with
      | some xs => match intsD xs with
        | some (n :: ns) => if (n :: ns).length ≤ 100 then .ok (.d (.int (ns.foldl max n))) M else .stuck
        | _ => .stuck
      | none => .stuck
  | _ => .stuck
theorem calls_max1 : CallS G (fun xs H Q => rMax G.K xs H Q ∨ rMaxT G.K xs H Q) max1W := by
  intro F θ H M ws vs Q Wx hr rw' hg
  unfold max1W at hg
  split at hg
  · rename_i w
    obtain ⟨v, rfl, rv⟩ := RepWL.one rw'
    split at hg
    · rename_i xs e
      split at hg
      · rename_i ns en
        split at hg
        · rename_i m em
          obtain ⟨a, us, rfl, h1, h2⟩ := viewL_ok hr rv e
          have := intsD_ok h2 en
          subst this
          obtain ⟨q1, q2⟩ := maxI_iff em
          refine .inl ⟨a, ns, rfl, h1, q1, fun m' hm hle => ?_⟩
          rw [q2 m' hm hle]
          exact hg F θ H (LE.refl F) (List.prefix_refl _) hr _ (by simp only [RepW, Rep])
        · exact hg.elim
      · exact hg.elim
    · split at hg
      · rename_i xs e
        split at hg
        · rename_i n ns en
          split at hg
          · rename_i hz
            obtain ⟨a, us, rfl, h1, h2⟩ := viewT_ok hr rv e
            have := intsD_ok h2 en
            subst this
            exact .inr ⟨a, n, ns, rfl, h1, hz, hg F θ H (LE.refl F) (List.prefix_refl _) hr _ (by simp only [RepW, Rep])⟩
          · exact hg.elim
        · exact hg.elim
      · exact hg.elim
  · exact hg.elim
theorem CallR.or' {f : Value} {r r' : List V → Hp → VK → Prop} (h : CallR X f r) (h' : CallR X f r') : CallR X f (fun xs H Q => r xs H Q ∨ r' xs H Q) := by
  intro pins s σ H xs us Q I rx q
  rcases q with q | q
  · exact h pins s σ H xs us Q I rx q
  · exact h' pins s σ H xs us Q I rx q
theorem pu_max1 (hr : RoomG k X.A) (hc : X.calm = true) (hm : X.mg "max" = none) (ha : PUA G X [e] t fs) (hK : X.K = G.K := by rfl) (hg : L2.Gl X "max" := by rfl) (he : starEach (e :: []) X.env = (false, eval e X.env) :: starEach [] X.env := by rfl) (hpl : (backTo pos (starEach [] X.env)).any (·.1) = false := by rfl) :
    PU G X (.Call (.Name "max" p) [e] [] pos) (fun Wx => tCB (fun xs H Q => rMax G.K xs H Q ∨ rMaxT G.K xs H Q) (t Wx)) (eA max1W fs) := pu_callB (hK ▸ CallR.or' (cr_max hc) (cr_maxT hr hc)) calls_max1 hm (by decide +kernel) ha hg (by decide +kernel) (by decide +kernel) he hpl
def min1W : OpN := fun ws M => match ws with
  | [w] => match viewL M w with
    | some xs => match intsD xs with
      | some ns => match minI ns with
        | some m => .ok (.d (.int m)) M
        | none => .stuck
      | none => .stuck
    | none => .stuck
  | _ => .stuck
theorem calls_min1 : CallS G (rMin G.K) min1W := by
  intro F θ H M ws vs Q Wx hr rw' hg
  unfold min1W at hg
  split at hg
  · rename_i w
    obtain ⟨v, rfl, rv⟩ := RepWL.one rw'
    split at hg
    · rename_i xs e
      split at hg
      · rename_i ns en
        split at hg
        · rename_i m em
          obtain ⟨a, us, rfl, h1, h2⟩ := viewL_ok hr rv e
          have := intsD_ok h2 en
          subst this
          obtain ⟨q1, q2⟩ := minI_iff em
          refine ⟨a, ns, rfl, h1, q1, fun m' hm hle => ?_⟩
          rw [q2 m' hm hle]
          exact hg F θ H (LE.refl F) (List.prefix_refl _) hr _ (by simp only [RepW, Rep])
        · exact hg.elim
      · exact hg.elim
    · exact hg.elim
  · exact hg.elim
theorem pu_min1 (hc : X.calm = true) (hm : X.mg "min" = none) (ha : PUA G X [e] t fs) (hK : X.K = G.K := by rfl) (hg : L2.Gl X "min" := by rfl) (he : starEach (e :: []) X.env = (false, eval e X.env) :: starEach [] X.env := by rfl) (hpl : (backTo pos (starEach [] X.env)).any (·.1) = false := by rfl) :
    PU G X (.Call (.Name "min" p) [e] [] pos) (fun Wx => tCB (rMin G.K) (t Wx)) (eA min1W fs) := pu_callB (hK ▸ cr_min hc) calls_min1 hm (by decide +kernel) ha hg (by decide +kernel) (by decide +kernel) he hpl
/-! max of three -/
abbrev rMax3A : List V → Hp → VK → Prop := fun xs H Q => ∃ i j l, xs = [.int i, .int j, .int l] ∧ Q (.int (max (max i j) l)) H
theorem call_max3 (hc : X.calm = true) : CallR X (.builtin "max") rMax3A := by
  intro pins s σ H xs us Q I r h
  obtain ⟨i, j, l, rfl, q⟩ := h
  obtain ⟨u1, u2, u3, rfl, ⟨t1, rfl⟩, ⟨t2, rfl⟩, ⟨t3, rfl⟩⟩ : ∃ u1 u2 u3, us = [u1, u2, u3] ∧ RelV (V.int i) u1 ∧ RelV (V.int j) u2 ∧ RelV (V.int l) u3 := by
    cases r with
    | cons a r => cases r with
      | cons b r => cases r with
        | cons c r => cases r; exact ⟨_, _, _, rfl, a, b, c⟩
  refine PySem.max_three_ints (I.ok.hd hc) fun h' tk keep => ?_
  refine ⟨.int _, H, I.kept keep, ?_, q⟩
  by_cases h1 : j > i
  · by_cases h2 : l > j
    · rw [if_pos h1, if_pos h2, show max (max i j) l = l by omega]; exact ⟨_, rfl⟩
    · rw [if_pos h1, if_neg h2, show max (max i j) l = j by omega]; exact ⟨_, rfl⟩
  · by_cases h2 : l > i
    · rw [if_neg h1, if_pos h2, show max (max i j) l = l by omega]; exact ⟨_, rfl⟩
    · rw [if_neg h1, if_neg h2, show max (max i j) l = i by omega]; exact ⟨_, rfl⟩
def max3W : OpN := fun ws M => match ws with
  | [.d (.int i), .d (.int j), .d (.int l)] => .ok (.d (.int (max (max i j) l))) M
  | _ => .stuck
theorem calls_max3 : CallS G rMax3A max3W := by
  intro F θ H M ws vs Q Wx hr rw' hg
  unfold max3W at hg
  split at hg
  · rename_i i j l
    obtain ⟨v, r, rfl, rv, r2⟩ := rw'
    obtain ⟨u, z, rfl, ru, rz⟩ := RepWL.two r2
    simp only [RepW, Rep] at rv ru rz
    subst rv ru rz
    exact ⟨i, j, l, rfl, hg F θ H (LE.refl F) (List.prefix_refl _) hr _ (by simp only [RepW, Rep])⟩
  · exact hg.elim
theorem pu_max3 {e3 : Expr} (hc : X.calm = true) (hm : X.mg "max" = none) (ha : PUA G X [e, e2, e3] t fs) (hg : L2.Gl X "max" := by rfl) (he : starEach (e :: [e2, e3]) X.env = (false, eval e X.env) :: starEach [e2, e3] X.env := by rfl) (hpl : (backTo pos (starEach [e2, e3] X.env)).any (·.1) = false := by rfl) :
    PU G X (.Call (.Name "max" p) [e, e2, e3] [] pos) (fun Wx => tCB rMax3A (t Wx)) (eA max3W fs) := pu_callB (call_max3 hc) calls_max3 hm (by decide +kernel) ha hg (by decide +kernel) (by decide +kernel) he hpl
/-! xs[::-1], a list -/
def revW : Op1 := fun M x => match viewL M x with
  | some xs => .ok (.d (.lst xs.reverse)) M
  | none => .stuck
theorem RepL.rev {F : Hp} : ∀ {ds : List D} {vs : List V}, RepL G F ds vs → RepL G F ds.reverse vs.reverse
  | [], _, h => by simp only [RepL] at h; subst h; exact RepL.nil
  | d :: ds, _, h => by
    simp only [RepL] at h
    obtain ⟨v, r, rfl, h1, h2⟩ := h
    rw [List.reverse_cons, List.reverse_cons]
    exact (RepL.rev h2).append (RepL.one h1)
theorem pu_rev (he : PU G X e te fe) (hK : X.K = G.K := by rfl) : PU G X (.Subscript e (.Slice none none (some (.UnaryOp .USub (.Constant (.int 1) kk p1) p2)) p3) pos) (fun Wx => tRevL G.K (te Wx)) (e1 revW fe) := by
  refine ⟨fun Wx tk => hK ▸ pe_revL (he.pe Wx tk), ?_⟩
  intro Wx F θ σ H ρ M Q sr hg
  refine he.sem Wx F θ σ H ρ M _ sr (Good.seq hg fun x M1 F1 θ1 H1 _ l1 q1 hr1 hg1 v rv => ?_)
  unfold revW at hg1
  split at hg1
  · rename_i xs e
    obtain ⟨a, us, rfl, h1, h2⟩ := viewL_ok hr1 rv e
    refine ⟨a, us, rfl, h1, fun p hp => ?_⟩
    obtain ⟨hr', le⟩ := hr1.alloc hp (.lst us.reverse)
    refine hg1 _ θ1 _ le (List.prefix_refl _) hr' _ ?_
    simp only [RepW, Rep]
    exact ⟨p, _, rfl, upd_same, RepL.rev (h2.mono le)⟩
  · exact hg1.elim
/-! ### a list that is changed no more becomes data -/
def sFrz (i : Nat) (g : Sv) : Sv := fun ρ M => match ρ[i]? with
  | some (some (.cell k)) => match M[k]? with
    | some (.lst xs) => g (ρ.set i (some (.d (.lst xs)))) (M.set k .dead)
    | _ => g ρ M
  | _ => g ρ M
theorem sem_frz {i : Nat} {st : L2.WX → TS} {g : Sv} (h : SemS G st g) : SemS G st (sFrz i g) := by
  intro Wx F θ σ H ρ M D sr hg
  unfold sFrz at hg
  split at hg
  · rename_i k ek
    split at hg
    · rename_i xs ex
      obtain ⟨v, hv, a, ha, rfl⟩ := sr.sl i _ ek
      obtain ⟨hF, vs, hH, rl⟩ := sr.hr.cell k a _ ha ex
      obtain ⟨hr3, le⟩ := sr.hr.freeze ha hF hH
      have sr3 := (sr.mono le (List.prefix_refl _) hr3).set (i := i) (w := .d (.lst xs)) (v := .ref a) (by
        simp only [RepW, Rep]
        exact ⟨a, vs, rfl, upd_same, rl.mono le⟩)
      have e : σ.set i (some (.ref a)) = σ := by
        obtain ⟨hl, hx⟩ := List.getElem?_eq_some_iff.mp hv
        rw [← hx]
        exact List.set_getElem_self hl
      rw [e] at sr3
      exact h Wx _ θ σ H _ _ D sr3 (hg.up le (List.prefix_refl _))
    · exact h Wx F θ σ H ρ M D sr hg
  · exact h Wx F θ σ H ρ M D sr hg
theorem pus_frz (i : Nat) {s : Stmt} {st : L2.WX → TS} {g : Sv} (h : PUS G X s st g) : PUS G X s st (sFrz i g) := ⟨h.pe, sem_frz h.sem⟩
end
end PU
set_option Elab.async false
set_option linter.all false
set_option maxRecDepth 100000
set_option maxHeartbeats 4000000
namespace PU
open PySem PySem.Spec PyProof.Rows L2 RZ
section
variable {G : Glo} {X : Cx} {pos : Pos} {tg e : Expr} {te : L2.WX → TE} {fe : Ev} {tt : TG} {gg : Gv} {t : L2.WX → TS} {g : Sv} {body : List Stmt}
/-! ### for over a list that goes on being changed: read anew at each step -/
def forC (n0 k : Nat) (g : Gv) (b : Sv) : Nat → Nat → Sv
  | 0, _, _, _ => .stuck
  | m + 1, i, ρ, M => match M[k]? with
    | some (.lst xs) => match xs[i]? with
      | some d => (g (.d d) ρ M).bindG fun ρ1 M1 => again n0 (forC n0 k g b m (i + 1)) (b ρ1 M1)
      | none => .go .nx ρ M
    | _ => .stuck
def sForC (f : Ev) (g : Gv) (b : Sv) : Sv := fun ρ M => (f ρ M).bindS ρ fun w M1 => match w with
  | .cell k => forC M1.length k g b 1048576 0 ρ M1
  | _ => .stuck
theorem sem_forC (he : SemE G te fe) (hg' : SemG G tt gg) (hb : SemS G t g) : SemS G (fun Wx => tFor (iList G.K (te Wx)) tt (t Wx)) (sForC fe gg g) := by
  intro Wx F θ σ H ρ M D sr hg
  refine he Wx F θ σ H ρ M _ sr (GoodS.seqE sr hg fun w M1 F1 θ1 H1 _ l1 p1 sr1 hg1 v rv => ?_)
  split at hg1
  · rename_i k _
    obtain ⟨a, ha, rfl⟩ := rv
    have hsq : ∃ xs, SqL G.K H1 a xs := by
      unfold forC at hg1
      split at hg1
      · rename_i xs ex
        obtain ⟨hF, vs, hH, rl⟩ := sr1.hr.cell k a _ ha ex
        exact ⟨vs, SqL.of hH⟩
      · exact hg1.elim
    refine ⟨a, rfl, hsq, fun i m σ H => Btw G F1 θ1 D Wx σ H (forC M1.length k gg g m i), ⟨_, F1, ρ, M1, LE.refl F1, sr1, hg1⟩, ?_⟩
    rintro i m σ2 H2 ⟨F2, ρ2, M2, l2, sr2, hg2⟩
    cases m with
    | zero => exact hg2.elim
    | succ m =>
      unfold forC at hg2
      split at hg2
      · rename_i xs ex
        obtain ⟨hF, vs, hH, rl⟩ := sr2.hr.cell k a _ ha ex
        have q : SqL G.K H2 a vs := SqL.of hH
        split at hg2
        · rename_i d hd
          obtain ⟨v, hv, rv⟩ := rl.get hd
          refine .inr ⟨⟨vs, v, q, hv⟩, fun σ' H' => Btw G F1 θ1 D Wx σ' H' (forC M1.length k gg g m (i + 1)), fun σ' H' q => ⟨m, Nat.lt_succ_self _, q⟩, fun x H3 hy => ?_⟩
          obtain ⟨rfl, hy⟩ := hy
          have hx := hy vs q
          rw [hv] at hx
          cases hx
          refine hg' Wx F2 θ1 σ2 H3 ρ2 M2 (.d d) v _ sr2 (by simpa only [RepW] using rv) ?_
          cases e : gg (.d d) ρ2 M2 with
          | stuck => rw [e] at hg2; exact hg2
          | exc y M3 =>
            rw [e] at hg2
            exact hg2
          | ok ρ3 M3 =>
            rw [e] at hg2
            intro F4 θ4 σ4 H4 l4 p4 sr4
            exact hb Wx F4 θ4 σ4 H4 ρ3 M3 _ sr4 (again_ok sr1.hr.len l2 l4 p4 (fun _ _ q => q) hg2)
        · rename_i hd
          refine .inl ⟨⟨vs, q, ?_⟩, hg2 F2 θ1 σ2 H2 (LE.refl F2) (List.prefix_refl _) sr2⟩
          rw [rl.length]
          exact List.getElem?_eq_none_iff.mp hd
      · exact hg2.elim
  · exact hg1.elim
theorem pus_forC (hp : PassesOwn (model X.prog X.w) X.A X.env X.xe) (he : PU G X e te fe) (hg : PUG G X tg tt gg) (hb : PUSs G X body t g) (hK : X.K = G.K := by rfl) (hs : ∀ x, foldedSetIterable e X.env x = pure x := by intro _; rfl) (hc : X.calm = true) : PUS G X (.For tg e body [] pos) (fun Wx => tFor (iList G.K (te Wx)) tt (t Wx)) (sForC fe gg g) :=
  ⟨fun Wx tk => ps_for hp hc (hK ▸ pi_list (he.pe Wx tk)) hg.pe (hb.pe Wx tk) hs, sem_forC he.sem hg.sem hb.sem⟩
end
end PU
set_option Elab.async false
set_option linter.all false
set_option maxRecDepth 100000
set_option maxHeartbeats 4000000
namespace PU
open PySem PySem.Spec PyProof.Rows L2 RZ
section
variable {G : Glo} {X : Cx} {pos pos' p apos cpos : Pos} {o i e f : Expr} {to ti te tf : L2.WX → TE} {fo fi fe ff : Ev} {k : Nat}
/-! ### a new dict: keys ints and texts; keys tuples -/
def eNewK : Ev := fun _ M => .ok (.cell M.length) (M ++ [.dct [] []])
def eNewT : Ev := fun _ M => .ok (.cell M.length) (M ++ [.dcT [] []])
theorem hF_of {F H : Hp} {θ : List Addr} {M : Mem} (h : HR G F θ H M) {q : Addr} (hq : H q = none) : F q = none := by
  cases e : F q with
  | none => rfl
  | some u => have := h.sub q u e; rw [hq] at this; cases this
theorem pu_newK : PU G X (.Dict [] [] pos) (fun _ => tDNewK) eNewK := by
  refine ⟨fun Wx tk => pe_dnewK, ?_⟩
  intro Wx F θ σ H ρ M Q sr hg q hq
  have hr1 := sr.hr.push (c := .dct [] []) hq (o := .dK []) ⟨hF_of sr.hr hq, [], upd_same, rfl, RepL.nil⟩
  refine hg F (θ ++ [q]) _ (LE.refl F) (List.prefix_append θ [q]) hr1 _ ⟨q, ?_, rfl⟩
  rw [← sr.hr.len]; simp
theorem pu_newT : PU G X (.Dict [] [] pos) (fun _ => tDNewT) eNewT := by
  refine ⟨fun Wx tk => pe_dnewT, ?_⟩
  intro Wx F θ σ H ρ M Q sr hg q hq
  have hr1 := sr.hr.push (c := .dcT [] []) hq (o := .dT []) ⟨hF_of sr.hr hq, [], upd_same, rfl, RepL.nil⟩
  refine hg F (θ ++ [q]) _ (LE.refl F) (List.prefix_append θ [q]) hr1 _ ⟨q, ?_, rfl⟩
  rw [← sr.hr.len]; simp
/-! ### d[k] = v -/
section
variable {κ : Type} [DecidableEq κ]
def hasKs (fk : D → Option κ) (ks : List D) (kk : κ) : Bool := ks.any fun d => decide (fk d = some kk)
def putVs (fk : D → Option κ) (kk : κ) (x : D) : List D → List D → List D
  | d :: ks, v :: vs => (if fk d = some kk then x else v) :: putVs fk kk x ks vs
  | _, vs => vs
theorem has_ok {fk : D → Option κ} {kk : κ} : ∀ {ks : List D} {ps : List (κ × V)}, ks.map fk = ps.map (fun p => some p.1) → hasKs fk ks kk = ps.any fun kv => decide (kv.1 = kk)
  | [], [], _ => rfl
  | [], _ :: _, h => by simp at h
  | _ :: _, [], h => by simp at h
  | d :: ks, q :: ps, h => by
    simp only [List.map_cons, List.cons.injEq] at h
    have ih := has_ok (kk := kk) h.2
    unfold hasKs at ih ⊢
    rw [List.any_cons, List.any_cons, ih, h.1]
    congr 1
    simp
theorem putVs_ok {F : Hp} {fk : D → Option κ} {kk : κ} {x : D} {v : V} (rx : Rep G F x v) : ∀ {ks vs : List D} {ps : List (κ × V)}, ks.map fk = ps.map (fun p => some p.1) → RepL G F vs (ps.map (·.2)) → RepL G F (putVs fk kk x ks vs) ((ps.map fun kv => if kv.1 = kk then (kv.1, v) else kv).map (·.2))
  | [], vs, [], _, r => by simpa [putVs] using r
  | [], _, _ :: _, h, _ => by simp at h
  | _ :: _, _, [], h, _ => by simp at h
  | d :: ks, [], q :: ps, h, r => by simp [RepL] at r
  | d :: ks, y :: vs, q :: ps, h, r => by
    simp only [List.map_cons, List.cons.injEq] at h
    simp only [List.map_cons, RepL] at r
    obtain ⟨z, ur, e, r1, r2⟩ := r
    simp only [List.cons.injEq] at e
    obtain ⟨rfl, rfl⟩ := e
    have ih := putVs_ok rx (kk := kk) h.2 r2
    unfold putVs
    simp only [List.map_cons]
    by_cases c : q.1 = kk
    · rw [if_pos (by rw [h.1, c]), if_pos c]
      exact RepL.cons rx ih
    · rw [if_neg (by rw [h.1]; exact fun z => c (Option.some.inj z)), if_neg c]
      exact RepL.cons r1 ih
theorem put_ok {F : Hp} {fk : D → Option κ} {kk : κ} {x y : D} {v : V} (rx : Rep G F x v) (hy : fk y = some kk) {ks vs : List D} {ps : List (κ × V)} (h : ks.map fk = ps.map (fun p => some p.1)) (r : RepL G F vs (ps.map (·.2))) :
    (if hasKs fk ks kk then ks else ks ++ [y]).map fk = (putK ps kk v).map (fun p => some p.1) ∧ RepL G F (if hasKs fk ks kk then putVs fk kk x ks vs else vs ++ [x]) ((putK ps kk v).map (·.2)) := by
  have e := has_ok (kk := kk) h
  unfold putK
  by_cases c : (ps.any fun kv => decide (kv.1 = kk)) = true
  · rw [if_pos c, e, c]
    simp only [if_true]
    refine ⟨?_, putVs_ok rx h r⟩
    rw [h, List.map_map]
    apply List.map_congr_left
    intro q hq
    simp only [Function.comp]
    split <;> rfl
  · rw [if_neg c, e]
    simp only [c, if_false, Bool.false_eq_true]
    refine ⟨by rw [List.map_append, List.map_append, h]; simp [hy], ?_⟩
    rw [List.map_append]
    exact r.append (RepL.cons rx RepL.nil)
end
def gvSubD (fo fi : Ev) : Gv := fun w ρ M => (noX (fo ρ M)).bind fun o M1 => (noX (fi ρ M1)).bind fun i M2 => match o, i, w with
  | .cell k, .d y, .d x => match M2[k]? with
    | some (.dct ks vs) => match keyD y with
      | some kk => if ks.length < sizeLine then .ok ρ (M2.set k (.dct (if hasKs keyD ks kk then ks else ks ++ [y]) (if hasKs keyD ks kk then putVs keyD kk x ks vs else vs ++ [x]))) else .stuck
      | none => .stuck
    | some (.dcT ks vs) => match keyT y with
      | some kk => if ks.length < sizeLine then .ok ρ (M2.set k (.dcT (if hasKs keyT ks kk then ks else ks ++ [y]) (if hasKs keyT ks kk then putVs keyT kk x ks vs else vs ++ [x]))) else .stuck
      | none => .stuck
    | _ => .stuck
  | _, _, _ => .stuck
theorem pug_subD (hr : RoomG k X.A) (ho : PU G X o to fo) (hi : PU G X i ti fi)
    (ha : ∀ v, assign (.Subscript o i pos) X.env v = (do
      let ov ← holding [v] (eval o X.env)
      let iv ← holding [v, ov] (eval i X.env)
      standAt pos
      holding [v, ov, iv] (setItem ov iv v)
      release [v, ov, iv] []) := by intro _; rfl) : PUG G X (.Subscript o i pos) (gSub (to WF) (ti WF) rSetD) (gvSubD fo fi) := by
  refine ⟨pg_sub (ho.pe WF takes0) (hi.pe WF takes0) (set_dict (by have := hr.rm.un; omega)) ha, ?_⟩
  intro Wx F θ σ H ρ M w v Q sr rv hg
  refine ho.sem WF F θ σ H ρ M _ sr (GoodG.seq (Wx := Wx) hg fun x M1 F1 θ1 H1 eq1 l1 p1 hr1 hg1 u ru => ?_)
  refine hi.sem WF F1 θ1 σ H1 ρ M1 _ (sr.mono l1 p1 hr1) (GoodG.seq (Wx := Wx) hg1 fun y M2 F2 θ2 H2 eq2 l2 p2 hr2 hg2 z rz => ?_)
  clear eq1 eq2
  split at hg2
  · rename_i kx y x
    have rd : Rep G F2 x v := (rv.mono l1 p1).mono l2 p2
    obtain ⟨a, ha, rfl⟩ := ru.mono l2 p2
    split at hg2
    · rename_i ks vs e
      obtain ⟨hF, ps, hH, h1, h2⟩ := hr2.cell kx a _ ha e
      split at hg2
      · rename_i kk hk
        split at hg2
        · rename_i hl
          have hz : z = kV kk := keyW_l (M := M2) rz (by cases y <;> simp [keyD] at hk <;> subst hk <;> rfl)
          subst hz
          obtain ⟨e1, e2⟩ := put_ok rd hk h1 h2
          have hl2 : ps.length < sizeLine := by
            have := congrArg List.length h1
            simp at this
            omega
          refine ⟨a, _, rfl, DPut.k hH hl2, ?_⟩
          exact hg2 F2 θ2 σ _ (LE.refl _) (List.prefix_refl _) ((sr.mono l1 p1 hr1).mono l2 p2 (hr2.write ha hF ⟨hF, _, upd_same, e1, e2⟩))
        · exact hg2.elim
      · exact hg2.elim
    · rename_i ks vs e
      obtain ⟨hF, ps, hH, h1, h2⟩ := hr2.cell kx a _ ha e
      split at hg2
      · rename_i kk hk
        split at hg2
        · rename_i hl
          obtain ⟨b, rfl, hb⟩ : ∃ b, z = .ref b ∧ H2 b = some (.tup (kk.map kV)) := keyW_r hr2 rz (by cases y <;> simp [keyT] at hk; simp [keyW, keyD, keyT, hk])
          obtain ⟨e1, e2⟩ := put_ok rd hk h1 h2
          have hl2 : ps.length < sizeLine := by
            have := congrArg List.length h1
            simp at this
            omega
          refine ⟨a, _, rfl, DPut.t hH hb hl2, ?_⟩
          exact hg2 F2 θ2 σ _ (LE.refl _) (List.prefix_refl _) ((sr.mono l1 p1 hr1).mono l2 p2 (hr2.write ha hF ⟨hF, _, upd_same, e1, e2⟩))
        · exact hg2.elim
      · exact hg2.elim
    · exact hg2.elim
  · exact hg2.elim
/-! ### d.get(k), d.get(k, x) -/
theorem find_k0 : ∀ {ks vs : List D} {ps : List (Key × V)} {kk : Key}, ks.map keyD = ps.map (fun p => some p.1) → vs.length = ps.length → findD ks vs kk = none → valV ps kk = none
  | [], _, [], _, _, _, _ => rfl
  | [], _, _ :: _, _, h, _, _ => by simp at h
  | _ :: _, _, [], _, h, _, _ => by simp at h
  | d :: ks, [], q :: ps, _, _, h, _ => by simp at h
  | d :: ks, y :: vs, q :: ps, kk, h, hl, e => by
    simp only [List.map_cons, List.cons.injEq] at h
    simp only [List.length_cons, Nat.add_right_cancel_iff] at hl
    unfold findD at e
    split at e
    · cases e
    · rename_i hk
      rw [h.1] at hk
      exact (valV_neg (fun z => hk (congrArg some z))).trans (find_k0 h.2 hl e)
theorem find_t0 : ∀ {ks vs : List D} {ps : List (List Key × V)} {kk : List Key}, ks.map keyT = ps.map (fun p => some p.1) → vs.length = ps.length → findT ks vs kk = none → valV ps kk = none
  | [], _, [], _, _, _, _ => rfl
  | [], _, _ :: _, _, h, _, _ => by simp at h
  | _ :: _, _, [], _, h, _, _ => by simp at h
  | d :: ks, [], q :: ps, _, _, h, _ => by simp at h
  | d :: ks, y :: vs, q :: ps, kk, h, hl, e => by
    simp only [List.map_cons, List.cons.injEq] at h
    simp only [List.length_cons, Nat.add_right_cancel_iff] at hl
    unfold findT at e
    split at e
    · cases e
    · rename_i hk
      rw [h.1] at hk
      exact (valV_neg (fun z => hk (congrArg some z))).trans (find_t0 h.2 hl e)
def odOk (G : Glo) (F : Hp) (od : Option D) (o : Option V) : Prop := match od with
  | some d => ∃ z, o = some z ∧ Rep G F d z
  | none => o = none
def isDW (M : Mem) : W → Bool
  | .cell k => match M[k]? with
    | some (.dct _ _) => true
    | some (.dcT _ _) => true
    | _ => false
  | .d (.dct _ _) => true
  | _ => false
/-- what stands at a key, or not -/
def getOW (M : Mem) (x y : W) : Option (Option D) := match x, keyW M y with
  | .cell k, some (.inl kk) => match M[k]? with
    | some (.dct ks vs) => some (findD ks vs kk)
    | _ => none
  | .cell k, some (.inr kk) => match M[k]? with
    | some (.dcT ks vs) => some (findT ks vs kk)
    | _ => none
  | .d (.dct (d :: ks) vs), some (.inl kk) => if (keyD d).isSome then some (findD (d :: ks) vs kk) else none
  | .d (.dct (d :: ks) vs), some (.inr kk) => if (keyT d).isSome then some (findT (d :: ks) vs kk) else none
  | _, _ => none
theorem isDW_ok {F : Hp} {θ : List Addr} {H : Hp} {M : Mem} (hr : HR G F θ H M) {x : W} {v : V} (r : RepW G F θ x v) (h : isDW M x = true) : ∃ a, v = .ref a ∧ IsD H a := by
  cases x with
  | cell k =>
    obtain ⟨a, ha, rfl⟩ := r
    unfold isDW at h
    simp only at h
    split at h
    · rename_i ks vs e
      obtain ⟨_, ps, hH, _⟩ := hr.cell k a _ ha e
      exact ⟨a, rfl, .inl ⟨ps, .inl hH⟩⟩
    · rename_i ks vs e
      obtain ⟨_, ps, hH, _⟩ := hr.cell k a _ ha e
      exact ⟨a, rfl, .inr ⟨ps, .inl hH⟩⟩
    · cases h
  | d x =>
    cases x <;> simp only [isDW, Bool.false_eq_true] at h
    rename_i ks vs
    have hv : viewD M (.d (.dct ks vs)) = some (ks, vs) := rfl
    obtain ⟨a, us, rfl, _, r2⟩ := viewD_ok hr r hv
    rcases r2 with ⟨ps, h1, _⟩ | ⟨ps, h1, _⟩
    · exact ⟨a, rfl, .inl ⟨ps, h1⟩⟩
    · exact ⟨a, rfl, .inr ⟨ps, h1⟩⟩
theorem getOW_ok {F : Hp} {θ : List Addr} {H : Hp} {M : Mem} (hr : HR G F θ H M) {x y : W} {v u : V} {od : Option D} (rx : RepW G F θ x v) (ry : RepW G F θ y u) (h : getOW M x y = some od) :
    ∃ a o, v = .ref a ∧ DGet H a u o ∧ odOk G F od o := by
  unfold getOW at h
  split at h
  · rename_i k kk hk
    obtain ⟨a, ha, rfl⟩ := rx
    split at h
    · rename_i ks vs e
      obtain ⟨_, ps, hH, h1, h2⟩ := hr.cell k a _ ha e
      have hu : u = kV kk := keyW_l ry hk
      subst hu
      cases h
      refine ⟨a, valV ps kk, rfl, .inl ⟨ps, kk, .inl hH, rfl, rfl⟩, ?_⟩
      cases hf : findD ks vs kk with
      | some d =>
        obtain ⟨z, hz, rz⟩ := find_k h2 h1 rfl hf
        exact ⟨z, hz, rz⟩
      | none => exact find_k0 h1 (by have := h2.length; simp at this; omega) hf
    · cases h
  · rename_i k kk hk
    obtain ⟨a, ha, rfl⟩ := rx
    split at h
    · rename_i ks vs e
      obtain ⟨_, ps, hH, h1, h2⟩ := hr.cell k a _ ha e
      obtain ⟨b, rfl, hb⟩ : ∃ b, u = .ref b ∧ H b = some (.tup (kk.map kV)) := keyW_r hr ry hk
      cases h
      refine ⟨a, valV ps kk, rfl, .inr ⟨ps, kk, b, .inl hH, rfl, hb, rfl⟩, ?_⟩
      cases hf : findT ks vs kk with
      | some d =>
        obtain ⟨z, hz, rz⟩ := find_t h2 h1 rfl hf
        exact ⟨z, hz, rz⟩
      | none => exact find_t0 h1 (by have := h2.length; simp at this; omega) hf
    · cases h
  · rename_i d ks vs kk hk
    split at h
    · rename_i hs
      have hv : viewD M (.d (.dct (d :: ks) vs)) = some (d :: ks, vs) := rfl
      obtain ⟨a, us, rfl, r1, r2⟩ := viewD_ok hr rx hv
      have hu : u = kV kk := keyW_l ry hk
      subst hu
      cases h
      rcases r2 with ⟨ps, h1, h2, h3⟩ | ⟨ps, h1, h2, h3⟩
      · refine ⟨a, valV ps kk, rfl, .inl ⟨ps, kk, h1, rfl, rfl⟩, ?_⟩
        cases hf : findD (d :: ks) vs kk with
        | some d =>
          obtain ⟨z, hz, rz⟩ := find_k r1 h2 h3 hf
          exact ⟨z, hz, rz⟩
        | none => exact find_k0 h2 (by have := r1.length; rw [← h3] at this; simp at this; omega) hf
      · exfalso
        cases ps with
        | nil => simp at h2
        | cons q ps =>
          simp only [List.map_cons, List.cons.injEq] at h2
          have := h2.1
          cases d <;> simp [keyT] at this <;> simp [keyD] at hs
    · cases h
  · rename_i d ks vs kk hk
    split at h
    · rename_i hs
      have hv : viewD M (.d (.dct (d :: ks) vs)) = some (d :: ks, vs) := rfl
      obtain ⟨a, us, rfl, r1, r2⟩ := viewD_ok hr rx hv
      obtain ⟨b, rfl, hb⟩ : ∃ b, u = .ref b ∧ H b = some (.tup (kk.map kV)) := keyW_r hr ry hk
      cases h
      rcases r2 with ⟨ps, h1, h2, h3⟩ | ⟨ps, h1, h2, h3⟩
      · exfalso
        cases ps with
        | nil => simp at h2
        | cons q ps =>
          simp only [List.map_cons, List.cons.injEq] at h2
          have := h2.1
          cases d <;> simp [keyD] at this <;> simp [keyT] at hs
      · refine ⟨a, valV ps kk, rfl, .inr ⟨ps, kk, b, h1, rfl, hb, rfl⟩, ?_⟩
        cases hf : findT (d :: ks) vs kk with
        | some d =>
          obtain ⟨z, hz, rz⟩ := find_t r1 h2 h3 hf
          exact ⟨z, hz, rz⟩
        | none => exact find_t0 h2 (by have := r1.length; rw [← h3] at this; simp at this; omega) hf
    · cases h
  · cases h
def eGet1 (fo fe : Ev) : Ev := fun ρ M => (fo ρ M).bind fun x M1 => if isDW M1 x then (fe ρ M1).bind fun y M2 => match getOW M2 x y with
  | some (some d) => .ok (.d d) M2
  | some none => .ok (.d .non) M2
  | none => .stuck
  else .stuck
def eGet2 (fo fe ff : Ev) : Ev := fun ρ M => (fo ρ M).bind fun x M1 => if isDW M1 x then (fe ρ M1).bind fun y M2 => (ff ρ M2).bind fun z M3 => match getOW M3 x y with
  | some (some d) => .ok (.d d) M3
  | some none => .ok z M3
  | none => .stuck
  else .stuck
theorem pu_get2 (hr : RoomG k X.A) (ho : PU G X o to fo) (he : PU G X e te fe) (hf : PU G X f tf ff) (m : M2 X o "get" apos e f cpos := by exact ⟨by rfl, by rfl, by rfl, by rfl⟩) : PU G X (.Call (.Attribute o "get" apos) [e, f] [] cpos) (fun Wx => tDGet2 (to Wx) (te Wx) (tf Wx)) (eGet2 fo fe ff) := by
  refine ⟨fun Wx tk => pe_dget2 (by have := hr.rm.un; omega) (ho.pe Wx tk) (he.pe Wx tk) (hf.pe Wx tk) m, ?_⟩
  intro Wx F θ σ H ρ M Q sr hg
  refine ho.sem Wx F θ σ H ρ M _ sr (Good.seq hg fun x M1 F1 θ1 H1 _ l1 p1 hr1 hg1 v rv => ?_)
  split at hg1
  · rename_i hd
    obtain ⟨a, rfl, hd⟩ := isDW_ok hr1 rv hd
    refine ⟨a, rfl, hd, ?_⟩
    refine he.sem Wx F1 θ1 σ H1 ρ M1 _ (sr.mono l1 p1 hr1) (Good.seq hg1 fun y M2 F2 θ2 H2 _ l2 p2 hr2 hg2 u ru => ?_)
    refine hf.sem Wx F2 θ2 σ H2 ρ M2 _ ((sr.mono l1 p1 hr1).mono l2 p2 hr2) (Good.seq hg2 fun z M3 F3 θ3 H3 _ l3 p3 hr3 hg3 w rw' => ?_)
    cases hx : getOW M3 x y with
    | none => rw [hx] at hg3; exact hg3.elim
    | some od =>
      rw [hx] at hg3
      obtain ⟨a', ov, ea, g, r⟩ := getOW_ok hr3 ((rv.mono l2 p2).mono l3 p3) (ru.mono l3 p3) hx
      cases ea
      refine ⟨ov, g, ?_⟩
      cases od with
      | some d =>
        obtain ⟨z', rfl, rz⟩ := r
        exact hg3 F3 θ3 H3 (LE.refl _) (List.prefix_refl _) hr3 _ (by simp only [RepW, Option.getD_some]; exact rz)
      | none =>
        subst r
        exact hg3 F3 θ3 H3 (LE.refl _) (List.prefix_refl _) hr3 _ rw'
  · exact hg1.elim
theorem pu_get1 (hr : RoomG k X.A) (ho : PU G X o to fo) (he : PU G X e te fe) (m : M1 X o "get" apos e cpos := by exact ⟨by rfl, by rfl, by rfl, by rfl⟩) : PU G X (.Call (.Attribute o "get" apos) [e] [] cpos) (fun Wx => tDGet1 (to Wx) (te Wx)) (eGet1 fo fe) := by
  refine ⟨fun Wx tk => pe_dget1 (by have := hr.rm.un; omega) (ho.pe Wx tk) (he.pe Wx tk) m, ?_⟩
  intro Wx F θ σ H ρ M Q sr hg
  refine ho.sem Wx F θ σ H ρ M _ sr (Good.seq hg fun x M1 F1 θ1 H1 _ l1 p1 hr1 hg1 v rv => ?_)
  split at hg1
  · rename_i hd
    obtain ⟨a, rfl, hd⟩ := isDW_ok hr1 rv hd
    refine ⟨a, rfl, hd, ?_⟩
    refine he.sem Wx F1 θ1 σ H1 ρ M1 _ (sr.mono l1 p1 hr1) (Good.seq hg1 fun y M2 F2 θ2 H2 _ l2 p2 hr2 hg2 u ru => ?_)
    cases hx : getOW M2 x y with
    | none => rw [hx] at hg2; exact hg2.elim
    | some od =>
      rw [hx] at hg2
      obtain ⟨a', ov, ea, g, r⟩ := getOW_ok hr2 (rv.mono l2 p2) ru hx
      cases ea
      refine ⟨ov, g, ?_⟩
      cases od with
      | some d =>
        obtain ⟨z', rfl, rz⟩ := r
        exact hg2 F2 θ2 H2 (LE.refl _) (List.prefix_refl _) hr2 _ (by simp only [RepW, Option.getD_some]; exact rz)
      | none =>
        subst r
        exact hg2 F2 θ2 H2 (LE.refl _) (List.prefix_refl _) hr2 _ (by simp only [Option.getD_none, RepW, Rep])
  · exact hg1.elim
end
end PU
set_option Elab.async false
set_option linter.all false
set_option maxRecDepth 100000
set_option maxHeartbeats 4000000
namespace PU
open PySem PySem.Spec PyProof.Rows L2 RZ
section
variable {G : Glo} {X : Cx} {pos p : Pos} {e : Expr} {t : L2.WX → TA} {fs : Av}
/-! ### sorted(list of ints) -/
def srtI (ns : List Int) : List Int := ns.mergeSort fun a b => decide (a ≤ b)
theorem srtI_eq {ns ns' : List Int} (h : ns'.Perm ns) (hs : ns'.Pairwise (· ≤ ·)) : ns' = srtI ns := by
  have h2 : (srtI ns).Perm ns := List.mergeSort_perm ..
  have h3 : (srtI ns).Pairwise (· ≤ ·) := by
    have := List.pairwise_mergeSort (le := fun a b : Int => decide (a ≤ b)) (by intro a b c h k; simp at h k ⊢; omega) (by intro a b; simp; omega) ns
    exact this.imp fun h => by simpa using h
  exact List.Perm.eq_of_pairwise (le := fun a b : Int => a ≤ b) (fun a b _ _ h k => by omega) hs h3 (h.trans h2.symm)
theorem repL_ints {F : Hp} : ∀ ns : List Int, RepL G F (ns.map D.int) (ns.map V.int)
  | [] => RepL.nil
  | n :: ns => RepL.cons (by simp only [Rep]) (repL_ints ns)
def sortedIW : OpN := fun ws M => match ws with
  | [w] => match viewL M w with
    | some xs => match intsD xs with
      | some ns => .ok (.d (.lst ((srtI ns).map D.int))) M
      | none => .stuck
    | none => .stuck
  | _ => .stuck
theorem calls_sortedI : CallS G (rSortedI G.K) sortedIW := by
  intro F θ H M ws vs Q Wx hr rw' hg
  unfold sortedIW at hg
  split at hg
  · rename_i w
    obtain ⟨v, rfl, rv⟩ := RepWL.one rw'
    split at hg
    · rename_i xs e
      split at hg
      · rename_i ns en
        obtain ⟨a, us, rfl, h1, h2⟩ := viewL_ok hr rv e
        have := intsD_ok h2 en
        subst this
        refine ⟨a, ns, rfl, h1, fun ns' q hp hs hq => ?_⟩
        obtain ⟨hr', le⟩ := hr.alloc hq (.lst (ns'.map V.int))
        refine hg _ θ _ le (List.prefix_refl _) hr' _ ?_
        rw [← srtI_eq hp hs]
        simp only [RepW, Rep]
        exact ⟨q, _, rfl, upd_same, repL_ints ns'⟩
      · exact hg.elim
    · exact hg.elim
  · exact hg.elim
theorem pu_sortedI (hc : X.calm = true) (hm : X.mg "sorted" = none) (ha : PUA G X [e] t fs) (hK : X.K = G.K := by rfl) (hg : L2.Gl X "sorted" := by rfl) (he : starEach (e :: []) X.env = (false, eval e X.env) :: starEach [] X.env := by rfl) (hpl : (backTo pos (starEach [] X.env)).any (·.1) = false := by rfl) :
    PU G X (.Call (.Name "sorted" p) [e] [] pos) (fun Wx => tCB (rSortedI G.K) (t Wx)) (eA sortedIW fs) := pu_callB (hK ▸ cr_sortedI) calls_sortedI hm (by decide +kernel) ha hg (by decide +kernel) (by decide +kernel) he hpl
end
end PU
set_option Elab.async false
set_option linter.all false
set_option maxRecDepth 100000
set_option maxHeartbeats 4000000
namespace PU
open PySem PySem.Spec PyProof.Rows L2 RZ
/-! ### a dict locked while a statement runs: what is known stays known when the lock is taken off -/
structure LU (F F' : Hp) : Prop where
  lst : ∀ a xs, F a = some (.lst xs) → F' a = some (.lst xs)
  tup : ∀ a xs, F a = some (.tup xs) → F' a = some (.tup xs)
  klst : ∀ a o xs, F a = some (.frz o (.lst xs)) → F' a = some (.frz o (.lst xs))
  dK : ∀ a ps, Rd F a (.dK ps) → Rd F' a (.dK ps)
  dT : ∀ a ps, Rd F a (.dT ps) → Rd F' a (.dT ps)
  ins : ∀ a C dx ps, F a = some (.ins C dx ps) → F' a = some (.ins C dx ps)
  xd : ∀ a ps, F a = some (.xd ps) → F' a = some (.xd ps)
  ext : ∀ a φ, F a = some (.ext φ) → F' a = some (.ext φ)
mutual
theorem Rep.unl {G : Glo} {F F' : Hp} (l : LU F F') : ∀ {d : D} {v : V}, Rep G F d v → Rep G F' d v
  | .non, _, h => by simpa only [Rep] using h
  | .bl _, _, h => by simpa only [Rep] using h
  | .int _, _, h => by simpa only [Rep] using h
  | .str _, _, h => by simpa only [Rep] using h
  | .cls _, _, h => by simpa only [Rep] using h
  | .ty _, _, h => by simpa only [Rep] using h
  | .exn C fs ds, _, h => by
    simp only [Rep] at h ⊢
    obtain ⟨hc, a, d, oe, e, h1, h2, h3, h4⟩ := h
    refine ⟨hc, a, d, oe, e, l.ext _ _ h1, h2, h3, ?_⟩
    rcases h4 with h4 | ⟨dd, ps, q1, q2, q3, q4⟩
    · exact .inl h4
    · exact .inr ⟨dd, ps, q1, l.xd _ _ q2, q3, RepL.unl l q4⟩
  | .tup ds, _, h => by
    simp only [Rep] at h ⊢
    obtain ⟨a, vs, e, h1, h2⟩ := h
    exact ⟨a, vs, e, l.tup _ _ h1, RepL.unl l h2⟩
  | .lst ds, _, h => by
    simp only [Rep] at h ⊢
    obtain ⟨a, vs, e, h1, h2⟩ := h
    exact ⟨a, vs, e, l.lst _ _ h1, RepL.unl l h2⟩
  | .ktup ds, _, h => by
    simp only [Rep] at h ⊢
    obtain ⟨a, vs, e, h1, h2⟩ := h
    exact ⟨a, vs, e, h1, RepL.unl l h2⟩
  | .klst ds, _, h => by
    simp only [Rep] at h ⊢
    obtain ⟨a, vs, e, h1, h2⟩ := h
    exact ⟨a, vs, e, h1.imp (fun ⟨o, z⟩ => ⟨o, l.klst _ _ _ z⟩) id, RepL.unl l h2⟩
  | .dct ks ds, _, h => by
    simp only [Rep] at h ⊢
    obtain ⟨a, vs, e, h1, h2⟩ := h
    refine ⟨a, vs, e, RepL.unl l h1, ?_⟩
    rcases h2 with ⟨ps, q, r⟩ | ⟨ps, q, r⟩
    · exact .inl ⟨ps, l.dK _ _ q, r⟩
    · exact .inr ⟨ps, l.dT _ _ q, r⟩
  | .ins C fs ds, _, h => by
    simp only [Rep] at h ⊢
    obtain ⟨hc, a, dx, ps, e, h1, h2, h3⟩ := h
    exact ⟨hc, a, dx, ps, e, l.ins _ _ _ _ h1, h2, RepL.unl l h3⟩
theorem RepL.unl {G : Glo} {F F' : Hp} (l : LU F F') : ∀ {ds : List D} {vs : List V}, RepL G F ds vs → RepL G F' ds vs
  | [], _, h => by simpa only [RepL] using h
  | d :: ds, _, h => by
    simp only [RepL] at h ⊢
    obtain ⟨v, r, e, h1, h2⟩ := h
    exact ⟨v, r, e, Rep.unl l h1, RepL.unl l h2⟩
end
section
variable {G : Glo}
theorem RepW.unl {F F' : Hp} {θ : List Addr} (l : LU F F') {w : W} {v : V} (h : RepW G F θ w v) : RepW G F' θ w v := by
  cases w with
  | d x => exact Rep.unl l h
  | cell k => exact h
theorem RepWL.unl {F F' : Hp} {θ : List Addr} (l : LU F F') : ∀ {ws : List W} {vs : List V}, RepWL G F θ ws vs → RepWL G F' θ ws vs
  | [], _, h => h
  | w :: ws, _, h => by
    obtain ⟨v, r, e, h1, h2⟩ := h
    exact ⟨v, r, e, RepW.unl l h1, RepWL.unl l h2⟩
/-- what may be locked here -/
def DictU (u : HO) : Prop := (∃ ps, u = .dK ps) ∨ ∃ ps, u = .dT ps
theorem lu_of {F : Hp} {a : Addr} {od : Obj} {u : HO} (hu : DictU u) (h : F a = some (.frz od u)) : LU F (upd F a u) := by
  have ne : ∀ {b : Addr} {o : HO}, F b = some o → (∀ od', o ≠ .frz od' u) → b ≠ a := by
    intro b o hb hn z
    subst z
    rw [h] at hb
    cases hb
    exact hn od rfl
  have rd : ∀ (b : Addr) (x : HO), (∀ od', x ≠ .frz od' u) → Rd F b x → Rd (upd F a u) b x := by
    intro b x hx hr
    by_cases hb : b = a
    · subst hb
      rcases hr with hr | ⟨o, hr⟩
      · rw [h] at hr; cases hr; exact absurd rfl (hx od)
      · rw [h] at hr
        cases hr
        exact .inl upd_same
    · rcases hr with hr | ⟨o, hr⟩
      · exact .inl (by rw [upd_ne hb]; exact hr)
      · exact .inr ⟨o, by rw [upd_ne hb]; exact hr⟩
  refine ⟨fun b xs q => ?_, fun b xs q => ?_, fun b o xs q => ?_, fun b ps q => rd b _ (fun _ z => nomatch z) q, fun b ps q => rd b _ (fun _ z => nomatch z) q, fun b C dx ps q => ?_, fun b ps q => ?_, fun b φ q => ?_⟩
  · rw [upd_ne (ne q fun _ z => nomatch z)]; exact q
  · rw [upd_ne (ne q fun _ z => nomatch z)]; exact q
  · rw [upd_ne (ne q fun od' z => by
      cases z
      rcases hu with ⟨ps, e⟩ | ⟨ps, e⟩ <;> cases e)]; exact q
  · rw [upd_ne (ne q fun _ z => nomatch z)]; exact q
  · rw [upd_ne (ne q fun _ z => nomatch z)]; exact q
  · rw [upd_ne (ne q fun _ z => nomatch z)]; exact q
theorem HR.unlock {F : Hp} {θ : List Addr} {H : Hp} {M : Mem} (hr : HR G F θ H M) {a : Addr} {od : Obj} {u : HO} (hu : DictU u) (h : F a = some (.frz od u)) : HR G (upd F a u) θ (upd H a u) M := by
  have l := lu_of hu h
  refine ⟨tabs_frz hr.tab h, fun b o q => ?_, hr.len, hr.nd, fun k b c hk hc => ?_⟩
  · by_cases hb : b = a
    · subst hb; rw [upd_same] at q ⊢; exact q
    · rw [upd_ne hb] at q ⊢; exact hr.sub b o q
  · have ok := hr.cell k b c hk hc
    by_cases hb : b = a
    · subst hb
      cases c with
      | dead => show upd H b u b ≠ none; rw [upd_same]; exact fun z => nomatch z
      | lst ds => obtain ⟨h0, _⟩ := ok; rw [h] at h0; cases h0
      | dct ks ds => obtain ⟨h0, _⟩ := ok; rw [h] at h0; cases h0
      | dcT ks ds => obtain ⟨h0, _⟩ := ok; rw [h] at h0; cases h0
      | ins C fs ws => obtain ⟨h0, _⟩ := ok; rw [h] at h0; cases h0
    · cases c with
      | dead => show upd H a u b ≠ none; rw [upd_ne hb]; exact ok
      | lst ds => obtain ⟨h0, vs, q, r⟩ := ok; exact ⟨by rw [upd_ne hb]; exact h0, vs, by rw [upd_ne hb]; exact q, RepL.unl l r⟩
      | dct ks ds => obtain ⟨h0, ps, q, r, z⟩ := ok; exact ⟨by rw [upd_ne hb]; exact h0, ps, by rw [upd_ne hb]; exact q, r, RepL.unl l z⟩
      | dcT ks ds => obtain ⟨h0, ps, q, r, z⟩ := ok; exact ⟨by rw [upd_ne hb]; exact h0, ps, by rw [upd_ne hb]; exact q, r, RepL.unl l z⟩
      | ins C fs ws => obtain ⟨h0, hc', dx, ps, q, r, z⟩ := ok; exact ⟨by rw [upd_ne hb]; exact h0, hc', dx, ps, by rw [upd_ne hb]; exact q, r, RepWL.unl l z⟩
theorem SR.unlock {F : Hp} {θ : List Addr} {σ : L2.St} {H : Hp} {ρ : Env} {M : Mem} (sr : SR G F θ σ H ρ M) {a : Addr} {od : Obj} {u : HO} (hu : DictU u) (h : F a = some (.frz od u)) : SR G (upd F a u) θ σ (upd H a u) ρ M :=
  ⟨sr.hr.unlock hu h, sr.len, fun i w e => by
    obtain ⟨v, h1, h2⟩ := sr.sl i w e
    exact ⟨v, h1, h2.unl (lu_of hu h)⟩⟩
end
end PU
set_option Elab.async false
set_option linter.all false
set_option maxRecDepth 100000
set_option maxHeartbeats 4000000
namespace PU
open PySem PySem.Spec PyProof.Rows L2 RZ
section
variable {G : Glo} {X : Cx} {pos p : Pos} {tg : Expr} {x : Str} {tt : TG} {gg : Gv} {t : L2.WX → TS} {g : Sv} {body : List Stmt}
theorem key_rep {F : Hp} {d : D} {k : Key} (h : keyD d = some k) : Rep G F d (kV k) := by
  rw [keyD_eq h]
  cases k with
  | inl i => simp only [kD, Rep]; rfl
  | inr i => simp only [kD, Rep]; rfl
theorem keys_rep {F : Hp} : ∀ {ds : List D} {ks : List Key}, keysD ds = some ks → RepL G F ds (ks.map kV)
  | [], _, h => by simp [keysD] at h; subst h; exact RepL.nil
  | d :: ds, _, h => by
    unfold keysD at h
    split at h
    · rename_i k ks e1 e2
      cases h
      exact RepL.cons (key_rep e1) (keys_rep e2)
    · cases h
/-- a tuple that stands in the heap is known from now on -/
theorem HR.know {F : Hp} {θ : List Addr} {H : Hp} {M : Mem} (hr : HR G F θ H M) {q : Addr} {vs : List V} (h : H q = some (.tup vs)) : HR G (upd F q (.tup vs)) θ H M ∧ LE F (upd F q (.tup vs)) := by
  have le : LE F (upd F q (.tup vs)) := LE.of_sub fun a o e => by
    by_cases ha : a = q
    · subst ha
      have := hr.sub _ _ e
      rw [h] at this
      cases this
      exact upd_same
    · rw [upd_ne ha]; exact e
  refine ⟨⟨tabs_upd hr.tab (fun o e => by have e' := hr.sub _ _ e; rw [h] at e'; cases e'; exact ⟨(fun _ z => by cases z), (fun q z => by unfold LamX.CodeO at z; cases z)⟩), fun b o e => ?_, hr.len, hr.nd, fun k b c hk hc => ?_⟩, le⟩
  · by_cases hb : b = q
    · subst hb; rw [upd_same] at e; cases e; exact h
    · rw [upd_ne hb] at e; exact hr.sub b o e
  · have ok := hr.cell k b c hk hc
    by_cases hb : b = q
    · subst hb
      cases c with
      | dead => exact ok
      | lst ds => obtain ⟨_, ws, e, _⟩ := ok; rw [h] at e; cases e
      | dct ks ds => obtain ⟨_, ws, e, _⟩ := ok; rw [h] at e; cases e
      | dcT ks ds => obtain ⟨_, ws, e, _⟩ := ok; rw [h] at e; cases e
      | ins C fs ws => obtain ⟨_, _, dx, ps, e, _⟩ := ok; rw [h] at e; cases e
    · exact ok.mono le (List.prefix_refl _) (fun z => by rw [upd_ne hb]; exact z) rfl
theorem walk_keys {F : Hp} {θ : List Addr} {a : Addr} {od : Obj} {ks : List D} {ps : List (Key × V)} (hF : F a = some (.frz od (.dK ps))) (h : ks.map keyD = ps.map (fun p => some p.1)) : Walk G (Itk a od ps) F θ ks := by
  intro F1 θ1 H1 M1 l1 p1 hr1 i
  have hH : H1 a = some (.frz od (.dK ps)) := hr1.sub _ _ (l1.frz _ _ _ hF)
  have hl : ks.length = ps.length := by have := congrArg List.length h; simpa using this
  refine ⟨fun d hd => ?_, fun q => ⟨hH, by omega⟩⟩
  have hi : i < ps.length := by have := (List.getElem?_eq_some_iff.mp hd).1; omega
  refine ⟨⟨hH, hi⟩, fun z H2 hy => ?_⟩
  obtain ⟨rfl, k, v, e1, rfl⟩ := hy
  have e2 : (ks.map keyD)[i]? = some (keyD d) := by rw [List.getElem?_map, hd]; rfl
  rw [h, List.getElem?_map, e1] at e2
  simp only [Option.map_some, Option.some.injEq] at e2
  exact ⟨F1, LE.refl F1, hr1, key_rep e2.symm⟩
theorem walk_keysT {F : Hp} {θ : List Addr} {a : Addr} {od : Obj} {ks : List D} {ps : List (List Key × V)} (hF : F a = some (.frz od (.dT ps))) (h : ks.map keyT = ps.map (fun p => some p.1)) : Walk G (Itkt a od ps) F θ ks := by
  intro F1 θ1 H1 M1 l1 p1 hr1 i
  have hH : H1 a = some (.frz od (.dT ps)) := hr1.sub _ _ (l1.frz _ _ _ hF)
  have hl : ks.length = ps.length := by have := congrArg List.length h; simpa using this
  refine ⟨fun d hd => ?_, fun q => ⟨hH, by omega⟩⟩
  have hi : i < ps.length := by have := (List.getElem?_eq_some_iff.mp hd).1; omega
  refine ⟨⟨hH, hi⟩, fun z H2 hy => ?_⟩
  obtain ⟨rfl, k, v, q, e1, rfl, hq⟩ := hy
  have e2 : (ks.map keyT)[i]? = some (keyT d) := by rw [List.getElem?_map, hd]; rfl
  rw [h, List.getElem?_map, e1] at e2
  simp only [Option.map_some, Option.some.injEq] at e2
  obtain ⟨hr2, le⟩ := hr1.know hq
  refine ⟨_, le, hr2, ?_⟩
  cases d <;> simp [keyT] at e2
  simp only [Rep]
  exact ⟨q, _, rfl, upd_same, keys_rep e2.symm⟩
/-- the inside of a walk -/
theorem for_core {J : It} {Wx : L2.WX} {F1 : Hp} {θ1 : List Addr} {σ : L2.St} {H1 : Hp} {ρ : Env} {M1 : Mem} {D0 : Ends} {ds : List D} {n : Nat} (hn : θ1.length = n) (hg' : SemG G tt gg) (hb : SemS G t g) (sr1 : SR G F1 θ1 σ H1 ρ M1) (hw : Walk G J F1 θ1 ds) (hg1 : GoodS G F1 θ1 D0 Wx (forN n gg g ds ρ M1)) :
    ∃ W : Nat → Nat → L2.St → Hp → Prop, (∃ m, W 0 m σ H1) ∧ ∀ i m σ H, W i m σ H →
      (J.stop i H ∧ D0.nx σ H) ∨ (J.go i H ∧ ∃ N : L2.St → Hp → Prop, (∀ σ' H', N σ' H' → ∃ m', m' < m ∧ W (i + 1) m' σ' H') ∧ ∀ x H', J.yld i H x H' → tt x σ H' fun σ2 H2 => t Wx { D0 with nx := N, ct := N, bk := D0.nx } σ2 H2) := by
  refine ⟨fun i m σ H => m = ds.length - i ∧ i ≤ ds.length ∧ Btw G F1 θ1 D0 Wx σ H (forN n gg g (ds.drop i)), ⟨_, rfl, Nat.zero_le _, F1, ρ, M1, LE.refl F1, sr1, by rw [List.drop_zero]; exact hg1⟩, ?_⟩
  rintro i m σ2 H2 ⟨rfl, hi2, F2, ρ2, M2, l2, sr2, hg2⟩
  have wk := hw F2 θ1 H2 M2 l2 (List.prefix_refl _) sr2.hr i
  by_cases hlt : i < ds.length
  · obtain ⟨go, yl⟩ := wk.1 ds[i] (List.getElem?_eq_getElem hlt)
    refine .inr ⟨go, fun σ' H' => Btw G F1 θ1 D0 Wx σ' H' (forN n gg g (ds.drop (i + 1))), fun σ' H' q => ⟨_, by omega, rfl, hlt, q⟩, fun x H3 hy => ?_⟩
    obtain ⟨F3, l3, hr3, r3⟩ := yl x H3 hy
    have sr3 := sr2.mono l3 (List.prefix_refl _) hr3
    rw [List.drop_eq_getElem_cons hlt] at hg2
    have hg3 : GoodS G F2 θ1 D0 Wx ((gg (.d ds[i]) ρ2 M2).bindG fun ρ3 M3 => again n (forN n gg g (ds.drop (i + 1))) (g ρ3 M3)) := hg2
    refine hg' Wx F3 θ1 σ2 H3 ρ2 M2 (.d ds[i]) x _ sr3 r3 ?_
    cases e : gg (.d ds[i]) ρ2 M2 with
    | stuck => rw [e] at hg3; exact hg3
    | exc y M3 =>
      rw [e] at hg3
      exact hg3
    | ok ρ3 M3 =>
      rw [e] at hg3
      intro F4 θ4 σ4 H4 l4 p4 sr4
      exact hb Wx F4 θ4 σ4 H4 ρ3 M3 _ sr4 (again_ok hn l2 (l3.trans l4) p4 (fun _ _ q => q) hg3)
  · exact .inl ⟨wk.2 (Nat.le_of_not_lt hlt), by
      have e : ds.drop i = [] := List.drop_eq_nil_of_le (Nat.le_of_not_lt hlt)
      rw [e] at hg2
      exact hg2 F2 θ1 σ2 H2 (LE.refl F2) (List.prefix_refl _) sr2⟩
/-! ### for x in d, d a dict of the text's own that is changed no more -/
def sForK (i : Nat) (g : Gv) (b : Sv) : Sv := fun ρ M => match ρ[i]? with
  | some (some (.cell k)) => match M[k]? with
    | some (.dct ks vs) => forN M.length g b ks (ρ.set i (some (.d (.dct ks vs)))) (M.set k .dead)
    | some (.dcT ks vs) => forN M.length g b ks (ρ.set i (some (.d (.dct ks vs)))) (M.set k .dead)
    | _ => .stuck
  | _ => .stuck
def lockD (D : Ends) (a : Addr) (od : Obj) (u : HO) : Ends := ⟨fun σ' H' => H' a = some (.frz od u) ∧ D.nx σ' (upd H' a u), fun v H' => H' a = some (.frz od u) ∧ D.rt v (upd H' a u), fun σ' H' => H' a = some (.frz od u) ∧ D.bk σ' (upd H' a u), fun σ' H' => H' a = some (.frz od u) ∧ D.ct σ' (upd H' a u)⟩
theorem le_unlock {F F' : Hp} {a : Addr} {od : Obj} {u : HO} (hu : DictU u) (hF : F a = none) (l : LE (upd F a (.frz od u)) F') : LE F (upd F' a u) := by
  have ne : ∀ {b : Addr} {o : HO}, F b = some o → b ≠ a := fun {b o} h z => by subst z; rw [hF] at h; cases h
  have rd : ∀ {b : Addr} {x : HO}, Rd F b x → b ≠ a := fun {b x} h => by
    rcases h with h | ⟨o, h⟩
    · exact ne h
    · exact ne h
  have up : ∀ {b : Addr} {x : HO}, b ≠ a → Rd F b x → Rd (upd F a (.frz od u)) b x := fun {b x} hb h => by
    rcases h with h | ⟨o, h⟩
    · exact .inl (by rw [upd_ne hb]; exact h)
    · exact .inr ⟨o, by rw [upd_ne hb]; exact h⟩
  have dn : ∀ {b : Addr} {x : HO}, b ≠ a → Rd F' b x → Rd (upd F' a u) b x := fun {b x} hb h => by
    rcases h with h | ⟨o, h⟩
    · exact .inl (by rw [upd_ne hb]; exact h)
    · exact .inr ⟨o, by rw [upd_ne hb]; exact h⟩
  refine ⟨fun b xs h => ?_, fun b xs h => ?_, fun b o x h => ?_, fun b ps h => ?_, fun b ps h => ?_, fun b C dx ps h => ?_, fun b ps h => ?_, fun b φ h => ?_⟩
  · rw [upd_ne (ne h)]; exact l.lst _ _ (by rw [upd_ne (ne h)]; exact h)
  · rw [upd_ne (ne h)]; exact l.tup _ _ (by rw [upd_ne (ne h)]; exact h)
  · rw [upd_ne (ne h)]; exact l.frz _ _ _ (by rw [upd_ne (ne h)]; exact h)
  · exact dn (rd h) (l.dK _ _ (up (rd h) h))
  · exact dn (rd h) (l.dT _ _ (up (rd h) h))
  · rw [upd_ne (ne h)]; exact l.ins _ _ _ _ (by rw [upd_ne (ne h)]; exact h)
  · rw [upd_ne (ne h)]; exact l.xd _ _ (by rw [upd_ne (ne h)]; exact h)
  · rw [upd_ne (ne h)]; exact l.ext _ _ (by rw [upd_ne (ne h)]; exact h)
theorem good_lock {F : Hp} {θ : List Addr} {D : Ends} {Wx : L2.WX} {a : Addr} {od : Obj} {u : HO} (hu : DictU u) (hF : F a = none) {r : RS} (hg : GoodS G F θ D Wx r) (lF : LE F (upd F a (.frz od u))) : GoodS G (upd F a (.frz od u)) θ (lockD D a od u) Wx r := by
  cases r with
  | stuck => exact hg
  | exc x ρ M => exact fun F' θ' σ' H' c d l p sr rx => hg F' θ' σ' H' c d (lF.trans l) p sr rx
  | go f ρ M =>
    intro F' θ' σ' H' l p sr
    have hFa : F' a = some (.frz od u) := l.frz _ _ _ upd_same
    have hHa : H' a = some (.frz od u) := sr.hr.sub _ _ hFa
    have sr2 := sr.unlock hu hFa
    have q := hg (upd F' a u) θ' σ' (upd H' a u) (le_unlock hu hF l) p sr2
    cases f with
    | nx => exact ⟨hHa, q⟩
    | bk => exact ⟨hHa, q⟩
    | ct => exact ⟨hHa, q⟩
    | ret w => exact fun v rv => ⟨hHa, q v (rv.unl (lu_of hu hFa))⟩
theorem sem_forK (i : Nat) (hg' : SemG G tt gg) (hb : SemS G t g) : SemS G (fun Wx => tLock (tFor (iKeys (tVar i)) tt (t Wx))) (sForK i gg g) := by
  intro Wx F θ σ H ρ M D0 sr hg
  unfold sForK at hg
  split at hg
  · rename_i k ek
    obtain ⟨v, hv, a, ha, rfl⟩ := sr.sl i _ ek
    split at hg
    · rename_i ks vs ex
      obtain ⟨hF, ps, hH, h1, h2⟩ := sr.hr.cell k a _ ha ex
      refine ⟨a, .dK ps, hH, trivial, fun od => ?_⟩
      have hw1 := sr.hr.write (o := .frz od (.dK ps)) (c := .dead) ha hF (show upd H a (.frz od (.dK ps)) a ≠ none by rw [upd_same]; exact fun z => nomatch z)
      obtain ⟨hr1, le⟩ := hw1.freeze ha hF upd_same
      rw [List.set_set] at hr1
      have sr1 := (sr.mono le (List.prefix_refl _) hr1).set (i := i) (w := .d (.dct ks vs)) (v := .ref a) (by
        simp only [RepW, Rep]
        exact ⟨a, _, rfl, h2.mono le, .inl ⟨ps, .inr ⟨od, upd_same⟩, h1, rfl⟩⟩)
      have e : σ.set i (some (.ref a)) = σ := by
        obtain ⟨hl, hx⟩ := List.getElem?_eq_some_iff.mp hv
        rw [← hx]
        exact List.set_getElem_self hl
      rw [e] at sr1
      refine ⟨.ref a, hv, a, od, rfl, .inl ⟨ps, upd_same, ?_⟩⟩
      exact for_core (D0 := lockD D0 a od (.dK ps)) sr.hr.len hg' hb sr1 (walk_keys upd_same h1) (good_lock (.inl ⟨ps, rfl⟩) hF hg le)
    · rename_i ks vs ex
      obtain ⟨hF, ps, hH, h1, h2⟩ := sr.hr.cell k a _ ha ex
      refine ⟨a, .dT ps, hH, trivial, fun od => ?_⟩
      have hw1 := sr.hr.write (o := .frz od (.dT ps)) (c := .dead) ha hF (show upd H a (.frz od (.dT ps)) a ≠ none by rw [upd_same]; exact fun z => nomatch z)
      obtain ⟨hr1, le⟩ := hw1.freeze ha hF upd_same
      rw [List.set_set] at hr1
      have sr1 := (sr.mono le (List.prefix_refl _) hr1).set (i := i) (w := .d (.dct ks vs)) (v := .ref a) (by
        simp only [RepW, Rep]
        exact ⟨a, _, rfl, h2.mono le, .inr ⟨ps, .inr ⟨od, upd_same⟩, h1, rfl⟩⟩)
      have e : σ.set i (some (.ref a)) = σ := by
        obtain ⟨hl, hx⟩ := List.getElem?_eq_some_iff.mp hv
        rw [← hx]
        exact List.set_getElem_self hl
      rw [e] at sr1
      refine ⟨.ref a, hv, a, od, rfl, .inr ⟨ps, upd_same, ?_⟩⟩
      exact for_core (D0 := lockD D0 a od (.dT ps)) sr.hr.len hg' hb sr1 (walk_keysT upd_same h1) (good_lock (.inr ⟨ps, rfl⟩) hF hg le)
    · exact hg.elim
  · exact hg.elim
theorem pus_forK (i : Nat) (hp : PassesOwn (model X.prog X.w) X.A X.env X.xe) (he : PU G X (.Name x p) (fun _ => tVar i) (eVar i)) (hg : PUG G X tg tt gg) (hb : PUSs G X body t g) (hs : ∀ y, foldedSetIterable (.Name x p) X.env y = pure y := by intro _; rfl) (hc : X.calm = true) : PUS G X (.For tg (.Name x p) body [] pos) (fun Wx => tLock (tFor (iKeys (tVar i)) tt (t Wx))) (sForK i gg g) :=
  ⟨fun Wx tk => ps_lock (ps_for hp hc (pi_keys (he.pe Wx tk)) hg.pe (hb.pe Wx tk) hs), sem_forK i hg.sem hb.sem⟩
end
end PU
set_option Elab.async false
set_option linter.all false
namespace PySem
open Sem (wp)
open AutoSeq1 (wpAny_loadPart')
set_option maxRecDepth 100000
set_option maxHeartbeats 2000000
/-- enumerate of a tuple (after the kit's of a list) -/
theorem meets_enumerate_newT (l : Addr) (items : Array Value) (n : Nat) (dct : Option Addr) (sl : Array (Option Value)) :
    Meets (Builtin.«enumerate.__new__» ⟨[.type "enumerate", .ref l], []⟩) (fun _ R s => s.heap.get? l = some { cls := .type "tuple", dict := dct, data := .seq items n, slots := sl } ∧
      R (.ok (.ret (.ref (s.heap.push { cls := .type "tuple_iterator", data := .fields #[.ref l, .int 0 0] }).objs.size)))
        { s with heap := (s.heap.push { cls := .type "tuple_iterator", data := .fields #[.ref l, .int 0 0] }).push { cls := .type "enumerate", data := .fields #[.none, .bool false, .ref s.heap.objs.size, rawInt 0, .none, .none] } }) :=
  .of_wp fun prog w A R s h => by
    obtain ⟨hp, g, d, tk, os⟩ := s; obtain ⟨hl, h⟩ := h
    have hsub := sub_enumerate
    have hL : Heap.IsTuple (Shared.heap ⟨hp, g, d, tk, os⟩) l items := ⟨_, hl, rfl, n, rfl⟩
    wp_walk using wpAny_loadPart' hl
    refine wpAny_stack_any fun st => wpAny_pure ?_
    split
    · rename_i c _ _ _ _ _
      cases (c == Value.type "enumerate")
      · wp_walk using wpAny_loadPart' hl, wpAny_pyIter_tuple hL
        exact ⟨_, rfl, h⟩
      · wp_walk using wpAny_loadPart' hl, wpAny_pyIter_tuple hL
        exact ⟨_, rfl, h⟩
    · wp_walk using wpAny_loadPart' hl, wpAny_pyIter_tuple hL
      exact ⟨_, rfl, h⟩
section
variable {prog : Program} {w : World} {A : Around} {E : Value → Shared → Prop} {s : Shared}
theorem call_enumerate_tuple {l : Addr} {items : Array Value} {Q : Value → Shared → Prop} (hL : s.heap.IsTuple l items)
    (h : ∀ h', IsEnum h' (s.heap.objs.size + 1) s.heap.objs.size 0 .none → h'.IsTupleIter s.heap.objs.size l 0 → h'.objs.size = s.heap.objs.size + 2 →
      (∀ b o, s.heap.get? b = some o → h'.get? b = some o) → Q (.ref (s.heap.objs.size + 1)) { s with heap := h' }) :
    wpAny (model prog w) A (call (.type "enumerate") [.ref l]) Q E s := by
  obtain ⟨⟨c, dct, dt, sl⟩, hl, hc, n, hd⟩ := hL
  replace hc : c = .type "tuple" := hc
  replace hd : dt = .seq items n := hd
  subst hc hd
  refine callType_new F.called_enumerate (by decide) (F.typeCall_enumerate_1 _) (F.newCall_enumerate_1 _) (fun obj => F.args_object_init_2 obj _) F.entry_enumerate_new
    (meets_enumerate_newT l items n dct sl) ⟨hl, ?_⟩
  have hz : (s.heap.push { cls := .type "tuple_iterator", data := .fields #[.ref l, .int 0 0] }).objs.size = s.heap.objs.size + 1 := Heap.size_push ..
  show _ ∧ _
  rw [hz]
  have he : IsEnum ((s.heap.push { cls := .type "tuple_iterator", data := .fields #[.ref l, .int 0 0] }).push
      { cls := .type "enumerate", data := .fields #[.none, .bool false, .ref s.heap.objs.size, rawInt 0, .none, .none] }) (s.heap.objs.size + 1) s.heap.objs.size 0 .none := by
    have := Heap.get?_push_size (s.heap.push { cls := .type "tuple_iterator", data := .fields #[.ref l, .int 0 0] })
      (o := { cls := .type "enumerate", data := .fields #[.none, .bool false, .ref s.heap.objs.size, rawInt 0, .none, .none] }) rfl
    rw [hz] at this; exact this
  refine ⟨⟨_, he, rfl⟩, h _ he ⟨_, Heap.get?_push_of_some _ (Heap.get?_push_size _ rfl), rfl, rfl⟩ (by rw [Heap.size_push, hz]) fun b o x => Heap.get?_push_of_some _ (Heap.get?_push_of_some _ x)⟩
end
end PySem
set_option Elab.async false
set_option linter.all false
set_option maxRecDepth 100000
set_option maxHeartbeats 4000000
namespace PySem
section
variable {prog : Program} {w : World} {A : Around} {E : Value → Shared → Prop} {s : Shared}
theorem wpAny_pyNext_enum_endT {e it l : Addr} {i : Nat} {items : Array Value} {old : Value} {Q : Option Value → Shared → Prop} (hh : A.in1.handled = none)
    (he : IsEnum s.heap e it i old) (hit : s.heap.IsTupleIter it l i) (hl : s.heap.IsTuple l items) (hx : items[i]? = none)
    (hQ : ∀ h', Heap.ExtBut it s.heap h' → Q none { s with heap := h' }) : wpAny (model prog w) A (pyNext (.ref e)) Q E s := by
  have hT : s.TypeIs (.ref e) "enumerate" := ⟨_, he, rfl⟩
  unfold pyNext
  refine wpAny_bind (wpAny_attempt (wpAny_callSpecial?_slot (name := Str.ofString "__next__") hT F.slot_enumerate_next
    (wpAny_call_entry F.slot_enumerate_next hT F.entry_enumerate_next ?_ (F.args_enumerate_next_1 _))))
  show wpAny _ _ (field (.ref e) 2 >>= _) _ _ _
  refine wpAny_bind (wpAny_field he rfl (x := .ref it) rfl ?_)
  refine wpAny_bind (wpAny_nextOf_tuple_end hh hit hl hx fun h' x he' hx' => ?_)
  obtain ⟨o, ho, hc⟩ := hx'
  refine wpAny_bind (wpAny_isInstance (T := "StopIteration") (b := true) ⟨o, ho, hc⟩ isSubtype_stop ?_)
  exact wpAny_pure (hQ _ he')
end
end PySem
namespace L2
open PySem PySem.Spec PyProof.Rows
/-- the tuple at a, each item in a new pair -/
def IteT (K : PySem.W.Frag) (a : Addr) : It :=
  ⟨fun i H => ∃ (xs : List V) (x : V), SqT K H a xs ∧ xs[i]? = some x, fun i H v H' => ∃ T x, v = .ref T ∧ H T = none ∧ H' = upd H T (.tup [.int (i : Nat), x]) ∧ ∀ xs, SqT K H a xs → xs[i]? = some x, fun i H => ∃ xs : List V, SqT K H a xs ∧ xs.length ≤ i⟩
theorem turn_enumT {P : Program} {w : World} {K : PySem.W.Frag} {elts : List Expr} {kk : Nat} {tpos : Pos} (a e it : Addr) :
    Turn P w K (.Tuple elts kk tpos) (IteT K a) [e, it] e (fun i h => (∃ old, IsEnum h e it ((i : Nat) : Int) old) ∧ h.IsTupleIter it a i ∧ e ≠ it) where
  mem := by simp
  obj := fun i h st b hb => by
    obtain ⟨⟨old, he⟩, ⟨o, ho, hc, hd⟩, _⟩ := st
    have e' : b = e ∨ b = it := by simpa using hb
    rcases e' with z | z
    · rw [z]; exact ⟨_, he, fun v q => nomatch q⟩
    · rw [z]; exact ⟨o, ho, fun v q => by rw [hd] at q; cases q⟩
  keep := fun i h h' st k => let ⟨⟨old, he⟩, hi, hne⟩ := st; ⟨⟨old, k e (by simp) _ he⟩, hi.at fun o q => k it (by simp) o q, hne⟩
  item := by
    intro X hP hw hK hc i pins s σ H E I hf st hg
    subst hP hw hK
    obtain ⟨⟨old, he⟩, hit, hne⟩ := st
    obtain ⟨xs, x, hq, hx⟩ := hg
    obtain ⟨its, rv, p, hz⟩ := I.tuple hq
    obtain ⟨u, hu, ru⟩ := rv.get hx
    have pt : s.heap.IsTuple a its.toArray := p
    have hel : e < s.heap.objs.size := Heap.lt_size he
    have hil : it < s.heap.objs.size := by obtain ⟨_, q, _⟩ := hit; exact Heap.lt_size q
    have hai : a ≠ it := by
      intro z
      subst z
      obtain ⟨o1, q1, c1, _⟩ := hit
      obtain ⟨o2, q2, c2, _⟩ := pt
      rw [q1] at q2; cases q2
      rw [c1] at c2; exact absurd c2 (by decide)
    have hea : e ≠ a := by
      intro z
      subst z
      obtain ⟨o2, q2, c2, _⟩ := pt
      rw [he] at q2; cases q2
      exact absurd (show (Value.type "enumerate" : Value) = .type "tuple" from c2) (by decide)
    have hlt : i < its.toArray.size := by
      have := (List.getElem?_eq_some_iff.mp hu).1
      simpa using this
    refine wpAny_pyNext_enum_itemD (Draws.tuple (A := X.A.in1) (show X.A.in1.handled = none from I.ok.hd hc) it a hai its.toArray) he ⟨hit, pt⟩ hlt hne (by simp [hne, hea]) fun y h' tk hy ho hit' hT hsz hk => ?_
    have hyu : y = u := by
      have h2 : its.toArray[i]? = some u := by simpa using hu
      rw [h2] at hy
      exact (Option.some.inj hy).symm
    subst hyu
    refine ⟨_, rfl, wpAny_letOwnedTupleGo_enum (s := { s with heap := h', toks := tk + 1 }) ho fun h'' he' sb => ?_⟩
    have hT2 : h''.get? s.heap.objs.size = some { cls := .type "tuple", data := .seq #[.int i tk, y] } := (sb.2 _ (Nat.ne_of_gt hel)).trans hT
    have new : ObjOk X.prog X.w (upd H s.heap.objs.size (.tup [.int (i : Nat), x])) h'' s.heap.objs.size (.tup [.int (i : Nat), x]) :=
      ⟨by show 2 ≤ sizeLine; decide, [.int i tk, y], .cons ⟨_, rfl⟩ (.cons ru .nil), ⟨_, hT2, rfl, _, rfl⟩⟩
    have I1 : Inv X pins σ (upd H s.heap.objs.size (.tup [.int (i : Nat), x])) { s with heap := h'', toks := tk + 1 } :=
      I.turnedNew (ch := [e, it]) (fun b ob hb q => (sb.2 b (fun z => hb (by simp [z]))).trans (hk b ob (fun z => hb (by simp [z])) (fun z => hb (by simp [z])) q)) hf (Nat.le_refl _) new
    refine ⟨.ref s.heap.objs.size, _, I1, rfl, ⟨_, x, rfl, I.hok.fresh (Nat.le_refl _), rfl, fun ys hy => by rw [I.tuple_inj hy hq]; exact hx⟩, ⟨⟨y, ?_⟩, hit'.1.at fun o q => (sb.2 it (Ne.symm hne)).trans q, hne⟩, fun b hb => ?_⟩
    · have e1 : ((i + 1 : Nat) : Int) = (i : Int) + 1 := by omega
      rw [e1]; exact he'
    · have hb' : b < s.heap.objs.size := by
        have e' : b = e ∨ b = it := by simpa using hb
        rcases e' with z | z
        · rw [z]; exact hel
        · rw [z]; exact hil
      rw [upd_ne (Nat.ne_of_lt hb')]
      exact (hf b hb).1
  done := by
    intro X hP hw hK hc i pins s σ H E I hf st hg
    subst hP hw hK
    obtain ⟨⟨old, he⟩, hit, hne⟩ := st
    obtain ⟨xs, hq, hx⟩ := hg
    obtain ⟨its, rv, p, hz⟩ := I.tuple hq
    obtain ⟨f0, f1, f2, f3, f4, f5⟩ := hf it (by simp)
    have hl := rv.length
    exact wpAny_pyNext_enum_endT (show X.A.in1.handled = none from I.ok.hd hc) he hit (show s.heap.IsTuple a its.toArray from p) (by simp; omega) fun h' eb => ⟨rfl, I.turned (t' := s.toks) (fun b o hb q => eb b o hb q) f0 f1 f3 f4 f5⟩
  self := fun A i s Q E st h => let ⟨⟨_, he⟩, _⟩ := st; wpAny_pyIter_enum he h
def iEnumA (K : PySem.W.Frag) (ta : TA) : TI := fun σ H R => ta σ H fun vs H1 => ∃ a, vs = [.ref a] ∧ ((∃ xs, SqL K H1 a xs ∧ R (Ite K a) H1) ∨ ∃ xs, SqT K H1 a xs ∧ R (IteT K a) H1)
theorem pi_enumA {X : Cx} {e : Expr} {ta : TA} {p pos tpos : Pos} {elts : List Expr} {kk : Nat} (hg : Gl X "enumerate") (hm : X.mg "enumerate" = none) (ha : PA X [e] ta) (hs : starEach [e] X.env = [(false, eval e X.env)] := by rfl) :
    PI X (.Tuple elts kk tpos) (.Call (.Name "enumerate" p) [e] [] pos) (iEnumA X.K ta) := by
  refine ⟨fun pins s σ H R I h => ?_⟩
  refine Call_ (ld_blt I hg hm boot_enumerate (PyProof.Rows.callWith_type1 (thn (ha.run pos pins s σ H _ I h) fun us s1 ⟨vs, H1, I1, r1, q1⟩ => ?_) hs rfl))
  obtain ⟨a, ex, q1⟩ := q1
  subst ex
  cases r1 with
  | cons r rr =>
    cases rr
    cases r
    have fp : ∀ b, b ∈ [s1.heap.objs.size + 1, s1.heap.objs.size] → FpOk X pins H1 b := fun b hb => by
      have e' : b = s1.heap.objs.size + 1 ∨ b = s1.heap.objs.size := by simpa using hb
      have hle : s1.heap.objs.size ≤ b := by
        rcases e' with z | z
        · rw [z]; exact Nat.le_add_right _ _
        · rw [z]; exact Nat.le_refl _
      exact I1.fpOk hle (I1.hok.fresh hle)
    rcases q1 with ⟨xs, hq, q⟩ | ⟨xs, hq, q⟩
    · obtain ⟨its, rv, p', hz⟩ := I1.list hq
      refine call_enumerate_list p'.isList fun h' he hit hsz hk => wpAny_pyIter_enum he ?_
      have I2 : Inv X pins σ H1 { s1 with heap := h' } := I1.kept (t' := s1.toks) hk
      exact ⟨s1.heap.objs.size + 1, [s1.heap.objs.size + 1, s1.heap.objs.size], _, _, H1, rfl, I2, turn_enum a (s1.heap.objs.size + 1) s1.heap.objs.size, ⟨⟨.none, he⟩, hit, Nat.succ_ne_self _⟩, fp, q⟩
    · obtain ⟨its, rv, p', hz⟩ := I1.tuple hq
      refine call_enumerate_tuple (show s1.heap.IsTuple a its.toArray from p') fun h' he hit hsz hk => wpAny_pyIter_enum he ?_
      have I2 : Inv X pins σ H1 { s1 with heap := h' } := I1.kept (t' := s1.toks) hk
      exact ⟨s1.heap.objs.size + 1, [s1.heap.objs.size + 1, s1.heap.objs.size], _, _, H1, rfl, I2, turn_enumT a (s1.heap.objs.size + 1) s1.heap.objs.size, ⟨⟨.none, he⟩, hit, Nat.succ_ne_self _⟩, fp, q⟩
end L2
namespace PU
open PySem PySem.Spec PyProof.Rows L2 RZ
section
variable {G : Glo} {X : Cx} {pos p tpos : Pos} {e : Expr} {t : L2.WX → TA} {fs : Av} {elts : List Expr} {kk : Nat}
theorem walk_enumT {F : Hp} {θ : List Addr} {a : Addr} {xs : List D} {vs : List V} (hq : ∀ F1 θ1 H1 M1, LE F F1 → HR G F1 θ1 H1 M1 → SqT G.K H1 a vs) (r : RepL G F xs vs) : Walk G (IteT G.K a) F θ (enumD 0 xs) := by
  intro F1 θ1 H1 M1 l1 p1 hr1 i
  have q := hq F1 θ1 H1 M1 l1 hr1
  refine ⟨fun d hd => ?_, fun hl => ⟨vs, q, by rw [r.length, ← enumD_len xs 0]; exact hl⟩⟩
  obtain ⟨x, hx, rfl⟩ := enumD_get hd
  obtain ⟨v, hv, rv⟩ := r.get hx
  refine ⟨⟨vs, v, q, hv⟩, fun z H2 hz => ?_⟩
  obtain ⟨T, v', rfl, hT, rfl, h1⟩ := hz
  have e1 := h1 vs q
  rw [hv] at e1
  cases e1
  obtain ⟨hr2, le⟩ := hr1.alloc hT (.tup [.int (i : Nat), v])
  exact ⟨_, le, hr2, by simp only [Rep]; exact ⟨T, _, rfl, upd_same, two_rep (by simp only [Rep]; rw [Nat.zero_add]) ((rv.mono l1).mono le)⟩⟩
def iEnumAV (f : Av) : Iv := fun ρ M => (f ρ M).bind fun ws M1 => match ws with
  | [.d (.lst xs)] => .ok (enumD 0 xs) M1
  | [.d (.tup xs)] => .ok (enumD 0 xs) M1
  | _ => .stuck
theorem pui_enumA (hm : X.mg "enumerate" = none) (ha : PUA G X [e] t fs) (hK : X.K = G.K := by rfl) (hg : L2.Gl X "enumerate" := by rfl) (hs : starEach [e] X.env = [(false, eval e X.env)] := by rfl) :
    PUI G X (.Tuple elts kk tpos) (.Call (.Name "enumerate" p) [e] [] pos) (fun Wx => iEnumA G.K (t Wx)) (iEnumAV fs) := by
  refine ⟨fun Wx tk => hK ▸ pi_enumA hg hm (ha.pe Wx tk) hs, ?_⟩
  intro Wx F θ σ H ρ M Rk sr hg
  refine ha.sem Wx F θ σ H ρ M _ sr (Good.seq hg fun ws M1 F1 θ1 H1 _ l1 p1 hr1 hg1 vs rvs => ?_)
  split at hg1
  · obtain ⟨v, rfl, rv⟩ := RepWL.one rvs
    simp only [RepW, Rep] at rv
    obtain ⟨a, vs, rfl, h1, h2⟩ := rv
    exact ⟨a, rfl, .inl ⟨vs, SqL.of (hr1.sub _ _ h1), hg1 F1 θ1 H1 (LE.refl F1) (List.prefix_refl _) hr1 _ (walk_enum (fun F2 θ2 H2 M2 l2 hr2 => SqL.of (hr2.sub _ _ (l2.lst _ _ h1))) h2)⟩⟩
  · obtain ⟨v, rfl, rv⟩ := RepWL.one rvs
    simp only [RepW, Rep] at rv
    obtain ⟨a, vs, rfl, h1, h2⟩ := rv
    exact ⟨a, rfl, .inr ⟨vs, SqT.of (hr1.sub _ _ h1), hg1 F1 θ1 H1 (LE.refl F1) (List.prefix_refl _) hr1 _ (walk_enumT (fun F2 θ2 H2 M2 l2 hr2 => SqT.of (hr2.sub _ _ (l2.tup _ _ h1))) h2)⟩⟩
  · exact hg1.elim
end
end PU
set_option Elab.async false
set_option linter.all false
set_option maxRecDepth 100000
set_option maxHeartbeats 4000000
namespace PU
open PySem PySem.Spec PyProof.Rows L2 RZ
section
variable {G : Glo} {X : Cx}
variable {tg iter elt e : Expr} {ifs : List Expr} {wi : L2.WX → TI} {fi : Iv} {tt : TG} {gg : Gv} {tc : L2.WX → TT} {fc : Tv} {te : L2.WX → TE} {fe : Ev} {vs : List Nat}
/-- the inside of a comprehension -/
theorem comp_core {Wx : L2.WX} {F1 : Hp} {θ1 : List Addr} {σ : L2.St} {H1 : Hp} {ρ : Env} {M1 : Mem} {Q : VK} {J : It} {ds : List D} (hg' : SemG G tt gg) (own : OwnT tt vs) (hc : SemT G tc fc) (he : SemE G te fe)
    (sr1 : SR G F1 θ1 σ H1 ρ M1) (hw : Walk G J F1 θ1 ds) (hg1 : Good G F1 θ1 (postE G Q) (fun c d H' => Wx c d σ H') (compN M1.length (wipeE ρ vs) gg fc fe ds (M1 ++ [.lst []]))) (D : Addr) (hD : H1 D = none) :
    ∃ W : Nat → Nat → Hp → Prop, (∃ m, W 0 m (upd H1 D (.lst []))) ∧ ∀ i m H, W i m H →
  (J.stop i H ∧ Q (.ref D) H) ∨ (J.go i H ∧ ∃ Nx : Hp → Prop, (∀ H', Nx H' → ∃ m', m' < m ∧ W (i + 1) m' H') ∧ ∀ x H', J.yld i H x H' → tt x (L2.wipe σ vs) H' fun σ2 H2 => L2.wipe σ2 vs = L2.wipe σ vs ∧ tc WF σ2 H2 fun b H3 =>
    if b = true then te WF σ2 H3 fun y H4 => ∃ acc, H4 D = some (.lst acc) ∧ acc.length < sizeLine ∧ Nx (upd H4 D (.lst (acc ++ [y]))) else Nx H3) := by
  have hr1 := sr1.hr
  have hF : F1 D = none := by
    cases e : F1 D with
    | none => rfl
    | some u => have := hr1.sub D u e; rw [hD] at this; cases this
  have swp : Slots G F1 θ1 (wipe σ vs) (wipeE ρ vs) := Slots.wipe sr1.sl sr1.len vs
  have hr2 : HR G F1 (θ1 ++ [D]) (upd H1 D (.lst [])) (M1 ++ [.lst []]) := hr1.push (c := .lst []) hD ⟨hF, [], upd_same, RepL.nil⟩
  have hn : θ1.length = M1.length := hr1.len
  refine ⟨fun i m H => m = ds.length - i ∧ i ≤ ds.length ∧ ∃ F2 M2, LE F1 F2 ∧ HR G F2 (θ1 ++ [D]) H M2 ∧ Good G F1 θ1 (postE G Q) (fun c d H' => Wx c d σ H') (compN M1.length (wipeE ρ vs) gg fc fe (ds.drop i) M2),
    ⟨_, rfl, Nat.zero_le _, F1, _, LE.refl F1, hr2, by rw [List.drop_zero]; exact hg1⟩, ?_⟩
  rintro i m H2 ⟨rfl, hil, F2, M2, l2, hr3, hg2⟩
  have wk := hw F2 (θ1 ++ [D]) H2 M2 l2 (List.prefix_append _ _) hr3 i
  have pD : (θ1 ++ [D])[M1.length]? = some D := by rw [← hn]; simp
  by_cases hlt : i < ds.length
  · obtain ⟨go, yl⟩ := wk.1 ds[i] (List.getElem?_eq_getElem hlt)
    rw [List.drop_eq_getElem_cons hlt] at hg2
    refine .inr ⟨go, fun H' => ∃ F3 M3, LE F1 F3 ∧ HR G F3 (θ1 ++ [D]) H' M3 ∧ Good G F1 θ1 (postE G Q) (fun c d H' => Wx c d σ H') (compN M1.length (wipeE ρ vs) gg fc fe (ds.drop (i + 1)) M3),
      fun H' q => ⟨_, by omega, rfl, hlt, q⟩, fun x H3 hy => ?_⟩
    obtain ⟨F3, l3, hr4, rx⟩ := yl x H3 hy
    have sr4 : SR G F3 (θ1 ++ [D]) (wipe σ vs) H3 (wipeE ρ vs) M2 := ⟨hr4, by rw [wipe_length, wipeE_length]; exact sr1.len, (swp.mono (l2.trans l3) (List.prefix_append _ _))⟩
    refine own x _ H3 _ ?_
    have ww : wipe (wipe σ vs) vs = wipe σ vs := by
      have key : ∀ (us : List Nat) (σ : L2.St), (∀ v ∈ us, σ[v]? = some none ∨ σ[v]? = none) → wipe σ us = σ := by
        intro us
        induction us with
        | nil => intro σ _; rfl
        | cons v us ih =>
          intro σ h
          unfold wipe
          rw [ih σ fun w hw => h w (List.mem_cons_of_mem _ hw)]
          rcases h v List.mem_cons_self with e | e
          · obtain ⟨hl, e2⟩ := List.getElem?_eq_some_iff.mp e
            have : σ.set v none = σ.set v σ[v] := by rw [e2]
            rw [this, List.set_getElem_self]
          · exact List.set_eq_of_length_le (List.getElem?_eq_none_iff.mp e)
      refine key vs _ fun v hv => ?_
      cases e : (wipe σ vs)[v]? with
      | none => exact .inr rfl
      | some o =>
        cases o with
        | none => exact .inl rfl
        | some y => exact absurd hv (wipe_some e).2
    unfold compN at hg2
    refine hg' (fun _ _ _ _ => False) F3 (θ1 ++ [D]) (wipe σ vs) H3 _ M2 (.d ds[i]) x _ sr4 rx ?_
    cases e : gg (.d ds[i]) (wipeE ρ vs) M2 with
    | stuck => rw [e] at hg2; exact hg2
    | exc y N => rw [e] at hg2; exact hg2
    | ok ρ1 N1 =>
      rw [e] at hg2
      dsimp only at hg2
      intro F4 θ4 σ4 H4 l4 p4 sr5 ew
      refine ⟨by rw [ew, ww], ?_⟩
      -- the test
      have hgT : Good G F4 θ4 (postT fun b H5 => if b = true then te WF σ4 H5 fun y H6 => ∃ acc, H6 D = some (.lst acc) ∧ acc.length < sizeLine ∧ ∃ F3 M3, LE F1 F3 ∧ HR G F3 (θ1 ++ [D]) (upd H6 D (.lst (acc ++ [y]))) M3 ∧ Good G F1 θ1 (postE G Q) (fun c d H' => Wx c d σ H') (compN M1.length (wipeE ρ vs) gg fc fe (ds.drop (i + 1)) M3)
          else ∃ F3 M3, LE F1 F3 ∧ HR G F3 (θ1 ++ [D]) H5 M3 ∧ Good G F1 θ1 (postE G Q) (fun c d H' => Wx c d σ H') (compN M1.length (wipeE ρ vs) gg fc fe (ds.drop (i + 1)) M3)) (fun c d H' => Wx c d σ H') (noX (fc ρ1 N1)) := by
        cases e5 : fc ρ1 N1 with
        | stuck => rw [e5] at hg2; exact hg2
        | exc y N => rw [e5] at hg2; exact hg2
        | ok b N2 =>
          rw [e5] at hg2
          simp only [noX, R.bind_ok] at hg2
          intro F5 θ5 H5 l5 p5 hr5
          have lF5 : LE F1 F5 := (((l2.trans l3).trans l4)).trans l5
          have pth : (θ1 ++ [D]) <+: θ5 := p4.trans p5
          have hn2 : (θ1 ++ [D]).length = M1.length + 1 := by simp [hn]
          cases b with
          | false =>
            simp only [Bool.false_eq_true, if_false] at hg2 ⊢
            have hr6 := hr5.cut (M1.length + 1)
            rw [take_len pth hn2] at hr6
            exact ⟨F5, _, lF5, hr6, hg2⟩
          | true =>
            simp only [if_true] at hg2 ⊢
            have sr6 : SR G F5 θ5 σ4 H5 ρ1 N2 := sr5.mono l5 p5 hr5
            refine he (fun _ _ _ _ => False) F5 θ5 σ4 H5 ρ1 N2 _ sr6 ?_
            cases e6 : fe ρ1 N2 with
            | stuck => rw [e6] at hg2; exact hg2
            | exc y N => rw [e6] at hg2; exact hg2.elim
            | ok w N3 =>
              rw [e6] at hg2
              simp only [noX, R.bind_ok] at hg2
              intro F6 θ6 H6 l6 p6 hr6 y ry
              have pth6 : (θ1 ++ [D]) <+: θ6 := pth.trans p6
              have lF6 : LE F1 F6 := lF5.trans l6
              -- the end of the element: frozen
              refine fin_ok F1 F6 (θ1 ++ [D]) θ6 H6 N3 (M1.length + 1) w y (fun y H6 => ∃ acc, H6 D = some (.lst acc) ∧ acc.length < sizeLine ∧ ∃ F3 M3, LE F1 F3 ∧ HR G F3 (θ1 ++ [D]) (upd H6 D (.lst (acc ++ [y]))) M3 ∧ Good G F1 θ1 (postE G Q) (fun c d H' => Wx c d σ H') (compN M1.length (wipeE ρ vs) gg fc fe (ds.drop (i + 1)) M3)) (fun _ _ _ => False) hn2 lF6 pth6 hr6 ry ?_
              cases e7 : fin (M1.length + 1) w N3 with
              | stuck => rw [e7] at hg2; exact hg2
              | exc z N => unfold fin at e7; split at e7 <;> (try split at e7) <;> (try split at e7) <;> (try split at e7) <;> cases e7
              | ok w' N4 =>
                rw [e7] at hg2
                simp only [R.bind_ok] at hg2
                intro F7 θ7 H7 l7 p7 hr7 y2 ry2
                split at hg2
                · rename_i x' acc e8
                  split at hg2
                  · rename_i hz
                    have pD7 : θ7[M1.length]? = some D := by
                      obtain ⟨η, rfl⟩ := p7
                      rw [List.getElem?_append_left (by simp [hn])]
                      exact pD
                    obtain ⟨hF7, vs7, hH7, rl7⟩ := hr7.cell M1.length D _ pD7 e8
                    have r2 : Rep G F7 x' y2 := ry2
                    refine ⟨vs7, hH7, by rw [rl7.length]; exact hz, F7, N4.set M1.length (.lst (acc ++ [x'])), l7, ?_, hg2⟩
                    have hr8 := hr7.write (k := M1.length) (c := .lst (acc ++ [x'])) (o := .lst (vs7 ++ [y2])) pD7 hF7 ⟨hF7, _, upd_same, rl7.append (RepL.one r2)⟩
                    have hl4 : N4.length = M1.length + 1 := by
                      unfold fin at e7
                      have tl : (N3.take (M1.length + 1)).length = M1.length + 1 := by
                        rw [List.length_take, ← hr6.len]
                        have := pth6.length_le
                        simp at this
                        omega
                      split at e7 <;> (try split at e7) <;> (try split at e7) <;> (try split at e7) <;> cases e7 <;> exact tl
                    have e9 : θ7 = θ1 ++ [D] := by
                      have h1 : θ7.length = M1.length + 1 := by rw [hr7.len]; exact hl4
                      have h2 := prefix_take p7
                      rw [hn2, ← h1, List.take_length] at h2
                      exact h2
                    rw [← e9]
                    exact hr8
                  · exact hg2.elim
                · exact hg2.elim
      have hgT2 : Good G F4 θ4 (postT fun b H5 => if b = true then te WF σ4 H5 fun y H6 => ∃ acc, H6 D = some (.lst acc) ∧ acc.length < sizeLine ∧ ∃ F3 M3, LE F1 F3 ∧ HR G F3 (θ1 ++ [D]) (upd H6 D (.lst (acc ++ [y]))) M3 ∧ Good G F1 θ1 (postE G Q) (fun c d H' => Wx c d σ H') (compN M1.length (wipeE ρ vs) gg fc fe (ds.drop (i + 1)) M3)
          else ∃ F3 M3, LE F1 F3 ∧ HR G F3 (θ1 ++ [D]) H5 M3 ∧ Good G F1 θ1 (postE G Q) (fun c d H' => Wx c d σ H') (compN M1.length (wipeE ρ vs) gg fc fe (ds.drop (i + 1)) M3)) (fun _ _ _ => False) (fc ρ1 N1) := noX_good hgT
      exact hc (fun _ _ _ _ => False) F4 θ4 σ4 H4 ρ1 N1 _ sr5 hgT2
  · refine .inl ⟨wk.2 (Nat.le_of_not_lt hlt), ?_⟩
    have e0 : ds.drop i = [] := List.drop_eq_nil_of_le (Nat.le_of_not_lt hlt)
    rw [e0] at hg2
    unfold compN at hg2
    split at hg2
    · rename_i acc ea
      obtain ⟨hFD, vs2, hH2, rl2⟩ := hr3.cell M1.length D _ pD ea
      obtain ⟨hr5, le⟩ := hr3.freeze pD hFD hH2
      have hr6 := hr5.cut M1.length
      rw [take_len (List.prefix_append _ _) hn, List.take_set_of_le (Nat.le_refl _)] at hr6
      refine hg2 _ θ1 H2 (l2.trans le) (List.prefix_refl _) hr6 _ ?_
      simp only [RepW, Rep]
      exact ⟨D, vs2, rfl, upd_same, rl2.mono le⟩
    · exact hg2.elim
end
section
variable {G : Glo} {X : Cx} {x : Str} {p pos spos : Pos}
variable {tg iter elt e : Expr} {ifs : List Expr} {tt : TG} {gg : Gv} {tc : L2.WX → TT} {fc : Tv} {te : L2.WX → TE} {fe : Ev} {t : L2.WX → TS} {g : Sv} {body : List Stmt} {scope : Scope}
/-! ### a dict of data, locked by an outer walk or not -/
theorem le_lockD {F : Hp} {a : Addr} {od : Obj} {u : HO} (hu : DictU u) (hF : F a = some u) : LE F (upd F a (.frz od u)) := by
  have hn : ∀ {b : Addr} {o : HO}, F b = some o → (o ≠ u) → b ≠ a := fun {b o} h n z => by subst z; rw [hF] at h; cases h; exact n rfl
  have rd : ∀ {b : Addr} {y : HO}, Rd F b y → Rd (upd F a (.frz od u)) b y := fun {b y} h => by
    by_cases hb : b = a
    · subst hb
      rcases h with h | ⟨o, h⟩
      · rw [hF] at h; cases h; exact .inr ⟨od, upd_same⟩
      · rw [hF] at h; cases h; rcases hu with ⟨_, e⟩ | ⟨_, e⟩ <;> cases e
    · rcases h with h | ⟨o, h⟩
      · exact .inl (by rw [upd_ne hb]; exact h)
      · exact .inr ⟨o, by rw [upd_ne hb]; exact h⟩
  have ne : ∀ {o : HO}, (∀ ps, o ≠ .dK ps) → (∀ ps, o ≠ .dT ps) → o ≠ u := fun {o} h1 h2 z => by
    rcases hu with ⟨ps, e⟩ | ⟨ps, e⟩
    · exact h1 ps (z.trans e)
    · exact h2 ps (z.trans e)
  refine ⟨fun b xs h => ?_, fun b xs h => ?_, fun b o y h => ?_, fun b ps h => rd h, fun b ps h => rd h, fun b C dx ps h => ?_, fun b ps h => ?_, fun b φ h => ?_⟩
  · rw [upd_ne (hn h (ne (fun _ z => nomatch z) (fun _ z => nomatch z)))]; exact h
  · rw [upd_ne (hn h (ne (fun _ z => nomatch z) (fun _ z => nomatch z)))]; exact h
  · rw [upd_ne (hn h (ne (fun _ z => nomatch z) (fun _ z => nomatch z)))]; exact h
  · rw [upd_ne (hn h (ne (fun _ z => nomatch z) (fun _ z => nomatch z)))]; exact h
  · rw [upd_ne (hn h (ne (fun _ z => nomatch z) (fun _ z => nomatch z)))]; exact h
  · rw [upd_ne (hn h (ne (fun _ z => nomatch z) (fun _ z => nomatch z)))]; exact h
theorem le_unlockD {F F' : Hp} {a : Addr} {od : Obj} {u : HO} (hu : DictU u) (hF : F a = some u) (l : LE (upd F a (.frz od u)) F') : LE F (upd F' a u) := by
  have hn : ∀ {b : Addr} {o : HO}, F b = some o → (o ≠ u) → b ≠ a := fun {b o} h n z => by subst z; rw [hF] at h; cases h; exact n rfl
  have ne : ∀ {o : HO}, (∀ ps, o ≠ .dK ps) → (∀ ps, o ≠ .dT ps) → o ≠ u := fun {o} h1 h2 z => by
    rcases hu with ⟨ps, e⟩ | ⟨ps, e⟩
    · exact h1 ps (z.trans e)
    · exact h2 ps (z.trans e)
  have ll := le_lockD (od := od) hu hF
  have rd : ∀ {b : Addr} {y : HO}, Rd F b y → Rd F' b y → Rd (upd F' a u) b y := fun {b y} h0 h => by
    by_cases hb : b = a
    · subst hb
      rcases h0 with h0 | ⟨o, h0⟩
      · rw [hF] at h0; cases h0; exact .inl upd_same
      · rw [hF] at h0; cases h0; rcases hu with ⟨_, e⟩ | ⟨_, e⟩ <;> cases e
    · rcases h with h | ⟨o, h⟩
      · exact .inl (by rw [upd_ne hb]; exact h)
      · exact .inr ⟨o, by rw [upd_ne hb]; exact h⟩
  refine ⟨fun b xs h => ?_, fun b xs h => ?_, fun b o y h => ?_, fun b ps h => rd h (l.dK _ _ (ll.dK _ _ h)), fun b ps h => rd h (l.dT _ _ (ll.dT _ _ h)), fun b C dx ps h => ?_, fun b ps h => ?_, fun b φ h => ?_⟩
  · rw [upd_ne (hn h (ne (fun _ z => nomatch z) (fun _ z => nomatch z)))]; exact l.lst _ _ (ll.lst _ _ h)
  · rw [upd_ne (hn h (ne (fun _ z => nomatch z) (fun _ z => nomatch z)))]; exact l.tup _ _ (ll.tup _ _ h)
  · rw [upd_ne (hn h (ne (fun _ z => nomatch z) (fun _ z => nomatch z)))]; exact l.frz _ _ _ (ll.frz _ _ _ h)
  · rw [upd_ne (hn h (ne (fun _ z => nomatch z) (fun _ z => nomatch z)))]; exact l.ins _ _ _ _ (ll.ins _ _ _ _ h)
  · rw [upd_ne (hn h (ne (fun _ z => nomatch z) (fun _ z => nomatch z)))]; exact l.xd _ _ (ll.xd _ _ h)
  · rw [upd_ne (hn h (ne (fun _ z => nomatch z) (fun _ z => nomatch z)))]; exact l.ext _ _ (ll.ext _ _ h)
theorem HR.lockD {F : Hp} {θ : List Addr} {H : Hp} {M : Mem} (hr : HR G F θ H M) {a : Addr} {od : Obj} {u : HO} (hu : DictU u) (h : F a = some u) : HR G (upd F a (.frz od u)) θ (upd H a (.frz od u)) M := by
  have l := le_lockD (od := od) hu h
  refine ⟨tabs_upd hr.tab (fun o e => by rw [h] at e; cases e; rcases hu with ⟨_, e⟩ | ⟨_, e⟩ <;> subst e <;> exact ⟨(fun _ z => by cases z), (fun q z => by unfold LamX.CodeO at z; cases z)⟩), fun b o q => ?_, hr.len, hr.nd, fun k b c hk hc => ?_⟩
  · by_cases hb : b = a
    · subst hb; rw [upd_same] at q ⊢; exact q
    · rw [upd_ne hb] at q ⊢; exact hr.sub b o q
  · have ok := hr.cell k b c hk hc
    by_cases hb : b = a
    · subst hb
      cases c with
      | dead => show upd H b (.frz od u) b ≠ none; rw [upd_same]; exact fun z => nomatch z
      | lst ds => obtain ⟨h0, _⟩ := ok; rw [h] at h0; cases h0
      | dct ks ds => obtain ⟨h0, _⟩ := ok; rw [h] at h0; cases h0
      | dcT ks ds => obtain ⟨h0, _⟩ := ok; rw [h] at h0; cases h0
      | ins C fs ws => obtain ⟨h0, _⟩ := ok; rw [h] at h0; cases h0
    · exact ok.mono l (List.prefix_refl _) (fun z => by rw [upd_ne hb]; exact z) (upd_ne hb)
theorem SR.lockD {F : Hp} {θ : List Addr} {σ : L2.St} {H : Hp} {ρ : Env} {M : Mem} (sr : SR G F θ σ H ρ M) {a : Addr} {od : Obj} {u : HO} (hu : DictU u) (h : F a = some u) : SR G (upd F a (.frz od u)) θ σ (upd H a (.frz od u)) ρ M :=
  ⟨sr.hr.lockD hu h, sr.len, sr.sl.mono (le_lockD hu h) (List.prefix_refl _)⟩
/-- what holds of an unlocked heap, seen from the locked one -/
def Unl (F : Hp) (a : Addr) (u : HO) : Prop := F a = none ∨ F a = some u
theorem le_unlockU {F F' : Hp} {a : Addr} {od : Obj} {u : HO} (hu : DictU u) (hF : Unl F a u) (l : LE (upd F a (.frz od u)) F') : LE F (upd F' a u) := hF.elim (fun h => le_unlock hu h l) fun h => le_unlockD hu h l
theorem good_lockE {F : Hp} {θ : List Addr} {Q : VK} {Wx : Value → Option Addr → Hp → Prop} {a : Addr} {od : Obj} {u : HO} (hu : DictU u) (hF : Unl F a u) {r : R W} (hne : ∀ x M, r ≠ .exc x M) (hg : Good G F θ (postE G Q) Wx r) :
    Good G (upd F a (.frz od u)) θ (postE G fun v H' => H' a = some (.frz od u) ∧ Q v (upd H' a u)) Wx r := by
  cases r with
  | stuck => exact hg
  | exc x M => exact absurd rfl (hne x M)
  | ok w M =>
    intro F' θ' H' l p hr v rv
    have hFa : F' a = some (.frz od u) := l.frz _ _ _ upd_same
    exact ⟨hr.sub _ _ hFa, hg (upd F' a u) θ' (upd H' a u) (le_unlockU hu hF l) p (hr.unlock hu hFa) v (rv.unl (lu_of hu hFa))⟩
theorem good_lockS {F : Hp} {θ : List Addr} {D : Ends} {Wx : L2.WX} {a : Addr} {od : Obj} {u : HO} (hu : DictU u) (hF : F a = some u) {r : RS} (hg : GoodS G F θ D Wx r) : GoodS G (upd F a (.frz od u)) θ (lockD D a od u) Wx r := by
  have lF := le_lockD (od := od) hu hF
  cases r with
  | stuck => exact hg
  | exc x ρ M => exact fun F' θ' σ' H' c d l p sr rx => hg F' θ' σ' H' c d (lF.trans l) p sr rx
  | go f ρ M =>
    intro F' θ' σ' H' l p sr
    have hFa : F' a = some (.frz od u) := l.frz _ _ _ upd_same
    have hHa : H' a = some (.frz od u) := sr.hr.sub _ _ hFa
    have sr2 := sr.unlock hu hFa
    have q := hg (upd F' a u) θ' σ' (upd H' a u) (le_unlockD hu hF l) p sr2
    cases f with
    | nx => exact ⟨hHa, q⟩
    | bk => exact ⟨hHa, q⟩
    | ct => exact ⟨hHa, q⟩
    | ret w => exact fun v rv => ⟨hHa, q v (rv.unl (lu_of hu hFa))⟩
/-! ### [e for x in d], d a name of a dict -/
def eCompK (i : Nat) (vs : List Nat) (g : Gv) (tt : Tv) (fe : Ev) : Ev := fun ρ M => match ρ[i]? with
  | some (some (.d (.dct ks ws))) => compN M.length (wipeE ρ vs) g tt fe ks (M ++ [.lst []])
  | some (some (.cell k)) => match M[k]? with
    | some (.dct ks ws) => compN M.length (wipeE (ρ.set i (some (.d (.dct ks ws)))) vs) g tt fe ks (M.set k .dead ++ [.lst []])
    | some (.dcT ks ws) => compN M.length (wipeE (ρ.set i (some (.d (.dct ks ws)))) vs) g tt fe ks (M.set k .dead ++ [.lst []])
    | _ => .stuck
  | _ => .stuck
/-- locked here, or locked already -/
def tLockOrE (t : TE) : TE := fun σ H Q => tLockE t σ H Q ∨ t σ H Q
def tLockOr (t : TS) : TS := fun D σ H => tLock t D σ H ∨ t D σ H
theorem pe_lockOr {e : Expr} {t : TE} (h : PE X e t) : PE X e (tLockOrE t) := ⟨fun pins s σ H Q I hw => hw.elim (fun q => (pe_lock h).run pins s σ H Q I q) fun q => h.run pins s σ H Q I q⟩
theorem ps_lockOr {st : Stmt} {t : TS} (h : PS X st t) : PS X st (tLockOr t) := ⟨fun pins s σ H D I hw => hw.elim (fun q => (ps_lock h).run pins s σ H D I q) fun q => h.run pins s σ H D I q⟩
theorem sem_compK (i : Nat) {vs : List Nat} (hg' : SemG G tt gg) (own : OwnT tt vs) (hc : SemT G tc fc) (he : SemE G te fe) : SemE G (fun Wx => tLockOrE (tLc (iKeys (tVar i)) tt (tc WF) (te WF) vs)) (eCompK i vs gg fc fe) := by
  intro Wx F θ σ H ρ M Q sr hg
  unfold eCompK at hg
  split at hg
  · rename_i ks ws ek
    obtain ⟨v, hv, rv⟩ := sr.sl i _ ek
    simp only [RepW, Rep] at rv
    obtain ⟨a, us, rfl, h2, hd⟩ := rv
    rcases hd with ⟨ps, hR, h1, rfl⟩ | ⟨ps, hR, h1, rfl⟩
    · rcases hR with hF | ⟨od, hF⟩
      · refine .inl ⟨a, .dK ps, sr.hr.sub _ _ hF, trivial, fun od => ?_⟩
        have sr1 := sr.lockD (od := od) (.inl ⟨ps, rfl⟩) hF
        refine ⟨.ref a, hv, a, od, rfl, .inl ⟨ps, upd_same, fun D hD => ?_⟩⟩
        exact comp_core (Wx := Wx) hg' own hc he sr1 (walk_keys upd_same h1) (good_lockE (.inl ⟨ps, rfl⟩) (.inr hF) (fun x M => compN_noexc _ _ _ _ _ _ _ x M) hg) D hD
      · refine .inr ⟨.ref a, hv, a, od, rfl, .inl ⟨ps, sr.hr.sub _ _ hF, fun D hD => ?_⟩⟩
        exact comp_core (Wx := Wx) hg' own hc he sr (walk_keys hF h1) hg D hD
    · rcases hR with hF | ⟨od, hF⟩
      · refine .inl ⟨a, .dT ps, sr.hr.sub _ _ hF, trivial, fun od => ?_⟩
        have sr1 := sr.lockD (od := od) (.inr ⟨ps, rfl⟩) hF
        refine ⟨.ref a, hv, a, od, rfl, .inr ⟨ps, upd_same, fun D hD => ?_⟩⟩
        exact comp_core (Wx := Wx) hg' own hc he sr1 (walk_keysT upd_same h1) (good_lockE (.inr ⟨ps, rfl⟩) (.inr hF) (fun x M => compN_noexc _ _ _ _ _ _ _ x M) hg) D hD
      · refine .inr ⟨.ref a, hv, a, od, rfl, .inr ⟨ps, sr.hr.sub _ _ hF, fun D hD => ?_⟩⟩
        exact comp_core (Wx := Wx) hg' own hc he sr (walk_keysT hF h1) hg D hD
  · rename_i k ek
    obtain ⟨v, hv, a, ha, rfl⟩ := sr.sl i _ ek
    have e : σ.set i (some (.ref a)) = σ := by
      obtain ⟨hl, hx⟩ := List.getElem?_eq_some_iff.mp hv
      rw [← hx]
      exact List.set_getElem_self hl
    have hml : ∀ k, (M.set k Cell.dead).length = M.length := fun k => List.length_set
    split at hg
    · rename_i ks vs' ex
      obtain ⟨hF, ps, hH, h1, h2⟩ := sr.hr.cell k a _ ha ex
      refine .inl ⟨a, .dK ps, hH, trivial, fun od => ?_⟩
      have hw1 := sr.hr.write (o := .frz od (.dK ps)) (c := .dead) ha hF (show upd H a (.frz od (.dK ps)) a ≠ none by rw [upd_same]; exact fun z => nomatch z)
      obtain ⟨hr1, le⟩ := hw1.freeze ha hF upd_same
      rw [List.set_set] at hr1
      have sr1 := (sr.mono le (List.prefix_refl _) hr1).set (i := i) (w := .d (.dct ks vs')) (v := .ref a) (by
        simp only [RepW, Rep]
        exact ⟨a, _, rfl, h2.mono le, .inl ⟨ps, .inr ⟨od, upd_same⟩, h1, rfl⟩⟩)
      rw [e] at sr1
      refine ⟨.ref a, hv, a, od, rfl, .inl ⟨ps, upd_same, fun D hD => ?_⟩⟩
      refine comp_core (Wx := Wx) (Q := fun v H' => H' a = some (.frz od (.dK ps)) ∧ Q v (upd H' a (.dK ps))) hg' own hc he sr1 (walk_keys upd_same h1) ?_ D hD
      rw [hml]
      exact good_lockE (.inl ⟨ps, rfl⟩) (.inl hF) (fun x M => compN_noexc _ _ _ _ _ _ _ x M) hg
    · rename_i ks vs' ex
      obtain ⟨hF, ps, hH, h1, h2⟩ := sr.hr.cell k a _ ha ex
      refine .inl ⟨a, .dT ps, hH, trivial, fun od => ?_⟩
      have hw1 := sr.hr.write (o := .frz od (.dT ps)) (c := .dead) ha hF (show upd H a (.frz od (.dT ps)) a ≠ none by rw [upd_same]; exact fun z => nomatch z)
      obtain ⟨hr1, le⟩ := hw1.freeze ha hF upd_same
      rw [List.set_set] at hr1
      have sr1 := (sr.mono le (List.prefix_refl _) hr1).set (i := i) (w := .d (.dct ks vs')) (v := .ref a) (by
        simp only [RepW, Rep]
        exact ⟨a, _, rfl, h2.mono le, .inr ⟨ps, .inr ⟨od, upd_same⟩, h1, rfl⟩⟩)
      rw [e] at sr1
      refine ⟨.ref a, hv, a, od, rfl, .inr ⟨ps, upd_same, fun D hD => ?_⟩⟩
      refine comp_core (Wx := Wx) (Q := fun v H' => H' a = some (.frz od (.dT ps)) ∧ Q v (upd H' a (.dT ps))) hg' own hc he sr1 (walk_keysT upd_same h1) ?_ D hD
      rw [hml]
      exact good_lockE (.inr ⟨ps, rfl⟩) (.inl hF) (fun x M => compN_noexc _ _ _ _ _ _ _ x M) hg
    · exact hg.elim
  · exact hg.elim
theorem pu_lcK (i : Nat) (own : List (Str × Nat)) (hc : X.calm = true) (hN : X.N.Nodup) (hv : PU G X (.Name x p) (fun _ => tVar i) (eVar i)) (ow : OwnT tt (own.map (·.2)))
    (hg : ∀ (s : Shared) (H : Hp) (C : Addr) (cl : List (Str × Addr)) (fp : List Addr), PUG G (X.blk s H scope (compEnvC scope cl C X.env) fp) tg tt gg) (ht : ∀ (s : Shared) (H : Hp) (C : Addr) (cl : List (Str × Addr)) (fp : List Addr), PUTs G (X.blk s H scope (compEnvC scope cl C X.env) fp) ifs tc fc)
    (he : ∀ (s : Shared) (H : Hp) (C : Addr) (cl : List (Str × Addr)) (fp : List Addr), PU G (X.blk s H scope (compEnvC scope cl C X.env) fp) elt te fe)
    (ok : blkC X.N X.env.scope scope own = true := by kernel_rfl) (hs : ∀ y, foldedSetIterable (.Name x p) X.env y = pure y := by intro _; rfl) :
    PU G X (.ListComp elt [⟨tg, .Name x p, ifs, 0⟩] scope pos) (fun Wx => tLockOrE (tLc (iKeys (tVar i)) tt (tc WF) (te WF) (own.map (·.2)))) (eCompK i (own.map (·.2)) gg fc fe) :=
  ⟨fun Wx tk => pe_lockOr (pe_lc hc hN (pi_keys (hv.pe Wx tk)) (blkOk_by ok) (fun s H C cl fp => (hg s H C cl fp).pe) (fun s H C cl fp => (ht s H C cl fp).pe WF takes0) (fun s H C cl fp => (he s H C cl fp).pe WF takes0) hs),
    sem_compK i (hg X.s_0 X.H_0 0 [] []).sem ow (ht X.s_0 X.H_0 0 [] []).sem (he X.s_0 X.H_0 0 [] []).sem⟩
/-! ### for x in d, d a name of a dict -/
def sForD (i : Nat) (g : Gv) (b : Sv) : Sv := fun ρ M => match ρ[i]? with
  | some (some (.d (.dct ks vs))) => forN M.length g b ks ρ M
  | _ => sForK i g b ρ M
theorem sem_forD (i : Nat) (hg' : SemG G tt gg) (hb : SemS G t g) : SemS G (fun Wx => tLockOr (tFor (iKeys (tVar i)) tt (t Wx))) (sForD i gg g) := by
  intro Wx F θ σ H ρ M D0 sr hg
  unfold sForD at hg
  split at hg
  · rename_i ks ws ek
    obtain ⟨v, hv, rv⟩ := sr.sl i _ ek
    simp only [RepW, Rep] at rv
    obtain ⟨a, us, rfl, h2, hd⟩ := rv
    rcases hd with ⟨ps, hR, h1, rfl⟩ | ⟨ps, hR, h1, rfl⟩
    · rcases hR with hF | ⟨od, hF⟩
      · refine .inl ⟨a, .dK ps, sr.hr.sub _ _ hF, trivial, fun od => ?_⟩
        have sr1 := sr.lockD (od := od) (.inl ⟨ps, rfl⟩) hF
        refine ⟨.ref a, hv, a, od, rfl, .inl ⟨ps, upd_same, ?_⟩⟩
        exact for_core (D0 := lockD D0 a od (.dK ps)) sr.hr.len hg' hb sr1 (walk_keys upd_same h1) (good_lockS (.inl ⟨ps, rfl⟩) hF hg)
      · refine .inr ⟨.ref a, hv, a, od, rfl, .inl ⟨ps, sr.hr.sub _ _ hF, ?_⟩⟩
        exact for_core (D0 := D0) sr.hr.len hg' hb sr (walk_keys hF h1) hg
    · rcases hR with hF | ⟨od, hF⟩
      · refine .inl ⟨a, .dT ps, sr.hr.sub _ _ hF, trivial, fun od => ?_⟩
        have sr1 := sr.lockD (od := od) (.inr ⟨ps, rfl⟩) hF
        refine ⟨.ref a, hv, a, od, rfl, .inr ⟨ps, upd_same, ?_⟩⟩
        exact for_core (D0 := lockD D0 a od (.dT ps)) sr.hr.len hg' hb sr1 (walk_keysT upd_same h1) (good_lockS (.inr ⟨ps, rfl⟩) hF hg)
      · refine .inr ⟨.ref a, hv, a, od, rfl, .inr ⟨ps, sr.hr.sub _ _ hF, ?_⟩⟩
        exact for_core (D0 := D0) sr.hr.len hg' hb sr (walk_keysT hF h1) hg
  · exact .inl (sem_forK i hg' hb Wx F θ σ H ρ M D0 sr hg)
theorem pus_forD (i : Nat) (hp : PassesOwn (model X.prog X.w) X.A X.env X.xe) (he : PU G X (.Name x p) (fun _ => tVar i) (eVar i)) (hg : PUG G X tg tt gg) (hb : PUSs G X body t g) (hs : ∀ y, foldedSetIterable (.Name x p) X.env y = pure y := by intro _; rfl) (hc : X.calm = true) : PUS G X (.For tg (.Name x p) body [] pos) (fun Wx => tLockOr (tFor (iKeys (tVar i)) tt (t Wx))) (sForD i gg g) :=
  ⟨fun Wx tk => ps_lockOr (ps_for hp hc (pi_keys (he.pe Wx tk)) hg.pe (hb.pe Wx tk) hs), sem_forD i hg.sem hb.sem⟩
end
end PU
set_option Elab.async false
set_option linter.all false
set_option maxRecDepth 100000
set_option maxHeartbeats 4000000
namespace PU
open PySem PySem.Spec PyProof.Rows L2 RZ
section
variable {G : Glo} {X : Cx} {pos p apos cpos : Pos} {e o : Expr} {es : List Expr} {te to : L2.WX → TE} {fe fo : Ev} {t : L2.WX → TA} {fs : Av}
/-! ### methods of a text with a text or a thing -/
def eM1 (g : Op2) (fo fe : Ev) : Ev := fun ρ M => (fo ρ M).bind fun x M1 => match x with
  | .d (.str _) => (fe ρ M1).bind fun y M2 => g M2 x y
  | _ => .stuck
def M1S (G : Glo) (r : V → List V → Hp → VK → Prop) (g : Op2) : Prop := ∀ (F : Hp) (θ : List Addr) (H : Hp) (M : Mem) (x y : W) (v u : V) (Q : VK) (Wx : Value → Option Addr → Hp → Prop),
  HR G F θ H M → RepW G F θ x v → RepW G F θ y u → Good G F θ (postE G Q) Wx (g M x y) → r v [u] H Q
theorem sem_m1 {r : V → List V → Hp → VK → Prop} {g : Op2} (hs : M1S G r g) (ho : SemE G to fo) (he : SemE G te fe) : SemE G (fun Wx => tM1 r (to Wx) (te Wx)) (eM1 g fo fe) := by
  intro Wx F θ σ H ρ M Q sr hg
  refine ho Wx F θ σ H ρ M _ sr (Good.seq hg fun x M1 F1 θ1 H1 _ l1 p1 hr1 hg1 v rv => ?_)
  split at hg1
  · rename_i z _
    have rv2 := rv
    simp only [RepW, Rep] at rv2
    refine ⟨⟨z, rv2⟩, ?_⟩
    refine he Wx F1 θ1 σ H1 ρ M1 _ (sr.mono l1 p1 hr1) (Good.seq hg1 fun y M2 F2 θ2 H2 _ l2 p2 hr2 hg2 u ru => ?_)
    exact hs F2 θ2 H2 M2 _ y v u Q _ hr2 (rv.mono l2 p2) ru hg2
  · exact hg1.elim
/-! split -/
def splitW : Op2 := fun M x y => match x, y with
  | .d (.str a), .d (.str b) => if (b.length == 0) = false ∧ a.length + 2 ≤ sizeLine then .ok (.d (.lst ((Txt.split a b).map D.str))) M else .stuck
  | _, _ => .stuck
theorem repL_strs {F : Hp} : ∀ ys : List Str, RepL G F (ys.map D.str) (ys.map V.str)
  | [] => RepL.nil
  | y :: ys => RepL.cons (by simp only [Rep]) (repL_strs ys)
theorem m1_split : M1S G (fun x xs H Q => ∃ a b, x = .str a ∧ xs = [.str b] ∧ (b.length == 0) = false ∧ a.length + 2 ≤ sizeLine ∧ rNewStrs (Txt.split a b) H Q) splitW := by
  intro F θ H M x y v u Q Wx hr rx ry hg
  unfold splitW at hg
  split at hg
  · rename_i a b
    split at hg
    · rename_i hc
      simp only [RepW, Rep] at rx ry
      subst rx ry
      refine ⟨a, b, rfl, rfl, hc.1, hc.2, fun q hq => ?_⟩
      obtain ⟨hr', le⟩ := hr.alloc hq (.lst ((Txt.split a b).map V.str))
      refine hg _ θ _ le (List.prefix_refl _) hr' _ ?_
      simp only [RepW, Rep]
      exact ⟨q, _, rfl, upd_same, repL_strs _⟩
    · exact hg.elim
  · exact hg.elim
theorem pu_split (ho : PU G X o to fo) (he : PU G X e te fe) (hs : starEach [e] X.env = [(false, eval e X.env)] := by rfl) (hbase : attributeBase o "split" X.env (eval o X.env) = eval o X.env := by rfl) (hline : (apos.endLine == pos.line) = true := by rfl) :
    PU G X (.Call (.Attribute o "split" apos) [e] [] pos) (fun Wx => tM1 (fun x xs H Q => ∃ a b, x = .str a ∧ xs = [.str b] ∧ (b.length == 0) = false ∧ a.length + 2 ≤ sizeLine ∧ rNewStrs (Txt.split a b) H Q) (to Wx) (te Wx)) (eM1 splitW fo fe) :=
  ⟨fun Wx tk => pe_split (ho.pe Wx tk) (he.pe Wx tk) hs hbase hline, sem_m1 m1_split ho.sem he.sem⟩
/-! startswith -/
def startsW : Op2 := fun M x y => match x, y with
  | .d (.str a), .d (.str b) => .ok (.d (.bl (Txt.startswith a b))) M
  | _, _ => .stuck
theorem m1_starts : M1S G (fun x xs H Q => ∃ a b, x = .str a ∧ xs = [.str b] ∧ Q (.bl (Txt.startswith a b)) H) startsW := by
  intro F θ H M x y v u Q Wx hr rx ry hg
  unfold startsW at hg
  split at hg
  · rename_i a b
    simp only [RepW, Rep] at rx ry
    subst rx ry
    exact ⟨a, b, rfl, rfl, hg F θ H (LE.refl F) (List.prefix_refl _) hr _ (by simp only [RepW, Rep])⟩
  · exact hg.elim
theorem pu_startswith (ho : PU G X o to fo) (he : PU G X e te fe) (hs : starEach [e] X.env = [(false, eval e X.env)] := by rfl) (hbase : attributeBase o "startswith" X.env (eval o X.env) = eval o X.env := by rfl) (hline : (apos.endLine == pos.line) = true := by rfl) :
    PU G X (.Call (.Attribute o "startswith" apos) [e] [] pos) (fun Wx => tM1 (fun x xs H Q => ∃ a b, x = .str a ∧ xs = [.str b] ∧ Q (.bl (Txt.startswith a b)) H) (to Wx) (te Wx)) (eM1 startsW fo fe) :=
  ⟨fun Wx tk => pe_m1 PySem.F.slot_str_startswith PySem.F.type_str_startswith mt_startswith (ho.pe Wx tk) (he.pe Wx tk) hs hbase hline, sem_m1 m1_starts ho.sem he.sem⟩
/-! join -/
def strsD : List D → Option (List Str)
  | [] => some []
  | .str x :: r => (strsD r).map (x :: ·)
  | _ => none
theorem strsD_eq : ∀ {ds : List D} {ys : List Str}, strsD ds = some ys → ds = ys.map D.str
  | [], _, e => by simp only [strsD] at e; cases e; rfl
  | .str x :: r, _, e => by
    simp only [strsD] at e
    obtain ⟨ys, e1, rfl⟩ := Option.map_eq_some_iff.mp e
    rw [strsD_eq e1]; rfl
  | .bl _ :: r, _, e => by simp [strsD] at e
  | .non :: r, _, e => by simp [strsD] at e
  | .int _ :: r, _, e => by simp [strsD] at e
  | .tup _ :: r, _, e => by simp [strsD] at e
  | .lst _ :: r, _, e => by simp [strsD] at e
  | .ktup _ :: r, _, e => by simp [strsD] at e
  | .klst _ :: r, _, e => by simp [strsD] at e
  | .dct _ _ :: r, _, e => by simp [strsD] at e
  | .ins _ _ _ :: r, _, e => by simp [strsD] at e
  | .cls _ :: r, _, e => by simp [strsD] at e
  | .ty _ :: r, _, e => by simp [strsD] at e
  | .exn _ _ _ :: r, _, e => by simp [strsD] at e
@[simp] theorem strsD_map : ∀ ys : List Str, strsD (ys.map D.str) = some ys
  | [] => rfl
  | y :: ys => by simp [strsD, strsD_map ys]
theorem repL_strs_eq {F : Hp} : ∀ {ys : List Str} {vs : List V}, RepL G F (ys.map D.str) vs → vs = ys.map V.str
  | [], _, h => by simp only [List.map_nil, RepL] at h; exact h
  | y :: ys, _, h => by
    simp only [List.map_cons, RepL, Rep] at h
    obtain ⟨v, r, rfl, h1, h2⟩ := h
    rw [h1, repL_strs_eq h2]; rfl
def joinW : Op2 := fun M x y => match x with
  | .d (.str a) => match viewL M y with
    | some xs => match strsD xs with
      | some ys => if (ys.map (·.length)).sum + ys.length * a.length ≤ 16777216 then .ok (.d (.str (Txt.join a ys))) M else .stuck
      | none => .stuck
    | none => match viewT y with
      | some xs => match strsD xs with
        | some ys => if (ys.map (·.length)).sum + ys.length * a.length ≤ 16777216 then .ok (.d (.str (Txt.join a ys))) M else .stuck
        | none => .stuck
      | none => .stuck
  | _ => .stuck
abbrev rJoinA (K : PySem.W.Frag) : V → List V → Hp → VK → Prop := fun x xs H Q => ∃ a p, ∃ ys : List Str, x = .str a ∧ xs = [.ref p] ∧ (SqL K H p (ys.map V.str) ∨ SqT K H p (ys.map V.str)) ∧
    (ys.map (·.length)).sum + ys.length * a.length ≤ 16777216 ∧ Q (.str (Txt.join a ys)) H
theorem m1_join : M1S G (rJoinA G.K) joinW := by
  intro F θ H M x y v u Q Wx hr rx ry hg
  unfold joinW at hg
  split at hg
  · rename_i a
    simp only [RepW, Rep] at rx
    subst rx
    split at hg
    · rename_i xs e
      split at hg
      · rename_i ys ey
        split at hg
        · rename_i hc
          obtain ⟨q, us, rfl, h1, h2⟩ := viewL_ok hr ry e
          have := strsD_eq ey
          subst this
          have := repL_strs_eq h2
          subst this
          exact ⟨a, q, ys, rfl, rfl, .inl h1, hc, hg F θ H (LE.refl F) (List.prefix_refl _) hr _ (by simp only [RepW, Rep])⟩
        · exact hg.elim
      · exact hg.elim
    · split at hg
      · rename_i xs e
        split at hg
        · rename_i ys ey
          split at hg
          · rename_i hc
            obtain ⟨q, us, rfl, h1, h2⟩ := viewT_ok hr ry e
            have := strsD_eq ey
            subst this
            have := repL_strs_eq h2
            subst this
            exact ⟨a, q, ys, rfl, rfl, .inr h1, hc, hg F θ H (LE.refl F) (List.prefix_refl _) hr _ (by simp only [RepW, Rep])⟩
          · exact hg.elim
        · exact hg.elim
      · exact hg.elim
  · exact hg.elim
theorem pu_join (ho : PU G X o to fo) (he : PU G X e te fe) (hK : X.K = G.K := by rfl) (hs : starEach [e] X.env = [(false, eval e X.env)] := by rfl) (hbase : attributeBase o "join" X.env (eval o X.env) = eval o X.env := by rfl) (hline : (apos.endLine == pos.line) = true := by rfl) :
    PU G X (.Call (.Attribute o "join" apos) [e] [] pos) (fun Wx => tM1 (rJoinA G.K) (to Wx) (te Wx)) (eM1 joinW fo fe) :=
  ⟨fun Wx tk => hK ▸ pe_join (ho.pe Wx tk) (he.pe Wx tk) hs hbase hline, sem_m1 m1_join ho.sem he.sem⟩
/-! str(n) -/
def strW : OpN := fun ws M => match ws with
  | [.d (.int i)] => if i.natAbs.log2 < 1920 then .ok (.d (.str (toString i))) M else .stuck
  | _ => .stuck
abbrev rStrA : List V → Hp → VK → Prop := fun xs H Q => ∃ i, xs = [.int i] ∧ i.natAbs.log2 < 1920 ∧ Q (.str (toString i)) H
theorem calls_str : CallS G rStrA strW := by
  intro F θ H M ws vs Q Wx hr rw' hg
  unfold strW at hg
  split at hg
  · rename_i i
    split at hg
    · rename_i hc
      obtain ⟨v, rfl, rv⟩ := RepWL.one rw'
      simp only [RepW, Rep] at rv
      subst rv
      exact ⟨i, rfl, hc, hg F θ H (LE.refl F) (List.prefix_refl _) hr _ (by simp only [RepW, Rep])⟩
    · exact hg.elim
  · exact hg.elim
theorem pu_strf (hm : X.mg "str" = none) (ha : PUA G X [e] t fs) (hg : L2.Gl X "str" := by rfl) (he : starEach (e :: []) X.env = (false, eval e X.env) :: starEach [] X.env := by rfl) (hpl : (backTo pos (starEach [] X.env)).any (·.1) = false := by rfl) :
    PU G X (.Call (.Name "str" p) [e] [] pos) (fun Wx => tCB rStrA (t Wx)) (eA strW fs) := pu_callTy call_str_int calls_str hm (by decide +kernel) ha hg (by decide +kernel) (by decide +kernel) he hpl
/-! f'..' -/
def fmtW : Op1 := fun M x => match x with
  | .d (.str y) => if y.length ≤ sizeLine then .ok (.d (.str y)) M else .stuck
  | .d (.int i) => if i.natAbs.log2 < 1920 then .ok (.d (.str (toString i))) M else .stuck
  | _ => .stuck
theorem pu_fmt (he : PU G X e te fe) : PU G X (.FormattedValue e (-1) none pos) (fun Wx => tFmt (te Wx)) (e1 fmtW fe) := by
  refine ⟨fun Wx tk => pe_fmt (he.pe Wx tk), ?_⟩
  intro Wx F θ σ H ρ M Q sr hg
  refine he.sem Wx F θ σ H ρ M _ sr (Good.seq hg fun x M1 F1 θ1 H1 _ l1 p1 hr1 hg1 v rv => ?_)
  unfold fmtW at hg1
  split at hg1
  · rename_i y _
    split at hg1
    · rename_i hc
      simp only [RepW, Rep] at rv
      exact .inl ⟨y, rv, hc, hg1 F1 θ1 H1 (LE.refl _) (List.prefix_refl _) hr1 _ (by simp only [RepW, Rep])⟩
    · exact hg1.elim
  · rename_i i _
    split at hg1
    · rename_i hc
      simp only [RepW, Rep] at rv
      exact .inr ⟨i, rv, hc, hg1 F1 θ1 H1 (LE.refl _) (List.prefix_refl _) hr1 _ (by simp only [RepW, Rep])⟩
    · exact hg1.elim
  · exact hg1.elim
/-- the parts one behind the other -/
def eJs : List Ev → Str → Ev
  | [], acc => fun _ M => .ok (.d (.str acc)) M
  | f :: fs, acc => fun ρ M => (f ρ M).bind fun x M1 => match x with
    | .d (.str y) => if (acc ++ y).length ≤ sizeLine then eJs fs (acc ++ y) ρ M1 else .stuck
    | _ => .stuck
inductive PUJ (G : Glo) (X : Cx) : List Expr → List (L2.WX → TE) → List Ev → Prop where
  | nil : PUJ G X [] [] []
  | cons {e : Expr} {t : L2.WX → TE} {f : Ev} {es : List Expr} {ts : List (L2.WX → TE)} {fs : List Ev} (h : PU G X e t f) (r : PUJ G X es ts fs) : PUJ G X (e :: es) (t :: ts) (f :: fs)
theorem PUJ.pj {es : List Expr} {ts : List (L2.WX → TE)} {fs : List Ev} (h : PUJ G X es ts fs) (Wx : L2.WX) (tk : Takes X Wx) : PJ X es (ts.map (· Wx)) := by
  induction h with
  | nil => exact .nil
  | cons h r ih => exact .cons (h.pe Wx tk) ih
theorem PUJ.sem {es : List Expr} {ts : List (L2.WX → TE)} {fs : List Ev} (h : PUJ G X es ts fs) (Wx : L2.WX) : ∀ (acc : Str) (F : Hp) (θ : List Addr) (σ : L2.St) (H : Hp) (ρ : Env) (M : Mem) (Q : VK),
    SR G F θ σ H ρ M → Good G F θ (postE G Q) (fun c d H' => Wx c d σ H') (eJs fs acc ρ M) → tJs (ts.map (· Wx)) acc σ H fun out H1 => Q (.str out) H1 := by
  induction h with
  | nil => exact fun acc F θ σ H ρ M Q sr hg => hg F θ H (LE.refl F) (List.prefix_refl _) sr.hr _ (by simp only [RepW, Rep])
  | cons h r ih =>
    intro acc F θ σ H ρ M Q sr hg
    refine h.sem Wx F θ σ H ρ M _ sr (Good.seq hg fun x M1 F1 θ1 H1 _ l1 p1 hr1 hg1 v rv => ?_)
    split at hg1
    · rename_i y _
      split at hg1
      · rename_i hc
        simp only [RepW, Rep] at rv
        exact ⟨y, rv, hc, ih (acc ++ y) F1 θ1 σ H1 ρ M1 Q (sr.mono l1 p1 hr1) hg1⟩
      · exact hg1.elim
    · exact hg1.elim
theorem pu_joined {v1 v2 : Expr} {rest : List Expr} {ts : List (L2.WX → TE)} {fs : List Ev} (h : PUJ G X (v1 :: v2 :: rest) ts fs) : PU G X (.JoinedStr (v1 :: v2 :: rest) pos) (fun Wx σ H Q => tJs (ts.map (· Wx)) Str.empty σ H fun out H1 => Q (.str out) H1) (eJs fs Str.empty) :=
  ⟨fun Wx tk => pe_joined (h.pj Wx tk), fun Wx F θ σ H ρ M Q sr hg => h.sem Wx Str.empty F θ σ H ρ M Q sr hg⟩
theorem pu_joined1 (he : PU G X e te fe) : PU G X (.JoinedStr [e] pos) te fe := ⟨fun Wx tk => pe_joined1 (he.pe Wx tk), he.sem⟩
end
end PU
set_option Elab.async false
set_option linter.all false
set_option maxRecDepth 100000
set_option maxHeartbeats 4000000
open PySem PySem.Spec PyProof.Rows
namespace L2
/-! ### sorted of a list of tuples of one shape (each item an int or a text), any length -/
abbrev TKy : Type := List (Int ⊕ List Nat)
def tupItemsV (shape : Nat → Bool) : Nat → List V → Option TKy
  | _, [] => some []
  | i, .int n :: r => if shape i = true then none else (tupItemsV shape (i + 1) r).map (Sum.inl n :: ·)
  | i, .str x :: r => if shape i = true then (tupItemsV shape (i + 1) r).map (Sum.inr x.cps.toList :: ·) else none
  | _, _ :: _ => none
theorem tupItemsV_ok {shape : Nat → Bool} : ∀ {vs : List V} {us : List Value} {i : Nat} {l : TKy}, Vals vs us → tupItemsV shape i vs = some l → tupItems shape i us = some l
  | _, _, i, l, .nil, h => by simpa [tupItemsV, tupItems] using h
  | .int n :: vs, u :: us, i, l, .cons r t, h => by
    obtain ⟨tk, rfl⟩ := r
    simp only [tupItemsV] at h
    split at h
    · cases h
    · rename_i hs
      obtain ⟨l', h1, rfl⟩ := Option.map_eq_some_iff.mp h
      simp only [tupItems, if_neg hs, tupItemsV_ok t h1, Option.map_some]
  | .str x :: vs, u :: us, i, l, .cons r t, h => by
    obtain ⟨tk, rfl⟩ := r
    simp only [tupItemsV] at h
    split at h
    · rename_i hs
      obtain ⟨l', h1, rfl⟩ := Option.map_eq_some_iff.mp h
      simp only [tupItems, if_pos hs, tupItemsV_ok t h1, Option.map_some]
    · cases h
  | .non :: vs, _, i, l, .cons r t, h => by simp [tupItemsV] at h
  | .bl _ :: vs, _, i, l, .cons r t, h => by simp [tupItemsV] at h
  | .byt _ :: vs, _, i, l, .cons r t, h => by simp [tupItemsV] at h
  | .flt _ :: vs, _, i, l, .cons r t, h => by simp [tupItemsV] at h
  | .ref _ :: vs, _, i, l, .cons r t, h => by simp [tupItemsV] at h
  | .ty _ :: vs, _, i, l, .cons r t, h => by simp [tupItemsV] at h
abbrev ltK (a b : TKy) : Bool := lexLt itemOrd a b
def rSortedTA (K : PySem.W.Frag) : List V → Hp → VK → Prop := fun vs H Q => ∃ (a : Addr) (xs : List V) (shape : Nat → Bool) (k : V → TKy), vs = [V.ref a] ∧ SqL K H a xs ∧
  (∀ x ∈ xs, ∃ t us, x = V.ref t ∧ us ≠ [] ∧ H t = some (.tup us) ∧ tupItemsV shape 0 us = some (k x)) ∧
  ∀ out p, out.Perm xs → out.Pairwise (fun x y => ltK (k y) (k x) = false) → H p = none → Q (.ref p) (upd H p (.lst out))
theorem tupsOf_ex {h : Heap} {shape : Nat → Bool} : ∀ {vs : List Value}, (∀ v ∈ vs, ∃ f, TupOf h shape v f) → ∃ fs, TupsOf h shape vs fs
  | [], _ => ⟨[], .nil⟩
  | v :: vs, q => by
    obtain ⟨f, hf⟩ := q v List.mem_cons_self
    obtain ⟨fs, hfs⟩ := tupsOf_ex fun u hu => q u (List.mem_cons_of_mem _ hu)
    exact ⟨f :: fs, .cons hf hfs⟩
theorem pairs_list (vs : List Value) : (pairsOf vs).toList = vs.map fun v => (v, v) := by
  unfold pairsOf
  rw [Array.toList_zip]
  induction vs with
  | nil => rfl
  | cons v vs ih => simpa using ih
section
variable {X : Cx}
theorem cr_sortedTA : CallR X (.builtin "sorted") (rSortedTA X.K) := by
  intro pins s σ H vs us Q I r h
  obtain ⟨a, xs, shape, k, rfl, hs, hx, q⟩ := h
  obtain ⟨its, rv, hl, hz⟩ := I.list hs
  obtain ⟨u, rfl, ru⟩ := vals1 r
  obtain rfl : u = Value.ref a := ru
  obtain ⟨e1, e2⟩ := refs_back rv fun x m => by
    obtain ⟨t, _, e, _⟩ := hx x m
    exact ⟨t, e⟩
  have key : ∀ v ∈ its, (∃ f, TupOf s.heap shape v f) ∧ G.tupKeyC s.heap shape v = some (k (backV v)) := by
    intro v hv
    obtain ⟨t, rfl⟩ := e2 v hv
    have hm : V.ref t ∈ xs := by rw [e1]; exact List.mem_map.mpr ⟨_, hv, rfl⟩
    obtain ⟨t', us, e, hne, ht, hk⟩ := hx _ hm
    cases e
    obtain ⟨_, its2, r2, o, ho, hc, n, hd⟩ := I.hok _ _ ht
    have hk2 := tupItemsV_ok r2 hk
    refine ⟨?_, ?_⟩
    · cases its2 with
      | nil =>
        cases r2
        exact absurd rfl hne
      | cons f its2 =>
        refine ⟨f, t, o, _, n, rfl, ho, hc, hd, by simp, fun h0 => ?_, fun h0 => ?_⟩
        · obtain ⟨n', t', l', e, _⟩ := tupItems_int h0 hk2
          exact ⟨n', t', e⟩
        · obtain ⟨n', t', l', e, _⟩ := tupItems_str h0 hk2
          exact ⟨n', t', e⟩
    · have hT : G.isTupObj s.heap (.ref t) = true := by
        unfold G.isTupObj
        simp [ho, hc]
      unfold G.tupKeyC
      rw [if_pos hT]
      unfold tupKey
      simp only [ho, hd]
      simpa [backV] using hk2
  obtain ⟨fs, hfs⟩ := tupsOf_ex (fun v hv => (key v hv).1)
  refine G.sorted_tups (shape := shape) hl.isList hfs (fun v hv => ⟨_, (key v hv).2⟩) (by rw [← rv.length]; exact hz) fun st' hp hst _ => ?_
  obtain ⟨ep, he'⟩ := PyProof.Rows.sortedAll_at s.heap its ((arrOf st').map (·.2))
  have hpl : (arrOf st').toList.Perm (its.map fun v => (v, v)) := by
    rw [← pairs_list]
    exact Array.perm_iff_toList_perm.mp hp
  have hpv : ((arrOf st').map (·.2)).toList.Perm its := by
    have := hpl.map (·.2)
    rw [Array.toList_map]
    simpa [Function.comp_def] using this
  have hself : ∀ p ∈ (arrOf st').toList, p.1 = p.2 ∧ p.2 ∈ its := fun p hp => by
    have := hpl.mem_iff.mp hp
    obtain ⟨v, hv, rfl⟩ := List.mem_map.mp this
    exact ⟨rfl, hv⟩
  have hrefs : ∀ u ∈ ((arrOf st').map (·.2)).toList, ∃ a, u = Value.ref a := fun u hu => e2 u (hpv.mem_iff.mp hu)
  have hperm : (((arrOf st').map (·.2)).toList.map backV).Perm xs := by
    rw [e1]
    exact hpv.map backV
  have hsz : (arrOf st').size = (pairsOf its).size := by
    have := hpl.length_eq
    rw [← pairs_list] at this
    simpa using this
  have hsrt : (((arrOf st').map (·.2)).toList.map backV).Pairwise (fun x y => ltK (k y) (k x) = false) := by
    rw [List.pairwise_iff_getElem]
    intro i j hi hj hij
    simp only [List.length_map, Array.length_toList, Array.size_map] at hi hj
    have kk : ∀ i (hi : i < (arrOf st').size), KK (G.tupKindC s.heap shape) (arrOf st') i = k (backV ((arrOf st')[i]).2) := fun i hi => by
      unfold KK
      rw [Array.getElem?_eq_getElem hi]
      obtain ⟨p1, p2⟩ := hself (arrOf st')[i] (Array.getElem_mem_toList hi)
      show (G.tupKeyC s.heap shape ((arrOf st')[i]).1).getD [] = _
      rw [p1, (key _ p2).2]
      rfl
    have := hst i j (Nat.le_of_lt hij) (by omega)
    rw [kk i hi, kk j hj] at this
    simp only [List.getElem_map, Array.getElem_toList, Array.getElem_map]
    exact this
  have hlen : (((arrOf st').map (·.2)).toList.map backV).length ≤ sizeLine := by
    rw [hperm.length_eq]
    exact hz
  refine ⟨.ref _, upd H (s.heap.objs.size + 1) (.lst (((arrOf st').map (·.2)).toList.map backV)), I.laid (t' := s.toks) (fun _ _ => PyProof.Rows.sortedAll_old) (Nat.le_succ _) ⟨hlen, ((arrOf st').map (·.2)).toList, ep, vals_back hrefs, by rw [Array.toArray_toList]; exact he'⟩, rfl, q _ _ hperm hsrt (I.hok.fresh (Nat.le_succ _))⟩
end
end L2
namespace PU
open L2 RZ
section
variable {G : Glo} {X : Cx} {pos p : Pos} {e : Expr} {t : L2.WX → TA} {fs : Av}
def tupItemsD (shape : Nat → Bool) : Nat → List D → Option TKy
  | _, [] => some []
  | i, .int n :: r => if shape i = true then none else (tupItemsD shape (i + 1) r).map (Sum.inl n :: ·)
  | i, .str x :: r => if shape i = true then (tupItemsD shape (i + 1) r).map (Sum.inr x.cps.toList :: ·) else none
  | _, _ :: _ => none
theorem tupItemsD_ok {F : Hp} {shape : Nat → Bool} : ∀ {ds : List D} {vs : List V} {i : Nat} {l : TKy}, RepL G F ds vs → tupItemsD shape i ds = some l → tupItemsV shape i vs = some l
  | [], _, i, l, h, q => by simp only [RepL] at h; subst h; simpa [tupItemsV, tupItemsD] using q
  | .int n :: r, _, i, l, h, q => by
    simp only [RepL, Rep] at h
    obtain ⟨v, u, rfl, rfl, h2⟩ := h
    simp only [tupItemsD] at q
    split at q
    · cases q
    · rename_i hs
      obtain ⟨l', h1, rfl⟩ := Option.map_eq_some_iff.mp q
      simp only [tupItemsV, if_neg hs, tupItemsD_ok h2 h1, Option.map_some]
  | .str n :: r, _, i, l, h, q => by
    simp only [RepL, Rep] at h
    obtain ⟨v, u, rfl, rfl, h2⟩ := h
    simp only [tupItemsD] at q
    split at q
    · rename_i hs
      obtain ⟨l', h1, rfl⟩ := Option.map_eq_some_iff.mp q
      simp only [tupItemsV, if_pos hs, tupItemsD_ok h2 h1, Option.map_some]
    · cases q
  | .bl _ :: r, _, _, _, _, e => by simp [tupItemsD] at e
  | .non :: r, _, _, _, _, e => by simp [tupItemsD] at e
  | .tup _ :: r, _, _, _, _, e => by simp [tupItemsD] at e
  | .lst _ :: r, _, _, _, _, e => by simp [tupItemsD] at e
  | .ktup _ :: r, _, _, _, _, e => by simp [tupItemsD] at e
  | .klst _ :: r, _, _, _, _, e => by simp [tupItemsD] at e
  | .dct _ _ :: r, _, _, _, _, e => by simp [tupItemsD] at e
  | .ins _ _ _ :: r, _, _, _, _, e => by simp [tupItemsD] at e
  | .cls _ :: r, _, _, _, _, e => by simp [tupItemsD] at e
  | .ty _ :: r, _, _, _, _, e => by simp [tupItemsD] at e
  | .exn _ _ _ :: r, _, _, _, _, e => by simp [tupItemsD] at e
theorem str_of_cps {x y : Str} (h : x.cps.toList = y.cps.toList) : x = y := by
  have hc : x.cps = y.cps := Array.toList_inj.mp h
  cases x; cases y
  simp only [Str.mk.injEq]
  exact hc
theorem tupItemsD_inj {shape : Nat → Bool} : ∀ {ds es : List D} {i : Nat} {l : TKy}, tupItemsD shape i ds = some l → tupItemsD shape i es = some l → ds = es := by
  intro ds
  induction ds with
  | nil =>
    intro es i l h q
    simp only [tupItemsD] at h
    cases h
    cases es with
    | nil => rfl
    | cons e es => cases e <;> simp [tupItemsD] at q
  | cons d ds ih =>
    intro es i l h q
    cases d with
    | int n =>
      simp only [tupItemsD] at h
      split at h
      · cases h
      · rename_i hs
        obtain ⟨l', h1, rfl⟩ := Option.map_eq_some_iff.mp h
        cases es with
        | nil => simp [tupItemsD] at q
        | cons e es =>
          cases e with
          | int m =>
            simp only [tupItemsD] at q
            rw [if_neg hs] at q
            obtain ⟨l'', h2, e⟩ := Option.map_eq_some_iff.mp q
            obtain ⟨e1, e2⟩ := List.cons.inj e
            subst e2
            cases e1
            rw [ih h1 h2]
          | str x => simp only [tupItemsD] at q; rw [if_neg hs] at q; cases q
          | _ => simp [tupItemsD] at q
    | str x =>
      simp only [tupItemsD] at h
      split at h
      · rename_i hs
        obtain ⟨l', h1, rfl⟩ := Option.map_eq_some_iff.mp h
        cases es with
        | nil => simp [tupItemsD] at q
        | cons e es =>
          cases e with
          | str y =>
            simp only [tupItemsD] at q
            rw [if_pos hs] at q
            obtain ⟨l'', h2, e⟩ := Option.map_eq_some_iff.mp q
            obtain ⟨e1, e2⟩ := List.cons.inj e
            subst e2
            rw [ih h1 h2, str_of_cps (Sum.inr.inj e1)]
          | int m => simp only [tupItemsD] at q; rw [if_pos hs] at q; cases q
          | _ => simp [tupItemsD] at q
      · cases h
    | _ => simp [tupItemsD] at h
/-- the key of a tuple -/
def keyD' (shape : Nat → Bool) : D → Option TKy
  | .tup ds => match ds with
    | [] => none
    | _ => tupItemsD shape 0 ds
  | _ => none
def shapeOf : D → Nat → Bool
  | .tup ds, i => match ds[i]? with
    | some (.str _) => true
    | _ => false
  | _, _ => false
def kOf (shape : Nat → Bool) (d : D) : TKy := (keyD' shape d).getD []
def srtT (shape : Nat → Bool) (xs : List D) : List D := xs.mergeSort fun a b => !ltK (kOf shape b) (kOf shape a)
def sortedTW : OpN := fun ws M => match ws with
  | [w] => match viewL M w with
    | some [] => .ok (.d (.lst [])) M
    | some (x :: xs) => if (x :: xs).all (fun d => (keyD' (shapeOf x) d).isSome) then .ok (.d (.lst (srtT (shapeOf x) (x :: xs)))) M else .stuck
    | none => .stuck
  | _ => .stuck
theorem repL_perm {F : Hp} {vs out : List V} (h : out.Perm vs) : ∀ {ds : List D}, RepL G F ds vs → ∃ es, es.Perm ds ∧ RepL G F es out := by
  induction h with
  | nil => intro ds h; exact ⟨ds, List.Perm.refl _, h⟩
  | cons x p ih =>
    intro ds h
    cases ds with
    | nil => simp [RepL] at h
    | cons d ds =>
      simp only [RepL] at h
      obtain ⟨v, r, e, h1, h2⟩ := h
      cases e
      obtain ⟨es, q1, q2⟩ := ih h2
      exact ⟨d :: es, q1.cons d, RepL.cons h1 q2⟩
  | swap x y l =>
    intro ds h
    cases ds with
    | nil => simp [RepL] at h
    | cons d ds =>
      simp only [RepL] at h
      obtain ⟨v, r, e, h1, h2⟩ := h
      cases e
      cases ds with
      | nil => simp [RepL] at h2
      | cons d2 ds =>
        simp only [RepL] at h2
        obtain ⟨v, r, e, h3, h4⟩ := h2
        cases e
        exact ⟨d2 :: d :: ds, List.Perm.swap _ _ _, RepL.cons h3 (RepL.cons h1 h4)⟩
  | trans p q ih1 ih2 =>
    intro ds h
    obtain ⟨es, q1, q2⟩ := ih2 h
    obtain ⟨fs, q3, q4⟩ := ih1 q2
    exact ⟨fs, q3.trans q1, q4⟩
theorem ltK_total {a b : TKy} (h : ltK a b = false) (q : ltK b a = false) : a = b := (listOrd itemOrd).total a b h q
theorem srtT_eq {shape : Nat → Bool} {xs es : List D} (hk : ∀ d ∈ xs, (keyD' shape d).isSome) (hp : es.Perm xs) (hs : es.Pairwise fun x y => ltK (kOf shape y) (kOf shape x) = false) : es = srtT shape xs := by
  have h2 : (srtT shape xs).Perm xs := List.mergeSort_perm ..
  have h3 : (srtT shape xs).Pairwise fun x y => ltK (kOf shape y) (kOf shape x) = false := by
    have := List.pairwise_mergeSort (le := fun a b : D => !ltK (kOf shape b) (kOf shape a)) (by
      intro a b c h k
      simp only [Bool.not_eq_true'] at h k ⊢
      exact KeyOrd.kle_trans (O := listOrd itemOrd) h k) (by
      intro a b
      simp only [Bool.or_eq_true, Bool.not_eq_true']
      cases e : ltK (kOf shape b) (kOf shape a) with
      | false => exact .inl rfl
      | true => exact .inr (KeyOrd.klt_asymm (O := listOrd itemOrd) e)) xs
    exact this.imp fun h => by simpa using h
  refine List.Perm.eq_of_pairwise (le := fun a b : D => ltK (kOf shape b) (kOf shape a) = false) ?_ hs h3 (hp.trans h2.symm)
  intro a b ha hb h k
  have e := ltK_total k h
  have ka := hk a (hp.mem_iff.mp ha)
  have kb := hk b (h2.mem_iff.mp hb)
  obtain ⟨la, ea⟩ := Option.isSome_iff_exists.mp ka
  obtain ⟨lb, eb⟩ := Option.isSome_iff_exists.mp kb
  simp only [kOf, ea, eb, Option.getD_some] at e
  subst e
  cases a <;> simp only [keyD'] at ea <;> try cases ea
  cases b <;> simp only [keyD'] at eb <;> try cases eb
  rename_i x y
  cases x with
  | nil => simp at ea
  | cons x xs =>
    cases y with
    | nil => simp at eb
    | cons y ys =>
      simp only at ea eb
      rw [tupItemsD_inj ea eb]
theorem calls_sortedT : CallS G (rSortedTA G.K) sortedTW := by
  intro F θ H M ws vs Q Wx hr rw' hg
  unfold sortedTW at hg
  split at hg
  · rename_i w
    obtain ⟨v, rfl, rv⟩ := RepWL.one rw'
    split at hg
    · rename_i e
      obtain ⟨a, us, rfl, h1, h2⟩ := viewL_ok hr rv e
      simp only [RepL] at h2
      subst h2
      refine ⟨a, [], fun _ => false, fun _ => [], rfl, h1, fun x hx => absurd hx (by simp), fun out p hp _ hq => ?_⟩
      have := hp.eq_nil
      subst this
      obtain ⟨hr', le⟩ := hr.alloc hq (.lst [])
      refine hg _ θ _ le (List.prefix_refl _) hr' _ ?_
      simp only [RepW, Rep]
      exact ⟨p, _, rfl, upd_same, RepL.nil⟩
    · rename_i x xs e
      split at hg
      · rename_i hall
        obtain ⟨a, us, rfl, h1, h2⟩ := viewL_ok hr rv e
        have hk : ∀ d ∈ x :: xs, (keyD' (shapeOf x) d).isSome := fun d hd => List.all_eq_true.mp hall d hd
        -- the key of a reference: that of the tuple that stands there
        have hex : ∀ v ∈ us, ∃ d ∈ x :: xs, Rep G F d v := by
          have : ∀ {ds : List D} {vs : List V}, RepL G F ds vs → ∀ v ∈ vs, ∃ d ∈ ds, Rep G F d v := by
            intro ds
            induction ds with
            | nil => intro vs h v hv; simp only [RepL] at h; subst h; exact absurd hv (by simp)
            | cons d ds ih =>
              intro vs h v hv
              simp only [RepL] at h
              obtain ⟨u, r, rfl, q1, q2⟩ := h
              rcases List.mem_cons.mp hv with rfl | hv
              · exact ⟨d, List.mem_cons_self, q1⟩
              · obtain ⟨d', m, q⟩ := ih q2 v hv
                exact ⟨d', List.mem_cons_of_mem _ m, q⟩
          exact this h2
        let k : V → TKy := fun v => match v with
          | .ref t => match H t with
            | some (.tup zs) => (tupItemsV (shapeOf x) 0 zs).getD []
            | _ => []
          | _ => []
        have kv : ∀ {d : D} {v : V}, d ∈ x :: xs → Rep G F d v → (∃ t zs, v = V.ref t ∧ zs ≠ [] ∧ H t = some (.tup zs) ∧ tupItemsV (shapeOf x) 0 zs = some (k v)) ∧ k v = kOf (shapeOf x) d := by
          intro d v hd rd
          obtain ⟨l, el⟩ := Option.isSome_iff_exists.mp (hk d hd)
          cases d <;> simp only [keyD'] at el <;> try cases el
          rename_i ds
          cases ds with
          | nil => simp at el
          | cons d0 ds =>
            simp only at el
            simp only [Rep] at rd
            obtain ⟨t, zs, rfl, ht, rz⟩ := rd
            have q := tupItemsD_ok rz el
            have hH := hr.sub _ _ ht
            have hk1 : k (V.ref t) = l := by simp [k, hH, q]
            refine ⟨⟨t, zs, rfl, fun z => ?_, hH, by rw [hk1]; exact q⟩, ?_⟩
            · have := rz.length
              rw [z] at this
              simp at this
            · rw [hk1]
              simp [kOf, keyD', el]
        refine ⟨a, us, shapeOf x, k, rfl, h1, fun v hv => ?_, fun out p hp hs hq => ?_⟩
        · obtain ⟨d, hd, rd⟩ := hex v hv
          exact (kv hd rd).1
        · obtain ⟨es, q1, q2⟩ := repL_perm hp h2
          have hsd : es.Pairwise fun a b => ltK (kOf (shapeOf x) b) (kOf (shapeOf x) a) = false := by
            have : ∀ {ds : List D} {vs : List V}, RepL G F ds vs → (∀ d ∈ ds, d ∈ x :: xs) → vs.Pairwise (fun a b => ltK (k b) (k a) = false) → ds.Pairwise fun a b => ltK (kOf (shapeOf x) b) (kOf (shapeOf x) a) = false := by
              intro ds
              induction ds with
              | nil => intros; exact .nil
              | cons d ds ih =>
                intro vs h hm hp
                simp only [RepL] at h
                obtain ⟨u, r, rfl, r1, r2⟩ := h
                obtain ⟨p1, p2⟩ := List.pairwise_cons.mp hp
                refine List.pairwise_cons.mpr ⟨fun d' hd' => ?_, ih r2 (fun d hd => hm d (List.mem_cons_of_mem _ hd)) p2⟩
                have : ∃ v ∈ r, Rep G F d' v := by
                  have key : ∀ {ds : List D} {vs : List V}, RepL G F ds vs → ∀ d ∈ ds, ∃ v ∈ vs, Rep G F d v := by
                    intro ds
                    induction ds with
                    | nil => intro vs h d hd; exact absurd hd (by simp)
                    | cons d ds ih =>
                      intro vs h d' hd
                      simp only [RepL] at h
                      obtain ⟨u, r, rfl, q1, q2⟩ := h
                      rcases List.mem_cons.mp hd with rfl | hd
                      · exact ⟨u, List.mem_cons_self, q1⟩
                      · obtain ⟨v, m, q⟩ := ih q2 d' hd
                        exact ⟨v, List.mem_cons_of_mem _ m, q⟩
                  exact key r2 d' hd'
                obtain ⟨v, hv, rv⟩ := this
                rw [← (kv (hm d List.mem_cons_self) r1).2, ← (kv (hm d' (List.mem_cons_of_mem _ hd')) rv).2]
                exact p1 v hv
            exact this q2 (fun d hd => q1.mem_iff.mp hd) hs
          have e2 := srtT_eq hk q1 hsd
          subst e2
          obtain ⟨hr', le⟩ := hr.alloc hq (.lst out)
          refine hg _ θ _ le (List.prefix_refl _) hr' _ ?_
          simp only [RepW, Rep]
          exact ⟨p, _, rfl, upd_same, q2.mono le⟩
      · exact hg.elim
    · exact hg.elim
  · exact hg.elim
theorem pu_sortedT (hm : X.mg "sorted" = none) (ha : PUA G X [e] t fs) (hK : X.K = G.K := by rfl) (hg : L2.Gl X "sorted" := by rfl) (he : starEach (e :: []) X.env = (false, eval e X.env) :: starEach [] X.env := by rfl) (hpl : (backTo pos (starEach [] X.env)).any (·.1) = false := by rfl) :
    PU G X (.Call (.Name "sorted" p) [e] [] pos) (fun Wx => tCB (rSortedTA G.K) (t Wx)) (eA sortedTW fs) := pu_callB (hK ▸ cr_sortedTA) calls_sortedT hm (by decide +kernel) ha hg (by decide +kernel) (by decide +kernel) he hpl
end
end PU
set_option Elab.async false
set_option linter.all false
set_option maxRecDepth 100000
set_option maxHeartbeats 4000000
open PySem PySem.Spec PyProof.Rows
namespace HT
section
variable {prog : Program} {w : World} {A : Around} {E : Value → Shared → Prop} {s : Shared}
theorem adjust_back (n : Nat) : Builtin.Slice.sliceAdjust none none (-1) (n : Int) = ((n : Int) - 1, -1) := by
  unfold Builtin.Slice.sliceAdjust
  simp
theorem places_back (n : Nat) : Builtin.Slice.slicePlaces ((n : Int) - 1) (-1) (-1) = n := by
  unfold Builtin.Slice.slicePlaces
  simp only [gt_iff_lt, Int.neg_neg]
  rw [if_neg (by omega)]
  by_cases h : n = 0
  · subst h; simp
  · rw [if_pos (by omega)]
    simp
theorem sliceApplied_back {sl : Addr} {t : Tok} {n : Nat} {Q : Int × Int × Nat → Shared → Prop} (hs : s.heap.IsSliceOf sl .none .none (.int (-1) t))
    (h : Q ((n : Int) - 1, -1, n) s) : wpAny (model prog w) A (Builtin.Slice.sliceApplied (.ref sl) (pure (n : Int))) Q E s := by
  obtain ⟨os, hos, hcs, hds⟩ := id hs
  unfold Builtin.Slice.sliceApplied Builtin.Slice.sliceFields
  refine wpAny_bind (wpAny_bind (wpAny_field hos hds (x := .none) rfl (wpAny_bind (wpAny_field hos hds (x := .none) rfl (wpAny_bind (wpAny_field hos hds (x := .int (-1) t) rfl (wpAny_pure ?_)))))))
  refine wpAny_bind (slicePart_int ?_)
  show wpAny _ _ (if ((-1 : Int) == 0) = true then _ else _) _ _ s
  rw [if_neg (by decide)]
  refine wpAny_bind (slicePart_none (wpAny_bind (slicePart_none (wpAny_bind (wpAny_pure ?_)))))
  show wpAny _ _ (match Builtin.Slice.sliceAdjust none none (-1) (n : Int) with | (lo, hi) => pure (lo, (-1 : Int), Builtin.Slice.slicePlaces lo hi (-1))) _ _ s
  rw [adjust_back n]
  show wpAny _ _ (pure ((n : Int) - 1, (-1 : Int), Builtin.Slice.slicePlaces ((n : Int) - 1) (-1) (-1))) _ _ s
  rw [places_back]
  exact wpAny_pure h
theorem pick_back (xs : Array Value) : ((List.range xs.size).filterMap fun (m : Nat) => xs[(((xs.size : Int) - 1) + (m : Int) * (-1)).toNat]?).toArray = xs.toList.reverse.toArray := by
  congr 1
  have e : ∀ m ∈ List.range xs.size, xs[(((xs.size : Int) - 1) + (m : Int) * (-1)).toNat]? = xs.toList.reverse[m]? := by
    intro m hm
    have hm := List.mem_range.mp hm
    have : (((xs.size : Int) - 1) + (m : Int) * (-1)).toNat = xs.size - 1 - m := by omega
    rw [this, List.getElem?_reverse (by simpa using hm)]
    simp
  have fc : ∀ (l : List Nat) (f g : Nat → Option Value), (∀ m ∈ l, f m = g m) → l.filterMap f = l.filterMap g := by
    intro l f g
    induction l with
    | nil => intro _; rfl
    | cons a l ih =>
      intro h
      rw [List.filterMap_cons, List.filterMap_cons, h a List.mem_cons_self, ih fun m hm => h m (List.mem_cons_of_mem _ hm)]
  rw [fc _ _ _ e]
  have key : ∀ (l : List Value), (List.range l.length).filterMap (fun m => l[m]?) = l := by
    intro l
    induction l with
    | nil => rfl
    | cons a l ih =>
      rw [List.length_cons, List.range_succ_eq_map, List.filterMap_cons]
      simp only [List.getElem?_cons_zero, List.filterMap_map]
      congr 1
  have := key xs.toList.reverse
  rw [List.length_reverse, Array.length_toList] at this
  rw [this]
theorem getItem_tuple_back {t sl : Addr} {items : Array Value} {tk : Tok} {Q : Value → Shared → Prop} (ht : IsTup s.heap t items) (hs : s.heap.IsSliceOf sl .none .none (.int (-1) tk))
    (h : Q (.ref s.heap.objs.size) { s with heap := s.heap.push { cls := .type "tuple", data := .seq items.toList.reverse.toArray } })
    (hsz : items.size ≤ sizeLine) : wpAny (model prog w) A (getItem (.ref t) (.ref sl)) Q E s := by
  have htake : sizeOk (.seq items.toList.reverse.toArray) := by
    show items.toList.reverse.toArray.size ≤ sizeLine
    simpa using hsz
  obtain ⟨os, hos, hcs, hds⟩ := id hs
  have hTs : s.TypeIs (.ref sl) "slice" := ⟨os, hos, hcs⟩
  unfold getItem
  try with_reducible refine wpAny_holding ?_
  first | refine wpAny_bind (wpAny_pure ?_) | skip
  refine wpAny_bind (wpAny_sequenceKey ht.typeIs (by decide) ?_)
  refine wpAny_bind (wpAny_callSpecial?_slot (name := Str.ofString "__getitem__") ht.typeIs PyProof.Rows.slot_tuple_getitem
    (wpAny_call_entry PyProof.Rows.slot_tuple_getitem ht.typeIs entry_tuple_getitem ?_ (args_tuple_getitem _ _)))
  show wpAny _ _ (Builtin.Tuple.tupleItemsOf (.ref t) >>= _) _ _ s
  refine wpAny_bind (tupleItemsOf_ ht ?_)
  refine wpAny_bind (wpAny_typeOf hTs ?_)
  rw [if_pos (by decide)]
  refine wpAny_bind (sliceApplied_back hs ?_)
  have hno : ¬ ((((items.size : Int) - 1) == 0 && (-1 : Int) == 1 && items.size == items.size) = true) := by
    intro q
    rw [Bool.and_eq_true, Bool.and_eq_true] at q
    exact absurd q.1.2 (by decide)
  show wpAny _ _ (if (((items.size : Int) - 1) == 0 && (-1 : Int) == 1 && items.size == items.size) = true then _ else _) _ _ s
  rw [if_neg hno, pick_back]
  first
    | exact wpAny_bind (m := Builtin.Tuple.tupleExact _) (wpAny_newObj_type (wpAny_pure ⟨_, rfl, wpAny_pure h⟩) htake)
    | exact wpAny_bind (m := Builtin.Tuple.tupleExact _) (wpAny_newObj_type (wpAny_bind (wpAny_pure (wpAny_pure ⟨_, rfl, wpAny_pure h⟩))) htake)
    | exact wpAny_bind (wpAny_bind (m := Builtin.Tuple.tupleExact _) (wpAny_newObj_type (wpAny_pure (wpAny_pure ⟨_, rfl, wpAny_pure h⟩)) htake))
    | exact wpAny_bind (wpAny_bind (m := Builtin.Tuple.tupleExact _) (wpAny_newObj_type (wpAny_pure ⟨_, rfl, wpAny_pure h⟩) htake))
end
end HT
namespace L2
section
variable {X : Cx}
/-! ### t[::-1] -/
def tRevT (K : PySem.W.Frag) (te : TE) : TE := fun σ H Q => te σ H fun x H1 => ∃ a xs, x = .ref a ∧ SqT K H1 a xs ∧ ∀ p, H1 p = none → Q (.ref p) (upd H1 p (.tup xs.reverse))
theorem pe_revT {e : Expr} {te : TE} {k : Nat} {p1 p2 p3 pos : Pos} (he : PE X e te) : PE X (.Subscript e (.Slice none none (some (.UnaryOp .USub (.Constant (.int 1) k p1) p2)) p3) pos) (tRevT X.K te) := by
  refine ⟨fun pins s σ H Q I h => ?_⟩
  refine Subscript_ (thn (he.run pins s σ H _ I h) fun v s1 ⟨x, H1, I1, r1, q1⟩ => ?_)
  obtain ⟨a, xs, ex, hx, q⟩ := q1
  subst ex
  cases r1
  have hst : PO X (some (.UnaryOp .USub (.Constant (.int 1) k p1) p2)) (tPart (tUn (rU fun i => .int (-i)) (tC (.int 1)))) := po_some (pe_un un_neg pe_int)
  refine wpAny_Slice (thn (po_none.run pins s1 σ H1 (fun o H2 => o = none ∧ H2 = H1) I1 ⟨rfl, rfl⟩) fun vl s2 ⟨l, H2, I2, pl, el, e2⟩ => ?_)
  subst el e2
  refine thn (po_none.run pins s2 σ H2 (fun o H3 => o = none ∧ H3 = H2) I2 ⟨rfl, rfl⟩) fun vu s3 ⟨u, H3, I3, pu, eu, e3⟩ => ?_
  subst eu e3
  refine thn (hst.run pins s3 σ H3 (fun o H4 => o = some (-1) ∧ H4 = H3) I3 ⟨1, rfl, -1, rfl, rfl, rfl⟩) fun vs s4 ⟨o, H4, I4, ps, eo, e4⟩ => ?_
  subst eo e4
  cases pl
  cases pu
  cases ps with
  | int i t =>
  have I5 : Inv X pins σ H4 { s4 with heap := s4.heap.push { cls := .type "slice", data := .fields #[.none, .none, .int (-1) t] } } := I4.kept (t' := s4.toks) fun b ob q => Heap.get?_push_of_some _ q
  obtain ⟨its, r, ht, hz⟩ := I5.tuple hx
  have hlen := r.length
  show wpAny (model X.prog X.w) X.A (subscriptTail e (.Slice none none (some (.UnaryOp .USub (.Constant (.int 1) k p1) p2)) p3) (.ref a) (.ref s4.heap.objs.size)) (EP X pins σ Q) X.xe { s4 with heap := s4.heap.push { cls := .type "slice", data := .fields #[.none, .none, .int (-1) t] } }
  refine tail_any (ops := [.ref a, .ref s4.heap.objs.size]) ht.typeIs (PyProof.Rows.slot_tuple_getitem.lookup) ?_ (by with_unfolding_all rfl)
  refine HT.getItem_tuple_back ht (Heap.IsSliceOf.new _ _ _ _) ?_ (by rw [List.size_toArray]; omega)
  refine ⟨.ref _, _, I5.laid (t' := s4.toks) (o := .tup xs.reverse) (fun b ob q => Heap.get?_push_of_some _ q) (Nat.le_refl _) ?_, rfl, q _ (I5.hok.fresh (Nat.le_refl _))⟩
  exact ⟨by rw [List.length_reverse]; exact hz, _, r.reverse, _, Heap.get?_push_size _ rfl, rfl, 0, rfl⟩
end
end L2
namespace PU
open L2 RZ
section
variable {G : Glo} {X : Cx} {pos p p1 p2 p3 : Pos} {tg e ea eb ec : Expr} {te : L2.WX → TE} {fe : Ev} {ta : L2.WX → TA} {fa : Av} {k : Nat}
def revTW : Op1 := fun M x => match viewT x with
  | some xs => .ok (.d (.tup xs.reverse)) M
  | none => .stuck
theorem pu_revT (he : PU G X e te fe) (hK : X.K = G.K := by rfl) : PU G X (.Subscript e (.Slice none none (some (.UnaryOp .USub (.Constant (.int 1) k p1) p2)) p3) pos) (fun Wx => tRevT G.K (te Wx)) (e1 revTW fe) := by
  refine ⟨fun Wx tk => hK ▸ pe_revT (he.pe Wx tk), ?_⟩
  intro Wx F θ σ H ρ M Q sr hg
  refine he.sem Wx F θ σ H ρ M _ sr (Good.seq hg fun x M1 F1 θ1 H1 _ l1 p1 hr1 hg1 v rv => ?_)
  unfold revTW at hg1
  split at hg1
  · rename_i xs e1
    obtain ⟨a, vs, rfl, h1, h2⟩ := viewT_ok hr1 rv e1
    refine ⟨a, vs, rfl, h1, fun q hq => ?_⟩
    obtain ⟨hr', le⟩ := hr1.alloc hq (.tup vs.reverse)
    refine hg1 _ θ1 _ le (List.prefix_refl _) hr' _ ?_
    simp only [RepW, Rep]
    exact ⟨q, _, rfl, upd_same, (h2.mono le).rev⟩
  · exact hg1.elim
/-! ### range(a, b, c), c positive and small -/
def rangeC (lo hi c : Int) : List D := (List.range (Builtin.Range.rangeSize lo hi c).toNat).map fun i => D.int (lo + (i : Nat) * c)
def iRange3 (f : Av) : Iv := fun ρ M => (f ρ M).bind fun ws M1 => match ws with
  | [.d (.int i), .d (.int j), .d (.int c)] => if c ≠ 0 ∧ c.natAbs < 1073741824 ∧ Builtin.Range.small i j c = true ∧ 0 ≤ Builtin.Range.rangeSize i j c then .ok (rangeC i j c) M1 else .stuck
  | _ => .stuck
theorem walk_rangeC {F : Hp} {θ : List Addr} (lo hi c : Int) : Walk G (Itc lo c (Builtin.Range.rangeSize lo hi c).toNat) F θ (rangeC lo hi c) := by
  intro F1 θ1 H1 M1 l1 p1 hr1 i
  unfold rangeC
  refine ⟨fun d hd => ?_, fun hl => by rw [List.length_map, List.length_range] at hl; exact hl⟩
  rw [List.getElem?_map] at hd
  obtain ⟨j, hj, rfl⟩ := Option.map_eq_some_iff.mp hd
  obtain ⟨hlt, e⟩ := List.getElem?_eq_some_iff.mp hj
  rw [List.length_range] at hlt
  rw [List.getElem_range] at e
  subst e
  refine ⟨hlt, fun x H2 hy => ?_⟩
  obtain ⟨rfl, rfl⟩ := hy
  exact ⟨F1, LE.refl F1, hr1, by simp only [Rep]⟩
theorem RepWL.three {F : Hp} {θ : List Addr} {a b c : W} {vs : List V} (h : RepWL G F θ [a, b, c] vs) : ∃ x y z, vs = [x, y, z] ∧ RepW G F θ a x ∧ RepW G F θ b y ∧ RepW G F θ c z := by
  obtain ⟨x, r, rfl, h1, h2⟩ := h
  obtain ⟨y, z, rfl, h3, h4⟩ := RepWL.two h2
  exact ⟨x, y, z, rfl, h1, h3, h4⟩
theorem pui_range3 (hm : X.mg "range" = none) (ha : PUA G X [ea, eb, ec] ta fa) (hg : L2.Gl X "range" := by rfl) (hs : starEach [ea, eb, ec] X.env = (false, eval ea X.env) :: starEach [eb, ec] X.env := by rfl) (hpl : (backTo pos (starEach [eb, ec] X.env)).any (·.1) = false := by rfl) :
    PUI G X tg (.Call (.Name "range" p) [ea, eb, ec] [] pos) (fun Wx => iRng3 (ta Wx)) (iRange3 fa) := by
  refine ⟨fun Wx tk => pi_range3 hg hm (ha.pe Wx tk) hs hpl, ?_⟩
  intro Wx F θ σ H ρ M Rk sr hg
  refine ha.sem Wx F θ σ H ρ M _ sr (Good.seq hg fun ws M1 F1 θ1 H1 _ l1 p1 hr1 hg1 vs rvs => ?_)
  split at hg1
  · rename_i i j c _
    split at hg1
    · rename_i hc
      obtain ⟨x, y, z, rfl, rx, ry, rz⟩ := RepWL.three rvs
      simp only [RepW, Rep] at rx ry rz
      subst rx ry rz
      exact ⟨i, j, c, _, rfl, ⟨hc.1, hc.2.1, hc.2.2.1, (Int.toNat_of_nonneg hc.2.2.2).symm⟩, hg1 F1 θ1 H1 (LE.refl F1) (List.prefix_refl _) hr1 _ (walk_rangeC i j c)⟩
    · exact hg1.elim
  · exact hg1.elim
end
end PU
set_option Elab.async false
set_option linter.all false
set_option maxRecDepth 100000
set_option maxHeartbeats 4000000
namespace PU
open PySem PySem.Spec PyProof.Rows L2 RZ
section
variable {G : Glo} {X : Cx} {pos : Pos} {keys : List (Option Expr)} {values : List Expr} {tp : L2.WX → List (TE × TE)} {fp : List (Ev × Ev)}
/-! ### {k: v, ..}, a dict that will be changed -/
def eDispC (f : List (Ev × Ev)) : Ev := fun ρ M => (ePairs f ρ (M ++ [.dct [] []])).bind fun ws M2 => match M2[M.length]?, pairK ws with
  | some (.dct [] []), some l => if (l.map (·.1)).Nodup ∧ l.length ≤ 15 then .ok (.cell M.length) (M2.set M.length (.dct (l.map fun q => kD q.1) (l.map (·.2)))) else .stuck
  | _, _ => .stuck
theorem pu_dispC (h : PUP G X pos keys values tp fp) (hall : keys.all (·.isSome) = true := by rfl) (hl : keys.length = values.length := by rfl) (h0 : keys ≠ [] := by exact fun z => nomatch z) (h15 : keys.length ≤ 15 := by decide) :
    PU G X (.Dict keys values pos) (fun Wx => tDisp (tp Wx)) (eDispC fp) := by
  refine ⟨fun Wx tk => pe_disp (h.pe Wx tk) hall hl h0 h15, ?_⟩
  intro Wx F θ σ H ρ M Q sr hg q hq
  have hF : F q = none := by
    cases e : F q with
    | none => rfl
    | some u => have := sr.hr.sub q u e; rw [hq] at this; cases this
  have hr1 := sr.hr.push (c := .dct [] []) hq (o := .dK []) ⟨hF, [], upd_same, rfl, RepL.nil⟩
  have sr1 := sr.mono (LE.refl F) (List.prefix_append θ [q]) hr1
  refine h.sem Wx F (θ ++ [q]) σ _ ρ (M ++ [.dct [] []]) _ sr1 (Good.seq (Good.up hg (LE.refl F) (List.prefix_append θ [q])) fun ws M2 F2 θ2 H2 _ l2 p2 hr2 hg2 vs rvs => ?_)
  split at hg2
  · rename_i l e1 e2
    split at hg2
    · rename_i hc
      obtain ⟨kvs, q1, q2, q3⟩ := pairK_ok rvs e2
      have hx : θ2[M.length]? = some q := by
        obtain ⟨η, rfl⟩ := p2
        rw [← sr.hr.len, List.getElem?_append_left (by simp)]
        simp
      obtain ⟨hF2, ps, hH, hp, _⟩ := hr2.cell _ q _ hx e1
      have hl2 : kvs.length = l.length := by
        have := congrArg List.length q2
        simpa using this
      have hm : mergeK [] kvs = kvs := mergeK_nodup kvs [] (by simpa [q2] using hc.1)
      have hw : CellOk G F2 (θ2.take M.length) (upd H2 q (.dK kvs)) q (.dct (l.map fun q => kD q.1) (l.map (·.2))) := by
        refine ⟨hF2, kvs, upd_same, ?_, q3⟩
        rw [List.map_map]
        have e3 : (fun z : Key × V => some z.1) = (fun k : Key => some k) ∘ (fun z : Key × V => z.1) := rfl
        have e4 : (keyD ∘ fun q : Key × D => kD q.1) = (fun k : Key => some k) ∘ (fun z : Key × D => z.1) := funext fun z => keyD_kD z.1
        rw [e3, e4, ← List.map_map, ← List.map_map, q2]
      have hr3 := hr2.write hx hF2 hw
      have ek : H2 q = some (.dK []) := by
        cases ps with
        | nil => exact hH
        | cons z r => simp at hp
      refine ⟨ek, kvs, q1, by omega, ?_⟩
      rw [hm]
      exact hg2 F2 θ2 _ (LE.refl _) (List.prefix_refl _) hr3 _ ⟨q, hx, rfl⟩
    · exact hg2.elim
  · exact hg2.elim

/-! ### k in d, k not in d -/
def inDct (neg : Bool) : Op2 := fun M x y => match getOW M y x with
  | some od => .ok (.d (.bl (if neg then !od.isSome else od.isSome))) M
  | none => .stuck
variable {a b : Expr} {ta tb : L2.WX → TE} {fa fb : Ev} {k : Nat}
theorem sem_din (ha : SemE G ta fa) (hb : SemE G tb fb) : SemE G (fun Wx => tDIn (ta Wx) (tb Wx)) (e2 (inDct false) fa fb) := by
  intro Wx F θ σ H ρ M Q sr hg
  refine ha Wx F θ σ H ρ M _ sr (Good.seq hg fun x M1 F1 θ1 H1 _ l1 p1 hr1 hg1 v rv => ?_)
  refine hb Wx F1 θ1 σ H1 ρ M1 _ (sr.mono l1 p1 hr1) (Good.seq hg1 fun y M2 F2 θ2 H2 _ l2 p2 hr2 hg2 u ru => ?_)
  unfold inDct at hg2
  split at hg2
  · rename_i od e
    obtain ⟨a, o, rfl, hd, ok⟩ := getOW_ok hr2 ru (rv.mono l2 p2) e
    refine ⟨a, o, rfl, hd, ?_⟩
    have := hg2 F2 θ2 H2 (LE.refl _) (List.prefix_refl _) hr2 (.bl od.isSome) (by simp only [RepW, Rep, Bool.false_eq_true, if_false])
    cases od with
    | none => rw [show o = none from ok]; exact this
    | some d => obtain ⟨z, rfl, _⟩ := ok; exact this
  · exact hg2.elim
theorem sem_dnin (ha : SemE G ta fa) (hb : SemE G tb fb) : SemE G (fun Wx => tDNotIn (ta Wx) (tb Wx)) (e2 (inDct true) fa fb) := by
  intro Wx F θ σ H ρ M Q sr hg
  refine ha Wx F θ σ H ρ M _ sr (Good.seq hg fun x M1 F1 θ1 H1 _ l1 p1 hr1 hg1 v rv => ?_)
  refine hb Wx F1 θ1 σ H1 ρ M1 _ (sr.mono l1 p1 hr1) (Good.seq hg1 fun y M2 F2 θ2 H2 _ l2 p2 hr2 hg2 u ru => ?_)
  unfold inDct at hg2
  split at hg2
  · rename_i od e
    obtain ⟨a, o, rfl, hd, ok⟩ := getOW_ok hr2 ru (rv.mono l2 p2) e
    refine ⟨a, o, rfl, hd, ?_⟩
    have := hg2 F2 θ2 H2 (LE.refl _) (List.prefix_refl _) hr2 (.bl (!od.isSome)) (by simp only [RepW, Rep, if_true])
    cases od with
    | none => rw [show o = none from ok]; exact this
    | some d => obtain ⟨z, rfl, _⟩ := ok; exact this
  · exact hg2.elim
theorem pu_din (hr : RoomG k X.A) (ha : PU G X a ta fa) (hb : PU G X b tb fb) (hmk : behindInMarks .In b = false := by rfl) : PU G X (.Compare a [.In] [b] pos) (fun Wx => tDIn (ta Wx) (tb Wx)) (e2 (inDct false) fa fb) := ⟨fun Wx tk => pe_cmp (pc_din (by have := hr.rm.un; omega) (ha.pe Wx tk) (hb.pe Wx tk)) hmk, sem_din ha.sem hb.sem⟩
theorem put_din (hr : RoomG k X.A) (ha : PU G X a ta fa) (hb : PU G X b tb fb) (hmk : behindInMarks .In b = false := by rfl) : PUT G X (.Compare a [.In] [b] pos) (fun Wx => L2.tB (tDIn (ta Wx) (tb Wx))) (tB' (e2 (inDct false) fa fb)) := ⟨fun Wx tk => pt_cmp (pc_din (by have := hr.rm.un; omega) (ha.pe Wx tk) (hb.pe Wx tk)) hmk, sem_tB (sem_din ha.sem hb.sem)⟩
theorem pu_dnin (hr : RoomG k X.A) (ha : PU G X a ta fa) (hb : PU G X b tb fb) (hmk : behindInMarks .NotIn b = false := by rfl) : PU G X (.Compare a [.NotIn] [b] pos) (fun Wx => tDNotIn (ta Wx) (tb Wx)) (e2 (inDct true) fa fb) := ⟨fun Wx tk => pe_cmp (pc_dnotin (by have := hr.rm.un; omega) (ha.pe Wx tk) (hb.pe Wx tk)) hmk, sem_dnin ha.sem hb.sem⟩
theorem put_dnin (hr : RoomG k X.A) (ha : PU G X a ta fa) (hb : PU G X b tb fb) (hmk : behindInMarks .NotIn b = false := by rfl) : PUT G X (.Compare a [.NotIn] [b] pos) (fun Wx => L2.tB (tDNotIn (ta Wx) (tb Wx))) (tB' (e2 (inDct true) fa fb)) := ⟨fun Wx tk => pt_cmp (pc_dnotin (by have := hr.rm.un; omega) (ha.pe Wx tk) (hb.pe Wx tk)) hmk, sem_tB (sem_dnin ha.sem hb.sem)⟩
end
end PU
set_option Elab.async false
set_option linter.all false
set_option maxRecDepth 100000
set_option maxHeartbeats 4000000
namespace PU
open PySem PySem.Spec PyProof.Rows L2
/-! ### C(k = v, ..): a new instance by keywords alone -/
section
variable {G : Glo} {X : Cx} {CX : CXT} {k n m l : Nat} {f : Addr} {fd : FuncData} {ps ks : List Str} {sp : Sp} {fs : Fn} {x mn : Str} {p pos apos : Pos} {e o : Expr} {es : List Expr} {kws : List Keyword} {t u : L2.WX → TA} {ta tk : TA} {fa fk : Av} {dds : List D} {dvs : List V} {ds : List Value} {ix : List Nat} {E : L2.St → XK}
def tMakeP (m : Nat) (C : Addr) (sp : Sp) (ix : List Nat) (dvs : List V) (E : L2.St → XK) (tk : TA) : TE := fun σ H Q => tk σ H fun zs H1 => zs.length = m ∧ ∀ x dx, H1 x = none → H1 dx = none → dx ≠ x →
  sp (permL ix (.ref x :: (zs ++ dvs))) (upd (upd H1 dx (.own x)) x (.ins C dx [])) (fun v H2 => v = .non ∧ Q (.ref x) H2) (E σ)
theorem run_makeP {C : Addr} {pins : List (Addr × Obj)} {σ : L2.St} {H : Hp} {s : Shared} {Q : VK} {ws : List Value} {zs : List V} {fa : Addr} (Mk' : Mk X.K C fa) (F : FnG X.prog X.w X.K X.mg X.base CX k fa fd ps sp) (hr : RoomG (k + 1) X.A) (hb : KBP X.K fd ps 1 ks ix ds) (hd : Vals dvs ds)
    (hx : PassesAt CX X σ (E σ)) (I : Inv X pins σ H s) (rz : Vals zs ws) (l2 : zs.length = ks.length)
    (h : ∀ x dx, H x = none → H dx = none → dx ≠ x → sp (permL ix (.ref x :: (zs ++ dvs))) (upd (upd H dx (.own x)) x (.ins C dx [])) (fun v H2 => v = .non ∧ Q (.ref x) H2) (E σ)) :
    wpAny (model X.prog X.w) X.A (call (.ref C) [] (ks.zip ws)) (EP X pins σ Q) X.xe s := by
  have hq := h (s.heap.objs.size + 1) s.heap.objs.size (I.hok.fresh (Nat.le_succ _)) (I.hok.fresh (Nat.le_refl _)) (Nat.ne_of_lt (Nat.lt_succ_self _))
  have I2 := Inv.made (C := C) I
  have r2 : Vals (V.ref (s.heap.objs.size + 1) :: (zs ++ dvs)) (Value.ref (s.heap.objs.size + 1) :: (ws ++ ds)) := .cons rfl (rz.append hd)
  have rall := Vals.perm r2 ix
  refine wpAny_call (make_map (f := fa) I.kIn Mk'.makes Mk'.init (beq_iff_eq.mp Mk'.fn) (codeAny_mono (F.run _ X.stack _ _ ⟨[Value.ref (s.heap.objs.size + 1)], ks.zip ws⟩ _ _ _ (E σ) (hr.make C [] (ks.zip ws))
    (I2.env0.make C [] (ks.zip ws)) (hb.to _ [Value.ref (s.heap.objs.size + 1)] ws I2.kIn rfl (rz.length.symm.trans l2)) rall hq) fun r s' hq' => ?_))
  cases r with
  | error e => exact hx pins _ _ e s' I2 hq'
  | ok fl =>
    cases fl with
    | ret u =>
      obtain ⟨v, H', I3, rv, ev, q3⟩ := I2.after hq'
      subst ev
      exact ⟨rv, ⟨V.ref (s.heap.objs.size + 1), H', I3, rfl, q3⟩⟩
    | next => exact False.elim hq'
    | brk => exact False.elim hq'
    | cont => exact False.elim hq'
theorem pe_makeP {C fa : Addr} (Mk' : Mk X.K C fa) (F : FnG X.prog X.w X.K X.mg X.base CX k fa fd ps sp) (hr : RoomG (k + 1) X.A) (hg : L2.Gl X x) (hm : X.mg x = some (.ref C)) (hb : KBP X.K fd ps 1 ks ix ds) (hd : Vals dvs ds) (hx : ∀ σ, PassesAt CX X σ (E σ)) (hkw : PK X kws tk)
    (hall : (backToKw pos (keywordEach kws X.env)).all (·.1.isSome) = true) (hks : (backToKw pos (keywordEach kws X.env)).filterMap (·.1) = ks) (hdb : (x == ("__debug__" : Str)) = false)
    (hpl : ((backTo pos (starEach [] X.env)).any (·.1) || (backToKw pos (keywordEach kws X.env)).any (·.1.isNone)) = false) :
    PE X (.Call (.Name x p) [] kws pos) (tMakeP ks.length C sp ix dvs E tk) := by
  constructor
  intro pins s σ H Q I h
  apply wpAny_Call_Name_kw (ld_glob I hg hm _ hdb)
  refine PySem.W.callWith_KW0 (h₀ := X.base) I.ok.mod.kin Mk'.kp hall (thn (hkw.run pos pins s σ H _ I h) ?_) hpl
  intro ws s2 ⟨zs, H2, I2, rz, l2, q2⟩
  refine ⟨I2.kIn, ?_⟩
  rw [hks]
  exact run_makeP Mk' F hr hb hd (hx σ) I2 rz l2 q2
def eMakeP (fin : Nat → W → Mem → R W) (m N : Nat) (C : Nat) (f : Fn) (ix : List Nat) (dds : List D) (fk : Av) : Ev := fun ρ M => (fk ρ M).bind fun zs M1 =>
  if zs.length = m ∧ (permL ix (.cell M1.length :: (zs ++ dds.map W.d))).length = N then (f (permL ix (.cell M1.length :: (zs ++ dds.map W.d))) (M1 ++ [.ins C [] []])).bind fun r M2 => fin M1.length r M2 else .stuck
theorem pu_makeP {fi : Nat → W → Mem → R W} (C : Nat) {fa' : Addr} (hhas : G.has C) (hfi : MkOk G fi) (Mk' : Mk X.K (G.cls C) fa') (F : FnG X.prog X.w X.K X.mg X.base (L2.CX X.prog X.w) k fa' fd ps (spF G n fs)) (hr : RoomG (k + 1) X.A) (hm : X.mg x = some (.ref (G.cls C))) (hb : KBP X.K fd ps 1 ks ix ds) (hd : Vals dvs ds) (hdd : Cst G dds dvs) (hkw : PUK G X kws u fk)
    (hl : ks.length = l := by rfl) (hg : L2.Gl X x := by rfl) (hall : (backToKw pos (keywordEach kws X.env)).all (·.1.isSome) = true := by rfl) (hks : (backToKw pos (keywordEach kws X.env)).filterMap (·.1) = ks := by rfl) (hdb : (x == ("__debug__" : Str)) = false := by decide +kernel)
    (hpl : ((backTo pos (starEach [] X.env)).any (·.1) || (backToKw pos (keywordEach kws X.env)).any (·.1.isNone)) = false := by rfl) :
    PU G X (.Call (.Name x p) [] kws pos) (fun Wx => tMakeP ks.length (G.cls C) (spF G n fs) ix dvs (L2.WE Wx) (u Wx)) (eMakeP fi l n C fs ix dds fk) := by
  subst hl
  refine ⟨fun Wx tk => pe_makeP Mk' F hr hg hm hb hd (passAt tk) (hkw.pe Wx tk) hall hks hdb hpl, ?_⟩
  intro Wx F0 θ σ H ρ M Q sr hg
  refine hkw.sem Wx F0 θ σ H ρ M _ sr (Good.seq hg fun zs M1 F1 θ1 H1 _ l1 p1 hr1 hg1 vs rvs => ?_)
  split at hg1
  · rename_i hc
    refine ⟨by rw [rvs.length]; exact hc.1, ?_⟩
    intro y dx hy hdx hne
    have hF : F1 y = none := by
      cases e : F1 y with
      | none => rfl
      | some u => have := hr1.sub y u e; rw [hy] at this; cases this
    have hr2 := hr1.other hdx (.own y)
    have hy2 : upd H1 dx (.own y) y = none := by rw [upd_ne (Ne.symm hne)]; exact hy
    have hr3 := hr2.push (c := .ins C [] []) hy2 (o := .ins (G.cls C) dx []) ⟨hF, hhas, dx, [], upd_same, rfl, rfl⟩
    have rw2 : RepWL G F1 (θ1 ++ [y]) (.cell M1.length :: (zs ++ dds.map W.d)) (V.ref y :: (vs ++ dvs)) := ⟨_, _, rfl, ⟨y, by rw [← hr1.len]; simp, rfl⟩, (rvs.mono (LE.refl _) (List.prefix_append _ _)).append (RepL.toW (hdd F1))⟩
    have rr := RepWL.perm rw2 ix
    refine ⟨by rw [rr.length]; exact hc.2, F1, θ1 ++ [y], _, _, hr3, rr, ?_⟩
    cases e : fs (permL ix (.cell M1.length :: (zs ++ dds.map W.d))) (M1 ++ [.ins C [] []]) with
    | stuck => rw [e] at hg1; exact hg1
    | exc z M2 => rw [e] at hg1; exact Good.up (r := (R.exc z M2 : R W)) hg1 (LE.refl _) (List.prefix_append _ _)
    | ok w M2 =>
      rw [e] at hg1
      intro F' θ' H' l p hr' v rv
      exact hfi F1 F' θ1 θ' y H' M2 M1.length w v Q _ hr1.len l p hr' rv hg1
  · exact hg1.elim
end
end PU
set_option Elab.async false
set_option linter.all false
set_option maxRecDepth 100000
set_option maxHeartbeats 4000000
namespace PU
open PySem PySem.Spec PyProof.Rows L2
/-! ### str(x) by an own __str__; x == a text -/
section
variable {X : Cx} {k : Nat} {C f : Addr} {fd : FuncData} {ps : List Str} {sp : Sp}
def rStrO (C : Addr) (sp : Sp) : List V → Hp → VK → Prop := fun xs H Q => ∃ a dx fs, xs = [.ref a] ∧ H a = some (.ins C dx fs) ∧ sp [.ref a] H (fun v H' => ∃ z, v = .str z ∧ Q (.str z) H') E0
theorem call_strO (F : FnG X.prog X.w X.K X.mg X.base (L2.CX X.prog X.w) k f fd ps sp) (hr : RoomG (k + 2) X.A) (hs : PySem.W.findIn X.K (.ref C) "__str__" = some (some (.ref f))) (hf : PySem.W.isFn X.K (.ref f) = true) (hb : Binds X.K fd ps []) : CallR X (.type "str") (rStrO C sp) := by
  intro pins s σ H xs us Q I rv h
  obtain ⟨a, dx, fs, rfl, ha, hsp⟩ := h
  cases rv with
  | cons r1 r2 =>
    cases r2
    cases r1
    obtain ⟨mA, J, _⟩ := ins_get I.hok ha
    obtain ⟨od, J, _⟩ := J.look
    have hl := F.len _ _ _ _ hsp
    have bd := hb s [.ref a] I.kIn (by simpa using hl)
    have rr : Vals [V.ref a] [Value.ref a] := .cons rfl .nil
    have hun := hr.rm.un
    refine PySem.W.kso_call (by show X.A.units + 2 < cLine; omega) I.kIn J hs hf (wpAny_call (codeAny_mono (F.run X.A.in1.in1 X.stack s H ⟨[.ref a], []⟩ [.ref a] [.ref a] _ _ hr.in1.in1 I.env0.in1.in1 (by simpa using bd) rr hsp) ?_))
    intro r s' hq
    cases r with
    | error e => exact passL (X := X) pins σ H s e s' I hq
    | ok fl =>
      cases fl
      case ret u =>
        obtain ⟨v, H', I', rv, z, ev, q⟩ := I.after hq
        subst ev
        obtain ⟨t, rfl⟩ : ∃ t, u = Value.str z t := rv
        exact ⟨V.str z, H', I', ⟨t, rfl⟩, q⟩
      all_goals exact False.elim hq
/-- x == y, y a text -/
def rOwnEqS (C : Addr) (sp : Sp) : R2 := fun x y H Q => ∃ a z dx fs, x = .ref a ∧ y = .str z ∧ H a = some (.ins C dx fs) ∧ sp [.ref a, .str z] H (fun v H' => ∃ r, v = .bl r ∧ Q (.bl r) H') E0
theorem str_last (K : PySem.W.Frag) (C : Addr) : PySem.W.notFirst K C (.type "str") = true := by
  have e : fastBuiltinMro "str" = some [.type "str", .type "object"] := by kernel_rfl
  unfold PySem.W.notFirst PySem.W.subIn
  simp [e]
theorem op_own_eqS (F : FnG X.prog X.w X.K X.mg X.base (L2.CX X.prog X.w) k f fd ps sp) (hr : RoomG k X.A) (hs : PySem.W.findIn X.K (.ref C) "__eq__" = some (some (.ref f))) (hf : PySem.W.isFn X.K (.ref f) = true) (hb : Binds X.K fd ps []) : OpR X (compareOp .Eq) (rOwnEqS C sp) := by
  intro pins s σ H x y u v Q I rx ry h
  obtain ⟨a, z, dx, fs, rfl, rfl, ha, hsp⟩ := h
  cases rx
  obtain ⟨t, rfl⟩ : ∃ t, v = Value.str z t := ry
  obtain ⟨mA, J, _⟩ := ins_get I.hok ha
  obtain ⟨od, J, _⟩ := J.look
  apply PySem.W.cmp_ofEq
  have hl := F.len _ _ _ _ hsp
  have bd := hb s [.ref a, .str z t] I.kIn (by simpa using hl)
  have r2 : Vals [V.ref a, V.str z] [Value.ref a, Value.str z t] := .cons rfl (.cons ⟨t, rfl⟩ .nil)
  obtain ⟨m, hF⟩ := I.fr
  refine PySem.W.cmp_K (op := .Eq) (tb := .type "str") hr.rm.units0 hF I.ok.mod.kin J (PySem.W.Looks.of_pure rfl) (str_last _ _) hs hf (wpAny_call (codeAny_mono (F.run X.A X.stack s H ⟨[.ref a, .str z t], []⟩ [.ref a, .str z t] [.ref a, .str z] _ _ hr I.env0 (by simpa using bd) r2 hsp) ?_))
  intro r s' hq
  cases r with
  | error e => exact passL (X := X) pins σ H s e s' I hq
  | ok fl =>
    cases fl
    case ret u =>
      obtain ⟨v, H', I', rv, r, ev, q⟩ := I.after hq
      subst ev
      have eu : u = Value.bool r := rv
      subst eu
      exact ⟨V.bl r, H', I', rfl, q⟩
    all_goals exact False.elim hq
end
section
variable {G : Glo} {X : Cx} {k : Nat} {f : Addr} {fd : FuncData} {ps : List Str} {fs : Fn} {a b e : Expr} {ta tb : L2.WX → TE} {fa fb : Ev} {pos p : Pos} {t : L2.WX → TA} {av : Av}
def strB (w : W) (M1 : Mem) : R W := match w with
  | .d (.str z) => .ok (.d (.str z)) M1
  | _ => .stuck
def strOW (C : Nat) (f : Fn) : OpN := fun ws M => match ws with
  | [x] => if isIns C M x then (noX (f [x] M)).bind strB else .stuck
  | _ => .stuck
theorem calls_strO (C : Nat) : CallS G (rStrO (G.cls C) (spF G 1 fs)) (strOW C fs) := by
  intro F θ H M ws vs Q Wx hr rw' hg
  unfold strOW at hg
  split at hg
  · rename_i x
    obtain ⟨v, rfl, rv⟩ := RepWL.one rw'
    split at hg
    · rename_i hc
      obtain ⟨a, dx, ps, rfl, ha⟩ := isIns_ok hr rv hc
      refine ⟨a, dx, ps, rfl, ha, rfl, F, θ, [x], M, hr, ⟨_, _, rfl, rv, rfl⟩, ?_⟩
      cases e : fs [x] M with
      | stuck => rw [e] at hg; exact hg
      | exc z N => rw [e] at hg; exact hg.elim
      | ok w N =>
        rw [e] at hg
        have hg : Good G F θ (postE G Q) Wx (strB w N) := hg
        unfold strB at hg
        split at hg
        · rename_i r _
          intro F' θ' H' l p hr' z rz
          simp only [RepW, Rep] at rz
          exact ⟨r, rz, hg F' θ' H' l p hr' _ (by simp only [RepW, Rep])⟩
        · exact hg.elim
    · exact hg.elim
  · exact hg.elim
theorem pu_strO (C : Nat) (F : FnG X.prog X.w X.K X.mg X.base (L2.CX X.prog X.w) k f fd ps (spF G 1 fs)) (hr : RoomG (k + 2) X.A) (hme : Meth X.K (G.cls C) "__str__" f) (hb : Binds X.K fd ps []) (hm : X.mg "str" = none) (ha : PUA G X [e] t av) (hg : L2.Gl X "str" := by rfl) (he : starEach (e :: []) X.env = (false, eval e X.env) :: starEach [] X.env := by rfl) (hpl : (backTo pos (starEach [] X.env)).any (·.1) = false := by rfl) :
    PU G X (.Call (.Name "str" p) [e] [] pos) (fun Wx => tCB (rStrO (G.cls C) (spF G 1 fs)) (t Wx)) (eA (strOW C fs) av) := pu_callTy (call_strO F hr hme.at_ hme.fn hb) (calls_strO C) hm (by decide +kernel) ha hg (by decide +kernel) (by decide +kernel) he hpl
def ownEqSW (C : Nat) (f : Fn) : Op2 := fun M x y => match y with
  | .d (.str z) => if isIns C M x then (noX (f [x, .d (.str z)] M)).bind (negB false) else .stuck
  | _ => .stuck
theorem ops_ownEqS (C : Nat) : OpS G (rOwnEqS (G.cls C) (spF G 2 fs)) (ownEqSW C fs) := by
  intro F θ H M x y v u Q Wx hr rx ry hg
  unfold ownEqSW at hg
  split at hg
  · rename_i z
    split at hg
    · rename_i hc
      obtain ⟨a, dx, ps, rfl, ha⟩ := isIns_ok hr rx hc
      have ey : u = V.str z := by simpa only [RepW, Rep] using ry
      subst ey
      refine ⟨a, z, dx, ps, rfl, rfl, ha, rfl, F, θ, [x, .d (.str z)], M, hr, ⟨_, _, rfl, rx, _, _, rfl, ry, rfl⟩, ?_⟩
      cases e : fs [x, .d (.str z)] M with
      | stuck => rw [e] at hg; exact hg
      | exc z N => rw [e] at hg; exact hg.elim
      | ok w N =>
        rw [e] at hg
        have hg : Good G F θ (postE G Q) Wx (negB false w N) := hg
        unfold negB at hg
        split at hg
        · rename_i r _
          intro F' θ' H' l p hr' z rz
          simp only [RepW, Rep] at rz
          exact ⟨r, rz, hg F' θ' H' l p hr' _ (by simp only [RepW, Rep]; rfl)⟩
        · exact hg.elim
    · exact hg.elim
  · exact hg.elim
theorem pu_oeqS (C : Nat) (F : FnG X.prog X.w X.K X.mg X.base (L2.CX X.prog X.w) k f fd ps (spF G 2 fs)) (hr : RoomG k X.A) (hm : Meth X.K (G.cls C) "__eq__" f) (hb : Binds X.K fd ps []) (ha : PU G X a ta fa) (hc : PU G X b tb fb) : PU G X (.Compare a [.Eq] [b] pos) (fun Wx => tOp (rOwnEqS (G.cls C) (spF G 2 fs)) (ta Wx) (tb Wx)) (e2 (ownEqSW C fs) fa fb) :=
  pu_cmp (op_own_eqS F hr hm.at_ hm.fn hb) (ops_ownEqS C) ha hc (nomark _)
theorem put_oeqS (C : Nat) (F : FnG X.prog X.w X.K X.mg X.base (L2.CX X.prog X.w) k f fd ps (spF G 2 fs)) (hr : RoomG k X.A) (hm : Meth X.K (G.cls C) "__eq__" f) (hb : Binds X.K fd ps []) (ha : PU G X a ta fa) (hc : PU G X b tb fb) : PUT G X (.Compare a [.Eq] [b] pos) (fun Wx => tTest (tOp (rOwnEqS (G.cls C) (spF G 2 fs)) (ta Wx) (tb Wx))) (tB' (e2 (ownEqSW C fs) fa fb)) :=
  put_cmp (op_own_eqS F hr hm.at_ hm.fn hb) (ops_ownEqS C) ha hc (nomark _)
end
end PU
set_option Elab.async false
set_option linter.all false
set_option maxRecDepth 100000
set_option maxHeartbeats 4000000
namespace PU
open PySem PySem.Spec PyProof.Rows L2
/-! ### a list or a dict that is changed no more becomes data -/
section
variable {G : Glo} {X : Cx}
def sFrzA (i : Nat) (g : Sv) : Sv := fun ρ M => match ρ[i]? with
  | some (some (.cell k)) => match M[k]? with
    | some (.lst xs) => g (ρ.set i (some (.d (.lst xs)))) (M.set k .dead)
    | some (.dct ks vs) => g (ρ.set i (some (.d (.dct ks vs)))) (M.set k .dead)
    | some (.dcT ks vs) => g (ρ.set i (some (.d (.dct ks vs)))) (M.set k .dead)
    | _ => g ρ M
  | _ => g ρ M
theorem sem_frzA {i : Nat} {st : L2.WX → TS} {g : Sv} (h : SemS G st g) : SemS G st (sFrzA i g) := by
  intro Wx F θ σ H ρ M D sr hg
  unfold sFrzA at hg
  split at hg
  · rename_i k ek
    split at hg
    · rename_i xs ex
      obtain ⟨v, hv, a, ha, rfl⟩ := sr.sl i _ ek
      obtain ⟨hF, vs, hH, rl⟩ := sr.hr.cell k a _ ha ex
      obtain ⟨hr3, le⟩ := sr.hr.freeze ha hF hH
      have sr3 := (sr.mono le (List.prefix_refl _) hr3).set (i := i) (w := .d (.lst xs)) (v := .ref a) (by
        simp only [RepW, Rep]
        exact ⟨a, vs, rfl, upd_same, rl.mono le⟩)
      have e : σ.set i (some (.ref a)) = σ := by
        obtain ⟨hl, hx⟩ := List.getElem?_eq_some_iff.mp hv
        rw [← hx]
        exact List.set_getElem_self hl
      rw [e] at sr3
      exact h Wx _ θ σ H _ _ D sr3 (hg.up le (List.prefix_refl _))
    · rename_i ks ws ex
      obtain ⟨v, hv, a, ha, rfl⟩ := sr.sl i _ ek
      obtain ⟨hF, ps, hH, h1, h2⟩ := sr.hr.cell k a _ ha ex
      obtain ⟨hr3, le⟩ := sr.hr.freeze ha hF hH
      have sr3 := (sr.mono le (List.prefix_refl _) hr3).set (i := i) (w := .d (.dct ks ws)) (v := .ref a) (by
        simp only [RepW, Rep]
        exact ⟨a, _, rfl, h2.mono le, .inl ⟨ps, .inl upd_same, h1, rfl⟩⟩)
      have e : σ.set i (some (.ref a)) = σ := by
        obtain ⟨hl, hx⟩ := List.getElem?_eq_some_iff.mp hv
        rw [← hx]
        exact List.set_getElem_self hl
      rw [e] at sr3
      exact h Wx _ θ σ H _ _ D sr3 (hg.up le (List.prefix_refl _))
    · rename_i ks ws ex
      obtain ⟨v, hv, a, ha, rfl⟩ := sr.sl i _ ek
      obtain ⟨hF, ps, hH, h1, h2⟩ := sr.hr.cell k a _ ha ex
      obtain ⟨hr3, le⟩ := sr.hr.freeze ha hF hH
      have sr3 := (sr.mono le (List.prefix_refl _) hr3).set (i := i) (w := .d (.dct ks ws)) (v := .ref a) (by
        simp only [RepW, Rep]
        exact ⟨a, _, rfl, h2.mono le, .inr ⟨ps, .inl upd_same, h1, rfl⟩⟩)
      have e : σ.set i (some (.ref a)) = σ := by
        obtain ⟨hl, hx⟩ := List.getElem?_eq_some_iff.mp hv
        rw [← hx]
        exact List.set_getElem_self hl
      rw [e] at sr3
      exact h Wx _ θ σ H _ _ D sr3 (hg.up le (List.prefix_refl _))
    · exact h Wx F θ σ H ρ M D sr hg
  · exact h Wx F θ σ H ρ M D sr hg
theorem pus_frzA (i : Nat) {s : Stmt} {st : L2.WX → TS} {g : Sv} (h : PUS G X s st g) : PUS G X s st (sFrzA i g) := ⟨h.pe, sem_frzA h.sem⟩
end
end PU
set_option Elab.async false
set_option linter.all false
namespace PU
open PySem PySem.Spec PyProof.Rows L2
abbrev CNg : List Str := [("Line" : Str), ("Form" : Str), ("Row" : Str), ("Script" : Str), ("Box" : Str), ("Drawn" : Str), ("Held" : Str), ("SheetTrial" : Str), ("Sheet" : Str), ("Kept" : Str), ("Trial" : Str), ("Book" : Str), ("Console" : Str), ("WrongValue" : Str), ("WrongName" : Str), ("NoAnswer" : Str), ("InvalidSide" : Str), ("InvalidRing" : Str), ("InvalidWheel" : Str), ("InvalidArm" : Str), ("InvalidTooth" : Str), ("InvalidTeeth" : Str), ("InvalidText" : Str), ("InvalidNumber" : Str), ("InvalidName" : Str), ("InvalidClaim" : Str), ("InvalidIndex" : Str), ("InvalidLine" : Str), ("NotALine" : Str), ("NotAScript" : Str), ("NotABox" : Str), ("InvalidSizes" : Str), ("InvalidSeen" : Str), ("InvalidDeeds" : Str), ("UnknownName" : Str), ("InUse" : Str), ("SeveralRows" : Str), ("TooMany" : Str), ("NothingToUndo" : Str), ("Broken" : Str)]
abbrev ANg : List Str := [("side" : Str), ("ring" : Str), ("wheel" : Str), ("arm" : Str), ("tooth" : Str), ("factor" : Str), ("plus" : Str), ("step" : Str), ("copies" : Str), ("text" : Str), ("told" : Str), ("rings" : Str), ("wheels" : Str), ("arms" : Str), ("groups" : Str), ("many_round" : Str), ("ahead" : Str), ("many_ahead" : Str), ("drawn" : Str), ("around" : Str), ("sheet" : Str), ("held" : Str), ("scripts" : Str), ("made" : Str), ("past" : Str), ("book" : Str), ("kept" : Str), ("slipped" : Str), ("at" : Str), ("setting_at" : Str), ("rows" : Str), ("has" : Str), ("count" : Str), ("total" : Str), ("add" : Str), ("draw" : Str), ("draw_all" : Str), ("undo" : Str), ("trial" : Str), ("tried" : Str), ("become" : Str), ("check_known" : Str), ("drop" : Str), ("claim" : Str), ("lift" : Str), ("do" : Str), ("do_all" : Str), ("script_of" : Str), ("claimed" : Str), ("stored" : Str), ("of_two" : Str), ("of_one" : Str), ("about" : Str), ("answer" : Str), ("say" : Str), ("given" : Str), ("index" : Str), ("number" : Str)]
abbrev FTg : List (Nat × Nat) := [(0, 0), (0, 1), (0, 2), (0, 3), (0, 4), (1, 5), (1, 6), (2, 0), (2, 1), (2, 2), (2, 3), (2, 4), (2, 7), (2, 8), (3, 9), (3, 10), (4, 11), (4, 12), (4, 13), (5, 14), (5, 15), (5, 16), (5, 17), (6, 18), (6, 19), (7, 20), (7, 21), (8, 18), (9, 22), (9, 23), (9, 24), (9, 19), (10, 25), (10, 26), (11, 22), (11, 23), (11, 24), (12, 25)]
theorem anOk_g : anOk ANg = true := by decide +kernel
@[simp] theorem okF_0_0 : okF FTg 0 0 = true := by decide
@[simp] theorem okF_0_1 : okF FTg 1 0 = true := by decide
@[simp] theorem okF_0_2 : okF FTg 2 0 = true := by decide
@[simp] theorem okF_0_3 : okF FTg 3 0 = true := by decide
@[simp] theorem okF_0_4 : okF FTg 4 0 = true := by decide
@[simp] theorem okF_1_5 : okF FTg 5 1 = true := by decide
@[simp] theorem okF_1_6 : okF FTg 6 1 = true := by decide
@[simp] theorem okF_2_0 : okF FTg 0 2 = true := by decide
@[simp] theorem okF_2_1 : okF FTg 1 2 = true := by decide
@[simp] theorem okF_2_2 : okF FTg 2 2 = true := by decide
@[simp] theorem okF_2_3 : okF FTg 3 2 = true := by decide
@[simp] theorem okF_2_4 : okF FTg 4 2 = true := by decide
@[simp] theorem okF_2_7 : okF FTg 7 2 = true := by decide
@[simp] theorem okF_2_8 : okF FTg 8 2 = true := by decide
@[simp] theorem okF_3_9 : okF FTg 9 3 = true := by decide
@[simp] theorem okF_3_10 : okF FTg 10 3 = true := by decide
@[simp] theorem okF_4_11 : okF FTg 11 4 = true := by decide
@[simp] theorem okF_4_12 : okF FTg 12 4 = true := by decide
@[simp] theorem okF_4_13 : okF FTg 13 4 = true := by decide
@[simp] theorem okF_5_14 : okF FTg 14 5 = true := by decide
@[simp] theorem okF_5_15 : okF FTg 15 5 = true := by decide
@[simp] theorem okF_5_16 : okF FTg 16 5 = true := by decide
@[simp] theorem okF_5_17 : okF FTg 17 5 = true := by decide
@[simp] theorem okF_6_18 : okF FTg 18 6 = true := by decide
@[simp] theorem okF_6_19 : okF FTg 19 6 = true := by decide
@[simp] theorem okF_7_20 : okF FTg 20 7 = true := by decide
@[simp] theorem okF_7_21 : okF FTg 21 7 = true := by decide
@[simp] theorem okF_8_18 : okF FTg 18 8 = true := by decide
@[simp] theorem okF_9_22 : okF FTg 22 9 = true := by decide
@[simp] theorem okF_9_23 : okF FTg 23 9 = true := by decide
@[simp] theorem okF_9_24 : okF FTg 24 9 = true := by decide
@[simp] theorem okF_9_19 : okF FTg 19 9 = true := by decide
@[simp] theorem okF_10_25 : okF FTg 25 10 = true := by decide
@[simp] theorem okF_10_26 : okF FTg 26 10 = true := by decide
@[simp] theorem okF_11_22 : okF FTg 22 11 = true := by decide
@[simp] theorem okF_11_23 : okF FTg 23 11 = true := by decide
@[simp] theorem okF_11_24 : okF FTg 24 11 = true := by decide
@[simp] theorem okF_12_25 : okF FTg 25 12 = true := by decide
end PU
set_option Elab.async false
set_option linter.all false
set_option maxRecDepth 100000
set_option maxHeartbeats 4000000
namespace PU
open PySem PySem.Spec PySem.W PySem.Calls PyProof.Rows L2
/-! ### the head: a hook whose frozen addresses are written down, not searched for -/
def asR (n : Nat) : List Addr := mainGlobals :: (List.range n).reverse
def obsRG (as : List Addr) (ex : PySem.W.Frag → Bool) (fn : List He5.DefA) (g : Addr → Option Obj) : He.AlD := obsP ex fn (He.frG g as)
def hookR (as : List Addr) (ex : PySem.W.Frag → Bool) (fn : List He5.DefA) : PySem.W.Hook where
  α := He.AlD
  obs := fun s => obsRG as ex fn s.heap.get?
  val := fun _ => valP fn
  says := fun _ h => ∃ K : PySem.W.Frag, K.In h ∧ SaysP ex fn K
  of := fun _ _ e => ⟨_, He.frG_in, e⟩
  keeps := fun _ _ _ ⟨K, hK, c⟩ k => ⟨K, PySem.W.Frag.In.keeps hK k, c⟩
theorem obsRG_eq {as : List Addr} {ex : PySem.W.Frag → Bool} {fn : List He5.DefA} {g : Addr → Option Obj} {s : Shared} (h : ∀ a, g a = s.heap.get? a) : obsRG as ex fn g = (hookR as ex fn).obs s := by
  have e : g = s.heap.get? := funext h
  subst e
  rfl
/-! ### a hook for laws with lambdas: the tables of their defs are not frozen -/
def delT (as : List Addr) (K : PySem.W.Frag) : PySem.W.Frag := K.filter fun p => !as.contains p.1
theorem delT_lookup {as : List Addr} {a : Addr} {o : Obj} : ∀ {K : PySem.W.Frag}, (delT as K).lookup a = some o → K.lookup a = some o ∧ a ∉ as
  | [], e => by cases e
  | p :: K, e => by
    unfold delT at e
    rw [List.filter_cons] at e
    by_cases h : p.1 = a
    · by_cases hc : as.contains p.1 = true
      · rw [if_neg (show ¬ (!as.contains p.1) = true by rw [hc]; simp)] at e
        obtain ⟨h1, h2⟩ := delT_lookup (K := K) e
        exact absurd (by rw [← h]; exact List.contains_iff_mem.mp hc) h2
      · rw [if_pos (show (!as.contains p.1) = true by rw [Bool.eq_false_iff.mpr hc]; rfl)] at e
        obtain ⟨b, o'⟩ := p
        simp only at h hc
        subst h
        simp only [List.lookup_cons, beq_self_eq_true] at e ⊢
        exact ⟨e, fun z => hc (List.contains_iff_mem.mpr z)⟩
    · obtain ⟨b, o'⟩ := p
      simp only at h
      have hb : (a == b) = false := by simpa using fun z : a = b => h z.symm
      rw [List.lookup_cons, hb]
      by_cases hc : as.contains b = true
      · rw [if_neg (show ¬ (!as.contains b) = true by rw [hc]; simp)] at e
        exact delT_lookup (K := K) e
      · rw [if_pos (show (!as.contains b) = true by rw [Bool.eq_false_iff.mpr hc]; rfl), List.lookup_cons, hb] at e
        exact delT_lookup (K := K) e
def emptyB : Option Obj → Bool
  | some ⟨.none, none, .fields ⟨[]⟩, ⟨[]⟩⟩ => true
  | _ => false
theorem emptyB_ok {o : Option Obj} (h : emptyB o = true) : o = some { cls := .none, data := .fields #[] } := by
  unfold emptyB at h
  split at h
  · rfl
  · cases h
def obsL (LN : List Str) (ex : PySem.W.Frag → Bool) (fn : List He5.DefA) (K : PySem.W.Frag) : He.AlD :=
  ((LN.all fun x => emptyB (K.lookup (ttab K x)) && decide (ttab (delT (LN.map (ttab K)) K) x = ttab K x)) && (obsP ex fn (delT (LN.map (ttab K)) K)).1, (obsP ex fn (delT (LN.map (ttab K)) K)).2)
def SaysT (LN : List Str) (K : PySem.W.Frag) (h : Heap) : Prop := ∀ x ∈ LN, h.get? (ttab K x) = some { cls := .none, data := .fields #[] } ∧ K.lookup (ttab K x) = none
theorem obsL_ok {LN : List Str} {ex : PySem.W.Frag → Bool} {fn : List He5.DefA} {K : PySem.W.Frag} {h : Heap} (X : K.In h) (e : obsL LN ex fn K = valP fn) : ∃ K : PySem.W.Frag, K.In h ∧ SaysP ex fn K ∧ SaysT LN K h := by
  have e1 := congrArg (fun z : He.AlD => z.1) e
  have e2 := congrArg (fun z : He.AlD => z.2) e
  obtain ⟨h1, h2⟩ := Bool.and_eq_true_iff.mp (show ((LN.all fun x => emptyB (K.lookup (ttab K x)) && decide (ttab (delT (LN.map (ttab K)) K) x = ttab K x)) && (obsP ex fn (delT (LN.map (ttab K)) K)).1) = true from e1)
  refine ⟨delT (LN.map (ttab K)) K, fun a o q => X a o (delT_lookup q).1, Prod.ext h2 e2, fun x hx => ?_⟩
  obtain ⟨h3, h4⟩ := Bool.and_eq_true_iff.mp (List.all_eq_true.mp h1 x hx)
  rw [of_decide_eq_true h4]
  refine ⟨X _ _ (emptyB_ok h3), ?_⟩
  cases q : (delT (LN.map (ttab K)) K).lookup (ttab K x) with
  | none => rfl
  | some o => exact absurd (List.mem_map.mpr ⟨x, hx, rfl⟩) (delT_lookup q).2
def obsLG (as : List Addr) (LN : List Str) (ex : PySem.W.Frag → Bool) (fn : List He5.DefA) (g : Addr → Option Obj) : He.AlD := obsL LN ex fn (He.frG g as)
def hookL (as : List Addr) (LN : List Str) (ex : PySem.W.Frag → Bool) (fn : List He5.DefA) : PySem.W.Hook where
  α := He.AlD
  obs := fun s => obsLG as LN ex fn s.heap.get?
  val := fun _ => valP fn
  says := fun _ h => ∃ K : PySem.W.Frag, K.In h ∧ SaysP ex fn K ∧ SaysT LN K h
  of := fun _ _ e => obsL_ok He.frG_in e
  keeps := fun _ _ _ ⟨K, hK, c, t⟩ k => ⟨K, PySem.W.Frag.In.keeps hK k, c, fun x hx => ⟨k _ _ (t x hx).1, (t x hx).2⟩⟩
theorem obsLG_eq {as : List Addr} {LN : List Str} {ex : PySem.W.Frag → Bool} {fn : List He5.DefA} {g : Addr → Option Obj} {s : Shared} (h : ∀ a, g a = s.heap.get? a) : obsLG as LN ex fn g = (hookL as LN ex fn).obs s := by
  have e : g = s.heap.get? := funext h
  subst e
  rfl
/-- the tables, as walkG asks for them -/
theorem Bas.head {CN AN : List Str} {PR : List Nat} {FT : List (Nat × Nat)} {GN FN : List Str} {IN : List (Str × Int)} {TN : List (Str × List He.Dv)} {MN PN : List (Str × Str)} {KN LN : List Str} {XN : List (Nat × Option Str)} {fn : List He5.DefA} {K : PySem.W.Frag} {mg : Str → Option Value} {h : Heap}
    (B : BasA CN AN PR FT GN FN IN TN MN PN KN LN XN fn K mg h) (ct : SaysT LN K h) : ∀ p ∈ (mkG CN AN PR K LN XN).T, h.get? p.1 = some { cls := .none, data := .fields #[] } ∧ (mkG CN AN PR K LN XN).K.lookup p.1 = none ∧ ∃ c, PySem.W.CodeHd h c p.1 := fun p hp => by
  obtain ⟨x, hx, rfl⟩ := List.mem_map.mp hp
  obtain ⟨i, hi⟩ := List.getElem?_of_mem hx
  exact ⟨(ct x hx).1, (ct x hx).2, _, (B.tabB i hi).code⟩
theorem saysT_nil {K : PySem.W.Frag} {h : Heap} : SaysT [] K h := fun _ hx => by simp at hx
/-- the run's equation from its two halves -/
theorem runEq_of {r : OpenRow} {q : Program} {H : Hook} {ob : SharedT → H.α} {M : Nat} {loose : List PySem.Str} {w : World}
    (h1 : ∀ os : OsState, (HandSHeadRun.endF (HandSHeadRun.stepQ (HandSHeadRun.denQ HandSHeadRun.tabQ) r.prog w) M r.prog w os).map (fun s => (HandSHeadRun.looksF r.prog (boot_heap w.params) s.abs, HandSHeadRun.seenQ q loose (importedModules r.prog.main.body) (fun s => xlAt q [] s && recOk r.toRowW.records s) s.abs)) = some (true, openGood q loose))
    (h2 : ∀ os : OsState, (HandSHeadRun.endF (HandSHeadRun.stepQ (HandSHeadRun.denQ HandSHeadRun.tabQ) r.prog w) M r.prog w os).map ob = some (H.val w)) : HandSHeadRun.RunEq r q H ob M loose w := by
  intro os
  have e1 := h1 os
  have e2 := h2 os
  cases e : HandSHeadRun.endF (HandSHeadRun.stepQ (HandSHeadRun.denQ HandSHeadRun.tabQ) r.prog w) M r.prog w os with
  | none => rw [e] at e1; cases e1
  | some s =>
    rw [e] at e1 e2
    simp only [Option.map_some, Option.some.injEq, Prod.mk.injEq] at e1 e2 ⊢
    exact ⟨e1.1, e1.2, e2⟩
end PU
set_option Elab.async false
set_option linter.all false
set_option maxRecDepth 100000
set_option maxHeartbeats 4000000
namespace PU
open PySem PySem.Spec PyProof.Rows L2
section
variable {G : Glo} {X : Cx} {a b : Expr} {ta tb : L2.WX → TE} {fa fb : Ev} {p q pos pos' : Pos}
/-! ### list(range(a)), list(range(a, b)) -/
def rgB (i j : Int) : Bool := decide (-(2 ^ 62) ≤ i ∧ i < 2 ^ 62 ∧ -(2 ^ 62) ≤ j ∧ j < 2 ^ 62 ∧ (j - i).toNat ≤ 2 ^ 24)
theorem rgB_ok {i j : Int} (h : rgB i j = true) : RgOk i j := of_decide_eq_true (p := -(2 ^ 62) ≤ i ∧ i < 2 ^ 62 ∧ -(2 ^ 62) ≤ j ∧ j < 2 ^ 62 ∧ (j - i).toNat ≤ 2 ^ 24) h
theorem repL_rgs {F : Hp} : ∀ (l : List Nat) (i : Int), RepL G F (l.map fun k => D.int (i + (k : Nat))) (l.map fun k => V.int (i + (k : Nat)))
  | [], _ => by simp only [List.map_nil, RepL]
  | k :: r, i => by
    simp only [List.map_cons, RepL]
    exact ⟨_, _, rfl, by simp only [Rep], repL_rgs r i⟩
theorem repL_range {F : Hp} (i j : Int) : RepL G F (rangeD i j) (rgV i j) := repL_rgs _ i
def eLRg1 (f : Ev) : Ev := fun ρ M => (f ρ M).bind fun x M1 => match x with
  | .d (.int j) => if rgB 0 j then .ok (.d (.lst (rangeD 0 j))) M1 else .stuck
  | _ => .stuck
def eLRg2 (f g : Ev) : Ev := fun ρ M => (f ρ M).bind fun x M1 => (g ρ M1).bind fun y M2 => match x, y with
  | .d (.int i), .d (.int j) => if rgB i j then .ok (.d (.lst (rangeD i j))) M2 else .stuck
  | _, _ => .stuck
theorem fin_rg {F : Hp} {θ : List Addr} {H : Hp} {M : Mem} {i j : Int} {Q : VK} {Wx : Value → Option Addr → Hp → Prop} (hr : HR G F θ H M) (hg : Good G F θ (postE G Q) Wx (.ok (.d (.lst (rangeD i j))) M)) :
    ∀ q, H q = none → Q (.ref q) (upd H q (.lst (rgV i j))) := fun q hq => by
  obtain ⟨hr', le⟩ := hr.alloc hq (.lst (rgV i j))
  refine hg _ θ _ le (List.prefix_refl _) hr' _ ?_
  simp only [RepW, Rep]
  exact ⟨q, _, rfl, upd_same, repL_range i j⟩
theorem pu_lrg1 (hm : X.mg "list" = none) (hm' : X.mg "range" = none) (ha : PU G X a ta fa) (hc : X.calm = true := by rfl) (hg : L2.Gl X "list" := by rfl) (hg' : L2.Gl X "range" := by rfl)
    (na : starEach [.Call (.Name "range" q) [a] [] pos'] X.env = (false, eval (.Call (.Name "range" q) [a] [] pos') X.env) :: starEach [] X.env := by rfl) (na' : starEach [a] X.env = (false, eval a X.env) :: starEach [] X.env := by rfl) :
    PU G X (.Call (.Name "list" p) [.Call (.Name "range" q) [a] [] pos'] [] pos) (fun Wx => tLstRg (tRg1 (ta Wx))) (eLRg1 fa) := by
  refine ⟨fun Wx tk => pe_listRg hc hg hm (prg_1 hg' hm' (ha.pe Wx tk) na') na, ?_⟩
  intro Wx F θ σ H ρ M Q sr hg
  refine ha.sem Wx F θ σ H ρ M _ sr (Good.seq hg fun x M1 F1 θ1 H1 _ l1 p1 hr1 hg1 v rv => ?_)
  split at hg1
  · rename_i j
    split at hg1
    · rename_i hc
      simp only [RepW, Rep] at rv
      subst rv
      exact ⟨_, rfl, rgB_ok hc, fin_rg hr1 hg1⟩
    · exact hg1.elim
  · exact hg1.elim
theorem pu_lrg2 (hm : X.mg "list" = none) (hm' : X.mg "range" = none) (ha : PU G X a ta fa) (hb : PU G X b tb fb) (hc : X.calm = true := by rfl) (hg : L2.Gl X "list" := by rfl) (hg' : L2.Gl X "range" := by rfl)
    (na : starEach [.Call (.Name "range" q) [a, b] [] pos'] X.env = (false, eval (.Call (.Name "range" q) [a, b] [] pos') X.env) :: starEach [] X.env := by rfl) (na' : starEach [a, b] X.env = (false, eval a X.env) :: starEach [b] X.env := by rfl)
    (nb' : starEach [b] X.env = (false, eval b X.env) :: starEach [] X.env := by rfl) (hp : (backTo pos' (starEach [b] X.env)).any (·.1) = false := by rfl) :
    PU G X (.Call (.Name "list" p) [.Call (.Name "range" q) [a, b] [] pos'] [] pos) (fun Wx => tLstRg (tRg2 (ta Wx) (tb Wx))) (eLRg2 fa fb) := by
  refine ⟨fun Wx tk => pe_listRg hc hg hm (prg_2 hg' hm' (ha.pe Wx tk) (hb.pe Wx tk) na' nb' hp) na, ?_⟩
  intro Wx F θ σ H ρ M Q sr hg
  refine ha.sem Wx F θ σ H ρ M _ sr (Good.seq hg fun x M1 F1 θ1 H1 _ l1 p1 hr1 hg1 v rv => ?_)
  refine hb.sem Wx F1 θ1 σ H1 ρ M1 _ (sr.mono l1 p1 hr1) (Good.seq hg1 fun y M2 F2 θ2 H2 _ l2 p2 hr2 hg2 u ru => ?_)
  have rv2 := rv.mono l2 p2
  split at hg2
  · rename_i i j
    split at hg2
    · rename_i hc
      simp only [RepW, Rep] at rv ru
      subst rv ru
      exact ⟨_, _, rfl, rfl, rgB_ok hc, fin_rg hr2 hg2⟩
    · exact hg2.elim
  · exact hg2.elim
end
end PU
set_option Elab.async false
set_option linter.all false
set_option maxRecDepth 100000
set_option maxHeartbeats 4000000
open PySem PySem.Spec PyProof.Rows
namespace L2
/-! ### sorted(set(xs)), xs a list of tuples of ints of any sign -/
abbrev kI (ns : List Int) : TKy := ns.map Sum.inl
theorem items_kI : ∀ {ns : List Int} {us : List Value} {i : Nat}, IntsAre us ns → tupItems (fun _ => false) i us = some (kI ns)
  | [], _, _, .nil => rfl
  | n :: ns, _, i, .cons _ t r => by
    simp only [tupItems, Bool.false_eq_true, if_false, items_kI r, Option.map_some]
    rfl
section
variable {P prog : Program} {w : World} {A : Around} {E : Value → Shared → Prop} {s : Shared}
theorem isT_key {h : Heap} {k : List Int} {b : Addr} (x : IsT P w h k b) : G.tupKeyC h (fun _ => false) (.ref b) = some (kI k) := by
  obtain ⟨o, items, n, ho, hc, hd, hi⟩ := x
  have hT : G.isTupObj h (.ref b) = true := by
    unfold G.isTupObj
    simp [ho, hc]
  unfold G.tupKeyC
  rw [if_pos hT]
  unfold tupKey
  simp only [ho, hd]
  exact items_kI (ints_of_items hi)
theorem isT_tupOf {h : Heap} {k : List Int} {b : Addr} (x : IsT P w h k b) (hn : k ≠ []) : ∃ f, TupOf h (fun _ => false) (.ref b) f := by
  obtain ⟨o, items, n, ho, hc, hd, hi⟩ := x
  have hi2 := ints_of_items hi
  cases hl : items.toList with
  | nil =>
    rw [hl] at hi2
    cases hi2
    exact absurd rfl hn
  | cons f r =>
    rw [hl] at hi2
    cases hi2 with
    | cons m t r2 =>
      refine ⟨.int m t, b, o, items, n, rfl, ho, hc, hd, ?_, fun _ => ⟨m, t, rfl⟩, fun z => nomatch z⟩
      rw [← Array.getElem?_toList, hl]
      rfl
theorem sorted_setTG {a : Addr} {L : List (Addr × List Int)} {es : Array (Int × Value)} {ep : Nat} {t : SetTable} {Q : Value → Shared → Prop} (R : SetTR P w s.heap a L es ep t) (hh : A.handled = none)
    (hB : ∀ p ∈ L, p.2 ≠ [])
    (hQ : ∀ s' p (out : Array Value) (c : Nat) (L' : List (Addr × List Int)), (∀ b o, s.heap.get? b = some o → s'.heap.get? b = some o) → s'.gens = s.gens → s'.os = s.os → s.heap.objs.size ≤ p →
      s'.heap.get? p = some (seqObj "list" out c) → out.toList = L'.map (fun q => Value.ref q.1) → L'.Perm L → L'.Pairwise (fun q r => ltK (kI r.2) (kI q.2) = false) → Q (.ref p) s') :
    wpAny (model P w) A (call (.builtin "sorted") [.ref a]) Q E s := by
  obtain ⟨o, ho, hex, hd⟩ := R.ob
  have hsz := R.size
  have hfew := R.few
  refine Calls.call_function_entry kind_sorted plain_sorted entry_sorted (args_sorted1 _) ?_
  unfold Builtin.«sorted»
  refine wpAny_bind (m := checkCount "sorted" 1 1 _) (wpAny_pure ?_)
  refine wpAny_bind (collect_set (A := A.in1) hh ⟨o, ho, hex.1, hd⟩ R.fits (by unfold scanBound; omega) R.tab.ris R.led fun s1 vs k1 hz g1 o1 pm => ?_)
  have hes : es.toList.map (·.2) = L.map fun q => Value.ref q.1 := by
    rw [R.rows]
    unfold rowsOf
    rw [List.map_map] <;> rfl
  rw [hes] at pm
  have ord : ∀ vs : List Value, (∀ v ∈ vs, ∃ q ∈ L, v = Value.ref q.1) → ∃ L1 : List (Addr × List Int), vs = L1.map (fun q => Value.ref q.1) ∧ ∀ q ∈ L1, q ∈ L := by
    intro vs
    induction vs with
    | nil => intro _; exact ⟨[], rfl, fun q hq => (by cases hq)⟩
    | cons v vs ih =>
      intro hv
      obtain ⟨q, hq, e⟩ := hv v List.mem_cons_self
      obtain ⟨L1, e1, hs⟩ := ih fun u hu => hv u (List.mem_cons_of_mem _ hu)
      refine ⟨q :: L1, by rw [List.map_cons, e, e1], fun r hr => ?_⟩
      rcases List.mem_cons.mp hr with z | z
      · rw [z]; exact hq
      · exact hs r z
  have one : ∀ q ∈ L, ∀ r ∈ L, q.1 = r.1 → q = r := fun q hq r hr e => by
    have a1 := R.tup q hq
    have a2 := R.tup r hr
    rw [e] at a1
    have e2 : q.2 = r.2 := a1.inj a2
    exact Prod.ext e e2
  have perm_of : ∀ L1 : List (Addr × List Int), (∀ q ∈ L1, q ∈ L) → (L1.map (fun q => Value.ref q.1)).Perm (L.map fun q => Value.ref q.1) → L1.Perm L := by
    intro L1 hs pm1
    have nL : L.Nodup := nodup_of_map R.nd
    have nref : (L.map fun q => Value.ref q.1).Nodup := by
      refine List.pairwise_map.mpr (List.Pairwise.imp_of_mem (fun {q r} hq hr hne e => ?_) nL)
      injection e with e
      exact hne (one q hq r hr e)
    have n1 : L1.Nodup := nodup_of_map (pm1.nodup_iff.mpr nref)
    refine (List.perm_ext_iff_of_nodup n1 nL).mpr fun q => ⟨hs q, fun hq => ?_⟩
    have hm : Value.ref q.1 ∈ L1.map (fun q => Value.ref q.1) := pm1.mem_iff.mpr (List.mem_map.mpr ⟨q, hq, rfl⟩)
    obtain ⟨r, hr, e⟩ := List.mem_map.mp hm
    injection e with e
    rw [← one r (hs r hr) q hq e]
    exact hr
  have hvl : vs.length < 64 := by rw [pm.length_eq, List.length_map]; exact hfew
  refine wpAny_bind (wpAny_newList ?_ (by rw [sizeLine_eq]; omega))
  have hoL : (s1.heap.push (seqObj "list" vs.toArray 0)).get? s1.heap.objs.size = some (seqObj "list" vs.toArray 0) := Heap.get?_push_size _ rfl
  have tk : ∀ q ∈ L, IsT P w (s1.heap.push (seqObj "list" vs.toArray 0)) q.2 q.1 := fun q hq => isT_keep (R.tup q hq) fun b u e => Heap.get?_push_of_some _ (k1 b u e)
  have key : ∀ v ∈ vs, (∃ f, TupOf (s1.heap.push (seqObj "list" vs.toArray 0)) (fun _ => false) v f) ∧ ∃ q ∈ L, v = Value.ref q.1 ∧ G.tupKeyC (s1.heap.push (seqObj "list" vs.toArray 0)) (fun _ => false) v = some (kI q.2) := fun v hv => by
    obtain ⟨q, hq, e⟩ := List.mem_map.mp (pm.mem_iff.mp hv)
    rw [← e]
    exact ⟨isT_tupOf (tk q hq) (hB q hq), q, hq, rfl, isT_key (tk q hq)⟩
  obtain ⟨fs, hfs⟩ := tupsOf_ex (fun v hv => (key v hv).1)
  refine wpAny_bind (wpAny_holding (wpAny_call_entry slot_list_sort ⟨_, hoL, rfl⟩ entry_list_sort (G.list_sort_tups (s := { s1 with heap := s1.heap.push (seqObj "list" vs.toArray 0) }) (shape := fun _ => false) hoL hfs (fun v hv => by
    obtain ⟨_, q, _, _, e⟩ := key v hv
    exact ⟨_, e⟩) (by rw [sizeLine_eq]; omega) fun st' hp hst _ => ⟨_, rfl, ?_⟩) (args_list_sort _)))
  have hpl : (arrOf st').toList.Perm (vs.map fun v => (v, v)) := by
    rw [← pairs_list]
    exact Array.perm_iff_toList_perm.mp hp
  have hpv : ((arrOf st').map (·.2)).toList.Perm vs := by
    have := hpl.map (·.2)
    rw [Array.toList_map]
    simpa [Function.comp_def] using this
  have hself : ∀ p ∈ (arrOf st').toList, p.1 = p.2 ∧ p.2 ∈ vs := fun p hp => by
    have := hpl.mem_iff.mp hp
    obtain ⟨v, hv, rfl⟩ := List.mem_map.mp this
    exact ⟨rfl, hv⟩
  obtain ⟨c, hc⟩ := sortedHeap_at (vs := vs) (out := (arrOf st').map (·.2)) hoL
  obtain ⟨L', e', hs'⟩ := ord ((arrOf st').map (·.2)).toList fun v hv => by
    obtain ⟨q, hq, e⟩ := List.mem_map.mp (pm.mem_iff.mp (hpv.mem_iff.mp hv))
    exact ⟨q, hq, e.symm⟩
  have pL : L'.Perm L := perm_of L' hs' (by rw [← e']; exact hpv.trans pm)
  have hsz2 : (arrOf st').size = (pairsOf vs).size := by
    have := hpl.length_eq
    rw [← pairs_list] at this
    simpa using this
  have pw : L'.Pairwise (fun q r => ltK (kI r.2) (kI q.2) = false) := by
    have hlen : L'.length = (arrOf st').size := by
      have := congrArg List.length e'
      simp only [Array.length_toList, Array.size_map, List.length_map] at this
      exact this.symm
    rw [List.pairwise_iff_getElem]
    intro i j hi hj hij
    have kk : ∀ i (hi : i < L'.length), KK (G.tupKindC (s1.heap.push (seqObj "list" vs.toArray 0)) fun _ => false) (arrOf st') i = kI (L'[i]).2 := fun i hi => by
      have hi' : i < (arrOf st').size := by omega
      unfold KK
      rw [Array.getElem?_eq_getElem hi']
      obtain ⟨p1, p2⟩ := hself (arrOf st')[i] (Array.getElem_mem_toList hi')
      show (G.tupKeyC (s1.heap.push (seqObj "list" vs.toArray 0)) (fun _ => false) ((arrOf st')[i]).1).getD [] = _
      have el : ((arrOf st')[i]).2 = Value.ref (L'[i]).1 := by
        have h1 : (((arrOf st').map (·.2)).toList)[i]? = some ((arrOf st')[i]).2 := by simp [hi']
        rw [e'] at h1
        have h2 : (L'.map fun q => Value.ref q.1)[i]? = some (Value.ref (L'[i]).1) := by simp [hi]
        exact Option.some.inj (h1.symm.trans h2)
      rw [p1, el, isT_key (tk L'[i] (hs' _ (List.getElem_mem hi)))]
      rfl
    have := hst i j (Nat.le_of_lt hij) (by omega)
    rw [kk i hi, kk j hj] at this
    exact this
  refine wpAny_pure ⟨_, rfl, hQ _ s1.heap.objs.size _ c L' (fun b u e => ?_) g1 o1 hz hc e' pL pw⟩
  have q := k1 b u e
  have hlt := Heap.lt_size q
  show (sortedHeap (s1.heap.push (seqObj "list" vs.toArray 0)) s1.heap.objs.size vs ((arrOf st').map (·.2))).get? b = some u
  rw [sortedHeap_old (Nat.ne_of_lt hlt) (by rw [size_push']; exact Nat.lt_succ_of_lt hlt)]
  exact Heap.get?_push_of_some _ q
end
def rSortedTG (K : PySem.W.Frag) (P : Program) (w : World) : List V → Hp → VK → Prop := fun vs H Q => ∃ (a : Addr) (L : List (Addr × List Int)), vs = [V.ref a] ∧ H a = some (SetTO P w a L) ∧ (∀ p ∈ L, SqT K H p.1 (p.2.map V.int)) ∧ (∀ p ∈ L, p.2 ≠ []) ∧
  ∀ (L' : List (Addr × List Int)) (p : Addr), L'.Perm L → (L'.map (·.2)).Nodup → L'.Pairwise (fun q r => ltK (kI r.2) (kI q.2) = false) → H p = none → Q (.ref p) (upd H p (.lst (L'.map fun q => V.ref q.1)))
section
variable {X : Cx}
theorem cr_sortedTG (hc : X.calm = true) : CallR X (.builtin "sorted") (rSortedTG X.K X.prog X.w) := by
  intro pins s σ H vs us Q I r h
  obtain ⟨a, L, rfl, ha, hk, hB, q⟩ := h
  have R0 : SetT0 X.prog X.w s.heap a L := (I.hok a _ ha).1
  obtain ⟨es, ep, t, R⟩ := R0.full fun p hp => I.isT (hk p hp)
  rw [Vals.ref1 r]
  refine sorted_setTG R (I.ok.hd hc) hB fun s' p out c L' k g o hp hg hout pm pw => ?_
  have hfew : L'.length < 64 := by rw [pm.length_eq]; exact R.few
  have hlen : (L'.map fun q => V.ref q.1).length ≤ sizeLine := by rw [List.length_map, sizeLine_eq]; omega
  have hn : H p = none := I.hok.fresh hp
  have hv : Vals (L'.map fun q => V.ref q.1) out.toList := by rw [hout]; exact vals_of_refs L'
  have J : Inv X pins σ (upd H p (.lst (L'.map fun q => V.ref q.1))) { s with heap := s'.heap, gens := s'.gens, drawn := s'.drawn, toks := s'.toks } :=
    I.call (ch := []) (Un.laid k hp hn) (I.hok.laid k hp ⟨hlen, out.toList, c, hv, hg⟩) (by rw [g]; exact I.bare) (fun _ z => nomatch z)
  have e : s' = { s with heap := s'.heap, gens := s'.gens, drawn := s'.drawn, toks := s'.toks } := by
    cases s'
    cases s
    cases o
    rfl
  rw [e]
  exact ⟨.ref p, _, J, rfl, q L' p pm ((pm.map (·.2)).nodup_iff.mpr R.nd) pw hn⟩
end
end L2
namespace PU
open L2 RZ
/-- an object that is not known, at a new address -/
theorem HR.skip {G : Glo} {F : Hp} {θ : List Addr} {H : Hp} {M : Mem} (h : HR G F θ H M) {p : Addr} (hp : H p = none) (o : HO) : HR G F θ (upd H p o) M := by
  refine ⟨h.tab, fun a u e => ?_, h.len, h.nd, fun k a c hk hc => ?_⟩
  · have := h.sub a u e
    rw [upd_ne (fun z => by subst z; rw [hp] at this; cases this)]
    exact this
  · have ha : a ≠ p := fun z => h.ne (List.mem_of_getElem? hk) (by rw [z]; exact hp)
    exact (h.cell k a c hk hc).mono (LE.refl F) (List.prefix_refl _) (fun z => z) (upd_ne ha)
/-- once each -/
def dd : List (List Int) → List (List Int)
  | [] => []
  | x :: r => if x ∈ dd r then dd r else x :: dd r
theorem dd_mem : ∀ {l : List (List Int)} {x : List Int}, x ∈ dd l ↔ x ∈ l
  | [], x => Iff.rfl
  | y :: r, x => by
    unfold dd
    split
    · rename_i h
      rw [dd_mem]
      constructor
      · exact fun q => List.mem_cons_of_mem _ q
      · intro q
        rcases List.mem_cons.mp q with rfl | q
        · exact dd_mem.mp h
        · exact q
    · rw [List.mem_cons, List.mem_cons, dd_mem]
theorem dd_nodup : ∀ l : List (List Int), (dd l).Nodup
  | [] => .nil
  | y :: r => by
    unfold dd
    split
    · exact dd_nodup r
    · rename_i h
      exact List.nodup_cons.mpr ⟨h, dd_nodup r⟩
def srtK (l : List (List Int)) : List (List Int) := (dd l).mergeSort fun a b => !ltK (kI b) (kI a)
theorem kI_inj {a b : List Int} (h : kI a = kI b) : a = b := List.map_inj_right (fun _ _ e => Sum.inl.inj e) |>.mp h
theorem srtK_eq {l ns : List (List Int)} (hm : ∀ x, x ∈ ns ↔ x ∈ l) (hn : ns.Nodup) (hs : ns.Pairwise fun a b => ltK (kI b) (kI a) = false) : ns = srtK l := by
  have h2 : (srtK l).Perm (dd l) := List.mergeSort_perm ..
  have h3 : (srtK l).Pairwise fun x y => ltK (kI y) (kI x) = false := by
    have := List.pairwise_mergeSort (le := fun a b : List Int => !ltK (kI b) (kI a)) (by
      intro a b c h k
      simp only [Bool.not_eq_true'] at h k ⊢
      exact KeyOrd.kle_trans (O := listOrd itemOrd) h k) (by
      intro a b
      simp only [Bool.or_eq_true, Bool.not_eq_true']
      cases e : ltK (kI b) (kI a) with
      | false => exact .inl rfl
      | true => exact .inr (KeyOrd.klt_asymm (O := listOrd itemOrd) e)) (dd l)
    exact this.imp fun h => by simpa using h
  have hp : ns.Perm (dd l) := (List.perm_ext_iff_of_nodup hn (dd_nodup l)).mpr fun x => by rw [hm, dd_mem]
  exact List.Perm.eq_of_pairwise (le := fun a b : List Int => ltK (kI b) (kI a) = false) (fun a b _ _ h k => kI_inj (ltK_total k h)) hs h3 (hp.trans h2.symm)
/-- the numbers of tuples of ints, none of them empty -/
def tupsI : List D → Option (List (List Int))
  | [] => some []
  | .tup ds :: r => match intsD ds, tupsI r with
    | some ns, some q => if ns = [] then none else some (ns :: q)
    | _, _ => none
  | _ :: _ => none
def tupI2 (ns : List Int) : D := .tup (ns.map D.int)
def sortSetW : OpN := fun ws M => match ws with
  | [w] => match viewL M w with
    | some xs => match tupsI xs with
      | some kss => if kss.length < 64 then .ok (.d (.lst ((srtK kss).map tupI2))) M else .stuck
      | none => .stuck
    | none => .stuck
  | _ => .stuck
section
variable {G : Glo} {X : Cx} {pos pos' p q : Pos} {e : Expr} {t : L2.WX → TA} {fs : Av}
theorem tupsI_ok {F : Hp} : ∀ {xs : List D} {us : List V} {kss : List (List Int)}, RepL G F xs us → tupsI xs = some kss →
    ∃ ks : List (Addr × List Int), us = ks.map (fun p => V.ref p.1) ∧ ks.map (·.2) = kss ∧ (∀ p ∈ ks, F p.1 = some (.tup (p.2.map V.int))) ∧ ∀ p ∈ ks, p.2 ≠ []
  | [], us, kss, h, e => by
    simp only [RepL] at h
    simp only [tupsI] at e
    cases e
    subst h
    exact ⟨[], rfl, rfl, (fun _ z => nomatch z), (fun _ z => nomatch z)⟩
  | .tup ds :: r, us, kss, h, e => by
    simp only [RepL, Rep] at h
    obtain ⟨v, us, rfl, ⟨a, vs, rfl, hF, hr⟩, h2⟩ := h
    simp only [tupsI] at e
    split at e
    · rename_i ns q e1 e2
      split at e
      · cases e
      · rename_i hne
        cases e
        obtain ⟨ks, rfl, rfl, k1, k2⟩ := tupsI_ok h2 e2
        have := intsD_ok hr e1
        subst this
        refine ⟨(a, ns) :: ks, rfl, rfl, fun p hp => ?_, fun p hp => ?_⟩
        · rcases List.mem_cons.mp hp with rfl | hp
          · exact hF
          · exact k1 p hp
        · rcases List.mem_cons.mp hp with rfl | hp
          · exact hne
          · exact k2 p hp
    · cases e
  | .non :: _, _, _, _, e => by simp [tupsI] at e
  | .bl _ :: _, _, _, _, e => by simp [tupsI] at e
  | .int _ :: _, _, _, _, e => by simp [tupsI] at e
  | .str _ :: _, _, _, _, e => by simp [tupsI] at e
  | .lst _ :: _, _, _, _, e => by simp [tupsI] at e
  | .ktup _ :: _, _, _, _, e => by simp [tupsI] at e
  | .klst _ :: _, _, _, _, e => by simp [tupsI] at e
  | .dct _ _ :: _, _, _, _, e => by simp [tupsI] at e
  | .ins _ _ _ :: _, _, _, _, e => by simp [tupsI] at e
  | .cls _ :: _, _, _, _, e => by simp [tupsI] at e
  | .ty _ :: _, _, _, _, e => by simp [tupsI] at e
  | .exn _ _ _ :: _, _, _, _, e => by simp [tupsI] at e
def rSortSet (K : PySem.W.Frag) (P : Program) (w : World) : List V → Hp → VK → Prop := fun xs H Q => rSetOfT K P w xs H fun v H1 => rSortedTG K P w [v] H1 Q
theorem calls_sortSet {P : Program} {w : World} : CallS G (rSortSet G.K P w) sortSetW := by
  intro F θ H M ws vs Q Wx hr rw' hg
  unfold sortSetW at hg
  split at hg
  · rename_i w0
    obtain ⟨v, rfl, rv⟩ := RepWL.one rw'
    split at hg
    · rename_i xs e
      split at hg
      · rename_i kss et
        split at hg
        · rename_i hlt
          obtain ⟨a, us, rfl, h1, h2⟩ := viewL_ok hr rv e
          obtain ⟨ks, rfl, rfl, k1, k2⟩ := tupsI_ok h2 et
          have kH : ∀ p ∈ ks, H p.1 = some (.tup (p.2.map V.int)) := fun p hp => hr.sub _ _ (k1 p hp)
          refine ⟨a, ks, rfl, h1, fun p hp => SqT.of (kH p hp), by simpa using hlt, fun b L hb hL hc => ?_⟩
          have hr1 : HR G F θ (upd H b (SetTO P w b L)) M := hr.skip hb (SetTO P w b L)
          have nb : ∀ p ∈ ks, p.1 ≠ b := fun p hp z => by have := kH p hp; rw [z, hb] at this; cases this
          refine ⟨b, L, rfl, upd_same, fun p hp => SqT.of (by rw [upd_ne (nb p (hL p hp))]; exact kH p (hL p hp)), fun p hp => k2 p (hL p hp), fun L' p pm nd pw hp => ?_⟩
          obtain ⟨hr', le⟩ := hr1.alloc hp (.lst (L'.map fun q => V.ref q.1))
          refine hg _ θ _ le (List.prefix_refl _) hr' _ ?_
          have es : L'.map (·.2) = srtK (ks.map (·.2)) := srtK_eq (fun x => by
            constructor
            · intro hx
              obtain ⟨p, hp, rfl⟩ := List.mem_map.mp hx
              exact List.mem_map.mpr ⟨p, hL p (pm.mem_iff.mp hp), rfl⟩
            · intro hx
              obtain ⟨p, hp, rfl⟩ := List.mem_map.mp hx
              obtain ⟨p', hp', e'⟩ := List.mem_map.mp (hc p hp)
              exact List.mem_map.mpr ⟨p', pm.mem_iff.mpr hp', e'⟩) nd (List.pairwise_map.mpr pw)
          simp only [RepW, Rep]
          refine ⟨p, _, rfl, upd_same, ?_⟩
          rw [← es, List.map_map]
          have : ∀ L'' : List (Addr × List Int), (∀ p ∈ L'', p ∈ ks) → RepL G (upd F p (.lst (L'.map fun q => V.ref q.1))) (L''.map (tupI2 ∘ fun x => x.2)) (L''.map fun q => V.ref q.1) := by
            intro L''
            induction L'' with
            | nil => intro _; exact RepL.nil
            | cons z L'' ih =>
              intro hz
              refine RepL.cons ?_ (ih fun p hp => hz p (List.mem_cons_of_mem _ hp))
              simp only [Function.comp_apply, tupI2, Rep]
              exact ⟨z.1, _, rfl, le.tup _ _ (k1 z (hz z List.mem_cons_self)), repL_ints _⟩
          exact this L' fun p hp => hL p (pm.mem_iff.mp hp)
        · exact hg.elim
      · exact hg.elim
    · exact hg.elim
  · exact hg.elim
theorem pu_sortSet {k : Nat} (hr : Room k X.A) (hm : X.mg "sorted" = none) (hm2 : X.mg "set" = none) (ha : PUA G X [e] t fs) (hc : X.calm = true := by rfl) (hK : X.K = G.K := by rfl) (hg : L2.Gl X "sorted" := by rfl) (hg2 : L2.Gl X "set" := by rfl)
    (he : starEach (e :: []) X.env = (false, eval e X.env) :: starEach [] X.env := by rfl) (hpl : (backTo pos' (starEach [] X.env)).any (·.1) = false := by rfl)
    (he2 : starEach [.Call (.Name "set" q) [e] [] pos'] X.env = (false, eval (.Call (.Name "set" q) [e] [] pos') X.env) :: starEach [] X.env := by rfl) (hpl2 : (backTo pos (starEach [] X.env)).any (·.1) = false := by rfl) :
    PU G X (.Call (.Name "sorted" p) [.Call (.Name "set" q) [e] [] pos'] [] pos) (fun Wx => tCB (rSortSet G.K X.prog X.w) (t Wx)) (eA sortSetW fs) :=
  ⟨fun Wx tk => show PE X _ (tCB (rSortedTG G.K X.prog X.w) (tCons (tCB (rSetOfT G.K X.prog X.w) (t Wx)) tNil)) from pe_callB (hK ▸ cr_sortedTG hc) hg hm rfl (pa_cons (pe_callTy (hK ▸ cr_setOfT hc hr.units) hg2 hm2 rfl (ha.pe Wx tk) (by decide +kernel) (by decide +kernel) he hpl) pa_nil) (by decide +kernel) (by decide +kernel) he2 hpl2, sem_call calls_sortSet ha.sem⟩
end
end PU
set_option Elab.async false
set_option linter.all false
set_option maxRecDepth 100000
set_option maxHeartbeats 4000000
open PySem PySem.Spec PyProof.Rows
/-! sorted(xs, key = lambda x: 0 - x[0]) -/
namespace LamK
open L2 LamX
abbrev xT : Str := ("_law_term" : Str)
abbrev kBody (p1 p2 p3 p4 p5 : Pos) : Expr := .BinOp (.Constant (.int 0) 0 p1) .Sub (.Subscript (.Name xT p2) (.Constant (.int 0) 0 p3) p4) p5
abbrev kArgs (p : Pos) : Arguments := { posonlyargs := [], args := [{ arg := xT, annotation := none, pos := p }], vararg := none, kwonlyargs := [], kw_defaults := [], kwarg := none, defaults := [] }
abbrev kScope : Scope := { kind := ScopeKind.function, names := [(xT, NameKind.local)], isGenerator := false, isCoroutine := false, more := [] }
section
variable {prog : Program} {w : World} {A : Around} {s : Shared}
/-- the lambda called with a tuple whose first item is the int n -/
theorem turn {f c' q : Addr} {qual : Str} {p p1 p2 p3 p4 p5 : Pos} {pm ctv : Value} {its : Array Value} {n : Int} {t : Tok} (hd : A.depth < recursionLimit)
    (hf : s.heap.get? f = some (PySem.W.kla_obj "<lambda>" qual (kArgs p) (kBody p1 p2 p3 p4 p5) (kScope) [] pm c' ctv)) (hc : s.heap.CodeRec (.ref c') qual) (lim : s.heap.NoLimit)
    (hv : IsTup s.heap q its) (h0 : its[0]? = some (.int n t)) :
    wpAny (model prog w) A (call (.ref f) [.ref q]) (PySem.W.KeyPure (.int (0 - n)) s) (fun _ _ => False) s := by
  have hb : bindArgs (PySem.W.kla_fn "<lambda>" qual (kArgs p) (kBody p1 p2 p3 p4 p5) (kScope) [] pm (.ref c') ctv) ⟨[.ref q], []⟩ = pure [(xT, .ref q)] := by first | rfl | kernel_rfl
  have rc : codeAny (model prog w) A (.call (.ref f) ⟨[.ref q], []⟩) (fun r s' => ∃ u, r = .ok (.ret u) ∧ PySem.W.KeyPure (.int (0 - n)) s u s') s := by
    refine PySem.W.kla_callFunE hd hf rfl rfl rfl rfl hc ?_
    rw [hb]
    refine wpAny_pure (wpAny_newFunctionEnv (by simp) (by simp) (fun h₁ hns hsb => ⟨lim.fresh _ hsb, ?_⟩) rfl)
    have kp : ∀ b o, s.heap.get? b = some o → h₁.get? b = some o := fun b o e => hsb.extBut b o (Nat.ne_of_lt (Heap.lt_size e)) (Heap.get?_push_of_some _ e)
    refine PySem.W.kla_codeExpr (wpAny_BinOp (wpAny_Constant_int (Subscript_ (wpAny_Name (wpAny_loadName_local rfl (by rfl) hns (by rfl) (wpAny_Constant_int ?_))))))
    have tv : IsTup h₁ q its := hv.keeps kp
    refine subscriptTail_builtinR (x := .int n t) tv.typeIs slot_tuple_getitem.lookup (getItem_tuple (j := 0) tv (by decide) (by decide) ?_ h0 ⟨rfl, ?_⟩) (by rfl)
    · have := (Array.getElem?_eq_some_iff.mp h0).1
      exact seqIndex_of (by decide) (by simpa using this)
    · exact sub_int ⟨_, rfl, _, _, rfl, kp, .int _ _⟩
  exact wpAny_call (codeAny_mono rc fun r s' h => by
    obtain ⟨u, rfl, h⟩ := h
    exact h)
end
/-- the object at f is the lambda -/
def LamO (f c' : Addr) (qual : Str) (p p1 p2 p3 p4 p5 : Pos) : HO := .ext fun h => ∃ (pm ctv : Value), h.get? f = some (PySem.W.kla_obj "<lambda>" qual (kArgs p) (kBody p1 p2 p3 p4 p5) kScope [] pm c' ctv)
/-- what the making of the lambda at pos changes -/
def Made (P : Addr) (q : Str) (pos : Pos) (o : Addr → Addr → HO) (f c' : Addr) (H H1 : Hp) : Prop :=
  H f = none ∧ f ≠ c' ∧ ∃ ps : Array Value, H P = some (.tbl ps) ∧ TriplesOk ps.toList ∧
    ((codeAmong pos ps.toList = some (.ref c') ∧ H c' = some (CodeO c' q) ∧ H1 = upd H f (o f c')) ∨
     (H c' = none ∧ H1 = upd (upd (upd H P (.tbl (ps ++ #[rawInt pos.line, rawInt pos.col, .ref c']))) c' (CodeO c' q)) f (o f c')))
section
variable {X : Cx} {pins : List (Addr × Obj)} {σ : L2.St} {H : Hp} {s : Shared}
theorem inv_lam {qual : Str} {p p1 p2 p3 p4 p5 : Pos} {c' : Addr} {o : Obj} {t' : Nat} {pm ctv : Value} (I : Inv X pins σ H s) (ho : o = PySem.W.kla_obj "<lambda>" qual (kArgs p) (kBody p1 p2 p3 p4 p5) kScope [] pm c' ctv) :
    Inv X pins σ (upd H s.heap.objs.size (LamO s.heap.objs.size c' qual p p1 p2 p3 p4 p5)) { s with heap := s.heap.push o, toks := t' } := by
  subst ho
  refine I.laid (a := s.heap.objs.size) (fun b u e => Heap.get?_push_of_some _ e) (Nat.le_refl _) ?_
  have e : (s.heap.push (PySem.W.kla_obj "<lambda>" qual (kArgs p) (kBody p1 p2 p3 p4 p5) kScope [] pm c' ctv)).get? s.heap.objs.size = some (PySem.W.kla_obj "<lambda>" qual (kArgs p) (kBody p1 p2 p3 p4 p5) kScope [] pm c' ctv) := Heap.get?_push_size _ rfl
  exact ⟨⟨pm, ctv, e⟩, ⟨_, e⟩, fun h1 h2 ⟨d, p, z⟩ st => ⟨d, p, st _ z⟩⟩
theorem lam_make3 {T : List (Addr × Str)} {c P : Addr} {p p1 p2 p3 p4 p5 pos : Pos} {E : Value → Shared → Prop} {Q : Value → Shared → Prop} (I : Inv X pins σ H s) (TB : TabB X.base X.mg c P) (hcode : X.env.code = .ref c)
    (hm : (P, X.env.qual ++ "<lambda>") ∈ T) (hT : Tabs T H) (hdef : defaultsOf (kArgs p) X.env = ([], []))
    (h : ∀ (f c' : Addr) (H1 : Hp) (s' : Shared), Inv X pins σ H1 s' → Made P (X.env.qual ++ "<lambda>") pos (fun f c' => LamO f c' (X.env.qual ++ "<lambda>") p p1 p2 p3 p4 p5) f c' H H1 → Q (.ref f) s') :
    wpAny (model X.prog X.w) X.A (eval (.Lambda (kArgs p) (kBody p1 p2 p3 p4 p5) kScope pos) X.env) Q E s := by
  obtain ⟨ps, hP, ht, ha⟩ := hT _ hm
  refine PySem.W.kla_eval hdef ?_
  have bP : s.heap.BuiltinsAt X.mg P := TB.bm.keeps I.bk
  have hP' : s.heap.get? P = some { cls := .none, data := .fields ps } := I.hok P _ hP
  have hfree : ∀ y ∈ kScope.names, y.2 = .free → ∃ c, X.env.cells.lookup y.1 = some c := fun y hy e => by
    simp only [List.mem_singleton] at hy
    subst hy
    cases e
  have hcl : cloFrom X.env.cells kScope.names [] = [] := rfl
  cases hc : codeAmong pos ps.toList with
  | none =>
    refine PySem.W.kla_makeFunction (mg := X.mg) (c := c) (P := P) (ps := ps) (closure_ok hfree) I.ok.glob (I.mod.glob.keeps I.bk) hcode (TB.code.keeps I.bk) hP' ht hc TB.gP bP fun c' ctv h' tk hx hge hlt hrec htb => ?_
    obtain ⟨c2, oc, vs, t, e2, hoc, hd, hv⟩ := hrec
    cases e2
    have hsz : s.heap.objs.size ≤ h'.objs.size := Nat.le_trans hge (Nat.le_of_lt hlt)
    have nC : H c' = none := I.hok.fresh hge
    have I1 := inv_table (t' := tk) (more := #[rawInt pos.line, rawInt pos.col, .ref c']) (h' := h') I hP (fun b o hb e => hx b o hb e) htb hge ⟨oc, vs, t, hoc, hd, hv⟩
    have I2 := inv_lam (t' := tk) (qual := X.env.qual ++ "<lambda>") (p := p) (p1 := p1) (p2 := p2) (p3 := p3) (p4 := p4) (p5 := p5) (c' := c') (pm := (X.mg "__name__").getD .none) (ctv := ctv) I1 rfl
    exact h h'.objs.size c' _ _ I2 ⟨I.hok.fresh hsz, Nat.ne_of_gt hlt, ps, hP, ht, .inr ⟨nC, rfl⟩⟩
  | some cv =>
    obtain ⟨c', e, hco⟩ := ha pos cv hc
    subst e
    refine PySem.W.kla_makeFunctionHit (mg := X.mg) (c := c) (P := P) (ps := ps) (closure_ok hfree) I.ok.glob (I.mod.glob.keeps I.bk) hcode (TB.code.keeps I.bk) hP' ht hc bP fun ctv h' tk hx hsz => ?_
    have I1 : Inv X pins σ H { s with heap := h', toks := tk } := I.kept hx
    have I2 := inv_lam (t' := tk) (qual := X.env.qual ++ "<lambda>") (p := p) (p1 := p1) (p2 := p2) (p3 := p3) (p4 := p4) (p5 := p5) (c' := c') (pm := (X.mg "__name__").getD .none) (ctv := ctv) I1 rfl
    have nf : H h'.objs.size = none := I1.hok.fresh (Nat.le_refl _)
    refine h h'.objs.size c' _ _ I2 ⟨nf, fun z => ?_, ps, hP, ht, .inl ⟨hc, hco, rfl⟩⟩
    rw [← z, nf] at hco
    cases hco
def tLam (T : List (Addr × Str)) (P : Addr) (q : Str) (pos : Pos) (o : Addr → Addr → HO) : TE := fun σ H Q => Tabs T H ∧ ∀ f c' H1, Made P q pos o f c' H H1 → Q (.ref f) H1
theorem pe_lam {T : List (Addr × Str)} {c P : Addr} {p p1 p2 p3 p4 p5 pos : Pos} (TB : TabB X.base X.mg c P) (hcode : X.env.code = .ref c)
    (hm : (P, X.env.qual ++ "<lambda>") ∈ T) (hdef : defaultsOf (kArgs p) X.env = ([], []) := by rfl) :
    PE X (.Lambda (kArgs p) (kBody p1 p2 p3 p4 p5) kScope pos) (tLam T P (X.env.qual ++ "<lambda>") pos fun f c' => LamO f c' (X.env.qual ++ "<lambda>") p p1 p2 p3 p4 p5) :=
  ⟨fun pins s σ H Q I ⟨hT, h⟩ => lam_make3 I TB hcode hm hT hdef fun f c' H1 s' J m => ⟨.ref f, H1, J, rfl, h f c' H1 m⟩⟩
/-! ### the sort -/
abbrev Itm := Addr × Int
def kle (a b : Itm) : Bool := decide (0 - a.2 ≤ 0 - b.2)
def rSortKey (K : PySem.W.Frag) : List V → List V → Hp → VK → Prop := fun xs zs H Q => ∃ (a f c' : Addr) (qual : Str) (p p1 p2 p3 p4 p5 : Pos) (L : List Itm), xs = [V.ref a] ∧ zs = [V.ref f] ∧ H f = some (LamO f c' qual p p1 p2 p3 p4 p5) ∧ H c' = some (CodeO c' qual) ∧
  SqL K H a (L.map fun q => V.ref q.1) ∧ (∀ q ∈ L, ∃ vs, SqT K H q.1 (V.int q.2 :: vs)) ∧ ∀ b, H b = none → Q (.ref b) (upd H b (.lst ((L.mergeSort kle).map fun q => V.ref q.1)))
theorem cr_sortKey {k : Nat} (hr : Room k X.A) : CallRK X (.builtin "sorted") [("key" : Str)] (rSortKey X.K) := by
  intro pins s σ H xs zs us ws Q I rx rz h
  obtain ⟨a, f, c', qual, p, p1, p2, p3, p4, p5, L, rfl, rfl, hf, hc, hl, hk, q⟩ := h
  rw [Vals.ref1 rx, Vals.ref1 rz]
  obtain ⟨its, rv, pl, hz⟩ := I.list hl
  obtain ⟨⟨pm, ctv, of⟩, _, _⟩ := I.hok f _ hf
  obtain ⟨⟨oc, vc, tc, h1, h2, h3⟩, _, _⟩ := I.hok c' _ hc
  have each : ∀ (L : List Itm) (its : List Value), Vals (L.map fun q => V.ref q.1) its → PySem.W.EachIs (fun v (x : Itm) => v = Value.ref x.1) its L := by
    intro L
    induction L with
    | nil => intro its r; cases r; exact .nil
    | cons x L ih =>
      intro its r
      cases r with
      | cons e r => exact .cons e (ih _ r)
  have lim := I.nolimit
  refine PySem.W.sorted_key_data (b := false) (R := fun v (x : Itm) => v = Value.ref x.1) (fun x : Itm => .int (0 - x.2)) pl.isList (each L its rv) (PySem.W.AllAlike.of fun _ _ => by simp [PySem.W.alike]) (PySem.W.Sortable.others fun b => ⟨(fun z => by cases z), (fun xs z => by cases z)⟩) (by rw [List.length_map] at hz; exact hz)
    (fun x _ => ?_) (PyProof.Rows.ksk_s1 _ _) (fun _ => PyProof.Rows.ksk_l1 _ _) (fun _ => PyProof.Rows.ksk_t1 _ _) (fun v x hv hx h tk kp => ?_) fun out c h' tk kp n0 ho hlen eo => ?_
  · have := hr.un
    show X.A.units + 2 + 0 < _
    omega
  · subst hv
    obtain ⟨vs, ht⟩ := hk x hx
    obtain ⟨ts, rt, it, _⟩ := I.tuple ht
    cases rt with
    | cons e r =>
      obtain ⟨t, rfl⟩ := e
      exact turn (A := X.A.in1.in1) (s := { s with heap := h, toks := tk }) (by have := hr.dp; show X.A.depth < _; omega) (kp _ _ of) ⟨c', oc, vc, tc, rfl, kp _ _ h1, h2, h3⟩ (lim.keeps kp) (it.keeps kp) (t := t) (by simp)
  · have e2 : PySem.W.dataLe false (fun x : Itm => PyData.int (0 - x.2)) = kle := PySem.W.dataLe_int (fun x : Itm => 0 - x.2)
    rw [e2] at eo
    have back : ∀ (L : List Itm) (out : List Value), PySem.W.EachIs (fun v (x : Itm) => v = Value.ref x.1) out L → Vals (L.map fun q => V.ref q.1) out := by
      intro L
      induction L with
      | nil => intro out r; cases r; exact .nil
      | cons x L ih =>
        intro out r
        cases r with
        | cons e r => exact .cons e (ih _ r)
    have hl2 : ((L.mergeSort kle).map fun q => V.ref q.1).length ≤ sizeLine := by
      rw [List.length_map, (List.mergeSort_perm L kle).length_eq]
      rw [List.length_map] at hz
      exact hz
    have J := I.laid (t' := tk) (a := s.heap.objs.size + 1) (o := .lst ((L.mergeSort kle).map fun q => V.ref q.1)) kp (Nat.le_succ _) ⟨hl2, out, c, back _ _ eo, ho⟩
    exact ⟨.ref _, _, J, rfl, q _ (I.hok.fresh (Nat.le_succ _))⟩
end
end LamK
namespace PU
open L2 RZ LamK LamX
def fi : D → Int
  | .tup (.int n :: _) => n
  | _ => 0
def okK : D → Bool
  | .tup (.int _ :: _) => true
  | _ => false
def kleD (a b : D) : Bool := decide (0 - fi a ≤ 0 - fi b)
/-- sorted(xs, key = lambda t: 0 - t[0]), xs tuples that begin with an int -/
def sortKeyW : OpN := fun ws M => match ws with
  | [w] => match viewL M w with
    | some xs => if xs.all okK = true then .ok (.d (.lst (xs.mergeSort kleD))) M else .stuck
    | none => .stuck
  | _ => .stuck
section
variable {G : Glo} {X : Cx}
theorem okK_ok {F : Hp} : ∀ {xs : List D} {us : List V}, RepL G F xs us → xs.all okK = true →
    ∃ Z : List (D × Addr), xs = Z.map (·.1) ∧ us = Z.map (fun z => V.ref z.2) ∧ ∀ z ∈ Z, Rep G F z.1 (.ref z.2) ∧ ∃ vs, F z.2 = some (.tup (.int (fi z.1) :: vs))
  | [], us, h, _ => by
    simp only [RepL] at h
    subst h
    exact ⟨[], rfl, rfl, (fun _ z => nomatch z)⟩
  | d :: r, us, h, e => by
    simp only [RepL] at h
    obtain ⟨v, us, rfl, h1, h2⟩ := h
    simp only [List.all_cons, Bool.and_eq_true] at e
    obtain ⟨Z, rfl, rfl, hZ⟩ := okK_ok h2 e.2
    have e1 := e.1
    unfold okK at e1
    split at e1
    · rename_i n ds
      have h1' := h1
      simp only [Rep] at h1
      obtain ⟨a, vs, rfl, hF, hr⟩ := h1
      simp only [RepL, Rep] at hr
      obtain ⟨v, vs, rfl, rfl, hr⟩ := hr
      refine ⟨(_, a) :: Z, rfl, rfl, fun z hz => ?_⟩
      rcases List.mem_cons.mp hz with rfl | hz
      · exact ⟨h1', vs, hF⟩
      · exact hZ z hz
    · cases e1
/-- the lambda's code object is new -/
theorem HR.lamNew {F : Hp} {θ : List Addr} {H : Hp} {M : Mem} (hr : HR G F θ H M) {P c' : Addr} {q : Str} {pos : Pos} {ps : Array Value} (hm : (P, q) ∈ G.T) (hu : ∀ p ∈ G.T, p.1 = P → p.2 = q) (hP : H P = some (.tbl ps)) (ht : TriplesOk ps.toList) (nC : H c' = none) :
    HR G (upd (upd F P (.tbl (ps ++ #[rawInt pos.line, rawInt pos.col, .ref c']))) c' (CodeO c' q)) θ (upd (upd H P (.tbl (ps ++ #[rawInt pos.line, rawInt pos.col, .ref c']))) c' (CodeO c' q)) M ∧
      LE F (upd (upd F P (.tbl (ps ++ #[rawInt pos.line, rawInt pos.col, .ref c']))) c' (CodeO c' q)) := by
  obtain ⟨ps0, a1, a2, a3⟩ := hr.tab _ hm
  have e0 := hr.sub _ _ a1
  rw [hP] at e0
  cases e0
  have nF : F c' = none := by
    cases e : F c' with
    | none => rfl
    | some u => have := hr.sub _ _ e; rw [nC] at this; cases this
  have nPc : P ≠ c' := fun z => by rw [z, nC] at hP; cases hP
  have eL : (ps ++ #[rawInt pos.line, rawInt pos.col, .ref c']).toList = ps.toList ++ [rawInt pos.line, rawInt pos.col, .ref c'] := by simp
  have ext : ∀ b o, F b = some o → (∀ ps, o ≠ .tbl ps) → upd (upd F P (.tbl (ps ++ #[rawInt pos.line, rawInt pos.col, .ref c']))) c' (CodeO c' q) b = some o := fun b o e n => by
    rw [upd_ne (fun z => by rw [z, nF] at e; cases e), upd_ne (fun z => by rw [z, a1] at e; cases e; exact n _ rfl)]
    exact e
  have le : LE F (upd (upd F P (.tbl (ps ++ #[rawInt pos.line, rawInt pos.col, .ref c']))) c' (CodeO c' q)) := by
    have rd : ∀ a u, (∀ ps, u ≠ .tbl ps) → Rd F a u → Rd (upd (upd F P (.tbl (ps ++ #[rawInt pos.line, rawInt pos.col, .ref c']))) c' (CodeO c' q)) a u := fun a u n h => h.elim (fun h => .inl (ext _ _ h n)) fun ⟨o, h⟩ => .inr ⟨o, ext _ _ h fun _ z => by cases z⟩
    exact ⟨fun a xs h => ext _ _ h fun _ z => (by cases z), fun a xs h => ext _ _ h fun _ z => (by cases z), fun a o u h => ext _ _ h fun _ z => (by cases z), fun a ps h => rd _ _ (fun _ z => by cases z) h, fun a ps h => rd _ _ (fun _ z => by cases z) h, fun a C dx ps h => ext _ _ h fun _ z => (by cases z), fun a ps h => ext _ _ h fun _ z => (by cases z), fun a φ h => ext _ _ h fun _ z => (by cases z)⟩
  refine ⟨⟨fun p hp => ?_, fun b o e => ?_, hr.len, hr.nd, fun k a c hk hc => ?_⟩, le⟩
  · by_cases hb : p.1 = P
    · rw [hu p hp hb, hb]
      refine ⟨_, by rw [upd_ne nPc, upd_same], by rw [eL]; exact PySem.TriplesOk_snoc _ _ _ _ ht, fun p' cv hcv => ?_⟩
      rw [eL] at hcv
      rcases among_app _ ht hcv with z | z
      · obtain ⟨c0, e1, e2⟩ := a3 p' cv z
        exact ⟨c0, e1, ext _ _ e2 codeO_ne⟩
      · exact ⟨c', z, upd_same⟩
    · obtain ⟨ps', b1, b2, b3⟩ := hr.tab p hp
      refine ⟨ps', by rw [upd_ne (fun z => by rw [z, nF] at b1; cases b1), upd_ne hb]; exact b1, b2, fun p' cv hcv => ?_⟩
      obtain ⟨c0, e1, e2⟩ := b3 p' cv hcv
      exact ⟨c0, e1, ext _ _ e2 codeO_ne⟩
  · by_cases h1 : b = c'
    · subst h1; rw [upd_same] at e ⊢; exact e
    · rw [upd_ne h1] at e ⊢
      by_cases h2 : b = P
      · subst h2; rw [upd_same] at e ⊢; exact e
      · rw [upd_ne h2] at e ⊢; exact hr.sub b o e
  · have ok := hr.cell k a c hk hc
    have hac : a ≠ c' := fun z => hr.ne (List.mem_of_getElem? hk) (by rw [z]; exact nC)
    by_cases haP : a = P
    · subst haP
      cases c with
      | dead => show upd _ c' _ a ≠ none; rw [upd_ne hac, upd_same]; exact fun z => nomatch z
      | lst ds => obtain ⟨_, ws, e, _⟩ := ok; rw [hP] at e; cases e
      | dct ks ds => obtain ⟨_, ws, e, _⟩ := ok; rw [hP] at e; cases e
      | dcT ks ds => obtain ⟨_, ws, e, _⟩ := ok; rw [hP] at e; cases e
      | ins C fs ws => obtain ⟨_, _, dx, ps, e, _⟩ := ok; rw [hP] at e; cases e
    · exact ok.mono le (List.prefix_refl _) (fun z => by rw [upd_ne hac, upd_ne haP]; exact z) (by rw [upd_ne hac, upd_ne haP])
def rSortLam (K : PySem.W.Frag) (T : List (Addr × Str)) (P : Addr) (q : Str) (pos : Pos) (o : Addr → Addr → HO) : List V → Hp → VK → Prop := fun xs H Q => Tabs T H ∧ ∀ f c' H1, Made P q pos o f c' H H1 → rSortKey K xs [.ref f] H1 Q
theorem calls_sortLam {P : Addr} {q : Str} {pos p p1 p2 p3 p4 p5 : Pos} (hm : (P, q) ∈ G.T) (hu : ∀ p ∈ G.T, p.1 = P → p.2 = q) : CallS G (rSortLam G.K G.T P q pos fun f c' => LamO f c' q p p1 p2 p3 p4 p5) sortKeyW := by
  intro F θ H M ws vs Q Wx hr rw' hg
  unfold sortKeyW at hg
  split at hg
  · rename_i w0
    obtain ⟨v, rfl, rv⟩ := RepWL.one rw'
    split at hg
    · rename_i xs e
      split at hg
      · rename_i hall
        refine ⟨fun p hp => (hr.tab p hp).ext hr.sub, fun f c' H1 made => ?_⟩
        obtain ⟨nf, hne, ps, hP, ht, made⟩ := made
        obtain ⟨F1, hr1, le1, hf, hc⟩ : ∃ F1, HR G F1 θ H1 M ∧ LE F F1 ∧ H1 f = some (LamO f c' q p p1 p2 p3 p4 p5) ∧ H1 c' = some (CodeO c' q) := by
          rcases made with ⟨_, hco, rfl⟩ | ⟨nC, rfl⟩
          · exact ⟨F, hr.skip nf _, LE.refl F, upd_same, by rw [upd_ne hne.symm]; exact hco⟩
          · obtain ⟨hr1, le1⟩ := hr.lamNew (pos := pos) hm hu hP ht nC
            have nf1 : upd (upd H P (.tbl (ps ++ #[rawInt pos.line, rawInt pos.col, .ref c']))) c' (CodeO c' q) f = none := by
              rw [upd_ne hne, upd_ne (fun z => by rw [z, hP] at nf; cases nf)]
              exact nf
            exact ⟨_, hr1.skip nf1 _, le1, upd_same, by rw [upd_ne hne.symm, upd_same]⟩
        obtain ⟨a, us, rfl, h1, h2⟩ := viewL_ok hr1 (rv.mono le1 (List.prefix_refl _)) e
        obtain ⟨Z, rfl, rfl, hZ⟩ := okK_ok h2 hall
        refine ⟨a, f, c', q, p, p1, p2, p3, p4, p5, Z.map fun z => (z.2, fi z.1), rfl, rfl, hf, hc, by rw [List.map_map]; exact h1, fun x hx => ?_, fun b hb => ?_⟩
        · obtain ⟨z, hz, rfl⟩ := List.mem_map.mp hx
          obtain ⟨_, vs, hF⟩ := hZ z hz
          exact ⟨vs, SqT.of (hr1.sub _ _ hF)⟩
        · have es1 : (Z.map fun z => (z.2, fi z.1)).mergeSort kle = (Z.mergeSort fun a b => kleD a.1 b.1).map fun z => (z.2, fi z.1) := by
            symm
            exact List.map_mergeSort fun a _ b _ => rfl
          have es2 : (Z.map (·.1)).mergeSort kleD = (Z.mergeSort fun a b => kleD a.1 b.1).map (·.1) := by
            symm
            exact List.map_mergeSort fun a _ b _ => rfl
          rw [es1, List.map_map]
          rw [es2] at hg
          obtain ⟨hr2, le2⟩ := hr1.alloc hb (.lst ((Z.mergeSort fun a b => kleD a.1 b.1).map ((fun q => V.ref q.1) ∘ fun z => (z.2, fi z.1))))
          refine hg _ θ _ (le1.trans le2) (List.prefix_refl _) hr2 _ ?_
          simp only [RepW, Rep]
          refine ⟨b, _, rfl, upd_same, ?_⟩
          have : ∀ Z' : List (D × Addr), (∀ z ∈ Z', z ∈ Z) → RepL G (upd F1 b (.lst ((Z.mergeSort fun a b => kleD a.1 b.1).map ((fun q => V.ref q.1) ∘ fun z => (z.2, fi z.1))))) (Z'.map (·.1)) (Z'.map ((fun q => V.ref q.1) ∘ fun z => (z.2, fi z.1))) := by
            intro Z'
            induction Z' with
            | nil => intro _; exact RepL.nil
            | cons z Z' ih =>
              intro hz
              exact RepL.cons ((hZ z (hz z List.mem_cons_self)).1.mono le2) (ih fun p hp => hz p (List.mem_cons_of_mem _ hp))
          exact this _ fun z hz => (List.mergeSort_perm Z _).mem_iff.mp hz
      · exact hg.elim
    · exact hg.elim
  · exact hg.elim
theorem pu_sortLam {k : Nat} {c P : Addr} {e : Expr} {t : L2.WX → TA} {fs : Av} {p p1 p2 p3 p4 p5 lpos kpos pos np : Pos} (hr : Room k X.A) (hm : X.mg "sorted" = none) (ha : PUA G X [e] t fs) (TB : TabB X.base X.mg c P) (hcode : X.env.code = .ref c)
    (hmT : (P, X.env.qual ++ "<lambda>") ∈ G.T) (hu : ∀ p ∈ G.T, p.1 = P → p.2 = X.env.qual ++ "<lambda>") (hK : X.K = G.K := by rfl) (hg : L2.Gl X "sorted" := by rfl) (hdef : defaultsOf (kArgs p) X.env = ([], []) := by rfl)
    (he : backTo pos (starEach [e] X.env) = (false, eval e X.env) :: backTo pos (starEach [] X.env) := by rfl) (hpl : (backTo pos (starEach [e] X.env)).any (·.1) = false := by rfl) :
    PU G X (.Call (.Name "sorted" np) [e] [⟨some ("key" : Str), .Lambda (kArgs p) (kBody p1 p2 p3 p4 p5) kScope lpos, kpos⟩] pos)
      (fun Wx => tCB (rSortLam G.K G.T P (X.env.qual ++ "<lambda>") lpos fun f c' => LamO f c' (X.env.qual ++ "<lambda>") p p1 p2 p3 p4 p5) (t Wx)) (eA sortKeyW fs) :=
  ⟨fun Wx tk => show PE X _ (tCKw (rSortKey G.K) (t Wx) (tCons (tLam G.T P (X.env.qual ++ "<lambda>") lpos fun f c' => LamO f c' (X.env.qual ++ "<lambda>") p p1 p2 p3 p4 p5) tNil)) from
    pe_callBK (hK ▸ cr_sortKey hr) hg hm rfl (ha.pe Wx tk) (pk_cons (pe_lam TB hcode hmT hdef) pk_nil) (by decide +kernel) (by decide +kernel) he hpl, sem_call (calls_sortLam hmT hu) ha.sem⟩
end
end PU
set_option Elab.async false
set_option linter.all false
set_option maxRecDepth 100000
set_option maxHeartbeats 4000000
namespace PU
open PySem PySem.Spec PyProof.Rows L2
/-! == of an own instance and a tuple, by the own __eq__ -/
section
variable {X : Cx} {k : Nat} {C f : Addr} {fd : FuncData} {ps : List Str} {sp : Sp}
theorem tup_last (K : PySem.W.Frag) (C : Addr) : PySem.W.notFirst K C (.type "tuple") = true := by
  have e : fastBuiltinMro "tuple" = some [.type "tuple", .type "object"] := by kernel_rfl
  unfold PySem.W.notFirst PySem.W.subIn
  simp [e]
theorem tup_type {M : Model} {h : Heap} {q : Addr} {its : Array Value} (t : IsTup h q its) : PySem.W.Looks M h (typeOf (.ref q)) (.type "tuple") := by
  obtain ⟨o, ho, hc, _⟩ := t
  exact hc ▸ (PySem.W.Looks.ld ho).andThen .now
def rOwnEqT (K : PySem.W.Frag) (C : Addr) (sp : Sp) : R2 := fun x y H Q => ∃ a b xs dx fs, x = .ref a ∧ y = .ref b ∧ SqT K H b xs ∧ H a = some (.ins C dx fs) ∧ sp [.ref a, .ref b] H (fun v H' => ∃ r, v = .bl r ∧ Q (.bl r) H') E0
theorem op_own_eqT (F : FnG X.prog X.w X.K X.mg X.base (L2.CX X.prog X.w) k f fd ps sp) (hr : RoomG k X.A) (hs : PySem.W.findIn X.K (.ref C) "__eq__" = some (some (.ref f))) (hf : PySem.W.isFn X.K (.ref f) = true) (hb : Binds X.K fd ps []) : OpR X (compareOp .Eq) (rOwnEqT X.K C sp) := by
  intro pins s σ H x y u v Q I rx ry h
  obtain ⟨a, b, xs, dx, fs, rfl, rfl, hq, ha, hsp⟩ := h
  cases rx
  cases ry
  obtain ⟨its, _, it, _⟩ := I.tuple hq
  obtain ⟨mA, J, _⟩ := ins_get I.hok ha
  obtain ⟨od, J, _⟩ := J.look
  apply PySem.W.cmp_ofEq
  have hl := F.len _ _ _ _ hsp
  have bd := hb s [.ref a, .ref b] I.kIn (by simpa using hl)
  have r2 : Vals [V.ref a, V.ref b] [Value.ref a, Value.ref b] := .cons rfl (.cons rfl .nil)
  obtain ⟨m, hF⟩ := I.fr
  refine PySem.W.cmp_K (op := .Eq) (tb := .type "tuple") hr.rm.units0 hF I.ok.mod.kin J (tup_type it) (tup_last _ _) hs hf (wpAny_call (codeAny_mono (F.run X.A X.stack s H ⟨[.ref a, .ref b], []⟩ [.ref a, .ref b] [.ref a, .ref b] _ _ hr I.env0 (by simpa using bd) r2 hsp) ?_))
  intro r s' hq
  cases r with
  | error e => exact passL (X := X) pins σ H s e s' I hq
  | ok fl =>
    cases fl
    case ret u =>
      obtain ⟨v, H', I', rv, r, ev, q⟩ := I.after hq
      subst ev
      have eu : u = Value.bool r := rv
      subst eu
      exact ⟨V.bl r, H', I', rfl, q⟩
    all_goals exact False.elim hq
end
section
variable {prog : Program} {w : World} {A : Around} {E : Value → Shared → Prop} {s : Shared} {K : PySem.W.Frag} {x C f : Addr} {ox : Obj} {od : Option Obj} {b tb : Value}
/-- x != b by the own __eq__, b of another type -/
theorem rich_neT {Q : Value → Shared → Prop} (X : K.In s.heap) (I : PySem.W.InstAt s.heap x ox C od) (hb : PySem.W.Looks (model prog w) s.heap (typeOf b) tb) (hnf : PySem.W.notFirst K C tb = true) (hu : A.units + 1 < cLine) (hm : PySem.W.mroIn K C (.type "object") = some true)
    (hn : PySem.W.findIn K (.ref C) "__ne__" = some (some (.builtin "object.__ne__"))) (hs : PySem.W.findIn K (.ref C) "__eq__" = some (some (.ref f))) (hf : PySem.W.isFn K (.ref f) = true)
    (h : wpAny (model prog w) A.in1 (call (.ref f) [.ref x, b]) (fun v s' => ∃ r, v = .bool r ∧ Q (.bool (!r)) s') E s) : wpAny (model prog w) A (richCompare .NotEq (.ref x) b) Q E s := by
  have one : wpAny (model prog w) A (tryCompare (.ref x) "__ne__" b) (fun r s' => ∃ v, r = some v ∧ Q v s') E s := by
    unfold tryCompare
    refine wpAny_bind (ifBound_ne X I hn (wpAny_call (codeAny_call_builtin PySem.F.cmp_object.ne.plain PySem.F.cmpEntry_ne
      (@PySem.W.check_slot (model prog w) _ _ s "object.__ne__" "object" "__ne__" (.ref x) [b] [] _ PySem.F.cmpKind_ne PySem.F.cmpSplit_ne (I.type.andThen (PySem.W.looks_mroIn X hm)) (PySem.F.cmpArgs_ne _ _)
        (ne_body (A := A.in1) X I hu hs hf (wpAny_mono h (fun v s' hv => ?_) fun _ _ e => e))))))
    obtain ⟨r, rfl, hq⟩ := hv
    refine ⟨r, rfl, ?_⟩
    first | exact wpAny_pure ⟨_, rfl, hq⟩ | exact wpAny_pure (wpAny_pure ⟨_, rfl, hq⟩) | exact ⟨_, rfl, hq⟩
  unfold richCompare
  simp only [oneThing_ref]
  refine wpAny_holding (wpAny_bind (wpAny_cRoomFor (Nat.lt_of_succ_lt hu) ?_))
  rw [cmpInfo_NotEq]
  refine wpAny_bind (I.type.here (wpAny_bind (hb.here ?_)))
  split
  · rename_i q
    have e : PySem.W.subIn K tb (.ref C) = some false := by
      rcases Bool.or_eq_true_iff.mp hnf with e | e
      · rw [beq_iff_eq.mp e] at q; simp at q
      · exact beq_iff_eq.mp e
    refine wpAny_bind ((PySem.W.looks_subIn X e).here ?_)
    simp only [Bool.false_eq_true, if_false]
    refine wpAny_bind (wpAny_mono one (fun r s' z => ?_) fun _ _ e => e)
    obtain ⟨v, rfl, hq⟩ := z
    exact wpAny_pure hq
  · refine wpAny_bind (wpAny_pure ?_)
    simp only [Bool.false_eq_true, if_false]
    refine wpAny_bind (wpAny_mono one (fun r s' z => ?_) fun _ _ e => e)
    obtain ⟨v, rfl, hq⟩ := z
    exact wpAny_pure hq
end
section
variable {G : Glo} {X : Cx} {k : Nat} {f : Addr} {fd : FuncData} {ps : List Str} {fs : Fn} {a b e : Expr} {ta tb : L2.WX → TE} {fa fb : Ev} {pos p : Pos}
def ownEqTW (C : Nat) (f : Fn) : Op2 := fun M x y => match viewT y with
  | some _ => if isIns C M x then (noX (f [x, y] M)).bind (negB false) else .stuck
  | none => .stuck
theorem ops_ownEqT (C : Nat) : OpS G (rOwnEqT G.K (G.cls C) (spF G 2 fs)) (ownEqTW C fs) := by
  intro F θ H M x y v u Q Wx hr rx ry hg
  unfold ownEqTW at hg
  split at hg
  · rename_i xs ey
    split at hg
    · rename_i hc
      obtain ⟨a, dx, ps, rfl, ha⟩ := isIns_ok hr rx hc
      obtain ⟨b, vs, rfl, hq, _⟩ := viewT_ok hr ry ey
      refine ⟨a, b, vs, dx, ps, rfl, rfl, hq, ha, rfl, F, θ, [x, y], M, hr, ⟨_, _, rfl, rx, _, _, rfl, ry, rfl⟩, ?_⟩
      cases e : fs [x, y] M with
      | stuck => rw [e] at hg; exact hg
      | exc z N => rw [e] at hg; exact hg.elim
      | ok w N =>
        rw [e] at hg
        have hg : Good G F θ (postE G Q) Wx (negB false w N) := hg
        unfold negB at hg
        split at hg
        · rename_i r _
          intro F' θ' H' l p hr' z rz
          simp only [RepW, Rep] at rz
          exact ⟨r, rz, hg F' θ' H' l p hr' _ (by simp only [RepW, Rep]; rfl)⟩
        · exact hg.elim
    · exact hg.elim
  · exact hg.elim
theorem pu_oeqT (C : Nat) (F : FnG X.prog X.w X.K X.mg X.base (L2.CX X.prog X.w) k f fd ps (spF G 2 fs)) (hr : RoomG k X.A) (hm : Meth X.K (G.cls C) "__eq__" f) (hb : Binds X.K fd ps []) (ha : PU G X a ta fa) (hc : PU G X b tb fb) (hK : X.K = G.K := by rfl) : PU G X (.Compare a [.Eq] [b] pos) (fun Wx => tOp (rOwnEqT G.K (G.cls C) (spF G 2 fs)) (ta Wx) (tb Wx)) (e2 (ownEqTW C fs) fa fb) :=
  pu_cmp (hK ▸ op_own_eqT F hr hm.at_ hm.fn hb) (ops_ownEqT C) ha hc (nomark _)
theorem put_oeqT (C : Nat) (F : FnG X.prog X.w X.K X.mg X.base (L2.CX X.prog X.w) k f fd ps (spF G 2 fs)) (hr : RoomG k X.A) (hm : Meth X.K (G.cls C) "__eq__" f) (hb : Binds X.K fd ps []) (ha : PU G X a ta fa) (hc : PU G X b tb fb) (hK : X.K = G.K := by rfl) : PUT G X (.Compare a [.Eq] [b] pos) (fun Wx => tTest (tOp (rOwnEqT G.K (G.cls C) (spF G 2 fs)) (ta Wx) (tb Wx))) (tB' (e2 (ownEqTW C fs) fa fb)) :=
  put_cmp (hK ▸ op_own_eqT F hr hm.at_ hm.fn hb) (ops_ownEqT C) ha hc (nomark _)
end
section
variable {X : Cx} {k : Nat} {C f : Addr} {fd : FuncData} {ps : List Str} {sp : Sp}
def rOwnNeT (K : PySem.W.Frag) (C : Addr) (sp : Sp) : R2 := fun x y H Q => ∃ a b xs dx fs, x = .ref a ∧ y = .ref b ∧ SqT K H b xs ∧ H a = some (.ins C dx fs) ∧ sp [.ref a, .ref b] H (fun v H' => ∃ r, v = .bl r ∧ Q (.bl (!r)) H') E0
theorem op_own_neT (F : FnG X.prog X.w X.K X.mg X.base (L2.CX X.prog X.w) k f fd ps sp) (hr : RoomG (k + 1) X.A) (hm : PySem.W.mroIn X.K C (.type "object") = some true) (hn : PySem.W.findIn X.K (.ref C) "__ne__" = some (some (.builtin "object.__ne__")))
    (hs : PySem.W.findIn X.K (.ref C) "__eq__" = some (some (.ref f))) (hf : PySem.W.isFn X.K (.ref f) = true) (hb : Binds X.K fd ps []) : OpR X (compareOp .NotEq) (rOwnNeT X.K C sp) := by
  intro pins s σ H x y u v Q I rx ry h
  obtain ⟨a, b, xs, dx, fs, rfl, rfl, hq, ha, hsp⟩ := h
  cases rx
  cases ry
  obtain ⟨its, _, it, _⟩ := I.tuple hq
  obtain ⟨mA, J, _⟩ := ins_get I.hok ha
  obtain ⟨od, J, _⟩ := J.look
  apply PySem.W.cmp_ofNotEq
  have hl := F.len _ _ _ _ hsp
  have bd := hb s [.ref a, .ref b] I.kIn (by simpa using hl)
  have r2 : Vals [V.ref a, V.ref b] [Value.ref a, Value.ref b] := .cons rfl (.cons rfl .nil)
  have hun := hr.rm.un
  refine rich_neT I.kIn J (tup_type it) (tup_last _ _) (by omega) hm hn hs hf (wpAny_call (codeAny_mono (F.run X.A.in1 X.stack s H ⟨[.ref a, .ref b], []⟩ [.ref a, .ref b] [.ref a, .ref b] _ _ hr.in1 I.env0.in1 (by simpa using bd) r2 hsp) ?_))
  intro r s' hq
  cases r with
  | error e => exact passL (X := X) pins σ H s e s' I hq
  | ok fl =>
    cases fl
    case ret u =>
      obtain ⟨v, H', I', rv, t, ev, q⟩ := I.after hq
      subst ev
      have eu : u = Value.bool t := rv
      subst eu
      exact ⟨t, rfl, V.bl (!t), H', I', rfl, q⟩
    all_goals exact False.elim hq
end
section
variable {G : Glo} {X : Cx} {k : Nat} {f : Addr} {fd : FuncData} {ps : List Str} {fs : Fn} {a b e : Expr} {ta tb : L2.WX → TE} {fa fb : Ev} {pos p : Pos}
def ownNeTW (C : Nat) (f : Fn) : Op2 := fun M x y => match viewT y with
  | some _ => if isIns C M x then (noX (f [x, y] M)).bind (negB true) else .stuck
  | none => .stuck
theorem ops_ownNeT (C : Nat) : OpS G (rOwnNeT G.K (G.cls C) (spF G 2 fs)) (ownNeTW C fs) := by
  intro F θ H M x y v u Q Wx hr rx ry hg
  unfold ownNeTW at hg
  split at hg
  · rename_i xs ey
    split at hg
    · rename_i hc
      obtain ⟨a, dx, ps, rfl, ha⟩ := isIns_ok hr rx hc
      obtain ⟨b, vs, rfl, hq, _⟩ := viewT_ok hr ry ey
      refine ⟨a, b, vs, dx, ps, rfl, rfl, hq, ha, rfl, F, θ, [x, y], M, hr, ⟨_, _, rfl, rx, _, _, rfl, ry, rfl⟩, ?_⟩
      cases e : fs [x, y] M with
      | stuck => rw [e] at hg; exact hg
      | exc z N => rw [e] at hg; exact hg.elim
      | ok w N =>
        rw [e] at hg
        have hg : Good G F θ (postE G Q) Wx (negB true w N) := hg
        unfold negB at hg
        split at hg
        · rename_i r _
          intro F' θ' H' l p hr' z rz
          simp only [RepW, Rep] at rz
          exact ⟨r, rz, hg F' θ' H' l p hr' _ (by simp only [RepW, Rep]; rfl)⟩
        · exact hg.elim
    · exact hg.elim
  · exact hg.elim
theorem pu_oneT (C : Nat) (F : FnG X.prog X.w X.K X.mg X.base (L2.CX X.prog X.w) k f fd ps (spF G 2 fs)) (hr : RoomG (k + 1) X.A) (hi : InsC G C) (hm : Meth X.K (G.cls C) "__eq__" f) (hb : Binds X.K fd ps []) (ha : PU G X a ta fa) (hc : PU G X b tb fb) (hK : X.K = G.K := by rfl) : PU G X (.Compare a [.NotEq] [b] pos) (fun Wx => tOp (rOwnNeT G.K (G.cls C) (spF G 2 fs)) (ta Wx) (tb Wx)) (e2 (ownNeTW C fs) fa fb) :=
  pu_cmp (hK ▸ op_own_neT F hr (hK ▸ hi.hm) (hK ▸ hi.ne) hm.at_ hm.fn hb) (ops_ownNeT C) ha hc (nomark _)
theorem put_oneT (C : Nat) (F : FnG X.prog X.w X.K X.mg X.base (L2.CX X.prog X.w) k f fd ps (spF G 2 fs)) (hr : RoomG (k + 1) X.A) (hi : InsC G C) (hm : Meth X.K (G.cls C) "__eq__" f) (hb : Binds X.K fd ps []) (ha : PU G X a ta fa) (hc : PU G X b tb fb) (hK : X.K = G.K := by rfl) : PUT G X (.Compare a [.NotEq] [b] pos) (fun Wx => tTest (tOp (rOwnNeT G.K (G.cls C) (spF G 2 fs)) (ta Wx) (tb Wx))) (tB' (e2 (ownNeTW C fs) fa fb)) :=
  put_cmp (hK ▸ op_own_neT F hr (hK ▸ hi.hm) (hK ▸ hi.ne) hm.at_ hm.fn hb) (ops_ownNeT C) ha hc (nomark _)
end
end PU
set_option Elab.async false
set_option linter.all false
set_option maxRecDepth 100000
set_option maxHeartbeats 4000000
/-! errors: raise, try, isinstance of an error, its attribute -/
namespace PU
open PySem PySem.Spec PyProof.Rows L2 PWX
section
variable {G : Glo} {X : Cx} {e : Expr} {te : L2.WX → TE} {fe : Ev} {p pos pos' : Pos} {x : Str}
/-! ### raise C(e) -/
def sRaise (C f : Nat) (fe : Ev) : Sv := fun ρ M => (fe ρ M).bindS ρ fun w M1 => match w with
  | .d x => .exc ⟨C, [f], [x]⟩ ρ M1
  | .cell _ => .stuck
theorem pus_raise {C f k : Nat} {par : Str} {fI : Addr} {B newId initId : String} {tail : List Value} (ef : ErrF X.prog X.K (G.cls C) fI par B newId initId tail) (hc : G.err C) (xc : XcOk X.K (G.cls C)) (hr : Room (k + 1) X.A) (hm : X.mg x = some (.ref (G.cls C))) (mgS : X.mg "super" = none)
    (he : PU G X e te fe) (hcalm : X.calm = true := by rfl) (han : G.an f = par := by rfl) (hg : L2.Gl X x := by rfl) (hdb : (x == ("__debug__" : Str)) = false := by decide +kernel) (hs : starEach [e] X.env = (false, eval e X.env) :: starEach [] X.env := by rfl) (hpl : (backTo pos (starEach [] X.env)).any (·.1) = false := by rfl) :
    PUS G X (.Raise (some (.Call (.Name x p) [e] [] pos)) none pos') (fun Wx => fun _ σ H => PW.tMkE (G.cls C) par (te Wx) σ H fun cls d H' => Wx cls d σ H') (sRaise C f fe) := by
  refine ⟨fun Wx tk => ps_raise hcalm tk (PW.pmk_er ef xc.exc.hs xc.ty xc.kp hr hg hm mgS (he.pe Wx tk) hdb hs hpl), ?_⟩
  intro Wx F θ σ H ρ M D sr hg'
  refine he.sem Wx F θ σ H ρ M _ sr (GoodS.seqE sr hg' fun w M1 F1 θ1 H1 _ l1 p1 sr1 hg1 v rv => fun d hd => ?_)
  cases w with
  | cell j => exact hg1.elim
  | d x =>
    refine hg1 F1 θ1 σ _ _ _ (LE.refl F1) (List.prefix_refl _) ⟨sr1.hr.skip hd _, sr1.len, sr1.sl⟩ ⟨hc, rfl, .inr ⟨d, [(par, v)], rfl, upd_same, by rw [List.map_cons, List.map_nil, List.map_cons, List.map_nil, han], RepL.one rv⟩⟩
/-! ### try -/
def noXS : RS → RS
  | .exc _ _ _ => .stuck
  | r => r
def unN : Option Nat → RS → RS
  | some i, .go f ρ M => .go f (ρ.set i none) M
  | _, r => r
def inN : Option Nat → Ex → Env → Env
  | some i, x, ρ => ρ.set i (some (.d (.exn x.C x.fs x.vs)))
  | none, _, ρ => ρ
abbrev HdP := List Nat × Option Nat × Sv
def sHds : List HdP → Ex → Env → Mem → RS
  | [], x, ρ, M => .exc x ρ M
  | (cs, n, g) :: r, x, ρ, M => if cs.any (fun c => subE x.C (.inr c)) = true then unN n (noXS (g (inN n x ρ) M)) else sHds r x ρ M
def sTry (g : Sv) (hs : List HdP) : Sv := fun ρ M => match g ρ M with
  | .exc x ρ' M' => sHds hs x ρ' M'
  | r => r
inductive HdsU (G : Glo) (X : Cx) : List ExceptHandler → List PW.Hd → List HdP → Prop
  | nil : HdsU G X [] [] []
  | plain {t : Expr} {cs : List Nat} {ts : L2.WX → TS} {g : Sv} {b₀ : Stmt} {suite : List Stmt} {pos' : Pos} {hds : List ExceptHandler} {l : List PW.Hd} {r : List HdP} (hc : PW.TestR X t (cs.map fun c => .ref (G.cls c))) (he : ∀ c ∈ cs, G.err c)
      (hsu : ∀ (a : Addr) (pn : List (Addr × Obj)), PUSs G (X.suite a pn) (b₀ :: suite) ts g) (hr : HdsU G X hds l r) :
      HdsU G X (.ExceptHandler (some t) none (b₀ :: suite) pos' :: hds) ((cs.map fun c => .ref (G.cls c), none, fun _ _ _ _ => ts fun _ _ _ _ => False) :: l) ((cs, none, g) :: r)
  | named {t : Expr} {cs : List Nat} {ts : L2.WX → TS} {g : Sv} {b₀ : Stmt} {suite : List Stmt} {pos' : Pos} {hds : List ExceptHandler} {l : List PW.Hd} {r : List HdP} {i : Nat} {n : Str} (hc : PW.TestR X t (cs.map fun c => .ref (G.cls c))) (he : ∀ c ∈ cs, G.err c) (hi : X.N[i]? = some n) (hln : X.env.kindOf n = some .local)
      (hsu : ∀ (a : Addr) (pn : List (Addr × Obj)), PUSs G (X.suite a pn) (b₀ :: suite) ts g) (hr : HdsU G X hds l r) :
      HdsU G X (.ExceptHandler (some t) (some n) (b₀ :: suite) pos' :: hds) ((cs.map fun c => .ref (G.cls c), some i, fun _ _ _ _ => ts fun _ _ _ _ => False) :: l) ((cs, some i, g) :: r)
theorem HdsU.pe {hds : List ExceptHandler} {l : List PW.Hd} {r : List HdP} (h : HdsU G X hds l r) : PW.HdsP X hds l := by
  induction h with
  | nil => exact .nil
  | plain hc he hsu hr ih => exact .plain hc (fun a oe cls d pn _ _ => (hsu a pn).pe _ PW.takesF) ih
  | named hc he hi hln hsu hr ih => exact .named hc hi hln (fun a oe cls d pn _ _ => (hsu a pn).pe _ PW.takesF) ih
/-- the classes of errors: what an except clause answers -/
def ExmOk (G : Glo) : Prop := ∀ C D, G.err C → G.err D → PySem.W.exmOne G.K (.ref (G.cls C)) (.ref (G.cls D)) = some (subE C (.inr D))
theorem exmAny_of (hx : ExmOk G) {C : Nat} (hC : G.err C) : ∀ cs : List Nat, (∀ c ∈ cs, G.err c) → PySem.W.exmAny G.K (.ref (G.cls C)) (cs.map fun c => .ref (G.cls c)) = some (cs.any fun c => subE C (.inr c))
  | [], _ => rfl
  | c :: cs, h => by
    rw [List.map_cons, List.any_cons]
    unfold PySem.W.exmAny
    rw [hx C c hC (h c List.mem_cons_self), exmAny_of hx hC cs fun c hc => h c (List.mem_cons_of_mem _ hc)]
/-- what the heap holds may be known -/
theorem HR.knowX {F : Hp} {θ : List Addr} {H : Hp} {M : Mem} (hr : HR G F θ H M) {a : Addr} {ps : List (Str × V)} (h : H a = some (.xd ps)) : HR G (upd F a (.xd ps)) θ H M ∧ LE F (upd F a (.xd ps)) := by
  cases e : F a with
  | some o =>
    have := hr.sub _ _ e
    rw [h] at this
    cases this
    have eq : upd F a (.xd ps) = F := by
      funext b
      by_cases hb : b = a
      · rw [hb, upd_same, e]
      · rw [upd_ne hb]
    rw [eq]
    exact ⟨hr, LE.refl F⟩
  | none =>
    have le : LE F (upd F a (.xd ps)) := LE.of_sub fun b u q => by
      rw [upd_ne (fun z => by subst z; rw [e] at q; cases q)]; exact q
    refine ⟨⟨tabs_new hr.tab e, fun b u q => ?_, hr.len, hr.nd, fun j b c hj hc => ?_⟩, le⟩
    · by_cases hb : b = a
      · subst hb; rw [upd_same] at q; cases q; exact h
      · rw [upd_ne hb] at q; exact hr.sub b u q
    · have ok := hr.cell j b c hj hc
      by_cases hb : b = a
      · subst hb
        cases c with
        | lst ds => obtain ⟨_, vs, q, _⟩ := ok; rw [h] at q; cases q
        | dct ks ds => obtain ⟨_, ps, q, _⟩ := ok; rw [h] at q; cases q
        | dcT ks ds => obtain ⟨_, ps, q, _⟩ := ok; rw [h] at q; cases q
        | ins C fs ws => obtain ⟨_, _, dx, ps, q, _⟩ := ok; rw [h] at q; cases q
        | dead => exact ok
      · exact ok.mono le (List.prefix_refl _) (fun z => by rw [upd_ne hb]; exact z) rfl
theorem SR.unset {F : Hp} {θ : List Addr} {σ : L2.St} {H : Hp} {ρ : Env} {M : Mem} (h : SR G F θ σ H ρ M) (i : Nat) : SR G F θ (σ.set i none) H (ρ.set i none) M := by
  refine ⟨h.hr, by simp [h.len], fun j w e => ?_⟩
  by_cases hj : j = i
  · subst hj
    by_cases hl : j < ρ.length
    · rw [List.getElem?_set_self hl] at e; cases e
    · rw [List.getElem?_eq_none (by simpa using hl)] at e; cases e
  · rw [List.getElem?_set_ne (Ne.symm hj)] at e
    obtain ⟨v, h1, h2⟩ := h.sl j w e
    exact ⟨v, by rw [List.getElem?_set_ne (Ne.symm hj)]; exact h1, h2⟩
theorem hds_sem (hx : ExmOk G) (hK : X.K = G.K) {D : Ends} {Wx : L2.WX} {y : Ex} {hds : List ExceptHandler} {l : List PW.Hd} {r : List HdP} (h : HdsU G X hds l r) : ∀ {F : Hp} {θ : List Addr} {σ : L2.St} {H : Hp} {ρ : Env} {M : Mem} {c : Value} {d : Option Addr},
    SR G F θ σ H ρ M → RepX G F y c d H → GoodS G F θ D Wx (sHds r y ρ M) → PW.wHds X.K Wx D l c d σ H := by
  induction h with
  | nil =>
    intro F θ σ H ρ M c d sr rx hg
    exact hg F θ σ H c d (LE.refl F) (List.prefix_refl _) sr rx
  | @plain t cs ts g b₀ suite pos' hds l r hc he hsu hr ih =>
    intro F θ σ H ρ M c d sr rx hg
    have rx' := rx
    obtain ⟨ey, rfl, rd⟩ := rx
    refine ⟨_, by rw [hK]; exact exmAny_of hx ey cs he, fun hb a oe na hz hf => ?_, fun hb => ?_⟩
    · obtain ⟨hr1, le1⟩ := sr.hr.alloc na (ExP a oe)
      unfold sHds at hg
      rw [if_pos hb] at hg
      refine (hsu a []).sem _ _ θ σ _ ρ M _ (sr.mono le1 (List.prefix_refl _) hr1) ?_
      have hg2 : GoodS G F θ D Wx (noXS (g ρ M)) := hg
      cases e : g ρ M with
      | stuck => rw [e] at hg2; exact hg2
      | exc x ρ2 M2 => rw [e] at hg2; exact hg2.elim
      | go f ρ2 M2 =>
        rw [e] at hg2
        exact GoodS.up (r := .go f ρ2 M2) hg2 le1 (List.prefix_refl _)
    · unfold sHds at hg
      rw [if_neg (by rw [hb]; exact Bool.false_ne_true)] at hg
      exact ih sr rx' hg
  | @named t cs ts g b₀ suite pos' hds l r i n hc he hi hln hsu hr ih =>
    intro F θ σ H ρ M c d sr rx hg
    have rx' := rx
    obtain ⟨ey, rfl, rd⟩ := rx
    refine ⟨_, by rw [hK]; exact exmAny_of hx ey cs he, fun hb a oe na hz hf => ?_, fun hb => ?_⟩
    · unfold sHds at hg
      rw [if_pos hb] at hg
      obtain ⟨F1, hr1, le1, rd1⟩ : ∃ F1, HR G F1 θ H M ∧ LE F F1 ∧ ((d = none ∧ y.fs = [] ∧ y.vs = []) ∨ ∃ dd ps, d = some dd ∧ F1 dd = some (.xd ps) ∧ ps.map (·.1) = y.fs.map G.an ∧ RepL G F1 y.vs (ps.map (·.2))) := by
        rcases rd with rd | ⟨dd, ps, q1, q2, q3, q4⟩
        · exact ⟨F, sr.hr, LE.refl F, .inl rd⟩
        · obtain ⟨hr1, le1⟩ := sr.hr.knowX q2
          exact ⟨_, hr1, le1, .inr ⟨dd, ps, q1, upd_same, q3, q4.mono le1⟩⟩
      obtain ⟨hr2, le2⟩ := hr1.alloc na (ExP a oe)
      have le := le1.trans le2
      have rep : RepW G (upd F1 a (ExP a oe)) θ (.d (.exn y.C y.fs y.vs)) (.ref a) := by
        simp only [RepW, Rep]
        refine ⟨ey, a, d, oe, rfl, upd_same, hz, hf, ?_⟩
        rcases rd1 with rd1 | ⟨dd, ps, q1, q2, q3, q4⟩
        · exact .inl rd1
        · exact .inr ⟨dd, ps, q1, le2.xd _ _ q2, q3, q4.mono le2⟩
      have sr2 : SR G (upd F1 a (ExP a oe)) θ (σ.set i (some (.ref a))) (upd H a (ExP a oe)) (ρ.set i (some (.d (.exn y.C y.fs y.vs)))) M := (sr.mono le (List.prefix_refl _) hr2).set rep
      refine (hsu a []).sem _ _ θ _ _ _ M _ sr2 ?_
      have hg2 : GoodS G F θ D Wx (unN (some i) (noXS (g (ρ.set i (some (.d (.exn y.C y.fs y.vs)))) M))) := hg
      cases e : g (ρ.set i (some (.d (.exn y.C y.fs y.vs)))) M with
      | stuck => rw [e] at hg2; exact hg2
      | exc x ρ2 M2 => rw [e] at hg2; exact hg2.elim
      | go f ρ2 M2 =>
        rw [e] at hg2
        intro F3 θ3 σ3 H3 l3 p3 sr3
        have z := hg2 F3 θ3 (σ3.set i none) H3 (le.trans l3) p3 (sr3.unset i)
        cases f with
        | nx => exact z
        | bk => exact z
        | ct => exact z
        | ret w => exact z
    · unfold sHds at hg
      rw [if_neg (by rw [hb]; exact Bool.false_ne_true)] at hg
      exact ih sr rx' hg
theorem pus_try {body : List Stmt} {hd0 : ExceptHandler} {hds : List ExceptHandler} {l : List PW.Hd} {r : List HdP} {tb : L2.WX → TS} {g : Sv} (hx : ExmOk G) (hN : X.N.Nodup) (hb : ∀ (pn : List (Addr × Obj)) (xe : Value → Shared → Prop), PUSs G (X.tr pn xe) body tb g) (hh : HdsU G X (hd0 :: hds) l r)
    (hs : X.stack = X.env :: X.outer := by rfl) (hf : X.env.frame = some X.env.locals := by rfl) (hex : X.ex = [] := by rfl) (hK : X.K = G.K := by rfl) : PUS G X (.Try body (hd0 :: hds) [] [] pos) (fun Wx => fun D σ H => tb (PW.wHds X.K Wx D l) D σ H) (sTry g r) := by
  refine ⟨fun Wx tk => PW.ps_try_gen hs hf hN hex tk (fun W pn xe tkW => (hb pn xe).pe W tkW) hh.pe, ?_⟩
  intro Wx F θ σ H ρ M D sr hg
  refine (hb [] fun _ _ => False).sem _ F θ σ H ρ M D sr ?_
  unfold sTry at hg
  cases e : g ρ M with
  | stuck => rw [e] at hg; exact hg
  | go f ρ2 M2 => rw [e] at hg; exact hg
  | exc y ρ2 M2 =>
    rw [e] at hg
    intro F1 θ1 σ1 H1 c d l1 p1 sr1 rx
    exact hds_sem hx hK hh sr1 rx (GoodS.up (r := sHds r y ρ2 M2) hg l1 p1)
end
/-! ### isinstance of an error, its attribute -/
def rIsT (K : PySem.W.Frag) : List V → Hp → VK → Prop := fun xs H Q => ∃ (a D : Addr) (oe : Obj) (d : Option Addr) (c : V) (cv : Value) (b : Bool), xs = [.ref a, c] ∧ H a = some (ExP a oe) ∧ Zc (.ref D) d oe ∧ (∃ us, oe.data = .fields us) ∧ ExcC K D ∧ (∀ u, RelV c u → u = cv) ∧ PySem.W.kitOne K (.ref D) cv = some b ∧
  (∀ dd, d = some dd → ∃ fs, H dd = some (.xd fs)) ∧ Q (.bl b) H
theorem call_isT {X : Cx} : CallR X (.builtin "isinstance") (rIsT X.K) := by
  intro pins s σ H xs us Q I r h
  obtain ⟨a, D, oe, d, c, cv, b, rfl, ha, hz, hf, C, hcv, e, hd, q⟩ := h
  cases r with
  | cons rx rr =>
    cases rr with
    | cons rt rr =>
      cases rr
      cases rx
      obtain rfl := hcv _ rt
      have hget : s.heap.get? a = some oe := (I.hok a _ ha).1
      obtain ⟨vs, hv⟩ := hf
      have nc : PySem.W.notCls oe = true := by unfold PySem.W.notCls; rw [hv] <;> rfl
      have at_ : ∃ od, PySem.W.InstAt s.heap a oe D od := by
        cases d with
        | none => exact ⟨none, hget, hz.1, nc, by rw [hz.2]; trivial⟩
        | some dd =>
          obtain ⟨fs, hx⟩ := hd dd rfl
          obtain ⟨mA, hns, _⟩ := I.hok dd _ hx
          obtain ⟨od, ho, _⟩ := lookIn_ns hns
          exact ⟨some od, hget, hz.1, nc, by rw [hz.2]; exact ho⟩
      obtain ⟨od, at_⟩ := at_
      exact PySem.W.kia_one (PWX.er_kit C) I.kIn at_ e (fun z => nomatch z) fun tk => ⟨.bl b, H, I.kept (t' := tk) fun _ _ z => z, rfl, q⟩
def isxW (c : String ⊕ Nat) : Op1 := fun M w => match w with
  | .d (.exn C _ _) => .ok (.d (.bl (subE C c))) M
  | _ => .stuck
section
variable {G : Glo} {X : Cx} {e : Expr} {te : L2.WX → TE} {fe : Ev} {p p2 pos : Pos} {x n : Str}
theorem sem_isx {c : String ⊕ Nat} {cu : V} {cv : Value} (hC : ∀ C, G.err C → ExcC G.K (G.cls C)) (hcv : ∀ u, RelV cu u → u = cv) (hk : ∀ C, G.err C → PySem.W.kitOne G.K (.ref (G.cls C)) cv = some (subE C c)) (he : SemE G te fe) : SemE G (fun Wx => tCB (rIsT G.K) (tCons (te Wx) (tCons (tC cu) tNil))) (e1 (isxW c) fe) := by
  intro Wx F θ σ H ρ M Q sr hg
  refine he Wx F θ σ H ρ M _ sr (Good.seq hg fun w M1 F1 θ1 H1 _ l1 p1 hr1 hg1 v rv => ?_)
  unfold isxW at hg1
  split at hg1
  · rename_i C fs vs heq
    simp only [RepW, Rep] at rv
    obtain ⟨hc, a, d, oe, rfl, h1, h2, h3, h4⟩ := rv
    refine ⟨a, G.cls C, oe, d, cu, cv, _, rfl, hr1.sub _ _ h1, h2, h3, hC C hc, hcv, hk C hc, fun dd e => ?_, hg1 F1 θ1 H1 (LE.refl F1) (List.prefix_refl _) hr1 _ (by simp only [RepW, Rep])⟩
    rcases h4 with ⟨z, _⟩ | ⟨dd', ps, q1, q2, _⟩
    · rw [z] at e; cases e
    · rw [q1] at e; cases e; exact ⟨ps, hr1.sub _ _ q2⟩
  · exact hg1.elim
/-- isinstance(e, C), C a class of errors of the text's own -/
theorem pu_isx {D : Nat} (hC : ∀ C, G.err C → ExcC G.K (G.cls C)) (hk : ∀ C, G.err C → PySem.W.kitOne G.K (.ref (G.cls C)) (.ref (G.cls D)) = some (subE C (.inr D))) (hm0 : X.mg "isinstance" = none) (hm : X.mg x = some (.ref (G.cls D))) (he : PU G X e te fe) (hK : X.K = G.K := by rfl)
    (hg0 : L2.Gl X "isinstance" := by rfl) (hg : L2.Gl X x := by rfl) (hd : (x == ("__debug__" : Str)) = false := by decide +kernel) (hs : starEach (e :: [.Name x p2]) X.env = (false, eval e X.env) :: starEach [.Name x p2] X.env := by rfl) (hs2 : starEach (.Name x p2 :: []) X.env = (false, eval (.Name x p2) X.env) :: starEach [] X.env := by rfl) (hpl : (backTo pos (starEach [.Name x p2] X.env)).any (·.1) = false := by rfl) :
    PU G X (.Call (.Name "isinstance" p) [e, .Name x p2] [] pos) (fun Wx => tCB (rIsT G.K) (tCons (te Wx) (tCons (tC (.ref (G.cls D))) tNil))) (e1 (isxW (.inr D)) fe) :=
  ⟨fun Wx tk => pe_callB (hK ▸ call_isT) hg0 hm0 (by decide +kernel) (pa_cons (he.pe Wx tk) (pa_cons (pe_glob hg hm rfl hd) pa_nil hs2) hs) (by decide +kernel) (by decide +kernel) hs hpl, sem_isx hC (fun u h => h) hk he.sem⟩
/-- .. C a built-in one -/
theorem pu_isxT {b : String} (hC : ∀ C, G.err C → ExcC G.K (G.cls C)) (hk : ∀ C, G.err C → PySem.W.kitOne G.K (.ref (G.cls C)) (.type b) = some (subE C (.inl b))) (hm0 : X.mg "isinstance" = none) (hm : X.mg x = none) (hb : bootBuiltins x = some (.type b)) (he : PU G X e te fe) (hK : X.K = G.K := by rfl)
    (hg0 : L2.Gl X "isinstance" := by rfl) (hg : L2.Gl X x := by rfl) (hn : x ≠ "__name__" := by decide +kernel) (hd : (x == ("__debug__" : Str)) = false := by decide +kernel) (hs : starEach (e :: [.Name x p2]) X.env = (false, eval e X.env) :: starEach [.Name x p2] X.env := by rfl) (hs2 : starEach (.Name x p2 :: []) X.env = (false, eval (.Name x p2) X.env) :: starEach [] X.env := by rfl) (hpl : (backTo pos (starEach [.Name x p2] X.env)).any (·.1) = false := by rfl) :
    PU G X (.Call (.Name "isinstance" p) [e, .Name x p2] [] pos) (fun Wx => tCB (rIsT G.K) (tCons (te Wx) (tCons (tC (.ty b)) tNil))) (e1 (isxW (.inl b)) fe) :=
  ⟨fun Wx tk => pe_callB (hK ▸ call_isT) hg0 hm0 (by decide +kernel) (pa_cons (he.pe Wx tk) (pa_cons (pe_bltn hg hm hb rfl hn hd) pa_nil hs2) hs) (by decide +kernel) (by decide +kernel) hs hpl, sem_isx hC (fun u h => h) hk he.sem⟩
/-- e.n of an error -/
def tXat (K : PySem.W.Frag) (n : Str) (te : TE) : TE := fun σ H Q => te σ H fun x H1 => ∃ (a D : Addr) (oe : Obj) (dd : Addr) (fs : List (Str × V)) (v : V), x = .ref a ∧ H1 a = some (ExP a oe) ∧ Zc (.ref D) (some dd) oe ∧ (∃ us, oe.data = .fields us) ∧ ExcC K D ∧ PySem.W.findIn K (.ref D) n = some none ∧ H1 dd = some (.xd fs) ∧ fs.lookup n = some v ∧ Q v H1
theorem pe_xat {te : TE} (he : PE X e te) (hb : attributeBase e n X.env (eval e X.env) = eval e X.env := by rfl) : PE X (.Attribute e n pos) (tXat X.K n te) := by
  refine ⟨fun pins s σ H Q I h => ?_⟩
  refine attr_of hb (thn (he.run pins s σ H _ I h) fun u s1 hh => ?_)
  obtain ⟨x, H1, I1, rx, a, D, oe, dd, fs, v, rfl, ha, hz, hf, C, hno, hx, l, q⟩ := hh
  obtain rfl : u = Value.ref a := rx
  have hget : s1.heap.get? a = some oe := (I1.hok a _ ha).1
  obtain ⟨us, hv⟩ := hf
  have hd : ObjOk X.prog X.w H1 s1.heap dd (.xd fs) := I1.hok dd _ hx
  obtain ⟨mA, hns, hr⟩ := hd
  obtain ⟨od, ho, hl⟩ := lookIn_ns hns
  obtain ⟨u, hu, ru⟩ := RelO.some_of (v := v) (o := mA n) (by rw [← l]; exact hr n)
  have J : PySem.W.InstAt s1.heap a oe D (some od) := ⟨hget, hz.1, by unfold PySem.W.notCls; rw [hv] <;> rfl, by rw [hz.2]; exact ho⟩
  exact HandSPX.exc_get I1.kIn J C.hg C.hk C.hs (PySem.W.findObj_own C.hd hno rfl (by rw [hl, hu])) (handed_of ru) ⟨v, H1, I1.tok _, ru, q⟩
def xattW (f : Nat) : Op1 := fun M w => match w with
  | .d (.exn _ [g] [v]) => if g = f then .ok (.d v) M else .stuck
  | _ => .stuck
theorem pu_xat (f : Nat) (hC : ∀ C, G.err C → ExcC G.K (G.cls C) ∧ PySem.W.findIn G.K (.ref (G.cls C)) (G.an f) = some none) (he : PU G X e te fe) (hm : n = G.an f := by rfl) (hK : X.K = G.K := by rfl) (hb : attributeBase e n X.env (eval e X.env) = eval e X.env := by rfl) : PU G X (.Attribute e n pos) (fun Wx => tXat G.K n (te Wx)) (e1 (xattW f) fe) := by
  refine ⟨fun Wx tk => hK ▸ pe_xat (he.pe Wx tk) hb, ?_⟩
  intro Wx F θ σ H ρ M Q sr hg
  refine he.sem Wx F θ σ H ρ M _ sr (Good.seq hg fun w M1 F1 θ1 H1 _ l1 p1 hr1 hg1 v rv => ?_)
  unfold xattW at hg1
  split at hg1
  · rename_i C g' v' heq
    split at hg1
    · rename_i hgf
      subst hgf
      simp only [RepW, Rep] at rv
      obtain ⟨hc, a, d, oe, rfl, h1, h2, h3, h4⟩ := rv
      rcases h4 with ⟨_, z, _⟩ | ⟨dd, ps, rfl, q2, q3, q4⟩
      · cases z
      · simp only [RepL] at q4
        obtain ⟨u, us, e1, r1, e2⟩ := q4
        subst e2
        obtain ⟨hx1, hx2⟩ := hC C hc
        cases ps with
        | nil => simp at e1
        | cons pr ps' =>
          obtain ⟨k, u'⟩ := pr
          simp only [List.map_cons, List.map_nil, List.cons.injEq, List.map_eq_nil_iff] at e1 q3
          obtain ⟨rfl, rfl⟩ := e1
          obtain ⟨rfl, _⟩ := q3
          refine ⟨a, G.cls C, oe, dd, _, u', rfl, hr1.sub _ _ h1, h2, h3, hx1, by rw [hm]; exact hx2, hr1.sub _ _ q2, by rw [hm]; simp, hg1 F1 θ1 H1 (LE.refl F1) (List.prefix_refl _) hr1 _ r1⟩
    · exact hg1.elim
  · exact hg1.elim
end
end PU
set_option Elab.async false
set_option linter.all false
namespace Pr
open PySem PySem.Spec PyProof.Rows L2 PU
def S_is_between : Sv :=
  (sSeq (sIf (tOr' (tNot' (tB' (eA (isiW isT0) (aCons (eVar 0) (aCons (eC (.ty "int")) aNil))))) (tOr' (tB' (eA (isiW isT0) (aCons (eVar 0) (aCons (eC (.ty "bool")) aNil)))) (tB' (e2 ltW (eVar 0) (eVar 1))))) (sRet (eC (.bl false))) sNext)
  (sRet (eOr (e1 isNW (eVar 2)) (e2 leW (eVar 0) (eVar 2)))))
def F_is_between : Fn := fnF 3 S_is_between
def S_is_one_of : Sv :=
  (sRet (eAnd (eA (isiW isT0) (aCons (eVar 0) (aCons (eC (.ty "str")) aNil))) (e2 (inFW false) (eVar 0) (eVar 1))))
def F_is_one_of : Fn := fnF 2 S_is_one_of
def B_common_1 : Sv :=
  (sPar 0 1 (aCons (eVar 1) (aCons (e2 modW (eA intW (aCons (eVar 0) aNil)) (eVar 1)) aNil)))
def S_common : Sv :=
  (sSeq (sWhile (tB' (e2 gtW (eVar 1) (eC (.int 0)))) Pr.B_common_1)
  (sRet (eVar 0)))
def F_common : Fn := fnF 2 S_common
def S_reduced : Sv :=
  (sSeq (sSet 2 (e2 modW (eA intW (aCons (eVar 0) aNil)) (eVar 1)))
  (sSeq (sSet 3 (eCall (eN 2 Pr.F_common) [] (aCons (eVar 1) (aCons (eVar 2) aNil))))
  (sRet (eA tupW (aCons (e2 fdivW (eVar 2) (eVar 3)) (aCons (e2 fdivW (eVar 1) (eVar 3)) aNil))))))
def F_reduced : Fn := fnF 4 S_reduced
def S_summed : Sv :=
  (sRet (eCall (eN 2 Pr.F_reduced) [] (aCons (e2 addW (e2 mulW (e2 ixW (eVar 0) (eC (.int 0))) (e2 ixW (eVar 1) (eC (.int 1)))) (e2 mulW (e2 ixW (eVar 1) (eC (.int 0))) (e2 ixW (eVar 0) (eC (.int 1))))) (aCons (e2 mulW (e2 ixW (eVar 0) (eC (.int 1))) (e2 ixW (eVar 1) (eC (.int 1)))) aNil))))
def F_summed : Fn := fnF 2 S_summed
def S_scaled : Sv :=
  (sRet (eCall (eN 2 Pr.F_reduced) [] (aCons (e2 mulW (eVar 0) (e2 ixW (eVar 1) (eC (.int 0)))) (aCons (e2 ixW (eVar 1) (eC (.int 1))) aNil))))
def F_scaled : Fn := fnF 2 S_scaled
def S_terms_of : Sv :=
  (sSeq (sAsg (eVar 0) (gvTup 5 (gvCons (gvName 1) (gvCons (gvName 2) (gvCons (gvName 3) (gvCons (gvName 4) (gvCons (gvName 5) gvNil)))))))
  (sSeq (sSet 6 (eCall (eN 2 Pr.F_common) [] (aCons (eVar 2) (aCons (eVar 3) aNil))))
  (sSeq (sSet 7 (eCall (eN 2 Pr.F_reduced) [] (aCons (eVar 5) (aCons (eVar 2) aNil))))
  (sSeq (sSet 8 (eCall (eN 2 Pr.F_summed) [] (aCons (eVar 7) (aCons (eA tupW (aCons (eC (.int 1)) (aCons (eC (.int 2)) aNil))) aNil))))
  (sSeq (sIf (tB' (e2 eqW (eVar 1) (eC (.str "in")))) (sSet 9 (eA tupW (aCons (eA tupW (aCons (e2 subW (eVar 2) (eVar 3)) (aCons (e2 fdivW (eVar 3) (eVar 6)) (aCons (eVar 7) aNil)))) (aCons (eA tupW (aCons (eVar 4) (aCons (e2 fdivW (e2 subW (eVar 3) (eVar 2)) (eVar 6)) (aCons (eVar 7) aNil)))) aNil)))) (sIf (tB' (e2 eqW (eVar 1) (eC (.str "out")))) (sSet 9 (eA tupW (aCons (eA tupW (aCons (e2 addW (eVar 2) (eVar 3)) (aCons (e2 fdivW (eVar 3) (eVar 6)) (aCons (eVar 7) aNil)))) (aCons (eA tupW (aCons (eVar 4) (aCons (e2 fdivW (e2 addW (eVar 2) (eVar 3)) (eVar 6)) (aCons (eVar 8) aNil)))) aNil)))) (sSet 9 (eA tupW (aCons (eA tupW (aCons (e2 subW (eVar 3) (eVar 2)) (aCons (e2 fdivW (eVar 3) (eVar 6)) (aCons (eVar 8) aNil)))) (aCons (eA tupW (aCons (eVar 4) (aCons (e2 fdivW (e2 subW (eVar 3) (eVar 2)) (eVar 6)) (aCons (eVar 7) aNil)))) aNil))))))
  (sRet (eIf (tB' (e2 gtW (eVar 4) (eC (.int 0)))) (eVar 9) (eA tupW (aCons (eA tupW (aCons (e2 ixW (e2 ixW (eVar 9) (eC (.int 0))) (eC (.int 0))) (aCons (eC (.int 1)) (aCons (e2 ixW (e2 ixW (eVar 9) (eC (.int 0))) (eC (.int 2))) aNil)))) aNil)))))))))
def F_terms_of : Fn := fnF 10 S_terms_of
def S_signed : Sv :=
  (sSeq (sAsg (eIf (tB' (e2 geW (e2 ixW (e2 ixW (eVar 0) (eC (.int 0))) (eC (.int 0))) (e2 ixW (e2 ixW (eVar 0) (eC (.int 1))) (eC (.int 0))))) (eVar 0) (eA tupW (aCons (e2 ixW (eVar 0) (eC (.int 1))) (aCons (e2 ixW (eVar 0) (eC (.int 0))) aNil)))) (gvTup 2 (gvCons (gvName 1) (gvCons (gvName 2) gvNil))))
  (sRet (eA tupW (aCons (eA tupW (aCons (e2 ixW (eVar 1) (eC (.int 0))) (aCons (eC (.int 1)) (aCons (e2 ixW (eVar 1) (eC (.int 2))) aNil)))) (aCons (eA tupW (aCons (e2 ixW (eVar 2) (eC (.int 0))) (aCons (e1 negW (eC (.int 1))) (aCons (e2 ixW (eVar 2) (eC (.int 2))) aNil)))) aNil)))))
def F_signed : Fn := fnF 3 S_signed
def S_plain_of : Sv :=
  (sSeq (sSet 1 (eCall (eN 1 Pr.F_terms_of) [] (aCons (eVar 0) aNil)))
  (sSeq (sIf (tB' (e2 eqW (eA lenW (aCons (eVar 1) aNil)) (eC (.int 1)))) (sRet (eA tupW (aCons (eC (.str "circle")) (aCons (e2 ixW (e2 ixW (eVar 1) (eC (.int 0))) (eC (.int 0))) aNil)))) sNext)
  (sSeq (sSet 2 (e2 addW (e2 ixW (e2 ixW (eVar 1) (eC (.int 0))) (eC (.int 1))) (e2 ixW (e2 ixW (eVar 1) (eC (.int 1))) (eC (.int 1)))))
  (sSeq (sIf (tB' (e2 ltW (eVar 2) (eC (.int 0)))) (sSet 1 (eA tupleW (aCons (eComp [3, 4, 5] (iTupV (eVar 1)) (gvTup 3 (gvCons (gvName 3) (gvCons (gvName 4) (gvCons (gvName 5) gvNil)))) tvYes (eA tupW (aCons (eVar 3) (aCons (e1 negW (eVar 4)) (aCons (eVar 5) aNil))))) aNil))) sNext)
  (sSeq (sIf (tB' (e2 eqW (eVar 2) (eC (.int 0)))) (sSet 1 (eCall (eN 1 Pr.F_signed) [] (aCons (eVar 1) aNil))) sNext)
  (sSeq (sAsg (eIf (tB' (e2 gtW (e2 ixW (e2 ixW (eVar 1) (eC (.int 0))) (eC (.int 1))) (e2 ixW (e2 ixW (eVar 1) (eC (.int 1))) (eC (.int 1))))) (eVar 1) (eA tupW (aCons (e2 ixW (eVar 1) (eC (.int 1))) (aCons (e2 ixW (eVar 1) (eC (.int 0))) aNil)))) (gvTup 2 (gvCons (gvName 6) (gvCons (gvName 7) gvNil))))
  (sSeq (sSet 8 (eCall (eN 2 Pr.F_summed) [] (aCons (eCall (eN 2 Pr.F_scaled) [] (aCons (e2 ixW (eVar 6) (eC (.int 1))) (aCons (e2 ixW (eVar 7) (eC (.int 2))) aNil))) (aCons (eCall (eN 2 Pr.F_scaled) [] (aCons (e1 negW (e2 ixW (eVar 7) (eC (.int 1)))) (aCons (e2 ixW (eVar 6) (eC (.int 2))) aNil))) aNil))))
  (sRet (eA tupW (aCons (e2 ixW (eVar 6) (eC (.int 0))) (aCons (e2 ixW (eVar 6) (eC (.int 1))) (aCons (e2 ixW (eVar 7) (eC (.int 0))) (aCons (e2 ixW (eVar 7) (eC (.int 1))) (aCons (eVar 8) aNil))))))))))))))
def F_plain_of : Fn := fnF 9 S_plain_of
def S_shared_of : Sv :=
  (sRet (eCall (eN 2 Pr.F_common) [] (aCons (e2 ixW (eVar 0) (eC (.int 1))) (aCons (e2 ixW (eVar 0) (eC (.int 2))) aNil))))
def F_shared_of : Fn := fnF 1 S_shared_of
def S_is_stroke : Sv :=
  (sRet (eAnd (e2 eqW (eVar 0) (eC (.str "in"))) (eAnd (e2 eqW (eVar 1) (e2 mulW (eC (.int 2)) (eVar 2))) (e2 eqW (eVar 3) (eVar 2)))))
def F_is_stroke : Fn := fnF 4 S_is_stroke
def S_wheel_fits : Sv :=
  (sRet (eOr (e2 eqW (eVar 0) (eC (.str "out"))) (eOr (eAnd (e2 eqW (eVar 0) (eC (.str "in"))) (e2 ltW (eVar 2) (eVar 1))) (eAnd (e2 eqW (eVar 0) (eC (.str "over"))) (e2 gtW (eVar 2) (eVar 1))))))
def F_wheel_fits : Fn := fnF 3 S_wheel_fits
def S_look_of : Sv :=
  (sSeq (sIf (tB' (e2 eqW (e2 ixW (eVar 0) (eC (.int 3))) (eC (.int 0)))) (sRet (eC (.str "circle"))) sNext)
  (sSeq (sIf (tB' (e2 eqW (e2 ixW (eVar 0) (eC (.int 3))) (e2 ixW (eVar 0) (eC (.int 2))))) (sRet (eC (.str "pointed"))) sNext)
  (sRet (eIf (tB' (e2 ltW (e2 ixW (eVar 0) (eC (.int 3))) (e2 ixW (eVar 0) (eC (.int 2))))) (eC (.str "round")) (eC (.str "looped"))))))
def F_look_of : Fn := fnF 1 S_look_of
def S_middle_of : Sv :=
  (sRet (e2 ixW (e2 ixW (eCall (eN 1 Pr.F_terms_of) [] (aCons (eVar 0) aNil)) (eC (.int 0))) (eC (.int 0))))
def F_middle_of : Fn := fnF 1 S_middle_of
def S_features_of : Sv :=
  (sSeq (sSet 1 (eCall (eN 1 Pr.F_shared_of) [] (aCons (eVar 0) aNil)))
  (sSeq (sSet 2 (eCall (eN 1 Pr.F_middle_of) [] (aCons (eVar 0) aNil)))
  (sRet (eDisp [((eC (.str "side")), (e2 ixW (eVar 0) (eC (.int 0)))), ((eC (.str "look")), (eCall (eN 1 Pr.F_look_of) [] (aCons (eVar 0) aNil))), ((eC (.str "loops")), (e2 fdivW (e2 ixW (eVar 0) (eC (.int 1))) (eVar 1))), ((eC (.str "unlike")), (eIf (tB' (e2 gtW (e2 ixW (eVar 0) (eC (.int 3))) (eC (.int 0)))) (eVar 1) (eC (.int 1)))), ((eC (.str "rounds")), (e2 fdivW (e2 ixW (eVar 0) (eC (.int 2))) (eVar 1))), ((eC (.str "widest")), (e2 addW (eVar 2) (e2 ixW (eVar 0) (eC (.int 3))))), ((eC (.str "narrowest")), (eA absW (aCons (e2 subW (eVar 2) (e2 ixW (eVar 0) (eC (.int 3)))) aNil)))]))))
def F_features_of : Fn := fnF 3 S_features_of
def S_Line_init : Sv :=
  (sSeq (sIf (tNot' (tB' (eCall (eN 2 Pr.F_is_one_of) [] (aCons (eVar 1) (aCons (eC (.ktup [.str "in", .str "out", .str "over"])) aNil))))) (sRaise 16 55 (eVar 1)) sNext)
  (sSeq (sIf (tNot' (tB' (eCall (eN 3 Pr.F_is_between) [] (aCons (eVar 2) (aCons (eC (.int 1)) (aCons (eC (.int 1000000000000000000000000000000)) aNil)))))) (sRaise 17 55 (eVar 2)) sNext)
  (sSeq (sIf (tOr' (tNot' (tB' (eCall (eN 3 Pr.F_is_between) [] (aCons (eVar 3) (aCons (eC (.int 1)) (aCons (eC (.int 1000000000000000000000000000000)) aNil)))))) (tNot' (tB' (eCall (eN 3 Pr.F_wheel_fits) [] (aCons (eVar 1) (aCons (eVar 2) (aCons (eVar 3) aNil))))))) (sRaise 18 55 (eVar 3)) sNext)
  (sSeq (sIf (tOr' (tNot' (tB' (eCall (eN 3 Pr.F_is_between) [] (aCons (eVar 4) (aCons (eC (.int 0)) (aCons (eC (.int 1000000000000000000000000000000)) aNil)))))) (tB' (eCall (eN 4 Pr.F_is_stroke) [] (aCons (eVar 1) (aCons (eVar 2) (aCons (eVar 3) (aCons (eVar 4) aNil))))))) (sRaise 19 55 (eVar 4)) sNext)
  (sSeq (sIf (tNot' (tB' (eCall (eN 3 Pr.F_is_between) [] (aCons (eVar 5) (aCons (eC (.int 0)) (aCons (eC (.int 1000000000000000000000000000000)) aNil)))))) (sRaise 20 55 (eVar 5)) sNext)
  (sSeq (sFldS 0 (okF FTg 0) (eVar 0) (eVar 1))
  (sSeq (sFldS 1 (okF FTg 1) (eVar 0) (eVar 2))
  (sSeq (sFldS 2 (okF FTg 2) (eVar 0) (eVar 3))
  (sSeq (sFldS 3 (okF FTg 3) (eVar 0) (eVar 4))
  (sFldS 4 (okF FTg 4) (eVar 0) (eVar 5)))))))))))
def F_Line_init : Fn := fnF 6 S_Line_init
def S_Line_setting : Sv :=
  (sRet (eA tupW (aCons (e1 (fldW 0 (okF FTg 0)) (eVar 0)) (aCons (e1 (fldW 1 (okF FTg 1)) (eVar 0)) (aCons (e1 (fldW 2 (okF FTg 2)) (eVar 0)) (aCons (e1 (fldW 3 (okF FTg 3)) (eVar 0)) (aCons (e1 (fldW 4 (okF FTg 4)) (eVar 0)) aNil)))))))
def F_Line_setting : Fn := fnF 1 S_Line_setting
def S_Line_plain : Sv :=
  (sRet (eCall (eN 1 Pr.F_plain_of) [] (aCons (eProp 0 Pr.F_Line_setting (eVar 0)) aNil)))
def F_Line_plain : Fn := fnF 1 S_Line_plain
def S_Line_unlike : Sv :=
  (sRet (e2 dgetW (eCall (eN 1 Pr.F_features_of) [] (aCons (eProp 0 Pr.F_Line_setting (eVar 0)) aNil)) (eC (.str "unlike"))))
def F_Line_unlike : Fn := fnF 1 S_Line_unlike
def S_Line_loops : Sv :=
  (sRet (e2 dgetW (eCall (eN 1 Pr.F_features_of) [] (aCons (eProp 0 Pr.F_Line_setting (eVar 0)) aNil)) (eC (.str "loops"))))
def F_Line_loops : Fn := fnF 1 S_Line_loops
def S_Line_rounds : Sv :=
  (sRet (e2 dgetW (eCall (eN 1 Pr.F_features_of) [] (aCons (eProp 0 Pr.F_Line_setting (eVar 0)) aNil)) (eC (.str "rounds"))))
def F_Line_rounds : Fn := fnF 1 S_Line_rounds
def S_Line_widest : Sv :=
  (sRet (e2 dgetW (eCall (eN 1 Pr.F_features_of) [] (aCons (eProp 0 Pr.F_Line_setting (eVar 0)) aNil)) (eC (.str "widest"))))
def F_Line_widest : Fn := fnF 1 S_Line_widest
def S_Line_narrowest : Sv :=
  (sRet (e2 dgetW (eCall (eN 1 Pr.F_features_of) [] (aCons (eProp 0 Pr.F_Line_setting (eVar 0)) aNil)) (eC (.str "narrowest"))))
def F_Line_narrowest : Fn := fnF 1 S_Line_narrowest
def S_Line_look : Sv :=
  (sRet (e2 dgetW (eCall (eN 1 Pr.F_features_of) [] (aCons (eProp 0 Pr.F_Line_setting (eVar 0)) aNil)) (eC (.str "look"))))
def F_Line_look : Fn := fnF 1 S_Line_look
def S_Line_eq : Sv :=
  (sRet (eAnd (eA (isiW isT0) (aCons (eVar 1) (aCons (eC (.cls 0)) aNil))) (e2 eqW (eProp 0 Pr.F_Line_setting (eVar 0)) (eProp 0 Pr.F_Line_setting (eVar 1)))))
def F_Line_eq : Fn := fnF 2 S_Line_eq
def S_twin_of : Sv :=
  (sSeq (sAsg (eVar 0) (gvTup 5 (gvCons (gvName 1) (gvCons (gvName 2) (gvCons (gvName 3) (gvCons (gvName 4) (gvCons (gvName 5) gvNil)))))))
  (sSeq (sSet 6 (eCall (eN 1 Pr.F_terms_of) [] (aCons (eVar 0) aNil)))
  (sSeq (sIf (tB' (e2 eqW (eA lenW (aCons (eVar 6) aNil)) (eC (.int 1)))) (sRet (eC .non)) sNext)
  (sSeq (sSet 7 (eA absW (aCons (e2 ixW (e2 ixW (eVar 6) (eC (.int 0))) (eC (.int 1))) aNil)))
  (sSeq (sSet 8 (eA absW (aCons (e2 ixW (e2 ixW (eVar 6) (eC (.int 1))) (eC (.int 1))) aNil)))
  (sSeq (sIf (tB' (e2 neW (e2 modW (eA intW (aCons (eVar 4) aNil)) (eVar 7)) (eC (.int 0)))) (sRet (eC .non)) sNext)
  (sSeq (sSet 9 (e2 fdivW (eVar 4) (eVar 7)))
  (sSeq (sSet 10 (eCall (eN 1 Pr.F_shared_of) [] (aCons (eVar 0) aNil)))
  (sSeq (sIf (tB' (e2 neW (e2 modW (e2 mulW (eVar 5) (eVar 9)) (eVar 10)) (eC (.int 0)))) (sRet (eC .non)) sNext)
  (sSeq (sSet 11 (e2 modW (eA intW (aCons (e2 fdivW (e2 mulW (eVar 5) (eVar 9)) (eVar 10)) aNil)) (eVar 9)))
  (sSeq (sIf (tB' (e2 eqW (eVar 1) (eC (.str "in")))) (sRet (eA tupW (aCons (eC (.str "in")) (aCons (e2 mulW (eVar 9) (e2 addW (eVar 7) (eVar 8))) (aCons (e2 mulW (eVar 9) (eVar 8)) (aCons (e2 ixW (e2 ixW (eVar 6) (eC (.int 0))) (eC (.int 0))) (aCons (eVar 11) aNil))))))) sNext)
  (sSeq (sIf (tB' (e2 eqW (eVar 1) (eC (.str "out")))) (sRet (eA tupW (aCons (eC (.str "over")) (aCons (e2 mulW (eVar 9) (e2 subW (eVar 8) (eVar 7))) (aCons (e2 mulW (eVar 9) (eVar 8)) (aCons (e2 ixW (e2 ixW (eVar 6) (eC (.int 0))) (eC (.int 0))) (aCons (eVar 11) aNil))))))) sNext)
  (sRet (eA tupW (aCons (eC (.str "out")) (aCons (e2 mulW (eVar 9) (e2 subW (eVar 7) (eVar 8))) (aCons (e2 mulW (eVar 9) (eVar 8)) (aCons (e2 ixW (e2 ixW (eVar 6) (eC (.int 0))) (eC (.int 0))) (aCons (eVar 11) aNil)))))))))))))))))))
def F_twin_of : Fn := fnF 12 S_twin_of
def S_Line_slipped : Sv :=
  (sSeq (sIf (tNot' (tB' (eCall (eN 3 Pr.F_is_between) [] (aCons (eVar 1) (aCons (eC (.int 0)) (aCons (eC (.int 1000000000000000000000000000000)) aNil)))))) (sRaise 21 55 (eVar 1)) sNext)
  (sRet (eMake mkEnd 0 (eN 6 Pr.F_Line_init) [] (aCons (e1 (fldW 0 (okF FTg 0)) (eVar 0)) (aCons (e1 (fldW 1 (okF FTg 1)) (eVar 0)) (aCons (e1 (fldW 2 (okF FTg 2)) (eVar 0)) (aCons (e1 (fldW 3 (okF FTg 3)) (eVar 0)) (aCons (e2 addW (e1 (fldW 4 (okF FTg 4)) (eVar 0)) (eVar 1)) aNil))))))))
def F_Line_slipped : Fn := fnF 2 S_Line_slipped
def S_check_line : Sv :=
  (sIf (tNot' (tB' (eA (isiW isT0) (aCons (eVar 0) (aCons (eC (.cls 0)) aNil))))) (sRaise 28 55 (eVar 0)) sNext)
def F_check_line : Fn := fnF 1 S_check_line
def S_same : Sv :=
  (sSeq (sExpr (eCall (eN 1 Pr.F_check_line) [] (aCons (eVar 0) aNil)))
  (sSeq (sExpr (eCall (eN 1 Pr.F_check_line) [] (aCons (eVar 1) aNil)))
  (sRet (e2 eqW (eProp 0 Pr.F_Line_plain (eVar 0)) (eProp 0 Pr.F_Line_plain (eVar 1))))))
def F_same : Fn := fnF 2 S_same
def S_twin : Sv :=
  (sSeq (sExpr (eCall (eN 1 Pr.F_check_line) [] (aCons (eVar 0) aNil)))
  (sSeq (sSet 1 (eCall (eN 1 Pr.F_twin_of) [] (aCons (eProp 0 Pr.F_Line_setting (eVar 0)) aNil)))
  (sSeq (sIf (tOr' (tB' (e1 isNW (eVar 1))) (tB' (e2 gtW (eA max3W (aCons (e2 ixW (eVar 1) (eC (.int 1))) (aCons (e2 ixW (eVar 1) (eC (.int 2))) (aCons (e2 ixW (eVar 1) (eC (.int 3))) aNil)))) (eC (.int 1000000000000000000000000000000))))) (sRet (eC .non)) sNext)
  (sRet (eMake mkEnd 0 (eN 6 Pr.F_Line_init) [] (aCons (e2 ixW (eVar 1) (eC (.int 0))) (aCons (e2 ixW (eVar 1) (eC (.int 1))) (aCons (e2 ixW (eVar 1) (eC (.int 2))) (aCons (e2 ixW (eVar 1) (eC (.int 3))) (aCons (e2 ixW (eVar 1) (eC (.int 4))) aNil))))))))))
def F_twin : Fn := fnF 2 S_twin
def S_Form_init : Sv :=
  (sSeq (sFldS 5 (okF FTg 5) (eVar 0) (eVar 1))
  (sFldS 6 (okF FTg 6) (eVar 0) (eVar 2)))
def F_Form_init : Fn := fnF 3 S_Form_init
def S_Form_at : Sv :=
  (sRet (e2 addW (e2 mulW (e1 (fldW 5 (okF FTg 5)) (eVar 0)) (eVar 1)) (e1 (fldW 6 (okF FTg 6)) (eVar 0))))
def F_Form_at : Fn := fnF 2 S_Form_at
def S_Row_init : Sv :=
  (sSeq (sFldS 0 (okF FTg 0) (eVar 0) (eVar 1))
  (sSeq (sFldS 1 (okF FTg 1) (eVar 0) (eVar 2))
  (sSeq (sFldS 2 (okF FTg 2) (eVar 0) (eVar 3))
  (sSeq (sFldS 3 (okF FTg 3) (eVar 0) (eVar 4))
  (sSeq (sFldS 4 (okF FTg 4) (eVar 0) (eVar 5))
  (sSeq (sFldS 7 (okF FTg 7) (eVar 0) (eVar 6))
  (sFldS 8 (okF FTg 8) (eVar 0) (eVar 7))))))))
def F_Row_init : Fn := fnF 8 S_Row_init
def S_Row_setting_at : Sv :=
  (sSeq (sSet 2 (eComp [3] (iTupV (eA tupW (aCons (e1 (fldW 1 (okF FTg 1)) (eVar 0)) (aCons (e1 (fldW 2 (okF FTg 2)) (eVar 0)) (aCons (e1 (fldW 3 (okF FTg 3)) (eVar 0)) (aCons (e1 (fldW 4 (okF FTg 4)) (eVar 0)) aNil)))))) (gvName 3) tvYes (eMeth 1 28 (eN 2 Pr.F_Form_at) [] (eVar 3) (aCons (eVar 1) aNil))))
  (sRet (eA tupW (aCons (e1 (fldW 0 (okF FTg 0)) (eVar 0)) (aCons (e2 ixW (eVar 2) (eC (.int 0))) (aCons (e2 ixW (eVar 2) (eC (.int 1))) (aCons (e2 ixW (eVar 2) (eC (.int 2))) (aCons (e2 ixW (eVar 2) (eC (.int 3))) aNil))))))))
def F_Row_setting_at : Fn := fnF 4 S_Row_setting_at
def B_number_of_1 : Sv :=
  (sIf (tB' (e2 eqW (e1 fmtW (eVar 3)) (eVar 0))) (sRet (eVar 3)) sNext)
def S_number_of : Sv :=
  (sSeq (sFor (iRange2 (aCons (eVar 1) (aCons (e2 addW (eVar 2) (eC (.int 1))) aNil))) (gvName 3) Pr.B_number_of_1)
  (sRet (eC .non)))
def F_number_of : Fn := fnF 4 S_number_of
def B_form_of_1 : Sv :=
  (sSeq (sSet 3 (eIf (tB' (e2 eqW (eVar 2) (eC (.int 1)))) (eC (.str "n")) (eJs [(e1 fmtW (eVar 2)), (eC (.str "n"))] Str.empty)))
  (sSeq (sIf (tB' (e2 eqW (eVar 0) (eVar 3))) (sRet (eMake mkEnd 1 (eN 3 Pr.F_Form_init) [] (aCons (eVar 2) (aCons (eC (.int 0)) aNil)))) sNext)
  (sIf (tB' (eM1 startsW (eVar 0) (eJs [(e1 fmtW (eVar 3)), (eC (.str "+"))] Str.empty))) (sSeq (sSet 4 (eCall (eN 3 Pr.F_number_of) [] (aCons (eSl slW (eVar 0) (oSome (e2 addW (eA lenW (aCons (eVar 3) aNil)) (eC (.int 1)))) oNone) (aCons (eC (.int 1)) (aCons (eC (.int 12)) aNil)))))
  (sRet (eIf (tB' (e1 isNW (eVar 4))) (eC .non) (eMake mkEnd 1 (eN 3 Pr.F_Form_init) [] (aCons (eVar 2) (aCons (eVar 4) aNil)))))) sNext)))
def S_form_of : Sv :=
  (sSeq (sSet 1 (eCall (eN 3 Pr.F_number_of) [] (aCons (eVar 0) (aCons (eC (.int 0)) (aCons (eC (.int 12)) aNil)))))
  (sSeq (sIf (tB' (e1 notNW (eVar 1))) (sRet (eMake mkEnd 1 (eN 3 Pr.F_Form_init) [] (aCons (eC (.int 0)) (aCons (eVar 1) aNil)))) sNext)
  (sSeq (sFor (iRange2 (aCons (eC (.int 1)) (aCons (e2 addW (eC (.int 3)) (eC (.int 1))) aNil))) (gvName 2) Pr.B_form_of_1)
  (sRet (eC .non)))))
def F_form_of : Fn := fnF 5 S_form_of
def S_is_always_less : Sv :=
  (sRet (eAnd (e2 ltW (eMeth 1 28 (eN 2 Pr.F_Form_at) [] (eVar 0) (aCons (eC (.int 1)) aNil)) (eMeth 1 28 (eN 2 Pr.F_Form_at) [] (eVar 1) (aCons (eC (.int 1)) aNil))) (e2 leW (e1 (fldW 5 (okF FTg 5)) (eVar 0)) (e1 (fldW 5 (okF FTg 5)) (eVar 1)))))
def F_is_always_less : Fn := fnF 2 S_is_always_less
def S_is_ever_stroke : Sv :=
  (sSeq (sSet 1 (e2 addW (e2 mulW (eC (.int 2)) (eC (.int 12))) (eC (.int 1))))
  (sRet (eA anyW (aCons (eComp [2] (iRange2 (aCons (eC (.int 1)) (aCons (e2 addW (eVar 1) (eC (.int 1))) aNil))) (gvName 2) tvYes (eCall (eN 4 Pr.F_is_stroke) [] (aCons (e1 (fldW 0 (okF FTg 0)) (eVar 0)) (aCons (eMeth 1 28 (eN 2 Pr.F_Form_at) [] (e1 (fldW 1 (okF FTg 1)) (eVar 0)) (aCons (eVar 2) aNil)) (aCons (eMeth 1 28 (eN 2 Pr.F_Form_at) [] (e1 (fldW 2 (okF FTg 2)) (eVar 0)) (aCons (eVar 2) aNil)) (aCons (eMeth 1 28 (eN 2 Pr.F_Form_at) [] (e1 (fldW 3 (okF FTg 3)) (eVar 0)) (aCons (eVar 2) aNil)) aNil)))))) aNil))))
def F_is_ever_stroke : Fn := fnF 3 S_is_ever_stroke
def S_is_row : Sv :=
  (sSeq (sIf (tOr' (tB' (e2 ltW (eMeth 1 28 (eN 2 Pr.F_Form_at) [] (e1 (fldW 1 (okF FTg 1)) (eVar 0)) (aCons (eC (.int 1)) aNil)) (eC (.int 1)))) (tOr' (tB' (e2 ltW (eMeth 1 28 (eN 2 Pr.F_Form_at) [] (e1 (fldW 2 (okF FTg 2)) (eVar 0)) (aCons (eC (.int 1)) aNil)) (eC (.int 1)))) (tB' (eCall (eN 1 Pr.F_is_ever_stroke) [] (aCons (eVar 0) aNil))))) (sRet (eC (.bl false))) sNext)
  (sSeq (sIf (tB' (e2 eqW (e1 (fldW 0 (okF FTg 0)) (eVar 0)) (eC (.str "in")))) (sRet (eCall (eN 2 Pr.F_is_always_less) [] (aCons (e1 (fldW 2 (okF FTg 2)) (eVar 0)) (aCons (e1 (fldW 1 (okF FTg 1)) (eVar 0)) aNil)))) sNext)
  (sRet (eOr (e2 eqW (e1 (fldW 0 (okF FTg 0)) (eVar 0)) (eC (.str "out"))) (eCall (eN 2 Pr.F_is_always_less) [] (aCons (e1 (fldW 1 (okF FTg 1)) (eVar 0)) (aCons (e1 (fldW 2 (okF FTg 2)) (eVar 0)) aNil)))))))
def F_is_row : Fn := fnF 1 S_is_row
def S_copies_in : Sv :=
  (sSeq (sIf (tB' (e2 eqW (eA lenW (aCons (eVar 0) aNil)) (eC (.int 0)))) (sRet (eA tupW (aCons (eC (.int 0)) (aCons (eC (.int 1)) aNil)))) sNext)
  (sSeq (sIf (tOr' (tB' (e2 neW (e2 ixW (eVar 0) (eC (.int 0))) (eC (.str "step")))) (tB' (e2 (inFW true) (eA lenW (aCons (eVar 0) aNil)) (eA tupW (aCons (eC (.int 3)) (aCons (eC (.int 4)) aNil)))))) (sRet (eC .non)) sNext)
  (sSeq (sSet 1 (eCall (eN 3 Pr.F_number_of) [] (aCons (e2 ixW (eVar 0) (eC (.int 1))) (aCons (eC (.int 1)) (aCons (eC (.int 12)) aNil)))))
  (sSeq (sIf (tB' (e1 isNW (eVar 1))) (sRet (eC .non)) sNext)
  (sSeq (sIf (tB' (e2 eqW (eSl slW (eVar 0) (oSome (eC (.int 2))) oNone) (eA lstW (aCons (eC (.str "round")) aNil)))) (sRet (eA tupW (aCons (eVar 1) (aCons (eC .non) aNil)))) sNext)
  (sSeq (sSet 2 (eIf (tAnd' (tB' (e2 eqW (eA lenW (aCons (eVar 0) aNil)) (eC (.int 4)))) (tB' (e2 eqW (e2 ixW (eVar 0) (eC (.int 2))) (eC (.str "times"))))) (eCall (eN 3 Pr.F_number_of) [] (aCons (e2 ixW (eVar 0) (eC (.int 3))) (aCons (eC (.int 2)) (aCons (eC (.int 6)) aNil)))) (eC .non)))
  (sRet (eIf (tB' (e1 isNW (eVar 2))) (eC .non) (eA tupW (aCons (eVar 1) (aCons (eVar 2) aNil)))))))))))
def F_copies_in : Fn := fnF 3 S_copies_in
def S_row_of : Sv :=
  (sSeq (sSet 1 (eM1 splitW (eVar 0) (eC (.str " "))))
  (sSeq (sIf (tOr' (tB' (e2 ltW (eA lenW (aCons (eVar 1) aNil)) (eC (.int 6)))) (tOr' (tB' (e2 (inFW true) (e2 ixW (eVar 1) (eC (.int 0))) (eC (.ktup [.str "in", .str "out", .str "over"])))) (tB' (e2 neW (e2 ixW (eVar 1) (eC (.int 4))) (eC (.str "from")))))) (sRet (eC .non)) sNext)
  (sSeq (sSet 2 (eComp [3] (iAny (e2 addW (eSl slW (eVar 1) (oSome (eC (.int 1))) (oSome (eC (.int 4)))) (eSl slW (eVar 1) (oSome (eC (.int 5))) (oSome (eC (.int 6)))))) (gvName 3) tvYes (eCall (eN 1 Pr.F_form_of) [] (aCons (eVar 3) aNil))))
  (sSeq (sSet 4 (eCall (eN 1 Pr.F_copies_in) [] (aCons (eSl slW (eVar 1) (oSome (eC (.int 6))) oNone) aNil)))
  (sSeq (sIf (tOr' (tB' (e1 isNW (eVar 4))) (tB' (eA anyW (aCons (eComp [5] (iSeq (eVar 2)) (gvName 5) tvYes (e1 isNW (eVar 5))) aNil)))) (sRet (eC .non)) sNext)
  (sSeq (sSet 6 (eMake mkEnd 2 (eN 8 Pr.F_Row_init) [] (aCons (e2 ixW (eVar 1) (eC (.int 0))) (aCons (e2 ixW (eVar 2) (eC (.int 0))) (aCons (e2 ixW (eVar 2) (eC (.int 1))) (aCons (e2 ixW (eVar 2) (eC (.int 2))) (aCons (e2 ixW (eVar 2) (eC (.int 3))) (aCons (e2 ixW (eVar 4) (eC (.int 0))) (aCons (e2 ixW (eVar 4) (eC (.int 1))) aNil)))))))))
  (sRet (eIf (tB' (eCall (eN 1 Pr.F_is_row) [] (aCons (eVar 6) aNil))) (eVar 6) (eC .non)))))))))
def F_row_of : Fn := fnF 7 S_row_of
def S_rows_of : Sv :=
  (sSeq (sIf (tNot' (tB' (eA (isiW isT0) (aCons (eVar 0) (aCons (eC (.ty "str")) aNil))))) (sRet (eC .non)) sNext)
  (sSeq (sSet 1 (eComp [2] (iAny (eM1 splitW (eVar 0) (eC (.str "\n")))) (gvName 2) tvYes (eCall (eN 1 Pr.F_row_of) [] (aCons (eVar 2) aNil))))
  (sRet (eIf (tOr' (tB' (e2 gtW (eA lenW (aCons (eVar 1) aNil)) (eC (.int 3)))) (tB' (eA anyW (aCons (eComp [3] (iSeq (eVar 1)) (gvName 3) tvYes (e1 isNW (eVar 3))) aNil)))) (eC .non) (eA tupleW (aCons (eVar 1) aNil))))))
def F_rows_of : Fn := fnF 4 S_rows_of
def S_check_number : Sv :=
  (sIf (tNot' (tB' (eCall (eN 3 Pr.F_is_between) [] (aCons (eVar 0) (aCons (eC (.int 1)) (aCons (eC (.int 100000000000000000000000000000)) aNil)))))) (sRaise 23 55 (eVar 0)) sNext)
def F_check_number : Fn := fnF 1 S_check_number
def S_Script_init : Sv :=
  (sSeq (sSet 2 (eCall (eN 1 Pr.F_rows_of) [] (aCons (eVar 1) aNil)))
  (sSeq (sIf (tB' (e1 isNW (eVar 2))) (sRaise 22 55 (eVar 1)) sNext)
  (sSeq (sFldS 9 (okF FTg 9) (eVar 0) (eVar 1))
  (sFldS 10 (okF FTg 10) (eVar 0) (eVar 2)))))
def F_Script_init : Fn := fnF 3 S_Script_init
def S_Script_many : Sv :=
  (sRet (eA lenW (aCons (e1 (fldW 10 (okF FTg 10)) (eVar 0)) aNil)))
def F_Script_many : Fn := fnF 1 S_Script_many
def S_Script_rows : Sv :=
  (sSeq (sExpr (eCall (eN 1 Pr.F_check_number) [] (aCons (eVar 1) aNil)))
  (sRet (eA tupleW (aCons (eComp [2] (iAny (e1 (fldW 10 (okF FTg 10)) (eVar 0))) (gvName 2) tvYes (e2 addW (eMeth 2 29 (eN 2 Pr.F_Row_setting_at) [] (eVar 2) (aCons (eVar 1) aNil)) (eA tupW (aCons (e1 (fldW 7 (okF FTg 7)) (eVar 2)) (aCons (e1 (fldW 8 (okF FTg 8)) (eVar 2)) aNil))))) aNil))))
def F_Script_rows : Fn := fnF 3 S_Script_rows
def S_Script_eq : Sv :=
  (sRet (eAnd (eA (isiW isT0) (aCons (eVar 1) (aCons (eC (.cls 3)) aNil))) (e2 eqW (e1 (fldW 9 (okF FTg 9)) (eVar 0)) (e1 (fldW 9 (okF FTg 9)) (eVar 1)))))
def F_Script_eq : Fn := fnF 2 S_Script_eq
def S_Script_str : Sv :=
  (sRet (e1 fmtW (e1 (fldW 9 (okF FTg 9)) (eVar 0))))
def F_Script_str : Fn := fnF 1 S_Script_str
def S_multiple : Sv :=
  (sRet (e2 mulW (e2 fdivW (eVar 0) (eCall (eN 2 Pr.F_common) [] (aCons (eVar 0) (aCons (eVar 1) aNil)))) (eVar 1)))
def F_multiple : Fn := fnF 2 S_multiple
def B_whole_of_1 : Sv :=
  (sSet 1 (eCall (eN 2 Pr.F_multiple) [] (aCons (eCall (eN 2 Pr.F_multiple) [] (aCons (eVar 1) (aCons (e2 ixW (eVar 2) (eC (.int 1))) aNil))) (aCons (eVar 3) aNil))))
def S_whole_of : Sv :=
  (sSeq (sSet 1 (eC (.int 1)))
  (sSeq (sFor (iAny (eVar 0)) (gvTup 2 (gvCons (gvName 2) (gvCons (gvName 3) gvNil))) Pr.B_whole_of_1)
  (sRet (eVar 1))))
def F_whole_of : Fn := fnF 4 S_whole_of
def B_placed_1 : Sv :=
  (sSeq (sSet 5 (e2 fdivW (eVar 1) (eVar 4)))
  (sExpr (eBM tyL appW (eVar 2) (aCons (eA tupW (aCons (e2 modW (eA intW (aCons (e2 mulW (e2 ixW (eVar 3) (eC (.int 0))) (e2 fdivW (eVar 1) (e2 ixW (eVar 3) (eC (.int 1))))) aNil)) (eVar 5)) (aCons (eVar 5) aNil))) aNil))))
def S_placed : Sv :=
  (sSeq (sSet 2 (eA lstC aNil))
  (sSeq (sFor (iAny (eVar 0)) (gvTup 2 (gvCons (gvName 3) (gvCons (gvName 4) gvNil))) Pr.B_placed_1)
  (sRet (eVar 2))))
def F_placed : Fn := fnF 6 S_placed
def B_inverse_1 : Sv :=
  (sSeq (sSet 6 (e2 fdivW (eVar 4) (eVar 5)))
  (sSeq (sPar 4 5 (aCons (eVar 5) (aCons (e2 subW (eVar 4) (e2 mulW (eVar 6) (eVar 5))) aNil)))
  (sPar 2 3 (aCons (eVar 3) (aCons (e2 subW (eVar 2) (e2 mulW (eVar 6) (eVar 3))) aNil)))))
def S_inverse : Sv :=
  (sSeq (sAsg (eA tupW (aCons (eC (.int 0)) (aCons (eC (.int 1)) aNil))) (gvTup 2 (gvCons (gvName 2) (gvCons (gvName 3) gvNil))))
  (sSeq (sPar 4 5 (aCons (eVar 1) (aCons (e2 modW (eA intW (aCons (eVar 0) aNil)) (eVar 1)) aNil)))
  (sSeq (sWhile (tB' (e2 gtW (eVar 5) (eC (.int 0)))) Pr.B_inverse_1)
  (sRet (e2 modW (eA intW (aCons (eVar 2) aNil)) (eVar 1))))))
def F_inverse : Fn := fnF 7 S_inverse
def S_meet : Sv :=
  (sSeq (sSet 2 (eCall (eN 2 Pr.F_common) [] (aCons (e2 ixW (eVar 0) (eC (.int 1))) (aCons (e2 ixW (eVar 1) (eC (.int 1))) aNil))))
  (sSeq (sSet 3 (e2 subW (e2 ixW (eVar 1) (eC (.int 0))) (e2 ixW (eVar 0) (eC (.int 0)))))
  (sSeq (sIf (tB' (e2 neW (e2 modW (eA intW (aCons (eVar 3) aNil)) (eVar 2)) (eC (.int 0)))) (sRet (eC .non)) sNext)
  (sSeq (sSet 4 (e2 modW (eA intW (aCons (e2 mulW (e2 fdivW (eVar 3) (eVar 2)) (eCall (eN 2 Pr.F_inverse) [] (aCons (e2 fdivW (e2 ixW (eVar 0) (eC (.int 1))) (eVar 2)) (aCons (e2 fdivW (e2 ixW (eVar 1) (eC (.int 1))) (eVar 2)) aNil)))) aNil)) (e2 fdivW (e2 ixW (eVar 1) (eC (.int 1))) (eVar 2))))
  (sSeq (sSet 5 (eCall (eN 2 Pr.F_multiple) [] (aCons (e2 ixW (eVar 0) (eC (.int 1))) (aCons (e2 ixW (eVar 1) (eC (.int 1))) aNil))))
  (sRet (eA tupW (aCons (e2 modW (eA intW (aCons (e2 addW (e2 ixW (eVar 0) (eC (.int 0))) (e2 mulW (e2 ixW (eVar 0) (eC (.int 1))) (eVar 4))) aNil)) (eVar 5)) (aCons (eVar 5) aNil)))))))))
def F_meet : Fn := fnF 6 S_meet
def S_holds_place : Sv :=
  (sRet (eA anyW (aCons (eComp [2, 3] (iAny (eVar 0)) (gvTup 2 (gvCons (gvName 2) (gvCons (gvName 3) gvNil))) tvYes (e2 eqW (e2 modW (eA intW (aCons (eVar 1) aNil)) (eVar 3)) (eVar 2))) aNil)))
def F_holds_place : Fn := fnF 4 S_holds_place
def B_split_1 : Sv :=
  (sIf (tB' (e2 eqW (eVar 5) (eVar 1))) (sAsg (eC (.bl true)) (gvSubD (eVar 3) (eVar 4))) (sIf (tB' (e2 (inDW true) (eA tupW (aCons (eVar 4) (aCons (eVar 5) aNil))) (eVar 2))) (sExpr (eBM tyL appW (eVar 2) (aCons (eA tupW (aCons (eVar 4) (aCons (eVar 5) aNil))) aNil))) sNext))
def S_split : Sv :=
  (sSeq (sSet 2 (eA lstC aNil))
  (sSeq (sSet 3 eNewK)
  (sSeq (sFor (iAny (eVar 0)) (gvTup 2 (gvCons (gvName 4) (gvCons (gvName 5) gvNil))) Pr.B_split_1)
  (sFrzA 3 (sFrzA 2 (sRet (eA tupW (aCons (eVar 2) (aCons (eVar 3) aNil)))))))))
def F_split : Fn := fnF 6 S_split
def B_count_within_1 : Sv :=
  (sAug 3 (· - ·) (e2 mulW (eVar 8) (e2 fdivW (eVar 2) (e2 ixW (eVar 7) (eC (.int 1))))))
def B_count_within_2 : Sv :=
  (sSeq (sSet 9 (eCall (eN 2 Pr.F_meet) [] (aCons (eVar 7) (aCons (eVar 5) aNil))))
  (sIf (tB' (e1 notNW (eVar 9))) (sExpr (eBM tyL appW (eVar 6) (aCons (eA tupW (aCons (eVar 9) (aCons (e1 negW (eVar 8)) aNil))) aNil))) sNext))
def B_count_within_3 : Sv :=
  (sSeq (sSet 6 (eA lstC aNil))
  (sSeq (sForC (eVar 4) (gvTup 2 (gvCons (gvName 7) (gvCons (gvName 8) gvNil))) Pr.B_count_within_2)
  (sExpr (eBM tyL extW (eVar 4) (aCons (eVar 6) aNil)))))
def S_count_within : Sv :=
  (sSeq (sSet 3 (eC (.int 0)))
  (sSeq (sSet 4 (eA lstC (aCons (eA tupW (aCons (eVar 0) (aCons (eC (.int 1)) aNil))) aNil)))
  (sSeq (sFor (iAny (eVar 1)) (gvName 5) Pr.B_count_within_3)
  (sSeq (sFor (iSeq (eSl slW (eVar 4) (oSome (eC (.int 1))) oNone)) (gvTup 2 (gvCons (gvName 7) (gvCons (gvName 8) gvNil))) Pr.B_count_within_1)
  (sRet (eVar 3))))))
def F_count_within : Fn := fnF 10 S_count_within
def B_is_covered_1 : Sv :=
  (sIf (tAnd' (tB' (e2 eqW (e2 modW (eA intW (aCons (eVar 6) aNil)) (e2 ixW (eVar 0) (eC (.int 1)))) (e2 ixW (eVar 0) (eC (.int 0))))) (tNot' (tB' (eCall (eN 2 Pr.F_holds_place) [] (aCons (eVar 3) (aCons (eVar 6) aNil)))))) (sAug 5 (· + ·) (eC (.int 1))) sNext)
def S_is_covered : Sv :=
  (sSeq (sIf (tB' (e2 eqW (e2 ixW (eVar 0) (eC (.int 1))) (eVar 2))) (sRet (eCall (eN 2 Pr.F_holds_place) [] (aCons (eVar 1) (aCons (e2 ixW (eVar 0) (eC (.int 0))) aNil)))) sNext)
  (sSeq (sAsg (eCall (eN 2 Pr.F_split) [] (aCons (eVar 1) (aCons (eVar 2) aNil))) (gvTup 2 (gvCons (gvName 3) (gvCons (gvName 4) gvNil))))
  (sSeq (sSet 5 (eCall (eN 3 Pr.F_count_within) [] (aCons (eVar 0) (aCons (eVar 3) (aCons (eVar 2) aNil)))))
  (sSeq (sForD 4 (gvName 6) Pr.B_is_covered_1)
  (sRet (e2 eqW (eVar 5) (e2 fdivW (eVar 2) (e2 ixW (eVar 0) (eC (.int 1))))))))))
def F_is_covered : Fn := fnF 7 S_is_covered
def B_count_all_1 : Sv :=
  (sIf (tNot' (tB' (eCall (eN 2 Pr.F_holds_place) [] (aCons (eVar 2) (aCons (eVar 5) aNil))))) (sAug 4 (· + ·) (eC (.int 1))) sNext)
def S_count_all : Sv :=
  (sSeq (sSet 1 (eCall (eN 1 Pr.F_whole_of) [] (aCons (eVar 0) aNil)))
  (sSeq (sAsg (eCall (eN 2 Pr.F_split) [] (aCons (eCall (eN 2 Pr.F_placed) [] (aCons (eVar 0) (aCons (eVar 1) aNil))) (aCons (eVar 1) aNil))) (gvTup 2 (gvCons (gvName 2) (gvCons (gvName 3) gvNil))))
  (sSeq (sSet 4 (eCall (eN 3 Pr.F_count_within) [] (aCons (eA tupW (aCons (eC (.int 0)) (aCons (eC (.int 1)) aNil))) (aCons (eVar 2) (aCons (eVar 1) aNil)))))
  (sSeq (sForD 3 (gvName 5) Pr.B_count_all_1)
  (sRet (eVar 4))))))
def F_count_all : Fn := fnF 6 S_count_all
def S_are_within : Sv :=
  (sSeq (sSet 2 (eCall (eN 1 Pr.F_whole_of) [] (aCons (e2 addW (eA listW (aCons (eVar 0) aNil)) (eA listW (aCons (eVar 1) aNil))) aNil)))
  (sSeq (sSet 3 (eCall (eN 2 Pr.F_placed) [] (aCons (eVar 1) (aCons (eVar 2) aNil))))
  (sRet (eA allW (aCons (eComp [4] (iSeq (eCall (eN 2 Pr.F_placed) [] (aCons (eVar 0) (aCons (eVar 2) aNil)))) (gvName 4) tvYes (eCall (eN 3 Pr.F_is_covered) [] (aCons (eVar 4) (aCons (eVar 3) (aCons (eVar 2) aNil))))) aNil)))))
def F_are_within : Fn := fnF 5 S_are_within
def B_lots_of_1 : Sv :=
  (sExpr (eBM tyL appW (eVar 5) (aCons (eA tupW (aCons (eCall (eN 2 Pr.F_summed) [] (aCons (e2 ixW (eVar 3) (eC (.int 4))) (aCons (eCall (eN 2 Pr.F_reduced) [] (aCons (e2 mulW (eVar 6) (e1 (fldW 7 (okF FTg 7)) (eVar 0))) (aCons (eVar 4) aNil))) aNil))) (aCons (eC (.int 1)) aNil))) aNil)))
def S_lots_of : Sv :=
  (sSeq (sSet 2 (eMeth 2 29 (eN 2 Pr.F_Row_setting_at) [] (eVar 0) (aCons (eVar 1) aNil)))
  (sSeq (sSet 3 (eCall (eN 1 Pr.F_plain_of) [] (aCons (eVar 2) aNil)))
  (sSeq (sIf (tB' (e2 eqW (e2 ixW (eVar 3) (eC (.int 0))) (eC (.str "circle")))) (sRet (eA tupW (aCons (eVar 3) (aCons (eA lstW (aCons (eA tupW (aCons (eA tupW (aCons (eC (.int 0)) (aCons (eC (.int 1)) aNil))) (aCons (eC (.int 1)) aNil))) aNil)) aNil)))) sNext)
  (sSeq (sSet 4 (eCall (eN 1 Pr.F_shared_of) [] (aCons (eVar 2) aNil)))
  (sSeq (sIf (tB' (e1 isNW (e1 (fldW 8 (okF FTg 8)) (eVar 0)))) (sRet (eA tupW (aCons (eSl slW (eVar 3) oNone (oSome (eC (.int 4)))) (aCons (eA lstW (aCons (eA tupW (aCons (e2 ixW (eVar 3) (eC (.int 4))) (aCons (e2 fdivW (eVar 4) (eCall (eN 2 Pr.F_common) [] (aCons (e1 (fldW 7 (okF FTg 7)) (eVar 0)) (aCons (eVar 4) aNil)))) aNil))) aNil)) aNil)))) sNext)
  (sSeq (sSet 5 (eA lstC aNil))
  (sSeq (sFor (iRange1 (aCons (e1 (fldW 8 (okF FTg 8)) (eVar 0)) aNil)) (gvName 6) Pr.B_lots_of_1)
  (sFrzA 5 (sRet (eA tupW (aCons (eSl slW (eVar 3) oNone (oSome (eC (.int 4)))) (aCons (eVar 5) aNil))))))))))))
def F_lots_of : Fn := fnF 7 S_lots_of
def B_groups_of_1 : Sv :=
  (sSeq (sAsg (eCall (eN 2 Pr.F_lots_of) [] (aCons (eVar 3) (aCons (eVar 1) aNil))) (gvTup 2 (gvCons (gvName 4) (gvCons (gvName 5) gvNil))))
  (sAsg (e2 addW (eGet2 (eVar 2) (eVar 4) (eA lstW aNil)) (eVar 5)) (gvSubD (eVar 2) (eVar 4))))
def S_groups_of : Sv :=
  (sSeq (sSet 2 eNewT)
  (sSeq (sFor (iAny (eVar 0)) (gvName 3) Pr.B_groups_of_1)
  (sRet (eVar 2))))
def F_groups_of : Fn := fnF 6 S_groups_of
def S_lot_of : Sv :=
  (sSeq (sSet 1 (eCall (eN 1 Pr.F_plain_of) [] (aCons (eVar 0) aNil)))
  (sRet (eIf (tB' (e2 eqW (e2 ixW (eVar 1) (eC (.int 0))) (eC (.str "circle")))) (eA tupW (aCons (eVar 1) (aCons (eA tupW (aCons (eA tupW (aCons (eC (.int 0)) (aCons (eC (.int 1)) aNil))) (aCons (eC (.int 1)) aNil))) aNil))) (eA tupW (aCons (eSl slW (eVar 1) oNone (oSome (eC (.int 4)))) (aCons (eA tupW (aCons (e2 ixW (eVar 1) (eC (.int 4))) (aCons (eC (.int 1)) aNil))) aNil))))))
def F_lot_of : Fn := fnF 2 S_lot_of
def S_has_setting : Sv :=
  (sSeq (sAsg (eCall (eN 1 Pr.F_lot_of) [] (aCons (eVar 1) aNil)) (gvTup 2 (gvCons (gvName 2) (gvCons (gvName 3) gvNil))))
  (sRet (eAnd (e2 (inDct false) (eVar 2) (eVar 0)) (eCall (eN 2 Pr.F_are_within) [] (aCons (eA lstW (aCons (eVar 3) aNil)) (aCons (e2 dgetW (eVar 0) (eVar 2)) aNil))))))
def F_has_setting : Fn := fnF 4 S_has_setting
def S_Script_has : Sv :=
  (sSeq (sExpr (eCall (eN 1 Pr.F_check_number) [] (aCons (eVar 1) aNil)))
  (sSeq (sExpr (eCall (eN 1 Pr.F_check_line) [] (aCons (eVar 2) aNil)))
  (sRet (eCall (eN 2 Pr.F_has_setting) [] (aCons (eCall (eN 2 Pr.F_groups_of) [] (aCons (e1 (fldW 10 (okF FTg 10)) (eVar 0)) (aCons (eVar 1) aNil))) (aCons (eProp 0 Pr.F_Line_setting (eVar 2)) aNil))))))
def F_Script_has : Fn := fnF 3 S_Script_has
def S_lines_in : Sv :=
  (sRet (eA sumW (aCons (eCompK 0 [1] (gvName 1) tvYes (eCall (eN 1 Pr.F_count_all) [] (aCons (e2 dgetW (eVar 0) (eVar 1)) aNil))) aNil)))
def F_lines_in : Fn := fnF 2 S_lines_in
def S_Script_count : Sv :=
  (sSeq (sExpr (eCall (eN 1 Pr.F_check_number) [] (aCons (eVar 1) aNil)))
  (sRet (eCall (eN 1 Pr.F_lines_in) [] (aCons (eCall (eN 2 Pr.F_groups_of) [] (aCons (e1 (fldW 10 (okF FTg 10)) (eVar 0)) (aCons (eVar 1) aNil))) aNil))))
def F_Script_count : Fn := fnF 2 S_Script_count
def S_check_script : Sv :=
  (sIf (tNot' (tB' (eA (isiW isT0) (aCons (eVar 0) (aCons (eC (.cls 3)) aNil))))) (sRaise 29 55 (eVar 0)) sNext)
def F_check_script : Fn := fnF 1 S_check_script
def S_are_groups_within : Sv :=
  (sRet (eA allW (aCons (eCompK 0 [2] (gvName 2) tvYes (eAnd (e2 (inDct false) (eVar 2) (eVar 1)) (eCall (eN 2 Pr.F_are_within) [] (aCons (e2 dgetW (eVar 0) (eVar 2)) (aCons (e2 dgetW (eVar 1) (eVar 2)) aNil))))) aNil)))
def F_are_groups_within : Fn := fnF 3 S_are_groups_within
def S_is_within_at : Sv :=
  (sRet (eCall (eN 2 Pr.F_are_groups_within) [] (aCons (eCall (eN 2 Pr.F_groups_of) [] (aCons (eVar 0) (aCons (eVar 2) aNil))) (aCons (eCall (eN 2 Pr.F_groups_of) [] (aCons (eVar 1) (aCons (eVar 2) aNil))) aNil))))
def F_is_within_at : Fn := fnF 3 S_is_within_at
def S_is_same_at : Sv :=
  (sRet (eAnd (eCall (eN 3 Pr.F_is_within_at) [] (aCons (eVar 0) (aCons (eVar 1) (aCons (eVar 2) aNil)))) (eCall (eN 3 Pr.F_is_within_at) [] (aCons (eVar 1) (aCons (eVar 0) (aCons (eVar 2) aNil))))))
def F_is_same_at : Fn := fnF 3 S_is_same_at
def S_same_picture : Sv :=
  (sSeq (sExpr (eCall (eN 1 Pr.F_check_script) [] (aCons (eVar 0) aNil)))
  (sSeq (sExpr (eCall (eN 1 Pr.F_check_script) [] (aCons (eVar 1) aNil)))
  (sSeq (sExpr (eCall (eN 1 Pr.F_check_number) [] (aCons (eVar 2) aNil)))
  (sRet (eCall (eN 3 Pr.F_is_same_at) [] (aCons (e1 (fldW 10 (okF FTg 10)) (eVar 0)) (aCons (e1 (fldW 10 (okF FTg 10)) (eVar 1)) (aCons (eVar 2) aNil))))))))
def F_same_picture : Fn := fnF 3 S_same_picture
def S_copy_setting : Sv :=
  (sSeq (sAsg (eMeth 2 29 (eN 2 Pr.F_Row_setting_at) [] (eVar 0) (aCons (eVar 2) aNil)) (gvTup 5 (gvCons (gvName 3) (gvCons (gvName 4) (gvCons (gvName 5) (gvCons (gvName 6) (gvCons (gvName 7) gvNil)))))))
  (sRet (eA tupW (aCons (eVar 3) (aCons (eVar 4) (aCons (eVar 5) (aCons (eVar 6) (aCons (e2 modW (eA intW (aCons (e2 addW (eVar 7) (e2 mulW (eVar 1) (e1 (fldW 7 (okF FTg 7)) (eVar 0)))) aNil)) (eVar 4)) aNil))))))))
def F_copy_setting : Fn := fnF 8 S_copy_setting
def B_missing_copy_1 : Sv :=
  (sIf (tNot' (tB' (eCall (eN 2 Pr.F_has_setting) [] (aCons (eVar 3) (aCons (eCall (eN 3 Pr.F_copy_setting) [] (aCons (eVar 5) (aCons (eVar 6) (aCons (eVar 2) aNil)))) aNil))))) (sRet (eA tupW (aCons (eVar 4) (aCons (eVar 6) aNil)))) sNext)
def B_missing_copy_2 : Sv :=
  (sFor (iRange1 (aCons (eIf (tB' (e1 isNW (e1 (fldW 8 (okF FTg 8)) (eVar 5)))) (eC (.int 200)) (e1 (fldW 8 (okF FTg 8)) (eVar 5))) aNil)) (gvName 6) Pr.B_missing_copy_1)
def S_missing_copy : Sv :=
  (sSeq (sSet 3 (eCall (eN 2 Pr.F_groups_of) [] (aCons (eVar 1) (aCons (eVar 2) aNil))))
  (sSeq (sFor (iEnumAV (aCons (eVar 0) aNil)) (gvTup 2 (gvCons (gvName 4) (gvCons (gvName 5) gvNil))) Pr.B_missing_copy_2)
  (sRet (eC .non))))
def F_missing_copy : Fn := fnF 7 S_missing_copy
def S_missing : Sv :=
  (sSeq (sExpr (eCall (eN 1 Pr.F_check_script) [] (aCons (eVar 0) aNil)))
  (sSeq (sExpr (eCall (eN 1 Pr.F_check_script) [] (aCons (eVar 1) aNil)))
  (sSeq (sExpr (eCall (eN 1 Pr.F_check_number) [] (aCons (eVar 2) aNil)))
  (sSeq (sSet 3 (eCall (eN 3 Pr.F_missing_copy) [] (aCons (e1 (fldW 10 (okF FTg 10)) (eVar 0)) (aCons (e1 (fldW 10 (okF FTg 10)) (eVar 1)) (aCons (eVar 2) aNil)))))
  (sSeq (sIf (tB' (e1 isNW (eVar 3))) (sRet (eC .non)) sNext)
  (sSeq (sSet 4 (eCall (eN 3 Pr.F_copy_setting) [] (aCons (e2 ixW (e1 (fldW 10 (okF FTg 10)) (eVar 0)) (e2 ixW (eVar 3) (eC (.int 0)))) (aCons (e2 ixW (eVar 3) (eC (.int 1))) (aCons (eVar 2) aNil)))))
  (sRet (eMake mkEnd 0 (eN 6 Pr.F_Line_init) [] (aCons (e2 ixW (eVar 4) (eC (.int 0))) (aCons (e2 ixW (eVar 4) (eC (.int 1))) (aCons (e2 ixW (eVar 4) (eC (.int 2))) (aCons (e2 ixW (eVar 4) (eC (.int 3))) (aCons (e2 ixW (eVar 4) (eC (.int 4))) aNil)))))))))))))
def F_missing : Fn := fnF 5 S_missing
def B_thinned_1 : Sv :=
  (sSeq (sSet 4 (e2 addW (eSl slW (eVar 2) oNone (oSome (eVar 3))) (eSl slW (eVar 2) (oSome (e2 addW (eVar 3) (eC (.int 1)))) oNone)))
  (sIf (tB' (eCall (eN 3 Pr.F_is_covered) [] (aCons (e2 ixW (eVar 2) (eVar 3)) (aCons (eVar 4) (aCons (eVar 1) aNil))))) (sSet 2 (eVar 4)) (sAug 3 (· + ·) (eC (.int 1)))))
def S_thinned : Sv :=
  (sSeq (sSet 2 (eA listW (aCons (eVar 0) aNil)))
  (sSeq (sSet 3 (eC (.int 0)))
  (sSeq (sWhile (tB' (e2 ltW (eVar 3) (eA lenW (aCons (eVar 2) aNil)))) Pr.B_thinned_1)
  (sRet (eVar 2)))))
def F_thinned : Fn := fnF 5 S_thinned
def S_is_kept : Sv :=
  (sRet (eA allW (aCons (eComp [3, 4] (iAny (eVar 0)) (gvTup 2 (gvCons (gvName 3) (gvCons (gvName 4) gvNil))) tvYes (eCall (eN 3 Pr.F_is_covered) [] (aCons (eA tupW (aCons (e2 modW (eA intW (aCons (e2 addW (eVar 3) (eVar 1)) aNil)) (eVar 4)) (aCons (eVar 4) aNil))) (aCons (eVar 0) (aCons (eVar 2) aNil))))) aNil)))
def F_is_kept : Fn := fnF 5 S_is_kept
def B_shifts_of_1 : Sv :=
  (sIf (tAnd' (tB' (e2 eqW (e2 modW (eA intW (aCons (eVar 3) aNil)) (eVar 7)) (eC (.int 0)))) (tB' (eCall (eN 3 Pr.F_is_kept) [] (aCons (eVar 2) (aCons (e2 fdivW (eVar 3) (eVar 7)) (aCons (eVar 1) aNil)))))) (sSet 6 (eVar 7)) sNext)
def B_shifts_of_2 : Sv :=
  (sSet 3 (eCall (eN 2 Pr.F_multiple) [] (aCons (eVar 3) (aCons (eVar 5) aNil))))
def S_shifts_of : Sv :=
  (sSeq (sSet 1 (eCall (eN 1 Pr.F_whole_of) [] (aCons (eVar 0) aNil)))
  (sSeq (sSet 2 (eCall (eN 2 Pr.F_thinned) [] (aCons (eCall (eN 2 Pr.F_placed) [] (aCons (eVar 0) (aCons (eVar 1) aNil))) (aCons (eVar 1) aNil))))
  (sSeq (sSet 3 (eC (.int 1)))
  (sSeq (sFor (iSeq (eVar 2)) (gvTup 2 (gvCons (gvName 4) (gvCons (gvName 5) gvNil))) Pr.B_shifts_of_2)
  (sSeq (sSet 6 (eC (.int 1)))
  (sSeq (sFor (iRange2 (aCons (eC (.int 2)) (aCons (e2 addW (eC (.int 1000)) (eC (.int 1))) aNil))) (gvName 7) Pr.B_shifts_of_1)
  (sRet (e2 mulW (e2 fdivW (eVar 1) (eVar 3)) (eVar 6)))))))))
def F_shifts_of : Fn := fnF 8 S_shifts_of
def B_turns_of_1 : Sv :=
  (sIf (tB' (e2 neW (e2 ixW (eVar 2) (eC (.int 0))) (eC (.str "circle")))) (sSet 1 (eCall (eN 2 Pr.F_common) [] (aCons (e2 mulW (e2 subW (e2 ixW (eVar 2) (eC (.int 1))) (e2 ixW (eVar 2) (eC (.int 3)))) (eCall (eN 1 Pr.F_shifts_of) [] (aCons (e2 dgetW (eVar 0) (eVar 2)) aNil))) (aCons (eVar 1) aNil)))) sNext)
def S_turns_of : Sv :=
  (sSeq (sSet 1 (eC (.int 0)))
  (sSeq (sForD 0 (gvName 2) Pr.B_turns_of_1)
  (sRet (eIf (tB' (e2 gtW (eVar 1) (eC (.int 0)))) (eVar 1) (eC .non)))))
def F_turns_of : Fn := fnF 3 S_turns_of
def S_turns : Sv :=
  (sSeq (sExpr (eCall (eN 1 Pr.F_check_script) [] (aCons (eVar 0) aNil)))
  (sSeq (sExpr (eCall (eN 1 Pr.F_check_number) [] (aCons (eVar 1) aNil)))
  (sRet (eCall (eN 1 Pr.F_turns_of) [] (aCons (eCall (eN 2 Pr.F_groups_of) [] (aCons (e1 (fldW 10 (okF FTg 10)) (eVar 0)) (aCons (eVar 1) aNil))) aNil)))))
def F_turns : Fn := fnF 2 S_turns
def S_bend_of : Sv :=
  (sRet (eA absW (aCons (e2 subW (e2 mulW (e1 (fldW 5 (okF FTg 5)) (e1 (fldW 1 (okF FTg 1)) (eVar 0))) (e1 (fldW 6 (okF FTg 6)) (e1 (fldW 2 (okF FTg 2)) (eVar 0)))) (e2 mulW (e1 (fldW 5 (okF FTg 5)) (e1 (fldW 2 (okF FTg 2)) (eVar 0))) (e1 (fldW 6 (okF FTg 6)) (e1 (fldW 1 (okF FTg 1)) (eVar 0))))) aNil)))
def F_bend_of : Fn := fnF 1 S_bend_of
def S_unlike_at : Sv :=
  (sSeq (sSet 2 (eMeth 2 29 (eN 2 Pr.F_Row_setting_at) [] (eVar 0) (aCons (eVar 1) aNil)))
  (sRet (eIf (tB' (e2 eqW (e2 ixW (eCall (eN 1 Pr.F_plain_of) [] (aCons (eVar 2) aNil)) (eC (.int 0))) (eC (.str "circle")))) (eC (.int 1)) (eCall (eN 1 Pr.F_shared_of) [] (aCons (eVar 2) aNil)))))
def F_unlike_at : Fn := fnF 3 S_unlike_at
def B_period_of_1 : Sv :=
  (sSeq (sSet 5 (e2 subW (eCall (eN 2 Pr.F_unlike_at) [] (aCons (eVar 4) (aCons (eC (.int 2)) aNil))) (eCall (eN 2 Pr.F_unlike_at) [] (aCons (eVar 4) (aCons (eC (.int 1)) aNil)))))
  (sSeq (sIf (tB' (e2 eqW (e2 addW (e1 (fldW 5 (okF FTg 5)) (e1 (fldW 3 (okF FTg 3)) (eVar 4))) (e1 (fldW 6 (okF FTg 6)) (e1 (fldW 3 (okF FTg 3)) (eVar 4)))) (eC (.int 0)))) (sRet (eC (.int 1))) sNext)
  (sIf (tB' (e2 gtW (eCall (eN 1 Pr.F_bend_of) [] (aCons (eVar 4) aNil)) (eC (.int 0)))) (sSet 1 (eCall (eN 2 Pr.F_multiple) [] (aCons (eVar 1) (aCons (eCall (eN 1 Pr.F_bend_of) [] (aCons (eVar 4) aNil)) aNil)))) (sIf (tB' (e2 gtW (eVar 5) (eC (.int 0)))) (sSeq (sSet 2 (eCall (eN 2 Pr.F_multiple) [] (aCons (eVar 2) (aCons (eA max2W (aCons (eC (.int 1)) (aCons (e1 (fldW 7 (okF FTg 7)) (eVar 4)) aNil))) aNil))))
  (sSet 3 (eCall (eN 2 Pr.F_multiple) [] (aCons (eVar 3) (aCons (eVar 5) aNil))))) (sSet 3 (eCall (eN 2 Pr.F_multiple) [] (aCons (eVar 3) (aCons (eCall (eN 2 Pr.F_unlike_at) [] (aCons (eVar 4) (aCons (eC (.int 1)) aNil))) aNil))))))))
def S_period_of : Sv :=
  (sSeq (sSet 1 (eC (.int 1)))
  (sSeq (sSet 2 (eC (.int 1)))
  (sSeq (sSet 3 (eC (.int 1)))
  (sSeq (sFor (iAny (eVar 0)) (gvName 4) Pr.B_period_of_1)
  (sRet (e2 mulW (e2 mulW (eVar 1) (eVar 2)) (eVar 3)))))))
def F_period_of : Fn := fnF 6 S_period_of
def B_classes_of_1 : Sv :=
  (sSeq (sSet 3 (e2 ixW (eCall (eN 2 Pr.F_lots_of) [] (aCons (eVar 2) (aCons (e2 addW (eC (.int 1000)) (eC (.int 1))) aNil))) (eC (.int 0))))
  (sAsg (e2 addW (eGet2 (eVar 1) (eVar 3) (eA lstW aNil)) (eA lstW (aCons (eVar 2) aNil))) (gvSubD (eVar 1) (eVar 3))))
def S_classes_of : Sv :=
  (sSeq (sSet 1 eNewT)
  (sSeq (sFor (iAny (eVar 0)) (gvName 2) Pr.B_classes_of_1)
  (sRet (eCompK 1 [3] (gvName 3) tvYes (e2 dgetW (eVar 1) (eVar 3))))))
def F_classes_of : Fn := fnF 4 S_classes_of
def S_is_alike_at : Sv :=
  (sSeq (sSet 3 (eCall (eN 2 Pr.F_groups_of) [] (aCons (eVar 0) (aCons (eVar 2) aNil))))
  (sSeq (sSet 4 (eCall (eN 2 Pr.F_groups_of) [] (aCons (eVar 1) (aCons (eVar 2) aNil))))
  (sSeq (sIf (tOr' (tB' (eA anyW (aCons (eCompK 3 [5] (gvName 5) tvYes (e2 (inDct true) (eVar 5) (eVar 4))) aNil))) (tB' (eA anyW (aCons (eCompK 4 [5] (gvName 5) tvYes (e2 (inDct true) (eVar 5) (eVar 3))) aNil)))) (sRet (eC (.bl false))) sNext)
  (sRet (eA allW (aCons (eCompK 3 [5] (gvName 5) tvYes (eAnd (eCall (eN 2 Pr.F_are_within) [] (aCons (e2 dgetW (eVar 3) (eVar 5)) (aCons (e2 dgetW (eVar 4) (eVar 5)) aNil))) (eCall (eN 2 Pr.F_are_within) [] (aCons (e2 dgetW (eVar 4) (eVar 5)) (aCons (e2 dgetW (eVar 3) (eVar 5)) aNil))))) aNil))))))
def F_is_alike_at : Fn := fnF 6 S_is_alike_at
def B_late_parting_1 : Sv :=
  (sSeq (sIf (tAnd' (tB' (e2 gtW (eA lenW (aCons (eVar 2) aNil)) (eC (.int 0)))) (tB' (e2 geW (eVar 7) (eA min1W (aCons (eVar 2) aNil))))) sBreak sNext)
  (sIf (tNot' (tB' (eCall (eN 3 Pr.F_is_alike_at) [] (aCons (eVar 4) (aCons (eVar 6) (aCons (eVar 7) aNil)))))) (sExpr (eBM tyL appW (eVar 2) (aCons (eVar 7) aNil))) sNext))
def B_late_parting_2 : Sv :=
  (sSeq (sSet 4 (eComp [5] (iAny (eVar 3)) (gvName 5) (tB' (e2 (inFW false) (eVar 5) (eVar 0))) (eVar 5)))
  (sSeq (sSet 6 (eComp [5] (iAny (eVar 3)) (gvName 5) (tB' (e2 (inFW false) (eVar 5) (eVar 1))) (eVar 5)))
  (sFor (iRange2 (aCons (e2 addW (eC (.int 1000)) (eC (.int 1))) (aCons (e2 addW (e2 addW (eC (.int 1000)) (eCall (eN 1 Pr.F_period_of) [] (aCons (eVar 3) aNil))) (eC (.int 1))) aNil))) (gvName 7) Pr.B_late_parting_1)))
def S_late_parting : Sv :=
  (sSeq (sSet 2 (eA lstC aNil))
  (sSeq (sFor (iSeq (eCall (eN 1 Pr.F_classes_of) [] (aCons (e2 addW (eA listW (aCons (eVar 0) aNil)) (eA listW (aCons (eVar 1) aNil))) aNil))) (gvName 3) Pr.B_late_parting_2)
  (sRet (eIf (tB' (e2 gtW (eA lenW (aCons (eVar 2) aNil)) (eC (.int 0)))) (eA min1W (aCons (eVar 2) aNil)) (eC .non)))))
def F_late_parting : Fn := fnF 8 S_late_parting
def B_parting_of_1 : Sv :=
  (sIf (tNot' (tB' (eCall (eN 3 Pr.F_is_same_at) [] (aCons (eVar 0) (aCons (eVar 1) (aCons (eVar 2) aNil)))))) (sRet (eVar 2)) sNext)
def S_parting_of : Sv :=
  (sSeq (sFor (iRange2 (aCons (eC (.int 1)) (aCons (e2 addW (eC (.int 1000)) (eC (.int 1))) aNil))) (gvName 2) Pr.B_parting_of_1)
  (sRet (eCall (eN 2 Pr.F_late_parting) [] (aCons (eVar 0) (aCons (eVar 1) aNil)))))
def F_parting_of : Fn := fnF 3 S_parting_of
def S_parting : Sv :=
  (sSeq (sExpr (eCall (eN 1 Pr.F_check_script) [] (aCons (eVar 0) aNil)))
  (sSeq (sExpr (eCall (eN 1 Pr.F_check_script) [] (aCons (eVar 1) aNil)))
  (sRet (eCall (eN 2 Pr.F_parting_of) [] (aCons (e1 (fldW 10 (okF FTg 10)) (eVar 0)) (aCons (e1 (fldW 10 (okF FTg 10)) (eVar 1)) aNil))))))
def F_parting : Fn := fnF 2 S_parting
def S_always : Sv :=
  (sRet (e1 isNW (eCall (eN 2 Pr.F_parting) [] (aCons (eVar 0) (aCons (eVar 1) aNil)))))
def F_always : Fn := fnF 2 S_always
def B_least_period_1 : Sv :=
  (sIf (tAnd' (tB' (e2 eqW (e2 modW (eVar 1) (eVar 2)) (eC (.int 0)))) (tB' (e2 eqW (eSl slW (eVar 0) (oSome (eVar 2)) oNone) (eSl slW (eVar 0) oNone (oSome (e2 subW (eVar 1) (eVar 2))))))) (sRet (eVar 2)) sNext)
def S_least_period : Sv :=
  (sSeq (sSet 1 (eA lenW (aCons (eVar 0) aNil)))
  (sSeq (sFor (iRange2 (aCons (eC (.int 1)) (aCons (eVar 1) aNil))) (gvName 2) Pr.B_least_period_1)
  (sRet (eVar 1))))
def F_least_period : Fn := fnF 3 S_least_period
def B_meetings_1 : Sv :=
  (sAug 7 (· - ·) (eC (.int 1)))
def S_meetings : Sv :=
  (sSeq (sExpr (eCall (eN 1 Pr.F_check_script) [] (aCons (eVar 0) aNil)))
  (sSeq (sExpr (eCall (eN 1 Pr.F_check_script) [] (aCons (eVar 1) aNil)))
  (sSeq (sIf (tOr' (tB' (e2 gtW (eProp 3 Pr.F_Script_many (eVar 0)) (eC (.int 1)))) (tB' (e2 gtW (eProp 3 Pr.F_Script_many (eVar 1)) (eC (.int 1))))) sStuck sNext)
  (sSeq (sSet 2 (eCall (eN 1 Pr.F_classes_of) [] (aCons (e2 addW (e1 (fldW 10 (okF FTg 10)) (eVar 0)) (e1 (fldW 10 (okF FTg 10)) (eVar 1))) aNil)))
  (sSeq (sSet 3 (eIf (tB' (e2 eqW (eA lenW (aCons (eVar 2) aNil)) (eC (.int 1)))) (eCall (eN 1 Pr.F_period_of) [] (aCons (e2 ixW (eVar 2) (eC (.int 0))) aNil)) (eC (.int 1))))
  (sSeq (sSet 4 (eComp [5] (iRange2 (aCons (eC (.int 1)) (aCons (e2 addW (e2 addW (eC (.int 1000)) (eVar 3)) (eC (.int 1))) aNil))) (gvName 5) tvYes (eCall (eN 3 Pr.F_is_same_at) [] (aCons (e1 (fldW 10 (okF FTg 10)) (eVar 0)) (aCons (e1 (fldW 10 (okF FTg 10)) (eVar 1)) (aCons (eVar 5) aNil))))))
  (sSeq (sSet 6 (eCall (eN 1 Pr.F_least_period) [] (aCons (eSl slW (eVar 4) (oSome (eC (.int 1000))) oNone) aNil)))
  (sSeq (sSet 7 (e2 addW (eC (.int 1000)) (eC (.int 1))))
  (sSeq (sWhile (tAnd' (tB' (e2 gtW (eVar 7) (eC (.int 1)))) (tB' (e2 eqW (e2 ixW (eVar 4) (e2 subW (eVar 7) (eC (.int 2)))) (e2 ixW (eVar 4) (e2 addW (e2 subW (eVar 7) (eC (.int 2))) (eVar 6)))))) Pr.B_meetings_1)
  (sSeq (sSet 8 (eComp [9] (iRange1 (aCons (eVar 6) aNil)) (gvName 9) (tB' (e2 ixW (eVar 4) (e2 addW (e2 subW (eVar 7) (eC (.int 1))) (eVar 9)))) (e2 modW (eA intW (aCons (e2 addW (eVar 7) (eVar 9)) aNil)) (eVar 6))))
  (sRet (eA tupW (aCons (eA tupleW (aCons (eComp [5] (iRange2 (aCons (eC (.int 1)) (aCons (eVar 7) aNil))) (gvName 5) (tB' (e2 ixW (eVar 4) (e2 subW (eVar 5) (eC (.int 1))))) (eVar 5)) aNil)) (aCons (eVar 7) (aCons (eVar 6) (aCons (eA tupleW (aCons (eA sortedIW (aCons (eVar 8) aNil)) aNil)) aNil))))))))))))))))
def F_meetings : Fn := fnF 10 S_meetings
def S_unlike_always : Sv :=
  (sSeq (sExpr (eCall (eN 1 Pr.F_check_script) [] (aCons (eVar 0) aNil)))
  (sSeq (sIf (tB' (e2 gtW (eProp 3 Pr.F_Script_many (eVar 0)) (eC (.int 1)))) sStuck sNext)
  (sSeq (sSet 1 (e2 ixW (e1 (fldW 10 (okF FTg 10)) (eVar 0)) (eC (.int 0))))
  (sSeq (sSet 2 (eCall (eN 2 Pr.F_unlike_at) [] (aCons (eVar 1) (aCons (eC (.int 1)) aNil))))
  (sSeq (sIf (tB' (e2 eqW (eCall (eN 1 Pr.F_bend_of) [] (aCons (eVar 1) aNil)) (eC (.int 0)))) (sRet (eA tupW (aCons (eA tupW (aCons (eVar 2) aNil)) (aCons (e2 subW (eCall (eN 2 Pr.F_unlike_at) [] (aCons (eVar 1) (aCons (eC (.int 2)) aNil))) (eVar 2)) aNil)))) sNext)
  (sSeq (sSet 3 (eComp [4] (iRange2 (aCons (eC (.int 1)) (aCons (e2 addW (eCall (eN 1 Pr.F_bend_of) [] (aCons (eVar 1) aNil)) (eC (.int 1))) aNil))) (gvName 4) tvYes (eCall (eN 2 Pr.F_unlike_at) [] (aCons (eVar 1) (aCons (eVar 4) aNil)))))
  (sRet (eA tupW (aCons (eA tupleW (aCons (eSl slW (eVar 3) oNone (oSome (eCall (eN 1 Pr.F_least_period) [] (aCons (eVar 3) aNil)))) aNil)) (aCons (eC (.int 0)) aNil))))))))))
def F_unlike_always : Fn := fnF 5 S_unlike_always
def S_later_setting : Sv :=
  (sRet (eA tupW (aCons (e2 ixW (eVar 0) (eC (.int 0))) (aCons (e2 ixW (eVar 0) (eC (.int 1))) (aCons (e2 ixW (eVar 0) (eC (.int 2))) (aCons (e2 ixW (eVar 0) (eC (.int 3))) (aCons (e2 addW (e2 ixW (eVar 0) (eC (.int 4))) (eVar 1)) aNil)))))))
def F_later_setting : Fn := fnF 2 S_later_setting
def S_shows : Sv :=
  (sSeq (sExpr (eCall (eN 1 Pr.F_check_line) [] (aCons (eVar 0) aNil)))
  (sSeq (sIf (tNot' (tB' (eCall (eN 3 Pr.F_is_between) [] (aCons (eVar 1) (aCons (eC (.int 0)) (aCons (eC (.int 1000000000000000000000000000000)) aNil)))))) (sRaise 21 55 (eVar 1)) sNext)
  (sRet (e2 neW (eCall (eN 1 Pr.F_plain_of) [] (aCons (eCall (eN 2 Pr.F_later_setting) [] (aCons (eProp 0 Pr.F_Line_setting (eVar 0)) (aCons (eVar 1) aNil))) aNil)) (eProp 0 Pr.F_Line_plain (eVar 0))))))
def F_shows : Fn := fnF 2 S_shows
def S_check_step : Sv :=
  (sIf (tNot' (tB' (eCall (eN 3 Pr.F_is_between) [] (aCons (eVar 0) (aCons (eC (.int 1)) (aCons (eC (.int 1000000000000000000000000000000)) aNil)))))) (sRaise 21 55 (eVar 0)) sNext)
def F_check_step : Fn := fnF 1 S_check_step
def S_many_copies : Sv :=
  (sSeq (sIf (tB' (e2 eqW (e2 ixW (eVar 0) (eC (.int 3))) (eC (.int 0)))) (sRet (eC (.int 1))) sNext)
  (sSeq (sSet 2 (eCall (eN 1 Pr.F_shared_of) [] (aCons (eVar 0) aNil)))
  (sRet (e2 fdivW (eVar 2) (eCall (eN 2 Pr.F_common) [] (aCons (eVar 2) (aCons (eVar 1) aNil)))))))
def F_many_copies : Fn := fnF 3 S_many_copies
def S_round_of : Sv :=
  (sSeq (sExpr (eCall (eN 1 Pr.F_check_line) [] (aCons (eVar 0) aNil)))
  (sSeq (sExpr (eCall (eN 1 Pr.F_check_step) [] (aCons (eVar 1) aNil)))
  (sRet (eCall (eN 2 Pr.F_many_copies) [] (aCons (eProp 0 Pr.F_Line_setting (eVar 0)) (aCons (eVar 1) aNil))))))
def F_round_of : Fn := fnF 2 S_round_of
def S_mark_of : Sv :=
  (sRet (e2 ixW (eCall (eN 1 Pr.F_plain_of) [] (aCons (eVar 0) aNil)) (eC (.int 4))))
def F_mark_of : Fn := fnF 1 S_mark_of
def S_place_of : Sv :=
  (sSeq (sIf (tB' (e2 neW (eSl slW (eCall (eN 1 Pr.F_plain_of) [] (aCons (eVar 0) aNil)) oNone (oSome (eC (.int 4)))) (eSl slW (eCall (eN 1 Pr.F_plain_of) [] (aCons (eVar 2) aNil)) oNone (oSome (eC (.int 4)))))) (sRet (eC .non)) sNext)
  (sSeq (sIf (tB' (e2 eqW (eA lenW (aCons (eCall (eN 1 Pr.F_terms_of) [] (aCons (eVar 0) aNil)) aNil)) (eC (.int 1)))) (sRet (eC (.int 0))) sNext)
  (sSeq (sSet 3 (eCall (eN 1 Pr.F_shared_of) [] (aCons (eVar 0) aNil)))
  (sSeq (sSet 4 (eCall (eN 1 Pr.F_mark_of) [] (aCons (eVar 0) aNil)))
  (sSeq (sSet 5 (eCall (eN 2 Pr.F_summed) [] (aCons (eCall (eN 1 Pr.F_mark_of) [] (aCons (eVar 2) aNil)) (aCons (eA tupW (aCons (e2 subW (e2 ixW (eVar 4) (eC (.int 1))) (e2 ixW (eVar 4) (eC (.int 0)))) (aCons (e2 ixW (eVar 4) (eC (.int 1))) aNil))) aNil))))
  (sSeq (sIf (tB' (e2 neW (e2 modW (eVar 3) (e2 ixW (eVar 5) (eC (.int 1)))) (eC (.int 0)))) (sRet (eC .non)) sNext)
  (sSeq (sSet 6 (e2 mulW (e2 ixW (eVar 5) (eC (.int 0))) (e2 fdivW (eVar 3) (e2 ixW (eVar 5) (eC (.int 1))))))
  (sSeq (sSet 7 (eCall (eN 2 Pr.F_common) [] (aCons (eVar 3) (aCons (eVar 1) aNil))))
  (sSeq (sIf (tB' (e2 neW (e2 modW (eA intW (aCons (eVar 6) aNil)) (eVar 7)) (eC (.int 0)))) (sRet (eC .non)) sNext)
  (sSeq (sSet 8 (e2 fdivW (eVar 3) (eVar 7)))
  (sRet (e2 modW (eA intW (aCons (e2 mulW (e2 fdivW (eVar 6) (eVar 7)) (eCall (eN 2 Pr.F_inverse) [] (aCons (e2 fdivW (eVar 1) (eVar 7)) (aCons (eVar 8) aNil)))) aNil)) (eVar 8)))))))))))))
def F_place_of : Fn := fnF 9 S_place_of
def S_copy_on : Sv :=
  (sSeq (sExpr (eCall (eN 1 Pr.F_check_line) [] (aCons (eVar 0) aNil)))
  (sSeq (sExpr (eCall (eN 1 Pr.F_check_step) [] (aCons (eVar 1) aNil)))
  (sSeq (sExpr (eCall (eN 1 Pr.F_check_line) [] (aCons (eVar 2) aNil)))
  (sRet (eCall (eN 3 Pr.F_place_of) [] (aCons (eProp 0 Pr.F_Line_setting (eVar 0)) (aCons (eVar 1) (aCons (eProp 0 Pr.F_Line_setting (eVar 2)) aNil))))))))
def F_copy_on : Fn := fnF 3 S_copy_on
def S_copies_between : Sv :=
  (sSeq (sExpr (eCall (eN 1 Pr.F_check_line) [] (aCons (eVar 0) aNil)))
  (sSeq (sExpr (eCall (eN 1 Pr.F_check_step) [] (aCons (eVar 1) aNil)))
  (sSeq (sExpr (eCall (eN 1 Pr.F_check_line) [] (aCons (eVar 2) aNil)))
  (sSeq (sSet 3 (eCall (eN 3 Pr.F_place_of) [] (aCons (eProp 0 Pr.F_Line_setting (eVar 0)) (aCons (eVar 1) (aCons (eProp 0 Pr.F_Line_setting (eVar 2)) aNil)))))
  (sSeq (sIf (tB' (e1 isNW (eVar 3))) (sRet (eC .non)) sNext)
  (sRet (eA tupW (aCons (eVar 3) (aCons (e2 subW (e2 subW (eCall (eN 2 Pr.F_many_copies) [] (aCons (eProp 0 Pr.F_Line_setting (eVar 0)) (aCons (eVar 1) aNil))) (eC (.int 1))) (eVar 3)) aNil)))))))))
def F_copies_between : Fn := fnF 4 S_copies_between
def B_check_sizes_1 : Sv :=
  (sSeq (sIf (tOr' (tB' (e2 geW (eVar 2) (eC (.int 8)))) (tNot' (tB' (eCall (eN 3 Pr.F_is_between) [] (aCons (eVar 3) (aCons (eVar 1) (aCons (eC (.int 1000)) aNil))))))) (sRaise 31 56 (eVar 2)) sNext)
  (sIf (tAnd' (tB' (e2 gtW (eVar 2) (eC (.int 0)))) (tB' (e2 leW (eVar 3) (e2 ixW (eVar 0) (e2 subW (eVar 2) (eC (.int 1))))))) (sRaise 31 56 (eVar 2)) sNext))
def S_check_sizes : Sv :=
  (sSeq (sIf (tOr' (tNot' (tB' (eA (isiW isT0) (aCons (eVar 0) (aCons (eC (.ty "tuple")) aNil))))) (tB' (e2 eqW (eA lenW (aCons (eVar 0) aNil)) (eC (.int 0))))) (sRaise 31 56 (eC .non)) sNext)
  (sFor (iEnumAV (aCons (eVar 0) aNil)) (gvTup 2 (gvCons (gvName 2) (gvCons (gvName 3) gvNil))) Pr.B_check_sizes_1))
def F_check_sizes : Fn := fnF 4 S_check_sizes
def S_Box_init : Sv :=
  (sSeq (sExpr (eCall (eN 2 Pr.F_check_sizes) [] (aCons (eVar 1) (aCons (eC (.int 1)) aNil))))
  (sSeq (sExpr (eCall (eN 2 Pr.F_check_sizes) [] (aCons (eVar 2) (aCons (eC (.int 1)) aNil))))
  (sSeq (sExpr (eCall (eN 2 Pr.F_check_sizes) [] (aCons (eVar 3) (aCons (eC (.int 0)) aNil))))
  (sSeq (sFldS 11 (okF FTg 11) (eVar 0) (eVar 1))
  (sSeq (sFldS 12 (okF FTg 12) (eVar 0) (eVar 2))
  (sFldS 13 (okF FTg 13) (eVar 0) (eVar 3)))))))
def F_Box_init : Fn := fnF 4 S_Box_init
def S_Box_eq : Sv :=
  (sSeq (sIf (tNot' (tB' (eA (isiW isT0) (aCons (eVar 1) (aCons (eC (.cls 4)) aNil))))) (sRet (eC (.bl false))) sNext)
  (sRet (e2 eqW (eA lstW (aCons (e1 (fldW 11 (okF FTg 11)) (eVar 0)) (aCons (e1 (fldW 12 (okF FTg 12)) (eVar 0)) (aCons (e1 (fldW 13 (okF FTg 13)) (eVar 0)) aNil)))) (eA lstW (aCons (e1 (fldW 11 (okF FTg 11)) (eVar 1)) (aCons (e1 (fldW 12 (okF FTg 12)) (eVar 1)) (aCons (e1 (fldW 13 (okF FTg 13)) (eVar 1)) aNil)))))))
def F_Box_eq : Fn := fnF 2 S_Box_eq
def S_is_setting : Sv :=
  (sSeq (sIf (tOr' (tNot' (tB' (eA (isiW isT0) (aCons (eVar 0) (aCons (eC (.ty "tuple")) aNil))))) (tOr' (tB' (e2 neW (eA lenW (aCons (eVar 0) aNil)) (eC (.int 5)))) (tNot' (tB' (eCall (eN 2 Pr.F_is_one_of) [] (aCons (e2 ixW (eVar 0) (eC (.int 0))) (aCons (eC (.ktup [.str "in", .str "out", .str "over"])) aNil))))))) (sRet (eC (.bl false))) sNext)
  (sSeq (sAsg (eVar 0) (gvTup 5 (gvCons (gvName 2) (gvCons (gvName 3) (gvCons (gvName 4) (gvCons (gvName 5) (gvCons (gvName 6) gvNil)))))))
  (sSeq (sIf (tOr' (tNot' (tB' (eCall (eN 3 Pr.F_is_between) [] (aCons (eVar 3) (aCons (eC (.int 1)) (aCons (eVar 1) aNil)))))) (tOr' (tNot' (tB' (eCall (eN 3 Pr.F_is_between) [] (aCons (eVar 4) (aCons (eC (.int 1)) (aCons (eVar 1) aNil)))))) (tNot' (tB' (eCall (eN 3 Pr.F_is_between) [] (aCons (eVar 5) (aCons (eC (.int 0)) (aCons (eVar 1) aNil)))))))) (sRet (eC (.bl false))) sNext)
  (sRet (eAnd (eCall (eN 3 Pr.F_is_between) [] (aCons (eVar 6) (aCons (eC (.int 0)) (aCons (eVar 1) aNil)))) (eAnd (eCall (eN 3 Pr.F_wheel_fits) [] (aCons (eVar 2) (aCons (eVar 3) (aCons (eVar 4) aNil)))) (e1 notW (eCall (eN 4 Pr.F_is_stroke) [] (aCons (eVar 2) (aCons (eVar 3) (aCons (eVar 4) (aCons (eVar 5) aNil))))))))))))
def F_is_setting : Fn := fnF 7 S_is_setting
def S_check_box : Sv :=
  (sIf (tNot' (tB' (eA (isiW isT0) (aCons (eVar 0) (aCons (eC (.cls 4)) aNil))))) (sRaise 30 55 (eVar 0)) sNext)
def F_check_box : Fn := fnF 1 S_check_box
def B_settings_in_1 : Sv :=
  (sExpr (eBM tyL extW (eVar 1) (aCons (eComp [5] (iAny (e1 (fldW 13 (okF FTg 13)) (eVar 0))) (gvName 5) tvYes (eA tupW (aCons (eVar 2) (aCons (eVar 3) (aCons (eVar 4) (aCons (eVar 5) (aCons (eC (.int 0)) aNil))))))) aNil)))
def B_settings_in_2 : Sv :=
  (sFor (iAny (e1 (fldW 12 (okF FTg 12)) (eVar 0))) (gvName 4) Pr.B_settings_in_1)
def B_settings_in_3 : Sv :=
  (sFor (iAny (e1 (fldW 11 (okF FTg 11)) (eVar 0))) (gvName 3) Pr.B_settings_in_2)
def S_settings_in : Sv :=
  (sSeq (sSet 1 (eA lstC aNil))
  (sSeq (sFor (iAny (eC (.ktup [.str "in", .str "out", .str "over"]))) (gvName 2) Pr.B_settings_in_3)
  (sFrz 1 (sRet (eA sortedTW (aCons (eComp [6] (iSeq (eVar 1)) (gvName 6) (tB' (eCall (eN 2 Pr.F_is_setting) [] (aCons (eVar 6) (aCons (eC (.int 1000)) aNil)))) (eVar 6)) aNil))))))
def F_settings_in : Fn := fnF 7 S_settings_in
def S_is_seen : Sv :=
  (sSeq (sIf (tOr' (tNot' (tB' (eA (isiW isT0) (aCons (eVar 0) (aCons (eC (.ty "tuple")) aNil))))) (tOr' (tB' (e2 neW (eA lenW (aCons (eVar 0) aNil)) (eC (.int 2)))) (tNot' (tB' (eCall (eN 2 Pr.F_is_one_of) [] (aCons (e2 ixW (eVar 0) (eC (.int 0))) (aCons (eC (.ktup [.str "side", .str "look", .str "loops", .str "unlike", .str "rounds", .str "widest", .str "narrowest"])) aNil))))))) (sRet (eC (.bl false))) sNext)
  (sSeq (sIf (tB' (e2 eqW (e2 ixW (eVar 0) (eC (.int 0))) (eC (.str "side")))) (sRet (eCall (eN 2 Pr.F_is_one_of) [] (aCons (e2 ixW (eVar 0) (eC (.int 1))) (aCons (eC (.ktup [.str "in", .str "out", .str "over"])) aNil)))) sNext)
  (sRet (eIf (tB' (e2 eqW (e2 ixW (eVar 0) (eC (.int 0))) (eC (.str "look")))) (eCall (eN 2 Pr.F_is_one_of) [] (aCons (e2 ixW (eVar 0) (eC (.int 1))) (aCons (eC (.ktup [.str "circle", .str "pointed", .str "round", .str "looped"])) aNil))) (eCall (eN 3 Pr.F_is_between) [] (aCons (e2 ixW (eVar 0) (eC (.int 1))) (aCons (eC (.int 0)) (aCons (eC (.int 1000000000000000000000000000000)) aNil))))))))
def F_is_seen : Fn := fnF 1 S_is_seen
def B_check_seen_1 : Sv :=
  (sIf (tOr' (tB' (e2 geW (eVar 1) (eC (.int 6)))) (tNot' (tB' (eCall (eN 1 Pr.F_is_seen) [] (aCons (eVar 2) aNil))))) (sRaise 32 56 (eVar 1)) sNext)
def S_check_seen : Sv :=
  (sSeq (sIf (tNot' (tB' (eA (isiW isT0) (aCons (eVar 0) (aCons (eC (.ty "tuple")) aNil))))) (sRaise 32 56 (eC .non)) sNext)
  (sFor (iEnumAV (aCons (eVar 0) aNil)) (gvTup 2 (gvCons (gvName 1) (gvCons (gvName 2) gvNil))) Pr.B_check_seen_1))
def F_check_seen : Fn := fnF 3 S_check_seen
def B_fitting_1 : Sv :=
  (sSeq (sSet 4 (eCall (eN 1 Pr.F_features_of) [] (aCons (eVar 3) aNil)))
  (sIf (tB' (eA allW (aCons (eComp [5, 6] (iAny (eVar 1)) (gvTup 2 (gvCons (gvName 5) (gvCons (gvName 6) gvNil))) tvYes (e2 eqW (e2 dgetW (eVar 4) (eVar 5)) (eVar 6))) aNil))) (sExpr (eBM tyL appW (eVar 2) (aCons (eSl slW (eVar 3) oNone (oSome (eC (.int 4)))) aNil))) sNext))
def S_fitting : Sv :=
  (sSeq (sExpr (eCall (eN 1 Pr.F_check_box) [] (aCons (eVar 0) aNil)))
  (sSeq (sExpr (eCall (eN 1 Pr.F_check_seen) [] (aCons (eVar 1) aNil)))
  (sSeq (sSet 2 (eA lstC aNil))
  (sSeq (sFor (iSeq (eCall (eN 1 Pr.F_settings_in) [] (aCons (eVar 0) aNil))) (gvName 3) Pr.B_fitting_1)
  (sFrz 2 (sRet (eA tupleW (aCons (eVar 2) aNil))))))))
def F_fitting : Fn := fnF 7 S_fitting
def S_with_teeth : Sv :=
  (sRet (eComp [1] (iRange1 (aCons (e2 ixW (eVar 0) (eC (.int 1))) aNil)) (gvName 1) tvYes (e2 addW (eSl slW (eVar 0) oNone (oSome (eC (.int 4)))) (eA tupW (aCons (eVar 1) aNil)))))
def F_with_teeth : Fn := fnF 2 S_with_teeth
def B_drawn_by_1 : Sv :=
  (sIf (tB' (e2 eqW (eSl slW (eCall (eN 1 Pr.F_plain_of) [] (aCons (eVar 4) aNil)) oNone (oSome (eC (.int 4)))) (eSl slW (eVar 2) oNone (oSome (eC (.int 4)))))) (sExpr (eBM tyL extW (eVar 3) (aCons (eComp [5] (iSeq (eCall (eN 1 Pr.F_with_teeth) [] (aCons (eVar 4) aNil))) (gvName 5) (tB' (e2 eqW (eCall (eN 1 Pr.F_plain_of) [] (aCons (eVar 5) aNil)) (eVar 2))) (eVar 5)) aNil))) sNext)
def S_drawn_by : Sv :=
  (sSeq (sExpr (eCall (eN 1 Pr.F_check_box) [] (aCons (eVar 0) aNil)))
  (sSeq (sExpr (eCall (eN 1 Pr.F_check_line) [] (aCons (eVar 1) aNil)))
  (sSeq (sIf (tB' (e2 gtW (eA max3W (aCons (e1 (fldW 1 (okF FTg 1)) (eVar 1)) (aCons (e1 (fldW 2 (okF FTg 2)) (eVar 1)) (aCons (e1 (fldW 3 (okF FTg 3)) (eVar 1)) aNil)))) (eC (.int 1000)))) (sRaise 31 56 (eC .non)) sNext)
  (sSeq (sSet 2 (eProp 0 Pr.F_Line_plain (eVar 1)))
  (sSeq (sSet 3 (eA lstC aNil))
  (sSeq (sFor (iSeq (eCall (eN 1 Pr.F_settings_in) [] (aCons (eVar 0) aNil))) (gvName 4) Pr.B_drawn_by_1)
  (sFrz 3 (sRet (eA tupleW (aCons (eVar 3) aNil))))))))))
def F_drawn_by : Fn := fnF 6 S_drawn_by
def S_Drawn_init : Sv :=
  (sSeq (sFldS 14 (okF FTg 14) (eVar 0) (eVar 1))
  (sSeq (sFldS 15 (okF FTg 15) (eVar 0) (eVar 2))
  (sSeq (sFldS 16 (okF FTg 16) (eVar 0) (eVar 3))
  (sFldS 17 (okF FTg 17) (eVar 0) (eIf (tB' (e1 isNW (eVar 3))) (eC (.int 0)) (e2 addW (e1 (fldW 17 (okF FTg 17)) (eVar 3)) (eC (.int 1))))))))
def F_Drawn_init : Fn := fnF 4 S_Drawn_init
def S_Sheet_init : Sv :=
  (sFldS 18 (okF FTg 18) (eVar 0) (eMake mkEnd 5 (eN 4 Pr.F_Drawn_init) [] (aCons eNewK (aCons (eC (.int 0)) (aCons (eC .non) aNil)))))
def F_Sheet_init : Fn := fnF 1 S_Sheet_init
def S_Sheet_total : Sv :=
  (sRet (eCall (eN 1 Pr.F_lines_in) [] (aCons (e1 (fldW 14 (okF FTg 14)) (e1 (fldW 18 (okF FTg 18)) (eVar 0))) aNil)))
def F_Sheet_total : Fn := fnF 1 S_Sheet_total
def S_Sheet_changes : Sv :=
  (sRet (e1 (fldW 17 (okF FTg 17)) (e1 (fldW 18 (okF FTg 18)) (eVar 0))))
def F_Sheet_changes : Fn := fnF 1 S_Sheet_changes
def S_Sheet_has : Sv :=
  (sSeq (sExpr (eCall (eN 1 Pr.F_check_line) [] (aCons (eVar 1) aNil)))
  (sRet (eCall (eN 2 Pr.F_has_setting) [] (aCons (e1 (fldW 14 (okF FTg 14)) (e1 (fldW 18 (okF FTg 18)) (eVar 0))) (aCons (eProp 0 Pr.F_Line_setting (eVar 1)) aNil)))))
def F_Sheet_has : Fn := fnF 2 S_Sheet_has
def S_Sheet_undo : Sv :=
  (sSeq (sIf (tB' (e1 isNW (e1 (fldW 16 (okF FTg 16)) (e1 (fldW 18 (okF FTg 18)) (eVar 0))))) sStuck sNext)
  (sFldS 18 (okF FTg 18) (eVar 0) (e1 (fldW 16 (okF FTg 16)) (e1 (fldW 18 (okF FTg 18)) (eVar 0)))))
def F_Sheet_undo : Fn := fnF 1 S_Sheet_undo
def S_Held_init : Sv :=
  (sSeq (sFldS 18 (okF FTg 18) (eVar 0) (eVar 1))
  (sFldS 19 (okF FTg 19) (eVar 0) (eVar 2)))
def F_Held_init : Fn := fnF 3 S_Held_init
def S_SheetTrial_init : Sv :=
  (sSeq (sFldS 20 (okF FTg 20) (eVar 0) (eVar 1))
  (sFldS 21 (okF FTg 21) (eVar 0) (eC .non)))
def F_SheetTrial_init : Fn := fnF 2 S_SheetTrial_init
def S_SheetTrial_enter : Sv :=
  (sSeq (sFldS 21 (okF FTg 21) (eVar 0) (eMake mkEnd 6 (eN 3 Pr.F_Held_init) [] (aCons (e1 (fldW 18 (okF FTg 18)) (e1 (fldW 20 (okF FTg 20)) (eVar 0))) (aCons (e1 (fldW 21 (okF FTg 21)) (eVar 0)) aNil))))
  (sRet (e1 (fldW 20 (okF FTg 20)) (eVar 0))))
def F_SheetTrial_enter : Fn := fnF 1 S_SheetTrial_enter
def S_Sheet_trial : Sv :=
  (sRet (eMake mkEnd 7 (eN 2 Pr.F_SheetTrial_init) [] (aCons (eVar 0) aNil)))
def F_Sheet_trial : Fn := fnF 1 S_Sheet_trial
def S_names_in : Sv :=
  (sRet (eIf (tB' (e2 (inFW false) (e2 ixW (eVar 0) (eC (.int 0))) (eA tupW (aCons (eC (.str "alike")) (aCons (eC (.str "same")) (aCons (eC (.str "within")) aNil)))))) (eSl slW (eVar 0) (oSome (eC (.int 1))) (oSome (eC (.int 3)))) (eSl slW (eVar 0) (oSome (eC (.int 1))) (oSome (eC (.int 2))))))
def F_names_in : Fn := fnF 1 S_names_in
def S_holds : Sv :=
  (sSeq (sSet 2 (e1 (fldW 10 (okF FTg 10)) (e2 ixW (eVar 1) (e2 ixW (eVar 0) (eC (.int 1))))))
  (sSeq (sIf (tB' (e2 eqW (e2 ixW (eVar 0) (eC (.int 0))) (eC (.str "lines")))) (sRet (e2 eqW (eCall (eN 1 Pr.F_lines_in) [] (aCons (eCall (eN 2 Pr.F_groups_of) [] (aCons (eVar 2) (aCons (e2 ixW (eVar 0) (eC (.int 2))) aNil))) aNil)) (e2 ixW (eVar 0) (eC (.int 3))))) sNext)
  (sSeq (sIf (tB' (e2 eqW (e2 ixW (eVar 0) (eC (.int 0))) (eC (.str "turns")))) (sRet (e2 eqW (eCall (eN 1 Pr.F_turns_of) [] (aCons (eCall (eN 2 Pr.F_groups_of) [] (aCons (eVar 2) (aCons (e2 ixW (eVar 0) (eC (.int 2))) aNil))) aNil)) (e2 ixW (eVar 0) (eC (.int 3))))) sNext)
  (sSeq (sSet 3 (e1 (fldW 10 (okF FTg 10)) (e2 ixW (eVar 1) (e2 ixW (eVar 0) (eC (.int 2))))))
  (sSeq (sIf (tB' (e2 eqW (e2 ixW (eVar 0) (eC (.int 0))) (eC (.str "alike")))) (sRet (e1 isNW (eCall (eN 2 Pr.F_parting_of) [] (aCons (eVar 2) (aCons (eVar 3) aNil))))) sNext)
  (sRet (eIf (tB' (e2 eqW (e2 ixW (eVar 0) (eC (.int 0))) (eC (.str "same")))) (eCall (eN 3 Pr.F_is_same_at) [] (aCons (eVar 2) (aCons (eVar 3) (aCons (e2 ixW (eVar 0) (eC (.int 3))) aNil)))) (eCall (eN 3 Pr.F_is_within_at) [] (aCons (eVar 2) (aCons (eVar 3) (aCons (e2 ixW (eVar 0) (eC (.int 3))) aNil)))))))))))
def F_holds : Fn := fnF 4 S_holds
def S_Book_init : Sv :=
  (sSeq (sFldS 22 (okF FTg 22) (eVar 0) eNewK)
  (sSeq (sFldS 23 (okF FTg 23) (eVar 0) (eA tupW aNil))
  (sFldS 24 (okF FTg 24) (eVar 0) (eA tupW aNil))))
def F_Book_init : Fn := fnF 1 S_Book_init
def S_Book_names : Sv :=
  (sRet (eA tupleW (aCons (eA sortedIW (aCons (eA listW (aCons (e1 (fldW 22 (okF FTg 22)) (eVar 0)) aNil)) aNil)) aNil)))
def F_Book_names : Fn := fnF 1 S_Book_names
def S_Book_claims : Sv :=
  (sRet (e1 (fldW 23 (okF FTg 23)) (eVar 0)))
def F_Book_claims : Fn := fnF 1 S_Book_claims
def S_Book_changes : Sv :=
  (sRet (eA lenW (aCons (e1 (fldW 24 (okF FTg 24)) (eVar 0)) aNil)))
def F_Book_changes : Fn := fnF 1 S_Book_changes
def S_Book_become : Sv :=
  (sSeq (sFldS 24 (okF FTg 24) (eVar 0) (e2 addW (e1 (fldW 24 (okF FTg 24)) (eVar 0)) (eA tupW (aCons (eA tupW (aCons (e1 (fldW 22 (okF FTg 22)) (eVar 0)) (aCons (e1 (fldW 23 (okF FTg 23)) (eVar 0)) aNil))) aNil))))
  (sSeq (sFldS 22 (okF FTg 22) (eVar 0) (eVar 1))
  (sFldS 23 (okF FTg 23) (eVar 0) (eVar 2))))
def F_Book_become : Fn := fnF 3 S_Book_become
def S_Book_check_known : Sv :=
  (sIf (tB' (e2 (inFW true) (eVar 1) (eVar 0))) (sRaise 34 55 (eVar 1)) sNext)
def F_Book_check_known : Fn := fnF 2 S_Book_check_known
def S_Book_getitem : Sv :=
  (sSeq (sExpr (eMeth 11 41 (eN 2 Pr.F_Book_check_known) [] (eVar 0) (aCons (eVar 1) aNil)))
  (sRet (e2 dgetW (e1 (fldW 22 (okF FTg 22)) (eVar 0)) (eVar 1))))
def F_Book_getitem : Fn := fnF 2 S_Book_getitem
def S_Book_iter : Sv :=
  sStuck
def F_Book_iter : Fn := fnF 1 S_Book_iter
def S_Book_contains : Sv :=
  (sRet (eAnd (eA (isiW isT0) (aCons (eVar 1) (aCons (eC (.ty "str")) aNil))) (e2 (inDct false) (eVar 1) (e1 (fldW 22 (okF FTg 22)) (eVar 0)))))
def F_Book_contains : Fn := fnF 2 S_Book_contains
def S_Book_len : Sv :=
  (sRet (eA lenW (aCons (e1 (fldW 22 (okF FTg 22)) (eVar 0)) aNil)))
def F_Book_len : Fn := fnF 1 S_Book_len
def S_Book_lift : Sv :=
  (sSeq (sIf (tNot' (tB' (eCall (eN 3 Pr.F_is_between) [] (aCons (eVar 1) (aCons (eC (.int 0)) (aCons (e2 subW (eA lenW (aCons (e1 (fldW 23 (okF FTg 23)) (eVar 0)) aNil)) (eC (.int 1))) aNil)))))) (sRaise 26 55 (eVar 1)) sNext)
  (sExpr (eMeth 11 40 (eN 3 Pr.F_Book_become) [] (eVar 0) (aCons (e1 (fldW 22 (okF FTg 22)) (eVar 0)) (aCons (e2 addW (eSl slW (e1 (fldW 23 (okF FTg 23)) (eVar 0)) oNone (oSome (eVar 1))) (eSl slW (e1 (fldW 23 (okF FTg 23)) (eVar 0)) (oSome (e2 addW (eVar 1) (eC (.int 1)))) oNone)) aNil)))))
def F_Book_lift : Fn := fnF 2 S_Book_lift
def S_Kept_init : Sv :=
  (sSeq (sFldS 22 (okF FTg 22) (eVar 0) (eVar 1))
  (sSeq (sFldS 23 (okF FTg 23) (eVar 0) (eVar 2))
  (sSeq (sFldS 24 (okF FTg 24) (eVar 0) (eVar 3))
  (sFldS 19 (okF FTg 19) (eVar 0) (eVar 4)))))
def F_Kept_init : Fn := fnF 5 S_Kept_init
def S_Trial_init : Sv :=
  (sSeq (sFldS 25 (okF FTg 25) (eVar 0) (eVar 1))
  (sFldS 26 (okF FTg 26) (eVar 0) (eC .non)))
def F_Trial_init : Fn := fnF 2 S_Trial_init
def S_Trial_enter : Sv :=
  (sSeq (sFldS 26 (okF FTg 26) (eVar 0) (eMake mkEnd 9 (eN 5 Pr.F_Kept_init) [] (aCons (e1 (fldW 22 (okF FTg 22)) (e1 (fldW 25 (okF FTg 25)) (eVar 0))) (aCons (e1 (fldW 23 (okF FTg 23)) (e1 (fldW 25 (okF FTg 25)) (eVar 0))) (aCons (e1 (fldW 24 (okF FTg 24)) (e1 (fldW 25 (okF FTg 25)) (eVar 0))) (aCons (e1 (fldW 26 (okF FTg 26)) (eVar 0)) aNil))))))
  (sRet (e1 (fldW 25 (okF FTg 25)) (eVar 0))))
def F_Trial_enter : Fn := fnF 1 S_Trial_enter
def S_Book_trial : Sv :=
  (sRet (eMake mkEnd 10 (eN 2 Pr.F_Trial_init) [] (aCons (eVar 0) aNil)))
def F_Book_trial : Fn := fnF 1 S_Book_trial
def S_is_part : Sv :=
  (sSeq (sIf (tOr' (tNot' (tB' (eA (isiW isT0) (aCons (eVar 0) (aCons (eC (.ty "tuple")) aNil))))) (tOr' (tB' (e2 neW (eA lenW (aCons (eVar 0) aNil)) (eC (.int 2)))) (tNot' (tB' (eCall (eN 3 Pr.F_is_between) [] (aCons (e2 ixW (eVar 0) (eC (.int 1))) (aCons (eC (.int 1)) (aCons (eC .non) aNil)))))))) (sRet (eC (.bl false))) sNext)
  (sRet (eAnd (eCall (eN 3 Pr.F_is_between) [] (aCons (e2 ixW (eVar 0) (eC (.int 0))) (aCons (eC (.int 0)) (aCons (e2 subW (e2 ixW (eVar 0) (eC (.int 1))) (eC (.int 1))) aNil)))) (e2 eqW (eCall (eN 2 Pr.F_reduced) [] (aCons (e2 ixW (eVar 0) (eC (.int 0))) (aCons (e2 ixW (eVar 0) (eC (.int 1))) aNil))) (eVar 0)))))
def F_is_part : Fn := fnF 1 S_is_part
def S_are_matched : Sv :=
  (sRet (eAnd (e2 eqW (eSl slW (eVar 0) oNone (oSome (eC (.int 2)))) (eSl slW (eVar 1) oNone (oSome (eC (.int 2))))) (e2 eqW (e2 ixW (eVar 0) (eC (.int 2))) (eCall (eN 2 Pr.F_summed) [] (aCons (e2 ixW (eVar 1) (eC (.int 2))) (aCons (eCall (eN 2 Pr.F_scaled) [] (aCons (e2 ixW (eVar 0) (eC (.int 1))) (aCons (eVar 2) aNil))) aNil))))))
def F_are_matched : Fn := fnF 3 S_are_matched
def S_is_same_line : Sv :=
  (sSeq (sIf (tOr' (tNot' (tB' (eA (isiW isT0) (aCons (eVar 2) (aCons (eC (.ty "tuple")) aNil))))) (tB' (e2 neW (eA lenW (aCons (eVar 2) aNil)) (eC (.int 3))))) (sRet (eC (.bl false))) sNext)
  (sSeq (sAsg (eVar 2) (gvTup 3 (gvCons (gvName 3) (gvCons (gvName 4) (gvCons (gvName 5) gvNil)))))
  (sSeq (sIf (tOr' (tNot' (tB' (eA (isiW isT0) (aCons (eVar 3) (aCons (eC (.ty "bool")) aNil))))) (tOr' (tNot' (tB' (eA (isiW isT0) (aCons (eVar 4) (aCons (eC (.ty "bool")) aNil))))) (tNot' (tB' (eCall (eN 1 Pr.F_is_part) [] (aCons (eVar 5) aNil)))))) (sRet (eC (.bl false))) sNext)
  (sSeq (sSet 6 (eCall (eN 1 Pr.F_terms_of) [] (aCons (eVar 0) aNil)))
  (sSeq (sSet 7 (eCall (eN 1 Pr.F_terms_of) [] (aCons (eVar 1) aNil)))
  (sSeq (sIf (tOr' (tB' (e2 neW (eA lenW (aCons (eVar 6) aNil)) (eA lenW (aCons (eVar 7) aNil)))) (tAnd' (tB' (eVar 3)) (tB' (e2 eqW (eA lenW (aCons (eVar 6) aNil)) (eC (.int 1)))))) (sRet (eC (.bl false))) sNext)
  (sSeq (sIf (tB' (eVar 3)) (sSet 7 (e1 revTW (eVar 7))) sNext)
  (sSeq (sIf (tB' (eVar 4)) (sSet 7 (eA tupleW (aCons (eComp [8, 9, 10] (iTupV (eVar 7)) (gvTup 3 (gvCons (gvName 8) (gvCons (gvName 9) (gvCons (gvName 10) gvNil)))) tvYes (eA tupW (aCons (eVar 8) (aCons (e1 negW (eVar 9)) (aCons (eVar 10) aNil))))) aNil))) sNext)
  (sRet (eA allW (aCons (eComp [11, 12] (iZipV (aCons (eVar 6) (aCons (eVar 7) aNil))) (gvTup 2 (gvCons (gvName 11) (gvCons (gvName 12) gvNil))) tvYes (eCall (eN 3 Pr.F_are_matched) [] (aCons (eVar 11) (aCons (eVar 12) (aCons (eVar 5) aNil))))) aNil)))))))))))
def F_is_same_line : Fn := fnF 13 S_is_same_line
def S_is_parting : Sv :=
  (sSeq (sIf (tOr' (tNot' (tB' (eA (isiW isT0) (aCons (eVar 4) (aCons (eC (.ty "tuple")) aNil))))) (tOr' (tB' (e2 neW (eA lenW (aCons (eVar 4) aNil)) (eC (.int 2)))) (tNot' (tB' (eCall (eN 3 Pr.F_is_between) [] (aCons (e2 ixW (eVar 4) (eC (.int 0))) (aCons (eC (.int 0)) (aCons (e2 subW (eA lenW (aCons (eVar 0) aNil)) (eC (.int 1))) aNil)))))))) (sRet (eC (.bl false))) sNext)
  (sSeq (sSet 5 (e2 ixW (eVar 0) (e2 ixW (eVar 4) (eC (.int 0)))))
  (sSeq (sIf (tNot' (tB' (eCall (eN 3 Pr.F_is_between) [] (aCons (e2 ixW (eVar 4) (eC (.int 1))) (aCons (eC (.int 0)) (aCons (eIf (tB' (e1 isNW (e1 (fldW 8 (okF FTg 8)) (eVar 5)))) (eC .non) (e2 subW (e1 (fldW 8 (okF FTg 8)) (eVar 5)) (eC (.int 1)))) aNil)))))) (sRet (eC (.bl false))) sNext)
  (sSeq (sSet 6 (eMeth 2 29 (eN 2 Pr.F_Row_setting_at) [] (eVar 5) (aCons (eVar 2) aNil)))
  (sSeq (sIf (tOr' (tB' (e2 neW (eSl slW (eVar 6) oNone (oSome (eC (.int 4)))) (eSl slW (eVar 3) oNone (oSome (eC (.int 4)))))) (tB' (e2 neW (e2 addW (e2 ixW (eVar 6) (eC (.int 4))) (e2 mulW (e2 ixW (eVar 4) (eC (.int 1))) (e1 (fldW 7 (okF FTg 7)) (eVar 5)))) (e2 ixW (eVar 3) (eC (.int 4)))))) (sRet (eC (.bl false))) sNext)
  (sRet (e1 notW (eCall (eN 2 Pr.F_has_setting) [] (aCons (eCall (eN 2 Pr.F_groups_of) [] (aCons (eVar 1) (aCons (eVar 2) aNil))) (aCons (eVar 3) aNil))))))))))
def F_is_parting : Fn := fnF 7 S_is_parting
def S_is_copy_within : Sv :=
  (sSeq (sSet 4 (eMeth 2 29 (eN 2 Pr.F_Row_setting_at) [] (eVar 0) (aCons (eVar 3) aNil)))
  (sSeq (sSet 5 (e2 addW (eSl slW (eVar 4) oNone (oSome (eC (.int 4)))) (eA tupW (aCons (e2 addW (e2 ixW (eVar 4) (eC (.int 4))) (e2 mulW (eVar 1) (e1 (fldW 7 (okF FTg 7)) (eVar 0)))) aNil))))
  (sSeq (sAsg (eCall (eN 2 Pr.F_lots_of) [] (aCons (eVar 2) (aCons (eVar 3) aNil))) (gvTup 2 (gvCons (gvName 6) (gvCons (gvName 7) gvNil))))
  (sRet (eCall (eN 2 Pr.F_has_setting) [] (aCons (eDisp [((eVar 6), (eVar 7))]) (aCons (eVar 5) aNil)))))))
def F_is_copy_within : Fn := fnF 8 S_is_copy_within
def S_is_part_within : Sv :=
  (sSeq (sAsg (eCall (eN 2 Pr.F_lots_of) [] (aCons (eVar 0) (aCons (eVar 4) aNil))) (gvTup 2 (gvCons (gvName 5) (gvCons (gvName 6) gvNil))))
  (sSeq (sIf (tB' (e2 eqW (e2 ixW (eVar 5) (eC (.int 0))) (eC (.str "circle")))) (sRet (eCall (eN 4 Pr.F_is_copy_within) [] (aCons (eVar 0) (aCons (eVar 1) (aCons (eVar 3) (aCons (eVar 4) aNil)))))) sNext)
  (sSeq (sSet 7 (eCall (eN 1 Pr.F_shared_of) [] (aCons (eMeth 2 29 (eN 2 Pr.F_Row_setting_at) [] (eVar 0) (aCons (eVar 4) aNil)) aNil)))
  (sSeq (sSet 8 (e2 fdivW (eVar 7) (eCall (eN 2 Pr.F_common) [] (aCons (eVar 7) (aCons (e2 mulW (eVar 2) (e1 (fldW 7 (okF FTg 7)) (eVar 0))) aNil)))))
  (sSeq (sIf (tB' (e1 notNW (e1 (fldW 8 (okF FTg 8)) (eVar 3)))) (sRet (eAnd (e2 leW (eVar 8) (e1 (fldW 8 (okF FTg 8)) (eVar 3))) (eA allW (aCons (eComp [9] (iRange1 (aCons (eVar 8) aNil)) (gvName 9) tvYes (eCall (eN 4 Pr.F_is_copy_within) [] (aCons (eVar 0) (aCons (e2 addW (eVar 1) (e2 mulW (eVar 2) (eVar 9))) (aCons (eVar 3) (aCons (eVar 4) aNil)))))) aNil)))) sNext)
  (sSeq (sSet 10 (eCall (eN 1 Pr.F_shared_of) [] (aCons (eMeth 2 29 (eN 2 Pr.F_Row_setting_at) [] (eVar 3) (aCons (eVar 4) aNil)) aNil)))
  (sSeq (sSet 11 (e2 fdivW (eVar 10) (eCall (eN 2 Pr.F_common) [] (aCons (eVar 10) (aCons (e1 (fldW 7 (okF FTg 7)) (eVar 3)) aNil)))))
  (sRet (eAnd (eCall (eN 4 Pr.F_is_copy_within) [] (aCons (eVar 0) (aCons (eVar 1) (aCons (eVar 3) (aCons (eVar 4) aNil))))) (e2 eqW (e2 modW (eVar 11) (eVar 8)) (eC (.int 0))))))))))))
def F_is_part_within : Fn := fnF 12 S_is_part_within
def S_are_copies_within : Sv :=
  (sRet (eA allW (aCons (eComp [5] (iRange3 (aCons (eVar 1) (aCons (e1 (fldW 8 (okF FTg 8)) (eVar 0)) (aCons (eVar 2) aNil)))) (gvName 5) tvYes (eCall (eN 4 Pr.F_is_copy_within) [] (aCons (eVar 0) (aCons (eVar 5) (aCons (eVar 3) (aCons (eVar 4) aNil)))))) aNil)))
def F_are_copies_within : Fn := fnF 6 S_are_copies_within
def B_is_cover_1 : Sv :=
  (sIf (tB' (e1 isNW (e1 (fldW 8 (okF FTg 8)) (eVar 0)))) (sIf (tNot' (tB' (eCall (eN 5 Pr.F_is_part_within) [] (aCons (eVar 0) (aCons (eVar 5) (aCons (eA lenW (aCons (eVar 3) aNil)) (aCons (e2 ixW (eVar 1) (eVar 4)) (aCons (eVar 2) aNil)))))))) (sRet (eC (.bl false))) sNext) (sIf (tNot' (tB' (eCall (eN 5 Pr.F_are_copies_within) [] (aCons (eVar 0) (aCons (eVar 5) (aCons (eA lenW (aCons (eVar 3) aNil)) (aCons (e2 ixW (eVar 1) (eVar 4)) (aCons (eVar 2) aNil)))))))) (sRet (eC (.bl false))) sNext))
def S_is_cover : Sv :=
  (sSeq (sIf (tOr' (tNot' (tB' (eA (isiW isT0) (aCons (eVar 3) (aCons (eC (.ty "tuple")) aNil))))) (tNot' (tB' (eChain leW leW (eC (.int 1)) (eA lenW (aCons (eVar 3) aNil)) (eC (.int 30)))))) (sRet (eC (.bl false))) sNext)
  (sSeq (sIf (tNot' (tB' (eA allW (aCons (eComp [4] (iAny (eVar 3)) (gvName 4) tvYes (eCall (eN 3 Pr.F_is_between) [] (aCons (eVar 4) (aCons (eC (.int 0)) (aCons (e2 subW (eA lenW (aCons (eVar 1) aNil)) (eC (.int 1))) aNil))))) aNil)))) (sRet (eC (.bl false))) sNext)
  (sSeq (sFor (iEnumAV (aCons (eVar 3) aNil)) (gvTup 2 (gvCons (gvName 5) (gvCons (gvName 4) gvNil))) Pr.B_is_cover_1)
  (sRet (eC (.bl true))))))
def F_is_cover : Fn := fnF 6 S_is_cover
def S_is_within_shown : Sv :=
  (sSeq (sIf (tOr' (tNot' (tB' (eA (isiW isT0) (aCons (eVar 3) (aCons (eC (.ty "tuple")) aNil))))) (tB' (e2 neW (eA lenW (aCons (eVar 3) aNil)) (eA lenW (aCons (eVar 0) aNil))))) (sRet (eC (.bl false))) sNext)
  (sRet (eA allW (aCons (eComp [4, 5] (iZipV (aCons (eVar 0) (aCons (eVar 3) aNil))) (gvTup 2 (gvCons (gvName 4) (gvCons (gvName 5) gvNil))) tvYes (eCall (eN 4 Pr.F_is_cover) [] (aCons (eVar 4) (aCons (eVar 1) (aCons (eVar 2) (aCons (eVar 5) aNil)))))) aNil))))
def F_is_within_shown : Fn := fnF 6 S_is_within_shown
def S_shift_of : Sv :=
  (sSeq (sSet 2 (eComp [3, 4] (iZipV (aCons (eVar 0) (aCons (eVar 1) aNil))) (gvTup 2 (gvCons (gvName 3) (gvCons (gvName 4) gvNil))) tvYes (eCall (eN 2 Pr.F_summed) [] (aCons (e2 ixW (eVar 3) (eC (.int 2))) (aCons (eCall (eN 2 Pr.F_scaled) [] (aCons (e1 negW (eC (.int 1))) (aCons (e2 ixW (eVar 4) (eC (.int 2))) aNil))) aNil)))))
  (sSeq (sIf (tB' (e2 eqW (eA lenW (aCons (eVar 0) aNil)) (eC (.int 1)))) (sRet (eCall (eN 2 Pr.F_scaled) [] (aCons (e2 ixW (e2 ixW (eVar 0) (eC (.int 0))) (eC (.int 1))) (aCons (e2 ixW (eVar 2) (eC (.int 0))) aNil)))) sNext)
  (sSeq (sPar 3 4 (aCons (e2 ixW (e2 ixW (eVar 0) (eC (.int 0))) (eC (.int 1))) (aCons (e2 ixW (e2 ixW (eVar 0) (eC (.int 1))) (eC (.int 1))) aNil)))
  (sSeq (sSet 5 (eIf (tB' (e2 gtW (eA absW (aCons (eVar 4) aNil)) (eC (.int 1)))) (eCall (eN 2 Pr.F_inverse) [] (aCons (eVar 3) (aCons (eA absW (aCons (eVar 4) aNil)) aNil))) (eC (.int 0))))
  (sSeq (sSet 6 (e2 fdivW (e2 subW (eC (.int 1)) (e2 mulW (eVar 5) (eVar 3))) (eVar 4)))
  (sRet (eCall (eN 2 Pr.F_summed) [] (aCons (eCall (eN 2 Pr.F_scaled) [] (aCons (eVar 5) (aCons (e2 ixW (eVar 2) (eC (.int 0))) aNil))) (aCons (eCall (eN 2 Pr.F_scaled) [] (aCons (eVar 6) (aCons (e2 ixW (eVar 2) (eC (.int 1))) aNil))) aNil)))))))))
def F_shift_of : Fn := fnF 7 S_shift_of
def B_paper_for_1 : Sv :=
  (sSeq (sSet 4 (eIf (tB' (eVar 2)) (e1 revTW (eCall (eN 1 Pr.F_terms_of) [] (aCons (eVar 1) aNil))) (eCall (eN 1 Pr.F_terms_of) [] (aCons (eVar 1) aNil))))
  (sSeq (sIf (tB' (eVar 3)) (sSet 4 (eA tupleW (aCons (eComp [5, 6, 7] (iTupV (eVar 4)) (gvTup 3 (gvCons (gvName 5) (gvCons (gvName 6) (gvCons (gvName 7) gvNil)))) tvYes (eA tupW (aCons (eVar 5) (aCons (e1 negW (eVar 6)) (aCons (eVar 7) aNil))))) aNil))) sNext)
  (sIf (tB' (e2 eqW (eComp [8] (iTupV (eCall (eN 1 Pr.F_terms_of) [] (aCons (eVar 0) aNil))) (gvName 8) tvYes (eSl slW (eVar 8) oNone (oSome (eC (.int 2))))) (eComp [8] (iTupV (eVar 4)) (gvName 8) tvYes (eSl slW (eVar 8) oNone (oSome (eC (.int 2))))))) (sSeq (sSet 9 (eA tupW (aCons (eVar 2) (aCons (eVar 3) (aCons (eCall (eN 2 Pr.F_shift_of) [] (aCons (eCall (eN 1 Pr.F_terms_of) [] (aCons (eVar 0) aNil)) (aCons (eVar 4) aNil))) aNil)))))
  (sIf (tB' (eCall (eN 3 Pr.F_is_same_line) [] (aCons (eVar 0) (aCons (eVar 1) (aCons (eVar 9) aNil))))) (sRet (eVar 9)) sNext)) sNext)))
def B_paper_for_2 : Sv :=
  (sFor (iTupV (eA tupW (aCons (eC (.bl false)) (aCons (eC (.bl true)) aNil)))) (gvName 3) Pr.B_paper_for_1)
def S_paper_for : Sv :=
  (sSeq (sFor (iTupV (eA tupW (aCons (eC (.bl false)) (aCons (eC (.bl true)) aNil)))) (gvName 2) Pr.B_paper_for_2)
  (sRet (eC .non)))
def F_paper_for : Fn := fnF 10 S_paper_for
def S_certify_same : Sv :=
  (sSeq (sIf (tNot' (tB' (eCall (eN 2 Pr.F_same) [] (aCons (eVar 0) (aCons (eVar 1) aNil))))) (sRet (eC .non)) sNext)
  (sRet (eA tupW (aCons (eA tupW (aCons (eC (.str "same line")) (aCons (eProp 0 Pr.F_Line_setting (eVar 0)) (aCons (eProp 0 Pr.F_Line_setting (eVar 1)) aNil)))) (aCons (eCall (eN 2 Pr.F_paper_for) [] (aCons (eProp 0 Pr.F_Line_setting (eVar 0)) (aCons (eProp 0 Pr.F_Line_setting (eVar 1)) aNil))) aNil)))))
def F_certify_same : Fn := fnF 2 S_certify_same
def S_certify_parts : Sv :=
  (sSeq (sExpr (eCall (eN 1 Pr.F_check_script) [] (aCons (eVar 0) aNil)))
  (sSeq (sExpr (eCall (eN 1 Pr.F_check_script) [] (aCons (eVar 1) aNil)))
  (sSeq (sExpr (eCall (eN 1 Pr.F_check_number) [] (aCons (eVar 2) aNil)))
  (sSeq (sSet 3 (eCall (eN 3 Pr.F_missing_copy) [] (aCons (e1 (fldW 10 (okF FTg 10)) (eVar 0)) (aCons (e1 (fldW 10 (okF FTg 10)) (eVar 1)) (aCons (eVar 2) aNil)))))
  (sSeq (sIf (tB' (e1 isNW (eVar 3))) (sRet (eC .non)) sNext)
  (sSeq (sSet 4 (eMeth 2 29 (eN 2 Pr.F_Row_setting_at) [] (e2 ixW (e1 (fldW 10 (okF FTg 10)) (eVar 0)) (e2 ixW (eVar 3) (eC (.int 0)))) (aCons (eVar 2) aNil)))
  (sSeq (sSet 5 (e2 addW (eSl slW (eVar 4) oNone (oSome (eC (.int 4)))) (eA tupW (aCons (e2 addW (e2 ixW (eVar 4) (eC (.int 4))) (e2 mulW (e2 ixW (eVar 3) (eC (.int 1))) (e1 (fldW 7 (okF FTg 7)) (e2 ixW (e1 (fldW 10 (okF FTg 10)) (eVar 0)) (e2 ixW (eVar 3) (eC (.int 0))))))) aNil))))
  (sRet (eA tupW (aCons (eA tupW (aCons (eC (.str "parts")) (aCons (e1 (fldW 9 (okF FTg 9)) (eVar 0)) (aCons (e1 (fldW 9 (okF FTg 9)) (eVar 1)) (aCons (eVar 2) (aCons (eVar 5) aNil)))))) (aCons (eVar 3) aNil)))))))))))
def F_certify_parts : Fn := fnF 6 S_certify_parts
def S_is_cover_at : Sv :=
  (sSeq (sIf (tB' (e1 isNW (e1 (fldW 8 (okF FTg 8)) (eVar 0)))) (sRet (eCall (eN 5 Pr.F_is_part_within) [] (aCons (eVar 0) (aCons (eVar 1) (aCons (eVar 2) (aCons (e2 ixW (eVar 3) (eVar 4)) (aCons (eVar 5) aNil))))))) sNext)
  (sRet (eCall (eN 5 Pr.F_are_copies_within) [] (aCons (eVar 0) (aCons (eVar 1) (aCons (eVar 2) (aCons (e2 ixW (eVar 3) (eVar 4)) (aCons (eVar 5) aNil))))))))
def F_is_cover_at : Fn := fnF 6 S_is_cover_at
def B_cover_of_1 : Sv :=
  (sSeq (sSet 6 (eComp [7] (iRange1 (aCons (eA lenW (aCons (eVar 1) aNil)) aNil)) (gvName 7) (tB' (eCall (eN 6 Pr.F_is_cover_at) [] (aCons (eVar 0) (aCons (eVar 5) (aCons (eVar 3) (aCons (eVar 1) (aCons (eVar 7) (aCons (eVar 2) aNil)))))))) (eVar 7)))
  (sExpr (eBM tyL extW (eVar 4) (aCons (eSl slW (eVar 6) oNone (oSome (eC (.int 1)))) aNil))))
def B_cover_of_2 : Sv :=
  (sSeq (sSet 4 (eA lstC aNil))
  (sSeq (sFor (iRange1 (aCons (eVar 3) aNil)) (gvName 5) Pr.B_cover_of_1)
  (sIf (tB' (e2 eqW (eA lenW (aCons (eVar 4) aNil)) (eVar 3))) (sFrz 4 (sRet (eA tupleW (aCons (eVar 4) aNil)))) sNext)))
def S_cover_of : Sv :=
  (sSeq (sFor (iRange2 (aCons (eC (.int 1)) (aCons (e2 addW (eC (.int 30)) (eC (.int 1))) aNil))) (gvName 3) Pr.B_cover_of_2)
  (sRet (eC .non)))
def F_cover_of : Fn := fnF 8 S_cover_of
def S_certify_within : Sv :=
  (sSeq (sExpr (eCall (eN 1 Pr.F_check_script) [] (aCons (eVar 0) aNil)))
  (sSeq (sExpr (eCall (eN 1 Pr.F_check_script) [] (aCons (eVar 1) aNil)))
  (sSeq (sExpr (eCall (eN 1 Pr.F_check_number) [] (aCons (eVar 2) aNil)))
  (sSeq (sIf (tNot' (tB' (eCall (eN 3 Pr.F_is_within_at) [] (aCons (e1 (fldW 10 (okF FTg 10)) (eVar 0)) (aCons (e1 (fldW 10 (okF FTg 10)) (eVar 1)) (aCons (eVar 2) aNil)))))) (sRet (eC .non)) sNext)
  (sSeq (sSet 3 (eA tupleW (aCons (eComp [4] (iAny (e1 (fldW 10 (okF FTg 10)) (eVar 0))) (gvName 4) tvYes (eCall (eN 3 Pr.F_cover_of) [] (aCons (eVar 4) (aCons (e1 (fldW 10 (okF FTg 10)) (eVar 1)) (aCons (eVar 2) aNil))))) aNil)))
  (sRet (eA tupW (aCons (eA tupW (aCons (eC (.str "within")) (aCons (e1 (fldW 9 (okF FTg 9)) (eVar 0)) (aCons (e1 (fldW 9 (okF FTg 9)) (eVar 1)) (aCons (eVar 2) aNil))))) (aCons (eVar 3) aNil)))))))))
def F_certify_within : Fn := fnF 5 S_certify_within
def S_is_place : Sv :=
  (sRet (eCall (eN 3 Pr.F_is_between) [] (aCons (eVar 0) (aCons (eC (.int 1)) (aCons (eC (.int 100000000000000000000000000000)) aNil)))))
def F_is_place : Fn := fnF 1 S_is_place
def S_Console_init : Sv :=
  (sFldS 25 (okF FTg 25) (eVar 0) (eMake mkEnd 11 (eN 1 Pr.F_Book_init) [] aNil))
def F_Console_init : Fn := fnF 1 S_Console_init
def S_Console_script_of : Sv :=
  (sSeq (sIf (tB' (e2 (inFW true) (eVar 1) (e1 (fldW 25 (okF FTg 25)) (eVar 0)))) (sRaise 34 55 (eVar 1)) sNext)
  (sRet (e2 ixW (e1 (fldW 25 (okF FTg 25)) (eVar 0)) (eVar 1))))
def F_Console_script_of : Fn := fnF 2 S_Console_script_of
def S_Console_stored : Sv :=
  (sSeq (sIf (tB' (e1 isNW (eCall (eN 1 Pr.F_rows_of) [] (aCons (eVar 2) aNil)))) (sRet (eC .non)) sNext)
  (sSeq (sAsg (eMake mkEnd 3 (eN 2 Pr.F_Script_init) [] (aCons (eVar 2) aNil)) (gvSub (e1 (fldW 25 (okF FTg 25)) (eVar 0)) (eVar 1)))
  (sRet (e1 fmtW (eProp 3 Pr.F_Script_many (e2 ixW (e1 (fldW 25 (okF FTg 25)) (eVar 0)) (eVar 1)))))))
def F_Console_stored : Fn := fnF 3 S_Console_stored
end Pr
namespace PrA
open PySem PySem.Spec PyProof.Rows L2 PU
def B_law_cup_1 : Sv :=
  (sSet 2 (e2 modW (eA intW (aCons (e2 addW (e2 mulW (eVar 2) (eC (.int 31))) (eVar 3)) aNil)) (eC (.int 1000000007))))
def S_law_cup : Sv :=
  (sSeq (sSet 2 (eIf (tB' (e2 ltW (eVar 1) (eA lenW (aCons (eVar 0) aNil)))) (e2 ixW (eVar 0) (eVar 1)) (e2 addW (e2 mulW (eC (.int 5167)) (eVar 1)) (eC (.int 90173)))))
  (sSeq (sFor (iSeq (eIf (tB' (e2 geW (eVar 1) (eA lenW (aCons (eVar 0) aNil)))) (eSl slW (eVar 0) oNone (oSome (eC (.int 2)))) (eA lstW aNil))) (gvName 3) PrA.B_law_cup_1)
  (sRet (eA lstC (aCons (e2 modW (eA intW (aCons (e2 addW (e2 addW (e2 mulW (eVar 2) (eC (.int 4093))) (e2 mulW (eC (.int 269)) (eVar 1))) (eC (.int 19))) aNil)) (eC (.int 2147483629))) (aCons (eIf (tOr' (tB' (e2 ltW (eVar 2) (eC (.int 0)))) (tB' (e2 geW (eVar 2) (e2 powW (eC (.int 10)) (eC (.int 18)))))) (eA absW (aCons (eVar 2) aNil)) (eC (.int 0))) aNil))))))
def F_law_cup : Fn := fnC 4 S_law_cup
def S_law_stroke : Sv :=
  (sRet (eAnd (e2 eqW (e2 ixW (eVar 0) (eC (.int 0))) (eC (.str "in"))) (eAnd (e2 eqW (e2 ixW (eVar 0) (eC (.int 1))) (e2 mulW (eC (.int 2)) (e2 ixW (eVar 0) (eC (.int 2))))) (e2 eqW (e2 ixW (eVar 0) (eC (.int 3))) (e2 ixW (eVar 0) (eC (.int 2)))))))
def F_law_stroke : Fn := fnF 1 S_law_stroke
def S_law_line : Sv :=
  (sRet (eMake mkEnd 0 (eN 6 Pr.F_Line_init) [] (aCons (e2 ixW (eVar 0) (eC (.int 0))) (aCons (e2 ixW (eVar 0) (eC (.int 1))) (aCons (e2 ixW (eVar 0) (eC (.int 2))) (aCons (e2 ixW (eVar 0) (eC (.int 3))) (aCons (e2 ixW (eVar 0) (eC (.int 4))) aNil)))))))
def F_law_line : Fn := fnF 1 S_law_line
def S_law_sip : Sv :=
  (sSeq (sAsg (e2 modW (eA intW (aCons (e2 addW (e2 mulW (e2 ixW (eVar 0) (eC (.int 0))) (eC (.int 48271))) (eC (.int 13))) aNil)) (eC (.int 2147483629))) (gvSub (eVar 0) (eC (.int 0))))
  (sSeq (sIf (tB' (e2 gtW (e2 ixW (eVar 0) (eC (.int 1))) (eC (.int 0)))) (sSeq (sAsg (eA divmodW (aCons (e2 ixW (eVar 0) (eC (.int 1))) (aCons (eVar 1) aNil))) (gvTup 2 (gvCons (gvSub (eVar 0) (eC (.int 1))) (gvCons (gvName 2) gvNil))))
  (sRet (eVar 2))) sNext)
  (sRet (e2 modW (eA intW (aCons (e2 fdivW (e2 ixW (eVar 0) (eC (.int 0))) (eC (.int 1019))) aNil)) (eVar 1)))))
def F_law_sip : Fn := fnF 3 S_law_sip
def S_law_pick : Sv :=
  (sRet (e2 ixW (eVar 1) (eCall (eN 2 PrA.F_law_sip) [] (aCons (eVar 0) (aCons (eA lenW (aCons (eVar 1) aNil)) aNil)))))
def F_law_pick : Fn := fnF 2 S_law_pick
def B_law_common_1 : Sv :=
  (sIf (tB' (e2 gtW (eVar 3) (eC (.int 0)))) (sPar 2 3 (aCons (eVar 3) (aCons (e2 modW (eA intW (aCons (eVar 2) aNil)) (eVar 3)) aNil))) sNext)
def S_law_common : Sv :=
  (sSeq (sPar 2 3 (aCons (eVar 0) (aCons (eVar 1) aNil)))
  (sSeq (sFor (iRange1 (aCons (eC (.int 200)) aNil)) (gvName 4) PrA.B_law_common_1)
  (sRet (eVar 2))))
def F_law_common : Fn := fnF 5 S_law_common
def S_law_part : Sv :=
  (sSeq (sSet 2 (e2 modW (eA intW (aCons (eVar 0) aNil)) (eVar 1)))
  (sSeq (sSet 3 (eCall (eN 2 PrA.F_law_common) [] (aCons (eVar 1) (aCons (eVar 2) aNil))))
  (sRet (eA tupW (aCons (e2 fdivW (eVar 2) (eVar 3)) (aCons (e2 fdivW (eVar 1) (eVar 3)) aNil))))))
def F_law_part : Fn := fnF 4 S_law_part
def S_law_sum : Sv :=
  (sRet (eCall (eN 2 PrA.F_law_part) [] (aCons (e2 addW (e2 mulW (e2 ixW (eVar 0) (eC (.int 0))) (e2 ixW (eVar 1) (eC (.int 1)))) (e2 mulW (e2 mulW (eVar 2) (e2 ixW (eVar 1) (eC (.int 0)))) (e2 ixW (eVar 0) (eC (.int 1))))) (aCons (e2 mulW (e2 ixW (eVar 0) (eC (.int 1))) (e2 ixW (eVar 1) (eC (.int 1)))) aNil))))
def F_law_sum : Fn := fnF 3 S_law_sum
def S_law_terms : Sv :=
  (sSeq (sAsg (eVar 0) (gvTup 5 (gvCons (gvName 1) (gvCons (gvName 2) (gvCons (gvName 3) (gvCons (gvName 4) (gvCons (gvName 5) gvNil)))))))
  (sSeq (sPar 6 7 (aCons (eCall (eN 2 PrA.F_law_common) [] (aCons (eVar 2) (aCons (eVar 3) aNil))) (aCons (eCall (eN 2 PrA.F_law_part) [] (aCons (eVar 5) (aCons (eVar 2) aNil))) aNil)))
  (sSeq (sSet 8 (eCall (eN 3 PrA.F_law_sum) [] (aCons (eVar 7) (aCons (eA tupW (aCons (eC (.int 1)) (aCons (eC (.int 2)) aNil))) (aCons (eC (.int 1)) aNil)))))
  (sSeq (sIf (tB' (e2 eqW (eVar 1) (eC (.str "in")))) (sRet (eA lstW (aCons (eA tupW (aCons (e2 subW (eVar 2) (eVar 3)) (aCons (e2 fdivW (eVar 3) (eVar 6)) (aCons (eVar 7) aNil)))) (aCons (eA tupW (aCons (eVar 4) (aCons (e2 subW (eC (.int 0)) (e2 fdivW (e2 subW (eVar 2) (eVar 3)) (eVar 6))) (aCons (eVar 7) aNil)))) aNil)))) sNext)
  (sSeq (sIf (tB' (e2 eqW (eVar 1) (eC (.str "out")))) (sRet (eA lstW (aCons (eA tupW (aCons (e2 addW (eVar 2) (eVar 3)) (aCons (e2 fdivW (eVar 3) (eVar 6)) (aCons (eVar 7) aNil)))) (aCons (eA tupW (aCons (eVar 4) (aCons (e2 fdivW (e2 addW (eVar 2) (eVar 3)) (eVar 6)) (aCons (eVar 8) aNil)))) aNil)))) sNext)
  (sRet (eA lstW (aCons (eA tupW (aCons (e2 subW (eVar 3) (eVar 2)) (aCons (e2 fdivW (eVar 3) (eVar 6)) (aCons (eVar 8) aNil)))) (aCons (eA tupW (aCons (eVar 4) (aCons (e2 fdivW (e2 subW (eVar 3) (eVar 2)) (eVar 6)) (aCons (eVar 7) aNil)))) aNil)))))))))
def F_law_terms : Fn := fnF 9 S_law_terms
def S_law_setting : Sv :=
  (sSeq (sPar3 2 3 4 (aCons (eCall (eN 2 PrA.F_law_pick) [] (aCons (eVar 0) (aCons (eA lstW (aCons (eC (.str "in")) (aCons (eC (.str "out")) (aCons (eC (.str "over")) aNil)))) aNil))) (aCons (e2 addW (eC (.int 1)) (eCall (eN 2 PrA.F_law_sip) [] (aCons (eVar 0) (aCons (eVar 1) aNil)))) (aCons (e2 addW (eC (.int 1)) (eCall (eN 2 PrA.F_law_sip) [] (aCons (eVar 0) (aCons (eVar 1) aNil)))) aNil))))
  (sSeq (sPar 5 6 (aCons (eA min2W (aCons (eVar 3) (aCons (eVar 4) aNil))) (aCons (e2 addW (eA max2W (aCons (eVar 3) (aCons (eVar 4) aNil))) (eIf (tB' (e2 eqW (eVar 3) (eVar 4))) (eC (.int 1)) (eC (.int 0)))) aNil)))
  (sSeq (sAsg (eIf (tB' (e2 eqW (eVar 2) (eC (.str "in")))) (eA tupW (aCons (eVar 6) (aCons (eVar 5) aNil))) (eIf (tB' (e2 eqW (eVar 2) (eC (.str "over")))) (eA tupW (aCons (eVar 5) (aCons (eVar 6) aNil))) (eA tupW (aCons (eVar 3) (aCons (eVar 4) aNil))))) (gvTup 2 (gvCons (gvName 7) (gvCons (gvName 8) gvNil))))
  (sSeq (sSet 9 (eCall (eN 2 PrA.F_law_pick) [] (aCons (eVar 0) (aCons (eA lstW (aCons (eC (.int 0)) (aCons (eC (.int 1)) (aCons (eVar 8) (aCons (eCall (eN 2 PrA.F_law_sip) [] (aCons (eVar 0) (aCons (e2 addW (eVar 1) (eC (.int 1))) aNil))) (aCons (eCall (eN 2 PrA.F_law_sip) [] (aCons (eVar 0) (aCons (e2 addW (e2 mulW (eC (.int 2)) (eVar 8)) (eC (.int 1))) aNil))) (aCons (eA absW (aCons (e2 subW (eVar 7) (eVar 8)) aNil)) aNil))))))) aNil))))
  (sSeq (sSet 10 (eA tupW (aCons (eVar 2) (aCons (eVar 7) (aCons (eVar 8) (aCons (eVar 9) (aCons (eCall (eN 2 PrA.F_law_pick) [] (aCons (eVar 0) (aCons (eA lstW (aCons (eC (.int 0)) (aCons (eC (.int 1)) (aCons (eCall (eN 2 PrA.F_law_sip) [] (aCons (eVar 0) (aCons (eVar 7) aNil))) (aCons (eCall (eN 2 PrA.F_law_sip) [] (aCons (eVar 0) (aCons (e2 mulW (eC (.int 3)) (eVar 7)) aNil))) aNil))))) aNil))) aNil)))))))
  (sRet (eIf (tB' (eCall (eN 1 PrA.F_law_stroke) [] (aCons (eVar 10) aNil))) (e2 addW (e2 addW (eSl slW (eVar 10) oNone (oSome (eC (.int 3)))) (eA tupW (aCons (e2 addW (eVar 9) (eC (.int 1))) aNil))) (eSl slW (eVar 10) (oSome (eC (.int 4))) oNone)) (eVar 10))))))))
def F_law_setting : Fn := fnF 11 S_law_setting
def S_law_form : Sv :=
  (sSeq (sSet 2 (eCall (eN 2 PrA.F_law_pick) [] (aCons (eVar 0) (aCons (eA lstW (aCons (eC (.int 0)) (aCons (eC (.int 1)) (aCons (eC (.int 1)) (aCons (eC (.int 2)) (aCons (eC (.int 3)) aNil)))))) aNil))))
  (sRet (eA tupW (aCons (eVar 2) (aCons (eIf (tB' (e2 gtW (eVar 2) (eC (.int 0)))) (eCall (eN 2 PrA.F_law_sip) [] (aCons (eVar 0) (aCons (e2 addW (eVar 1) (eC (.int 1))) aNil))) (e2 addW (eC (.int 1)) (eCall (eN 2 PrA.F_law_sip) [] (aCons (eVar 0) (aCons (eVar 1) aNil))))) aNil)))))
def F_law_form : Fn := fnF 3 S_law_form
def S_law_at : Sv :=
  (sRet (e2 addW (e2 mulW (e2 ixW (eVar 0) (eC (.int 0))) (eVar 1)) (e2 ixW (eVar 0) (eC (.int 1)))))
def F_law_at : Fn := fnF 2 S_law_at
def S_law_word : Sv :=
  (sSeq (sIf (tB' (e2 eqW (e2 ixW (eVar 0) (eC (.int 0))) (eC (.int 0)))) (sRet (eA strW (aCons (e2 ixW (eVar 0) (eC (.int 1))) aNil))) sNext)
  (sSeq (sSet 1 (eIf (tB' (e2 eqW (e2 ixW (eVar 0) (eC (.int 0))) (eC (.int 1)))) (eC (.str "n")) (e2 addW (eA strW (aCons (e2 ixW (eVar 0) (eC (.int 0))) aNil)) (eC (.str "n")))))
  (sRet (eIf (tB' (e2 eqW (e2 ixW (eVar 0) (eC (.int 1))) (eC (.int 0)))) (eVar 1) (e2 addW (e2 addW (eVar 1) (eC (.str "+"))) (eA strW (aCons (e2 ixW (eVar 0) (eC (.int 1))) aNil)))))))
def F_law_word : Fn := fnF 2 S_law_word
def S_law_values : Sv :=
  (sRet (e2 addW (eA tupW (aCons (e2 ixW (eVar 0) (eC (.int 0))) aNil)) (eA tupleW (aCons (eComp [2] (iAny (eSl slW (eVar 0) (oSome (eC (.int 1))) (oSome (eC (.int 5))))) (gvName 2) tvYes (eCall (eN 2 PrA.F_law_at) [] (aCons (eVar 2) (aCons (eVar 1) aNil)))) aNil))))
def F_law_values : Fn := fnF 3 S_law_values
def S_law_row : Sv :=
  (sSeq (sPar 1 2 (aCons (eCall (eN 2 PrA.F_law_pick) [] (aCons (eVar 0) (aCons (eA lstW (aCons (eC (.str "in")) (aCons (eC (.str "out")) (aCons (eC (.str "over")) aNil)))) aNil))) (aCons (eCall (eN 2 PrA.F_law_form) [] (aCons (eVar 0) (aCons (eC (.int 5)) aNil))) aNil)))
  (sSeq (sSet 3 (eA tupW (aCons (eA min2W (aCons (eC (.int 3)) (aCons (e2 addW (e2 ixW (eVar 2) (eC (.int 0))) (eCall (eN 2 PrA.F_law_sip) [] (aCons (eVar 0) (aCons (eC (.int 2)) aNil)))) aNil))) (aCons (e2 addW (e2 addW (e2 ixW (eVar 2) (eC (.int 1))) (eC (.int 1))) (eCall (eN 2 PrA.F_law_sip) [] (aCons (eVar 0) (aCons (eC (.int 6)) aNil)))) aNil))))
  (sSeq (sAsg (eIf (tB' (e2 neW (eVar 1) (eC (.str "over")))) (eA tupW (aCons (eVar 3) (aCons (eVar 2) aNil))) (eA tupW (aCons (eVar 2) (aCons (eVar 3) aNil)))) (gvTup 2 (gvCons (gvName 4) (gvCons (gvName 5) gvNil))))
  (sSeq (sIf (tAnd' (tB' (e2 eqW (eVar 1) (eC (.str "out")))) (tB' (e2 eqW (eCall (eN 2 PrA.F_law_sip) [] (aCons (eVar 0) (aCons (eC (.int 2)) aNil))) (eC (.int 0))))) (sPar 4 5 (aCons (eVar 5) (aCons (eVar 4) aNil))) sNext)
  (sSeq (sIf (tAnd' (tB' (e2 eqW (eCall (eN 2 PrA.F_law_sip) [] (aCons (eVar 0) (aCons (eC (.int 2)) aNil))) (eC (.int 0)))) (tB' (e2 neW (eVar 1) (eC (.str "out"))))) (sAsg (eIf (tB' (e2 eqW (eVar 1) (eC (.str "in")))) (eA tupW (aCons (eA tupW (aCons (eC (.int 3)) (aCons (eC (.int 0)) aNil))) (aCons (eA tupW (aCons (eCall (eN 2 PrA.F_law_pick) [] (aCons (eVar 0) (aCons (eA lstW (aCons (eC (.int 1)) (aCons (eC (.int 2)) aNil))) aNil))) (aCons (eC (.int 0)) aNil))) aNil))) (eA tupW (aCons (eA tupW (aCons (eCall (eN 2 PrA.F_law_pick) [] (aCons (eVar 0) (aCons (eA lstW (aCons (eC (.int 1)) (aCons (eC (.int 2)) aNil))) aNil))) (aCons (eC (.int 0)) aNil))) (aCons (eA tupW (aCons (eC (.int 3)) (aCons (eC (.int 0)) aNil))) aNil)))) (gvTup 2 (gvCons (gvName 4) (gvCons (gvName 5) gvNil)))) sNext)
  (sSeq (sSet 6 (eCall (eN 2 PrA.F_law_pick) [] (aCons (eVar 0) (aCons (eA lstW (aCons (eA tupW (aCons (eC (.int 0)) (aCons (eC (.int 0)) aNil))) (aCons (eA tupW (aCons (eC (.int 0)) (aCons (eC (.int 1)) aNil))) (aCons (eVar 5) (aCons (eCall (eN 2 PrA.F_law_form) [] (aCons (eVar 0) (aCons (eC (.int 4)) aNil))) (aCons (eCall (eN 2 PrA.F_law_form) [] (aCons (eVar 0) (aCons (eC (.int 9)) aNil))) aNil)))))) aNil))))
  (sSeq (sSet 7 (eCall (eN 2 PrA.F_law_pick) [] (aCons (eVar 0) (aCons (eA lstW (aCons (eA tupW (aCons (eC (.int 0)) (aCons (eC (.int 0)) aNil))) (aCons (eA tupW (aCons (eC (.int 0)) (aCons (eCall (eN 2 PrA.F_law_sip) [] (aCons (eVar 0) (aCons (eC (.int 9)) aNil))) aNil))) (aCons (eCall (eN 2 PrA.F_law_form) [] (aCons (eVar 0) (aCons (eC (.int 9)) aNil))) aNil)))) aNil))))
  (sSeq (sAsg (eCall (eN 2 PrA.F_law_pick) [] (aCons (eVar 0) (aCons (eA lstW (aCons (eA tupW (aCons (eC (.int 0)) (aCons (eC (.int 1)) aNil))) (aCons (eA tupW (aCons (eC (.int 0)) (aCons (eC (.int 1)) aNil))) (aCons (eA tupW (aCons (e2 addW (eC (.int 1)) (eCall (eN 2 PrA.F_law_sip) [] (aCons (eVar 0) (aCons (eC (.int 12)) aNil)))) (aCons (eC .non) aNil))) (aCons (eA tupW (aCons (e2 addW (eC (.int 1)) (eCall (eN 2 PrA.F_law_sip) [] (aCons (eVar 0) (aCons (eC (.int 12)) aNil)))) (aCons (e2 addW (eC (.int 2)) (eCall (eN 2 PrA.F_law_sip) [] (aCons (eVar 0) (aCons (eC (.int 5)) aNil)))) aNil))) aNil))))) aNil))) (gvTup 2 (gvCons (gvName 8) (gvCons (gvName 9) gvNil))))
  (sSeq (sSet 10 (eA tupW (aCons (eVar 1) (aCons (eVar 4) (aCons (eVar 5) (aCons (eVar 6) (aCons (eVar 7) (aCons (eVar 8) (aCons (eVar 9) aNil)))))))))
  (sSeq (sSet 11 (eComp [12] (iRange2 (aCons (eC (.int 1)) (aCons (eC (.int 30)) aNil))) (gvName 12) (tB' (eCall (eN 1 PrA.F_law_stroke) [] (aCons (eCall (eN 2 PrA.F_law_values) [] (aCons (eVar 10) (aCons (eVar 12) aNil))) aNil))) (eVar 12)))
  (sRet (eIf (tB' (e2 eqW (eVar 11) (eA lstW aNil))) (eVar 10) (e2 addW (e2 addW (eSl slW (eVar 10) oNone (oSome (eC (.int 3)))) (eA tupW (aCons (eA tupW (aCons (eC (.int 0)) (aCons (eC (.int 0)) aNil))) aNil))) (eSl slW (eVar 10) (oSome (eC (.int 4))) oNone))))))))))))))
def F_law_row : Fn := fnF 13 S_law_row
def B_law_text_1 : Sv :=
  (sSeq (sSet 3 (e2 addW (e2 addW (e2 addW (e2 addW (e2 ixW (eVar 2) (eC (.int 0))) (eC (.str " "))) (eM1 joinW (eC (.str " ")) (eComp [4] (iAny (eSl slW (eVar 2) (oSome (eC (.int 1))) (oSome (eC (.int 4))))) (gvName 4) tvYes (eCall (eN 1 PrA.F_law_word) [] (aCons (eVar 4) aNil))))) (eC (.str " from "))) (eCall (eN 1 PrA.F_law_word) [] (aCons (e2 ixW (eVar 2) (eC (.int 4))) aNil))))
  (sSeq (sIf (tB' (e2 gtW (e2 ixW (eVar 2) (eC (.int 5))) (eC (.int 0)))) (sSet 3 (e2 addW (e2 addW (e2 addW (eVar 3) (eC (.str " step "))) (eA strW (aCons (e2 ixW (eVar 2) (eC (.int 5))) aNil))) (eIf (tB' (e1 isNW (e2 ixW (eVar 2) (eC (.int 6))))) (eC (.str " round")) (e2 addW (eC (.str " times ")) (eA strW (aCons (e2 ixW (eVar 2) (eC (.int 6))) aNil)))))) sNext)
  (sExpr (eBM tyL appW (eVar 1) (aCons (eVar 3) aNil)))))
def S_law_text : Sv :=
  (sSeq (sSet 1 (eA lstC aNil))
  (sSeq (sFor (iAny (eVar 0)) (gvName 2) PrA.B_law_text_1)
  (sRet (eM1 joinW (eC (.str "\n")) (eVar 1)))))
def F_law_text : Fn := fnF 5 S_law_text
def B_law_rows_1 : Sv :=
  (sSeq (sSet 4 (e2 ixW (eVar 2) (e1 negW (eC (.int 1)))))
  (sSeq (sSet 5 (e2 addW (eSl slW (eVar 4) oNone (oSome (eC (.int 4)))) (eA tupW (aCons (eA tupW (aCons (eC (.int 0)) (aCons (eCall (eN 2 PrA.F_law_sip) [] (aCons (eVar 0) (aCons (eC (.int 12)) aNil))) aNil))) (aCons (e2 addW (eC (.int 1)) (eCall (eN 2 PrA.F_law_sip) [] (aCons (eVar 0) (aCons (eC (.int 12)) aNil)))) (aCons (eCall (eN 2 PrA.F_law_pick) [] (aCons (eVar 0) (aCons (eA lstW (aCons (eC .non) (aCons (eC (.int 2)) (aCons (eC (.int 3)) (aCons (eC (.int 6)) aNil))))) aNil))) aNil))))))
  (sExpr (eBM tyL appW (eVar 2) (aCons (eCall (eN 2 PrA.F_law_pick) [] (aCons (eVar 0) (aCons (eA lstW (aCons (eCall (eN 1 PrA.F_law_row) [] (aCons (eVar 0) aNil)) (aCons (eVar 5) (aCons (eVar 5) aNil)))) aNil))) aNil)))))
def S_law_rows : Sv :=
  (sSeq (sSet 2 (eA lstC (aCons (eCall (eN 1 PrA.F_law_row) [] (aCons (eVar 0) aNil)) aNil)))
  (sSeq (sFor (iRange1 (aCons (eCall (eN 2 PrA.F_law_sip) [] (aCons (eVar 0) (aCons (eVar 1) aNil))) aNil)) (gvName 3) PrA.B_law_rows_1)
  (sRet (eVar 2))))
def F_law_rows : Fn := fnF 6 S_law_rows
def S_law_plain : Sv :=
  (sSeq (sSet 1 (eCall (eN 1 PrA.F_law_terms) [] (aCons (eVar 0) aNil)))
  (sSeq (sIf (tB' (e2 eqW (e2 ixW (eVar 0) (eC (.int 3))) (eC (.int 0)))) (sRet (eA tupW (aCons (eC (.str "circle")) (aCons (e2 ixW (e2 ixW (eVar 1) (eC (.int 0))) (eC (.int 0))) aNil)))) sNext)
  (sSeq (sSet 2 (e2 addW (e2 ixW (e2 ixW (eVar 1) (eC (.int 0))) (eC (.int 1))) (e2 ixW (e2 ixW (eVar 1) (eC (.int 1))) (eC (.int 1)))))
  (sSeq (sIf (tB' (e2 ltW (eVar 2) (eC (.int 0)))) (sSet 1 (eComp [3, 4, 5] (iSeq (eVar 1)) (gvTup 3 (gvCons (gvName 3) (gvCons (gvName 4) (gvCons (gvName 5) gvNil)))) tvYes (eA tupW (aCons (eVar 3) (aCons (e2 subW (eC (.int 0)) (eVar 4)) (aCons (eVar 5) aNil)))))) sNext)
  (sSeq (sIf (tB' (e2 eqW (eVar 2) (eC (.int 0)))) (sSeq (sSet 1 (eA sortKeyW (aCons (eVar 1) aNil)))
  (sSet 1 (eA lstW (aCons (eA tupW (aCons (e2 ixW (e2 ixW (eVar 1) (eC (.int 0))) (eC (.int 0))) (aCons (eC (.int 1)) (aCons (e2 ixW (e2 ixW (eVar 1) (eC (.int 0))) (eC (.int 2))) aNil)))) (aCons (eA tupW (aCons (e2 ixW (e2 ixW (eVar 1) (eC (.int 1))) (eC (.int 0))) (aCons (e1 negW (eC (.int 1))) (aCons (e2 ixW (e2 ixW (eVar 1) (eC (.int 1))) (eC (.int 2))) aNil)))) aNil))))) sNext)
  (sSeq (sIf (tB' (e2 ltW (e2 ixW (e2 ixW (eVar 1) (eC (.int 0))) (eC (.int 1))) (e2 ixW (e2 ixW (eVar 1) (eC (.int 1))) (eC (.int 1))))) (sSet 1 (e1 revW (eVar 1))) sNext)
  (sSeq (sAsg (eVar 1) (gvLst 2 (gvCons (gvName 6) (gvCons (gvName 7) gvNil))))
  (sSeq (sSet 8 (eCall (eN 3 PrA.F_law_sum) [] (aCons (eCall (eN 2 PrA.F_law_part) [] (aCons (e2 mulW (e2 ixW (eVar 6) (eC (.int 1))) (e2 ixW (e2 ixW (eVar 7) (eC (.int 2))) (eC (.int 0)))) (aCons (e2 ixW (e2 ixW (eVar 7) (eC (.int 2))) (eC (.int 1))) aNil))) (aCons (e2 ixW (eVar 6) (eC (.int 2))) (aCons (e2 subW (eC (.int 0)) (e2 ixW (eVar 7) (eC (.int 1)))) aNil)))))
  (sRet (eA tupW (aCons (e2 ixW (eVar 6) (eC (.int 0))) (aCons (e2 ixW (eVar 6) (eC (.int 1))) (aCons (e2 ixW (eVar 7) (eC (.int 0))) (aCons (e2 ixW (eVar 7) (eC (.int 1))) (aCons (eVar 8) aNil)))))))))))))))
def F_law_plain : Fn := fnF 9 S_law_plain
def B_law_settings_1 : Sv :=
  (sExpr (eBM tyL appW (eVar 2) (aCons (e2 addW (eSl slW (eVar 4) oNone (oSome (eC (.int 4)))) (eA tupW (aCons (e2 addW (e2 ixW (eVar 4) (eC (.int 4))) (e2 mulW (eVar 6) (e2 ixW (eVar 3) (eC (.int 5))))) aNil))) aNil)))
def B_law_settings_2 : Sv :=
  (sSeq (sSet 4 (eCall (eN 2 PrA.F_law_values) [] (aCons (eVar 3) (aCons (eVar 1) aNil))))
  (sSeq (sSet 5 (eCall (eN 2 PrA.F_law_common) [] (aCons (e2 ixW (eVar 4) (eC (.int 1))) (aCons (e2 ixW (eVar 4) (eC (.int 2))) aNil))))
  (sFor (iRange1 (aCons (eIf (tB' (e1 isNW (e2 ixW (eVar 3) (eC (.int 6))))) (eVar 5) (e2 ixW (eVar 3) (eC (.int 6)))) aNil)) (gvName 6) PrA.B_law_settings_1)))
def S_law_settings : Sv :=
  (sSeq (sSet 2 (eA lstC aNil))
  (sSeq (sFor (iAny (eVar 0)) (gvName 3) PrA.B_law_settings_2)
  (sRet (eVar 2))))
def F_law_settings : Fn := fnF 7 S_law_settings
def S_law_forms : Sv :=
  (sRet (eA sortSetW (aCons (eComp [2] (iSeq (eCall (eN 2 PrA.F_law_settings) [] (aCons (eVar 0) (aCons (eVar 1) aNil)))) (gvName 2) tvYes (eA reprW (aCons (eCall (eN 1 PrA.F_law_plain) [] (aCons (eVar 2) aNil)) aNil))) aNil)))
def F_law_forms : Fn := fnF 3 S_law_forms
end PrA
namespace PrB
open PySem PySem.Spec PyProof.Rows L2 PU
def B_law_poured_1 : Sv :=
  (sSet 3 (e2 modW (eA intW (aCons (e2 addW (e2 addW (e2 mulW (eVar 3) (eC (.int 29989))) (e2 mulW (eVar 4) (eC (.int 9)))) (eC (.int 23))) aNil)) (eC (.int 2147483587))))
def S_law_poured : Sv :=
  (sSeq (sSet 2 (eIf (tB' (e2 ltW (eVar 1) (eA lenW (aCons (eVar 0) aNil)))) (e2 ixW (eVar 0) (eVar 1)) (eC (.int 0))))
  (sSeq (sSet 3 (e2 addW (eC (.int 50023)) (e2 mulW (eC (.int 6373)) (eVar 1))))
  (sSeq (sFor (iSeq (eSl slW (eVar 0) oNone (oSome (eC (.int 7))))) (gvName 4) PrB.B_law_poured_1)
  (sRet (eA lstC (aCons (eIf (tOr' (tB' (e2 ltW (eVar 2) (eC (.int 0)))) (tB' (e2 geW (eVar 2) (e2 powW (eC (.int 10)) (eC (.int 18)))))) (eA absW (aCons (eVar 2) aNil)) (eC (.int 0))) (aCons (e2 modW (eA intW (aCons (e2 addW (e2 addW (e2 mulW (eVar 3) (eC (.int 67))) (e2 mulW (eVar 2) (eVar 2))) (e2 mulW (eC (.int 19)) (eVar 1))) aNil)) (eC (.int 2147483587))) (aCons (eC (.int 0)) aNil))))))))
def F_law_poured : Fn := fnC 5 S_law_poured
def S_law_sip : Sv :=
  (sSeq (sIf (tB' (e2 gtW (e2 ixW (eVar 0) (eC (.int 0))) (eC (.int 0)))) (sSeq (sAsg (eA divmodW (aCons (e2 ixW (eVar 0) (eC (.int 0))) (aCons (eVar 1) aNil))) (gvTup 2 (gvCons (gvSub (eVar 0) (eC (.int 0))) (gvCons (gvName 2) gvNil))))
  (sRet (eVar 2))) sNext)
  (sSeq (sAsg (e2 addW (e2 ixW (eVar 0) (eC (.int 2))) (eC (.int 1))) (gvSub (eVar 0) (eC (.int 2))))
  (sSeq (sSet 3 (e2 modW (eA intW (aCons (e2 addW (e2 addW (e2 mulW (e2 ixW (eVar 0) (eC (.int 1))) (e2 addW (eC (.int 41011)) (e2 mulW (eC (.int 2)) (e2 ixW (eVar 0) (eC (.int 2)))))) (e2 mulW (eC (.int 4409)) (e2 ixW (eVar 0) (eC (.int 2))))) (eC (.int 11))) aNil)) (eC (.int 2147483587))))
  (sSeq (sAsg (e2 modW (eA intW (aCons (e2 addW (e2 addW (e2 mulW (eVar 3) (eC (.int 38183))) (e2 mulW (eC (.int 5)) (e2 ixW (eVar 0) (eC (.int 2))))) (eC (.int 3))) aNil)) (eC (.int 2147483579))) (gvSub (eVar 0) (eC (.int 1))))
  (sRet (e2 modW (eA intW (aCons (e2 fdivW (e2 ixW (eVar 0) (eC (.int 1))) (eC (.int 512))) aNil)) (eVar 1)))))))
def F_law_sip : Fn := fnF 4 S_law_sip
def S_law_one : Sv :=
  (sRet (e2 ixW (eVar 1) (eCall (eN 2 PrB.F_law_sip) [] (aCons (eVar 0) (aCons (eA lenW (aCons (eVar 1) aNil)) aNil)))))
def F_law_one : Fn := fnF 2 S_law_one
def B_law_wide_1 : Sv :=
  (sSet 2 (e2 addW (e2 mulW (eVar 2) (eC (.int 1000003))) (eCall (eN 2 PrB.F_law_sip) [] (aCons (eVar 0) (aCons (eC (.int 1000003)) aNil)))))
def S_law_wide : Sv :=
  (sSeq (sSet 2 (eC (.int 0)))
  (sSeq (sFor (iRange1 (aCons (eC (.int 6)) aNil)) (gvName 3) PrB.B_law_wide_1)
  (sRet (e2 modW (eA intW (aCons (eVar 2) aNil)) (eVar 1)))))
def F_law_wide : Fn := fnF 4 S_law_wide
def B_law_shared_1 : Sv :=
  (sSeq (sIf (tB' (e2 eqW (eVar 1) (eC (.int 0)))) (sRet (eVar 0)) sNext)
  (sPar 0 1 (aCons (eVar 1) (aCons (e2 modW (eA intW (aCons (eVar 0) aNil)) (eVar 1)) aNil))))
def S_law_shared : Sv :=
  (sSeq (sFor (iRange1 (aCons (eC (.int 400)) aNil)) (gvName 2) PrB.B_law_shared_1)
  (sRet (eC (.int 1))))
def F_law_shared : Fn := fnF 3 S_law_shared
def S_law_speeds : Sv :=
  (sSeq (sPar 2 3 (aCons (e2 addW (eC (.int 1)) (eCall (eN 2 PrB.F_law_sip) [] (aCons (eVar 0) (aCons (eVar 1) aNil)))) (aCons (e2 addW (eC (.int 2)) (eCall (eN 2 PrB.F_law_sip) [] (aCons (eVar 0) (aCons (eVar 1) aNil)))) aNil)))
  (sSeq (sIf (tB' (e2 geW (eVar 2) (eVar 3))) (sPar 2 3 (aCons (e2 subW (eVar 3) (eC (.int 1))) (aCons (e2 addW (eVar 2) (eC (.int 1))) aNil))) sNext)
  (sSeq (sSet 4 (eCall (eN 2 PrB.F_law_shared) [] (aCons (eVar 3) (aCons (eVar 2) aNil))))
  (sRet (eA lstW (aCons (e2 fdivW (eVar 2) (eVar 4)) (aCons (e2 fdivW (eVar 3) (eVar 4)) aNil)))))))
def F_law_speeds : Fn := fnF 5 S_law_speeds
def S_law_set : Sv :=
  (sSeq (sPar 2 3 (aCons (e2 addW (eC (.int 1)) (eCall (eN 2 PrB.F_law_wide) [] (aCons (eVar 0) (aCons (eVar 1) aNil)))) (aCons (eCall (eN 2 PrB.F_law_one) [] (aCons (eVar 0) (aCons (eA lstW (aCons (eC (.str "in")) (aCons (eC (.str "in")) (aCons (eC (.str "out")) (aCons (eC (.str "over")) aNil))))) aNil))) aNil)))
  (sSeq (sAsg (eCall (eN 2 PrB.F_law_speeds) [] (aCons (eVar 0) (aCons (eC (.int 7)) aNil))) (gvLst 2 (gvCons (gvName 4) (gvCons (gvName 5) gvNil))))
  (sSeq (sIf (tB' (e2 eqW (eVar 3) (eC (.str "in")))) (sSeq (sSet 6 (e2 mulW (eVar 2) (eCall (eN 2 PrB.F_law_one) [] (aCons (eVar 0) (aCons (eA lstW (aCons (eVar 4) (aCons (e2 subW (eVar 5) (eVar 4)) aNil))) aNil)))))
  (sSet 7 (e2 mulW (eVar 2) (eVar 5)))) (sPar 6 7 (aCons (e2 mulW (eVar 2) (eIf (tB' (e2 eqW (eVar 3) (eC (.str "out")))) (eVar 4) (eVar 5))) (aCons (e2 mulW (eVar 2) (e2 subW (eVar 5) (eVar 4))) aNil))))
  (sSeq (sSet 8 (e2 fdivW (eVar 6) (eVar 2)))
  (sSeq (sSet 9 (eA lstW (aCons (eVar 6) (aCons (eVar 8) (aCons (e2 mulW (eVar 8) (e2 addW (eC (.int 1)) (eCall (eN 2 PrB.F_law_sip) [] (aCons (eVar 0) (aCons (eC (.int 9)) aNil))))) (aCons (eCall (eN 2 PrB.F_law_sip) [] (aCons (eVar 0) (aCons (eC (.int 12)) aNil))) (aCons (eC (.int 0)) (aCons (e2 mulW (eVar 8) (eVar 2)) aNil))))))))
  (sSeq (sSet 10 (eCall (eN 2 PrB.F_law_one) [] (aCons (eVar 0) (aCons (e2 addW (eVar 9) (eA lstW (aCons (e2 addW (eC (.int 1)) (eCall (eN 2 PrB.F_law_wide) [] (aCons (eVar 0) (aCons (eVar 1) aNil)))) aNil))) aNil))))
  (sSeq (sIf (tAnd' (tB' (e2 eqW (eVar 3) (eC (.str "in")))) (tAnd' (tB' (e2 eqW (eVar 7) (e2 mulW (eC (.int 2)) (eVar 6)))) (tB' (e2 eqW (eVar 10) (eVar 6))))) (sSet 10 (e2 addW (eVar 10) (eC (.int 1)))) sNext)
  (sSeq (sSet 11 (eCall (eN 2 PrB.F_law_one) [] (aCons (eVar 0) (aCons (eA lstW (aCons (eC (.int 0)) (aCons (eC (.int 1)) (aCons (eCall (eN 2 PrB.F_law_sip) [] (aCons (eVar 0) (aCons (eC (.int 40)) aNil))) (aCons (eCall (eN 2 PrB.F_law_wide) [] (aCons (eVar 0) (aCons (eVar 7) aNil))) (aCons (eVar 2) (aCons (e2 subW (e2 powW (eC (.int 10)) (eC (.int 30))) (eCall (eN 2 PrB.F_law_sip) [] (aCons (eVar 0) (aCons (eC (.int 9)) aNil)))) aNil))))))) aNil))))
  (sRet (eA tupW (aCons (eVar 3) (aCons (eVar 7) (aCons (eVar 6) (aCons (eVar 10) (aCons (eVar 11) aNil)))))))))))))))
def F_law_set : Fn := fnF 12 S_law_set
def S_law_line : Sv :=
  (sRet (eMake mkEnd 0 (eN 6 Pr.F_Line_init) [] (aCons (e2 ixW (eVar 0) (eC (.int 0))) (aCons (e2 ixW (eVar 0) (eC (.int 1))) (aCons (e2 ixW (eVar 0) (eC (.int 2))) (aCons (e2 ixW (eVar 0) (eC (.int 3))) (aCons (e2 ixW (eVar 0) (eC (.int 4))) aNil)))))))
def F_law_line : Fn := fnF 1 S_law_line
def S_law_part : Sv :=
  (sSeq (sSet 2 (e2 modW (eA intW (aCons (eVar 0) aNil)) (eVar 1)))
  (sSeq (sSet 3 (eCall (eN 2 PrB.F_law_shared) [] (aCons (eVar 1) (aCons (eVar 2) aNil))))
  (sRet (eA tupW (aCons (e2 fdivW (eVar 2) (eVar 3)) (aCons (e2 fdivW (eVar 1) (eVar 3)) aNil))))))
def F_law_part : Fn := fnF 4 S_law_part
def S_law_form : Sv :=
  (sSeq (sAsg (eVar 0) (gvTup 5 (gvCons (gvName 1) (gvCons (gvName 2) (gvCons (gvName 3) (gvCons (gvName 4) (gvCons (gvName 5) gvNil)))))))
  (sSeq (sSet 6 (eCall (eN 2 PrB.F_law_shared) [] (aCons (eVar 2) (aCons (eVar 3) aNil))))
  (sSeq (sSet 7 (e2 dgetW (eDisp [((eC (.str "in")), (e2 subW (eVar 2) (eVar 3))), ((eC (.str "out")), (e2 addW (eVar 2) (eVar 3))), ((eC (.str "over")), (e2 subW (eVar 3) (eVar 2)))]) (eVar 1)))
  (sSeq (sIf (tB' (e2 eqW (eVar 4) (eC (.int 0)))) (sRet (eA tupW (aCons (eC (.str "circle")) (aCons (eVar 7) aNil)))) sNext)
  (sSeq (sPar 8 9 (aCons (e2 fdivW (eVar 3) (eVar 6)) (aCons (e2 fdivW (eA absW (aCons (eVar 7) aNil)) (eVar 6)) aNil)))
  (sSeq (sIf (tAnd' (tB' (e2 eqW (eVar 1) (eC (.str "in")))) (tOr' (tB' (e2 gtW (eVar 8) (eVar 9))) (tAnd' (tB' (e2 eqW (eVar 8) (eVar 9))) (tB' (e2 gtW (eVar 7) (eVar 4)))))) (sRet (eA tupW (aCons (eVar 7) (aCons (eVar 8) (aCons (eVar 4) (aCons (e1 negW (eVar 9)) (aCons (eCall (eN 2 PrB.F_law_part) [] (aCons (eVar 5) (aCons (eVar 6) aNil))) aNil))))))) sNext)
  (sSeq (sIf (tB' (e2 eqW (eVar 1) (eC (.str "in")))) (sRet (eA tupW (aCons (eVar 4) (aCons (eVar 9) (aCons (eVar 7) (aCons (e1 negW (eVar 8)) (aCons (eCall (eN 2 PrB.F_law_part) [] (aCons (eVar 5) (aCons (eVar 6) aNil))) aNil))))))) sNext)
  (sSeq (sSet 10 (eCall (eN 2 PrB.F_law_part) [] (aCons (e2 subW (e2 mulW (eC (.int 2)) (eVar 5)) (e2 mulW (eA min2W (aCons (eVar 8) (aCons (eVar 9) aNil))) (eVar 6))) (aCons (e2 mulW (eC (.int 2)) (eVar 6)) aNil))))
  (sSeq (sIf (tB' (e2 eqW (eVar 1) (eC (.str "out")))) (sRet (eA tupW (aCons (eVar 4) (aCons (eVar 9) (aCons (eVar 7) (aCons (eVar 8) (aCons (eVar 10) aNil))))))) sNext)
  (sRet (eA tupW (aCons (eVar 7) (aCons (eVar 8) (aCons (eVar 4) (aCons (eVar 9) (aCons (eVar 10) aNil))))))))))))))))
def F_law_form : Fn := fnF 11 S_law_form
def S_law_twin : Sv :=
  (sSeq (sAsg (eVar 0) (gvTup 5 (gvCons (gvName 1) (gvCons (gvName 2) (gvCons (gvName 3) (gvCons (gvName 4) (gvCons (gvName 5) gvNil)))))))
  (sSeq (sSet 6 (eCall (eN 2 PrB.F_law_shared) [] (aCons (eVar 2) (aCons (eVar 3) aNil))))
  (sSeq (sSet 7 (e2 dgetW (eDisp [((eC (.str "in")), (e2 subW (eVar 2) (eVar 3))), ((eC (.str "out")), (e2 addW (eVar 2) (eVar 3))), ((eC (.str "over")), (e2 subW (eVar 3) (eVar 2)))]) (eVar 1)))
  (sSeq (sPar 8 9 (aCons (e2 fdivW (eVar 3) (eVar 6)) (aCons (e2 fdivW (eVar 7) (eVar 6)) aNil)))
  (sSeq (sIf (tOr' (tB' (e2 eqW (eVar 4) (eC (.int 0)))) (tB' (e2 neW (e2 modW (eA intW (aCons (eVar 4) aNil)) (eVar 8)) (eC (.int 0))))) (sRet (eA tupW aNil)) sNext)
  (sSeq (sSet 10 (e2 fdivW (eVar 4) (eVar 8)))
  (sSeq (sIf (tB' (e2 neW (e2 modW (eA intW (aCons (e2 mulW (eVar 5) (eVar 10)) aNil)) (eVar 6)) (eC (.int 0)))) (sRet (eA tupW aNil)) sNext)
  (sSeq (sSet 11 (e2 modW (eA intW (aCons (e2 fdivW (e2 mulW (eVar 5) (eVar 10)) (eVar 6)) aNil)) (eVar 10)))
  (sSeq (sIf (tB' (e2 eqW (eVar 1) (eC (.str "in")))) (sRet (eA tupW (aCons (eC (.str "in")) (aCons (e2 mulW (eVar 10) (e2 addW (eVar 8) (eVar 9))) (aCons (e2 mulW (eVar 10) (eVar 9)) (aCons (eVar 7) (aCons (eVar 11) aNil))))))) sNext)
  (sSeq (sSet 12 (eIf (tB' (e2 eqW (eVar 1) (eC (.str "out")))) (e2 subW (eVar 9) (eVar 8)) (e2 subW (eVar 8) (eVar 9))))
  (sRet (eA tupW (aCons (eIf (tB' (e2 eqW (eVar 1) (eC (.str "out")))) (eC (.str "over")) (eC (.str "out"))) (aCons (e2 mulW (eVar 10) (eVar 12)) (aCons (e2 mulW (eVar 10) (eVar 9)) (aCons (eVar 7) (aCons (eVar 11) aNil)))))))))))))))))
def F_law_twin : Fn := fnF 13 S_law_twin
def S_law_later : Sv :=
  (sRet (e2 addW (eSl slW (eVar 0) oNone (oSome (eC (.int 4)))) (eA tupW (aCons (e2 addW (e2 ixW (eVar 0) (eC (.int 4))) (eVar 1)) aNil))))
def F_law_later : Fn := fnF 2 S_law_later
def S_law_mate : Sv :=
  (sSeq (sPar 2 3 (aCons (eCall (eN 2 PrB.F_law_sip) [] (aCons (eVar 0) (aCons (eC (.int 9)) aNil))) (aCons (eCall (eN 2 PrB.F_law_shared) [] (aCons (e2 ixW (eVar 1) (eC (.int 1))) (aCons (e2 ixW (eVar 1) (eC (.int 2))) aNil))) aNil)))
  (sSeq (sSet 4 (eCall (eN 2 PrB.F_law_one) [] (aCons (eVar 0) (aCons (eA lstW (aCons (e2 ixW (eVar 1) (eC (.int 4))) (aCons (e2 modW (eA intW (aCons (e2 ixW (eVar 1) (eC (.int 4))) aNil)) (eVar 3)) (aCons (e2 addW (e2 ixW (eVar 1) (eC (.int 4))) (eVar 3)) (aCons (e2 addW (e2 ixW (eVar 1) (eC (.int 4))) (eC (.int 1))) (aCons (e2 addW (eCall (eN 2 PrB.F_law_wide) [] (aCons (eVar 0) (aCons (eVar 3) aNil))) (e2 mulW (eC (.int 2)) (eVar 3))) aNil)))))) aNil))))
  (sSeq (sSet 5 (e2 addW (eSl slW (eVar 1) oNone (oSome (eC (.int 4)))) (eA tupW (aCons (eA min2W (aCons (eVar 4) (aCons (e2 powW (eC (.int 10)) (eC (.int 30))) aNil))) aNil))))
  (sSeq (sIf (tB' (e2 ltW (eVar 2) (eC (.int 3)))) (sRet (eVar 5)) sNext)
  (sSeq (sIf (tB' (e2 ltW (eVar 2) (eC (.int 6)))) (sSeq (sSet 6 (eCall (eN 1 PrB.F_law_twin) [] (aCons (eVar 5) aNil)))
  (sRet (eIf (tAnd' (tB' (e2 neW (eVar 6) (eA tupW aNil))) (tB' (e2 leW (eA max1W (aCons (eSl slW (eVar 6) (oSome (eC (.int 1))) oNone) aNil)) (e2 powW (eC (.int 10)) (eC (.int 30)))))) (eVar 6) (eVar 5)))) sNext)
  (sSeq (sIf (tB' (e2 eqW (eVar 2) (eC (.int 6)))) (sSeq (sSet 7 (e2 addW (e2 addW (eSl slW (eVar 5) oNone (oSome (eC (.int 3)))) (eA tupW (aCons (e2 addW (e2 ixW (eVar 5) (eC (.int 3))) (eC (.int 1))) aNil))) (eSl slW (eVar 5) (oSome (eC (.int 4))) oNone)))
  (sRet (eIf (tAnd' (tB' (e2 eqW (e2 ixW (eVar 7) (eC (.int 0))) (eC (.str "in")))) (tAnd' (tB' (e2 eqW (e2 ixW (eVar 7) (eC (.int 1))) (e2 mulW (eC (.int 2)) (e2 ixW (eVar 7) (eC (.int 2)))))) (tB' (e2 eqW (e2 ixW (eVar 7) (eC (.int 3))) (e2 ixW (eVar 7) (eC (.int 2))))))) (eVar 5) (eVar 7)))) sNext)
  (sSeq (sIf (tB' (e2 eqW (eVar 2) (eC (.int 7)))) (sRet (eIf (tB' (e2 neW (e2 ixW (eVar 5) (eC (.int 0))) (eC (.str "in")))) (eVar 5) (e2 addW (eA tupW (aCons (eC (.str "out")) aNil)) (eSl slW (eVar 5) (oSome (eC (.int 1))) oNone)))) sNext)
  (sRet (eCall (eN 2 PrB.F_law_set) [] (aCons (eVar 0) (aCons (eC (.int 50)) aNil)))))))))))
def F_law_mate : Fn := fnF 8 S_law_mate
def S_law_value : Sv :=
  (sSeq (sSet 1 (eA lstW (aCons (eC .non) (aCons (eC (.bl true)) (aCons (eC (.bl false)) (aCons (eC (.int 0)) (aCons (eC (.int 1)) (aCons (e1 negW (eC (.int 1))) (aCons (eC (.int 2)) (aCons (e2 powW (eC (.int 10)) (eC (.int 31))) (aCons (eC (.str "")) (aCons (eC (.str "a")) (aCons (eC (.str "in")) (aCons (eC (.str "in 3n 2n n from 0")) (aCons (eA tupW aNil) (aCons (eA tupW (aCons (eC (.int 0)) aNil)) (aCons (eA lstW aNil) (aCons (eA lstW (aCons (eC (.int 1)) aNil)) (aCons eNewK (aCons (eDisp [((eC (.str "a")), (eC (.int 1)))]) aNil))))))))))))))))))))
  (sRet (eCall (eN 2 PrB.F_law_one) [] (aCons (eVar 0) (aCons (e2 addW (eVar 1) (eA lstW (aCons (eA tupW (aCons (eC (.str "a")) (aCons (eC .non) aNil))) (aCons (eA tupW (aCons (eC (.str "in")) (aCons (eC (.int 6)) (aCons (eC (.int 4)) (aCons (eC (.int 1)) (aCons (eC (.int 0)) aNil)))))) (aCons (eA lstW (aCons (eC (.str "in")) (aCons (eC (.int 6)) (aCons (eC (.int 4)) (aCons (eC (.int 1)) (aCons (eC (.int 0)) aNil)))))) (aCons (eA tupW (aCons (eC (.int 1)) (aCons (eC (.int 2)) (aCons (eC (.int 3)) aNil)))) (aCons (eC (.str "alike")) aNil))))))) aNil)))))
def F_law_value : Fn := fnF 2 S_law_value
def S_law_is_from : Sv :=
  (sRet (eAnd (eA (isiW isT0) (aCons (eVar 0) (aCons (eC (.ty "int")) aNil))) (eAnd (e1 notW (eA (isiW isT0) (aCons (eVar 0) (aCons (eC (.ty "bool")) aNil)))) (eChain leW leW (eVar 1) (eVar 0) (eVar 2)))))
def F_law_is_from : Fn := fnF 3 S_law_is_from
def S_law_met : Sv :=
  (sRet (eIf (tB' (e2 eqW (eVar 1) (eA lstW aNil))) (e2 eqW (e2 ixW (eVar 0) (eC (.int 0))) (eC (.str "back"))) (e2 eqW (eVar 0) (eVar 1))))
def F_law_met : Fn := fnF 2 S_law_met
def B_law_sizes_1 : Sv :=
  (sSeq (sSet 6 (e2 addW (eVar 1) (eCall (eN 2 PrB.F_law_sip) [] (aCons (eVar 0) (aCons (eVar 2) aNil)))))
  (sIf (tB' (e2 (inFW true) (eVar 6) (eVar 4))) (sExpr (eBM tyL appW (eVar 4) (aCons (eVar 6) aNil))) sNext))
def S_law_sizes : Sv :=
  (sSeq (sSet 4 (eA lstC aNil))
  (sSeq (sFor (iRange1 (aCons (e2 addW (eC (.int 1)) (eCall (eN 2 PrB.F_law_sip) [] (aCons (eVar 0) (aCons (eVar 3) aNil)))) aNil)) (gvName 5) PrB.B_law_sizes_1)
  (sFrz 4 (sRet (eA tupleW (aCons (eA sortedIW (aCons (eVar 4) aNil)) aNil))))))
def F_law_sizes : Fn := fnF 7 S_law_sizes
def S_law_packed : Sv :=
  (sSeq (sSet 3 (eCall (eN 2 PrB.F_law_one) [] (aCons (eVar 0) (aCons (eA lstW (aCons (eC (.int 1)) (aCons (eC (.int 1)) (aCons (eC (.int 2)) (aCons (eC (.int 3)) (aCons (eC (.int 6)) aNil)))))) aNil))))
  (sSeq (sSet 4 (eA lstW (aCons (eCall (eN 4 PrB.F_law_sizes) [] (aCons (eVar 0) (aCons (eC (.int 1)) (aCons (eVar 1) (aCons (eVar 2) aNil))))) (aCons (eCall (eN 4 PrB.F_law_sizes) [] (aCons (eVar 0) (aCons (eC (.int 1)) (aCons (eVar 1) (aCons (eVar 2) aNil))))) (aCons (eCall (eN 4 PrB.F_law_sizes) [] (aCons (eVar 0) (aCons (eC (.int 0)) (aCons (eVar 1) (aCons (eVar 2) aNil))))) aNil)))))
  (sRet (eComp [6] (iSeq (eVar 4)) (gvName 6) tvYes (eA tupleW (aCons (eComp [5] (iAny (eVar 6)) (gvName 5) tvYes (e2 mulW (eVar 5) (eVar 3))) aNil))))))
def F_law_packed : Fn := fnF 7 S_law_packed
def S_law_is_told : Sv :=
  (sSeq (sIf (tB' (e2 eqW (eVar 0) (eC (.str "in")))) (sRet (eAnd (e2 ltW (eVar 2) (eVar 1)) (e1 notW (eAnd (e2 eqW (eVar 1) (e2 mulW (eC (.int 2)) (eVar 2))) (e2 eqW (eVar 3) (eVar 2)))))) sNext)
  (sRet (eOr (e2 eqW (eVar 0) (eC (.str "out"))) (e2 gtW (eVar 2) (eVar 1)))))
def F_law_is_told : Fn := fnF 4 S_law_is_told
def B_law_all_in_1 : Sv :=
  (sIf (tB' (eCall (eN 4 PrB.F_law_is_told) [] (aCons (eVar 2) (aCons (eVar 3) (aCons (eVar 4) (aCons (eVar 5) aNil)))))) (sExpr (eBM tyL appW (eVar 1) (aCons (eA tupW (aCons (eVar 2) (aCons (eVar 3) (aCons (eVar 4) (aCons (eVar 5) aNil))))) aNil))) sNext)
def B_law_all_in_2 : Sv :=
  (sFor (iAny (e2 ixW (eVar 0) (eC (.int 2)))) (gvName 5) PrB.B_law_all_in_1)
def B_law_all_in_3 : Sv :=
  (sFor (iAny (e2 ixW (eVar 0) (eC (.int 1)))) (gvName 4) PrB.B_law_all_in_2)
def B_law_all_in_4 : Sv :=
  (sFor (iAny (e2 ixW (eVar 0) (eC (.int 0)))) (gvName 3) PrB.B_law_all_in_3)
def S_law_all_in : Sv :=
  (sSeq (sSet 1 (eA lstC aNil))
  (sSeq (sFor (iSeq (eA lstW (aCons (eC (.str "in")) (aCons (eC (.str "out")) (aCons (eC (.str "over")) aNil))))) (gvName 2) PrB.B_law_all_in_4)
  (sRet (eVar 1))))
def F_law_all_in : Fn := fnF 6 S_law_all_in
def B_law_series_1 : Sv :=
  (sSeq (sSet 5 (eCall (eN 1 PrB.F_law_form) [] (aCons (eCall (eN 2 PrB.F_law_later) [] (aCons (eVar 0) (aCons (e2 mulW (eVar 4) (eVar 1)) aNil))) aNil)))
  (sSeq (sIf (tAnd' (tB' (e2 eqW (eVar 2) (eC (.int 0)))) (tB' (e2 eqW (eVar 5) (e2 ixW (eVar 3) (eC (.int 0)))))) (sRet (eVar 3)) sNext)
  (sExpr (eBM tyL appW (eVar 3) (aCons (eVar 5) aNil)))))
def S_law_series : Sv :=
  (sSeq (sSet 3 (eA lstC (aCons (eCall (eN 1 PrB.F_law_form) [] (aCons (eVar 0) aNil)) aNil)))
  (sSeq (sFor (iRange2 (aCons (eC (.int 1)) (aCons (eIf (tB' (e2 gtW (eVar 2) (eC (.int 0)))) (eVar 2) (eC (.int 200))) aNil))) (gvName 4) PrB.B_law_series_1)
  (sRet (eVar 3))))
def F_law_series : Fn := fnF 6 S_law_series
def S_law_stroke : Sv :=
  (sSeq (sSet 2 (eCall (eN 2 PrB.F_law_one) [] (aCons (eVar 0) (aCons (eVar 1) aNil))))
  (sSeq (sSet 3 (eCall (eN 2 PrB.F_law_one) [] (aCons (eVar 0) (aCons (eA lstW (aCons (e2 ixW (eVar 2) (eC (.int 4))) (aCons (eCall (eN 2 PrB.F_law_sip) [] (aCons (eVar 0) (aCons (eC (.int 90)) aNil))) (aCons (e2 addW (e2 ixW (eVar 2) (eC (.int 4))) (eC (.int 1))) (aCons (e2 subW (e2 powW (eC (.int 10)) (eC (.int 30))) (eCall (eN 2 PrB.F_law_sip) [] (aCons (eVar 0) (aCons (eC (.int 9)) aNil)))) aNil))))) aNil))))
  (sSeq (sSet 2 (e2 addW (eSl slW (eVar 2) oNone (oSome (eC (.int 4)))) (eA tupW (aCons (eA min2W (aCons (eVar 3) (aCons (e2 powW (eC (.int 10)) (eC (.int 30))) aNil))) aNil))))
  (sSeq (sIf (tB' (e2 eqW (eCall (eN 2 PrB.F_law_sip) [] (aCons (eVar 0) (aCons (eC (.int 3)) aNil))) (eC (.int 0)))) (sRet (eA tupW (aCons (eVar 2) (aCons (eC (.int 0)) (aCons (eC (.int 1)) aNil))))) sNext)
  (sSeq (sSet 4 (e2 addW (eC (.int 1)) (eCall (eN 2 PrB.F_law_one) [] (aCons (eVar 0) (aCons (eA lstW (aCons (eC (.int 0)) (aCons (eC (.int 1)) (aCons (eCall (eN 2 PrB.F_law_sip) [] (aCons (eVar 0) (aCons (eC (.int 12)) aNil))) (aCons (eCall (eN 2 PrB.F_law_wide) [] (aCons (eVar 0) (aCons (e2 powW (eC (.int 10)) (eC (.int 30))) aNil))) aNil))))) aNil)))))
  (sRet (eA tupW (aCons (eVar 2) (aCons (eVar 4) (aCons (eCall (eN 2 PrB.F_law_one) [] (aCons (eVar 0) (aCons (eA lstW (aCons (eC (.int 0)) (aCons (eC (.int 0)) (aCons (eC (.int 1)) (aCons (eC (.int 2)) (aCons (e2 addW (eC (.int 1)) (eCall (eN 2 PrB.F_law_sip) [] (aCons (eVar 0) (aCons (eC (.int 12)) aNil)))) aNil)))))) aNil))) aNil))))))))))
def F_law_stroke : Fn := fnF 5 S_law_stroke
def S_law_pool : Sv :=
  (sSeq (sSet 1 (eCall (eN 2 PrB.F_law_set) [] (aCons (eVar 0) (aCons (eC (.int 30)) aNil))))
  (sSeq (sSet 2 (eA lstC (aCons (eVar 1) (aCons (eVar 1) (aCons (eCall (eN 2 PrB.F_law_set) [] (aCons (eVar 0) (aCons (eC (.int 30)) aNil))) (aCons (eCall (eN 2 PrB.F_law_mate) [] (aCons (eVar 0) (aCons (eVar 1) aNil))) aNil))))))
  (sSeq (sSet 3 (eCall (eN 1 PrB.F_law_twin) [] (aCons (eVar 1) aNil)))
  (sSeq (sIf (tAnd' (tB' (e2 neW (eVar 3) (eA tupW aNil))) (tB' (e2 leW (eCall (eN 2 PrB.F_law_shared) [] (aCons (e2 ixW (eVar 3) (eC (.int 1))) (aCons (e2 ixW (eVar 3) (eC (.int 2))) aNil))) (eC (.int 90))))) (sExpr (eBM tyL appW (eVar 2) (aCons (eVar 3) aNil))) sNext)
  (sFrz 2 (sRet (eComp [4] (iSeq (eVar 2)) (gvName 4) (tB' (e2 leW (eCall (eN 2 PrB.F_law_shared) [] (aCons (e2 ixW (eVar 4) (eC (.int 1))) (aCons (e2 ixW (eVar 4) (eC (.int 2))) aNil))) (eC (.int 90)))) (eVar 4))))))))
def F_law_pool : Fn := fnF 5 S_law_pool
def S_law_end_of : Sv :=
  (sSeq (sIf (tB' (e2 ltW (eVar 1) (eC (.int 0)))) (sRet (eA lstW (aCons (eC (.str "many")) (aCons (eC (.str "8")) aNil)))) sNext)
  (sRet (eA lstW (aCons (eC (.str "back")) (aCons (eA reprW (aCons (eIf (tB' (e2 eqW (e2 ixW (eVar 0) (eC (.int 1))) (eC (.int 0)))) (e2 gtW (eVar 1) (eC (.int 0))) (eVar 1)) aNil)) aNil)))))
def F_law_end_of : Fn := fnF 2 S_law_end_of
def S_law_pairs : Sv :=
  (sSeq (sIf (tB' (e2 eqW (eVar 0) (eC (.str "in")))) (sSeq (sSet 1 (eA lstW (aCons (eA tupW (aCons (eA tupW (aCons (eC (.int 3)) (aCons (eC (.int 0)) aNil))) (aCons (eA tupW (aCons (eC (.int 2)) (aCons (eC (.int 0)) aNil))) aNil))) (aCons (eA tupW (aCons (eA tupW (aCons (eC (.int 3)) (aCons (eC (.int 0)) aNil))) (aCons (eA tupW (aCons (eC (.int 1)) (aCons (eC (.int 0)) aNil))) aNil))) (aCons (eA tupW (aCons (eA tupW (aCons (eC (.int 2)) (aCons (eC (.int 0)) aNil))) (aCons (eA tupW (aCons (eC (.int 1)) (aCons (eC (.int 0)) aNil))) aNil))) (aCons (eA tupW (aCons (eA tupW (aCons (eC (.int 1)) (aCons (eC (.int 5)) aNil))) (aCons (eA tupW (aCons (eC (.int 1)) (aCons (eC (.int 0)) aNil))) aNil))) (aCons (eA tupW (aCons (eA tupW (aCons (eC (.int 3)) (aCons (eC (.int 3)) aNil))) (aCons (eA tupW (aCons (eC (.int 2)) (aCons (eC (.int 2)) aNil))) aNil))) (aCons (eA tupW (aCons (eA tupW (aCons (eC (.int 0)) (aCons (eC (.int 12)) aNil))) (aCons (eA tupW (aCons (eC (.int 0)) (aCons (eC (.int 8)) aNil))) aNil))) aNil))))))))
  (sRet (e2 addW (eVar 1) (eA lstW (aCons (eA tupW (aCons (eA tupW (aCons (eC (.int 0)) (aCons (eC (.int 9)) aNil))) (aCons (eA tupW (aCons (eC (.int 0)) (aCons (eC (.int 6)) aNil))) aNil))) (aCons (eA tupW (aCons (eA tupW (aCons (eC (.int 2)) (aCons (eC (.int 4)) aNil))) (aCons (eA tupW (aCons (eC (.int 1)) (aCons (eC (.int 2)) aNil))) aNil))) (aCons (eA tupW (aCons (eA tupW (aCons (eC (.int 3)) (aCons (eC (.int 12)) aNil))) (aCons (eA tupW (aCons (eC (.int 1)) (aCons (eC (.int 4)) aNil))) aNil))) (aCons (eA tupW (aCons (eA tupW (aCons (eC (.int 1)) (aCons (eC (.int 8)) aNil))) (aCons (eA tupW (aCons (eC (.int 0)) (aCons (eC (.int 6)) aNil))) aNil))) (aCons (eA tupW (aCons (eA tupW (aCons (eC (.int 0)) (aCons (eC (.int 9)) aNil))) (aCons (eA tupW (aCons (eC (.int 0)) (aCons (eC (.int 3)) aNil))) aNil))) aNil))))))))) sNext)
  (sSeq (sIf (tB' (e2 eqW (eVar 0) (eC (.str "out")))) (sRet (eA lstW (aCons (eA tupW (aCons (eA tupW (aCons (eC (.int 1)) (aCons (eC (.int 0)) aNil))) (aCons (eA tupW (aCons (eC (.int 0)) (aCons (eC (.int 4)) aNil))) aNil))) (aCons (eA tupW (aCons (eA tupW (aCons (eC (.int 2)) (aCons (eC (.int 0)) aNil))) (aCons (eA tupW (aCons (eC (.int 1)) (aCons (eC (.int 0)) aNil))) aNil))) (aCons (eA tupW (aCons (eA tupW (aCons (eC (.int 0)) (aCons (eC (.int 6)) aNil))) (aCons (eA tupW (aCons (eC (.int 0)) (aCons (eC (.int 4)) aNil))) aNil))) (aCons (eA tupW (aCons (eA tupW (aCons (eC (.int 3)) (aCons (eC (.int 0)) aNil))) (aCons (eA tupW (aCons (eC (.int 3)) (aCons (eC (.int 3)) aNil))) aNil))) (aCons (eA tupW (aCons (eA tupW (aCons (eC (.int 0)) (aCons (eC (.int 5)) aNil))) (aCons (eA tupW (aCons (eC (.int 1)) (aCons (eC (.int 0)) aNil))) aNil))) (aCons (eA tupW (aCons (eA tupW (aCons (eC (.int 1)) (aCons (eC (.int 1)) aNil))) (aCons (eA tupW (aCons (eC (.int 2)) (aCons (eC (.int 2)) aNil))) aNil))) aNil)))))))) sNext)
  (sRet (eA lstW (aCons (eA tupW (aCons (eA tupW (aCons (eC (.int 0)) (aCons (eC (.int 4)) aNil))) (aCons (eA tupW (aCons (eC (.int 1)) (aCons (eC (.int 4)) aNil))) aNil))) (aCons (eA tupW (aCons (eA tupW (aCons (eC (.int 1)) (aCons (eC (.int 0)) aNil))) (aCons (eA tupW (aCons (eC (.int 2)) (aCons (eC (.int 0)) aNil))) aNil))) (aCons (eA tupW (aCons (eA tupW (aCons (eC (.int 2)) (aCons (eC (.int 0)) aNil))) (aCons (eA tupW (aCons (eC (.int 3)) (aCons (eC (.int 0)) aNil))) aNil))) (aCons (eA tupW (aCons (eA tupW (aCons (eC (.int 0)) (aCons (eC (.int 6)) aNil))) (aCons (eA tupW (aCons (eC (.int 0)) (aCons (eC (.int 10)) aNil))) aNil))) (aCons (eA tupW (aCons (eA tupW (aCons (eC (.int 1)) (aCons (eC (.int 1)) aNil))) (aCons (eA tupW (aCons (eC (.int 2)) (aCons (eC (.int 2)) aNil))) aNil))) (aCons (eA tupW (aCons (eA tupW (aCons (eC (.int 3)) (aCons (eC (.int 0)) aNil))) (aCons (eA tupW (aCons (eC (.int 3)) (aCons (eC (.int 2)) aNil))) aNil))) aNil))))))))))
def F_law_pairs : Fn := fnF 2 S_law_pairs
def S_law_value_at : Sv :=
  (sRet (e2 addW (e2 mulW (e2 ixW (eVar 0) (eC (.int 0))) (eVar 1)) (e2 ixW (eVar 0) (eC (.int 1)))))
def F_law_value_at : Fn := fnF 2 S_law_value_at
def S_law_at : Sv :=
  (sRet (e2 addW (eA tupW (aCons (e2 ixW (eVar 0) (eC (.int 0))) aNil)) (eA tupleW (aCons (eComp [2] (iAny (eSl slW (eVar 0) (oSome (eC (.int 1))) (oSome (eC (.int 5))))) (gvName 2) tvYes (eCall (eN 2 PrB.F_law_value_at) [] (aCons (eVar 2) (aCons (eVar 1) aNil)))) aNil))))
def F_law_at : Fn := fnF 3 S_law_at
def S_law_is_stroke : Sv :=
  (sSeq (sSet 2 (eCall (eN 2 PrB.F_law_at) [] (aCons (eVar 0) (aCons (eVar 1) aNil))))
  (sRet (eAnd (e2 eqW (e2 ixW (eVar 2) (eC (.int 1))) (e2 mulW (eC (.int 2)) (e2 ixW (eVar 2) (eC (.int 2))))) (e2 eqW (e2 ixW (eVar 2) (eC (.int 3))) (e2 ixW (eVar 2) (eC (.int 2)))))))
def F_law_is_stroke : Fn := fnF 3 S_law_is_stroke
def S_law_row : Sv :=
  (sSeq (sSet 2 (eCall (eN 2 PrB.F_law_one) [] (aCons (eVar 0) (aCons (eA lstW (aCons (eC (.str "in")) (aCons (eC (.str "in")) (aCons (eC (.str "out")) (aCons (eC (.str "over")) aNil))))) aNil))))
  (sSeq (sAsg (eCall (eN 2 PrB.F_law_one) [] (aCons (eVar 0) (aCons (eCall (eN 1 PrB.F_law_pairs) [] (aCons (eVar 2) aNil)) aNil))) (gvTup 2 (gvCons (gvName 3) (gvCons (gvName 4) gvNil))))
  (sSeq (sSet 5 (eCall (eN 2 PrB.F_law_one) [] (aCons (eVar 0) (aCons (eA lstW (aCons (eA tupW (aCons (eC (.int 1)) (aCons (eC (.int 0)) aNil))) (aCons (eA tupW (aCons (eC (.int 2)) (aCons (eC (.int 0)) aNil))) (aCons (eA tupW (aCons (eC (.int 0)) (aCons (eC (.int 1)) aNil))) (aCons (eA tupW (aCons (eC (.int 0)) (aCons (eC (.int 2)) aNil))) (aCons (eA tupW (aCons (eC (.int 0)) (aCons (eC (.int 4)) aNil))) (aCons (eA tupW (aCons (eC (.int 2)) (aCons (eC (.int 2)) aNil))) (aCons (eA tupW (aCons (eC (.int 0)) (aCons (eC (.int 0)) aNil))) (aCons (eA tupW (aCons (eC (.int 3)) (aCons (eC (.int 0)) aNil))) (aCons (eA tupW (aCons (eC (.int 0)) (aCons (eC (.int 12)) aNil))) aNil)))))))))) aNil))))
  (sSeq (sSet 6 (eCall (eN 2 PrB.F_law_one) [] (aCons (eVar 0) (aCons (eA lstW (aCons (eA tupW (aCons (eC (.int 0)) (aCons (eC (.int 0)) aNil))) (aCons (eA tupW (aCons (eC (.int 0)) (aCons (eC (.int 1)) aNil))) (aCons (eA tupW (aCons (eC (.int 0)) (aCons (eC (.int 2)) aNil))) (aCons (eA tupW (aCons (eC (.int 0)) (aCons (eC (.int 5)) aNil))) (aCons (eA tupW (aCons (eC (.int 1)) (aCons (eC (.int 0)) aNil))) (aCons (eA tupW (aCons (eC (.int 1)) (aCons (eC (.int 1)) aNil))) (aCons (eA tupW (aCons (eC (.int 2)) (aCons (eC (.int 3)) aNil))) (aCons (eA tupW (aCons (eC (.int 0)) (aCons (eC (.int 12)) aNil))) aNil))))))))) aNil))))
  (sSeq (sIf (tAnd' (tB' (e2 neW (eVar 1) (eA lstW aNil))) (tB' (e2 eqW (eCall (eN 2 PrB.F_law_sip) [] (aCons (eVar 0) (aCons (eC (.int 2)) aNil))) (eC (.int 0))))) (sAsg (eSl slW (eVar 1) oNone (oSome (eC (.int 4)))) (gvTup 4 (gvCons (gvName 2) (gvCons (gvName 3) (gvCons (gvName 4) (gvCons (gvName 5) gvNil)))))) sNext)
  (sSeq (sIf (tB' (e2 eqW (eVar 2) (eC (.str "in")))) (sSeq (sSet 7 (eA lstW (aCons (eVar 2) (aCons (eVar 3) (aCons (eVar 4) (aCons (eVar 5) (aCons (eVar 6) aNil)))))))
  (sSet 5 (eIf (tB' (e2 neW (eComp [8] (iRange2 (aCons (eC (.int 1)) (aCons (eC (.int 31)) aNil))) (gvName 8) (tB' (eCall (eN 2 PrB.F_law_is_stroke) [] (aCons (eVar 7) (aCons (eVar 8) aNil)))) (eVar 8)) (eA lstW aNil))) (eA tupW (aCons (eC (.int 3)) (aCons (eC (.int 5)) aNil))) (eVar 5)))) sNext)
  (sSeq (sSet 9 (e2 addW (eC (.int 1)) (eCall (eN 2 PrB.F_law_sip) [] (aCons (eVar 0) (aCons (eCall (eN 2 PrB.F_law_one) [] (aCons (eVar 0) (aCons (eA lstW (aCons (eC (.int 1)) (aCons (eC (.int 3)) (aCons (eC (.int 12)) aNil)))) aNil))) aNil)))))
  (sSeq (sSet 10 (eCall (eN 2 PrB.F_law_one) [] (aCons (eVar 0) (aCons (eA lstW (aCons (eC (.int 0)) (aCons (eC (.int 0)) (aCons (eC (.int 1)) (aCons (eC (.int 1)) (aCons (eC (.int 2)) (aCons (e2 addW (eC (.int 2)) (eCall (eN 2 PrB.F_law_sip) [] (aCons (eVar 0) (aCons (eC (.int 5)) aNil)))) aNil))))))) aNil))))
  (sRet (eA lstW (aCons (eVar 2) (aCons (eVar 3) (aCons (eVar 4) (aCons (eVar 5) (aCons (eVar 6) (aCons (eIf (tB' (e2 neW (eVar 10) (eC (.int 1)))) (eVar 9) (eC (.int 0))) (aCons (eVar 10) aNil)))))))))))))))))
def F_law_row : Fn := fnF 11 S_law_row
def B_law_rows_1 : Sv :=
  (sExpr (eBM tyL appW (eVar 2) (aCons (eCall (eN 2 PrB.F_law_row) [] (aCons (eVar 0) (aCons (eIf (tB' (e2 eqW (eVar 2) (eA lstW aNil))) (eVar 1) (e2 ixW (eVar 2) (eC (.int 0)))) aNil))) aNil)))
def S_law_rows : Sv :=
  (sSeq (sSet 2 (eA lstC aNil))
  (sSeq (sFor (iRange1 (aCons (e2 addW (eC (.int 1)) (eCall (eN 2 PrB.F_law_sip) [] (aCons (eVar 0) (aCons (eC (.int 3)) aNil)))) aNil)) (gvName 3) PrB.B_law_rows_1)
  (sRet (eVar 2))))
def F_law_rows : Fn := fnF 4 S_law_rows
def S_law_spelled : Sv :=
  (sSeq (sIf (tB' (e2 eqW (e2 ixW (eVar 0) (eC (.int 0))) (eC (.int 0)))) (sRet (eA strW (aCons (e2 ixW (eVar 0) (eC (.int 1))) aNil))) sNext)
  (sSeq (sSet 1 (eIf (tB' (e2 eqW (e2 ixW (eVar 0) (eC (.int 0))) (eC (.int 1)))) (eC (.str "n")) (e2 addW (eA strW (aCons (e2 ixW (eVar 0) (eC (.int 0))) aNil)) (eC (.str "n")))))
  (sRet (eIf (tB' (e2 eqW (e2 ixW (eVar 0) (eC (.int 1))) (eC (.int 0)))) (eVar 1) (e2 addW (e2 addW (eVar 1) (eC (.str "+"))) (eA strW (aCons (e2 ixW (eVar 0) (eC (.int 1))) aNil)))))))
def F_law_spelled : Fn := fnF 2 S_law_spelled
def B_law_text_1 : Sv :=
  (sSeq (sSet 3 (e2 addW (e2 addW (eA lstW (aCons (e2 ixW (eVar 2) (eC (.int 0))) aNil)) (eComp [4] (iAny (eSl slW (eVar 2) (oSome (eC (.int 1))) (oSome (eC (.int 4))))) (gvName 4) tvYes (eCall (eN 1 PrB.F_law_spelled) [] (aCons (eVar 4) aNil)))) (eA lstW (aCons (eC (.str "from")) (aCons (eCall (eN 1 PrB.F_law_spelled) [] (aCons (e2 ixW (eVar 2) (eC (.int 4))) aNil)) aNil)))))
  (sSeq (sIf (tB' (e2 neW (e2 ixW (eVar 2) (eC (.int 6))) (eC (.int 1)))) (sSet 3 (e2 addW (e2 addW (eVar 3) (eA lstW (aCons (eC (.str "step")) (aCons (eA strW (aCons (e2 ixW (eVar 2) (eC (.int 5))) aNil)) aNil)))) (eIf (tB' (e2 eqW (e2 ixW (eVar 2) (eC (.int 6))) (eC (.int 0)))) (eA lstW (aCons (eC (.str "round")) aNil)) (eA lstW (aCons (eC (.str "times")) (aCons (eA strW (aCons (e2 ixW (eVar 2) (eC (.int 6))) aNil)) aNil)))))) sNext)
  (sExpr (eBM tyL appW (eVar 1) (aCons (eM1 joinW (eC (.str " ")) (eVar 3)) aNil)))))
def S_law_text : Sv :=
  (sSeq (sSet 1 (eA lstC aNil))
  (sSeq (sFor (iAny (eVar 0)) (gvName 2) PrB.B_law_text_1)
  (sRet (eM1 joinW (eC (.str "\n")) (eVar 1)))))
def F_law_text : Fn := fnF 5 S_law_text
def S_law_put : Sv :=
  (sAsg (eVar 2) (gvSub (eVar 0) (eVar 1)))
def F_law_put : Fn := fnF 3 S_law_put
def S_law_volume_due : Sv :=
  (sSeq (sSet 3 (eComp [4] (iSeq (eA sortedIW (aCons (eVar 0) aNil))) (gvName 4) tvYes (eA lstW (aCons (eVar 4) (aCons (eCall (eN 1 PrB.F_law_text) [] (aCons (e2 ixW (eVar 0) (eVar 4)) aNil)) aNil)))))
  (sRet (eA reprW (aCons (eA lstW (aCons (eVar 3) (aCons (eVar 1) (aCons (eVar 2) (aCons (eA lenW (aCons (eVar 0) aNil)) (aCons (e2 neW (eVar 0) eNewK) aNil)))))) aNil))))
def F_law_volume_due : Fn := fnF 5 S_law_volume_due
def B_law_without_1 : Sv :=
  (sIf (tB' (e2 neW (eVar 3) (eVar 1))) (sAsg (e2 ixW (eVar 0) (eVar 3)) (gvSubD (eVar 2) (eVar 3))) sNext)
def S_law_without : Sv :=
  (sSeq (sSet 2 eNewK)
  (sSeq (sFor (iAny (eVar 0)) (gvName 3) PrB.B_law_without_1)
  (sRet (eVar 2))))
def F_law_without : Fn := fnF 4 S_law_without
def S_law_names_in : Sv :=
  (sRet (eIf (tB' (e2 (inFW false) (e2 ixW (eVar 0) (eC (.int 0))) (eA lstW (aCons (eC (.str "alike")) (aCons (eC (.str "same")) (aCons (eC (.str "within")) aNil)))))) (eA listW (aCons (eSl slW (eVar 0) (oSome (eC (.int 1))) (oSome (eC (.int 3)))) aNil)) (eA lstW (aCons (e2 ixW (eVar 0) (eC (.int 1))) aNil))))
def F_law_names_in : Fn := fnF 1 S_law_names_in
def B_law_lines_at_1 : Sv :=
  (sAsg (eC (.bl true)) (gvSubD (eVar 2) (eVar 4)))
def B_law_lines_at_2 : Sv :=
  (sFor (iSeq (eCall (eN 3 PrB.F_law_series) [] (aCons (eCall (eN 2 PrB.F_law_at) [] (aCons (eVar 3) (aCons (eVar 1) aNil))) (aCons (e2 ixW (eVar 3) (eC (.int 5))) (aCons (e2 ixW (eVar 3) (eC (.int 6))) aNil))))) (gvName 4) PrB.B_law_lines_at_1)
def S_law_lines_at : Sv :=
  (sSeq (sSet 2 eNewK)
  (sSeq (sFor (iAny (eVar 0)) (gvName 3) PrB.B_law_lines_at_2)
  (sRet (eVar 2))))
def F_law_lines_at : Fn := fnF 5 S_law_lines_at
def B_law_turned_1 : Sv :=
  (sSet 6 (e2 mulW (e2 fdivW (eVar 6) (eCall (eN 2 PrB.F_law_shared) [] (aCons (eVar 6) (aCons (eVar 8) aNil)))) (eVar 8)))
def B_law_turned_2 : Sv :=
  (sSeq (sAsg (eA tupW (aCons (e2 ixW (eVar 2) (eVar 4)) (aCons (eC (.int 1)) aNil))) (gvTup 2 (gvCons (gvName 5) (gvCons (gvName 6) gvNil))))
  (sSeq (sFor (iAny (eVar 5)) (gvTup 2 (gvCons (gvName 7) (gvCons (gvName 8) gvNil))) PrB.B_law_turned_1)
  (sSeq (sSet 9 (eComp [7, 8] (iAny (eVar 5)) (gvTup 2 (gvCons (gvName 7) (gvCons (gvName 8) gvNil))) tvYes (e2 mulW (eVar 7) (e2 fdivW (eVar 6) (eVar 8)))))
  (sSeq (sSet 10 (eComp [11] (iRange1 (aCons (eVar 6) aNil)) (gvName 11) (tB' (e2 eqW (eComp [3] (iSeq (eVar 9)) (gvName 3) (tB' (e2 (inFW true) (e2 modW (eA intW (aCons (e2 addW (eVar 3) (eVar 11)) aNil)) (eVar 6)) (eVar 9))) (eVar 3)) (eA lstW aNil))) (eVar 11)))
  (sSet 1 (eCall (eN 2 PrB.F_law_shared) [] (aCons (e2 mulW (e2 subW (e2 ixW (eVar 4) (eC (.int 1))) (e2 ixW (eVar 4) (eC (.int 3)))) (eA lenW (aCons (eVar 10) aNil))) (aCons (eVar 1) aNil))))))))
def B_law_turned_3 : Sv :=
  (sIf (tB' (e2 eqW (eA lenW (aCons (eVar 3) aNil)) (eC (.int 5)))) (sAsg (e2 addW (eGet2 (eVar 2) (eSl slW (eVar 3) oNone (oSome (eC (.int 4)))) (eA lstW aNil)) (eA lstW (aCons (e2 ixW (eVar 3) (eC (.int 4))) aNil))) (gvSub (eVar 2) (eSl slW (eVar 3) oNone (oSome (eC (.int 4)))))) sNext)
def S_law_turned : Sv :=
  (sSeq (sPar 1 2 (aCons (eC (.int 0)) (aCons eNewK aNil)))
  (sSeq (sFor (iAny (eVar 0)) (gvName 3) PrB.B_law_turned_3)
  (sSeq (sFor (iAny (eVar 2)) (gvName 4) PrB.B_law_turned_2)
  (sRet (eVar 1)))))
def F_law_turned : Fn := fnF 12 S_law_turned
def S_law_vow : Sv :=
  (sSeq (sPar3 3 4 5 (aCons (eCall (eN 2 PrB.F_law_one) [] (aCons (eVar 0) (aCons (eVar 2) aNil))) (aCons (eCall (eN 2 PrB.F_law_one) [] (aCons (eVar 0) (aCons (eVar 2) aNil))) (aCons (e2 addW (eC (.int 1)) (eCall (eN 2 PrB.F_law_sip) [] (aCons (eVar 0) (aCons (eC (.int 7)) aNil)))) aNil))))
  (sSeq (sSet 6 (eCall (eN 2 PrB.F_law_one) [] (aCons (eVar 0) (aCons (eA lstW (aCons (eC (.str "lines")) (aCons (eC (.str "lines")) (aCons (eC (.str "turns")) (aCons (eC (.str "turns")) (aCons (eC (.str "within")) (aCons (eC (.str "within")) (aCons (eC (.str "same")) aNil)))))))) aNil))))
  (sSeq (sIf (tOr' (tB' (e2 eqW (eVar 6) (eC (.str "within")))) (tB' (e2 eqW (eVar 6) (eC (.str "same"))))) (sRet (eA tupW (aCons (eVar 6) (aCons (eVar 3) (aCons (eIf (tB' (e2 eqW (eCall (eN 2 PrB.F_law_sip) [] (aCons (eVar 0) (aCons (eC (.int 2)) aNil))) (eC (.int 0)))) (eVar 4) (eVar 3)) (aCons (eVar 5) aNil)))))) sNext)
  (sSeq (sSet 7 (eIf (tB' (e2 (inFW false) (eVar 3) (eVar 1))) (eCall (eN 2 PrB.F_law_lines_at) [] (aCons (e2 ixW (eVar 1) (eVar 3)) (aCons (eVar 5) aNil))) eNewK))
  (sSeq (sSet 8 (eIf (tB' (e2 eqW (eVar 6) (eC (.str "lines")))) (eA lenW (aCons (eVar 7) aNil)) (eCall (eN 1 PrB.F_law_turned) [] (aCons (eVar 7) aNil))))
  (sRet (eA tupW (aCons (eVar 6) (aCons (eVar 3) (aCons (eVar 5) (aCons (eA max2W (aCons (eC (.int 1)) (aCons (e2 addW (eVar 8) (eCall (eN 2 PrB.F_law_one) [] (aCons (eVar 0) (aCons (eA lstW (aCons (eC (.int 0)) (aCons (eC (.int 0)) (aCons (eC (.int 0)) (aCons (eC (.int 1)) (aCons (e1 negW (eC (.int 1))) (aCons (e2 powW (eC (.int 10)) (eC (.int 40))) aNil))))))) aNil)))) aNil))) aNil)))))))))))
def F_law_vow : Fn := fnF 9 S_law_vow
def S_law_deed : Sv :=
  (sSeq (sPar 2 3 (aCons (eCall (eN 2 PrB.F_law_one) [] (aCons (eVar 0) (aCons (eA lstW (aCons (eC (.str "set")) (aCons (eC (.str "set")) (aCons (eC (.str "set")) (aCons (eC (.str "claim")) (aCons (eC (.str "claim")) (aCons (eC (.str "lift")) (aCons (eC (.str "drop")) aNil)))))))) aNil))) (aCons (eCall (eN 2 PrB.F_law_one) [] (aCons (eVar 0) (aCons (eVar 1) aNil))) aNil)))
  (sSeq (sIf (tB' (e2 eqW (eVar 2) (eC (.str "set")))) (sRet (eA tupW (aCons (eC (.str "set")) (aCons (eVar 3) (aCons (eCall (eN 1 PrB.F_law_text) [] (aCons (eCall (eN 2 PrB.F_law_rows) [] (aCons (eVar 0) (aCons (eA lstW aNil) aNil))) aNil)) aNil))))) sNext)
  (sSeq (sIf (tB' (e2 eqW (eVar 2) (eC (.str "claim")))) (sSeq (sSet 4 (eCall (eN 2 PrB.F_law_one) [] (aCons (eVar 0) (aCons (eVar 1) aNil))))
  (sSeq (sSet 5 (eA lstW (aCons (eA tupW (aCons (eC (.str "lines")) (aCons (eVar 3) (aCons (eC (.int 4)) (aCons (e2 addW (eC (.int 1)) (eCall (eN 2 PrB.F_law_sip) [] (aCons (eVar 0) (aCons (eC (.int 4)) aNil)))) aNil))))) (aCons (eA tupW (aCons (eC (.str "lines")) (aCons (eVar 3) (aCons (e2 powW (eC (.int 10)) (eC (.int 29))) (aCons (eC (.int 1)) aNil))))) (aCons (eA tupW (aCons (eC (.str "turns")) (aCons (eVar 3) (aCons (eC (.int 3)) (aCons (eC (.int 3)) aNil))))) aNil)))))
  (sSeq (sSet 5 (e2 addW (eVar 5) (eA lstW (aCons (eA tupW (aCons (eC (.str "within")) (aCons (eVar 3) (aCons (eVar 3) (aCons (eC (.int 5)) aNil))))) (aCons (eA tupW (aCons (eC (.str "same")) (aCons (eVar 3) (aCons (eVar 4) (aCons (eC (.int 2)) aNil))))) (aCons (eA tupW (aCons (eC (.str "within")) (aCons (eVar 3) (aCons (eVar 4) (aCons (e2 powW (eC (.int 10)) (eC (.int 28))) aNil))))) aNil))))))
  (sRet (eA tupW (aCons (eC (.str "claim")) (aCons (eCall (eN 2 PrB.F_law_one) [] (aCons (eVar 0) (aCons (eVar 5) aNil))) aNil))))))) sNext)
  (sRet (eIf (tB' (e2 eqW (eVar 2) (eC (.str "lift")))) (eA tupW (aCons (eC (.str "lift")) (aCons (eCall (eN 2 PrB.F_law_sip) [] (aCons (eVar 0) (aCons (eC (.int 4)) aNil))) aNil))) (eA tupW (aCons (eC (.str "drop")) (aCons (eVar 3) aNil))))))))
def F_law_deed : Fn := fnF 6 S_law_deed
def S_law_told_deed : Sv :=
  (sRet (eIf (tB' (e2 eqW (e2 ixW (eVar 0) (eC (.int 0))) (eC (.str "set")))) (eA tupW (aCons (eC (.str "set")) (aCons (e2 ixW (eVar 0) (eC (.int 1))) (aCons (eMake mkEnd 3 (eN 2 Pr.F_Script_init) [] (aCons (e2 ixW (eVar 0) (eC (.int 2))) aNil)) aNil)))) (eVar 0)))
def F_law_told_deed : Fn := fnF 1 S_law_told_deed
def S_law_arrows : Sv :=
  (sSeq (sAsg (eVar 0) (gvTup 5 (gvCons (gvName 1) (gvCons (gvName 2) (gvCons (gvName 3) (gvCons (gvName 4) (gvCons (gvName 5) gvNil)))))))
  (sSeq (sSet 6 (eCall (eN 2 PrB.F_law_shared) [] (aCons (eVar 2) (aCons (eVar 3) aNil))))
  (sSeq (sSet 7 (e2 dgetW (eDisp [((eC (.str "in")), (e2 subW (eVar 2) (eVar 3))), ((eC (.str "out")), (e2 addW (eVar 2) (eVar 3))), ((eC (.str "over")), (e2 subW (eVar 3) (eVar 2)))]) (eVar 1)))
  (sSeq (sPar 8 9 (aCons (eCall (eN 2 PrB.F_law_part) [] (aCons (eVar 5) (aCons (eVar 2) aNil))) (aCons (eCall (eN 2 PrB.F_law_part) [] (aCons (e2 addW (e2 mulW (eC (.int 2)) (eVar 5)) (eVar 2)) (aCons (e2 mulW (eC (.int 2)) (eVar 2)) aNil))) aNil)))
  (sSeq (sSet 10 (eA tupW (aCons (eVar 7) (aCons (e2 fdivW (eVar 3) (eVar 6)) (aCons (eIf (tB' (e2 eqW (eVar 1) (eC (.str "over")))) (eVar 9) (eVar 8)) aNil)))))
  (sSeq (sIf (tB' (e2 eqW (eVar 4) (eC (.int 0)))) (sRet (eA lstW (aCons (eA tupW (aCons (eVar 7) (aCons (eC (.int 1)) (aCons (e2 ixW (eVar 10) (eC (.int 2))) aNil)))) aNil))) sNext)
  (sSeq (sSet 11 (eIf (tB' (e2 eqW (eVar 1) (eC (.str "out")))) (e2 fdivW (e2 addW (eVar 2) (eVar 3)) (eVar 6)) (e2 fdivW (e2 subW (eVar 3) (eVar 2)) (eVar 6))))
  (sRet (eA lstW (aCons (eVar 10) (aCons (eA tupW (aCons (eVar 4) (aCons (eVar 11) (aCons (eIf (tB' (e2 eqW (eVar 1) (eC (.str "out")))) (eVar 9) (eVar 8)) aNil)))) aNil)))))))))))
def F_law_arrows : Fn := fnF 12 S_law_arrows
def S_law_is_part : Sv :=
  (sSeq (sIf (tOr' (tNot' (tB' (eA (isiW isT0) (aCons (eVar 0) (aCons (eC (.ty "tuple")) aNil))))) (tB' (e2 neW (eA lenW (aCons (eVar 0) aNil)) (eC (.int 2))))) (sRet (eC (.bl false))) sNext)
  (sSeq (sIf (tB' (e2 neW (eComp [1] (iAny (eVar 0)) (gvName 1) (tOr' (tNot' (tB' (eA (isiW isT0) (aCons (eVar 1) (aCons (eC (.ty "int")) aNil))))) (tB' (eA (isiW isT0) (aCons (eVar 1) (aCons (eC (.ty "bool")) aNil))))) (eVar 1)) (eA lstW aNil))) (sRet (eC (.bl false))) sNext)
  (sRet (eAnd (eChain leW ltW (eC (.int 0)) (e2 ixW (eVar 0) (eC (.int 0))) (e2 ixW (eVar 0) (eC (.int 1)))) (e2 eqW (eCall (eN 2 PrB.F_law_part) [] (aCons (e2 ixW (eVar 0) (eC (.int 0))) (aCons (e2 ixW (eVar 0) (eC (.int 1))) aNil))) (eVar 0))))))
def F_law_is_part : Fn := fnF 2 S_law_is_part
def B_law_is_shown_1 : Sv :=
  (sSeq (sAsg (e2 ixW (eVar 3) (eVar 7)) (gvTup 3 (gvCons (gvName 8) (gvCons (gvName 9) (gvCons (gvName 10) gvNil)))))
  (sSeq (sAsg (e2 ixW (eVar 4) (eVar 7)) (gvTup 3 (gvCons (gvName 11) (gvCons (gvName 12) (gvCons (gvName 13) gvNil)))))
  (sSeq (sIf (tOr' (tB' (e2 neW (eVar 8) (eVar 11))) (tB' (e2 neW (eVar 9) (eIf (tB' (e2 ixW (eVar 2) (eC (.int 1)))) (e2 subW (eC (.int 0)) (eVar 12)) (eVar 12))))) (sRet (eC (.bl false))) sNext)
  (sIf (tB' (e2 neW (eCall (eN 2 PrB.F_law_part) [] (aCons (e2 addW (e2 mulW (e2 ixW (eVar 13) (eC (.int 0))) (eVar 6)) (e2 mulW (e2 mulW (eVar 9) (eVar 5)) (e2 ixW (eVar 13) (eC (.int 1))))) (aCons (e2 mulW (e2 ixW (eVar 13) (eC (.int 1))) (eVar 6)) aNil))) (eVar 10))) (sRet (eC (.bl false))) sNext))))
def S_law_is_shown : Sv :=
  (sSeq (sIf (tOr' (tNot' (tB' (eA (isiW isT0) (aCons (eVar 2) (aCons (eC (.ty "tuple")) aNil))))) (tOr' (tB' (e2 neW (eA lenW (aCons (eVar 2) aNil)) (eC (.int 3)))) (tNot' (tB' (eCall (eN 1 PrB.F_law_is_part) [] (aCons (e2 ixW (eVar 2) (eC (.int 2))) aNil)))))) (sRet (eC (.bl false))) sNext)
  (sSeq (sIf (tOr' (tNot' (tB' (eA (isiW isT0) (aCons (e2 ixW (eVar 2) (eC (.int 0))) (aCons (eC (.ty "bool")) aNil))))) (tNot' (tB' (eA (isiW isT0) (aCons (e2 ixW (eVar 2) (eC (.int 1))) (aCons (eC (.ty "bool")) aNil)))))) (sRet (eC (.bl false))) sNext)
  (sSeq (sPar 3 4 (aCons (eCall (eN 1 PrB.F_law_arrows) [] (aCons (eVar 0) aNil)) (aCons (eCall (eN 1 PrB.F_law_arrows) [] (aCons (eVar 1) aNil)) aNil)))
  (sSeq (sIf (tOr' (tB' (e2 neW (eA lenW (aCons (eVar 3) aNil)) (eA lenW (aCons (eVar 4) aNil)))) (tAnd' (tB' (e2 ixW (eVar 2) (eC (.int 0)))) (tB' (e2 eqW (eA lenW (aCons (eVar 3) aNil)) (eC (.int 1)))))) (sRet (eC (.bl false))) sNext)
  (sSeq (sSet 4 (eIf (tB' (e2 ixW (eVar 2) (eC (.int 0)))) (e1 revW (eVar 4)) (eVar 4)))
  (sSeq (sAsg (e2 ixW (eVar 2) (eC (.int 2))) (gvTup 2 (gvCons (gvName 5) (gvCons (gvName 6) gvNil))))
  (sSeq (sFor (iRange1 (aCons (eA lenW (aCons (eVar 3) aNil)) aNil)) (gvName 7) PrB.B_law_is_shown_1)
  (sRet (eC (.bl true))))))))))
def F_law_is_shown : Fn := fnF 14 S_law_is_shown
def S_law_is_within : Sv :=
  (sRet (e2 eqW (eComp [2] (iAny (eVar 0)) (gvName 2) (tB' (e2 (inFW true) (eVar 2) (eVar 1))) (eVar 2)) (eA lstW aNil)))
def F_law_is_within : Fn := fnF 3 S_law_is_within
def S_law_strands : Sv :=
  (sRet (eComp [2] (iAny (eVar 0)) (gvName 2) tvYes (eA lstW (aCons (eCall (eN 3 PrB.F_law_series) [] (aCons (eCall (eN 2 PrB.F_law_at) [] (aCons (eVar 2) (aCons (eVar 1) aNil))) (aCons (e2 ixW (eVar 2) (eC (.int 5))) (aCons (e2 ixW (eVar 2) (eC (.int 6))) aNil)))) (aCons (e2 eqW (e2 ixW (eVar 2) (eC (.int 6))) (eC (.int 0))) aNil)))))
def F_law_strands : Fn := fnF 3 S_law_strands
def B_law_cover_right_1 : Sv :=
  (sIf (tB' (e2 (inFW true) (e2 ixW (eVar 4) (e2 modW (eA intW (aCons (eVar 7) aNil)) (eVar 6))) (e2 ixW (e2 ixW (eVar 1) (e2 ixW (eVar 2) (e2 modW (eA intW (aCons (eVar 7) aNil)) (eA lenW (aCons (eVar 2) aNil))))) (eC (.int 0))))) (sRet (eC (.bl false))) sNext)
def S_law_cover_right : Sv :=
  (sSeq (sIf (tOr' (tNot' (tB' (eA (isiW isT0) (aCons (eVar 2) (aCons (eC (.ty "tuple")) aNil))))) (tNot' (tB' (eChain leW leW (eC (.int 1)) (eA lenW (aCons (eVar 2) aNil)) (eC (.int 30)))))) (sRet (eC (.bl false))) sNext)
  (sSeq (sIf (tB' (e2 neW (eComp [3] (iAny (eVar 2)) (gvName 3) (tOr' (tNot' (tB' (eA (isiW isT0) (aCons (eVar 3) (aCons (eC (.ty "int")) aNil))))) (tOr' (tB' (eA (isiW isT0) (aCons (eVar 3) (aCons (eC (.ty "bool")) aNil)))) (tNot' (tB' (eChain leW ltW (eC (.int 0)) (eVar 3) (eA lenW (aCons (eVar 1) aNil))))))) (eVar 3)) (eA lstW aNil))) (sRet (eC (.bl false))) sNext)
  (sSeq (sAsg (eVar 0) (gvTup 2 (gvCons (gvName 4) (gvCons (gvName 5) gvNil))))
  (sSeq (sSet 6 (eA lenW (aCons (eVar 4) aNil)))
  (sSeq (sFor (iRange1 (aCons (eIf (tB' (eVar 5)) (e2 mulW (eVar 6) (eA lenW (aCons (eVar 2) aNil))) (eVar 6)) aNil)) (gvName 7) PrB.B_law_cover_right_1)
  (sRet (eC (.bl true))))))))
def F_law_cover_right : Fn := fnF 8 S_law_cover_right
def S_law_within_shown : Sv :=
  (sSeq (sIf (tOr' (tNot' (tB' (eA (isiW isT0) (aCons (eVar 2) (aCons (eC (.ty "tuple")) aNil))))) (tB' (e2 neW (eA lenW (aCons (eVar 2) aNil)) (eA lenW (aCons (eVar 0) aNil))))) (sRet (eC (.bl false))) sNext)
  (sRet (e2 eqW (eComp [3] (iRange1 (aCons (eA lenW (aCons (eVar 0) aNil)) aNil)) (gvName 3) (tNot' (tB' (eCall (eN 3 PrB.F_law_cover_right) [] (aCons (e2 ixW (eVar 0) (eVar 3)) (aCons (eVar 1) (aCons (e2 ixW (eVar 2) (eVar 3)) aNil)))))) (eVar 3)) (eA lstW aNil))))
def F_law_within_shown : Fn := fnF 4 S_law_within_shown
def B_law_others_1 : Sv :=
  (sIf (tAnd' (tB' (e2 eqW (e2 ixW (eVar 4) (eC (.int 6))) (eC (.int 0)))) (tAnd' (tB' (e2 eqW (eVar 2) (eC (.int 1)))) (tAnd' (tB' (e2 leW (e2 ixW (eVar 4) (eC (.int 5))) (eC (.int 6)))) (tAnd' (tB' (e2 ltW (eA lenW (aCons (eVar 3) aNil)) (eC (.int 2)))) (tAnd' (tB' (e2 leW (e2 addW (e2 ixW (e2 ixW (eVar 4) (eC (.int 4))) (eC (.int 1))) (e2 ixW (eVar 4) (eC (.int 5)))) (eC (.int 12)))) (tB' (e2 ltW (eA lenW (aCons (eVar 1) aNil)) (eC (.int 3))))))))) (sSeq (sSet 5 (e2 addW (eSl slW (eVar 4) oNone (oSome (eC (.int 5)))) (eA lstW (aCons (e2 mulW (eC (.int 2)) (e2 ixW (eVar 4) (eC (.int 5)))) (aCons (eC (.int 0)) aNil)))))
  (sSet 3 (e2 addW (eVar 3) (eA lstW (aCons (e2 addW (e2 addW (eSl slW (eVar 5) oNone (oSome (eC (.int 4)))) (eA lstW (aCons (eA tupW (aCons (e2 ixW (e2 ixW (eVar 4) (eC (.int 4))) (eC (.int 0))) (aCons (e2 addW (e2 ixW (e2 ixW (eVar 4) (eC (.int 4))) (eC (.int 1))) (e2 ixW (eVar 4) (eC (.int 5)))) aNil))) aNil))) (eSl slW (eVar 5) (oSome (eC (.int 5))) oNone)) (aCons (eVar 5) aNil)))))) (sSet 3 (e2 addW (eVar 3) (eA lstW (aCons (eVar 4) aNil)))))
def S_law_others : Sv :=
  (sSeq (sPar 2 3 (aCons (eCall (eN 2 PrB.F_law_sip) [] (aCons (eVar 0) (aCons (eC (.int 4)) aNil))) (aCons (eA lstW aNil) aNil)))
  (sSeq (sIf (tB' (e2 eqW (eVar 2) (eC (.int 0)))) (sRet (eCall (eN 2 PrB.F_law_rows) [] (aCons (eVar 0) (aCons (e2 ixW (eVar 1) (eC (.int 0))) aNil)))) sNext)
  (sSeq (sFor (iAny (e1 revW (eVar 1))) (gvName 4) PrB.B_law_others_1)
  (sRet (eIf (tB' (e2 ltW (eVar 2) (eC (.int 3)))) (eSl slW (eVar 3) oNone (oSome (eC (.int 3)))) (eSl slW (eVar 3) oNone (oSome (eC (.int 2)))))))))
def F_law_others : Fn := fnF 6 S_law_others
def S_law_keeps : Sv :=
  (sSeq (sSet 2 (e2 ixW (eVar 1) (e2 ixW (eVar 0) (eC (.int 1)))))
  (sSeq (sIf (tB' (e2 eqW (e2 ixW (eVar 0) (eC (.int 0))) (eC (.str "lines")))) (sRet (e2 eqW (eA lenW (aCons (eCall (eN 2 PrB.F_law_lines_at) [] (aCons (eVar 2) (aCons (e2 ixW (eVar 0) (eC (.int 2))) aNil))) aNil)) (e2 ixW (eVar 0) (eC (.int 3))))) sNext)
  (sSeq (sIf (tB' (e2 eqW (e2 ixW (eVar 0) (eC (.int 0))) (eC (.str "turns")))) (sRet (e2 eqW (eCall (eN 1 PrB.F_law_turned) [] (aCons (eCall (eN 2 PrB.F_law_lines_at) [] (aCons (eVar 2) (aCons (e2 ixW (eVar 0) (eC (.int 2))) aNil))) aNil)) (e2 ixW (eVar 0) (eC (.int 3))))) sNext)
  (sSeq (sSet 3 (eCall (eN 2 PrB.F_law_lines_at) [] (aCons (eVar 2) (aCons (e2 ixW (eVar 0) (eC (.int 3))) aNil))))
  (sSeq (sSet 4 (eCall (eN 2 PrB.F_law_lines_at) [] (aCons (e2 ixW (eVar 1) (e2 ixW (eVar 0) (eC (.int 2)))) (aCons (e2 ixW (eVar 0) (eC (.int 3))) aNil))))
  (sSeq (sIf (tB' (e2 eqW (e2 ixW (eVar 0) (eC (.int 0))) (eC (.str "within")))) (sRet (eCall (eN 2 PrB.F_law_is_within) [] (aCons (eVar 3) (aCons (eVar 4) aNil)))) sNext)
  (sRet (eAnd (eCall (eN 2 PrB.F_law_is_within) [] (aCons (eVar 3) (aCons (eVar 4) aNil))) (eCall (eN 2 PrB.F_law_is_within) [] (aCons (eVar 4) (aCons (eVar 3) aNil)))))))))))
def F_law_keeps : Fn := fnF 5 S_law_keeps
end PrB
set_option Elab.async false
set_option linter.all false
set_option maxRecDepth 100000
set_option maxHeartbeats 4000000
/-! defs called, and repr, where an error may be in hand; repr of a dict -/
namespace PU
open PySem PySem.Spec PyProof.Rows L2
abbrev SpP := List V → Hp → VK → Prop
structure FnP (P : Program) (w : World) (K : PySem.W.Frag) (mg : Str → Option Value) (base : Heap) (k : Nat) (f : Addr) (fd : FuncData) (ps : List Str) (sp : SpP) : Prop where
  len : ∀ vs H Q, sp vs H Q → vs.length = ps.length
  run : ∀ (A : Around) (outer : List PySem.Env) (s : Shared) (H : Hp) (args : Args) (us : List Value) (vs : List V) (Q : VK), PW.RoomP k A → Env0 P w K mg base A outer s H → BindsTo s fd args (ps.zip us) → Vals vs us → sp vs H Q →
    codeAny (model P w) A (.call (.ref f) args) (CR C8.CX0 outer P w H s Q C8.E0) s
section
variable {P : Program} {w : World} {K : PySem.W.Frag} {mg : Str → Option Value} {base : Heap} {k : Nat} {f : Addr} {fd : FuncData} {ps N : List Str} {sp : SpP}
variable {x qual : Str} {params : Arguments} {body : List Stmt} {scope : Scope} {dvs : List V} {kws : List (Str × V)}
theorem FnP.of (F : FunD K x qual params body scope dvs kws f fd) (S : FnScope N ps scope) (len : ∀ vs H Q, sp vs H Q → vs.length = ps.length)
    (hbody : ∀ (cdv : Value) (A : Around) (outer : List PySem.Env) (s : Shared) (H : Hp) (vs : List V) (Q : VK) (p : Addr × Obj), PW.RoomP k (A.deeper (envOfC qual scope s.heap.objs.size f cdv)) → sp vs H Q →
      ∃ t, PSs (L2H.cxH C8.CX0 P w K mg base N qual scope f cdv A outer s H C8.E0 p) body t ∧ t { nx := fun _ H' => Q .non H', rt := Q } (start N vs) H) : FnP P w K mg base (k + 1) f fd ps sp := by
  obtain ⟨oc, od, dV, kV, doc, pm, an, cdv, ct, osl, efd, lk, hcd, _, _⟩ := F.ex
  subst efd
  refine ⟨len, ?_⟩
  intro A outer s H args us vs Q rg e0 bd rv hs
  have keepAll := fun (b : Addr) (o : Obj) (e : base.get? b = some o) => (e0.bs b o e).1
  have inHeap : K.In s.heap := e0.mod.kin.keeps keepAll
  have noLim : s.heap.NoLimit := e0.mod.nolimit.keeps keepAll
  have kinds : ∀ q ∈ ps.zip us, scope.names.lookup q.1 = some .local ∨
      (scope.names.lookup q.1 = some .cell ∧ ((cellsFrom (s.heap.objs.size + 1) scope.names []).lookup q.1).isSome = true) := by
    intro q hq
    have hm : q.1 ∈ ps := (List.of_mem_zip (show (q.1, q.2) ∈ ps.zip us from hq)).1
    cases S.par q.1 hm with
    | inl z => exact Or.inl z
    | inr z => exact Or.inr ⟨z, PySem.W.cellsFrom_some _ _ _ (Or.inl z)⟩
  obtain ⟨om, em, epm, hom, hdm, _⟩ := e0.mod.glob
  have hpin : L2H.PinOk outer H s (mainGlobals, om) := ⟨keepAll _ _ hom, (e0.bs _ _ hom).2, (fun hm => by
    have z := (e0.funs.mem hm).1
    rw [hom] at z
    cases z), (fun v z => by
    have z : om.data = .cell v := z
    rw [hdm] at z
    cases z)⟩
  apply codeAny_call_function rg.depth (inHeap _ _ lk) rfl S.co S.gen rfl (PySem.W.codeRec_of inHeap hcd) (bd _ _ _ _ _)
  apply wpAny_newFunctionEnv_cells S.kind kinds
  intro env he s1 ic
  subst he
  refine ⟨noLim.keeps ic.toInCall.keep, codeAny_func ?_⟩
  obtain ⟨t, ht, hq⟩ := hbody cdv A outer s H vs Q (mainGlobals, om) (rg.deeper _) hs
  have I := L2H.inv_startH (CX := C8.CX0) (P := P) (E := C8.E0) S hpin e0 (len _ _ _ hs) rv ic
  have ended : ∀ {σ' : L2.St} {H' : Hp} {v : V} {u : Value} {s' : Shared}, Inv (L2H.cxH C8.CX0 P w K mg base N qual scope f cdv A outer s H C8.E0 (mainGlobals, om)) [] σ' H' s' → RelV v u → Q v H' → CE outer P w H s Q u s' := by
    intro σ' H' v u s' J r q
    exact ⟨v, H', J.os, J.bare, J.base, J.hok, r, q⟩
  refine wpAny_mono (ht.run [] s1 _ H _ I hq) ?_ (fun e s' z => z)
  intro fl s' z
  cases fl
  case ret u =>
    obtain ⟨v, σ', H', J, r, q⟩ := z
    exact ended J r q
  case next =>
    obtain ⟨σ', H', J, q⟩ := z
    exact ended (v := V.non) (u := Value.none) J rfl q
  case brk =>
    obtain ⟨_, _, _, q⟩ := z
    exact q.elim
  case cont =>
    obtain ⟨_, _, _, q⟩ := z
    exact q.elim
end
/-- what a def's function says of its body -/
theorem good_body {G : Glo} {F0 : Hp} {θ : List Addr} {M : Mem} {fi : Nat → W → Mem → R W} {r : RS} {Q : VK} {E : XK} (hfi : FinOk G fi) (hn : θ.length = M.length) (hg : Good G F0 θ (postE G Q) E (match r with
    | .go (.ret w) _ M' => fi M.length w M'
    | .go .nx _ M' => .ok (.d .non) (M'.take M.length)
    | .exc x _ M' => .exc x (M'.take M.length)
    | _ => .stuck)) : GoodS G F0 θ { nx := fun _ H' => Q .non H', rt := Q } (fun c d _ H => E c d H) r := by
  cases r with
  | stuck => exact hg
  | exc x ρ' M' =>
    intro F' θ' σ' H' c d l p sr rx
    have hr2 := sr.hr.cut M.length
    rw [take_len p hn] at hr2
    exact hg F' θ H' c d l (List.prefix_refl _) hr2 rx
  | go fl ρ' M' =>
    intro F' θ' σ' H' l p sr
    cases fl with
    | nx =>
      have hr2 := sr.hr.cut M.length
      rw [take_len p hn] at hr2
      exact hg F' θ H' l (List.prefix_refl _) hr2 _ (by simp only [RepW, Rep])
    | bk => exact hg.elim
    | ct => exact hg.elim
    | ret w' => exact fun v rv => hfi F0 F' θ θ' H' M' M.length w' v Q E hn l p sr.hr rv hg
def spP (G : Glo) (n : Nat) (f : Fn) : SpP := fun vs H Q => vs.length = n ∧ ∃ F θ ws M, HR G F θ H M ∧ RepWL G F θ ws vs ∧ Good G F θ (postE G Q) (fun _ _ _ => False) (f ws M)
theorem fn_okP {G : Glo} {P : Program} {w : World} {K : PySem.W.Frag} {mg : Str → Option Value} {base : Heap} {x qual : Str} {params : Arguments} {body : List Stmt} {scope : Scope} {dvs : List V} {kws : List (Str × V)} {f : Addr} {fd : FuncData} {N ps : List Str} {k : Nat}
    {fi : Nat → W → Mem → R W} {g : Sv} (hfi : FinOk G fi) (F : FunD K x qual params body scope dvs kws f fd) (S : FnScope N ps scope)
    (hb : ∀ (cdv : Value) (A : Around) (outer : List PySem.Env) (s : Shared) (H : Hp) (p : Addr × Obj), PW.RoomP k (A.deeper (envOfC qual scope s.heap.objs.size f cdv)) →
      ∃ t, PUSs G (L2H.cxH C8.CX0 P w K mg base N qual scope f cdv A outer s H C8.E0 p) body t g) :
    FnP P w K mg base (k + 1) f fd ps (spP G ps.length (fnW fi N.length g)) := by
  refine FnP.of F S (fun vs H Q h => h.1) fun cdv A outer s H vs Q p hr h => ?_
  obtain ⟨t, ht⟩ := hb cdv A outer s H p hr
  refine ⟨t fun _ _ _ _ => False, ht.pe _ PW.takesF, ?_⟩
  obtain ⟨hl, F0, θ, ws, M, hr0, rws, hg⟩ := h
  have hlen := rws.length
  refine ht.sem _ F0 θ _ H (ws.map some ++ List.replicate (N.length - ws.length) none) M _ ⟨hr0, by simp [L2.start, hlen], ?_⟩ ?_
  · unfold L2.start
    rw [hlen]
    exact slots_start rws _
  · exact good_body hfi hr0.len hg
/-- a def, walked for such calls -/
def OkP (P : Program) (w : World) (mg : Str → Option Value) (base : Heap) (G : Glo) (d : He5.DefA) (ps : List Str) (k : Nat) (f : Fn) : Prop :=
  ∃ fd, FunD G.K d.name d.qual d.params d.body d.scope (d.dvs G.K) (d.kws G.K) (d.at_ G.K) fd ∧ FnP P w G.K mg base k (d.at_ G.K) fd ps (spP G ps.length f)
section
variable {G : Glo} {X : Cx} {k n : Nat} {f : Addr} {fd : FuncData} {ps : List Str} {sp : SpP} {fs : Fn} {x : Str} {q pos : Pos} {e : Expr} {es : List Expr} {t : TA} {tu : L2.WX → TA} {fa : Av}
def tCallQ (sp : SpP) (t : TA) : TE := fun σ H Q => t σ H fun vs H1 => sp vs H1 Q
theorem pe_callQ (F : FnP X.prog X.w X.K X.mg X.base k f fd ps sp) (hr : PW.RoomP k X.A) (hg : L2.Gl X x) (hm : X.mg x = some (.ref f)) (hk : PySem.W.keepIn X.K (.ref f) = true) (hb : Binds X.K fd ps [])
    (ha : PA X (e :: es) t) (hdb : (x == ("__debug__" : Str)) = false := by decide) (he : starEach (e :: es) X.env = (false, eval e X.env) :: starEach es X.env := by rfl) (hpl : (backTo pos (starEach es X.env)).any (·.1) = false := by rfl) :
    PE X (.Call (.Name x q) (e :: es) [] pos) (tCallQ sp t) := by
  refine ⟨fun pins s σ H Q I h => ?_⟩
  apply wpAny_Call_Name_kw (ld_glob I hg hm ?_ hdb)
  refine PySem.W.callWith_K (h₀ := X.base) I.ok.mod.kin hk (thn (ha.run pos pins s σ H _ I h) (?_)) he hpl
  intro us s1 ⟨vs, H1, I1, r, sq⟩
  refine ⟨I1.kIn, ?_⟩
  have hl : us.length = ps.length := r.length.symm.trans (F.len _ _ _ sq)
  have bd := hb s1 us I1.kIn (by rw [List.append_nil]; exact hl)
  rw [List.append_nil] at bd
  apply wpAny_call
  refine codeAny_mono (F.run X.A X.stack s1 H1 ⟨us, []⟩ us vs Q hr I1.env0 bd r sq) ?_
  intro res s' z
  cases res with
  | error e => exact (show False from z).elim
  | ok fl =>
    cases fl
    case ret u => exact I1.after z
    all_goals exact False.elim z
def noXR : R W → R W
  | .exc _ _ => .stuck
  | r => r
def eCallQ (f : Fn) (fa : Av) : Ev := fun ρ M => (fa ρ M).bind fun ws M1 => noXR (f ws M1)
theorem pu_callQ (F : FnP X.prog X.w X.K X.mg X.base k f fd ps (spP G n fs)) (hr : PW.RoomP k X.A) (hm : X.mg x = some (.ref f)) (hk : PySem.W.keepIn X.K (.ref f) = true) (hb : Binds X.K fd ps []) (ha : PUA G X (e :: es) tu fa)
    (hg : L2.Gl X x := by rfl) (hdb : (x == ("__debug__" : Str)) = false := by decide +kernel) (he : starEach (e :: es) X.env = (false, eval e X.env) :: starEach es X.env := by rfl) (hpl : (backTo pos (starEach es X.env)).any (·.1) = false := by rfl) :
    PU G X (.Call (.Name x q) (e :: es) [] pos) (fun Wx => tCallQ (spP G n fs) (tu Wx)) (eCallQ (eN n fs) fa) := by
  refine ⟨fun Wx tk => pe_callQ F hr hg hm hk hb (ha.pe Wx tk) hdb he hpl, ?_⟩
  intro Wx F0 θ σ H ρ M Q sr hg
  refine ha.sem Wx F0 θ σ H ρ M _ sr (Good.seq hg fun ws M1 F1 θ1 H1 _ l1 p1 hr1 hg1 vs rvs => ?_)
  unfold eN at hg1
  split at hg1
  · rename_i hn
    refine ⟨by rw [rvs.length]; exact hn, F1, θ1, ws, M1, hr1, rvs, ?_⟩
    cases e2 : fs ws M1 with
    | stuck => rw [e2] at hg1; exact hg1
    | ok w M2 => rw [e2] at hg1; exact hg1
    | exc y M2 => rw [e2] at hg1; exact hg1.elim
  · exact hg1.elim
end
/-! ### repr, an error in hand -/
section
variable {G : Glo} {X : Cx} {k : Nat} {a : Expr} {t : L2.WX → TA} {fs : Av} {p pos : Pos}
theorem call_reprQ (hun : X.A.units + 16 * k + 200 < cLine) (hgd : X.A.guards = some []) : CallR X (.builtin "repr") (rReprD X.K) := by
  intro pins s σ H xs us Q I r h
  obtain ⟨x, d, rfl, hd, h1, h2, h3, h4, q⟩ := h
  obtain ⟨u, rfl, ru⟩ : ∃ u, us = [u] ∧ RelV x u := by
    cases r with
    | cons a b => cases b; exact ⟨_, rfl, a⟩
  cases hd with
  | non =>
    cases (show u = Value.none from ru)
    exact P.repr_of_none ⟨.str _, H, I.tok _, ⟨_, rfl⟩, q⟩
  | bl b =>
    cases (show u = Value.bool b from ru)
    exact P.repr_of_bool ⟨.str _, H, I.tok _, ⟨_, by cases b <;> rfl⟩, q⟩
  | int i =>
    obtain ⟨t, rfl⟩ := (show ∃ t, u = Value.int i t from ru)
    exact P.repr_of_int (of_decide_eq_true h1) ⟨.str _, H, I.tok _, ⟨_, rfl⟩, q⟩
  | str z =>
    obtain ⟨t, rfl⟩ := (show ∃ t, u = Value.str z t from ru)
    exact P.repr_of_str ⟨.str _, H, I.tok _, ⟨_, rfl⟩, q⟩ h4
  | lst hs ha =>
    obtain ⟨as, rd⟩ := Dp.reads I _ _ u (.lst hs ha) ru
    cases (show u = Value.ref _ from ru)
    refine repr_of_reads' rd h1 (fun z => by rw [h2] at z; cases z) hgd (by omega) (fun _ _ z => z) (fun h' u tk keep => ⟨.str _, H, ?_, ⟨_, rfl⟩, q⟩) h4
    exact I.kept keep
  | tup hs ha =>
    obtain ⟨as, rd⟩ := Dp.reads I _ _ u (.tup hs ha) ru
    cases (show u = Value.ref _ from ru)
    refine repr_of_reads' rd h1 (fun z => by rw [h2] at z; cases z) hgd (by omega) (fun _ _ z => z) (fun h' u tk keep => ⟨.str _, H, ?_, ⟨_, rfl⟩, q⟩) h4
    exact I.kept keep
/-! repr of data, a dict of ints and texts at the top among it -/
def kPy : Key → PyData
  | .inl i => .int i
  | .inr x => .str x
def keyPy : D → Option PyData
  | .int i => some (.int i)
  | .str x => some (.str x)
  | _ => none
def atomPy : D → Option PyData
  | .non => some .none
  | .bl b => some (.bool b)
  | .int i => some (.int i)
  | .str x => some (.str x)
  | _ => none
def pairsPy : List D → List D → Option (List (PyData × PyData))
  | [], [] => some []
  | k :: ks, v :: vs => match keyPy k, atomPy v, pairsPy ks vs with
    | some a, some b, some r => some ((a, b) :: r)
    | _, _, _ => none
  | _, _ => none
inductive AtomR : V → PyData → Prop
  | non : AtomR .non .none
  | bl (b) : AtomR (.bl b) (.bool b)
  | int (i) : AtomR (.int i) (.int i)
  | str (x) : AtomR (.str x) (.str x)
def rReprK (K : PySem.W.Frag) : List V → Hp → VK → Prop := fun xs H Q => rReprD K xs H Q ∨ (∃ (a : Addr) (ps : List (Key × V)) (kvs : List (PyData × PyData)), xs = [.ref a] ∧ Rd H a (.dK ps) ∧ kvs.map (·.1) = ps.map (fun p => kPy p.1) ∧ Paired AtomR (ps.map (·.2)) (kvs.map (·.2)) ∧
  (PyData.dict kvs).showable = true ∧ (PyData.dict kvs).depth ≤ 64 ∧ (PyData.dict kvs).shown.length ≤ sizeLine ∧ Q (.str (PyData.dict kvs).shown) H) ∨
  ∃ a : Addr, xs = [.ref a] ∧ Rd H a (.dT []) ∧ (PyData.dict []).showable = true ∧ (PyData.dict []).depth ≤ 64 ∧ (PyData.dict []).shown.length ≤ sizeLine ∧ Q (.str (PyData.dict []).shown) H
theorem atom_read {h : Heap} {v : V} {u : Value} {d : PyData} (r : RelV v u) (a : AtomR v d) : Reads h u d [] := by
  cases a with
  | non => cases r; exact .none
  | bl b => cases r; exact .bool b
  | int i => obtain ⟨t, rfl⟩ := r; exact .int i t
  | str x => obtain ⟨t, rfl⟩ := r; exact .str x t
theorem atoms_read {h : Heap} : ∀ {vs : List V} {us : List Value} {ds : List PyData}, Vals vs us → Paired AtomR vs ds → ReadsAll h us ds []
  | _, _, _, .nil, .nil => .nil
  | _, _, _, .cons r rr, .cons a aa => by
    have z := atoms_read (h := h) rr aa
    cases a with
    | non => cases r; exact .cons (as := []) .none z
    | bl b => cases r; exact .cons (as := []) (.bool b) z
    | int i => obtain ⟨t, rfl⟩ := r; exact .cons (as := []) (.int i t) z
    | str x => obtain ⟨t, rfl⟩ := r; exact .cons (as := []) (.str x t) z
theorem call_reprK (hun : X.A.units + 16 * k + 200 < cLine) (hgd : X.A.guards = some []) : CallR X (.builtin "repr") (rReprK X.K) := by
  intro pins s σ H xs us Q I r h
  rcases h with h | ⟨a, ps, kvs, rfl, hR, hk, hv, h1, h3, h4, q⟩ | ⟨a, rfl, hR, h1, h3, h4, q⟩
  · exact call_reprQ hun hgd pins s σ H xs us Q I r h
  · obtain ⟨u, rfl, ru⟩ : ∃ u, us = [u] ∧ RelV (.ref a) u := by
      cases r with
      | cons a b => cases b; exact ⟨_, rfl, a⟩
    cases (show u = Value.ref a from ru)
    obtain ⟨_, hsys, vs, kv, o, es, ep, ho, hex, hd, _, hp, _⟩ := hR.ok I.hok
    have key : ∀ (ps : List (Key × V)) (vs : List (Key × Value)) (es : List DictEntry) (kvs : List (PyData × PyData)), KV ps vs → Pairs (mixKind X.prog X.w) es vs → kvs.map (·.1) = ps.map (fun p => kPy p.1) → Paired AtomR (ps.map (·.2)) (kvs.map (·.2)) →
        ReadsAll s.heap (es.map (·.key)) (kvs.map (·.1)) [] ∧ ReadsAll s.heap (es.map (·.val)) (kvs.map (·.2)) [] := by
      intro ps
      induction ps with
      | nil =>
        intro vs es kvs kv hp hk hv
        cases kv
        cases hp
        cases kvs with
        | nil => exact ⟨.nil, .nil⟩
        | cons c cs => simp at hk
      | cons p ps ih =>
        intro vs es kvs kv hp hk hv
        cases kvs with
        | nil => simp at hk
        | cons c cs =>
          simp only [List.map_cons, List.cons.injEq] at hk hv
          cases kv with
          | cons kq kr =>
            cases hp with
            | cons ke ve pr =>
              obtain ⟨e1, r1⟩ := kq
              simp only [List.map_cons]
              cases hv with
              | cons a aa =>
                obtain ⟨z1, z2⟩ := ih _ _ cs kr pr hk.2 aa
                refine ⟨?_, ?_⟩
                · rw [hk.1, e1]
                  rcases keyIs_shape ke with ⟨i, t, e2, e3⟩ | ⟨x, t, e2, e3⟩
                  · rw [e2, e3]; exact .cons (as := []) (.int i t) z1
                  · rw [e2, e3]; exact .cons (as := []) (.str x t) z1
                · rw [ve]
                  exact .cons (as := []) (atom_read r1 a) z2
    obtain ⟨k1, k2⟩ := key ps vs es.toList kvs kv hp hk hv
    have rd : Reads s.heap (.ref a) (.dict kvs) (a :: [] ++ []) := .dict ho hex.1 hd k1 k2
    refine repr_of_reads' rd h1 (fun _ z => ?_) hgd (by omega) (fun _ _ z => z) (fun h' u tk keep => ⟨.str _, H, ?_, ⟨_, rfl⟩, q⟩) h4
    · simp at z
      rw [← z] at hsys
      simp at hsys
    · exact I.kept keep
  · obtain ⟨u, rfl, ru⟩ : ∃ u, us = [u] ∧ RelV (.ref a) u := by
      cases r with
      | cons a b => cases b; exact ⟨_, rfl, a⟩
    cases (show u = Value.ref a from ru)
    obtain ⟨_, hsys, xs, pr, o, es, ep, ho, hex, hd, hes, _⟩ := hR.ok I.hok
    cases pr
    have rd : Reads s.heap (.ref a) (.dict []) (a :: [] ++ []) := .dict ho hex.1 hd (by rw [hes]; exact .nil) (by rw [hes]; exact .nil)
    refine repr_of_reads' rd h1 (fun _ z => ?_) hgd (by omega) (fun _ _ z => z) (fun h' u tk keep => ⟨.str _, H, ?_, ⟨_, rfl⟩, q⟩) h4
    · simp at z
      rw [← z] at hsys
      simp at hsys
    · exact I.kept keep
/-- what is written of a value: data, or a dict of ints and texts -/
def reprX : OpN := fun ws M => match ws with
  | [.d (.dct ks vs)] => match pairsPy ks vs with
    | some kvs => if (PyData.dict kvs).showable = true ∧ (PyData.dict kvs).depth ≤ 64 ∧ (PyData.dict kvs).shown.length ≤ sizeLine then .ok (.d (.str (PyData.dict kvs).shown)) M else .stuck
    | none => .stuck
  | ws => reprW ws M
theorem keyPy_ok {d : D} {k : Key} {p : PyData} (h1 : keyPy d = some p) (h2 : keyD d = some k) : p = kPy k := by
  cases d <;> simp_all [keyPy, keyD, kPy]
  · subst h1 h2; rfl
  · subst h1 h2; rfl
theorem atomPy_ok {F : Hp} {d : D} {v : V} {p : PyData} (h1 : atomPy d = some p) (h2 : Rep G F d v) : AtomR v p := by
  cases d <;> simp [atomPy] at h1 <;> subst h1 <;> simp only [Rep] at h2 <;> subst h2
  · exact .non
  · exact .bl _
  · exact .int _
  · exact .str _
theorem pairsPy_ok {F : Hp} : ∀ {ks vs : List D} {us : List V} {ps : List (Key × V)} {kvs : List (PyData × PyData)}, pairsPy ks vs = some kvs → RepL G F vs us → ks.map keyD = ps.map (fun p => some p.1) → ps.map (·.2) = us →
    kvs.map (·.1) = ps.map (fun p => kPy p.1) ∧ Paired AtomR (ps.map (·.2)) (kvs.map (·.2))
  | [], [], us, ps, kvs, h, r, hk, hu => by
    simp only [pairsPy, Option.some.injEq] at h
    subst h
    cases ps with
    | nil => exact ⟨rfl, .nil⟩
    | cons p ps => simp at hk
  | k :: ks, v :: vs, us, ps, kvs, h, r, hk, hu => by
    simp only [pairsPy] at h
    split at h
    · rename_i a b r' e1 e2 e3
      cases h
      simp only [RepL] at r
      obtain ⟨u, us', rfl, r1, r2⟩ := r
      cases ps with
      | nil => simp at hk
      | cons p ps =>
        simp only [List.map_cons, List.cons.injEq] at hk hu
        obtain ⟨i1, i2⟩ := pairsPy_ok e3 r2 hk.2 hu.2
        refine ⟨?_, ?_⟩
        · simp only [List.map_cons, List.cons.injEq]
          exact ⟨keyPy_ok e1 hk.1, i1⟩
        · simp only [List.map_cons]
          exact .cons (by rw [hu.1]; exact atomPy_ok e2 r1) i2
    · cases h
  | [], _ :: _, _, _, _, h, _, _, _ => by simp [pairsPy] at h
  | _ :: _, [], _, _, _, h, _, _, _ => by simp [pairsPy] at h
theorem calls_reprX : CallS G (rReprK G.K) reprX := by
  intro F θ H M ws vs Q Wx hr rw' hg
  unfold reprX at hg
  split at hg
  · rename_i ks ds
    obtain ⟨v, rfl, rv⟩ := RepWL.one rw'
    split at hg
    · rename_i kvs e
      split at hg
      · rename_i hc
        simp only [RepW, Rep] at rv
        obtain ⟨a, us, rfl, h1, h2⟩ := rv
        rcases h2 with ⟨ps, q1, q2, q3⟩ | ⟨ps, q1, q2, q3⟩
        · obtain ⟨z1, z2⟩ := pairsPy_ok e h1 q2 q3
          refine .inr (.inl ⟨a, ps, kvs, rfl, ?_, z1, z2, hc.1, hc.2.1, hc.2.2, hg F θ H (LE.refl F) (List.prefix_refl _) hr _ (by simp only [RepW, Rep])⟩)
          rcases q1 with q1 | ⟨o, q1⟩
          · exact .inl (hr.sub _ _ q1)
          · exact .inr ⟨o, hr.sub _ _ q1⟩
        · cases ks with
          | nil =>
            cases ps with
            | cons p ps => simp at q2
            | nil =>
              cases ds with
              | cons d ds => simp [pairsPy] at e
              | nil =>
                simp only [pairsPy, Option.some.injEq] at e
                subst e
                refine .inr (.inr ⟨a, rfl, ?_, hc.1, hc.2.1, hc.2.2, hg F θ H (LE.refl F) (List.prefix_refl _) hr _ (by simp only [RepW, Rep])⟩)
                rcases q1 with q1 | ⟨o, q1⟩
                · exact .inl (hr.sub _ _ q1)
                · exact .inr ⟨o, hr.sub _ _ q1⟩
          | cons k ks =>
            cases ps with
            | nil => simp at q2
            | cons p ps =>
              simp only [List.map_cons, List.cons.injEq] at q2
              cases ds with
              | nil => simp [pairsPy] at e
              | cons d ds =>
                simp only [pairsPy] at e
                split at e
                · rename_i e1 _ _
                  cases k <;> simp [keyPy] at e1 <;> simp [keyT] at q2
                · cases e
      · exact hg.elim
    · exact hg.elim
  · exact .inl (calls_repr F θ H M _ vs Q Wx hr rw' hg)
theorem pu_reprX (hr : PW.RoomP k X.A) (hm : X.mg "repr" = none) (ha : PUA G X [a] t fs) (hK : X.K = G.K := by rfl) (hg : L2.Gl X "repr" := by rfl) (he : starEach (a :: []) X.env = (false, eval a X.env) :: starEach [] X.env := by rfl) (hpl : (backTo pos (starEach [] X.env)).any (·.1) = false := by rfl) :
    PU G X (.Call (.Name "repr" p) [a] [] pos) (fun Wx => tCB (rReprK G.K) (t Wx)) (eA reprX fs) := pu_callB (hK ▸ call_reprK hr.un hr.gd) calls_reprX hm (by decide +kernel) ha hg (by decide +kernel) (by decide +kernel) he hpl
end
end PU
set_option Elab.async false
set_option linter.all false
set_option maxRecDepth 100000
set_option maxHeartbeats 4000000
/-! x(lambda: body): a lambda without parameters handed to a def that calls it in a try -/
namespace PWL
open PySem PySem.Spec PyProof.Rows L2 LamX
def MadeN (P : Addr) (q : Str) (pos : Pos) (H H1 : Hp) : Prop := H1 = H ∨ ∃ (ps : Array Value) (c' : Addr), H P = some (.tbl ps) ∧ TriplesOk ps.toList ∧ H c' = none ∧ H1 = upd (upd H P (.tbl (ps ++ #[rawInt pos.line, rawInt pos.col, .ref c']))) c' (CodeO c' q)
section
variable {X : Cx} {pins : List (Addr × Obj)} {σ : L2.St} {H HZ : Hp} {s s1 : Shared}
theorem lam_make4 {T : List (Addr × Str)} {c P : Addr} {params : Arguments} {body : Expr} {scope : Scope} {pos : Pos} {E : Value → Shared → Prop} {Q : Value → Shared → Prop} (I : Inv X pins σ H s) (TB : TabB X.base X.mg c P) (hcode : X.env.code = .ref c)
    (hm : (P, X.env.qual ++ "<lambda>") ∈ T) (hT : Tabs T H) (hdef : defaultsOf params X.env = ([], [])) (hfree : ∀ y ∈ scope.names, y.2 = .free → ∃ c, X.env.cells.lookup y.1 = some c)
    (h : ∀ (f c' : Addr) (pm ctv : Value) (H1 : Hp) (s' : Shared), Inv X pins σ H1 s' → MadeN P (X.env.qual ++ "<lambda>") pos H H1 →
      s'.heap.get? f = some (PySem.W.kla_obj "<lambda>" (X.env.qual ++ "<lambda>") params body scope (cloFrom X.env.cells scope.names []) pm c' ctv) → H1 f = none → f ∉ frs X.stack → H1 c' = some (CodeO c' (X.env.qual ++ "<lambda>")) → Q (.ref f) s') :
    wpAny (model X.prog X.w) X.A (eval (.Lambda params body scope pos) X.env) Q E s := by
  obtain ⟨ps, hP, ht, ha⟩ := hT _ hm
  refine PySem.W.kla_eval hdef ?_
  have bP : s.heap.BuiltinsAt X.mg P := TB.bm.keeps I.bk
  have hP' : s.heap.get? P = some { cls := .none, data := .fields ps } := I.hok P _ hP
  have away : ∀ f, s.heap.objs.size ≤ f → f ∉ frs X.stack := by
    intro f hf z
    rcases List.mem_cons.mp (I.stkSub _ z) with e | e
    · have h1 := I.lt
      rw [← e] at h1
      exact absurd h1 (Nat.not_lt.mpr hf)
    · exact I.nofs hf e
  cases hc : codeAmong pos ps.toList with
  | none =>
    refine PySem.W.kla_makeFunction (mg := X.mg) (c := c) (P := P) (ps := ps) (closure_ok hfree) I.ok.glob (I.mod.glob.keeps I.bk) hcode (TB.code.keeps I.bk) hP' ht hc TB.gP bP (fun c' ctv h' tk hx hge hlt hrec htb => ?_)
    obtain ⟨c2, oc, vs, t, e2, hoc, hd, hv⟩ := hrec
    cases e2
    have hsz : s.heap.objs.size ≤ h'.objs.size := by omega
    have nC : H c' = none := I.hok.fresh hge
    have J := inv_table (t' := tk) (more := #[rawInt pos.line, rawInt pos.col, .ref c']) (h' := h'.push (PySem.W.kla_obj "<lambda>" (X.env.qual ++ "<lambda>") params body scope (cloFrom X.env.cells scope.names []) ((X.mg "__name__").getD .none) c' ctv)) I hP
      (fun b o hb e => Heap.get?_push_of_some _ (hx b o hb e)) (Heap.get?_push_of_some _ htb) hge ⟨oc, vs, t, Heap.get?_push_of_some _ hoc, hd, hv⟩
    refine h h'.objs.size c' ((X.mg "__name__").getD .none) ctv _ _ J (.inr ⟨ps, c', hP, ht, nC, rfl⟩) (Heap.get?_push_size _ rfl) ?_ (away _ hsz) upd_same
    have n1 : h'.objs.size ≠ c' := by omega
    have n2 : h'.objs.size ≠ P := Nat.ne_of_gt (Nat.lt_of_lt_of_le (Heap.lt_size hP') hsz)
    rw [upd_ne n1, upd_ne n2]
    exact I.hok.fresh hsz
  | some cv =>
    obtain ⟨c', e, hco⟩ := ha pos cv hc
    subst e
    refine PySem.W.kla_makeFunctionHit (mg := X.mg) (c := c) (P := P) (ps := ps) (closure_ok hfree) I.ok.glob (I.mod.glob.keeps I.bk) hcode (TB.code.keeps I.bk) hP' ht hc bP (fun ctv h' tk hx hsz => ?_)
    have J : Inv X pins σ H { s with heap := h'.push (PySem.W.kla_obj "<lambda>" (X.env.qual ++ "<lambda>") params body scope (cloFrom X.env.cells scope.names []) ((X.mg "__name__").getD .none) c' ctv), toks := tk } := I.kept (fun b o e => Heap.get?_push_of_some _ (hx b o e))
    exact h h'.objs.size c' ((X.mg "__name__").getD .none) ctv H _ J (.inl rfl) (Heap.get?_push_size _ rfl) (I.hok.fresh hsz) (away _ hsz) hco
/-- a(), where the lambda stands under the name a -/
theorem pe_actG {CXg : CXT} {Eg : XK} {Ng : List Str} {qg : Str} {sg : Scope} {g f c' : Addr} {cdg pm ctv : Value} {params : Arguments} {body : Expr} {scope : Scope} {k i : Nat} {a : Str} {pn : List (Addr × Obj)} {xe : Value → Shared → Prop} {W : WX} {tb : XK → TE} {p1 p2 : Pos}
    (I : Inv X pins σ H s) (L : LamS X.env.scope scope) (hf : s.heap.get? f = some (PySem.W.kla_obj "<lambda>" (X.env.qual ++ "<lambda>") params body scope (cloFrom X.env.cells scope.names []) pm c' ctv)) (hfn : H f = none) (hfr : f ∉ frs X.stack)
    (hbind : bindArgs (PySem.W.kla_fn "<lambda>" (X.env.qual ++ "<lambda>") params body scope (cloFrom X.env.cells scope.names []) pm (.ref c') ctv) ⟨[], []⟩ = pure [])
    (tk : Takes ((cxOf CXg X.prog X.w X.K X.mg X.base Ng qg sg g cdg X.A X.stack s H Eg).tr pn xe) W) (hr : PU.RoomG (k + 1) (X.A.deeper (envOfC qg sg s.heap.objs.size g cdg)))
    (hbody : ∀ (A : Around) (outer : List PySem.Env) (s : Shared) (H : Hp) (E : XK), PU.RoomG k (A.deeper (lamEnv X scope s.heap.objs.size f c')) → PE (lamCx X A outer s H E scope f c') body (tb E))
    (hN : Ng[i]? = some a) (hv : Vis sg a) (hd : (a == ("__debug__" : Str)) = false := by decide) (hcd : (a == ("__classdict__" : Str)) = false := by decide) :
    PE ((cxOf CXg X.prog X.w X.K X.mg X.base Ng qg sg g cdg X.A X.stack s H Eg).tr pn xe) (.Call (.Name a p1) [] [] p2)
      (fun σZ HZ Q => σZ[i]? = some (some (.ref f)) ∧ HZ c' = some (CodeO c' (X.env.qual ++ "<lambda>")) ∧ tb (WE W σZ) σ HZ Q) := by
  refine ⟨fun pinsZ sZ σZ HZ Q IZ h => ?_⟩
  obtain ⟨hs, hc, ht⟩ := h
  refine wpAny_Call_Name_kw (thn ((pe_var (pos := p1) (i := i) hN hv hd hcd).run pinsZ sZ σZ HZ (fun v H1 => v = .ref f ∧ H1 = HZ) IZ ⟨.ref f, hs, rfl, rfl⟩) fun u s1 ⟨v, H1, I1, r1, ev, eH⟩ => ?_)
  subst ev
  rw [eH] at I1
  obtain rfl : u = Value.ref f := r1
  have of1 : s1.heap.get? f = some (PySem.W.kla_obj "<lambda>" (X.env.qual ++ "<lambda>") params body scope (cloFrom X.env.cells scope.names []) pm c' ctv) := I1.base.keep f _ hf hfn hfr (fun z => nomatch (show f ∈ ([] : List Addr) from z))
  refine PySem.W.callWith_F0 ⟨_, _, _, _, of1⟩ (?_)
  have un : Un (frs X.stack) [] H HZ s.heap s1.heap := I1.base
  obtain ⟨⟨oc, vs, t, hoc, hdc, hvc⟩, _, _⟩ := I1.hok c' _ hc
  have rc : codeAny (model X.prog X.w) (X.A.deeper (envOfC qg sg s.heap.objs.size g cdg)) (.call (.ref f) ⟨[], []⟩) (CR (L2.CX X.prog X.w) (envOfC qg sg s.heap.objs.size g cdg :: X.stack) X.prog X.w HZ s1 Q (WE W σZ)) s1 := by
    refine PySem.W.kla_callFunE hr.rm.depth of1 rfl L.co L.gen rfl ⟨c', oc, vs, t, rfl, hoc, hdc, hvc⟩ (?_)
    rw [hbind]
    refine wpAny_pure (wpAny_newFunctionEnv (fun y hy => (L.own y hy).2) (fun y hy => absurd hy (by simp)) (fun h₁ hns hsb => ⟨I1.nolimit.fresh _ hsb, (?_)⟩) L.kind)
    show codeAny (model X.prog X.w) _ (.expr body (lamEnv X scope s1.heap.objs.size f c')) _ _
    have kp : ∀ b o, s1.heap.get? b = some o → h₁.get? b = some o := fun b o e => hsb.extBut b o (Nat.ne_of_lt (Heap.lt_size e)) (Heap.get?_push_of_some _ e)
    have J : Inv (lamCx X (X.A.deeper (envOfC qg sg s.heap.objs.size g cdg)) (envOfC qg sg s.heap.objs.size g cdg :: X.stack) s1 HZ (WE W σZ) scope f c') [] σ HZ { s1 with heap := h₁, toks := s1.toks + ([] : List (Str × Value)).length } :=
      lam_start2 I L I1.env0 hr.rm.hd un hns kp
    refine PySem.W.kla_codeExpr (wpAny_mono ((hbody _ _ s1 HZ _ (hr.deeper _)).run [] _ _ HZ Q J ht) (fun v s' hq => (?_)) fun e s' hq => hq)
    obtain ⟨w', H', J', rv, q⟩ := hq
    exact ⟨w', H', J'.os, J'.bare, J'.base, J'.hok, rv, q⟩
  refine wpAny_call (codeAny_mono rc fun r s' hq => (?_))
  cases r with
  | error e => exact passAt tk σZ pinsZ HZ s1 e s' I1 hq
  | ok fl =>
    cases fl with
    | ret u => exact I1.after hq
    | next => exact False.elim hq
    | brk => exact False.elim hq
    | cont => exact False.elim hq
end
/-- what the def that gets the lambda promises -/
def GetsG (P : Program) (w : World) (K : PySem.W.Frag) (mg : Str → Option Value) (base : Heap) (k : Nat) (Ng : List Str) (x : Str) (sg : Scope) (g : Addr) (cdg : Value) (bg : List Stmt) (a : Str) (TT : (XK → Hp → VK → Prop) → Hp → VK → Prop) : Prop :=
  ∀ (A : Around) (outer : List PySem.Env) (f c' : Addr) (q : Str) (s : Shared) (H : Hp) (Q : VK) (tl : XK → Hp → VK → Prop), PU.RoomG k (A.deeper (envOfC x sg s.heap.objs.size g cdg)) →
    (∀ (W : WX) (pn : List (Addr × Obj)) (xe : Value → Shared → Prop) (p1 p2 : Pos), Takes ((cxOf C8.CX0 P w K mg base Ng x sg g cdg A outer s H C8.E0).tr pn xe) W →
      PE ((cxOf C8.CX0 P w K mg base Ng x sg g cdg A outer s H C8.E0).tr pn xe) (.Call (.Name a p1) [] [] p2) (fun σZ HZ Q => σZ[0]? = some (some (.ref f)) ∧ HZ c' = some (CodeO c' q) ∧ tl (WE W σZ) HZ Q)) →
    H c' = some (CodeO c' q) → TT tl H Q →
    ∃ t, PSs (cxOf C8.CX0 P w K mg base Ng x sg g cdg A outer s H C8.E0).nox bg t ∧ t { nx := fun _ H' => Q .non H', rt := Q } (L2.start Ng [.ref f]) H
def tLamG (T : List (Addr × Str)) (P : Addr) (q : Str) (pos : Pos) (TT : (XK → Hp → VK → Prop) → Hp → VK → Prop) (t : XK → TE) : TE := fun σ H Q => Tabs T H ∧ ∀ H1, MadeN P q pos H H1 → TT (fun E H' Q' => t E σ H' Q') H1 Q
section
variable {X : Cx}
theorem pe_lamG {T : List (Addr × Str)} {TT : (XK → Hp → VK → Prop) → Hp → VK → Prop} {x a : Str} {g c P : Addr} {k : Nat} {pg : Arguments} {bg : List Stmt} {sg : Scope} {dV kV doc pm cdv ct oc : Value} {an od : Option Addr} {osl : Array (Option Value)} {Ng : List Str}
    {params : Arguments} {body : Expr} {scope : Scope} {t : XK → TE} {p lpos pos : Pos} (hg : Gl X x) (hm : X.mg x = some (.ref g)) (hk : PySem.W.keepIn X.K (.ref g) = true)
    (lk : X.K.lookup g = some ⟨oc, od, .func (PySem.W.fnOf x x pg bg sg dV kV doc pm an cdv ct), osl⟩) (hcg : PySem.W.codeIn X.K cdv x = true) (hb : L2.Binds X.K (PySem.W.fnOf x x pg bg sg dV kV doc pm an cdv ct) [a] []) (Sg : FnScope Ng [a] sg) (hNg : Ng[0]? = some a) (hva : Vis sg a)
    (hG : GetsG X.prog X.w X.K X.mg X.base (k + 1) Ng x sg g cdv bg a TT)
    (TB : TabB X.base X.mg c P) (hcode : X.env.code = .ref c) (hmT : (P, X.env.qual ++ "<lambda>") ∈ T) (hr : PU.RoomG (k + 2) X.A) (L : LamS X.env.scope scope) (hdef : defaultsOf params X.env = ([], []))
    (hbind : ∀ (q : Str) (cl : List (Str × Addr)) (pm cv ctv : Value), bindArgs (PySem.W.kla_fn "<lambda>" q params body scope cl pm cv ctv) ⟨[], []⟩ = pure [])
    (hbody : ∀ (A : Around) (outer : List PySem.Env) (s : Shared) (H : Hp) (E : XK) (f c' : Addr), PU.RoomG k (A.deeper (lamEnv X scope s.heap.objs.size f c')) → PE (lamCx X A outer s H E scope f c') body (t E))
    (hdb : (x == ("__debug__" : Str)) = false := by decide) (hd : (a == ("__debug__" : Str)) = false := by decide) (hcd : (a == ("__classdict__" : Str)) = false := by decide) :
    PE X (.Call (.Name x p) [.Lambda params body scope lpos] [] pos) (tLamG T P (X.env.qual ++ "<lambda>") lpos TT t) := by
  refine ⟨fun pins s σ H Q I h => ?_⟩
  obtain ⟨hT, h⟩ := h
  refine wpAny_Call_Name_kw (ld_glob I hg hm ?_ hdb)
  refine PySem.W.callWith_K (h₀ := X.base) I.ok.mod.kin hk ?_ (by rfl) (by rfl)
  show wpAny (model X.prog X.w) X.A (spliced ((false, eval (.Lambda params body scope lpos) X.env) :: backTo pos (starEach [] X.env))) _ _ s
  refine Calls.spliced_cons (lam_make4 I TB hcode hmT hT hdef (L.has I.ok) fun f c' pm' ctv H1 s' I1 made hf hfn hfr hco => (?_))
  refine Calls.spliced_nil ⟨I1.kIn, (?_)⟩
  have rc : codeAny (model X.prog X.w) X.A (.call (.ref g) ⟨[.ref f], []⟩) (CR C8.CX0 X.stack X.prog X.w H1 s' Q C8.E0) s' := by
    refine run_ofS (N := Ng) (ps := [a]) (us := [.ref f]) (vs := [.ref f]) (k := k + 1) lk hcg Sg hr.rm I1.env0 (hb s' [.ref f] I1.kIn rfl) (.cons rfl .nil) rfl fun hr' => (?_)
    obtain ⟨t', ht', hq'⟩ := hG X.A X.stack f c' (X.env.qual ++ "<lambda>") s' H1 Q (fun E H' Q' => t E σ H' Q') (hr.deeper _) (fun W pn xe p1 p2 tk => pe_actG (i := 0) I1 L hf hfn hfr (hbind _ _ _ _ _) tk (hr.deeper _) (fun A outer s H E hr2 => hbody A outer s H E f c' hr2) hNg hva hd hcd) hco (h H1 made)
    exact ⟨t', ht'.nox, hq'⟩
  refine wpAny_call (codeAny_mono rc fun r s2 hq => (?_))
  cases r with
  | error e => exact (show False from hq).elim
  | ok fl =>
    cases fl with
    | ret u => exact I1.after hq
    | next => exact False.elim hq
    | brk => exact False.elim hq
    | cont => exact False.elim hq
end
end PWL
namespace PU
open PySem PySem.Spec PyProof.Rows L2 LamX PWL
/-- what the lambda's call does -/
def ActOk (G : Glo) (F : Hp) (θ : List Addr) (tl : XK → Hp → VK → Prop) (act : Mem → R W) : Prop := ∀ (F' : Hp) (θ' : List Addr) (H' : Hp) (M' : Mem) (Q : VK) (E : XK), LE F F' → θ <+: θ' → HR G F' θ' H' M' → Good G F' θ' (postE G Q) E (act M') → tl E H' Q
def TTu (G : Glo) (FX : (Mem → R W) → Mem → R W) : (XK → Hp → VK → Prop) → Hp → VK → Prop := fun tl H Q => ∃ F θ M act, HR G F θ H M ∧ ActOk G F θ tl act ∧ Good G F θ (postE G Q) (fun _ _ _ => False) (FX act M)
def eAct (act : Mem → R W) : Ev := fun _ M => act M
def fnX (fi : Nat → W → Mem → R W) (n : Nat) (g : Sv) : Mem → R W := fun M => match g (List.replicate n none) M with
  | .go (.ret w) _ M' => fi M.length w M'
  | .go .nx _ M' => .ok (.d .non) (M'.take M.length)
  | .exc x _ M' => .exc x (M'.take M.length)
  | _ => .stuck
def eLam (FX : (Mem → R W) → Mem → R W) (fb : Ev) : Ev := fun ρ M => noXR (FX (fun M' => fb ρ M') M)
section
variable {G : Glo}
/-- try: b = a() / except ..: .. / rest -/
theorem gets_asg {P : Program} {w : World} {K : PySem.W.Frag} {mg : Str → Option Value} {base : Heap} {k i : Nat} {N : List Str} {x a b : Str} {sg : Scope} {g : Addr} {cdg : Value} {hd0 : ExceptHandler} {hds : List ExceptHandler} {rest : List Stmt} {p1 p2 p3 p4 p5 : Pos} {r : List HdP} {grest : Sv}
    (hx : ExmOk G) (hK : K = G.K) (S : FnScope N [a] sg) (hi : N[i]? = some b) (hl : sg.names.lookup b = some .local) (hsw : ∀ env, swapsWith (.Call (.Name a p1) [] [] p2) (some (.Name b p3)) p4.line env = pure false)
    (hh : ∀ (A : Around) (outer : List PySem.Env) (s : Shared) (H : Hp), RoomG k (A.deeper (envOfC x sg s.heap.objs.size g cdg)) → ∃ l trest, HdsU G (cxOf C8.CX0 P w K mg base N x sg g cdg A outer s H C8.E0).nox (hd0 :: hds) l r ∧ PUSs G (cxOf C8.CX0 P w K mg base N x sg g cdg A outer s H C8.E0).nox rest trest grest) :
    GetsG P w K mg base k N x sg g cdg (.Try [.Assign [.Name b p3] (.Call (.Name a p1) [] [] p2) p4] (hd0 :: hds) [] [] p5 :: rest) a (TTu G fun act => fnX fin N.length (sSeq (sTry (sSet i (eAct act)) r) grest)) := by
  intro A outer f c' q s H Q tl hr act hc tt
  obtain ⟨l, trest, hhd, hrest⟩ := hh A outer s H hr
  have h0 : (L2.start N [V.ref f])[0]? = some (some (V.ref f)) := by
    unfold L2.start
    rfl
  refine ⟨_, pss_cons (PW.ps_try_gen (Wout := fun _ _ _ _ => False) (tb := fun W => tAsg (fun σZ HZ Q => σZ[0]? = some (some (.ref f)) ∧ HZ c' = some (CodeO c' q) ∧ tl (WE W σZ) HZ Q) (gName i)) rfl rfl S.nd rfl PW.takesF (fun W pn xe tk => pss_one (ps_set S.nd hi (.inl hl) (act W pn xe p1 p2 tk) (hsw _) (.inr hl))) hhd.pe) (hrest.pe _ PW.takesF), ?_⟩
  obtain ⟨F, θ, M, av, hr0, ha, hg⟩ := tt
  have hb := good_body (r := sSeq (sTry (sSet i (eAct av)) r) grest (List.replicate N.length none) M) fin_ok hr0.len hg
  have sr0 : SR G F θ (L2.start N [V.ref f]) H (List.replicate N.length none) M := by
    have hN : 1 ≤ N.length := by
      have := congrArg List.length S.pre
      rw [List.length_take] at this
      simp at this
      omega
    refine ⟨hr0, by simp [L2.start]; omega, fun j w e => ?_⟩
    rw [List.getElem?_replicate] at e
    split at e <;> cases e
  have seq : ∀ {r1 : RS}, GoodS G F θ { nx := fun _ H' => Q .non H', rt := Q } (fun _ _ _ _ => False) (match r1 with
      | .go .nx ρ1 M1 => grest ρ1 M1
      | r => r) → GoodS G F θ { nx := trest (fun _ _ _ _ => False) { nx := fun _ H' => Q .non H', rt := Q }, rt := Q } (fun _ _ _ _ => False) r1 := by
    intro r1 h
    cases r1 with
    | stuck => exact h
    | exc y ρ1 M1 => exact h
    | go fl ρ1 M1 =>
      cases fl with
      | nx => exact fun F' θ' σ' H' l p sr' => hrest.sem _ F' θ' σ' H' ρ1 M1 _ sr' (GoodS.up (r := grest ρ1 M1) h l p)
      | ret w => exact h
      | bk => exact h
      | ct => exact h
  show _ ∧ _ ∧ _
  refine ⟨h0, hc, ?_⟩
  refine ha F θ H M _ _ (LE.refl F) (List.prefix_refl _) hr0 ?_
  have hb2 := seq (r1 := sTry (sSet i (eAct av)) r (List.replicate N.length none) M) (by unfold sSeq at hb; exact hb)
  cases e : av M with
  | stuck =>
    have : sTry (sSet i (eAct av)) r (List.replicate N.length none) M = .stuck := by simp [sTry, sSet, eAct, e, R.bindS]
    rw [this] at hb2
    exact hb2
  | ok v M1 =>
    have : sTry (sSet i (eAct av)) r (List.replicate N.length none) M = .go .nx ((List.replicate N.length none).set i (some v)) M1 := by simp [sTry, sSet, eAct, e]
    rw [this] at hb2
    intro F' θ' H' l' p' hr' u ru
    exact hb2 F' θ' _ H' l' p' ((sr0.mono l' p' hr').set ru)
  | exc y M1 =>
    have : sTry (sSet i (eAct av)) r (List.replicate N.length none) M = sHds r y (List.replicate N.length none) M1 := by simp [sTry, sSet, eAct, e]
    rw [this] at hb2
    intro F' θ' H' cc dd l' p' hr' rx
    exact hds_sem hx hK hhd (sr0.mono l' p' hr') rx (GoodS.up (r := sHds r y (List.replicate N.length none) M1) hb2 l' p')
/-- a def that gets a lambda, walked -/
def OkL (P : Program) (w : World) (mg : Str → Option Value) (base : Heap) (G : Glo) (d : He5.DefA) (N : List Str) (a : Str) (k : Nat) (FX : (Mem → R W) → Mem → R W) : Prop :=
  ∃ fd, FunD G.K d.name d.name d.params d.body d.scope [] [] (d.at_ G.K) fd ∧ FnScope N [a] d.scope ∧ GetsG P w G.K mg base k N d.name d.scope (d.at_ G.K) fd.code d.body a (TTu G FX)
end
section
variable {G : Glo} {X : Cx}
/-- x(lambda: body) -/
theorem pu_lam0 {x a : Str} {d : He5.DefA} {N : List Str} {c P : Addr} {k : Nat} {FX : (Mem → R W) → Mem → R W} {params : Arguments} {body : Expr} {scope : Scope} {tb : L2.WX → TE} {fb : Ev} {p lpos pos : Pos} (O : OkL X.prog X.w X.mg X.base G d N a (k + 1) FX) (hdx : d.name = x) (hm : X.mg x = some (.ref (d.at_ G.K)))
    (hb : ∀ fd, FunD G.K d.name d.name d.params d.body d.scope [] [] (d.at_ G.K) fd → L2.Binds G.K fd [a] []) (hNg : N[0]? = some a) (hva : Vis d.scope a)
    (TB : TabB X.base X.mg c P) (hcode : X.env.code = .ref c) (hmT : (P, X.env.qual ++ "<lambda>") ∈ G.T) (hu : ∀ p ∈ G.T, p.1 = P → p.2 = X.env.qual ++ "<lambda>") (hr : RoomG (k + 2) X.A)
    (hbody : ∀ (A : Around) (outer : List PySem.Env) (s : Shared) (H : Hp) (E : XK) (f c' : Addr), RoomG k (A.deeper (lamEnv X scope s.heap.objs.size f c')) → PU G (lamCx X A outer s H E scope f c') body tb fb)
    (hK : X.K = G.K := by rfl) (L : lamSB X.env.scope scope = true := by decide +kernel) (hdef : defaultsOf params X.env = ([], []) := by rfl)
    (hbind : ∀ (q : Str) (cl : List (Str × Addr)) (pm cv ctv : Value), bindArgs (PySem.W.kla_fn "<lambda>" q params body scope cl pm cv ctv) ⟨[], []⟩ = pure [] := by exact fun _ _ _ _ _ => rfl)
    (hg : L2.Gl X x := by rfl) (hdb : (x == ("__debug__" : Str)) = false := by decide +kernel) (hd : (a == ("__debug__" : Str)) = false := by decide +kernel) (hcd : (a == ("__classdict__" : Str)) = false := by decide +kernel) :
    PU G X (.Call (.Name x p) [.Lambda params body scope lpos] [] pos) (fun _ => tLamG G.T P (X.env.qual ++ "<lambda>") lpos (TTu G FX) fun E => tb fun c d _ H => E c d H) (eLam FX fb) := by
  subst hdx
  obtain ⟨fd, F, Sg, hG⟩ := O
  have hb := hb fd F
  obtain ⟨oc, od, dV, kV, doc, pm, an, cdv, ct, osl, efd, lk, hcd2, _, _⟩ := F.ex
  subst efd
  refine ⟨fun Wx tk => pe_lamG (t := fun E => tb fun c d _ H => E c d H) hg hm (by rw [hK]; exact F.kp) (by rw [hK]; exact lk) (by rw [hK]; exact hcd2) (by rw [hK]; exact hb) Sg hNg hva (by rw [hK]; exact hG) TB hcode hmT hr (lamS_by L) hdef hbind (fun A outer s H E f c' hr2 => (hbody A outer s H E f c' hr2).pe _ (takes_of rfl rfl rfl rfl)) hdb hd hcd, ?_⟩
  intro Wx F0 θ σ H ρ M Q sr hg'
  refine ⟨fun p hp => (sr.hr.tab p hp).ext sr.hr.sub, fun H1 made => ?_⟩
  obtain ⟨F1, hr1, le1⟩ : ∃ F1, HR G F1 θ H1 M ∧ LE F0 F1 := by
    rcases made with rfl | ⟨ps, c', hP, ht, nC, rfl⟩
    · exact ⟨F0, sr.hr, LE.refl F0⟩
    · exact ⟨_, sr.hr.lamNew hmT hu hP ht nC⟩
  refine ⟨F1, θ, M, fun M' => fb ρ M', hr1, fun F' θ' H' M' Q' E l' p' hr' hg2 => ?_, ?_⟩
  · exact (hbody X.A X.stack X.s_0 H' E 0 0 ((hr.deeper _).mono (Nat.le_succ k))).sem _ F' θ' σ H' ρ M' Q' (sr.mono (le1.trans l') p' hr') hg2
  · have hg3 : Good G F0 θ (postE G Q) (fun c d H' => Wx c d σ H') (noXR (FX (fun M' => fb ρ M') M)) := hg'
    cases e : FX (fun M' => fb ρ M') M with
    | stuck => rw [e] at hg3; exact hg3
    | exc y M2 => rw [e] at hg3; exact hg3.elim
    | ok v M2 => rw [e] at hg3; exact Good.up (r := .ok v M2) hg3 le1 (List.prefix_refl _)
end
end PU
set_option Elab.async false
set_option linter.all false
set_option maxRecDepth 100000
set_option maxHeartbeats 4000000
/-! comparisons and methods of lists where an error may be in hand; list.count -/
namespace PU
open PySem PySem.Spec PyProof.Rows L2
def rCountD (K : PySem.W.Frag) : V → List V → Hp → VK → Prop := fun x xs H Q => ∃ (a : Addr) (y : V) (d : PyData) (ds : List PyData), x = V.ref a ∧ xs = [y] ∧ Dp K H (V.ref a) (.list ds) ∧ Dp K H y d ∧
  SeqAt.shaped (.list ds) = true ∧ SeqAt.shaped d = true ∧ Q (.int (ds.countP fun z => PyData.eqv z d : Nat)) H
theorem mt_countD {X : Cx} (hu : X.A.units + 65 < cLine) : MtR X "list.count" (rCountD X.K) := by
  intro pins s σ H x xs v us Q I rx rxs h
  obtain ⟨a, y, d, ds, rfl, rfl, hl, hy, sl, sd, q⟩ := h
  cases rx
  cases rxs with
  | cons ry rt =>
    rename_i uy ut
    cases rt
    obtain ⟨bs, r1⟩ := Dp.reads I d y uy hy ry
    have hxs : PyData.canLayAll0 ds = true := SeqAt.canLay_of_shaped sl
    have hroom : X.A.units + 1 + min (PyData.depthAll ds) d.depth < cLine := room_in_shaped sd hu
    cases hl with
    | lst hs ha =>
      obtain ⟨its, rv, ⟨⟨cls, dd, data, sls⟩, n, ho, hc, hdn, hdt⟩, hlen⟩ := I.list hs
      simp only at hc hdt
      subst hc hdt
      obtain ⟨as, h4⟩ := Dp.readsAll I ds _ its ha rv
      have hmap : its.map (SeqAt.readOf s.heap) = ds := SeqAt.readsAll_map ds its as hxs h4
      refine call_meets PySem.F.slot_list_count ⟨_, ho, rfl⟩ PySem.F.entry_list_count (PySem.F.args_list_count_2 _ _)
        (SeqAt.list_countAt a its.toArray n dd sls uy (fun u => PyData.eqv (SeqAt.readOf s.heap u) d)) ⟨ho, SeqAt.items_eqAt (vs := its.toArray) (show ReadsAll s.heap its.toArray.toList ds as from h4) r1 hxs (SeqAt.canLay_of_shaped sd) hroom, ?_⟩
      have e : its.toArray.toList.countP (fun u => PyData.eqv (SeqAt.readOf s.heap u) d) = ds.countP fun z => PyData.eqv z d := by
        rw [← hmap, List.countP_map]
        rfl
      refine ⟨.int (ds.countP fun z => PyData.eqv z d : Nat), H, I.tok _, ⟨s.toks, ?_⟩, q⟩
      show Value.int ((its.toArray.toList.countP (fun u => PyData.eqv (SeqAt.readOf s.heap u) d) : Nat) : Int) s.toks = _
      rw [e]
def countW : OpM := fun x ws M => match ws with
  | [y] => match pyW M x, pyW M y with
    | some (.list ds), some d => if SeqAt.shaped (.list ds) = true ∧ SeqAt.shaped d = true then .ok (.d (.int (ds.countP fun z => PyData.eqv z d : Nat))) M else .stuck
    | _, _ => .stuck
  | _ => .stuck
section
variable {G : Glo}
theorem meth_count : MethS G (rCountD G.K) countW := by
  intro F θ H M x v ws vs Q Wx hr rv rvs hg
  unfold countW at hg
  split at hg
  · rename_i y
    split at hg
    · rename_i ds d e1 e2
      split at hg
      · rename_i hc
        obtain ⟨u, rfl, ru⟩ := RepWL.one rvs
        have dx := dp_w hr rv e1
        obtain ⟨a, rfl⟩ : ∃ a, v = V.ref a := by
          cases dx with
          | lst h1 h2 => exact ⟨_, rfl⟩
        exact ⟨a, u, d, ds, rfl, rfl, dx, dp_w hr ru e2, hc.1, hc.2, hg F θ H (LE.refl F) (List.prefix_refl _) hr _ (by simp only [RepW, Rep])⟩
      · exact hg.elim
    · exact hg.elim
  · exact hg.elim
end
section
variable {G : Glo} {X : Cx} {o e a b : Expr} {to ta tb : L2.WX → TE} {t : L2.WX → TA} {fo fa fb : Ev} {fs : Av} {apos cpos pos : Pos} {k : Nat}
theorem pu_indexQ (hr : PW.RoomP k X.A) (ho : PU G X o to fo) (ha : PUA G X [e] t fs) (hK : X.K = G.K := by rfl) (hbase : attributeBase o "index" X.env (eval o X.env) = eval o X.env := by rfl)
    (hfew : ((backTo cpos (starEach (e :: []) X.env)).all (fun x => !x.1) && (backToKw cpos (keywordEach [] X.env)).all (fun x => x.1.isSome)
      && decide ((e :: []).length + ([] : List Keyword).length + (if ([] : List Keyword).isEmpty then 0 else 1) < 30)) = true := by rfl)
    (hline : (apos.endLine == cpos.line) = true := by rfl) (hst : starEach (e :: []) X.env = (false, eval e X.env) :: starEach [] X.env := by rfl) (hplain : (backTo cpos (starEach [] X.env)).any (·.1) = false := by rfl) :
    PU G X (.Call (.Attribute o "index" apos) [e] [] cpos) (fun Wx => tBM G.K "list" (rIndexD G.K) (to Wx) (t Wx)) (eBM tyL indexW fo fs) :=
  pu_bm PySem.F.plainAttrs_list PySem.F.slot_list_index PySem.F.type_list_index (hK ▸ mt_indexD (by have := hr.un; omega)) tyL_ok meth_index ho ha hK hbase hfew hline hst hplain
theorem pu_countQ (hr : PW.RoomP k X.A) (ho : PU G X o to fo) (ha : PUA G X [e] t fs) (hK : X.K = G.K := by rfl) (hbase : attributeBase o "count" X.env (eval o X.env) = eval o X.env := by rfl)
    (hfew : ((backTo cpos (starEach (e :: []) X.env)).all (fun x => !x.1) && (backToKw cpos (keywordEach [] X.env)).all (fun x => x.1.isSome)
      && decide ((e :: []).length + ([] : List Keyword).length + (if ([] : List Keyword).isEmpty then 0 else 1) < 30)) = true := by rfl)
    (hline : (apos.endLine == cpos.line) = true := by rfl) (hst : starEach (e :: []) X.env = (false, eval e X.env) :: starEach [] X.env := by rfl) (hplain : (backTo cpos (starEach [] X.env)).any (·.1) = false := by rfl) :
    PU G X (.Call (.Attribute o "count" apos) [e] [] cpos) (fun Wx => tBM G.K "list" (rCountD G.K) (to Wx) (t Wx)) (eBM tyL countW fo fs) :=
  pu_bm PySem.F.plainAttrs_list PySem.F.slot_list_count PySem.F.type_list_count (hK ▸ mt_countD (by have := hr.un; omega)) tyL_ok meth_count ho ha hK hbase hfew hline hst hplain
theorem pu_eqQ (hr : PW.RoomP k X.A) (ha : PU G X a ta fa) (hb : PU G X b tb fb) (hK : X.K = G.K := by rfl) : PU G X (.Compare a [.Eq] [b] pos) (fun Wx => tOp (rEqD G.K) (ta Wx) (tb Wx)) (e2 eqW fa fb) := pu_cmp (hK ▸ op_eqD (by have := hr.un; omega)) ops_eq ha hb (nomark _)
theorem pu_neQ (hr : PW.RoomP k X.A) (ha : PU G X a ta fa) (hb : PU G X b tb fb) (hK : X.K = G.K := by rfl) : PU G X (.Compare a [.NotEq] [b] pos) (fun Wx => tOp (rNeD G.K) (ta Wx) (tb Wx)) (e2 neW fa fb) := pu_cmp (hK ▸ op_neD (by have := hr.un; omega)) ops_ne ha hb (nomark _)
theorem put_eqQ (hr : PW.RoomP k X.A) (ha : PU G X a ta fa) (hb : PU G X b tb fb) (hK : X.K = G.K := by rfl) : PUT G X (.Compare a [.Eq] [b] pos) (fun Wx => tTest (tOp (rEqD G.K) (ta Wx) (tb Wx))) (tB' (e2 eqW fa fb)) := put_cmp (hK ▸ op_eqD (by have := hr.un; omega)) ops_eq ha hb (nomark _)
theorem put_neQ (hr : PW.RoomP k X.A) (ha : PU G X a ta fa) (hb : PU G X b tb fb) (hK : X.K = G.K := by rfl) : PUT G X (.Compare a [.NotEq] [b] pos) (fun Wx => tTest (tOp (rNeD G.K) (ta Wx) (tb Wx))) (tB' (e2 neW fa fb)) := put_cmp (hK ▸ op_neD (by have := hr.un; omega)) ops_ne ha hb (nomark _)
end
/-! xs == [], xs != [] where the items are of any kind -/
def rNil (K : PySem.W.Frag) (neg : Bool) : R2 := fun x y H Q => ∃ (a b : Addr) (xs : List V), x = .ref a ∧ y = .ref b ∧ SqL K H a xs ∧ SqL K H b [] ∧ Q (.bl (if neg then !xs.isEmpty else xs.isEmpty)) H
theorem op_nil {X : Cx} (hu : X.A.units + 64 < cLine) (neg : Bool) : OpR X (compareOp (if neg then .NotEq else .Eq)) (rNil X.K neg) := by
  intro pins s σ H x y v u Q I rx ry h
  obtain ⟨a, b, xs, rfl, rfl, h1, h2, q⟩ := h
  cases rx
  cases ry
  obtain ⟨its, rv, ⟨o, n, ho, hc, hdn, hd⟩, hlen⟩ := I.list h1
  obtain ⟨its2, rv2, ⟨o2, n2, ho2, hc2, hdn2, hd2⟩, _⟩ := I.list h2
  cases rv2
  have l1 : s.heap.IsList a its.toArray := ⟨o, ho, hc, n, hd⟩
  have l2 : s.heap.IsList b (#[] : Array Value) := ⟨o2, ho2, hc2, n2, hd2⟩
  have hl := rv.length
  cases xs with
  | nil =>
    have e0 : its = [] := List.length_eq_zero_iff.mp (by simpa using hl.symm)
    subst e0
    cases neg
    · exact SeqAt.RcAt.lists (e := fun _ => true) l1 l2 rfl (by omega) (fun j h => absurd h (by simp)) _ _ _ _ ⟨.bl true, H, I, rfl, q⟩
    · exact SeqAt.RcNeAt.lists (e := fun _ => true) l1 l2 rfl (by omega) (fun j h => absurd h (by simp)) _ _ _ _ ⟨.bl false, H, I, rfl, q⟩
  | cons z zs =>
    have hs : (its.toArray.size != (#[] : Array Value).size) = true := by simp at hl ⊢; intro e; subst e; simp at hl
    cases neg
    · exact SeqAt.RcAt.lists_lengths l1 l2 hs (by omega) _ _ _ _ ⟨.bl false, H, I, rfl, q⟩
    · exact SeqAt.RcNeAt.lists_lengths l1 l2 hs (by omega) _ _ _ _ ⟨.bl true, H, I, rfl, q⟩
def nilW (neg : Bool) : Op2 := fun M x y => match viewL M x, y with
  | some ds, .d (.lst []) => .ok (.d (.bl (if neg then !ds.isEmpty else ds.isEmpty))) M
  | _, _ => .stuck
section
variable {G : Glo}
theorem ops_nil (neg : Bool) : OpS G (rNil G.K neg) (nilW neg) := by
  intro F θ H M x y v u Q Wx hr rx ry hg
  unfold nilW at hg
  split at hg
  · rename_i ds e
    obtain ⟨a, vs, rfl, h1, h2⟩ := viewL_ok hr rx e
    simp only [RepW, Rep] at ry
    obtain ⟨b, us, rfl, h3, h4⟩ := ry
    simp only [RepL] at h4
    subst h4
    refine ⟨a, b, vs, rfl, rfl, h1, SqL.of (hr.sub _ _ h3), ?_⟩
    have e2 : vs.isEmpty = ds.isEmpty := by
      have := h2.length
      cases vs <;> cases ds <;> simp at this <;> rfl
    rw [e2]
    exact hg F θ H (LE.refl F) (List.prefix_refl _) hr _ (by simp only [RepW, Rep])
  · exact hg.elim
def eD0 : Ev := fun _ M => .ok (.d (.dct [] [])) M
end
section
variable {G : Glo} {X : Cx} {a b : Expr} {ta tb : L2.WX → TE} {fa fb : Ev} {pos : Pos} {k : Nat}
theorem pu_neNil (hr : PW.RoomP k X.A) (ha : PU G X a ta fa) (hb : PU G X b tb fb) (hK : X.K = G.K := by rfl) : PU G X (.Compare a [.NotEq] [b] pos) (fun Wx => tOp (rNil G.K true) (ta Wx) (tb Wx)) (e2 (nilW true) fa fb) := pu_cmp (hK ▸ op_nil (by have := hr.un; omega) true) (ops_nil true) ha hb (nomark _)
theorem pu_eqNil (hr : PW.RoomP k X.A) (ha : PU G X a ta fa) (hb : PU G X b tb fb) (hK : X.K = G.K := by rfl) : PU G X (.Compare a [.Eq] [b] pos) (fun Wx => tOp (rNil G.K false) (ta Wx) (tb Wx)) (e2 (nilW false) fa fb) := pu_cmp (hK ▸ op_nil (by have := hr.un; omega) false) (ops_nil false) ha hb (nomark _)
theorem put_neNil (hr : PW.RoomP k X.A) (ha : PU G X a ta fa) (hb : PU G X b tb fb) (hK : X.K = G.K := by rfl) : PUT G X (.Compare a [.NotEq] [b] pos) (fun Wx => tTest (tOp (rNil G.K true) (ta Wx) (tb Wx))) (tB' (e2 (nilW true) fa fb)) := put_cmp (hK ▸ op_nil (by have := hr.un; omega) true) (ops_nil true) ha hb (nomark _)
theorem put_eqNil (hr : PW.RoomP k X.A) (ha : PU G X a ta fa) (hb : PU G X b tb fb) (hK : X.K = G.K := by rfl) : PUT G X (.Compare a [.Eq] [b] pos) (fun Wx => tTest (tOp (rNil G.K false) (ta Wx) (tb Wx))) (tB' (e2 (nilW false) fa fb)) := put_cmp (hK ▸ op_nil (by have := hr.un; omega) false) (ops_nil false) ha hb (nomark _)
/-- {} that nobody changes -/
theorem pu_d0 : PU G X (.Dict [] [] pos) (fun _ => tDNewK) eD0 := by
  refine ⟨fun Wx tk => pe_dnewK, ?_⟩
  intro Wx F θ σ H ρ M Q sr hg q hq
  obtain ⟨hr', le⟩ := sr.hr.alloc hq (.dK [])
  refine hg _ θ _ le (List.prefix_refl _) hr' _ ?_
  simp only [RepW, Rep]
  exact ⟨q, [], rfl, by simp only [RepL], .inl ⟨[], .inl upd_same, rfl, rfl⟩⟩
end
/-- the classes that an except clause names are classes of errors -/
theorem err_nil {G : Glo} : ∀ c ∈ ([] : List Nat), G.err c := fun _ h => nomatch h
theorem err_cons {G : Glo} {c : Nat} {cs : List Nat} (h : G.err c) (r : ∀ c ∈ cs, G.err c) : ∀ d ∈ c :: cs, G.err d := fun d hd => by
  rcases List.mem_cons.mp hd with e | e
  · exact e ▸ h
  · exact r d e
end PU
set_option Elab.async false
set_option linter.all false
set_option maxRecDepth 100000
set_option maxHeartbeats 4000000
/-! an own error made with its parameter by name -/
namespace PWX
open PySem PySem.Spec PySem.Calls PyProof.Rows PySem.W Builtin PySem.HandSPX
section
variable {M : Model} {A : Around} {E : Value → Shared → Prop} {h : Heap} {g : Array GenState} {d : Drawn} {t : Nat} {os : OsState}
variable {nm q : Str} {C N : Addr} {bs bm bmB : List Value} {hdct : Bool} {sn : List Str} {sub : List Value} {ab : Bool} {col : Option Bool} {dd : Option Addr} {k0 k1 k2 k3 k5 : Option Value} {B newId initId : String}
theorem erk_check (F : ExcBaseFacts B newId initId bmB) (hT : ∀ X : String, bm.contains (.type X) = bmB.contains (.type X)) {kw : List (Str × Value)} {Q : Unit → Shared → Prop}
    (hC : h.get? C = some (excClassObj nm q C N bs bm hdct sn sub ab col dd k0 k1 k2 k3 k5 newId)) (hq : Q () ⟨h, g, d, t, os⟩) : wpAny M A (checkBuiltinCall newId ⟨[.ref C], kw⟩) Q E ⟨h, g, d, t, os⟩ := by
  have hcont : (Value.ref C :: bm).contains (.type B) = true := by rw [List.contains_cons, hT, F.hasB, Bool.or_true]
  have hstar := F.noStar
  simp only [checkBuiltinCall, F.newKind, F.newSplit, F.newRow]
  repeat (first | refine wpAny_loadPart_at hC ?_ | (refine wpAny_isSubtype_exc hC ?_; rw [hcont]) | refine wpAny_staticBase_exc hC ?_ | refine wpAny_madeBy_exc hC ?_ | simp only [bne_self_eq_false, Bool.false_eq_true, if_false] | wp_step)
  exact hq
end
section
variable {prog : Program} {w : World} {A : Around} {E : Value → Shared → Prop} {R : Result → Shared → Prop} {h : Heap} {g : Array GenState} {d : Drawn} {t : Nat} {os : OsState}
variable {nm q : Str} {C N : Addr} {bs bm bmB : List Value} {hdct : Bool} {sn : List Str} {sub : List Value} {ab : Bool} {col : Option Bool} {dd : Option Addr} {k0 k1 k2 k3 k5 : Option Value} {B newId initId : String}
theorem erk_new (F : ExcBaseFacts B newId initId bmB) (hT : ∀ X : String, bm.contains (.type X) = bmB.contains (.type X)) {kw : List (Str × Value)}
    (hC : h.get? C = some (excClassObj nm q C N bs bm hdct sn sub ab col dd k0 k1 k2 k3 k5 newId))
    (hq : R (.ok (.ret (.ref (h.objs.size + 1)))) ⟨(h.push { cls := .type "tuple", data := .seq ([] : List Value).toArray }).push
      { cls := .ref C, data := .fields #[.ref h.objs.size, .none, .none, .none, .bool false, .none] }, g, d, t, os⟩) :
    codeAny (model prog w) A (.builtin newId ⟨[.ref C], kw⟩) R ⟨h, g, d, t, os⟩ := by
  have hends := F.ends
  have hcB : (Value.ref C :: bm).contains (.type B) = true := by rw [List.contains_cons, hT, F.hasB, Bool.or_true]
  have hcA : (Value.ref C :: bm).contains (.type "AttributeError") = false := by rw [List.contains_cons, hT, F.noAttr]; rfl
  have hcN : (Value.ref C :: bm).contains (.type "NameError") = false := by rw [List.contains_cons, hT, F.noName]; rfl
  refine codeAny_builtinAt F.entry ?_
  unfold Builtin.«BaseException.__new__»
  refine PySem.wpAt_bind ?_
  show PySem.wpAt _ _ _ (stack >>= _) _ _ _
  refine PySem.wpAt_bind (PySem.wpAt_stack fun p below => PySem.wpAt_of_wpAny ?_)
  wp_walk
  refine PySem.wpAt_of_wpAny ?_
  rw [F.owner]
  repeat (first | with_reducible refine wpAny_madeHere_exc F.canon hC ?_ | with_reducible refine wpAny_loadPart_at hC ?_ | (with_reducible refine wpAny_isSubtype_exc hC ?_; first | rw [hcB] | rw [hcA] | rw [hcN]) | wp_step)
  show R _ _
  rw [Heap.size_push]
  exact hq
theorem erk_type_call (F : ExcBaseFacts B newId initId bmB) (hT : ∀ X : String, bm.contains (.type X) = bmB.contains (.type X)) {kw : List (Str × Value)} {fI : Addr} {Q : Fin → Shared → Prop}
    (hC : h.get? C = some (excClassObj nm q C N bs bm hdct sn sub ab col dd k0 k1 k2 k3 k5 newId))
    (hi : W.Looks (model prog w) h (typeLookup (.ref C) "__init__") (some (.ref fI))) (hb : ∀ self, W.Looks (model prog w) h (bindSpecial (.ref fI) self) (.ref fI, [self]))
    (hq : codeAny (model prog w) A (.call (.ref fI) ⟨[.ref (h.objs.size + 1)], kw⟩)
      (fun r s' => match r with | .ok (.ret v) => v = .none ∧ Q (.done (.ret (.ref (h.objs.size + 1)))) s' | .ok _ => False | .error e => E e s')
      ⟨(h.push (W.kdv_tup [])).push (excO C h.objs.size), g, d, t, os⟩) :
    wpAny (model prog w) A (Builtin.«type.__call__» ⟨[.ref C], kw⟩) Q E ⟨h, g, d, t, os⟩ := by
  repeat (first | with_reducible refine wpAny_loadPart_at hC ?_ | with_reducible refine wpAny_madeBy_exc hC ?_ | wp_step)
  refine codeAny_call_builtin_code (Code.quiet_builtin _ F.quiet) (erk_check F hT hC ?_)
  refine erk_new F hT hC ?_
  show wpAny _ _ _ _ _ _
  have k : ∀ b o, h.get? b = some o → ((h.push (W.kdv_tup [])).push (excO C h.objs.size)).get? b = some o := fun b o e => Heap.get?_push_of_some _ (Heap.get?_push_of_some _ e)
  have hC₁ := k _ _ hC
  have hget : ((h.push (W.kdv_tup [])).push (excO C h.objs.size)).get? (h.objs.size + 1) = some (excO C h.objs.size) := by heap_get
  have hcC : (Value.ref C :: bm).contains (.ref C) = true := by simp
  have i1 := hi.keeps k
  have b1 := (hb (.ref (h.objs.size + 1))).keeps k
  unfold isInstance
  repeat (first | with_reducible refine wpAny_loadPart_at hget ?_ | (with_reducible refine wpAny_isSubtype_exc hC₁ ?_; rw [hcC]) | wp_step)
  show wpAny _ _ (typeLookup (.ref C) _) _ _ _
  refine i1.at ?_
  refine wpAny_holding (wpAny_bind (b1.at ?_))
  refine wpAny_bind (wpAny_call (codeAny_mono hq fun r s' z => ?_))
  rcases r with e | (v | _ | _ | _) <;> first | exact z | exact z.elim | skip
  obtain ⟨rfl, z⟩ := z
  first
    | exact wpAny_pure (wpAny_pure z)
    | (wp_walk; exact z)
theorem erk_call (F : ExcBaseFacts B newId initId bmB) (hT : ∀ X : String, bm.contains (.type X) = bmB.contains (.type X)) {kw : List (Str × Value)} {fI : Addr}
    (hC : h.get? C = some (excClassObj nm q C N bs bm hdct sn sub ab col dd k0 k1 k2 k3 k5 newId))
    (hi : W.Looks (model prog w) h (typeLookup (.ref C) "__init__") (some (.ref fI))) (hb : ∀ self, W.Looks (model prog w) h (bindSpecial (.ref fI) self) (.ref fI, [self]))
    (hq : codeAny (model prog w) (A.under (.builtin "type.__call__" ⟨[.ref C], kw⟩)) (.call (.ref fI) ⟨[.ref (h.objs.size + 1)], kw⟩) (W.InitBack (h.objs.size + 1) R)
      ⟨(h.push (W.kdv_tup [])).push (excO C h.objs.size), g, d, t, os⟩) :
    codeAny (model prog w) A (.call (.ref C) ⟨[], kw⟩) R ⟨h, g, d, t, os⟩ := by
  have f1 := tc_lookup
  have f2 := tc_bind (.ref C)
  have hTy : (⟨h, g, d, t, os⟩ : Shared).TypeIs (.ref C) "type" := ⟨_, hC, rfl⟩
  refine codeAny_of_tree ?_
  show wpAny _ _ (callAny (.ref C) _) _ _ _
  repeat (any_goals (first | assumption | with_reducible refine wpAny_loadPart_at hC ?_ | wp_step))
  refine ⟨rfl, ?_⟩
  refine codeAny_call_builtin_at (Code.quiet_builtin _ (by decide +kernel)) entry_typeCall (wpAny_check_type_call_sub hC (erk_type_call F hT hC hi hb ?_))
  refine codeAny_mono hq fun r s' z => ?_
  rcases r with e | (v | _ | _ | _) <;> exact z
end
section
open Builtin.ObjectAttr
variable {prog : Program} {w : World} {A : Around} {K : Frag} {C fI : Addr} {par : Str} {B newId initId : String} {tail : List Value}
theorem er_initK (ef : ErrF prog K C fI par B newId initId tail) {mg mb : Str → Option Value} {R : Result → Shared → Prop} {s : Shared} {a t0 : Addr} {v : Value} (hd : A.depth < recursionLimit) (inH : K.In s.heap) (lim : s.heap.NoLimit)
    (hg : s.heap.Ns mainGlobals mg) (mgS : mg "super" = none) (hb : s.heap.Ns builtinsNs mb) (hbb : ∀ x : Str, x ≠ "__name__" → mb x = bootBuiltins x) (hx : s.heap.get? a = some (excRec (.ref C) t0 none .none .none (.bool false))) (na : K.lookup a = none)
    (hR : ∀ h' t1 dx tk, (∀ b o, b ≠ a → s.heap.get? b = some o → h'.get? b = some o) → s.heap.objs.size ≤ dx → dx ≠ a → h'.get? a = some (excRec (.ref C) t1 (some dx) .none .none (.bool false)) → h'.Ns1 dx (fun y => if y = par then some v else none) →
      R (.ok (.ret .none)) { s with heap := h', toks := tk }) :
    codeAny (model prog w) A (.call (.ref fI) ⟨[.ref a], [(par, v)]⟩) R s := by
  obtain ⟨nm, qn, N, bs, rs, sn, sub, ab, col, dd, k0, k1, k2, k3, k5, hC⟩ := ef.cls
  obtain ⟨qual, p1, p2, q1, q2, q3, q4, q5, q6, q7, q8, q9, q10, doc, pm, an, cda, ct, cc, oc, od, osl, lkF, hcd, ⟨pl, hev⟩, ⟨ccl, cdd, vs, ccs, file, tf, lkC, hv2, hfile⟩, cl, cld, csl, lkK⟩ := ef.ini
  have hcl : clsIn K C = some { name := nm, bases := bs, mro := .ref C :: (List.map Value.ref rs ++ tail), ns := N, qualname := qn, hasDict := true, slotNames := sn, subclasses := sub, abstract := ab, collection := col, hasDel := false } := by unfold clsIn; rw [hC] <;> rfl
  have hal : alongIn K "__init__" (List.map Value.ref rs ++ tail) = some (some (.builtin initId)) := by
    have z := ef.al
    unfold ks_superIn at z
    rw [hcl] at z
    simpa [List.dropWhile_cons] using z
  refine ks_codeAny_call_defAt (fd := ksFn "__init__" qual (eArgs par p1 p2) (eBody par q1 q2 q3 q4 q5 q6 q7 q8 q9 q10) (eScope par) .none .none doc pm an (.ref cda) ct cc) (body := eBody par q1 q2 q3 q4 q5 q6 q7 q8 q9 q10) (binds := [("self", .ref a), (par, v)])
    hd (inH _ _ lkF) rfl lim (codeRec_of inH hcd) rfl (by rcases ef.pr with rfl | rfl | rfl <;> exact BindsTo.of_eq (by first | rfl | kernel_rfl)) (by intro y hy; have hy : y ∈ (eScope par).names := hy; simp only [List.mem_cons, List.not_mem_nil, or_false] at hy; rcases hy with rfl | rfl | rfl | rfl <;> exact (fun z => nomatch z)) (by rcases ef.pr with rfl | rfl | rfl <;> (intro y hy; simp only [List.mem_cons, List.not_mem_nil, or_false] at hy; rcases hy with rfl | rfl <;> rfl)) (fun h1 hns hk1 => ?_)
  obtain ⟨hh, gs, dr, tk, os⟩ := s
  have hxs : a < hh.objs.size := Heap.lt_size hx
  have nL : hh.objs.size ≠ a := Nat.ne_of_gt hxs
  obtain ⟨oL, _, _, hoL, _⟩ := id hns
  have nam : ∀ {h' : Heap} {A : Around} {E : Value → Shared → Prop} {Q : Value → Shared → Prop} {x : Str} {u : Value} {tk' : Nat}, (∀ o, h1.get? hh.objs.size = some o → h'.get? hh.objs.size = some o) → x = "self" ∧ u = .ref a ∨ x = par ∧ u = v → Q u ⟨h', gs, dr, tk', os⟩ →
      wpAny (model prog w) A (loadName (ksEnv qual (eScope par) hh.objs.size fI (.ref cda) cc) x) Q E ⟨h', gs, dr, tk', os⟩ := by
    intro h' A E Q x u tk' k hxu hq
    refine wpAny_loadName_local rfl ?_ (ns_keep hns k) ?_ hq
    · rcases ef.pr with rfl | rfl | rfl <;> rcases hxu with ⟨rfl, rfl⟩ | ⟨rfl, rfl⟩ <;> rfl
    · rcases ef.pr with rfl | rfl | rfl <;> rcases hxu with ⟨rfl, rfl⟩ | ⟨rfl, rfl⟩ <;> rfl
  have hsz : hh.objs.size < h1.objs.size := Heap.lt_size hoL
  have inH1 : K.In h1 := inH.keeps hk1
  have fin : ∀ {A : Around} {E : Value → Shared → Prop} {Qf : Flow → Shared → Prop} {h' : Heap} {t1 : Addr} {tk' : Nat}, (∀ b o, b ≠ a → h1.get? b = some o → h'.get? b = some o) → h'.get? a = some (excRec (.ref C) t1 none .none .none (.bool false)) →
      (∀ s', R (.ok (.ret .none)) s' → Qf .next s') →
      wpAny (model prog w) A (execs [.Assign [.Attribute (.Name "self" q7) par q8] (.Name par q9) q10] (ksEnv qual (eScope par) hh.objs.size fI (.ref cda) cc)) Qf E ⟨h', gs, dr, tk', os⟩ := by
    intro A E Qf h' t1 tk' k ha hQ
    have kL : ∀ o, h1.get? hh.objs.size = some o → h'.get? hh.objs.size = some o := fun o e => k _ o nL e
    refine wpAny_execs_cons (plainObj_wpAny_Assign_Attribute (wpAny_Name (nam kL (.inr ⟨rfl, rfl⟩) (wpAny_Name (nam kL (.inl ⟨rfl, rfl⟩) ?_) (by decide))) (by rcases ef.pr with rfl | rfl | rfl <;> decide)) (by rcases ef.pr with rfl | rfl | rfl <;> rfl))
    have inH' : K.In h' := fun b o e => k b o (fun z => by rw [z, na] at e; cases e) (inH1 b o e)
    refine set_plain (C := C) (s := ⟨h', gs, dr, tk', os⟩) inH' (ox := excRec (.ref C) t1 none .none .none (.bool false)) (od := none) ⟨ha, rfl, rfl, trivial⟩ ef.sa ?_
    refine er_osa ef.be inH' ha hcl (rs := C :: rs) rfl (by simp) rfl ef.no (fun h2 tk2 dx k2 dn dne hx2 hn => ?_)
    have e3 := kL _ hoL
    refine wpAny_execs_nil (hQ _ (hR h2 t1 dx tk2 (fun b o hb e => k2 b o hb (k b o hb (hk1 b o e))) ?_ dne hx2 hn))
    have z1 : hh.objs.size < h'.objs.size := Heap.lt_size e3
    have z2 : h'.objs.size ≤ dx := dn
    show hh.objs.size ≤ dx
    omega
  have kd : (ksEnv qual (eScope par) hh.objs.size fI (.ref cda) cc).kindOf "super" = some .globalImplicit ∧ (ksEnv qual (eScope par) hh.objs.size fI (.ref cda) cc).kindOf "__class__" = some .free ∧ (ksEnv qual (eScope par) hh.objs.size fI (.ref cda) cc).kindOf "self" = some .local := by
    rcases ef.pr with rfl | rfl | rfl <;> exact ⟨rfl, rfl, rfl⟩
  refine ks_wpAt_execs_cons (ks_wpAt_Expr_any (ks_wpAt_MethodCall (pl := pl) ?_ (hev _)) ?hi ?hs)
  case hi => rfl
  case hs => rcases ef.pr with rfl | rfl | rfl <;> rfl
  refine ks_wpAt_super_base (f := fI) (cc := cda) (ar := { arg := "self", annotation := none, pos := p1 }) kd.1 kd.2.1 (by decide) rfl (inH1 _ _ lkF) rfl rfl rfl (inH1 _ _ lkC) rfl hv2 hfile ef.top ?_
  refine ks_loadName_global rfl kd.1 (loadGlobal_builtin (ns_keep hg fun o e => hk1 _ _ e) mgS (ns_keep hb fun o e => hk1 _ _ e) ((hbb _ (by decide +kernel)).trans (by first | boot_by_name | rfl | kernel_rfl)) ⟨rfl, ?_⟩)
  refine wpAny_loadName_free rfl kd.2.1 rfl ⟨_, inH1 _ _ lkK, rfl⟩ ?_
  refine nam (fun _ e => e) (.inl ⟨rfl, rfl⟩) ?_
  refine ks_wpAny_isType_cls (inH1 _ _ hC) rfl ⟨rfl, ?_⟩
  have hx1 := hk1 _ _ hx
  refine ks_wpAny_call_super (x := a) (C := C) (inH1 _ _ hC) rfl hx1 rfl (fun c e => nomatch e) (looks_mroIn inH1 ef.sC) (fun h2 eso k2 => ?_)
  have inH2 : K.In h2 := inH1.keeps k2
  have hx2 := k2 _ _ hx1
  have at2 : InstAt h2 a (excRec (.ref C) t0 none .none .none (.bool false)) C none := ⟨hx2, rfl, rfl, trivial⟩
  refine kxs_getMethod ef.be.kx (C := C) (D := C) (x := a) eso (looks_opaque inH2 ef.nan) (l₀ := .ref C :: (List.map Value.ref rs ++ tail)) ((looks_clsIn inH2 hcl).andThen .now) rfl inH2 (by simpa [List.dropWhile_cons] using hal) (at2.type.andThen (looks_subIn inH2 ef.sB)) (ks_ne inH2 at2 hcl) (by decide) ?_
  have k3 : ∀ b o, h2.get? b = some o → (h2.push (kxs_mw initId a)).get? b = some o := fun b o e => Heap.get?_push_of_some _ e
  have eu : (h2.push (kxs_mw initId a)).get? h2.objs.size = some (kxs_mw initId a) := Heap.get?_push_at rfl rfl
  refine kxs_callWith (i := initId) (x := a) rfl (evalArgs_plain (spliced_cons (wpAny_Name (nam (fun o e => k3 _ _ (k2 _ _ e)) (.inr ⟨rfl, rfl⟩) (spliced_nil ⟨eu, ?_⟩)) (by rcases ef.pr with rfl | rfl | rfl <;> decide))))
  refine er_mw ef.be (inH2.keeps k3 _ _ hC) (k3 _ _ hx2) eu (by show 1 ≤ sizeLine; rw [sizeLine_eq]; omega) fun h4 k4 e4 => ?_
  exact wpAt_of_wpAny (fin (fun b o hb e => k4 b o hb (k3 _ _ (k2 _ _ e))) e4 fun s' z => z)
end
end PWX
namespace PW
open PySem PySem.Spec PyProof.Rows L2
def tMkEK (C : Addr) (par : Str) (tk : TA) : L2.St → Hp → XK → Prop := fun σ H Q => tk σ H fun zs H1 => ∃ v, zs = [v] ∧ ∀ d, H1 d = none → Q (.ref C) (some d) (upd H1 d (.xd [(par, v)]))
theorem pmk_erK {X : Cx} {x par : Str} {C fI : Addr} {B newId initId : String} {tail : List Value} {k : Nat} {kws : List Keyword} {tk : TA} {p pos : Pos} (ef : PWX.ErrF X.prog X.K C fI par B newId initId tail) (exC : PySem.W.subIn X.K (.ref C) (.type "BaseException") = some true) (tyC : PySem.W.typeIn X.K (.ref C) = some (.type "type")) (kC : PySem.W.keepIn X.K (.ref C) = true)
    (hr : Room (k + 1) X.A) (hg : Gl X x) (hm : X.mg x = some (.ref C)) (mgS : X.mg "super" = none) (hkw : PK X kws tk)
    (hdb : (x == ("__debug__" : Str)) = false := by decide) (hall : (backToKw pos (keywordEach kws X.env)).all (·.1.isSome) = true := by rfl) (hks : (backToKw pos (keywordEach kws X.env)).filterMap (·.1) = [par] := by rfl)
    (hpl : ((backTo pos (starEach [] X.env)).any (·.1) || (backToKw pos (keywordEach kws X.env)).any (·.1.isNone)) = false := by rfl) : PMk X (.Call (.Name x p) [] kws pos) (tMkEK C par tk) := by
  intro pins s σ H Q I h
  obtain ⟨nm, q, N, bs, rs, sn, sub, ab, col, dd, k0, k1, k2, k3, k5, hC⟩ := ef.cls
  refine wpAny_Call_Name_kw (ld_glob I hg hm ?_ hdb)
  refine PySem.W.callWith_KW0 (h₀ := X.base) I.ok.mod.kin kC hall (thn (hkw.run pos pins s σ H _ I h) ?_) hpl
  intro ws s1 ⟨zs, H1, I1, rz, v, ezs, q1⟩
  subst ezs
  obtain ⟨u, rfl, r1⟩ : ∃ u, ws = [u] ∧ RelV v u := by
    cases rz with
    | cons a b => cases b; exact ⟨_, rfl, a⟩
  refine ⟨I1.kIn, ?_⟩
  rw [hks]
  show wpAny _ _ (call (.ref C) [] [(par, u)]) _ _ _
  obtain ⟨hp, g, dr, tk0, os⟩ := s1
  have kk : ∀ b o, hp.get? b = some o → ((hp.push (PySem.W.kdv_tup [])).push (PySem.HandSPX.excO C hp.objs.size)).get? b = some o := fun b o e => Heap.get?_push_of_some _ (Heap.get?_push_of_some _ e)
  have hget : ((hp.push (PySem.W.kdv_tup [])).push (PySem.HandSPX.excO C hp.objs.size)).get? (hp.objs.size + 1) = some (PySem.HandSPX.excO C hp.objs.size) := by heap_get
  obtain ⟨mb, hb, hbb⟩ := I1.mod.blt
  have kb : ∀ b o, X.base.get? b = some o → ((hp.push (PySem.W.kdv_tup [])).push (PySem.HandSPX.excO C hp.objs.size)).get? b = some o := fun b o e => kk b o (I1.bk b o e)
  have nK : X.K.lookup (hp.objs.size + 1) = none := by
    cases e : X.K.lookup (hp.objs.size + 1) with
    | none => rfl
    | some o =>
      have := Heap.lt_size (I1.kIn _ _ e)
      exact absurd this (by show ¬ (hp.objs.size + 1 < hp.objs.size); omega)
  refine wpAny_call (PWX.erk_call ef.be.fb (fun Y => PWX.own_contains tail Y rs) (I1.kIn _ _ hC) (PySem.W.looks_findIn I1.kIn ef.iC) (fun self => PySem.W.bind_fn I1.kIn self ef.tI)
    (PWX.er_initK (mg := X.mg) (mb := mb) ef ?_ (fun b o e => kb b o (I1.ok.mod.kin b o e)) (I1.nolimit.keeps kk) (PWX.ns_keep I1.mod.glob fun o e => kb _ _ e) mgS (PWX.ns_keep hb fun o e => kb _ _ e) hbb hget nK fun h' t1 dx tk' k dn dne hx hns => ?_))
  · rw [make_depth]
    have := hr.dp
    omega
  · have hsz : ((hp.push (PySem.W.kdv_tup [])).push (PySem.HandSPX.excO C hp.objs.size)).objs.size = hp.objs.size + 2 := by simp [Heap.push]
    have dn2 : hp.objs.size + 2 ≤ dx := by
      have z := dn
      simp only at z
      omega
    have nd1 : H1 dx = none := I1.hok.fresh (by show hp.objs.size ≤ dx; omega)
    have na1 : H1 (hp.objs.size + 1) = none := I1.hok.fresh (by show hp.objs.size ≤ hp.objs.size + 1; omega)
    obtain ⟨G, g1, g2⟩ := restrict h' fun b => decide (b ≠ hp.objs.size + 1)
    have gk : ∀ b, b ≠ hp.objs.size + 1 → G.get? b = h'.get? b := fun b hb => g1 b (decide_eq_true hb)
    have ge : G.get? (hp.objs.size + 1) = none := g2 _ (by simp)
    have J : Inv X pins σ (upd H1 dx (.xd [(par, v)])) ⟨G, g, dr, tk', os⟩ := I1.laid (t' := tk') (a := dx) (o := .xd [(par, v)]) (h' := G) (fun b o e => by
      have hne : b ≠ hp.objs.size + 1 := fun z => by
        rw [z] at e
        exact absurd (Heap.lt_size e) (by show ¬ (hp.objs.size + 1 < hp.objs.size); omega)
      rw [gk b hne]
      exact k b o hne (kk b o e)) (by show hp.objs.size ≤ dx; omega) ⟨_, hns.at fun o y => (gk dx dne).trans y, fun f => by
        by_cases hf : f = par
        · subst hf
          simpa [List.lookup_cons, RelO] using r1
        · have : (f == par) = false := by simpa using hf
          simp [List.lookup_cons, this, RelO, hf]⟩
    refine ⟨rfl, hp.objs.size + 1, _, _, ⟨G, g, dr, tk', os⟩, _, .ref C, some dx, rfl, J, fun b o z => ?_, ge, hx, ⟨rfl, rfl⟩, rfl, rfl, ?_, rfl, I1.bare, raises_own exC tyC, q1 dx nd1⟩
    · by_cases hba : b = hp.objs.size + 1
      · rw [hba, ge] at z; cases z
      · exact (gk b hba).symm.trans z
    · rw [upd_ne (Ne.symm dne)]; exact na1

/-- C(), without an own __init__ -/
theorem pmk_er0 {X : Cx} {x : Str} {C : Addr} {bmB : List Value} {B newId initId : String} {p pos : Pos} (F : ExcBaseFacts B newId initId bmB) (q : PySem.W.excIn X.K C bmB newId = true) (gC : X.mg x = some (.ref C)) (kC : PySem.W.keepIn X.K (.ref C) = true)
    (exC : PySem.W.subIn X.K (.ref C) (.type "BaseException") = some true) (tyC : PySem.W.typeIn X.K (.ref C) = some (.type "type")) (hg : Gl X x)
    (hdb : (x == ("__debug__" : Str)) = false := by decide) : PMk X (.Call (.Name x p) [] [] pos) (fun _ H Q => Q (.ref C) none H) := by
  intro pins s σ H Q I h
  refine wpAny_Call_Name_kw (ld_glob I hg gC ?_ hdb)
  refine PySem.W.callWith_K0 I.kIn kC ?_
  show wpAny _ _ (call (.ref C) []) _ _ _
  obtain ⟨bm, N, nm, qn, bs, hdct, sn, sub, ab, col, dd, k0, k1, k2, k3, k5, mN, hC, hN, hni, T⟩ := exc_obj I.kIn q
  refine wpAny_call_exc_subT F T hC hN hni (fun h' e hm => ?_) (by show 0 ≤ sizeLine; exact Nat.zero_le _)
  exact mk_of I hm (raises_own exC tyC) h (I.hok.gone hm.new)
/-- an error made, as a value -/
theorem pe_mk {X : Cx} {e : Expr} {t : L2.St → Hp → XK → Prop} (h : PMk X e t) (hex : X.ex = []) : PE X e fun σ H Q => t σ H fun c d H1 => ∀ a oe, H1 a = none → Zc c d oe → (∃ us, oe.data = .fields us) → Q (.ref a) (upd H1 a (PU.ExP a oe)) := by
  refine ⟨fun pins s σ H Q I ht => ?_⟩
  refine thn (h pins s σ H _ I ht) fun u s1 ⟨a, oe, vs, sI, H', cls, d, eu, J, k, ne, ha, hz, hd, h1, na, os, ag, r, q⟩ => ?_
  subst eu
  have z := J.kept (h' := s1.heap) (t' := s1.toks) k
  have J1 : Inv X pins σ H' s1 := ⟨z.ok, os.trans J.os, ag, z.base, z.loc, z.cell, z.free, z.freeC, z.pin, z.hok, z.len⟩
  refine ⟨.ref a, _, PW.Inv.track J1 ha na ?_ ?_ ?_ ?_, rfl, q a oe na hz ⟨_, hd⟩⟩
  · cases e : X.s_0.heap.get? a with
    | none => rfl
    | some o =>
      obtain ⟨o', e'⟩ := J.base.there a o e (fun hm => by rw [hex] at hm; cases hm)
      rw [ne] at e'
      cases e'
  · intro e
    obtain ⟨m, ⟨o, _, _, ho, _⟩, _⟩ := J.loc
    rw [← e, ne] at ho
    cases ho
  · intro x c e e2
    obtain ⟨v, hv⟩ := J.cell x c e
    have := hv.lt
    rw [e2] at hv
    obtain ⟨o, ho, _⟩ := hv
    rw [ne] at ho
    cases ho
  · intro p hp e
    obtain ⟨p1, _⟩ := J.pin p hp
    rw [e, ne] at p1
    cases p1
end PW
set_option Elab.async false
set_option linter.all false
set_option maxRecDepth 100000
set_option maxHeartbeats 4000000
/-! errors made as values: C(e), C(par = e), C() -/
namespace PU
open PySem PySem.Spec PyProof.Rows L2 PWX
def tErr (t : L2.St → Hp → XK → Prop) : TE := fun σ H Q => t σ H fun c d H1 => ∀ a oe, H1 a = none → Zc c d oe → (∃ us, oe.data = .fields us) → Q (.ref a) (upd H1 a (ExP a oe))
def eErr (C f : Nat) (fe : Ev) : Ev := fun ρ M => (fe ρ M).bind fun w M1 => match w with
  | .d x => .ok (.d (.exn C [f] [x])) M1
  | .cell _ => .stuck
def eErrK (C f : Nat) (fk : Av) : Ev := fun ρ M => (fk ρ M).bind fun zs M1 => match zs with
  | [.d x] => .ok (.d (.exn C [f] [x])) M1
  | _ => .stuck
def eErr0 (C : Nat) : Ev := fun _ M => .ok (.d (.exn C [] [])) M
section
variable {G : Glo} {X : Cx} {e : Expr} {te : L2.WX → TE} {fe : Ev} {p pos : Pos} {x par : Str} {C f k : Nat} {fI : Addr} {B newId initId : String} {tail : List Value} {kws : List Keyword} {u : L2.WX → TA} {fk : Av}
theorem err_laid {F : Hp} {θ : List Addr} {H : Hp} {M : Mem} {Q : VK} {Wx : Value → Option Addr → Hp → Prop} {x : D} {v : V} (hr : HR G F θ H M) (hc : G.err C) (han : G.an f = par) (rv : RepW G F θ (.d x) v) (hg : Good G F θ (postE G Q) Wx (.ok (.d (.exn C [f] [x])) M)) :
    ∀ d, H d = none → ∀ a oe, (upd H d (.xd [(par, v)])) a = none → Zc (.ref (G.cls C)) (some d) oe → (∃ us, oe.data = .fields us) → Q (.ref a) (upd (upd H d (.xd [(par, v)])) a (ExP a oe)) := by
  intro d hd a oe ha hz hf
  obtain ⟨hr1, le1⟩ := hr.alloc hd (.xd [(par, v)])
  obtain ⟨hr2, le2⟩ := hr1.alloc ha (ExP a oe)
  have le := le1.trans le2
  refine hg _ θ _ le (List.prefix_refl _) hr2 _ ?_
  have rx : Rep G F x v := by simpa only [RepW] using rv
  simp only [RepW, Rep]
  refine ⟨hc, a, some d, oe, rfl, upd_same, hz, hf, .inr ⟨d, [(par, v)], rfl, le2.xd _ _ upd_same, by simp [han], ?_⟩⟩
  exact (RepL.one rx).mono le
theorem pu_err (ef : ErrF X.prog X.K (G.cls C) fI par B newId initId tail) (hc : G.err C) (xc : XcOk X.K (G.cls C)) (hr : Room (k + 1) X.A) (hm : X.mg x = some (.ref (G.cls C))) (mgS : X.mg "super" = none)
    (he : PU G X e te fe) (hex : X.ex = [] := by rfl) (han : G.an f = par := by rfl) (hg : L2.Gl X x := by rfl) (hdb : (x == ("__debug__" : Str)) = false := by decide +kernel) (hs : starEach [e] X.env = (false, eval e X.env) :: starEach [] X.env := by rfl) (hpl : (backTo pos (starEach [] X.env)).any (·.1) = false := by rfl) :
    PU G X (.Call (.Name x p) [e] [] pos) (fun Wx => tErr (PW.tMkE (G.cls C) par (te Wx))) (eErr C f fe) := by
  refine ⟨fun Wx tk => PW.pe_mk (PW.pmk_er ef xc.exc.hs xc.ty xc.kp hr hg hm mgS (he.pe Wx tk) hdb hs hpl) hex, ?_⟩
  intro Wx F θ σ H ρ M Q sr hg'
  refine he.sem Wx F θ σ H ρ M _ sr (Good.seq hg' fun w M1 F1 θ1 H1 _ l1 p1 hr1 hg1 v rv => ?_)
  cases w with
  | cell j => exact hg1.elim
  | d x => exact err_laid hr1 hc han rv hg1
theorem pu_errK (ef : ErrF X.prog X.K (G.cls C) fI par B newId initId tail) (hc : G.err C) (xc : XcOk X.K (G.cls C)) (hr : Room (k + 1) X.A) (hm : X.mg x = some (.ref (G.cls C))) (mgS : X.mg "super" = none)
    (hkw : PUK G X kws u fk) (hex : X.ex = [] := by rfl) (han : G.an f = par := by rfl) (hg : L2.Gl X x := by rfl) (hdb : (x == ("__debug__" : Str)) = false := by decide +kernel)
    (hall : (backToKw pos (keywordEach kws X.env)).all (·.1.isSome) = true := by rfl) (hks : (backToKw pos (keywordEach kws X.env)).filterMap (·.1) = [par] := by rfl)
    (hpl : ((backTo pos (starEach [] X.env)).any (·.1) || (backToKw pos (keywordEach kws X.env)).any (·.1.isNone)) = false := by rfl) :
    PU G X (.Call (.Name x p) [] kws pos) (fun Wx => tErr (PW.tMkEK (G.cls C) par (u Wx))) (eErrK C f fk) := by
  refine ⟨fun Wx tk => PW.pe_mk (PW.pmk_erK ef xc.exc.hs xc.ty xc.kp hr hg hm mgS (hkw.pe Wx tk) hdb hall hks hpl) hex, ?_⟩
  intro Wx F θ σ H ρ M Q sr hg'
  refine hkw.sem Wx F θ σ H ρ M _ sr (Good.seq hg' fun zs M1 F1 θ1 H1 _ l1 p1 hr1 hg1 vs rvs => ?_)
  split at hg1
  · obtain ⟨v, rfl, rv⟩ := RepWL.one rvs
    exact ⟨v, rfl, err_laid hr1 hc han rv hg1⟩
  · exact hg1.elim
theorem pu_err0 (hc : G.err C) (xc : XcOk X.K (G.cls C)) (hx : PySem.W.excIn X.K (G.cls C) (rootE C).tail (rootE C).newId = true) (hm : X.mg x = some (.ref (G.cls C))) (hex : X.ex = [] := by rfl) (hg : L2.Gl X x := by rfl) (hdb : (x == ("__debug__" : Str)) = false := by decide +kernel) :
    PU G X (.Call (.Name x p) [] [] pos) (fun Wx => tErr fun _ H Q => Q (.ref (G.cls C)) none H) (eErr0 C) := by
  refine ⟨fun Wx tk => PW.pe_mk (PW.pmk_er0 (rootE C).be.fb hx hm xc.kp xc.exc.hs xc.ty hg hdb) hex, ?_⟩
  intro Wx F θ σ H ρ M Q sr hg' a oe ha hz hf
  obtain ⟨hr2, le2⟩ := sr.hr.alloc ha (ExP a oe)
  refine hg' _ θ _ le2 (List.prefix_refl _) hr2 _ ?_
  simp only [RepW, Rep]
  exact ⟨hc, a, none, oe, rfl, upd_same, hz, hf, .inl (by simp)⟩
end
end PU
set_option Elab.async false
set_option linter.all false
set_option maxRecDepth 100000
set_option maxHeartbeats 0
namespace Lawk01
open PySem PySem.Spec PyProof.Rows L2 PU

abbrev PRS : List Nat := []
def S_law_kinds : Sv :=
  (sSeq (sSet 1 (eA lstW (aCons (e1 (isxW (.inr 13)) (eVar 0)) (aCons (e1 (isxW (.inr 14)) (eVar 0)) (aCons (e1 (isxW (.inr 15)) (eVar 0)) aNil)))))
  (sRet (e2 addW (eVar 1) (eA lstW (aCons (e1 (isxW (.inl "ValueError")) (eVar 0)) (aCons (e1 (isxW (.inl "LookupError")) (eVar 0)) (aCons (e1 (isxW (.inl "ArithmeticError")) (eVar 0)) aNil)))))))
def F_law_kinds : Fn := fnF 2 S_law_kinds
def S_law_own : Sv :=
  (sSeq (sSet 1 (eA lstW (aCons (e1 (isxW (.inr 16)) (eVar 0)) (aCons (e1 (isxW (.inr 17)) (eVar 0)) (aCons (e1 (isxW (.inr 18)) (eVar 0)) aNil)))))
  (sSeq (sSet 1 (e2 addW (eVar 1) (eA lstW (aCons (e1 (isxW (.inr 19)) (eVar 0)) (aCons (e1 (isxW (.inr 20)) (eVar 0)) (aCons (e1 (isxW (.inr 21)) (eVar 0)) aNil))))))
  (sSeq (sSet 1 (e2 addW (eVar 1) (eA lstW (aCons (e1 (isxW (.inr 22)) (eVar 0)) (aCons (e1 (isxW (.inr 23)) (eVar 0)) (aCons (e1 (isxW (.inr 24)) (eVar 0)) aNil))))))
  (sSeq (sSet 1 (e2 addW (eVar 1) (eA lstW (aCons (e1 (isxW (.inr 25)) (eVar 0)) (aCons (e1 (isxW (.inr 26)) (eVar 0)) (aCons (e1 (isxW (.inr 27)) (eVar 0)) aNil))))))
  (sSeq (sSet 1 (e2 addW (eVar 1) (eA lstW (aCons (e1 (isxW (.inr 28)) (eVar 0)) (aCons (e1 (isxW (.inr 29)) (eVar 0)) (aCons (e1 (isxW (.inr 30)) (eVar 0)) aNil))))))
  (sSeq (sSet 1 (e2 addW (eVar 1) (eA lstW (aCons (e1 (isxW (.inr 31)) (eVar 0)) (aCons (e1 (isxW (.inr 32)) (eVar 0)) (aCons (e1 (isxW (.inr 33)) (eVar 0)) aNil))))))
  (sSeq (sSet 1 (e2 addW (eVar 1) (eA lstW (aCons (e1 (isxW (.inr 34)) (eVar 0)) (aCons (e1 (isxW (.inr 35)) (eVar 0)) (aCons (e1 (isxW (.inr 36)) (eVar 0)) aNil))))))
  (sSeq (sSet 1 (e2 addW (eVar 1) (eA lstW (aCons (e1 (isxW (.inr 37)) (eVar 0)) (aCons (e1 (isxW (.inr 38)) (eVar 0)) (aCons (e1 (isxW (.inr 39)) (eVar 0)) aNil))))))
  (sRet (eComp [2] (iRange1 (aCons (eC (.int 24)) aNil)) (gvName 2) (tB' (e2 ixW (eVar 1) (eVar 2))) (eVar 2)))))))))))
def F_law_own : Fn := fnF 3 S_law_own
def S_law_wrong_values : Sv :=
  (sSeq (sSet 0 (eA lstW (aCons (eErr 16 55 (eC (.str "a"))) (aCons (eErrK 17 55 (aCons (eC (.str "a")) aNil)) (aCons (eErr 18 55 (eC (.str "a"))) (aCons (eErrK 19 55 (aCons (eC (.str "a")) aNil)) (aCons (eErr 20 55 (eC (.str "a"))) aNil)))))))
  (sSeq (sSet 0 (e2 addW (eVar 0) (eA lstW (aCons (eErrK 21 55 (aCons (eC (.str "a")) aNil)) (aCons (eErr 22 55 (eC (.str "a"))) (aCons (eErrK 23 55 (aCons (eC (.str "a")) aNil)) (aCons (eErr 24 55 (eC (.str "a"))) aNil)))))))
  (sSeq (sSet 0 (e2 addW (eVar 0) (eA lstW (aCons (eErrK 25 55 (aCons (eC (.str "a")) aNil)) (aCons (eErr 26 55 (eC (.str "a"))) (aCons (eErrK 27 55 (aCons (eC (.str "a")) aNil)) (aCons (eErr 28 55 (eC (.str "a"))) aNil)))))))
  (sRet (e2 addW (eVar 0) (eA lstW (aCons (eErrK 29 55 (aCons (eC (.str "a")) aNil)) (aCons (eErr 30 55 (eC (.str "a"))) aNil))))))))
def F_law_wrong_values : Fn := fnF 1 S_law_wrong_values
def S_law : Sv :=
  (sSeq (sIf (tB' (e2 neW (eA lstW (aCons (eC (.int 1000000000000000000000000000000)) (aCons (eC (.int 100000000000000000000000000000)) (aCons (eC (.int 3)) (aCons (eC (.int 6)) (aCons (eC (.int 12)) (aCons (eC (.int 12)) aNil))))))) (eA lstW (aCons (e2 powW (eC (.int 10)) (eC (.int 30))) (aCons (e2 powW (eC (.int 10)) (eC (.int 29))) (aCons (eC (.int 3)) (aCons (eC (.int 6)) (aCons (eC (.int 12)) (aCons (eC (.int 12)) aNil))))))))) (sRet (eC (.bl false))) sNext)
  (sSeq (sIf (tB' (e2 neW (eA lstW (aCons (eC (.int 3)) (aCons (eC (.int 8)) (aCons (eC (.int 1000)) (aCons (eC (.int 6)) (aCons (eC (.int 30)) (aCons (eC (.int 8)) aNil))))))) (eA lstW (aCons (eC (.int 3)) (aCons (eC (.int 8)) (aCons (eC (.int 1000)) (aCons (eC (.int 6)) (aCons (eC (.int 30)) (aCons (eC (.int 8)) aNil))))))))) (sRet (eC (.bl false))) sNext)
  (sSeq (sSet 1 (e2 addW (eCall (eN 0 F_law_wrong_values) [] aNil) (eA lstW (aCons (eErr 31 56 (eC .non)) (aCons (eErrK 32 56 (aCons (eC .non) aNil)) (aCons (eErr 33 56 (eC .non)) (aCons (eErr 34 55 (eA lstW aNil)) aNil)))))))
  (sSeq (sSet 1 (e2 addW (eVar 1) (eA lstW (aCons (eErr 35 56 (eC (.int 3))) (aCons (eErr0 36) (aCons (eErrK 37 57 (aCons (eC (.int 8)) aNil)) (aCons (eErr0 38) (aCons (eErrK 39 56 (aCons (eC (.int 5)) aNil)) aNil))))))))
  (sSeq (sIf (tB' (e2 neW (eComp [2] (iSeq (eVar 1)) (gvName 2) tvYes (eCall (eN 1 F_law_own) [] (aCons (eVar 2) aNil))) (eComp [3] (iRange1 (aCons (eC (.int 24)) aNil)) (gvName 3) tvYes (eA lstW (aCons (eVar 3) aNil))))) (sRet (eC (.bl false))) sNext)
  (sSeq (sIf (tB' (e2 neW (eComp [2] (iSeq (eSl slW (eVar 1) oNone (oSome (eC (.int 18))))) (gvName 2) tvYes (eCall (eN 1 F_law_kinds) [] (aCons (eVar 2) aNil))) (e2 mulW (eA lstW (aCons (eA lstW (aCons (eC (.bl true)) (aCons (eC (.bl false)) (aCons (eC (.bl false)) (aCons (eC (.bl true)) (aCons (eC (.bl false)) (aCons (eC (.bl false)) aNil))))))) aNil)) (eC (.int 18))))) (sRet (eC (.bl false))) sNext)
  (sSeq (sIf (tB' (e2 neW (eComp [2] (iSeq (eSl slW (eVar 1) (oSome (eC (.int 18))) (oSome (eC (.int 20))))) (gvName 2) tvYes (eCall (eN 1 F_law_kinds) [] (aCons (eVar 2) aNil))) (e2 mulW (eA lstW (aCons (eA lstW (aCons (eC (.bl false)) (aCons (eC (.bl true)) (aCons (eC (.bl false)) (aCons (eC (.bl false)) (aCons (eC (.bl true)) (aCons (eC (.bl false)) aNil))))))) aNil)) (eC (.int 2))))) (sRet (eC (.bl false))) sNext)
  (sSeq (sIf (tB' (e2 neW (eComp [2] (iSeq (eSl slW (eVar 1) (oSome (eC (.int 20))) oNone)) (gvName 2) tvYes (eCall (eN 1 F_law_kinds) [] (aCons (eVar 2) aNil))) (e2 mulW (eA lstW (aCons (eA lstW (aCons (eC (.bl false)) (aCons (eC (.bl false)) (aCons (eC (.bl true)) (aCons (eC (.bl false)) (aCons (eC (.bl false)) (aCons (eC (.bl true)) aNil))))))) aNil)) (eC (.int 4))))) (sRet (eC (.bl false))) sNext)
  (sSeq (sIf (tOr' (tB' (e2 neW (eComp [2] (iSeq (eSl slW (eVar 1) oNone (oSome (eC (.int 15))))) (gvName 2) tvYes (e1 (xattW 55) (eVar 2))) (e2 mulW (eA lstW (aCons (eC (.str "a")) aNil)) (eC (.int 15))))) (tB' (e2 neW (eComp [2] (iSeq (eSl slW (eVar 1) (oSome (eC (.int 15))) (oSome (eC (.int 18))))) (gvName 2) tvYes (e1 (xattW 56) (eVar 2))) (e2 mulW (eA lstW (aCons (eC .non) aNil)) (eC (.int 3)))))) (sRet (eC (.bl false))) sNext)
  (sRet (e2 eqW (eA reprW (aCons (eA lstW (aCons (e1 (xattW 55) (e2 ixW (eVar 1) (eC (.int 18)))) (aCons (e1 (xattW 56) (e2 ixW (eVar 1) (eC (.int 19)))) (aCons (e1 (xattW 57) (e2 ixW (eVar 1) (eC (.int 21)))) (aCons (e1 (xattW 56) (e2 ixW (eVar 1) (eC (.int 23)))) aNil))))) aNil)) (eA reprW (aCons (eA lstW (aCons (eA lstW aNil) (aCons (eC (.int 3)) (aCons (eC (.int 8)) (aCons (eC (.int 5)) aNil))))) aNil)))))))))))))
def F_law : Fn := fnF 4 S_law
/-! ### the text, its defs -/
abbrev pg : Program := (PySem.Challenge.rw_spirowheels_k01_constants_and_errors).prog
def top (i : Nat) : Stmt := pg.main.body.getD i (.Pass ⟨0, 0, 0, 0⟩)
def mth (i j : Nat) : Stmt := (clsBody (top i)).getD j (.Pass ⟨0, 0, 0, 0⟩)
def d_law_kinds : He5.DefA := ⟨fun K => He.ga K "_law_kinds", "_law_kinds", "_law_kinds", defArgs (top 42), defBody (top 42), defScope (top 42), [], []⟩
theorem sc_law_kinds : FnScope ["_law_e", "_law_found"] ["_law_e"] d_law_kinds.scope := ⟨by kernel_rfl, by kernel_rfl, by kernel_rfl, by decide +kernel, rfl, by decide +kernel, by decide +kernel⟩
def d_law_own : He5.DefA := ⟨fun K => He.ga K "_law_own", "_law_own", "_law_own", defArgs (top 43), defBody (top 43), defScope (top 43), [], []⟩
theorem sc_law_own : FnScope ["_law_e", "_law_found", "_law_at"] ["_law_e"] d_law_own.scope := ⟨by kernel_rfl, by kernel_rfl, by kernel_rfl, by decide +kernel, rfl, by decide +kernel, by decide +kernel⟩
def d_law_wrong_values : He5.DefA := ⟨fun K => He.ga K "_law_wrong_values", "_law_wrong_values", "_law_wrong_values", defArgs (top 41), defBody (top 41), defScope (top 41), [], []⟩
theorem sc_law_wrong_values : FnScope ["_law_found"] [] d_law_wrong_values.scope := ⟨by kernel_rfl, by kernel_rfl, by kernel_rfl, by decide +kernel, rfl, by decide +kernel, by decide +kernel⟩
def d_law : He5.DefA := ⟨fun K => He.ga K "law", "law", "law", defArgs (top 44), defBody (top 44), defScope (top 44), [], []⟩
theorem sc_law : FnScope ["_law_script", "_law_every", "_law_e", "_law_at"] ["_law_script"] d_law.scope := ⟨by kernel_rfl, by kernel_rfl, by kernel_rfl, by decide +kernel, rfl, by decide +kernel, by decide +kernel⟩
def d_Broken_init : He5.DefA := ⟨fun K => He.ma K (He.ga K "Broken") "__init__", "__init__", "Broken.__init__", defArgs (mth 27 0), defBody (mth 27 0), defScope (mth 27 0), [], []⟩
def d_TooMany_init : He5.DefA := ⟨fun K => He.ma K (He.ga K "TooMany") "__init__", "__init__", "TooMany.__init__", defArgs (mth 25 0), defBody (mth 25 0), defScope (mth 25 0), [], []⟩
def d_InUse_init : He5.DefA := ⟨fun K => He.ma K (He.ga K "InUse") "__init__", "__init__", "InUse.__init__", defArgs (mth 22 0), defBody (mth 22 0), defScope (mth 22 0), [], []⟩
def d_UnknownName_init : He5.DefA := ⟨fun K => He.ma K (He.ga K "UnknownName") "__init__", "__init__", "UnknownName.__init__", defArgs (mth 21 0), defBody (mth 21 0), defScope (mth 21 0), [], []⟩
def d_InvalidDeeds_init : He5.DefA := ⟨fun K => He.ma K (He.ga K "InvalidDeeds") "__init__", "__init__", "InvalidDeeds.__init__", defArgs (mth 19 0), defBody (mth 19 0), defScope (mth 19 0), [], []⟩
def d_InvalidSeen_init : He5.DefA := ⟨fun K => He.ma K (He.ga K "InvalidSeen") "__init__", "__init__", "InvalidSeen.__init__", defArgs (mth 18 0), defBody (mth 18 0), defScope (mth 18 0), [], []⟩
def d_InvalidSizes_init : He5.DefA := ⟨fun K => He.ma K (He.ga K "InvalidSizes") "__init__", "__init__", "InvalidSizes.__init__", defArgs (mth 17 0), defBody (mth 17 0), defScope (mth 17 0), [], []⟩
def d_NotABox_init : He5.DefA := ⟨fun K => He.ma K (He.ga K "NotABox") "__init__", "__init__", "NotABox.__init__", defArgs (mth 16 0), defBody (mth 16 0), defScope (mth 16 0), [], []⟩
def d_NotAScript_init : He5.DefA := ⟨fun K => He.ma K (He.ga K "NotAScript") "__init__", "__init__", "NotAScript.__init__", defArgs (mth 15 0), defBody (mth 15 0), defScope (mth 15 0), [], []⟩
def d_NotALine_init : He5.DefA := ⟨fun K => He.ma K (He.ga K "NotALine") "__init__", "__init__", "NotALine.__init__", defArgs (mth 14 0), defBody (mth 14 0), defScope (mth 14 0), [], []⟩
def d_InvalidLine_init : He5.DefA := ⟨fun K => He.ma K (He.ga K "InvalidLine") "__init__", "__init__", "InvalidLine.__init__", defArgs (mth 13 0), defBody (mth 13 0), defScope (mth 13 0), [], []⟩
def d_InvalidIndex_init : He5.DefA := ⟨fun K => He.ma K (He.ga K "InvalidIndex") "__init__", "__init__", "InvalidIndex.__init__", defArgs (mth 12 0), defBody (mth 12 0), defScope (mth 12 0), [], []⟩
def d_InvalidClaim_init : He5.DefA := ⟨fun K => He.ma K (He.ga K "InvalidClaim") "__init__", "__init__", "InvalidClaim.__init__", defArgs (mth 11 0), defBody (mth 11 0), defScope (mth 11 0), [], []⟩
def d_InvalidName_init : He5.DefA := ⟨fun K => He.ma K (He.ga K "InvalidName") "__init__", "__init__", "InvalidName.__init__", defArgs (mth 10 0), defBody (mth 10 0), defScope (mth 10 0), [], []⟩
def d_InvalidNumber_init : He5.DefA := ⟨fun K => He.ma K (He.ga K "InvalidNumber") "__init__", "__init__", "InvalidNumber.__init__", defArgs (mth 9 0), defBody (mth 9 0), defScope (mth 9 0), [], []⟩
def d_InvalidText_init : He5.DefA := ⟨fun K => He.ma K (He.ga K "InvalidText") "__init__", "__init__", "InvalidText.__init__", defArgs (mth 8 0), defBody (mth 8 0), defScope (mth 8 0), [], []⟩
def d_InvalidTeeth_init : He5.DefA := ⟨fun K => He.ma K (He.ga K "InvalidTeeth") "__init__", "__init__", "InvalidTeeth.__init__", defArgs (mth 7 0), defBody (mth 7 0), defScope (mth 7 0), [], []⟩
def d_InvalidTooth_init : He5.DefA := ⟨fun K => He.ma K (He.ga K "InvalidTooth") "__init__", "__init__", "InvalidTooth.__init__", defArgs (mth 6 0), defBody (mth 6 0), defScope (mth 6 0), [], []⟩
def d_InvalidArm_init : He5.DefA := ⟨fun K => He.ma K (He.ga K "InvalidArm") "__init__", "__init__", "InvalidArm.__init__", defArgs (mth 5 0), defBody (mth 5 0), defScope (mth 5 0), [], []⟩
def d_InvalidWheel_init : He5.DefA := ⟨fun K => He.ma K (He.ga K "InvalidWheel") "__init__", "__init__", "InvalidWheel.__init__", defArgs (mth 4 0), defBody (mth 4 0), defScope (mth 4 0), [], []⟩
def d_InvalidRing_init : He5.DefA := ⟨fun K => He.ma K (He.ga K "InvalidRing") "__init__", "__init__", "InvalidRing.__init__", defArgs (mth 3 0), defBody (mth 3 0), defScope (mth 3 0), [], []⟩
def d_InvalidSide_init : He5.DefA := ⟨fun K => He.ma K (He.ga K "InvalidSide") "__init__", "__init__", "InvalidSide.__init__", defArgs (mth 2 0), defBody (mth 2 0), defScope (mth 2 0), [], []⟩
abbrev fn : List He5.DefA := d_law_kinds :: d_law_own :: d_law_wrong_values :: d_law :: d_Broken_init :: d_TooMany_init :: d_InUse_init :: d_UnknownName_init :: d_InvalidDeeds_init :: d_InvalidSeen_init :: d_InvalidSizes_init :: d_NotABox_init :: d_NotAScript_init :: d_NotALine_init :: d_InvalidLine_init :: d_InvalidIndex_init :: d_InvalidClaim_init :: d_InvalidName_init :: d_InvalidNumber_init :: d_InvalidText_init :: d_InvalidTeeth_init :: d_InvalidTooth_init :: d_InvalidArm_init :: d_InvalidWheel_init :: d_InvalidRing_init :: d_InvalidSide_init :: []
abbrev GN : List Str := [("law" : Str), ("NoAnswer" : Str), ("WrongName" : Str), ("WrongValue" : Str), ("_law_kinds" : Str), ("Broken" : Str), ("NothingToUndo" : Str), ("TooMany" : Str), ("SeveralRows" : Str), ("InUse" : Str), ("UnknownName" : Str), ("InvalidDeeds" : Str), ("InvalidSeen" : Str), ("InvalidSizes" : Str), ("NotABox" : Str), ("NotAScript" : Str), ("NotALine" : Str), ("InvalidLine" : Str), ("InvalidIndex" : Str), ("InvalidClaim" : Str), ("InvalidName" : Str), ("InvalidNumber" : Str), ("InvalidText" : Str), ("InvalidTeeth" : Str), ("InvalidTooth" : Str), ("InvalidArm" : Str), ("InvalidWheel" : Str), ("InvalidRing" : Str), ("InvalidSide" : Str), ("_law_own" : Str), ("_law_wrong_values" : Str)]
abbrev FN : List Str := ["repr", "isinstance", "ArithmeticError", "LookupError", "ValueError", "range", "super"]
abbrev IN : List (Str × Int) := [("MOST_ROUNDS", 8), ("MOST_COVER", 30), ("MOST_SEEN", 6), ("MOST_SIZE", 1000), ("MOST_IN_BOX", 8), ("MOST_FACTOR", 3), ("MOST_PLUS", 12), ("MOST_STEP", 12), ("MOST_TIMES", 6), ("MOST_ROWS", 3), ("MOST_NUMBER", 100000000000000000000000000000), ("GREATEST", 1000000000000000000000000000000)]
abbrev TN : List (Str × List He.Dv) := []
abbrev MN : List (Str × Str) := []
abbrev PN : List (Str × Str) := []
abbrev KN : List Str := []
abbrev LN : List Str := []
abbrev XN : List (Nat × Option Str) := [(15, none), (14, none), (13, none), (39, some ("index" : Str)), (38, none), (37, some ("number" : Str)), (36, none), (35, some ("index" : Str)), (34, some ("given" : Str)), (33, some ("index" : Str)), (32, some ("index" : Str)), (31, some ("index" : Str)), (30, some ("given" : Str)), (29, some ("given" : Str)), (28, some ("given" : Str)), (27, some ("given" : Str)), (26, some ("given" : Str)), (25, some ("given" : Str)), (24, some ("given" : Str)), (23, some ("given" : Str)), (22, some ("given" : Str)), (21, some ("given" : Str)), (20, some ("given" : Str)), (19, some ("given" : Str)), (18, some ("given" : Str)), (17, some ("given" : Str)), (16, some ("given" : Str))]
def ex : PySem.W.Frag → Bool := exAll CNg ANg PRS FTg GN FN IN TN MN PN KN LN XN
abbrev G (K : PySem.W.Frag) : Glo := mkG CNg ANg PRS K LN XN
abbrev Bs (K : PySem.W.Frag) (mg : Str → Option Value) (base : Heap) : Prop := BasA CNg ANg PRS FTg GN FN IN TN MN PN KN LN XN fn K mg base
section
variable {w : World} {K : PySem.W.Frag} {mg : Str → Option Value} {base : Heap}
theorem er_Broken (B : Bs K mg base) : PWX.ErrF pg K (He.ga K "Broken") (He.ma K (He.ga K "Broken") "__init__") "index" (PWX.rootE 39).B (PWX.rootE 39).newId (PWX.rootE 39).initId (PWX.rootE 39).tail :=
  PWX.ErrF.of (r := (PWX.rootE 39)) (p1 := ⟨119, 17, 119, 21⟩) (p2 := ⟨119, 23, 119, 28⟩) (q1 := ⟨120, 8, 120, 13⟩) (q2 := ⟨120, 8, 120, 15⟩) (q3 := ⟨120, 8, 120, 24⟩) (q4 := ⟨120, 25, 120, 30⟩) (q5 := ⟨120, 8, 120, 31⟩) (q6 := ⟨120, 8, 120, 31⟩) (q7 := ⟨121, 8, 121, 12⟩) (q8 := ⟨121, 8, 121, 18⟩) (q9 := ⟨121, 21, 121, 26⟩) (q10 := ⟨121, 8, 121, 26⟩) (B.ri 3 (C := 39)) (B.c.err_ 4 (d := d_Broken_init)) (by kernel_rfl) (by kernel_rfl) (by kernel_rfl) (.inr (.inl rfl)) ⟨_, fun env => rfl⟩ (by kernel_rfl) (by kernel_rfl)
theorem er_TooMany (B : Bs K mg base) : PWX.ErrF pg K (He.ga K "TooMany") (He.ma K (He.ga K "TooMany") "__init__") "number" (PWX.rootE 37).B (PWX.rootE 37).newId (PWX.rootE 37).initId (PWX.rootE 37).tail :=
  PWX.ErrF.of (r := (PWX.rootE 37)) (p1 := ⟨112, 17, 112, 21⟩) (p2 := ⟨112, 23, 112, 29⟩) (q1 := ⟨113, 8, 113, 13⟩) (q2 := ⟨113, 8, 113, 15⟩) (q3 := ⟨113, 8, 113, 24⟩) (q4 := ⟨113, 25, 113, 31⟩) (q5 := ⟨113, 8, 113, 32⟩) (q6 := ⟨113, 8, 113, 32⟩) (q7 := ⟨114, 8, 114, 12⟩) (q8 := ⟨114, 8, 114, 19⟩) (q9 := ⟨114, 22, 114, 28⟩) (q10 := ⟨114, 8, 114, 28⟩) (B.ri 5 (C := 37)) (B.c.err_ 5 (d := d_TooMany_init)) (by kernel_rfl) (by kernel_rfl) (by kernel_rfl) (.inr (.inr rfl)) ⟨_, fun env => rfl⟩ (by kernel_rfl) (by kernel_rfl)
theorem er_InUse (B : Bs K mg base) : PWX.ErrF pg K (He.ga K "InUse") (He.ma K (He.ga K "InUse") "__init__") "index" (PWX.rootE 35).B (PWX.rootE 35).newId (PWX.rootE 35).initId (PWX.rootE 35).tail :=
  PWX.ErrF.of (r := (PWX.rootE 35)) (p1 := ⟨103, 17, 103, 21⟩) (p2 := ⟨103, 23, 103, 28⟩) (q1 := ⟨104, 8, 104, 13⟩) (q2 := ⟨104, 8, 104, 15⟩) (q3 := ⟨104, 8, 104, 24⟩) (q4 := ⟨104, 25, 104, 30⟩) (q5 := ⟨104, 8, 104, 31⟩) (q6 := ⟨104, 8, 104, 31⟩) (q7 := ⟨105, 8, 105, 12⟩) (q8 := ⟨105, 8, 105, 18⟩) (q9 := ⟨105, 21, 105, 26⟩) (q10 := ⟨105, 8, 105, 26⟩) (B.ri 7 (C := 35)) (B.c.err_ 6 (d := d_InUse_init)) (by kernel_rfl) (by kernel_rfl) (by kernel_rfl) (.inr (.inl rfl)) ⟨_, fun env => rfl⟩ (by kernel_rfl) (by kernel_rfl)
theorem er_UnknownName (B : Bs K mg base) : PWX.ErrF pg K (He.ga K "UnknownName") (He.ma K (He.ga K "UnknownName") "__init__") "given" (PWX.rootE 34).B (PWX.rootE 34).newId (PWX.rootE 34).initId (PWX.rootE 34).tail :=
  PWX.ErrF.of (r := (PWX.rootE 34)) (p1 := ⟨98, 17, 98, 21⟩) (p2 := ⟨98, 23, 98, 28⟩) (q1 := ⟨99, 8, 99, 13⟩) (q2 := ⟨99, 8, 99, 15⟩) (q3 := ⟨99, 8, 99, 24⟩) (q4 := ⟨99, 25, 99, 30⟩) (q5 := ⟨99, 8, 99, 31⟩) (q6 := ⟨99, 8, 99, 31⟩) (q7 := ⟨100, 8, 100, 12⟩) (q8 := ⟨100, 8, 100, 18⟩) (q9 := ⟨100, 21, 100, 26⟩) (q10 := ⟨100, 8, 100, 26⟩) (B.ri 8 (C := 34)) (B.c.err_ 7 (d := d_UnknownName_init)) (by kernel_rfl) (by kernel_rfl) (by kernel_rfl) (.inl rfl) ⟨_, fun env => rfl⟩ (by kernel_rfl) (by kernel_rfl)
theorem er_InvalidDeeds (B : Bs K mg base) : PWX.ErrF pg K (He.ga K "InvalidDeeds") (He.ma K (He.ga K "InvalidDeeds") "__init__") "index" (PWX.rootE 33).B (PWX.rootE 33).newId (PWX.rootE 33).initId (PWX.rootE 33).tail :=
  PWX.ErrF.of (r := (PWX.rootE 33)) (p1 := ⟨91, 17, 91, 21⟩) (p2 := ⟨91, 23, 91, 28⟩) (q1 := ⟨92, 8, 92, 13⟩) (q2 := ⟨92, 8, 92, 15⟩) (q3 := ⟨92, 8, 92, 24⟩) (q4 := ⟨92, 25, 92, 30⟩) (q5 := ⟨92, 8, 92, 31⟩) (q6 := ⟨92, 8, 92, 31⟩) (q7 := ⟨93, 8, 93, 12⟩) (q8 := ⟨93, 8, 93, 18⟩) (q9 := ⟨93, 21, 93, 26⟩) (q10 := ⟨93, 8, 93, 26⟩) (B.ri 9 (C := 33)) (B.c.err_ 8 (d := d_InvalidDeeds_init)) (by kernel_rfl) (by kernel_rfl) (by kernel_rfl) (.inr (.inl rfl)) ⟨_, fun env => rfl⟩ (by kernel_rfl) (by kernel_rfl)
theorem er_InvalidSeen (B : Bs K mg base) : PWX.ErrF pg K (He.ga K "InvalidSeen") (He.ma K (He.ga K "InvalidSeen") "__init__") "index" (PWX.rootE 32).B (PWX.rootE 32).newId (PWX.rootE 32).initId (PWX.rootE 32).tail :=
  PWX.ErrF.of (r := (PWX.rootE 32)) (p1 := ⟨86, 17, 86, 21⟩) (p2 := ⟨86, 23, 86, 28⟩) (q1 := ⟨87, 8, 87, 13⟩) (q2 := ⟨87, 8, 87, 15⟩) (q3 := ⟨87, 8, 87, 24⟩) (q4 := ⟨87, 25, 87, 30⟩) (q5 := ⟨87, 8, 87, 31⟩) (q6 := ⟨87, 8, 87, 31⟩) (q7 := ⟨88, 8, 88, 12⟩) (q8 := ⟨88, 8, 88, 18⟩) (q9 := ⟨88, 21, 88, 26⟩) (q10 := ⟨88, 8, 88, 26⟩) (B.ri 10 (C := 32)) (B.c.err_ 9 (d := d_InvalidSeen_init)) (by kernel_rfl) (by kernel_rfl) (by kernel_rfl) (.inr (.inl rfl)) ⟨_, fun env => rfl⟩ (by kernel_rfl) (by kernel_rfl)
theorem er_InvalidSizes (B : Bs K mg base) : PWX.ErrF pg K (He.ga K "InvalidSizes") (He.ma K (He.ga K "InvalidSizes") "__init__") "index" (PWX.rootE 31).B (PWX.rootE 31).newId (PWX.rootE 31).initId (PWX.rootE 31).tail :=
  PWX.ErrF.of (r := (PWX.rootE 31)) (p1 := ⟨81, 17, 81, 21⟩) (p2 := ⟨81, 23, 81, 28⟩) (q1 := ⟨82, 8, 82, 13⟩) (q2 := ⟨82, 8, 82, 15⟩) (q3 := ⟨82, 8, 82, 24⟩) (q4 := ⟨82, 25, 82, 30⟩) (q5 := ⟨82, 8, 82, 31⟩) (q6 := ⟨82, 8, 82, 31⟩) (q7 := ⟨83, 8, 83, 12⟩) (q8 := ⟨83, 8, 83, 18⟩) (q9 := ⟨83, 21, 83, 26⟩) (q10 := ⟨83, 8, 83, 26⟩) (B.ri 11 (C := 31)) (B.c.err_ 10 (d := d_InvalidSizes_init)) (by kernel_rfl) (by kernel_rfl) (by kernel_rfl) (.inr (.inl rfl)) ⟨_, fun env => rfl⟩ (by kernel_rfl) (by kernel_rfl)
theorem er_NotABox (B : Bs K mg base) : PWX.ErrF pg K (He.ga K "NotABox") (He.ma K (He.ga K "NotABox") "__init__") "given" (PWX.rootE 30).B (PWX.rootE 30).newId (PWX.rootE 30).initId (PWX.rootE 30).tail :=
  PWX.ErrF.of (r := (PWX.rootE 30)) (p1 := ⟨76, 17, 76, 21⟩) (p2 := ⟨76, 23, 76, 28⟩) (q1 := ⟨77, 8, 77, 13⟩) (q2 := ⟨77, 8, 77, 15⟩) (q3 := ⟨77, 8, 77, 24⟩) (q4 := ⟨77, 25, 77, 30⟩) (q5 := ⟨77, 8, 77, 31⟩) (q6 := ⟨77, 8, 77, 31⟩) (q7 := ⟨78, 8, 78, 12⟩) (q8 := ⟨78, 8, 78, 18⟩) (q9 := ⟨78, 21, 78, 26⟩) (q10 := ⟨78, 8, 78, 26⟩) (B.ri 12 (C := 30)) (B.c.err_ 11 (d := d_NotABox_init)) (by kernel_rfl) (by kernel_rfl) (by kernel_rfl) (.inl rfl) ⟨_, fun env => rfl⟩ (by kernel_rfl) (by kernel_rfl)
theorem er_NotAScript (B : Bs K mg base) : PWX.ErrF pg K (He.ga K "NotAScript") (He.ma K (He.ga K "NotAScript") "__init__") "given" (PWX.rootE 29).B (PWX.rootE 29).newId (PWX.rootE 29).initId (PWX.rootE 29).tail :=
  PWX.ErrF.of (r := (PWX.rootE 29)) (p1 := ⟨71, 17, 71, 21⟩) (p2 := ⟨71, 23, 71, 28⟩) (q1 := ⟨72, 8, 72, 13⟩) (q2 := ⟨72, 8, 72, 15⟩) (q3 := ⟨72, 8, 72, 24⟩) (q4 := ⟨72, 25, 72, 30⟩) (q5 := ⟨72, 8, 72, 31⟩) (q6 := ⟨72, 8, 72, 31⟩) (q7 := ⟨73, 8, 73, 12⟩) (q8 := ⟨73, 8, 73, 18⟩) (q9 := ⟨73, 21, 73, 26⟩) (q10 := ⟨73, 8, 73, 26⟩) (B.ri 13 (C := 29)) (B.c.err_ 12 (d := d_NotAScript_init)) (by kernel_rfl) (by kernel_rfl) (by kernel_rfl) (.inl rfl) ⟨_, fun env => rfl⟩ (by kernel_rfl) (by kernel_rfl)
theorem er_NotALine (B : Bs K mg base) : PWX.ErrF pg K (He.ga K "NotALine") (He.ma K (He.ga K "NotALine") "__init__") "given" (PWX.rootE 28).B (PWX.rootE 28).newId (PWX.rootE 28).initId (PWX.rootE 28).tail :=
  PWX.ErrF.of (r := (PWX.rootE 28)) (p1 := ⟨66, 17, 66, 21⟩) (p2 := ⟨66, 23, 66, 28⟩) (q1 := ⟨67, 8, 67, 13⟩) (q2 := ⟨67, 8, 67, 15⟩) (q3 := ⟨67, 8, 67, 24⟩) (q4 := ⟨67, 25, 67, 30⟩) (q5 := ⟨67, 8, 67, 31⟩) (q6 := ⟨67, 8, 67, 31⟩) (q7 := ⟨68, 8, 68, 12⟩) (q8 := ⟨68, 8, 68, 18⟩) (q9 := ⟨68, 21, 68, 26⟩) (q10 := ⟨68, 8, 68, 26⟩) (B.ri 14 (C := 28)) (B.c.err_ 13 (d := d_NotALine_init)) (by kernel_rfl) (by kernel_rfl) (by kernel_rfl) (.inl rfl) ⟨_, fun env => rfl⟩ (by kernel_rfl) (by kernel_rfl)
theorem er_InvalidLine (B : Bs K mg base) : PWX.ErrF pg K (He.ga K "InvalidLine") (He.ma K (He.ga K "InvalidLine") "__init__") "given" (PWX.rootE 27).B (PWX.rootE 27).newId (PWX.rootE 27).initId (PWX.rootE 27).tail :=
  PWX.ErrF.of (r := (PWX.rootE 27)) (p1 := ⟨61, 17, 61, 21⟩) (p2 := ⟨61, 23, 61, 28⟩) (q1 := ⟨62, 8, 62, 13⟩) (q2 := ⟨62, 8, 62, 15⟩) (q3 := ⟨62, 8, 62, 24⟩) (q4 := ⟨62, 25, 62, 30⟩) (q5 := ⟨62, 8, 62, 31⟩) (q6 := ⟨62, 8, 62, 31⟩) (q7 := ⟨63, 8, 63, 12⟩) (q8 := ⟨63, 8, 63, 18⟩) (q9 := ⟨63, 21, 63, 26⟩) (q10 := ⟨63, 8, 63, 26⟩) (B.ri 15 (C := 27)) (B.c.err_ 14 (d := d_InvalidLine_init)) (by kernel_rfl) (by kernel_rfl) (by kernel_rfl) (.inl rfl) ⟨_, fun env => rfl⟩ (by kernel_rfl) (by kernel_rfl)
theorem er_InvalidIndex (B : Bs K mg base) : PWX.ErrF pg K (He.ga K "InvalidIndex") (He.ma K (He.ga K "InvalidIndex") "__init__") "given" (PWX.rootE 26).B (PWX.rootE 26).newId (PWX.rootE 26).initId (PWX.rootE 26).tail :=
  PWX.ErrF.of (r := (PWX.rootE 26)) (p1 := ⟨56, 17, 56, 21⟩) (p2 := ⟨56, 23, 56, 28⟩) (q1 := ⟨57, 8, 57, 13⟩) (q2 := ⟨57, 8, 57, 15⟩) (q3 := ⟨57, 8, 57, 24⟩) (q4 := ⟨57, 25, 57, 30⟩) (q5 := ⟨57, 8, 57, 31⟩) (q6 := ⟨57, 8, 57, 31⟩) (q7 := ⟨58, 8, 58, 12⟩) (q8 := ⟨58, 8, 58, 18⟩) (q9 := ⟨58, 21, 58, 26⟩) (q10 := ⟨58, 8, 58, 26⟩) (B.ri 16 (C := 26)) (B.c.err_ 15 (d := d_InvalidIndex_init)) (by kernel_rfl) (by kernel_rfl) (by kernel_rfl) (.inl rfl) ⟨_, fun env => rfl⟩ (by kernel_rfl) (by kernel_rfl)
theorem er_InvalidClaim (B : Bs K mg base) : PWX.ErrF pg K (He.ga K "InvalidClaim") (He.ma K (He.ga K "InvalidClaim") "__init__") "given" (PWX.rootE 25).B (PWX.rootE 25).newId (PWX.rootE 25).initId (PWX.rootE 25).tail :=
  PWX.ErrF.of (r := (PWX.rootE 25)) (p1 := ⟨51, 17, 51, 21⟩) (p2 := ⟨51, 23, 51, 28⟩) (q1 := ⟨52, 8, 52, 13⟩) (q2 := ⟨52, 8, 52, 15⟩) (q3 := ⟨52, 8, 52, 24⟩) (q4 := ⟨52, 25, 52, 30⟩) (q5 := ⟨52, 8, 52, 31⟩) (q6 := ⟨52, 8, 52, 31⟩) (q7 := ⟨53, 8, 53, 12⟩) (q8 := ⟨53, 8, 53, 18⟩) (q9 := ⟨53, 21, 53, 26⟩) (q10 := ⟨53, 8, 53, 26⟩) (B.ri 17 (C := 25)) (B.c.err_ 16 (d := d_InvalidClaim_init)) (by kernel_rfl) (by kernel_rfl) (by kernel_rfl) (.inl rfl) ⟨_, fun env => rfl⟩ (by kernel_rfl) (by kernel_rfl)
theorem er_InvalidName (B : Bs K mg base) : PWX.ErrF pg K (He.ga K "InvalidName") (He.ma K (He.ga K "InvalidName") "__init__") "given" (PWX.rootE 24).B (PWX.rootE 24).newId (PWX.rootE 24).initId (PWX.rootE 24).tail :=
  PWX.ErrF.of (r := (PWX.rootE 24)) (p1 := ⟨46, 17, 46, 21⟩) (p2 := ⟨46, 23, 46, 28⟩) (q1 := ⟨47, 8, 47, 13⟩) (q2 := ⟨47, 8, 47, 15⟩) (q3 := ⟨47, 8, 47, 24⟩) (q4 := ⟨47, 25, 47, 30⟩) (q5 := ⟨47, 8, 47, 31⟩) (q6 := ⟨47, 8, 47, 31⟩) (q7 := ⟨48, 8, 48, 12⟩) (q8 := ⟨48, 8, 48, 18⟩) (q9 := ⟨48, 21, 48, 26⟩) (q10 := ⟨48, 8, 48, 26⟩) (B.ri 18 (C := 24)) (B.c.err_ 17 (d := d_InvalidName_init)) (by kernel_rfl) (by kernel_rfl) (by kernel_rfl) (.inl rfl) ⟨_, fun env => rfl⟩ (by kernel_rfl) (by kernel_rfl)
theorem er_InvalidNumber (B : Bs K mg base) : PWX.ErrF pg K (He.ga K "InvalidNumber") (He.ma K (He.ga K "InvalidNumber") "__init__") "given" (PWX.rootE 23).B (PWX.rootE 23).newId (PWX.rootE 23).initId (PWX.rootE 23).tail :=
  PWX.ErrF.of (r := (PWX.rootE 23)) (p1 := ⟨41, 17, 41, 21⟩) (p2 := ⟨41, 23, 41, 28⟩) (q1 := ⟨42, 8, 42, 13⟩) (q2 := ⟨42, 8, 42, 15⟩) (q3 := ⟨42, 8, 42, 24⟩) (q4 := ⟨42, 25, 42, 30⟩) (q5 := ⟨42, 8, 42, 31⟩) (q6 := ⟨42, 8, 42, 31⟩) (q7 := ⟨43, 8, 43, 12⟩) (q8 := ⟨43, 8, 43, 18⟩) (q9 := ⟨43, 21, 43, 26⟩) (q10 := ⟨43, 8, 43, 26⟩) (B.ri 19 (C := 23)) (B.c.err_ 18 (d := d_InvalidNumber_init)) (by kernel_rfl) (by kernel_rfl) (by kernel_rfl) (.inl rfl) ⟨_, fun env => rfl⟩ (by kernel_rfl) (by kernel_rfl)
theorem er_InvalidText (B : Bs K mg base) : PWX.ErrF pg K (He.ga K "InvalidText") (He.ma K (He.ga K "InvalidText") "__init__") "given" (PWX.rootE 22).B (PWX.rootE 22).newId (PWX.rootE 22).initId (PWX.rootE 22).tail :=
  PWX.ErrF.of (r := (PWX.rootE 22)) (p1 := ⟨36, 17, 36, 21⟩) (p2 := ⟨36, 23, 36, 28⟩) (q1 := ⟨37, 8, 37, 13⟩) (q2 := ⟨37, 8, 37, 15⟩) (q3 := ⟨37, 8, 37, 24⟩) (q4 := ⟨37, 25, 37, 30⟩) (q5 := ⟨37, 8, 37, 31⟩) (q6 := ⟨37, 8, 37, 31⟩) (q7 := ⟨38, 8, 38, 12⟩) (q8 := ⟨38, 8, 38, 18⟩) (q9 := ⟨38, 21, 38, 26⟩) (q10 := ⟨38, 8, 38, 26⟩) (B.ri 20 (C := 22)) (B.c.err_ 19 (d := d_InvalidText_init)) (by kernel_rfl) (by kernel_rfl) (by kernel_rfl) (.inl rfl) ⟨_, fun env => rfl⟩ (by kernel_rfl) (by kernel_rfl)
theorem er_InvalidTeeth (B : Bs K mg base) : PWX.ErrF pg K (He.ga K "InvalidTeeth") (He.ma K (He.ga K "InvalidTeeth") "__init__") "given" (PWX.rootE 21).B (PWX.rootE 21).newId (PWX.rootE 21).initId (PWX.rootE 21).tail :=
  PWX.ErrF.of (r := (PWX.rootE 21)) (p1 := ⟨31, 17, 31, 21⟩) (p2 := ⟨31, 23, 31, 28⟩) (q1 := ⟨32, 8, 32, 13⟩) (q2 := ⟨32, 8, 32, 15⟩) (q3 := ⟨32, 8, 32, 24⟩) (q4 := ⟨32, 25, 32, 30⟩) (q5 := ⟨32, 8, 32, 31⟩) (q6 := ⟨32, 8, 32, 31⟩) (q7 := ⟨33, 8, 33, 12⟩) (q8 := ⟨33, 8, 33, 18⟩) (q9 := ⟨33, 21, 33, 26⟩) (q10 := ⟨33, 8, 33, 26⟩) (B.ri 21 (C := 21)) (B.c.err_ 20 (d := d_InvalidTeeth_init)) (by kernel_rfl) (by kernel_rfl) (by kernel_rfl) (.inl rfl) ⟨_, fun env => rfl⟩ (by kernel_rfl) (by kernel_rfl)
theorem er_InvalidTooth (B : Bs K mg base) : PWX.ErrF pg K (He.ga K "InvalidTooth") (He.ma K (He.ga K "InvalidTooth") "__init__") "given" (PWX.rootE 20).B (PWX.rootE 20).newId (PWX.rootE 20).initId (PWX.rootE 20).tail :=
  PWX.ErrF.of (r := (PWX.rootE 20)) (p1 := ⟨26, 17, 26, 21⟩) (p2 := ⟨26, 23, 26, 28⟩) (q1 := ⟨27, 8, 27, 13⟩) (q2 := ⟨27, 8, 27, 15⟩) (q3 := ⟨27, 8, 27, 24⟩) (q4 := ⟨27, 25, 27, 30⟩) (q5 := ⟨27, 8, 27, 31⟩) (q6 := ⟨27, 8, 27, 31⟩) (q7 := ⟨28, 8, 28, 12⟩) (q8 := ⟨28, 8, 28, 18⟩) (q9 := ⟨28, 21, 28, 26⟩) (q10 := ⟨28, 8, 28, 26⟩) (B.ri 22 (C := 20)) (B.c.err_ 21 (d := d_InvalidTooth_init)) (by kernel_rfl) (by kernel_rfl) (by kernel_rfl) (.inl rfl) ⟨_, fun env => rfl⟩ (by kernel_rfl) (by kernel_rfl)
theorem er_InvalidArm (B : Bs K mg base) : PWX.ErrF pg K (He.ga K "InvalidArm") (He.ma K (He.ga K "InvalidArm") "__init__") "given" (PWX.rootE 19).B (PWX.rootE 19).newId (PWX.rootE 19).initId (PWX.rootE 19).tail :=
  PWX.ErrF.of (r := (PWX.rootE 19)) (p1 := ⟨21, 17, 21, 21⟩) (p2 := ⟨21, 23, 21, 28⟩) (q1 := ⟨22, 8, 22, 13⟩) (q2 := ⟨22, 8, 22, 15⟩) (q3 := ⟨22, 8, 22, 24⟩) (q4 := ⟨22, 25, 22, 30⟩) (q5 := ⟨22, 8, 22, 31⟩) (q6 := ⟨22, 8, 22, 31⟩) (q7 := ⟨23, 8, 23, 12⟩) (q8 := ⟨23, 8, 23, 18⟩) (q9 := ⟨23, 21, 23, 26⟩) (q10 := ⟨23, 8, 23, 26⟩) (B.ri 23 (C := 19)) (B.c.err_ 22 (d := d_InvalidArm_init)) (by kernel_rfl) (by kernel_rfl) (by kernel_rfl) (.inl rfl) ⟨_, fun env => rfl⟩ (by kernel_rfl) (by kernel_rfl)
theorem er_InvalidWheel (B : Bs K mg base) : PWX.ErrF pg K (He.ga K "InvalidWheel") (He.ma K (He.ga K "InvalidWheel") "__init__") "given" (PWX.rootE 18).B (PWX.rootE 18).newId (PWX.rootE 18).initId (PWX.rootE 18).tail :=
  PWX.ErrF.of (r := (PWX.rootE 18)) (p1 := ⟨16, 17, 16, 21⟩) (p2 := ⟨16, 23, 16, 28⟩) (q1 := ⟨17, 8, 17, 13⟩) (q2 := ⟨17, 8, 17, 15⟩) (q3 := ⟨17, 8, 17, 24⟩) (q4 := ⟨17, 25, 17, 30⟩) (q5 := ⟨17, 8, 17, 31⟩) (q6 := ⟨17, 8, 17, 31⟩) (q7 := ⟨18, 8, 18, 12⟩) (q8 := ⟨18, 8, 18, 18⟩) (q9 := ⟨18, 21, 18, 26⟩) (q10 := ⟨18, 8, 18, 26⟩) (B.ri 24 (C := 18)) (B.c.err_ 23 (d := d_InvalidWheel_init)) (by kernel_rfl) (by kernel_rfl) (by kernel_rfl) (.inl rfl) ⟨_, fun env => rfl⟩ (by kernel_rfl) (by kernel_rfl)
theorem er_InvalidRing (B : Bs K mg base) : PWX.ErrF pg K (He.ga K "InvalidRing") (He.ma K (He.ga K "InvalidRing") "__init__") "given" (PWX.rootE 17).B (PWX.rootE 17).newId (PWX.rootE 17).initId (PWX.rootE 17).tail :=
  PWX.ErrF.of (r := (PWX.rootE 17)) (p1 := ⟨11, 17, 11, 21⟩) (p2 := ⟨11, 23, 11, 28⟩) (q1 := ⟨12, 8, 12, 13⟩) (q2 := ⟨12, 8, 12, 15⟩) (q3 := ⟨12, 8, 12, 24⟩) (q4 := ⟨12, 25, 12, 30⟩) (q5 := ⟨12, 8, 12, 31⟩) (q6 := ⟨12, 8, 12, 31⟩) (q7 := ⟨13, 8, 13, 12⟩) (q8 := ⟨13, 8, 13, 18⟩) (q9 := ⟨13, 21, 13, 26⟩) (q10 := ⟨13, 8, 13, 26⟩) (B.ri 25 (C := 17)) (B.c.err_ 24 (d := d_InvalidRing_init)) (by kernel_rfl) (by kernel_rfl) (by kernel_rfl) (.inl rfl) ⟨_, fun env => rfl⟩ (by kernel_rfl) (by kernel_rfl)
theorem er_InvalidSide (B : Bs K mg base) : PWX.ErrF pg K (He.ga K "InvalidSide") (He.ma K (He.ga K "InvalidSide") "__init__") "given" (PWX.rootE 16).B (PWX.rootE 16).newId (PWX.rootE 16).initId (PWX.rootE 16).tail :=
  PWX.ErrF.of (r := (PWX.rootE 16)) (p1 := ⟨6, 17, 6, 21⟩) (p2 := ⟨6, 23, 6, 28⟩) (q1 := ⟨7, 8, 7, 13⟩) (q2 := ⟨7, 8, 7, 15⟩) (q3 := ⟨7, 8, 7, 24⟩) (q4 := ⟨7, 25, 7, 30⟩) (q5 := ⟨7, 8, 7, 31⟩) (q6 := ⟨7, 8, 7, 31⟩) (q7 := ⟨8, 8, 8, 12⟩) (q8 := ⟨8, 8, 8, 18⟩) (q9 := ⟨8, 21, 8, 26⟩) (q10 := ⟨8, 8, 8, 26⟩) (B.ri 26 (C := 16)) (B.c.err_ 25 (d := d_InvalidSide_init)) (by kernel_rfl) (by kernel_rfl) (by kernel_rfl) (.inl rfl) ⟨_, fun env => rfl⟩ (by kernel_rfl) (by kernel_rfl)
theorem ok_law_kinds (B : Bs K mg base) : OkD pg w mg base (G K) d_law_kinds ["_law_e"] 1 F_law_kinds := by
  obtain ⟨fd, F⟩ := B.c.def_ 0 (d := d_law_kinds)
  exact ⟨fd, F, fn_ok (N := ["_law_e", "_law_found"]) (ps := ["_law_e"]) (k := 0) (fi := fin) (g := S_law_kinds) fin_ok F sc_law_kinds fun cdv A outer s H E hr => ⟨_,
    (puss_cons (pus_set 1 sc_law_kinds.nd (pu_lst (pua_cons (pu_isx (fun C h => (B.xc h).exc) (fun C h => (B.xkit h (B.xe (C := 13) 2)).1) (B.fr 1) (B.gl 3) (pu_var 0)) (pua_cons (pu_isx (fun C h => (B.xc h).exc) (fun C h => (B.xkit h (B.xe (C := 14) 1)).1) (B.fr 1) (B.gl 2) (pu_var 0)) (pua_cons (pu_isx (fun C h => (B.xc h).exc) (fun C h => (B.xkit h (B.xe (C := 15) 0)).1) (B.fr 1) (B.gl 1) (pu_var 0)) pua_nil)))))
    (puss_one (pus_ret (pu_add (pu_var 1) (pu_lst (pua_cons (pu_isxT (fun C h => (B.xc h).exc) (fun C h => B.xkitT h (by decide)) (B.fr 1) (B.fr 4) (by decide +kernel) (pu_var 0)) (pua_cons (pu_isxT (fun C h => (B.xc h).exc) (fun C h => B.xkitT h (by decide)) (B.fr 1) (B.fr 3) (by decide +kernel) (pu_var 0)) (pua_cons (pu_isxT (fun C h => (B.xc h).exc) (fun C h => B.xkitT h (by decide)) (B.fr 1) (B.fr 2) (by decide +kernel) (pu_var 0)) pua_nil))))))))⟩⟩
theorem ok_law_own (B : Bs K mg base) : OkD pg w mg base (G K) d_law_own ["_law_e"] 1 F_law_own := by
  obtain ⟨fd, F⟩ := B.c.def_ 1 (d := d_law_own)
  exact ⟨fd, F, fn_ok (N := ["_law_e", "_law_found", "_law_at"]) (ps := ["_law_e"]) (k := 0) (fi := fin) (g := S_law_own) fin_ok F sc_law_own fun cdv A outer s H E hr => ⟨_,
    (puss_cons (pus_set 1 sc_law_own.nd (pu_lst (pua_cons (pu_isx (fun C h => (B.xc h).exc) (fun C h => (B.xkit h (B.xe (C := 16) 26)).1) (B.fr 1) (B.gl 28) (pu_var 0)) (pua_cons (pu_isx (fun C h => (B.xc h).exc) (fun C h => (B.xkit h (B.xe (C := 17) 25)).1) (B.fr 1) (B.gl 27) (pu_var 0)) (pua_cons (pu_isx (fun C h => (B.xc h).exc) (fun C h => (B.xkit h (B.xe (C := 18) 24)).1) (B.fr 1) (B.gl 26) (pu_var 0)) pua_nil)))))
    (puss_cons (pus_set 1 sc_law_own.nd (pu_add (pu_var 1) (pu_lst (pua_cons (pu_isx (fun C h => (B.xc h).exc) (fun C h => (B.xkit h (B.xe (C := 19) 23)).1) (B.fr 1) (B.gl 25) (pu_var 0)) (pua_cons (pu_isx (fun C h => (B.xc h).exc) (fun C h => (B.xkit h (B.xe (C := 20) 22)).1) (B.fr 1) (B.gl 24) (pu_var 0)) (pua_cons (pu_isx (fun C h => (B.xc h).exc) (fun C h => (B.xkit h (B.xe (C := 21) 21)).1) (B.fr 1) (B.gl 23) (pu_var 0)) pua_nil))))))
    (puss_cons (pus_set 1 sc_law_own.nd (pu_add (pu_var 1) (pu_lst (pua_cons (pu_isx (fun C h => (B.xc h).exc) (fun C h => (B.xkit h (B.xe (C := 22) 20)).1) (B.fr 1) (B.gl 22) (pu_var 0)) (pua_cons (pu_isx (fun C h => (B.xc h).exc) (fun C h => (B.xkit h (B.xe (C := 23) 19)).1) (B.fr 1) (B.gl 21) (pu_var 0)) (pua_cons (pu_isx (fun C h => (B.xc h).exc) (fun C h => (B.xkit h (B.xe (C := 24) 18)).1) (B.fr 1) (B.gl 20) (pu_var 0)) pua_nil))))))
    (puss_cons (pus_set 1 sc_law_own.nd (pu_add (pu_var 1) (pu_lst (pua_cons (pu_isx (fun C h => (B.xc h).exc) (fun C h => (B.xkit h (B.xe (C := 25) 17)).1) (B.fr 1) (B.gl 19) (pu_var 0)) (pua_cons (pu_isx (fun C h => (B.xc h).exc) (fun C h => (B.xkit h (B.xe (C := 26) 16)).1) (B.fr 1) (B.gl 18) (pu_var 0)) (pua_cons (pu_isx (fun C h => (B.xc h).exc) (fun C h => (B.xkit h (B.xe (C := 27) 15)).1) (B.fr 1) (B.gl 17) (pu_var 0)) pua_nil))))))
    (puss_cons (pus_set 1 sc_law_own.nd (pu_add (pu_var 1) (pu_lst (pua_cons (pu_isx (fun C h => (B.xc h).exc) (fun C h => (B.xkit h (B.xe (C := 28) 14)).1) (B.fr 1) (B.gl 16) (pu_var 0)) (pua_cons (pu_isx (fun C h => (B.xc h).exc) (fun C h => (B.xkit h (B.xe (C := 29) 13)).1) (B.fr 1) (B.gl 15) (pu_var 0)) (pua_cons (pu_isx (fun C h => (B.xc h).exc) (fun C h => (B.xkit h (B.xe (C := 30) 12)).1) (B.fr 1) (B.gl 14) (pu_var 0)) pua_nil))))))
    (puss_cons (pus_set 1 sc_law_own.nd (pu_add (pu_var 1) (pu_lst (pua_cons (pu_isx (fun C h => (B.xc h).exc) (fun C h => (B.xkit h (B.xe (C := 31) 11)).1) (B.fr 1) (B.gl 13) (pu_var 0)) (pua_cons (pu_isx (fun C h => (B.xc h).exc) (fun C h => (B.xkit h (B.xe (C := 32) 10)).1) (B.fr 1) (B.gl 12) (pu_var 0)) (pua_cons (pu_isx (fun C h => (B.xc h).exc) (fun C h => (B.xkit h (B.xe (C := 33) 9)).1) (B.fr 1) (B.gl 11) (pu_var 0)) pua_nil))))))
    (puss_cons (pus_set 1 sc_law_own.nd (pu_add (pu_var 1) (pu_lst (pua_cons (pu_isx (fun C h => (B.xc h).exc) (fun C h => (B.xkit h (B.xe (C := 34) 8)).1) (B.fr 1) (B.gl 10) (pu_var 0)) (pua_cons (pu_isx (fun C h => (B.xc h).exc) (fun C h => (B.xkit h (B.xe (C := 35) 7)).1) (B.fr 1) (B.gl 9) (pu_var 0)) (pua_cons (pu_isx (fun C h => (B.xc h).exc) (fun C h => (B.xkit h (B.xe (C := 36) 6)).1) (B.fr 1) (B.gl 8) (pu_var 0)) pua_nil))))))
    (puss_cons (pus_set 1 sc_law_own.nd (pu_add (pu_var 1) (pu_lst (pua_cons (pu_isx (fun C h => (B.xc h).exc) (fun C h => (B.xkit h (B.xe (C := 37) 5)).1) (B.fr 1) (B.gl 7) (pu_var 0)) (pua_cons (pu_isx (fun C h => (B.xc h).exc) (fun C h => (B.xkit h (B.xe (C := 38) 4)).1) (B.fr 1) (B.gl 6) (pu_var 0)) (pua_cons (pu_isx (fun C h => (B.xc h).exc) (fun C h => (B.xkit h (B.xe (C := 39) 3)).1) (B.fr 1) (B.gl 5) (pu_var 0)) pua_nil))))))
    (puss_one (pus_ret (pu_lc [("_law_at", 2)] rfl sc_law_own.nd (pui_range1 (B.fr 5) (pua_cons pu_int pua_nil)) (own_name (by decide)) (fun _ _ _ _ _ => (pug_name 2 sc_law_own.nd)) (fun _ _ _ _ _ => (puts_one (put_val (pu_ix (pu_var 1) (pu_var 2))))) (fun _ _ _ _ _ => (pu_var 2)))))))))))))⟩⟩
theorem ok_law_wrong_values (B : Bs K mg base) : OkD pg w mg base (G K) d_law_wrong_values [] 2 F_law_wrong_values := by
  obtain ⟨fd, F⟩ := B.c.def_ 2 (d := d_law_wrong_values)
  exact ⟨fd, F, fn_ok (N := ["_law_found"]) (ps := []) (k := 1) (fi := fin) (g := S_law_wrong_values) fin_ok F sc_law_wrong_values fun cdv A outer s H E hr => ⟨_,
    (puss_cons (pus_set 0 sc_law_wrong_values.nd (pu_lst (pua_cons (pu_err (k := 0) (er_InvalidSide B) (B.xe (C := 16) 26) (B.xc (B.xe (C := 16) 26)) (hr.rm.mono (by decide)) (B.gl 28) (B.fr 6) pu_str) (pua_cons (pu_errK (k := 0) (er_InvalidRing B) (B.xe (C := 17) 25) (B.xc (B.xe (C := 17) 25)) (hr.rm.mono (by decide)) (B.gl 27) (B.fr 6) (puk_cons pu_str puk_nil)) (pua_cons (pu_err (k := 0) (er_InvalidWheel B) (B.xe (C := 18) 24) (B.xc (B.xe (C := 18) 24)) (hr.rm.mono (by decide)) (B.gl 26) (B.fr 6) pu_str) (pua_cons (pu_errK (k := 0) (er_InvalidArm B) (B.xe (C := 19) 23) (B.xc (B.xe (C := 19) 23)) (hr.rm.mono (by decide)) (B.gl 25) (B.fr 6) (puk_cons pu_str puk_nil)) (pua_cons (pu_err (k := 0) (er_InvalidTooth B) (B.xe (C := 20) 22) (B.xc (B.xe (C := 20) 22)) (hr.rm.mono (by decide)) (B.gl 24) (B.fr 6) pu_str) pua_nil)))))))
    (puss_cons (pus_set 0 sc_law_wrong_values.nd (pu_add (pu_var 0) (pu_lst (pua_cons (pu_errK (k := 0) (er_InvalidTeeth B) (B.xe (C := 21) 21) (B.xc (B.xe (C := 21) 21)) (hr.rm.mono (by decide)) (B.gl 23) (B.fr 6) (puk_cons pu_str puk_nil)) (pua_cons (pu_err (k := 0) (er_InvalidText B) (B.xe (C := 22) 20) (B.xc (B.xe (C := 22) 20)) (hr.rm.mono (by decide)) (B.gl 22) (B.fr 6) pu_str) (pua_cons (pu_errK (k := 0) (er_InvalidNumber B) (B.xe (C := 23) 19) (B.xc (B.xe (C := 23) 19)) (hr.rm.mono (by decide)) (B.gl 21) (B.fr 6) (puk_cons pu_str puk_nil)) (pua_cons (pu_err (k := 0) (er_InvalidName B) (B.xe (C := 24) 18) (B.xc (B.xe (C := 24) 18)) (hr.rm.mono (by decide)) (B.gl 20) (B.fr 6) pu_str) pua_nil)))))))
    (puss_cons (pus_set 0 sc_law_wrong_values.nd (pu_add (pu_var 0) (pu_lst (pua_cons (pu_errK (k := 0) (er_InvalidClaim B) (B.xe (C := 25) 17) (B.xc (B.xe (C := 25) 17)) (hr.rm.mono (by decide)) (B.gl 19) (B.fr 6) (puk_cons pu_str puk_nil)) (pua_cons (pu_err (k := 0) (er_InvalidIndex B) (B.xe (C := 26) 16) (B.xc (B.xe (C := 26) 16)) (hr.rm.mono (by decide)) (B.gl 18) (B.fr 6) pu_str) (pua_cons (pu_errK (k := 0) (er_InvalidLine B) (B.xe (C := 27) 15) (B.xc (B.xe (C := 27) 15)) (hr.rm.mono (by decide)) (B.gl 17) (B.fr 6) (puk_cons pu_str puk_nil)) (pua_cons (pu_err (k := 0) (er_NotALine B) (B.xe (C := 28) 14) (B.xc (B.xe (C := 28) 14)) (hr.rm.mono (by decide)) (B.gl 16) (B.fr 6) pu_str) pua_nil)))))))
    (puss_one (pus_ret (pu_add (pu_var 0) (pu_lst (pua_cons (pu_errK (k := 0) (er_NotAScript B) (B.xe (C := 29) 13) (B.xc (B.xe (C := 29) 13)) (hr.rm.mono (by decide)) (B.gl 15) (B.fr 6) (puk_cons pu_str puk_nil)) (pua_cons (pu_err (k := 0) (er_NotABox B) (B.xe (C := 30) 12) (B.xc (B.xe (C := 30) 12)) (hr.rm.mono (by decide)) (B.gl 14) (B.fr 6) pu_str) pua_nil)))))))))⟩⟩
theorem ok_law (B : Bs K mg base) : OkD pg w mg base (G K) d_law ["_law_script"] 3 F_law := by
  obtain ⟨fd, F⟩ := B.c.def_ 3 (d := d_law)
  obtain ⟨fd_law_kinds, D_law_kinds, O_law_kinds⟩ := ok_law_kinds (w := w) B
  have b_law_kinds : Binds K fd_law_kinds ["_law_e"] [] := D_law_kinds.bindsN fun _ _ _ _ _ _ us hl => match us, hl with | [_], _ => rfl
  obtain ⟨fd_law_own, D_law_own, O_law_own⟩ := ok_law_own (w := w) B
  have b_law_own : Binds K fd_law_own ["_law_e"] [] := D_law_own.bindsN fun _ _ _ _ _ _ us hl => match us, hl with | [_], _ => rfl
  obtain ⟨fd_law_wrong_values, D_law_wrong_values, O_law_wrong_values⟩ := ok_law_wrong_values (w := w) B
  have b_law_wrong_values : Binds K fd_law_wrong_values [] [] := D_law_wrong_values.bindsN fun _ _ _ _ _ _ us hl => match us, hl with | [], _ => rfl
  exact ⟨fd, F, fn_ok (N := ["_law_script", "_law_every", "_law_e", "_law_at"]) (ps := ["_law_script"]) (k := 2) (fi := fin) (g := S_law) fin_ok F sc_law fun cdv A outer s H E hr => ⟨_,
    (puss_cons (pus_if (put_ne hr.rm (pu_lst (pua_cons (pu_gint (B.int 11)) (pua_cons (pu_gint (B.int 10)) (pua_cons (pu_gint (B.int 9)) (pua_cons (pu_gint (B.int 8)) (pua_cons (pu_gint (B.int 7)) (pua_cons (pu_gint (B.int 6)) pua_nil))))))) (pu_lst (pua_cons (pu_pow pu_int pu_int) (pua_cons (pu_pow pu_int pu_int) (pua_cons pu_int (pua_cons pu_int (pua_cons pu_int (pua_cons pu_int pua_nil)))))))) (puss_one (pus_ret pu_bl)) puss_nil)
    (puss_cons (pus_if (put_ne hr.rm (pu_lst (pua_cons (pu_gint (B.int 5)) (pua_cons (pu_gint (B.int 4)) (pua_cons (pu_gint (B.int 3)) (pua_cons (pu_gint (B.int 2)) (pua_cons (pu_gint (B.int 1)) (pua_cons (pu_gint (B.int 0)) pua_nil))))))) (pu_lst (pua_cons pu_int (pua_cons pu_int (pua_cons pu_int (pua_cons pu_int (pua_cons pu_int (pua_cons pu_int pua_nil)))))))) (puss_one (pus_ret pu_bl)) puss_nil)
    (puss_cons (pus_set 1 sc_law.nd (pu_add (pu_call0 (O_law_wrong_values.mono (by decide)) hr (B.gl 30) D_law_wrong_values.kp b_law_wrong_values .nil cst_nil) (pu_lst (pua_cons (pu_err (k := 0) (er_InvalidSizes B) (B.xe (C := 31) 11) (B.xc (B.xe (C := 31) 11)) (hr.rm.mono (by decide)) (B.gl 13) (B.fr 6) pu_non) (pua_cons (pu_errK (k := 0) (er_InvalidSeen B) (B.xe (C := 32) 10) (B.xc (B.xe (C := 32) 10)) (hr.rm.mono (by decide)) (B.gl 12) (B.fr 6) (puk_cons pu_non puk_nil)) (pua_cons (pu_err (k := 0) (er_InvalidDeeds B) (B.xe (C := 33) 9) (B.xc (B.xe (C := 33) 9)) (hr.rm.mono (by decide)) (B.gl 11) (B.fr 6) pu_non) (pua_cons (pu_err (k := 0) (er_UnknownName B) (B.xe (C := 34) 8) (B.xc (B.xe (C := 34) 8)) (hr.rm.mono (by decide)) (B.gl 10) (B.fr 6) (pu_lst pua_nil)) pua_nil)))))))
    (puss_cons (pus_set 1 sc_law.nd (pu_add (pu_var 1) (pu_lst (pua_cons (pu_err (k := 0) (er_InUse B) (B.xe (C := 35) 7) (B.xc (B.xe (C := 35) 7)) (hr.rm.mono (by decide)) (B.gl 9) (B.fr 6) pu_int) (pua_cons (pu_err0 (B.xe (C := 36) 6) (B.xc (B.xe (C := 36) 6)) (B.x0 6) (B.gl 8)) (pua_cons (pu_errK (k := 0) (er_TooMany B) (B.xe (C := 37) 5) (B.xc (B.xe (C := 37) 5)) (hr.rm.mono (by decide)) (B.gl 7) (B.fr 6) (puk_cons pu_int puk_nil)) (pua_cons (pu_err0 (B.xe (C := 38) 4) (B.xc (B.xe (C := 38) 4)) (B.x0 4) (B.gl 6)) (pua_cons (pu_errK (k := 0) (er_Broken B) (B.xe (C := 39) 3) (B.xc (B.xe (C := 39) 3)) (hr.rm.mono (by decide)) (B.gl 5) (B.fr 6) (puk_cons pu_int puk_nil)) pua_nil))))))))
    (puss_cons (pus_if (put_ne hr.rm (pu_lc [("_law_e", 2)] rfl sc_law.nd (pui_list (pu_var 1)) (own_name (by decide)) (fun _ _ _ _ _ => (pug_name 2 sc_law.nd)) (fun _ _ _ _ _ => puts_nil) (fun _ _ _ _ _ => (pu_call (O_law_own.mono (by decide)) hr (B.gl 29) D_law_own.kp b_law_own .nil cst_nil (pua_cons (pu_var 2) pua_nil)))) (pu_lc [("_law_at", 3)] rfl sc_law.nd (pui_range1 (B.fr 5) (pua_cons pu_int pua_nil)) (own_name (by decide)) (fun _ _ _ _ _ => (pug_name 3 sc_law.nd)) (fun _ _ _ _ _ => puts_nil) (fun _ _ _ _ _ => (pu_lst (pua_cons (pu_var 3) pua_nil))))) (puss_one (pus_ret pu_bl)) puss_nil)
    (puss_cons (pus_if (put_ne hr.rm (pu_lc [("_law_e", 2)] rfl sc_law.nd (pui_list (pu_slice (pu_var 1) puo_none (puo_some pu_int))) (own_name (by decide)) (fun _ _ _ _ _ => (pug_name 2 sc_law.nd)) (fun _ _ _ _ _ => puts_nil) (fun _ _ _ _ _ => (pu_call (O_law_kinds.mono (by decide)) hr (B.gl 4) D_law_kinds.kp b_law_kinds .nil cst_nil (pua_cons (pu_var 2) pua_nil)))) (pu_mul (pu_lst (pua_cons (pu_lst (pua_cons pu_bl (pua_cons pu_bl (pua_cons pu_bl (pua_cons pu_bl (pua_cons pu_bl (pua_cons pu_bl pua_nil))))))) pua_nil)) pu_int)) (puss_one (pus_ret pu_bl)) puss_nil)
    (puss_cons (pus_if (put_ne hr.rm (pu_lc [("_law_e", 2)] rfl sc_law.nd (pui_list (pu_slice (pu_var 1) (puo_some pu_int) (puo_some pu_int))) (own_name (by decide)) (fun _ _ _ _ _ => (pug_name 2 sc_law.nd)) (fun _ _ _ _ _ => puts_nil) (fun _ _ _ _ _ => (pu_call (O_law_kinds.mono (by decide)) hr (B.gl 4) D_law_kinds.kp b_law_kinds .nil cst_nil (pua_cons (pu_var 2) pua_nil)))) (pu_mul (pu_lst (pua_cons (pu_lst (pua_cons pu_bl (pua_cons pu_bl (pua_cons pu_bl (pua_cons pu_bl (pua_cons pu_bl (pua_cons pu_bl pua_nil))))))) pua_nil)) pu_int)) (puss_one (pus_ret pu_bl)) puss_nil)
    (puss_cons (pus_if (put_ne hr.rm (pu_lc [("_law_e", 2)] rfl sc_law.nd (pui_list (pu_slice (pu_var 1) (puo_some pu_int) puo_none)) (own_name (by decide)) (fun _ _ _ _ _ => (pug_name 2 sc_law.nd)) (fun _ _ _ _ _ => puts_nil) (fun _ _ _ _ _ => (pu_call (O_law_kinds.mono (by decide)) hr (B.gl 4) D_law_kinds.kp b_law_kinds .nil cst_nil (pua_cons (pu_var 2) pua_nil)))) (pu_mul (pu_lst (pua_cons (pu_lst (pua_cons pu_bl (pua_cons pu_bl (pua_cons pu_bl (pua_cons pu_bl (pua_cons pu_bl (pua_cons pu_bl pua_nil))))))) pua_nil)) pu_int)) (puss_one (pus_ret pu_bl)) puss_nil)
    (puss_cons (pus_if (put_w (puw_or (put_ne hr.rm (pu_lc [("_law_e", 2)] rfl sc_law.nd (pui_list (pu_slice (pu_var 1) puo_none (puo_some pu_int))) (own_name (by decide)) (fun _ _ _ _ _ => (pug_name 2 sc_law.nd)) (fun _ _ _ _ _ => puts_nil) (fun _ _ _ _ _ => (pu_xat 55 (fun C h => ⟨(B.xc h).exc, (B.xc h).nf _ (.head _)⟩) (pu_var 2)))) (pu_mul (pu_lst (pua_cons pu_str pua_nil)) pu_int)) (puw_or1 (put_ne hr.rm (pu_lc [("_law_e", 2)] rfl sc_law.nd (pui_list (pu_slice (pu_var 1) (puo_some pu_int) (puo_some pu_int))) (own_name (by decide)) (fun _ _ _ _ _ => (pug_name 2 sc_law.nd)) (fun _ _ _ _ _ => puts_nil) (fun _ _ _ _ _ => (pu_xat 56 (fun C h => ⟨(B.xc h).exc, (B.xc h).nf _ (.tail _ (.head _))⟩) (pu_var 2)))) (pu_mul (pu_lst (pua_cons pu_non pua_nil)) pu_int))))) (puss_one (pus_ret pu_bl)) puss_nil)
    (puss_one (pus_ret (pu_eq hr.rm (pu_repr hr (B.fr 0) (pua_cons (pu_lst (pua_cons (pu_xat 55 (fun C h => ⟨(B.xc h).exc, (B.xc h).nf _ (.head _)⟩) (pu_ix (pu_var 1) pu_int)) (pua_cons (pu_xat 56 (fun C h => ⟨(B.xc h).exc, (B.xc h).nf _ (.tail _ (.head _))⟩) (pu_ix (pu_var 1) pu_int)) (pua_cons (pu_xat 57 (fun C h => ⟨(B.xc h).exc, (B.xc h).nf _ (.tail _ (.tail _ (.head _)))⟩) (pu_ix (pu_var 1) pu_int)) (pua_cons (pu_xat 56 (fun C h => ⟨(B.xc h).exc, (B.xc h).nf _ (.tail _ (.head _))⟩) (pu_ix (pu_var 1) pu_int)) pua_nil))))) pua_nil)) (pu_repr hr (B.fr 0) (pua_cons (pu_lst (pua_cons (pu_lst pua_nil) (pua_cons pu_int (pua_cons pu_int (pua_cons pu_int pua_nil))))) pua_nil))))))))))))))⟩⟩
end
end Lawk01
set_option Elab.async false
set_option linter.all false
set_option maxRecDepth 100000
set_option maxHeartbeats 0
namespace Lawk01
open PySem PySem.Spec PyProof.Rows L2 PU
/-! ### the head -/
abbrev R : PySem.W.OpenRow := PySem.W.OpenLaw.row PySem.Challenge.rw_spirowheels_k01_constants_and_errors
abbrev hk : PySem.W.Hook := hookR (asR 1100) ex fn
def ob (s : PySem.W.SharedT) : He.AlD := obsRG (asR 1100) ex fn (HandSHeadRun.getT s)
theorem ob_eq (s : PySem.W.SharedT) : ob s = hk.obs s.abs := obsRG_eq (HandSHeadRun.getT_eq s)
def LO : List Str := [("WrongValue" : Str), ("InvalidSide" : Str), ("InvalidRing" : Str), ("InvalidWheel" : Str), ("InvalidArm" : Str), ("InvalidTooth" : Str), ("InvalidTeeth" : Str), ("InvalidText" : Str), ("InvalidNumber" : Str), ("InvalidName" : Str), ("InvalidClaim" : Str), ("InvalidIndex" : Str), ("InvalidLine" : Str), ("NotALine" : Str), ("NotAScript" : Str), ("NotABox" : Str), ("InvalidSizes" : Str), ("InvalidSeen" : Str), ("InvalidDeeds" : Str), ("WrongName" : Str), ("UnknownName" : Str), ("InUse" : Str), ("NoAnswer" : Str), ("SeveralRows" : Str), ("TooMany" : Str), ("NothingToUndo" : Str), ("Broken" : Str), ("_law_wrong_values" : Str), ("_law_kinds" : Str), ("_law_own" : Str), ("GREATEST" : Str), ("MOST_NUMBER" : Str), ("MOST_ROWS" : Str), ("MOST_TIMES" : Str), ("MOST_STEP" : Str), ("MOST_PLUS" : Str), ("MOST_FACTOR" : Str), ("MOST_IN_BOX" : Str), ("MOST_SIZE" : Str), ("MOST_SEEN" : Str), ("MOST_COVER" : Str), ("MOST_ROUNDS" : Str)]
theorem run (w : World) : HandSHeadRun.RunEq R (PySem.W.view R.prog [44]) hk ob 12000 LO w := by
  intro os
  kernel_rfl
end Lawk01
set_option Elab.async false
set_option linter.all false
set_option maxRecDepth 100000
set_option maxHeartbeats 0
/-! k01: nothing is drawn; what the text computes is worked out -/
namespace Lawk01
open PySem PySem.Spec PyProof.Rows L2 PU
theorem law_at (w : W) : F_law [w] [] = .ok (.d (.bl true)) [] := by
  kernel_rfl
theorem law_true (ns : List Int) (hl : ns.length ≤ 63) (hb : ∀ z ∈ ns, z.natAbs < 2 ^ (2 ^ 20)) : ∃ M, F_law [.d (.klst (ns.map D.int))] [] = .ok (.d (.bl true)) M := ⟨[], law_at _⟩
end Lawk01
set_option Elab.async false
set_option linter.all false
set_option maxRecDepth 100000
set_option maxHeartbeats 0
open PySem PySem.W PySem.Calls PyProof.Rows
theorem PySem.Challenge.cw_spirowheels_k01_constants_and_errors_holds : PySem.Challenge.rw_spirowheels_k01_constants_and_errors.Holds := by
  w_on; o_law
  refine HandSHeadRun.head_any (r := OpenLaw.row PySem.Challenge.rw_spirowheels_k01_constants_and_errors) (q := view (OpenLaw.row PySem.Challenge.rw_spirowheels_k01_constants_and_errors).prog [44]) (H := Lawk01.hk) (ob := Lawk01.ob) (M := 12000) (loose := Lawk01.LO)
    (d := HandSHeadRun.topDef (OpenLaw.row PySem.Challenge.rw_spirowheels_k01_constants_and_errors).prog 44) (kwd := []) Lawk01.ob_eq (by kernel_rfl) (fun s => by kernel_rfl) Lawk01.run (by kernel_rfl) (by kernel_rfl) (by kernel_rfl) (by rfl) (by first | assumption | decide +kernel) (by decide +kernel)
    ⟨rfl, rfl, rfl, rfl, rfl, by decide +kernel⟩ ?hw ?hc
  case hw => w_witness2
  case hc =>
    refine PU.walkG (l := PySem.Challenge.rw_spirowheels_k01_constants_and_errors) (n := 63) (k := 3) (x := "_law_script") rfl (by decide) (by kernel_rfl) ⟨rfl, by decide, by decide⟩ ?F
    intro w mg fa h Y G0 hmg0
    obtain ⟨K, KX, c⟩ := Y
    have hmg : mg ("law" : PySem.Str) = some (.ref fa) := by
      have e : (HandSHeadRun.topDef (OpenLaw.row PySem.Challenge.rw_spirowheels_k01_constants_and_errors).prog 44).name = ("law" : PySem.Str) := by kernel_rfl
      rw [← e]
      exact hmg0
    have B : Lawk01.Bs K mg h := ⟨KX, G0, c⟩
    obtain ⟨fd, F, _⟩ := Lawk01.ok_law (w := w) B
    have e := hmg.symm.trans (B.gl 0 (x := "law"))
    cases e
    have b := L2.FunD.bindsA (ps := ["_law_script"]) F fun _ _ _ _ _ _ us hl => match us, hl with | [_], _ => rfl
    refine ⟨Lawk01.G K, fd, Lawk01.F_law, PU.Bas.head B PU.saysT_nil, KX, fun s v => b s [v] rfl, Lawk01.law_true, fun base Kb Nb => ?_⟩
    obtain ⟨fd2, F2, O2⟩ := Lawk01.ok_law (w := w) (⟨Kb, Nb, c⟩ : Lawk01.Bs K mg base)
    have ef : fd2 = fd := PU.FunD.uniq F2 F
    subst ef
    exact O2
