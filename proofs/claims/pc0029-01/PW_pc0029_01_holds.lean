import PyProof.Rows.All
import Wide.All
import OpenK.AllK
import Wide.FinOn
import PySem.Challenge.RW_pc0029_01
/- a program logic of big steps over the model (J1 to J13), the classes (Q1), a contract for each def (P0 to P12), the plain law (M1 to M3), the join (L1) -/
open PySem PySem.W PyProof.Rows PySem.Calls
set_option Elab.async false
set_option maxRecDepth 100000
set_option maxHeartbeats 8000000
set_option linter.unusedVariables false
set_option linter.unusedSimpArgs false
noncomputable section

/- J1 -/
namespace Mine

/-- the pure values -/
inductive PV where
  | int (i : Int)
  | bool (b : Bool)
  | none
  | tup (l : List PV)
  | lst (l : List PV)
  | rng (lo hi : Int)
  | cell (i : Nat)
  | inst (C : Addr)

/-- the names that an object's own dict does not bear -/
def methNames : List Str := [Str.ofString "can_be", Str.ofString "outer", Str.ofString "divisors", Str.ofString "divided_by"]

mutual
def Rep (δ F : List Addr) (h : Heap) : PV → Value → Prop
  | .int i, v => ∃ t, v = .int i t
  | .bool b, v => v = .bool b
  | .none, v => v = .none
  | .tup l, v => ∃ a vs, v = .ref a ∧ a ∉ F ∧ h.IsTuple a vs.toArray ∧ Reps δ F h l vs
  | .lst l, v => ∃ a vs, v = .ref a ∧ a ∉ F ∧ h.PlainList a vs.toArray ∧ Reps δ F h l vs
  | .rng lo hi, v => ∃ a t u x, v = .ref a ∧ a ∉ F ∧ IsRange h a lo hi 1 t u x
  | .cell i, v => ∃ a, δ[i]? = some a ∧ v = .ref a
  | .inst C, v => ∃ a dx es n sl, v = .ref a ∧ a ∉ F ∧ dx ∉ F ∧ h.get? a = some ⟨.ref C, some dx, .plain, sl⟩ ∧ h.get? dx = some (dictOf es n) ∧ ∀ x ∈ methNames, getL x es = some none
def Reps (δ F : List Addr) (h : Heap) : List PV → List Value → Prop
  | [], vs => vs = []
  | p :: l, vs => ∃ v r, vs = v :: r ∧ Rep δ F h p v ∧ Reps δ F h l r
end

/-- what a step leaves as it was: all but the addresses of W -/
def Eff (W : List Addr) (h h' : Heap) : Prop := ∀ b o, b ∉ W → h.get? b = some o → h'.get? b = some o
theorem Eff.refl (W : List Addr) (h : Heap) : Eff W h h := fun _ _ _ e => e
theorem Eff.trans {W : List Addr} {h₁ h₂ h₃ : Heap} (x : Eff W h₁ h₂) (y : Eff W h₂ h₃) : Eff W h₁ h₃ := fun b o n e => y b o n (x b o n e)
theorem Eff.mono {W W' : List Addr} {h h' : Heap} (x : Eff W h h') (hs : ∀ a ∈ W, a ∈ W') : Eff W' h h' := fun b o n e => x b o (fun m => n (hs b m)) e
theorem Eff.of_keeps {W : List Addr} {h h' : Heap} (k : ∀ b o, h.get? b = some o → h'.get? b = some o) : Eff W h h' := fun b o _ e => k b o e
theorem Eff.push (W : List Addr) (h : Heap) (o : Obj) : Eff W h (h.push o) := .of_keeps fun _ _ e => Heap.get?_push_of_some _ e
theorem Eff.sameBut {W : List Addr} {a : Addr} {h h' : Heap} (x : Heap.SameBut a h h') (ha : a ∈ W) : Eff W h h' := fun b o n e => (x.2 b (fun q => n (q ▸ ha))).trans e
/-- a fresh address may be written -/
theorem Eff.fresh {W : List Addr} {a : Addr} {h h' : Heap} (x : Eff (a :: W) h h') (ha : h.get? a = none) : Eff W h h' := fun b o n e => x b o (fun m => by
  rcases List.mem_cons.mp m with rfl | m
  · rw [ha] at e; cases e
  · exact n m) e

mutual
theorem Rep.eff {δ F W : List Addr} {h h' : Heap} (hs : ∀ a ∈ W, a ∈ F) (e : Eff W h h') : ∀ {p : PV} {v : Value}, Rep δ F h p v → Rep δ F h' p v
  | .int i, v, x => x
  | .bool b, v, x => x
  | .none, v, x => x
  | .tup l, v, ⟨a, vs, hv, ha, ⟨o, ho, r⟩, hl⟩ => ⟨a, vs, hv, ha, ⟨o, e a o (fun m => ha (hs a m)) ho, r⟩, Reps.eff hs e hl⟩
  | .lst l, v, ⟨a, vs, hv, ha, ⟨n, ho⟩, hl⟩ => ⟨a, vs, hv, ha, ⟨n, e a _ (fun m => ha (hs a m)) ho⟩, Reps.eff hs e hl⟩
  | .rng lo hi, v, ⟨a, t, u, x, hv, ha, hr⟩ => ⟨a, t, u, x, hv, ha, e a _ (fun m => ha (hs a m)) hr⟩
  | .cell i, v, x => x
  | .inst C, v, ⟨a, dx, es, n, sl, hv, ha, hd, h1, h2, h3⟩ => ⟨a, dx, es, n, sl, hv, ha, hd, e a _ (fun m => ha (hs a m)) h1, e dx _ (fun m => hd (hs dx m)) h2, h3⟩
theorem Reps.eff {δ F W : List Addr} {h h' : Heap} (hs : ∀ a ∈ W, a ∈ F) (e : Eff W h h') : ∀ {l : List PV} {vs : List Value}, Reps δ F h l vs → Reps δ F h' l vs
  | [], _, x => x
  | _ :: _, _, ⟨v, r, hv, x, y⟩ => ⟨v, r, hv, x.eff hs e, y.eff hs e⟩
end

mutual
theorem Rep.anti {δ F F' : List Addr} {h : Heap} (hs : ∀ a ∈ F', a ∈ F) : ∀ {p : PV} {v : Value}, Rep δ F h p v → Rep δ F' h p v
  | .int i, v, x => x
  | .bool b, v, x => x
  | .none, v, x => x
  | .tup l, v, ⟨a, vs, hv, ha, ho, hl⟩ => ⟨a, vs, hv, fun m => ha (hs a m), ho, Reps.anti hs hl⟩
  | .lst l, v, ⟨a, vs, hv, ha, ho, hl⟩ => ⟨a, vs, hv, fun m => ha (hs a m), ho, Reps.anti hs hl⟩
  | .rng lo hi, v, ⟨a, t, u, x, hv, ha, hr⟩ => ⟨a, t, u, x, hv, fun m => ha (hs a m), hr⟩
  | .cell i, v, x => x
  | .inst C, v, ⟨a, dx, es, n, sl, hv, ha, hd, h1⟩ => ⟨a, dx, es, n, sl, hv, fun m => ha (hs a m), fun m => hd (hs dx m), h1⟩
theorem Reps.anti {δ F F' : List Addr} {h : Heap} (hs : ∀ a ∈ F', a ∈ F) : ∀ {l : List PV} {vs : List Value}, Reps δ F h l vs → Reps δ F' h l vs
  | [], _, x => x
  | _ :: _, _, ⟨v, r, hv, x, y⟩ => ⟨v, r, hv, x.anti hs, y.anti hs⟩
end

theorem isSome_of {α : Type} {o : Option α} {a : α} (h : o = some a) : o ≠ none := by rw [h]; exact fun e => by cases e

mutual
/-- addresses that hold nothing yet may be forbidden -/
theorem Rep.fresh {δ F N : List Addr} {h : Heap} (hn : ∀ a ∈ N, h.get? a = none) : ∀ {p : PV} {v : Value}, Rep δ F h p v → Rep δ (N ++ F) h p v
  | .int i, v, x => x
  | .bool b, v, x => x
  | .none, v, x => x
  | .tup l, v, ⟨a, vs, hv, ha, ⟨o, ho, r⟩, hl⟩ => ⟨a, vs, hv, fun m => (List.mem_append.mp m).elim (fun m => isSome_of ho (hn a m)) ha, ⟨o, ho, r⟩, Reps.fresh hn hl⟩
  | .lst l, v, ⟨a, vs, hv, ha, ⟨n, ho⟩, hl⟩ => ⟨a, vs, hv, fun m => (List.mem_append.mp m).elim (fun m => isSome_of ho (hn a m)) ha, ⟨n, ho⟩, Reps.fresh hn hl⟩
  | .rng lo hi, v, ⟨a, t, u, x, hv, ha, hr⟩ => ⟨a, t, u, x, hv, fun m => (List.mem_append.mp m).elim (fun m => isSome_of hr (hn a m)) ha, hr⟩
  | .cell i, v, x => x
  | .inst C, v, ⟨a, dx, es, n, sl, hv, ha, hd, h1, h2, h3⟩ => ⟨a, dx, es, n, sl, hv, fun m => (List.mem_append.mp m).elim (fun m => isSome_of h1 (hn a m)) ha, fun m => (List.mem_append.mp m).elim (fun m => isSome_of h2 (hn dx m)) hd, h1, h2, h3⟩
theorem Reps.fresh {δ F N : List Addr} {h : Heap} (hn : ∀ a ∈ N, h.get? a = none) : ∀ {l : List PV} {vs : List Value}, Reps δ F h l vs → Reps δ (N ++ F) h l vs
  | [], _, x => x
  | _ :: _, _, ⟨v, r, hv, x, y⟩ => ⟨v, r, hv, x.fresh hn, y.fresh hn⟩
end

mutual
/-- more cells -/
theorem Rep.more {δ F : List Addr} {h : Heap} (ε : List Addr) : ∀ {p : PV} {v : Value}, Rep δ F h p v → Rep (δ ++ ε) F h p v
  | .int i, v, x => x
  | .bool b, v, x => x
  | .none, v, x => x
  | .tup l, v, ⟨a, vs, hv, ha, ho, hl⟩ => ⟨a, vs, hv, ha, ho, Reps.more ε hl⟩
  | .lst l, v, ⟨a, vs, hv, ha, ho, hl⟩ => ⟨a, vs, hv, ha, ho, Reps.more ε hl⟩
  | .rng lo hi, v, x => x
  | .cell i, v, ⟨a, ha, hv⟩ => ⟨a, by
      rw [List.getElem?_append_left (List.getElem?_eq_some_iff.mp ha).1]; exact ha, hv⟩
  | .inst C, v, x => x
theorem Reps.more {δ F : List Addr} {h : Heap} (ε : List Addr) : ∀ {l : List PV} {vs : List Value}, Reps δ F h l vs → Reps (δ ++ ε) F h l vs
  | [], _, x => x
  | _ :: _, _, ⟨v, r, hv, x, y⟩ => ⟨v, r, hv, x.more ε, y.more ε⟩
end

theorem Reps.length {δ F : List Addr} {h : Heap} : ∀ {l : List PV} {vs : List Value}, Reps δ F h l vs → vs.length = l.length
  | [], _, x => by have x : _ = _ := x; rw [x]; rfl
  | _ :: _, _, ⟨v, r, hv, _, y⟩ => by rw [hv, List.length_cons, List.length_cons, y.length]
theorem Reps.get {δ F : List Addr} {h : Heap} : ∀ {l : List PV} {vs : List Value} {i : Nat} {p : PV}, Reps δ F h l vs → l[i]? = some p → ∃ v, vs[i]? = some v ∧ Rep δ F h p v
  | _ :: _, _, 0, p, ⟨v, r, hv, x, _⟩, e => ⟨v, by rw [hv]; rfl, by cases e; exact x⟩
  | _ :: _, _, i + 1, p, ⟨v, r, hv, _, y⟩, e => by
    obtain ⟨u, hu, ru⟩ := y.get (i := i) (by simpa using e)
    exact ⟨u, by rw [hv]; simpa using hu, ru⟩
theorem Reps.get' {δ F : List Addr} {h : Heap} : ∀ {l : List PV} {vs : List Value} {i : Nat} {v : Value}, Reps δ F h l vs → vs[i]? = some v → ∃ p, l[i]? = some p ∧ Rep δ F h p v
  | [], _, i, _, x, e => by have x : _ = _ := x; rw [x] at e; simp at e
  | p :: _, _, 0, v, ⟨u, r, hv, x, _⟩, e => ⟨p, rfl, by rw [hv] at e; cases e; exact x⟩
  | _ :: _, _, i + 1, v, ⟨u, r, hv, _, y⟩, e => by
    rw [hv] at e
    obtain ⟨q, hq, rq⟩ := y.get' (i := i) (v := v) (by simpa using e)
    exact ⟨q, by simpa using hq, rq⟩
theorem Reps.append {δ F : List Addr} {h : Heap} : ∀ {l l' : List PV} {vs vs' : List Value}, Reps δ F h l vs → Reps δ F h l' vs' → Reps δ F h (l ++ l') (vs ++ vs')
  | [], _, _, _, x, y => by have x : _ = _ := x; rw [x]; exact y
  | _ :: _, _, _, _, ⟨v, r, hv, x, z⟩, y => ⟨v, r ++ _, by rw [hv]; rfl, x, z.append y⟩
theorem Reps.nil {δ F : List Addr} {h : Heap} : Reps δ F h [] [] := rfl
theorem Reps.cons {δ F : List Addr} {h : Heap} {p : PV} {v : Value} {l : List PV} {vs : List Value} (x : Rep δ F h p v) (y : Reps δ F h l vs) : Reps δ F h (p :: l) (v :: vs) := ⟨v, vs, rfl, x, y⟩
theorem Reps.one {δ F : List Addr} {h : Heap} {p : PV} {v : Value} (x : Rep δ F h p v) : Reps δ F h [p] [v] := ⟨v, [], rfl, x, rfl⟩
end Mine

/- J2 -/
namespace Mine

structure Gl where
  prog : Program
  w : World
  K : Frag
  p : Program
  loose : List Str
  mean : ExcName → Option Value
  mg : Str → Option Value
  mb : Str → Option Value

structure Cx where
  A₀ : Around
  A : Around
  base : Heap
  g : Heap
  outer : List Env
  fenv : Env
  env : Env
  Lf : Addr
  own : Bool
  δ : List Addr
  F : List Addr

abbrev Gl.M (G : Gl) : Model := model G.prog G.w
def Cx.cs (X : Cx) : List Addr := X.env.cells.map (·.2)
def Cx.W (X : Cx) : List Addr := X.env.locals :: (if X.own then X.cs else [])

abbrev Vars := List (Str × PV)
abbrev Store := List (List PV)

def Stores (δ F : List Addr) (h : Heap) (σ : Store) : Prop :=
  σ.length = δ.length ∧ ∀ (i : Nat) (d : Addr) (l : List PV), δ[i]? = some d → σ[i]? = some l → ∃ vs : List Value, h.IsList d vs.toArray ∧ Reps δ F h l vs ∧ (0 < i → h.PlainList d vs.toArray)

structure Base (G : Gl) (X : Cx) (s : Shared) (σ : Store) : Prop where
  hh : X.A.handled = none
  fr : X.A.frames = some (X.fenv :: X.outer)
  frm : X.fenv.frame = some X.Lf
  fk : X.fenv.scope.kind = .function
  below : Below X.A₀ X.base X.outer X.g
  kin : G.K.In X.g
  top : Top G.p G.loose G.mean G.mg G.mb X.g
  F : ∃ m, Fr X.g X.Lf s.heap m
  δg : ∀ d ∈ X.δ, X.g.get? d = none
  δL : X.Lf ∉ X.δ
  δF : ∀ d ∈ X.δ, d ∈ X.F
  δn : X.δ.Nodup
  st : Stores X.δ X.F s.heap σ
  al : ∀ a ∈ X.F, s.heap.get? a ≠ none

structure Ok (G : Gl) (X : Cx) (sc : Scope) (s : Shared) (ρ : Vars) (σ : Store) : Prop extends Base G X s σ where
  hsc : X.env.scope = sc
  sck : sc.kind = .function
  gl : X.env.globals = mainGlobals
  bl : X.env.builtins = builtinsNs
  WF : ∀ a ∈ X.W, a ∈ X.F
  Wg : ∀ a ∈ X.W, X.g.get? a = none
  nd : (X.env.locals :: X.cs).Nodup
  Wδ : ∀ a ∈ X.env.locals :: X.cs, a ∉ X.δ
  Lf : X.Lf = X.env.locals ∨ X.Lf ∉ X.W
  ns : ∃ m, s.heap.Ns X.env.locals m ∧ ∀ x pv, ρ.lookup x = some pv → sc.names.lookup x = some .local → ∃ v, m x = some v ∧ Rep X.δ X.F s.heap pv v
  cells : ∀ x pv, ρ.lookup x = some pv → (sc.names.lookup x = some .cell ∨ sc.names.lookup x = some .free) → ∃ c v, X.env.cells.lookup x = some c ∧ s.heap.IsCell c (some v) ∧ Rep X.δ X.F s.heap pv v
  cellsx : ∀ x, sc.names.lookup x = some .cell → ∃ c v₀, X.env.cells.lookup x = some c ∧ s.heap.IsCell c v₀
  ca : ∀ c ∈ X.cs, ∃ v₀, s.heap.IsCell c v₀

def Same (s s' : Shared) : Prop := s'.gens = s.gens ∧ s'.drawn = s.drawn ∧ s'.os = s.os
theorem Same.refl (s : Shared) : Same s s := ⟨rfl, rfl, rfl⟩
theorem Same.trans {a b c : Shared} (x : Same a b) (y : Same b c) : Same a c := ⟨y.1.trans x.1, y.2.1.trans x.2.1, y.2.2.trans x.2.2⟩

def Room (k : Nat) (A : Around) : Prop := A.depth + k < recursionLimit ∧ A.units + 8 * k < cLine
theorem Room.le {k k' : Nat} {A : Around} (x : Room k A) (h : k' ≤ k) : Room k' A := by
  unfold Room at *; omega

/-- the store after a step that leaves all but new things as they were -/
theorem Stores.eff {δ F W : List Addr} {h h' : Heap} {σ : Store} (hs : ∀ a ∈ W, a ∈ F) (hd : ∀ a ∈ W, a ∉ δ) (e : Eff W h h') (x : Stores δ F h σ) : Stores δ F h' σ :=
  ⟨x.1, fun i d l hi hl => by
    obtain ⟨vs, ⟨o, ho, r⟩, y, z⟩ := x.2 i d l hi hl
    exact ⟨vs, ⟨o, e d o (fun m => hd d m (List.mem_of_getElem? hi)) ho, r⟩, y.eff hs e, fun q => let ⟨n, hn⟩ := z q; ⟨n, e d _ (fun m => hd d m (List.mem_of_getElem? hi)) hn⟩⟩⟩

section
variable {G : Gl} {X : Cx} {sc : Scope} {s s' : Shared} {ρ : Vars} {σ σ' : Store}

/-- a step that leaves all as it was, but for W, that nobody here looks at -/
theorem Base.eff {W : List Addr} (x : Base G X s σ) (e : Eff W s.heap s'.heap) (hF : ∀ a ∈ W, a ∈ X.F) (hd : ∀ a ∈ W, a ∉ X.δ) (hg : ∀ a ∈ W, X.g.get? a = none) (hL : X.Lf ∉ W) (hal : ∀ a ∈ W, s'.heap.get? a ≠ none) : Base G X s' σ where
  hh := x.hh
  fr := x.fr
  frm := x.frm
  fk := x.fk
  below := x.below
  kin := x.kin
  top := x.top
  F := by
    obtain ⟨m, F⟩ := x.F
    obtain ⟨o, es, ep, ho, r⟩ := F.ns
    exact ⟨m, ⟨⟨o, es, ep, e _ _ hL ho, r⟩, fun b o hb => e b o (fun m => isSome_of hb (hg b m)) (F.keep b o hb), F.above⟩⟩
  δg := x.δg
  δL := x.δL
  δF := x.δF
  δn := x.δn
  st := x.st.eff hF hd e
  al := fun a ha => by
    by_cases hw : a ∈ W
    · exact hal a hw
    · cases q : s.heap.get? a with
      | none => exact absurd q (x.al a ha)
      | some o => exact isSome_of (e a o hw q)

theorem Base.keeps (x : Base G X s σ) (k : ∀ b o, s.heap.get? b = some o → s'.heap.get? b = some o) : Base G X s' σ :=
  x.eff (W := []) (Eff.of_keeps k) (fun _ h => nomatch h) (fun _ h => nomatch h) (fun _ h => nomatch h) (fun h => nomatch h) (fun _ h => nomatch h)

theorem Ok.F' (x : Ok G X sc s ρ σ) : ∃ m, Fr X.g X.Lf s.heap m := x.F

/-- the variables behind a step that writes the cells of the store alone -/
theorem Ok.after (x : Ok G X sc s ρ σ) (b : Base G X s' σ') (e : Eff X.δ s.heap s'.heap) : Ok G X sc s' ρ σ' where
  toBase := b
  hsc := x.hsc
  sck := x.sck
  gl := x.gl
  bl := x.bl
  WF := x.WF
  Wg := x.Wg
  nd := x.nd
  Wδ := x.Wδ
  Lf := x.Lf
  ns := by
    obtain ⟨m, ⟨o, es, ep, ho, r⟩, h⟩ := x.ns
    exact ⟨m, ⟨o, es, ep, e _ _ (x.Wδ _ (.head _)) ho, r⟩, fun y pv h1 h2 => let ⟨v, h3, h4⟩ := h y pv h1 h2; ⟨v, h3, h4.eff x.δF e⟩⟩
  cells := fun y pv h1 h2 => by
    obtain ⟨c, v, hc, ⟨o, ho, hd⟩, hr⟩ := x.cells y pv h1 h2
    exact ⟨c, v, hc, ⟨o, e _ _ (x.Wδ _ (.tail _ (List.mem_map.mpr ⟨_, mem_of_lookup hc, rfl⟩))) ho, hd⟩, hr.eff x.δF e⟩
  cellsx := fun y h1 => by
    obtain ⟨c, v, hc, ⟨o, ho, hd⟩⟩ := x.cellsx y h1
    exact ⟨c, v, hc, ⟨o, e _ _ (x.Wδ _ (.tail _ (List.mem_map.mpr ⟨_, mem_of_lookup hc, rfl⟩))) ho, hd⟩⟩
  ca := fun c hc => let ⟨v, o, ho, hd⟩ := x.ca c hc; ⟨v, o, e _ _ (x.Wδ _ (.tail _ hc)) ho, hd⟩

theorem Ok.keeps (x : Ok G X sc s ρ σ) (k : ∀ b o, s.heap.get? b = some o → s'.heap.get? b = some o) : Ok G X sc s' ρ σ := x.after (x.toBase.keeps k) (.of_keeps k)
theorem Ok.toks (x : Ok G X sc s ρ σ) (t : Nat) : Ok G X sc { s with toks := t } ρ σ := x.keeps fun _ _ e => e
theorem Ok.push (x : Ok G X sc s ρ σ) (o : Obj) : Ok G X sc { s with heap := s.heap.push o } ρ σ := x.keeps fun _ _ e => Heap.get?_push_of_some _ e
/-- fewer variables -/
theorem Ok.weaken {ρ' : Vars} (x : Ok G X sc s ρ σ) (h : ∀ y pv, ρ'.lookup y = some pv → ρ.lookup y = some pv) : Ok G X sc s ρ' σ where
  toBase := x.toBase
  hsc := x.hsc
  sck := x.sck
  gl := x.gl
  bl := x.bl
  WF := x.WF
  Wg := x.Wg
  nd := x.nd
  Wδ := x.Wδ
  Lf := x.Lf
  ns := let ⟨m, h1, h2⟩ := x.ns; ⟨m, h1, fun y pv e => h2 y pv (h y pv e)⟩
  cells := fun y pv e => x.cells y pv (h y pv e)
  cellsx := x.cellsx
  ca := x.ca

/-- a new address is free -/
theorem size_free (h : Heap) : h.get? h.objs.size = none := by
  cases q : h.get? h.objs.size with
  | none => rfl
  | some o => exact absurd (Heap.lt_size q) (Nat.lt_irrefl _)
theorem Base.new (x : Base G X s σ) : s.heap.objs.size ∉ X.F := fun m => x.al _ m (size_free _)
theorem Base.new' (x : Base G X s σ) {a : Addr} (h : s.heap.get? a = none) : a ∉ X.F := fun m => x.al _ m h
/-- the globals' dict stands -/
theorem Ok.globals (x : Ok G X sc s ρ σ) : s.heap.Ns X.env.globals G.mg := by
  obtain ⟨m, F⟩ := x.F
  rw [x.gl]; exact x.top.g.keeps F.keep
theorem Ok.builtins (x : Ok G X sc s ρ σ) : s.heap.Ns X.env.builtins G.mb := by
  obtain ⟨m, F⟩ := x.F
  rw [x.bl]; exact x.top.b.keeps F.keep
theorem Ok.K (x : Ok G X sc s ρ σ) : G.K.In s.heap := by
  obtain ⟨m, F⟩ := x.F
  exact x.kin.keeps F.keep
theorem Base.K (x : Base G X s σ) : G.K.In s.heap := by
  obtain ⟨m, F⟩ := x.F
  exact x.kin.keeps F.keep
end

/-- the tree t, in a frame of the scope sc with the variables ρ and the cells' store σ, gives r and leaves σ' -/
def Run (G : Gl) (k : Nat) (sc : Scope) (ρ : Vars) (σ : Store) (t : Env → Sem Value) (r : PV) (σ' : Store) : Prop :=
  ∀ (X : Cx) (s : Shared), Ok G X sc s ρ σ → Room k X.A → ∀ (Q E : Value → Shared → Prop),
    (∀ s' v, Ok G X sc s' ρ σ' → Eff X.δ s.heap s'.heap → Same s s' → Rep X.δ X.F s'.heap r v → Q v s') → wpAny (model G.prog G.w) X.A (t X.env) Q E s
abbrev Ev (G : Gl) (k : Nat) (sc : Scope) (ρ : Vars) (σ : Store) (e : Expr) (r : PV) (σ' : Store) : Prop := Run G k sc ρ σ (eval e) r σ'

/-- several expressions, one behind the other -/
def Evs (G : Gl) (k : Nat) (sc : Scope) (ρ : Vars) (σ : Store) (pos : Pos) (es : List Expr) (rs : List PV) (σ' : Store) : Prop :=
  ∀ (X : Cx) (s : Shared), Ok G X sc s ρ σ → Room k X.A → ∀ (Q : List Value → Shared → Prop) (E : Value → Shared → Prop),
    (∀ s' vs, Ok G X sc s' ρ σ' → Eff X.δ s.heap s'.heap → Same s s' → Reps X.δ X.F s'.heap rs vs → Q vs s') → wpAny (model G.prog G.w) X.A (spliced (backTo pos (starEach es X.env))) Q E s

/-- a test -/
def Tst (G : Gl) (k : Nat) (sc : Scope) (ρ : Vars) (σ : Store) (e : Expr) (b : Bool) (σ' : Store) : Prop :=
  ∀ (X : Cx) (s : Shared), Ok G X sc s ρ σ → Room k X.A → ∀ (Q : Bool → Shared → Prop) (E : Value → Shared → Prop),
    (∀ s', Ok G X sc s' ρ σ' → Eff X.δ s.heap s'.heap → Same s s' → Q b s') → wpAny (model G.prog G.w) X.A (isTrue e X.env (eval e X.env)) Q E s

section
variable {G : Gl} {k : Nat} {sc : Scope} {ρ : Vars} {σ σ₁ σ₂ σ₃ : Store} {pos : Pos}

theorem Run.conv {t : Env → Sem Value} {r r' : PV} (h : Run G k sc ρ σ t r σ₁) (e : r = r') : Run G k sc ρ σ t r' σ₁ := e ▸ h
theorem Run.le {k' : Nat} {t : Env → Sem Value} {r : PV} (h : Run G k sc ρ σ t r σ₁) (hk : k ≤ k') : Run G k' sc ρ σ t r σ₁ := fun X s o r => h X s o (r.le hk)

theorem ev_int {i : Int} {n : Nat} : Ev G k sc ρ σ (.Constant (.int i) n pos) (.int i) σ := fun X s o _ Q E h =>
  wpAny_Constant_int (h _ _ (o.toks _) (Eff.refl _ _) (Same.refl _) ⟨_, rfl⟩)
theorem ev_bool {b : Bool} {n : Nat} : Ev G k sc ρ σ (.Constant (.bool b) n pos) (.bool b) σ := fun X s o _ Q E h =>
  wpAny_Constant_bool (h _ _ o (Eff.refl _ _) (Same.refl _) rfl)

theorem ev_name {x : Str} {r : PV} (hr : ρ.lookup x = some r) (hk : (match sc.names.lookup x with | some .local | some .cell | some .free => true | _ => false) = true)
    (hd : (x == ("__debug__" : Str)) = false) (hc : (x == ("__classdict__" : Str)) = false) : Ev G k sc ρ σ (.Name x pos) r σ := fun X s o _ Q E h => by
  have hsk : X.env.scope.kind = .function := by rw [o.hsc]; exact o.sck
  have kn : X.env.kindOf x = sc.names.lookup x := by unfold Env.kindOf; rw [o.hsc]
  refine wpAny_Name ?_ hd
  split at hk
  · rename_i e
    obtain ⟨m, hn, hm⟩ := o.ns
    obtain ⟨v, hv, hrep⟩ := hm x r hr e
    exact wpAny_loadName_local hsk (kn.trans e) hn hv (h _ _ o (Eff.refl _ _) (Same.refl _) hrep)
  · rename_i e
    obtain ⟨c, v, hc, hv, hrep⟩ := o.cells x r hr (.inl e)
    exact wpAny_loadName_cell hsk (kn.trans e) hc hv (h _ _ o (Eff.refl _ _) (Same.refl _) hrep)
  · rename_i e
    obtain ⟨c, v, hc', hv, hrep⟩ := o.cells x r hr (.inr e)
    exact wpAny_loadName_free hsk (kn.trans e) hc' hv (h _ _ o (Eff.refl _ _) (Same.refl _) hrep) hc
  · cases hk

theorem evs_nil : Evs G k sc ρ σ pos [] [] σ := fun X s o _ Q E h => spliced_nil (h _ _ o (Eff.refl _ _) (Same.refl _) Reps.nil)
theorem evs_cons {e : Expr} {es : List Expr} {r : PV} {rs : List PV} (h1 : Ev G k sc ρ σ e r σ₁) (h2 : Evs G k sc ρ σ₁ pos es rs σ₂) (he : ∀ env, starEach (e :: es) env = (false, eval e env) :: starEach es env := by exact fun _ => rfl) :
    Evs G k sc ρ σ pos (e :: es) (r :: rs) σ₂ := fun X s o hr Q E h => by
  rw [he]
  refine spliced_cons (h1 X s o hr _ _ fun s₁ v o₁ e₁ m₁ r₁ => ?_)
  exact h2 X s₁ o₁ hr _ _ fun s₂ vs o₂ e₂ m₂ r₂ => h s₂ _ o₂ (e₁.trans e₂) (m₁.trans m₂) (Reps.cons (r₁.eff o.δF e₂) r₂)

/-- two operands -/
theorem ev_binop {op : Operator} {l r : Expr} {a b c : PV} (h1 : Ev G k sc ρ σ l a σ₁) (h2 : Ev G k sc ρ σ₁ r b σ₂)
    (hop : ∀ (X : Cx) s u v, Ok G X sc s ρ σ₂ → Room k X.A → Rep X.δ X.F s.heap a u → Rep X.δ X.F s.heap b v → ∀ (Q E : Value → Shared → Prop),
      (∀ s' y, Ok G X sc s' ρ σ₂ → Eff X.δ s.heap s'.heap → Same s s' → Rep X.δ X.F s'.heap c y → Q y s') → wpAny (model G.prog G.w) X.A (binaryOp op u v) Q E s) : Ev G k sc ρ σ (.BinOp l op r pos) c σ₂ := fun X s o hr Q E h => by
  refine wpAny_BinOp (h1 X s o hr _ _ fun s₁ u o₁ e₁ m₁ r₁ => h2 X s₁ o₁ hr _ _ fun s₂ v o₂ e₂ m₂ r₂ => ?_)
  exact hop X s₂ u v o₂ hr (r₁.eff o.δF e₂) r₂ _ _ fun s₃ y o₃ e₃ m₃ r₃ => h s₃ y o₃ ((e₁.trans e₂).trans e₃) ((m₁.trans m₂).trans m₃) r₃
end
end Mine

/- J3 -/
namespace Mine

/-- a number that is not huge -/
def Small (i : Int) : Prop := i.natAbs < 2 ^ 4000
theorem Small.log2 {i : Int} (h : Small i) : i.natAbs.log2 < 9000 := by
  rcases Nat.eq_zero_or_pos i.natAbs with h0 | hp
  · rw [h0]; decide
  · have := (Nat.log2_lt (Nat.ne_of_gt hp)).mpr h
    omega
theorem Small.bits {i : Int} (h : Small i) : Builtin.Int.intBits i ≤ 4000 := by
  unfold Builtin.Int.intBits
  split
  · exact Nat.zero_le _
  · rename_i q
    have hp : i.natAbs ≠ 0 := by
      intro e
      have : i = 0 := by omega
      simp [this] at q
    have := (Nat.log2_lt hp).mpr h
    omega
theorem Small.mulOk {a b : Int} (ha : Small a) (hb : Small b) : IntMulOk a b := by
  have h1 := ha.bits
  have h2 := hb.bits
  unfold IntMulOk Builtin.Int.intTooBig
  have : ¬ (((Builtin.Int.intBits a : Nat) : Int) + ((Builtin.Int.intBits b : Nat) : Int) > ((bitsLine : Nat) : Int)) := by rw [bitsLine_eq]; omega
  intro e
  simp only [Bool.and_eq_true, decide_eq_true_eq] at e
  exact this e.2

section
variable {G : Gl} {k : Nat} {sc : Scope} {ρ : Vars} {σ σ₁ σ₂ σ₃ : Store} {pos : Pos}

theorem ev_add {l r : Expr} {a b : Int} (h1 : Ev G k sc ρ σ l (.int a) σ₁) (h2 : Ev G k sc ρ σ₁ r (.int b) σ₂) : Ev G k sc ρ σ (.BinOp l .Add r pos) (.int (a + b)) σ₂ :=
  ev_binop h1 h2 fun X s u v o hr ⟨_, e1⟩ ⟨_, e2⟩ Q E h => by
    rw [e1, e2]
    exact PyProof.Rows.add_int (h _ _ (o.toks _) (Eff.refl _ _) (Same.refl _) ⟨_, rfl⟩)
theorem ev_sub {l r : Expr} {a b : Int} (h1 : Ev G k sc ρ σ l (.int a) σ₁) (h2 : Ev G k sc ρ σ₁ r (.int b) σ₂) : Ev G k sc ρ σ (.BinOp l .Sub r pos) (.int (a - b)) σ₂ :=
  ev_binop h1 h2 fun X s u v o hr ⟨_, e1⟩ ⟨_, e2⟩ Q E h => by
    rw [e1, e2]
    exact PyProof.Rows.sub_int (h _ _ (o.toks _) (Eff.refl _ _) (Same.refl _) ⟨_, rfl⟩)
theorem ev_mul {l r : Expr} {a b : Int} (hm : IntMulOk a b) (h1 : Ev G k sc ρ σ l (.int a) σ₁) (h2 : Ev G k sc ρ σ₁ r (.int b) σ₂) : Ev G k sc ρ σ (.BinOp l .Mult r pos) (.int (a * b)) σ₂ :=
  ev_binop h1 h2 fun X s u v o hr ⟨_, e1⟩ ⟨_, e2⟩ Q E h => by
    rw [e1, e2]
    exact PyProof.Rows.mul_int (h _ _ (o.toks _) (Eff.refl _ _) (Same.refl _) ⟨_, rfl⟩) hm
theorem ev_mod {l r : Expr} {a b : Int} (hb : b ≠ 0) (h1 : Ev G k sc ρ σ l (.int a) σ₁) (h2 : Ev G k sc ρ σ₁ r (.int b) σ₂) : Ev G k sc ρ σ (.BinOp l .Mod r pos) (.int (a.fmod b)) σ₂ :=
  ev_binop h1 h2 fun X s u v o hr ⟨_, e1⟩ ⟨_, e2⟩ Q E h => by
    rw [e1, e2]
    exact PyProof.Rows.mod_int' hb (h _ _ (o.toks _) (Eff.refl _ _) (Same.refl _) ⟨_, rfl⟩)
theorem ev_floordiv {l r : Expr} {a b : Int} (hb : b ≠ 0) (hs : Small b) (h1 : Ev G k sc ρ σ l (.int a) σ₁) (h2 : Ev G k sc ρ σ₁ r (.int b) σ₂) : Ev G k sc ρ σ (.BinOp l .FloorDiv r pos) (.int (a.fdiv b)) σ₂ :=
  ev_binop h1 h2 fun X s u v o hr ⟨_, e1⟩ ⟨_, e2⟩ Q E h => by
    rw [e1, e2]
    exact PyProof.Rows.floordiv_int hb (h _ _ (o.toks _) (Eff.refl _ _) (Same.refl _) ⟨_, rfl⟩) (.inl (PyProof.noPylong_of_log2 hs.log2))
theorem ev_pow {l r : Expr} {a b : Int} (h0 : 0 ≤ b) (h9 : b ≤ 1000000) (ha : a.natAbs < 2 ^ 64) (h1 : Ev G k sc ρ σ l (.int a) σ₁) (h2 : Ev G k sc ρ σ₁ r (.int b) σ₂) : Ev G k sc ρ σ (.BinOp l .Pow r pos) (.int (a ^ b.toNat)) σ₂ :=
  ev_binop h1 h2 fun X s u v o hr ⟨_, e1⟩ ⟨_, e2⟩ Q E h => by
    rw [e1, e2]
    exact PyProof.Rows.pow_int_small h0 h9 ha (h _ _ (o.toks _) (Eff.refl _ _) (Same.refl _) ⟨_, rfl⟩)
theorem ev_neg {e : Expr} {a : Int} (h1 : Ev G k sc ρ σ e (.int a) σ₁) : Ev G k sc ρ σ (.UnaryOp .USub e pos) (.int (-a)) σ₁ := fun X s o hr Q E h => by
  rw [arm_eval_UnaryOp]
  refine wpAny_bind (h1 X s o hr _ _ fun s₁ v o₁ e₁ m₁ ⟨_, r₁⟩ => wpAny_bind (wpAny_standAt (wpAny_holding ?_)))
  rw [r₁]
  exact neg_int (h _ _ (o₁.toks _) e₁ m₁ ⟨_, rfl⟩)

/-- a comparison's answer -/
def CmpOk (op : CmpOp) (a b : PV) (c : Bool) : Prop :=
  ∀ (A : Around) (δ F : List Addr) (s : Shared) (u v : Value), A.units + 8 < cLine → Rep δ F s.heap a u → Rep δ F s.heap b v →
    ∀ (prog : Program) (w : World) (Q E : Value → Shared → Prop), Q (.bool c) s → wpAny (model prog w) A (compareOp op u v) Q E s

theorem cmp_eq {a b : Int} : CmpOk .Eq (.int a) (.int b) (a == b) := fun A δ F s u v _ ⟨_, e1⟩ ⟨_, e2⟩ prog w Q E h => by rw [e1, e2]; exact PyProof.Rows.eq_int h
theorem cmp_ne {a b : Int} : CmpOk .NotEq (.int a) (.int b) (a != b) := fun A δ F s u v _ ⟨_, e1⟩ ⟨_, e2⟩ prog w Q E h => by rw [e1, e2]; exact PyProof.Rows.ne_int h
theorem cmp_lt {a b : Int} : CmpOk .Lt (.int a) (.int b) (decide (a < b)) := fun A δ F s u v _ ⟨_, e1⟩ ⟨_, e2⟩ prog w Q E h => by rw [e1, e2]; exact PyProof.Rows.lt_int h
theorem cmp_le {a b : Int} : CmpOk .LtE (.int a) (.int b) (decide (a ≤ b)) := fun A δ F s u v _ ⟨_, e1⟩ ⟨_, e2⟩ prog w Q E h => by rw [e1, e2]; exact PySem.P.le_int h
theorem cmp_gt {a b : Int} : CmpOk .Gt (.int a) (.int b) (decide (b < a)) := fun A δ F s u v _ ⟨_, e1⟩ ⟨_, e2⟩ prog w Q E h => by rw [e1, e2]; exact PyProof.Rows.gt_int h

theorem behind_of {op : CmpOp} {e : Expr} {env : Env} (h : behindInMarks op e = false) : markedBehindIn op e (eval e env) = eval e env := markedBehindIn_of_false h

theorem ev_compare {op : CmpOp} {l r : Expr} {a b : PV} {c : Bool} (h1 : Ev G k sc ρ σ l a σ₁) (h2 : Ev G k sc ρ σ₁ r b σ₂) (hc : CmpOk op a b c) (hk : 1 ≤ k) (hm : behindInMarks op r = false) :
    Ev G k sc ρ σ (.Compare l [op] [r] pos) (.bool c) σ₂ := fun X s o hr Q E h => by
  refine wpAny_Compare1 (h1 X s o hr _ _ fun s₁ u o₁ e₁ m₁ r₁ => h2 X s₁ o₁ hr _ _ fun s₂ v o₂ e₂ m₂ r₂ => ?_) hm
  exact hc X.A X.δ X.F s₂ u v (by have := hr.2; omega) (r₁.eff o.δF e₂) r₂ _ _ _ _ (h s₂ _ o₂ (e₁.trans e₂) (m₁.trans m₂) rfl)
theorem tst_compare {op : CmpOp} {l r : Expr} {a b : PV} {c : Bool} (h1 : Ev G k sc ρ σ l a σ₁) (h2 : Ev G k sc ρ σ₁ r b σ₂) (hc : CmpOk op a b c) (hk : 1 ≤ k) (hm : behindInMarks op r = false) :
    Tst G k sc ρ σ (.Compare l [op] [r] pos) c σ₂ := fun X s o hr Q E h => by
  refine wpAny_isTrue_Compare1 (h1 X s o hr _ _ fun s₁ u o₁ e₁ m₁ r₁ => h2 X s₁ o₁ hr _ _ fun s₂ v o₂ e₂ m₂ r₂ => ?_) hm
  exact hc X.A X.δ X.F s₂ u v (by have := hr.2; omega) (r₁.eff o.δF e₂) r₂ _ _ _ _ (wpAny_truthy_bool (h s₂ o₂ (e₁.trans e₂) (m₁.trans m₂)))

theorem wpAny_release {M : Model} {A : Around} {E : Value → Shared → Prop} {s : Shared} {vs keep : List Value} {Q : Unit → Shared → Prop} (h : Q () s) : wpAny M A (release vs keep) Q E s := fun Γ p hΓ => by
  rw [Sem.wp_release]; exact h
theorem wpAny_operate {M : Model} {A : Around} {E : Value → Shared → Prop} {s : Shared} {vs : List Value} {m : Sem Value} {Q : Value → Shared → Prop} (h : wpAny M A m Q E s) : wpAny M A (operate vs m) Q E s := fun Γ p hΓ => by
  rw [Sem.wp_operate]; exact h Γ p hΓ

/-- a chain of two: what stands last writes nothing that is kept -/
theorem ev_chain {op op' : CmpOp} {l r r' : Expr} {a b d : PV} {c c' : Bool} (h1 : Ev G k sc ρ σ l a σ) (h2 : Ev G k sc ρ σ r b σ) (hc : CmpOk op a b c) (h3 : Ev G k sc ρ σ r' d σ) (hc' : CmpOk op' b d c') (hk : 1 ≤ k)
    (hm : behindInMarks op' r' = false) : Ev G k sc ρ σ (.Compare l [op, op'] [r, r'] pos) (.bool (c && c')) σ := fun X s o hr Q E h => by
  rw [arm_eval_Compare]
  refine wpAny_bind (h1 X s o hr _ _ fun s₁ u o₁ e₁ m₁ r₁ => ?_)
  show wpAny _ _ (compareChain pos u [op, op'] [eval r X.env, markedBehindIn op' r' (eval r' X.env)]) _ _ _
  rw [behind_of hm]
  unfold compareChain
  refine wpAny_bind (wpAny_holding (h2 X s₁ o₁ hr _ _ fun s₂ v o₂ e₂ m₂ r₂ => wpAny_bind (wpAny_standAt (wpAny_bind (wpAny_holding ?_)))))
  refine hc X.A X.δ X.F s₂ u v (by have := hr.2; omega) (r₁.eff o.δF e₂) r₂ _ _ _ _ (wpAny_bind (wpAny_release (wpAny_bind (wpAny_holding (wpAny_truthy_bool ?_)))))
  cases c with
  | false => exact wpAny_pure (h s₂ _ o₂ (e₁.trans e₂) (m₁.trans m₂) rfl)
  | true =>
    unfold compareChain
    refine wpAny_bind (wpAny_holding (h3 X s₂ o₂ hr _ _ fun s₃ y o₃ e₃ m₃ r₃ => wpAny_bind (wpAny_standAt (wpAny_operate ?_))))
    exact hc' X.A X.δ X.F s₃ v y (by have := hr.2; omega) (r₂.eff o.δF e₃) r₃ _ _ _ _ (h s₃ _ o₃ ((e₁.trans e₂).trans e₃) ((m₁.trans m₂).trans m₃) rfl)
theorem tst_chain {op op' : CmpOp} {l r r' : Expr} {a b d : PV} {c c' : Bool} (h1 : Ev G k sc ρ σ l a σ) (h2 : Ev G k sc ρ σ r b σ) (hc : CmpOk op a b c) (h3 : Ev G k sc ρ σ r' d σ) (hc' : CmpOk op' b d c') (hk : 1 ≤ k)
    (hm : behindInMarks op' r' = false) : Tst G k sc ρ σ (.Compare l [op, op'] [r, r'] pos) (c && c') σ := fun X s o hr Q E h => by
  rw [arm_isTrue_Compare]
  refine wpAny_bind (h1 X s o hr _ _ fun s₁ u o₁ e₁ m₁ r₁ => ?_)
  show wpAny _ _ (testChain pos u [op, op'] [eval r X.env, markedBehindIn op' r' (eval r' X.env)]) _ _ _
  rw [behind_of hm]
  unfold testChain
  refine wpAny_bind (wpAny_holding (h2 X s₁ o₁ hr _ _ fun s₂ v o₂ e₂ m₂ r₂ => wpAny_bind (wpAny_standAt (wpAny_bind (wpAny_holding ?_)))))
  refine hc X.A X.δ X.F s₂ u v (by have := hr.2; omega) (r₁.eff o.δF e₂) r₂ _ _ _ _ (wpAny_bind (wpAny_release (wpAny_bind (wpAny_holding (wpAny_truthy_bool ?_)))))
  cases c with
  | false => exact wpAny_pure (h s₂ o₂ (e₁.trans e₂) (m₁.trans m₂))
  | true =>
    unfold testChain
    refine wpAny_bind (wpAny_holding (h3 X s₂ o₂ hr _ _ fun s₃ y o₃ e₃ m₃ r₃ => wpAny_bind (wpAny_standAt (wpAny_bind (wpAny_operate ?_)))))
    exact hc' X.A X.δ X.F s₃ v y (by have := hr.2; omega) (r₂.eff o.δF e₃) r₃ _ _ _ _ (wpAny_holding (wpAny_truthy_bool (h s₃ o₃ ((e₁.trans e₂).trans e₃) ((m₁.trans m₂).trans m₃))))

/-- a test of a plain expression -/
theorem tst_plain {e : Expr} {b : Bool} (h1 : Ev G k sc ρ σ e (.bool b) σ₁) (he : ∀ env whole, isTrue e env whole = (do let v ← whole; standAt e.pos; holding [v] (truthy v))) : Tst G k sc ρ σ e b σ₁ := fun X s o hr Q E h => by
  rw [he]
  refine wpAny_bind (h1 X s o hr _ _ fun s₁ v o₁ e₁ m₁ r₁ => wpAny_bind (wpAny_standAt (wpAny_holding ?_)))
  have r₁ : v = _ := r₁
  rw [r₁]
  exact wpAny_truthy_bool (h s₁ o₁ e₁ m₁)
theorem tst_not {e : Expr} {b : Bool} (h1 : Tst G k sc ρ σ e b σ₁) : Tst G k sc ρ σ (.UnaryOp .Not e pos) (!b) σ₁ := fun X s o hr Q E h => by
  rw [arm_isTrue_UnaryOp]
  exact wpAny_bind (h1 X s o hr _ _ fun s₁ o₁ e₁ m₁ => wpAny_pure (h s₁ o₁ e₁ m₁))

/-- tests joined -/
def TstAll (G : Gl) (k : Nat) (sc : Scope) (ρ : Vars) (σ : Store) (op : BoolOp) (es : List Expr) (b : Bool) (σ' : Store) : Prop :=
  ∀ (X : Cx) (s : Shared), Ok G X sc s ρ σ → Room k X.A → ∀ (Q : Bool → Shared → Prop) (E : Value → Shared → Prop),
    (∀ s', Ok G X sc s' ρ σ' → Eff X.δ s.heap s'.heap → Same s s' → Q b s') → wpAny (model G.prog G.w) X.A (allTrue op es X.env) Q E s
theorem tst_boolop {op : BoolOp} {es : List Expr} {b : Bool} (h1 : TstAll G k sc ρ σ op es b σ₁) : Tst G k sc ρ σ (.BoolOp op es pos) b σ₁ := fun X s o hr Q E h => by
  rw [arm_isTrue_BoolOp]; exact h1 X s o hr Q E h
theorem tstAll_nil {op : BoolOp} : TstAll G k sc ρ σ op [] (op == .And) σ := fun X s o hr Q E h => by
  rw [arm_allTrue_nil]; exact wpAny_pure (h s o (Eff.refl _ _) (Same.refl _))
theorem tstAll_or_true {e : Expr} {es : List Expr} (h1 : Tst G k sc ρ σ e true σ₁) : TstAll G k sc ρ σ .Or (e :: es) true σ₁ := fun X s o hr Q E h => by
  rw [arm_allTrue_cons]
  exact wpAny_bind (h1 X s o hr _ _ fun s₁ o₁ e₁ m₁ => wpAny_pure (h s₁ o₁ e₁ m₁))
theorem tstAll_or_false {e : Expr} {es : List Expr} {b : Bool} (h1 : Tst G k sc ρ σ e false σ₁) (h2 : TstAll G k sc ρ σ₁ .Or es b σ₂) : TstAll G k sc ρ σ .Or (e :: es) b σ₂ := fun X s o hr Q E h => by
  rw [arm_allTrue_cons]
  exact wpAny_bind (h1 X s o hr _ _ fun s₁ o₁ e₁ m₁ => h2 X s₁ o₁ hr _ _ fun s₂ o₂ e₂ m₂ => h s₂ o₂ (e₁.trans e₂) (m₁.trans m₂))
theorem tstAll_and_false {e : Expr} {es : List Expr} (h1 : Tst G k sc ρ σ e false σ₁) : TstAll G k sc ρ σ .And (e :: es) false σ₁ := fun X s o hr Q E h => by
  rw [arm_allTrue_cons]
  exact wpAny_bind (h1 X s o hr _ _ fun s₁ o₁ e₁ m₁ => wpAny_pure (h s₁ o₁ e₁ m₁))
theorem tstAll_and_true {e : Expr} {es : List Expr} {b : Bool} (h1 : Tst G k sc ρ σ e true σ₁) (h2 : TstAll G k sc ρ σ₁ .And es b σ₂) : TstAll G k sc ρ σ .And (e :: es) b σ₂ := fun X s o hr Q E h => by
  rw [arm_allTrue_cons]
  exact wpAny_bind (h1 X s o hr _ _ fun s₁ o₁ e₁ m₁ => h2 X s₁ o₁ hr _ _ fun s₂ o₂ e₂ m₂ => h s₂ o₂ (e₁.trans e₂) (m₁.trans m₂))
/-- the right side is walked where the left lets it -/
theorem tstAll_and {e : Expr} {es : List Expr} {b c : Bool} (h1 : Tst G k sc ρ σ e b σ) (h2 : b = true → TstAll G k sc ρ σ .And es c σ) : TstAll G k sc ρ σ .And (e :: es) (b && c) σ := by
  cases b with
  | false => exact tstAll_and_false h1
  | true => exact tstAll_and_true h1 (h2 rfl)

/-- values joined, all bools -/
def EvAll (G : Gl) (k : Nat) (sc : Scope) (ρ : Vars) (σ : Store) (pos : Pos) (op : BoolOp) (es : List Expr) (b : Bool) : Prop :=
  ∀ (X : Cx) (s : Shared), Ok G X sc s ρ σ → Room k X.A → ∀ (Q E : Value → Shared → Prop),
    (∀ s', Ok G X sc s' ρ σ → Eff X.δ s.heap s'.heap → Same s s' → Q (.bool b) s') → wpAny (model G.prog G.w) X.A (boolOp pos op (evalEach es X.env)) Q E s
theorem ev_boolop {op : BoolOp} {es : List Expr} {b : Bool} (h1 : EvAll G k sc ρ σ pos op es b) : Ev G k sc ρ σ (.BoolOp op es pos) (.bool b) σ := fun X s o hr Q E h => by
  rw [arm_eval_BoolOp]; exact h1 X s o hr Q E fun s' o' e' m' => h s' _ o' e' m' rfl
theorem evAll_one {op : BoolOp} {e : Expr} {b : Bool} (h1 : Ev G k sc ρ σ e (.bool b) σ) : EvAll G k sc ρ σ pos op [e] b := fun X s o hr Q E h =>
  h1 X s o hr Q E fun s' v o' e' m' r' => by
    have r' : v = _ := r'
    rw [r']; exact h s' o' e' m'
theorem evAll_and {e e' : Expr} {es : List Expr} {b c : Bool} (h1 : Ev G k sc ρ σ e (.bool b) σ) (h2 : b = true → EvAll G k sc ρ σ pos .And (e' :: es) c) : EvAll G k sc ρ σ pos .And (e :: e' :: es) (b && c) := fun X s o hr Q E h => by
  show wpAny _ _ (boolOp pos .And (eval e X.env :: eval e' X.env :: evalEach es X.env)) _ _ _
  unfold boolOp
  refine wpAny_bind (h1 X s o hr _ _ fun s₁ v o₁ e₁ m₁ r₁ => wpAny_bind (wpAny_standAt (wpAny_bind (wpAny_holding ?_))))
  have r₁ : v = _ := r₁
  rw [r₁]
  refine wpAny_truthy_bool ?_
  cases b with
  | false => exact wpAny_pure (h s₁ o₁ e₁ m₁)
  | true => exact h2 rfl X s₁ o₁ hr _ _ fun s₂ o₂ e₂ m₂ => h s₂ o₂ (e₁.trans e₂) (m₁.trans m₂)
theorem evAll_or {e e' : Expr} {es : List Expr} {b c : Bool} (h1 : Ev G k sc ρ σ e (.bool b) σ) (h2 : b = false → EvAll G k sc ρ σ pos .Or (e' :: es) c) : EvAll G k sc ρ σ pos .Or (e :: e' :: es) (b || c) := fun X s o hr Q E h => by
  show wpAny _ _ (boolOp pos .Or (eval e X.env :: eval e' X.env :: evalEach es X.env)) _ _ _
  unfold boolOp
  refine wpAny_bind (h1 X s o hr _ _ fun s₁ v o₁ e₁ m₁ r₁ => wpAny_bind (wpAny_standAt (wpAny_bind (wpAny_holding ?_))))
  have r₁ : v = _ := r₁
  rw [r₁]
  refine wpAny_truthy_bool ?_
  cases b with
  | true => exact wpAny_pure (h s₁ o₁ e₁ m₁)
  | false => exact h2 rfl X s₁ o₁ hr _ _ fun s₂ o₂ e₂ m₂ => h s₂ o₂ (e₁.trans e₂) (m₁.trans m₂)

theorem ev_if_true {t b e : Expr} {r : PV} (h1 : Tst G k sc ρ σ t true σ₁) (h2 : Ev G k sc ρ σ₁ b r σ₂) : Ev G k sc ρ σ (.IfExp t b e pos) r σ₂ := fun X s o hr Q E h => by
  rw [arm_eval_IfExp]
  exact wpAny_bind (h1 X s o hr _ _ fun s₁ o₁ e₁ m₁ => h2 X s₁ o₁ hr _ _ fun s₂ v o₂ e₂ m₂ => h s₂ v o₂ (e₁.trans e₂) (m₁.trans m₂))
theorem ev_if_false {t b e : Expr} {r : PV} (h1 : Tst G k sc ρ σ t false σ₁) (h2 : Ev G k sc ρ σ₁ e r σ₂) : Ev G k sc ρ σ (.IfExp t b e pos) r σ₂ := fun X s o hr Q E h => by
  rw [arm_eval_IfExp]
  exact wpAny_bind (h1 X s o hr _ _ fun s₁ o₁ e₁ m₁ => h2 X s₁ o₁ hr _ _ fun s₂ v o₂ e₂ m₂ => h s₂ v o₂ (e₁.trans e₂) (m₁.trans m₂))
/-- both ways of a test, joined -/
theorem ev_ite {t b e : Expr} {c : Bool} {r r' : PV} (h1 : Tst G k sc ρ σ t c σ₁) (h2 : c = true → Ev G k sc ρ σ₁ b r σ₂) (h3 : c = false → Ev G k sc ρ σ₁ e r' σ₂) : Ev G k sc ρ σ (.IfExp t b e pos) (if c then r else r') σ₂ := by
  cases c with
  | true => exact ev_if_true h1 (h2 rfl)
  | false => exact ev_if_false h1 (h3 rfl)

theorem ev_tuple {es : List Expr} {n : Nat} {rs : List PV} (h1 : Evs G k sc ρ σ pos es rs σ₁) (hn : rs.length ≤ 1000) : Ev G k sc ρ σ (.Tuple es n pos) (.tup rs) σ₁ := fun X s o hr Q E h => by
  refine Tuple_ (h1 X s o hr _ _ fun s₁ vs o₁ e₁ m₁ r₁ => ?_)
  have hl := r₁.length
  refine wpAny_newObj_type ?_ (by show vs.toArray.size ≤ sizeLine; rw [List.size_toArray, sizeLine_eq]; omega)
  refine h _ _ (o₁.push _) (e₁.trans (Eff.push _ _ _)) m₁ ⟨s₁.heap.objs.size, vs, rfl, o₁.new, ⟨_, Heap.get?_push_size _ rfl, rfl, 0, rfl⟩, r₁.eff (W := []) (fun _ h => nomatch h) (Eff.push _ _ _)⟩
end
end Mine

/- J4 -/
namespace Mine

theorem reps_ints {δ F : List Addr} {h : Heap} : ∀ {l : List Int} {vs : List Value}, Reps δ F h (l.map .int) vs → IntsAre vs l
  | [], vs, x => by have x : _ = _ := x; rw [x]; exact .nil
  | n :: r, vs, ⟨v, u, e, ⟨t, hv⟩, y⟩ => by rw [e, hv]; exact .cons n t (reps_ints y)
theorem ints_reps {δ F : List Addr} {h : Heap} : ∀ {vs : List Value} {l : List Int}, IntsAre vs l → Reps δ F h (l.map .int) vs
  | _, _, .nil => rfl
  | _, _, .cons n t r => ⟨_, _, rfl, ⟨t, rfl⟩, ints_reps r⟩
theorem reps_bools {δ F : List Addr} {h : Heap} : ∀ {l : List Bool} {vs : List Value}, Reps δ F h (l.map .bool) vs → vs = l.map .bool
  | [], vs, x => x
  | n :: r, vs, ⟨v, u, e, hv, y⟩ => by
    have hv : v = _ := hv
    rw [e, hv, reps_bools y]; rfl

theorem all_range_eq {α : Type} [DecidableEq α] [Inhabited α] (l r : List α) (h : l.length = r.length) : ((List.range l.length).all fun j => decide (l[j]? = r[j]?)) = decide (l = r) := by
  rw [Bool.eq_iff_iff]
  simp only [List.all_eq_true, List.mem_range, decide_eq_true_eq]
  constructor
  · intro q
    refine List.ext_getElem? fun i => ?_
    by_cases hi : i < l.length
    · exact q i hi
    · rw [List.getElem?_eq_none (by omega), List.getElem?_eq_none (by omega)]
  · rintro rfl; intros; rfl

theorem cmp_ne_nil {l : List PV} : CmpOk .NotEq (.lst l) (.lst []) (!l.isEmpty) := fun A δ F s u v hu ⟨a, vs, e1, _, ha, hl⟩ ⟨b, ws, e2, _, hb, hr⟩ prog w Q E h => by
  have hr : ws = [] := hr
  subst hr
  rw [e1, e2]
  cases l with
  | nil =>
    have hl : vs = [] := hl
    subst hl
    exact SeqAt.RcNeAt.lists (e := fun _ => true) ha.isList hb.isList rfl (by omega) (fun j h1 _ => absurd h1 (Nat.not_lt_zero _)) prog w E Q h
  | cons p r =>
    obtain ⟨x, y, rfl, _, _⟩ := hl
    exact SeqAt.RcNeAt.lists_lengths ha.isList hb.isList (by simp) (by omega) prog w E Q h
theorem cmp_ne_bools {l r : List Bool} (hlr : l.length = r.length) : CmpOk .NotEq (.lst (l.map .bool)) (.lst (r.map .bool)) (!decide (l = r)) := fun A δ F s u v hu ⟨a, vs, e1, _, ha, hl⟩ ⟨b, ws, e2, _, hb, hr⟩ prog w Q E h => by
  rw [e1, e2]
  have hl := reps_bools hl
  have hr := reps_bools hr
  subst hl hr
  refine SeqAt.RcNeAt.lists (e := fun j => decide (l[j]? = r[j]?)) ha.isList hb.isList (by simp [hlr]) (by omega) (fun j h1 h2 => ?_) prog w E Q ?_
  · simp only [List.getElem_toArray, List.getElem_map]
    have h1' : j < l.length := by simpa using h1
    have h2' : j < r.length := by simpa using h2
    have := SeqAt.EqAt.bool_bool (A := A.in1) (s := s) l[j] r[j]
    rw [List.getElem?_eq_getElem h1', List.getElem?_eq_getElem h2']
    rwa [show decide (some l[j] = some r[j]) = (l[j] == r[j]) by simp only [Option.some.injEq]; cases l[j] <;> cases r[j] <;> rfl]
  · have := all_range_eq l r hlr
    rw [show (l.map Value.bool).toArray.size = l.length by simp, this]
    exact h
theorem cmp_eq_tup {l r : List Int} (hlr : l.length = r.length) : CmpOk .Eq (.tup (l.map .int)) (.tup (r.map .int)) (decide (l = r)) := fun A δ F s u v hu ⟨a, vs, e1, _, ha, hl⟩ ⟨b, ws, e2, _, hb, hr⟩ prog w Q E h => by
  rw [e1, e2]
  have ll : vs.length = l.length := by simpa using hl.length
  have lr : ws.length = r.length := by simpa using hr.length
  refine SeqAt.RcAt.tuples (e := fun j => decide (l[j]? = r[j]?)) ha hb (by omega) (fun j h1 h2 => ?_) prog w E Q ?_
  · have h1' : j < vs.length := by simpa using h1
    have h2' : j < ws.length := by simpa using h2
    obtain ⟨p, hp, rp⟩ := hl.get' (i := j) (List.getElem?_eq_getElem h1')
    obtain ⟨q, hq, rq⟩ := hr.get' (i := j) (List.getElem?_eq_getElem h2')
    rw [List.getElem?_map] at hp hq
    obtain ⟨x, hx, rfl⟩ := Option.map_eq_some_iff.mp hp
    obtain ⟨y, hy, rfl⟩ := Option.map_eq_some_iff.mp hq
    obtain ⟨t, et⟩ := rp
    obtain ⟨t', et'⟩ := rq
    simp only [List.getElem_toArray]
    rw [et, et', hx, hy]
    have := SeqAt.EqAt.int_int (A := A.in1) (s := s) x t y t'
    rwa [show decide (some x = some y) = (x == y) by simp only [Option.some.injEq]; exact (Bool.beq_eq_decide_eq x y).symm ▸ rfl]
  · have := all_range_eq l r hlr
    rw [show min vs.toArray.size ws.toArray.size = l.length by simp [ll, lr, hlr], this, show (vs.toArray.size == ws.toArray.size) = true by simp [ll, lr, hlr], Bool.and_true]
    exact h
theorem cmp_eq_bool {a b : Bool} : CmpOk .Eq (.bool a) (.bool b) (a == b) := fun A δ F s u v _ e1 e2 prog w Q E h => by
  have e1 : u = _ := e1
  have e2 : v = _ := e2
  rw [e1, e2]
  exact SeqAt.RcAt.bool_bool a b prog w E Q h
theorem cmp_ne_bool {a b : Bool} : CmpOk .NotEq (.bool a) (.bool b) (!(a == b)) := fun A δ F s u v _ e1 e2 prog w Q E h => by
  have e1 : u = _ := e1
  have e2 : v = _ := e2
  rw [e1, e2]
  exact SeqAt.RcNeAt.bool_bool a b prog w E Q h
theorem cmp_in_ints {x : Int} {l : List Int} : CmpOk .In (.int x) (.lst (l.map .int)) (l.any (· == x)) := fun A δ F s u v _ ⟨t, e1⟩ ⟨a, vs, e2, _, ha, hl⟩ prog w Q E h => by
  rw [e1, e2]
  exact PyProof.Rows.in_list_ints ha.isList (reps_ints hl) h
theorem cmp_in_bools {x : Bool} {l : List Bool} : CmpOk .In (.bool x) (.lst (l.map .bool)) (l.any (· == x)) := fun A δ F s u v _ e1 ⟨a, vs, e2, _, ha, hl⟩ prog w Q E h => by
  have e1 : u = _ := e1
  rw [e1, e2]
  have hl := reps_bools hl
  subst hl
  refine SeqAt.in_listAt (fun y => match y with | .bool b => b == x | _ => false) ha.isList (fun y hy => ?_) ?_
  · obtain ⟨b, _, rfl⟩ := List.mem_map.mp (List.mem_toArray.mp hy)
    exact SeqAt.EqAt.bool_bool b x
  · rw [show ((l.map Value.bool).toArray.any fun y => match y with | .bool b => b == x | _ => false) = l.any (· == x) by simp [List.any_map, Function.comp_def]]
    exact h

section
variable {G : Gl} {k : Nat} {sc : Scope} {ρ : Vars} {σ σ₁ σ₂ σ₃ : Store} {pos : Pos}

theorem ev_list {es : List Expr} {rs : List PV} (h1 : Evs G k sc ρ σ pos es rs σ₁) (hn : rs.length ≤ 1000) : Ev G k sc ρ σ (.List es pos) (.lst rs) σ₁ := fun X s o hr Q E h => by
  refine List_ (h1 X s o hr _ _ fun s₁ vs o₁ e₁ m₁ r₁ => ?_)
  have hl := r₁.length
  refine wpAny_newObj_type ?_ (by show vs.toArray.size ≤ sizeLine; rw [List.size_toArray, sizeLine_eq]; omega)
  exact h _ _ (o₁.push _) (e₁.trans (Eff.push _ _ _)) m₁ ⟨s₁.heap.objs.size, vs, rfl, o₁.new, ⟨0, Heap.get?_push_size _ rfl⟩, r₁.eff (W := []) (fun _ h => nomatch h) (Eff.push _ _ _)⟩

/-- two lists, one behind the other -/
theorem ev_cat {l r : Expr} {a b : List PV} (hsz : a.length + b.length ≤ 1000) (h1 : Ev G k sc ρ σ l (.lst a) σ₁) (h2 : Ev G k sc ρ σ₁ r (.lst b) σ₂) : Ev G k sc ρ σ (.BinOp l .Add r pos) (.lst (a ++ b)) σ₂ :=
  ev_binop h1 h2 fun X s u v o hr ⟨c, vs, e1, n1, hl, r1⟩ ⟨d, ws, e2, n2, hb, r2⟩ Q E h => by
    rw [e1, e2]
    have l1 := r1.length
    have l2 := r2.length
    obtain ⟨n, ho⟩ := hl
    obtain ⟨n2, ho2⟩ := hb
    refine concat_meets ⟨_, ho, rfl⟩ ⟨_, ho2, rfl⟩ noFill_list_add seq_list_add PySem.F.slot_list_add PySem.F.entry_list_add (PySem.F.args_list_add_2 _ _) (PyProof.Rows.list_addW c d vs.toArray ws.toArray n n2 none none #[] #[] (by simp only [List.size_toArray]; rw [sizeLine_eq]; omega)) ⟨ho, ho2, ?_⟩
    rw [show vs.toArray ++ ws.toArray = (vs ++ ws).toArray by simp]
    exact h _ _ (o.push _) (Eff.push _ _ _) (Same.refl _) ⟨_, vs ++ ws, rfl, o.new, ⟨0, Heap.get?_push_size _ rfl⟩, (r1.append r2).eff (W := []) (fun _ h => nomatch h) (Eff.push _ _ _)⟩

/-- an item at an int's place -/
def ItemOk (a : PV) (i : Int) (σ : Store) (r : PV) : Prop := match a with
  | .tup l => 0 ≤ i ∧ l[i.toNat]? = some r ∧ l.length ≤ 1000
  | .lst l => 0 ≤ i ∧ l[i.toNat]? = some r ∧ l.length ≤ 1000
  | .cell j => 0 ≤ i ∧ ∃ l, σ[j]? = some l ∧ l[i.toNat]? = some r ∧ l.length ≤ 1000
  | _ => False

theorem ev_item {value slice : Expr} {a r : PV} {i : Int} (h1 : Ev G k sc ρ σ value a σ₁) (h2 : Ev G k sc ρ σ₁ slice (.int i) σ₂) (hi : ItemOk a i σ₂ r)
    (hs : ∀ o j, subscripted slice false o j = operate [o, j] (getItem o j)) : Ev G k sc ρ σ (.Subscript value slice pos) r σ₂ := fun X s o hr Q E h => by
  rw [arm_eval_Subscript]
  refine wpAny_bind (h1 X s o hr _ _ fun s₁ u o₁ e₁ m₁ r₁ => wpAny_bind (wpAny_holding (h2 X s₁ o₁ hr _ _ fun s₂ v o₂ e₂ m₂ r₂ => wpAny_bind (wpAny_standAt ?_))))
  obtain ⟨t, hv⟩ := r₂
  subst hv
  have r₁ := r₁.eff o.δF e₂
  have fin : ∀ {x : Value}, Rep X.δ X.F s₂.heap r x → wpAny G.M X.A (letTemporaryGo value u x >>= fun _ => pure x) Q E s₂ := fun {x} hx =>
    wpAny_bind (PySem.wpAny_letTemporaryGo (wpAny_pure (h s₂ x o₂ (e₁.trans e₂) (m₁.trans m₂) hx)))
  cases a with
  | tup l =>
    obtain ⟨h0, hl, hn⟩ := hi
    obtain ⟨b, vs, rfl, nb, hb, hvs⟩ := r₁
    obtain ⟨x, hx, rx⟩ := hvs.get hl
    have hlen := hvs.length
    have hlt : i.toNat < vs.length := (List.getElem?_eq_some_iff.mp hx).1
    refine wpAny_bind ?_
    rw [getitemInPython_of_ne (Shared.TypeIs.not_modules hb.typeIs)]
    refine wpAny_bind (wpAny_specialOf hb.typeIs slot_tuple_getitem.lookup (wpAny_pure ?_))
    rw [hs]
    refine wpAny_bind (wpAny_operate (PyProof.Rows.getItem_tuple (j := i.toNat) (x := x) hb (by omega) (by omega) ?_ (by simpa using hx) (fin rx)))
    unfold seqIndex?
    simp only [List.size_toArray]
    first
      | (rw [if_neg (by omega)]; rw [if_pos (by omega)])
      | (simp; omega)
  | lst l =>
    obtain ⟨h0, hl, hn⟩ := hi
    obtain ⟨b, vs, rfl, nb, hb', hvs⟩ := r₁
    have hb := hb'.isList
    obtain ⟨x, hx, rx⟩ := hvs.get hl
    have hlen := hvs.length
    have hlt : i.toNat < vs.length := (List.getElem?_eq_some_iff.mp hx).1
    refine wpAny_bind ?_
    rw [getitemInPython_of_ne (Shared.TypeIs.not_modules hb.typeIs)]
    refine wpAny_bind (wpAny_specialOf hb.typeIs slot_list_getitem.lookup (wpAny_pure ?_))
    rw [hs]
    exact wpAny_bind (wpAny_operate (wpAny_getItem_list hb h0 (by omega) (by simpa using hx) (fin rx)))
  | cell j =>
    obtain ⟨h0, l, hj, hl, hn⟩ := hi
    obtain ⟨b, hbj, rfl⟩ := r₁
    obtain ⟨vs, hb, hvs, _⟩ := o₂.st.2 j b l hbj hj
    obtain ⟨x, hx, rx⟩ := hvs.get hl
    have hlen := hvs.length
    have hlt : i.toNat < vs.length := (List.getElem?_eq_some_iff.mp hx).1
    refine wpAny_bind ?_
    rw [getitemInPython_of_ne (Shared.TypeIs.not_modules hb.typeIs)]
    refine wpAny_bind (wpAny_specialOf hb.typeIs slot_list_getitem.lookup (wpAny_pure ?_))
    rw [hs]
    exact wpAny_bind (wpAny_operate (wpAny_getItem_list hb h0 (by omega) (by simpa using hx) (fin rx)))
  | _ => exact hi.elim
end
end Mine

/- J5 -/
namespace Mine

/-- a call of f upon values that stand for rs gives r -/
def CallsV (G : Gl) (k : Nat) (f : Value) (σ : Store) (rs : List PV) (r : PV) (σ' : Store) : Prop :=
  ∀ (X : Cx) (s : Shared) (vals : List Value), Base G X s σ → Room k X.A → Reps X.δ X.F s.heap rs vals → ∀ (Q E : Value → Shared → Prop),
    (∀ s' v, Base G X s' σ' → Eff X.δ s.heap s'.heap → Same s s' → Rep X.δ X.F s'.heap r v → Q v s') → wpAny (model G.prog G.w) X.A (call f vals) Q E s
theorem CallsV.le {G : Gl} {k k' : Nat} {f : Value} {σ σ' : Store} {rs : List PV} {r : PV} (h : CallsV G k f σ rs r σ') (hk : k ≤ k') : CallsV G k' f σ rs r σ' := fun X s vals b r => h X s vals b (r.le hk)

/-- a global name -/
def GlobalIs (G : Gl) (sc : Scope) (x : Str) (f : Value) : Prop :=
  sc.names.lookup x = some .globalImplicit ∧ (x == ("__debug__" : Str)) = false ∧ (nsIn G.K mainGlobals x = some (some f) ∨ (nsIn G.K mainGlobals x = some none ∧ bootBuiltins x = some f ∧ x ≠ "__name__"))
def KeepOk (G : Gl) (f : Value) : Prop := ∀ h : Heap, G.K.In h → ∃ k, (k = Keeper.frame ∨ k = Keeper.machine ∨ k = Keeper.boundFrame) ∧ Looks (model G.prog G.w) h (keeperOf f) k
theorem keep_builtin {G : Gl} {id : String} : KeepOk G (.builtin id) := fun h _ => ⟨.machine, .inr (.inl rfl), Looks.of_pure rfl⟩
theorem keep_type {G : Gl} {id : String} : KeepOk G (.type id) := fun h _ => ⟨.machine, .inr (.inl rfl), Looks.of_pure rfl⟩
theorem keep_ref {G : Gl} {a : Addr} (h : keepIn G.K (.ref a) = true) : KeepOk G (.ref a) := fun h' X => by
  obtain ⟨k, a, b⟩ := looks_keep (M := model G.prog G.w) h X
  exact ⟨k, a.elim .inl (fun e => .inr (.inl e)), b⟩

section
variable {G : Gl} {k : Nat} {sc : Scope} {ρ : Vars} {σ σ₁ σ₂ σ₃ : Store} {pos : Pos}

theorem Ok.global {X : Cx} {s : Shared} {x : Str} {f : Value} {p : Pos} (o : Ok G X sc s ρ σ) (hg : GlobalIs G sc x f) {Q E : Value → Shared → Prop} (h : Q f s) : wpAny (model G.prog G.w) X.A (eval (.Name x p) X.env) Q E s := by
  obtain ⟨h1, h2, h3⟩ := hg
  have hk : X.env.scope.kind = .function := by rw [o.hsc]; exact o.sck
  have kn : X.env.kindOf x = some .globalImplicit := by unfold Env.kindOf; rw [o.hsc]; exact h1
  refine Name_function_global hk kn ?_ h2
  rcases h3 with h3 | ⟨h3, h4, h5⟩
  · exact loadGlobal_global o.globals (mg_of o.kin o.top.g h3) h
  · exact loadGlobal_builtin o.globals (mg_none_of o.kin o.top.g h3) o.builtins ((o.top.builtins x h5).trans h4) h

theorem ev_call {x : Str} {np : Pos} {f : Value} {e : Expr} {es : List Expr} {rs : List PV} {r : PV} (hg : GlobalIs G sc x f) (hkeep : KeepOk G f) (ha : Evs G k sc ρ σ pos (e :: es) rs σ₁)
    (hc : CallsV G k f σ₁ rs r σ₂) (he : ∀ env, starEach (e :: es) env = (false, eval e env) :: starEach es env) (hplain : ∀ env, (backTo pos (starEach es env)).any (·.1) = false) :
    Ev G k sc ρ σ (.Call (.Name x np) (e :: es) [] pos) r σ₂ := fun X s o hr Q E h => by
  refine wpAny_Call_NameR (o.global hg ?_)
  refine callWith_of (P := G.K.In) ?_ hkeep ?_
  · rw [he]; show ((false || (backTo pos (starEach es X.env)).any (·.1)) || false) = false; rw [hplain]; rfl
  · have ha' := ha X s o hr
    rw [he] at ha' ⊢
    refine evalArgs_plain (ha' _ _ fun s₁ vs o₁ e₁ m₁ r₁ => ⟨o₁.K, ?_⟩)
    exact hc X s₁ vs o₁.toBase hr r₁ _ _ fun s₂ v b₂ e₂ m₂ r₂ => h s₂ v (o₁.after b₂ e₂) (e₁.trans e₂) (m₁.trans m₂) r₂
theorem ev_call0 {x : Str} {np : Pos} {f : Value} {r : PV} (hg : GlobalIs G sc x f) (hkeep : KeepOk G f) (hc : CallsV G k f σ [] r σ₂) : Ev G k sc ρ σ (.Call (.Name x np) [] [] pos) r σ₂ := fun X s o hr Q E h => by
  refine wpAny_Call_NameR (o.global hg ?_)
  refine callWith_of (P := G.K.In) rfl hkeep (evalArgs_nil3 ⟨o.K, ?_⟩)
  exact hc X s [] o.toBase hr Reps.nil _ _ fun s₂ v b₂ e₂ m₂ r₂ => h s₂ v (o.after b₂ e₂) e₂ m₂ r₂

theorem calls_abs {a : Int} : CallsV G k (.builtin "abs") σ [.int a] (.int (if a < 0 then -a else a)) σ := fun X s vals b hr ⟨v, r, e, ⟨t, hv⟩, hn⟩ Q E h => by
  have hn : r = [] := hn
  subst e hv hn
  exact PyProof.Rows.call_abs_int fun u tk => h _ _ (b.keeps fun _ _ e => e) (.of_keeps fun _ _ e => e) ⟨rfl, rfl, rfl⟩ ⟨u, rfl⟩
theorem calls_max2 {a c : Int} : CallsV G k (.builtin "max") σ [.int a, .int c] (.int (max a c)) σ := fun X s vals b hr ⟨v, r, e, ⟨t, hv⟩, v', r', e', ⟨t', hv'⟩, hn⟩ Q E h => by
  have hn : r' = [] := hn
  subst e hv e' hv' hn
  refine max_two_ints b.hh fun h' tk hk => h _ _ (b.keeps hk) (.of_keeps hk) ⟨rfl, rfl, rfl⟩ ?_
  split
  · exact ⟨t', by rw [Int.max_def, if_pos (by omega)]⟩
  · exact ⟨t, by rw [Int.max_def]; split <;> first | rfl | (congr 1; omega)⟩
theorem calls_min2 {a c : Int} : CallsV G k (.builtin "min") σ [.int a, .int c] (.int (min a c)) σ := fun X s vals b hr ⟨v, r, e, ⟨t, hv⟩, v', r', e', ⟨t', hv'⟩, hn⟩ Q E h => by
  have hn : r' = [] := hn
  subst e hv e' hv' hn
  refine min_two_ints b.hh fun h' tk hk => h _ _ (b.keeps hk) (.of_keeps hk) ⟨rfl, rfl, rfl⟩ ?_
  split
  · exact ⟨t', by rw [Int.min_def, if_neg (by omega)]⟩
  · exact ⟨t, by rw [Int.min_def]; split <;> first | rfl | (congr 1; omega)⟩

theorem intItems_list (xs : List (Int × Tok)) : intItems xs.toArray = (xs.map fun p => Value.int p.1 p.2).toArray := by simp [intItems]
theorem intItems_of {vs : List Value} {ns : List Int} (h : IntsAre vs ns) : ∃ xs : List (Int × Tok), vs = xs.map (fun p => Value.int p.1 p.2) ∧ xs.map (·.1) = ns := by
  induction h with
  | nil => exact ⟨[], rfl, rfl⟩
  | cons n t r ih =>
    obtain ⟨xs, e, e'⟩ := ih
    exact ⟨(n, t) :: xs, by rw [e]; rfl, by rw [List.map_cons, e']⟩
theorem numAt_of {xs : List (Int × Tok)} {i : Nat} : numAt xs.toArray i = (xs.map (·.1)).getD i 0 := by
  simp only [numAt, List.getElem?_toArray, List.getD_eq_getElem?_getD, List.getElem?_map]

def mxL : List Int → Int
  | [] => 0
  | x :: r => r.foldl max x
def mnL : List Int → Int
  | [] => 0
  | x :: r => r.foldl min x
theorem foldl_max_spec : ∀ (r : List Int) (x : Int), (r.foldl max x ∈ x :: r) ∧ ∀ y ∈ x :: r, y ≤ r.foldl max x
  | [], x => by simp
  | z :: r, x => by
    obtain ⟨h1, h2⟩ := foldl_max_spec r (max x z)
    rw [List.foldl_cons]
    refine ⟨?_, fun y hy => ?_⟩
    · rcases List.mem_cons.mp h1 with e | e
      · rw [e, Int.max_def]; split <;> simp
      · simp [e]
    · have h3 := h2 (max x z) (by simp)
      rcases List.mem_cons.mp hy with rfl | hy
      · omega
      · rcases List.mem_cons.mp hy with rfl | hy
        · omega
        · exact h2 y (by simp [hy])
theorem foldl_min_spec : ∀ (r : List Int) (x : Int), (r.foldl min x ∈ x :: r) ∧ ∀ y ∈ x :: r, r.foldl min x ≤ y
  | [], x => by simp
  | z :: r, x => by
    obtain ⟨h1, h2⟩ := foldl_min_spec r (min x z)
    rw [List.foldl_cons]
    refine ⟨?_, fun y hy => ?_⟩
    · rcases List.mem_cons.mp h1 with e | e
      · rw [e, Int.min_def]; split <;> simp
      · simp [e]
    · have h3 := h2 (min x z) (by simp)
      rcases List.mem_cons.mp hy with rfl | hy
      · omega
      · rcases List.mem_cons.mp hy with rfl | hy
        · omega
        · exact h2 y (by simp [hy])
theorem mxL_mem {l : List Int} (h : l ≠ []) : mxL l ∈ l := by cases l with | nil => exact absurd rfl h | cons x r => exact (foldl_max_spec r x).1
theorem mxL_le {l : List Int} {y : Int} (h : y ∈ l) : y ≤ mxL l := by cases l with | nil => cases h | cons x r => exact (foldl_max_spec r x).2 y h
theorem mnL_mem {l : List Int} (h : l ≠ []) : mnL l ∈ l := by cases l with | nil => exact absurd rfl h | cons x r => exact (foldl_min_spec r x).1
theorem mnL_le {l : List Int} {y : Int} (h : y ∈ l) : mnL l ≤ y := by cases l with | nil => cases h | cons x r => exact (foldl_min_spec r x).2 y h
theorem mxL_eq {l : List Int} {v : Int} (h1 : v ∈ l) (h2 : ∀ y ∈ l, y ≤ v) : v = mxL l := by
  have a := mxL_le h1
  have b := h2 _ (mxL_mem (by rintro rfl; cases h1))
  omega
theorem mnL_eq {l : List Int} {v : Int} (h1 : v ∈ l) (h2 : ∀ y ∈ l, v ≤ y) : v = mnL l := by
  have a := mnL_le h1
  have b := h2 _ (mnL_mem (by rintro rfl; cases h1))
  omega

theorem calls_maxL {l : List Int} (hl : l ≠ []) : CallsV G k (.builtin "max") σ [.lst (l.map .int)] (.int (mxL l)) σ := fun X s vals b hr ⟨v, r, e, ⟨a, vs, e', _, ha', hvs⟩, hn⟩ Q E h => by
  have hn : r = [] := hn
  subst e e' hn
  have ha := ha'.isList
  obtain ⟨xs, e1, e2⟩ := intItems_of (reps_ints hvs)
  rw [e1, ← intItems_list] at ha
  have hlen : xs.length = l.length := by rw [← e2, List.length_map]
  have hpos : 0 < l.length := List.length_pos_iff.mpr hl
  refine max_intList b.hh ha (by simpa [hlen] using hpos) fun w h' tk hw hk => ?_
  obtain ⟨t, rfl⟩ := intItems_at hw
  refine h _ _ (b.keeps hk) (.of_keeps hk) ⟨rfl, rfl, rfl⟩ ⟨t, ?_⟩
  congr 1
  obtain ⟨q1, q2⟩ := argBest_gt (numAt xs.toArray) (xs.toArray.size - 1)
  refine mxL_eq ?_ fun y hy => ?_
  · rw [numAt_of, e2, List.getD_eq_getElem?_getD]
    have : argBest (fun i j => decide (numAt xs.toArray i > numAt xs.toArray j)) (xs.toArray.size - 1) < l.length := by simp only [List.size_toArray] at q1 ⊢; omega
    rw [List.getElem?_eq_getElem this]
    exact List.getElem_mem this
  · obtain ⟨i, hi, rfl⟩ := List.getElem_of_mem hy
    have := q2 i (by simp only [List.size_toArray]; omega)
    rwa [show numAt xs.toArray i = l[i] by rw [numAt_of, e2, List.getD_eq_getElem?_getD, List.getElem?_eq_getElem hi]; rfl] at this
theorem calls_minL {l : List Int} (hl : l ≠ []) : CallsV G k (.builtin "min") σ [.lst (l.map .int)] (.int (mnL l)) σ := fun X s vals b hr ⟨v, r, e, ⟨a, vs, e', _, ha', hvs⟩, hn⟩ Q E h => by
  have hn : r = [] := hn
  subst e e' hn
  have ha := ha'.isList
  obtain ⟨xs, e1, e2⟩ := intItems_of (reps_ints hvs)
  rw [e1, ← intItems_list] at ha
  have hlen : xs.length = l.length := by rw [← e2, List.length_map]
  have hpos : 0 < l.length := List.length_pos_iff.mpr hl
  refine min_intList b.hh ha (by simpa [hlen] using hpos) fun w h' tk hw hk => ?_
  obtain ⟨t, rfl⟩ := intItems_at hw
  refine h _ _ (b.keeps hk) (.of_keeps hk) ⟨rfl, rfl, rfl⟩ ⟨t, ?_⟩
  congr 1
  obtain ⟨q1, q2⟩ := argBest_lt (numAt xs.toArray) (xs.toArray.size - 1)
  refine mnL_eq ?_ fun y hy => ?_
  · rw [numAt_of, e2, List.getD_eq_getElem?_getD]
    have : argBest (fun i j => decide (numAt xs.toArray i < numAt xs.toArray j)) (xs.toArray.size - 1) < l.length := by simp only [List.size_toArray] at q1 ⊢; omega
    rw [List.getElem?_eq_getElem this]
    exact List.getElem_mem this
  · obtain ⟨i, hi, rfl⟩ := List.getElem_of_mem hy
    have := q2 i (by simp only [List.size_toArray]; omega)
    rwa [show numAt xs.toArray i = l[i] by rw [numAt_of, e2, List.getD_eq_getElem?_getD, List.getElem?_eq_getElem hi]; rfl] at this

theorem sorted2 {a b : Int} {ns : List Int} (hp : ns.Perm [a, b]) (hs : ns.Pairwise (· ≤ ·)) : ns = [min a b, max a b] := by
  have hl := hp.length_eq
  match ns, hl with
  | [x, y], _ =>
    have hxy : x ≤ y := by simpa using hs
    have h1 : x ∈ [a, b] := hp.mem_iff.mp (by simp)
    have h2 : y ∈ [a, b] := hp.mem_iff.mp (by simp)
    have h3 : a ∈ [x, y] := hp.mem_iff.mpr (by simp)
    have h4 : b ∈ [x, y] := hp.mem_iff.mpr (by simp)
    simp only [List.mem_cons, List.not_mem_nil, or_false] at h1 h2 h3 h4
    congr 1
    · omega
    · congr 1; omega
theorem calls_sorted2 {a c : Int} : CallsV G k (.builtin "sorted") σ [.lst [.int a, .int c]] (.lst [.int (min a c), .int (max a c)]) σ := fun X s vals b hr ⟨v, r, e, ⟨l, vs, e', _, ha, hvs⟩, hn⟩ Q E h => by
  have hn : r = [] := hn
  subst e e' hn
  have hi : IntsAre vs [a, c] := reps_ints (l := [a, c]) hvs
  refine PyProof.Rows.sorted_ints ha.isList hi (by rw [hi.length]; exact (by decide : (2 : Nat) < 64)) fun out ns' h1 h2 h3 => ?_
  have := sorted2 h2 h3
  subst this
  obtain ⟨ep, he⟩ := sortedAll_at s.heap vs out
  refine h _ _ (b.keeps fun _ _ => sortedAll_old) (.of_keeps fun _ _ => sortedAll_old) ⟨rfl, rfl, rfl⟩ ⟨_, out.toList, rfl, ?_, ⟨ep, by simpa [seqObj] using he⟩, ints_reps (l := [min a c, max a c]) h1⟩
  exact b.new' (by
    cases q : s.heap.get? (s.heap.objs.size + 1) with
    | none => rfl
    | some o => exact absurd (Heap.lt_size q) (Nat.not_lt.mpr (Nat.le_succ _)))

theorem calls_len {l : List PV} (hl : l.length ≤ 1000) : CallsV G k (.builtin "len") σ [.lst l] (.int l.length) σ := fun X s vals b hr ⟨v, r, e, ⟨a, vs, e', _, ha, hvs⟩, hn⟩ Q E h => by
  have hn : r = [] := hn
  subst e e' hn
  have := hvs.length
  refine PyProof.Rows.len_list ha.isList (by simp only [List.size_toArray]; omega) (h _ _ (b.keeps fun _ _ e => e) (.of_keeps fun _ _ e => e) ⟨rfl, rfl, rfl⟩ ⟨s.toks + 1, ?_⟩)
  simp [this]
theorem calls_tuple {l : List PV} : CallsV G k (.type "tuple") σ [.tup l] (.tup l) σ := fun X s vals b hr ⟨v, r, e, ⟨a, vs, e', na, ha, hvs⟩, hn⟩ Q E h => by
  have hn : r = [] := hn
  subst e e' hn
  exact call_tuple_same ha (h _ _ b (Eff.refl _ _) (Same.refl _) ⟨a, vs, rfl, na, ha, hvs⟩)
theorem calls_range2 {a c : Int} : CallsV G k (.type "range") σ [.int a, .int c] (.rng a c) σ := fun X s vals b hr ⟨v, r, e, ⟨t, hv⟩, v', r', e', ⟨t', hv'⟩, hn⟩ Q E h => by
  have hn : r' = [] := hn
  subst e hv e' hv' hn
  exact call_range_2 (h _ _ (b.keeps fun _ _ e => Heap.get?_push_of_some _ e) (Eff.push _ _ _) ⟨rfl, rfl, rfl⟩ ⟨_, t, t', s.toks, rfl, b.new, IsRange.new ..⟩)
theorem calls_range1 {c : Int} : CallsV G k (.type "range") σ [.int c] (.rng 0 c) σ := fun X s vals b hr ⟨v, r, e, ⟨t, hv⟩, hn⟩ Q E h => by
  have hn : r = [] := hn
  subst e hv hn
  exact call_range_1 (h _ _ (b.keeps fun _ _ e => Heap.get?_push_of_some _ e) (Eff.push _ _ _) ⟨rfl, rfl, rfl⟩ ⟨_, s.toks, t, s.toks + 1, rfl, b.new, IsRange.new ..⟩)
end
end Mine

/- J6 -/
namespace Mine

section
variable {G : Gl} {X : Cx} {sc : Scope} {s s' : Shared} {ρ : Vars} {σ σ' : Store}

theorem lookup_cons_cases {x y : Str} {pv r : PV} (h : ((x, pv) :: ρ).lookup y = some r) : (y = x ∧ r = pv) ∨ (y ≠ x ∧ ρ.lookup y = some r) := by
  rw [List.lookup_cons] at h
  cases hb : y == x with
  | true => rw [hb] at h; cases h; exact .inl ⟨beq_iff_eq.mp hb, rfl⟩
  | false => rw [hb] at h; exact .inr ⟨fun e => by rw [e] at hb; simp at hb, h⟩

theorem W_sub {a : Addr} (h : a ∈ X.W) : a ∈ X.env.locals :: X.cs := by
  unfold Cx.W at h
  cases ho : X.own with
  | true => rw [ho] at h; exact h
  | false => rw [ho] at h; rw [List.mem_singleton.mp h]; exact .head _
theorem nodup_get {l : List Addr} (h : l.Nodup) {i j : Nat} {a : Addr} (hi : l[i]? = some a) (hj : l[j]? = some a) : i = j := by
  obtain ⟨h1, e1⟩ := List.getElem?_eq_some_iff.mp hi
  obtain ⟨h2, e2⟩ := List.getElem?_eq_some_iff.mp hj
  have hp := List.pairwise_iff_getElem.mp h
  rcases Nat.lt_trichotomy i j with q | q | q
  · exact absurd (e1.trans e2.symm) (hp i j h1 h2 q)
  · exact q
  · exact absurd (e2.trans e1.symm) (hp j i h2 h1 q)
/-- a write of the frame's own: the base behind it -/
theorem Ok.baseStore {h' : Heap} {tk : Nat} {a : Addr} (o : Ok G X sc s ρ σ) (ha : a ∈ X.W) (hs : Heap.SameBut a s.heap h') (hal : h'.get? a ≠ none)
    (hL : a = X.env.locals → ∃ m, h'.Ns X.env.locals m) : Base G X { s with heap := h', toks := tk } σ where
  hh := o.hh
  fr := o.fr
  frm := o.frm
  fk := o.fk
  below := o.below
  kin := o.kin
  top := o.top
  F := by
    obtain ⟨m, F⟩ := o.F
    have hg : ∀ b x, X.g.get? b = some x → h'.get? b = some x := fun b x hb => (hs.2 b (fun e => isSome_of hb (e ▸ o.Wg a ha))).trans (F.keep b x hb)
    by_cases e : X.Lf = a
    · have e' : a = X.env.locals := by
        rcases o.Lf with q | q
        · exact e ▸ q
        · exact absurd (e ▸ ha) q
      obtain ⟨m', hm'⟩ := hL e'
      refine ⟨m', ⟨?_, hg, F.above⟩⟩
      show h'.Ns X.Lf m'
      rw [e, e']; exact hm'
    · exact ⟨m, ⟨F.ns.sameBut hs e, hg, F.above⟩⟩
  δg := o.δg
  δL := o.δL
  δF := o.δF
  δn := o.δn
  st := o.st.eff (W := [a]) (fun b hb => by rw [List.mem_singleton.mp hb]; exact o.WF a ha) (fun b hb => by
    rw [List.mem_singleton.mp hb]
    exact o.Wδ a (W_sub ha)) (Eff.sameBut hs (.head _))
  al := fun b hb => by
    by_cases e : b = a
    · rw [e]; exact hal
    · show h'.get? b ≠ none
      rw [hs.2 b e]; exact o.al b hb

theorem locals_W : X.env.locals ∈ X.W := .head _

theorem ns_alive {h : Heap} {a : Addr} {m : Str → Option Value} (x : h.Ns a m) : h.get? a ≠ none := let ⟨_, _, _, ho, _⟩ := x; isSome_of ho
theorem cell_alive {h : Heap} {a : Addr} {v : Option Value} (x : h.IsCell a v) : h.get? a ≠ none := let ⟨_, ho, _⟩ := x; isSome_of ho
theorem mem_cs {x : Str} {c : Addr} (h : X.env.cells.lookup x = some c) : c ∈ X.cs := List.mem_map.mpr ⟨_, mem_of_lookup h, rfl⟩
theorem pairwise_cs (h : X.cs.Nodup) : X.env.cells.Pairwise fun x y => x.2 ≠ y.2 := by
  unfold Cx.cs List.Nodup at h
  rwa [List.pairwise_map] at h

/-- a name stored -/
theorem Ok.store {x : Str} {pv : PV} {v : Value} (o : Ok G X sc s ρ σ) (hk : sc.names.lookup x = some .local ∨ (sc.names.lookup x = some .cell ∧ X.own = true)) (hr : Rep X.δ X.F s.heap pv v) {Q : Unit → Shared → Prop} {E : Value → Shared → Prop}
    (h : ∀ s', Ok G X sc s' ((x, pv) :: ρ) σ → Eff (X.W ++ X.δ) s.heap s'.heap → Same s s' → Q () s') : wpAny (model G.prog G.w) X.A (storeName X.env x v) Q E s := by
  have hsk : X.env.scope.kind = .function := by rw [o.hsc]; exact o.sck
  have kn : X.env.kindOf x = sc.names.lookup x := by unfold Env.kindOf; rw [o.hsc]
  rcases hk with hk | ⟨hk, hown⟩
  · obtain ⟨m, hn, hm⟩ := o.ns
    refine wpAny_storeName_local (kn.trans hk) hn (fun h' hn' hs => h _ ?_ (Eff.sameBut hs (List.mem_append_left _ locals_W)) ⟨rfl, rfl, rfl⟩) (by rw [hsk]; rfl)
    have e : Eff X.W s.heap h' := Eff.sameBut hs locals_W
    have old : ∀ {q : PV} {u : Value}, Rep X.δ X.F s.heap q u → Rep X.δ X.F h' q u := fun r => r.eff o.WF e
    have celled : ∀ {c : Addr} {u : Option Value}, c ∈ X.cs → s.heap.IsCell c u → h'.IsCell c u := fun hc hu => hu.sameBut hs (fun q => (List.nodup_cons.mp o.nd).1 (q ▸ hc))
    exact { toBase := o.baseStore locals_W hs (ns_alive hn') fun _ => ⟨_, hn'⟩, hsc := o.hsc, sck := o.sck, gl := o.gl, bl := o.bl, WF := o.WF, Wg := o.Wg, nd := o.nd, Wδ := o.Wδ, Lf := o.Lf,
            ns := ⟨_, hn', fun y r hy hky => by
              rcases lookup_cons_cases hy with ⟨rfl, rfl⟩ | ⟨hne, hy⟩
              · exact ⟨v, by simp, old hr⟩
              · obtain ⟨u, hu, ru⟩ := hm y r hy hky
                exact ⟨u, by simp [hne, hu], old ru⟩⟩,
            cells := fun y r hy hky => by
              rcases lookup_cons_cases hy with ⟨rfl, rfl⟩ | ⟨hne, hy⟩
              · rw [hk] at hky; rcases hky with q | q <;> cases q
              · obtain ⟨c, u, hc, hu, ru⟩ := o.cells y r hy hky
                exact ⟨c, u, hc, celled (mem_cs hc) hu, old ru⟩,
            cellsx := fun y hky => by
              obtain ⟨c, u, hc, hu⟩ := o.cellsx y hky
              exact ⟨c, u, hc, celled (mem_cs hc) hu⟩,
            ca := fun c hc => let ⟨u, hu⟩ := o.ca c hc; ⟨u, celled hc hu⟩ }
  · obtain ⟨c, v₀, hc, hv₀⟩ := o.cellsx x hk
    have hcW : c ∈ X.W := by unfold Cx.W; rw [hown]; exact List.mem_cons_of_mem _ (mem_cs hc)
    have hcL : c ≠ X.env.locals := fun q => (List.nodup_cons.mp o.nd).1 (q ▸ mem_cs hc)
    refine wpAny_storeName_cell hsk (kn.trans hk) hc hv₀ fun h' hv' hs => h _ ?_ (Eff.sameBut hs (List.mem_append_left _ hcW)) ⟨rfl, rfl, rfl⟩
    have e : Eff X.W s.heap h' := Eff.sameBut hs hcW
    have old : ∀ {q : PV} {u : Value}, Rep X.δ X.F s.heap q u → Rep X.δ X.F h' q u := fun r => r.eff o.WF e
    have hp := pairwise_cs (List.nodup_cons.mp o.nd).2
    exact { toBase := o.baseStore (tk := s.toks) hcW hs (cell_alive hv') fun q => absurd q hcL, hsc := o.hsc, sck := o.sck, gl := o.gl, bl := o.bl, WF := o.WF, Wg := o.Wg, nd := o.nd, Wδ := o.Wδ, Lf := o.Lf,
            ns := by
              obtain ⟨m, hn, hm⟩ := o.ns
              exact ⟨m, hn.sameBut hs (Ne.symm hcL), fun y r hy hky => by
                rcases lookup_cons_cases hy with ⟨rfl, rfl⟩ | ⟨hne, hy⟩
                · rw [hk] at hky; cases hky
                · obtain ⟨u, hu, ru⟩ := hm y r hy hky
                  exact ⟨u, hu, old ru⟩⟩,
            cells := fun y r hy hky => by
              rcases lookup_cons_cases hy with ⟨rfl, rfl⟩ | ⟨hne, hy⟩
              · exact ⟨c, v, hc, hv', old hr⟩
              · obtain ⟨d, u, hd, hu, ru⟩ := o.cells y r hy hky
                refine ⟨d, u, hd, hu.sameBut hs fun q => hne (name_of_addr hp (q ▸ mem_of_lookup hd) (mem_of_lookup hc)), old ru⟩,
            cellsx := fun y hky => by
              by_cases hyx : y = x
              · subst hyx; exact ⟨c, _, hc, hv'⟩
              · obtain ⟨d, u, hd, hu⟩ := o.cellsx y hky
                exact ⟨d, u, hd, hu.sameBut hs fun q => hyx (name_of_addr hp (q ▸ mem_of_lookup hd) (mem_of_lookup hc))⟩,
            ca := fun d hd => by
              by_cases q : d = c
              · rw [q]; exact ⟨_, hv'⟩
              · obtain ⟨u, hu⟩ := o.ca d hd
                exact ⟨u, hu.sameBut hs q⟩ }
end

inductive Out where
  | next (ρ : Vars) (σ : Store)
  | ret (r : PV) (σ : Store)

def Post (G : Gl) (X : Cx) (sc : Scope) (s : Shared) : Out → (Flow → Shared → Prop) → Prop
  | .next ρ σ, Q => ∀ s', Ok G X sc s' ρ σ → Eff (X.W ++ X.δ) s.heap s'.heap → Same s s' → Q .next s'
  | .ret r σ, Q => ∀ s' v, Base G X s' σ → Eff (X.W ++ X.δ) s.heap s'.heap → Same s s' → Rep X.δ X.F s'.heap r v → Q (.ret v) s'
theorem Post.step {G : Gl} {X : Cx} {sc : Scope} {s s₁ : Shared} {out : Out} {Q : Flow → Shared → Prop} (e : Eff (X.W ++ X.δ) s.heap s₁.heap) (m : Same s s₁) (h : Post G X sc s out Q) : Post G X sc s₁ out Q := by
  cases out with
  | next ρ σ => exact fun s' o' e' m' => h s' o' (e.trans e') (m.trans m')
  | ret r σ => exact fun s' v b' e' m' r' => h s' v b' (e.trans e') (m.trans m') r'
theorem Eff.δW {X : Cx} {h h' : Heap} (e : Eff X.δ h h') : Eff (X.W ++ X.δ) h h' := e.mono fun a ha => List.mem_append_right _ ha

def Ex1 (G : Gl) (k : Nat) (sc : Scope) (ρ : Vars) (σ : Store) (st : Stmt) (out : Out) : Prop :=
  ∀ (X : Cx) (s : Shared), Ok G X sc s ρ σ → Room k X.A → X.own = true → ∀ (Q : Flow → Shared → Prop) (E : Value → Shared → Prop), Post G X sc s out Q → wpAny (model G.prog G.w) X.A (exec st X.env) Q E s
def Ex (G : Gl) (k : Nat) (sc : Scope) (ρ : Vars) (σ : Store) (sts : List Stmt) (out : Out) : Prop :=
  ∀ (X : Cx) (s : Shared), Ok G X sc s ρ σ → Room k X.A → X.own = true → ∀ (Q : Flow → Shared → Prop) (E : Value → Shared → Prop), Post G X sc s out Q → wpAny (model G.prog G.w) X.A (execs sts X.env) Q E s

section
variable {G : Gl} {k : Nat} {sc : Scope} {ρ ρ₁ ρ₂ : Vars} {σ σ₁ σ₂ σ₃ : Store} {pos : Pos} {out : Out}

theorem ex_nil : Ex G k sc ρ σ [] (.next ρ σ) := fun X s o hr ho Q E h => wpAny_execs_nil (h s o (Eff.refl _ _) (Same.refl _))
theorem ex_cons {st : Stmt} {sts : List Stmt} (h1 : Ex1 G k sc ρ σ st (.next ρ₁ σ₁)) (h2 : Ex G k sc ρ₁ σ₁ sts out) : Ex G k sc ρ σ (st :: sts) out := fun X s o hr ho Q E h =>
  wpAny_execs_cons (h1 X s o hr ho _ _ fun s₁ o₁ e₁ m₁ => h2 X s₁ o₁ hr ho _ _ (h.step e₁ m₁))
theorem ex_ret {st : Stmt} {sts : List Stmt} {r : PV} (h1 : Ex1 G k sc ρ σ st (.ret r σ₁)) : Ex G k sc ρ σ (st :: sts) (.ret r σ₁) := fun X s o hr ho Q E h =>
  wpAny_execs_cons (h1 X s o hr ho _ _ fun s₁ v b₁ e₁ m₁ r₁ => h s₁ v b₁ e₁ m₁ r₁)
theorem ex_weaken {sts : List Stmt} (h1 : Ex G k sc ρ₁ σ sts out) (hw : ∀ y pv, ρ₁.lookup y = some pv → ρ.lookup y = some pv) : Ex G k sc ρ σ sts out := fun X s o hr ho Q E h => h1 X s (o.weaken hw) hr ho Q E h

theorem ex1_return {e : Expr} {r : PV} (h1 : Ev G k sc ρ σ e r σ₁) : Ex1 G k sc ρ σ (.Return (some e) pos) (.ret r σ₁) := fun X s o hr ho Q E h =>
  wpAny_Return_some (h1 X s o hr _ _ fun s₁ v o₁ e₁ m₁ r₁ => h s₁ v o₁.toBase e₁.δW m₁ r₁)
theorem ex1_if {t : Expr} {b : Bool} {body orelse : List Stmt} (h1 : Tst G k sc ρ σ t b σ₁) (h2 : b = true → Ex G k sc ρ σ₁ body out) (h3 : b = false → Ex G k sc ρ σ₁ orelse out) : Ex1 G k sc ρ σ (.If t body orelse pos) out := fun X s o hr ho Q E h => by
  refine wpAny_If (h1 X s o hr _ _ fun s₁ o₁ e₁ m₁ => ?_)
  cases b with
  | true => exact h2 rfl X s₁ o₁ hr ho Q E (h.step e₁.δW m₁)
  | false => exact h3 rfl X s₁ o₁ hr ho Q E (h.step e₁.δW m₁)

theorem wpAny_assign_name {M : Model} {A : Around} {env : Env} {x : Str} {p : Pos} {v : Value} {Q : Unit → Shared → Prop} {E : Value → Shared → Prop} {s : Shared} (h : wpAny M A (storeName env x v) Q E s) : wpAny M A (assign (.Name x p) env v) Q E s := by
  rw [arm_assign_Name]
  exact wpAny_bind (wpAny_standAt (wpAny_bindName h))

theorem ex1_assign {x : Str} {px : Pos} {value : Expr} {r : PV} (h1 : Ev G k sc ρ σ value r σ₁) (hk : sc.names.lookup x = some .local ∨ sc.names.lookup x = some .cell)
    (hs : ∀ env : Env, env.scope = sc → swapsWith value (some (.Name x px)) pos.line env = pure false) : Ex1 G k sc ρ σ (.Assign [.Name x px] value pos) (.next ((x, r) :: ρ) σ₁) := fun X s o hr ho Q E h => by
  refine wpAny_Assign_Name (h1 X s o hr _ _ fun s₁ v o₁ e₁ m₁ r₁ => ?_) (hs X.env o.hsc)
  exact o₁.store (hk.imp id fun q => ⟨q, ho⟩) r₁ fun s₂ o₂ e₂ m₂ => h s₂ o₂ (e₁.δW.trans e₂) (m₁.trans m₂)

/-- a target takes a value -/
def Asg (G : Gl) (k : Nat) (sc : Scope) (own : Bool) (ρ : Vars) (t : Expr) (pv : PV) (ρ' : Vars) : Prop :=
  ∀ (X : Cx) (s : Shared) (σ : Store) (v : Value), Ok G X sc s ρ σ → Room k X.A → X.own = own → Rep X.δ X.F s.heap pv v → ∀ (Q : Unit → Shared → Prop) (E : Value → Shared → Prop),
    (∀ s', Ok G X sc s' ρ' σ → Eff (X.W ++ X.δ) s.heap s'.heap → Same s s' → Q () s') → wpAny (model G.prog G.w) X.A (assign t X.env v) Q E s
theorem Ok.WδF {X : Cx} {s : Shared} (o : Ok G X sc s ρ σ) : ∀ a ∈ X.W ++ X.δ, a ∈ X.F := fun a ha => (List.mem_append.mp ha).elim (o.WF a) (o.δF a)
theorem asg_name {own : Bool} {x : Str} {p : Pos} {pv : PV} (hk : sc.names.lookup x = some .local ∨ (sc.names.lookup x = some .cell ∧ own = true)) : Asg G k sc own ρ (.Name x p) pv ((x, pv) :: ρ) := fun X s σ v o hr ho rv Q E h =>
  wpAny_assign_name (o.store (hk.imp id fun q => ⟨q.1, ho.trans q.2⟩) rv h)
/-- targets in order -/
def Asgs (G : Gl) (k : Nat) (sc : Scope) (own : Bool) (ρ : Vars) (ts : List Expr) (pvs : List PV) (ρ' : Vars) : Prop :=
  ∀ (X : Cx) (s : Shared) (σ : Store) (vs : List Value), Ok G X sc s ρ σ → Room k X.A → X.own = own → Reps X.δ X.F s.heap pvs vs → ∀ (Q : Unit → Shared → Prop) (E : Value → Shared → Prop),
    (∀ s', Ok G X sc s' ρ' σ → Eff (X.W ++ X.δ) s.heap s'.heap → Same s s' → Q () s') → wpAny (model G.prog G.w) X.A (assignInOrder ((assignEach ts X.env).map (·.2)) vs) Q E s
theorem asgs_nil {own : Bool} : Asgs G k sc own ρ [] [] ρ := fun X s σ vs o hr ho rv Q E h => wpAny_pure (h s o (Eff.refl _ _) (Same.refl _))
theorem asgs_cons {own : Bool} {t : Expr} {ts : List Expr} {p : PV} {ps : List PV} (h1 : Asg G k sc own ρ t p ρ₁) (h2 : Asgs G k sc own ρ₁ ts ps ρ₂) (ht : ∀ env, assignEach (t :: ts) env = (false, assign t env) :: assignEach ts env) : Asgs G k sc own ρ (t :: ts) (p :: ps) ρ₂ := fun X s σ vs o hr ho ⟨v, r, e, rv, rr⟩ Q E h => by
  subst e
  rw [ht]
  show wpAny _ _ (do holding r (assign t X.env v); assignInOrder ((assignEach ts X.env).map (·.2)) r) _ _ _
  refine wpAny_bind (wpAny_holding (h1 X s σ v o hr ho rv _ _ fun s₁ o₁ e₁ m₁ => ?_))
  exact h2 X s₁ σ r o₁ hr ho (rr.eff o.WδF e₁) _ _ fun s₂ o₂ e₂ m₂ => h s₂ o₂ (e₁.trans e₂) (m₁.trans m₂)
theorem extBut_size {h h' : Heap} (x : Heap.ExtBut h.objs.size h h') : ∀ b o, h.get? b = some o → h'.get? b = some o := fun b o e => x b o (Nat.ne_of_lt (Heap.lt_size e)) e
theorem asg_tuple {own : Bool} {ts : List Expr} {n : Nat} {p : Pos} {pvs : List PV} (h1 : Asgs G k sc own ρ ts pvs ρ₁) (hn : ∀ env, (assignEach ts env).length = pvs.length) (hstar : ∀ env, (assignEach ts env).findIdx? (·.1) = none) :
    Asg G k sc own ρ (.Tuple ts n p) (.tup pvs) ρ₁ := fun X s σ v o hr ho ⟨a, vs, e, _, ha, rv⟩ Q E h => by
  subst e
  refine wpAny_assign_Tuple o.hh ha (by rw [hn, List.size_toArray, rv.length]) (hstar _) fun h' he => ?_
  have k' := extBut_size he
  exact h1 X _ σ vs (o.keeps k') hr ho (rv.eff (W := []) (fun _ q => nomatch q) (.of_keeps k')) _ _ fun s₂ o₂ e₂ m₂ => h s₂ o₂ ((Eff.of_keeps k').trans e₂) m₂

theorem ex1_assign_tuple {ts : List Expr} {n : Nat} {p : Pos} {value : Expr} {r : PV} (h1 : Ev G k sc ρ σ value r σ₁) (h2 : Asg G k sc true ρ (.Tuple ts n p) r ρ₁)
    (hs : ∀ env : Env, swapsWith value (some (.Tuple ts n p)) pos.line env = pure false) (hsw : ∀ env : Env, env.scope = sc → swappedStores [.Tuple ts n p] value env = pure none) : Ex1 G k sc ρ σ (.Assign [.Tuple ts n p] value pos) (.next ρ₁ σ₁) := fun X s o hr ho Q E h => by
  rw [arm_exec_Assign]
  refine wpAny_bind (wpAny_standAt ?_)
  show wpAny _ _ (swapsWith value (some (.Tuple ts n p)) pos.line X.env >>= _) _ _ _
  rw [hs]
  refine wpAny_bind (wpAny_pure ?_)
  simp only [Bool.false_eq_true, if_false]
  refine wpAny_bind (h1 X s o hr _ _ fun s₁ v o₁ e₁ m₁ r₁ => ?_)
  rw [hsw X.env o.hsc]
  refine wpAny_bind (wpAny_pure ?_)
  show wpAny _ _ (assign (.Tuple ts n p) X.env v >>= fun _ => pure Flow.next) _ _ _
  exact wpAny_bind (h2 X s₁ σ₁ v o₁ hr ho r₁ _ _ fun s₂ o₂ e₂ m₂ => wpAny_pure (h s₂ o₂ (e₁.δW.trans e₂) (m₁.trans m₂)))

/-- names stored, the last one first -/
def Swp (G : Gl) (k : Nat) (sc : Scope) (ρ : Vars) (xs : List Str) (pvs : List PV) (ρ' : Vars) : Prop :=
  ∀ (X : Cx) (s : Shared) (σ : Store) (vs : List Value), Ok G X sc s ρ σ → X.own = true → Reps X.δ X.F s.heap pvs vs → ∀ (Q : Unit → Shared → Prop) (E : Value → Shared → Prop),
    (∀ s', Ok G X sc s' ρ' σ → Eff (X.W ++ X.δ) s.heap s'.heap → Same s s' → Q () s') → wpAny (model G.prog G.w) X.A (assignInOrder (xs.map fun n => bindName X.env n) vs) Q E s
theorem swp_nil : Swp G k sc ρ [] [] ρ := fun X s σ vs o ho rv Q E h => wpAny_pure (h s o (Eff.refl _ _) (Same.refl _))
theorem swp_cons {x : Str} {xs : List Str} {p : PV} {ps : List PV} (hk : sc.names.lookup x = some .local ∨ sc.names.lookup x = some .cell) (h2 : Swp G k sc ((x, p) :: ρ) xs ps ρ₂) : Swp G k sc ρ (x :: xs) (p :: ps) ρ₂ := fun X s σ vs o ho ⟨v, r, e, rv, rr⟩ Q E h => by
  subst e
  show wpAny _ _ (do holding r (bindName X.env x v); assignInOrder (xs.map fun n => bindName X.env n) r) _ _ _
  refine wpAny_bind (wpAny_holding (wpAny_bindName (o.store (hk.imp id fun q => ⟨q, ho⟩) rv fun s₁ o₁ e₁ m₁ => ?_)))
  exact h2 X s₁ σ r o₁ ho (rr.eff o.WδF e₁) _ _ fun s₂ o₂ e₂ m₂ => h s₂ o₂ (e₁.trans e₂) (m₁.trans m₂)
theorem Reps.reverse {δ F : List Addr} {h : Heap} : ∀ {l : List PV} {vs : List Value}, Reps δ F h l vs → Reps δ F h l.reverse vs.reverse
  | [], vs, x => by have x : vs = [] := x; rw [x]; rfl
  | p :: l, _, ⟨v, r, hv, x, y⟩ => by
    rw [hv, List.reverse_cons, List.reverse_cons]
    exact y.reverse.append (Reps.one x)
theorem ex1_swap {ts : List Expr} {n : Nat} {p : Pos} {value : Expr} {rs : List PV} {xs : List Str} (h1 : Ev G k sc ρ σ value (.tup rs) σ₁) (h2 : Swp G k sc ρ xs.reverse rs.reverse ρ₁) (hlen : xs.length = rs.length)
    (hs : ∀ env : Env, swapsWith value (some (.Tuple ts n p)) pos.line env = pure false) (hsw : ∀ env : Env, env.scope = sc → swappedStores [.Tuple ts n p] value env = pure (some xs)) : Ex1 G k sc ρ σ (.Assign [.Tuple ts n p] value pos) (.next ρ₁ σ₁) := fun X s o hr ho Q E h => by
  rw [arm_exec_Assign]
  refine wpAny_bind (wpAny_standAt ?_)
  show wpAny _ _ (swapsWith value (some (.Tuple ts n p)) pos.line X.env >>= _) _ _ _
  rw [hs]
  refine wpAny_bind (wpAny_pure ?_)
  simp only [Bool.false_eq_true, if_false]
  refine wpAny_bind (h1 X s o hr _ _ fun s₁ v o₁ e₁ m₁ ⟨a, vs, e, na, ha, rv⟩ => ?_)
  subst e
  rw [hsw X.env o.hsc]
  refine wpAny_bind (wpAny_pure ?_)
  show wpAny _ _ (do rule "assign.swapped-stores"; let items ← unpackItems (.ref a) xs.length none; assignInOrder (xs.reverse.map fun n => bindName X.env n) items.reverse; pure Flow.next) _ _ _
  refine wpAny_bind (wpAny_rule ?_)
  rw [show xs.length = vs.toArray.size by rw [List.size_toArray, rv.length, hlen]]
  refine wpAny_bind (wpAny_unpackItems_tuple o₁.hh ha fun h' he => ?_)
  have k' := extBut_size he
  exact wpAny_bind (h2 X _ σ₁ vs.reverse (o₁.keeps k') ho ((rv.eff (W := []) (fun _ q => nomatch q) (.of_keeps k')).reverse) _ _ fun s₂ o₂ e₂ m₂ => wpAny_pure (h s₂ o₂ ((e₁.δW.trans (Eff.of_keeps k')).trans e₂) (m₁.trans m₂)))

/-- an item of a cell stored -/
theorem Base.stored {X : Cx} {s : Shared} {σ : Store} {j : Nat} {d : Addr} {l : List PV} {vs : List Value} {h' : Heap} (b : Base G X s σ) (hj : X.δ[j]? = some d) (hl : h'.IsList d vs.toArray) (hs : Heap.SameBut d s.heap h') (hr : Reps X.δ X.F s.heap l vs) (hp : 0 < j → h'.PlainList d vs.toArray) :
    Base G X { s with heap := h' } (σ.set j l) ∧ Eff X.δ s.heap h' := by
  have hd : d ∈ X.δ := List.mem_of_getElem? hj
  have e : Eff X.δ s.heap h' := Eff.sameBut hs hd
  obtain ⟨m, F⟩ := b.F
  refine ⟨{ hh := b.hh, fr := b.fr, frm := b.frm, fk := b.fk, below := b.below, kin := b.kin, top := b.top, δg := b.δg, δL := b.δL, δF := b.δF, δn := b.δn,
            F := ⟨m, F.ns.sameBut hs (fun q => b.δL (q ▸ hd)), fun c x hc => (hs.2 c (fun q => isSome_of hc (q ▸ b.δg d hd))).trans (F.keep c x hc), F.above⟩,
            st := ⟨by rw [List.length_set]; exact b.st.1, fun i c q hc hq => ?_⟩, al := fun a ha => ?_ }, e⟩
  · by_cases hij : i = j
    · subst hij
      have : (σ.set i l)[i]? = some l := by
        rw [List.getElem?_set_self]
        rw [b.st.1]; exact (List.getElem?_eq_some_iff.mp hj).1
      rw [this] at hq
      cases hq
      rw [hj] at hc
      cases hc
      exact ⟨vs, hl, hr.eff b.δF e, hp⟩
    · rw [List.getElem?_set_ne (Ne.symm hij)] at hq
      obtain ⟨us, hu, ru, pu⟩ := b.st.2 i c q hc hq
      refine ⟨us, ?_, ru.eff b.δF e, fun q => ?_⟩
      · have hcd : c ≠ d := fun e => hij (nodup_get b.δn (e ▸ hc) hj)
        obtain ⟨x, hx, r⟩ := hu
        exact ⟨x, (hs.2 c hcd).trans hx, r⟩
      · have hcd : c ≠ d := fun e => hij (nodup_get b.δn (e ▸ hc) hj)
        obtain ⟨n, hn⟩ := pu q
        exact ⟨n, (hs.2 c hcd).trans hn⟩
  · by_cases hq : a = d
    · obtain ⟨x, hx, _⟩ := hl
      rw [hq]; exact isSome_of hx
    · show h'.get? a ≠ none
      rw [hs.2 a hq]; exact b.al a ha

theorem Reps.set {δ F : List Addr} {h : Heap} : ∀ {l : List PV} {vs : List Value} {i : Nat} {p : PV} {v : Value}, Reps δ F h l vs → Rep δ F h p v → Reps δ F h (l.set i p) (vs.set i v)
  | [], vs, i, _, _, x, _ => by have x : vs = [] := x; rw [x]; rfl
  | _ :: _, _, 0, p, v, ⟨u, r, hv, x, y⟩, z => by rw [hv]; exact Reps.cons z y
  | _ :: _, _, i + 1, p, v, ⟨u, r, hv, x, y⟩, z => by rw [hv]; exact Reps.cons x (y.set z)

theorem ex1_setitem {t : Expr} {i : Expr} {pt : Pos} {value : Expr} {r : PV} {j : Nat} {n : Int} {l : List PV} (h1 : Ev G k sc ρ σ value r σ₁) (h2 : Ev G k sc ρ σ₁ t (.cell j) σ₂) (h3 : Ev G k sc ρ σ₂ i (.int n) σ₃)
    (hl : σ₃[j]? = some l) (hj0 : j = 0) (h0 : 0 ≤ n) (hn : n < l.length) (hm : l.length ≤ 1000) (hs : ∀ env : Env, swapsWith value (some (.Subscript t i pt)) pos.line env = pure false) :
    Ex1 G k sc ρ σ (.Assign [.Subscript t i pt] value pos) (.next ρ (σ₃.set j (l.set n.toNat r))) := fun X s o hr ho Q E h => by
  refine wpAny_Assign_Subscript (h1 X s o hr _ _ fun s₁ v o₁ e₁ m₁ r₁ => h2 X s₁ o₁ hr _ _ fun s₂ u o₂ e₂ m₂ r₂ => h3 X s₂ o₂ hr _ _ fun s₃ w o₃ e₃ m₃ ⟨tk, r₃⟩ => ?_) (hs _)
  obtain ⟨d, hd, rfl⟩ := r₂
  subst r₃
  obtain ⟨vs, hv, rv, _⟩ := o₃.st.2 j d l hd hl
  have hlen := rv.length
  refine wpAny_setItem_list hv h0 (by omega) (by simp only [List.size_toArray]; omega) fun h' hl' hs' => ?_
  rw [show vs.toArray.setIfInBounds n.toNat v = (vs.set n.toNat v).toArray by simp] at hl'
  obtain ⟨b, e⟩ := o₃.toBase.stored hd hl' hs' (rv.set (i := n.toNat) ((r₁.eff o.δF e₂).eff o.δF e₃)) (fun q => by omega)
  exact h _ (o₃.after b e) (((e₁.trans e₂).trans e₃).trans e).δW ((m₁.trans m₂).trans m₃)
end
end Mine

/- J7 -/
namespace Mine

def ownedIts : List String := ["enumerate", "zip", "dict_itemiterator", "dict_reverseitemiterator", "odict_iterator", "itertools.zip_longest", "itertools.pairwise"]
def ItObj (h : Heap) (I : Addr) : Prop := ∃ o nm vs, h.get? I = some o ∧ o.cls = .type nm ∧ o.data = .fields vs ∧ ownedIts.contains nm = false
theorem ItObj.alive {h : Heap} {I : Addr} (x : ItObj h I) : h.get? I ≠ none := let ⟨_, _, _, ho, _⟩ := x; isSome_of ho
theorem ItObj.letGo {M : Model} {A : Around} {E : Value → Shared → Prop} {s : Shared} {target : Expr} {I : Addr} {v : Value} {Q : Unit → Shared → Prop} (x : ItObj s.heap I) (h : Q () s) : wpAny M A (letOwnedTupleGo target (.ref I) v) Q E s := by
  obtain ⟨o, nm, vs, ho, hc, hd, hn⟩ := x
  unfold letOwnedTupleGo
  cases target <;> first
    | exact wpAny_pure h
    | (cases v <;> first
        | exact wpAny_pure h
        | (refine wpAny_bind (wpAny_load ho ?_)
           rw [hc, hd]
           show wpAny M A (if (ownedIts.contains nm && _) = true then _ else pure ()) Q E s
           rw [hn]
           exact wpAny_pure h))

/-- an iterator at I that has the items rem ahead -/
def IterAt (G : Gl) (X : Cx) (I : Addr) (rem : List PV) (h : Heap) : Prop :=
  ∃ (fp : List Addr) (n : Nat) (P : Nat → Value → Prop) (St : Nat → Heap → Prop) (i : Nat), Walks G.prog G.w X.A I fp [I] n P St ∧ St i h ∧ n = i + rem.length ∧ (∀ b ∈ fp, b = I ∨ b ∉ X.F) ∧ (∀ j h, St j h → ItObj h I ∧ ∀ b ∈ fp, h.get? b ≠ none) ∧
    ∀ j v, j < rem.length → P (i + j) v → ∃ p, rem[j]? = some p ∧ Rep X.δ X.F h p v

structure ItCx (X : Cx) (I : Addr) : Prop where
  inF : I ∈ X.F
  nW : I ∉ X.W ++ X.δ
  ng : X.g.get? I = none
  nL : I ≠ X.Lf
  nC : I ∉ X.env.locals :: X.cs

section
variable {G : Gl} {X : Cx} {sc : Scope} {s s' : Shared} {ρ : Vars} {σ σ' : Store} {I : Addr} {rem : List PV}

theorem IterAt.eff {W : List Addr} {h h' : Heap} (x : IterAt G X I rem h) (e : Eff W h h') (hF : ∀ a ∈ W, a ∈ X.F) (hI : I ∉ W) : IterAt G X I rem h' := by
  obtain ⟨fp, n, P, St, i, w, st, hn, hfp, hi, hp⟩ := x
  refine ⟨fp, n, P, St, i, w, w.frame i h h' st (fun b hb o ho => e b o (fun m => ?_) ho), hn, hfp, hi, fun j v hj hv => ?_⟩
  · rcases hfp b hb with rfl | q
    · exact hI m
    · exact q (hF b m)
  · obtain ⟨p, hp, hr⟩ := hp j v hj hv
    exact ⟨p, hp, hr.eff hF e⟩
theorem IterAt.obj {h : Heap} (x : IterAt G X I rem h) : ItObj h I := let ⟨_, _, _, _, i, _, st, _, _, hi, _⟩ := x; (hi i h st).1

theorem IterAt.next {p : PV} (x : IterAt G X I (p :: rem) s.heap) (hI : I ∈ X.F) {Q : Option Value → Shared → Prop} {E : Value → Shared → Prop}
    (h : ∀ v h' tk, Rep X.δ X.F h' p v → IterAt G X I rem h' → Eff [I] s.heap h' → Q (some v) { s with heap := h', toks := tk }) : wpAny (model G.prog G.w) X.A (pyNext (.ref I)) Q E s := by
  obtain ⟨fp, n, P, St, i, w, st, hn, hfp, hi, hp⟩ := x
  rw [List.length_cons] at hn
  refine w.item i s Q E (by omega) st fun v h' tk hv st' hk => ?_
  have e : Eff [I] s.heap h' := fun b o hb => hk b o hb
  have hF : ∀ a ∈ [I], a ∈ X.F := fun a ha => by rw [List.mem_singleton.mp ha]; exact hI
  obtain ⟨q, hq, hr⟩ := hp 0 v (by rw [List.length_cons]; omega) hv
  cases hq
  refine h v h' tk (hr.eff hF e) ⟨fp, n, P, St, i + 1, w, st', by omega, hfp, hi, fun j u hj hu => ?_⟩ e
  obtain ⟨q, hq, hr⟩ := hp (j + 1) u (by rw [List.length_cons]; omega) (by rwa [show i + (j + 1) = i + 1 + j by omega])
  exact ⟨q, by simpa using hq, hr.eff hF e⟩
theorem IterAt.done (x : IterAt G X I [] s.heap) {Q : Option Value → Shared → Prop} {E : Value → Shared → Prop}
    (h : ∀ h' tk, Eff [I] s.heap h' → Q none { s with heap := h', toks := tk }) : wpAny (model G.prog G.w) X.A (pyNext (.ref I)) Q E s := by
  obtain ⟨fp, n, P, St, i, w, st, hn, hfp, hi, hp⟩ := x
  have : n = i := by simpa using hn
  subst this
  exact w.done s Q E st fun h' tk hk => h h' tk fun b o hb => hk b o hb

/-- what a step leaves that writes things nobody here looks at -/
theorem Ok.eff {W : List Addr} (o : Ok G X sc s ρ σ) (e : Eff W s.heap s'.heap) (hF : ∀ a ∈ W, a ∈ X.F) (hd : ∀ a ∈ W, a ∉ X.δ) (hg : ∀ a ∈ W, X.g.get? a = none) (hL : X.Lf ∉ W) (hal : ∀ a ∈ W, s'.heap.get? a ≠ none)
    (hc : ∀ a ∈ W, a ∉ X.env.locals :: X.cs) : Ok G X sc s' ρ σ where
  toBase := o.toBase.eff e hF hd hg hL hal
  hsc := o.hsc
  sck := o.sck
  gl := o.gl
  bl := o.bl
  WF := o.WF
  Wg := o.Wg
  nd := o.nd
  Wδ := o.Wδ
  Lf := o.Lf
  ns := by
    obtain ⟨m, ⟨x, es, ep, ho, r⟩, h⟩ := o.ns
    exact ⟨m, ⟨x, es, ep, e _ _ (fun m => hc _ m (.head _)) ho, r⟩, fun y pv h1 h2 => let ⟨v, h3, h4⟩ := h y pv h1 h2; ⟨v, h3, h4.eff hF e⟩⟩
  cells := fun y pv h1 h2 => by
    obtain ⟨c, v, hc', ⟨x, ho, hd'⟩, hr⟩ := o.cells y pv h1 h2
    exact ⟨c, v, hc', ⟨x, e _ _ (fun m => hc _ m (.tail _ (mem_cs hc'))) ho, hd'⟩, hr.eff hF e⟩
  cellsx := fun y h1 => by
    obtain ⟨c, v, hc', ⟨x, ho, hd'⟩⟩ := o.cellsx y h1
    exact ⟨c, v, hc', ⟨x, e _ _ (fun m => hc _ m (.tail _ (mem_cs hc'))) ho, hd'⟩⟩
  ca := fun c hc' => let ⟨v, x, ho, hd'⟩ := o.ca c hc'; ⟨v, x, e _ _ (fun m => hc _ m (.tail _ hc')) ho, hd'⟩
theorem Ok.effI {h' : Heap} {tk : Nat} (o : Ok G X sc s ρ σ) (c : ItCx X I) (e : Eff [I] s.heap h') (hal : h'.get? I ≠ none) : Ok G X sc { s with heap := h', toks := tk } ρ σ :=
  o.eff (s' := { s with heap := h', toks := tk }) (W := [I]) e (fun a ha => by rw [List.mem_singleton.mp ha]; exact c.inF) (fun a ha => by rw [List.mem_singleton.mp ha]; exact fun m => c.nW (List.mem_append_right _ m))
    (fun a ha => by rw [List.mem_singleton.mp ha]; exact c.ng) (fun m => c.nL (List.mem_singleton.mp m).symm) (fun a ha => by rw [List.mem_singleton.mp ha]; exact hal) (fun a ha => by rw [List.mem_singleton.mp ha]; exact c.nC)

/-- the frame with more forbidden addresses -/
def Cx.ban (X : Cx) (N : List Addr) : Cx := { X with F := N ++ X.F }
theorem Stores.ban {δ F N : List Addr} {h : Heap} (hn : ∀ a ∈ N, h.get? a = none) (x : Stores δ F h σ) : Stores δ (N ++ F) h σ := ⟨x.1, fun i d l h1 h2 => let ⟨vs, a, b, c⟩ := x.2 i d l h1 h2; ⟨vs, a, b.fresh hn, c⟩⟩
theorem Stores.unban {δ F N : List Addr} {h : Heap} (x : Stores δ (N ++ F) h σ) : Stores δ F h σ := ⟨x.1, fun i d l h1 h2 => let ⟨vs, a, b, c⟩ := x.2 i d l h1 h2; ⟨vs, a, b.anti fun _ m => List.mem_append_right _ m, c⟩⟩
theorem Base.ban {N : List Addr} (b : Base G X s σ) (hn : ∀ a ∈ N, s.heap.get? a = none) (k : ∀ b o, s.heap.get? b = some o → s'.heap.get? b = some o) (hal : ∀ a ∈ N, s'.heap.get? a ≠ none) : Base G (X.ban N) s' σ where
  hh := b.hh
  fr := b.fr
  frm := b.frm
  fk := b.fk
  below := b.below
  kin := b.kin
  top := b.top
  F := (b.keeps k).F
  δg := b.δg
  δL := b.δL
  δF := fun d hd => List.mem_append_right _ (b.δF d hd)
  δn := b.δn
  st := (b.st.ban hn).eff (W := []) (fun _ h => nomatch h) (fun _ h => nomatch h) (.of_keeps k)
  al := fun a ha => (List.mem_append.mp ha).elim (hal a) ((b.keeps k).al a)
theorem Base.unban {N : List Addr} (hδ : ∀ d ∈ X.δ, d ∈ X.F) (b : Base G (X.ban N) s σ) : Base G X s σ where
  hh := b.hh
  fr := b.fr
  frm := b.frm
  fk := b.fk
  below := b.below
  kin := b.kin
  top := b.top
  F := b.F
  δg := b.δg
  δL := b.δL
  δF := hδ
  δn := b.δn
  st := b.st.unban
  al := fun a ha => b.al a (List.mem_append_right _ ha)
theorem Ok.ban {N : List Addr} (o : Ok G X sc s ρ σ) (hn : ∀ a ∈ N, s.heap.get? a = none) (k : ∀ b o, s.heap.get? b = some o → s'.heap.get? b = some o) (hal : ∀ a ∈ N, s'.heap.get? a ≠ none) : Ok G (X.ban N) sc s' ρ σ where
  toBase := o.toBase.ban hn k hal
  hsc := o.hsc
  sck := o.sck
  gl := o.gl
  bl := o.bl
  WF := fun a ha => List.mem_append_right _ (o.WF a ha)
  Wg := o.Wg
  nd := o.nd
  Wδ := o.Wδ
  Lf := o.Lf
  ns := let ⟨m, h1, h2⟩ := (o.keeps k).ns; ⟨m, h1, fun y pv e f => let ⟨m₀, h3, h4⟩ := o.ns; let ⟨v, h5, h6⟩ := h2 y pv e f; by
    obtain ⟨u, hu, ru⟩ := h4 y pv e f
    have : m y = m₀ y := by
      obtain ⟨ob, es, ep, ho, hd, hk, hm⟩ := h3
      obtain ⟨ob', es', ep', ho', hd', hk', hm'⟩ := h1
      have e1 : s'.heap.get? X.env.locals = some ob := k _ _ ho
      have e2 : some ob = some ob' := e1.symm.trans ho'
      cases e2
      rw [hd] at hd'
      cases hd'
      rw [← hm, ← hm']
    exact ⟨u, this.trans hu, (ru.fresh hn).eff (W := []) (fun _ h => nomatch h) (.of_keeps k)⟩⟩
  cells := fun y pv e f => let ⟨c, v, h1, h2, h3⟩ := o.cells y pv e f; ⟨c, v, h1, h2.keeps k, (h3.fresh hn).eff (W := []) (fun _ h => nomatch h) (.of_keeps k)⟩
  cellsx := fun y e => let ⟨c, v, h1, h2⟩ := o.cellsx y e; ⟨c, v, h1, h2.keeps k⟩
  ca := fun c hc => let ⟨v, h⟩ := o.ca c hc; ⟨v, h.keeps k⟩
theorem Ok.unban {N : List Addr} {s₀ : Shared} {ρ₀ : Vars} {σ₀ : Store} (o₀ : Ok G X sc s₀ ρ₀ σ₀) (o : Ok G (X.ban N) sc s ρ σ) : Ok G X sc s ρ σ where
  toBase := o.toBase.unban o₀.δF
  hsc := o.hsc
  sck := o.sck
  gl := o.gl
  bl := o.bl
  WF := o₀.WF
  Wg := o.Wg
  nd := o.nd
  Wδ := o.Wδ
  Lf := o.Lf
  ns := let ⟨m, h1, h2⟩ := o.ns; ⟨m, h1, fun y pv e f => let ⟨v, h3, h4⟩ := h2 y pv e f; ⟨v, h3, h4.anti fun _ m => List.mem_append_right _ m⟩⟩
  cells := fun y pv e f => let ⟨c, v, h1, h2, h3⟩ := o.cells y pv e f; ⟨c, v, h1, h2, h3.anti fun _ m => List.mem_append_right _ m⟩
  cellsx := o.cellsx
  ca := o.ca

/-- what is iterated -/
def itemsOf : PV → Option (List PV)
  | .tup l => some l
  | .lst l => some l
  | .rng lo hi => some ((List.range (hi - lo).toNat).map fun i => .int (lo + (i : Nat)))
  | _ => none

theorem itObj_new {h : Heap} {nm : String} {vs : Array Value} (hn : ownedIts.contains nm = false) : ItObj (h.push { cls := .type nm, data := .fields vs }) h.objs.size := ⟨_, nm, vs, Heap.get?_push_size _ rfl, rfl, rfl, hn⟩

/-- an iterator is made -/
theorem pyIter_ok {a : PV} {l : List PV} {v : Value} (b : Base G X s σ) (hl : itemsOf a = some l) (hr : Rep X.δ X.F s.heap a v) {Q E : Value → Shared → Prop}
    (h : ∀ s', (∀ b o, s.heap.get? b = some o → s'.heap.get? b = some o) → Same s s' → ItObj s'.heap s.heap.objs.size → IterAt G (X.ban [s.heap.objs.size]) s.heap.objs.size l s'.heap → Q (.ref s.heap.objs.size) s') : wpAny (model G.prog G.w) X.A (pyIter v) Q E s := by
  have hnew : ∀ a ∈ [s.heap.objs.size], s.heap.get? a = none := fun a ha => by rw [List.mem_singleton.mp ha]; exact size_free _
  have hF : ∀ (W : List Addr), W = [] → ∀ a ∈ W, a ∈ s.heap.objs.size :: X.F := fun W e a ha => by rw [e] at ha; cases ha
  cases a with
  | tup l' =>
    cases hl
    obtain ⟨t, vs, rfl, nt, ht, hvs⟩ := hr
    have hlt : t < s.heap.objs.size := by obtain ⟨o, ho, _⟩ := ht; exact Heap.lt_size ho
    refine wpAny_pyIter_tuple ht (h _ (fun _ _ e => Heap.get?_push_of_some _ e) ⟨rfl, rfl, rfl⟩ (itObj_new (by decide)) ?_)
    refine ⟨_, _, _, _, 0, Walks.tuple (A := X.A) b.hh _ t (Nat.ne_of_lt hlt) vs.toArray, ⟨⟨_, Heap.get?_push_size _ rfl, rfl, rfl⟩, ht.push _⟩, by simp [hvs.length], fun c hc => ?_, ?_, fun j v hj hv => ?_⟩
    · rcases List.mem_cons.mp hc with e | hc
      · exact .inl e
      · rw [List.mem_singleton.mp hc]
        exact .inr fun m => (List.mem_append.mp m).elim (fun m => Nat.lt_irrefl _ (List.mem_singleton.mp m ▸ hlt)) nt
    · rintro j g ⟨⟨o, ho, hc, hd⟩, ⟨o', ho', _⟩⟩
      exact ⟨⟨o, "tuple_iterator", _, ho, hc, hd, by decide⟩, fun b hb => by
        simp only [List.mem_cons, List.not_mem_nil, or_false] at hb
        rcases hb with rfl | rfl
        · exact isSome_of ho
        · exact isSome_of ho'⟩
    · obtain ⟨p, hp, rp⟩ := hvs.get' (i := j) (v := v) (by simpa using hv)
      exact ⟨p, hp, (rp.fresh hnew).eff (W := []) (hF [] rfl) (Eff.push _ _ _)⟩
  | lst l' =>
    cases hl
    obtain ⟨t, vs, rfl, nt, ht', hvs⟩ := hr
    have ht := ht'.isList
    have hlt : t < s.heap.objs.size := by obtain ⟨o, ho, _⟩ := ht; exact Heap.lt_size ho
    refine wpAny_pyIter_list ht (h _ (fun _ _ e => Heap.get?_push_of_some _ e) ⟨rfl, rfl, rfl⟩ (itObj_new (by decide)) ?_)
    refine ⟨_, _, _, _, 0, Walks.list (A := X.A) b.hh _ t (Nat.ne_of_lt hlt) vs.toArray, ⟨⟨_, Heap.get?_push_size _ rfl, rfl, rfl⟩, ht.push _⟩, by simp [hvs.length], fun c hc => ?_, ?_, fun j v hj hv => ?_⟩
    · rcases List.mem_cons.mp hc with e | hc
      · exact .inl e
      · rw [List.mem_singleton.mp hc]
        exact .inr fun m => (List.mem_append.mp m).elim (fun m => Nat.lt_irrefl _ (List.mem_singleton.mp m ▸ hlt)) nt
    · rintro j g ⟨⟨o, ho, hc, hd⟩, ⟨o', ho', _⟩⟩
      exact ⟨⟨o, "list_iterator", _, ho, hc, hd, by decide⟩, fun b hb => by
        simp only [List.mem_cons, List.not_mem_nil, or_false] at hb
        rcases hb with rfl | rfl
        · exact isSome_of ho
        · exact isSome_of ho'⟩
    · obtain ⟨p, hp, rp⟩ := hvs.get' (i := j) (v := v) (by simpa using hv)
      exact ⟨p, hp, (rp.fresh hnew).eff (W := []) (hF [] rfl) (Eff.push _ _ _)⟩
  | rng lo hi =>
    cases hl
    obtain ⟨t, u, x, y, rfl, nt, ht⟩ := hr
    have hsz : Builtin.Range.rangeSize lo hi 1 = (((hi - lo).toNat : Nat) : Int) := by rw [rangeSize_one]; split <;> omega
    have tail : ∀ (j : Nat) (v : Value) (h' : Heap), j < ((List.range (hi - lo).toNat).map fun i => PV.int (lo + (i : Nat))).length → (∃ t, v = .int (lo + ((0 + j : Nat) : Int) * 1) t) →
        ∃ p, ((List.range (hi - lo).toNat).map fun i => PV.int (lo + (i : Nat)))[j]? = some p ∧ Rep X.δ ([s.heap.objs.size] ++ X.F) h' p v := fun j v h' hj ⟨t, hv⟩ => by
      refine ⟨.int (lo + (j : Nat)), ?_, t, by rw [hv]; congr 1; simp⟩
      rw [List.length_map, List.length_range] at hj
      rw [List.getElem?_map, List.getElem?_range hj]; rfl
    by_cases hsm : Builtin.Range.small lo hi 1 = true
    · refine wpAny_pyIter_range ht hsm (h _ (fun _ _ e => Heap.get?_push_of_some _ e) ⟨rfl, rfl, rfl⟩ (itObj_new (by decide)) ?_)
      refine ⟨_, _, _, _, 0, Walks.range (A := X.A) b.hh _ lo 1 (hi - lo).toNat, ?_, by simp, fun c hc => .inl (List.mem_singleton.mp hc), ?_, fun j v hj hv => tail j v _ hj hv⟩
      · show IsRangeIter (s.heap.push _) _ _ _ _
        rw [hsz]
        simpa using (Heap.get?_push_size s.heap (o := { cls := .type "range_iterator", data := .fields #[rawInt lo, rawInt (((hi - lo).toNat : Nat) : Int), rawInt 1] }) rfl)
      · rintro j g hg
        exact ⟨⟨_, "range_iterator", _, hg, rfl, rfl, by decide⟩, fun b hb => by rw [List.mem_singleton.mp hb]; exact isSome_of hg⟩
    · refine wpAny_pyIter_longrange ht (by simpa using hsm) (h _ (fun _ _ e => Heap.get?_push_of_some _ e) ⟨rfl, rfl, rfl⟩ (itObj_new (by decide)) ?_)
      refine ⟨_, _, _, _, 0, Walks.longrange (A := X.A) b.hh _ lo 1 (hi - lo).toNat, ?_, by simp, fun c hc => .inl (List.mem_singleton.mp hc), ?_, fun j v hj hv => tail j v _ hj hv⟩
      · show IsLongIter (s.heap.push _) _ _ _ _
        rw [hsz]
        simpa using (Heap.get?_push_size s.heap (o := { cls := .type "longrange_iterator", data := .fields #[rawInt lo, rawInt (((hi - lo).toNat : Nat) : Int), rawInt 1] }) rfl)
      · rintro j g hg
        exact ⟨⟨_, "longrange_iterator", _, hg, rfl, rfl, by decide⟩, fun b hb => by rw [List.mem_singleton.mp hb]; exact isSome_of hg⟩
  | _ => cases hl

theorem Ok.itCx (o : Ok G X sc s ρ σ) : ItCx (X.ban [s.heap.objs.size]) s.heap.objs.size where
  inF := List.mem_append_left _ (.head _)
  nW := fun m => (List.mem_append.mp m).elim (fun m => o.new (o.WF _ m)) fun m => o.new (o.δF _ m)
  ng := by
    obtain ⟨m, F⟩ := o.F
    show X.g.get? s.heap.objs.size = none
    cases q : X.g.get? s.heap.objs.size with
    | none => rfl
    | some x => exact absurd (Heap.lt_size (F.keep _ _ q)) (Nat.lt_irrefl _)
  nL := fun e => by
    obtain ⟨m, F⟩ := o.F
    exact absurd F.ns.lt (Nat.not_lt.mpr (Nat.le_of_eq e))
  nC := fun m => by
    rcases List.mem_cons.mp m with e | m
    · obtain ⟨_, hn, _⟩ := o.ns
      exact absurd hn.lt (Nat.not_lt.mpr (Nat.le_of_eq e))
    · obtain ⟨v, x, hx, _⟩ := o.ca _ m
      exact absurd (Heap.lt_size hx) (Nat.lt_irrefl _)

/-- what was banned is written and let go -/
theorem Ok.effUnban {h' : Heap} {tk : Nat} (hW : ∀ a ∈ X.W, a ∈ X.F) (hδ : ∀ d ∈ X.δ, d ∈ X.F) (hIF : I ∉ X.F) (c : ItCx (X.ban [I]) I) (o : Ok G (X.ban [I]) sc s ρ σ) (e : Eff [I] s.heap h') : Ok G X sc { s with heap := h', toks := tk } ρ σ where
  hh := o.hh
  fr := o.fr
  frm := o.frm
  fk := o.fk
  below := o.below
  kin := o.kin
  top := o.top
  F := by
    obtain ⟨m, F⟩ := o.F
    obtain ⟨x, es, ep, ho, r⟩ := F.ns
    exact ⟨m, ⟨⟨x, es, ep, e _ _ (fun m => c.nL (List.mem_singleton.mp m).symm) ho, r⟩, fun b x hb => e b x (fun m => isSome_of hb (by rw [List.mem_singleton.mp m]; exact c.ng)) (F.keep b x hb), F.above⟩⟩
  δg := o.δg
  δL := o.δL
  δF := hδ
  δn := o.δn
  st := (o.st.eff (W := [I]) (fun a ha => List.mem_append_left _ ha) (fun a ha m => c.nW (List.mem_append_right _ (List.mem_singleton.mp ha ▸ m))) e).unban
  al := fun a ha => by
    show h'.get? a ≠ none
    cases q : s.heap.get? a with
    | none => exact absurd q (o.al a (List.mem_append_right _ ha))
    | some x => exact isSome_of (e a x (fun m => hIF (List.mem_singleton.mp m ▸ ha)) q)
  hsc := o.hsc
  sck := o.sck
  gl := o.gl
  bl := o.bl
  WF := hW
  Wg := o.Wg
  nd := o.nd
  Wδ := o.Wδ
  Lf := o.Lf
  ns := by
    obtain ⟨m, ⟨x, es, ep, ho, r⟩, h⟩ := o.ns
    exact ⟨m, ⟨x, es, ep, e _ _ (fun m => c.nC (by rw [← List.mem_singleton.mp m]; exact .head _)) ho, r⟩, fun y pv h1 h2 => let ⟨v, h3, h4⟩ := h y pv h1 h2; ⟨v, h3, (h4.eff (fun a ha => List.mem_append_left _ ha) e).anti fun _ m => List.mem_append_right _ m⟩⟩
  cells := fun y pv h1 h2 => by
    obtain ⟨d, v, hc', ⟨x, ho, hd'⟩, hr⟩ := o.cells y pv h1 h2
    exact ⟨d, v, hc', ⟨x, e _ _ (fun m => c.nC (by rw [← List.mem_singleton.mp m]; exact .tail _ (mem_cs hc'))) ho, hd'⟩, (hr.eff (fun a ha => List.mem_append_left _ ha) e).anti fun _ m => List.mem_append_right _ m⟩
  cellsx := fun y h1 => by
    obtain ⟨d, v, hc', ⟨x, ho, hd'⟩⟩ := o.cellsx y h1
    exact ⟨d, v, hc', ⟨x, e _ _ (fun m => c.nC (by rw [← List.mem_singleton.mp m]; exact .tail _ (mem_cs hc'))) ho, hd'⟩⟩
  ca := fun d hc' => let ⟨v, x, ho, hd'⟩ := o.ca d hc'; ⟨v, x, e _ _ (fun m => c.nC (by rw [← List.mem_singleton.mp m]; exact .tail _ hc')) ho, hd'⟩

/-- a loop's outcome: the iterator I is written too -/
def PostI (G : Gl) (X : Cx) (sc : Scope) (I : Addr) (s : Shared) : Out → (Flow → Shared → Prop) → Prop
  | .next ρ σ, Q => ∀ s', Ok G X sc s' ρ σ → Eff (I :: (X.W ++ X.δ)) s.heap s'.heap → Same s s' → Q .next s'
  | .ret r σ, Q => ∀ s' v, Base G X s' σ → Eff (I :: (X.W ++ X.δ)) s.heap s'.heap → Same s s' → Rep X.δ X.F s'.heap r v → Q (.ret v) s'
theorem PostI.step {s s₁ : Shared} {out : Out} {Q : Flow → Shared → Prop} (h : PostI G X sc I s out Q) (e : Eff (I :: (X.W ++ X.δ)) s.heap s₁.heap) (m : Same s s₁) : PostI G X sc I s₁ out Q := by
  cases out with
  | next ρ σ => exact fun s' o' e' m' => h s' o' (e.trans e') (m.trans m')
  | ret r σ => exact fun s' v b' e' m' r' => h s' v b' (e.trans e') (m.trans m') r'
theorem Eff.ofI {h h' : Heap} (e : Eff [I] h h') : Eff (I :: (X.W ++ X.δ)) h h' := e.mono fun a ha => by rw [List.mem_singleton.mp ha]; exact .head _
theorem Eff.tl {h h' : Heap} (e : Eff (X.W ++ X.δ) h h') : Eff (I :: (X.W ++ X.δ)) h h' := e.mono fun a ha => .tail _ ha

/-- a for loop over the items rem -/
def Fl (G : Gl) (k : Nat) (sc : Scope) (t : Expr) (body : List Stmt) (rem : List PV) (ρ : Vars) (σ : Store) (out : Out) : Prop :=
  ∀ (X : Cx) (s : Shared) (I : Addr), (∀ a ∈ X.W, a ∈ X.F) → (∀ d ∈ X.δ, d ∈ X.F) → I ∉ X.F → Ok G (X.ban [I]) sc s ρ σ → Room k X.A → X.own = true → ItCx (X.ban [I]) I → IterAt G (X.ban [I]) I rem s.heap → ∀ (R : Result → Shared → Prop),
    PostI G X sc I s out (fun f s' => R (.ok f) s') → codeAny (model G.prog G.w) X.A (.forLoop t (.ref I) body [] X.env) R s
end
section
variable {G : Gl} {k : Nat} {sc : Scope} {ρ ρ₁ ρ₂ : Vars} {σ σ₁ σ₂ σ₃ : Store} {pos : Pos} {out : Out} {t : Expr} {body : List Stmt} {rem : List PV} {p r : PV}

/-- one turn of the machine's loop -/
theorem codeAny_forTurn {prog : Program} {w : World} {A : Around} {R : Result → Shared → Prop} {s : Shared} {target : Expr} {it : Value} {body orelse : List Stmt} {env : Env}
    (h : wpAny (model prog w) A (pyNext it) (fun r s₁ => match r with
      | none => codeAny (model prog w) A (.block orelse env) R s₁
      | some v => wpAny (model prog w) A (letOwnedTupleGo target it v) (fun _ s₁ => wpAny (model prog w) A (assign target env v) (fun _ s₂ => wpAny (model prog w) A (execs body env) (fun f s₃ => match f with
          | .next | .cont => codeAny (model prog w) A (.forLoop target it body orelse env) R s₃
          | .brk => R (.ok .next) s₃
          | .ret v => R (.ok (.ret v)) s₃) (notedBy (model prog w) A env fun e s' => R (.error e) s') s₂) (notedBy (model prog w) A env fun e s' => R (.error e) s') s₁) (notedBy (model prog w) A env fun e s' => R (.error e) s') s₁)
      (notedBy (model prog w) A env fun e s' => R (.error e) s') s) : codeAny (model prog w) A (.forLoop target it body orelse env) R s := by
  refine codeAny_of_tree ?_
  show wpAny _ A ((forTurn target it body orelse env).onRaise (fun x => do noteFrame x env; theTreesLotGoes x)) _ _ s
  refine wpAny_noted ?_
  simp only [forTurn]
  refine wpAny_bind (wpAny_standAt (wpAny_bind (wpAny_onRaise (wpAny_mono h (fun r s₁ h₁ => ?_) fun _ _ h' => wpAny_standAt h'))))
  cases r with
  | none => exact wpAny_pure ⟨rfl, h₁⟩
  | some v =>
    refine wpAny_bind (wpAny_mono h₁ (fun _ s₁ h₁ => wpAny_bind (wpAny_mono h₁ (fun _ s₂ h₂ => wpAny_bind (wpAny_mono h₂ (fun f s₃ h₃ => ?_) fun _ _ h' => h')) fun _ _ h' => h')) fun _ _ h' => h')
    cases f with
    | next => exact wpAny_pure ⟨rfl, h₃⟩
    | cont => exact wpAny_pure ⟨rfl, h₃⟩
    | brk => exact wpAny_pure h₃
    | ret v => exact wpAny_pure h₃

theorem fl_nil : Fl G k sc t body [] ρ σ (.next ρ σ) := fun X s I hW hδ hIF o hr ho c x R h => by
  refine codeAny_forTurn (x.done fun h' tk e => codeAny_block (wpAny_execs_nil ?_))
  exact h _ (o.effUnban hW hδ hIF c e) (Eff.ofI e) ⟨rfl, rfl, rfl⟩
theorem ban_W (X : Cx) (N : List Addr) : (X.ban N).W = X.W := rfl
theorem fl_next (h1 : Asg G k sc true ρ t p ρ₁) (h2 : Ex G k sc ρ₁ σ body (.next ρ₂ σ₂)) (h3 : Fl G k sc t body rem ρ₂ σ₂ out) : Fl G k sc t body (p :: rem) ρ σ out := fun X s I hW hδ hIF o hr ho c x R h => by
  refine codeAny_forTurn (x.next (List.mem_append_left _ (.head _)) fun v h' tk rv x' e => ?_)
  have o' := o.effI (tk := tk) c e x'.obj.alive
  refine ItObj.letGo x'.obj ?_
  refine h1 (X.ban [I]) _ σ v o' hr ho rv _ _ fun s₂ o₂ e₂ m₂ => ?_
  have x₂ := x'.eff e₂ (fun a ha => (List.mem_append.mp ha).elim (o.WF a) (o.δF a)) c.nW
  refine h2 (X.ban [I]) s₂ o₂ hr ho _ _ fun s₃ o₃ e₃ m₃ => ?_
  have x₃ := x₂.eff e₃ (fun a ha => (List.mem_append.mp ha).elim (o.WF a) (o.δF a)) c.nW
  exact h3 X s₃ I hW hδ hIF o₃ hr ho c x₃ R (h.step ((Eff.ofI e).trans ((Eff.tl e₂).trans (Eff.tl e₃))) (Same.trans ⟨rfl, rfl, rfl⟩ (m₂.trans m₃)))
theorem fl_ret (h1 : Asg G k sc true ρ t p ρ₁) (h2 : Ex G k sc ρ₁ σ body (.ret r σ₂)) : Fl G k sc t body (p :: rem) ρ σ (.ret r σ₂) := fun X s I hW hδ hIF o hr ho c x R h => by
  refine codeAny_forTurn (x.next (List.mem_append_left _ (.head _)) fun v h' tk rv x' e => ?_)
  have o' := o.effI (tk := tk) c e x'.obj.alive
  refine ItObj.letGo x'.obj ?_
  refine h1 (X.ban [I]) _ σ v o' hr ho rv _ _ fun s₂ o₂ e₂ m₂ => ?_
  refine h2 (X.ban [I]) s₂ o₂ hr ho _ _ fun s₃ u b₃ e₃ m₃ r₃ => ?_
  exact h s₃ u (b₃.unban hδ) ((Eff.ofI e).trans ((Eff.tl e₂).trans (Eff.tl e₃))) (Same.trans ⟨rfl, rfl, rfl⟩ (m₂.trans m₃)) (r₃.anti fun _ m => List.mem_append_right _ m)
theorem fl_weaken (h : Fl G k sc t body rem ρ₁ σ out) (hw : ∀ y pv, ρ₁.lookup y = some pv → ρ.lookup y = some pv) : Fl G k sc t body rem ρ σ out := fun X s I hW hδ hIF o hr ho c x R hq => h X s I hW hδ hIF (o.weaken hw) hr ho c x R hq

theorem ex1_for {iter : Expr} {a : PV} {l : List PV} (h1 : Ev G k sc ρ σ iter a σ₁) (hl : itemsOf a = some l) (h2 : Fl G k sc t body l ρ σ₁ out) (hs : ∀ env x, foldedSetIterable iter env x = pure x) : Ex1 G k sc ρ σ (.For t iter body [] pos) out := fun X s o hr ho Q E h => by
  refine wpAny_For (h1 X s o hr _ _ fun s₁ v o₁ e₁ m₁ r₁ => ?_) (hs _)
  refine pyIter_ok o₁.toBase hl r₁ fun s₂ k₂ m₂ hi x => ?_
  have hnew : ∀ a ∈ [s₁.heap.objs.size], s₁.heap.get? a = none := fun a ha => by rw [List.mem_singleton.mp ha]; exact size_free _
  have o₂ := o₁.ban hnew k₂ (fun a ha => by rw [List.mem_singleton.mp ha]; exact hi.alive)
  refine h2 X s₂ _ o₁.WF o₁.δF o₁.new o₂ hr ho o₁.itCx x _ ?_
  have step : ∀ {h' : Heap}, Eff (s₁.heap.objs.size :: (X.W ++ X.δ)) s₂.heap h' → Eff (X.W ++ X.δ) s.heap h' := fun {h'} e => e₁.δW.trans (((Eff.of_keeps k₂).trans e).fresh (size_free _))
  cases out with
  | next ρ' σ' => exact fun s' o' e' m' => h s' o' (step e') ((m₁.trans m₂).trans m')
  | ret r' σ' => exact fun s' u b' e' m' r' => h s' u b' (step e') ((m₁.trans m₂).trans m') r'
end
end Mine

/- J8 -/
namespace Mine

def relabelS (scope sc : Scope) : Scope := { scope with names := scope.names.map fun (n, k) => if (k == .free && sc.kind == .function && sc.names.lookup n == some .cell) then (n, .cell) else (n, k) }
theorem relabel_eq {scope sc : Scope} {env : Env} (h : env.scope = sc) : relabel scope env = relabelS scope sc := by
  unfold relabel relabelS Env.kindOf
  rw [h]

/-- the cells that a comprehension's frame takes over -/
def clOf (env : Env) : List (Str × NameKind) → List (Str × Addr) → List (Str × Addr)
  | [], acc => acc
  | (n, k) :: r, acc => if k == .free then clOf env r ((n, (env.cells.lookup n).getD 0) :: acc) else clOf env r acc

theorem closure_loop {env : Env} : ∀ (names : List (Str × NameKind)) (acc : List (Str × Addr)), (∀ x ∈ names, x.2 = .free → (env.cells.lookup x.1).isSome = true) →
    (forIn names acc fun (x : Str × NameKind) (cs : List (Str × Addr)) => (match x with | (name, kind) => if (kind == .free) = true then (do let c ← cellOf env name; pure (ForInStep.yield ((name, c) :: cs))) else pure (ForInStep.yield cs) : Sem (ForInStep (List (Str × Addr))))) = (pure (clOf env names acc) : Sem (List (Str × Addr)))
  | [], acc, _ => by rw [List.forIn_nil]; rfl
  | (n, k) :: r, acc, h => by
    rw [List.forIn_cons]
    unfold clOf
    have hr : ∀ x ∈ r, x.2 = .free → (env.cells.lookup x.1).isSome = true := fun x hx => h x (List.mem_cons_of_mem _ hx)
    by_cases hk : (k == .free) = true
    · simp only [hk, if_true]
      obtain ⟨c, hc⟩ := Option.isSome_iff_exists.mp (h (n, k) List.mem_cons_self (beq_iff_eq.mp hk))
      have hc : env.cells.lookup n = some c := hc
      have : cellOf env n = pure c := by unfold cellOf; rw [hc]
      rw [this, hc]
      simp only [pure_bind, Option.getD_some]
      exact closure_loop r _ hr
    · simp only [hk, if_false, pure_bind, Bool.false_eq_true]
      exact closure_loop r _ hr
theorem closureFor_eq {scope : Scope} {env : Env} (h : ∀ x ∈ scope.names, x.2 = .free → (env.cells.lookup x.1).isSome = true) : closureFor scope env = pure (clOf env scope.names []) := by
  have := closure_loop scope.names [] h
  unfold closureFor
  simp only [bind_pure_comp]
  first
    | exact this
    | (show (forIn scope.names [] _ >>= fun cs => pure cs) = _
       rw [bind_pure]; exact this)

theorem clOf_mem {env : Env} : ∀ {names : List (Str × NameKind)} {acc : List (Str × Addr)} {n : Str} {c : Addr}, (∀ x ∈ names, x.2 = .free → (env.cells.lookup x.1).isSome = true) → (n, c) ∈ clOf env names acc →
    (n, c) ∈ acc ∨ (env.cells.lookup n = some c ∧ (n, NameKind.free) ∈ names)
  | [], acc, n, c, _, h => .inl h
  | (x, k) :: r, acc, n, c, hs, h => by
    have hr : ∀ x ∈ r, x.2 = .free → (env.cells.lookup x.1).isSome = true := fun x hx => hs x (List.mem_cons_of_mem _ hx)
    unfold clOf at h
    by_cases hk : (k == .free) = true
    · rw [if_pos hk] at h
      rcases clOf_mem hr h with h | ⟨h1, h2⟩
      · rcases List.mem_cons.mp h with e | h
        · obtain ⟨e1, e2⟩ := Prod.mk.inj e
          subst e1
          obtain ⟨d, hd⟩ := Option.isSome_iff_exists.mp (hs (n, k) List.mem_cons_self (beq_iff_eq.mp hk))
          have hd : env.cells.lookup n = some d := hd
          rw [hd, Option.getD_some] at e2
          subst e2
          exact .inr ⟨hd, by rw [beq_iff_eq.mp hk]; exact List.mem_cons_self⟩
        · exact .inl h
      · exact .inr ⟨h1, List.mem_cons_of_mem _ h2⟩
    · rw [if_neg hk] at h
      rcases clOf_mem hr h with h | ⟨h1, h2⟩
      · exact .inl h
      · exact .inr ⟨h1, List.mem_cons_of_mem _ h2⟩
theorem clOf_has {env : Env} : ∀ {names : List (Str × NameKind)} {acc : List (Str × Addr)} {n : Str}, ((n, NameKind.free) ∈ names ∨ (acc.lookup n).isSome = true) → ((clOf env names acc).lookup n).isSome = true
  | [], acc, n, h => h.elim (fun h => nomatch h) id
  | (x, k) :: r, acc, n, h => by
    unfold clOf
    by_cases hk : (k == .free) = true
    · rw [if_pos hk]
      refine clOf_has ?_
      by_cases hx : n == x
      · exact .inr (by rw [List.lookup_cons, hx]; rfl)
      · rcases h with h | h
        · rcases List.mem_cons.mp h with e | h
          · cases e; simp at hx
          · exact .inl h
        · refine .inr ?_
          rw [List.lookup_cons]
          simp only [Bool.not_eq_true] at hx
          rw [hx]; exact h
    · rw [if_neg hk]
      refine clOf_has (h.imp (fun h => ?_) id)
      rcases List.mem_cons.mp h with e | h
      · cases e; simp at hk
      · exact h
theorem clOf_lookup {env : Env} {names : List (Str × NameKind)} {n : Str} {c : Addr} (hs : ∀ x ∈ names, x.2 = .free → (env.cells.lookup x.1).isSome = true) (h : (n, NameKind.free) ∈ names) (hc : env.cells.lookup n = some c) : (clOf env names []).lookup n = some c := by
  obtain ⟨d, hd⟩ := Option.isSome_iff_exists.mp (clOf_has (env := env) (names := names) (acc := []) (.inl h))
  rcases clOf_mem hs (mem_of_lookup hd) with q | ⟨q, _⟩
  · cases q
  · rw [hc] at q; cases q; exact hd
theorem clOf_nodup {env : Env} (hp : env.cells.Pairwise fun x y => x.2 ≠ y.2) : ∀ {names : List (Str × NameKind)} {acc : List (Str × Addr)}, (∀ x ∈ names, x.2 = .free → (env.cells.lookup x.1).isSome = true) → (names.map (·.1)).Nodup →
    (acc.map (·.2)).Nodup → (∀ x ∈ acc, env.cells.lookup x.1 = some x.2 ∧ x.1 ∉ names.map (·.1)) → ((clOf env names acc).map (·.2)).Nodup
  | [], acc, _, _, h, _ => h
  | (x, k) :: r, acc, hs, hn, h, ha => by
    have hr : ∀ x ∈ r, x.2 = .free → (env.cells.lookup x.1).isSome = true := fun x hx => hs x (List.mem_cons_of_mem _ hx)
    obtain ⟨hn1, hn2⟩ := List.nodup_cons.mp (by simpa using hn : (x :: r.map (·.1)).Nodup)
    unfold clOf
    by_cases hk : (k == .free) = true
    · rw [if_pos hk]
      obtain ⟨d, hd⟩ := Option.isSome_iff_exists.mp (hs (x, k) List.mem_cons_self (beq_iff_eq.mp hk))
      have hd : env.cells.lookup x = some d := hd
      rw [hd, Option.getD_some]
      refine clOf_nodup hp hr hn2 ?_ fun y hy => ?_
      · rw [List.map_cons]
        refine List.nodup_cons.mpr ⟨fun m => ?_, h⟩
        obtain ⟨y, hy, e⟩ := List.mem_map.mp m
        obtain ⟨h1, h2⟩ := ha y hy
        have : y.1 = x := name_of_addr hp (mem_of_lookup h1) (by rw [show y.2 = d from e]; exact mem_of_lookup hd)
        exact h2 (by rw [this]; simp)
      · rcases List.mem_cons.mp hy with rfl | hy
        · exact ⟨hd, hn1⟩
        · exact ⟨(ha y hy).1, fun m => (ha y hy).2 (by simp at m ⊢; exact .inr m)⟩
    · rw [if_neg hk]
      exact clOf_nodup hp hr hn2 h fun y hy => ⟨(ha y hy).1, fun m => (ha y hy).2 (by simp at m ⊢; exact .inr m)⟩

theorem lookup_map2 {α β : Type} (f : Str → α → β) (x : Str) : ∀ l : List (Str × α), (l.map fun y => (y.1, f y.1 y.2)).lookup x = (l.lookup x).map (f x)
  | [] => rfl
  | (n, k) :: r => by
    rw [List.map_cons, List.lookup_cons, List.lookup_cons]
    cases hx : x == n with
    | true => rw [beq_iff_eq.mp hx]; rfl
    | false => exact lookup_map2 f x r
theorem lookup_relabelS {scope sc : Scope} (x : Str) : (relabelS scope sc).names.lookup x = (scope.names.lookup x).map fun k => if (k == .free && sc.kind == .function && sc.names.lookup x == some .cell) then .cell else k := by
  rw [← lookup_map2 (fun n k => if (k == .free && sc.kind == .function && sc.names.lookup n == some .cell) then NameKind.cell else k)]
  unfold relabelS
  dsimp only
  congr 1
  refine List.map_congr_left fun y _ => ?_
  obtain ⟨n, k⟩ := y
  dsimp only
  split <;> rfl

/-- a test loop of a comprehension -/
abbrev testsOf (ifs : List Expr) (env : Env) : Sem Bool := forIn ifs true fun c r => if r = true then do let ok ← isTrue c env (eval c env); pure (ForInStep.yield ok) else pure (ForInStep.yield r)

theorem compTurn_last (elt : Expr) (gens : List Comprehension) (scope : Scope) (pos : Pos) (depth : Nat) (it acc : Value) (env : Env) {target iter : Expr} {ifs : List Expr} (hg : gens[depth]? = some ⟨target, iter, ifs, 0⟩) (hn : gens[depth + 1]? = none) :
    compTurn (.ListComp elt gens scope pos) depth it acc env = (standAt iter.pos >>= fun _ => pyNext it >>= fun r => match r with
      | none => pure (.done .next)
      | some v => letOwnedTupleGo target it v >>= fun _ => assign target env v >>= fun _ => testsOf ifs env >>= fun ok =>
          if ok = true then ((eval elt env >>= fun x => call (.builtin "list.append") [acc, x] >>= fun _ => pure ()) >>= fun (_ : Unit) => again (.compLoop (.ListComp elt gens scope pos) depth it acc env))
          else again (.compLoop (.ListComp elt gens scope pos) depth it acc env)) := by
  unfold compTurn
  simp only [hg, hn]
  rfl
theorem compTurn_more (elt : Expr) (gens : List Comprehension) (scope : Scope) (pos : Pos) (depth : Nat) (it acc : Value) (env : Env) {target iter target' iter' : Expr} {ifs ifs' : List Expr} (hg : gens[depth]? = some ⟨target, iter, ifs, 0⟩) (hn : gens[depth + 1]? = some ⟨target', iter', ifs', 0⟩) :
    compTurn (.ListComp elt gens scope pos) depth it acc env = (standAt iter.pos >>= fun _ => pyNext it >>= fun r => match r with
      | none => pure (.done .next)
      | some v => letOwnedTupleGo target it v >>= fun _ => assign target env v >>= fun _ => testsOf ifs env >>= fun ok =>
          if ok = true then (eval iter' env >>= fun x => standAt iter'.pos >>= fun _ => foldedSetIterable iter' env x >>= fun x => holding [x] (pyIter x) >>= fun j => runOwn (.compStart (.ListComp elt gens scope pos) (depth + 1) j acc env) env >>= fun _ => again (.compLoop (.ListComp elt gens scope pos) depth it acc env))
          else again (.compLoop (.ListComp elt gens scope pos) depth it acc env)) := by
  unfold compTurn
  simp only [hg, hn]
  rfl
end Mine

/- J9 -/
namespace Mine

/-- a comprehension's frame -/
def Cx.comp (X : Cx) (scope : Scope) (C D : Addr) : Cx := { X with env := compEnvC scope (clOf X.env scope.names []) C X.env, own := false, F := C :: D :: X.F }

def captured (sc : Scope) (x : Str) : Bool := sc.names.lookup x == some .cell
def capVars (sc : Scope) (ρ : Vars) : Vars := ρ.filter fun y => captured sc y.1
theorem lookup_filter {p : Str → Bool} {x : Str} {r : PV} : ∀ {ρ : Vars}, (ρ.filter fun y => p y.1).lookup x = some r → p x = true ∧ ρ.lookup x = some r
  | [], h => by cases h
  | (n, v) :: l, h => by
    rw [List.filter_cons] at h
    by_cases hx : x == n
    · have e := beq_iff_eq.mp hx
      subst e
      by_cases hp : p x = true
      · rw [if_pos hp, List.lookup_cons, hx] at h
        exact ⟨hp, by rw [List.lookup_cons, hx]; exact h⟩
      · rw [if_neg hp] at h
        obtain ⟨h1, _⟩ := lookup_filter h
        exact absurd h1 hp
    · simp only [Bool.not_eq_true] at hx
      rw [List.lookup_cons, hx]
      by_cases hp : p n = true
      · rw [if_pos hp, List.lookup_cons, hx] at h
        exact lookup_filter h
      · rw [if_neg hp] at h
        exact lookup_filter h

/-- what a comprehension's scope must be like, in a frame of the scope sc -/
structure CompOk (scope sc : Scope) : Prop where
  kind : scope.kind = .function
  nd : (scope.names.map (·.1)).Nodup
  free : ∀ x ∈ scope.names, x.2 = .free → sc.names.lookup x.1 = some .cell
  cell : ∀ x ∈ scope.names, x.2 ≠ .cell
  own : sc.kind = .function

section
variable {G : Gl} {X : Cx} {sc scope : Scope} {s s' : Shared} {ρ : Vars} {σ σ' : Store} {I C D : Addr}

theorem CompOk.has (c : CompOk scope sc) (o : Ok G X sc s ρ σ) : ∀ x ∈ scope.names, x.2 = .free → (X.env.cells.lookup x.1).isSome = true := fun x hx hf => by
  obtain ⟨d, v, hd, _⟩ := o.cellsx x.1 (c.free x hx hf)
  rw [hd]; rfl
theorem CompOk.relabel_cell (c : CompOk scope sc) {x : Str} (h : (relabelS scope sc).names.lookup x = some .cell) : (x, NameKind.free) ∈ scope.names ∧ sc.names.lookup x = some .cell := by
  rw [lookup_relabelS] at h
  obtain ⟨k, hk, e⟩ := Option.map_eq_some_iff.mp h
  have hm := mem_of_lookup hk
  by_cases hf : k = .free
  · subst hf
    exact ⟨hm, c.free _ hm rfl⟩
  · rw [if_neg (by simp [hf])] at e
    exact absurd e (c.cell _ hm)
theorem CompOk.relabel_free (c : CompOk scope sc) {x : Str} (h : (relabelS scope sc).names.lookup x = some .free) : False := by
  rw [lookup_relabelS] at h
  obtain ⟨k, hk, e⟩ := Option.map_eq_some_iff.mp h
  have hm := mem_of_lookup hk
  by_cases hf : k = .free
  · subst hf
    have := c.free _ hm rfl
    rw [if_pos (by simp [this, c.own])] at e
    cases e
  · rw [if_neg (by simp [hf])] at e
    exact hf e

/-- the frame of a comprehension as it starts -/
theorem Ok.comp (c : CompOk scope sc) (o : Ok G X sc s ρ σ) (hI : s.heap.get? I = none) (hC : s.heap.get? C = none) (hD : s.heap.get? D = none) (hIC : I ≠ C) (hLC : X.Lf ≠ C)
    (k : ∀ b o, s.heap.get? b = some o → s'.heap.get? b = some o) (hn : s'.heap.Ns C fun _ => none) (aI : s'.heap.get? I ≠ none) (aD : s'.heap.get? D ≠ none) :
    Ok G ((X.comp scope C D).ban [I]) (relabelS scope sc) s' (capVars (relabelS scope sc) ρ) σ := by
  have hnew : ∀ a ∈ [I, C, D], s.heap.get? a = none := fun a ha => by
    simp only [List.mem_cons, List.not_mem_nil, or_false] at ha
    rcases ha with rfl | rfl | rfl <;> assumption
  have hal : ∀ a ∈ [I, C, D], s'.heap.get? a ≠ none := fun a ha => by
    simp only [List.mem_cons, List.not_mem_nil, or_false] at ha
    rcases ha with rfl | rfl | rfl
    · exact aI
    · exact ns_alive hn
    · exact aD
  have hbase : Base G (X.ban [I, C, D]) s' σ := o.toBase.ban hnew k hal
  have hg : X.g.get? C = none := by
    obtain ⟨m, F⟩ := o.F
    cases q : X.g.get? C with
    | none => rfl
    | some x => exact absurd hC (isSome_of (F.keep _ _ q))
  have hcl : ∀ d ∈ ((X.comp scope C D).ban [I]).cs, d ∈ X.cs := fun d hd => by
    obtain ⟨⟨n, e⟩, hm, rfl⟩ := List.mem_map.mp hd
    rcases clOf_mem (c.has o) hm with q | ⟨q, _⟩
    · cases q
    · exact mem_cs q
  exact
    { hh := hbase.hh, fr := hbase.fr, frm := hbase.frm, fk := hbase.fk, below := hbase.below, kin := hbase.kin, top := hbase.top, F := hbase.F, δg := hbase.δg, δL := hbase.δL, δF := hbase.δF, δn := hbase.δn, st := hbase.st, al := hbase.al
      hsc := relabel_eq o.hsc
      sck := c.kind
      gl := o.gl
      bl := o.bl
      WF := fun a ha => by
        have : a = C := List.mem_singleton.mp ha
        rw [this]; exact List.mem_cons_of_mem _ (.head _)
      Wg := fun a ha => by
        have : a = C := List.mem_singleton.mp ha
        rw [this]; exact hg
      nd := List.nodup_cons.mpr ⟨fun m => by
        obtain ⟨v, x, hx, _⟩ := o.ca _ (hcl _ m)
        exact absurd hC (isSome_of hx), clOf_nodup (pairwise_cs (List.nodup_cons.mp o.nd).2) (c.has o) c.nd List.nodup_nil (fun _ h => nomatch h)⟩
      Wδ := fun a ha => by
        rcases List.mem_cons.mp ha with e | ha
        · have e : a = C := e
          rw [e]
          exact fun m => o.al _ (o.δF _ m) hC
        · exact o.Wδ _ (.tail _ (hcl _ ha))
      Lf := .inr fun m => hLC (List.mem_singleton.mp m)
      ns := ⟨_, hn, fun x pv hx hk => by
        obtain ⟨h1, _⟩ := lookup_filter (p := captured (relabelS scope sc)) hx
        rw [captured, hk] at h1
        cases h1⟩
      cells := fun x pv hx hk => by
        obtain ⟨h1, h2⟩ := lookup_filter (p := captured (relabelS scope sc)) hx
        have hc := c.relabel_cell (beq_iff_eq.mp h1)
        obtain ⟨d, v, hd, hv, hr⟩ := o.cells x pv h2 (.inl hc.2)
        exact ⟨d, v, clOf_lookup (c.has o) hc.1 hd, hv.keeps k, (hr.fresh hnew).eff (W := []) (fun _ h => nomatch h) (.of_keeps k)⟩
      cellsx := fun x hk => by
        have hc := c.relabel_cell hk
        obtain ⟨d, v, hd, hv⟩ := o.cellsx x hc.2
        exact ⟨d, v, clOf_lookup (c.has o) hc.1 hd, hv.keeps k⟩
      ca := fun d hd => let ⟨v, h⟩ := o.ca d (hcl d hd); ⟨v, h.keeps k⟩ }

/-- the list that is built -/
def Acc (δ F : List Addr) (D : Addr) (outs : List PV) (h : Heap) : Prop := ∃ ys : List Value, h.PlainList D ys.toArray ∧ Reps δ F h outs ys
theorem Acc.eff {δ F W : List Addr} {outs : List PV} {h h' : Heap} (x : Acc δ F D outs h) (e : Eff W h h') (hF : ∀ a ∈ W, a ∈ F) (hD : D ∉ W) : Acc δ F D outs h' := by
  obtain ⟨ys, ⟨n, ho⟩, hr⟩ := x
  exact ⟨ys, ⟨n, e D _ hD ho⟩, hr.eff hF e⟩

/-- the turns of a comprehension's clause at depth d -/
def Cl (G : Gl) (k : Nat) (sc : Scope) (elt : Expr) (gens : List Comprehension) (scope : Scope) (pos : Pos) (d : Nat) (ρ : Vars) (σ : Store) (rem outs : List PV) : Prop :=
  ∀ (X : Cx) (s : Shared) (I D : Addr) (outs₀ : List PV), (∀ a ∈ X.W, a ∈ X.F) → (∀ d ∈ X.δ, d ∈ X.F) → I ∉ X.F → Ok G (X.ban [I]) sc s ρ σ → Room k X.A → X.own = false → ItCx (X.ban [I]) I → ItCx X D → IterAt G (X.ban [I]) I rem s.heap → Acc X.δ (X.ban [I]).F D outs₀ s.heap →
    outs₀.length + outs.length ≤ 1000000 → ∀ (R : Result → Shared → Prop),
    (∀ s', Ok G X sc s' ρ σ → Acc X.δ X.F D (outs₀ ++ outs) s'.heap → Eff (I :: D :: (X.W ++ X.δ)) s.heap s'.heap → Same s s' → R (.ok .next) s') → codeAny (model G.prog G.w) X.A (.compLoop (.ListComp elt gens scope pos) d (.ref I) (.ref D) X.env) R s
end

section
variable {G : Gl} {X : Cx} {sc scope : Scope} {s s' : Shared} {ρ ρ₁ : Vars} {σ σ' : Store} {I C D : Addr} {k : Nat} {elt : Expr} {gens : List Comprehension} {pos : Pos} {d : Nat} {rem outs outs₁ : List PV} {p r a : PV} {b : Bool}

theorem codeAny_compTurn {prog : Program} {w : World} {A : Around} {R : Result → Shared → Prop} {s : Shared} {it acc : Value} {env : Env}
    (h : wpAny (model prog w) A (compTurn (.ListComp elt gens scope pos) d it acc env) (fun fin s' => match fin with | .done f => R (.ok f) s' | .again c' => c'.quiet = true ∧ codeAny (model prog w) A c' R s') (notedBy (model prog w) A env fun e s' => R (.error e) s') s) :
    codeAny (model prog w) A (.compLoop (.ListComp elt gens scope pos) d it acc env) R s := by
  refine codeAny_of_tree ?_
  show wpAny _ A ((compTurn (.ListComp elt gens scope pos) d it acc env).onRaise (fun x => do noteFrame x env; theTreesLotGoes x)) _ _ s
  exact wpAny_noted h
theorem codeAny_compStart {prog : Program} {w : World} {A : Around} {R : Result → Shared → Prop} {s : Shared} {it acc : Value} {env : Env} {g : Comprehension} (hg : gens[d]? = some g) (ha : g.is_async = 0)
    (h0 : codeAny (model prog w) A (.compLoop (.ListComp elt gens scope pos) d it acc env) R s)
    (h : wpAny (model prog w) A (pyIter it) (fun it' s' => codeAny (model prog w) A (.compLoop (.ListComp elt gens scope pos) d it' acc env) R s') (notedBy (model prog w) A env fun e s' => R (.error e) s') s) :
    codeAny (model prog w) A (.compStart (.ListComp elt gens scope pos) d it acc env) R s := by
  refine codeAny_of_tree ?_
  show wpAny _ A ((compStart (.ListComp elt gens scope pos) d it acc env).onRaise (fun x => do noteFrame x env; standAt theWindowsPlace)) _ _ s
  refine wpAny_notedAt ?_
  unfold compStart
  simp only [show clausesOf (.ListComp elt gens scope pos) = gens from rfl, hg, Option.elim, ha]
  show wpAny _ A (ask >>= _) _ _ s
  refine wpAny_bind (wpAny_askSetting (wpAny_ite ?_))
  split
  · first
      | exact wpAny_bind (wpAny_pure (wpAny_pure (And.intro rfl h0)))
      | exact wpAny_pure (And.intro rfl h0)
  · first
      | exact wpAny_bind (wpAny_rule (wpAny_bind (wpAny_standAt (wpAny_bind (wpAny_mono h (fun it' s' h' => wpAny_pure (And.intro rfl h')) fun _ _ x => x)))))
      | (refine wpAny_bind (wpAny_rule ?_); show wpAny _ _ (standAt _ >>= _) _ _ s; exact wpAny_bind (wpAny_standAt (wpAny_bind (wpAny_mono h (fun it' s' h' => wpAny_pure (And.intro rfl h')) fun _ _ x => x))))
theorem IterAt.self (x : IterAt G X I rem s.heap) {Q : Value → Shared → Prop} {E : Value → Shared → Prop} (h : Q (.ref I) s) : wpAny (model G.prog G.w) X.A (pyIter (.ref I)) Q E s := by
  obtain ⟨fp, n, P, St, i, w, st, _⟩ := x
  exact w.self i s Q E st h

/-- the tests of a clause -/
def Tsts (G : Gl) (k : Nat) (sc : Scope) (ρ : Vars) (σ : Store) (ifs : List Expr) (b : Bool) : Prop :=
  ∀ (X : Cx) (s : Shared), Ok G X sc s ρ σ → Room k X.A → ∀ (Q : Bool → Shared → Prop) (E : Value → Shared → Prop),
    (∀ s', Ok G X sc s' ρ σ → Eff X.δ s.heap s'.heap → Same s s' → Q b s') → wpAny (model G.prog G.w) X.A (testsOf ifs X.env) Q E s
theorem tsts_nil : Tsts G k sc ρ σ [] true := fun X s o hr Q E h => wpAny_tests_nil (h s o (Eff.refl _ _) (Same.refl _))
theorem tsts_one {c : Expr} (h1 : Tst G k sc ρ σ c b σ) : Tsts G k sc ρ σ [c] b := fun X s o hr Q E h => wpAny_tests_one (h1 X s o hr Q E h)

theorem cl_nil {target iter : Expr} {ifs : List Expr} (hg : gens[d]? = some ⟨target, iter, ifs, 0⟩) (hn : gens[d + 1]? = none ∨ ∃ target' iter' ifs', gens[d + 1]? = some ⟨target', iter', ifs', 0⟩) : Cl G k sc elt gens scope pos d ρ σ [] [] := fun X s I D outs₀ hW hδ hIF o hr ho c cD x y hsz R h => by
  refine codeAny_compTurn ?_
  have fin : wpAny G.M X.A (pyNext (.ref I)) (fun r s' => r = none ∧ R (.ok .next) s') (notedBy G.M X.A X.env fun e s' => R (.error e) s') s := by
    refine x.done fun h' tk e => ⟨rfl, ?_⟩
    refine h _ (o.effUnban hW hδ hIF c e) ?_ (e.mono fun a ha => by rw [List.mem_singleton.mp ha]; exact .head _) ⟨rfl, rfl, rfl⟩
    have hD : D ∉ [I] := fun m => hIF (List.mem_singleton.mp m ▸ cD.inF)
    obtain ⟨ys, hy, hr⟩ := y.eff e (fun a ha => List.mem_append_left _ ha) hD
    exact ⟨ys, hy, by rw [List.append_nil]; exact hr.anti fun _ m => List.mem_append_right _ m⟩
  rcases hn with hn | ⟨target', iter', ifs', hn⟩
  · rw [compTurn_last elt gens scope pos d _ _ _ hg hn]
    refine wpAny_bind (wpAny_standAt (wpAny_bind (wpAny_mono fin (fun r s' hr => ?_) fun _ _ e => e)))
    obtain ⟨rfl, hr⟩ := hr
    exact wpAny_pure hr
  · rw [compTurn_more elt gens scope pos d _ _ _ hg hn]
    refine wpAny_bind (wpAny_standAt (wpAny_bind (wpAny_mono fin (fun r s' hr => ?_) fun _ _ e => e)))
    obtain ⟨rfl, hr⟩ := hr
    exact wpAny_pure hr

theorem ItCx.ban {N : List Addr} (c : ItCx X D) : ItCx (X.ban N) D := ⟨List.mem_append_right _ c.inF, c.nW, c.ng, c.nL, c.nC⟩

/-- one more item of the list that is built -/
theorem Acc.push {outs₀ : List PV} {v : Value} (c : ItCx X D) (o : Ok G X sc s ρ σ) (y : Acc X.δ X.F D outs₀ s.heap) (hv : Rep X.δ X.F s.heap r v) (hsz : outs₀.length + 1 ≤ 1000000) {Q : Value → Shared → Prop} {E : Value → Shared → Prop}
    (h : ∀ s', Ok G X sc s' ρ σ → Acc X.δ X.F D (outs₀ ++ [r]) s'.heap → Eff [D] s.heap s'.heap → Same s s' → Q .none s') : wpAny (model G.prog G.w) X.A (call (.builtin "list.append") [.ref D, v]) Q E s := by
  obtain ⟨ys, hy, hr⟩ := y
  have hl := hr.length
  refine wpAny_list_append_plain hy (fun h' hl' hs' => ?_) (by simp only [List.size_toArray]; rw [sizeLine_eq]; omega)
  have e : Eff [D] s.heap h' := Eff.sameBut hs' (.head _)
  have hal : h'.get? D ≠ none := by obtain ⟨x, hx⟩ := hl'; exact isSome_of hx
  have hF : ∀ a ∈ [D], a ∈ X.F := fun a ha => by rw [List.mem_singleton.mp ha]; exact c.inF
  refine h _ (o.effI (tk := s.toks) c e hal) ⟨ys ++ [v], ?_, (hr.eff hF e).append (Reps.one (hv.eff hF e))⟩ e ⟨rfl, rfl, rfl⟩
  rwa [show ys.toArray.push v = (ys ++ [v]).toArray by simp] at hl'

theorem cl_last {target iter : Expr} {ifs : List Expr} (hg : gens[d]? = some ⟨target, iter, ifs, 0⟩) (hn : gens[d + 1]? = none) (ha : Asg G k sc false ρ target p ρ₁) (ht : Tsts G k sc ρ₁ σ ifs b) (he : b = true → Ev G k sc ρ₁ σ elt r σ)
    (hw : ∀ y pv, ρ.lookup y = some pv → ρ₁.lookup y = some pv) (hrest : Cl G k sc elt gens scope pos d ρ σ rem outs) : Cl G k sc elt gens scope pos d ρ σ (p :: rem) ((if b then [r] else []) ++ outs) := fun X s I D outs₀ hW hδ hIF o hr ho c cD x y hsz R h => by
  refine codeAny_compTurn ?_
  rw [compTurn_last elt gens scope pos d _ _ _ hg hn]
  have hDI : D ∉ [I] := fun m => hIF (List.mem_singleton.mp m ▸ cD.inF)
  have cD' : ItCx (X.ban [I]) D := cD.ban
  refine wpAny_bind (wpAny_standAt (wpAny_bind (x.next (List.mem_append_left _ (.head _)) fun v h' tk rv x' e => ?_)))
  have o' := o.effI (tk := tk) c e x'.obj.alive
  have y' := y.eff e (fun a ha => List.mem_append_left _ ha) hDI
  refine wpAny_bind (ItObj.letGo x'.obj (wpAny_bind ?_))
  refine ha (X.ban [I]) _ σ v o' hr ho rv _ _ fun s₂ o₂ e₂ m₂ => ?_
  have x₂ := x'.eff e₂ (fun a ha => (List.mem_append.mp ha).elim (o.WF a) (o.δF a)) c.nW
  have y₂ := y'.eff e₂ (fun a ha => (List.mem_append.mp ha).elim (o.WF a) (o.δF a)) cD'.nW
  refine wpAny_bind (ht (X.ban [I]) s₂ o₂ hr _ _ fun s₃ o₃ e₃ m₃ => ?_)
  have nδ : I ∉ (X.ban [I]).δ := fun m => c.nW (List.mem_append_right _ m)
  have nδD : D ∉ (X.ban [I]).δ := fun m => cD'.nW (List.mem_append_right _ m)
  have x₃ := x₂.eff e₃ o.δF nδ
  have y₃ := y₂.eff e₃ o.δF nδD
  have E₃ : Eff (I :: D :: (X.W ++ X.δ)) s.heap s₃.heap := (e.mono fun a ha => by rw [List.mem_singleton.mp ha]; exact .head _).trans ((e₂.mono fun a ha => .tail _ (.tail _ ha)).trans (e₃.mono fun a ha => .tail _ (.tail _ (List.mem_append_right _ ha))))
  have M₃ : Same s s₃ := Same.trans ⟨rfl, rfl, rfl⟩ (m₂.trans m₃)
  cases b with
  | false =>
    simp only [Bool.false_eq_true, if_false, List.nil_append] at hsz h ⊢
    refine wpAny_pure ⟨rfl, ?_⟩
    exact hrest X s₃ I D outs₀ hW hδ hIF (o₃.weaken hw) hr ho c cD x₃ y₃ hsz R fun s' o' a' e' m' => h s' o' a' (E₃.trans e') (M₃.trans m')
  | true =>
    simp only [if_true] at hsz h ⊢
    refine wpAny_bind (wpAny_bind (he rfl (X.ban [I]) s₃ o₃ hr _ _ fun s₄ u o₄ e₄ m₄ r₄ => ?_))
    have x₄ := x₃.eff e₄ o.δF nδ
    have y₄ := y₃.eff e₄ o.δF nδD
    refine wpAny_bind (Acc.push cD' o₄ y₄ r₄ (by simp only [List.length_append, List.length_cons, List.length_nil] at hsz; omega) fun s₅ o₅ y₅ e₅ m₅ => wpAny_pure (wpAny_pure ⟨rfl, ?_⟩))
    have hF : ∀ a ∈ [D], a ∈ (X.ban [I]).F := fun a ha => by rw [List.mem_singleton.mp ha]; exact cD'.inF
    have x₅ := x₄.eff e₅ hF (fun m => hDI (by rw [List.mem_singleton.mp m]; exact .head _))
    refine hrest X s₅ I D (outs₀ ++ [r]) hW hδ hIF (o₅.weaken hw) hr ho c cD x₅ y₅ (by simp only [List.length_append, List.length_cons, List.length_nil] at hsz ⊢; omega) R fun s' o' a' e' m' => ?_
    refine h s' o' (by rw [List.append_assoc] at a'; exact a') (E₃.trans ((e₄.mono fun a ha => .tail _ (.tail _ (List.mem_append_right _ ha))).trans ((e₅.mono fun a ha => by rw [List.mem_singleton.mp ha]; exact .tail _ (.head _)).trans e'))) (M₃.trans (m₄.trans (m₅.trans m')))
end
end Mine

/- J10 -/
namespace Mine

section
variable {G : Gl} {X : Cx} {sc scope : Scope} {s s' s₁ : Shared} {ρ ρ₁ : Vars} {σ σ' : Store} {I C D : Addr} {k : Nat} {elt : Expr} {gens : List Comprehension} {pos : Pos} {d : Nat} {rem outs outs₁ l : List PV} {p r a : PV} {b : Bool}

theorem cl_more {target iter target' iter' : Expr} {ifs ifs' : List Expr} (hg : gens[d]? = some ⟨target, iter, ifs, 0⟩) (hn : gens[d + 1]? = some ⟨target', iter', ifs', 0⟩) (ha : Asg G k sc false ρ target p ρ₁) (ht : Tsts G k sc ρ₁ σ ifs b)
    (hi : b = true → Ev G k sc ρ₁ σ iter' a σ) (hl : itemsOf a = some l) (hc : b = true → Cl G k sc elt gens scope pos (d + 1) ρ₁ σ l outs₁) (hs : ∀ env x, foldedSetIterable iter' env x = pure x)
    (hw : ∀ y pv, ρ.lookup y = some pv → ρ₁.lookup y = some pv) (hrest : Cl G k sc elt gens scope pos d ρ σ rem outs) : Cl G k sc elt gens scope pos d ρ σ (p :: rem) ((if b then outs₁ else []) ++ outs) := fun X s I D outs₀ hW hδ hIF o hr ho c cD x y hsz R h => by
  refine codeAny_compTurn ?_
  rw [compTurn_more elt gens scope pos d _ _ _ hg hn]
  have hDI : D ∉ [I] := fun m => hIF (List.mem_singleton.mp m ▸ cD.inF)
  have cD' : ItCx (X.ban [I]) D := cD.ban
  refine wpAny_bind (wpAny_standAt (wpAny_bind (x.next (List.mem_append_left _ (.head _)) fun v h' tk rv x' e => ?_)))
  have o' := o.effI (tk := tk) c e x'.obj.alive
  have y' := y.eff e (fun a ha => List.mem_append_left _ ha) hDI
  refine wpAny_bind (ItObj.letGo x'.obj (wpAny_bind ?_))
  refine ha (X.ban [I]) _ σ v o' hr ho rv _ _ fun s₂ o₂ e₂ m₂ => ?_
  have x₂ := x'.eff e₂ (fun a ha => (List.mem_append.mp ha).elim (o.WF a) (o.δF a)) c.nW
  have y₂ := y'.eff e₂ (fun a ha => (List.mem_append.mp ha).elim (o.WF a) (o.δF a)) cD'.nW
  refine wpAny_bind (ht (X.ban [I]) s₂ o₂ hr _ _ fun s₃ o₃ e₃ m₃ => ?_)
  have nδ : I ∉ (X.ban [I]).δ := fun m => c.nW (List.mem_append_right _ m)
  have nδD : D ∉ (X.ban [I]).δ := fun m => cD'.nW (List.mem_append_right _ m)
  have x₃ := x₂.eff e₃ o.δF nδ
  have y₃ := y₂.eff e₃ o.δF nδD
  have E₃ : Eff (I :: D :: (X.W ++ X.δ)) s.heap s₃.heap := (e.mono fun a ha => by rw [List.mem_singleton.mp ha]; exact .head _).trans ((e₂.mono fun a ha => .tail _ (.tail _ ha)).trans (e₃.mono fun a ha => .tail _ (.tail _ (List.mem_append_right _ ha))))
  have M₃ : Same s s₃ := Same.trans ⟨rfl, rfl, rfl⟩ (m₂.trans m₃)
  cases b with
  | false =>
    simp only [Bool.false_eq_true, if_false, List.nil_append] at hsz h ⊢
    refine wpAny_pure ⟨rfl, ?_⟩
    exact hrest X s₃ I D outs₀ hW hδ hIF (o₃.weaken hw) hr ho c cD x₃ y₃ hsz R fun s' o' a' e' m' => h s' o' a' (E₃.trans e') (M₃.trans m')
  | true =>
    simp only [if_true] at hsz h ⊢
    refine wpAny_bind (hi rfl (X.ban [I]) s₃ o₃ hr _ _ fun s₄ u o₄ e₄ m₄ r₄ => wpAny_bind (wpAny_standAt ?_))
    rw [hs]
    have x₄ := x₃.eff e₄ o.δF nδ
    have y₄ := y₃.eff e₄ o.δF nδD
    refine wpAny_bind (wpAny_pure (wpAny_bind (wpAny_holding (pyIter_ok o₄.toBase hl r₄ fun s₅ k₅ m₅ hi₅ x₅ => wpAny_bind (wpAny_runOwn ?_)))))
    have hnew : ∀ a ∈ [s₄.heap.objs.size], s₄.heap.get? a = none := fun a ha => by rw [List.mem_singleton.mp ha]; exact size_free _
    have o₅ := o₄.ban hnew k₅ (fun a ha => by rw [List.mem_singleton.mp ha]; exact hi₅.alive)
    have y₅ : Acc X.δ ((X.ban [I]).ban [s₄.heap.objs.size]).F D outs₀ s₅.heap := by
      obtain ⟨ys, hy, hry⟩ := y₄
      exact ⟨ys, hy.at fun o e => k₅ _ _ e, (hry.fresh hnew).eff (W := []) (fun _ h => nomatch h) (.of_keeps k₅)⟩
    have inner := hc rfl (X.ban [I]) s₅ s₄.heap.objs.size D outs₀ o₄.WF o₄.δF o₄.new o₅ hr ho o₄.itCx cD' x₅ y₅ (by simp only [List.length_append] at hsz; omega)
    have body : codeAny G.M X.A (.compLoop (.ListComp elt gens scope pos) (d + 1) (.ref s₄.heap.objs.size) (.ref D) X.env) (fun r s' => match r with
        | .ok f => wpAny G.M X.A (again (.compLoop (.ListComp elt gens scope pos) d (.ref I) (.ref D) X.env)) (fun fin s' => match fin with | .done f => R (.ok f) s' | .again c' => c'.quiet = true ∧ codeAny G.M X.A c' R s') (notedBy G.M X.A X.env fun e s' => R (.error e) s') s'
        | .error e => cameBackBy G.M X.A X.env (notedBy G.M X.A X.env fun e s' => R (.error e) s') e s') s₅ := by
      refine inner _ fun s₆ o₆ y₆ e₆ m₆ => ?_
      refine wpAny_pure ⟨rfl, ?_⟩
      have E₆ : Eff (D :: (X.W ++ X.δ)) s₄.heap s₆.heap := ((Eff.of_keeps k₅).trans e₆).fresh (size_free _)
      have hF : ∀ a ∈ D :: (X.W ++ X.δ), a ∈ (X.ban [I]).F := fun a ha => by
        rcases List.mem_cons.mp ha with rfl | ha
        · exact cD'.inF
        · exact (List.mem_append.mp ha).elim (o.WF a) (o.δF a)
      have x₆ := x₄.eff E₆ hF (fun m => (List.mem_cons.mp m).elim (fun e => hDI (by rw [e]; exact .head _)) c.nW)
      refine hrest X s₆ I D (outs₀ ++ outs₁) hW hδ hIF (o₆.weaken hw) hr ho c cD x₆ y₆ (by simp only [List.length_append] at hsz ⊢; omega) R fun s' o' a' e' m' => ?_
      exact h s' o' (by rw [List.append_assoc] at a'; exact a') (E₃.trans ((e₄.mono fun a ha => .tail _ (.tail _ (List.mem_append_right _ ha))).trans ((E₆.mono fun a ha => .tail _ ha).trans e'))) (M₃.trans (m₄.trans (m₅.trans (m₆.trans m'))))
    refine codeAny_compStart hn rfl body ?_
    exact IterAt.self x₅ body

theorem Ok.afterFresh {N : List Addr} (x : Ok G X sc s ρ σ) (hn : ∀ a ∈ N, s.heap.get? a = none) (b : Base G (X.ban N) s' σ') (e : Eff X.δ s.heap s'.heap) : Ok G (X.ban N) sc s' ρ σ' where
  toBase := b
  hsc := x.hsc
  sck := x.sck
  gl := x.gl
  bl := x.bl
  WF := fun a ha => List.mem_append_right _ (x.WF a ha)
  Wg := x.Wg
  nd := x.nd
  Wδ := x.Wδ
  Lf := x.Lf
  ns := by
    obtain ⟨m, ⟨o, es, ep, ho, r⟩, h⟩ := x.ns
    exact ⟨m, ⟨o, es, ep, e _ _ (x.Wδ _ (.head _)) ho, r⟩, fun y pv h1 h2 => let ⟨v, h3, h4⟩ := h y pv h1 h2; ⟨v, h3, (h4.fresh hn).eff (fun a ha => List.mem_append_right _ (x.δF a ha)) e⟩⟩
  cells := fun y pv h1 h2 => by
    obtain ⟨c, v, hc, ⟨o, ho, hd⟩, hr⟩ := x.cells y pv h1 h2
    exact ⟨c, v, hc, ⟨o, e _ _ (x.Wδ _ (.tail _ (mem_cs hc))) ho, hd⟩, (hr.fresh hn).eff (fun a ha => List.mem_append_right _ (x.δF a ha)) e⟩
  cellsx := fun y h1 => by
    obtain ⟨c, v, hc, ⟨o, ho, hd⟩⟩ := x.cellsx y h1
    exact ⟨c, v, hc, ⟨o, e _ _ (x.Wδ _ (.tail _ (mem_cs hc))) ho, hd⟩⟩
  ca := fun c hc => let ⟨v, o, ho, hd⟩ := x.ca c hc; ⟨v, o, e _ _ (x.Wδ _ (.tail _ hc)) ho, hd⟩

theorem lookup_nodup {α : Type} : ∀ {l : List (Str × α)} {n : Str} {v : α}, (l.map (·.1)).Nodup → (n, v) ∈ l → l.lookup n = some v
  | (x, u) :: r, n, v, h, m => by
    obtain ⟨h1, h2⟩ := List.nodup_cons.mp (by simpa using h : (x :: r.map (·.1)).Nodup)
    rw [List.lookup_cons]
    rcases List.mem_cons.mp m with e | m
    · obtain ⟨rfl, rfl⟩ := Prod.mk.inj e
      simp
    · have hx : (n == x) = false := beq_eq_false_iff_ne.mpr fun e => h1 (e ▸ List.mem_map.mpr ⟨_, m, rfl⟩)
      rw [hx]; exact lookup_nodup h2 m
theorem CompOk.names (c : CompOk scope sc) : ∀ x ∈ scope.names, x.2 = .local → scope.names.lookup x.1 = some .local := fun x hx hl => hl ▸ lookup_nodup c.nd hx

/-- a comprehension, up to its end -/
theorem comp_core {target iter : Expr} {ifs : List Expr} {rest : List Comprehension} {use : Option (Value → Sem Unit)} (hgens : gens = ⟨target, iter, ifs, 0⟩ :: rest) (hc : CompOk scope sc) (h1 : Ev G k sc ρ σ iter a σ) (hl : itemsOf a = some l)
    (h2 : Cl G k (relabelS scope sc) elt gens scope pos 0 (capVars (relabelS scope sc) ρ) σ l outs) (hsz : outs.length ≤ 1000000) (hs : ∀ env x, foldedSetIterable iter env x = pure x)
    (o : Ok G X sc s ρ σ) (hr : Room k X.A) {Q E : Value → Shared → Prop} {p' : Pos}
    (h : ∀ (s' : Shared) (C D : Addr), (∃ m, s'.heap.Ns C m) → C ∉ X.F → D ∉ X.F → D ≠ C → C ∉ X.W → C ∉ X.δ → ItCx ((X.ban [D]).ban [C]) C → Ok G ((X.ban [D]).ban [C]) sc s' ρ σ → Rep X.δ (C :: X.F) s'.heap (.lst outs) (.ref D) → Eff X.δ s.heap s'.heap → s.heap.get? C = none → s.heap.get? D = none → Same s s' → compPost G.M X.A E use Q (.ref D) C (.ok .next) s') :
    wpAny (model G.prog G.w) X.A (comprehension (.ListComp elt gens scope pos) scope X.env p' (newList []) false (eval iter X.env) use) Q E s := by
  refine wpAny_comprehension_free (use := use) (g := ⟨target, iter, ifs, 0⟩) (gs := rest) hgens (fun x => hs _ x) (closureFor_eq (hc.has o)) hc.kind hc.names ?_
  refine h1 X s o hr _ _ fun s₁ x o₁ e₁ m₁ r₁ => ?_
  refine pyIter_ok o₁.toBase hl r₁ fun s₂ k₂ m₂ hi₂ x₂ => ?_
  refine wpAny_newObj_type ?_
  refine wpAny_newFunctionEnv hc.cell (by intro y hy; simp at hy) (fun h₁ hns₁ hsb₁ => ?_) hc.kind
  dsimp only at hns₁ hsb₁ ⊢
  generalize hH2 : s₂.heap.push { cls := .type "list", dict := none, data := .seq ([] : List Value).toArray } = H2 at hns₁ hsb₁ ⊢
  have old₂ : ∀ b o, s₂.heap.get? b = some o → h₁.get? b = some o := fun b o e => by
    have hlt := Heap.lt_size e
    have hC : H2.objs.size = s₂.heap.objs.size + 1 := by rw [← hH2, Heap.size_push]
    exact hsb₁.extBut b o (by rw [hC]; exact Nat.ne_of_lt (Nat.lt_succ_of_lt hlt)) (Heap.get?_push_of_some _ (hH2 ▸ Heap.get?_push_of_some _ e))
  have old : ∀ b o, s₁.heap.get? b = some o → h₁.get? b = some o := fun b o e => old₂ b o (k₂ b o e)
  have hI₂ : s₁.heap.objs.size < s₂.heap.objs.size := by obtain ⟨ob, _, _, ho, _⟩ := hi₂; exact Heap.lt_size ho
  have hH : H2.objs.size = s₂.heap.objs.size + 1 := by rw [← hH2, Heap.size_push]
  have fresh : ∀ c, s₁.heap.objs.size ≤ c → s₁.heap.get? c = none := fun c hc => by
    cases q : s₁.heap.get? c with
    | none => rfl
    | some ob => exact absurd (Heap.lt_size q) (Nat.not_lt.mpr hc)
  have fI := fresh s₁.heap.objs.size (Nat.le_refl _)
  have fD := fresh s₂.heap.objs.size (Nat.le_of_lt hI₂)
  have fC := fresh H2.objs.size (by rw [hH]; exact Nat.le_succ_of_le (Nat.le_of_lt hI₂))
  have nIC : s₁.heap.objs.size ≠ H2.objs.size := by rw [hH]; exact Nat.ne_of_lt (Nat.lt_succ_of_lt hI₂)
  have nID : s₁.heap.objs.size ≠ s₂.heap.objs.size := Nat.ne_of_lt hI₂
  have nDC : s₂.heap.objs.size ≠ H2.objs.size := by rw [hH]; exact Nat.ne_of_lt (Nat.lt_succ_self _)
  have aL : s₁.heap.get? X.Lf ≠ none := by obtain ⟨m, F⟩ := o₁.F; exact ns_alive F.ns
  have nLC : X.Lf ≠ H2.objs.size := fun e => aL (e ▸ fC)
  have nLD : X.Lf ≠ s₂.heap.objs.size := fun e => aL (e ▸ fD)
  have aI : h₁.get? s₁.heap.objs.size ≠ none := by obtain ⟨ob, _, _, ho, _⟩ := hi₂; exact isSome_of (old₂ _ _ ho)
  have lD : h₁.PlainList s₂.heap.objs.size ([] : List Value).toArray := ⟨0, hsb₁.extBut _ _ nDC (Heap.get?_push_of_some _ (hH2 ▸ Heap.get?_push_size _ rfl))⟩
  have aD : h₁.get? s₂.heap.objs.size ≠ none := by obtain ⟨ob, ho⟩ := lD; exact isSome_of ho
  have o₄ : Ok G ((X.comp scope H2.objs.size s₂.heap.objs.size).ban [s₁.heap.objs.size]) (relabelS scope sc) { s₂ with heap := h₁, toks := s₂.toks + ([] : List (Str × Value)).length } (capVars (relabelS scope sc) ρ) σ :=
    Ok.comp (s' := { s₂ with heap := h₁, toks := s₂.toks + ([] : List (Str × Value)).length }) hc o₁ fI fC fD nIC nLC old hns₁ aI aD
  have gnone : ∀ c, s₁.heap.get? c = none → X.g.get? c = none := fun c hc => by
    obtain ⟨m, F⟩ := o₁.F
    cases q : X.g.get? c with
    | none => rfl
    | some x => exact absurd hc (isSome_of (F.keep _ _ q))
  have csub : ∀ c ∈ (X.comp scope H2.objs.size s₂.heap.objs.size).cs, c ∈ X.cs := fun c hm0 => by
    obtain ⟨⟨n, e⟩, hm, rfl⟩ := List.mem_map.mp hm0
    have hm : (n, e) ∈ clOf X.env scope.names [] := hm
    rcases clOf_mem (hc.has o₁) hm with q | ⟨q, _⟩
    · cases q
    · exact mem_cs q
  have nC : ∀ c, s₁.heap.get? c = none → c ∉ X.cs := fun c hc hm => by
    obtain ⟨v, x, hx, _⟩ := o₁.ca c hm
    exact absurd hc (isSome_of hx)
  have nδ : ∀ c, s₁.heap.get? c = none → c ∉ X.δ := fun c hc hm => o₁.al c (o₁.δF c hm) hc
  have nW : ∀ c, s₁.heap.get? c = none → c ∉ X.W := fun c hc hm => o₁.al c (o₁.WF c hm) hc
  have nF : ∀ c, s₁.heap.get? c = none → c ∉ X.F := fun c hc hm => o₁.al c hm hc
  have cI : ItCx ((X.comp scope H2.objs.size s₂.heap.objs.size).ban [s₁.heap.objs.size]) s₁.heap.objs.size :=
    ⟨.head _, fun m => (List.mem_append.mp m).elim (fun m => nIC (List.mem_singleton.mp m)) (nδ _ fI), gnone _ fI, fun e => aL (by rw [show X.Lf = s₁.heap.objs.size from e.symm]; exact fI),
      fun m => (List.mem_cons.mp m).elim nIC fun m => nC _ fI (csub _ m)⟩
  have cD : ItCx (X.comp scope H2.objs.size s₂.heap.objs.size) s₂.heap.objs.size :=
    ⟨.tail _ (.head _), fun m => (List.mem_append.mp m).elim (fun m => nDC (List.mem_singleton.mp m)) (nδ _ fD), gnone _ fD, fun e => nLD e.symm,
      fun m => (List.mem_cons.mp m).elim nDC fun m => nC _ fD (csub _ m)⟩
  have x₄ : IterAt G ((X.comp scope H2.objs.size s₂.heap.objs.size).ban [s₁.heap.objs.size]) s₁.heap.objs.size l h₁ := by
    obtain ⟨fp, n, P, St, i, w, st, hn, hfp, hi, hp⟩ := x₂
    have hfr : ∀ c ∈ [H2.objs.size, s₂.heap.objs.size], s₂.heap.get? c = none := fun c hc => by
      cases q : s₂.heap.get? c with
      | none => rfl
      | some ob =>
        have := Heap.lt_size q
        simp only [List.mem_cons, List.not_mem_nil, or_false] at hc
        rcases hc with rfl | rfl
        · rw [hH] at this; exact absurd this (Nat.not_lt.mpr (Nat.le_succ _))
        · exact absurd this (Nat.lt_irrefl _)
    refine ⟨fp, n, P, St, i, w, w.frame i _ _ st (fun b _ o e => old₂ b o e), hn, fun b hb => ?_, hi, fun j v hj hv => ?_⟩
    · rcases hfp b hb with e | q
      · exact .inl e
      · refine .inr fun m => ?_
        have hb2 := (hi i _ st).2 b hb
        have m : b ∈ s₁.heap.objs.size :: H2.objs.size :: s₂.heap.objs.size :: X.F := m
        rcases List.mem_cons.mp m with e | m
        · exact q (e ▸ .head _)
        · rcases List.mem_cons.mp m with e | m
          · exact hb2 (e ▸ hfr _ (.head _))
          · rcases List.mem_cons.mp m with e | m
            · exact hb2 (e ▸ hfr _ (.tail _ (.head _)))
            · exact q (.tail _ m)
    · obtain ⟨p, hp, rp⟩ := hp j v hj hv
      refine ⟨p, hp, ?_⟩
      have := (rp.fresh hfr).eff (W := []) (h' := h₁) (fun _ h => nomatch h) (.of_keeps old₂)
      refine this.anti fun c hc => ?_
      have hc : c ∈ s₁.heap.objs.size :: H2.objs.size :: s₂.heap.objs.size :: X.F := hc
      show c ∈ H2.objs.size :: s₂.heap.objs.size :: s₁.heap.objs.size :: X.F
      simp only [List.mem_cons] at hc ⊢
      rcases hc with h | h | h | h
      · exact .inr (.inr (.inl h))
      · exact .inl h
      · exact .inr (.inl h)
      · exact .inr (.inr (.inr h))
  have y₄ : Acc X.δ ((X.comp scope H2.objs.size s₂.heap.objs.size).ban [s₁.heap.objs.size]).F s₂.heap.objs.size [] h₁ := ⟨[], lD, Reps.nil⟩
  have hA : Room k (X.comp scope H2.objs.size s₂.heap.objs.size).A := hr
  have main := h2 (X.comp scope H2.objs.size s₂.heap.objs.size) _ s₁.heap.objs.size s₂.heap.objs.size [] (fun c hc => by rw [List.mem_singleton.mp hc]; exact .head _) (fun c hc => .tail _ (.tail _ (o₁.δF c hc)))
    (fun m => by
      have m : s₁.heap.objs.size ∈ H2.objs.size :: s₂.heap.objs.size :: X.F := m
      rcases List.mem_cons.mp m with e | m
      · exact nIC e
      · rcases List.mem_cons.mp m with e | m
        · exact nID e
        · exact nF _ fI m) o₄ hA rfl cI cD x₄ y₄ (by simpa using hsz) (compPost G.M X.A E use Q (.ref s₂.heap.objs.size) H2.objs.size) ?_
  · have hst : gens[0]? = some ⟨target, iter, ifs, 0⟩ := by rw [hgens]; rfl
    exact codeAny_compStart (A := X.A) (env := compEnvC scope (clOf X.env scope.names []) H2.objs.size X.env) hst rfl main (IterAt.self (X := (X.comp scope H2.objs.size s₂.heap.objs.size).ban [s₁.heap.objs.size]) (s := { s₂ with heap := h₁, toks := s₂.toks + ([] : List (Str × Value)).length }) x₄ main)
  · intro s₆ o₆ y₆ e₆ m₆
    rw [List.nil_append] at y₆
    obtain ⟨ys, hy, hry⟩ := y₆
    have e₇ : Eff X.δ s₁.heap s₆.heap := ((((Eff.of_keeps old).trans e₆).fresh fI).fresh fD).fresh fC
    have bs : Base G (X.ban [H2.objs.size, s₂.heap.objs.size]) s₆ σ := { hh := o₆.hh, fr := o₆.fr, frm := o₆.frm, fk := o₆.fk, below := o₆.below, kin := o₆.kin, top := o₆.top, F := o₆.F, δg := o₆.δg, δL := o₆.δL, δF := o₆.δF, δn := o₆.δn, st := o₆.st, al := o₆.al }
    have hnew : ∀ c ∈ [H2.objs.size, s₂.heap.objs.size], s₁.heap.get? c = none := fun c hc => by
      simp only [List.mem_cons, List.not_mem_nil, or_false] at hc
      rcases hc with rfl | rfl
      · exact fC
      · exact fD
    have o₇ : Ok G (X.ban [H2.objs.size, s₂.heap.objs.size]) sc s₆ ρ σ := Ok.afterFresh o₁ hnew bs e₇
    have back : ∀ c, s₁.heap.get? c = none → s.heap.get? c = none := fun c hc => by
      cases q : s.heap.get? c with
      | none => rfl
      | some ob =>
        by_cases hm : c ∈ X.δ
        · exact absurd hc (o₁.al c (o₁.δF c hm))
        · exact absurd hc (isSome_of (e₁ c ob hm q))
    refine h s₆ H2.objs.size s₂.heap.objs.size (let ⟨m, hm, _⟩ := o₆.ns; ⟨m, hm⟩) (nF _ fC) (nF _ fD) nDC (nW _ fC) (nδ _ fC) ⟨.head _, fun m => (List.mem_append.mp m).elim (nW _ fC) (nδ _ fC), gnone _ fC, fun e => nLC e.symm, fun m => (List.mem_cons.mp m).elim (fun e => nW _ fC (e ▸ .head _)) (nC _ fC)⟩
      o₇ ⟨_, ys, rfl, fun m => (List.mem_cons.mp m).elim nDC (nF _ fD), hy, hry.anti fun c hc => ?_⟩ (e₁.trans e₇) (back _ fC) (back _ fD) ((m₁.trans m₂).trans m₆)
    show c ∈ H2.objs.size :: s₂.heap.objs.size :: X.F
    exact (List.mem_cons.mp hc).elim (fun e => e ▸ .head _) fun m => .tail _ (.tail _ m)

/-- the same frame with fewer forbidden addresses -/
theorem Ok.antiF {F' : List Addr} (o : Ok G X sc s ρ σ) (hs : ∀ a ∈ F', a ∈ X.F) (hW : ∀ a ∈ X.W, a ∈ F') (hδ : ∀ a ∈ X.δ, a ∈ F') : Ok G { X with F := F' } sc s ρ σ where
  hh := o.hh
  fr := o.fr
  frm := o.frm
  fk := o.fk
  below := o.below
  kin := o.kin
  top := o.top
  F := o.F
  δg := o.δg
  δL := o.δL
  δF := hδ
  δn := o.δn
  st := ⟨o.st.1, fun i d l h1 h2 => let ⟨vs, a, b, c⟩ := o.st.2 i d l h1 h2; ⟨vs, a, b.anti hs, c⟩⟩
  al := fun a ha => o.al a (hs a ha)
  hsc := o.hsc
  sck := o.sck
  gl := o.gl
  bl := o.bl
  WF := hW
  Wg := o.Wg
  nd := o.nd
  Wδ := o.Wδ
  Lf := o.Lf
  ns := let ⟨m, h1, h2⟩ := o.ns; ⟨m, h1, fun y pv e f => let ⟨v, h3, h4⟩ := h2 y pv e f; ⟨v, h3, h4.anti hs⟩⟩
  cells := fun y pv e f => let ⟨c, v, h1, h2, h3⟩ := o.cells y pv e f; ⟨c, v, h1, h2, h3.anti hs⟩
  cellsx := o.cellsx
  ca := o.ca

theorem ev_listcomp {target iter : Expr} {ifs : List Expr} {rest : List Comprehension} (hgens : gens = ⟨target, iter, ifs, 0⟩ :: rest) (hc : CompOk scope sc) (h1 : Ev G k sc ρ σ iter a σ) (hl : itemsOf a = some l)
    (h2 : Cl G k (relabelS scope sc) elt gens scope pos 0 (capVars (relabelS scope sc) ρ) σ l outs) (hsz : outs.length ≤ 1000000) (hs : ∀ env x, foldedSetIterable iter env x = pure x) :
    Ev G k sc ρ σ (.ListComp elt gens scope pos) (.lst outs) σ := fun X s o hr Q E h => by
  rw [eval_ListComp]
  rw [show firstAsync gens = false by rw [hgens]; rfl, show firstIter gens X.env = eval iter X.env by rw [hgens]; rfl]
  refine comp_core (use := none) hgens hc h1 hl h2 hsz hs o hr fun s' C D ⟨m, hm⟩ nC nD nDC nCW nCδ c o' rv e fC fD ms => ⟨m, hm, fun h' hs' => ?_⟩
  have eC : Eff [C] s'.heap h' := Eff.sameBut hs' (.head _)
  have o'' : Ok G (X.ban [D]) sc { s' with heap := h', toks := s'.toks } ρ σ := Ok.effUnban (X := X.ban [D]) (I := C) (fun a ha => .tail _ (o.WF a ha)) (fun a ha => .tail _ (o.δF a ha)) (fun m => (List.mem_cons.mp m).elim (fun e => nDC e.symm) nC) c o' eC
  exact h _ _ (o.unban o'') (((e.mono (W' := C :: X.δ) fun a ha => .tail _ ha).trans (eC.mono fun a ha => by rw [List.mem_singleton.mp ha]; exact .head _)).fresh fC) ms ((rv.eff (fun a ha => by rw [List.mem_singleton.mp ha]; exact .head _) eC).anti fun a ha => .tail _ ha)

/-- a name that takes a comprehension's list at once -/
theorem ex1_assign_comp {x : Str} {px pc : Pos} {target iter : Expr} {ifs : List Expr} {rest : List Comprehension} (hgens : gens = ⟨target, iter, ifs, 0⟩ :: rest) (hc : CompOk scope sc) (h1 : Ev G k sc ρ σ iter a σ) (hl : itemsOf a = some l)
    (h2 : Cl G k (relabelS scope sc) elt gens scope pc 0 (capVars (relabelS scope sc) ρ) σ l outs) (hsz : outs.length ≤ 1000000) (hs : ∀ env x, foldedSetIterable iter env x = pure x)
    (hk : sc.names.lookup x = some .local) (hsw : ∀ env : Env, env.scope = sc → swapsWith (.ListComp elt gens scope pc) (some (.Name x px)) pos.line env = pure true) :
    Ex1 G k sc ρ σ (.Assign [.Name x px] (.ListComp elt gens scope pc) pos) (.next ((x, .lst outs) :: ρ) σ) := fun X s o hr ho Q E h => by
  rw [exec_Assign_Name_used _ _ _ _ (hsw X.env o.hsc)]
  refine wpAny_bind (wpAny_standAt (wpAny_bind ?_))
  show wpAny _ X.A (do let _ ← comprehension (.ListComp elt gens scope pc) scope X.env _ (newList []) (firstAsync gens) (firstIter gens X.env) (some (assign (.Name x px) X.env))) _ _ s
  rw [show firstAsync gens = false by rw [hgens]; rfl, show firstIter gens X.env = eval iter X.env by rw [hgens]; rfl]
  refine wpAny_bind (wpAny_mono (comp_core (use := some (assign (.Name x px) X.env)) (Q := fun _ s' => Q .next s') hgens hc h1 hl h2 hsz hs o hr fun s' C D hn nC nD nDC nCW nCδ c o' rv e fC fD ms => ?_) (fun _ s' hq => wpAny_pure (wpAny_pure hq)) fun _ _ e => e)
  show wpAny G.M X.A (assign (.Name x px) X.env (.ref D)) _ E s'
  refine wpAny_assign_name ?_
  have oC : Ok G (X.ban [C]) sc s' ρ σ := Ok.antiF (X := (X.ban [D]).ban [C]) (F' := C :: X.F) o' (fun a ha => (List.mem_cons.mp ha).elim (fun e => e ▸ .head _) fun m => .tail _ (.tail _ m)) (fun a ha => .tail _ (o.WF a ha)) (fun a ha => .tail _ (o.δF a ha))
  refine Ok.store (X := X.ban [C]) (x := x) oC (.inl hk) rv fun s₂ o₂ e₂ m₂ => ?_
  have nCWδ : C ∉ X.W ++ X.δ := fun m => (List.mem_append.mp m).elim nCW nCδ
  obtain ⟨m, ⟨ob, es, ep, hob, r⟩⟩ := hn
  refine ⟨m, ⟨ob, es, ep, e₂ _ _ nCWδ hob, r⟩, fun h' hs' => ?_⟩
  have eC : Eff [C] s₂.heap h' := Eff.sameBut hs' (.head _)
  have o₃ : Ok G X sc { s₂ with heap := h', toks := s₂.toks } ((x, .lst outs) :: ρ) σ := Ok.effUnban (X := X) (I := C) o.WF o.δF nC ⟨.head _, c.nW, c.ng, c.nL, c.nC⟩ o₂ eC
  refine h _ o₃ ?_ (ms.trans m₂)
  exact (((e.δW.mono (W' := C :: (X.W ++ X.δ)) fun a ha => .tail _ ha).trans ((e₂.mono fun a ha => .tail _ ha).trans (eC.mono fun a ha => by rw [List.mem_singleton.mp ha]; exact .head _))).fresh fC)
end
end Mine

/- J11 -/
namespace Mine

theorem bindL_get {kindOf : Str → Option NameKind} {x : Str} : ∀ {names : List Str} {vals : List Value} {m : Str → Option Value}, names.Nodup → vals.length = names.length → kindOf x = some .local →
    bindL kindOf (names.zip vals) m x = ((names.zip vals).lookup x).or (m x)
  | [], vals, m, _, _, _ => by simp [bindL]
  | n :: r, v :: vs, m, hn, hl, hk => by
    obtain ⟨h1, h2⟩ := List.nodup_cons.mp hn
    rw [List.zip_cons_cons]
    unfold bindL
    rw [bindL_get h2 (by simpa using hl) hk, List.lookup_cons]
    cases hx : x == n with
    | true =>
      have e := beq_iff_eq.mp hx
      subst e
      rw [if_pos hk]
      have : (r.zip vs).lookup x = none := by
        cases q : (r.zip vs).lookup x with
        | none => rfl
        | some u => exact absurd (List.of_mem_zip (mem_of_lookup q)).1 h1
      rw [this]; simp
    | false =>
      have hne : x ≠ n := fun e => by rw [e] at hx; simp at hx
      split <;> simp [hne]
  | _ :: _, [], _, _, hl, _ => by simp at hl
theorem bindC_get {kindOf : Str → Option NameKind} {x : Str} : ∀ {names : List Str} {vals : List Value} {m : Str → Option Value}, names.Nodup → vals.length = names.length → kindOf x ≠ some .local →
    bindC kindOf (names.zip vals) m x = ((names.zip vals).lookup x).or (m x)
  | [], vals, m, _, _, _ => by simp [bindC]
  | n :: r, v :: vs, m, hn, hl, hk => by
    obtain ⟨h1, h2⟩ := List.nodup_cons.mp hn
    rw [List.zip_cons_cons]
    unfold bindC
    rw [bindC_get h2 (by simpa using hl) hk, List.lookup_cons]
    cases hx : x == n with
    | true =>
      have e := beq_iff_eq.mp hx
      subst e
      rw [if_neg hk]
      have : (r.zip vs).lookup x = none := by
        cases q : (r.zip vs).lookup x with
        | none => rfl
        | some u => exact absurd (List.of_mem_zip (mem_of_lookup q)).1 h1
      rw [this]; simp
    | false =>
      have hne : x ≠ n := fun e => by rw [e] at hx; simp at hx
      split <;> simp [hne]
  | _ :: _, [], _, _, hl, _ => by simp at hl

theorem zip_lookup {δ F : List Addr} {h : Heap} {x : Str} {pv : PV} : ∀ {names : List Str} {rs : List PV} {vals : List Value}, Reps δ F h rs vals → names.length = rs.length → (names.zip rs).lookup x = some pv → ∃ v, (names.zip vals).lookup x = some v ∧ Rep δ F h pv v
  | [], _, _, _, _, h => by simp at h
  | n :: r, p :: ps, _, ⟨v, vs, rfl, rv, rr⟩, hl, h => by
    rw [List.zip_cons_cons, List.lookup_cons] at h
    rw [List.zip_cons_cons, List.lookup_cons]
    cases hx : x == n with
    | true => rw [hx] at h; cases h; exact ⟨v, rfl, rv⟩
    | false => rw [hx] at h; exact zip_lookup rr (by simpa using hl) h
  | _ :: _, [], _, _, hl, _ => by simp at hl

section
variable {G : Gl} {k : Nat} {σ σ' : Store} {rs : List PV} {r : PV}

/-- a call of a def of the text's own -/
theorem calls_def {f : Addr} {oc : Value} {od : Option Addr} {osl : Array (Option Value)} {name qual : Str} {params : Arguments} {body : List Stmt} {scope : Scope} {dV kV doc pm cdv ct : Value} {an : Option Addr} {names : List Str}
    (ho : G.K.lookup f = some ⟨oc, od, .func (fnX name qual params body scope [] dV kV doc pm an cdv ct), osl⟩) (hcd : codeIn G.K cdv qual = true) (hn : params.args.map (·.arg) = names) (hl : names.length = rs.length) (hnn : names.Nodup)
    (hb : ∀ vals : List Value, vals.length = names.length → bindArgs (fnX name qual params body scope [] dV kV doc pm an cdv ct) ⟨vals, []⟩ = pure (names.zip vals))
    (hkind : ∀ n ∈ names, scope.names.lookup n = some .local ∨ scope.names.lookup n = some .cell) (hnd : (scope.names.map (·.1)).Nodup) (hk : scope.kind = .function) (hco : scope.isCoroutine = false) (hgen : scope.isGenerator = false)
    (hcn : ((cellsFrom 0 scope.names []).map (·.1)).Nodup)
    (h : Ex G k scope (names.zip rs) σ body (.ret r σ')) : CallsV G (k + 1) (.ref f) σ rs r σ' := fun X s vals b hr rv Q E hQ => by
  obtain ⟨m, F⟩ := b.F
  have hvl : vals.length = names.length := by rw [rv.length, hl]
  have hK := b.K
  have hlim : s.heap.NoLimit := b.top.nolimit.keeps F.keep
  -- the objects of the cells
  have N : News X.g X.Lf s.heap (X.δ.map fun d => (d, (s.heap.get? d).getD default)) := fun p hp => by
    obtain ⟨d, hd, rfl⟩ := List.mem_map.mp hp
    refine ⟨?_, fun e => b.δL (e ▸ hd), b.δg d hd⟩
    cases q : s.heap.get? d with
    | none => exact absurd q (b.al d (b.δF d hd))
    | some o => rfl
  have eδ : (X.δ.map fun d => (d, (s.heap.get? d).getD default)).map (·.1) = X.δ := by rw [List.map_map]; exact List.map_id _
  obtain ⟨FG, BG, st, _⟩ := groundX (R := fun _ _ => True) b.below F N b.fr b.frm b.fk
  rw [eδ] at FG BG st
  refine wpAny_call (codeAny_call_function (fd := fnX name qual params body scope [] dV kV doc pm an cdv ct) (body := body) (by have := hr.1; omega) (hK _ _ ho) rfl hco hgen rfl (codeRec_of hK hcd) ?_)
  rw [hb vals hvl]
  refine wpAny_pure (wpAny_newFunctionEnv_cells hk ?_ fun env he s₁ x => ?_)
  · intro y hy
    have hy1 : y.1 ∈ names := (List.of_mem_zip hy).1
    rcases hkind _ hy1 with q | q
    · exact .inl q
    · exact .inr ⟨q, cellsFrom_some _ _ _ (.inl q)⟩
  subst he
  refine ⟨hlim.keeps x.toInCall.keep, codeAny_func ?_⟩
  -- the callee's frame
  have same : ∃ h' tk, s₁ = { s with heap := h', toks := tk } := x.toInCall.same
  obtain ⟨h₁, tk₁, rfl⟩ := same
  have keep : ∀ b o, s.heap.get? b = some o → h₁.get? b = some o := x.toInCall.keep
  have hns : h₁.Ns s.heap.objs.size _ := x.toInCall.ns
  have fresh : ∀ c, s.heap.objs.size ≤ c → s.heap.get? c = none := fun c hc => by
    cases q : s.heap.get? c with
    | none => rfl
    | some ob => exact absurd (Heap.lt_size q) (Nat.not_lt.mpr hc)
  have fL := fresh s.heap.objs.size (Nat.le_refl _)
  have cmem : ∀ c ∈ (cellsFrom (s.heap.objs.size + 1) scope.names []).map (·.2), ∃ n, (n, c) ∈ cellsFrom (s.heap.objs.size + 1) scope.names [] := fun c hc => by
    obtain ⟨⟨n, e⟩, hm, rfl⟩ := List.mem_map.mp hc
    exact ⟨n, hm⟩
  have cabove : ∀ c ∈ (cellsFrom (s.heap.objs.size + 1) scope.names []).map (·.2), s.heap.objs.size < c := fun c hc => by
    obtain ⟨n, hm⟩ := cmem c hc
    exact x.above n c hm
  have cfresh : ∀ c ∈ (cellsFrom (s.heap.objs.size + 1) scope.names []).map (·.2), s.heap.get? c = none := fun c hc => fresh c (Nat.le_of_lt (cabove c hc))
  have cnd : ((cellsFrom (s.heap.objs.size + 1) scope.names []).map (·.1)).Nodup := cellsFrom_names scope.names 0 (s.heap.objs.size + 1) [] [] rfl ▸ hcn
  have ccell : ∀ c ∈ (cellsFrom (s.heap.objs.size + 1) scope.names []).map (·.2), ∃ v, h₁.IsCell c v := fun c hc => by
    obtain ⟨n, hm⟩ := cmem c hc
    exact ⟨_, x.cell n c (lookup_nodup cnd hm)⟩
  have hnew : ∀ a ∈ s.heap.objs.size :: (cellsFrom (s.heap.objs.size + 1) scope.names []).map (·.2), s.heap.get? a = none := fun a ha => (List.mem_cons.mp ha).elim (fun e => e ▸ fL) (cfresh a)
  have hid : ∀ a, s.heap.get? a = none → (hideAll s.heap X.δ).get? a = none := fun a ha => by
    cases q : (hideAll s.heap X.δ).get? a with
    | none => rfl
    | some o => exact absurd ha (isSome_of (of_hideAll _ q))
  have nδ : ∀ a, s.heap.get? a = none → a ∉ X.δ := fun a ha hm => b.al a (b.δF a hm) ha
  let X' : Cx := { A₀ := X.A, A := X.A.deeper (envX qual scope s.heap.objs.size f cdv (cellsFrom (s.heap.objs.size + 1) scope.names [])), base := X.base, g := hideAll s.heap X.δ, outer := X.fenv :: X.outer, fenv := envX qual scope s.heap.objs.size f cdv (cellsFrom (s.heap.objs.size + 1) scope.names []), env := envX qual scope s.heap.objs.size f cdv (cellsFrom (s.heap.objs.size + 1) scope.names []), Lf := s.heap.objs.size, own := true, δ := X.δ, F := (s.heap.objs.size :: (cellsFrom (s.heap.objs.size + 1) scope.names []).map (·.2)) ++ X.F }
  have kn : ∀ y, (envX qual scope s.heap.objs.size f cdv (cellsFrom (s.heap.objs.size + 1) scope.names [])).kindOf y = scope.names.lookup y := fun y => rfl
  have o' : Ok G X' scope { s with heap := h₁, toks := tk₁ } (names.zip rs) σ :=
    { hh := b.hh
      fr := by show (X.A.frames.map _) = _; rw [b.fr]; rfl
      frm := rfl
      fk := hk
      below := BG
      kin := b.kin.keeps st
      top := b.top.keeps st
      F := ⟨_, ⟨hns, fun c o hc => keep c o (of_hideAll _ hc), Nat.le_of_eq (hideAll_size _ _)⟩⟩
      δg := fun d hd => hideAll_none _ hd
      δL := nδ _ fL
      δF := fun d hd => List.mem_append_right _ (b.δF d hd)
      δn := b.δn
      st := (b.st.ban hnew).eff (W := []) (fun _ h => nomatch h) (fun _ h => nomatch h) (.of_keeps keep)
      al := fun a ha => by
        rcases List.mem_append.mp ha with ha | ha
        · rcases List.mem_cons.mp ha with rfl | ha
          · exact ns_alive hns
          · obtain ⟨v, hv⟩ := ccell a ha; exact cell_alive hv
        · cases q : s.heap.get? a with
          | none => exact absurd q (b.al a ha)
          | some o => exact isSome_of (keep a o q)
      hsc := rfl
      sck := hk
      gl := rfl
      bl := rfl
      WF := fun a ha => List.mem_append_left _ ha
      Wg := fun a ha => hid a (hnew a ha)
      nd := List.nodup_cons.mpr ⟨fun m => Nat.lt_irrefl _ (cabove _ m), by
        have := x.apart
        show ((cellsFrom (s.heap.objs.size + 1) scope.names []).map (·.2)).Nodup
        unfold List.Nodup
        rw [List.pairwise_map]; exact this⟩
      Wδ := fun a ha => nδ a (hnew a ha)
      Lf := .inl rfl
      ns := ⟨_, hns, fun y pv hy hky => by
        obtain ⟨v, hv, hrv⟩ := zip_lookup rv hl hy
        refine ⟨v, ?_, (hrv.fresh hnew).eff (W := []) (fun _ h => nomatch h) (.of_keeps keep)⟩
        show bindL _ (names.zip vals) (fun _ => none) y = some v
        rw [bindL_get hnn hvl hky, hv]; rfl⟩
      cells := fun y pv hy hky => by
        obtain ⟨v, hv, hrv⟩ := zip_lookup rv hl hy
        have hky : scope.names.lookup y = some .cell := by
          rcases hky with q | q
          · exact q
          · have : y ∈ names := (List.of_mem_zip (mem_of_lookup hy)).1
            rcases hkind y this with q' | q' <;> rw [q] at q' <;> cases q'
        obtain ⟨c, hc⟩ := Option.isSome_iff_exists.mp (cellsFrom_some (x := y) scope.names (s.heap.objs.size + 1) [] (.inl hky))
        have := x.cell y c hc
        refine ⟨c, v, hc, ?_, (hrv.fresh hnew).eff (W := []) (fun _ h => nomatch h) (.of_keeps keep)⟩
        have e : bindC (envX qual scope s.heap.objs.size f cdv (cellsFrom (s.heap.objs.size + 1) scope.names [])).kindOf (names.zip vals) (fun _ => none) y = some v := by
          rw [bindC_get hnn hvl (by rw [kn, hky]; decide), hv]; rfl
        rw [← e]; exact this
      cellsx := fun y hky => by
        obtain ⟨c, hc⟩ := Option.isSome_iff_exists.mp (cellsFrom_some (x := y) scope.names (s.heap.objs.size + 1) [] (.inl hky))
        exact ⟨c, _, hc, x.cell y c hc⟩
      ca := ccell }
  have room : Room k X'.A := by
    have h1 := hr.1
    have h2 := hr.2
    refine ⟨?_, ?_⟩
    · show X.A.depth + 1 + k < recursionLimit; omega
    · show X.A.units + 3 + 8 * k < cLine; omega
  refine h X' _ o' room rfl _ _ fun s' v b' e' m' r' => ?_
  obtain ⟨m'', F''⟩ := b'.F
  have back : ∀ a o, a ∉ X.δ → s.heap.get? a = some o → s'.heap.get? a = some o := fun a o ha hq => F''.keep a o (hideAll_get _ hq ha)
  refine hQ s' v ?_ (fun a o ha hq => back a o ha hq) ⟨m'.1, m'.2.1, m'.2.2⟩ (r'.anti fun a ha => List.mem_append_right _ ha)
  exact
    { hh := b.hh
      fr := b.fr
      frm := b.frm
      fk := b.fk
      below := b.below
      kin := b.kin
      top := b.top
      F := by
        obtain ⟨oL, es, ep, hL, rL⟩ := F.ns
        exact ⟨m, ⟨⟨oL, es, ep, back _ _ b.δL hL, rL⟩, fun c o hc => F''.keep c o (st c o hc), F.above⟩⟩
      δg := b.δg
      δL := b.δL
      δF := b.δF
      δn := b.δn
      st := ⟨b'.st.1, fun i d l h1 h2 => let ⟨vs, p, q, z⟩ := b'.st.2 i d l h1 h2; ⟨vs, p, q.anti fun a ha => List.mem_append_right _ ha, z⟩⟩
      al := fun a ha => b'.al a (List.mem_append_right _ ha) }
end
end Mine

/- J12 -/
namespace Mine

section
variable {G : Gl} {k : Nat} {sc : Scope} {ρ ρ₁ ρ₂ : Vars} {σ σ₁ σ₂ σ₃ σ' : Store} {pos : Pos} {out : Out} {r p : PV} {rs : List PV}

/-- a method of an object -/
theorem ev_mcall {x : Str} {xp apos : Pos} {name : Str} {C f : Addr} {e : Expr} {es : List Expr} (h1 : Ev G k sc ρ σ (.Name x xp) (.inst C) σ) (hg : plainGet G.K C name = true) (hf : findIn G.K (.ref C) name = some (some (.ref f))) (ht : isFn G.K (.ref f) = true)
    (hk : keepIn G.K (.ref f) = true) (hm : name ∈ methNames) (ha : Evs G k sc ρ σ pos (e :: es) rs σ₁) (hc : CallsV G k (.ref f) σ₁ (.inst C :: rs) r σ₂)
    (hline : (apos.endLine == pos.line) = true) (hform : ∀ env, methodCallForm ((e :: es).length + 0) (backTo pos (starEach (e :: es) env)) (backToKw pos (keywordEach [] env)) = true)
    (he : ∀ env, starEach (e :: es) env = (false, eval e env) :: starEach es env) (hplain : ∀ env, (backTo pos (starEach es env)).any (·.1) = false) :
    Ev G k sc ρ σ (.Call (.Attribute (.Name x xp) name apos) (e :: es) [] pos) r σ₂ := fun X s o hr Q E h => by
  rw [arm_eval_Call]
  show wpAny _ _ (eval (.Name x xp) X.env >>= _) _ _ _
  refine wpAny_bind (h1 X s o hr _ _ fun s₁ v o₁ e₁ m₁ ⟨a, dx, ens, n, sl, hv, na, nd, hx, hd, hn⟩ => wpAny_bind (wpAny_standAt ?_))
  subst hv
  unfold methodCall
  have hform' : methodCallForm ((e :: es).length + ([] : List Keyword).length) (backTo pos (starEach (e :: es) X.env)) (backToKw pos (keywordEach [] X.env)) = true := hform X.env
  rw [hform']
  obtain ⟨m, F⟩ := o₁.F
  have I : InstAt s₁.heap a ⟨.ref C, some dx, .plain, sl⟩ C (some (dictOf ens n)) := ⟨hx, rfl, rfl, hd⟩
  refine wpAny_bind (wpAny_holding ?_)
  show wpAny _ _ (getMethod (.ref a) name _) _ _ _
  refine method_inst F o₁.kin I hg hf ht (hn name hm) ?_
  show wpAny _ _ (methodCallPos true (.Name x xp) X.env apos pos >>= _) _ _ _
  have hp : methodCallPos true (.Name x xp) X.env apos pos = pure pos := by unfold methodCallPos; rw [hline]; rfl
  rw [hp]
  refine wpAny_bind (wpAny_pure ?_)
  refine callWith_of (P := G.K.In) ?_ (keep_ref hk) ?_
  · rw [he]; show ((false || (backTo pos (starEach es X.env)).any (·.1)) || false) = false; rw [hplain]; rfl
  · have ha' := ha X s₁ o₁ hr
    rw [he] at ha' ⊢
    refine evalArgs_plain (ha' _ _ fun s₂ vs o₂ e₂ m₂ r₂ => ⟨o₂.K, ?_⟩)
    have hself : Rep X.δ X.F s₂.heap (.inst C) (.ref a) := Rep.eff o.δF e₂ ⟨a, dx, ens, n, sl, rfl, na, nd, hx, hd, hn⟩
    exact hc X s₂ (.ref a :: vs) o₂.toBase hr (Reps.cons hself r₂) _ _ fun s₃ v b₃ e₃ m₃ r₃ => h s₃ v (o₂.after b₃ e₃) ((e₁.trans e₂).trans e₃) ((m₁.trans m₂).trans m₃) r₃

theorem foldl_rep (w : Value) : ∀ (n : Nat) (acc : Array Value), List.foldl (fun x1 x2 => x1 ++ x2) acc (List.replicate n #[w]) = acc ++ (List.replicate n w).toArray
  | 0, acc => by simp
  | n + 1, acc => by
    rw [List.replicate_succ, List.foldl_cons, foldl_rep w n, List.replicate_succ]
    apply Array.ext'
    simp
theorem Reps.replicate {δ F : List Addr} {h : Heap} {v : Value} (x : Rep δ F h p v) : ∀ n : Nat, Reps δ F h (List.replicate n p) (List.replicate n v)
  | 0 => rfl
  | n + 1 => ⟨v, _, rfl, x, Reps.replicate x n⟩
/-- a list n times -/
theorem ev_times {e n : Expr} {pl : Pos} {j : Int} (h1 : Ev G k sc ρ σ e p σ₁) (h2 : Ev G k sc ρ σ₁ n (.int j) σ₂) (h0 : 0 ≤ j) (h9 : j ≤ 1000) (he : ∀ env, starEach [e] env = [(false, eval e env)]) :
    Ev G k sc ρ σ (.BinOp (.List [e] pl) .Mult n pos) (.lst (List.replicate j.toNat p)) σ₂ := by
  refine ev_binop (a := .lst [p]) (ev_list (evs_cons h1 evs_nil he) (by show 1 ≤ 1000; decide)) h2 fun X s u v o hr ⟨a, vs, e1, na, ⟨ep, ha⟩, hvs⟩ ⟨t, e2⟩ Q E h => ?_
  subst e1 e2
  obtain ⟨w, ws, e3, rw1, e4⟩ := hvs
  have e4 : ws = [] := e4
  subst e3 e4
  refine wpAny_binaryOp_repeat_ref (T := "list") (U := "int") (by decide) ⟨_, ha, rfl⟩ (fun s' => typeIs_int s' j t) noFill_list_mul PySem.F.fills_int_mul PySem.F.slot_int_rmul repeat_list PySem.F.slot_int_index.lookup ?_
  refine call_meets PySem.F.slot_int_rmul (typeIs_int s j t) PySem.F.entry_int_rmul (PySem.F.args_int_rmul_2 _ _) (int___rmul___int_list j t a [w].toArray ep) ⟨ha, rfl, ⟨_, ha, rfl⟩, ?_⟩
  refine call_meets PySem.F.slot_list_mul ⟨_, ha, rfl⟩ PySem.F.entry_list_mul (PySem.F.args_list_mul_2 _ _)
    (AutoListH.list___mul___list_int_3 a [w].toArray ep j t (by simp [Builtin.List.listFitsIndex]; omega) (by have e : #[w].size * j.toNat = j.toNat := (by show 1 * j.toNat = _; omega); rw [e]; omega) (by
      have e : #[w].size * j.toNat = j.toNat := by show 1 * j.toNat = _; omega
      rw [e]; simp [Builtin.List.listTooLong, sizeLine]; omega)) ⟨ha, ?_⟩
  have e5 : List.foldl (fun x1 x2 => x1 ++ x2) #[] (List.replicate (if ([w].toArray).isEmpty = true then 0 else j.toNat) [w].toArray) = (List.replicate j.toNat w).toArray := by
    have := foldl_rep w j.toNat #[]
    simpa using this
  rw [e5]
  exact h _ _ (o.push _) (Eff.push _ _ _) (Same.refl _) ⟨_, List.replicate j.toNat w, rfl, o.new, ⟨0, Heap.get?_push_size _ rfl⟩, (Reps.replicate rw1 _).eff (W := []) (fun _ h => nomatch h) (Eff.push _ _ _)⟩

/-- no cell at or above n is spoken of -/
def PV.lowc (n : Nat) : PV → Bool
  | .cell i => decide (i < n)
  | .tup l => belows n l
  | .lst l => belows n l
  | _ => true
where belows (n : Nat) : List PV → Bool
  | [] => true
  | p :: l => PV.lowc n p && belows n l

mutual
theorem Rep.unmore {δ ε F : List Addr} {h : Heap} : ∀ {p : PV} {v : Value}, p.lowc δ.length = true → Rep (δ ++ ε) F h p v → Rep δ F h p v
  | .int i, v, _, x => x
  | .bool b, v, _, x => x
  | .none, v, _, x => x
  | .tup l, v, hb, ⟨a, vs, hv, ha, ho, hl⟩ => ⟨a, vs, hv, ha, ho, Reps.unmore (by simpa [PV.lowc] using hb) hl⟩
  | .lst l, v, hb, ⟨a, vs, hv, ha, ho, hl⟩ => ⟨a, vs, hv, ha, ho, Reps.unmore (by simpa [PV.lowc] using hb) hl⟩
  | .rng lo hi, v, _, x => x
  | .cell i, v, hb, ⟨a, ha, hv⟩ => ⟨a, by
      have hi : i < δ.length := by simpa [PV.lowc] using hb
      rwa [List.getElem?_append_left hi] at ha, hv⟩
  | .inst C, v, _, x => x
theorem Reps.unmore {δ ε F : List Addr} {h : Heap} : ∀ {l : List PV} {vs : List Value}, PV.lowc.belows δ.length l = true → Reps (δ ++ ε) F h l vs → Reps δ F h l vs
  | [], _, _, x => x
  | _ :: _, _, hb, ⟨v, r, hv, x, y⟩ => by
    simp only [PV.lowc.belows, Bool.and_eq_true] at hb
    exact ⟨v, r, hv, x.unmore hb.1, y.unmore hb.2⟩
end

/-- the frame with one more cell, at T -/
def Cx.more (X : Cx) (T : Addr) : Cx := { X with δ := X.δ ++ [T], F := T :: X.F }

/-- several expressions, the last of them a new list that is kept as a cell -/
def EvsN (G : Gl) (k : Nat) (sc : Scope) (ρ : Vars) (σ : Store) (pos : Pos) (es : List Expr) (rs : List PV) (σ' : Store) : Prop :=
  ∀ (X : Cx) (s : Shared), Ok G X sc s ρ σ → Room k X.A → ∀ (Q : List Value → Shared → Prop) (E : Value → Shared → Prop),
    (∀ s' vs T, Ok G (X.more T) sc s' ρ (σ' ++ [[]]) → Eff X.δ s.heap s'.heap → s.heap.get? T = none → T ∉ X.F → Same s s' → Reps (X.more T).δ (X.more T).F s'.heap (rs ++ [.cell σ'.length]) vs → Q vs s') → wpAny (model G.prog G.w) X.A (spliced (backTo pos (starEach es X.env))) Q E s

theorem Ok.more {X : Cx} {s : Shared} (o : Ok G X sc s ρ σ) (hpos : 0 < X.δ.length) : Ok G (X.more s.heap.objs.size) sc { s with heap := s.heap.push { cls := .type "list", data := .seq ([] : List Value).toArray } } ρ (σ ++ [[]]) := by
  have hnew : ∀ a ∈ [s.heap.objs.size], s.heap.get? a = none := fun a ha => by rw [List.mem_singleton.mp ha]; exact size_free _
  have k' : ∀ b ob, s.heap.get? b = some ob → (s.heap.push { cls := .type "list", data := .seq ([] : List Value).toArray }).get? b = some ob := fun _ _ e => Heap.get?_push_of_some _ e
  have hT : (s.heap.push { cls := .type "list", data := .seq ([] : List Value).toArray }).get? s.heap.objs.size = some { cls := .type "list", data := .seq ([] : List Value).toArray } := Heap.get?_push_size _ rfl
  have o' := o.ban (s' := { s with heap := s.heap.push { cls := .type "list", data := .seq ([] : List Value).toArray } }) hnew k' (fun a ha => by rw [List.mem_singleton.mp ha]; exact isSome_of hT)
  have hgn : X.g.get? s.heap.objs.size = none := by
    obtain ⟨m, F⟩ := o.F
    cases q : X.g.get? s.heap.objs.size with
    | none => rfl
    | some x => exact absurd (Heap.lt_size (F.keep _ _ q)) (Nat.lt_irrefl _)
  have hLn : X.Lf ≠ s.heap.objs.size := fun e => by obtain ⟨m, F⟩ := o.F; exact absurd F.ns.lt (Nat.not_lt.mpr (Nat.le_of_eq e.symm))
  have nδ : s.heap.objs.size ∉ X.δ := fun m => o.new (o.δF _ m)
  exact
    { hh := o'.hh, fr := o'.fr, frm := o'.frm, fk := o'.fk, below := o'.below, kin := o'.kin, top := o'.top, F := o'.F
      δg := fun d hd => (List.mem_append.mp hd).elim (o.δg d) fun m => by rw [List.mem_singleton.mp m]; exact hgn
      δL := fun m => (List.mem_append.mp m).elim o.δL fun m => hLn (List.mem_singleton.mp m)
      δF := fun d hd => (List.mem_append.mp hd).elim (fun m => .tail _ (o.δF d m)) fun m => by rw [List.mem_singleton.mp m]; exact .head _
      δn := List.nodup_append.mpr ⟨o.δn, List.nodup_cons.mpr ⟨List.not_mem_nil, List.nodup_nil⟩, fun a ha b hb e => nδ (by rw [List.mem_singleton.mp hb] at e; exact e ▸ ha)⟩
      st := ⟨by show (σ ++ [[]]).length = (X.δ ++ [_]).length; rw [List.length_append, List.length_append, o.st.1]; rfl, fun i d l hd hl => by
        by_cases hi : i < X.δ.length
        · have hd' : X.δ[i]? = some d := by rwa [show (X.more s.heap.objs.size).δ = X.δ ++ [s.heap.objs.size] from rfl, List.getElem?_append_left hi] at hd
          have hl' : σ[i]? = some l := by rwa [List.getElem?_append_left (by rw [o.st.1]; exact hi)] at hl
          obtain ⟨vs, a, b, c⟩ := o'.st.2 i d l hd' hl'
          exact ⟨vs, a, b.more [_], c⟩
        · have hi2 : i = X.δ.length := by
            have := (List.getElem?_eq_some_iff.mp hd).1
            rw [show (X.more s.heap.objs.size).δ = X.δ ++ [s.heap.objs.size] from rfl, List.length_append] at this
            simp only [List.length_cons, List.length_nil] at this
            omega
          subst hi2
          have hd' : s.heap.objs.size = d := by simpa [Cx.more] using hd
          have hl' : ([] : List PV) = l := by
            rw [← o.st.1] at hl
            simpa using hl
          subst hd' hl'
          exact ⟨[], ⟨_, hT, rfl, 0, rfl⟩, rfl, fun _ => ⟨0, hT⟩⟩⟩
      al := o'.al
      hsc := o'.hsc, sck := o'.sck, gl := o'.gl, bl := o'.bl, WF := o'.WF, Wg := o'.Wg, nd := o'.nd
      Wδ := fun a ha m => (List.mem_append.mp m).elim (o.Wδ a ha) fun m => by
        have e := List.mem_singleton.mp m
        rcases List.mem_cons.mp ha with q | q
        · obtain ⟨_, hn, _⟩ := o.ns
          exact absurd hn.lt (Nat.not_lt.mpr (Nat.le_of_eq (e.symm.trans q)))
        · obtain ⟨v, x, hx, _⟩ := o.ca a q
          exact absurd (Heap.lt_size hx) (Nat.not_lt.mpr (Nat.le_of_eq e.symm))
      Lf := o'.Lf
      ns := let ⟨m, h1, h2⟩ := o'.ns; ⟨m, h1, fun y pv e f => let ⟨v, h3, h4⟩ := h2 y pv e f; ⟨v, h3, h4.more [_]⟩⟩
      cells := fun y pv e f => let ⟨c, v, h1, h2, h3⟩ := o'.cells y pv e f; ⟨c, v, h1, h2, h3.more [_]⟩
      cellsx := o'.cellsx
      ca := o'.ca }

theorem evsN_one {pl : Pos} (hσ : 0 < σ.length) (he : ∀ env, starEach [.List [] pl] env = [(false, eval (.List [] pl) env)]) : EvsN G k sc ρ σ pos [.List [] pl] [] σ := fun X s o hr Q E h => by
  rw [he]
  refine spliced_cons (List_ (spliced_nil (wpAny_newObj_type (spliced_nil ?_))))
  refine h _ _ s.heap.objs.size (o.more (by rw [← o.st.1]; exact hσ)) (Eff.push _ _ _) (size_free _) o.new (Same.refl _) ?_
  exact Reps.one ⟨s.heap.objs.size, by rw [o.st.1]; simp [Cx.more], rfl⟩
theorem evsN_cons {e : Expr} {es : List Expr} (h1 : Ev G k sc ρ σ e r σ₁) (h2 : EvsN G k sc ρ σ₁ pos es rs σ₂) (he : ∀ env, starEach (e :: es) env = (false, eval e env) :: starEach es env) : EvsN G k sc ρ σ pos (e :: es) (r :: rs) σ₂ := fun X s o hr Q E h => by
  rw [he]
  refine spliced_cons (h1 X s o hr _ _ fun s₁ v o₁ e₁ m₁ r₁ => ?_)
  refine h2 X s₁ o₁ hr _ _ fun s₂ vs T o₂ e₂ fT nT m₂ r₂ => h s₂ _ T o₂ (e₁.trans e₂) ?_ nT (m₁.trans m₂) ?_
  · cases q : s.heap.get? T with
    | none => rfl
    | some ob => exact absurd fT (isSome_of (e₁ T ob (fun m => nT (o.δF T m)) q))
  · have hn : ∀ a ∈ [T], s₁.heap.get? a = none := fun a ha => by rw [List.mem_singleton.mp ha]; exact fT
    exact Reps.cons ((((r₁.more [T]).fresh hn)).eff (fun a ha => .tail _ (o.δF a ha)) e₂) r₂

/-- triples.extend(…) -/
theorem ex1_extend {x : Str} {xp apos : Pos} {c : Expr} {j : Nat} {l es : List PV} (h1 : Ev G k sc ρ σ (.Name x xp) (.cell j) σ) (h2 : Ev G k sc ρ σ c (.lst es) σ) (hj : 0 < j) (hl : σ[j]? = some l) (hsz : l.length + es.length ≤ 100000)
    (hline : (apos.endLine == pos.line) = true) (hform : ∀ env, methodCallForm (([c] : List Expr).length + 0) (backTo pos (starEach [c] env)) (backToKw pos (keywordEach [] env)) = true)
    (he : ∀ env, starEach [c] env = [(false, eval c env)]) (hi : ∀ env : Env, env.scope = sc → interactive env = false) (hs : ∀ env : Env, env.scope = sc → swapsWith (.Call (.Attribute (.Name x xp) (Str.ofString "extend") apos) [c] [] pos) none pos.line env = pure false) :
    Ex1 G k sc ρ σ (.Expr (.Call (.Attribute (.Name x xp) (Str.ofString "extend") apos) [c] [] pos) pos) (.next ρ (σ.set j (l ++ es))) := fun X s o hr ho Q E h => by
  refine wpAny_Expr ?_ (hi X.env o.hsc) (hs X.env o.hsc)
  rw [arm_eval_Call]
  show wpAny _ _ (eval (.Name x xp) X.env >>= _) _ _ _
  refine wpAny_bind (h1 X s o hr _ _ fun s₁ v o₁ e₁ m₁ ⟨d, hd, hv⟩ => wpAny_bind (wpAny_standAt ?_))
  subst hv
  unfold methodCall
  have hform' : methodCallForm (([c] : List Expr).length + ([] : List Keyword).length) (backTo pos (starEach [c] X.env)) (backToKw pos (keywordEach [] X.env)) = true := hform X.env
  rw [hform']
  obtain ⟨vs, hL, rv, hp⟩ := o₁.st.2 j d l hd hl
  obtain ⟨n, hn⟩ := hp hj
  refine wpAny_bind (wpAny_holding ?_)
  show wpAny _ _ (getMethod (.ref d) (Str.ofString "extend") _) _ _ _
  refine getMethod_list_of PySem.F.slot_list_extend PySem.F.type_list_extend hL ⟨_, hn, rfl⟩ ?_
  show wpAny _ _ (methodCallPos true (.Name x xp) X.env apos pos >>= _) _ _ _
  have hp : methodCallPos true (.Name x xp) X.env apos pos = pure pos := by unfold methodCallPos; rw [hline]; rfl
  rw [hp]
  refine wpAny_bind (wpAny_pure ?_)
  refine callWith_of (P := G.K.In) ?_ keep_builtin ?_
  · rw [he]; rfl
  · rw [he]
    refine evalArgs_plain (spliced_cons (h2 X s₁ o₁ hr _ _ fun s₂ w o₂ e₂ m₂ ⟨b, ws, e3, nb, ⟨n2, hb⟩, rw2⟩ => spliced_nil ⟨o₂.K, ?_⟩))
    subst e3
    obtain ⟨vs', hL', rv', hp'⟩ := o₂.st.2 j d l hd hl
    obtain ⟨n', hn'⟩ := hp' hj
    have hz : vs'.toArray.size + ws.toArray.size ≤ 100000 := by
      have a := rv'.length
      have b := rw2.length
      simp only [List.size_toArray]; omega
    have hz' : vs'.toArray.size + ws.toArray.size ≤ sizeLine := Nat.le_trans hz (by rw [sizeLine_eq]; decide)
    refine call_meets PySem.F.slot_list_extend ⟨_, hn', rfl⟩ PySem.F.entry_list_extend (PySem.F.args_list_extend_2 _ _) (AutoSeq1.list_extend_list_list_0 d vs'.toArray n' b ws.toArray n2 (extend_door hz') (Nat.le_trans (Nat.le_add_right _ _) hz') (Nat.le_succ_of_le hz')) ⟨hn', hb, ?_⟩
    have e5 : vs'.toArray ++ ws.toArray = (vs' ++ ws).toArray := by simp
    have ho' : (s₂.heap.update d (Obj.mapSeq fun x => x ++ ws.toArray)).get? d = some { cls := .type "list", data := .seq (vs' ++ ws).toArray (if (vs'.toArray ++ ws.toArray).size == vs'.toArray.size then n' else n' + 1) } := by
      rw [Heap.get?_update_self _ hn' (by rw [mapSeq_app]; rfl), mapSeq_app, e5]
    obtain ⟨b3, e6⟩ := o₂.toBase.stored (h' := s₂.heap.update d (Obj.mapSeq fun x => x ++ ws.toArray)) hd ⟨_, ho', rfl, _, rfl⟩ (Heap.SameBut.update ..) (rv'.append rw2) (fun _ => ⟨_, ho'⟩)
    exact h _ (o₂.after b3 e6) ((e₁.trans e₂).trans e6).δW (m₁.trans m₂)

theorem lowcs_get {n : Nat} : ∀ {l : List PV} {i : Nat} {p : PV}, PV.lowc.belows n l = true → l[i]? = some p → p.lowc n = true
  | p :: l, 0, _, h, e => by
    cases e
    simp only [PV.lowc.belows, Bool.and_eq_true] at h
    exact h.1
  | p :: l, i + 1, q, h, e => by
    simp only [PV.lowc.belows, Bool.and_eq_true] at h
    exact lowcs_get h.2 (by simpa using e)
theorem lowcs_append {n : Nat} : ∀ {l l' : List PV}, PV.lowc.belows n (l ++ l') = (PV.lowc.belows n l && PV.lowc.belows n l')
  | [], l' => by simp [PV.lowc.belows]
  | p :: l, l' => by simp [PV.lowc.belows, lowcs_append (l := l), Bool.and_assoc]

/-- the cell at T is a list from now on -/
theorem Ok.freeze {X : Cx} {s : Shared} {T : Addr} {L : List PV} {ρ' : Vars} (o : Ok G (X.more T) sc s ρ (σ ++ [L])) (hδF : ∀ d ∈ X.δ, d ∈ X.F) (hWF : ∀ a ∈ X.W, a ∈ X.F) (hT : T ∉ X.F) (hpos : 0 < σ.length) (hL : PV.lowc.belows σ.length L = true) (hσ : ∀ l ∈ σ, PV.lowc.belows σ.length l = true)
    (hρ : ∀ y pv, ρ'.lookup y = some pv → (ρ.lookup y = some pv ∧ pv.lowc σ.length = true) ∨ (pv = .lst L ∧ ρ.lookup y = some (.cell σ.length))) : Ok G X sc s ρ' σ := by
  have hlen : σ.length = X.δ.length := by
    have := o.st.1
    rw [show (X.more T).δ = X.δ ++ [T] from rfl, List.length_append, List.length_append] at this
    simpa using this
  have back : ∀ {p : PV} {v : Value}, p.lowc σ.length = true → Rep (X.more T).δ (X.more T).F s.heap p v → Rep X.δ X.F s.heap p v := fun hp r => (Rep.unmore (ε := [T]) (hlen ▸ hp) r).anti fun a ha => .tail _ ha
  have backs : ∀ {p : List PV} {v : List Value}, PV.lowc.belows σ.length p = true → Reps (X.more T).δ (X.more T).F s.heap p v → Reps X.δ X.F s.heap p v := fun hp r => (Reps.unmore (ε := [T]) (hlen ▸ hp) r).anti fun a ha => .tail _ ha
  have hTd : (X.more T).δ[σ.length]? = some T := by rw [hlen]; simp [Cx.more]
  have hTl : (σ ++ [L])[σ.length]? = some L := by simp
  obtain ⟨vs, hI, rL, hpl⟩ := o.st.2 σ.length T L hTd hTl
  have froz : ∀ {v : Value}, Rep (X.more T).δ (X.more T).F s.heap (.cell σ.length) v → Rep X.δ X.F s.heap (.lst L) v := fun ⟨a, ha, hv⟩ => by
    rw [hTd] at ha; cases ha
    exact ⟨T, vs, hv, hT, hpl hpos, backs hL rL⟩
  have conv : ∀ {y : Str} {pv : PV}, ρ'.lookup y = some pv → ∃ pv', ρ.lookup y = some pv' ∧ ∀ v, Rep (X.more T).δ (X.more T).F s.heap pv' v → Rep X.δ X.F s.heap pv v := fun {y pv} e => by
    rcases hρ y pv e with ⟨a, b⟩ | ⟨rfl, a⟩
    · exact ⟨_, a, fun v r => back b r⟩
    · exact ⟨_, a, fun v r => froz r⟩
  exact
    { hh := o.hh, fr := o.fr, frm := o.frm, fk := o.fk, below := o.below, kin := o.kin, top := o.top, F := o.F
      δg := fun d hd => o.δg d (List.mem_append_left _ hd)
      δL := fun m => o.δL (List.mem_append_left _ m)
      δF := hδF
      δn := (List.nodup_append.mp o.δn).1
      st := ⟨hlen, fun i d l hd hl => by
        have hi : i < X.δ.length := (List.getElem?_eq_some_iff.mp hd).1
        obtain ⟨vs, a, b, c⟩ := o.st.2 i d l (by show (X.δ ++ [T])[i]? = some d; rw [List.getElem?_append_left hi]; exact hd) (by rw [List.getElem?_append_left (by rw [hlen]; exact hi)]; exact hl)
        exact ⟨vs, a, backs (hσ l (List.mem_of_getElem? hl)) b, c⟩⟩
      al := fun a ha => o.al a (.tail _ ha)
      hsc := o.hsc, sck := o.sck, gl := o.gl, bl := o.bl
      WF := hWF
      Wg := o.Wg, nd := o.nd
      Wδ := fun a ha m => o.Wδ a ha (List.mem_append_left _ m)
      Lf := o.Lf
      ns := let ⟨m, h1, h2⟩ := o.ns; ⟨m, h1, fun y pv e f => let ⟨pv', a, b⟩ := conv e; let ⟨v, h3, h4⟩ := h2 y pv' a f; ⟨v, h3, b v h4⟩⟩
      cells := fun y pv e f => let ⟨pv', a, b⟩ := conv e; let ⟨c, v, h1, h2, h3⟩ := o.cells y pv' a f; ⟨c, v, h1, h2, b v h3⟩
      cellsx := o.cellsx
      ca := o.ca }

/-- a tuple of names, the last of them a new list that a loop fills -/
theorem ex_grow {ts es : List Expr} {n n' : Nat} {p q : Pos} {xs : List Str} {lp : Stmt} {rest : List Stmt} {L : List PV} {ρ₃ : Vars} (h1 : EvsN G k sc ρ σ q es rs σ₁) (hlen : xs.length = rs.length + 1)
    (hlen' : rs.length ≤ 100) (h2 : Swp G k sc ρ xs.reverse (rs ++ [PV.cell σ₁.length]).reverse ρ₁) (h3 : Ex1 G k sc ρ₁ (σ₁ ++ [[]]) lp (.next ρ₂ (σ₂ ++ [L]))) (hpos : 0 < σ₂.length)
    (hL : PV.lowc.belows σ₂.length L = true) (hσ : ∀ l ∈ σ₂, PV.lowc.belows σ₂.length l = true)
    (hρ : ∀ y pv, ρ₃.lookup y = some pv → (ρ₂.lookup y = some pv ∧ pv.lowc σ₂.length = true) ∨ (pv = .lst L ∧ ρ₂.lookup y = some (.cell σ₂.length)))
    (h4 : Ex G k sc ρ₃ σ₂ rest out)
    (hs : ∀ env : Env, swapsWith (.Tuple es n' q) (some (.Tuple ts n p)) pos.line env = pure false) (hsw : ∀ env : Env, env.scope = sc → swappedStores [.Tuple ts n p] (.Tuple es n' q) env = pure (some xs)) :
    Ex G k sc ρ σ (.Assign [.Tuple ts n p] (.Tuple es n' q) pos :: lp :: rest) out := fun X s o hr ho Q E h => by
  refine wpAny_execs_cons ?_
  rw [arm_exec_Assign]
  refine wpAny_bind (wpAny_standAt ?_)
  show wpAny _ _ (swapsWith (.Tuple es n' q) (some (.Tuple ts n p)) pos.line X.env >>= _) _ _ _
  rw [hs]
  refine wpAny_bind (wpAny_pure ?_)
  simp only [Bool.false_eq_true, if_false]
  refine wpAny_bind (Tuple_ (h1 X s o hr _ _ fun s₁ vs T o₁ e₁ fT nT m₁ r₁ => ?_))
  have hl := r₁.length
  rw [List.length_append] at hl
  refine wpAny_newObj_type ?_ (by show vs.toArray.size ≤ sizeLine; rw [List.size_toArray, sizeLine_eq, hl]; simp; omega)
  have o₁' := o₁.push { cls := .type "tuple", data := .seq vs.toArray }
  have ha : (s₁.heap.push { cls := .type "tuple", data := .seq vs.toArray }).IsTuple s₁.heap.objs.size vs.toArray := ⟨_, Heap.get?_push_size _ rfl, rfl, 0, rfl⟩
  rw [hsw X.env o.hsc]
  refine wpAny_bind (wpAny_pure ?_)
  show wpAny _ _ (do rule "assign.swapped-stores"; let items ← unpackItems (.ref s₁.heap.objs.size) xs.length none; assignInOrder (xs.reverse.map fun n => bindName X.env n) items.reverse; pure Flow.next) _ _ _
  refine wpAny_bind (wpAny_rule ?_)
  rw [show xs.length = vs.toArray.size by rw [List.size_toArray, hl, hlen]; rfl]
  refine wpAny_bind (wpAny_unpackItems_tuple o₁.hh ha fun h' he => ?_)
  have k' := extBut_size he
  have r₁' := (r₁.eff (W := []) (fun _ q => nomatch q) (Eff.push _ _ { cls := .type "tuple", data := .seq vs.toArray })).eff (W := []) (fun _ q => nomatch q) (.of_keeps k')
  refine wpAny_bind (h2 (X.more T) _ _ vs.reverse (o₁'.keeps k') ho r₁'.reverse _ _ fun s₂ o₂ e₂ m₂ => wpAny_pure ?_)
  refine wpAny_execs_cons (h3 (X.more T) s₂ o₂ hr ho _ _ fun s₃ o₃ e₃ m₃ => ?_)
  have o₄ := Ok.freeze o₃ o.δF o.WF nT hpos hL hσ hρ
  have mono : ∀ a ∈ (X.more T).W ++ (X.more T).δ, a ∈ T :: (X.W ++ X.δ) := fun a ha => (List.mem_append.mp ha).elim (fun m => .tail _ (List.mem_append_left _ m)) fun m => (List.mem_append.mp m).elim (fun m => .tail _ (List.mem_append_right _ m)) fun m => by rw [List.mem_singleton.mp m]; exact .head _
  have e : Eff (X.W ++ X.δ) s.heap s₃.heap := Eff.fresh (a := T) (((e₁.δW.mono fun a ha => .tail _ ha).trans ((Eff.push _ _ _).trans (Eff.of_keeps k'))).trans ((e₂.mono mono).trans (e₃.mono mono))) fT
  exact h4 X s₃ o₄ hr ho _ _ (h.step e ((m₁.trans m₂).trans m₃))
end
end Mine

/- J13 -/
namespace Mine

section
variable {G : Gl} {k : Nat} {sc : Scope} {ρ ρ₁ ρ₂ : Vars} {σ σ₁ σ₂ σ₃ σ' : Store} {pos : Pos} {out : Out} {r r' p : PV} {rs : List PV}

/-- a branch that returns -/
theorem ex_if_ret {t : Expr} {b : Bool} {body rest : List Stmt} (h1 : Tst G k sc ρ σ t b σ₁) (h2 : b = true → Ex G k sc ρ σ₁ body (.ret r σ')) (h3 : b = false → Ex G k sc ρ σ₁ rest (.ret r σ')) : Ex G k sc ρ σ (.If t body [] pos :: rest) (.ret r σ') := by
  cases b with
  | true => exact ex_ret (ex1_if h1 (fun _ => h2 rfl) fun e => by cases e)
  | false => exact ex_cons (ex1_if h1 (fun e => by cases e) fun _ => ex_nil) (h3 rfl)
theorem ex_if_T {t : Expr} {body orelse rest : List Stmt} (h1 : Tst G k sc ρ σ t true σ₁) (h2 : Ex G k sc ρ σ₁ body (.next ρ₁ σ₂)) (h3 : Ex G k sc ρ₁ σ₂ rest out) : Ex G k sc ρ σ (.If t body orelse pos :: rest) out :=
  ex_cons (ex1_if h1 (fun _ => h2) fun e => by cases e) h3
theorem ex_if_F {t : Expr} {body orelse rest : List Stmt} (h1 : Tst G k sc ρ σ t false σ₁) (h2 : Ex G k sc ρ σ₁ orelse (.next ρ₁ σ₂)) (h3 : Ex G k sc ρ₁ σ₂ rest out) : Ex G k sc ρ σ (.If t body orelse pos :: rest) out :=
  ex_cons (ex1_if h1 (fun e => by cases e) fun _ => h2) h3
/-- a branch not taken that has no else -/
theorem ex_skip {t : Expr} {body rest : List Stmt} (h1 : Tst G k sc ρ σ t false σ₁) (h3 : Ex G k sc ρ σ₁ rest out) : Ex G k sc ρ σ (.If t body [] pos :: rest) out :=
  ex_cons (ex1_if h1 (fun e => by cases e) fun _ => ex_nil) h3
theorem ex_return {e : Expr} {rest : List Stmt} (h1 : Ev G k sc ρ σ e r' σ₁) (he : r' = r) : Ex G k sc ρ σ (.Return (some e) pos :: rest) (.ret r σ₁) := he ▸ ex_ret (ex1_return h1)
theorem Tst.conv {e : Expr} {b c : Bool} (h : Tst G k sc ρ σ e b σ₁) (he : b = c) : Tst G k sc ρ σ e c σ₁ := he ▸ h
theorem Ex.conv {body : List Stmt} (h : Ex G k sc ρ σ body (.ret r' σ')) (he : r' = r) : Ex G k sc ρ σ body (.ret r σ') := he ▸ h
theorem CallsV.conv {f : Value} (h : CallsV G k f σ rs r' σ') (he : r' = r) : CallsV G k f σ rs r σ' := he ▸ h

def rngL (lo hi : Int) : List Int := (List.range (hi - lo).toNat).map fun i => lo + (i : Nat)
theorem mem_rngL {lo hi x : Int} : x ∈ rngL lo hi ↔ lo ≤ x ∧ x < hi := by
  simp only [rngL, List.mem_map, List.mem_range]
  constructor
  · rintro ⟨i, hi, rfl⟩; omega
  · rintro ⟨h1, h2⟩; exact ⟨(x - lo).toNat, by omega, by omega⟩
theorem length_rngL {lo hi : Int} : (rngL lo hi).length = (hi - lo).toNat := by simp [rngL]
theorem itemsOf_rng {lo hi : Int} : itemsOf (.rng lo hi) = some ((rngL lo hi).map .int) := by
  simp only [itemsOf, rngL, List.map_map]; rfl

/-- the last clause over a list -/
theorem clL {α : Type} {elt : Expr} {gens : List Comprehension} {scope : Scope} {d : Nat} {target iter : Expr} {ifs : List Expr} {g : α → PV} (t : α → Bool) (f : α → PV) (hg : gens[d]? = some ⟨target, iter, ifs, 0⟩) (hn : gens[d + 1]? = none) (hk : d = d) :
    ∀ xs : List α, (∀ x ∈ xs, ∃ ρ₁, Asg G k sc false ρ target (g x) ρ₁ ∧ Tsts G k sc ρ₁ σ ifs (t x) ∧ (t x = true → Ev G k sc ρ₁ σ elt (f x) σ) ∧ ∀ y pv, ρ.lookup y = some pv → ρ₁.lookup y = some pv) →
      Cl G k sc elt gens scope pos d ρ σ (xs.map g) ((xs.filter t).map f)
  | [], _ => cl_nil hg (.inl hn)
  | x :: xs, h => by
    obtain ⟨ρ₁, h1, h2, h3, h4⟩ := h x (.head _)
    have := cl_last (scope := scope) (pos := pos) hg hn h1 h2 h3 h4 (clL t f hg hn hk xs fun y hy => h y (.tail _ hy))
    rw [List.map_cons, List.filter_cons]
    cases hx : t x with
    | true => rw [hx] at this; exact this
    | false => rw [hx] at this; exact this
/-- a clause with another behind it, over a list -/
theorem clM {α : Type} {elt : Expr} {gens : List Comprehension} {scope : Scope} {d : Nat} {target iter target' iter' : Expr} {ifs ifs' : List Expr} {g : α → PV} (t : α → Bool) (F : α → List PV) (hg : gens[d]? = some ⟨target, iter, ifs, 0⟩)
    (hn : gens[d + 1]? = some ⟨target', iter', ifs', 0⟩) (hs : ∀ env x, foldedSetIterable iter' env x = pure x) :
    ∀ xs : List α, (∀ x ∈ xs, ∃ ρ₁ a l, Asg G k sc false ρ target (g x) ρ₁ ∧ Tsts G k sc ρ₁ σ ifs (t x) ∧ (t x = true → Ev G k sc ρ₁ σ iter' a σ) ∧ itemsOf a = some l ∧ (t x = true → Cl G k sc elt gens scope pos (d + 1) ρ₁ σ l (F x)) ∧ ∀ y pv, ρ.lookup y = some pv → ρ₁.lookup y = some pv) →
      Cl G k sc elt gens scope pos d ρ σ (xs.map g) ((xs.filter t).flatMap F)
  | [], _ => cl_nil hg (.inr ⟨_, _, _, hn⟩)
  | x :: xs, h => by
    obtain ⟨ρ₁, a, l, h1, h2, h3, h4, h5, h6⟩ := h x (.head _)
    have := cl_more (scope := scope) (pos := pos) hg hn h1 h2 h3 h4 h5 hs h6 (clM t F hg hn hs xs fun y hy => h y (.tail _ hy))
    rw [List.map_cons, List.filter_cons]
    cases hx : t x with
    | true => rw [hx] at this; exact this
    | false => rw [hx] at this; exact this

/-- a loop that may return -/
theorem fl_any {α : Type} {t : Expr} {body : List Stmt} {g : α → PV} (q : α → Bool) : ∀ xs : List α,
    (∀ x ∈ xs, ∃ ρ₁ ρ₂, Asg G k sc true ρ t (g x) ρ₁ ∧ (q x = true → Ex G k sc ρ₁ σ body (.ret r σ)) ∧ (q x = false → Ex G k sc ρ₁ σ body (.next ρ₂ σ)) ∧ ∀ y pv, ρ.lookup y = some pv → ρ₂.lookup y = some pv) →
      (xs.any q = true → Fl G k sc t body (xs.map g) ρ σ (.ret r σ)) ∧ (xs.any q = false → ∃ ρ', (∀ y pv, ρ.lookup y = some pv → ρ'.lookup y = some pv) ∧ Fl G k sc t body (xs.map g) ρ σ (.next ρ' σ))
  | [], _ => ⟨fun e => by simp at e, fun _ => ⟨ρ, fun _ _ e => e, fl_nil⟩⟩
  | x :: xs, h => by
    obtain ⟨ρ₁, ρ₂, h1, h2, h3, h4⟩ := h x (.head _)
    obtain ⟨i1, i2⟩ := fl_any q xs fun y hy => h y (.tail _ hy)
    rw [List.any_cons, List.map_cons]
    cases hx : q x with
    | true => exact ⟨fun _ => fl_ret h1 (h2 hx), fun e => by simp at e⟩
    | false =>
      refine ⟨fun e => fl_next h1 (h3 hx) (fl_weaken (i1 (by simpa using e)) h4), fun e => ?_⟩
      obtain ⟨ρ', a, b⟩ := i2 (by simpa using e)
      exact ⟨ρ', a, fl_next h1 (h3 hx) (fl_weaken b h4)⟩
/-- a loop that fills a list -/
theorem fl_acc {α : Type} {t : Expr} {body : List Stmt} {g : α → PV} (F : α → List PV) : ∀ (xs : List α) (L : List PV),
    (∀ L, ∀ x ∈ xs, ∃ ρ₁ ρ₂, Asg G k sc true ρ t (g x) ρ₁ ∧ Ex G k sc ρ₁ (σ ++ [L]) body (.next ρ₂ (σ ++ [L ++ F x])) ∧ ∀ y pv, ρ.lookup y = some pv → ρ₂.lookup y = some pv) →
      ∃ ρ', (∀ y pv, ρ.lookup y = some pv → ρ'.lookup y = some pv) ∧ Fl G k sc t body (xs.map g) ρ (σ ++ [L]) (.next ρ' (σ ++ [L ++ xs.flatMap F]))
  | [], L, _ => ⟨ρ, fun _ _ e => e, by simpa using fl_nil⟩
  | x :: xs, L, h => by
    obtain ⟨ρ₁, ρ₂, h1, h2, h3⟩ := h L x (.head _)
    obtain ⟨ρ', a, b⟩ := fl_acc F xs (L ++ F x) fun L y hy => h L y (.tail _ hy)
    refine ⟨ρ', a, ?_⟩
    rw [List.map_cons, List.flatMap_cons, ← List.append_assoc]
    exact fl_next h1 h2 (fl_weaken b h3)

theorem ext0 : ∀ y pv, ρ.lookup y = some pv → ρ.lookup y = some pv := fun _ _ e => e
theorem ext1 {x : Str} (hx : ρ₁.lookup x = none) (h : ∀ y pv, ρ₁.lookup y = some pv → ρ.lookup y = some pv) : ∀ y pv, ρ₁.lookup y = some pv → ((x, p) :: ρ).lookup y = some pv := fun y pv e => by
  rw [List.lookup_cons]
  cases hb : y == x with
  | true => rw [beq_iff_eq.mp hb, hx] at e; cases e
  | false => exact h y pv e
theorem vals0 {P : List Value → Prop} (h : P []) : ∀ vals : List Value, vals.length = 0 → P vals
  | [], _ => h
theorem vals1 {P : List Value → Prop} (h : ∀ a, P [a]) : ∀ vals : List Value, vals.length = 1 → P vals
  | [a], _ => h a
theorem vals2 {P : List Value → Prop} (h : ∀ a b, P [a, b]) : ∀ vals : List Value, vals.length = 2 → P vals
  | [a, b], _ => h a b
theorem vals3 {P : List Value → Prop} (h : ∀ a b c, P [a, b, c]) : ∀ vals : List Value, vals.length = 3 → P vals
  | [a, b, c], _ => h a b c
theorem vals4 {P : List Value → Prop} (h : ∀ a b c d, P [a, b, c, d]) : ∀ vals : List Value, vals.length = 4 → P vals
  | [a, b, c, d], _ => h a b c d

theorem small_of {a : Int} (h1 : -(10 ^ 200) ≤ a) (h2 : a ≤ 10 ^ 200) : Small a := by
  unfold Small
  have : a.natAbs ≤ 10 ^ 200 := by omega
  exact Nat.lt_of_le_of_lt this (by decide +kernel)
end
end Mine

/- KH -/
namespace Mine
/-- the defs of the text, by their places -/
def dSt : List Nat → Option Stmt
  | [i] => PySem.Challenge.pw_pc0029_01.main.body[i]?
  | [i, k] => match PySem.Challenge.pw_pc0029_01.main.body[i]? with
    | some (.ClassDef _ _ _ b _ _ _ _ _ _ _) => b[k]?
    | _ => none
  | _ => none
def dPar (p : List Nat) : Arguments := match dSt p with | some (.FunctionDef _ a _ _ _ _ _ _ _ _) => a | _ => ⟨[], [], none, [], [], none, []⟩
def dBod (p : List Nat) : List Stmt := match dSt p with | some (.FunctionDef _ _ b _ _ _ _ _ _ _) => b | _ => []
def dSco (p : List Nat) : Scope := match dSt p with | some (.FunctionDef _ _ _ _ _ _ s _ _ _) => s | _ => { kind := .function, names := [], isGenerator := false, isCoroutine := false }
/-- the text without the three names of files -/
def hd.view_39 : Program := { PySem.Challenge.pw_pc0029_01 with main := { PySem.Challenge.pw_pc0029_01.main with body := ((PySem.Challenge.pw_pc0029_01.main.body.eraseIdx 12).eraseIdx 3).eraseIdx 1 } }
/-- what stands behind the text's run: printed by a small program (printk.lean) from the kit's own head, the defs' parts by their places -/
noncomputable def hd.heap_39 (P : Params) : Frag :=
  (nat_lit 2, (Obj.mk Value.none none (Data.dict #[] 0) #[])) ::
  (nat_lit 3, (Obj.mk (Value.type "dict") none (Data.dict #[(DictEntry.mk (PyData.keyHash P (Str.ofString "__name__")) (Value.str (Str.ofString "__name__") 165) (Value.str (Str.ofString "law_pc0029_01") 524)), (DictEntry.mk (PyData.keyHash P (Str.ofString "__doc__")) (Value.str (Str.ofString "__doc__") 166) Value.none), (DictEntry.mk (PyData.keyHash P (Str.ofString "__package__")) (Value.str (Str.ofString "__package__") 167) Value.none), (DictEntry.mk (PyData.keyHash P (Str.ofString "__loader__")) (Value.str (Str.ofString "__loader__") 168) (Value.builtin "__main__.__loader__#opaque")), (DictEntry.mk (PyData.keyHash P (Str.ofString "__spec__")) (Value.str (Str.ofString "__spec__") 169) Value.none), (DictEntry.mk (PyData.keyHash P (Str.ofString "__annotations__")) (Value.str (Str.ofString "__annotations__") 170) (Value.ref 6)), (DictEntry.mk (PyData.keyHash P (Str.ofString "__builtins__")) (Value.str (Str.ofString "__builtins__") 171) (Value.ref 4)), (DictEntry.mk (PyData.keyHash P (Str.ofString "__file__")) (Value.str (Str.ofString "__file__") 173) (Value.str (Str.ofString "/claim/cut.py") 172)), (DictEntry.mk (PyData.keyHash P (Str.ofString "__cached__")) (Value.str (Str.ofString "__cached__") 174) Value.none), (DictEntry.mk (PyData.keyHash P (Str.ofString "_wall")) (Value.str (Str.ofString "_wall") 193) (Value.ref 21)), (DictEntry.mk (PyData.keyHash P (Str.ofString "Propagator")) (Value.str (Str.ofString "Propagator") 250) (Value.ref 59)), (DictEntry.mk (PyData.keyHash P (Str.ofString "ceiling")) (Value.str (Str.ofString "ceiling") 260) (Value.ref 70)), (DictEntry.mk (PyData.keyHash P (Str.ofString "truncated")) (Value.str (Str.ofString "truncated") 269) (Value.ref 77)), (DictEntry.mk (PyData.keyHash P (Str.ofString "size_of")) (Value.str (Str.ofString "size_of") 276) (Value.ref 84)), (DictEntry.mk (PyData.keyHash P (Str.ofString "do_meet")) (Value.str (Str.ofString "do_meet") 284) (Value.ref 91)), (DictEntry.mk (PyData.keyHash P (Str.ofString "Bounded")) (Value.str (Str.ofString "Bounded") 374) (Value.ref 159)), (DictEntry.mk (PyData.keyHash P (Str.ofString "Times")) (Value.str (Str.ofString "Times") 431) (Value.ref 199)), (DictEntry.mk (PyData.keyHash P (Str.ofString "Divided")) (Value.str (Str.ofString "Divided") 461) (Value.ref 223)), (DictEntry.mk (PyData.keyHash P (Str.ofString "Quotient")) (Value.str (Str.ofString "Quotient") 523) (Value.ref 270)), (DictEntry.mk (PyData.keyHash P (Str.ofString "_law_out")) (Value.str (Str.ofString "_law_out") 531) (Value.ref 279)), (DictEntry.mk (PyData.keyHash P (Str.ofString "_law_step")) (Value.str (Str.ofString "_law_step") 540) (Value.ref 286)), (DictEntry.mk (PyData.keyHash P (Str.ofString "_law_around")) (Value.str (Str.ofString "_law_around") 549) (Value.ref 293)), (DictEntry.mk (PyData.keyHash P (Str.ofString "_law_great")) (Value.str (Str.ofString "_law_great") 557) (Value.ref 300)), (DictEntry.mk (PyData.keyHash P (Str.ofString "_law_all")) (Value.str (Str.ofString "_law_all") 564) (Value.ref 307)), (DictEntry.mk (PyData.keyHash P (Str.ofString "_law_is_quotient")) (Value.str (Str.ofString "_law_is_quotient") 574) (Value.ref 314)), (DictEntry.mk (PyData.keyHash P (Str.ofString "_law_is_narrow_right")) (Value.str (Str.ofString "_law_is_narrow_right") 580) (Value.ref 319)), (DictEntry.mk (PyData.keyHash P (Str.ofString "_law_wide_quotients_right")) (Value.str (Str.ofString "_law_wide_quotients_right") 586) (Value.ref 324)), (DictEntry.mk (PyData.keyHash P (Str.ofString "_law_quotients_right")) (Value.str (Str.ofString "_law_quotients_right") 592) (Value.ref 329)), (DictEntry.mk (PyData.keyHash P (Str.ofString "_law_wide_products_right")) (Value.str (Str.ofString "_law_wide_products_right") 598) (Value.ref 334)), (DictEntry.mk (PyData.keyHash P (Str.ofString "_law_products_right")) (Value.str (Str.ofString "_law_products_right") 604) (Value.ref 339)), (DictEntry.mk (PyData.keyHash P (Str.ofString "law")) (Value.str (Str.ofString "law") 614) (Value.ref 346))] 31) #[])) ::
  (nat_lit 15, (Obj.mk (Value.type "tuple") none (Data.seq #[] 0) #[])) ::
  (nat_lit 17, (Obj.mk (Value.type "tuple") none (Data.seq #[(Value.str (Str.ofString "k") 190)] 0) #[])) ::
  (nat_lit 18, (Obj.mk (Value.type "tuple") none (Data.seq #[] 0) #[])) ::
  (nat_lit 20, (Obj.mk (Value.type "code") none (Data.fields #[(Value.str (Str.ofString "_wall") 187), (Value.str (Str.ofString "_wall") 188), (Value.str (Str.ofString "/claim/cut.py") 189), (Value.int 1 0), (Value.int 1 0), (Value.int 0 0), (Value.int 0 0), (Value.int 3 0), (Value.ref 15), (Value.bool Bool.true), (Value.int 181 0), (Value.ref 16), Value.none, (Value.ref 17), (Value.ref 18), (Value.ref 19), (Value.int 191 0), (Value.int 1 0), (Value.str (Str.ofString "/claim/cut.py") 192)]) #[])) ::
  (nat_lit 21, (Obj.mk (Value.type "function") none (Data.func (FuncData.mk (Str.ofString "_wall") (Str.ofString "_wall") (dPar [0]) (FuncBody.stmts (dBod [0])) (dSco [0]) 3 [] Value.none Value.none Value.none (Value.str (Str.ofString "__main__") 164) none (Value.ref 20) Value.none 0)) #[])) ::
  (nat_lit 29, (Obj.mk (Value.type "tuple") none (Data.seq #[] 0) #[])) ::
  (nat_lit 31, (Obj.mk (Value.type "tuple") none (Data.seq #[(Value.str (Str.ofString "self") 211), (Value.str (Str.ofString "scope") 212), (Value.str (Str.ofString "strength") 213)] 0) #[])) ::
  (nat_lit 32, (Obj.mk (Value.type "tuple") none (Data.seq #[] 0) #[])) ::
  (nat_lit 34, (Obj.mk (Value.type "code") none (Data.fields #[(Value.str (Str.ofString "__init__") 208), (Value.str (Str.ofString "Propagator.__init__") 209), (Value.str (Str.ofString "/claim/cut.py") 210), (Value.int 7 0), (Value.int 3 0), (Value.int 0 0), (Value.int 0 0), (Value.int 3 0), (Value.ref 29), (Value.bool Bool.true), (Value.int 181 0), (Value.ref 30), Value.none, (Value.ref 31), (Value.ref 32), (Value.ref 33), (Value.int 214 0), (Value.int 7 0), (Value.str (Str.ofString "/claim/cut.py") 215)]) #[])) ::
  (nat_lit 35, (Obj.mk (Value.type "function") none (Data.func (FuncData.mk (Str.ofString "__init__") (Str.ofString "Propagator.__init__") (dPar [2, 0]) (FuncBody.stmts (dBod [2, 0])) (dSco [2, 0]) 3 [] Value.none Value.none Value.none (Value.str (Str.ofString "fdsolve.store") 194) none (Value.ref 34) Value.none 0)) #[])) ::
  (nat_lit 36, (Obj.mk (Value.type "tuple") none (Data.seq #[] 0) #[])) ::
  (nat_lit 38, (Obj.mk (Value.type "tuple") none (Data.seq #[(Value.str (Str.ofString "self") 220), (Value.str (Str.ofString "store") 221)] 0) #[])) ::
  (nat_lit 39, (Obj.mk (Value.type "tuple") none (Data.seq #[] 0) #[])) ::
  (nat_lit 41, (Obj.mk (Value.type "code") none (Data.fields #[(Value.str (Str.ofString "propagate") 217), (Value.str (Str.ofString "Propagator.propagate") 218), (Value.str (Str.ofString "/claim/cut.py") 219), (Value.int 12 0), (Value.int 2 0), (Value.int 0 0), (Value.int 0 0), (Value.int 3 0), (Value.ref 36), (Value.bool Bool.true), (Value.int 181 0), (Value.ref 37), Value.none, (Value.ref 38), (Value.ref 39), (Value.ref 40), (Value.int 222 0), (Value.int 12 0), (Value.str (Str.ofString "/claim/cut.py") 223)]) #[])) ::
  (nat_lit 42, (Obj.mk (Value.type "function") none (Data.func (FuncData.mk (Str.ofString "propagate") (Str.ofString "Propagator.propagate") (dPar [2, 1]) (FuncBody.stmts (dBod [2, 1])) (dSco [2, 1]) 3 [] Value.none Value.none Value.none (Value.str (Str.ofString "fdsolve.store") 194) none (Value.ref 41) Value.none 0)) #[])) ::
  (nat_lit 43, (Obj.mk (Value.type "tuple") none (Data.seq #[] 0) #[])) ::
  (nat_lit 45, (Obj.mk (Value.type "tuple") none (Data.seq #[(Value.str (Str.ofString "self") 228), (Value.str (Str.ofString "values") 229)] 0) #[])) ::
  (nat_lit 46, (Obj.mk (Value.type "tuple") none (Data.seq #[] 0) #[])) ::
  (nat_lit 48, (Obj.mk (Value.type "code") none (Data.fields #[(Value.str (Str.ofString "check") 225), (Value.str (Str.ofString "Propagator.check") 226), (Value.str (Str.ofString "/claim/cut.py") 227), (Value.int 15 0), (Value.int 2 0), (Value.int 0 0), (Value.int 0 0), (Value.int 3 0), (Value.ref 43), (Value.bool Bool.true), (Value.int 181 0), (Value.ref 44), Value.none, (Value.ref 45), (Value.ref 46), (Value.ref 47), (Value.int 230 0), (Value.int 15 0), (Value.str (Str.ofString "/claim/cut.py") 231)]) #[])) ::
  (nat_lit 49, (Obj.mk (Value.type "function") none (Data.func (FuncData.mk (Str.ofString "check") (Str.ofString "Propagator.check") (dPar [2, 2]) (FuncBody.stmts (dBod [2, 2])) (dSco [2, 2]) 3 [] Value.none Value.none Value.none (Value.str (Str.ofString "fdsolve.store") 194) none (Value.ref 48) Value.none 0)) #[])) ::
  (nat_lit 50, (Obj.mk (Value.type "tuple") none (Data.seq #[] 0) #[])) ::
  (nat_lit 52, (Obj.mk (Value.type "tuple") none (Data.seq #[(Value.str (Str.ofString "self") 236)] 0) #[])) ::
  (nat_lit 53, (Obj.mk (Value.type "tuple") none (Data.seq #[] 0) #[])) ::
  (nat_lit 55, (Obj.mk (Value.type "code") none (Data.fields #[(Value.str (Str.ofString "told") 233), (Value.str (Str.ofString "Propagator.told") 234), (Value.str (Str.ofString "/claim/cut.py") 235), (Value.int 18 0), (Value.int 1 0), (Value.int 0 0), (Value.int 0 0), (Value.int 3 0), (Value.ref 50), (Value.bool Bool.true), (Value.int 181 0), (Value.ref 51), Value.none, (Value.ref 52), (Value.ref 53), (Value.ref 54), (Value.int 237 0), (Value.int 18 0), (Value.str (Str.ofString "/claim/cut.py") 238)]) #[])) ::
  (nat_lit 56, (Obj.mk (Value.type "function") none (Data.func (FuncData.mk (Str.ofString "told") (Str.ofString "Propagator.told") (dPar [2, 3]) (FuncBody.stmts (dBod [2, 3])) (dSco [2, 3]) 3 [] Value.none Value.none Value.none (Value.str (Str.ofString "fdsolve.store") 194) none (Value.ref 55) Value.none 0)) #[])) ::
  (nat_lit 57, (Obj.mk (Value.type "tuple") none (Data.seq #[(Value.str (Str.ofString "number") 240), (Value.str (Str.ofString "scope") 241), (Value.str (Str.ofString "strength") 242)] 0) #[])) ::
  (nat_lit 58, (Obj.mk (Value.type "dict") none (Data.dict #[(DictEntry.mk (PyData.keyHash P (Str.ofString "__module__")) (Value.str (Str.ofString "__module__") 203) (Value.str (Str.ofString "fdsolve.store") 194)), (DictEntry.mk (PyData.keyHash P (Str.ofString "__firstlineno__")) (Value.str (Str.ofString "__firstlineno__") 207) (Value.int 5 206)), (DictEntry.mk (PyData.keyHash P (Str.ofString "__init__")) (Value.str (Str.ofString "__init__") 216) (Value.ref 35)), (DictEntry.mk (PyData.keyHash P (Str.ofString "propagate")) (Value.str (Str.ofString "propagate") 224) (Value.ref 42)), (DictEntry.mk (PyData.keyHash P (Str.ofString "check")) (Value.str (Str.ofString "check") 232) (Value.ref 49)), (DictEntry.mk (PyData.keyHash P (Str.ofString "told")) (Value.str (Str.ofString "told") 239) (Value.ref 56)), (DictEntry.mk (PyData.keyHash P (Str.ofString "__static_attributes__")) (Value.str (Str.ofString "__static_attributes__") 243) (Value.ref 57)), (DictEntry.mk (PyData.keyHash P (Str.ofString "__dict__")) (Value.str (Str.ofString "__dict__") 245) (Value.ref 60)), (DictEntry.mk (PyData.keyHash P (Str.ofString "__weakref__")) (Value.str (Str.ofString "__weakref__") 247) (Value.ref 61)), (DictEntry.mk (PyData.keyHash P (Str.ofString "__doc__")) (Value.str (Str.ofString "__doc__") 248) Value.none)] 4) #[])) ::
  (nat_lit 59, (Obj.mk (Value.type "type") none (Data.cls (ClassData.mk (Str.ofString "Propagator") [(Value.type "object")] [(Value.ref 59), (Value.type "object")] 58 (Str.ofString "Propagator") Bool.true [] [(Value.ref 159)] Bool.false none Bool.false)) #[none, none, (some (Value.str (Str.ofString "Propagator") 196)), (some (Value.str (Str.ofString "Propagator") 204)), (some (Value.builtin "object.__new__")), (some (Value.bool Bool.true))])) ::
  (nat_lit 60, (Obj.mk (Value.type "getset_descriptor") none (Data.fields #[(Value.str (Str.ofString "__dict__") 244), (Value.ref 59), (Value.builtin "function.__dict__"), (Value.builtin "function.__dict__#set")]) #[])) ::
  (nat_lit 61, (Obj.mk (Value.type "getset_descriptor") none (Data.fields #[(Value.str (Str.ofString "__weakref__") 246), (Value.ref 59), (Value.builtin "ExceptionGroup.__weakref__"), Value.none]) #[])) ::
  (nat_lit 64, (Obj.mk (Value.type "tuple") none (Data.seq #[] 0) #[])) ::
  (nat_lit 66, (Obj.mk (Value.type "tuple") none (Data.seq #[(Value.str (Str.ofString "a") 256), (Value.str (Str.ofString "b") 257)] 0) #[])) ::
  (nat_lit 67, (Obj.mk (Value.type "tuple") none (Data.seq #[] 0) #[])) ::
  (nat_lit 69, (Obj.mk (Value.type "code") none (Data.fields #[(Value.str (Str.ofString "ceiling") 253), (Value.str (Str.ofString "ceiling") 254), (Value.str (Str.ofString "/claim/cut.py") 255), (Value.int 21 0), (Value.int 2 0), (Value.int 0 0), (Value.int 0 0), (Value.int 3 0), (Value.ref 64), (Value.bool Bool.true), (Value.int 181 0), (Value.ref 65), Value.none, (Value.ref 66), (Value.ref 67), (Value.ref 68), (Value.int 258 0), (Value.int 21 0), (Value.str (Str.ofString "/claim/cut.py") 259)]) #[])) ::
  (nat_lit 70, (Obj.mk (Value.type "function") none (Data.func (FuncData.mk (Str.ofString "ceiling") (Str.ofString "ceiling") (dPar [4]) (FuncBody.stmts (dBod [4])) (dSco [4]) 3 [] Value.none Value.none Value.none (Value.str (Str.ofString "fdsolve.arith") 251) none (Value.ref 69) Value.none 0)) #[])) ::
  (nat_lit 71, (Obj.mk (Value.type "tuple") none (Data.seq #[] 0) #[])) ::
  (nat_lit 73, (Obj.mk (Value.type "tuple") none (Data.seq #[(Value.str (Str.ofString "a") 264), (Value.str (Str.ofString "b") 265), (Value.str (Str.ofString "found") 266)] 0) #[])) ::
  (nat_lit 74, (Obj.mk (Value.type "tuple") none (Data.seq #[] 0) #[])) ::
  (nat_lit 76, (Obj.mk (Value.type "code") none (Data.fields #[(Value.str (Str.ofString "truncated") 261), (Value.str (Str.ofString "truncated") 262), (Value.str (Str.ofString "/claim/cut.py") 263), (Value.int 23 0), (Value.int 2 0), (Value.int 0 0), (Value.int 0 0), (Value.int 3 0), (Value.ref 71), (Value.bool Bool.true), (Value.int 181 0), (Value.ref 72), Value.none, (Value.ref 73), (Value.ref 74), (Value.ref 75), (Value.int 267 0), (Value.int 23 0), (Value.str (Str.ofString "/claim/cut.py") 268)]) #[])) ::
  (nat_lit 77, (Obj.mk (Value.type "function") none (Data.func (FuncData.mk (Str.ofString "truncated") (Str.ofString "truncated") (dPar [5]) (FuncBody.stmts (dBod [5])) (dSco [5]) 3 [] Value.none Value.none Value.none (Value.str (Str.ofString "fdsolve.arith") 251) none (Value.ref 76) Value.none 0)) #[])) ::
  (nat_lit 78, (Obj.mk (Value.type "tuple") none (Data.seq #[] 0) #[])) ::
  (nat_lit 80, (Obj.mk (Value.type "tuple") none (Data.seq #[(Value.str (Str.ofString "ends") 273)] 0) #[])) ::
  (nat_lit 81, (Obj.mk (Value.type "tuple") none (Data.seq #[] 0) #[])) ::
  (nat_lit 83, (Obj.mk (Value.type "code") none (Data.fields #[(Value.str (Str.ofString "size_of") 270), (Value.str (Str.ofString "size_of") 271), (Value.str (Str.ofString "/claim/cut.py") 272), (Value.int 26 0), (Value.int 1 0), (Value.int 0 0), (Value.int 0 0), (Value.int 3 0), (Value.ref 78), (Value.bool Bool.true), (Value.int 181 0), (Value.ref 79), Value.none, (Value.ref 80), (Value.ref 81), (Value.ref 82), (Value.int 274 0), (Value.int 26 0), (Value.str (Str.ofString "/claim/cut.py") 275)]) #[])) ::
  (nat_lit 84, (Obj.mk (Value.type "function") none (Data.func (FuncData.mk (Str.ofString "size_of") (Str.ofString "size_of") (dPar [6]) (FuncBody.stmts (dBod [6])) (dSco [6]) 3 [] Value.none Value.none Value.none (Value.str (Str.ofString "fdsolve.arith") 251) none (Value.ref 83) Value.none 0)) #[])) ::
  (nat_lit 85, (Obj.mk (Value.type "tuple") none (Data.seq #[] 0) #[])) ::
  (nat_lit 87, (Obj.mk (Value.type "tuple") none (Data.seq #[(Value.str (Str.ofString "one") 280), (Value.str (Str.ofString "other") 281)] 0) #[])) ::
  (nat_lit 88, (Obj.mk (Value.type "tuple") none (Data.seq #[] 0) #[])) ::
  (nat_lit 90, (Obj.mk (Value.type "code") none (Data.fields #[(Value.str (Str.ofString "do_meet") 277), (Value.str (Str.ofString "do_meet") 278), (Value.str (Str.ofString "/claim/cut.py") 279), (Value.int 28 0), (Value.int 2 0), (Value.int 0 0), (Value.int 0 0), (Value.int 3 0), (Value.ref 85), (Value.bool Bool.true), (Value.int 181 0), (Value.ref 86), Value.none, (Value.ref 87), (Value.ref 88), (Value.ref 89), (Value.int 282 0), (Value.int 28 0), (Value.str (Str.ofString "/claim/cut.py") 283)]) #[])) ::
  (nat_lit 91, (Obj.mk (Value.type "function") none (Data.func (FuncData.mk (Str.ofString "do_meet") (Str.ofString "do_meet") (dPar [7]) (FuncBody.stmts (dBod [7])) (dSco [7]) 3 [] Value.none Value.none Value.none (Value.str (Str.ofString "fdsolve.arith") 251) none (Value.ref 90) Value.none 0)) #[])) ::
  (nat_lit 92, (Obj.mk (Value.type "tuple") none (Data.seq #[(Value.ref 59)] 0) #[])) ::
  (nat_lit 95, (Obj.mk (Value.type "cell") none (Data.cell (some (Value.ref 159))) #[])) ::
  (nat_lit 100, (Obj.mk (Value.type "tuple") none (Data.seq #[(Value.ref 95)] 0) #[])) ::
  (nat_lit 101, (Obj.mk (Value.type "tuple") none (Data.seq #[(Value.str (Str.ofString "__class__") 300)] 0) #[])) ::
  (nat_lit 103, (Obj.mk (Value.type "tuple") none (Data.seq #[(Value.str (Str.ofString "self") 301), (Value.str (Str.ofString "name") 302), (Value.str (Str.ofString "scope") 303)] 0) #[])) ::
  (nat_lit 104, (Obj.mk (Value.type "tuple") none (Data.seq #[] 0) #[])) ::
  (nat_lit 106, (Obj.mk (Value.type "code") none (Data.fields #[(Value.str (Str.ofString "__init__") 297), (Value.str (Str.ofString "Bounded.__init__") 298), (Value.str (Str.ofString "/claim/cut.py") 299), (Value.int 32 0), (Value.int 3 0), (Value.int 0 0), (Value.int 0 0), (Value.int 3 0), (Value.ref 101), (Value.bool Bool.true), (Value.int 181 0), (Value.ref 102), Value.none, (Value.ref 103), (Value.ref 104), (Value.ref 105), (Value.int 304 0), (Value.int 32 0), (Value.str (Str.ofString "/claim/cut.py") 305)]) #[])) ::
  (nat_lit 107, (Obj.mk (Value.type "function") none (Data.func (FuncData.mk (Str.ofString "__init__") (Str.ofString "Bounded.__init__") (dPar [8, 0]) (FuncBody.stmts (dBod [8, 0])) (dSco [8, 0]) 3 [((Str.ofString "__class__"), 95)] Value.none Value.none Value.none (Value.str (Str.ofString "fdsolve.arith") 251) none (Value.ref 106) (Value.ref 100) 0)) #[])) ::
  (nat_lit 108, (Obj.mk (Value.type "tuple") none (Data.seq #[] 0) #[])) ::
  (nat_lit 110, (Obj.mk (Value.type "tuple") none (Data.seq #[(Value.str (Str.ofString "self") 310)] 0) #[])) ::
  (nat_lit 111, (Obj.mk (Value.type "tuple") none (Data.seq #[] 0) #[])) ::
  (nat_lit 113, (Obj.mk (Value.type "code") none (Data.fields #[(Value.str (Str.ofString "told") 307), (Value.str (Str.ofString "Bounded.told") 308), (Value.str (Str.ofString "/claim/cut.py") 309), (Value.int 36 0), (Value.int 1 0), (Value.int 0 0), (Value.int 0 0), (Value.int 3 0), (Value.ref 108), (Value.bool Bool.true), (Value.int 181 0), (Value.ref 109), Value.none, (Value.ref 110), (Value.ref 111), (Value.ref 112), (Value.int 311 0), (Value.int 36 0), (Value.str (Str.ofString "/claim/cut.py") 312)]) #[])) ::
  (nat_lit 114, (Obj.mk (Value.type "function") none (Data.func (FuncData.mk (Str.ofString "told") (Str.ofString "Bounded.told") (dPar [8, 1]) (FuncBody.stmts (dBod [8, 1])) (dSco [2, 3]) 3 [] Value.none Value.none Value.none (Value.str (Str.ofString "fdsolve.arith") 251) none (Value.ref 113) Value.none 0)) #[])) ::
  (nat_lit 115, (Obj.mk (Value.type "tuple") none (Data.seq #[] 0) #[])) ::
  (nat_lit 117, (Obj.mk (Value.type "tuple") none (Data.seq #[(Value.str (Str.ofString "self") 317), (Value.str (Str.ofString "ranges") 318), (Value.str (Str.ofString "spot") 319), (Value.str (Str.ofString "v") 320)] 0) #[])) ::
  (nat_lit 118, (Obj.mk (Value.type "tuple") none (Data.seq #[] 0) #[])) ::
  (nat_lit 120, (Obj.mk (Value.type "code") none (Data.fields #[(Value.str (Str.ofString "can_be") 314), (Value.str (Str.ofString "Bounded.can_be") 315), (Value.str (Str.ofString "/claim/cut.py") 316), (Value.int 39 0), (Value.int 4 0), (Value.int 0 0), (Value.int 0 0), (Value.int 3 0), (Value.ref 115), (Value.bool Bool.true), (Value.int 181 0), (Value.ref 116), Value.none, (Value.ref 117), (Value.ref 118), (Value.ref 119), (Value.int 321 0), (Value.int 39 0), (Value.str (Str.ofString "/claim/cut.py") 322)]) #[])) ::
  (nat_lit 121, (Obj.mk (Value.type "function") none (Data.func (FuncData.mk (Str.ofString "can_be") (Str.ofString "Bounded.can_be") (dPar [8, 2]) (FuncBody.stmts (dBod [8, 2])) (dSco [8, 2]) 3 [] Value.none Value.none Value.none (Value.str (Str.ofString "fdsolve.arith") 251) none (Value.ref 120) Value.none 0)) #[])) ::
  (nat_lit 122, (Obj.mk (Value.type "tuple") none (Data.seq #[] 0) #[])) ::
  (nat_lit 124, (Obj.mk (Value.type "tuple") none (Data.seq #[(Value.str (Str.ofString "self") 327), (Value.str (Str.ofString "ranges") 328), (Value.str (Str.ofString "spot") 329)] 0) #[])) ::
  (nat_lit 125, (Obj.mk (Value.type "tuple") none (Data.seq #[] 0) #[])) ::
  (nat_lit 127, (Obj.mk (Value.type "code") none (Data.fields #[(Value.str (Str.ofString "outer") 324), (Value.str (Str.ofString "Bounded.outer") 325), (Value.str (Str.ofString "/claim/cut.py") 326), (Value.int 42 0), (Value.int 3 0), (Value.int 0 0), (Value.int 0 0), (Value.int 3 0), (Value.ref 122), (Value.bool Bool.true), (Value.int 181 0), (Value.ref 123), Value.none, (Value.ref 124), (Value.ref 125), (Value.ref 126), (Value.int 330 0), (Value.int 42 0), (Value.str (Str.ofString "/claim/cut.py") 331)]) #[])) ::
  (nat_lit 128, (Obj.mk (Value.type "function") none (Data.func (FuncData.mk (Str.ofString "outer") (Str.ofString "Bounded.outer") (dPar [8, 3]) (FuncBody.stmts (dBod [8, 3])) (dSco [8, 3]) 3 [] Value.none Value.none Value.none (Value.str (Str.ofString "fdsolve.arith") 251) none (Value.ref 127) Value.none 0)) #[])) ::
  (nat_lit 129, (Obj.mk (Value.type "tuple") none (Data.seq #[] 0) #[])) ::
  (nat_lit 131, (Obj.mk (Value.type "tuple") none (Data.seq #[(Value.str (Str.ofString "self") 336), (Value.str (Str.ofString "ranges") 337), (Value.str (Str.ofString "spot") 338), (Value.str (Str.ofString "own") 339)] 0) #[])) ::
  (nat_lit 132, (Obj.mk (Value.type "tuple") none (Data.seq #[] 0) #[])) ::
  (nat_lit 134, (Obj.mk (Value.type "code") none (Data.fields #[(Value.str (Str.ofString "reasons_at") 333), (Value.str (Str.ofString "Bounded.reasons_at") 334), (Value.str (Str.ofString "/claim/cut.py") 335), (Value.int 45 0), (Value.int 4 0), (Value.int 0 0), (Value.int 0 0), (Value.int 3 0), (Value.ref 129), (Value.bool Bool.true), (Value.int 181 0), (Value.ref 130), Value.none, (Value.ref 131), (Value.ref 132), (Value.ref 133), (Value.int 340 0), (Value.int 45 0), (Value.str (Str.ofString "/claim/cut.py") 341)]) #[])) ::
  (nat_lit 135, (Obj.mk (Value.type "function") none (Data.func (FuncData.mk (Str.ofString "reasons_at") (Str.ofString "Bounded.reasons_at") (dPar [8, 4]) (FuncBody.stmts (dBod [8, 4])) (dSco [8, 4]) 3 [] Value.none Value.none Value.none (Value.str (Str.ofString "fdsolve.arith") 251) none (Value.ref 134) Value.none 0)) #[])) ::
  (nat_lit 136, (Obj.mk (Value.type "tuple") none (Data.seq #[] 0) #[])) ::
  (nat_lit 138, (Obj.mk (Value.type "tuple") none (Data.seq #[(Value.str (Str.ofString "self") 346), (Value.str (Str.ofString "store") 347), (Value.str (Str.ofString "spot") 348)] 0) #[])) ::
  (nat_lit 139, (Obj.mk (Value.type "tuple") none (Data.seq #[] 0) #[])) ::
  (nat_lit 141, (Obj.mk (Value.type "code") none (Data.fields #[(Value.str (Str.ofString "lift") 343), (Value.str (Str.ofString "Bounded.lift") 344), (Value.str (Str.ofString "/claim/cut.py") 345), (Value.int 48 0), (Value.int 3 0), (Value.int 0 0), (Value.int 0 0), (Value.int 3 0), (Value.ref 136), (Value.bool Bool.true), (Value.int 181 0), (Value.ref 137), Value.none, (Value.ref 138), (Value.ref 139), (Value.ref 140), (Value.int 349 0), (Value.int 48 0), (Value.str (Str.ofString "/claim/cut.py") 350)]) #[])) ::
  (nat_lit 142, (Obj.mk (Value.type "function") none (Data.func (FuncData.mk (Str.ofString "lift") (Str.ofString "Bounded.lift") (dPar [8, 5]) (FuncBody.stmts (dBod [8, 5])) (dSco [8, 5]) 3 [] Value.none Value.none Value.none (Value.str (Str.ofString "fdsolve.arith") 251) none (Value.ref 141) Value.none 0)) #[])) ::
  (nat_lit 143, (Obj.mk (Value.type "tuple") none (Data.seq #[] 0) #[])) ::
  (nat_lit 145, (Obj.mk (Value.type "tuple") none (Data.seq #[(Value.str (Str.ofString "self") 355), (Value.str (Str.ofString "store") 356), (Value.str (Str.ofString "spot") 357)] 0) #[])) ::
  (nat_lit 146, (Obj.mk (Value.type "tuple") none (Data.seq #[] 0) #[])) ::
  (nat_lit 148, (Obj.mk (Value.type "code") none (Data.fields #[(Value.str (Str.ofString "lower") 352), (Value.str (Str.ofString "Bounded.lower") 353), (Value.str (Str.ofString "/claim/cut.py") 354), (Value.int 51 0), (Value.int 3 0), (Value.int 0 0), (Value.int 0 0), (Value.int 3 0), (Value.ref 143), (Value.bool Bool.true), (Value.int 181 0), (Value.ref 144), Value.none, (Value.ref 145), (Value.ref 146), (Value.ref 147), (Value.int 358 0), (Value.int 51 0), (Value.str (Str.ofString "/claim/cut.py") 359)]) #[])) ::
  (nat_lit 149, (Obj.mk (Value.type "function") none (Data.func (FuncData.mk (Str.ofString "lower") (Str.ofString "Bounded.lower") (dPar [8, 6]) (FuncBody.stmts (dBod [8, 6])) (dSco [8, 5]) 3 [] Value.none Value.none Value.none (Value.str (Str.ofString "fdsolve.arith") 251) none (Value.ref 148) Value.none 0)) #[])) ::
  (nat_lit 150, (Obj.mk (Value.type "tuple") none (Data.seq #[] 0) #[])) ::
  (nat_lit 152, (Obj.mk (Value.type "tuple") none (Data.seq #[(Value.str (Str.ofString "self") 364), (Value.str (Str.ofString "store") 365)] 0) #[])) ::
  (nat_lit 153, (Obj.mk (Value.type "tuple") none (Data.seq #[] 0) #[])) ::
  (nat_lit 155, (Obj.mk (Value.type "code") none (Data.fields #[(Value.str (Str.ofString "propagate") 361), (Value.str (Str.ofString "Bounded.propagate") 362), (Value.str (Str.ofString "/claim/cut.py") 363), (Value.int 54 0), (Value.int 2 0), (Value.int 0 0), (Value.int 0 0), (Value.int 3 0), (Value.ref 150), (Value.bool Bool.true), (Value.int 181 0), (Value.ref 151), Value.none, (Value.ref 152), (Value.ref 153), (Value.ref 154), (Value.int 366 0), (Value.int 54 0), (Value.str (Str.ofString "/claim/cut.py") 367)]) #[])) ::
  (nat_lit 156, (Obj.mk (Value.type "function") none (Data.func (FuncData.mk (Str.ofString "propagate") (Str.ofString "Bounded.propagate") (dPar [8, 7]) (FuncBody.stmts (dBod [8, 7])) (dSco [2, 1]) 3 [] Value.none Value.none Value.none (Value.str (Str.ofString "fdsolve.arith") 251) none (Value.ref 155) Value.none 0)) #[])) ::
  (nat_lit 157, (Obj.mk (Value.type "tuple") none (Data.seq #[(Value.str (Str.ofString "name") 369)] 0) #[])) ::
  (nat_lit 158, (Obj.mk (Value.type "dict") none (Data.dict #[(DictEntry.mk (PyData.keyHash P (Str.ofString "__module__")) (Value.str (Str.ofString "__module__") 292) (Value.str (Str.ofString "fdsolve.arith") 251)), (DictEntry.mk (PyData.keyHash P (Str.ofString "__firstlineno__")) (Value.str (Str.ofString "__firstlineno__") 296) (Value.int 30 295)), (DictEntry.mk (PyData.keyHash P (Str.ofString "__init__")) (Value.str (Str.ofString "__init__") 306) (Value.ref 107)), (DictEntry.mk (PyData.keyHash P (Str.ofString "told")) (Value.str (Str.ofString "told") 313) (Value.ref 114)), (DictEntry.mk (PyData.keyHash P (Str.ofString "can_be")) (Value.str (Str.ofString "can_be") 323) (Value.ref 121)), (DictEntry.mk (PyData.keyHash P (Str.ofString "outer")) (Value.str (Str.ofString "outer") 332) (Value.ref 128)), (DictEntry.mk (PyData.keyHash P (Str.ofString "reasons_at")) (Value.str (Str.ofString "reasons_at") 342) (Value.ref 135)), (DictEntry.mk (PyData.keyHash P (Str.ofString "lift")) (Value.str (Str.ofString "lift") 351) (Value.ref 142)), (DictEntry.mk (PyData.keyHash P (Str.ofString "lower")) (Value.str (Str.ofString "lower") 360) (Value.ref 149)), (DictEntry.mk (PyData.keyHash P (Str.ofString "propagate")) (Value.str (Str.ofString "propagate") 368) (Value.ref 156)), (DictEntry.mk (PyData.keyHash P (Str.ofString "__static_attributes__")) (Value.str (Str.ofString "__static_attributes__") 370) (Value.ref 157)), (DictEntry.mk (PyData.keyHash P (Str.ofString "__doc__")) (Value.str (Str.ofString "__doc__") 372) Value.none)] 3) #[])) ::
  (nat_lit 159, (Obj.mk (Value.type "type") none (Data.cls (ClassData.mk (Str.ofString "Bounded") [(Value.ref 59)] [(Value.ref 159), (Value.ref 59), (Value.type "object")] 158 (Str.ofString "Bounded") Bool.true [] [(Value.ref 199), (Value.ref 223)] Bool.false none Bool.false)) #[(some (Value.ref 92)), none, (some (Value.str (Str.ofString "Bounded") 285)), (some (Value.str (Str.ofString "Bounded") 293)), (some (Value.builtin "object.__new__")), (some (Value.bool Bool.true))])) ::
  (nat_lit 162, (Obj.mk (Value.type "tuple") none (Data.seq #[(Value.ref 159)] 0) #[])) ::
  (nat_lit 165, (Obj.mk (Value.type "cell") none (Data.cell (some (Value.ref 199))) #[])) ::
  (nat_lit 170, (Obj.mk (Value.type "tuple") none (Data.seq #[(Value.ref 165)] 0) #[])) ::
  (nat_lit 171, (Obj.mk (Value.type "tuple") none (Data.seq #[(Value.str (Str.ofString "__class__") 390)] 0) #[])) ::
  (nat_lit 173, (Obj.mk (Value.type "tuple") none (Data.seq #[(Value.str (Str.ofString "self") 391), (Value.str (Str.ofString "x") 392), (Value.str (Str.ofString "y") 393), (Value.str (Str.ofString "z") 394)] 0) #[])) ::
  (nat_lit 174, (Obj.mk (Value.type "tuple") none (Data.seq #[] 0) #[])) ::
  (nat_lit 176, (Obj.mk (Value.type "code") none (Data.fields #[(Value.str (Str.ofString "__init__") 387), (Value.str (Str.ofString "Times.__init__") 388), (Value.str (Str.ofString "/claim/cut.py") 389), (Value.int 58 0), (Value.int 4 0), (Value.int 0 0), (Value.int 0 0), (Value.int 3 0), (Value.ref 171), (Value.bool Bool.true), (Value.int 181 0), (Value.ref 172), Value.none, (Value.ref 173), (Value.ref 174), (Value.ref 175), (Value.int 395 0), (Value.int 58 0), (Value.str (Str.ofString "/claim/cut.py") 396)]) #[])) ::
  (nat_lit 177, (Obj.mk (Value.type "function") none (Data.func (FuncData.mk (Str.ofString "__init__") (Str.ofString "Times.__init__") (dPar [9, 0]) (FuncBody.stmts (dBod [9, 0])) (dSco [9, 0]) 3 [((Str.ofString "__class__"), 165)] Value.none Value.none Value.none (Value.str (Str.ofString "fdsolve.arith") 251) none (Value.ref 176) (Value.ref 170) 0)) #[])) ::
  (nat_lit 178, (Obj.mk (Value.type "tuple") none (Data.seq #[] 0) #[])) ::
  (nat_lit 180, (Obj.mk (Value.type "tuple") none (Data.seq #[(Value.str (Str.ofString "self") 401), (Value.str (Str.ofString "ranges") 402), (Value.str (Str.ofString "spot") 403), (Value.str (Str.ofString "v") 404), (Value.str (Str.ofString "other") 405), (Value.str (Str.ofString "low") 406), (Value.str (Str.ofString "high") 407), (Value.str (Str.ofString "ends") 408), (Value.str (Str.ofString "u") 409)] 0) #[])) ::
  (nat_lit 181, (Obj.mk (Value.type "tuple") none (Data.seq #[] 0) #[])) ::
  (nat_lit 183, (Obj.mk (Value.type "code") none (Data.fields #[(Value.str (Str.ofString "can_be") 398), (Value.str (Str.ofString "Times.can_be") 399), (Value.str (Str.ofString "/claim/cut.py") 400), (Value.int 61 0), (Value.int 4 0), (Value.int 0 0), (Value.int 0 0), (Value.int 3 0), (Value.ref 178), (Value.bool Bool.true), (Value.int 181 0), (Value.ref 179), Value.none, (Value.ref 180), (Value.ref 181), (Value.ref 182), (Value.int 410 0), (Value.int 61 0), (Value.str (Str.ofString "/claim/cut.py") 411)]) #[])) ::
  (nat_lit 184, (Obj.mk (Value.type "function") none (Data.func (FuncData.mk (Str.ofString "can_be") (Str.ofString "Times.can_be") (dPar [9, 1]) (FuncBody.stmts (dBod [9, 1])) (dSco [9, 1]) 3 [] Value.none Value.none Value.none (Value.str (Str.ofString "fdsolve.arith") 251) none (Value.ref 183) Value.none 0)) #[])) ::
  (nat_lit 185, (Obj.mk (Value.type "tuple") none (Data.seq #[] 0) #[])) ::
  (nat_lit 188, (Obj.mk (Value.type "code") none (Data.fields #[(Value.str (Str.ofString "outer") 413), (Value.str (Str.ofString "Times.outer") 414), (Value.str (Str.ofString "/claim/cut.py") 415), (Value.int 75 0), (Value.int 3 0), (Value.int 0 0), (Value.int 0 0), (Value.int 3 0), (Value.ref 185), (Value.bool Bool.true), (Value.int 181 0), (Value.ref 186), Value.none, Value.none, Value.none, (Value.ref 187), (Value.int 416 0), (Value.int 75 0), (Value.str (Str.ofString "/claim/cut.py") 417)]) #[])) ::
  (nat_lit 189, (Obj.mk (Value.type "function") none (Data.func (FuncData.mk (Str.ofString "outer") (Str.ofString "Times.outer") (dPar [9, 2]) (FuncBody.stmts (dBod [9, 2])) (dSco [9, 2]) 3 [] Value.none Value.none Value.none (Value.str (Str.ofString "fdsolve.arith") 251) none (Value.ref 188) Value.none 0)) #[])) ::
  (nat_lit 190, (Obj.mk (Value.type "tuple") none (Data.seq #[] 0) #[])) ::
  (nat_lit 192, (Obj.mk (Value.type "tuple") none (Data.seq #[(Value.str (Str.ofString "self") 422), (Value.str (Str.ofString "some") 423)] 0) #[])) ::
  (nat_lit 193, (Obj.mk (Value.type "tuple") none (Data.seq #[] 0) #[])) ::
  (nat_lit 195, (Obj.mk (Value.type "code") none (Data.fields #[(Value.str (Str.ofString "check") 419), (Value.str (Str.ofString "Times.check") 420), (Value.str (Str.ofString "/claim/cut.py") 421), (Value.int 88 0), (Value.int 2 0), (Value.int 0 0), (Value.int 0 0), (Value.int 3 0), (Value.ref 190), (Value.bool Bool.true), (Value.int 181 0), (Value.ref 191), Value.none, (Value.ref 192), (Value.ref 193), (Value.ref 194), (Value.int 424 0), (Value.int 88 0), (Value.str (Str.ofString "/claim/cut.py") 425)]) #[])) ::
  (nat_lit 196, (Obj.mk (Value.type "function") none (Data.func (FuncData.mk (Str.ofString "check") (Str.ofString "Times.check") (dPar [9, 3]) (FuncBody.stmts (dBod [9, 3])) (dSco [9, 3]) 3 [] Value.none Value.none Value.none (Value.str (Str.ofString "fdsolve.arith") 251) none (Value.ref 195) Value.none 0)) #[])) ::
  (nat_lit 197, (Obj.mk (Value.type "tuple") none (Data.seq #[] 0) #[])) ::
  (nat_lit 198, (Obj.mk (Value.type "dict") none (Data.dict #[(DictEntry.mk (PyData.keyHash P (Str.ofString "__module__")) (Value.str (Str.ofString "__module__") 382) (Value.str (Str.ofString "fdsolve.arith") 251)), (DictEntry.mk (PyData.keyHash P (Str.ofString "__firstlineno__")) (Value.str (Str.ofString "__firstlineno__") 386) (Value.int 56 385)), (DictEntry.mk (PyData.keyHash P (Str.ofString "__init__")) (Value.str (Str.ofString "__init__") 397) (Value.ref 177)), (DictEntry.mk (PyData.keyHash P (Str.ofString "can_be")) (Value.str (Str.ofString "can_be") 412) (Value.ref 184)), (DictEntry.mk (PyData.keyHash P (Str.ofString "outer")) (Value.str (Str.ofString "outer") 418) (Value.ref 189)), (DictEntry.mk (PyData.keyHash P (Str.ofString "check")) (Value.str (Str.ofString "check") 426) (Value.ref 196)), (DictEntry.mk (PyData.keyHash P (Str.ofString "__static_attributes__")) (Value.str (Str.ofString "__static_attributes__") 427) (Value.ref 197)), (DictEntry.mk (PyData.keyHash P (Str.ofString "__doc__")) (Value.str (Str.ofString "__doc__") 429) Value.none)] 3) #[])) ::
  (nat_lit 199, (Obj.mk (Value.type "type") none (Data.cls (ClassData.mk (Str.ofString "Times") [(Value.ref 159)] [(Value.ref 199), (Value.ref 159), (Value.ref 59), (Value.type "object")] 198 (Str.ofString "Times") Bool.true [] [] Bool.false none Bool.false)) #[(some (Value.ref 162)), none, (some (Value.str (Str.ofString "Times") 375)), (some (Value.str (Str.ofString "Times") 383)), (some (Value.builtin "object.__new__")), (some (Value.bool Bool.true))])) ::
  (nat_lit 202, (Obj.mk (Value.type "tuple") none (Data.seq #[(Value.ref 159)] 0) #[])) ::
  (nat_lit 209, (Obj.mk (Value.type "tuple") none (Data.seq #[] 0) #[])) ::
  (nat_lit 212, (Obj.mk (Value.type "code") none (Data.fields #[(Value.str (Str.ofString "divisors") 444), (Value.str (Str.ofString "Divided.divisors") 445), (Value.str (Str.ofString "/claim/cut.py") 446), (Value.int 92 0), (Value.int 2 0), (Value.int 0 0), (Value.int 0 0), (Value.int 3 0), (Value.ref 209), (Value.bool Bool.true), (Value.int 181 0), (Value.ref 210), Value.none, Value.none, Value.none, (Value.ref 211), (Value.int 447 0), (Value.int 92 0), (Value.str (Str.ofString "/claim/cut.py") 448)]) #[])) ::
  (nat_lit 213, (Obj.mk (Value.type "function") none (Data.func (FuncData.mk (Str.ofString "divisors") (Str.ofString "Divided.divisors") (dPar [10, 0]) (FuncBody.stmts (dBod [10, 0])) (dSco [10, 0]) 3 [] Value.none Value.none Value.none (Value.str (Str.ofString "fdsolve.arith") 251) none (Value.ref 212) Value.none 0)) #[])) ::
  (nat_lit 214, (Obj.mk (Value.type "tuple") none (Data.seq #[] 0) #[])) ::
  (nat_lit 216, (Obj.mk (Value.type "tuple") none (Data.seq #[(Value.str (Str.ofString "self") 453), (Value.str (Str.ofString "store") 454)] 0) #[])) ::
  (nat_lit 217, (Obj.mk (Value.type "tuple") none (Data.seq #[] 0) #[])) ::
  (nat_lit 219, (Obj.mk (Value.type "code") none (Data.fields #[(Value.str (Str.ofString "propagate") 450), (Value.str (Str.ofString "Divided.propagate") 451), (Value.str (Str.ofString "/claim/cut.py") 452), (Value.int 99 0), (Value.int 2 0), (Value.int 0 0), (Value.int 0 0), (Value.int 3 0), (Value.ref 214), (Value.bool Bool.true), (Value.int 181 0), (Value.ref 215), Value.none, (Value.ref 216), (Value.ref 217), (Value.ref 218), (Value.int 455 0), (Value.int 99 0), (Value.str (Str.ofString "/claim/cut.py") 456)]) #[])) ::
  (nat_lit 220, (Obj.mk (Value.type "function") none (Data.func (FuncData.mk (Str.ofString "propagate") (Str.ofString "Divided.propagate") (dPar [10, 1]) (FuncBody.stmts (dBod [10, 1])) (dSco [2, 1]) 3 [] Value.none Value.none Value.none (Value.str (Str.ofString "fdsolve.arith") 251) none (Value.ref 219) Value.none 0)) #[])) ::
  (nat_lit 221, (Obj.mk (Value.type "tuple") none (Data.seq #[] 0) #[])) ::
  (nat_lit 222, (Obj.mk (Value.type "dict") none (Data.dict #[(DictEntry.mk (PyData.keyHash P (Str.ofString "__module__")) (Value.str (Str.ofString "__module__") 439) (Value.str (Str.ofString "fdsolve.arith") 251)), (DictEntry.mk (PyData.keyHash P (Str.ofString "__firstlineno__")) (Value.str (Str.ofString "__firstlineno__") 443) (Value.int 90 442)), (DictEntry.mk (PyData.keyHash P (Str.ofString "divisors")) (Value.str (Str.ofString "divisors") 449) (Value.ref 213)), (DictEntry.mk (PyData.keyHash P (Str.ofString "propagate")) (Value.str (Str.ofString "propagate") 457) (Value.ref 220)), (DictEntry.mk (PyData.keyHash P (Str.ofString "__static_attributes__")) (Value.str (Str.ofString "__static_attributes__") 458) (Value.ref 221)), (DictEntry.mk (PyData.keyHash P (Str.ofString "__doc__")) (Value.str (Str.ofString "__doc__") 459) Value.none)] 2) #[])) ::
  (nat_lit 223, (Obj.mk (Value.type "type") none (Data.cls (ClassData.mk (Str.ofString "Divided") [(Value.ref 159)] [(Value.ref 223), (Value.ref 159), (Value.ref 59), (Value.type "object")] 222 (Str.ofString "Divided") Bool.true [] [(Value.ref 270)] Bool.false none Bool.false)) #[(some (Value.ref 202)), none, (some (Value.str (Str.ofString "Divided") 432)), (some (Value.str (Str.ofString "Divided") 440)), (some (Value.builtin "object.__new__")), (some (Value.bool Bool.true))])) ::
  (nat_lit 226, (Obj.mk (Value.type "tuple") none (Data.seq #[(Value.ref 223)] 0) #[])) ::
  (nat_lit 229, (Obj.mk (Value.type "cell") none (Data.cell (some (Value.ref 270))) #[])) ::
  (nat_lit 234, (Obj.mk (Value.type "tuple") none (Data.seq #[(Value.ref 229)] 0) #[])) ::
  (nat_lit 235, (Obj.mk (Value.type "tuple") none (Data.seq #[(Value.str (Str.ofString "__class__") 477)] 0) #[])) ::
  (nat_lit 237, (Obj.mk (Value.type "tuple") none (Data.seq #[(Value.str (Str.ofString "self") 478), (Value.str (Str.ofString "x") 479), (Value.str (Str.ofString "y") 480), (Value.str (Str.ofString "z") 481)] 0) #[])) ::
  (nat_lit 238, (Obj.mk (Value.type "tuple") none (Data.seq #[] 0) #[])) ::
  (nat_lit 240, (Obj.mk (Value.type "code") none (Data.fields #[(Value.str (Str.ofString "__init__") 474), (Value.str (Str.ofString "Quotient.__init__") 475), (Value.str (Str.ofString "/claim/cut.py") 476), (Value.int 103 0), (Value.int 4 0), (Value.int 0 0), (Value.int 0 0), (Value.int 3 0), (Value.ref 235), (Value.bool Bool.true), (Value.int 181 0), (Value.ref 236), Value.none, (Value.ref 237), (Value.ref 238), (Value.ref 239), (Value.int 482 0), (Value.int 103 0), (Value.str (Str.ofString "/claim/cut.py") 483)]) #[])) ::
  (nat_lit 241, (Obj.mk (Value.type "function") none (Data.func (FuncData.mk (Str.ofString "__init__") (Str.ofString "Quotient.__init__") (dPar [11, 0]) (FuncBody.stmts (dBod [11, 0])) (dSco [9, 0]) 3 [((Str.ofString "__class__"), 229)] Value.none Value.none Value.none (Value.str (Str.ofString "fdsolve.arith") 251) none (Value.ref 240) (Value.ref 234) 0)) #[])) ::
  (nat_lit 242, (Obj.mk (Value.type "tuple") none (Data.seq #[] 0) #[])) ::
  (nat_lit 245, (Obj.mk (Value.type "code") none (Data.fields #[(Value.str (Str.ofString "can_be") 485), (Value.str (Str.ofString "Quotient.can_be") 486), (Value.str (Str.ofString "/claim/cut.py") 487), (Value.int 106 0), (Value.int 4 0), (Value.int 0 0), (Value.int 0 0), (Value.int 3 0), (Value.ref 242), (Value.bool Bool.true), (Value.int 181 0), (Value.ref 243), Value.none, Value.none, Value.none, (Value.ref 244), (Value.int 488 0), (Value.int 106 0), (Value.str (Str.ofString "/claim/cut.py") 489)]) #[])) ::
  (nat_lit 246, (Obj.mk (Value.type "function") none (Data.func (FuncData.mk (Str.ofString "can_be") (Str.ofString "Quotient.can_be") (dPar [11, 1]) (FuncBody.stmts (dBod [11, 1])) (dSco [11, 1]) 3 [] Value.none Value.none Value.none (Value.str (Str.ofString "fdsolve.arith") 251) none (Value.ref 245) Value.none 0)) #[])) ::
  (nat_lit 247, (Obj.mk (Value.type "tuple") none (Data.seq #[] 0) #[])) ::
  (nat_lit 249, (Obj.mk (Value.type "tuple") none (Data.seq #[(Value.str (Str.ofString "self") 494), (Value.str (Str.ofString "y") 495), (Value.str (Str.ofString "z") 496), (Value.str (Str.ofString "more") 497)] 0) #[])) ::
  (nat_lit 250, (Obj.mk (Value.type "tuple") none (Data.seq #[] 0) #[])) ::
  (nat_lit 252, (Obj.mk (Value.type "code") none (Data.fields #[(Value.str (Str.ofString "divided_by") 491), (Value.str (Str.ofString "Quotient.divided_by") 492), (Value.str (Str.ofString "/claim/cut.py") 493), (Value.int 114 0), (Value.int 3 0), (Value.int 0 0), (Value.int 0 0), (Value.int 3 0), (Value.ref 247), (Value.bool Bool.true), (Value.int 181 0), (Value.ref 248), Value.none, (Value.ref 249), (Value.ref 250), (Value.ref 251), (Value.int 498 0), (Value.int 114 0), (Value.str (Str.ofString "/claim/cut.py") 499)]) #[])) ::
  (nat_lit 253, (Obj.mk (Value.type "function") none (Data.func (FuncData.mk (Str.ofString "divided_by") (Str.ofString "Quotient.divided_by") (dPar [11, 2]) (FuncBody.stmts (dBod [11, 2])) (dSco [11, 2]) 3 [] Value.none Value.none Value.none (Value.str (Str.ofString "fdsolve.arith") 251) none (Value.ref 252) Value.none 0)) #[])) ::
  (nat_lit 254, (Obj.mk (Value.type "tuple") none (Data.seq #[] 0) #[])) ::
  (nat_lit 256, (Obj.mk (Value.type "tuple") none (Data.seq #[(Value.str (Str.ofString "self") 504), (Value.str (Str.ofString "ranges") 505), (Value.str (Str.ofString "spot") 506), (Value.str (Str.ofString "most") 507)] 0) #[])) ::
  (nat_lit 257, (Obj.mk (Value.type "tuple") none (Data.seq #[] 0) #[])) ::
  (nat_lit 259, (Obj.mk (Value.type "code") none (Data.fields #[(Value.str (Str.ofString "outer") 501), (Value.str (Str.ofString "Quotient.outer") 502), (Value.str (Str.ofString "/claim/cut.py") 503), (Value.int 120 0), (Value.int 3 0), (Value.int 0 0), (Value.int 0 0), (Value.int 3 0), (Value.ref 254), (Value.bool Bool.true), (Value.int 181 0), (Value.ref 255), Value.none, (Value.ref 256), (Value.ref 257), (Value.ref 258), (Value.int 508 0), (Value.int 120 0), (Value.str (Str.ofString "/claim/cut.py") 509)]) #[])) ::
  (nat_lit 260, (Obj.mk (Value.type "function") none (Data.func (FuncData.mk (Str.ofString "outer") (Str.ofString "Quotient.outer") (dPar [11, 3]) (FuncBody.stmts (dBod [11, 3])) (dSco [11, 3]) 3 [] Value.none Value.none Value.none (Value.str (Str.ofString "fdsolve.arith") 251) none (Value.ref 259) Value.none 0)) #[])) ::
  (nat_lit 261, (Obj.mk (Value.type "tuple") none (Data.seq #[] 0) #[])) ::
  (nat_lit 263, (Obj.mk (Value.type "tuple") none (Data.seq #[(Value.str (Str.ofString "self") 514), (Value.str (Str.ofString "some") 515)] 0) #[])) ::
  (nat_lit 264, (Obj.mk (Value.type "tuple") none (Data.seq #[] 0) #[])) ::
  (nat_lit 266, (Obj.mk (Value.type "code") none (Data.fields #[(Value.str (Str.ofString "check") 511), (Value.str (Str.ofString "Quotient.check") 512), (Value.str (Str.ofString "/claim/cut.py") 513), (Value.int 126 0), (Value.int 2 0), (Value.int 0 0), (Value.int 0 0), (Value.int 3 0), (Value.ref 261), (Value.bool Bool.true), (Value.int 181 0), (Value.ref 262), Value.none, (Value.ref 263), (Value.ref 264), (Value.ref 265), (Value.int 516 0), (Value.int 126 0), (Value.str (Str.ofString "/claim/cut.py") 517)]) #[])) ::
  (nat_lit 267, (Obj.mk (Value.type "function") none (Data.func (FuncData.mk (Str.ofString "check") (Str.ofString "Quotient.check") (dPar [11, 4]) (FuncBody.stmts (dBod [11, 4])) (dSco [9, 3]) 3 [] Value.none Value.none Value.none (Value.str (Str.ofString "fdsolve.arith") 251) none (Value.ref 266) Value.none 0)) #[])) ::
  (nat_lit 268, (Obj.mk (Value.type "tuple") none (Data.seq #[] 0) #[])) ::
  (nat_lit 269, (Obj.mk (Value.type "dict") none (Data.dict #[(DictEntry.mk (PyData.keyHash P (Str.ofString "__module__")) (Value.str (Str.ofString "__module__") 469) (Value.str (Str.ofString "fdsolve.arith") 251)), (DictEntry.mk (PyData.keyHash P (Str.ofString "__firstlineno__")) (Value.str (Str.ofString "__firstlineno__") 473) (Value.int 101 472)), (DictEntry.mk (PyData.keyHash P (Str.ofString "__init__")) (Value.str (Str.ofString "__init__") 484) (Value.ref 241)), (DictEntry.mk (PyData.keyHash P (Str.ofString "can_be")) (Value.str (Str.ofString "can_be") 490) (Value.ref 246)), (DictEntry.mk (PyData.keyHash P (Str.ofString "divided_by")) (Value.str (Str.ofString "divided_by") 500) (Value.ref 253)), (DictEntry.mk (PyData.keyHash P (Str.ofString "outer")) (Value.str (Str.ofString "outer") 510) (Value.ref 260)), (DictEntry.mk (PyData.keyHash P (Str.ofString "check")) (Value.str (Str.ofString "check") 518) (Value.ref 267)), (DictEntry.mk (PyData.keyHash P (Str.ofString "__static_attributes__")) (Value.str (Str.ofString "__static_attributes__") 519) (Value.ref 268)), (DictEntry.mk (PyData.keyHash P (Str.ofString "__doc__")) (Value.str (Str.ofString "__doc__") 521) Value.none)] 3) #[])) ::
  (nat_lit 270, (Obj.mk (Value.type "type") none (Data.cls (ClassData.mk (Str.ofString "Quotient") [(Value.ref 223)] [(Value.ref 270), (Value.ref 223), (Value.ref 159), (Value.ref 59), (Value.type "object")] 269 (Str.ofString "Quotient") Bool.true [] [] Bool.false none Bool.false)) #[(some (Value.ref 226)), none, (some (Value.str (Str.ofString "Quotient") 462)), (some (Value.str (Str.ofString "Quotient") 470)), (some (Value.builtin "object.__new__")), (some (Value.bool Bool.true))])) ::
  (nat_lit 273, (Obj.mk (Value.type "tuple") none (Data.seq #[] 0) #[])) ::
  (nat_lit 275, (Obj.mk (Value.type "tuple") none (Data.seq #[] 0) #[])) ::
  (nat_lit 276, (Obj.mk (Value.type "tuple") none (Data.seq #[] 0) #[])) ::
  (nat_lit 278, (Obj.mk (Value.type "code") none (Data.fields #[(Value.str (Str.ofString "_law_out") 526), (Value.str (Str.ofString "_law_out") 527), (Value.str (Str.ofString "/claim/cut.py") 528), (Value.int 129 0), (Value.int 0 0), (Value.int 0 0), (Value.int 0 0), (Value.int 3 0), (Value.ref 273), (Value.bool Bool.true), (Value.int 181 0), (Value.ref 274), Value.none, (Value.ref 275), (Value.ref 276), (Value.ref 277), (Value.int 529 0), (Value.int 129 0), (Value.str (Str.ofString "/claim/cut.py") 530)]) #[])) ::
  (nat_lit 279, (Obj.mk (Value.type "function") none (Data.func (FuncData.mk (Str.ofString "_law_out") (Str.ofString "_law_out") (dPar [13]) (FuncBody.stmts (dBod [13])) (dSco [13]) 3 [] Value.none Value.none Value.none (Value.str (Str.ofString "law_pc0029_01") 524) none (Value.ref 278) Value.none 0)) #[])) ::
  (nat_lit 280, (Obj.mk (Value.type "tuple") none (Data.seq #[] 0) #[])) ::
  (nat_lit 282, (Obj.mk (Value.type "tuple") none (Data.seq #[(Value.str (Str.ofString "deck") 535), (Value.str (Str.ofString "many") 536), (Value.str (Str.ofString "found") 537)] 0) #[])) ::
  (nat_lit 283, (Obj.mk (Value.type "tuple") none (Data.seq #[] 0) #[])) ::
  (nat_lit 285, (Obj.mk (Value.type "code") none (Data.fields #[(Value.str (Str.ofString "_law_step") 532), (Value.str (Str.ofString "_law_step") 533), (Value.str (Str.ofString "/claim/cut.py") 534), (Value.int 131 0), (Value.int 2 0), (Value.int 0 0), (Value.int 0 0), (Value.int 3 0), (Value.ref 280), (Value.bool Bool.true), (Value.int 181 0), (Value.ref 281), Value.none, (Value.ref 282), (Value.ref 283), (Value.ref 284), (Value.int 538 0), (Value.int 131 0), (Value.str (Str.ofString "/claim/cut.py") 539)]) #[])) ::
  (nat_lit 286, (Obj.mk (Value.type "function") none (Data.func (FuncData.mk (Str.ofString "_law_step") (Str.ofString "_law_step") (dPar [14]) (FuncBody.stmts (dBod [14])) (dSco [14]) 3 [] Value.none Value.none Value.none (Value.str (Str.ofString "law_pc0029_01") 524) none (Value.ref 285) Value.none 0)) #[])) ::
  (nat_lit 287, (Obj.mk (Value.type "tuple") none (Data.seq #[] 0) #[])) ::
  (nat_lit 289, (Obj.mk (Value.type "tuple") none (Data.seq #[(Value.str (Str.ofString "deck") 544), (Value.str (Str.ofString "middle") 545), (Value.str (Str.ofString "low") 546)] 0) #[])) ::
  (nat_lit 290, (Obj.mk (Value.type "tuple") none (Data.seq #[] 0) #[])) ::
  (nat_lit 292, (Obj.mk (Value.type "code") none (Data.fields #[(Value.str (Str.ofString "_law_around") 541), (Value.str (Str.ofString "_law_around") 542), (Value.str (Str.ofString "/claim/cut.py") 543), (Value.int 138 0), (Value.int 2 0), (Value.int 0 0), (Value.int 0 0), (Value.int 3 0), (Value.ref 287), (Value.bool Bool.true), (Value.int 181 0), (Value.ref 288), Value.none, (Value.ref 289), (Value.ref 290), (Value.ref 291), (Value.int 547 0), (Value.int 138 0), (Value.str (Str.ofString "/claim/cut.py") 548)]) #[])) ::
  (nat_lit 293, (Obj.mk (Value.type "function") none (Data.func (FuncData.mk (Str.ofString "_law_around") (Str.ofString "_law_around") (dPar [15]) (FuncBody.stmts (dBod [15])) (dSco [15]) 3 [] Value.none Value.none Value.none (Value.str (Str.ofString "law_pc0029_01") 524) none (Value.ref 292) Value.none 0)) #[])) ::
  (nat_lit 294, (Obj.mk (Value.type "tuple") none (Data.seq #[] 0) #[])) ::
  (nat_lit 296, (Obj.mk (Value.type "tuple") none (Data.seq #[(Value.str (Str.ofString "deck") 553), (Value.str (Str.ofString "number") 554)] 0) #[])) ::
  (nat_lit 297, (Obj.mk (Value.type "tuple") none (Data.seq #[] 0) #[])) ::
  (nat_lit 299, (Obj.mk (Value.type "code") none (Data.fields #[(Value.str (Str.ofString "_law_great") 550), (Value.str (Str.ofString "_law_great") 551), (Value.str (Str.ofString "/claim/cut.py") 552), (Value.int 141 0), (Value.int 1 0), (Value.int 0 0), (Value.int 0 0), (Value.int 3 0), (Value.ref 294), (Value.bool Bool.true), (Value.int 181 0), (Value.ref 295), Value.none, (Value.ref 296), (Value.ref 297), (Value.ref 298), (Value.int 555 0), (Value.int 141 0), (Value.str (Str.ofString "/claim/cut.py") 556)]) #[])) ::
  (nat_lit 300, (Obj.mk (Value.type "function") none (Data.func (FuncData.mk (Str.ofString "_law_great") (Str.ofString "_law_great") (dPar [16]) (FuncBody.stmts (dBod [16])) (dSco [16]) 3 [] Value.none Value.none Value.none (Value.str (Str.ofString "law_pc0029_01") 524) none (Value.ref 299) Value.none 0)) #[])) ::
  (nat_lit 301, (Obj.mk (Value.type "tuple") none (Data.seq #[] 0) #[])) ::
  (nat_lit 303, (Obj.mk (Value.type "tuple") none (Data.seq #[(Value.str (Str.ofString "stretch") 561)] 0) #[])) ::
  (nat_lit 304, (Obj.mk (Value.type "tuple") none (Data.seq #[] 0) #[])) ::
  (nat_lit 306, (Obj.mk (Value.type "code") none (Data.fields #[(Value.str (Str.ofString "_law_all") 558), (Value.str (Str.ofString "_law_all") 559), (Value.str (Str.ofString "/claim/cut.py") 560), (Value.int 144 0), (Value.int 1 0), (Value.int 0 0), (Value.int 0 0), (Value.int 3 0), (Value.ref 301), (Value.bool Bool.true), (Value.int 181 0), (Value.ref 302), Value.none, (Value.ref 303), (Value.ref 304), (Value.ref 305), (Value.int 562 0), (Value.int 144 0), (Value.str (Str.ofString "/claim/cut.py") 563)]) #[])) ::
  (nat_lit 307, (Obj.mk (Value.type "function") none (Data.func (FuncData.mk (Str.ofString "_law_all") (Str.ofString "_law_all") (dPar [17]) (FuncBody.stmts (dBod [17])) (dSco [17]) 3 [] Value.none Value.none Value.none (Value.str (Str.ofString "law_pc0029_01") 524) none (Value.ref 306) Value.none 0)) #[])) ::
  (nat_lit 308, (Obj.mk (Value.type "tuple") none (Data.seq #[] 0) #[])) ::
  (nat_lit 310, (Obj.mk (Value.type "tuple") none (Data.seq #[(Value.str (Str.ofString "x") 568), (Value.str (Str.ofString "y") 569), (Value.str (Str.ofString "z") 570), (Value.str (Str.ofString "rest") 571)] 0) #[])) ::
  (nat_lit 311, (Obj.mk (Value.type "tuple") none (Data.seq #[] 0) #[])) ::
  (nat_lit 313, (Obj.mk (Value.type "code") none (Data.fields #[(Value.str (Str.ofString "_law_is_quotient") 565), (Value.str (Str.ofString "_law_is_quotient") 566), (Value.str (Str.ofString "/claim/cut.py") 567), (Value.int 146 0), (Value.int 3 0), (Value.int 0 0), (Value.int 0 0), (Value.int 3 0), (Value.ref 308), (Value.bool Bool.true), (Value.int 181 0), (Value.ref 309), Value.none, (Value.ref 310), (Value.ref 311), (Value.ref 312), (Value.int 572 0), (Value.int 146 0), (Value.str (Str.ofString "/claim/cut.py") 573)]) #[])) ::
  (nat_lit 314, (Obj.mk (Value.type "function") none (Data.func (FuncData.mk (Str.ofString "_law_is_quotient") (Str.ofString "_law_is_quotient") (dPar [18]) (FuncBody.stmts (dBod [18])) (dSco [18]) 3 [] Value.none Value.none Value.none (Value.str (Str.ofString "law_pc0029_01") 524) none (Value.ref 313) Value.none 0)) #[])) ::
  (nat_lit 315, (Obj.mk (Value.type "tuple") none (Data.seq #[] 0) #[])) ::
  (nat_lit 318, (Obj.mk (Value.type "code") none (Data.fields #[(Value.str (Str.ofString "_law_is_narrow_right") 575), (Value.str (Str.ofString "_law_is_narrow_right") 576), (Value.str (Str.ofString "/claim/cut.py") 577), (Value.int 149 0), (Value.int 3 0), (Value.int 0 0), (Value.int 0 0), (Value.int 3 0), (Value.ref 315), (Value.bool Bool.true), (Value.int 181 0), (Value.ref 316), Value.none, Value.none, Value.none, (Value.ref 317), (Value.int 578 0), (Value.int 149 0), (Value.str (Str.ofString "/claim/cut.py") 579)]) #[])) ::
  (nat_lit 319, (Obj.mk (Value.type "function") none (Data.func (FuncData.mk (Str.ofString "_law_is_narrow_right") (Str.ofString "_law_is_narrow_right") (dPar [19]) (FuncBody.stmts (dBod [19])) (dSco [19]) 3 [] Value.none Value.none Value.none (Value.str (Str.ofString "law_pc0029_01") 524) none (Value.ref 318) Value.none 0)) #[])) ::
  (nat_lit 320, (Obj.mk (Value.type "tuple") none (Data.seq #[] 0) #[])) ::
  (nat_lit 323, (Obj.mk (Value.type "code") none (Data.fields #[(Value.str (Str.ofString "_law_wide_quotients_right") 581), (Value.str (Str.ofString "_law_wide_quotients_right") 582), (Value.str (Str.ofString "/claim/cut.py") 583), (Value.int 158 0), (Value.int 2 0), (Value.int 0 0), (Value.int 0 0), (Value.int 3 0), (Value.ref 320), (Value.bool Bool.true), (Value.int 181 0), (Value.ref 321), Value.none, Value.none, Value.none, (Value.ref 322), (Value.int 584 0), (Value.int 158 0), (Value.str (Str.ofString "/claim/cut.py") 585)]) #[])) ::
  (nat_lit 324, (Obj.mk (Value.type "function") none (Data.func (FuncData.mk (Str.ofString "_law_wide_quotients_right") (Str.ofString "_law_wide_quotients_right") (dPar [20]) (FuncBody.stmts (dBod [20])) (dSco [20]) 3 [] Value.none Value.none Value.none (Value.str (Str.ofString "law_pc0029_01") 524) none (Value.ref 323) Value.none 0)) #[])) ::
  (nat_lit 325, (Obj.mk (Value.type "tuple") none (Data.seq #[] 0) #[])) ::
  (nat_lit 328, (Obj.mk (Value.type "code") none (Data.fields #[(Value.str (Str.ofString "_law_quotients_right") 587), (Value.str (Str.ofString "_law_quotients_right") 588), (Value.str (Str.ofString "/claim/cut.py") 589), (Value.int 169 0), (Value.int 1 0), (Value.int 0 0), (Value.int 0 0), (Value.int 3 0), (Value.ref 325), (Value.bool Bool.true), (Value.int 181 0), (Value.ref 326), Value.none, Value.none, Value.none, (Value.ref 327), (Value.int 590 0), (Value.int 169 0), (Value.str (Str.ofString "/claim/cut.py") 591)]) #[])) ::
  (nat_lit 329, (Obj.mk (Value.type "function") none (Data.func (FuncData.mk (Str.ofString "_law_quotients_right") (Str.ofString "_law_quotients_right") (dPar [21]) (FuncBody.stmts (dBod [21])) (dSco [21]) 3 [] Value.none Value.none Value.none (Value.str (Str.ofString "law_pc0029_01") 524) none (Value.ref 328) Value.none 0)) #[])) ::
  (nat_lit 330, (Obj.mk (Value.type "tuple") none (Data.seq #[] 0) #[])) ::
  (nat_lit 333, (Obj.mk (Value.type "code") none (Data.fields #[(Value.str (Str.ofString "_law_wide_products_right") 593), (Value.str (Str.ofString "_law_wide_products_right") 594), (Value.str (Str.ofString "/claim/cut.py") 595), (Value.int 186 0), (Value.int 2 0), (Value.int 0 0), (Value.int 0 0), (Value.int 3 0), (Value.ref 330), (Value.bool Bool.true), (Value.int 181 0), (Value.ref 331), Value.none, Value.none, Value.none, (Value.ref 332), (Value.int 596 0), (Value.int 186 0), (Value.str (Str.ofString "/claim/cut.py") 597)]) #[])) ::
  (nat_lit 334, (Obj.mk (Value.type "function") none (Data.func (FuncData.mk (Str.ofString "_law_wide_products_right") (Str.ofString "_law_wide_products_right") (dPar [22]) (FuncBody.stmts (dBod [22])) (dSco [22]) 3 [] Value.none Value.none Value.none (Value.str (Str.ofString "law_pc0029_01") 524) none (Value.ref 333) Value.none 0)) #[])) ::
  (nat_lit 335, (Obj.mk (Value.type "tuple") none (Data.seq #[] 0) #[])) ::
  (nat_lit 338, (Obj.mk (Value.type "code") none (Data.fields #[(Value.str (Str.ofString "_law_products_right") 599), (Value.str (Str.ofString "_law_products_right") 600), (Value.str (Str.ofString "/claim/cut.py") 601), (Value.int 203 0), (Value.int 1 0), (Value.int 0 0), (Value.int 0 0), (Value.int 3 0), (Value.ref 335), (Value.bool Bool.true), (Value.int 181 0), (Value.ref 336), Value.none, Value.none, Value.none, (Value.ref 337), (Value.int 602 0), (Value.int 203 0), (Value.str (Str.ofString "/claim/cut.py") 603)]) #[])) ::
  (nat_lit 339, (Obj.mk (Value.type "function") none (Data.func (FuncData.mk (Str.ofString "_law_products_right") (Str.ofString "_law_products_right") (dPar [23]) (FuncBody.stmts (dBod [23])) (dSco [23]) 3 [] Value.none Value.none Value.none (Value.str (Str.ofString "law_pc0029_01") 524) none (Value.ref 338) Value.none 0)) #[])) ::
  (nat_lit 340, (Obj.mk (Value.type "tuple") none (Data.seq #[] 0) #[])) ::
  (nat_lit 342, (Obj.mk (Value.type "tuple") none (Data.seq #[(Value.str (Str.ofString "script") 608), (Value.str (Str.ofString "deck") 609), (Value.str (Str.ofString "cell") 610), (Value.str (Str.ofString "lap") 611)] 0) #[])) ::
  (nat_lit 343, (Obj.mk (Value.type "tuple") none (Data.seq #[] 0) #[])) ::
  (nat_lit 345, (Obj.mk (Value.type "code") none (Data.fields #[(Value.str (Str.ofString "law") 605), (Value.str (Str.ofString "law") 606), (Value.str (Str.ofString "/claim/cut.py") 607), (Value.int 215 0), (Value.int 1 0), (Value.int 0 0), (Value.int 0 0), (Value.int 3 0), (Value.ref 340), (Value.bool Bool.true), (Value.int 181 0), (Value.ref 341), Value.none, (Value.ref 342), (Value.ref 343), (Value.ref 344), (Value.int 612 0), (Value.int 215 0), (Value.str (Str.ofString "/claim/cut.py") 613)]) #[])) ::
  (nat_lit 346, (Obj.mk (Value.type "function") none (Data.func (FuncData.mk (Str.ofString "law") (Str.ofString "law") (dPar [24]) (FuncBody.stmts (dBod [24])) (dSco [24]) 3 [] Value.none Value.none Value.none (Value.str (Str.ofString "law_pc0029_01") 524) none (Value.ref 345) Value.none 0)) #[])) :: []
abbrev hd.as : List Addr := [2, 3, 15, 17, 18, 20, 21, 29, 31, 32, 34, 35, 36, 38, 39, 41, 42, 43, 45, 46, 48, 49, 50, 52, 53, 55, 56, 57, 58, 59, 60, 61, 64, 66, 67, 69, 70, 71, 73, 74, 76, 77, 78, 80, 81, 83, 84, 85, 87, 88, 90, 91, 92, 95, 100, 101, 103, 104, 106, 107, 108, 110, 111, 113, 114, 115, 117, 118, 120, 121, 122, 124, 125, 127, 128, 129, 131, 132, 134, 135, 136, 138, 139, 141, 142, 143, 145, 146, 148, 149, 150, 152, 153, 155, 156, 157, 158, 159, 162, 165, 170, 171, 173, 174, 176, 177, 178, 180, 181, 183, 184, 185, 188, 189, 190, 192, 193, 195, 196, 197, 198, 199, 202, 209, 212, 213, 214, 216, 217, 219, 220, 221, 222, 223, 226, 229, 234, 235, 237, 238, 240, 241, 242, 245, 246, 247, 249, 250, 252, 253, 254, 256, 257, 259, 260, 261, 263, 264, 266, 267, 268, 269, 270, 273, 275, 276, 278, 279, 280, 282, 283, 285, 286, 287, 289, 290, 292, 293, 294, 296, 297, 299, 300, 301, 303, 304, 306, 307, 308, 310, 311, 313, 314, 315, 318, 319, 320, 323, 324, 325, 328, 329, 330, 333, 334, 335, 338, 339, 340, 342, 343, 345, 346]
end Mine

/- RT -/
namespace Mine
/-- the text's run over a tree of objects, its step, its leave and its end given -/
def runT (st : SharedT → Thread → Option (SharedT × Thread)) (ok thr : Thread → Bool) : Nat → SharedT → Thread → Option SharedT
  | 0, _, _ => none
  | n + 1, s, t => match thr t with
    | true => some s
    | false => match ok t with
      | false => none
      | true => match st s t with
        | some r => runT st ok thr n r.1 r.2
        | none => none
theorem runT_spec {tb : String → Option Builtin} {p : Program} {w : World} {m : Nat} {ann : Option Value} : ∀ {n : Nat} {s s' : SharedT} {t : Thread},
    runT (stepT (denote tb) p w) (stepOk m ann) through n s t = some s' → topRun tb p w m ann n s.abs t = some s'.abs
  | 0, _, _, _, h => by cases h
  | n + 1, s, s', t, h => by
    unfold runT at h
    unfold topRun
    cases ht : through t with
    | true => rw [ht] at h; cases h; rfl
    | false =>
      rw [ht] at h
      cases hk : stepOk m ann t with
      | false => rw [hk] at h; cases h
      | true =>
        rw [hk] at h
        cases hs : stepT (denote tb) p w s t with
        | none => rw [hs] at h; cases h
        | some r => obtain ⟨s₂, t₂⟩ := r; rw [hs] at h; rw [stepT_spec hs]; exact runT_spec h
/-- what stands ahead of the text, as a tree -/
noncomputable def bootT (P : Params) : BT := .node (boot_o_0 P)
  (.node (boot_o_1 P) (.node (boot_o_3 P) (.node (boot_o_7 P) .nil .nil) .nil) (.node (boot_o_5 P) (.node (boot_o_9 P) .nil .nil) .nil))
  (.node (boot_o_2 P) (.node (boot_o_4 P) (.node (boot_o_8 P) .nil .nil) .nil) (.node (boot_o_6 P) (.node (boot_o_10 P) .nil .nil) .nil))
theorem bootT_abs (P : Params) : absHeap (bootT P) 11 {} = boot_heap P := by kernel_rfl
theorem left_of_tree {p q : Program} {loose : List Str} {Xt : Shared → Bool} {α : Type} {Yf : Shared → α} {Ya : World → α} {N : Nat} {g0 : Bool} {ann : Option Value}
    (open_ : ∀ w : World, (fencedOpening treeTable p w N).map (fun s => (s.heap, s.gens, s.drawn, s.toks)) = some (boot_heap w.params, Array.mk [], boot_drawn, boot_toks))
    (ns : ∀ P : Params, (boot_heap P).isNs mainGlobals = true) (an : ∀ P : Params, (boot_heap P).nsMap mainGlobals "__annotations__" = ann)
    (run : ∀ (w : World) (os : OsState), (runT (stepT (denote treeTable) p w) (stepOk 11 ann) through N ⟨bootT w.params, 11, {}, Array.mk [], boot_drawn, boot_toks, os⟩ (topStub p)).map (fun s =>
        ((staticsOk (importedModules p.main.body) (boot_heap w.params) s.abs.heap && namesBound p s.abs.heap && gensDone s.abs && laidKept (boot_heap w.params) s.abs.heap),
         openSeen q loose (importedModules p.main.body) Xt g0 s.abs, Yf s.abs)) = some (true, openGood q loose, Ya w)) : LeftO p q loose Xt Yf Ya N g0 := fun w => by
  obtain ⟨⟨h, gs, d, k, os⟩, e, e'⟩ := Option.map_eq_some_iff.mp (open_ w)
  obtain ⟨rfl, rfl, rfl, rfl⟩ : h = boot_heap w.params ∧ gs = Array.mk [] ∧ d = boot_drawn ∧ k = boot_toks := by simpa using e'
  obtain ⟨s, e1, e2⟩ := Option.map_eq_some_iff.mp (run w os)
  obtain ⟨l1, l2⟩ := Prod.mk.inj e2
  obtain ⟨l2, l3⟩ := Prod.mk.inj l2
  have r := runT_spec e1
  have t : topFrom treeTable p w N ⟨boot_heap w.params, Array.mk [], boot_drawn, boot_toks, os⟩ = some s.abs := by
    unfold topFrom
    have hz : (boot_heap w.params).objs.size = 11 := rfl
    dsimp only
    rw [ns w.params, an w.params, hz, ← bootT_abs w.params]
    show ((topRun _ _ _ _ _ _ _ _).bind _) = _
    rw [show topRun treeTable p w 11 ann N ⟨absHeap (bootT w.params) 11 {}, Array.mk [], boot_drawn, boot_toks, os⟩ (topStub p) = some s.abs from r]
    show (match staticsOk (importedModules p.main.body) (absHeap (bootT w.params) 11 {}) s.abs.heap && namesBound p s.abs.heap && gensDone s.abs && laidKept (absHeap (bootT w.params) 11 {}) s.abs.heap with | true => _ | false => _) = _
    rw [bootT_abs, l1]
  unfold openEnds
  rw [e]
  show (topFrom treeTable p w N _).map _ = _
  rw [t]
  exact congrArg some (Prod.ext l2 l3)
end Mine

/- HL -/
namespace Mine
theorem hd.asEq : ∀ P, hd.as = (hd.heap_39 P).map (·.1) := fun _ => by kernel_rfl
theorem hd.open : ∀ w : World, (fencedOpening treeTable (OpenLaw.row PySem.Challenge.rw_pc0029_01).prog w 4946).map (fun s => (s.heap, s.gens, s.drawn, s.toks)) = some (boot_heap w.params, Array.mk [], boot_drawn, boot_toks) :=
  boot_open (by kernel_rfl) (by decide) (fun s => by kernel_rfl)
theorem hd.ann : ∀ P : Params, (boot_heap P).nsMap mainGlobals "__annotations__" = some (.ref 6) := fun P => by kernel_rfl
theorem hd.ns : ∀ P : Params, (boot_heap P).isNs mainGlobals = true := fun P => by kernel_rfl
/-- the text's run, and what is seen behind it -/
theorem hd.left : LeftO (OpenLaw.row PySem.Challenge.rw_pc0029_01).prog hd.view_39 [] (fun s => xlAt hd.view_39 [] s && recOk (RowW.records (OpenRow.toRowW (OpenLaw.row PySem.Challenge.rw_pc0029_01))) s) (Hook.obs (kHook hd.heap_39 hd.as hd.asEq)) (Hook.val (kHook hd.heap_39 hd.as hd.asEq)) 4946 := by
  refine left_of_tree hd.open hd.ns hd.ann ?_
  intro w os
  rw [PySem.W.Fast.te10156331382660048174, PySem.W.Fast.te11892475500146522536, PySem.W.Fast.te14364793385576792824, PySem.W.Fast.te6613529449190102663, PySem.W.Fast.te4187177175401517315, PySem.W.Fast.te5923862056798008813]
  kernel_rfl
end Mine

/- HS -/
namespace Mine
theorem sd.two {a b : Bool} (h : a = true) (k : b = true) : (a && b) = true := by rw [h, k]; rfl
theorem sd.l1 : (sreFenced PySem.Challenge.rw_pc0029_01.prog.main && ((moduleNames PySem.Challenge.rw_pc0029_01.prog.main.body).isEmpty || lookedIntoSs (moduleNames PySem.Challenge.rw_pc0029_01.prog.main.body) PySem.Challenge.rw_pc0029_01.prog.main.body)) = true := by
  rw [PySem.W.Fast.te11788848310118352699]
  kernel_rfl
theorem sd.l2 : namesResolve PySem.Challenge.rw_pc0029_01.prog = true := by
  rw [PySem.W.Fast.te8377067652309620493]
  kernel_rfl
theorem sd.l3 : PySem.Challenge.rw_pc0029_01.prog.boundNames.all (fun n => !worldNames.contains n) = true := by
  rw [PySem.W.Fast.te18344453789297297638]
  kernel_rfl
theorem sd.l4 : noRoadLSs { strict := !(importedModules PySem.Challenge.rw_pc0029_01.prog.main.body).all cThrough.contains, foot := none, bare := (["vars", "dir", "locals"] : List Str).filter (readsOut PySem.Challenge.rw_pc0029_01.prog PySem.Challenge.rw_pc0029_01.prog.main.body) } PySem.Challenge.rw_pc0029_01.prog.main.body = true := by
  unfold readsOut
  rw [PySem.W.Fast.te8326940854005059898, PySem.W.Fast.te17119622794617984870]
  kernel_rfl
theorem sd.l5 : namesMeet PySem.Challenge.rw_pc0029_01.prog PySem.Challenge.rw_pc0029_01.prog.main.body (fun _ n => attrL n) = true := by
  rw [PySem.W.Fast.te17119622794617984870]
  kernel_rfl
theorem sd.looks : looksOpen PySem.Challenge.rw_pc0029_01.prog = true := by
  unfold looksOpen
  exact sd.two (sd.two (sd.two (sd.two sd.l1 sd.l2) sd.l3) sd.l4) sd.l5
theorem sd.part : (OpenLaw.row PySem.Challenge.rw_pc0029_01).partSaid = true := by
  unfold OpenRow.partSaid
  refine sd.two (sd.two (sd.two (sd.two (sd.two (sd.two (sd.two (sd.two (sd.two (sd.two (sd.two (sd.two (sd.two sd.looks ?_) ?_) ?_) ?_) ?_) ?_) ?_) ?_) ?_) ?_) ?_) ?_) ?_ <;> kernel_rfl
theorem sd.row : (OpenLaw.row PySem.Challenge.rw_pc0029_01).wellSaid = true := by
  unfold OpenRow.wellSaid
  refine sd.two (sd.two sd.part ?_) ?_
  · show List.contains (Program.boundNames (OpenLaw.prog PySem.Challenge.rw_pc0029_01)) (OpenLaw.name PySem.Challenge.rw_pc0029_01) = true
    rw [PySem.W.Fast.te18344453789297297638]
    kernel_rfl
  · rw [PySem.W.Fast.te12749700546528644094]
    kernel_rfl
theorem sd.m3 : (noClassBlock (OpenLaw.prog PySem.Challenge.rw_pc0029_01) (OpenLaw.footing PySem.Challenge.rw_pc0029_01)) = true := by
  rw [PySem.W.Fast.te8179353310426384613]
  kernel_rfl
theorem sd.m6 : (noRoadLSs { strict := true, foot := some (OpenLaw.bound' PySem.Challenge.rw_pc0029_01), writes := OpenLaw.writes PySem.Challenge.rw_pc0029_01, may := OpenLaw.may PySem.Challenge.rw_pc0029_01 } (OpenLaw.footing PySem.Challenge.rw_pc0029_01)) = true := by
  unfold OpenLaw.bound'
  rw [PySem.W.Fast.te8326940854005059898, PySem.W.Fast.te10792542408131684335, PySem.W.Fast.te18344453789297297638]
  kernel_rfl
theorem sd.m7 : (defStands (OpenLaw.about PySem.Challenge.rw_pc0029_01) (OpenLaw.above PySem.Challenge.rw_pc0029_01)) = true := by
  rw [PySem.W.Fast.te9558739934217749035]
  kernel_rfl
theorem sd.m8 : (OpenLaw.namesIt PySem.Challenge.rw_pc0029_01) = true := by
  rw [PySem.W.Fast.te16286561074155671207]
  kernel_rfl
theorem sd.m10 : ((OpenLaw.bound' PySem.Challenge.rw_pc0029_01).all (fun n => !builtinNamed n || OpenLaw.about PySem.Challenge.rw_pc0029_01 == [n] || !OpenLaw.reads PySem.Challenge.rw_pc0029_01 n)) = true := by
  unfold OpenLaw.bound' OpenLaw.reads readsOut
  rw [PySem.W.Fast.te17119622794617984870, PySem.W.Fast.te10792542408131684335, PySem.W.Fast.te18344453789297297638]
  kernel_rfl
theorem sd.m11 : ((!OpenLaw.writes PySem.Challenge.rw_pc0029_01 || ((OpenLaw.prog PySem.Challenge.rw_pc0029_01).main.body.flatMap importedNames).all fun n => !OpenLaw.reads PySem.Challenge.rw_pc0029_01 n)) = true := by
  unfold OpenLaw.reads readsOut
  rw [PySem.W.Fast.te17119622794617984870]
  kernel_rfl
theorem sd.m12 : (((OpenLaw.prog PySem.Challenge.rw_pc0029_01).main.body.flatMap importedNames).all (fun n => !OpenLaw.reads PySem.Challenge.rw_pc0029_01 n || (drawsOf n (OpenLaw.prog PySem.Challenge.rw_pc0029_01).main.body).all fun mn => mn.2 != ("attrgetter" : Str) && mn.2 != ("methodcaller" : Str))) = true := by
  unfold OpenLaw.reads readsOut
  rw [PySem.W.Fast.te17119622794617984870]
  kernel_rfl
theorem sd.m13 : (namesMeet (OpenLaw.prog PySem.Challenge.rw_pc0029_01) (OpenLaw.footing PySem.Challenge.rw_pc0029_01) (fun sc n => (!(["type", "isinstance", "issubclass", "getattr", "hasattr"] : List Str).contains n || sc.names.lookup n == some .globalImplicit) && (OpenLaw.may PySem.Challenge.rw_pc0029_01 != some n || sc.kind == .module || sc.names.lookup n == some .globalImplicit))) = true := by
  rw [PySem.W.Fast.te17119622794617984870]
  kernel_rfl
theorem sd.m14 : ((OpenLaw.own PySem.Challenge.rw_pc0029_01).contains (OpenLaw.name PySem.Challenge.rw_pc0029_01)) = true := by
  rw [PySem.W.Fast.te10792542408131684335]
  kernel_rfl
theorem sd.m15 : ((OpenLaw.own PySem.Challenge.rw_pc0029_01).eraseDups.length == (OpenLaw.own PySem.Challenge.rw_pc0029_01).length) = true := by
  rw [PySem.W.Fast.te10792542408131684335]
  kernel_rfl
theorem sd.m16 : ((OpenLaw.own PySem.Challenge.rw_pc0029_01).all (fun n => !builtinNamed n)) = true := by
  rw [PySem.W.Fast.te10792542408131684335]
  kernel_rfl
theorem sd.m17 : (namesMeet (OpenLaw.prog PySem.Challenge.rw_pc0029_01) (OpenLaw.above PySem.Challenge.rw_pc0029_01) (fun _ n => !(OpenLaw.own PySem.Challenge.rw_pc0029_01).contains n)) = true := by
  rw [PySem.W.Fast.te17119622794617984870, PySem.W.Fast.te10792542408131684335]
  kernel_rfl
theorem sd.m18 : (namesMeet (OpenLaw.prog PySem.Challenge.rw_pc0029_01) (OpenLaw.footing PySem.Challenge.rw_pc0029_01) fun sc n => sc.kind == .module || sc.names.lookup n != some .globalExplicit) = true := by
  rw [PySem.W.Fast.te17119622794617984870]
  kernel_rfl
theorem hd.said : OpenLaw.wellSaid PySem.Challenge.rw_pc0029_01 = true := by
  unfold OpenLaw.wellSaid
  refine sd.two (sd.two (sd.two (sd.two (sd.two (sd.two (sd.two (sd.two (sd.two (sd.two (sd.two (sd.two (sd.two (sd.two (sd.two (sd.two (sd.two (sd.two sd.row ?_) ?_) sd.m3) ?_) ?_) sd.m6) sd.m7) sd.m8) ?_) sd.m10) sd.m11) sd.m12) sd.m13) sd.m14) sd.m15) sd.m16) sd.m17) sd.m18 <;> kernel_rfl
end Mine

/- Q1 -/
namespace Mine

abbrev prg : Program := PySem.Challenge.rw_pc0029_01.row.prog
noncomputable abbrev KK (w : World) : Frag := hd.heap_39 w.params

theorem init_code {prog : Program} {w : World} {A₀ A : Around} {s : Shared} {base h₀ : Heap} {outer : List Env} {L : Addr} {m mg mb : Str → Option Value} {env : Env} {news : List (Addr × Obj)} {K : Frag} {p : Program} {loose : List Str} {mean : ExcName → Option Value}
    {R : Result → Shared → Prop} {name qual : Str} {params : Arguments} {body : List Stmt} {scope : Scope} {dV kV doc pm cdv ct oc : Value} {an od : Option Addr} {osl : Array (Option Value)} {f cc : Addr} {args : Args} {binds : List (Str × Value)}
    (B : Below A₀ base outer h₀) (F : Fr h₀ L s.heap m) (X₀ : K.In h₀) (N : News h₀ L s.heap news) (T : Top p loose mean mg mb h₀) (hA : A.frames = some (env :: outer)) (hf : env.frame = some L) (hke : env.scope.kind = .function)
    (ho : K.lookup f = some ⟨oc, od, .func (ksFn name qual params body scope dV kV doc pm an cdv ct cc), osl⟩) (hcd : codeIn K cdv qual = true) (hroom : A.depth < recursionLimit)
    (hbind : BindsTo s (ksFn name qual params body scope dV kV doc pm an cdv ct cc) args binds) (hloc : ∀ y ∈ binds, scope.names.lookup y.1 = some .local)
    (h : ∀ g L' h₁, (∀ q o, s.heap.get? q = some o → q ∉ news.map (·.1) → g.get? q = some o) → Fr g L' h₁ (fun y => binds.reverse.lookup y) → News g L' h₁ news → Below A base (env :: outer) g → K.In g → Top p loose mean mg mb g → (∀ p ∈ news, p.1 < L') →
      PySem.wpAt (model prog w) (A.deeper (ksEnv qual scope L' f cdv cc)) (.func body (ksEnv qual scope L' f cdv cc)) (execs body (ksEnv qual scope L' f cdv cc))
        (fun fl s' => R (.ok (.ret (match fl with | .ret v => v | _ => .none))) s')
        (fun e s' => wpAny (model prog w) (A.deeper (ksEnv qual scope L' f cdv cc)) (leaving (ksEnv qual scope L' f cdv cc) e) (fun _ s'' => R (.error e) s'') (fun e' s'' => R (.error e') s'') s')
        { s with heap := h₁, toks := s.toks + binds.length })
    (hcell : ∀ x ∈ scope.names, x.2 ≠ .cell := by decide) (hco : scope.isCoroutine = false := by rfl) (hgen : scope.isGenerator = false := by rfl) (hk : scope.kind = .function := by rfl) : codeAny (model prog w) A (.call (.ref f) args) R s := by
  obtain ⟨FG, BG, st, lv⟩ := groundX (R := R) B F N hA hf hke
  refine ks_codeAny_call_defAt (fd := ksFn name qual params body scope dV kV doc pm an cdv ct cc) (body := body) (binds := binds) hroom ((X₀.keeps F.keep) _ _ ho) rfl (T.nolimit.keeps F.keep) (codeRec_of (X₀.keeps F.keep) hcd) rfl hbind hcell hloc (fun h₁ hns hk₁ => ?_) hco hgen hk
  exact h _ s.heap.objs.size h₁ (fun q o e n => hideAll_get _ e n) ⟨hns, fun b o e => hk₁ b o (of_hideAll _ e), Nat.le_of_eq (hideAll_size _ _)⟩
    (fun p hp => ⟨hk₁ _ _ (N p hp).1, Nat.ne_of_lt (Heap.lt_size (N p hp).1), hideAll_none _ (List.mem_map_of_mem hp)⟩) BG (X₀.keeps st) (T.keeps st) (fun p hp => Heap.lt_size (N p hp).1)

/-- an object is made of three numbers -/
theorem make_q (w : World) {gu : Option (List Code)} {outer : List Env} {fe : Env} {A₀ : Around} {base g h : Heap} {L : Addr} {m mg mb : Str → Option Value} {gens : Array GenState} {d : Drawn} {t : Nat} {os : OsState} {a b c : Int} {ta tb tc : Tok}
    {loose : List Str} {mean : ExcName → Option Value}
    (hh : PySem.Challenge.rw_pc0029_01.name = PySem.Str.ofString "law")
    (B : Below A₀ base outer g) (hf : fe.frame = some L) (hke : fe.scope.kind = .function) (X : (hd.heap_39 w.params).In g) (T : Top hd.view_39 loose mean mg mb g) (F : Fr g L h m) {R : Result → Shared → Prop}
    (hq : ∀ h' tk x dx es n, (∀ q o, h.get? q = some o → h'.get? q = some o) → h.get? x = none → h.get? dx = none → h'.get? x = some ⟨.ref 270, some dx, .plain, #[]⟩ → h'.get? dx = some (dictOf es n) → (∀ x ∈ methNames, getL x es = some none) → R (.ok (.ret (.ref x))) ⟨h', gens, d, tk, os⟩) :
    codeAny (model PySem.Challenge.rw_pc0029_01.row.prog w) ⟨none, 900, some (fe :: outer), gu, 9100⟩ (.call (.ref 270) ⟨[.int a ta, .int b tb, .int c tc], []⟩) R ⟨h, gens, d, t, os⟩ := by
  have Xh : (hd.heap_39 w.params).In h := X.keeps F.keep
  revert hh Xh
  k_fill
  intro hh Xh
  refine make_core (makes_of Xh (by k_is)) (looks_findIn (r := some (.ref 241)) Xh (by k_is)) (fun self => bind_fn Xh self (by k_is)) (.inl rfl) ?_
  -- the ground behind the new things
  have N0 : News g L h [] := fun p hp => by cases hp
  have N1 := (N0.push F emptyDict).push (F.push _) (instObj 270 h.objs.size)
  have F1 := (F.push emptyDict).push (instObj 270 h.objs.size)
  rw [Heap.size_push] at N1
  have FX := F.keep
  refine' init_code B F1 ?k1 N1 ?k5 ?kA ?kF ?kK ?k6 ?k7 ?k8 ?k9 ?kB ?_ ?c1 ?c2 ?c3 ?c4
  case kA => exact rfl
  case kF => exact hf
  case kK => exact hke
  case k1 => exact X
  case k5 => exact T
  case k6 => k_is
  case k7 => k_is
  case k8 => (simp only [depth_under_make]; decide)
  case k9 => exact BindsTo.of_eq rfl
  case kB => exact locs rfl
  case c1 => decide
  case c2 => exact rfl
  case c3 => exact rfl
  case c4 => exact rfl
  intro g' L' h' hkeep F' N' B' X' T' l1
  (try k_lt l1)
  dsimp only
  clear FX F1 N1 Xh F N0 X B T
  w_strict (repeat' (first | (ks_step "execs cons"; refine ks_wpAt_execs_cons ?_) | (ks_step "exec Expr"; refine ks_wpAt_Expr_any ?_) | (ks_step "eval Call"; refine ks_wpAt_MethodCall ?_) | (k_unfold; (try dsimp only)) | (k_end; wrow_close) | walk1 | (dsimp only; walk1) | (leave1; walk_say "STEP leave1"; try dsimp only) | fail "no step"))
  rename Fr g' L' _ _ => F9
  rename News g' L' _ _ => N9
  have f1 : h.get? h.objs.size = none := size_free h
  have f2 : h.get? (h.objs.size + 1) = none := by
    cases q : h.get? (h.objs.size + 1) with
    | none => rfl
    | some o => exact absurd (Heap.lt_size q) (Nat.not_lt.mpr (Nat.le_succ _))
  refine hq _ _ (h.objs.size + 1) h.objs.size _ _ (fun q o e => F9.keep q o (hkeep q o (Heap.get?_push_of_some _ (Heap.get?_push_of_some _ e)) ?_)) f2 f1 (N9 (h.objs.size + 1, instObj 270 h.objs.size) (by k_mem)).1 (N9 (h.objs.size, dictOf _ _) (by k_mem)).1 ?_
  · have hq := Heap.lt_size e
    simp only [List.map_cons, List.map_nil, List.mem_cons, List.not_mem_nil, or_false]
    unfold Addr at *
    omega
  · intro x hx
    simp only [methNames, List.mem_cons, List.not_mem_nil, or_false] at hx
    rcases hx with rfl | rfl | rfl | rfl <;> rfl

/-- an object is made of three numbers -/
theorem make_t (w : World) {gu : Option (List Code)} {outer : List Env} {fe : Env} {A₀ : Around} {base g h : Heap} {L : Addr} {m mg mb : Str → Option Value} {gens : Array GenState} {d : Drawn} {t : Nat} {os : OsState} {a b c : Int} {ta tb tc : Tok}
    {loose : List Str} {mean : ExcName → Option Value}
    (hh : PySem.Challenge.rw_pc0029_01.name = PySem.Str.ofString "law")
    (B : Below A₀ base outer g) (hf : fe.frame = some L) (hke : fe.scope.kind = .function) (X : (hd.heap_39 w.params).In g) (T : Top hd.view_39 loose mean mg mb g) (F : Fr g L h m) {R : Result → Shared → Prop}
    (hq : ∀ h' tk x dx es n, (∀ q o, h.get? q = some o → h'.get? q = some o) → h.get? x = none → h.get? dx = none → h'.get? x = some ⟨.ref 199, some dx, .plain, #[]⟩ → h'.get? dx = some (dictOf es n) → (∀ x ∈ methNames, getL x es = some none) → R (.ok (.ret (.ref x))) ⟨h', gens, d, tk, os⟩) :
    codeAny (model PySem.Challenge.rw_pc0029_01.row.prog w) ⟨none, 900, some (fe :: outer), gu, 9100⟩ (.call (.ref 199) ⟨[.int a ta, .int b tb, .int c tc], []⟩) R ⟨h, gens, d, t, os⟩ := by
  have Xh : (hd.heap_39 w.params).In h := X.keeps F.keep
  revert hh Xh
  k_fill
  intro hh Xh
  refine make_core (makes_of Xh (by k_is)) (looks_findIn (r := some (.ref 177)) Xh (by k_is)) (fun self => bind_fn Xh self (by k_is)) (.inl rfl) ?_
  -- the ground behind the new things
  have N0 : News g L h [] := fun p hp => by cases hp
  have N1 := (N0.push F emptyDict).push (F.push _) (instObj 199 h.objs.size)
  have F1 := (F.push emptyDict).push (instObj 199 h.objs.size)
  rw [Heap.size_push] at N1
  have FX := F.keep
  refine' init_code B F1 ?k1 N1 ?k5 ?kA ?kF ?kK ?k6 ?k7 ?k8 ?k9 ?kB ?_ ?c1 ?c2 ?c3 ?c4
  case kA => exact rfl
  case kF => exact hf
  case kK => exact hke
  case k1 => exact X
  case k5 => exact T
  case k6 => k_is
  case k7 => k_is
  case k8 => (simp only [depth_under_make]; decide)
  case k9 => exact BindsTo.of_eq rfl
  case kB => exact locs rfl
  case c1 => decide
  case c2 => exact rfl
  case c3 => exact rfl
  case c4 => exact rfl
  intro g' L' h' hkeep F' N' B' X' T' l1
  (try k_lt l1)
  dsimp only
  clear FX F1 N1 Xh F N0 X B T
  w_strict (repeat' (first | (ks_step "execs cons"; refine ks_wpAt_execs_cons ?_) | (ks_step "exec Expr"; refine ks_wpAt_Expr_any ?_) | (ks_step "eval Call"; refine ks_wpAt_MethodCall ?_) | (k_unfold; (try dsimp only)) | (k_end; wrow_close) | walk1 | (dsimp only; walk1) | (leave1; walk_say "STEP leave1"; try dsimp only) | fail "no step"))
  rename Fr g' L' _ _ => F9
  rename News g' L' _ _ => N9
  have f1 : h.get? h.objs.size = none := size_free h
  have f2 : h.get? (h.objs.size + 1) = none := by
    cases q : h.get? (h.objs.size + 1) with
    | none => rfl
    | some o => exact absurd (Heap.lt_size q) (Nat.not_lt.mpr (Nat.le_succ _))
  refine hq _ _ (h.objs.size + 1) h.objs.size _ _ (fun q o e => F9.keep q o (hkeep q o (Heap.get?_push_of_some _ (Heap.get?_push_of_some _ e)) ?_)) f2 f1 (N9 (h.objs.size + 1, instObj 199 h.objs.size) (by k_mem)).1 (N9 (h.objs.size, dictOf _ _) (by k_mem)).1 ?_
  · have hq := Heap.lt_size e
    simp only [List.map_cons, List.map_nil, List.mem_cons, List.not_mem_nil, or_false]
    unfold Addr at *
    omega
  · intro x hx
    simp only [methNames, List.mem_cons, List.not_mem_nil, or_false] at hx
    rcases hx with rfl | rfl | rfl | rfl <;> rfl

/-- the law's globals -/
noncomputable abbrev GG (w : World) (mean : ExcName → Option Value) (mg mb : Str → Option Value) : Gl := ⟨PySem.Challenge.rw_pc0029_01.row.prog, w, hd.heap_39 w.params, hd.view_39, looseW hd.view_39 [], mean, mg, mb⟩

theorem Ctx.In.wide {Γ : Ctx} {A A' : Around} (x : Γ.In A) (h1 : A.handled = A'.handled) (h2 : A.depth ≤ A'.depth) (h3 : A.frames = A'.frames) (h4 : A'.guards = none) (h5 : A.units ≤ A'.units) : Γ.In A' :=
  ⟨x.1.trans h1, Nat.le_trans x.2.1 h2, fun l hl => x.2.2.1 l (h3.trans hl), fun g hg => (by rw [h4] at hg; cases hg), Nat.le_trans x.2.2.2.2 h5⟩
theorem wpAny_wide {α : Type} {M : Model} {A A' : Around} {t : Sem α} {Q : α → Shared → Prop} {E : Value → Shared → Prop} {s : Shared} (h : wpAny M A' t Q E s) (h1 : A.handled = A'.handled) (h2 : A.depth ≤ A'.depth) (h3 : A.frames = A'.frames) (h4 : A'.guards = none) (h5 : A.units ≤ A'.units) : wpAny M A t Q E s := fun Γ p hΓ =>
  h Γ p (Ctx.In.wide hΓ h1 h2 h3 h4 h5)

theorem calls_q (w : World) {mean : ExcName → Option Value} {mg mb : Str → Option Value} {k : Nat} {σ : Store} {a b c : Int} (hk : 100 ≤ k) : CallsV (GG w mean mg mb) k (.ref 270) σ [.int a, .int b, .int c] (.inst 270) σ := fun X s vals B hr ⟨v₁, r₁, e₁, ⟨ta, hv₁⟩, v₂, r₂, e₂, ⟨tb, hv₂⟩, v₃, r₃, e₃, ⟨tc, hv₃⟩, hn⟩ Q E hQ => by
  have hn : r₃ = [] := hn
  subst e₁ e₂ e₃ hv₁ hv₂ hv₃ hn
  obtain ⟨m, F⟩ := B.F
  have h1 := hr.1
  have h2 := hr.2
  refine wpAny_wide (A' := ⟨none, 900, some (X.fenv :: X.outer), none, 9100⟩) ?_ B.hh (by rw [show recursionLimit = 1000 from rfl] at h1; show X.A.depth ≤ 900; omega) B.fr rfl (by rw [cLine_is] at h2; show X.A.units ≤ 9100; omega)
  obtain ⟨h, gens, d, t, os⟩ := s
  refine wpAny_call (make_q w rfl B.below B.frm B.fk B.kin B.top F fun h' tk x dx es n hk fx fd hx hd hm => ?_)
  exact hQ _ _ (B.keeps hk) (.of_keeps hk) ⟨rfl, rfl, rfl⟩ ⟨x, dx, es, n, _, rfl, B.new' fx, B.new' fd, hx, hd, hm⟩
theorem calls_t (w : World) {mean : ExcName → Option Value} {mg mb : Str → Option Value} {k : Nat} {σ : Store} {a b c : Int} (hk : 100 ≤ k) : CallsV (GG w mean mg mb) k (.ref 199) σ [.int a, .int b, .int c] (.inst 199) σ := fun X s vals B hr ⟨v₁, r₁, e₁, ⟨ta, hv₁⟩, v₂, r₂, e₂, ⟨tb, hv₂⟩, v₃, r₃, e₃, ⟨tc, hv₃⟩, hn⟩ Q E hQ => by
  have hn : r₃ = [] := hn
  subst e₁ e₂ e₃ hv₁ hv₂ hv₃ hn
  obtain ⟨m, F⟩ := B.F
  have h1 := hr.1
  have h2 := hr.2
  refine wpAny_wide (A' := ⟨none, 900, some (X.fenv :: X.outer), none, 9100⟩) ?_ B.hh (by rw [show recursionLimit = 1000 from rfl] at h1; show X.A.depth ≤ 900; omega) B.fr rfl (by rw [cLine_is] at h2; show X.A.units ≤ 9100; omega)
  obtain ⟨h, gens, d, t, os⟩ := s
  refine wpAny_call (make_t w rfl B.below B.frm B.fk B.kin B.top F fun h' tk x dx es n hk fx fd hx hd hm => ?_)
  exact hQ _ _ (B.keeps hk) (.of_keeps hk) ⟨rfl, rfl, rfl⟩ ⟨x, dx, es, n, _, rfl, B.new' fx, B.new' fd, hx, hd, hm⟩
end Mine

/- P0 -/
namespace Mine
section
variable {w : World} {mean : ExcName → Option Value} {mg mb : Str → Option Value} {k : Nat} {σ : Store} {sc : Scope}

theorem f_ceiling : nsIn (hd.heap_39 w.params) mainGlobals (Str.ofString "ceiling") = some (some (.ref 70)) := by
  have hh : PySem.Challenge.rw_pc0029_01.name = PySem.Str.ofString "law" := rfl
  revert hh
  k_fill
  intro hh
  show _ = _
  k_is
theorem kp_ceiling : KeepOk (GG w mean mg mb) (.ref 70) := by
  have h1 : keepIn (hd.heap_39 w.params) (.ref 70) = true := by
    have hh : PySem.Challenge.rw_pc0029_01.name = PySem.Str.ofString "law" := rfl
    revert hh
    k_fill
    intro hh
    show _ = _
    k_is
  exact keep_ref h1
theorem gl_ceiling (h : sc.names.lookup (Str.ofString "ceiling") = some .globalImplicit) : GlobalIs (GG w mean mg mb) sc (Str.ofString "ceiling") (.ref 70) := ⟨h, rfl, .inl f_ceiling⟩

theorem f_truncated : nsIn (hd.heap_39 w.params) mainGlobals (Str.ofString "truncated") = some (some (.ref 77)) := by
  have hh : PySem.Challenge.rw_pc0029_01.name = PySem.Str.ofString "law" := rfl
  revert hh
  k_fill
  intro hh
  show _ = _
  k_is
theorem kp_truncated : KeepOk (GG w mean mg mb) (.ref 77) := by
  have h1 : keepIn (hd.heap_39 w.params) (.ref 77) = true := by
    have hh : PySem.Challenge.rw_pc0029_01.name = PySem.Str.ofString "law" := rfl
    revert hh
    k_fill
    intro hh
    show _ = _
    k_is
  exact keep_ref h1
theorem gl_truncated (h : sc.names.lookup (Str.ofString "truncated") = some .globalImplicit) : GlobalIs (GG w mean mg mb) sc (Str.ofString "truncated") (.ref 77) := ⟨h, rfl, .inl f_truncated⟩

theorem f_size_of : nsIn (hd.heap_39 w.params) mainGlobals (Str.ofString "size_of") = some (some (.ref 84)) := by
  have hh : PySem.Challenge.rw_pc0029_01.name = PySem.Str.ofString "law" := rfl
  revert hh
  k_fill
  intro hh
  show _ = _
  k_is
theorem kp_size_of : KeepOk (GG w mean mg mb) (.ref 84) := by
  have h1 : keepIn (hd.heap_39 w.params) (.ref 84) = true := by
    have hh : PySem.Challenge.rw_pc0029_01.name = PySem.Str.ofString "law" := rfl
    revert hh
    k_fill
    intro hh
    show _ = _
    k_is
  exact keep_ref h1
theorem gl_size_of (h : sc.names.lookup (Str.ofString "size_of") = some .globalImplicit) : GlobalIs (GG w mean mg mb) sc (Str.ofString "size_of") (.ref 84) := ⟨h, rfl, .inl f_size_of⟩

theorem f_do_meet : nsIn (hd.heap_39 w.params) mainGlobals (Str.ofString "do_meet") = some (some (.ref 91)) := by
  have hh : PySem.Challenge.rw_pc0029_01.name = PySem.Str.ofString "law" := rfl
  revert hh
  k_fill
  intro hh
  show _ = _
  k_is
theorem kp_do_meet : KeepOk (GG w mean mg mb) (.ref 91) := by
  have h1 : keepIn (hd.heap_39 w.params) (.ref 91) = true := by
    have hh : PySem.Challenge.rw_pc0029_01.name = PySem.Str.ofString "law" := rfl
    revert hh
    k_fill
    intro hh
    show _ = _
    k_is
  exact keep_ref h1
theorem gl_do_meet (h : sc.names.lookup (Str.ofString "do_meet") = some .globalImplicit) : GlobalIs (GG w mean mg mb) sc (Str.ofString "do_meet") (.ref 91) := ⟨h, rfl, .inl f_do_meet⟩

theorem f_Times : nsIn (hd.heap_39 w.params) mainGlobals (Str.ofString "Times") = some (some (.ref 199)) := by
  have hh : PySem.Challenge.rw_pc0029_01.name = PySem.Str.ofString "law" := rfl
  revert hh
  k_fill
  intro hh
  show _ = _
  k_is
theorem kp_Times : KeepOk (GG w mean mg mb) (.ref 199) := by
  have h1 : keepIn (hd.heap_39 w.params) (.ref 199) = true := by
    have hh : PySem.Challenge.rw_pc0029_01.name = PySem.Str.ofString "law" := rfl
    revert hh
    k_fill
    intro hh
    show _ = _
    k_is
  exact keep_ref h1
theorem gl_Times (h : sc.names.lookup (Str.ofString "Times") = some .globalImplicit) : GlobalIs (GG w mean mg mb) sc (Str.ofString "Times") (.ref 199) := ⟨h, rfl, .inl f_Times⟩

theorem f_Quotient : nsIn (hd.heap_39 w.params) mainGlobals (Str.ofString "Quotient") = some (some (.ref 270)) := by
  have hh : PySem.Challenge.rw_pc0029_01.name = PySem.Str.ofString "law" := rfl
  revert hh
  k_fill
  intro hh
  show _ = _
  k_is
theorem kp_Quotient : KeepOk (GG w mean mg mb) (.ref 270) := by
  have h1 : keepIn (hd.heap_39 w.params) (.ref 270) = true := by
    have hh : PySem.Challenge.rw_pc0029_01.name = PySem.Str.ofString "law" := rfl
    revert hh
    k_fill
    intro hh
    show _ = _
    k_is
  exact keep_ref h1
theorem gl_Quotient (h : sc.names.lookup (Str.ofString "Quotient") = some .globalImplicit) : GlobalIs (GG w mean mg mb) sc (Str.ofString "Quotient") (.ref 270) := ⟨h, rfl, .inl f_Quotient⟩

theorem f_law_out : nsIn (hd.heap_39 w.params) mainGlobals (Str.ofString "_law_out") = some (some (.ref 279)) := by
  have hh : PySem.Challenge.rw_pc0029_01.name = PySem.Str.ofString "law" := rfl
  revert hh
  k_fill
  intro hh
  show _ = _
  k_is
theorem kp_law_out : KeepOk (GG w mean mg mb) (.ref 279) := by
  have h1 : keepIn (hd.heap_39 w.params) (.ref 279) = true := by
    have hh : PySem.Challenge.rw_pc0029_01.name = PySem.Str.ofString "law" := rfl
    revert hh
    k_fill
    intro hh
    show _ = _
    k_is
  exact keep_ref h1
theorem gl_law_out (h : sc.names.lookup (Str.ofString "_law_out") = some .globalImplicit) : GlobalIs (GG w mean mg mb) sc (Str.ofString "_law_out") (.ref 279) := ⟨h, rfl, .inl f_law_out⟩

theorem f_law_step : nsIn (hd.heap_39 w.params) mainGlobals (Str.ofString "_law_step") = some (some (.ref 286)) := by
  have hh : PySem.Challenge.rw_pc0029_01.name = PySem.Str.ofString "law" := rfl
  revert hh
  k_fill
  intro hh
  show _ = _
  k_is
theorem kp_law_step : KeepOk (GG w mean mg mb) (.ref 286) := by
  have h1 : keepIn (hd.heap_39 w.params) (.ref 286) = true := by
    have hh : PySem.Challenge.rw_pc0029_01.name = PySem.Str.ofString "law" := rfl
    revert hh
    k_fill
    intro hh
    show _ = _
    k_is
  exact keep_ref h1
theorem gl_law_step (h : sc.names.lookup (Str.ofString "_law_step") = some .globalImplicit) : GlobalIs (GG w mean mg mb) sc (Str.ofString "_law_step") (.ref 286) := ⟨h, rfl, .inl f_law_step⟩

theorem f_law_around : nsIn (hd.heap_39 w.params) mainGlobals (Str.ofString "_law_around") = some (some (.ref 293)) := by
  have hh : PySem.Challenge.rw_pc0029_01.name = PySem.Str.ofString "law" := rfl
  revert hh
  k_fill
  intro hh
  show _ = _
  k_is
theorem kp_law_around : KeepOk (GG w mean mg mb) (.ref 293) := by
  have h1 : keepIn (hd.heap_39 w.params) (.ref 293) = true := by
    have hh : PySem.Challenge.rw_pc0029_01.name = PySem.Str.ofString "law" := rfl
    revert hh
    k_fill
    intro hh
    show _ = _
    k_is
  exact keep_ref h1
theorem gl_law_around (h : sc.names.lookup (Str.ofString "_law_around") = some .globalImplicit) : GlobalIs (GG w mean mg mb) sc (Str.ofString "_law_around") (.ref 293) := ⟨h, rfl, .inl f_law_around⟩

theorem f_law_great : nsIn (hd.heap_39 w.params) mainGlobals (Str.ofString "_law_great") = some (some (.ref 300)) := by
  have hh : PySem.Challenge.rw_pc0029_01.name = PySem.Str.ofString "law" := rfl
  revert hh
  k_fill
  intro hh
  show _ = _
  k_is
theorem kp_law_great : KeepOk (GG w mean mg mb) (.ref 300) := by
  have h1 : keepIn (hd.heap_39 w.params) (.ref 300) = true := by
    have hh : PySem.Challenge.rw_pc0029_01.name = PySem.Str.ofString "law" := rfl
    revert hh
    k_fill
    intro hh
    show _ = _
    k_is
  exact keep_ref h1
theorem gl_law_great (h : sc.names.lookup (Str.ofString "_law_great") = some .globalImplicit) : GlobalIs (GG w mean mg mb) sc (Str.ofString "_law_great") (.ref 300) := ⟨h, rfl, .inl f_law_great⟩

theorem f_law_all : nsIn (hd.heap_39 w.params) mainGlobals (Str.ofString "_law_all") = some (some (.ref 307)) := by
  have hh : PySem.Challenge.rw_pc0029_01.name = PySem.Str.ofString "law" := rfl
  revert hh
  k_fill
  intro hh
  show _ = _
  k_is
theorem kp_law_all : KeepOk (GG w mean mg mb) (.ref 307) := by
  have h1 : keepIn (hd.heap_39 w.params) (.ref 307) = true := by
    have hh : PySem.Challenge.rw_pc0029_01.name = PySem.Str.ofString "law" := rfl
    revert hh
    k_fill
    intro hh
    show _ = _
    k_is
  exact keep_ref h1
theorem gl_law_all (h : sc.names.lookup (Str.ofString "_law_all") = some .globalImplicit) : GlobalIs (GG w mean mg mb) sc (Str.ofString "_law_all") (.ref 307) := ⟨h, rfl, .inl f_law_all⟩

theorem f_law_is_quotient : nsIn (hd.heap_39 w.params) mainGlobals (Str.ofString "_law_is_quotient") = some (some (.ref 314)) := by
  have hh : PySem.Challenge.rw_pc0029_01.name = PySem.Str.ofString "law" := rfl
  revert hh
  k_fill
  intro hh
  show _ = _
  k_is
theorem kp_law_is_quotient : KeepOk (GG w mean mg mb) (.ref 314) := by
  have h1 : keepIn (hd.heap_39 w.params) (.ref 314) = true := by
    have hh : PySem.Challenge.rw_pc0029_01.name = PySem.Str.ofString "law" := rfl
    revert hh
    k_fill
    intro hh
    show _ = _
    k_is
  exact keep_ref h1
theorem gl_law_is_quotient (h : sc.names.lookup (Str.ofString "_law_is_quotient") = some .globalImplicit) : GlobalIs (GG w mean mg mb) sc (Str.ofString "_law_is_quotient") (.ref 314) := ⟨h, rfl, .inl f_law_is_quotient⟩

theorem f_law_is_narrow_right : nsIn (hd.heap_39 w.params) mainGlobals (Str.ofString "_law_is_narrow_right") = some (some (.ref 319)) := by
  have hh : PySem.Challenge.rw_pc0029_01.name = PySem.Str.ofString "law" := rfl
  revert hh
  k_fill
  intro hh
  show _ = _
  k_is
theorem kp_law_is_narrow_right : KeepOk (GG w mean mg mb) (.ref 319) := by
  have h1 : keepIn (hd.heap_39 w.params) (.ref 319) = true := by
    have hh : PySem.Challenge.rw_pc0029_01.name = PySem.Str.ofString "law" := rfl
    revert hh
    k_fill
    intro hh
    show _ = _
    k_is
  exact keep_ref h1
theorem gl_law_is_narrow_right (h : sc.names.lookup (Str.ofString "_law_is_narrow_right") = some .globalImplicit) : GlobalIs (GG w mean mg mb) sc (Str.ofString "_law_is_narrow_right") (.ref 319) := ⟨h, rfl, .inl f_law_is_narrow_right⟩

theorem f_law_wide_quotients_right : nsIn (hd.heap_39 w.params) mainGlobals (Str.ofString "_law_wide_quotients_right") = some (some (.ref 324)) := by
  have hh : PySem.Challenge.rw_pc0029_01.name = PySem.Str.ofString "law" := rfl
  revert hh
  k_fill
  intro hh
  show _ = _
  k_is
theorem kp_law_wide_quotients_right : KeepOk (GG w mean mg mb) (.ref 324) := by
  have h1 : keepIn (hd.heap_39 w.params) (.ref 324) = true := by
    have hh : PySem.Challenge.rw_pc0029_01.name = PySem.Str.ofString "law" := rfl
    revert hh
    k_fill
    intro hh
    show _ = _
    k_is
  exact keep_ref h1
theorem gl_law_wide_quotients_right (h : sc.names.lookup (Str.ofString "_law_wide_quotients_right") = some .globalImplicit) : GlobalIs (GG w mean mg mb) sc (Str.ofString "_law_wide_quotients_right") (.ref 324) := ⟨h, rfl, .inl f_law_wide_quotients_right⟩

theorem f_law_quotients_right : nsIn (hd.heap_39 w.params) mainGlobals (Str.ofString "_law_quotients_right") = some (some (.ref 329)) := by
  have hh : PySem.Challenge.rw_pc0029_01.name = PySem.Str.ofString "law" := rfl
  revert hh
  k_fill
  intro hh
  show _ = _
  k_is
theorem kp_law_quotients_right : KeepOk (GG w mean mg mb) (.ref 329) := by
  have h1 : keepIn (hd.heap_39 w.params) (.ref 329) = true := by
    have hh : PySem.Challenge.rw_pc0029_01.name = PySem.Str.ofString "law" := rfl
    revert hh
    k_fill
    intro hh
    show _ = _
    k_is
  exact keep_ref h1
theorem gl_law_quotients_right (h : sc.names.lookup (Str.ofString "_law_quotients_right") = some .globalImplicit) : GlobalIs (GG w mean mg mb) sc (Str.ofString "_law_quotients_right") (.ref 329) := ⟨h, rfl, .inl f_law_quotients_right⟩

theorem f_law_wide_products_right : nsIn (hd.heap_39 w.params) mainGlobals (Str.ofString "_law_wide_products_right") = some (some (.ref 334)) := by
  have hh : PySem.Challenge.rw_pc0029_01.name = PySem.Str.ofString "law" := rfl
  revert hh
  k_fill
  intro hh
  show _ = _
  k_is
theorem kp_law_wide_products_right : KeepOk (GG w mean mg mb) (.ref 334) := by
  have h1 : keepIn (hd.heap_39 w.params) (.ref 334) = true := by
    have hh : PySem.Challenge.rw_pc0029_01.name = PySem.Str.ofString "law" := rfl
    revert hh
    k_fill
    intro hh
    show _ = _
    k_is
  exact keep_ref h1
theorem gl_law_wide_products_right (h : sc.names.lookup (Str.ofString "_law_wide_products_right") = some .globalImplicit) : GlobalIs (GG w mean mg mb) sc (Str.ofString "_law_wide_products_right") (.ref 334) := ⟨h, rfl, .inl f_law_wide_products_right⟩

theorem f_law_products_right : nsIn (hd.heap_39 w.params) mainGlobals (Str.ofString "_law_products_right") = some (some (.ref 339)) := by
  have hh : PySem.Challenge.rw_pc0029_01.name = PySem.Str.ofString "law" := rfl
  revert hh
  k_fill
  intro hh
  show _ = _
  k_is
theorem kp_law_products_right : KeepOk (GG w mean mg mb) (.ref 339) := by
  have h1 : keepIn (hd.heap_39 w.params) (.ref 339) = true := by
    have hh : PySem.Challenge.rw_pc0029_01.name = PySem.Str.ofString "law" := rfl
    revert hh
    k_fill
    intro hh
    show _ = _
    k_is
  exact keep_ref h1
theorem gl_law_products_right (h : sc.names.lookup (Str.ofString "_law_products_right") = some .globalImplicit) : GlobalIs (GG w mean mg mb) sc (Str.ofString "_law_products_right") (.ref 339) := ⟨h, rfl, .inl f_law_products_right⟩

theorem f_abs : nsIn (hd.heap_39 w.params) mainGlobals (Str.ofString "abs") = some none := by
  have hh : PySem.Challenge.rw_pc0029_01.name = PySem.Str.ofString "law" := rfl
  revert hh
  k_fill
  intro hh
  show _ = _
  k_is
theorem gl_abs (h : sc.names.lookup (Str.ofString "abs") = some .globalImplicit) : GlobalIs (GG w mean mg mb) sc (Str.ofString "abs") (.builtin "abs") := ⟨h, rfl, .inr ⟨f_abs, by boot_by_name, by decide⟩⟩

theorem f_max : nsIn (hd.heap_39 w.params) mainGlobals (Str.ofString "max") = some none := by
  have hh : PySem.Challenge.rw_pc0029_01.name = PySem.Str.ofString "law" := rfl
  revert hh
  k_fill
  intro hh
  show _ = _
  k_is
theorem gl_max (h : sc.names.lookup (Str.ofString "max") = some .globalImplicit) : GlobalIs (GG w mean mg mb) sc (Str.ofString "max") (.builtin "max") := ⟨h, rfl, .inr ⟨f_max, by boot_by_name, by decide⟩⟩

theorem f_min : nsIn (hd.heap_39 w.params) mainGlobals (Str.ofString "min") = some none := by
  have hh : PySem.Challenge.rw_pc0029_01.name = PySem.Str.ofString "law" := rfl
  revert hh
  k_fill
  intro hh
  show _ = _
  k_is
theorem gl_min (h : sc.names.lookup (Str.ofString "min") = some .globalImplicit) : GlobalIs (GG w mean mg mb) sc (Str.ofString "min") (.builtin "min") := ⟨h, rfl, .inr ⟨f_min, by boot_by_name, by decide⟩⟩

theorem f_sorted : nsIn (hd.heap_39 w.params) mainGlobals (Str.ofString "sorted") = some none := by
  have hh : PySem.Challenge.rw_pc0029_01.name = PySem.Str.ofString "law" := rfl
  revert hh
  k_fill
  intro hh
  show _ = _
  k_is
theorem gl_sorted (h : sc.names.lookup (Str.ofString "sorted") = some .globalImplicit) : GlobalIs (GG w mean mg mb) sc (Str.ofString "sorted") (.builtin "sorted") := ⟨h, rfl, .inr ⟨f_sorted, by boot_by_name, by decide⟩⟩

theorem f_len : nsIn (hd.heap_39 w.params) mainGlobals (Str.ofString "len") = some none := by
  have hh : PySem.Challenge.rw_pc0029_01.name = PySem.Str.ofString "law" := rfl
  revert hh
  k_fill
  intro hh
  show _ = _
  k_is
theorem gl_len (h : sc.names.lookup (Str.ofString "len") = some .globalImplicit) : GlobalIs (GG w mean mg mb) sc (Str.ofString "len") (.builtin "len") := ⟨h, rfl, .inr ⟨f_len, by boot_by_name, by decide⟩⟩

theorem f_tuple : nsIn (hd.heap_39 w.params) mainGlobals (Str.ofString "tuple") = some none := by
  have hh : PySem.Challenge.rw_pc0029_01.name = PySem.Str.ofString "law" := rfl
  revert hh
  k_fill
  intro hh
  show _ = _
  k_is
theorem gl_tuple (h : sc.names.lookup (Str.ofString "tuple") = some .globalImplicit) : GlobalIs (GG w mean mg mb) sc (Str.ofString "tuple") (.type "tuple") := ⟨h, rfl, .inr ⟨f_tuple, by boot_by_name, by decide⟩⟩

theorem f_range : nsIn (hd.heap_39 w.params) mainGlobals (Str.ofString "range") = some none := by
  have hh : PySem.Challenge.rw_pc0029_01.name = PySem.Str.ofString "law" := rfl
  revert hh
  k_fill
  intro hh
  show _ = _
  k_is
theorem gl_range (h : sc.names.lookup (Str.ofString "range") = some .globalImplicit) : GlobalIs (GG w mean mg mb) sc (Str.ofString "range") (.type "range") := ⟨h, rfl, .inr ⟨f_range, by boot_by_name, by decide⟩⟩

theorem pg_199_can_be : plainGet (hd.heap_39 w.params) 199 (Str.ofString "can_be") = true := by
  have hh : PySem.Challenge.rw_pc0029_01.name = PySem.Str.ofString "law" := rfl
  revert hh
  k_fill
  intro hh
  show _ = _
  k_is

theorem fi_199_can_be : findIn (hd.heap_39 w.params) (.ref 199) (Str.ofString "can_be") = some (some (.ref 184)) := by
  have hh : PySem.Challenge.rw_pc0029_01.name = PySem.Str.ofString "law" := rfl
  revert hh
  k_fill
  intro hh
  show _ = _
  k_is

theorem fn_199_can_be : isFn (hd.heap_39 w.params) (.ref 184) = true := by
  have hh : PySem.Challenge.rw_pc0029_01.name = PySem.Str.ofString "law" := rfl
  revert hh
  k_fill
  intro hh
  show _ = _
  k_is

theorem ke_199_can_be : keepIn (hd.heap_39 w.params) (.ref 184) = true := by
  have hh : PySem.Challenge.rw_pc0029_01.name = PySem.Str.ofString "law" := rfl
  revert hh
  k_fill
  intro hh
  show _ = _
  k_is

theorem pg_199_outer : plainGet (hd.heap_39 w.params) 199 (Str.ofString "outer") = true := by
  have hh : PySem.Challenge.rw_pc0029_01.name = PySem.Str.ofString "law" := rfl
  revert hh
  k_fill
  intro hh
  show _ = _
  k_is

theorem fi_199_outer : findIn (hd.heap_39 w.params) (.ref 199) (Str.ofString "outer") = some (some (.ref 189)) := by
  have hh : PySem.Challenge.rw_pc0029_01.name = PySem.Str.ofString "law" := rfl
  revert hh
  k_fill
  intro hh
  show _ = _
  k_is

theorem fn_199_outer : isFn (hd.heap_39 w.params) (.ref 189) = true := by
  have hh : PySem.Challenge.rw_pc0029_01.name = PySem.Str.ofString "law" := rfl
  revert hh
  k_fill
  intro hh
  show _ = _
  k_is

theorem ke_199_outer : keepIn (hd.heap_39 w.params) (.ref 189) = true := by
  have hh : PySem.Challenge.rw_pc0029_01.name = PySem.Str.ofString "law" := rfl
  revert hh
  k_fill
  intro hh
  show _ = _
  k_is

theorem pg_270_can_be : plainGet (hd.heap_39 w.params) 270 (Str.ofString "can_be") = true := by
  have hh : PySem.Challenge.rw_pc0029_01.name = PySem.Str.ofString "law" := rfl
  revert hh
  k_fill
  intro hh
  show _ = _
  k_is

theorem fi_270_can_be : findIn (hd.heap_39 w.params) (.ref 270) (Str.ofString "can_be") = some (some (.ref 246)) := by
  have hh : PySem.Challenge.rw_pc0029_01.name = PySem.Str.ofString "law" := rfl
  revert hh
  k_fill
  intro hh
  show _ = _
  k_is

theorem fn_270_can_be : isFn (hd.heap_39 w.params) (.ref 246) = true := by
  have hh : PySem.Challenge.rw_pc0029_01.name = PySem.Str.ofString "law" := rfl
  revert hh
  k_fill
  intro hh
  show _ = _
  k_is

theorem ke_270_can_be : keepIn (hd.heap_39 w.params) (.ref 246) = true := by
  have hh : PySem.Challenge.rw_pc0029_01.name = PySem.Str.ofString "law" := rfl
  revert hh
  k_fill
  intro hh
  show _ = _
  k_is

theorem pg_270_outer : plainGet (hd.heap_39 w.params) 270 (Str.ofString "outer") = true := by
  have hh : PySem.Challenge.rw_pc0029_01.name = PySem.Str.ofString "law" := rfl
  revert hh
  k_fill
  intro hh
  show _ = _
  k_is

theorem fi_270_outer : findIn (hd.heap_39 w.params) (.ref 270) (Str.ofString "outer") = some (some (.ref 260)) := by
  have hh : PySem.Challenge.rw_pc0029_01.name = PySem.Str.ofString "law" := rfl
  revert hh
  k_fill
  intro hh
  show _ = _
  k_is

theorem fn_270_outer : isFn (hd.heap_39 w.params) (.ref 260) = true := by
  have hh : PySem.Challenge.rw_pc0029_01.name = PySem.Str.ofString "law" := rfl
  revert hh
  k_fill
  intro hh
  show _ = _
  k_is

theorem ke_270_outer : keepIn (hd.heap_39 w.params) (.ref 260) = true := by
  have hh : PySem.Challenge.rw_pc0029_01.name = PySem.Str.ofString "law" := rfl
  revert hh
  k_fill
  intro hh
  show _ = _
  k_is

theorem pg_270_divisors : plainGet (hd.heap_39 w.params) 270 (Str.ofString "divisors") = true := by
  have hh : PySem.Challenge.rw_pc0029_01.name = PySem.Str.ofString "law" := rfl
  revert hh
  k_fill
  intro hh
  show _ = _
  k_is

theorem fi_270_divisors : findIn (hd.heap_39 w.params) (.ref 270) (Str.ofString "divisors") = some (some (.ref 213)) := by
  have hh : PySem.Challenge.rw_pc0029_01.name = PySem.Str.ofString "law" := rfl
  revert hh
  k_fill
  intro hh
  show _ = _
  k_is

theorem fn_270_divisors : isFn (hd.heap_39 w.params) (.ref 213) = true := by
  have hh : PySem.Challenge.rw_pc0029_01.name = PySem.Str.ofString "law" := rfl
  revert hh
  k_fill
  intro hh
  show _ = _
  k_is

theorem ke_270_divisors : keepIn (hd.heap_39 w.params) (.ref 213) = true := by
  have hh : PySem.Challenge.rw_pc0029_01.name = PySem.Str.ofString "law" := rfl
  revert hh
  k_fill
  intro hh
  show _ = _
  k_is

theorem pg_270_divided_by : plainGet (hd.heap_39 w.params) 270 (Str.ofString "divided_by") = true := by
  have hh : PySem.Challenge.rw_pc0029_01.name = PySem.Str.ofString "law" := rfl
  revert hh
  k_fill
  intro hh
  show _ = _
  k_is

theorem fi_270_divided_by : findIn (hd.heap_39 w.params) (.ref 270) (Str.ofString "divided_by") = some (some (.ref 253)) := by
  have hh : PySem.Challenge.rw_pc0029_01.name = PySem.Str.ofString "law" := rfl
  revert hh
  k_fill
  intro hh
  show _ = _
  k_is

theorem fn_270_divided_by : isFn (hd.heap_39 w.params) (.ref 253) = true := by
  have hh : PySem.Challenge.rw_pc0029_01.name = PySem.Str.ofString "law" := rfl
  revert hh
  k_fill
  intro hh
  show _ = _
  k_is

theorem ke_270_divided_by : keepIn (hd.heap_39 w.params) (.ref 253) = true := by
  have hh : PySem.Challenge.rw_pc0029_01.name = PySem.Str.ofString "law" := rfl
  revert hh
  k_fill
  intro hh
  show _ = _
  k_is

end
end Mine

/- P1 -/
namespace Mine
section
variable {w : World} {mean : ExcName → Option Value} {mg mb : Str → Option Value} {k : Nat} {σ : Store} {sc : Scope}

abbrev iab (a : Int) : Int := if a < 0 then -a else a
def cdiv (a b : Int) : Int := -((-a).fdiv b)
def trn (a b : Int) : Int := if (decide (a < 0) == decide (b < 0)) = true then (iab a).fdiv (iab b) else -((iab a).fdiv (iab b))
theorem iab_ne {a : Int} (h : a ≠ 0) : iab a ≠ 0 := by unfold iab; split <;> omega
theorem iab_small {a : Int} (h : Small a) : Small (iab a) := by unfold iab Small at *; split <;> omega

theorem c_ceiling {a b : Int} (hk : 101 ≤ k) (hb : b ≠ 0) (hs : Small b) : CallsV (GG w mean mg mb) k (.ref 70) σ [.int a, .int b] (.int (cdiv a b)) σ := by
  have hh : PySem.Challenge.rw_pc0029_01.name = PySem.Str.ofString "law" := rfl
  have hH : hd.heap_39 w.params = hd.heap_39 w.params := rfl
  revert hh hH
  k_fill
  intro hh hH
  obtain ⟨j, rfl⟩ : ∃ j, k = j + 1 := ⟨k - 1, by omega⟩
  refine' calls_def ?ho ?hcd ?hn ?hl ?hnn ?hb ?hkind ?hnd ?hk ?hco ?hgen ?hcn ?h
  case ho => (show (hd.heap_39 w.params).lookup 70 = _); k_is
  case hcd => (show codeIn (hd.heap_39 w.params) _ _ = _); k_is
  case hn => rfl
  case hl => rfl
  case hnn => decide
  case hb => exact vals2 (fun _ _ => rfl)
  case hkind => decide
  case hnd => decide
  case hk => rfl
  case hco => rfl
  case hgen => rfl
  case hcn => decide
  refine (ex_return (ev_neg (ev_floordiv ?_ ?_ (ev_neg (ev_name rfl rfl rfl rfl)) (ev_name rfl rfl rfl rfl))) ?_)
  · exact hb
  · exact hs
  · rfl

theorem c_truncated {a b : Int} (hk : 101 ≤ k) (hb : b ≠ 0) (hs : Small b) : CallsV (GG w mean mg mb) k (.ref 77) σ [.int a, .int b] (.int (trn a b)) σ := by
  have hh : PySem.Challenge.rw_pc0029_01.name = PySem.Str.ofString "law" := rfl
  have hH : hd.heap_39 w.params = hd.heap_39 w.params := rfl
  revert hh hH
  k_fill
  intro hh hH
  obtain ⟨j, rfl⟩ : ∃ j, k = j + 1 := ⟨k - 1, by omega⟩
  refine' calls_def ?ho ?hcd ?hn ?hl ?hnn ?hb ?hkind ?hnd ?hk ?hco ?hgen ?hcn ?h
  case ho => (show (hd.heap_39 w.params).lookup 77 = _); k_is
  case hcd => (show codeIn (hd.heap_39 w.params) _ _ = _); k_is
  case hn => rfl
  case hl => rfl
  case hnn => decide
  case hb => exact vals2 (fun _ _ => rfl)
  case hkind => decide
  case hnd => decide
  case hk => rfl
  case hco => rfl
  case hgen => rfl
  case hcn => decide
  refine (ex_cons (ex1_assign (ev_floordiv ?_ ?_ (ev_call (gl_abs rfl) keep_builtin (evs_cons (ev_name rfl rfl rfl rfl) evs_nil (fun _ => rfl)) calls_abs (fun _ => rfl) (fun _ => rfl)) (ev_call (gl_abs rfl) keep_builtin (evs_cons (ev_name rfl rfl rfl rfl) evs_nil (fun _ => rfl)) calls_abs (fun _ => rfl) (fun _ => rfl))) (.inl rfl) (fun _ _ => rfl)) (ex_return (ev_ite (tst_compare (ev_compare (ev_name rfl rfl rfl rfl) ev_int cmp_lt (by omega) rfl) (ev_compare (ev_name rfl rfl rfl rfl) ev_int cmp_lt (by omega) rfl) cmp_eq_bool (by omega) rfl) (fun hc => (ev_name rfl rfl rfl rfl)) (fun hc => (ev_neg (ev_name rfl rfl rfl rfl)))) ?_))
  · exact iab_ne hb
  · exact iab_small hs
  · unfold trn; split <;> rfl

theorem c_size_of {a b : Int} (hk : 101 ≤ k) : CallsV (GG w mean mg mb) k (.ref 84) σ [.tup [.int a, .int b]] (.int (max (iab a) (iab b))) σ := by
  have hh : PySem.Challenge.rw_pc0029_01.name = PySem.Str.ofString "law" := rfl
  have hH : hd.heap_39 w.params = hd.heap_39 w.params := rfl
  revert hh hH
  k_fill
  intro hh hH
  obtain ⟨j, rfl⟩ : ∃ j, k = j + 1 := ⟨k - 1, by omega⟩
  refine' calls_def ?ho ?hcd ?hn ?hl ?hnn ?hb ?hkind ?hnd ?hk ?hco ?hgen ?hcn ?h
  case ho => (show (hd.heap_39 w.params).lookup 84 = _); k_is
  case hcd => (show codeIn (hd.heap_39 w.params) _ _ = _); k_is
  case hn => rfl
  case hl => rfl
  case hnn => decide
  case hb => exact vals1 (fun _ => rfl)
  case hkind => decide
  case hnd => decide
  case hk => rfl
  case hco => rfl
  case hgen => rfl
  case hcn => decide
  refine (ex_return (ev_call (gl_max rfl) keep_builtin (evs_cons (ev_call (gl_abs rfl) keep_builtin (evs_cons (ev_item (ev_name rfl rfl rfl rfl) ev_int ⟨by decide, rfl, (Nat.le_of_ble_eq_true rfl)⟩ (fun _ _ => rfl)) evs_nil (fun _ => rfl)) calls_abs (fun _ => rfl) (fun _ => rfl)) (evs_cons (ev_call (gl_abs rfl) keep_builtin (evs_cons (ev_item (ev_name rfl rfl rfl rfl) ev_int ⟨by decide, rfl, (Nat.le_of_ble_eq_true rfl)⟩ (fun _ _ => rfl)) evs_nil (fun _ => rfl)) calls_abs (fun _ => rfl) (fun _ => rfl)) evs_nil (fun _ => rfl)) (fun _ => rfl)) calls_max2 (fun _ => rfl) (fun _ => rfl)) ?_)
  · rfl

theorem c_do_meet {a b c d : Int} (hk : 101 ≤ k) : CallsV (GG w mean mg mb) k (.ref 91) σ [.tup [.int a, .int b], .tup [.int c, .int d]] (.bool (decide (max a c ≤ min b d))) σ := by
  have hh : PySem.Challenge.rw_pc0029_01.name = PySem.Str.ofString "law" := rfl
  have hH : hd.heap_39 w.params = hd.heap_39 w.params := rfl
  revert hh hH
  k_fill
  intro hh hH
  obtain ⟨j, rfl⟩ : ∃ j, k = j + 1 := ⟨k - 1, by omega⟩
  refine' calls_def ?ho ?hcd ?hn ?hl ?hnn ?hb ?hkind ?hnd ?hk ?hco ?hgen ?hcn ?h
  case ho => (show (hd.heap_39 w.params).lookup 91 = _); k_is
  case hcd => (show codeIn (hd.heap_39 w.params) _ _ = _); k_is
  case hn => rfl
  case hl => rfl
  case hnn => decide
  case hb => exact vals2 (fun _ _ => rfl)
  case hkind => decide
  case hnd => decide
  case hk => rfl
  case hco => rfl
  case hgen => rfl
  case hcn => decide
  refine (ex_return (ev_compare (ev_call (gl_max rfl) keep_builtin (evs_cons (ev_item (ev_name rfl rfl rfl rfl) ev_int ⟨by decide, rfl, (Nat.le_of_ble_eq_true rfl)⟩ (fun _ _ => rfl)) (evs_cons (ev_item (ev_name rfl rfl rfl rfl) ev_int ⟨by decide, rfl, (Nat.le_of_ble_eq_true rfl)⟩ (fun _ _ => rfl)) evs_nil (fun _ => rfl)) (fun _ => rfl)) calls_max2 (fun _ => rfl) (fun _ => rfl)) (ev_call (gl_min rfl) keep_builtin (evs_cons (ev_item (ev_name rfl rfl rfl rfl) ev_int ⟨by decide, rfl, (Nat.le_of_ble_eq_true rfl)⟩ (fun _ _ => rfl)) (evs_cons (ev_item (ev_name rfl rfl rfl rfl) ev_int ⟨by decide, rfl, (Nat.le_of_ble_eq_true rfl)⟩ (fun _ _ => rfl)) evs_nil (fun _ => rfl)) (fun _ => rfl)) calls_min2 (fun _ => rfl) (fun _ => rfl)) cmp_le (by omega) rfl) ?_)
  · rfl

theorem c_do_meet_l {a b c d : Int} (hk : 101 ≤ k) : CallsV (GG w mean mg mb) k (.ref 91) σ [.lst [.int a, .int b], .tup [.int c, .int d]] (.bool (decide (max a c ≤ min b d))) σ := by
  have hh : PySem.Challenge.rw_pc0029_01.name = PySem.Str.ofString "law" := rfl
  have hH : hd.heap_39 w.params = hd.heap_39 w.params := rfl
  revert hh hH
  k_fill
  intro hh hH
  obtain ⟨j, rfl⟩ : ∃ j, k = j + 1 := ⟨k - 1, by omega⟩
  refine' calls_def ?ho ?hcd ?hn ?hl ?hnn ?hb ?hkind ?hnd ?hk ?hco ?hgen ?hcn ?h
  case ho => (show (hd.heap_39 w.params).lookup 91 = _); k_is
  case hcd => (show codeIn (hd.heap_39 w.params) _ _ = _); k_is
  case hn => rfl
  case hl => rfl
  case hnn => decide
  case hb => exact vals2 (fun _ _ => rfl)
  case hkind => decide
  case hnd => decide
  case hk => rfl
  case hco => rfl
  case hgen => rfl
  case hcn => decide
  refine (ex_return (ev_compare (ev_call (gl_max rfl) keep_builtin (evs_cons (ev_item (ev_name rfl rfl rfl rfl) ev_int ⟨by decide, rfl, (Nat.le_of_ble_eq_true rfl)⟩ (fun _ _ => rfl)) (evs_cons (ev_item (ev_name rfl rfl rfl rfl) ev_int ⟨by decide, rfl, (Nat.le_of_ble_eq_true rfl)⟩ (fun _ _ => rfl)) evs_nil (fun _ => rfl)) (fun _ => rfl)) calls_max2 (fun _ => rfl) (fun _ => rfl)) (ev_call (gl_min rfl) keep_builtin (evs_cons (ev_item (ev_name rfl rfl rfl rfl) ev_int ⟨by decide, rfl, (Nat.le_of_ble_eq_true rfl)⟩ (fun _ _ => rfl)) (evs_cons (ev_item (ev_name rfl rfl rfl rfl) ev_int ⟨by decide, rfl, (Nat.le_of_ble_eq_true rfl)⟩ (fun _ _ => rfl)) evs_nil (fun _ => rfl)) (fun _ => rfl)) calls_min2 (fun _ => rfl) (fun _ => rfl)) cmp_le (by omega) rfl) ?_)
  · rfl

def dby (y z : Int) : Int × Int := if z = 0 then (-(iab y - 1), iab y - 1) else if 0 < y * z then (y * z, y * z + (iab y - 1)) else (y * z - (iab y - 1), y * z)
theorem c_270_divided_by {y z : Int} (hk : 101 ≤ k) (hy : Small y) (hz : Small z) : CallsV (GG w mean mg mb) k (.ref 253) σ [.inst 270, .int y, .int z] (.tup [.int (dby y z).1, .int (dby y z).2]) σ := by
  have hh : PySem.Challenge.rw_pc0029_01.name = PySem.Str.ofString "law" := rfl
  have hH : hd.heap_39 w.params = hd.heap_39 w.params := rfl
  revert hh hH
  k_fill
  intro hh hH
  obtain ⟨j, rfl⟩ : ∃ j, k = j + 1 := ⟨k - 1, by omega⟩
  refine' calls_def ?ho ?hcd ?hn ?hl ?hnn ?hb ?hkind ?hnd ?hk ?hco ?hgen ?hcn ?h
  case ho => (show (hd.heap_39 w.params).lookup 253 = _); k_is
  case hcd => (show codeIn (hd.heap_39 w.params) _ _ = _); k_is
  case hn => rfl
  case hl => rfl
  case hnn => decide
  case hb => exact vals3 (fun _ _ _ => rfl)
  case hkind => decide
  case hnd => decide
  case hk => rfl
  case hco => rfl
  case hgen => rfl
  case hcn => decide
  refine (ex_cons (ex1_assign (ev_sub (ev_call (gl_abs rfl) keep_builtin (evs_cons (ev_name rfl rfl rfl rfl) evs_nil (fun _ => rfl)) calls_abs (fun _ => rfl) (fun _ => rfl)) ev_int) (.inl rfl) (fun _ _ => rfl)) (ex_if_ret (tst_compare (ev_name rfl rfl rfl rfl) ev_int cmp_eq (by omega) rfl) (fun hc => (ex_return (ev_tuple (evs_cons (ev_neg (ev_name rfl rfl rfl rfl)) (evs_cons (ev_name rfl rfl rfl rfl) evs_nil (fun _ => rfl)) (fun _ => rfl)) (Nat.le_of_ble_eq_true rfl)) ?_)) (fun hc => (ex_return (ev_ite (tst_compare (ev_mul (Small.mulOk ?_ ?_) (ev_name rfl rfl rfl rfl) (ev_name rfl rfl rfl rfl)) ev_int cmp_gt (by omega) rfl) (fun hc => (ev_tuple (evs_cons (ev_mul (Small.mulOk ?_ ?_) (ev_name rfl rfl rfl rfl) (ev_name rfl rfl rfl rfl)) (evs_cons (ev_add (ev_mul (Small.mulOk ?_ ?_) (ev_name rfl rfl rfl rfl) (ev_name rfl rfl rfl rfl)) (ev_name rfl rfl rfl rfl)) evs_nil (fun _ => rfl)) (fun _ => rfl)) (Nat.le_of_ble_eq_true rfl))) (fun hc => (ev_tuple (evs_cons (ev_sub (ev_mul (Small.mulOk ?_ ?_) (ev_name rfl rfl rfl rfl) (ev_name rfl rfl rfl rfl)) (ev_name rfl rfl rfl rfl)) (evs_cons (ev_mul (Small.mulOk ?_ ?_) (ev_name rfl rfl rfl rfl) (ev_name rfl rfl rfl rfl)) evs_nil (fun _ => rfl)) (fun _ => rfl)) (Nat.le_of_ble_eq_true rfl)))) ?_))))
  all_goals first | exact hy | exact hz | skip
  · rw [show dby y z = _ from if_pos (by simpa using hc)]
  · have h0 : ¬ z = 0 := by simpa using hc
    unfold dby
    rw [if_neg h0]
    by_cases h : 0 < y * z <;> simp [h]

theorem c_law_out (hk : 101 ≤ k) : CallsV (GG w mean mg mb) k (.ref 279) σ [] (.int (10 ^ 20)) σ := by
  have hh : PySem.Challenge.rw_pc0029_01.name = PySem.Str.ofString "law" := rfl
  have hH : hd.heap_39 w.params = hd.heap_39 w.params := rfl
  revert hh hH
  k_fill
  intro hh hH
  obtain ⟨j, rfl⟩ : ∃ j, k = j + 1 := ⟨k - 1, by omega⟩
  refine' calls_def ?ho ?hcd ?hn ?hl ?hnn ?hb ?hkind ?hnd ?hk ?hco ?hgen ?hcn ?h
  case ho => (show (hd.heap_39 w.params).lookup 279 = _); k_is
  case hcd => (show codeIn (hd.heap_39 w.params) _ _ = _); k_is
  case hn => rfl
  case hl => rfl
  case hnn => decide
  case hb => exact vals0 rfl
  case hkind => decide
  case hnd => decide
  case hk => rfl
  case hco => rfl
  case hgen => rfl
  case hcn => decide
  refine (ex_return (ev_pow ?_ ?_ ?_ ev_int ev_int) ?_)
  · decide
  · decide
  · decide
  · rfl

theorem c_law_all {a b : Int} (hk : 101 ≤ k) : CallsV (GG w mean mg mb) k (.ref 307) σ [.tup [.int a, .int b]] (.rng a (b + 1)) σ := by
  have hh : PySem.Challenge.rw_pc0029_01.name = PySem.Str.ofString "law" := rfl
  have hH : hd.heap_39 w.params = hd.heap_39 w.params := rfl
  revert hh hH
  k_fill
  intro hh hH
  obtain ⟨j, rfl⟩ : ∃ j, k = j + 1 := ⟨k - 1, by omega⟩
  refine' calls_def ?ho ?hcd ?hn ?hl ?hnn ?hb ?hkind ?hnd ?hk ?hco ?hgen ?hcn ?h
  case ho => (show (hd.heap_39 w.params).lookup 307 = _); k_is
  case hcd => (show codeIn (hd.heap_39 w.params) _ _ = _); k_is
  case hn => rfl
  case hl => rfl
  case hnn => decide
  case hb => exact vals1 (fun _ => rfl)
  case hkind => decide
  case hnd => decide
  case hk => rfl
  case hco => rfl
  case hgen => rfl
  case hcn => decide
  refine (ex_return (ev_call (gl_range rfl) keep_type (evs_cons (ev_item (ev_name rfl rfl rfl rfl) ev_int ⟨by decide, rfl, (Nat.le_of_ble_eq_true rfl)⟩ (fun _ _ => rfl)) (evs_cons (ev_add (ev_item (ev_name rfl rfl rfl rfl) ev_int ⟨by decide, rfl, (Nat.le_of_ble_eq_true rfl)⟩ (fun _ _ => rfl)) ev_int) evs_nil (fun _ => rfl)) (fun _ => rfl)) calls_range2 (fun _ => rfl) (fun _ => rfl)) ?_)
  · rfl

def isq (x y z : Int) : Bool := decide (iab (x - y * z) < iab y) && (x - y * z == 0 || (decide (0 < x - y * z) == decide (0 < x)))
theorem c_law_is_quotient {x y z : Int} (hk : 101 ≤ k) (hy : Small y) (hz : Small z) : CallsV (GG w mean mg mb) k (.ref 314) σ [.int x, .int y, .int z] (.bool (isq x y z)) σ := by
  have hh : PySem.Challenge.rw_pc0029_01.name = PySem.Str.ofString "law" := rfl
  have hH : hd.heap_39 w.params = hd.heap_39 w.params := rfl
  revert hh hH
  k_fill
  intro hh hH
  obtain ⟨j, rfl⟩ : ∃ j, k = j + 1 := ⟨k - 1, by omega⟩
  refine' calls_def ?ho ?hcd ?hn ?hl ?hnn ?hb ?hkind ?hnd ?hk ?hco ?hgen ?hcn ?h
  case ho => (show (hd.heap_39 w.params).lookup 314 = _); k_is
  case hcd => (show codeIn (hd.heap_39 w.params) _ _ = _); k_is
  case hn => rfl
  case hl => rfl
  case hnn => decide
  case hb => exact vals3 (fun _ _ _ => rfl)
  case hkind => decide
  case hnd => decide
  case hk => rfl
  case hco => rfl
  case hgen => rfl
  case hcn => decide
  refine (ex_cons (ex1_assign (ev_sub (ev_name rfl rfl rfl rfl) (ev_mul (Small.mulOk ?_ ?_) (ev_name rfl rfl rfl rfl) (ev_name rfl rfl rfl rfl))) (.inl rfl) (fun _ _ => rfl)) (ex_return (ev_boolop (evAll_and (ev_compare (ev_call (gl_abs rfl) keep_builtin (evs_cons (ev_name rfl rfl rfl rfl) evs_nil (fun _ => rfl)) calls_abs (fun _ => rfl) (fun _ => rfl)) (ev_call (gl_abs rfl) keep_builtin (evs_cons (ev_name rfl rfl rfl rfl) evs_nil (fun _ => rfl)) calls_abs (fun _ => rfl) (fun _ => rfl)) cmp_lt (by omega) rfl) (fun hc => (evAll_one (ev_boolop (evAll_or (ev_compare (ev_name rfl rfl rfl rfl) ev_int cmp_eq (by omega) rfl) (fun hc => (evAll_one (ev_compare (ev_compare (ev_name rfl rfl rfl rfl) ev_int cmp_gt (by omega) rfl) (ev_compare (ev_name rfl rfl rfl rfl) ev_int cmp_gt (by omega) rfl) cmp_eq_bool (by omega) rfl))))))))) ?_))
  · exact hy
  · exact hz
  · rfl

end
end Mine

/- P2 -/
namespace Mine
section
variable {w : World} {mean : ExcName → Option Value} {mg mb : Str → Option Value} {k : Nat} {σ : Store} {sc : Scope}

theorem c_law_step {n c many : Int} {τ : Store} (hk : 101 ≤ k) (hn : 0 ≤ n) (hc0 : 0 ≤ c) (hc9 : c ≤ 1000) (hm : 0 < many) (hm9 : many ≤ 1000) :
    ∃ v n', 0 ≤ v ∧ v < many ∧ 0 ≤ n' ∧ CallsV (GG w mean mg mb) k (.ref 286) ([.int n, .int c] :: τ) [.cell 0, .int many] (.int v) ([.int n', .int (c + 1)] :: τ) := by
  by_cases h : n = 0
  · refine ⟨(5 * (c + 1)).fmod many, n, Int.fmod_nonneg_of_pos _ hm, Int.fmod_lt_of_pos _ hm, hn, ?_⟩
    have hh : PySem.Challenge.rw_pc0029_01.name = PySem.Str.ofString "law" := rfl
    have hH : hd.heap_39 w.params = hd.heap_39 w.params := rfl
    revert hh hH
    k_fill
    intro hh hH
    obtain ⟨j, rfl⟩ : ∃ j, k = j + 1 := ⟨k - 1, by omega⟩
    refine' calls_def ?ho ?hcd ?hn ?hl ?hnn ?hb ?hkind ?hnd ?hk ?hco ?hgen ?hcn ?h
    case ho => (show (hd.heap_39 w.params).lookup 286 = _); k_is
    case hcd => (show codeIn (hd.heap_39 w.params) _ _ = _); k_is
    case hn => rfl
    case hl => rfl
    case hnn => decide
    case hb => exact vals2 (fun _ _ => rfl)
    case hkind => decide
    case hnd => decide
    case hk => rfl
    case hco => rfl
    case hgen => rfl
    case hcn => decide
    refine (ex_cons (ex1_setitem (ev_add (ev_item (ev_name rfl rfl rfl rfl) ev_int ⟨by decide, _, rfl, rfl, (Nat.le_of_ble_eq_true rfl)⟩ (fun _ _ => rfl)) ev_int) (ev_name rfl rfl rfl rfl) ev_int rfl rfl ?_ ?_ (Nat.le_of_ble_eq_true rfl) (fun _ => rfl)) (ex_if_ret (tst_compare (ev_item (ev_name rfl rfl rfl rfl) ev_int ⟨by decide, _, rfl, rfl, (Nat.le_of_ble_eq_true rfl)⟩ (fun _ _ => rfl)) ev_int cmp_eq (by omega) rfl) (fun hc => (ex_return (ev_mod ?_ (ev_mul (Small.mulOk ?_ ?_) ev_int (ev_item (ev_name rfl rfl rfl rfl) ev_int ⟨by decide, _, rfl, rfl, (Nat.le_of_ble_eq_true rfl)⟩ (fun _ _ => rfl))) (ev_name rfl rfl rfl rfl)) ?_)) (fun hc => absurd hc (by simp [h]))))
    · decide
    · (show _ < (2 : Int); decide)
    · omega
    · exact small_of (by decide) (by decide)
    · exact small_of (by omega) (by omega)
    · rfl
  · refine ⟨n.fmod many, n.fdiv many, Int.fmod_nonneg_of_pos _ hm, Int.fmod_lt_of_pos _ hm, Int.fdiv_nonneg hn (by omega), ?_⟩
    have hh : PySem.Challenge.rw_pc0029_01.name = PySem.Str.ofString "law" := rfl
    have hH : hd.heap_39 w.params = hd.heap_39 w.params := rfl
    revert hh hH
    k_fill
    intro hh hH
    obtain ⟨j, rfl⟩ : ∃ j, k = j + 1 := ⟨k - 1, by omega⟩
    refine' calls_def ?ho ?hcd ?hn ?hl ?hnn ?hb ?hkind ?hnd ?hk ?hco ?hgen ?hcn ?h
    case ho => (show (hd.heap_39 w.params).lookup 286 = _); k_is
    case hcd => (show codeIn (hd.heap_39 w.params) _ _ = _); k_is
    case hn => rfl
    case hl => rfl
    case hnn => decide
    case hb => exact vals2 (fun _ _ => rfl)
    case hkind => decide
    case hnd => decide
    case hk => rfl
    case hco => rfl
    case hgen => rfl
    case hcn => decide
    refine (ex_cons (ex1_setitem (ev_add (ev_item (ev_name rfl rfl rfl rfl) ev_int ⟨by decide, _, rfl, rfl, (Nat.le_of_ble_eq_true rfl)⟩ (fun _ _ => rfl)) ev_int) (ev_name rfl rfl rfl rfl) ev_int rfl rfl ?_ ?_ (Nat.le_of_ble_eq_true rfl) (fun _ => rfl)) (ex_skip (Tst.conv (tst_compare (ev_item (ev_name rfl rfl rfl rfl) ev_int ⟨by decide, _, rfl, rfl, (Nat.le_of_ble_eq_true rfl)⟩ (fun _ _ => rfl)) ev_int cmp_eq (by omega) rfl) (by simp [h])) (ex_cons (ex1_assign (ev_mod ?_ (ev_item (ev_name rfl rfl rfl rfl) ev_int ⟨by decide, _, rfl, rfl, (Nat.le_of_ble_eq_true rfl)⟩ (fun _ _ => rfl)) (ev_name rfl rfl rfl rfl)) (.inl rfl) (fun _ _ => rfl)) (ex_cons (ex1_setitem (ev_floordiv ?_ ?_ (ev_item (ev_name rfl rfl rfl rfl) ev_int ⟨by decide, _, rfl, rfl, (Nat.le_of_ble_eq_true rfl)⟩ (fun _ _ => rfl)) (ev_name rfl rfl rfl rfl)) (ev_name rfl rfl rfl rfl) ev_int rfl rfl ?_ ?_ (Nat.le_of_ble_eq_true rfl) (fun _ => rfl)) (ex_return (ev_name rfl rfl rfl rfl) ?_)))))
    · decide
    · (show _ < (2 : Int); decide)
    · omega
    · omega
    · exact small_of (by omega) (by omega)
    · decide
    · (show _ < (2 : Int); decide)
    · rfl

theorem c_law_around {n c m : Int} {τ : Store} (hk : 102 ≤ k) (hn : 0 ≤ n) (hc0 : 0 ≤ c) (hc9 : c ≤ 900) :
    ∃ v u n', 0 ≤ v ∧ v ≤ 2 ∧ 0 ≤ u ∧ u ≤ 2 ∧ 0 ≤ n' ∧ CallsV (GG w mean mg mb) k (.ref 293) ([.int n, .int c] :: τ) [.cell 0, .int m] (.tup [.int (m - v), .int (m + u)]) ([.int n', .int (c + 2)] :: τ) := by
  obtain ⟨v, n₁, a1, a2, a3, C1⟩ := c_law_step (w := w) (mean := mean) (mg := mg) (mb := mb) (k := k - 1) (τ := τ) (many := 3) (by omega) hn hc0 (by omega) (by decide) (by decide)
  obtain ⟨u, n₂, b1, b2, b3, C2⟩ := c_law_step (w := w) (mean := mean) (mg := mg) (mb := mb) (k := k - 1) (τ := τ) (many := 3) (by omega) a3 (c := c + 1) (by omega) (by omega) (by decide) (by decide)
  refine ⟨v, u, n₂, a1, by omega, b1, by omega, b3, ?_⟩
  rw [show c + 1 + 1 = c + 2 by omega] at C2
  have hh : PySem.Challenge.rw_pc0029_01.name = PySem.Str.ofString "law" := rfl
  have hH : hd.heap_39 w.params = hd.heap_39 w.params := rfl
  revert hh hH
  k_fill
  intro hh hH
  obtain ⟨j, rfl⟩ : ∃ j, k = j + 1 := ⟨k - 1, by omega⟩
  refine' calls_def ?ho ?hcd ?hn ?hl ?hnn ?hb ?hkind ?hnd ?hk ?hco ?hgen ?hcn ?h
  case ho => (show (hd.heap_39 w.params).lookup 293 = _); k_is
  case hcd => (show codeIn (hd.heap_39 w.params) _ _ = _); k_is
  case hn => rfl
  case hl => rfl
  case hnn => decide
  case hb => exact vals2 (fun _ _ => rfl)
  case hkind => decide
  case hnd => decide
  case hk => rfl
  case hco => rfl
  case hgen => rfl
  case hcn => decide
  have C1 := C1.le (k' := j) (by omega)
  have C2 := C2.le (k' := j) (by omega)
  refine (ex_cons (ex1_assign (ev_sub (ev_name rfl rfl rfl rfl) (ev_call (gl_law_step rfl) kp_law_step (evs_cons (ev_name rfl rfl rfl rfl) (evs_cons ev_int evs_nil (fun _ => rfl)) (fun _ => rfl)) C1 (fun _ => rfl) (fun _ => rfl))) (.inl rfl) (fun _ _ => rfl)) (ex_return (ev_tuple (evs_cons (ev_name rfl rfl rfl rfl) (evs_cons (ev_add (ev_name rfl rfl rfl rfl) (ev_call (gl_law_step rfl) kp_law_step (evs_cons (ev_name rfl rfl rfl rfl) (evs_cons ev_int evs_nil (fun _ => rfl)) (fun _ => rfl)) C2 (fun _ => rfl) (fun _ => rfl))) evs_nil (fun _ => rfl)) (fun _ => rfl)) (Nat.le_of_ble_eq_true rfl)) ?_))
  · rfl

theorem c_law_great {n c : Int} {τ : Store} (hk : 102 ≤ k) (hn : 0 ≤ n) (hc0 : 0 ≤ c) (hc9 : c ≤ 900) :
    ∃ g n', ((10 ^ 20 ≤ g ∧ g < 10 ^ 20 + 100) ∨ (-(10 ^ 20 + 100) < g ∧ g ≤ -10 ^ 20)) ∧ 0 ≤ n' ∧ CallsV (GG w mean mg mb) k (.ref 300) ([.int n, .int c] :: τ) [.cell 0] (.int g) ([.int n', .int (c + 2)] :: τ) := by
  obtain ⟨v, n₁, a1, a2, a3, C1⟩ := c_law_step (w := w) (mean := mean) (mg := mg) (mb := mb) (k := k - 1) (τ := τ) (many := 100) (by omega) hn hc0 (by omega) (by decide) (by decide)
  obtain ⟨u, n₂, b1, b2, b3, C2⟩ := c_law_step (w := w) (mean := mean) (mg := mg) (mb := mb) (k := k - 1) (τ := τ) (many := 2) (by omega) a3 (c := c + 1) (by omega) (by omega) (by decide) (by decide)
  refine ⟨if (u == 0) = true then 10 ^ 20 + v else 0 - (10 ^ 20 + v), n₂, by split <;> omega, b3, ?_⟩
  rw [show c + 1 + 1 = c + 2 by omega] at C2
  have hh : PySem.Challenge.rw_pc0029_01.name = PySem.Str.ofString "law" := rfl
  have hH : hd.heap_39 w.params = hd.heap_39 w.params := rfl
  revert hh hH
  k_fill
  intro hh hH
  obtain ⟨j, rfl⟩ : ∃ j, k = j + 1 := ⟨k - 1, by omega⟩
  refine' calls_def ?ho ?hcd ?hn ?hl ?hnn ?hb ?hkind ?hnd ?hk ?hco ?hgen ?hcn ?h
  case ho => (show (hd.heap_39 w.params).lookup 300 = _); k_is
  case hcd => (show codeIn (hd.heap_39 w.params) _ _ = _); k_is
  case hn => rfl
  case hl => rfl
  case hnn => decide
  case hb => exact vals1 (fun _ => rfl)
  case hkind => decide
  case hnd => decide
  case hk => rfl
  case hco => rfl
  case hgen => rfl
  case hcn => decide
  have C1 := C1.le (k' := j) (by omega)
  have C2 := C2.le (k' := j) (by omega)
  refine (ex_cons (ex1_assign (ev_add (ev_call0 (gl_law_out rfl) kp_law_out (c_law_out (by omega))) (ev_call (gl_law_step rfl) kp_law_step (evs_cons (ev_name rfl rfl rfl rfl) (evs_cons ev_int evs_nil (fun _ => rfl)) (fun _ => rfl)) C1 (fun _ => rfl) (fun _ => rfl))) (.inl rfl) (fun _ _ => rfl)) (ex_return (ev_ite (tst_compare (ev_call (gl_law_step rfl) kp_law_step (evs_cons (ev_name rfl rfl rfl rfl) (evs_cons ev_int evs_nil (fun _ => rfl)) (fun _ => rfl)) C2 (fun _ => rfl) (fun _ => rfl)) ev_int cmp_eq (by omega) rfl) (fun hc => (ev_name rfl rfl rfl rfl)) (fun hc => (ev_sub ev_int (ev_name rfl rfl rfl rfl)))) ?_))
  · split <;> rfl

end
end Mine

/- P3 -/
namespace Mine
section
variable {w : World} {mean : ExcName → Option Value} {mg mb : Str → Option Value} {k : Nat} {σ : Store} {sc : Scope}

abbrev R3 (a0 b0 a1 b1 a2 b2 : Int) : PV := .lst [.tup [.int a0, .int b0], .tup [.int a1, .int b1], .tup [.int a2, .int b2]]
theorem mn_can_be : Str.ofString "can_be" ∈ methNames := by simp [methNames]
theorem mn_outer : Str.ofString "outer" ∈ methNames := by simp [methNames]
theorem mn_divisors : Str.ofString "divisors" ∈ methNames := by simp [methNames]
theorem mn_divided_by : Str.ofString "divided_by" ∈ methNames := by simp [methNames]
variable {a0 b0 a1 b1 a2 b2 : Int}

theorem c_270_outer_1 (hk : 102 ≤ k) : CallsV (GG w mean mg mb) k (.ref 260) σ [.inst 270, R3 a0 b0 a1 b1 a2 b2, .int 1] (.tup [.int a1, .int b1]) σ := by
  have hh : PySem.Challenge.rw_pc0029_01.name = PySem.Str.ofString "law" := rfl
  have hH : hd.heap_39 w.params = hd.heap_39 w.params := rfl
  revert hh hH
  k_fill
  intro hh hH
  obtain ⟨j, rfl⟩ : ∃ j, k = j + 1 := ⟨k - 1, by omega⟩
  refine' calls_def ?ho ?hcd ?hn ?hl ?hnn ?hb ?hkind ?hnd ?hk ?hco ?hgen ?hcn ?h
  case ho => (show (hd.heap_39 w.params).lookup 260 = _); k_is
  case hcd => (show codeIn (hd.heap_39 w.params) _ _ = _); k_is
  case hn => rfl
  case hl => rfl
  case hnn => decide
  case hb => exact vals3 (fun _ _ _ => rfl)
  case hkind => decide
  case hnd => decide
  case hk => rfl
  case hco => rfl
  case hgen => rfl
  case hcn => decide
  refine (ex_if_ret (tst_compare (ev_name rfl rfl rfl rfl) ev_int cmp_eq (by omega) rfl) (fun hc => (ex_return (ev_item (ev_name rfl rfl rfl rfl) ev_int ⟨by decide, rfl, (Nat.le_of_ble_eq_true rfl)⟩ (fun _ _ => rfl)) ?_)) (fun hc => absurd hc (by decide)))
  · rfl

theorem c_270_outer_2 (hk : 102 ≤ k) : CallsV (GG w mean mg mb) k (.ref 260) σ [.inst 270, R3 a0 b0 a1 b1 a2 b2, .int 2] (.tup [.int (-(max (iab a0) (iab b0))), .int (max (iab a0) (iab b0))]) σ := by
  have hh : PySem.Challenge.rw_pc0029_01.name = PySem.Str.ofString "law" := rfl
  have hH : hd.heap_39 w.params = hd.heap_39 w.params := rfl
  revert hh hH
  k_fill
  intro hh hH
  obtain ⟨j, rfl⟩ : ∃ j, k = j + 1 := ⟨k - 1, by omega⟩
  refine' calls_def ?ho ?hcd ?hn ?hl ?hnn ?hb ?hkind ?hnd ?hk ?hco ?hgen ?hcn ?h
  case ho => (show (hd.heap_39 w.params).lookup 260 = _); k_is
  case hcd => (show codeIn (hd.heap_39 w.params) _ _ = _); k_is
  case hn => rfl
  case hl => rfl
  case hnn => decide
  case hb => exact vals3 (fun _ _ _ => rfl)
  case hkind => decide
  case hnd => decide
  case hk => rfl
  case hco => rfl
  case hgen => rfl
  case hcn => decide
  refine (ex_skip (Tst.conv (tst_compare (ev_name rfl rfl rfl rfl) ev_int cmp_eq (by omega) rfl) rfl) (ex_cons (ex1_assign (ev_if_true (Tst.conv (tst_compare (ev_name rfl rfl rfl rfl) ev_int cmp_eq (by omega) rfl) rfl) (ev_call (gl_size_of rfl) kp_size_of (evs_cons (ev_item (ev_name rfl rfl rfl rfl) ev_int ⟨by decide, rfl, (Nat.le_of_ble_eq_true rfl)⟩ (fun _ _ => rfl)) evs_nil (fun _ => rfl)) (c_size_of (by omega)) (fun _ => rfl) (fun _ => rfl))) (.inl rfl) (fun env h => by cases env; subst h; rfl)) (ex_return (ev_tuple (evs_cons (ev_neg (ev_name rfl rfl rfl rfl)) (evs_cons (ev_name rfl rfl rfl rfl) evs_nil (fun _ => rfl)) (fun _ => rfl)) (Nat.le_of_ble_eq_true rfl)) ?_)))
  · rfl

def qmost (a1 b1 a2 b2 : Int) : Int := (max (iab a2) (iab b2) + 1) * max (iab a1) (iab b1) - 1
theorem c_270_outer_0 (hk : 102 ≤ k) (h1 : Small (max (iab a2) (iab b2) + 1)) (h2 : Small (max (iab a1) (iab b1))) : CallsV (GG w mean mg mb) k (.ref 260) σ [.inst 270, R3 a0 b0 a1 b1 a2 b2, .int 0] (.tup [.int (-(qmost a1 b1 a2 b2)), .int (qmost a1 b1 a2 b2)]) σ := by
  have hh : PySem.Challenge.rw_pc0029_01.name = PySem.Str.ofString "law" := rfl
  have hH : hd.heap_39 w.params = hd.heap_39 w.params := rfl
  revert hh hH
  k_fill
  intro hh hH
  obtain ⟨j, rfl⟩ : ∃ j, k = j + 1 := ⟨k - 1, by omega⟩
  refine' calls_def ?ho ?hcd ?hn ?hl ?hnn ?hb ?hkind ?hnd ?hk ?hco ?hgen ?hcn ?h
  case ho => (show (hd.heap_39 w.params).lookup 260 = _); k_is
  case hcd => (show codeIn (hd.heap_39 w.params) _ _ = _); k_is
  case hn => rfl
  case hl => rfl
  case hnn => decide
  case hb => exact vals3 (fun _ _ _ => rfl)
  case hkind => decide
  case hnd => decide
  case hk => rfl
  case hco => rfl
  case hgen => rfl
  case hcn => decide
  refine (ex_skip (Tst.conv (tst_compare (ev_name rfl rfl rfl rfl) ev_int cmp_eq (by omega) rfl) rfl) (ex_cons (ex1_assign (ev_if_false (Tst.conv (tst_compare (ev_name rfl rfl rfl rfl) ev_int cmp_eq (by omega) rfl) rfl) (ev_sub (ev_mul (Small.mulOk ?_ ?_) (ev_add (ev_call (gl_size_of rfl) kp_size_of (evs_cons (ev_item (ev_name rfl rfl rfl rfl) ev_int ⟨by decide, rfl, (Nat.le_of_ble_eq_true rfl)⟩ (fun _ _ => rfl)) evs_nil (fun _ => rfl)) (c_size_of (by omega)) (fun _ => rfl) (fun _ => rfl)) ev_int) (ev_call (gl_size_of rfl) kp_size_of (evs_cons (ev_item (ev_name rfl rfl rfl rfl) ev_int ⟨by decide, rfl, (Nat.le_of_ble_eq_true rfl)⟩ (fun _ _ => rfl)) evs_nil (fun _ => rfl)) (c_size_of (by omega)) (fun _ => rfl) (fun _ => rfl))) ev_int)) (.inl rfl) (fun env h => by cases env; subst h; rfl)) (ex_return (ev_tuple (evs_cons (ev_neg (ev_name rfl rfl rfl rfl)) (evs_cons (ev_name rfl rfl rfl rfl) evs_nil (fun _ => rfl)) (fun _ => rfl)) (Nat.le_of_ble_eq_true rfl)) ?_)))
  · exact h1
  · exact h2
  · rfl

def far0 (a0 b0 : Int) : Int := max (iab a0) (iab b0) + 1
def divs (a0 b0 a1 b1 : Int) : List Int := if min b1 (far0 a0 b0) < max a1 (-far0 a0 b0) then [if 0 < a1 then a1 else b1] else (rngL (max a1 (-far0 a0 b0)) (min b1 (far0 a0 b0) + 1)).filter (· != 0)
theorem c_270_divisors (hk : 102 ≤ k) (hl : min b1 (far0 a0 b0) - max a1 (-far0 a0 b0) ≤ 1000) : CallsV (GG w mean mg mb) k (.ref 213) σ [.inst 270, R3 a0 b0 a1 b1 a2 b2] (.lst ((divs a0 b0 a1 b1).map .int)) σ := by
  have hh : PySem.Challenge.rw_pc0029_01.name = PySem.Str.ofString "law" := rfl
  have hH : hd.heap_39 w.params = hd.heap_39 w.params := rfl
  revert hh hH
  k_fill
  intro hh hH
  obtain ⟨j, rfl⟩ : ∃ j, k = j + 1 := ⟨k - 1, by omega⟩
  refine' calls_def ?ho ?hcd ?hn ?hl ?hnn ?hb ?hkind ?hnd ?hk ?hco ?hgen ?hcn ?h
  case ho => (show (hd.heap_39 w.params).lookup 213 = _); k_is
  case hcd => (show codeIn (hd.heap_39 w.params) _ _ = _); k_is
  case hn => rfl
  case hl => rfl
  case hnn => decide
  case hb => exact vals2 (fun _ _ => rfl)
  case hkind => decide
  case hnd => decide
  case hk => rfl
  case hco => rfl
  case hgen => rfl
  case hcn => decide
  refine (ex_cons (ex1_assign_tuple (ev_tuple (evs_cons (ev_add (ev_call (gl_size_of rfl) kp_size_of (evs_cons (ev_item (ev_name rfl rfl rfl rfl) ev_int ⟨by decide, rfl, (Nat.le_of_ble_eq_true rfl)⟩ (fun _ _ => rfl)) evs_nil (fun _ => rfl)) (c_size_of (by omega)) (fun _ => rfl) (fun _ => rfl)) ev_int) (evs_cons (ev_item (ev_name rfl rfl rfl rfl) ev_int ⟨by decide, rfl, (Nat.le_of_ble_eq_true rfl)⟩ (fun _ _ => rfl)) evs_nil (fun _ => rfl)) (fun _ => rfl)) (Nat.le_of_ble_eq_true rfl)) (asg_tuple (asgs_cons (asg_name (.inl rfl)) (asgs_cons (asg_tuple (asgs_cons (asg_name (.inl rfl)) (asgs_cons (asg_name (.inl rfl)) asgs_nil (fun _ => rfl)) (fun _ => rfl)) (fun _ => rfl) (fun _ => rfl)) asgs_nil (fun _ => rfl)) (fun _ => rfl)) (fun _ => rfl) (fun _ => rfl)) (fun _ => rfl) (fun env h => by cases env; subst h; rfl)) (ex_cons (ex1_swap (xs := [Str.ofString "first", Str.ofString "last"]) (ev_tuple (evs_cons (ev_call (gl_max rfl) keep_builtin (evs_cons (ev_name rfl rfl rfl rfl) (evs_cons (ev_neg (ev_name rfl rfl rfl rfl)) evs_nil (fun _ => rfl)) (fun _ => rfl)) calls_max2 (fun _ => rfl) (fun _ => rfl)) (evs_cons (ev_call (gl_min rfl) keep_builtin (evs_cons (ev_name rfl rfl rfl rfl) (evs_cons (ev_name rfl rfl rfl rfl) evs_nil (fun _ => rfl)) (fun _ => rfl)) calls_min2 (fun _ => rfl) (fun _ => rfl)) evs_nil (fun _ => rfl)) (fun _ => rfl)) (Nat.le_of_ble_eq_true rfl)) (swp_cons (.inl rfl) (swp_cons (.inl rfl) swp_nil)) rfl (fun _ => rfl) (fun env h => by cases env; subst h; rfl)) (ex_if_ret (tst_compare (ev_name rfl rfl rfl rfl) (ev_name rfl rfl rfl rfl) cmp_gt (by omega) rfl) (fun hc => (ex_return (ev_list (evs_cons (ev_ite (tst_compare (ev_name rfl rfl rfl rfl) ev_int cmp_gt (by omega) rfl) (fun hc => (ev_name rfl rfl rfl rfl)) (fun hc => (ev_name rfl rfl rfl rfl))) evs_nil (fun _ => rfl)) (Nat.le_of_ble_eq_true rfl)) ?_)) (fun hc => (ex_return (ev_listcomp rfl ⟨rfl, by decide, by decide, by decide, rfl⟩ (ev_call (gl_range rfl) keep_type (evs_cons (ev_name rfl rfl rfl rfl) (evs_cons (ev_add (ev_name rfl rfl rfl rfl) ev_int) evs_nil (fun _ => rfl)) (fun _ => rfl)) calls_range2 (fun _ => rfl) (fun _ => rfl)) itemsOf_rng (clL (fun y : Int => y != 0) (fun y => PV.int y) rfl rfl rfl _ (fun y hy => ⟨_, asg_name (.inl rfl), tsts_one (tst_compare (ev_name rfl rfl rfl rfl) ev_int cmp_ne (by omega) rfl), fun _ => (ev_name rfl rfl rfl rfl), by exact ext1 rfl ext0⟩)) ?_ (fun _ _ => rfl)) ?_)))))
  · have hc : min b1 (far0 a0 b0) < max a1 (-far0 a0 b0) := by simpa [far0] using hc
    unfold divs
    rw [if_pos hc]
    by_cases h : 0 < a1 <;> simp [h]
  · refine Nat.le_trans (by rw [List.length_map]; exact List.length_filter_le _ _) ?_
    rw [length_rngL]
    unfold far0 at hl
    omega
  · have hc : ¬ min b1 (far0 a0 b0) < max a1 (-far0 a0 b0) := by simpa [far0] using hc
    unfold divs
    rw [if_neg hc]
    rfl

end
end Mine

/- P4 -/
namespace Mine
section
variable {w : World} {mean : ExcName → Option Value} {mg mb : Str → Option Value} {k : Nat} {σ : Store} {sc : Scope}

variable {a0 b0 a1 b1 a2 b2 v : Int}
theorem any_filter {α β : Type} {l : List α} {t : α → Bool} {f : α → β} : (!((l.filter t).map f).isEmpty) = l.any t := by
  induction l with
  | nil => rfl
  | cons x l ih =>
    rw [List.filter_cons, List.any_cons]
    cases hx : t x with
    | true => simp
    | false => simpa using ih
theorem len_filter {α β : Type} {l : List α} {t : α → Bool} {f : α → β} {n : Nat} (h : l.length ≤ n) : ((l.filter t).map f).length ≤ n := by
  rw [List.length_map]; exact Nat.le_trans (List.length_filter_le _ _) h
theorem divs_len (h : min b1 (far0 a0 b0) - max a1 (-far0 a0 b0) ≤ 1000) : (divs a0 b0 a1 b1).length ≤ 1001 := by
  unfold divs
  split
  · exact (by decide : 1 ≤ 1001)
  · refine Nat.le_trans (List.length_filter_le _ _) ?_
    rw [length_rngL]; omega

theorem c_270_can_be_0 (hk : 103 ≤ k) (hl : min b1 (far0 a0 b0) - max a1 (-far0 a0 b0) ≤ 1000) (H : ∀ y ∈ divs a0 b0 a1 b1, y ≠ 0 ∧ Small y) :
    CallsV (GG w mean mg mb) k (.ref 246) σ [.inst 270, R3 a0 b0 a1 b1 a2 b2, .int 0, .int v] (.bool ((divs a0 b0 a1 b1).any fun y => decide (max a2 (trn v y) ≤ min b2 (trn v y)))) σ := by
  have hh : PySem.Challenge.rw_pc0029_01.name = PySem.Str.ofString "law" := rfl
  have hH : hd.heap_39 w.params = hd.heap_39 w.params := rfl
  revert hh hH
  k_fill
  intro hh hH
  obtain ⟨j, rfl⟩ : ∃ j, k = j + 1 := ⟨k - 1, by omega⟩
  refine' calls_def ?ho ?hcd ?hn ?hl ?hnn ?hb ?hkind ?hnd ?hk ?hco ?hgen ?hcn ?h
  case ho => (show (hd.heap_39 w.params).lookup 246 = _); k_is
  case hcd => (show codeIn (hd.heap_39 w.params) _ _ = _); k_is
  case hn => rfl
  case hl => rfl
  case hnn => decide
  case hb => exact vals4 (fun _ _ _ _ => rfl)
  case hkind => decide
  case hnd => decide
  case hk => rfl
  case hco => rfl
  case hgen => rfl
  case hcn => decide
  refine (ex_if_ret (tst_compare (ev_name rfl rfl rfl rfl) ev_int cmp_eq (by omega) rfl) (fun hc => (ex_return (ev_compare (ev_listcomp rfl ⟨rfl, by decide, by decide, by decide, rfl⟩ (ev_mcall (ev_name rfl rfl rfl rfl) pg_270_divisors fi_270_divisors fn_270_divisors ke_270_divisors mn_divisors (evs_cons (ev_name rfl rfl rfl rfl) evs_nil (fun _ => rfl)) (c_270_divisors (by omega) ?_) rfl (fun _ => rfl) (fun _ => rfl) (fun _ => rfl)) rfl (clL  (fun y : Int => decide (max a2 (trn v y) ≤ min b2 (trn v y))) (fun y => PV.int y) rfl rfl rfl _ (fun y hy => ⟨_, (asg_name (.inl rfl)), (tsts_one (by exact (tst_plain (ev_call (gl_do_meet rfl) kp_do_meet (evs_cons (ev_item (ev_name rfl rfl rfl rfl) ev_int ⟨by decide, rfl, (Nat.le_of_ble_eq_true rfl)⟩ (fun _ _ => rfl)) (evs_cons (ev_tuple (evs_cons (ev_call (gl_truncated rfl) kp_truncated (evs_cons (ev_name rfl rfl rfl rfl) (evs_cons (ev_name rfl rfl rfl rfl) evs_nil (fun _ => rfl)) (fun _ => rfl)) (c_truncated (by omega) (H y hy).1 (H y hy).2) (fun _ => rfl) (fun _ => rfl)) (evs_cons (ev_call (gl_truncated rfl) kp_truncated (evs_cons (ev_name rfl rfl rfl rfl) (evs_cons (ev_name rfl rfl rfl rfl) evs_nil (fun _ => rfl)) (fun _ => rfl)) (c_truncated (by omega) (H y hy).1 (H y hy).2) (fun _ => rfl) (fun _ => rfl)) evs_nil (fun _ => rfl)) (fun _ => rfl)) (Nat.le_of_ble_eq_true rfl)) evs_nil (fun _ => rfl)) (fun _ => rfl)) (c_do_meet (by omega)) (fun _ => rfl) (fun _ => rfl)) (fun _ _ => rfl)))), fun hb => (by exact (ev_name rfl rfl rfl rfl)), by exact ext1 rfl ext0⟩)) ?_ (fun _ _ => rfl)) (ev_list evs_nil (Nat.le_of_ble_eq_true rfl)) cmp_ne_nil (by omega) rfl) ?_)) (fun hc => absurd hc (by decide)))
  · exact hl
  · exact Nat.le_trans (len_filter (divs_len hl)) (by decide)
  · rw [any_filter]

def qcb1 (a0 b0 a2 b2 v : Int) : Bool := if v = 0 then false else decide (max (min (trn a0 v) (trn b0 v)) a2 ≤ min (max (trn a0 v) (trn b0 v)) b2)
theorem c_270_can_be_1 (hk : 103 ≤ k) (hs : Small v) :
    CallsV (GG w mean mg mb) k (.ref 246) σ [.inst 270, R3 a0 b0 a1 b1 a2 b2, .int 1, .int v] (.bool (qcb1 a0 b0 a2 b2 v)) σ := by
  have hh : PySem.Challenge.rw_pc0029_01.name = PySem.Str.ofString "law" := rfl
  have hH : hd.heap_39 w.params = hd.heap_39 w.params := rfl
  revert hh hH
  k_fill
  intro hh hH
  obtain ⟨j, rfl⟩ : ∃ j, k = j + 1 := ⟨k - 1, by omega⟩
  refine' calls_def ?ho ?hcd ?hn ?hl ?hnn ?hb ?hkind ?hnd ?hk ?hco ?hgen ?hcn ?h
  case ho => (show (hd.heap_39 w.params).lookup 246 = _); k_is
  case hcd => (show codeIn (hd.heap_39 w.params) _ _ = _); k_is
  case hn => rfl
  case hl => rfl
  case hnn => decide
  case hb => exact vals4 (fun _ _ _ _ => rfl)
  case hkind => decide
  case hnd => decide
  case hk => rfl
  case hco => rfl
  case hgen => rfl
  case hcn => decide
  by_cases h : v = 0
  · refine (ex_skip (Tst.conv (tst_compare (ev_name rfl rfl rfl rfl) ev_int cmp_eq (by omega) rfl) rfl) (ex_if_ret (tst_compare (ev_name rfl rfl rfl rfl) ev_int cmp_eq (by omega) rfl) (fun hc => (ex_cons (ex1_assign (ev_if_false (Tst.conv (tst_compare (ev_name rfl rfl rfl rfl) ev_int cmp_ne (by omega) rfl) (by simp [h])) (ev_list (evs_cons ev_int (evs_cons ev_int evs_nil (fun _ => rfl)) (fun _ => rfl)) (Nat.le_of_ble_eq_true rfl))) (.inl rfl) (fun env h => by cases env; subst h; rfl)) (ex_return (ev_call (gl_do_meet rfl) kp_do_meet (evs_cons (ev_name rfl rfl rfl rfl) (evs_cons (ev_item (ev_name rfl rfl rfl rfl) ev_int ⟨by decide, rfl, (Nat.le_of_ble_eq_true rfl)⟩ (fun _ _ => rfl)) evs_nil (fun _ => rfl)) (fun _ => rfl)) (c_do_meet_l (by omega)) (fun _ => rfl) (fun _ => rfl)) ?_))) (fun hc => absurd hc (by decide))))
    · unfold qcb1
      rw [if_pos h]
      simp only [PV.bool.injEq, decide_eq_false_iff_not]
      omega
  · refine (ex_skip (Tst.conv (tst_compare (ev_name rfl rfl rfl rfl) ev_int cmp_eq (by omega) rfl) rfl) (ex_if_ret (tst_compare (ev_name rfl rfl rfl rfl) ev_int cmp_eq (by omega) rfl) (fun hc => (ex_cons (ex1_assign (ev_if_true (Tst.conv (tst_compare (ev_name rfl rfl rfl rfl) ev_int cmp_ne (by omega) rfl) (by simp [h])) (ev_call (gl_sorted rfl) keep_builtin (evs_cons (by exact Run.conv (ev_listcomp rfl ⟨rfl, by decide, by decide, by decide, rfl⟩ (Run.conv (ev_item (ev_name rfl rfl rfl rfl) ev_int ⟨by decide, rfl, (Nat.le_of_ble_eq_true rfl)⟩ (fun _ _ => rfl)) (rfl : PV.tup [PV.int a0, PV.int b0] = PV.tup ([a0, b0].map PV.int))) rfl (clL (g := PV.int) (fun x : Int => true) (fun x => PV.int (trn x v)) rfl rfl rfl [a0, b0] (fun x hy => ⟨_, (asg_name (.inl rfl)), tsts_nil, fun hb => (by exact (ev_call (gl_truncated rfl) kp_truncated (evs_cons (ev_name rfl rfl rfl rfl) (evs_cons (ev_name rfl rfl rfl rfl) evs_nil (fun _ => rfl)) (fun _ => rfl)) (c_truncated (by omega) h hs) (fun _ => rfl) (fun _ => rfl))), by exact ext1 rfl ext0⟩)) (Nat.le_of_ble_eq_true rfl) (fun _ _ => rfl)) (rfl : PV.lst (([a0, b0].filter (fun x : Int => true)).map (fun x => PV.int (trn x v))) = PV.lst [.int (trn a0 v), .int (trn b0 v)])) evs_nil (fun _ => rfl)) calls_sorted2 (fun _ => rfl) (fun _ => rfl))) (.inl rfl) (fun env h => by cases env; subst h; rfl)) (ex_return (ev_call (gl_do_meet rfl) kp_do_meet (evs_cons (ev_name rfl rfl rfl rfl) (evs_cons (ev_item (ev_name rfl rfl rfl rfl) ev_int ⟨by decide, rfl, (Nat.le_of_ble_eq_true rfl)⟩ (fun _ _ => rfl)) evs_nil (fun _ => rfl)) (fun _ => rfl)) (c_do_meet_l (by omega)) (fun _ => rfl) (fun _ => rfl)) ?_))) (fun hc => absurd hc (by decide))))
    · unfold qcb1
      rw [if_neg h]

theorem c_270_can_be_2 (hk : 103 ≤ k) (hl : min b1 (far0 a0 b0) - max a1 (-far0 a0 b0) ≤ 1000) (H : ∀ y ∈ divs a0 b0 a1 b1, Small y) (hv : Small v) :
    CallsV (GG w mean mg mb) k (.ref 246) σ [.inst 270, R3 a0 b0 a1 b1 a2 b2, .int 2, .int v] (.bool ((divs a0 b0 a1 b1).any fun y => decide (max (dby y v).1 a0 ≤ min (dby y v).2 b0))) σ := by
  have hh : PySem.Challenge.rw_pc0029_01.name = PySem.Str.ofString "law" := rfl
  have hH : hd.heap_39 w.params = hd.heap_39 w.params := rfl
  revert hh hH
  k_fill
  intro hh hH
  obtain ⟨j, rfl⟩ : ∃ j, k = j + 1 := ⟨k - 1, by omega⟩
  refine' calls_def ?ho ?hcd ?hn ?hl ?hnn ?hb ?hkind ?hnd ?hk ?hco ?hgen ?hcn ?h
  case ho => (show (hd.heap_39 w.params).lookup 246 = _); k_is
  case hcd => (show codeIn (hd.heap_39 w.params) _ _ = _); k_is
  case hn => rfl
  case hl => rfl
  case hnn => decide
  case hb => exact vals4 (fun _ _ _ _ => rfl)
  case hkind => decide
  case hnd => decide
  case hk => rfl
  case hco => rfl
  case hgen => rfl
  case hcn => decide
  refine (ex_skip (Tst.conv (tst_compare (ev_name rfl rfl rfl rfl) ev_int cmp_eq (by omega) rfl) rfl) (ex_skip (Tst.conv (tst_compare (ev_name rfl rfl rfl rfl) ev_int cmp_eq (by omega) rfl) rfl) (ex_return (ev_compare (ev_listcomp rfl ⟨rfl, by decide, by decide, by decide, rfl⟩ (ev_mcall (ev_name rfl rfl rfl rfl) pg_270_divisors fi_270_divisors fn_270_divisors ke_270_divisors mn_divisors (evs_cons (ev_name rfl rfl rfl rfl) evs_nil (fun _ => rfl)) (c_270_divisors (by omega) ?_) rfl (fun _ => rfl) (fun _ => rfl) (fun _ => rfl)) rfl (clL  (fun y : Int => decide (max (dby y v).1 a0 ≤ min (dby y v).2 b0)) (fun y => PV.int y) rfl rfl rfl _ (fun y hy => ⟨_, (asg_name (.inl rfl)), (tsts_one (by exact (tst_plain (ev_call (gl_do_meet rfl) kp_do_meet (evs_cons (ev_mcall (ev_name rfl rfl rfl rfl) pg_270_divided_by fi_270_divided_by fn_270_divided_by ke_270_divided_by mn_divided_by (evs_cons (ev_name rfl rfl rfl rfl) (evs_cons (ev_name rfl rfl rfl rfl) evs_nil (fun _ => rfl)) (fun _ => rfl)) (c_270_divided_by (by omega) (H y hy) hv) rfl (fun _ => rfl) (fun _ => rfl) (fun _ => rfl)) (evs_cons (ev_item (ev_name rfl rfl rfl rfl) ev_int ⟨by decide, rfl, (Nat.le_of_ble_eq_true rfl)⟩ (fun _ _ => rfl)) evs_nil (fun _ => rfl)) (fun _ => rfl)) (c_do_meet (by omega)) (fun _ => rfl) (fun _ => rfl)) (fun _ _ => rfl)))), fun hb => (by exact (ev_name rfl rfl rfl rfl)), by exact ext1 rfl ext0⟩)) ?_ (fun _ _ => rfl)) (ev_list evs_nil (Nat.le_of_ble_eq_true rfl)) cmp_ne_nil (by omega) rfl) ?_)))
  · exact hl
  · exact Nat.le_trans (len_filter (divs_len hl)) (by decide)
  · rw [any_filter]

end
end Mine

/- P5 -/
namespace Mine
section
variable {w : World} {mean : ExcName → Option Value} {mg mb : Str → Option Value} {k : Nat} {σ : Store} {sc : Scope}

variable {a0 b0 a1 b1 a2 b2 v : Int}
def tcb (lo hi la lb v : Int) : Bool := if v = 0 then decide (lo ≤ 0) && decide (0 ≤ hi) else if 0 < v then decide (max (cdiv lo v) la ≤ min (hi.fdiv v) lb) else decide (max (cdiv hi v) la ≤ min (lo.fdiv v) lb)

theorem c_199_can_be_0 (hk : 103 ≤ k) (hs : Small v) : CallsV (GG w mean mg mb) k (.ref 184) σ [.inst 199, R3 a0 b0 a1 b1 a2 b2, .int 0, .int v] (.bool (tcb a2 b2 a1 b1 v)) σ := by
  have hh : PySem.Challenge.rw_pc0029_01.name = PySem.Str.ofString "law" := rfl
  have hH : hd.heap_39 w.params = hd.heap_39 w.params := rfl
  revert hh hH
  k_fill
  intro hh hH
  obtain ⟨j, rfl⟩ : ∃ j, k = j + 1 := ⟨k - 1, by omega⟩
  refine' calls_def ?ho ?hcd ?hn ?hl ?hnn ?hb ?hkind ?hnd ?hk ?hco ?hgen ?hcn ?h
  case ho => (show (hd.heap_39 w.params).lookup 184 = _); k_is
  case hcd => (show codeIn (hd.heap_39 w.params) _ _ = _); k_is
  case hn => rfl
  case hl => rfl
  case hnn => decide
  case hb => exact vals4 (fun _ _ _ _ => rfl)
  case hkind => decide
  case hnd => decide
  case hk => rfl
  case hco => rfl
  case hgen => rfl
  case hcn => decide
  by_cases h : v = 0
  · refine (ex_if_ret (tst_compare (ev_name rfl rfl rfl rfl) ev_int cmp_lt (by omega) rfl) (fun hc => (ex_cons (ex1_assign_tuple (ev_tuple (evs_cons (ev_item (ev_name rfl rfl rfl rfl) (ev_sub ev_int (ev_name rfl rfl rfl rfl)) ⟨by decide, rfl, (Nat.le_of_ble_eq_true rfl)⟩ (fun _ _ => rfl)) (evs_cons (ev_item (ev_name rfl rfl rfl rfl) ev_int ⟨by decide, rfl, (Nat.le_of_ble_eq_true rfl)⟩ (fun _ _ => rfl)) evs_nil (fun _ => rfl)) (fun _ => rfl)) (Nat.le_of_ble_eq_true rfl)) (asg_tuple (asgs_cons (asg_name (.inl rfl)) (asgs_cons (asg_tuple (asgs_cons (asg_name (.inl rfl)) (asgs_cons (asg_name (.inl rfl)) asgs_nil (fun _ => rfl)) (fun _ => rfl)) (fun _ => rfl) (fun _ => rfl)) asgs_nil (fun _ => rfl)) (fun _ => rfl)) (fun _ => rfl) (fun _ => rfl)) (fun _ => rfl) (fun env h => by cases env; subst h; rfl)) (ex_if_ret (tst_compare (ev_name rfl rfl rfl rfl) ev_int cmp_eq (by omega) rfl) (fun hc => (ex_return (ev_chain (ev_name rfl rfl rfl rfl) ev_int cmp_le (ev_name rfl rfl rfl rfl) cmp_le (by omega) rfl) ?_)) (fun hc => absurd hc (by simp [h]))))) (fun hc => absurd hc (by decide)))
    · unfold tcb; rw [if_pos h]
  · by_cases h' : 0 < v
    · refine (ex_if_ret (tst_compare (ev_name rfl rfl rfl rfl) ev_int cmp_lt (by omega) rfl) (fun hc => (ex_cons (ex1_assign_tuple (ev_tuple (evs_cons (ev_item (ev_name rfl rfl rfl rfl) (ev_sub ev_int (ev_name rfl rfl rfl rfl)) ⟨by decide, rfl, (Nat.le_of_ble_eq_true rfl)⟩ (fun _ _ => rfl)) (evs_cons (ev_item (ev_name rfl rfl rfl rfl) ev_int ⟨by decide, rfl, (Nat.le_of_ble_eq_true rfl)⟩ (fun _ _ => rfl)) evs_nil (fun _ => rfl)) (fun _ => rfl)) (Nat.le_of_ble_eq_true rfl)) (asg_tuple (asgs_cons (asg_name (.inl rfl)) (asgs_cons (asg_tuple (asgs_cons (asg_name (.inl rfl)) (asgs_cons (asg_name (.inl rfl)) asgs_nil (fun _ => rfl)) (fun _ => rfl)) (fun _ => rfl) (fun _ => rfl)) asgs_nil (fun _ => rfl)) (fun _ => rfl)) (fun _ => rfl) (fun _ => rfl)) (fun _ => rfl) (fun env h => by cases env; subst h; rfl)) (ex_skip (Tst.conv (tst_compare (ev_name rfl rfl rfl rfl) ev_int cmp_eq (by omega) rfl) (by simp [h])) (ex_cons (ex1_assign (ev_if_true (Tst.conv (tst_compare (ev_name rfl rfl rfl rfl) ev_int cmp_gt (by omega) rfl) (by simp [h'])) (ev_tuple (evs_cons (ev_call (gl_ceiling rfl) kp_ceiling (evs_cons (ev_name rfl rfl rfl rfl) (evs_cons (ev_name rfl rfl rfl rfl) evs_nil (fun _ => rfl)) (fun _ => rfl)) (c_ceiling (by omega) h hs) (fun _ => rfl) (fun _ => rfl)) (evs_cons (ev_floordiv h hs (ev_name rfl rfl rfl rfl) (ev_name rfl rfl rfl rfl)) evs_nil (fun _ => rfl)) (fun _ => rfl)) (Nat.le_of_ble_eq_true rfl))) (.inl rfl) (fun env h => by cases env; subst h; rfl)) (ex_return (ev_call (gl_do_meet rfl) kp_do_meet (evs_cons (ev_name rfl rfl rfl rfl) (evs_cons (ev_name rfl rfl rfl rfl) evs_nil (fun _ => rfl)) (fun _ => rfl)) (c_do_meet (by omega)) (fun _ => rfl) (fun _ => rfl)) ?_))))) (fun hc => absurd hc (by decide)))
      · unfold tcb; rw [if_neg h, if_pos h']
    · refine (ex_if_ret (tst_compare (ev_name rfl rfl rfl rfl) ev_int cmp_lt (by omega) rfl) (fun hc => (ex_cons (ex1_assign_tuple (ev_tuple (evs_cons (ev_item (ev_name rfl rfl rfl rfl) (ev_sub ev_int (ev_name rfl rfl rfl rfl)) ⟨by decide, rfl, (Nat.le_of_ble_eq_true rfl)⟩ (fun _ _ => rfl)) (evs_cons (ev_item (ev_name rfl rfl rfl rfl) ev_int ⟨by decide, rfl, (Nat.le_of_ble_eq_true rfl)⟩ (fun _ _ => rfl)) evs_nil (fun _ => rfl)) (fun _ => rfl)) (Nat.le_of_ble_eq_true rfl)) (asg_tuple (asgs_cons (asg_name (.inl rfl)) (asgs_cons (asg_tuple (asgs_cons (asg_name (.inl rfl)) (asgs_cons (asg_name (.inl rfl)) asgs_nil (fun _ => rfl)) (fun _ => rfl)) (fun _ => rfl) (fun _ => rfl)) asgs_nil (fun _ => rfl)) (fun _ => rfl)) (fun _ => rfl) (fun _ => rfl)) (fun _ => rfl) (fun env h => by cases env; subst h; rfl)) (ex_skip (Tst.conv (tst_compare (ev_name rfl rfl rfl rfl) ev_int cmp_eq (by omega) rfl) (by simp [h])) (ex_cons (ex1_assign (ev_if_false (Tst.conv (tst_compare (ev_name rfl rfl rfl rfl) ev_int cmp_gt (by omega) rfl) (by simp; omega)) (ev_tuple (evs_cons (ev_call (gl_ceiling rfl) kp_ceiling (evs_cons (ev_name rfl rfl rfl rfl) (evs_cons (ev_name rfl rfl rfl rfl) evs_nil (fun _ => rfl)) (fun _ => rfl)) (c_ceiling (by omega) h hs) (fun _ => rfl) (fun _ => rfl)) (evs_cons (ev_floordiv h hs (ev_name rfl rfl rfl rfl) (ev_name rfl rfl rfl rfl)) evs_nil (fun _ => rfl)) (fun _ => rfl)) (Nat.le_of_ble_eq_true rfl))) (.inl rfl) (fun env h => by cases env; subst h; rfl)) (ex_return (ev_call (gl_do_meet rfl) kp_do_meet (evs_cons (ev_name rfl rfl rfl rfl) (evs_cons (ev_name rfl rfl rfl rfl) evs_nil (fun _ => rfl)) (fun _ => rfl)) (c_do_meet (by omega)) (fun _ => rfl) (fun _ => rfl)) ?_))))) (fun hc => absurd hc (by decide)))
      · unfold tcb; rw [if_neg h, if_neg h']

theorem c_199_can_be_1 (hk : 103 ≤ k) (hs : Small v) : CallsV (GG w mean mg mb) k (.ref 184) σ [.inst 199, R3 a0 b0 a1 b1 a2 b2, .int 1, .int v] (.bool (tcb a2 b2 a0 b0 v)) σ := by
  have hh : PySem.Challenge.rw_pc0029_01.name = PySem.Str.ofString "law" := rfl
  have hH : hd.heap_39 w.params = hd.heap_39 w.params := rfl
  revert hh hH
  k_fill
  intro hh hH
  obtain ⟨j, rfl⟩ : ∃ j, k = j + 1 := ⟨k - 1, by omega⟩
  refine' calls_def ?ho ?hcd ?hn ?hl ?hnn ?hb ?hkind ?hnd ?hk ?hco ?hgen ?hcn ?h
  case ho => (show (hd.heap_39 w.params).lookup 184 = _); k_is
  case hcd => (show codeIn (hd.heap_39 w.params) _ _ = _); k_is
  case hn => rfl
  case hl => rfl
  case hnn => decide
  case hb => exact vals4 (fun _ _ _ _ => rfl)
  case hkind => decide
  case hnd => decide
  case hk => rfl
  case hco => rfl
  case hgen => rfl
  case hcn => decide
  by_cases h : v = 0
  · refine (ex_if_ret (tst_compare (ev_name rfl rfl rfl rfl) ev_int cmp_lt (by omega) rfl) (fun hc => (ex_cons (ex1_assign_tuple (ev_tuple (evs_cons (ev_item (ev_name rfl rfl rfl rfl) (ev_sub ev_int (ev_name rfl rfl rfl rfl)) ⟨by decide, rfl, (Nat.le_of_ble_eq_true rfl)⟩ (fun _ _ => rfl)) (evs_cons (ev_item (ev_name rfl rfl rfl rfl) ev_int ⟨by decide, rfl, (Nat.le_of_ble_eq_true rfl)⟩ (fun _ _ => rfl)) evs_nil (fun _ => rfl)) (fun _ => rfl)) (Nat.le_of_ble_eq_true rfl)) (asg_tuple (asgs_cons (asg_name (.inl rfl)) (asgs_cons (asg_tuple (asgs_cons (asg_name (.inl rfl)) (asgs_cons (asg_name (.inl rfl)) asgs_nil (fun _ => rfl)) (fun _ => rfl)) (fun _ => rfl) (fun _ => rfl)) asgs_nil (fun _ => rfl)) (fun _ => rfl)) (fun _ => rfl) (fun _ => rfl)) (fun _ => rfl) (fun env h => by cases env; subst h; rfl)) (ex_if_ret (tst_compare (ev_name rfl rfl rfl rfl) ev_int cmp_eq (by omega) rfl) (fun hc => (ex_return (ev_chain (ev_name rfl rfl rfl rfl) ev_int cmp_le (ev_name rfl rfl rfl rfl) cmp_le (by omega) rfl) ?_)) (fun hc => absurd hc (by simp [h]))))) (fun hc => absurd hc (by decide)))
    · unfold tcb; rw [if_pos h]
  · by_cases h' : 0 < v
    · refine (ex_if_ret (tst_compare (ev_name rfl rfl rfl rfl) ev_int cmp_lt (by omega) rfl) (fun hc => (ex_cons (ex1_assign_tuple (ev_tuple (evs_cons (ev_item (ev_name rfl rfl rfl rfl) (ev_sub ev_int (ev_name rfl rfl rfl rfl)) ⟨by decide, rfl, (Nat.le_of_ble_eq_true rfl)⟩ (fun _ _ => rfl)) (evs_cons (ev_item (ev_name rfl rfl rfl rfl) ev_int ⟨by decide, rfl, (Nat.le_of_ble_eq_true rfl)⟩ (fun _ _ => rfl)) evs_nil (fun _ => rfl)) (fun _ => rfl)) (Nat.le_of_ble_eq_true rfl)) (asg_tuple (asgs_cons (asg_name (.inl rfl)) (asgs_cons (asg_tuple (asgs_cons (asg_name (.inl rfl)) (asgs_cons (asg_name (.inl rfl)) asgs_nil (fun _ => rfl)) (fun _ => rfl)) (fun _ => rfl) (fun _ => rfl)) asgs_nil (fun _ => rfl)) (fun _ => rfl)) (fun _ => rfl) (fun _ => rfl)) (fun _ => rfl) (fun env h => by cases env; subst h; rfl)) (ex_skip (Tst.conv (tst_compare (ev_name rfl rfl rfl rfl) ev_int cmp_eq (by omega) rfl) (by simp [h])) (ex_cons (ex1_assign (ev_if_true (Tst.conv (tst_compare (ev_name rfl rfl rfl rfl) ev_int cmp_gt (by omega) rfl) (by simp [h'])) (ev_tuple (evs_cons (ev_call (gl_ceiling rfl) kp_ceiling (evs_cons (ev_name rfl rfl rfl rfl) (evs_cons (ev_name rfl rfl rfl rfl) evs_nil (fun _ => rfl)) (fun _ => rfl)) (c_ceiling (by omega) h hs) (fun _ => rfl) (fun _ => rfl)) (evs_cons (ev_floordiv h hs (ev_name rfl rfl rfl rfl) (ev_name rfl rfl rfl rfl)) evs_nil (fun _ => rfl)) (fun _ => rfl)) (Nat.le_of_ble_eq_true rfl))) (.inl rfl) (fun env h => by cases env; subst h; rfl)) (ex_return (ev_call (gl_do_meet rfl) kp_do_meet (evs_cons (ev_name rfl rfl rfl rfl) (evs_cons (ev_name rfl rfl rfl rfl) evs_nil (fun _ => rfl)) (fun _ => rfl)) (c_do_meet (by omega)) (fun _ => rfl) (fun _ => rfl)) ?_))))) (fun hc => absurd hc (by decide)))
      · unfold tcb; rw [if_neg h, if_pos h']
    · refine (ex_if_ret (tst_compare (ev_name rfl rfl rfl rfl) ev_int cmp_lt (by omega) rfl) (fun hc => (ex_cons (ex1_assign_tuple (ev_tuple (evs_cons (ev_item (ev_name rfl rfl rfl rfl) (ev_sub ev_int (ev_name rfl rfl rfl rfl)) ⟨by decide, rfl, (Nat.le_of_ble_eq_true rfl)⟩ (fun _ _ => rfl)) (evs_cons (ev_item (ev_name rfl rfl rfl rfl) ev_int ⟨by decide, rfl, (Nat.le_of_ble_eq_true rfl)⟩ (fun _ _ => rfl)) evs_nil (fun _ => rfl)) (fun _ => rfl)) (Nat.le_of_ble_eq_true rfl)) (asg_tuple (asgs_cons (asg_name (.inl rfl)) (asgs_cons (asg_tuple (asgs_cons (asg_name (.inl rfl)) (asgs_cons (asg_name (.inl rfl)) asgs_nil (fun _ => rfl)) (fun _ => rfl)) (fun _ => rfl) (fun _ => rfl)) asgs_nil (fun _ => rfl)) (fun _ => rfl)) (fun _ => rfl) (fun _ => rfl)) (fun _ => rfl) (fun env h => by cases env; subst h; rfl)) (ex_skip (Tst.conv (tst_compare (ev_name rfl rfl rfl rfl) ev_int cmp_eq (by omega) rfl) (by simp [h])) (ex_cons (ex1_assign (ev_if_false (Tst.conv (tst_compare (ev_name rfl rfl rfl rfl) ev_int cmp_gt (by omega) rfl) (by simp; omega)) (ev_tuple (evs_cons (ev_call (gl_ceiling rfl) kp_ceiling (evs_cons (ev_name rfl rfl rfl rfl) (evs_cons (ev_name rfl rfl rfl rfl) evs_nil (fun _ => rfl)) (fun _ => rfl)) (c_ceiling (by omega) h hs) (fun _ => rfl) (fun _ => rfl)) (evs_cons (ev_floordiv h hs (ev_name rfl rfl rfl rfl) (ev_name rfl rfl rfl rfl)) evs_nil (fun _ => rfl)) (fun _ => rfl)) (Nat.le_of_ble_eq_true rfl))) (.inl rfl) (fun env h => by cases env; subst h; rfl)) (ex_return (ev_call (gl_do_meet rfl) kp_do_meet (evs_cons (ev_name rfl rfl rfl rfl) (evs_cons (ev_name rfl rfl rfl rfl) evs_nil (fun _ => rfl)) (fun _ => rfl)) (c_do_meet (by omega)) (fun _ => rfl) (fun _ => rfl)) ?_))))) (fun hc => absurd hc (by decide)))
      · unfold tcb; rw [if_neg h, if_neg h']

def tq (a1 b1 v u : Int) : Bool := u != 0 && (v.fmod u == 0 && ((decide (a1 ≤ v.fdiv u) && decide (v.fdiv u ≤ b1)) && true))
def tcb2 (a0 b0 a1 b1 v : Int) : Bool := if v = 0 then decide (max a0 0 ≤ min b0 0) || decide (max a1 0 ≤ min b1 0) else (rngL (max a0 (-iab v)) (min b0 (iab v) + 1)).any (tq a1 b1 v)
theorem c_199_can_be_2 (hk : 103 ≤ k) (hs : Small v) : CallsV (GG w mean mg mb) k (.ref 184) σ [.inst 199, R3 a0 b0 a1 b1 a2 b2, .int 2, .int v] (.bool (tcb2 a0 b0 a1 b1 v)) σ := by
  have hh : PySem.Challenge.rw_pc0029_01.name = PySem.Str.ofString "law" := rfl
  have hH : hd.heap_39 w.params = hd.heap_39 w.params := rfl
  revert hh hH
  k_fill
  intro hh hH
  obtain ⟨j, rfl⟩ : ∃ j, k = j + 1 := ⟨k - 1, by omega⟩
  refine' calls_def ?ho ?hcd ?hn ?hl ?hnn ?hb ?hkind ?hnd ?hk ?hco ?hgen ?hcn ?h
  case ho => (show (hd.heap_39 w.params).lookup 184 = _); k_is
  case hcd => (show codeIn (hd.heap_39 w.params) _ _ = _); k_is
  case hn => rfl
  case hl => rfl
  case hnn => decide
  case hb => exact vals4 (fun _ _ _ _ => rfl)
  case hkind => decide
  case hnd => decide
  case hk => rfl
  case hco => rfl
  case hgen => rfl
  case hcn => decide
  by_cases h : v = 0
  · refine (ex_skip (Tst.conv (tst_compare (ev_name rfl rfl rfl rfl) ev_int cmp_lt (by omega) rfl) rfl) (ex_if_ret (tst_compare (ev_name rfl rfl rfl rfl) ev_int cmp_eq (by omega) rfl) (fun hc => (ex_return (ev_boolop (evAll_or (ev_call (gl_do_meet rfl) kp_do_meet (evs_cons (ev_item (ev_name rfl rfl rfl rfl) ev_int ⟨by decide, rfl, (Nat.le_of_ble_eq_true rfl)⟩ (fun _ _ => rfl)) (evs_cons (ev_tuple (evs_cons ev_int (evs_cons ev_int evs_nil (fun _ => rfl)) (fun _ => rfl)) (Nat.le_of_ble_eq_true rfl)) evs_nil (fun _ => rfl)) (fun _ => rfl)) (c_do_meet (by omega)) (fun _ => rfl) (fun _ => rfl)) (fun hc => (evAll_one (ev_call (gl_do_meet rfl) kp_do_meet (evs_cons (ev_item (ev_name rfl rfl rfl rfl) ev_int ⟨by decide, rfl, (Nat.le_of_ble_eq_true rfl)⟩ (fun _ _ => rfl)) (evs_cons (ev_tuple (evs_cons ev_int (evs_cons ev_int evs_nil (fun _ => rfl)) (fun _ => rfl)) (Nat.le_of_ble_eq_true rfl)) evs_nil (fun _ => rfl)) (fun _ => rfl)) (c_do_meet (by omega)) (fun _ => rfl) (fun _ => rfl)))))) ?_)) (fun hc => absurd hc (by simp [h]))))
    · unfold tcb2; rw [if_pos h]
  · have hS : ∀ u ∈ rngL (max a0 (-iab v)) (min b0 (iab v) + 1), Small u := fun u hu => by
      have := mem_rngL.mp hu
      unfold Small iab at *
      split at this <;> omega
    cases hq : (rngL (max a0 (-iab v)) (min b0 (iab v) + 1)).any (tq a1 b1 v) with
    | true =>
      refine Ex.conv (ex_skip (Tst.conv (tst_compare (ev_name rfl rfl rfl rfl) ev_int cmp_lt (by omega) rfl) rfl) (ex_skip (Tst.conv (tst_compare (ev_name rfl rfl rfl rfl) ev_int cmp_eq (by omega) rfl) (by simp [h])) (ex_ret (ex1_for (ev_call (gl_range rfl) keep_type (evs_cons (ev_call (gl_max rfl) keep_builtin (evs_cons (ev_item (ev_item (ev_name rfl rfl rfl rfl) ev_int ⟨by decide, rfl, (Nat.le_of_ble_eq_true rfl)⟩ (fun _ _ => rfl)) ev_int ⟨by decide, rfl, (Nat.le_of_ble_eq_true rfl)⟩ (fun _ _ => rfl)) (evs_cons (ev_neg (ev_call (gl_abs rfl) keep_builtin (evs_cons (ev_name rfl rfl rfl rfl) evs_nil (fun _ => rfl)) calls_abs (fun _ => rfl) (fun _ => rfl))) evs_nil (fun _ => rfl)) (fun _ => rfl)) calls_max2 (fun _ => rfl) (fun _ => rfl)) (evs_cons (ev_add (ev_call (gl_min rfl) keep_builtin (evs_cons (ev_item (ev_item (ev_name rfl rfl rfl rfl) ev_int ⟨by decide, rfl, (Nat.le_of_ble_eq_true rfl)⟩ (fun _ _ => rfl)) ev_int ⟨by decide, rfl, (Nat.le_of_ble_eq_true rfl)⟩ (fun _ _ => rfl)) (evs_cons (ev_call (gl_abs rfl) keep_builtin (evs_cons (ev_name rfl rfl rfl rfl) evs_nil (fun _ => rfl)) calls_abs (fun _ => rfl) (fun _ => rfl)) evs_nil (fun _ => rfl)) (fun _ => rfl)) calls_min2 (fun _ => rfl) (fun _ => rfl)) ev_int) evs_nil (fun _ => rfl)) (fun _ => rfl)) calls_range2 (fun _ => rfl) (fun _ => rfl)) itemsOf_rng ((fl_any (g := PV.int) (tq a1 b1 v) (rngL (max a0 (-iab v)) (min b0 (iab v) + 1)) (fun u hu => ⟨_, _, asg_name (.inl rfl), fun hb => (by exact ex_ret (ex1_if (Tst.conv (tst_boolop (tstAll_and (tst_compare (ev_name rfl rfl rfl rfl) ev_int cmp_ne (by omega) rfl) (fun hc0 => (tstAll_and (tst_compare (ev_mod (by simpa using hc0) (ev_name rfl rfl rfl rfl) (ev_name rfl rfl rfl rfl)) ev_int cmp_eq (by omega) rfl) (fun hc1 => (tstAll_and (tst_chain (ev_item (ev_item (ev_name rfl rfl rfl rfl) ev_int ⟨by decide, rfl, (Nat.le_of_ble_eq_true rfl)⟩ (fun _ _ => rfl)) ev_int ⟨by decide, rfl, (Nat.le_of_ble_eq_true rfl)⟩ (fun _ _ => rfl)) (ev_floordiv (by simpa using hc0) (hS u hu) (ev_name rfl rfl rfl rfl) (ev_name rfl rfl rfl rfl)) cmp_le (ev_item (ev_item (ev_name rfl rfl rfl rfl) ev_int ⟨by decide, rfl, (Nat.le_of_ble_eq_true rfl)⟩ (fun _ _ => rfl)) ev_int ⟨by decide, rfl, (Nat.le_of_ble_eq_true rfl)⟩ (fun _ _ => rfl)) cmp_le (by omega) rfl) (fun hc2 => tstAll_nil))))))) hb) (fun _ => ex_return ev_bool rfl) (fun e => by cases e))), fun hb => (by exact ex_cons (ex1_if (Tst.conv (tst_boolop (tstAll_and (tst_compare (ev_name rfl rfl rfl rfl) ev_int cmp_ne (by omega) rfl) (fun hc0 => (tstAll_and (tst_compare (ev_mod (by simpa using hc0) (ev_name rfl rfl rfl rfl) (ev_name rfl rfl rfl rfl)) ev_int cmp_eq (by omega) rfl) (fun hc1 => (tstAll_and (tst_chain (ev_item (ev_item (ev_name rfl rfl rfl rfl) ev_int ⟨by decide, rfl, (Nat.le_of_ble_eq_true rfl)⟩ (fun _ _ => rfl)) ev_int ⟨by decide, rfl, (Nat.le_of_ble_eq_true rfl)⟩ (fun _ _ => rfl)) (ev_floordiv (by simpa using hc0) (hS u hu) (ev_name rfl rfl rfl rfl) (ev_name rfl rfl rfl rfl)) cmp_le (ev_item (ev_item (ev_name rfl rfl rfl rfl) ev_int ⟨by decide, rfl, (Nat.le_of_ble_eq_true rfl)⟩ (fun _ _ => rfl)) ev_int ⟨by decide, rfl, (Nat.le_of_ble_eq_true rfl)⟩ (fun _ _ => rfl)) cmp_le (by omega) rfl) (fun hc2 => tstAll_nil))))))) hb) (fun e => by cases e) (fun _ => ex_nil)) ex_nil), by exact ext1 rfl ext0⟩)).1 hq) (fun _ _ => rfl))))) ?_
      unfold tcb2; rw [if_neg h, hq]
    | false =>
      refine Ex.conv (ex_skip (Tst.conv (tst_compare (ev_name rfl rfl rfl rfl) ev_int cmp_lt (by omega) rfl) rfl) (ex_skip (Tst.conv (tst_compare (ev_name rfl rfl rfl rfl) ev_int cmp_eq (by omega) rfl) (by simp [h])) (ex_cons (ex1_for (ev_call (gl_range rfl) keep_type (evs_cons (ev_call (gl_max rfl) keep_builtin (evs_cons (ev_item (ev_item (ev_name rfl rfl rfl rfl) ev_int ⟨by decide, rfl, (Nat.le_of_ble_eq_true rfl)⟩ (fun _ _ => rfl)) ev_int ⟨by decide, rfl, (Nat.le_of_ble_eq_true rfl)⟩ (fun _ _ => rfl)) (evs_cons (ev_neg (ev_call (gl_abs rfl) keep_builtin (evs_cons (ev_name rfl rfl rfl rfl) evs_nil (fun _ => rfl)) calls_abs (fun _ => rfl) (fun _ => rfl))) evs_nil (fun _ => rfl)) (fun _ => rfl)) calls_max2 (fun _ => rfl) (fun _ => rfl)) (evs_cons (ev_add (ev_call (gl_min rfl) keep_builtin (evs_cons (ev_item (ev_item (ev_name rfl rfl rfl rfl) ev_int ⟨by decide, rfl, (Nat.le_of_ble_eq_true rfl)⟩ (fun _ _ => rfl)) ev_int ⟨by decide, rfl, (Nat.le_of_ble_eq_true rfl)⟩ (fun _ _ => rfl)) (evs_cons (ev_call (gl_abs rfl) keep_builtin (evs_cons (ev_name rfl rfl rfl rfl) evs_nil (fun _ => rfl)) calls_abs (fun _ => rfl) (fun _ => rfl)) evs_nil (fun _ => rfl)) (fun _ => rfl)) calls_min2 (fun _ => rfl) (fun _ => rfl)) ev_int) evs_nil (fun _ => rfl)) (fun _ => rfl)) calls_range2 (fun _ => rfl) (fun _ => rfl)) itemsOf_rng ((fl_any (g := PV.int) (tq a1 b1 v) (rngL (max a0 (-iab v)) (min b0 (iab v) + 1)) (fun u hu => ⟨_, _, asg_name (.inl rfl), fun hb => (by exact ex_ret (ex1_if (Tst.conv (tst_boolop (tstAll_and (tst_compare (ev_name rfl rfl rfl rfl) ev_int cmp_ne (by omega) rfl) (fun hc0 => (tstAll_and (tst_compare (ev_mod (by simpa using hc0) (ev_name rfl rfl rfl rfl) (ev_name rfl rfl rfl rfl)) ev_int cmp_eq (by omega) rfl) (fun hc1 => (tstAll_and (tst_chain (ev_item (ev_item (ev_name rfl rfl rfl rfl) ev_int ⟨by decide, rfl, (Nat.le_of_ble_eq_true rfl)⟩ (fun _ _ => rfl)) ev_int ⟨by decide, rfl, (Nat.le_of_ble_eq_true rfl)⟩ (fun _ _ => rfl)) (ev_floordiv (by simpa using hc0) (hS u hu) (ev_name rfl rfl rfl rfl) (ev_name rfl rfl rfl rfl)) cmp_le (ev_item (ev_item (ev_name rfl rfl rfl rfl) ev_int ⟨by decide, rfl, (Nat.le_of_ble_eq_true rfl)⟩ (fun _ _ => rfl)) ev_int ⟨by decide, rfl, (Nat.le_of_ble_eq_true rfl)⟩ (fun _ _ => rfl)) cmp_le (by omega) rfl) (fun hc2 => tstAll_nil))))))) hb) (fun _ => ex_return ev_bool rfl) (fun e => by cases e))), fun hb => (by exact ex_cons (ex1_if (Tst.conv (tst_boolop (tstAll_and (tst_compare (ev_name rfl rfl rfl rfl) ev_int cmp_ne (by omega) rfl) (fun hc0 => (tstAll_and (tst_compare (ev_mod (by simpa using hc0) (ev_name rfl rfl rfl rfl) (ev_name rfl rfl rfl rfl)) ev_int cmp_eq (by omega) rfl) (fun hc1 => (tstAll_and (tst_chain (ev_item (ev_item (ev_name rfl rfl rfl rfl) ev_int ⟨by decide, rfl, (Nat.le_of_ble_eq_true rfl)⟩ (fun _ _ => rfl)) ev_int ⟨by decide, rfl, (Nat.le_of_ble_eq_true rfl)⟩ (fun _ _ => rfl)) (ev_floordiv (by simpa using hc0) (hS u hu) (ev_name rfl rfl rfl rfl) (ev_name rfl rfl rfl rfl)) cmp_le (ev_item (ev_item (ev_name rfl rfl rfl rfl) ev_int ⟨by decide, rfl, (Nat.le_of_ble_eq_true rfl)⟩ (fun _ _ => rfl)) ev_int ⟨by decide, rfl, (Nat.le_of_ble_eq_true rfl)⟩ (fun _ _ => rfl)) cmp_le (by omega) rfl) (fun hc2 => tstAll_nil))))))) hb) (fun e => by cases e) (fun _ => ex_nil)) ex_nil), by exact ext1 rfl ext0⟩)).2 hq).choose_spec.2 (fun _ _ => rfl)) (ex_weaken (ex_return ev_bool rfl) ((fl_any (g := PV.int) (tq a1 b1 v) (rngL (max a0 (-iab v)) (min b0 (iab v) + 1)) (fun u hu => ⟨_, _, asg_name (.inl rfl), fun hb => (by exact ex_ret (ex1_if (Tst.conv (tst_boolop (tstAll_and (tst_compare (ev_name rfl rfl rfl rfl) ev_int cmp_ne (by omega) rfl) (fun hc0 => (tstAll_and (tst_compare (ev_mod (by simpa using hc0) (ev_name rfl rfl rfl rfl) (ev_name rfl rfl rfl rfl)) ev_int cmp_eq (by omega) rfl) (fun hc1 => (tstAll_and (tst_chain (ev_item (ev_item (ev_name rfl rfl rfl rfl) ev_int ⟨by decide, rfl, (Nat.le_of_ble_eq_true rfl)⟩ (fun _ _ => rfl)) ev_int ⟨by decide, rfl, (Nat.le_of_ble_eq_true rfl)⟩ (fun _ _ => rfl)) (ev_floordiv (by simpa using hc0) (hS u hu) (ev_name rfl rfl rfl rfl) (ev_name rfl rfl rfl rfl)) cmp_le (ev_item (ev_item (ev_name rfl rfl rfl rfl) ev_int ⟨by decide, rfl, (Nat.le_of_ble_eq_true rfl)⟩ (fun _ _ => rfl)) ev_int ⟨by decide, rfl, (Nat.le_of_ble_eq_true rfl)⟩ (fun _ _ => rfl)) cmp_le (by omega) rfl) (fun hc2 => tstAll_nil))))))) hb) (fun _ => ex_return ev_bool rfl) (fun e => by cases e))), fun hb => (by exact ex_cons (ex1_if (Tst.conv (tst_boolop (tstAll_and (tst_compare (ev_name rfl rfl rfl rfl) ev_int cmp_ne (by omega) rfl) (fun hc0 => (tstAll_and (tst_compare (ev_mod (by simpa using hc0) (ev_name rfl rfl rfl rfl) (ev_name rfl rfl rfl rfl)) ev_int cmp_eq (by omega) rfl) (fun hc1 => (tstAll_and (tst_chain (ev_item (ev_item (ev_name rfl rfl rfl rfl) ev_int ⟨by decide, rfl, (Nat.le_of_ble_eq_true rfl)⟩ (fun _ _ => rfl)) ev_int ⟨by decide, rfl, (Nat.le_of_ble_eq_true rfl)⟩ (fun _ _ => rfl)) (ev_floordiv (by simpa using hc0) (hS u hu) (ev_name rfl rfl rfl rfl) (ev_name rfl rfl rfl rfl)) cmp_le (ev_item (ev_item (ev_name rfl rfl rfl rfl) ev_int ⟨by decide, rfl, (Nat.le_of_ble_eq_true rfl)⟩ (fun _ _ => rfl)) ev_int ⟨by decide, rfl, (Nat.le_of_ble_eq_true rfl)⟩ (fun _ _ => rfl)) cmp_le (by omega) rfl) (fun hc2 => tstAll_nil))))))) hb) (fun e => by cases e) (fun _ => ex_nil)) ex_nil), by exact ext1 rfl ext0⟩)).2 hq).choose_spec.1)))) ?_
      unfold tcb2; rw [if_neg h, hq]

end
end Mine

/- P6 -/
namespace Mine
section
variable {w : World} {mean : ExcName → Option Value} {mg mb : Str → Option Value} {k : Nat} {σ : Store} {sc : Scope}

variable {a0 b0 a1 b1 a2 b2 : Int}
theorem Cl.conv {G : Gl} {sc scope : Scope} {elt : Expr} {gens : List Comprehension} {pos : Pos} {d : Nat} {ρ : Vars} {rem outs outs' : List PV} (h : Cl G k sc elt gens scope pos d ρ σ rem outs) (e : outs = outs') : Cl G k sc elt gens scope pos d ρ σ rem outs' := e ▸ h
theorem filter_tt {α β : Type} (l : List α) (f : α → β) : (l.filter fun _ => true).map f = l.map f := by rw [List.filter_eq_self.mpr fun _ _ => rfl]

def cor (a0 b0 a1 b1 : Int) : List Int := [a0 * a1, a0 * b1, b0 * a1, b0 * b1]
theorem c_199_outer_2 (hk : 103 ≤ k) (H : (∀ a ∈ [a0, b0], Small a) ∧ ∀ b ∈ [a1, b1], Small b) : CallsV (GG w mean mg mb) k (.ref 189) σ [.inst 199, R3 a0 b0 a1 b1 a2 b2, .int 2] (.tup [.int (mnL (cor a0 b0 a1 b1)), .int (mxL (cor a0 b0 a1 b1))]) σ := by
  have hh : PySem.Challenge.rw_pc0029_01.name = PySem.Str.ofString "law" := rfl
  have hH : hd.heap_39 w.params = hd.heap_39 w.params := rfl
  revert hh hH
  k_fill
  intro hh hH
  obtain ⟨j, rfl⟩ : ∃ j, k = j + 1 := ⟨k - 1, by omega⟩
  refine' calls_def ?ho ?hcd ?hn ?hl ?hnn ?hb ?hkind ?hnd ?hk ?hco ?hgen ?hcn ?h
  case ho => (show (hd.heap_39 w.params).lookup 189 = _); k_is
  case hcd => (show codeIn (hd.heap_39 w.params) _ _ = _); k_is
  case hn => rfl
  case hl => rfl
  case hnn => decide
  case hb => exact vals3 (fun _ _ _ => rfl)
  case hkind => decide
  case hnd => decide
  case hk => rfl
  case hco => rfl
  case hgen => rfl
  case hcn => decide
  refine (ex_if_ret (tst_compare (ev_name rfl rfl rfl rfl) ev_int cmp_eq (by omega) rfl) (fun hc => (ex_cons (ex1_assign_comp (outs := [a0 * a1, a0 * b1, b0 * a1, b0 * b1].map PV.int) rfl ⟨rfl, by decide, by decide, by decide, rfl⟩ (ev_item (ev_name rfl rfl rfl rfl) ev_int ⟨by decide, rfl, (Nat.le_of_ble_eq_true rfl)⟩ (fun _ _ => rfl)) rfl (by exact (clM (g := PV.int) (fun a : Int => true) (fun a => ([a1, b1].filter (fun _ : Int => true)).map (fun b => PV.int (a * b))) rfl rfl (fun _ _ => rfl) [a0, b0] (fun a ha => ⟨_, _, _, (asg_name (.inl rfl)), tsts_nil, fun hb => (by exact (ev_item (ev_name rfl rfl rfl rfl) ev_int ⟨by decide, rfl, (Nat.le_of_ble_eq_true rfl)⟩ (fun _ _ => rfl))), rfl, fun hb => (by exact (clL (g := PV.int) (fun b : Int => true) (fun b => PV.int (a * b)) rfl rfl rfl [a1, b1] (fun b hb => ⟨_, (asg_name (.inl rfl)), tsts_nil, fun _ => (by exact (ev_mul (Small.mulOk (H.1 a ha) (H.2 b hb)) (ev_name rfl rfl rfl rfl) (ev_name rfl rfl rfl rfl))), by exact ext1 rfl ext0⟩))), by exact ext1 rfl ext0⟩))) (Nat.le_of_ble_eq_true rfl) (fun _ _ => rfl) rfl (fun env h => by cases env; subst h; rfl)) (ex_return (ev_tuple (evs_cons (ev_call (gl_min rfl) keep_builtin (evs_cons (ev_name rfl rfl rfl rfl) evs_nil (fun _ => rfl)) (calls_minL ?_) (fun _ => rfl) (fun _ => rfl)) (evs_cons (ev_call (gl_max rfl) keep_builtin (evs_cons (ev_name rfl rfl rfl rfl) evs_nil (fun _ => rfl)) (calls_maxL ?_) (fun _ => rfl) (fun _ => rfl)) evs_nil (fun _ => rfl)) (fun _ => rfl)) (Nat.le_of_ble_eq_true rfl)) ?_))) (fun hc => absurd hc (by decide)))
  · exact List.cons_ne_nil _ _
  · exact List.cons_ne_nil _ _
  · rfl

def prs (l h ga gb : Int) : List (Int × Int) := ([(max l 1, h), (l, min h (-1))].filter fun p => decide (p.1 ≤ p.2)).flatMap fun p => [(ga, p.1), (gb, p.1), (ga, p.2), (gb, p.2)]
abbrev pr2 (z : Int × Int) : PV := .tup [.int z.1, .int z.2]
theorem prs_eq (l h ga gb : Int) : (([(max l 1, h), (l, min h (-1))].filter (fun p : Int × Int => decide (p.1 ≤ p.2))).flatMap fun p => (([p.1, p.2].filter (fun _ : Int => true)).flatMap (fun b => ([ga, gb].filter (fun _ : Int => true)).map (fun c => PV.tup [PV.int c, PV.int b])))) = (prs l h ga gb).map pr2 := by
  unfold prs
  rw [List.map_flatMap]
  rfl
theorem prs_len {l h ga gb : Int} : (prs l h ga gb).length ≤ 8 := by
  unfold prs
  simp only [List.filter_cons, List.filter_nil]
  split <;> split <;> exact Nat.le_of_ble_eq_true rfl
def tout (l h ga gb oa ob : Int) : Int × Int := if (l ≤ 0 ∧ 0 ≤ h) ∧ (ga ≤ 0 ∧ 0 ≤ gb) then (oa, ob) else if prs l h ga gb = [] then (1, 0) else (mnL ((prs l h ga gb).map fun z => cdiv z.1 z.2), mxL ((prs l h ga gb).map fun z => z.1.fdiv z.2))

theorem c_199_outer_0 (hk : 103 ≤ k) (H : ∀ z ∈ prs a1 b1 a2 b2, z.2 ≠ 0 ∧ Small z.2) : CallsV (GG w mean mg mb) k (.ref 189) σ [.inst 199, R3 a0 b0 a1 b1 a2 b2, .int 0] (.tup [.int (tout a1 b1 a2 b2 a0 b0).1, .int (tout a1 b1 a2 b2 a0 b0).2]) σ := by
  have hh : PySem.Challenge.rw_pc0029_01.name = PySem.Str.ofString "law" := rfl
  have hH : hd.heap_39 w.params = hd.heap_39 w.params := rfl
  revert hh hH
  k_fill
  intro hh hH
  obtain ⟨j, rfl⟩ : ∃ j, k = j + 1 := ⟨k - 1, by omega⟩
  refine' calls_def ?ho ?hcd ?hn ?hl ?hnn ?hb ?hkind ?hnd ?hk ?hco ?hgen ?hcn ?h
  case ho => (show (hd.heap_39 w.params).lookup 189 = _); k_is
  case hcd => (show codeIn (hd.heap_39 w.params) _ _ = _); k_is
  case hn => rfl
  case hl => rfl
  case hnn => decide
  case hb => exact vals3 (fun _ _ _ => rfl)
  case hkind => decide
  case hnd => decide
  case hk => rfl
  case hco => rfl
  case hgen => rfl
  case hcn => decide
  refine (ex_skip (Tst.conv (tst_compare (ev_name rfl rfl rfl rfl) ev_int cmp_eq (by omega) rfl) rfl) (ex_cons (ex1_assign_tuple (ev_tuple (evs_cons (ev_item (ev_name rfl rfl rfl rfl) (ev_sub ev_int (ev_name rfl rfl rfl rfl)) ⟨by decide, rfl, (Nat.le_of_ble_eq_true rfl)⟩ (fun _ _ => rfl)) (evs_cons (ev_item (ev_name rfl rfl rfl rfl) ev_int ⟨by decide, rfl, (Nat.le_of_ble_eq_true rfl)⟩ (fun _ _ => rfl)) evs_nil (fun _ => rfl)) (fun _ => rfl)) (Nat.le_of_ble_eq_true rfl)) (asg_tuple (asgs_cons (asg_tuple (asgs_cons (asg_name (.inl rfl)) (asgs_cons (asg_name (.inl rfl)) asgs_nil (fun _ => rfl)) (fun _ => rfl)) (fun _ => rfl) (fun _ => rfl)) (asgs_cons (asg_name (.inr ⟨rfl, rfl⟩)) asgs_nil (fun _ => rfl)) (fun _ => rfl)) (fun _ => rfl) (fun _ => rfl)) (fun _ => rfl) (fun env h => by cases env; subst h; rfl)) (ex_if_ret (tst_boolop (tstAll_and (tst_chain (ev_name rfl rfl rfl rfl) ev_int cmp_le (ev_name rfl rfl rfl rfl) cmp_le (by omega) rfl) (fun hc0 => (tstAll_and (tst_chain (ev_item (ev_name rfl rfl rfl rfl) ev_int ⟨by decide, rfl, (Nat.le_of_ble_eq_true rfl)⟩ (fun _ _ => rfl)) ev_int cmp_le (ev_item (ev_name rfl rfl rfl rfl) ev_int ⟨by decide, rfl, (Nat.le_of_ble_eq_true rfl)⟩ (fun _ _ => rfl)) cmp_le (by omega) rfl) (fun hc1 => tstAll_nil))))) (fun hc => (ex_return (ev_item (ev_name rfl rfl rfl rfl) (ev_name rfl rfl rfl rfl) ⟨by decide, rfl, (Nat.le_of_ble_eq_true rfl)⟩ (fun _ _ => rfl)) ?_)) (fun hc => (ex_cons (ex1_assign (ev_list (evs_cons (ev_tuple (evs_cons (ev_call (gl_max rfl) keep_builtin (evs_cons (ev_name rfl rfl rfl rfl) (evs_cons ev_int evs_nil (fun _ => rfl)) (fun _ => rfl)) calls_max2 (fun _ => rfl) (fun _ => rfl)) (evs_cons (ev_name rfl rfl rfl rfl) evs_nil (fun _ => rfl)) (fun _ => rfl)) (Nat.le_of_ble_eq_true rfl)) (evs_cons (ev_tuple (evs_cons (ev_name rfl rfl rfl rfl) (evs_cons (ev_call (gl_min rfl) keep_builtin (evs_cons (ev_name rfl rfl rfl rfl) (evs_cons (ev_neg ev_int) evs_nil (fun _ => rfl)) (fun _ => rfl)) calls_min2 (fun _ => rfl) (fun _ => rfl)) evs_nil (fun _ => rfl)) (fun _ => rfl)) (Nat.le_of_ble_eq_true rfl)) evs_nil (fun _ => rfl)) (fun _ => rfl)) (Nat.le_of_ble_eq_true rfl)) (.inl rfl) (fun env h => by cases env; subst h; rfl)) (ex_cons (ex1_assign_comp (outs := (prs a1 b1 a2 b2).map pr2) rfl ⟨rfl, by decide, by decide, by decide, rfl⟩ (ev_name rfl rfl rfl rfl) rfl (Cl.conv (by exact (clM (g := (fun p : Int × Int => PV.tup [PV.int p.1, PV.int p.2])) (fun p : Int × Int => decide (p.1 ≤ p.2)) (fun p => ([p.1, p.2].filter (fun _ : Int => true)).flatMap (fun b => ([a2, b2].filter (fun _ : Int => true)).map (fun c => PV.tup [PV.int c, PV.int b]))) rfl rfl (fun _ _ => rfl) [((max a1 1), b1), (a1, min b1 (-1))] (fun p hp => ⟨_, _, _, (asg_name (.inl rfl)), (tsts_one (by exact (tst_compare (ev_item (ev_name rfl rfl rfl rfl) ev_int ⟨by decide, rfl, (Nat.le_of_ble_eq_true rfl)⟩ (fun _ _ => rfl)) (ev_item (ev_name rfl rfl rfl rfl) ev_int ⟨by decide, rfl, (Nat.le_of_ble_eq_true rfl)⟩ (fun _ _ => rfl)) cmp_le (by omega) rfl))), fun _ => (by exact (ev_name rfl rfl rfl rfl)), rfl, fun _ => (by exact (clM (g := PV.int) (fun b : Int => true) (fun b => ([a2, b2].filter (fun _ : Int => true)).map (fun c => PV.tup [PV.int c, PV.int b])) rfl rfl (fun _ _ => rfl) [p.1, p.2] (fun b hb => ⟨_, _, _, (asg_name (.inl rfl)), tsts_nil, fun _ => (by exact (ev_name rfl rfl rfl rfl)), rfl, fun _ => (by exact (clL (g := PV.int) (fun c : Int => true) (fun c => PV.tup [PV.int c, PV.int b]) rfl rfl rfl [a2, b2] (fun c hc => ⟨_, (asg_name (.inl rfl)), tsts_nil, fun _ => (by exact (ev_tuple (evs_cons (ev_name rfl rfl rfl rfl) (evs_cons (ev_name rfl rfl rfl rfl) evs_nil (fun _ => rfl)) (fun _ => rfl)) (Nat.le_of_ble_eq_true rfl))), by exact ext1 rfl ext0⟩))), by exact ext1 rfl ext0⟩))), by exact ext1 rfl ext0⟩))) (prs_eq a1 b1 a2 b2)) (Nat.le_trans (by rw [List.length_map]; exact prs_len) (by decide)) (fun _ _ => rfl) rfl (fun env h => by cases env; subst h; rfl)) (ex_if_ret (tst_compare (ev_call (gl_len rfl) keep_builtin (evs_cons (ev_name rfl rfl rfl rfl) evs_nil (fun _ => rfl)) (calls_len (by rw [List.length_map]; exact Nat.le_trans prs_len (by decide))) (fun _ => rfl) (fun _ => rfl)) ev_int cmp_eq (by omega) rfl) (fun hc => (ex_return (ev_tuple (evs_cons ev_int (evs_cons ev_int evs_nil (fun _ => rfl)) (fun _ => rfl)) (Nat.le_of_ble_eq_true rfl)) ?_)) (fun hc => (ex_return (ev_tuple (evs_cons (ev_call (gl_min rfl) keep_builtin (evs_cons (by exact Run.conv (ev_listcomp rfl ⟨rfl, by decide, by decide, by decide, rfl⟩ (ev_name rfl rfl rfl rfl) rfl (clL (g := pr2) (fun z : Int × Int => true) (fun z => PV.int (cdiv z.1 z.2)) rfl rfl rfl (prs a1 b1 a2 b2) (fun z hz => ⟨_, (asg_tuple (asgs_cons (asg_name (.inl rfl)) (asgs_cons (asg_name (.inl rfl)) asgs_nil (fun _ => rfl)) (fun _ => rfl)) (fun _ => rfl) (fun _ => rfl)), tsts_nil, fun hb => (by exact (ev_call (gl_ceiling rfl) kp_ceiling (evs_cons (ev_name rfl rfl rfl rfl) (evs_cons (ev_name rfl rfl rfl rfl) evs_nil (fun _ => rfl)) (fun _ => rfl)) (c_ceiling (by omega) (H z hz).1 (H z hz).2) (fun _ => rfl) (fun _ => rfl))), by exact ext1 rfl (ext1 rfl ext0)⟩)) (Nat.le_trans (by rw [filter_tt, List.length_map]; exact prs_len) (by decide)) (fun _ _ => rfl)) (show PV.lst _ = PV.lst (((prs a1 b1 a2 b2).map fun z => cdiv z.1 z.2).map PV.int) by rw [filter_tt, List.map_map]; rfl)) evs_nil (fun _ => rfl)) (calls_minL (l := (prs a1 b1 a2 b2).map fun z => cdiv z.1 z.2) ?_) (fun _ => rfl) (fun _ => rfl)) (evs_cons (ev_call (gl_max rfl) keep_builtin (evs_cons (by exact Run.conv (ev_listcomp rfl ⟨rfl, by decide, by decide, by decide, rfl⟩ (ev_name rfl rfl rfl rfl) rfl (clL (g := pr2) (fun z : Int × Int => true) (fun z => PV.int (z.1.fdiv z.2)) rfl rfl rfl (prs a1 b1 a2 b2) (fun z hz => ⟨_, (asg_tuple (asgs_cons (asg_name (.inl rfl)) (asgs_cons (asg_name (.inl rfl)) asgs_nil (fun _ => rfl)) (fun _ => rfl)) (fun _ => rfl) (fun _ => rfl)), tsts_nil, fun hb => (by exact (ev_floordiv (H z hz).1 (H z hz).2 (ev_name rfl rfl rfl rfl) (ev_name rfl rfl rfl rfl))), by exact ext1 rfl (ext1 rfl ext0)⟩)) (Nat.le_trans (by rw [filter_tt, List.length_map]; exact prs_len) (by decide)) (fun _ _ => rfl)) (show PV.lst _ = PV.lst (((prs a1 b1 a2 b2).map fun z => z.1.fdiv z.2).map PV.int) by rw [filter_tt, List.map_map]; rfl)) evs_nil (fun _ => rfl)) (calls_maxL (l := (prs a1 b1 a2 b2).map fun z => z.1.fdiv z.2) ?_) (fun _ => rfl) (fun _ => rfl)) evs_nil (fun _ => rfl)) (fun _ => rfl)) (Nat.le_of_ble_eq_true rfl)) ?_)))))))))
  · have hc : (a1 ≤ 0 ∧ 0 ≤ b1) ∧ (a2 ≤ 0 ∧ 0 ≤ b2) := by simpa using hc
    unfold tout; rw [if_pos hc]
  · rename_i hc1
    have hc1 : ¬ ((a1 ≤ 0 ∧ 0 ≤ b1) ∧ (a2 ≤ 0 ∧ 0 ≤ b2)) := by simpa using hc1
    have hc : prs a1 b1 a2 b2 = [] := by simpa using hc
    unfold tout; rw [if_neg hc1, if_pos hc]
  · intro e
    simp at e; simp [e] at hc
  · intro e
    simp at e; simp [e] at hc
  · rename_i hc1
    have hc1 : ¬ ((a1 ≤ 0 ∧ 0 ≤ b1) ∧ (a2 ≤ 0 ∧ 0 ≤ b2)) := by simpa using hc1
    have hc : ¬ prs a1 b1 a2 b2 = [] := by simpa using hc
    unfold tout; rw [if_neg hc1, if_neg hc]

theorem c_199_outer_1 (hk : 103 ≤ k) (H : ∀ z ∈ prs a0 b0 a2 b2, z.2 ≠ 0 ∧ Small z.2) : CallsV (GG w mean mg mb) k (.ref 189) σ [.inst 199, R3 a0 b0 a1 b1 a2 b2, .int 1] (.tup [.int (tout a0 b0 a2 b2 a1 b1).1, .int (tout a0 b0 a2 b2 a1 b1).2]) σ := by
  have hh : PySem.Challenge.rw_pc0029_01.name = PySem.Str.ofString "law" := rfl
  have hH : hd.heap_39 w.params = hd.heap_39 w.params := rfl
  revert hh hH
  k_fill
  intro hh hH
  obtain ⟨j, rfl⟩ : ∃ j, k = j + 1 := ⟨k - 1, by omega⟩
  refine' calls_def ?ho ?hcd ?hn ?hl ?hnn ?hb ?hkind ?hnd ?hk ?hco ?hgen ?hcn ?h
  case ho => (show (hd.heap_39 w.params).lookup 189 = _); k_is
  case hcd => (show codeIn (hd.heap_39 w.params) _ _ = _); k_is
  case hn => rfl
  case hl => rfl
  case hnn => decide
  case hb => exact vals3 (fun _ _ _ => rfl)
  case hkind => decide
  case hnd => decide
  case hk => rfl
  case hco => rfl
  case hgen => rfl
  case hcn => decide
  refine (ex_skip (Tst.conv (tst_compare (ev_name rfl rfl rfl rfl) ev_int cmp_eq (by omega) rfl) rfl) (ex_cons (ex1_assign_tuple (ev_tuple (evs_cons (ev_item (ev_name rfl rfl rfl rfl) (ev_sub ev_int (ev_name rfl rfl rfl rfl)) ⟨by decide, rfl, (Nat.le_of_ble_eq_true rfl)⟩ (fun _ _ => rfl)) (evs_cons (ev_item (ev_name rfl rfl rfl rfl) ev_int ⟨by decide, rfl, (Nat.le_of_ble_eq_true rfl)⟩ (fun _ _ => rfl)) evs_nil (fun _ => rfl)) (fun _ => rfl)) (Nat.le_of_ble_eq_true rfl)) (asg_tuple (asgs_cons (asg_tuple (asgs_cons (asg_name (.inl rfl)) (asgs_cons (asg_name (.inl rfl)) asgs_nil (fun _ => rfl)) (fun _ => rfl)) (fun _ => rfl) (fun _ => rfl)) (asgs_cons (asg_name (.inr ⟨rfl, rfl⟩)) asgs_nil (fun _ => rfl)) (fun _ => rfl)) (fun _ => rfl) (fun _ => rfl)) (fun _ => rfl) (fun env h => by cases env; subst h; rfl)) (ex_if_ret (tst_boolop (tstAll_and (tst_chain (ev_name rfl rfl rfl rfl) ev_int cmp_le (ev_name rfl rfl rfl rfl) cmp_le (by omega) rfl) (fun hc0 => (tstAll_and (tst_chain (ev_item (ev_name rfl rfl rfl rfl) ev_int ⟨by decide, rfl, (Nat.le_of_ble_eq_true rfl)⟩ (fun _ _ => rfl)) ev_int cmp_le (ev_item (ev_name rfl rfl rfl rfl) ev_int ⟨by decide, rfl, (Nat.le_of_ble_eq_true rfl)⟩ (fun _ _ => rfl)) cmp_le (by omega) rfl) (fun hc1 => tstAll_nil))))) (fun hc => (ex_return (ev_item (ev_name rfl rfl rfl rfl) (ev_name rfl rfl rfl rfl) ⟨by decide, rfl, (Nat.le_of_ble_eq_true rfl)⟩ (fun _ _ => rfl)) ?_)) (fun hc => (ex_cons (ex1_assign (ev_list (evs_cons (ev_tuple (evs_cons (ev_call (gl_max rfl) keep_builtin (evs_cons (ev_name rfl rfl rfl rfl) (evs_cons ev_int evs_nil (fun _ => rfl)) (fun _ => rfl)) calls_max2 (fun _ => rfl) (fun _ => rfl)) (evs_cons (ev_name rfl rfl rfl rfl) evs_nil (fun _ => rfl)) (fun _ => rfl)) (Nat.le_of_ble_eq_true rfl)) (evs_cons (ev_tuple (evs_cons (ev_name rfl rfl rfl rfl) (evs_cons (ev_call (gl_min rfl) keep_builtin (evs_cons (ev_name rfl rfl rfl rfl) (evs_cons (ev_neg ev_int) evs_nil (fun _ => rfl)) (fun _ => rfl)) calls_min2 (fun _ => rfl) (fun _ => rfl)) evs_nil (fun _ => rfl)) (fun _ => rfl)) (Nat.le_of_ble_eq_true rfl)) evs_nil (fun _ => rfl)) (fun _ => rfl)) (Nat.le_of_ble_eq_true rfl)) (.inl rfl) (fun env h => by cases env; subst h; rfl)) (ex_cons (ex1_assign_comp (outs := (prs a0 b0 a2 b2).map pr2) rfl ⟨rfl, by decide, by decide, by decide, rfl⟩ (ev_name rfl rfl rfl rfl) rfl (Cl.conv (by exact (clM (g := (fun p : Int × Int => PV.tup [PV.int p.1, PV.int p.2])) (fun p : Int × Int => decide (p.1 ≤ p.2)) (fun p => ([p.1, p.2].filter (fun _ : Int => true)).flatMap (fun b => ([a2, b2].filter (fun _ : Int => true)).map (fun c => PV.tup [PV.int c, PV.int b]))) rfl rfl (fun _ _ => rfl) [((max a0 1), b0), (a0, min b0 (-1))] (fun p hp => ⟨_, _, _, (asg_name (.inl rfl)), (tsts_one (by exact (tst_compare (ev_item (ev_name rfl rfl rfl rfl) ev_int ⟨by decide, rfl, (Nat.le_of_ble_eq_true rfl)⟩ (fun _ _ => rfl)) (ev_item (ev_name rfl rfl rfl rfl) ev_int ⟨by decide, rfl, (Nat.le_of_ble_eq_true rfl)⟩ (fun _ _ => rfl)) cmp_le (by omega) rfl))), fun _ => (by exact (ev_name rfl rfl rfl rfl)), rfl, fun _ => (by exact (clM (g := PV.int) (fun b : Int => true) (fun b => ([a2, b2].filter (fun _ : Int => true)).map (fun c => PV.tup [PV.int c, PV.int b])) rfl rfl (fun _ _ => rfl) [p.1, p.2] (fun b hb => ⟨_, _, _, (asg_name (.inl rfl)), tsts_nil, fun _ => (by exact (ev_name rfl rfl rfl rfl)), rfl, fun _ => (by exact (clL (g := PV.int) (fun c : Int => true) (fun c => PV.tup [PV.int c, PV.int b]) rfl rfl rfl [a2, b2] (fun c hc => ⟨_, (asg_name (.inl rfl)), tsts_nil, fun _ => (by exact (ev_tuple (evs_cons (ev_name rfl rfl rfl rfl) (evs_cons (ev_name rfl rfl rfl rfl) evs_nil (fun _ => rfl)) (fun _ => rfl)) (Nat.le_of_ble_eq_true rfl))), by exact ext1 rfl ext0⟩))), by exact ext1 rfl ext0⟩))), by exact ext1 rfl ext0⟩))) (prs_eq a0 b0 a2 b2)) (Nat.le_trans (by rw [List.length_map]; exact prs_len) (by decide)) (fun _ _ => rfl) rfl (fun env h => by cases env; subst h; rfl)) (ex_if_ret (tst_compare (ev_call (gl_len rfl) keep_builtin (evs_cons (ev_name rfl rfl rfl rfl) evs_nil (fun _ => rfl)) (calls_len (by rw [List.length_map]; exact Nat.le_trans prs_len (by decide))) (fun _ => rfl) (fun _ => rfl)) ev_int cmp_eq (by omega) rfl) (fun hc => (ex_return (ev_tuple (evs_cons ev_int (evs_cons ev_int evs_nil (fun _ => rfl)) (fun _ => rfl)) (Nat.le_of_ble_eq_true rfl)) ?_)) (fun hc => (ex_return (ev_tuple (evs_cons (ev_call (gl_min rfl) keep_builtin (evs_cons (by exact Run.conv (ev_listcomp rfl ⟨rfl, by decide, by decide, by decide, rfl⟩ (ev_name rfl rfl rfl rfl) rfl (clL (g := pr2) (fun z : Int × Int => true) (fun z => PV.int (cdiv z.1 z.2)) rfl rfl rfl (prs a0 b0 a2 b2) (fun z hz => ⟨_, (asg_tuple (asgs_cons (asg_name (.inl rfl)) (asgs_cons (asg_name (.inl rfl)) asgs_nil (fun _ => rfl)) (fun _ => rfl)) (fun _ => rfl) (fun _ => rfl)), tsts_nil, fun hb => (by exact (ev_call (gl_ceiling rfl) kp_ceiling (evs_cons (ev_name rfl rfl rfl rfl) (evs_cons (ev_name rfl rfl rfl rfl) evs_nil (fun _ => rfl)) (fun _ => rfl)) (c_ceiling (by omega) (H z hz).1 (H z hz).2) (fun _ => rfl) (fun _ => rfl))), by exact ext1 rfl (ext1 rfl ext0)⟩)) (Nat.le_trans (by rw [filter_tt, List.length_map]; exact prs_len) (by decide)) (fun _ _ => rfl)) (show PV.lst _ = PV.lst (((prs a0 b0 a2 b2).map fun z => cdiv z.1 z.2).map PV.int) by rw [filter_tt, List.map_map]; rfl)) evs_nil (fun _ => rfl)) (calls_minL (l := (prs a0 b0 a2 b2).map fun z => cdiv z.1 z.2) ?_) (fun _ => rfl) (fun _ => rfl)) (evs_cons (ev_call (gl_max rfl) keep_builtin (evs_cons (by exact Run.conv (ev_listcomp rfl ⟨rfl, by decide, by decide, by decide, rfl⟩ (ev_name rfl rfl rfl rfl) rfl (clL (g := pr2) (fun z : Int × Int => true) (fun z => PV.int (z.1.fdiv z.2)) rfl rfl rfl (prs a0 b0 a2 b2) (fun z hz => ⟨_, (asg_tuple (asgs_cons (asg_name (.inl rfl)) (asgs_cons (asg_name (.inl rfl)) asgs_nil (fun _ => rfl)) (fun _ => rfl)) (fun _ => rfl) (fun _ => rfl)), tsts_nil, fun hb => (by exact (ev_floordiv (H z hz).1 (H z hz).2 (ev_name rfl rfl rfl rfl) (ev_name rfl rfl rfl rfl))), by exact ext1 rfl (ext1 rfl ext0)⟩)) (Nat.le_trans (by rw [filter_tt, List.length_map]; exact prs_len) (by decide)) (fun _ _ => rfl)) (show PV.lst _ = PV.lst (((prs a0 b0 a2 b2).map fun z => z.1.fdiv z.2).map PV.int) by rw [filter_tt, List.map_map]; rfl)) evs_nil (fun _ => rfl)) (calls_maxL (l := (prs a0 b0 a2 b2).map fun z => z.1.fdiv z.2) ?_) (fun _ => rfl) (fun _ => rfl)) evs_nil (fun _ => rfl)) (fun _ => rfl)) (Nat.le_of_ble_eq_true rfl)) ?_)))))))))
  · have hc : (a0 ≤ 0 ∧ 0 ≤ b0) ∧ (a2 ≤ 0 ∧ 0 ≤ b2) := by simpa using hc
    unfold tout; rw [if_pos hc]
  · rename_i hc1
    have hc1 : ¬ ((a0 ≤ 0 ∧ 0 ≤ b0) ∧ (a2 ≤ 0 ∧ 0 ≤ b2)) := by simpa using hc1
    have hc : prs a0 b0 a2 b2 = [] := by simpa using hc
    unfold tout; rw [if_neg hc1, if_pos hc]
  · intro e
    simp at e; simp [e] at hc
  · intro e
    simp at e; simp [e] at hc
  · rename_i hc1
    have hc1 : ¬ ((a0 ≤ 0 ∧ 0 ≤ b0) ∧ (a2 ≤ 0 ∧ 0 ≤ b2)) := by simpa using hc1
    have hc : ¬ prs a0 b0 a2 b2 = [] := by simpa using hc
    unfold tout; rw [if_neg hc1, if_neg hc]

end
end Mine

/- M1 -/
namespace Mine

theorem fdiv_pos' {a b : Int} (hb : 0 ≤ b) : a.fdiv b = a / b := Int.fdiv_eq_ediv_of_nonneg a hb
theorem iab_nonneg (a : Int) : 0 ≤ iab a := by unfold iab; split <;> omega
theorem trn_zero {x y : Int} (h : iab x < iab y) : trn x y = 0 := by
  unfold trn
  rw [fdiv_pos' (iab_nonneg y), Int.ediv_eq_zero_of_lt (iab_nonneg x) h]
  split <;> rfl

/-- what the wide quotients come to -/
theorem wide_divs {a0 b0 a1 b1 s : Int} (h0 : -5 ≤ a0) (h1 : a0 ≤ b0) (h2 : b0 ≤ 5) (hs : (s = 1 ∧ a1 = 6 ∧ b1 = 10 ^ 20) ∨ (s = -1 ∧ a1 = -10 ^ 20 ∧ b1 = -6)) : divs a0 b0 a1 b1 = [6 * s] := by
  have hf : far0 a0 b0 ≤ 6 ∧ 1 ≤ far0 a0 b0 := by unfold far0 iab; split <;> split <;> omega
  unfold divs
  rcases hs with ⟨rfl, rfl, rfl⟩ | ⟨rfl, rfl, rfl⟩
  · split
    · simp
    · have e : far0 a0 b0 = 6 := by omega
      rw [e]; decide +kernel
  · split
    · rw [if_neg (by decide)]; rfl
    · have e : far0 a0 b0 = 6 := by omega
      rw [e]; decide +kernel
theorem wide_q0 {a0 b0 a2 b2 s x : Int} (hx : -5 ≤ x ∧ x ≤ 5) (hs : s = 1 ∨ s = -1) (h2 : a2 ≤ b2) : ([6 * s].any fun y => decide (max a2 (trn x y) ≤ min b2 (trn x y))) = (decide (a2 ≤ 0) && decide (0 ≤ b2)) := by
  have : trn x (6 * s) = 0 := trn_zero (by unfold iab; rcases hs with rfl | rfl <;> (split <;> omega))
  simp only [List.any_cons, List.any_nil, this, Bool.or_false]
  rw [Bool.eq_iff_iff]
  simp only [decide_eq_true_eq, Bool.and_eq_true]
  omega
theorem wide_q1 {a0 b0 a2 b2 v : Int} (h0 : -5 ≤ a0) (h1 : a0 ≤ b0) (h2' : b0 ≤ 5) (hv : 6 ≤ iab v) (h2 : a2 ≤ b2) : qcb1 a0 b0 a2 b2 v = (decide (a2 ≤ 0) && decide (0 ≤ b2)) := by
  have e0 : trn a0 v = 0 := trn_zero (by unfold iab at *; split <;> omega)
  have e1 : trn b0 v = 0 := trn_zero (by unfold iab at *; split <;> omega)
  unfold qcb1
  rw [if_neg (by rintro rfl; simp [iab] at hv), e0, e1]
  rw [Bool.eq_iff_iff]
  simp only [decide_eq_true_eq, Bool.and_eq_true]
  omega
theorem wide_q2 {a0 b0 s z : Int} (h0 : -5 ≤ a0) (h1 : a0 ≤ b0) (h2' : b0 ≤ 5) (hs : s = 1 ∨ s = -1) : ([6 * s].any fun y => decide (max (dby y z).1 a0 ≤ min (dby y z).2 b0)) = (z == 0) := by
  simp only [List.any_cons, List.any_nil, Bool.or_false]
  rw [Bool.eq_iff_iff]
  simp only [decide_eq_true_eq, beq_iff_eq]
  have hi : iab (6 * s) = 6 := by rcases hs with rfl | rfl <;> rfl
  unfold dby
  rw [hi]
  by_cases hz : z = 0
  · rw [if_pos hz]; dsimp only; omega
  · rw [if_neg hz]
    by_cases hp : 0 < 6 * s * z
    · rw [if_pos hp]; dsimp only; rcases hs with rfl | rfl <;> omega
    · rw [if_neg hp]; dsimp only; rcases hs with rfl | rfl <;> omega
end Mine

/- M2 -/
namespace Mine

theorem le_fdiv_pos {a b x : Int} (hb : 0 < b) : x ≤ a.fdiv b ↔ x * b ≤ a := by
  rw [Int.fdiv_eq_ediv_of_nonneg a (by omega), Int.le_ediv_iff_mul_le hb]
theorem le_fdiv_neg {a b x : Int} (hb : b < 0) : x ≤ a.fdiv b ↔ a ≤ x * b := by
  rw [← Int.neg_fdiv_neg, le_fdiv_pos (by omega), Int.mul_neg]; omega
theorem cdiv_le_pos {a b x : Int} (hb : 0 < b) : cdiv a b ≤ x ↔ a ≤ x * b := by
  unfold cdiv
  have := le_fdiv_pos (a := -a) (x := -x) hb
  rw [Int.neg_mul] at this; omega
theorem cdiv_le_neg {a b x : Int} (hb : b < 0) : cdiv a b ≤ x ↔ x * b ≤ a := by
  unfold cdiv
  have := le_fdiv_neg (a := -a) (x := -x) hb
  rw [Int.neg_mul] at this; omega

theorem tcb_iff {lo hi la lb v : Int} (h : la ≤ lb) : tcb lo hi la lb v = true ↔ ∃ y, la ≤ y ∧ y ≤ lb ∧ lo ≤ v * y ∧ v * y ≤ hi := by
  unfold tcb
  split
  · rename_i hv
    subst hv
    simp only [Bool.and_eq_true, decide_eq_true_eq, Int.zero_mul]
    exact ⟨fun ⟨a, b⟩ => ⟨la, Int.le_refl _, h, a, b⟩, fun ⟨y, _, _, a, b⟩ => ⟨a, b⟩⟩
  · rename_i hv
    split
    · rename_i hp
      simp only [decide_eq_true_eq]
      constructor
      · intro hm
        have h1 : cdiv lo v ≤ max (cdiv lo v) la := by omega
        have h2 : max (cdiv lo v) la ≤ hi.fdiv v := by omega
        have e1 := (cdiv_le_pos hp).mp h1
        have e2 := (le_fdiv_pos hp).mp h2
        rw [Int.mul_comm] at e1 e2
        exact ⟨max (cdiv lo v) la, by omega, by omega, e1, e2⟩
      · rintro ⟨y, a, b, c, d⟩
        rw [Int.mul_comm] at c d
        have e1 := (cdiv_le_pos hp).mpr c
        have e2 := (le_fdiv_pos hp).mpr d
        omega
    · have hn : v < 0 := by omega
      simp only [decide_eq_true_eq]
      constructor
      · intro hm
        have h1 : cdiv hi v ≤ max (cdiv hi v) la := by omega
        have h2 : max (cdiv hi v) la ≤ lo.fdiv v := by omega
        have e1 := (cdiv_le_neg hn).mp h1
        have e2 := (le_fdiv_neg hn).mp h2
        rw [Int.mul_comm] at e1 e2
        exact ⟨max (cdiv hi v) la, by omega, by omega, e2, e1⟩
      · rintro ⟨y, a, b, c, d⟩
        rw [Int.mul_comm] at c d
        have e1 := (cdiv_le_neg hn).mpr d
        have e2 := (le_fdiv_neg hn).mpr c
        omega

theorem tq_iff {a1 b1 v u : Int} : tq a1 b1 v u = true ↔ u ≠ 0 ∧ ∃ y, a1 ≤ y ∧ y ≤ b1 ∧ u * y = v := by
  unfold tq
  simp only [Bool.and_eq_true, bne_iff_ne, ne_eq, beq_iff_eq, decide_eq_true_eq, and_true]
  constructor
  · rintro ⟨h0, h1, h2, h3⟩
    have := Int.fmod_add_mul_fdiv v u
    exact ⟨h0, _, h2, h3, by omega⟩
  · rintro ⟨h0, y, h1, h2, rfl⟩
    rw [Int.mul_fdiv_cancel_left _ h0]
    exact ⟨h0, Int.mul_fmod_right _ _, h1, h2⟩
theorem iab_le_mul {x y v : Int} (hv : v ≠ 0) (h : x * y = v) : iab x ≤ iab v := by
  have hx : x ∣ v := ⟨y, h.symm⟩
  have h1 := Int.natAbs_dvd_natAbs.mpr hx
  have h2 := Nat.le_of_dvd (by omega) h1
  unfold iab; split <;> split <;> omega
theorem tcb2_iff {a0 b0 a1 b1 v : Int} (h0 : a0 ≤ b0) (h1 : a1 ≤ b1) : tcb2 a0 b0 a1 b1 v = true ↔ ∃ x y, a0 ≤ x ∧ x ≤ b0 ∧ a1 ≤ y ∧ y ≤ b1 ∧ x * y = v := by
  unfold tcb2
  split
  · rename_i hv
    subst hv
    simp only [Bool.or_eq_true, decide_eq_true_eq]
    constructor
    · rintro (h | h)
      · exact ⟨0, a1, by omega, by omega, Int.le_refl _, h1, Int.zero_mul _⟩
      · exact ⟨a0, 0, Int.le_refl _, h0, by omega, by omega, Int.mul_zero _⟩
    · rintro ⟨x, y, a, b, c, d, e⟩
      rcases Int.mul_eq_zero.mp e with rfl | rfl
      · exact .inl (by omega)
      · exact .inr (by omega)
  · rename_i hv
    rw [List.any_eq_true]
    constructor
    · rintro ⟨u, hu, ht⟩
      obtain ⟨_, y, a, b, c⟩ := tq_iff.mp ht
      have := mem_rngL.mp hu
      exact ⟨u, y, by omega, by omega, a, b, c⟩
    · rintro ⟨x, y, a, b, c, d, e⟩
      have hle := iab_le_mul hv e
      refine ⟨x, mem_rngL.mpr ?_, tq_iff.mpr ⟨?_, y, c, d, e⟩⟩
      · unfold iab at *
        split at hle <;> split at hle <;> simp only [*, if_true, if_false] <;> omega
      · rintro rfl
        rw [Int.zero_mul] at e; exact hv e.symm

theorem mul_between {x y1 y2 y : Int} (h1 : y1 ≤ y) (h2 : y ≤ y2) : (x * y1 ≤ x * y ∧ x * y ≤ x * y2) ∨ (x * y2 ≤ x * y ∧ x * y ≤ x * y1) := by
  rcases Int.le_total 0 x with h | h
  · exact .inl ⟨Int.mul_le_mul_of_nonneg_left h1 h, Int.mul_le_mul_of_nonneg_left h2 h⟩
  · exact .inr ⟨Int.mul_le_mul_of_nonpos_left h h2, Int.mul_le_mul_of_nonpos_left h h1⟩
theorem cor_in {a0 b0 a1 b1 x y : Int} (hx : a0 ≤ x ∧ x ≤ b0) (hy : a1 ≤ y ∧ y ≤ b1) : mnL (cor a0 b0 a1 b1) ≤ x * y ∧ x * y ≤ mxL (cor a0 b0 a1 b1) := by
  have m1 : mnL (cor a0 b0 a1 b1) ≤ a0 * a1 := mnL_le (by simp [cor])
  have m2 : mnL (cor a0 b0 a1 b1) ≤ a0 * b1 := mnL_le (by simp [cor])
  have m3 : mnL (cor a0 b0 a1 b1) ≤ b0 * a1 := mnL_le (by simp [cor])
  have m4 : mnL (cor a0 b0 a1 b1) ≤ b0 * b1 := mnL_le (by simp [cor])
  have n1 : a0 * a1 ≤ mxL (cor a0 b0 a1 b1) := mxL_le (by simp [cor])
  have n2 : a0 * b1 ≤ mxL (cor a0 b0 a1 b1) := mxL_le (by simp [cor])
  have n3 : b0 * a1 ≤ mxL (cor a0 b0 a1 b1) := mxL_le (by simp [cor])
  have n4 : b0 * b1 ≤ mxL (cor a0 b0 a1 b1) := mxL_le (by simp [cor])
  have e1 := mul_between (x := x) hy.1 hy.2
  have e2 := mul_between (x := a1) hx.1 hx.2
  have e3 := mul_between (x := b1) hx.1 hx.2
  rw [Int.mul_comm a1, Int.mul_comm a1, Int.mul_comm a1] at e2
  rw [Int.mul_comm b1, Int.mul_comm b1, Int.mul_comm b1] at e3
  generalize mnL (cor a0 b0 a1 b1) = mn at *
  generalize mxL (cor a0 b0 a1 b1) = mx at *
  generalize x * y = p at *
  generalize a0 * a1 = p1 at *
  generalize a0 * b1 = p2 at *
  generalize b0 * a1 = p3 at *
  generalize b0 * b1 = p4 at *
  generalize x * a1 = q1 at *
  generalize x * b1 = q2 at *
  omega

theorem mem_prs {l h ga gb : Int} {z : Int × Int} : z ∈ prs l h ga gb ↔ ∃ p : Int × Int, (p = (max l 1, h) ∨ p = (l, min h (-1))) ∧ p.1 ≤ p.2 ∧ (z = (ga, p.1) ∨ z = (gb, p.1) ∨ z = (ga, p.2) ∨ z = (gb, p.2)) := by
  unfold prs
  simp only [List.mem_flatMap, List.mem_filter, List.mem_cons, List.not_mem_nil, or_false, decide_eq_true_eq, and_assoc]
theorem prs_ok {l h ga gb : Int} (h1 : -(10 ^ 100) ≤ l) (h2 : h ≤ 10 ^ 100) : ∀ z ∈ prs l h ga gb, z.2 ≠ 0 ∧ Small z.2 := fun z hz => by
  obtain ⟨p, hp, hle, hz⟩ := mem_prs.mp hz
  have : z.2 = p.1 ∨ z.2 = p.2 := by rcases hz with rfl | rfl | rfl | rfl <;> simp
  have hb : z.2 ≠ 0 ∧ -(10 ^ 200) ≤ z.2 ∧ z.2 ≤ 10 ^ 200 := by
    rcases hp with rfl | rfl <;> (simp only at hle this; omega)
  exact ⟨hb.1, small_of hb.2.1 hb.2.2⟩

theorem tout_in {l h ga gb oa ob x y : Int} (hy : l ≤ y ∧ y ≤ h) (hz : ga ≤ x * y ∧ x * y ≤ gb) (hx : oa ≤ x ∧ x ≤ ob) : (tout l h ga gb oa ob).1 ≤ x ∧ x ≤ (tout l h ga gb oa ob).2 := by
  unfold tout
  split
  · exact hx
  · rename_i h0
    have hy0 : y ≠ 0 := by
      rintro rfl
      rw [Int.mul_zero] at hz
      omega
    -- the part with y
    obtain ⟨p, hp, hp1, hp2, hs⟩ : ∃ p : Int × Int, (p = (max l 1, h) ∨ p = (l, min h (-1))) ∧ p.1 ≤ y ∧ y ≤ p.2 ∧ (0 < p.1 ∨ p.2 < 0) := by
      rcases Int.lt_or_gt_of_ne hy0 with q | q
      · exact ⟨_, .inr rfl, by simp only; omega, by simp only; omega, .inr (by simp only; omega)⟩
      · exact ⟨_, .inl rfl, by simp only; omega, by simp only; omega, .inl (by simp only; omega)⟩
    have hm : ∀ z, (z = (ga, p.1) ∨ z = (gb, p.1) ∨ z = (ga, p.2) ∨ z = (gb, p.2)) → z ∈ prs l h ga gb := fun z hz => mem_prs.mpr ⟨p, hp, by omega, hz⟩
    rw [if_neg (fun e => by have := hm _ (.inl rfl); rw [e] at this; cases this)]
    have lo : ∀ z, z ∈ prs l h ga gb → cdiv z.1 z.2 ≤ x → mnL ((prs l h ga gb).map fun z => cdiv z.1 z.2) ≤ x := fun z hz hc => Int.le_trans (mnL_le (List.mem_map_of_mem hz)) hc
    have hi : ∀ z, z ∈ prs l h ga gb → x ≤ z.1.fdiv z.2 → x ≤ mxL ((prs l h ga gb).map fun z => z.1.fdiv z.2) := fun z hz hc => Int.le_trans hc (mxL_le (List.mem_map_of_mem (f := fun z : Int × Int => z.1.fdiv z.2) hz))
    have e := mul_between (x := x) hp1 hp2
    rcases hs with hs | hs
    · have s1 : 0 < p.1 := hs
      have s2 : 0 < p.2 := by omega
      rcases e with ⟨e1, e2⟩ | ⟨e1, e2⟩
      · exact ⟨lo _ (hm _ (.inr (.inr (.inl rfl)))) ((cdiv_le_pos s2).mpr (by simp only; omega)), hi _ (hm _ (.inr (.inl rfl))) ((le_fdiv_pos s1).mpr (by simp only; omega))⟩
      · exact ⟨lo _ (hm _ (.inl rfl)) ((cdiv_le_pos s1).mpr (by simp only; omega)), hi _ (hm _ (.inr (.inr (.inr rfl)))) ((le_fdiv_pos s2).mpr (by simp only; omega))⟩
    · have s2 : p.2 < 0 := hs
      have s1 : p.1 < 0 := by omega
      rcases e with ⟨e1, e2⟩ | ⟨e1, e2⟩
      · exact ⟨lo _ (hm _ (.inr (.inl rfl))) ((cdiv_le_neg s1).mpr (by simp only; omega)), hi _ (hm _ (.inr (.inr (.inl rfl)))) ((le_fdiv_neg s2).mpr (by simp only; omega))⟩
      · exact ⟨lo _ (hm _ (.inr (.inr (.inr rfl)))) ((cdiv_le_neg s2).mpr (by simp only; omega)), hi _ (hm _ (.inl rfl)) ((le_fdiv_neg s1).mpr (by simp only; omega))⟩
end Mine

/- M3 -/
namespace Mine

theorem mul_big (y z : Int) : y * z = 0 ∨ iab y ≤ iab (y * z) := by
  by_cases hz : z = 0
  · subst hz; exact .inl (Int.mul_zero _)
  · refine .inr ?_
    have h := Int.natAbs_mul y z
    have hz' : 1 ≤ z.natAbs := by omega
    have := Nat.mul_le_mul_left y.natAbs hz'
    rw [Nat.mul_one] at this
    unfold iab; split <;> split <;> omega
theorem isq_iff {x y z : Int} : isq x y z = true ↔ iab (x - y * z) < iab y ∧ (x - y * z = 0 ∨ (0 < x - y * z ↔ 0 < x)) := by
  unfold isq
  simp only [Bool.and_eq_true, Bool.or_eq_true, decide_eq_true_eq, beq_iff_eq, decide_eq_decide]
theorem isq_dby {x y z : Int} (hy : y ≠ 0) : isq x y z = true ↔ (dby y z).1 ≤ x ∧ x ≤ (dby y z).2 := by
  rw [isq_iff]
  have hb := mul_big y z
  unfold dby
  by_cases hz : z = 0
  · rw [if_pos hz]; subst hz
    rw [Int.mul_zero]
    unfold iab
    dsimp only
    split <;> split <;> omega
  · rw [if_neg hz]
    have hp : y * z ≠ 0 := fun e => (Int.mul_eq_zero.mp e).elim hy hz
    generalize y * z = p at *
    by_cases h : 0 < p
    · rw [if_pos h]; unfold iab at *; dsimp only; split <;> split at hb <;> omega
    · rw [if_neg h]; unfold iab at *; dsimp only; split <;> split at hb <;> omega
theorem dby_le {y z : Int} (hy : y ≠ 0) : (dby y z).1 ≤ (dby y z).2 := by
  unfold dby iab
  split
  · dsimp only; split <;> omega
  · split <;> (dsimp only; split <;> omega)
theorem ediv_iff {X Y d : Int} (hY : 0 < Y) : X / Y = d ↔ d * Y ≤ X ∧ X < d * Y + Y := by
  constructor
  · rintro rfl
    have h1 := Int.ediv_mul_le X (b := Y) (by omega)
    have h2 := Int.lt_ediv_add_one_mul_self X hY
    rw [Int.add_mul, Int.one_mul] at h2
    exact ⟨h1, h2⟩
  · rintro ⟨h1, h2⟩
    have e1 := (Int.le_ediv_iff_mul_le hY).mpr h1
    have e2 := (Int.ediv_lt_iff_lt_mul hY (a := X) (b := d + 1)).mpr (by rw [Int.add_mul, Int.one_mul]; exact h2)
    omega
theorem iab_or (a : Int) : (a < 0 ∧ iab a = -a) ∨ (0 ≤ a ∧ iab a = a) := by unfold iab; split <;> omega
theorem isq_trn {x y z : Int} (hy : y ≠ 0) : isq x y z = true ↔ trn x y = z := by
  rw [isq_iff]
  have hb := mul_big y z
  have hY : 0 < iab y := by unfold iab; split <;> omega
  have e1 : iab x / iab y = z ↔ _ := ediv_iff hY
  have e2 : iab x / iab y = -z ↔ _ := ediv_iff hY
  have k1 : (y < 0 ∧ z * iab y = -(y * z)) ∨ (0 ≤ y ∧ z * iab y = y * z) := by
    rcases iab_or y with ⟨a, b⟩ | ⟨a, b⟩
    · exact .inl ⟨a, by rw [b, Int.mul_neg, Int.mul_comm]⟩
    · exact .inr ⟨a, by rw [b, Int.mul_comm]⟩
  rw [Int.neg_mul] at e2
  have i1 := iab_or x
  have i2 := iab_or y
  have i3 := iab_or (y * z)
  have i4 := iab_or (x - y * z)
  have hd : trn x y = (if (x < 0 ↔ y < 0) then iab x / iab y else -(iab x / iab y)) := by
    unfold trn
    rw [fdiv_pos' (iab_nonneg y)]
    simp only [beq_iff_eq, decide_eq_decide]
  rw [hd]
  generalize iab x / iab y = q at *
  generalize z * iab y = zY at *
  generalize iab (x - y * z) = D at *
  generalize iab (y * z) = IP at *
  generalize y * z = p at *
  generalize iab x = X at *
  generalize iab y = Y at *
  by_cases hs : (x < 0 ↔ y < 0)
  · rw [if_pos hs, e1]; omega
  · rw [if_neg hs, show (-q = z ↔ q = -z) by omega, e2]; omega

section
variable {a0 b0 a1 b1 a2 b2 v : Int}
theorem far_gt {x : Int} (h : a0 ≤ x ∧ x ≤ b0) : iab x < far0 a0 b0 := by
  unfold far0 iab; split <;> split <;> split <;> omega
theorem mem_divs {y : Int} : y ∈ divs a0 b0 a1 b1 ↔ (min b1 (far0 a0 b0) < max a1 (-far0 a0 b0) ∧ y = if 0 < a1 then a1 else b1) ∨ (¬ min b1 (far0 a0 b0) < max a1 (-far0 a0 b0) ∧ (max a1 (-far0 a0 b0) ≤ y ∧ y ≤ min b1 (far0 a0 b0)) ∧ y ≠ 0) := by
  unfold divs
  split
  · rename_i h; simp [h]
  · rename_i h
    simp only [List.mem_filter, mem_rngL, bne_iff_ne, h, false_and, false_or, not_false_eq_true, true_and]
    omega
theorem far_pos : 1 ≤ far0 a0 b0 := by unfold far0 iab; split <;> split <;> omega
theorem divs_sub {y : Int} (h1 : a1 ≤ b1) (h : y ∈ divs a0 b0 a1 b1) : a1 ≤ y ∧ y ≤ b1 ∧ y ≠ 0 := by
  have := far_pos (a0 := a0) (b0 := b0)
  rcases mem_divs.mp h with ⟨p, q⟩ | ⟨p, q, r⟩
  · split at q <;> omega
  · omega
theorem divs_rep {y : Int} (h : a1 ≤ y ∧ y ≤ b1) (hy : y ≠ 0) : ∃ y' ∈ divs a0 b0 a1 b1, y' = y ∨ (far0 a0 b0 ≤ iab y' ∧ far0 a0 b0 ≤ iab y) := by
  have hf := far_pos (a0 := a0) (b0 := b0)
  by_cases hl : min b1 (far0 a0 b0) < max a1 (-far0 a0 b0)
  · exact ⟨_, mem_divs.mpr (.inl ⟨hl, rfl⟩), .inr (by unfold iab; split <;> (constructor <;> (split <;> omega)))⟩
  · by_cases h1 : y < -far0 a0 b0
    · exact ⟨-far0 a0 b0, mem_divs.mpr (.inr ⟨hl, by omega, by omega⟩), .inr (by unfold iab; constructor <;> (split <;> omega))⟩
    · by_cases h2 : far0 a0 b0 < y
      · exact ⟨far0 a0 b0, mem_divs.mpr (.inr ⟨hl, by omega, by omega⟩), .inr (by unfold iab; constructor <;> (split <;> omega))⟩
      · exact ⟨y, mem_divs.mpr (.inr ⟨hl, by omega, hy⟩), .inl rfl⟩
theorem isq_far {x y z : Int} (hx : a0 ≤ x ∧ x ≤ b0) (hy : far0 a0 b0 ≤ iab y) : isq x y z = true ↔ z = 0 := by
  have h := far_gt hx
  have hf := far_pos (a0 := a0) (b0 := b0)
  have hy0 : y ≠ 0 := by rintro rfl; simp [iab] at hy; omega
  rw [isq_trn hy0, trn_zero (by omega)]
  exact ⟨Eq.symm, Eq.symm⟩

theorem q0_iff (h1 : a1 ≤ b1) (h2 : a2 ≤ b2) (hv : a0 ≤ v ∧ v ≤ b0) : ((divs a0 b0 a1 b1).any fun y => decide (max a2 (trn v y) ≤ min b2 (trn v y))) = true ↔ ∃ y z, (a1 ≤ y ∧ y ≤ b1) ∧ (a2 ≤ z ∧ z ≤ b2) ∧ y ≠ 0 ∧ isq v y z = true := by
  rw [List.any_eq_true]
  simp only [decide_eq_true_eq]
  constructor
  · rintro ⟨y, hy, h⟩
    obtain ⟨p, q, r⟩ := divs_sub h1 hy
    exact ⟨y, trn v y, ⟨p, q⟩, by omega, r, (isq_trn r).mpr rfl⟩
  · rintro ⟨y, z, hy, hz, h0, hq⟩
    obtain ⟨y', hy', e⟩ := divs_rep (a0 := a0) (b0 := b0) hy h0
    have hy0' := (divs_sub h1 hy').2.2
    refine ⟨y', hy', ?_⟩
    have : trn v y' = z := by
      rcases e with rfl | ⟨e1, e2⟩
      · exact (isq_trn hy0').mp hq
      · exact (isq_trn hy0').mp ((isq_far hv e1).mpr ((isq_far hv e2).mp hq))
    omega
theorem q2_iff (h0 : a0 ≤ b0) (h1 : a1 ≤ b1) : ((divs a0 b0 a1 b1).any fun y => decide (max (dby y v).1 a0 ≤ min (dby y v).2 b0)) = true ↔ ∃ x y, (a0 ≤ x ∧ x ≤ b0) ∧ (a1 ≤ y ∧ y ≤ b1) ∧ y ≠ 0 ∧ isq x y v = true := by
  rw [List.any_eq_true]
  simp only [decide_eq_true_eq]
  constructor
  · rintro ⟨y, hy, h⟩
    obtain ⟨p, q, r⟩ := divs_sub h1 hy
    exact ⟨max (dby y v).1 a0, y, by omega, ⟨p, q⟩, r, (isq_dby r).mpr (by omega)⟩
  · rintro ⟨x, y, hx, hy, hy0, hq⟩
    obtain ⟨y', hy', e⟩ := divs_rep (a0 := a0) (b0 := b0) hy hy0
    have hy0' := (divs_sub h1 hy').2.2
    refine ⟨y', hy', ?_⟩
    have hq' : isq x y' v = true := by
      rcases e with rfl | ⟨e1, e2⟩
      · exact hq
      · exact (isq_far hx e1).mpr ((isq_far hx e2).mp hq)
    have := (isq_dby hy0').mp hq'
    have := dby_le (y := y') (z := v) hy0'
    omega
/-- the quotient goes one way -/
theorem trn_mono {x x' v : Int} (hv : v ≠ 0) (h : x ≤ x') : (0 < v → trn x v ≤ trn x' v) ∧ (v < 0 → trn x' v ≤ trn x v) := by
  have step : ∀ V : Int, 0 < V → ∀ X X' : Int, 0 ≤ X → X ≤ X' → X / V ≤ X' / V := fun V hV X X' _ h => Int.ediv_le_ediv hV h
  have nn : ∀ V : Int, 0 < V → ∀ X : Int, 0 ≤ X → 0 ≤ X / V := fun V hV X hX => Int.ediv_nonneg hX (by omega)
  have hY : 0 < iab v := by unfold iab; split <;> omega
  unfold trn
  rw [fdiv_pos' (iab_nonneg v), fdiv_pos' (iab_nonneg v)]
  have n1 := nn _ hY _ (iab_nonneg x)
  have n2 := nn _ hY _ (iab_nonneg x')
  simp only [beq_iff_eq, decide_eq_decide]
  by_cases hx : x < 0
  · by_cases hx' : x' < 0
    · have := step _ hY (iab x') (iab x) (iab_nonneg _) (by have := iab_or x; have := iab_or x'; omega)
      constructor <;> intro hv'
      · rw [if_neg (by omega), if_neg (by omega)]; omega
      · rw [if_pos (by omega), if_pos (by omega)]; omega
    · constructor <;> intro hv'
      · rw [if_neg (by omega), if_pos (by omega)]; omega
      · rw [if_neg (by omega), if_pos (by omega)]; omega
  · have hx' : ¬ x' < 0 := by omega
    have := step _ hY (iab x) (iab x') (iab_nonneg _) (by have := iab_or x; have := iab_or x'; omega)
    constructor <;> intro hv'
    · rw [if_pos (by omega), if_pos (by omega)]; omega
    · rw [if_neg (by omega), if_neg (by omega)]; omega
theorem trn_mul {v w : Int} (hv : v ≠ 0) : trn (v * w) v = w := (isq_trn hv).mp (isq_iff.mpr ⟨by rw [Int.sub_self]; unfold iab; split <;> split <;> omega, .inl (Int.sub_self _)⟩)
theorem q1_iff (h0 : a0 ≤ b0) (h2 : a2 ≤ b2) : qcb1 a0 b0 a2 b2 v = true ↔ v ≠ 0 ∧ ∃ x z, (a0 ≤ x ∧ x ≤ b0) ∧ (a2 ≤ z ∧ z ≤ b2) ∧ isq x v z = true := by
  unfold qcb1
  by_cases hv : v = 0
  · rw [if_pos hv]; simp [hv]
  · rw [if_neg hv]
    simp only [decide_eq_true_eq]
    constructor
    · intro h
      refine ⟨hv, ?_⟩
      -- the value in both
      have key : ∀ w, min (trn a0 v) (trn b0 v) ≤ w → w ≤ max (trn a0 v) (trn b0 v) → ∃ x, (a0 ≤ x ∧ x ≤ b0) ∧ trn x v = w := fun w w1 w2 => by
        by_cases e1 : trn a0 v = w
        · exact ⟨a0, by omega, e1⟩
        by_cases e2 : trn b0 v = w
        · exact ⟨b0, by omega, e2⟩
        refine ⟨v * w, ?_, trn_mul hv⟩
        have tm := trn_mul (v := v) (w := w) hv
        rcases Int.lt_or_gt_of_ne hv with hn | hp
        · have m0 := (trn_mono hv h0).2 hn
          constructor
          · rcases Int.le_total a0 (v * w) with q | q
            · exact q
            · have := (trn_mono hv q).2 hn
              omega
          · rcases Int.le_total (v * w) b0 with q | q
            · exact q
            · have := (trn_mono hv q).2 hn
              omega
        · have m0 := (trn_mono hv h0).1 hp
          constructor
          · rcases Int.le_total a0 (v * w) with q | q
            · exact q
            · have := (trn_mono hv q).1 hp
              omega
          · rcases Int.le_total (v * w) b0 with q | q
            · exact q
            · have := (trn_mono hv q).1 hp
              omega
      obtain ⟨x, hx, e⟩ := key (max (min (trn a0 v) (trn b0 v)) a2) (by omega) (by omega)
      exact ⟨x, _, hx, by omega, (isq_trn hv).mpr e⟩
    · rintro ⟨_, x, z, hx, hz, hq⟩
      have e := (isq_trn hv).mp hq
      rcases Int.lt_or_gt_of_ne hv with hn | hp
      · have := (trn_mono hv hx.1).2 hn
        have := (trn_mono hv hx.2).2 hn
        omega
      · have := (trn_mono hv hx.1).1 hp
        have := (trn_mono hv hx.2).1 hp
        omega

theorem qo2 {x y z : Int} (hx : a0 ≤ x ∧ x ≤ b0) (hy : y ≠ 0) (hq : isq x y z = true) : -(max (iab a0) (iab b0)) ≤ z ∧ z ≤ max (iab a0) (iab b0) := by
  obtain ⟨h1, h2⟩ := isq_iff.mp hq
  have hb := mul_big y z
  have hb' := mul_big z y
  rw [Int.mul_comm z y] at hb'
  have hz0 : y * z = 0 → z = 0 := fun e => (Int.mul_eq_zero.mp e).elim (fun q => absurd q hy) id
  generalize y * z = p at *
  have hX : iab x ≤ max (iab a0) (iab b0) := by unfold iab; split <;> split <;> split <;> omega
  generalize max (iab a0) (iab b0) = M at *
  by_cases hz : p = 0
  · have := hz0 hz
    have := iab_nonneg x
    omega
  · have : iab z ≤ iab p := by omega
    have : iab y ≤ iab p := by omega
    have : iab p ≤ iab x := by unfold iab at *; split at h1 <;> split at h1 <;> split <;> split <;> omega
    have : iab z ≤ M := by omega
    unfold iab at this; split at this <;> omega
theorem qo0 {x y z : Int} (hy : a1 ≤ y ∧ y ≤ b1) (hz : a2 ≤ z ∧ z ≤ b2) (hq : isq x y z = true) : -(qmost a1 b1 a2 b2) ≤ x ∧ x ≤ qmost a1 b1 a2 b2 := by
  obtain ⟨h1, h2⟩ := isq_iff.mp hq
  have hY : iab y ≤ max (iab a1) (iab b1) := by unfold iab; split <;> split <;> split <;> omega
  have hZ : iab z ≤ max (iab a2) (iab b2) := by unfold iab; split <;> split <;> split <;> omega
  have m1 : (iab z + 1) * iab y ≤ (max (iab a2) (iab b2) + 1) * iab y := Int.mul_le_mul_of_nonneg_right (by omega) (iab_nonneg y)
  have m2 : (max (iab a2) (iab b2) + 1) * iab y ≤ (max (iab a2) (iab b2) + 1) * max (iab a1) (iab b1) := Int.mul_le_mul_of_nonneg_left hY (by have := iab_nonneg z; omega)
  have e : iab (y * z) = iab z * iab y := by
    have q : ∀ a : Int, iab a = (a.natAbs : Int) := fun a => by unfold iab; split <;> omega
    rw [q, q, q, Int.natAbs_mul, Nat.mul_comm]; exact Int.natCast_mul _ _
  rw [Int.add_mul, Int.one_mul, ← e] at m1
  unfold qmost
  generalize (max (iab a2) (iab b2) + 1) * max (iab a1) (iab b1) = M at *
  generalize (max (iab a2) (iab b2) + 1) * iab y = M' at *
  generalize y * z = p at *
  have : iab x ≤ M - 1 := by unfold iab at *; split at h1 <;> split <;> split at m1 <;> split at m1 <;> omega
  unfold iab at this; split at this <;> omega
end
end Mine

/- P7 -/
namespace Mine
section
variable {w : World} {mean : ExcName → Option Value} {mg mb : Str → Option Value} {k : Nat} {σ : Store} {sc : Scope}

abbrev t3 (t : Int × Int × Int) : PV := .tup [.int t.1, .int t.2.1, .int t.2.2]
def sel (s : Int) (t : Int × Int × Int) : Int := if s = 0 then t.1 else if s = 1 then t.2.1 else t.2.2
def pk (s a b c : Int) : Int := if s = 0 then a else if s = 1 then b else c
def mets (s : Int) (tr : List (Int × Int × Int)) : List Int := tr.map (sel s)
theorem itm3 {s : Int} {t : Int × Int × Int} (hs : s ∈ [(0 : Int), 1, 2]) : ItemOk (t3 t) s σ (.int (sel s t)) := by
  simp only [List.mem_cons, List.not_mem_nil, or_false] at hs
  rcases hs with rfl | rfl | rfl <;> exact ⟨by decide, rfl, Nat.le_of_ble_eq_true rfl⟩
theorem itmR {s a0 b0 a1 b1 a2 b2 : Int} (hs : s ∈ [(0 : Int), 1, 2]) : ItemOk (R3 a0 b0 a1 b1 a2 b2) s σ (.tup [.int (pk s a0 a1 a2), .int (pk s b0 b1 b2)]) := by
  simp only [List.mem_cons, List.not_mem_nil, or_false] at hs
  rcases hs with rfl | rfl | rfl <;> exact ⟨by decide, rfl, Nat.le_of_ble_eq_true rfl⟩

theorem c_narrow_270 {a0 b0 a1 b1 a2 b2 : Int} {tr : List (Int × Int × Int)} (out : Int → Int × Int) (cb : Int → Int → Bool) (hk : 104 ≤ k) (hL : tr.length ≤ 1000) (hW : ∀ s ∈ [(0 : Int), 1, 2], pk s b0 b1 b2 - pk s a0 a1 a2 ≤ 1000)
    (HO : ∀ k, 103 ≤ k → ∀ s ∈ [(0 : Int), 1, 2], CallsV (GG w mean mg mb) k (.ref 260) σ [.inst 270, R3 a0 b0 a1 b1 a2 b2, .int s] (.tup [.int (out s).1, .int (out s).2]) σ)
    (HC : ∀ k, 103 ≤ k → ∀ s ∈ [(0 : Int), 1, 2], ∀ v ∈ rngL (pk s a0 a1 a2) (pk s b0 b1 b2 + 1), CallsV (GG w mean mg mb) k (.ref 246) σ [.inst 270, R3 a0 b0 a1 b1 a2 b2, .int s, .int v] (.bool (cb s v)) σ)
    (h1 : ∀ s ∈ [(0 : Int), 1, 2], ∀ v ∈ mets s tr, (out s).1 ≤ v ∧ v ≤ (out s).2) (h2 : ∀ s ∈ [(0 : Int), 1, 2], ∀ v ∈ rngL (pk s a0 a1 a2) (pk s b0 b1 b2 + 1), cb s v = (mets s tr).any (· == v)) :
    CallsV (GG w mean mg mb) k (.ref 319) σ [.inst 270, R3 a0 b0 a1 b1 a2 b2, .lst (tr.map t3)] (.bool true) σ := by
  have hh : PySem.Challenge.rw_pc0029_01.name = PySem.Str.ofString "law" := rfl
  have hH : hd.heap_39 w.params = hd.heap_39 w.params := rfl
  revert hh hH
  k_fill
  intro hh hH
  obtain ⟨j, rfl⟩ : ∃ j, k = j + 1 := ⟨k - 1, by omega⟩
  refine' calls_def ?ho ?hcd ?hn ?hl ?hnn ?hb ?hkind ?hnd ?hk ?hco ?hgen ?hcn ?h
  case ho => (show (hd.heap_39 w.params).lookup 319 = _); k_is
  case hcd => (show codeIn (hd.heap_39 w.params) _ _ = _); k_is
  case hn => rfl
  case hl => rfl
  case hnn => decide
  case hb => exact vals3 (fun _ _ _ => rfl)
  case hkind => decide
  case hnd => decide
  case hk => rfl
  case hco => rfl
  case hgen => rfl
  case hcn => decide
  have q1 : ∀ s ∈ [(0 : Int), 1, 2], ((mets s tr).any fun v => !(decide ((out s).1 ≤ v) && decide (v ≤ (out s).2))) = false := fun s hs => by
    rw [List.any_eq_false]
    intro v hv
    have := h1 s hs v hv
    simp [this.1, this.2]
  have q2 : ∀ s ∈ [(0 : Int), 1, 2], ((rngL (pk s a0 a1 a2) (pk s b0 b1 b2 + 1)).any fun v => !(cb s v == (mets s tr).any (· == v))) = false := fun s hs => by
    rw [List.any_eq_false]
    intro v hv
    rw [h2 s hs v hv]
    simp
  exact (ex_cons (ex1_for (ev_call (gl_range rfl) keep_type (evs_cons ev_int evs_nil (fun _ => rfl)) calls_range1 (fun _ => rfl) (fun _ => rfl)) rfl ((fl_any (g := PV.int) (r := .none) (fun _ => false) [0, 1, 2] (fun s hs => ⟨_, _, asg_name (.inr ⟨rfl, rfl⟩), fun hb => absurd hb (by decide), fun hb => (by exact (ex_cons (ex1_assign (by exact Run.conv (ev_listcomp rfl ⟨rfl, by decide, by decide, by decide, rfl⟩ (ev_name rfl rfl rfl rfl) rfl (clL (g := t3) (fun t : Int × Int × Int => true) (fun t => PV.int (sel s t)) rfl rfl rfl tr (fun t ht => ⟨_, (asg_name (.inl rfl)), tsts_nil, fun hb => (by exact (ev_item (ev_name rfl rfl rfl rfl) (ev_name rfl rfl rfl rfl) (itm3 hs) (fun _ _ => rfl))), by exact ext1 rfl ext0⟩)) (Nat.le_trans (by rw [filter_tt, List.length_map]; exact hL) (by decide)) (fun _ _ => rfl)) (show PV.lst _ = PV.lst ((mets s tr).map PV.int) by unfold mets; rw [filter_tt, List.map_map]; rfl)) (.inr rfl) (fun env h => by cases env; subst h; rfl)) (ex_cons (ex1_assign_tuple (ev_mcall (ev_name rfl rfl rfl rfl) pg_270_outer fi_270_outer fn_270_outer ke_270_outer mn_outer (evs_cons (ev_name rfl rfl rfl rfl) (evs_cons (ev_name rfl rfl rfl rfl) evs_nil (fun _ => rfl)) (fun _ => rfl)) (HO _ (by omega) s hs) rfl (fun _ => rfl) (fun _ => rfl) (fun _ => rfl)) (asg_tuple (asgs_cons (asg_name (.inr ⟨rfl, rfl⟩)) (asgs_cons (asg_name (.inr ⟨rfl, rfl⟩)) asgs_nil (fun _ => rfl)) (fun _ => rfl)) (fun _ => rfl) (fun _ => rfl)) (fun _ => rfl) (fun env h => by cases env; subst h; rfl)) (ex_skip (Tst.conv (tst_compare (ev_listcomp rfl ⟨rfl, by decide, by decide, by decide, rfl⟩ (ev_name rfl rfl rfl rfl) rfl (clL (g := PV.int) (fun v : Int => !(decide ((out s).1 ≤ v) && decide (v ≤ (out s).2))) (fun v => PV.int v) rfl rfl rfl (mets s tr) (fun v hv => ⟨_, (asg_name (.inl rfl)), (tsts_one (by exact (tst_not (tst_chain (ev_name rfl rfl rfl rfl) (ev_name rfl rfl rfl rfl) cmp_le (ev_name rfl rfl rfl rfl) cmp_le (by omega) rfl)))), fun hb => (by exact (ev_name rfl rfl rfl rfl)), by exact ext1 rfl ext0⟩)) (Nat.le_trans (len_filter (Nat.le_of_eq (List.length_map ..))) (Nat.le_trans hL (by decide))) (fun _ _ => rfl)) (ev_list evs_nil (Nat.le_of_ble_eq_true rfl)) cmp_ne_nil (by omega) rfl) (by rw [any_filter]; exact q1 s hs)) (ex_skip (Tst.conv (tst_compare (ev_listcomp rfl ⟨rfl, by decide, by decide, by decide, rfl⟩ (ev_call (gl_law_all rfl) kp_law_all (evs_cons (ev_item (ev_name rfl rfl rfl rfl) (ev_name rfl rfl rfl rfl) (itmR hs) (fun _ _ => rfl)) evs_nil (fun _ => rfl)) (c_law_all (by omega)) (fun _ => rfl) (fun _ => rfl)) itemsOf_rng (clL (g := PV.int) (fun v : Int => !(cb s v == (mets s tr).any (· == v))) (fun v => PV.int v) rfl rfl rfl (rngL (pk s a0 a1 a2) (pk s b0 b1 b2 + 1)) (fun v hv => ⟨_, (asg_name (.inl rfl)), (tsts_one (by exact (tst_compare (ev_mcall (ev_name rfl rfl rfl rfl) pg_270_can_be fi_270_can_be fn_270_can_be ke_270_can_be mn_can_be (evs_cons (ev_name rfl rfl rfl rfl) (evs_cons (ev_name rfl rfl rfl rfl) (evs_cons (ev_name rfl rfl rfl rfl) evs_nil (fun _ => rfl)) (fun _ => rfl)) (fun _ => rfl)) (HC _ (by omega) s hs v hv) rfl (fun _ => rfl) (fun _ => rfl) (fun _ => rfl)) (ev_compare (ev_name rfl rfl rfl rfl) (ev_name rfl rfl rfl rfl) cmp_in_ints (by omega) rfl) cmp_ne_bool (by omega) rfl))), fun hb => (by exact (ev_name rfl rfl rfl rfl)), by exact ext1 rfl ext0⟩)) (Nat.le_trans (len_filter (by rw [length_rngL]; have := hW s hs; omega : _ ≤ 1001)) (by decide)) (fun _ _ => rfl)) (ev_list evs_nil (Nat.le_of_ble_eq_true rfl)) cmp_ne_nil (by omega) rfl) (by rw [any_filter]; exact q2 s hs)) ex_nil))))), by exact ext1 rfl (ext1 rfl (ext1 rfl (ext1 rfl ext0)))⟩)).2 rfl).choose_spec.2 (fun _ _ => rfl)) (ex_weaken (ex_return ev_bool rfl) ((fl_any (g := PV.int) (r := .none) (fun _ => false) [0, 1, 2] (fun s hs => ⟨_, _, asg_name (.inr ⟨rfl, rfl⟩), fun hb => absurd hb (by decide), fun hb => (by exact (ex_cons (ex1_assign (by exact Run.conv (ev_listcomp rfl ⟨rfl, by decide, by decide, by decide, rfl⟩ (ev_name rfl rfl rfl rfl) rfl (clL (g := t3) (fun t : Int × Int × Int => true) (fun t => PV.int (sel s t)) rfl rfl rfl tr (fun t ht => ⟨_, (asg_name (.inl rfl)), tsts_nil, fun hb => (by exact (ev_item (ev_name rfl rfl rfl rfl) (ev_name rfl rfl rfl rfl) (itm3 hs) (fun _ _ => rfl))), by exact ext1 rfl ext0⟩)) (Nat.le_trans (by rw [filter_tt, List.length_map]; exact hL) (by decide)) (fun _ _ => rfl)) (show PV.lst _ = PV.lst ((mets s tr).map PV.int) by unfold mets; rw [filter_tt, List.map_map]; rfl)) (.inr rfl) (fun env h => by cases env; subst h; rfl)) (ex_cons (ex1_assign_tuple (ev_mcall (ev_name rfl rfl rfl rfl) pg_270_outer fi_270_outer fn_270_outer ke_270_outer mn_outer (evs_cons (ev_name rfl rfl rfl rfl) (evs_cons (ev_name rfl rfl rfl rfl) evs_nil (fun _ => rfl)) (fun _ => rfl)) (HO _ (by omega) s hs) rfl (fun _ => rfl) (fun _ => rfl) (fun _ => rfl)) (asg_tuple (asgs_cons (asg_name (.inr ⟨rfl, rfl⟩)) (asgs_cons (asg_name (.inr ⟨rfl, rfl⟩)) asgs_nil (fun _ => rfl)) (fun _ => rfl)) (fun _ => rfl) (fun _ => rfl)) (fun _ => rfl) (fun env h => by cases env; subst h; rfl)) (ex_skip (Tst.conv (tst_compare (ev_listcomp rfl ⟨rfl, by decide, by decide, by decide, rfl⟩ (ev_name rfl rfl rfl rfl) rfl (clL (g := PV.int) (fun v : Int => !(decide ((out s).1 ≤ v) && decide (v ≤ (out s).2))) (fun v => PV.int v) rfl rfl rfl (mets s tr) (fun v hv => ⟨_, (asg_name (.inl rfl)), (tsts_one (by exact (tst_not (tst_chain (ev_name rfl rfl rfl rfl) (ev_name rfl rfl rfl rfl) cmp_le (ev_name rfl rfl rfl rfl) cmp_le (by omega) rfl)))), fun hb => (by exact (ev_name rfl rfl rfl rfl)), by exact ext1 rfl ext0⟩)) (Nat.le_trans (len_filter (Nat.le_of_eq (List.length_map ..))) (Nat.le_trans hL (by decide))) (fun _ _ => rfl)) (ev_list evs_nil (Nat.le_of_ble_eq_true rfl)) cmp_ne_nil (by omega) rfl) (by rw [any_filter]; exact q1 s hs)) (ex_skip (Tst.conv (tst_compare (ev_listcomp rfl ⟨rfl, by decide, by decide, by decide, rfl⟩ (ev_call (gl_law_all rfl) kp_law_all (evs_cons (ev_item (ev_name rfl rfl rfl rfl) (ev_name rfl rfl rfl rfl) (itmR hs) (fun _ _ => rfl)) evs_nil (fun _ => rfl)) (c_law_all (by omega)) (fun _ => rfl) (fun _ => rfl)) itemsOf_rng (clL (g := PV.int) (fun v : Int => !(cb s v == (mets s tr).any (· == v))) (fun v => PV.int v) rfl rfl rfl (rngL (pk s a0 a1 a2) (pk s b0 b1 b2 + 1)) (fun v hv => ⟨_, (asg_name (.inl rfl)), (tsts_one (by exact (tst_compare (ev_mcall (ev_name rfl rfl rfl rfl) pg_270_can_be fi_270_can_be fn_270_can_be ke_270_can_be mn_can_be (evs_cons (ev_name rfl rfl rfl rfl) (evs_cons (ev_name rfl rfl rfl rfl) (evs_cons (ev_name rfl rfl rfl rfl) evs_nil (fun _ => rfl)) (fun _ => rfl)) (fun _ => rfl)) (HC _ (by omega) s hs v hv) rfl (fun _ => rfl) (fun _ => rfl) (fun _ => rfl)) (ev_compare (ev_name rfl rfl rfl rfl) (ev_name rfl rfl rfl rfl) cmp_in_ints (by omega) rfl) cmp_ne_bool (by omega) rfl))), fun hb => (by exact (ev_name rfl rfl rfl rfl)), by exact ext1 rfl ext0⟩)) (Nat.le_trans (len_filter (by rw [length_rngL]; have := hW s hs; omega : _ ≤ 1001)) (by decide)) (fun _ _ => rfl)) (ev_list evs_nil (Nat.le_of_ble_eq_true rfl)) cmp_ne_nil (by omega) rfl) (by rw [any_filter]; exact q2 s hs)) ex_nil))))), by exact ext1 rfl (ext1 rfl (ext1 rfl (ext1 rfl ext0)))⟩)).2 rfl).choose_spec.1))

theorem c_narrow_199 {a0 b0 a1 b1 a2 b2 : Int} {tr : List (Int × Int × Int)} (out : Int → Int × Int) (cb : Int → Int → Bool) (hk : 104 ≤ k) (hL : tr.length ≤ 1000) (hW : ∀ s ∈ [(0 : Int), 1, 2], pk s b0 b1 b2 - pk s a0 a1 a2 ≤ 1000)
    (HO : ∀ k, 103 ≤ k → ∀ s ∈ [(0 : Int), 1, 2], CallsV (GG w mean mg mb) k (.ref 189) σ [.inst 199, R3 a0 b0 a1 b1 a2 b2, .int s] (.tup [.int (out s).1, .int (out s).2]) σ)
    (HC : ∀ k, 103 ≤ k → ∀ s ∈ [(0 : Int), 1, 2], ∀ v ∈ rngL (pk s a0 a1 a2) (pk s b0 b1 b2 + 1), CallsV (GG w mean mg mb) k (.ref 184) σ [.inst 199, R3 a0 b0 a1 b1 a2 b2, .int s, .int v] (.bool (cb s v)) σ)
    (h1 : ∀ s ∈ [(0 : Int), 1, 2], ∀ v ∈ mets s tr, (out s).1 ≤ v ∧ v ≤ (out s).2) (h2 : ∀ s ∈ [(0 : Int), 1, 2], ∀ v ∈ rngL (pk s a0 a1 a2) (pk s b0 b1 b2 + 1), cb s v = (mets s tr).any (· == v)) :
    CallsV (GG w mean mg mb) k (.ref 319) σ [.inst 199, R3 a0 b0 a1 b1 a2 b2, .lst (tr.map t3)] (.bool true) σ := by
  have hh : PySem.Challenge.rw_pc0029_01.name = PySem.Str.ofString "law" := rfl
  have hH : hd.heap_39 w.params = hd.heap_39 w.params := rfl
  revert hh hH
  k_fill
  intro hh hH
  obtain ⟨j, rfl⟩ : ∃ j, k = j + 1 := ⟨k - 1, by omega⟩
  refine' calls_def ?ho ?hcd ?hn ?hl ?hnn ?hb ?hkind ?hnd ?hk ?hco ?hgen ?hcn ?h
  case ho => (show (hd.heap_39 w.params).lookup 319 = _); k_is
  case hcd => (show codeIn (hd.heap_39 w.params) _ _ = _); k_is
  case hn => rfl
  case hl => rfl
  case hnn => decide
  case hb => exact vals3 (fun _ _ _ => rfl)
  case hkind => decide
  case hnd => decide
  case hk => rfl
  case hco => rfl
  case hgen => rfl
  case hcn => decide
  have q1 : ∀ s ∈ [(0 : Int), 1, 2], ((mets s tr).any fun v => !(decide ((out s).1 ≤ v) && decide (v ≤ (out s).2))) = false := fun s hs => by
    rw [List.any_eq_false]
    intro v hv
    have := h1 s hs v hv
    simp [this.1, this.2]
  have q2 : ∀ s ∈ [(0 : Int), 1, 2], ((rngL (pk s a0 a1 a2) (pk s b0 b1 b2 + 1)).any fun v => !(cb s v == (mets s tr).any (· == v))) = false := fun s hs => by
    rw [List.any_eq_false]
    intro v hv
    rw [h2 s hs v hv]
    simp
  exact (ex_cons (ex1_for (ev_call (gl_range rfl) keep_type (evs_cons ev_int evs_nil (fun _ => rfl)) calls_range1 (fun _ => rfl) (fun _ => rfl)) rfl ((fl_any (g := PV.int) (r := .none) (fun _ => false) [0, 1, 2] (fun s hs => ⟨_, _, asg_name (.inr ⟨rfl, rfl⟩), fun hb => absurd hb (by decide), fun hb => (by exact (ex_cons (ex1_assign (by exact Run.conv (ev_listcomp rfl ⟨rfl, by decide, by decide, by decide, rfl⟩ (ev_name rfl rfl rfl rfl) rfl (clL (g := t3) (fun t : Int × Int × Int => true) (fun t => PV.int (sel s t)) rfl rfl rfl tr (fun t ht => ⟨_, (asg_name (.inl rfl)), tsts_nil, fun hb => (by exact (ev_item (ev_name rfl rfl rfl rfl) (ev_name rfl rfl rfl rfl) (itm3 hs) (fun _ _ => rfl))), by exact ext1 rfl ext0⟩)) (Nat.le_trans (by rw [filter_tt, List.length_map]; exact hL) (by decide)) (fun _ _ => rfl)) (show PV.lst _ = PV.lst ((mets s tr).map PV.int) by unfold mets; rw [filter_tt, List.map_map]; rfl)) (.inr rfl) (fun env h => by cases env; subst h; rfl)) (ex_cons (ex1_assign_tuple (ev_mcall (ev_name rfl rfl rfl rfl) pg_199_outer fi_199_outer fn_199_outer ke_199_outer mn_outer (evs_cons (ev_name rfl rfl rfl rfl) (evs_cons (ev_name rfl rfl rfl rfl) evs_nil (fun _ => rfl)) (fun _ => rfl)) (HO _ (by omega) s hs) rfl (fun _ => rfl) (fun _ => rfl) (fun _ => rfl)) (asg_tuple (asgs_cons (asg_name (.inr ⟨rfl, rfl⟩)) (asgs_cons (asg_name (.inr ⟨rfl, rfl⟩)) asgs_nil (fun _ => rfl)) (fun _ => rfl)) (fun _ => rfl) (fun _ => rfl)) (fun _ => rfl) (fun env h => by cases env; subst h; rfl)) (ex_skip (Tst.conv (tst_compare (ev_listcomp rfl ⟨rfl, by decide, by decide, by decide, rfl⟩ (ev_name rfl rfl rfl rfl) rfl (clL (g := PV.int) (fun v : Int => !(decide ((out s).1 ≤ v) && decide (v ≤ (out s).2))) (fun v => PV.int v) rfl rfl rfl (mets s tr) (fun v hv => ⟨_, (asg_name (.inl rfl)), (tsts_one (by exact (tst_not (tst_chain (ev_name rfl rfl rfl rfl) (ev_name rfl rfl rfl rfl) cmp_le (ev_name rfl rfl rfl rfl) cmp_le (by omega) rfl)))), fun hb => (by exact (ev_name rfl rfl rfl rfl)), by exact ext1 rfl ext0⟩)) (Nat.le_trans (len_filter (Nat.le_of_eq (List.length_map ..))) (Nat.le_trans hL (by decide))) (fun _ _ => rfl)) (ev_list evs_nil (Nat.le_of_ble_eq_true rfl)) cmp_ne_nil (by omega) rfl) (by rw [any_filter]; exact q1 s hs)) (ex_skip (Tst.conv (tst_compare (ev_listcomp rfl ⟨rfl, by decide, by decide, by decide, rfl⟩ (ev_call (gl_law_all rfl) kp_law_all (evs_cons (ev_item (ev_name rfl rfl rfl rfl) (ev_name rfl rfl rfl rfl) (itmR hs) (fun _ _ => rfl)) evs_nil (fun _ => rfl)) (c_law_all (by omega)) (fun _ => rfl) (fun _ => rfl)) itemsOf_rng (clL (g := PV.int) (fun v : Int => !(cb s v == (mets s tr).any (· == v))) (fun v => PV.int v) rfl rfl rfl (rngL (pk s a0 a1 a2) (pk s b0 b1 b2 + 1)) (fun v hv => ⟨_, (asg_name (.inl rfl)), (tsts_one (by exact (tst_compare (ev_mcall (ev_name rfl rfl rfl rfl) pg_199_can_be fi_199_can_be fn_199_can_be ke_199_can_be mn_can_be (evs_cons (ev_name rfl rfl rfl rfl) (evs_cons (ev_name rfl rfl rfl rfl) (evs_cons (ev_name rfl rfl rfl rfl) evs_nil (fun _ => rfl)) (fun _ => rfl)) (fun _ => rfl)) (HC _ (by omega) s hs v hv) rfl (fun _ => rfl) (fun _ => rfl) (fun _ => rfl)) (ev_compare (ev_name rfl rfl rfl rfl) (ev_name rfl rfl rfl rfl) cmp_in_ints (by omega) rfl) cmp_ne_bool (by omega) rfl))), fun hb => (by exact (ev_name rfl rfl rfl rfl)), by exact ext1 rfl ext0⟩)) (Nat.le_trans (len_filter (by rw [length_rngL]; have := hW s hs; omega : _ ≤ 1001)) (by decide)) (fun _ _ => rfl)) (ev_list evs_nil (Nat.le_of_ble_eq_true rfl)) cmp_ne_nil (by omega) rfl) (by rw [any_filter]; exact q2 s hs)) ex_nil))))), by exact ext1 rfl (ext1 rfl (ext1 rfl (ext1 rfl ext0)))⟩)).2 rfl).choose_spec.2 (fun _ _ => rfl)) (ex_weaken (ex_return ev_bool rfl) ((fl_any (g := PV.int) (r := .none) (fun _ => false) [0, 1, 2] (fun s hs => ⟨_, _, asg_name (.inr ⟨rfl, rfl⟩), fun hb => absurd hb (by decide), fun hb => (by exact (ex_cons (ex1_assign (by exact Run.conv (ev_listcomp rfl ⟨rfl, by decide, by decide, by decide, rfl⟩ (ev_name rfl rfl rfl rfl) rfl (clL (g := t3) (fun t : Int × Int × Int => true) (fun t => PV.int (sel s t)) rfl rfl rfl tr (fun t ht => ⟨_, (asg_name (.inl rfl)), tsts_nil, fun hb => (by exact (ev_item (ev_name rfl rfl rfl rfl) (ev_name rfl rfl rfl rfl) (itm3 hs) (fun _ _ => rfl))), by exact ext1 rfl ext0⟩)) (Nat.le_trans (by rw [filter_tt, List.length_map]; exact hL) (by decide)) (fun _ _ => rfl)) (show PV.lst _ = PV.lst ((mets s tr).map PV.int) by unfold mets; rw [filter_tt, List.map_map]; rfl)) (.inr rfl) (fun env h => by cases env; subst h; rfl)) (ex_cons (ex1_assign_tuple (ev_mcall (ev_name rfl rfl rfl rfl) pg_199_outer fi_199_outer fn_199_outer ke_199_outer mn_outer (evs_cons (ev_name rfl rfl rfl rfl) (evs_cons (ev_name rfl rfl rfl rfl) evs_nil (fun _ => rfl)) (fun _ => rfl)) (HO _ (by omega) s hs) rfl (fun _ => rfl) (fun _ => rfl) (fun _ => rfl)) (asg_tuple (asgs_cons (asg_name (.inr ⟨rfl, rfl⟩)) (asgs_cons (asg_name (.inr ⟨rfl, rfl⟩)) asgs_nil (fun _ => rfl)) (fun _ => rfl)) (fun _ => rfl) (fun _ => rfl)) (fun _ => rfl) (fun env h => by cases env; subst h; rfl)) (ex_skip (Tst.conv (tst_compare (ev_listcomp rfl ⟨rfl, by decide, by decide, by decide, rfl⟩ (ev_name rfl rfl rfl rfl) rfl (clL (g := PV.int) (fun v : Int => !(decide ((out s).1 ≤ v) && decide (v ≤ (out s).2))) (fun v => PV.int v) rfl rfl rfl (mets s tr) (fun v hv => ⟨_, (asg_name (.inl rfl)), (tsts_one (by exact (tst_not (tst_chain (ev_name rfl rfl rfl rfl) (ev_name rfl rfl rfl rfl) cmp_le (ev_name rfl rfl rfl rfl) cmp_le (by omega) rfl)))), fun hb => (by exact (ev_name rfl rfl rfl rfl)), by exact ext1 rfl ext0⟩)) (Nat.le_trans (len_filter (Nat.le_of_eq (List.length_map ..))) (Nat.le_trans hL (by decide))) (fun _ _ => rfl)) (ev_list evs_nil (Nat.le_of_ble_eq_true rfl)) cmp_ne_nil (by omega) rfl) (by rw [any_filter]; exact q1 s hs)) (ex_skip (Tst.conv (tst_compare (ev_listcomp rfl ⟨rfl, by decide, by decide, by decide, rfl⟩ (ev_call (gl_law_all rfl) kp_law_all (evs_cons (ev_item (ev_name rfl rfl rfl rfl) (ev_name rfl rfl rfl rfl) (itmR hs) (fun _ _ => rfl)) evs_nil (fun _ => rfl)) (c_law_all (by omega)) (fun _ => rfl) (fun _ => rfl)) itemsOf_rng (clL (g := PV.int) (fun v : Int => !(cb s v == (mets s tr).any (· == v))) (fun v => PV.int v) rfl rfl rfl (rngL (pk s a0 a1 a2) (pk s b0 b1 b2 + 1)) (fun v hv => ⟨_, (asg_name (.inl rfl)), (tsts_one (by exact (tst_compare (ev_mcall (ev_name rfl rfl rfl rfl) pg_199_can_be fi_199_can_be fn_199_can_be ke_199_can_be mn_can_be (evs_cons (ev_name rfl rfl rfl rfl) (evs_cons (ev_name rfl rfl rfl rfl) (evs_cons (ev_name rfl rfl rfl rfl) evs_nil (fun _ => rfl)) (fun _ => rfl)) (fun _ => rfl)) (HC _ (by omega) s hs v hv) rfl (fun _ => rfl) (fun _ => rfl) (fun _ => rfl)) (ev_compare (ev_name rfl rfl rfl rfl) (ev_name rfl rfl rfl rfl) cmp_in_ints (by omega) rfl) cmp_ne_bool (by omega) rfl))), fun hb => (by exact (ev_name rfl rfl rfl rfl)), by exact ext1 rfl ext0⟩)) (Nat.le_trans (len_filter (by rw [length_rngL]; have := hW s hs; omega : _ ≤ 1001)) (by decide)) (fun _ _ => rfl)) (ev_list evs_nil (Nat.le_of_ble_eq_true rfl)) cmp_ne_nil (by omega) rfl) (by rw [any_filter]; exact q2 s hs)) ex_nil))))), by exact ext1 rfl (ext1 rfl (ext1 rfl (ext1 rfl ext0)))⟩)).2 rfl).choose_spec.1))

end
end Mine

/- P8 -/
namespace Mine
section
variable {w : World} {mean : ExcName → Option Value} {mg mb : Str → Option Value} {k : Nat} {σ : Store} {sc : Scope}

variable {a0 b0 a1 b1 a2 b2 : Int}
theorem cmp_ge {a b : Int} : CmpOk .GtE (.int a) (.int b) (decide (b ≤ a)) := fun A δ F s u v _ ⟨_, e1⟩ ⟨_, e2⟩ prog w Q E h => by rw [e1, e2]; exact PyProof.Rows.ge_int h
theorem rep_map {α : Type} (l : List α) (b : Bool) : (l.map fun _ => PV.bool b) = (List.replicate l.length b).map PV.bool := by
  rw [List.map_const', List.map_replicate]
abbrev YS : List Int := [6, 7, Int.fdiv (10 ^ 20) 3, 10 ^ 20]
theorem mxL2 (a b : Int) : mxL [a, b] = max a b := rfl
theorem c_law_wide_quotients_right {n c sign : Int} {τ : Store} (hk : 105 ≤ k) (hn : 0 ≤ n) (hc0 : 0 ≤ c) (hc9 : c ≤ 500) (hs : sign = 1 ∨ sign = -1) :
    ∃ n' c', 0 ≤ n' ∧ c ≤ c' ∧ c' ≤ c + 10 ∧ CallsV (GG w mean mg mb) k (.ref 324) ([.int n, .int c] :: τ) [.cell 0, .int sign] (.bool true) ([.int n', .int c'] :: τ) := by
  obtain ⟨v1, n1, x1, x2, x3, C1⟩ := c_law_step (w := w) (mean := mean) (mg := mg) (mb := mb) (k := k - 1) (τ := τ) (many := 7) (by omega) hn hc0 (by omega) (by decide) (by decide)
  obtain ⟨p, u, n2, y1, y2, y3, y4, y5, C2⟩ := c_law_around (w := w) (mean := mean) (mg := mg) (mb := mb) (k := k - 1) (τ := τ) (m := v1 - 3) (by omega) x3 (c := c + 1) (by omega) (by omega)
  obtain ⟨v3, n3, z1, z2, z3, C3⟩ := c_law_step (w := w) (mean := mean) (mg := mg) (mb := mb) (k := k - 1) (τ := τ) (many := 3) (by omega) y5 (c := c + 1 + 2) (by omega) (by omega) (by decide) (by decide)
  obtain ⟨p', u', n4, u1, u2, u3, u4, u5, C4⟩ := c_law_around (w := w) (mean := mean) (mg := mg) (mb := mb) (k := k - 1) (τ := τ) (m := v3 - 1) (by omega) z3 (c := c + 1 + 2 + 1) (by omega) (by omega)
  refine ⟨n4, c + 1 + 2 + 1 + 2, u5, by omega, by omega, ?_⟩
  have hh : PySem.Challenge.rw_pc0029_01.name = PySem.Str.ofString "law" := rfl
  have hH : hd.heap_39 w.params = hd.heap_39 w.params := rfl
  revert hh hH
  k_fill
  intro hh hH
  obtain ⟨j, rfl⟩ : ∃ j, k = j + 1 := ⟨k - 1, by omega⟩
  refine' calls_def ?ho ?hcd ?hn ?hl ?hnn ?hb ?hkind ?hnd ?hk ?hco ?hgen ?hcn ?h
  case ho => (show (hd.heap_39 w.params).lookup 324 = _); k_is
  case hcd => (show codeIn (hd.heap_39 w.params) _ _ = _); k_is
  case hn => rfl
  case hl => rfl
  case hnn => decide
  case hb => exact vals2 (fun _ _ => rfl)
  case hkind => decide
  case hnd => decide
  case hk => rfl
  case hco => rfl
  case hgen => rfl
  case hcn => decide
  have C1 := C1.le (k' := j) (by omega)
  have C2 := C2.le (k' := j) (by omega)
  have C3 := C3.le (k' := j) (by omega)
  have C4 := C4.le (k' := j) (by omega)
  have hss : Small sign := small_of (by omega) (by omega)
  generalize ha0 : v1 - 3 - p = a0 at C2
  generalize hb0 : v1 - 3 + u = b0 at C2
  generalize ha2 : v3 - 1 - p' = a2 at C4
  generalize hb2 : v3 - 1 + u' = b2 at C4
  have A0 : -5 ≤ a0 := by omega
  have A1 : a0 ≤ b0 := by omega
  have A2 : b0 ≤ 5 := by omega
  have A3 : -3 ≤ a2 := by omega
  have A4 : a2 ≤ b2 := by omega
  have A5 : b2 ≤ 3 := by omega
  refine (ex_cons (ex1_assign (ev_call (gl_sorted rfl) keep_builtin (evs_cons (ev_list (evs_cons (ev_mul (Small.mulOk (small_of (by decide) (by decide)) hss) ev_int (ev_name rfl rfl rfl rfl)) (evs_cons (ev_mul (Small.mulOk (small_of (by decide) (by decide)) hss) (ev_call0 (gl_law_out rfl) kp_law_out (c_law_out (by omega))) (ev_name rfl rfl rfl rfl)) evs_nil (fun _ => rfl)) (fun _ => rfl)) (Nat.le_of_ble_eq_true rfl)) evs_nil (fun _ => rfl)) calls_sorted2 (fun _ => rfl) (fun _ => rfl)) (.inl rfl) (fun env h => by cases env; subst h; rfl)) (ex_cons (ex1_assign (ev_list (evs_cons (ev_call (gl_law_around rfl) kp_law_around (evs_cons (ev_name rfl rfl rfl rfl) (evs_cons (ev_sub (ev_call (gl_law_step rfl) kp_law_step (evs_cons (ev_name rfl rfl rfl rfl) (evs_cons ev_int evs_nil (fun _ => rfl)) (fun _ => rfl)) C1 (fun _ => rfl) (fun _ => rfl)) ev_int) evs_nil (fun _ => rfl)) (fun _ => rfl)) C2 (fun _ => rfl) (fun _ => rfl)) (evs_cons (ev_tuple (evs_cons (ev_item (ev_name rfl rfl rfl rfl) ev_int ⟨by decide, rfl, (Nat.le_of_ble_eq_true rfl)⟩ (fun _ _ => rfl)) (evs_cons (ev_item (ev_name rfl rfl rfl rfl) ev_int ⟨by decide, rfl, (Nat.le_of_ble_eq_true rfl)⟩ (fun _ _ => rfl)) evs_nil (fun _ => rfl)) (fun _ => rfl)) (Nat.le_of_ble_eq_true rfl)) (evs_cons (ev_call (gl_law_around rfl) kp_law_around (evs_cons (ev_name rfl rfl rfl rfl) (evs_cons (ev_sub (ev_call (gl_law_step rfl) kp_law_step (evs_cons (ev_name rfl rfl rfl rfl) (evs_cons ev_int evs_nil (fun _ => rfl)) (fun _ => rfl)) C3 (fun _ => rfl) (fun _ => rfl)) ev_int) evs_nil (fun _ => rfl)) (fun _ => rfl)) C4 (fun _ => rfl) (fun _ => rfl)) evs_nil (fun _ => rfl)) (fun _ => rfl)) (fun _ => rfl)) (Nat.le_of_ble_eq_true rfl)) (.inr rfl) (fun env h => by cases env; subst h; rfl)) (ex_cons (ex1_assign_tuple (ev_tuple (evs_cons (ev_call (gl_Quotient rfl) kp_Quotient (evs_cons ev_int (evs_cons ev_int (evs_cons ev_int evs_nil (fun _ => rfl)) (fun _ => rfl)) (fun _ => rfl)) (calls_q w (by omega)) (fun _ => rfl) (fun _ => rfl)) (evs_cons (ev_chain (ev_item (ev_item (ev_name rfl rfl rfl rfl) ev_int ⟨by decide, rfl, (Nat.le_of_ble_eq_true rfl)⟩ (fun _ _ => rfl)) ev_int ⟨by decide, rfl, (Nat.le_of_ble_eq_true rfl)⟩ (fun _ _ => rfl)) ev_int cmp_le (ev_item (ev_item (ev_name rfl rfl rfl rfl) ev_int ⟨by decide, rfl, (Nat.le_of_ble_eq_true rfl)⟩ (fun _ _ => rfl)) ev_int ⟨by decide, rfl, (Nat.le_of_ble_eq_true rfl)⟩ (fun _ _ => rfl)) cmp_le (by omega) rfl) evs_nil (fun _ => rfl)) (fun _ => rfl)) (Nat.le_of_ble_eq_true rfl)) (asg_tuple (asgs_cons (asg_name (.inr ⟨rfl, rfl⟩)) (asgs_cons (asg_name (.inl rfl)) asgs_nil (fun _ => rfl)) (fun _ => rfl)) (fun _ => rfl) (fun _ => rfl)) (fun _ => rfl) (fun env h => by cases env; subst h; rfl)) ?rest)))
  generalize ha1 : min (6 * sign) (10 ^ 20 * sign) = a1
  generalize hb1 : max (6 * sign) (10 ^ 20 * sign) = b1
  have hsig : (sign = 1 ∧ a1 = 6 ∧ b1 = 10 ^ 20) ∨ (sign = -1 ∧ a1 = -10 ^ 20 ∧ b1 = -6) := by omega
  have hD : divs a0 b0 a1 b1 = [6 * sign] := wide_divs A0 A1 A2 hsig
  have hl : min b1 (far0 a0 b0) - max a1 (-far0 a0 b0) ≤ 1000 := by
    have hf : far0 a0 b0 ≤ 6 ∧ 1 ≤ far0 a0 b0 := by unfold far0 iab; split <;> split <;> omega
    omega
  have HD : ∀ y ∈ divs a0 b0 a1 b1, y ≠ 0 ∧ Small y := fun y hy => by
    rw [hD, List.mem_singleton] at hy
    subst hy
    exact ⟨by omega, small_of (by omega) (by omega)⟩
  generalize hhz : (decide (a2 ≤ 0) && decide (0 ≤ b2)) = hz
  have W0 : ∀ x ∈ rngL a0 (b0 + 1), ((divs a0 b0 a1 b1).any fun y => decide (max a2 (trn x y) ≤ min b2 (trn x y))) = hz := fun x hx => by
    have := mem_rngL.mp hx
    rw [hD, ← hhz]; exact wide_q0 (a0 := a0) (b0 := b0) (by omega) hs A4
  have hYS : ∀ y ∈ YS, 6 ≤ y ∧ y ≤ 10 ^ 20 := by decide
  have S2 : ∀ y ∈ YS, Small y := fun y hy => small_of (by have := hYS y hy; omega) (by have := hYS y hy; omega)
  have S1 : ∀ y ∈ YS, Small (y * sign) := fun y hy => by
    have := hYS y hy
    rcases hs with rfl | rfl <;> exact small_of (by omega) (by omega)
  have W1 : ∀ y ∈ YS, qcb1 a0 b0 a2 b2 (y * sign) = hz := fun y hy => by
    have := hYS y hy
    rw [← hhz]; exact wide_q1 A0 A1 A2 (by unfold iab; rcases hs with rfl | rfl <;> (split <;> omega)) A4
  have S3 : ∀ z ∈ rngL a2 (b2 + 1), Small z := fun z hz => by
    have := mem_rngL.mp hz
    exact small_of (by omega) (by omega)
  have W2 : ∀ z ∈ rngL a2 (b2 + 1), ((divs a0 b0 a1 b1).any fun y => decide (max (dby y z).1 a0 ≤ min (dby y z).2 b0)) = (z == 0) := fun z hz => by
    rw [hD]; exact wide_q2 A0 A1 A2 hs
  let NN := (rngL a0 (b0 + 1)).length
  have hNN : NN ≤ 11 := by show (rngL a0 (b0 + 1)).length ≤ 11; rw [length_rngL]; omega
  let RS3 : List (Int × Int) := [(a0, b0), (a1, b1), (a2, b2)]
  let MM : Int → Int := fun s => if s = 0 then qmost a1 b1 a2 b2 else max (iab a0) (iab b0)
  have M2 : max (iab a2) (iab b2) ≤ 3 ∧ 0 ≤ max (iab a2) (iab b2) := by unfold iab; split <;> split <;> omega
  have M1 : max (iab a1) (iab b1) = 10 ^ 20 := by unfold iab; split <;> split <;> omega
  have SF : Small (mxL ([a2, b2].map iab) + 1) := small_of (by show _ ≤ max (iab a2) (iab b2) + 1; omega) (by show max (iab a2) (iab b2) + 1 ≤ _; omega)
  have HO : ∀ k, 103 ≤ k → ∀ s ∈ [(0 : Int), 2], CallsV (GG w mean mg mb) k (.ref 260) ([.int n4, .int (c + 1 + 2 + 1 + 2)] :: τ) [.inst 270, R3 a0 b0 a1 b1 a2 b2, .int s] (.tup [.int (-(MM s)), .int (MM s)]) ([.int n4, .int (c + 1 + 2 + 1 + 2)] :: τ) := fun k hk s hs => by
    simp only [List.mem_cons, List.not_mem_nil, or_false] at hs
    rcases hs with rfl | rfl
    · exact c_270_outer_0 (by omega) (small_of (by omega) (by omega)) (small_of (by omega) (by omega))
    · exact c_270_outer_2 (by omega)
  refine (ex_cons (ex1_assign_comp (outs := (List.replicate NN hz).map PV.bool) rfl ⟨rfl, by decide, by decide, by decide, rfl⟩ (ev_call (gl_law_all rfl) kp_law_all (evs_cons (ev_item (ev_name rfl rfl rfl rfl) ev_int ⟨by decide, rfl, (Nat.le_of_ble_eq_true rfl)⟩ (fun _ _ => rfl)) evs_nil (fun _ => rfl)) (c_law_all (by omega)) (fun _ => rfl) (fun _ => rfl)) itemsOf_rng (Cl.conv (by exact (clL (g := PV.int) (fun x : Int => true) (fun x => PV.bool hz) rfl rfl rfl (rngL a0 (b0 + 1)) (fun x hx => ⟨_, (asg_name (.inl rfl)), tsts_nil, fun hb => (by exact (ev_mcall (ev_name rfl rfl rfl rfl) pg_270_can_be fi_270_can_be fn_270_can_be ke_270_can_be mn_can_be (evs_cons (ev_name rfl rfl rfl rfl) (evs_cons ev_int (evs_cons (ev_name rfl rfl rfl rfl) evs_nil (fun _ => rfl)) (fun _ => rfl)) (fun _ => rfl)) ((c_270_can_be_0 (by omega) hl HD).conv (congrArg PV.bool (W0 x hx))) rfl (fun _ => rfl) (fun _ => rfl) (fun _ => rfl))), by exact ext1 rfl ext0⟩))) (by rw [filter_tt, rep_map])) (by simp only [List.length_map, List.length_replicate]; omega) (fun _ _ => rfl) rfl (fun env h => by cases env; subst h; rfl)) (ex_cons (ex1_assign (by exact Run.conv (ev_cat (b := (List.replicate 4 hz).map PV.bool) (by simp only [List.length_map, List.length_replicate]; omega) (ev_name rfl rfl rfl rfl) (by exact Run.conv (ev_listcomp rfl ⟨rfl, by decide, by decide, by decide, rfl⟩ (by exact Run.conv (ev_tuple (evs_cons ev_int (evs_cons ev_int (evs_cons (ev_floordiv (by decide) (small_of (by decide) (by decide)) (ev_call0 (gl_law_out rfl) kp_law_out (c_law_out (by omega))) ev_int) (evs_cons (ev_call0 (gl_law_out rfl) kp_law_out (c_law_out (by omega))) evs_nil (fun _ => rfl)) (fun _ => rfl)) (fun _ => rfl)) (fun _ => rfl)) (Nat.le_of_ble_eq_true rfl)) (rfl : _ = PV.tup (YS.map PV.int))) rfl (clL (g := PV.int) (fun y : Int => true) (fun y => PV.bool hz) rfl rfl rfl YS (fun y hy => ⟨_, (asg_name (.inl rfl)), tsts_nil, fun hb => (by exact (ev_mcall (ev_name rfl rfl rfl rfl) pg_270_can_be fi_270_can_be fn_270_can_be ke_270_can_be mn_can_be (evs_cons (ev_name rfl rfl rfl rfl) (evs_cons ev_int (evs_cons (ev_mul (Small.mulOk (S2 y hy) hss) (ev_name rfl rfl rfl rfl) (ev_name rfl rfl rfl rfl)) evs_nil (fun _ => rfl)) (fun _ => rfl)) (fun _ => rfl)) ((c_270_can_be_1 (by omega) (S1 y hy)).conv (congrArg PV.bool (W1 y hy))) rfl (fun _ => rfl) (fun _ => rfl) (fun _ => rfl))), by exact ext1 rfl ext0⟩)) (Nat.le_of_ble_eq_true rfl) (fun _ _ => rfl)) (rfl : _ = PV.lst ((List.replicate 4 hz).map PV.bool)))) (show PV.lst _ = PV.lst ((List.replicate (NN + 4) hz).map PV.bool) by rw [← List.map_append, List.replicate_append_replicate])) (.inl rfl) (fun env h => by cases env; subst h; rfl)) (ex_skip (Tst.conv (tst_boolop (tstAll_or_false (Tst.conv (tst_compare (ev_name rfl rfl rfl rfl) (by exact Run.conv (ev_times (ev_name rfl rfl rfl rfl) (ev_call (gl_len rfl) keep_builtin (evs_cons (ev_name rfl rfl rfl rfl) evs_nil (fun _ => rfl)) (calls_len (by simp only [List.length_map, List.length_replicate]; omega)) (fun _ => rfl) (fun _ => rfl)) (by omega) (by simp only [List.length_map, List.length_replicate]; omega) (fun _ => rfl)) (show PV.lst _ = PV.lst ((List.replicate (NN + 4) hz).map PV.bool) by rw [List.map_replicate]; simp; omega)) (cmp_ne_bools rfl) (by omega) rfl) (by simp)) (tstAll_or_false (Tst.conv (tst_compare (ev_listcomp rfl ⟨rfl, by decide, by decide, by decide, rfl⟩ (ev_call (gl_law_all rfl) kp_law_all (evs_cons (ev_item (ev_name rfl rfl rfl rfl) ev_int ⟨by decide, rfl, (Nat.le_of_ble_eq_true rfl)⟩ (fun _ _ => rfl)) evs_nil (fun _ => rfl)) (c_law_all (by omega)) (fun _ => rfl) (fun _ => rfl)) itemsOf_rng (clL (g := PV.int) (fun z : Int => !((z == 0) == (z == 0))) (fun z => PV.int z) rfl rfl rfl (rngL a2 (b2 + 1)) (fun z hz' => ⟨_, (asg_name (.inl rfl)), (tsts_one (by exact (tst_compare (ev_mcall (ev_name rfl rfl rfl rfl) pg_270_can_be fi_270_can_be fn_270_can_be ke_270_can_be mn_can_be (evs_cons (ev_name rfl rfl rfl rfl) (evs_cons ev_int (evs_cons (ev_name rfl rfl rfl rfl) evs_nil (fun _ => rfl)) (fun _ => rfl)) (fun _ => rfl)) ((c_270_can_be_2 (by omega) hl (fun y hy => (HD y hy).2) (S3 z hz')).conv (congrArg PV.bool (W2 z hz'))) rfl (fun _ => rfl) (fun _ => rfl) (fun _ => rfl)) (ev_compare (ev_name rfl rfl rfl rfl) ev_int cmp_eq (by omega) rfl) cmp_ne_bool (by omega) rfl))), fun hb => (by exact (ev_name rfl rfl rfl rfl)), by exact ext1 rfl ext0⟩)) (Nat.le_trans (len_filter (by rw [length_rngL]; omega : _ ≤ 1000)) (by decide)) (fun _ _ => rfl)) (ev_list evs_nil (Nat.le_of_ble_eq_true rfl)) cmp_ne_nil (by omega) rfl) (by rw [any_filter]; simp)) tstAll_nil))) rfl) (ex_cons (ex1_assign_comp (outs := RS3.map fun z => PV.int (mxL ([z.1, z.2].map iab))) rfl ⟨rfl, by decide, by decide, by decide, rfl⟩ (ev_name rfl rfl rfl rfl) rfl (by exact (clL (g := pr2) (fun z : Int × Int => true) (fun z => PV.int (mxL ([z.1, z.2].map iab))) rfl rfl rfl RS3 (fun z hz => ⟨_, (asg_name (.inl rfl)), tsts_nil, fun hb => (by exact (ev_call (gl_max rfl) keep_builtin (evs_cons (by exact Run.conv (ev_listcomp rfl ⟨rfl, by decide, by decide, by decide, rfl⟩ (ev_name rfl rfl rfl rfl) rfl (clL (g := PV.int) (fun v : Int => true) (fun v => PV.int (iab v)) rfl rfl rfl [z.1, z.2] (fun v hv => ⟨_, (asg_name (.inl rfl)), tsts_nil, fun hb => (by exact (ev_call (gl_abs rfl) keep_builtin (evs_cons (ev_name rfl rfl rfl rfl) evs_nil (fun _ => rfl)) calls_abs (fun _ => rfl) (fun _ => rfl))), by exact ext1 rfl ext0⟩)) (Nat.le_of_ble_eq_true rfl) (fun _ _ => rfl)) (rfl : _ = PV.lst (([z.1, z.2].map iab).map PV.int))) evs_nil (fun _ => rfl)) (calls_maxL (List.cons_ne_nil _ _)) (fun _ => rfl) (fun _ => rfl))), by exact ext1 rfl ext0⟩))) (Nat.le_of_ble_eq_true rfl) (fun _ _ => rfl) rfl (fun env h => by cases env; subst h; rfl)) (ex_cons (ex1_assign_comp (outs := [(0 : Int), 2].map fun s => PV.int (mxL ([-(MM s), MM s].map iab))) rfl ⟨rfl, by decide, by decide, by decide, rfl⟩ (ev_tuple (evs_cons ev_int (evs_cons ev_int evs_nil (fun _ => rfl)) (fun _ => rfl)) (Nat.le_of_ble_eq_true rfl)) rfl (by exact (clL (g := PV.int) (fun s : Int => true) (fun s => PV.int (mxL ([-(MM s), MM s].map iab))) rfl rfl rfl [0, 2] (fun s hs => ⟨_, (asg_name (.inl rfl)), tsts_nil, fun hb => (by exact (ev_call (gl_max rfl) keep_builtin (evs_cons (by exact Run.conv (ev_listcomp rfl ⟨rfl, by decide, by decide, by decide, rfl⟩ (ev_mcall (ev_name rfl rfl rfl rfl) pg_270_outer fi_270_outer fn_270_outer ke_270_outer mn_outer (evs_cons (ev_name rfl rfl rfl rfl) (evs_cons (ev_name rfl rfl rfl rfl) evs_nil (fun _ => rfl)) (fun _ => rfl)) (HO _ (by omega) s hs) rfl (fun _ => rfl) (fun _ => rfl) (fun _ => rfl)) rfl (clL (g := PV.int) (fun v : Int => true) (fun v => PV.int (iab v)) rfl rfl rfl [-(MM s), MM s] (fun v hv => ⟨_, (asg_name (.inl rfl)), tsts_nil, fun hb => (by exact (ev_call (gl_abs rfl) keep_builtin (evs_cons (ev_name rfl rfl rfl rfl) evs_nil (fun _ => rfl)) calls_abs (fun _ => rfl) (fun _ => rfl))), by exact ext1 rfl ext0⟩)) (Nat.le_of_ble_eq_true rfl) (fun _ _ => rfl)) (rfl : _ = PV.lst (([-(MM s), MM s].map iab).map PV.int))) evs_nil (fun _ => rfl)) (calls_maxL (List.cons_ne_nil _ _)) (fun _ => rfl) (fun _ => rfl))), by exact ext1 rfl ext0⟩))) (Nat.le_of_ble_eq_true rfl) (fun _ _ => rfl) rfl (fun env h => by cases env; subst h; rfl)) (ex_return (ev_boolop (evAll_and (ev_compare (ev_item (ev_name rfl rfl rfl rfl) ev_int ⟨by decide, rfl, (Nat.le_of_ble_eq_true rfl)⟩ (fun _ _ => rfl)) (ev_mul (Small.mulOk SF (small_of (by decide) (by decide))) (ev_add (ev_item (ev_name rfl rfl rfl rfl) ev_int ⟨by decide, rfl, (Nat.le_of_ble_eq_true rfl)⟩ (fun _ _ => rfl)) ev_int) (ev_call0 (gl_law_out rfl) kp_law_out (c_law_out (by omega)))) cmp_lt (by omega) rfl) (fun hc => (evAll_and (ev_compare (ev_item (ev_name rfl rfl rfl rfl) ev_int ⟨by decide, rfl, (Nat.le_of_ble_eq_true rfl)⟩ (fun _ _ => rfl)) (ev_item (ev_name rfl rfl rfl rfl) ev_int ⟨by decide, rfl, (Nat.le_of_ble_eq_true rfl)⟩ (fun _ _ => rfl)) cmp_le (by omega) rfl) (fun hc => (evAll_one (ev_compare (ev_call (gl_tuple rfl) keep_type (evs_cons (ev_mcall (ev_name rfl rfl rfl rfl) pg_270_outer fi_270_outer fn_270_outer ke_270_outer mn_outer (evs_cons (ev_name rfl rfl rfl rfl) (evs_cons ev_int evs_nil (fun _ => rfl)) (fun _ => rfl)) (c_270_outer_1 (by omega)) rfl (fun _ => rfl) (fun _ => rfl) (fun _ => rfl)) evs_nil (fun _ => rfl)) calls_tuple (fun _ => rfl) (fun _ => rfl)) (ev_item (ev_name rfl rfl rfl rfl) ev_int ⟨by decide, rfl, (Nat.le_of_ble_eq_true rfl)⟩ (fun _ _ => rfl)) (cmp_eq_tup (l := [_, _]) (r := [_, _]) rfl) (by omega) rfl))))))) ?_))))))
  have e0 : MM 0 = (max (iab a2) (iab b2) + 1) * 10 ^ 20 - 1 := by show qmost a1 b1 a2 b2 = _; unfold qmost; rw [M1]
  have e2 : MM 2 = max (iab a0) (iab b0) := rfl
  have g0 := iab_nonneg a0
  have g1 := iab_nonneg b0
  have i1 : ∀ x : Int, 0 ≤ x → mxL ([-x, x].map iab) = x := fun x hx => by
    show max (iab (-x)) (iab x) = x
    unfold iab; split <;> split <;> omega
  congr 1
  simp only [Bool.and_eq_true, decide_eq_true_eq]
  rw [i1 (MM 0) (by rw [e0]; omega), i1 (MM 2) (by rw [e2]; omega), e0, e2]
  refine ⟨?_, ?_, trivial⟩
  · show _ < (max (iab a2) (iab b2) + 1) * 10 ^ 20; omega
  · show _ ≤ max (iab a0) (iab b0); omega

end
end Mine

/- P9 -/
namespace Mine
section
variable {w : World} {mean : ExcName → Option Value} {mg mb : Str → Option Value} {k : Nat} {σ : Store} {a0 b0 a1 b1 a2 b2 : Int} {tr : List (Int × Int × Int)}

theorem mem_mets {s v : Int} : v ∈ mets s tr ↔ ∃ t ∈ tr, sel s t = v := by unfold mets; simp only [List.mem_map]
theorem any_mets {s v : Int} : (mets s tr).any (· == v) = true ↔ ∃ t ∈ tr, sel s t = v := by
  rw [List.any_eq_true]
  constructor
  · rintro ⟨x, hx, e⟩
    exact mem_mets.mp (beq_iff_eq.mp e ▸ hx)
  · intro h
    exact ⟨v, mem_mets.mpr h, beq_self_eq_true _⟩
theorem s3 {P : Int → Prop} (h0 : P 0) (h1 : P 1) (h2 : P 2) : ∀ s ∈ [(0 : Int), 1, 2], P s := fun s hs => by
  simp only [List.mem_cons, List.not_mem_nil, or_false] at hs
  rcases hs with rfl | rfl | rfl <;> assumption
def BND : Int := 10 ^ 60

/-- the three ranges are small and not empty -/
structure Nar (a0 b0 a1 b1 a2 b2 : Int) : Prop where
  h0 : a0 ≤ b0
  h1 : a1 ≤ b1
  h2 : a2 ≤ b2
  w0 : b0 - a0 ≤ 4
  w1 : b1 - a1 ≤ 4
  w2 : b2 - a2 ≤ 4
  l0 : -(10 ^ 60) ≤ a0
  u0 : b0 ≤ 10 ^ 60
  l1 : -(10 ^ 60) ≤ a1
  u1 : b1 ≤ 10 ^ 60
  l2 : -(10 ^ 60) ≤ a2
  u2 : b2 ≤ 10 ^ 60

theorem narrow_q (N : Nar a0 b0 a1 b1 a2 b2) (hk : 104 ≤ k) (hL : tr.length ≤ 1000) (H : ∀ t : Int × Int × Int, t ∈ tr ↔ (a0 ≤ t.1 ∧ t.1 ≤ b0) ∧ (a1 ≤ t.2.1 ∧ t.2.1 ≤ b1) ∧ (a2 ≤ t.2.2 ∧ t.2.2 ≤ b2) ∧ t.2.1 ≠ 0 ∧ isq t.1 t.2.1 t.2.2 = true) :
    CallsV (GG w mean mg mb) k (.ref 319) σ [.inst 270, R3 a0 b0 a1 b1 a2 b2, .lst (tr.map t3)] (.bool true) σ := by
  have hl : min b1 (far0 a0 b0) - max a1 (-far0 a0 b0) ≤ 1000 := by have := N.w1; omega
  have HD : ∀ y ∈ divs a0 b0 a1 b1, y ≠ 0 ∧ Small y := fun y hy => by
    obtain ⟨p, q, r⟩ := divs_sub N.h1 hy
    have := N.l1; have := N.u1
    exact ⟨r, small_of (by omega) (by omega)⟩
  have M0 : ∀ {a b : Int}, -(10 ^ 60) ≤ a → b ≤ 10 ^ 60 → a ≤ b → 0 ≤ max (iab a) (iab b) ∧ max (iab a) (iab b) ≤ 10 ^ 60 := fun {a b} h1 h2 h3 => by
    have := iab_or a; have := iab_or b; omega
  have m1 := M0 N.l1 N.u1 N.h1
  have m2 := M0 N.l2 N.u2 N.h2
  refine c_narrow_270 (fun s => if s = 0 then (-(qmost a1 b1 a2 b2), qmost a1 b1 a2 b2) else if s = 1 then (a1, b1) else (-(max (iab a0) (iab b0)), max (iab a0) (iab b0)))
    (fun s v => if s = 0 then (divs a0 b0 a1 b1).any (fun y => decide (max a2 (trn v y) ≤ min b2 (trn v y))) else if s = 1 then qcb1 a0 b0 a2 b2 v else (divs a0 b0 a1 b1).any fun y => decide (max (dby y v).1 a0 ≤ min (dby y v).2 b0))
    hk hL (s3 (by have := N.w0; show b0 - a0 ≤ _; omega) (by have := N.w1; show b1 - a1 ≤ _; omega) (by have := N.w2; show b2 - a2 ≤ _; omega)) ?_ ?_ ?_ ?_
  · intro k hk
    exact s3 (c_270_outer_0 (by omega) (small_of (by omega) (by omega)) (small_of (by omega) (by omega))) (c_270_outer_1 (by omega)) (c_270_outer_2 (by omega))
  · intro k hk
    refine s3 (fun v hv => c_270_can_be_0 hk hl HD) (fun v hv => c_270_can_be_1 hk ?_) (fun v hv => c_270_can_be_2 hk hl (fun y hy => (HD y hy).2) ?_)
    · have := mem_rngL.mp hv
      have e1 : pk 1 a0 a1 a2 = a1 := rfl
      have e2 : pk 1 b0 b1 b2 = b1 := rfl
      have := N.l1; have := N.u1
      exact small_of (by omega) (by omega)
    · have := mem_rngL.mp hv
      have e1 : pk 2 a0 a1 a2 = a2 := rfl
      have e2 : pk 2 b0 b1 b2 = b2 := rfl
      have := N.l2; have := N.u2
      exact small_of (by omega) (by omega)
  · refine s3 (fun v hv => ?_) (fun v hv => ?_) (fun v hv => ?_)
    · obtain ⟨t, ht, rfl⟩ := mem_mets.mp hv
      obtain ⟨hx, hy, hz, h0, hq⟩ := (H t).mp ht
      exact qo0 hy hz hq
    · obtain ⟨t, ht, rfl⟩ := mem_mets.mp hv
      obtain ⟨hx, hy, hz, h0, hq⟩ := (H t).mp ht
      exact hy
    · obtain ⟨t, ht, rfl⟩ := mem_mets.mp hv
      obtain ⟨hx, hy, hz, h0, hq⟩ := (H t).mp ht
      exact qo2 hx h0 hq
  · refine s3 (fun v hv => ?_) (fun v hv => ?_) (fun v hv => ?_)
    · have hv : a0 ≤ v ∧ v ≤ b0 := by have := mem_rngL.mp hv; exact ⟨this.1, by have e : pk 0 b0 b1 b2 = b0 := rfl; omega⟩
      rw [Bool.eq_iff_iff, any_mets]
      refine (q0_iff N.h1 N.h2 hv).trans ⟨fun ⟨y, z, hy, hz, h0, hq⟩ => ⟨(v, y, z), (H _).mpr ⟨hv, hy, hz, h0, hq⟩, rfl⟩, ?_⟩
      rintro ⟨t, ht, rfl⟩
      obtain ⟨hx, hy, hz, h0, hq⟩ := (H t).mp ht
      exact ⟨t.2.1, t.2.2, hy, hz, h0, hq⟩
    · have hv : a1 ≤ v ∧ v ≤ b1 := by have := mem_rngL.mp hv; exact ⟨this.1, by have e : pk 1 b0 b1 b2 = b1 := rfl; omega⟩
      rw [Bool.eq_iff_iff, any_mets]
      refine (q1_iff N.h0 N.h2).trans ⟨fun ⟨h0, x, z, hx, hz, hq⟩ => ⟨(x, v, z), (H _).mpr ⟨hx, hv, hz, h0, hq⟩, rfl⟩, ?_⟩
      rintro ⟨t, ht, rfl⟩
      obtain ⟨hx, hy, hz, h0, hq⟩ := (H t).mp ht
      exact ⟨h0, t.1, t.2.2, hx, hz, hq⟩
    · have hv : a2 ≤ v ∧ v ≤ b2 := by have := mem_rngL.mp hv; exact ⟨this.1, by have e : pk 2 b0 b1 b2 = b2 := rfl; omega⟩
      rw [Bool.eq_iff_iff, any_mets]
      refine (q2_iff N.h0 N.h1).trans ⟨fun ⟨x, y, hx, hy, h0, hq⟩ => ⟨(x, y, v), (H _).mpr ⟨hx, hy, hv, h0, hq⟩, rfl⟩, ?_⟩
      rintro ⟨t, ht, rfl⟩
      obtain ⟨hx, hy, hz, h0, hq⟩ := (H t).mp ht
      exact ⟨t.1, t.2.1, hx, hy, h0, hq⟩

theorem narrow_t (N : Nar a0 b0 a1 b1 a2 b2) (hk : 104 ≤ k) (hL : tr.length ≤ 1000) (H : ∀ t : Int × Int × Int, t ∈ tr ↔ (a0 ≤ t.1 ∧ t.1 ≤ b0) ∧ (a1 ≤ t.2.1 ∧ t.2.1 ≤ b1) ∧ (a2 ≤ t.2.2 ∧ t.2.2 ≤ b2) ∧ t.1 * t.2.1 = t.2.2) :
    CallsV (GG w mean mg mb) k (.ref 319) σ [.inst 199, R3 a0 b0 a1 b1 a2 b2, .lst (tr.map t3)] (.bool true) σ := by
  have := N.l0; have := N.u0; have := N.l1; have := N.u1; have := N.l2; have := N.u2; have := N.h0; have := N.h1; have := N.h2
  refine c_narrow_199 (fun s => if s = 0 then tout a1 b1 a2 b2 a0 b0 else if s = 1 then tout a0 b0 a2 b2 a1 b1 else (mnL (cor a0 b0 a1 b1), mxL (cor a0 b0 a1 b1)))
    (fun s v => if s = 0 then tcb a2 b2 a1 b1 v else if s = 1 then tcb a2 b2 a0 b0 v else tcb2 a0 b0 a1 b1 v)
    hk hL (s3 (by have := N.w0; show b0 - a0 ≤ _; omega) (by have := N.w1; show b1 - a1 ≤ _; omega) (by have := N.w2; show b2 - a2 ≤ _; omega)) ?_ ?_ ?_ ?_
  · intro k hk
    refine s3 (c_199_outer_0 (by omega) (prs_ok (by omega) (by omega))) (c_199_outer_1 (by omega) (prs_ok (by omega) (by omega))) (c_199_outer_2 (by omega) ⟨fun a ha => ?_, fun a ha => ?_⟩)
    · simp only [List.mem_cons, List.not_mem_nil, or_false] at ha
      exact small_of (by omega) (by omega)
    · simp only [List.mem_cons, List.not_mem_nil, or_false] at ha
      exact small_of (by omega) (by omega)
  · intro k hk
    refine s3 (fun v hv => c_199_can_be_0 hk ?_) (fun v hv => c_199_can_be_1 hk ?_) (fun v hv => c_199_can_be_2 hk ?_)
    · have := mem_rngL.mp hv
      have e1 : pk 0 a0 a1 a2 = a0 := rfl
      have e2 : pk 0 b0 b1 b2 = b0 := rfl
      exact small_of (by omega) (by omega)
    · have := mem_rngL.mp hv
      have e1 : pk 1 a0 a1 a2 = a1 := rfl
      have e2 : pk 1 b0 b1 b2 = b1 := rfl
      exact small_of (by omega) (by omega)
    · have := mem_rngL.mp hv
      have e1 : pk 2 a0 a1 a2 = a2 := rfl
      have e2 : pk 2 b0 b1 b2 = b2 := rfl
      exact small_of (by omega) (by omega)
  · refine s3 (fun v hv => ?_) (fun v hv => ?_) (fun v hv => ?_)
    · obtain ⟨t, ht, rfl⟩ := mem_mets.mp hv
      obtain ⟨hx, hy, hz, hq⟩ := (H t).mp ht
      exact tout_in (x := t.1) (y := t.2.1) hy (hq.symm ▸ hz) hx
    · obtain ⟨t, ht, rfl⟩ := mem_mets.mp hv
      obtain ⟨hx, hy, hz, hq⟩ := (H t).mp ht
      exact tout_in (x := t.2.1) (y := t.1) hx (by rw [Int.mul_comm, hq]; exact hz) hy
    · obtain ⟨t, ht, rfl⟩ := mem_mets.mp hv
      obtain ⟨hx, hy, hz, hq⟩ := (H t).mp ht
      have := cor_in hx hy
      rw [hq] at this
      exact this
  · refine s3 (fun v hv => ?_) (fun v hv => ?_) (fun v hv => ?_)
    · have hv : a0 ≤ v ∧ v ≤ b0 := by have := mem_rngL.mp hv; exact ⟨this.1, by have e : pk 0 b0 b1 b2 = b0 := rfl; omega⟩
      rw [Bool.eq_iff_iff, any_mets]
      refine (tcb_iff N.h1).trans ⟨fun ⟨y, p, q, r, s⟩ => ⟨(v, y, v * y), (H _).mpr ⟨hv, ⟨p, q⟩, ⟨r, s⟩, rfl⟩, rfl⟩, ?_⟩
      rintro ⟨t, ht, rfl⟩
      obtain ⟨hx, hy, hz, hq⟩ := (H t).mp ht
      exact ⟨t.2.1, hy.1, hy.2, by show a2 ≤ t.1 * t.2.1; omega, by show t.1 * t.2.1 ≤ b2; omega⟩
    · have hv : a1 ≤ v ∧ v ≤ b1 := by have := mem_rngL.mp hv; exact ⟨this.1, by have e : pk 1 b0 b1 b2 = b1 := rfl; omega⟩
      rw [Bool.eq_iff_iff, any_mets]
      refine (tcb_iff N.h0).trans ⟨fun ⟨y, p, q, r, s⟩ => ⟨(y, v, v * y), (H _).mpr ⟨⟨p, q⟩, hv, ⟨r, s⟩, Int.mul_comm _ _⟩, rfl⟩, ?_⟩
      rintro ⟨t, ht, rfl⟩
      obtain ⟨hx, hy, hz, hq⟩ := (H t).mp ht
      have e : t.2.1 * t.1 = t.2.2 := by rw [Int.mul_comm]; exact hq
      exact ⟨t.1, hx.1, hx.2, by show a2 ≤ t.2.1 * t.1; omega, by show t.2.1 * t.1 ≤ b2; omega⟩
    · have hv : a2 ≤ v ∧ v ≤ b2 := by have := mem_rngL.mp hv; exact ⟨this.1, by have e : pk 2 b0 b1 b2 = b2 := rfl; omega⟩
      rw [Bool.eq_iff_iff, any_mets]
      refine (tcb2_iff N.h0 N.h1).trans ⟨fun ⟨x, y, p, q, r, s, e⟩ => ⟨(x, y, v), (H _).mpr ⟨⟨p, q⟩, ⟨r, s⟩, hv, e⟩, rfl⟩, ?_⟩
      rintro ⟨t, ht, rfl⟩
      obtain ⟨hx, hy, hz, hq⟩ := (H t).mp ht
      exact ⟨t.1, t.2.1, hx.1, hx.2, hy.1, hy.2, hq⟩
end
end Mine

/- P10 -/
namespace Mine
section
variable {w : World} {mean : ExcName → Option Value} {mg mb : Str → Option Value} {k : Nat} {σ : Store} {sc : Scope}

variable {a0 b0 a1 b1 a2 b2 : Int}
section
variable {G : Gl} {t iter : Expr} {body rest : List Stmt} {ρ ρ₁ ρ₂ ρ₃ : Vars} {pos : Pos} {σ₁ σ₂ σ' : Store} {p a : PV} {L : List PV} {out : Out} {rs : List PV}
theorem fl_accb {α : Type} {g : α → PV} (F : α → List PV) (wd M : Nat) : ∀ (xs : List α) (L : List PV), (∀ x ∈ xs, (F x).length ≤ wd) → L.length + xs.length * wd ≤ M →
    (∀ L : List PV, L.length + wd ≤ M → ∀ x ∈ xs, ∃ ρ₁ ρ₂, Asg G k sc true ρ t (g x) ρ₁ ∧ Ex G k sc ρ₁ (σ ++ [L]) body (.next ρ₂ (σ ++ [L ++ F x])) ∧ ∀ y pv, ρ.lookup y = some pv → ρ₂.lookup y = some pv) →
      ∃ ρ', (∀ y pv, ρ.lookup y = some pv → ρ'.lookup y = some pv) ∧ Fl G k sc t body (xs.map g) ρ (σ ++ [L]) (.next ρ' (σ ++ [L ++ xs.flatMap F]))
  | [], L, _, _, _ => ⟨ρ, fun _ _ e => e, by simpa using fl_nil⟩
  | x :: xs, L, hw, hM, h => by
    rw [List.length_cons, Nat.add_mul, Nat.one_mul] at hM
    obtain ⟨ρ₁, ρ₂, h1, h2, h3⟩ := h L (by omega) x (.head _)
    have := hw x (.head _)
    obtain ⟨ρ', a, b⟩ := fl_accb F wd M xs (L ++ F x) (fun y hy => hw y (.tail _ hy)) (by rw [List.length_append]; omega) fun L hL y hy => h L hL y (.tail _ hy)
    refine ⟨ρ', a, ?_⟩
    rw [List.map_cons, List.flatMap_cons, ← List.append_assoc]
    exact fl_next h1 h2 (fl_weaken b h3)
theorem forAcc {l : List PV} (h1 : Ev G k sc ρ σ iter a σ₁) (hl : itemsOf a = some l) (hs : ∀ env x, foldedSetIterable iter env x = pure x) (h : ∃ ρ', (∀ y pv, ρ.lookup y = some pv → ρ'.lookup y = some pv) ∧ Fl G k sc t body l ρ σ₁ (.next ρ' σ')) :
    ∃ ρ', (∀ y pv, ρ.lookup y = some pv → ρ'.lookup y = some pv) ∧ Ex1 G k sc ρ σ (.For t iter body [] pos) (.next ρ' σ') := let ⟨ρ', a, b⟩ := h; ⟨ρ', a, ex1_for h1 hl b hs⟩
theorem step_of {st : Stmt} (h1 : Asg G k sc true ρ t p ρ₁) (hs : ∀ y pv, ρ.lookup y = some pv → ρ₁.lookup y = some pv) (h : ∃ ρ', (∀ y pv, ρ₁.lookup y = some pv → ρ'.lookup y = some pv) ∧ Ex1 G k sc ρ₁ σ st (.next ρ' σ')) :
    ∃ ρ₁ ρ₂, Asg G k sc true ρ t p ρ₁ ∧ Ex G k sc ρ₁ σ [st] (.next ρ₂ σ') ∧ ∀ y pv, ρ.lookup y = some pv → ρ₂.lookup y = some pv := let ⟨ρ', a, b⟩ := h; ⟨ρ₁, ρ', h1, ex_cons b ex_nil, fun y pv e => a y pv (hs y pv e)⟩
theorem next_cv {st : Stmt} {τ τ' : Store} (h : ∃ ρ', (∀ y pv, ρ.lookup y = some pv → ρ'.lookup y = some pv) ∧ Ex1 G k sc ρ σ st (.next ρ' τ)) (e : τ = τ') : ∃ ρ', (∀ y pv, ρ.lookup y = some pv → ρ'.lookup y = some pv) ∧ Ex1 G k sc ρ σ st (.next ρ' τ') := e ▸ h
theorem ex_grow' {ts es : List Expr} {n n' : Nat} {p q : Pos} {xs : List Str} {lp : Stmt} (h1 : EvsN G k sc ρ σ q es rs σ₁) (hlen : xs.length = rs.length + 1)
    (hlen' : rs.length ≤ 100) (h2 : Swp G k sc ρ xs.reverse (rs ++ [PV.cell σ₁.length]).reverse ρ₁) {ρ₀ : Vars} (hw : ∀ y pv, ρ₀.lookup y = some pv → ρ₁.lookup y = some pv) (h3 : ∃ ρ₂, (∀ y pv, ρ₀.lookup y = some pv → ρ₂.lookup y = some pv) ∧ Ex1 G k sc ρ₀ (σ₁ ++ [[]]) lp (.next ρ₂ (σ₂ ++ [L]))) (hpos : 0 < σ₂.length)
    (hL : PV.lowc.belows σ₂.length L = true) (hσ : ∀ l ∈ σ₂, PV.lowc.belows σ₂.length l = true)
    (hρ : ∀ y pv, ρ₃.lookup y = some pv → (ρ₀.lookup y = some pv ∧ pv.lowc σ₂.length = true) ∨ (pv = .lst L ∧ ρ₀.lookup y = some (.cell σ₂.length)))
    (h4 : Ex G k sc ρ₃ σ₂ rest out)
    (hs : ∀ env : Env, swapsWith (.Tuple es n' q) (some (.Tuple ts n p)) pos.line env = pure false) (hsw : ∀ env : Env, env.scope = sc → swappedStores [.Tuple ts n p] (.Tuple es n' q) env = pure (some xs)) :
    Ex G k sc ρ σ (.Assign [.Tuple ts n p] (.Tuple es n' q) pos :: lp :: rest) out := let ⟨ρ₂, a, b⟩ := h3
  ex_grow h1 hlen hlen' h2 (fun X s o hr ho Q E h => b X s (o.weaken hw) hr ho Q E h) hpos hL hσ (fun y pv e => (hρ y pv e).imp (fun ⟨p, q⟩ => ⟨a _ _ p, q⟩) fun ⟨p, q⟩ => ⟨p, a _ _ q⟩) h4 hs hsw
end
theorem sub2 {x y : Str} {R L : PV} {ρ : Vars} (h1 : ρ.lookup x = some R) (h2 : ρ.lookup y = some L) : ∀ z pv, List.lookup z [(x, R), (y, L)] = some pv → ρ.lookup z = some pv := fun z pv e => by
  rcases lookup_cons_cases e with ⟨rfl, rfl⟩ | ⟨_, e⟩
  · exact h1
  · rcases lookup_cons_cases e with ⟨rfl, rfl⟩ | ⟨_, e⟩
    · exact h2
    · cases e
theorem flat_len {α β : Type} {F : α → List β} {wd : Nat} : ∀ {xs : List α}, (∀ x ∈ xs, (F x).length ≤ wd) → (xs.flatMap F).length ≤ xs.length * wd
  | [], _ => by simp
  | x :: xs, h => by
    rw [List.flatMap_cons, List.length_append, List.length_cons, Nat.add_mul, Nat.one_mul]
    have := h x (.head _)
    have := flat_len (xs := xs) fun y hy => h y (.tail _ hy)
    omega
def sg (v : Int) : Int := if v = 0 then 1 else -1
theorem sg_or (v : Int) : sg v = 1 ∨ sg v = -1 := by unfold sg; split <;> simp
theorem itmS {v : Int} (h1 : 0 ≤ v) (h2 : v < 2) : ItemOk (.tup [.int 1, .int (-1)]) v σ (.int (sg v)) := by
  obtain rfl | rfl : v = 0 ∨ v = 1 := by omega
  · exact ⟨by decide, rfl, Nat.le_of_ble_eq_true rfl⟩
  · exact ⟨by decide, rfl, Nat.le_of_ble_eq_true rfl⟩
def rimv (v y : Int) : Int := if v = 0 then 0 else if v = 1 then 1 else if v = 2 then iab y - 1 else if v = 3 then iab y else -1
theorem itmM {v y : Int} (h1 : 0 ≤ v) (h2 : v < 5) : ItemOk (.tup [.int 0, .int 1, .int (iab y - 1), .int (iab y), .int (-1)]) v σ (.int (rimv v y)) := by
  obtain rfl | rfl | rfl | rfl | rfl : v = 0 ∨ v = 1 ∨ v = 2 ∨ v = 3 ∨ v = 4 := by omega
  all_goals exact ⟨by decide, rfl, Nat.le_of_ble_eq_true rfl⟩
theorem rimv_bnd (v y : Int) : -1 ≤ rimv v y ∧ rimv v y ≤ iab y + 1 := by
  have := iab_nonneg y
  unfold rimv
  split
  · omega
  · split
    · omega
    · split
      · omega
      · split <;> omega
theorem ite_int (c : Bool) (a b : Int) : (if c = true then PV.int a else PV.int b) = PV.int (if c = true then a else b) := by split <;> rfl
theorem low_t3 : ∀ TR : List (Int × Int × Int), PV.lowc.belows 1 (TR.map t3) = true
  | [] => rfl
  | t :: r => by
    have := low_t3 r
    simp only [List.map_cons, PV.lowc.belows, PV.lowc, this, Bool.and_self]
theorem grow_ok {ρ₂ : Vars} {x y : Str} {R : PV} {n : Nat} {Ls : List PV} (h1 : ρ₂.lookup x = some R) (h2 : ρ₂.lookup y = some (.cell n)) (hl : R.lowc n = true) :
    ∀ z pv, List.lookup z [(x, R), (y, .lst Ls)] = some pv → (ρ₂.lookup z = some pv ∧ pv.lowc n = true) ∨ (pv = .lst Ls ∧ ρ₂.lookup z = some (.cell n)) := fun z pv e => by
  rcases lookup_cons_cases e with ⟨rfl, rfl⟩ | ⟨_, e⟩
  · exact .inl ⟨h1, hl⟩
  · rcases lookup_cons_cases e with ⟨rfl, rfl⟩ | ⟨_, e⟩
    · exact .inr ⟨rfl, h2⟩
    · cases e
theorem mul_bnd {a b : Int} {A B : Nat} (h1 : iab a ≤ A) (h2 : iab b ≤ B) : iab (a * b) ≤ ((A * B : Nat) : Int) := by
  have q : ∀ a : Int, iab a = (a.natAbs : Int) := fun a => by unfold iab; split <;> omega
  rw [q a] at h1
  rw [q b] at h2
  rw [q, Int.natAbs_mul]
  exact Int.ofNat_le.mpr (Nat.mul_le_mul (by omega) (by omega))
theorem small_iab {a : Int} (h : iab a ≤ 10 ^ 100) : Small a := by
  have := iab_or a
  exact small_of (by omega) (by omega)
abbrev qtt (x y z : Int) : Bool := y != 0 && (isq x y z && true)
def TRq (a0 b0 a1 b1 a2 b2 : Int) : List (Int × Int × Int) := (rngL a0 (b0 + 1)).flatMap fun x => (rngL a1 (b1 + 1)).flatMap fun y => ((rngL a2 (b2 + 1)).filter (qtt x y)).map fun z => (x, y, z)
theorem TRq_eq : ((rngL a0 (b0 + 1)).flatMap fun x => (rngL a1 (b1 + 1)).flatMap fun y => (((rngL a2 (b2 + 1)).filter (qtt x y)).map fun z => PV.tup [PV.int x, PV.int y, PV.int z])) = (TRq a0 b0 a1 b1 a2 b2).map t3 := by
  unfold TRq
  simp only [List.map_flatMap, List.map_map]
  rfl
theorem TRq_mem (t : Int × Int × Int) : t ∈ TRq a0 b0 a1 b1 a2 b2 ↔ (a0 ≤ t.1 ∧ t.1 ≤ b0) ∧ (a1 ≤ t.2.1 ∧ t.2.1 ≤ b1) ∧ (a2 ≤ t.2.2 ∧ t.2.2 ≤ b2) ∧ t.2.1 ≠ 0 ∧ isq t.1 t.2.1 t.2.2 = true := by
  unfold TRq
  simp only [List.mem_flatMap, List.mem_map, List.mem_filter, mem_rngL, Bool.and_eq_true, bne_iff_ne, and_true]
  constructor
  · rintro ⟨x, hx, y, hy, z, ⟨hz, h1, h2⟩, rfl⟩
    exact ⟨by dsimp only; omega, by dsimp only; omega, by dsimp only; omega, h1, h2⟩
  · rintro ⟨hx, hy, hz, h1, h2⟩
    exact ⟨t.1, by omega, t.2.1, by omega, t.2.2, ⟨by omega, h1, h2⟩, rfl⟩

theorem c_law_quotients_right {n c : Int} (hk : 106 ≤ k) (hn : 0 ≤ n) (hc0 : 0 ≤ c) (hc9 : c ≤ 400) :
    ∃ n' c', 0 ≤ n' ∧ c ≤ c' ∧ c' ≤ c + 20 ∧ CallsV (GG w mean mg mb) k (.ref 329) [[.int n, .int c]] [.cell 0] (.bool true) [[.int n', .int c']] := by
  obtain ⟨v1, n1, x11, x12, hn1, C1⟩ := c_law_step (w := w) (mean := mean) (mg := mg) (mb := mb) (k := k - 1) (τ := []) (many := 3) (by omega) hn hc0 (by omega) (by decide) (by decide)
  obtain ⟨v2, n2, x21, x22, hn2, C2⟩ := c_law_step (w := w) (mean := mean) (mg := mg) (mb := mb) (k := k - 1) (τ := []) (many := 2) (by omega) hn1 (c := c + 1) (by omega) (by omega) (by decide) (by decide)
  obtain hw | hw | hw : v1 = 2 ∨ v1 = 0 ∨ v1 = 1 := by omega
  · obtain ⟨n3, c3, h1, h2, h3, CW⟩ := c_law_wide_quotients_right (w := w) (mean := mean) (mg := mg) (mb := mb) (k := k - 1) (τ := []) (by omega) hn2 (c := c + 1 + 1) (by omega) (by omega) (sg_or v2)
    refine ⟨n3, c3, h1, by omega, by omega, ?_⟩
    have hh : PySem.Challenge.rw_pc0029_01.name = PySem.Str.ofString "law" := rfl
    have hH : hd.heap_39 w.params = hd.heap_39 w.params := rfl
    revert hh hH
    k_fill
    intro hh hH
    obtain ⟨j, rfl⟩ : ∃ j, k = j + 1 := ⟨k - 1, by omega⟩
    refine' calls_def ?ho ?hcd ?hn ?hl ?hnn ?hb ?hkind ?hnd ?hk ?hco ?hgen ?hcn ?h
    case ho => (show (hd.heap_39 w.params).lookup 329 = _); k_is
    case hcd => (show codeIn (hd.heap_39 w.params) _ _ = _); k_is
    case hn => rfl
    case hl => rfl
    case hnn => decide
    case hb => exact vals1 (fun _ => rfl)
    case hkind => decide
    case hnd => decide
    case hk => rfl
    case hco => rfl
    case hgen => rfl
    case hcn => decide
    replace C1 := C1.le (k' := j) (by omega)
    replace C2 := C2.le (k' := j) (by omega)
    replace CW := CW.le (k' := j) (by omega)
    refine (ex_cons (ex1_swap (xs := [Str.ofString "way", Str.ofString "sign"]) (ev_tuple (evs_cons (ev_call (gl_law_step rfl) kp_law_step (evs_cons (ev_name rfl rfl rfl rfl) (evs_cons ev_int evs_nil (fun _ => rfl)) (fun _ => rfl)) C1 (fun _ => rfl) (fun _ => rfl)) (evs_cons (ev_item (ev_tuple (evs_cons ev_int (evs_cons (ev_neg ev_int) evs_nil (fun _ => rfl)) (fun _ => rfl)) (Nat.le_of_ble_eq_true rfl)) (ev_call (gl_law_step rfl) kp_law_step (evs_cons (ev_name rfl rfl rfl rfl) (evs_cons ev_int evs_nil (fun _ => rfl)) (fun _ => rfl)) C2 (fun _ => rfl) (fun _ => rfl)) (itmS x21 x22) (fun _ _ => rfl)) evs_nil (fun _ => rfl)) (fun _ => rfl)) (Nat.le_of_ble_eq_true rfl)) (swp_cons (.inl rfl) (swp_cons (.inl rfl) swp_nil)) rfl (fun _ => rfl) (fun env h => by cases env; subst h; rfl)) (ex_if_ret (tst_compare (ev_name rfl rfl rfl rfl) ev_int cmp_eq (by omega) rfl) (fun hc => (ex_return (ev_call (gl_law_wide_quotients_right rfl) kp_law_wide_quotients_right (evs_cons (ev_name rfl rfl rfl rfl) (evs_cons (ev_name rfl rfl rfl rfl) evs_nil (fun _ => rfl)) (fun _ => rfl)) CW (fun _ => rfl) (fun _ => rfl)) ?_)) (fun hc => absurd hc (by simp [hw]))))
    rfl
  · subst hw
    have hw : True := trivial
    obtain ⟨v3, n3, x31, x32, hn3, C3⟩ := c_law_step (w := w) (mean := mean) (mg := mg) (mb := mb) (k := k - 1) (τ := []) (many := 100) (by omega) hn2 (c := c + 1 + 1) (by omega) (by omega) (by decide) (by decide)
    obtain ⟨v4, n4, x41, x42, hn4, C4⟩ := c_law_step (w := w) (mean := mean) (mg := mg) (mb := mb) (k := k - 1) (τ := []) (many := 8) (by omega) hn3 (c := c + 1 + 1 + 1) (by omega) (by omega) (by decide) (by decide)
    obtain ⟨v5, n5, x51, x52, hn5, C5⟩ := c_law_step (w := w) (mean := mean) (mg := mg) (mb := mb) (k := k - 1) (τ := []) (many := 5) (by omega) hn4 (c := c + 1 + 1 + 1 + 1) (by omega) (by omega) (by decide) (by decide)
    obtain ⟨p6, u6, n6, y61, y62, y63, y64, hn6, C6⟩ := c_law_around (w := w) (mean := mean) (mg := mg) (mb := mb) (k := k - 1) (τ := []) (m := ((sg v2 * (10 ^ 20 + v3)) * (v4 - 3) + (if (decide (0 ≤ (sg v2 * (10 ^ 20 + v3)) * (v4 - 3))) = true then rimv v5 (sg v2 * (10 ^ 20 + v3)) else 0 - rimv v5 (sg v2 * (10 ^ 20 + v3))))) (by omega) hn5 (c := c + 1 + 1 + 1 + 1 + 1) (by omega) (by omega)
    obtain ⟨p7, u7, n7, y71, y72, y73, y74, hn7, C7⟩ := c_law_around (w := w) (mean := mean) (mg := mg) (mb := mb) (k := k - 1) (τ := []) (m := (sg v2 * (10 ^ 20 + v3))) (by omega) hn6 (c := c + 1 + 1 + 1 + 1 + 1 + 2) (by omega) (by omega)
    obtain ⟨p8, u8, n8, y81, y82, y83, y84, hn8, C8⟩ := c_law_around (w := w) (mean := mean) (mg := mg) (mb := mb) (k := k - 1) (τ := []) (m := (v4 - 3)) (by omega) hn7 (c := c + 1 + 1 + 1 + 1 + 1 + 2 + 2) (by omega) (by omega)
    have hsg := sg_or v2
    have hY : iab (sg v2 * (10 ^ 20 + v3)) ≤ (((10 ^ 20 + 100 : Nat)) : Int) := by
      have := iab_or (sg v2 * (10 ^ 20 + v3))
      rcases hsg with e | e <;> rw [e] at this ⊢ <;> omega
    have hZ : iab (v4 - 3) ≤ (((10 : Nat)) : Int) := by
      have := iab_or (v4 - 3)
      omega
    have hP := mul_bnd hY hZ
    have hR := rimv_bnd v5 (sg v2 * (10 ^ 20 + v3))
    have Sy : Small (sg v2 * (10 ^ 20 + v3)) := small_iab (Int.le_trans hY (by decide))
    have Sz : Small (v4 - 3) := small_iab (Int.le_trans hZ (by decide))
    have Ss : Small (sg v2) := small_of (by omega) (by omega)
    have Sy0 : Small (10 ^ 20 + v3) := small_of (by omega) (by omega)
    have hX : -(10 ^ 50) ≤ ((sg v2 * (10 ^ 20 + v3)) * (v4 - 3) + (if (decide (0 ≤ (sg v2 * (10 ^ 20 + v3)) * (v4 - 3))) = true then rimv v5 (sg v2 * (10 ^ 20 + v3)) else 0 - rimv v5 (sg v2 * (10 ^ 20 + v3)))) ∧ ((sg v2 * (10 ^ 20 + v3)) * (v4 - 3) + (if (decide (0 ≤ (sg v2 * (10 ^ 20 + v3)) * (v4 - 3))) = true then rimv v5 (sg v2 * (10 ^ 20 + v3)) else 0 - rimv v5 (sg v2 * (10 ^ 20 + v3)))) ≤ 10 ^ 50 := by
      have := iab_or ((sg v2 * (10 ^ 20 + v3)) * (v4 - 3))
      generalize (sg v2 * (10 ^ 20 + v3)) * (v4 - 3) = p at *
      generalize iab p = ip at *
      generalize rimv v5 (sg v2 * (10 ^ 20 + v3)) = r at *
      generalize iab (sg v2 * (10 ^ 20 + v3)) = yy at *
      split <;> omega
    have hY' := iab_or (sg v2 * (10 ^ 20 + v3))
    have hZ' := iab_or (v4 - 3)
    refine ⟨n8, c + 1 + 1 + 1 + 1 + 1 + 2 + 2 + 2, hn8, by omega, by omega, ?_⟩
    have hh : PySem.Challenge.rw_pc0029_01.name = PySem.Str.ofString "law" := rfl
    have hH : hd.heap_39 w.params = hd.heap_39 w.params := rfl
    revert hh hH
    k_fill
    intro hh hH
    obtain ⟨j, rfl⟩ : ∃ j, k = j + 1 := ⟨k - 1, by omega⟩
    refine' calls_def ?ho ?hcd ?hn ?hl ?hnn ?hb ?hkind ?hnd ?hk ?hco ?hgen ?hcn ?h
    case ho => (show (hd.heap_39 w.params).lookup 329 = _); k_is
    case hcd => (show codeIn (hd.heap_39 w.params) _ _ = _); k_is
    case hn => rfl
    case hl => rfl
    case hnn => decide
    case hb => exact vals1 (fun _ => rfl)
    case hkind => decide
    case hnd => decide
    case hk => rfl
    case hco => rfl
    case hgen => rfl
    case hcn => decide
    replace C1 := C1.le (k' := j) (by omega)
    replace C2 := C2.le (k' := j) (by omega)
    replace C3 := C3.le (k' := j) (by omega)
    replace C4 := C4.le (k' := j) (by omega)
    replace C5 := C5.le (k' := j) (by omega)
    replace C6 := C6.le (k' := j) (by omega)
    replace C7 := C7.le (k' := j) (by omega)
    replace C8 := C8.le (k' := j) (by omega)
    generalize ha0 : ((sg v2 * (10 ^ 20 + v3)) * (v4 - 3) + (if (decide (0 ≤ (sg v2 * (10 ^ 20 + v3)) * (v4 - 3))) = true then rimv v5 (sg v2 * (10 ^ 20 + v3)) else 0 - rimv v5 (sg v2 * (10 ^ 20 + v3)))) - p6 = a0 at C6
    generalize hb0 : ((sg v2 * (10 ^ 20 + v3)) * (v4 - 3) + (if (decide (0 ≤ (sg v2 * (10 ^ 20 + v3)) * (v4 - 3))) = true then rimv v5 (sg v2 * (10 ^ 20 + v3)) else 0 - rimv v5 (sg v2 * (10 ^ 20 + v3)))) + u6 = b0 at C6
    generalize ha1 : (sg v2 * (10 ^ 20 + v3)) - p7 = a1 at C7
    generalize hb1 : (sg v2 * (10 ^ 20 + v3)) + u7 = b1 at C7
    generalize ha2 : (v4 - 3) - p8 = a2 at C8
    generalize hb2 : (v4 - 3) + u8 = b2 at C8
    have NN0 : Nar a0 b0 a1 b1 a2 b2 := by
      generalize ((sg v2 * (10 ^ 20 + v3)) * (v4 - 3) + (if (decide (0 ≤ (sg v2 * (10 ^ 20 + v3)) * (v4 - 3))) = true then rimv v5 (sg v2 * (10 ^ 20 + v3)) else 0 - rimv v5 (sg v2 * (10 ^ 20 + v3)))) = xx at *
      generalize (sg v2 * (10 ^ 20 + v3)) = yy at *
      constructor <;> omega
    have hz5 : (rngL a2 (b2 + 1)).length ≤ 5 := by rw [length_rngL]; have := NN0.w2; omega
    have hy5 : (rngL a1 (b1 + 1)).length ≤ 5 := by rw [length_rngL]; have := NN0.w1; omega
    have hx5 : (rngL a0 (b0 + 1)).length ≤ 5 := by rw [length_rngL]; have := NN0.w0; omega
    have w1 := NN0.w1
    have SY : ∀ y ∈ rngL a1 (b1 + 1), Small y := fun y hy => by
      have := mem_rngL.mp hy; have := NN0.l1; have := NN0.u1
      exact small_of (by omega) (by omega)
    have SZ : ∀ z ∈ rngL a2 (b2 + 1), Small z := fun y hy => by
      have := mem_rngL.mp hy; have := NN0.l2; have := NN0.u2
      exact small_of (by omega) (by omega)
    have hF25 : ∀ x ∈ rngL a0 (b0 + 1), ((rngL a1 (b1 + 1)).flatMap fun y => (((rngL a2 (b2 + 1)).filter (qtt x y)).map (fun z => PV.tup [PV.int x, PV.int y, PV.int z]))).length ≤ 25 := fun x hx => Nat.le_trans (flat_len (wd := 5) fun y hy => len_filter hz5) (by omega)
    have hL0 : ([] : List PV).length + (rngL a0 (b0 + 1)).length * 25 ≤ 100000 := by rw [List.length_nil]; omega
    have hTL : (TRq a0 b0 a1 b1 a2 b2).length ≤ 1000 := by
      have := congrArg List.length (TRq_eq (a0 := a0) (b0 := b0) (a1 := a1) (b1 := b1) (a2 := a2) (b2 := b2))
      rw [List.length_map] at this
      have := flat_len hF25
      omega
    have hTm := TRq_mem (a0 := a0) (b0 := b0) (a1 := a1) (b1 := b1) (a2 := a2) (b2 := b2)
    exact (ex_cons (ex1_swap (xs := [Str.ofString "way", Str.ofString "sign"]) (ev_tuple (evs_cons (ev_call (gl_law_step rfl) kp_law_step (evs_cons (ev_name rfl rfl rfl rfl) (evs_cons ev_int evs_nil (fun _ => rfl)) (fun _ => rfl)) C1 (fun _ => rfl) (fun _ => rfl)) (evs_cons (ev_item (ev_tuple (evs_cons ev_int (evs_cons (ev_neg ev_int) evs_nil (fun _ => rfl)) (fun _ => rfl)) (Nat.le_of_ble_eq_true rfl)) (ev_call (gl_law_step rfl) kp_law_step (evs_cons (ev_name rfl rfl rfl rfl) (evs_cons ev_int evs_nil (fun _ => rfl)) (fun _ => rfl)) C2 (fun _ => rfl) (fun _ => rfl)) (itmS x21 x22) (fun _ _ => rfl)) evs_nil (fun _ => rfl)) (fun _ => rfl)) (Nat.le_of_ble_eq_true rfl)) (swp_cons (.inl rfl) (swp_cons (.inl rfl) swp_nil)) rfl (fun _ => rfl) (fun env h => by cases env; subst h; rfl)) (ex_skip (Tst.conv (tst_compare (ev_name rfl rfl rfl rfl) ev_int cmp_eq (by omega) rfl) (by simp [hw])) (ex_if_T (Tst.conv (tst_compare (ev_name rfl rfl rfl rfl) ev_int cmp_eq (by omega) rfl) (by simp [hw])) (ex_cons (ex1_assign (ev_mul (Small.mulOk Ss Sy0) (ev_name rfl rfl rfl rfl) (ev_add (ev_call0 (gl_law_out rfl) kp_law_out (c_law_out (by omega))) (ev_call (gl_law_step rfl) kp_law_step (evs_cons (ev_name rfl rfl rfl rfl) (evs_cons ev_int evs_nil (fun _ => rfl)) (fun _ => rfl)) C3 (fun _ => rfl) (fun _ => rfl)))) (.inr rfl) (fun env h => by cases env; subst h; rfl)) (ex_cons (ex1_assign (ev_sub (ev_call (gl_law_step rfl) kp_law_step (evs_cons (ev_name rfl rfl rfl rfl) (evs_cons ev_int evs_nil (fun _ => rfl)) (fun _ => rfl)) C4 (fun _ => rfl) (fun _ => rfl)) ev_int) (.inl rfl) (fun env h => by cases env; subst h; rfl)) ex_nil)) (ex_cons (ex1_assign (ev_item (ev_tuple (evs_cons ev_int (evs_cons ev_int (evs_cons (ev_sub (ev_call (gl_abs rfl) keep_builtin (evs_cons (ev_name rfl rfl rfl rfl) evs_nil (fun _ => rfl)) calls_abs (fun _ => rfl) (fun _ => rfl)) ev_int) (evs_cons (ev_call (gl_abs rfl) keep_builtin (evs_cons (ev_name rfl rfl rfl rfl) evs_nil (fun _ => rfl)) calls_abs (fun _ => rfl) (fun _ => rfl)) (evs_cons (ev_neg ev_int) evs_nil (fun _ => rfl)) (fun _ => rfl)) (fun _ => rfl)) (fun _ => rfl)) (fun _ => rfl)) (Nat.le_of_ble_eq_true rfl)) (ev_call (gl_law_step rfl) kp_law_step (evs_cons (ev_name rfl rfl rfl rfl) (evs_cons ev_int evs_nil (fun _ => rfl)) (fun _ => rfl)) C5 (fun _ => rfl) (fun _ => rfl)) (itmM x51 x52) (fun _ _ => rfl)) (.inl rfl) (fun env h => by cases env; subst h; rfl)) (ex_cons (ex1_assign (ev_add (ev_mul (Small.mulOk Sy Sz) (ev_name rfl rfl rfl rfl) (ev_name rfl rfl rfl rfl)) (by exact Run.conv (ev_ite (tst_compare (ev_mul (Small.mulOk Sy Sz) (ev_name rfl rfl rfl rfl) (ev_name rfl rfl rfl rfl)) ev_int cmp_ge (by omega) rfl) (fun hc => (ev_name rfl rfl rfl rfl)) (fun hc => (ev_sub ev_int (ev_name rfl rfl rfl rfl)))) (ite_int _ _ _))) (.inr rfl) (fun env h => by cases env; subst h; rfl)) (ex_grow' (xs := [Str.ofString "ranges", Str.ofString "triples"]) (σ₂ := [[PV.int n8, PV.int (c + 1 + 1 + 1 + 1 + 1 + 2 + 2 + 2)]]) (L := (TRq a0 b0 a1 b1 a2 b2).map t3) (ρ₀ := [(Str.ofString "ranges", R3 a0 b0 a1 b1 a2 b2), (Str.ofString "triples", .cell 1)]) (ρ₃ := [(Str.ofString "ranges", R3 a0 b0 a1 b1 a2 b2), (Str.ofString "triples", .lst ((TRq a0 b0 a1 b1 a2 b2).map t3))]) (evsN_cons (ev_list (evs_cons (ev_call (gl_law_around rfl) kp_law_around (evs_cons (ev_name rfl rfl rfl rfl) (evs_cons (ev_name rfl rfl rfl rfl) evs_nil (fun _ => rfl)) (fun _ => rfl)) C6 (fun _ => rfl) (fun _ => rfl)) (evs_cons (ev_call (gl_law_around rfl) kp_law_around (evs_cons (ev_name rfl rfl rfl rfl) (evs_cons (ev_name rfl rfl rfl rfl) evs_nil (fun _ => rfl)) (fun _ => rfl)) C7 (fun _ => rfl) (fun _ => rfl)) (evs_cons (ev_call (gl_law_around rfl) kp_law_around (evs_cons (ev_name rfl rfl rfl rfl) (evs_cons (ev_name rfl rfl rfl rfl) evs_nil (fun _ => rfl)) (fun _ => rfl)) C8 (fun _ => rfl) (fun _ => rfl)) evs_nil (fun _ => rfl)) (fun _ => rfl)) (fun _ => rfl)) (Nat.le_of_ble_eq_true rfl)) (evsN_one (Nat.zero_lt_succ _) (fun _ => rfl)) (fun _ => rfl)) rfl (Nat.le_of_ble_eq_true rfl) (swp_cons (.inl rfl) (swp_cons (.inl rfl) swp_nil)) (by exact sub2 rfl rfl) (by exact next_cv (forAcc (ev_call (gl_law_all rfl) kp_law_all (evs_cons (ev_item (ev_name rfl rfl rfl rfl) ev_int ⟨by decide, rfl, (Nat.le_of_ble_eq_true rfl)⟩ (fun _ _ => rfl)) evs_nil (fun _ => rfl)) (c_law_all (by omega)) (fun _ => rfl) (fun _ => rfl)) itemsOf_rng (fun _ _ => rfl) (fl_accb (g := PV.int) (σ := [[PV.int n8, PV.int (c + 1 + 1 + 1 + 1 + 1 + 2 + 2 + 2)]]) (fun x => (rngL a1 (b1 + 1)).flatMap fun y => (((rngL a2 (b2 + 1)).filter (qtt x y)).map (fun z => PV.tup [PV.int x, PV.int y, PV.int z]))) 25 100000 (rngL a0 (b0 + 1)) [] hF25 hL0 (fun L hL1 x hx => step_of (asg_name (.inr ⟨rfl, rfl⟩)) (by exact ext1 rfl ext0) (by exact forAcc (ev_call (gl_law_all rfl) kp_law_all (evs_cons (ev_item (ev_name rfl rfl rfl rfl) ev_int ⟨by decide, rfl, (Nat.le_of_ble_eq_true rfl)⟩ (fun _ _ => rfl)) evs_nil (fun _ => rfl)) (c_law_all (by omega)) (fun _ => rfl) (fun _ => rfl)) itemsOf_rng (fun _ _ => rfl) (fl_accb (g := PV.int) (σ := [[PV.int n8, PV.int (c + 1 + 1 + 1 + 1 + 1 + 2 + 2 + 2)]]) (fun y => (((rngL a2 (b2 + 1)).filter (qtt x y)).map (fun z => PV.tup [PV.int x, PV.int y, PV.int z]))) 5 100000 (rngL a1 (b1 + 1)) L (fun y hy => len_filter hz5) (by rw [length_rngL]; omega) (fun L hL2 y hy => ⟨_, _, asg_name (.inr ⟨rfl, rfl⟩), (by exact ex_cons (ex1_extend (ev_name rfl rfl rfl rfl) (ev_listcomp rfl ⟨rfl, by decide, by decide, by decide, rfl⟩ (ev_call (gl_law_all rfl) kp_law_all (evs_cons (ev_item (ev_name rfl rfl rfl rfl) ev_int ⟨by decide, rfl, (Nat.le_of_ble_eq_true rfl)⟩ (fun _ _ => rfl)) evs_nil (fun _ => rfl)) (c_law_all (by omega)) (fun _ => rfl) (fun _ => rfl)) itemsOf_rng (clL (g := PV.int) (fun z : Int => qtt x y z) (fun z => PV.tup [PV.int x, PV.int y, PV.int z]) rfl rfl rfl (rngL a2 (b2 + 1)) (fun z hz => ⟨_, (asg_name (.inl rfl)), (tsts_one (by exact (tst_boolop (tstAll_and (tst_compare (ev_name rfl rfl rfl rfl) ev_int cmp_ne (by omega) rfl) (fun hc0 => (tstAll_and (tst_plain (ev_call (gl_law_is_quotient rfl) kp_law_is_quotient (evs_cons (ev_name rfl rfl rfl rfl) (evs_cons (ev_name rfl rfl rfl rfl) (evs_cons (ev_name rfl rfl rfl rfl) evs_nil (fun _ => rfl)) (fun _ => rfl)) (fun _ => rfl)) (c_law_is_quotient (by omega) (SY y hy) (SZ z hz)) (fun _ => rfl) (fun _ => rfl)) (fun _ _ => rfl)) (fun hc1 => tstAll_nil))))))), fun hb => (by exact (ev_tuple (evs_cons (ev_name rfl rfl rfl rfl) (evs_cons (ev_name rfl rfl rfl rfl) (evs_cons (ev_name rfl rfl rfl rfl) evs_nil (fun _ => rfl)) (fun _ => rfl)) (fun _ => rfl)) (Nat.le_of_ble_eq_true rfl))), by exact ext1 rfl ext0⟩)) (Nat.le_trans (len_filter hz5) (by decide)) (fun _ _ => rfl)) (Nat.zero_lt_succ 0) rfl (Nat.le_trans (Nat.add_le_add_left (len_filter hz5) _) hL2) rfl (fun _ => rfl) (fun _ => rfl) (fun env h => by cases env; subst h; rfl) (fun env h => by cases env; subst h; rfl)) ex_nil), by exact ext1 rfl ext0⟩)))))) (by rw [TRq_eq]; rfl)) (Nat.zero_lt_succ _) (low_t3 _) (fun l hl => by rw [List.mem_singleton.mp hl]; rfl) (grow_ok rfl rfl rfl) (ex_return (ev_call (gl_law_is_narrow_right rfl) kp_law_is_narrow_right (evs_cons (ev_call (gl_Quotient rfl) kp_Quotient (evs_cons ev_int (evs_cons ev_int (evs_cons ev_int evs_nil (fun _ => rfl)) (fun _ => rfl)) (fun _ => rfl)) (calls_q w (by omega)) (fun _ => rfl) (fun _ => rfl)) (evs_cons (ev_name rfl rfl rfl rfl) (evs_cons (ev_name rfl rfl rfl rfl) evs_nil (fun _ => rfl)) (fun _ => rfl)) (fun _ => rfl)) (narrow_q NN0 (by omega) hTL hTm) (fun _ => rfl) (fun _ => rfl)) rfl) (fun _ => rfl) (fun env h => by cases env; subst h; rfl)))))))

  · subst hw
    have hw : True := trivial
    obtain ⟨v3, n3, x31, x32, hn3, C3⟩ := c_law_step (w := w) (mean := mean) (mg := mg) (mb := mb) (k := k - 1) (τ := []) (many := 9) (by omega) hn2 (c := c + 1 + 1) (by omega) (by omega) (by decide) (by decide)
    obtain ⟨v4, n4, x41, hn4, C4⟩ := c_law_great (w := w) (mean := mean) (mg := mg) (mb := mb) (k := k - 1) (τ := []) (by omega) hn3 (c := c + 1 + 1 + 1) (by omega) (by omega)
    obtain ⟨v5, n5, x51, x52, hn5, C5⟩ := c_law_step (w := w) (mean := mean) (mg := mg) (mb := mb) (k := k - 1) (τ := []) (many := 5) (by omega) hn4 (c := c + 1 + 1 + 1 + 2) (by omega) (by omega) (by decide) (by decide)
    obtain ⟨p6, u6, n6, y61, y62, y63, y64, hn6, C6⟩ := c_law_around (w := w) (mean := mean) (mg := mg) (mb := mb) (k := k - 1) (τ := []) (m := ((sg v2 * (1 + v3)) * v4 + (if (decide (0 ≤ (sg v2 * (1 + v3)) * v4)) = true then rimv v5 (sg v2 * (1 + v3)) else 0 - rimv v5 (sg v2 * (1 + v3))))) (by omega) hn5 (c := c + 1 + 1 + 1 + 2 + 1) (by omega) (by omega)
    obtain ⟨p7, u7, n7, y71, y72, y73, y74, hn7, C7⟩ := c_law_around (w := w) (mean := mean) (mg := mg) (mb := mb) (k := k - 1) (τ := []) (m := (sg v2 * (1 + v3))) (by omega) hn6 (c := c + 1 + 1 + 1 + 2 + 1 + 2) (by omega) (by omega)
    obtain ⟨p8, u8, n8, y81, y82, y83, y84, hn8, C8⟩ := c_law_around (w := w) (mean := mean) (mg := mg) (mb := mb) (k := k - 1) (τ := []) (m := v4) (by omega) hn7 (c := c + 1 + 1 + 1 + 2 + 1 + 2 + 2) (by omega) (by omega)
    have hsg := sg_or v2
    have hY : iab (sg v2 * (1 + v3)) ≤ (((10 : Nat)) : Int) := by
      have := iab_or (sg v2 * (1 + v3))
      rcases hsg with e | e <;> rw [e] at this ⊢ <;> omega
    have hZ : iab v4 ≤ (((10 ^ 20 + 100 : Nat)) : Int) := by
      have := iab_or v4
      omega
    have hP := mul_bnd hY hZ
    have hR := rimv_bnd v5 (sg v2 * (1 + v3))
    have Sy : Small (sg v2 * (1 + v3)) := small_iab (Int.le_trans hY (by decide))
    have Sz : Small v4 := small_iab (Int.le_trans hZ (by decide))
    have Ss : Small (sg v2) := small_of (by omega) (by omega)
    have Sy0 : Small (1 + v3) := small_of (by omega) (by omega)
    have hX : -(10 ^ 50) ≤ ((sg v2 * (1 + v3)) * v4 + (if (decide (0 ≤ (sg v2 * (1 + v3)) * v4)) = true then rimv v5 (sg v2 * (1 + v3)) else 0 - rimv v5 (sg v2 * (1 + v3)))) ∧ ((sg v2 * (1 + v3)) * v4 + (if (decide (0 ≤ (sg v2 * (1 + v3)) * v4)) = true then rimv v5 (sg v2 * (1 + v3)) else 0 - rimv v5 (sg v2 * (1 + v3)))) ≤ 10 ^ 50 := by
      have := iab_or ((sg v2 * (1 + v3)) * v4)
      generalize (sg v2 * (1 + v3)) * v4 = p at *
      generalize iab p = ip at *
      generalize rimv v5 (sg v2 * (1 + v3)) = r at *
      generalize iab (sg v2 * (1 + v3)) = yy at *
      split <;> omega
    have hY' := iab_or (sg v2 * (1 + v3))
    have hZ' := iab_or v4
    refine ⟨n8, c + 1 + 1 + 1 + 2 + 1 + 2 + 2 + 2, hn8, by omega, by omega, ?_⟩
    have hh : PySem.Challenge.rw_pc0029_01.name = PySem.Str.ofString "law" := rfl
    have hH : hd.heap_39 w.params = hd.heap_39 w.params := rfl
    revert hh hH
    k_fill
    intro hh hH
    obtain ⟨j, rfl⟩ : ∃ j, k = j + 1 := ⟨k - 1, by omega⟩
    refine' calls_def ?ho ?hcd ?hn ?hl ?hnn ?hb ?hkind ?hnd ?hk ?hco ?hgen ?hcn ?h
    case ho => (show (hd.heap_39 w.params).lookup 329 = _); k_is
    case hcd => (show codeIn (hd.heap_39 w.params) _ _ = _); k_is
    case hn => rfl
    case hl => rfl
    case hnn => decide
    case hb => exact vals1 (fun _ => rfl)
    case hkind => decide
    case hnd => decide
    case hk => rfl
    case hco => rfl
    case hgen => rfl
    case hcn => decide
    replace C1 := C1.le (k' := j) (by omega)
    replace C2 := C2.le (k' := j) (by omega)
    replace C3 := C3.le (k' := j) (by omega)
    replace C4 := C4.le (k' := j) (by omega)
    replace C5 := C5.le (k' := j) (by omega)
    replace C6 := C6.le (k' := j) (by omega)
    replace C7 := C7.le (k' := j) (by omega)
    replace C8 := C8.le (k' := j) (by omega)
    generalize ha0 : ((sg v2 * (1 + v3)) * v4 + (if (decide (0 ≤ (sg v2 * (1 + v3)) * v4)) = true then rimv v5 (sg v2 * (1 + v3)) else 0 - rimv v5 (sg v2 * (1 + v3)))) - p6 = a0 at C6
    generalize hb0 : ((sg v2 * (1 + v3)) * v4 + (if (decide (0 ≤ (sg v2 * (1 + v3)) * v4)) = true then rimv v5 (sg v2 * (1 + v3)) else 0 - rimv v5 (sg v2 * (1 + v3)))) + u6 = b0 at C6
    generalize ha1 : (sg v2 * (1 + v3)) - p7 = a1 at C7
    generalize hb1 : (sg v2 * (1 + v3)) + u7 = b1 at C7
    generalize ha2 : v4 - p8 = a2 at C8
    generalize hb2 : v4 + u8 = b2 at C8
    have NN0 : Nar a0 b0 a1 b1 a2 b2 := by
      generalize ((sg v2 * (1 + v3)) * v4 + (if (decide (0 ≤ (sg v2 * (1 + v3)) * v4)) = true then rimv v5 (sg v2 * (1 + v3)) else 0 - rimv v5 (sg v2 * (1 + v3)))) = xx at *
      generalize (sg v2 * (1 + v3)) = yy at *
      constructor <;> omega
    have hz5 : (rngL a2 (b2 + 1)).length ≤ 5 := by rw [length_rngL]; have := NN0.w2; omega
    have hy5 : (rngL a1 (b1 + 1)).length ≤ 5 := by rw [length_rngL]; have := NN0.w1; omega
    have hx5 : (rngL a0 (b0 + 1)).length ≤ 5 := by rw [length_rngL]; have := NN0.w0; omega
    have w1 := NN0.w1
    have SY : ∀ y ∈ rngL a1 (b1 + 1), Small y := fun y hy => by
      have := mem_rngL.mp hy; have := NN0.l1; have := NN0.u1
      exact small_of (by omega) (by omega)
    have SZ : ∀ z ∈ rngL a2 (b2 + 1), Small z := fun y hy => by
      have := mem_rngL.mp hy; have := NN0.l2; have := NN0.u2
      exact small_of (by omega) (by omega)
    have hF25 : ∀ x ∈ rngL a0 (b0 + 1), ((rngL a1 (b1 + 1)).flatMap fun y => (((rngL a2 (b2 + 1)).filter (qtt x y)).map (fun z => PV.tup [PV.int x, PV.int y, PV.int z]))).length ≤ 25 := fun x hx => Nat.le_trans (flat_len (wd := 5) fun y hy => len_filter hz5) (by omega)
    have hL0 : ([] : List PV).length + (rngL a0 (b0 + 1)).length * 25 ≤ 100000 := by rw [List.length_nil]; omega
    have hTL : (TRq a0 b0 a1 b1 a2 b2).length ≤ 1000 := by
      have := congrArg List.length (TRq_eq (a0 := a0) (b0 := b0) (a1 := a1) (b1 := b1) (a2 := a2) (b2 := b2))
      rw [List.length_map] at this
      have := flat_len hF25
      omega
    have hTm := TRq_mem (a0 := a0) (b0 := b0) (a1 := a1) (b1 := b1) (a2 := a2) (b2 := b2)
    exact (ex_cons (ex1_swap (xs := [Str.ofString "way", Str.ofString "sign"]) (ev_tuple (evs_cons (ev_call (gl_law_step rfl) kp_law_step (evs_cons (ev_name rfl rfl rfl rfl) (evs_cons ev_int evs_nil (fun _ => rfl)) (fun _ => rfl)) C1 (fun _ => rfl) (fun _ => rfl)) (evs_cons (ev_item (ev_tuple (evs_cons ev_int (evs_cons (ev_neg ev_int) evs_nil (fun _ => rfl)) (fun _ => rfl)) (Nat.le_of_ble_eq_true rfl)) (ev_call (gl_law_step rfl) kp_law_step (evs_cons (ev_name rfl rfl rfl rfl) (evs_cons ev_int evs_nil (fun _ => rfl)) (fun _ => rfl)) C2 (fun _ => rfl) (fun _ => rfl)) (itmS x21 x22) (fun _ _ => rfl)) evs_nil (fun _ => rfl)) (fun _ => rfl)) (Nat.le_of_ble_eq_true rfl)) (swp_cons (.inl rfl) (swp_cons (.inl rfl) swp_nil)) rfl (fun _ => rfl) (fun env h => by cases env; subst h; rfl)) (ex_skip (Tst.conv (tst_compare (ev_name rfl rfl rfl rfl) ev_int cmp_eq (by omega) rfl) (by simp [hw])) (ex_if_F (Tst.conv (tst_compare (ev_name rfl rfl rfl rfl) ev_int cmp_eq (by omega) rfl) (by simp [hw])) (ex_cons (ex1_assign (ev_mul (Small.mulOk Ss Sy0) (ev_name rfl rfl rfl rfl) (ev_add ev_int (ev_call (gl_law_step rfl) kp_law_step (evs_cons (ev_name rfl rfl rfl rfl) (evs_cons ev_int evs_nil (fun _ => rfl)) (fun _ => rfl)) C3 (fun _ => rfl) (fun _ => rfl)))) (.inr rfl) (fun env h => by cases env; subst h; rfl)) (ex_cons (ex1_assign (ev_call (gl_law_great rfl) kp_law_great (evs_cons (ev_name rfl rfl rfl rfl) evs_nil (fun _ => rfl)) C4 (fun _ => rfl) (fun _ => rfl)) (.inl rfl) (fun env h => by cases env; subst h; rfl)) ex_nil)) (ex_cons (ex1_assign (ev_item (ev_tuple (evs_cons ev_int (evs_cons ev_int (evs_cons (ev_sub (ev_call (gl_abs rfl) keep_builtin (evs_cons (ev_name rfl rfl rfl rfl) evs_nil (fun _ => rfl)) calls_abs (fun _ => rfl) (fun _ => rfl)) ev_int) (evs_cons (ev_call (gl_abs rfl) keep_builtin (evs_cons (ev_name rfl rfl rfl rfl) evs_nil (fun _ => rfl)) calls_abs (fun _ => rfl) (fun _ => rfl)) (evs_cons (ev_neg ev_int) evs_nil (fun _ => rfl)) (fun _ => rfl)) (fun _ => rfl)) (fun _ => rfl)) (fun _ => rfl)) (Nat.le_of_ble_eq_true rfl)) (ev_call (gl_law_step rfl) kp_law_step (evs_cons (ev_name rfl rfl rfl rfl) (evs_cons ev_int evs_nil (fun _ => rfl)) (fun _ => rfl)) C5 (fun _ => rfl) (fun _ => rfl)) (itmM x51 x52) (fun _ _ => rfl)) (.inl rfl) (fun env h => by cases env; subst h; rfl)) (ex_cons (ex1_assign (ev_add (ev_mul (Small.mulOk Sy Sz) (ev_name rfl rfl rfl rfl) (ev_name rfl rfl rfl rfl)) (by exact Run.conv (ev_ite (tst_compare (ev_mul (Small.mulOk Sy Sz) (ev_name rfl rfl rfl rfl) (ev_name rfl rfl rfl rfl)) ev_int cmp_ge (by omega) rfl) (fun hc => (ev_name rfl rfl rfl rfl)) (fun hc => (ev_sub ev_int (ev_name rfl rfl rfl rfl)))) (ite_int _ _ _))) (.inr rfl) (fun env h => by cases env; subst h; rfl)) (ex_grow' (xs := [Str.ofString "ranges", Str.ofString "triples"]) (σ₂ := [[PV.int n8, PV.int (c + 1 + 1 + 1 + 2 + 1 + 2 + 2 + 2)]]) (L := (TRq a0 b0 a1 b1 a2 b2).map t3) (ρ₀ := [(Str.ofString "ranges", R3 a0 b0 a1 b1 a2 b2), (Str.ofString "triples", .cell 1)]) (ρ₃ := [(Str.ofString "ranges", R3 a0 b0 a1 b1 a2 b2), (Str.ofString "triples", .lst ((TRq a0 b0 a1 b1 a2 b2).map t3))]) (evsN_cons (ev_list (evs_cons (ev_call (gl_law_around rfl) kp_law_around (evs_cons (ev_name rfl rfl rfl rfl) (evs_cons (ev_name rfl rfl rfl rfl) evs_nil (fun _ => rfl)) (fun _ => rfl)) C6 (fun _ => rfl) (fun _ => rfl)) (evs_cons (ev_call (gl_law_around rfl) kp_law_around (evs_cons (ev_name rfl rfl rfl rfl) (evs_cons (ev_name rfl rfl rfl rfl) evs_nil (fun _ => rfl)) (fun _ => rfl)) C7 (fun _ => rfl) (fun _ => rfl)) (evs_cons (ev_call (gl_law_around rfl) kp_law_around (evs_cons (ev_name rfl rfl rfl rfl) (evs_cons (ev_name rfl rfl rfl rfl) evs_nil (fun _ => rfl)) (fun _ => rfl)) C8 (fun _ => rfl) (fun _ => rfl)) evs_nil (fun _ => rfl)) (fun _ => rfl)) (fun _ => rfl)) (Nat.le_of_ble_eq_true rfl)) (evsN_one (Nat.zero_lt_succ _) (fun _ => rfl)) (fun _ => rfl)) rfl (Nat.le_of_ble_eq_true rfl) (swp_cons (.inl rfl) (swp_cons (.inl rfl) swp_nil)) (by exact sub2 rfl rfl) (by exact next_cv (forAcc (ev_call (gl_law_all rfl) kp_law_all (evs_cons (ev_item (ev_name rfl rfl rfl rfl) ev_int ⟨by decide, rfl, (Nat.le_of_ble_eq_true rfl)⟩ (fun _ _ => rfl)) evs_nil (fun _ => rfl)) (c_law_all (by omega)) (fun _ => rfl) (fun _ => rfl)) itemsOf_rng (fun _ _ => rfl) (fl_accb (g := PV.int) (σ := [[PV.int n8, PV.int (c + 1 + 1 + 1 + 2 + 1 + 2 + 2 + 2)]]) (fun x => (rngL a1 (b1 + 1)).flatMap fun y => (((rngL a2 (b2 + 1)).filter (qtt x y)).map (fun z => PV.tup [PV.int x, PV.int y, PV.int z]))) 25 100000 (rngL a0 (b0 + 1)) [] hF25 hL0 (fun L hL1 x hx => step_of (asg_name (.inr ⟨rfl, rfl⟩)) (by exact ext1 rfl ext0) (by exact forAcc (ev_call (gl_law_all rfl) kp_law_all (evs_cons (ev_item (ev_name rfl rfl rfl rfl) ev_int ⟨by decide, rfl, (Nat.le_of_ble_eq_true rfl)⟩ (fun _ _ => rfl)) evs_nil (fun _ => rfl)) (c_law_all (by omega)) (fun _ => rfl) (fun _ => rfl)) itemsOf_rng (fun _ _ => rfl) (fl_accb (g := PV.int) (σ := [[PV.int n8, PV.int (c + 1 + 1 + 1 + 2 + 1 + 2 + 2 + 2)]]) (fun y => (((rngL a2 (b2 + 1)).filter (qtt x y)).map (fun z => PV.tup [PV.int x, PV.int y, PV.int z]))) 5 100000 (rngL a1 (b1 + 1)) L (fun y hy => len_filter hz5) (by rw [length_rngL]; omega) (fun L hL2 y hy => ⟨_, _, asg_name (.inr ⟨rfl, rfl⟩), (by exact ex_cons (ex1_extend (ev_name rfl rfl rfl rfl) (ev_listcomp rfl ⟨rfl, by decide, by decide, by decide, rfl⟩ (ev_call (gl_law_all rfl) kp_law_all (evs_cons (ev_item (ev_name rfl rfl rfl rfl) ev_int ⟨by decide, rfl, (Nat.le_of_ble_eq_true rfl)⟩ (fun _ _ => rfl)) evs_nil (fun _ => rfl)) (c_law_all (by omega)) (fun _ => rfl) (fun _ => rfl)) itemsOf_rng (clL (g := PV.int) (fun z : Int => qtt x y z) (fun z => PV.tup [PV.int x, PV.int y, PV.int z]) rfl rfl rfl (rngL a2 (b2 + 1)) (fun z hz => ⟨_, (asg_name (.inl rfl)), (tsts_one (by exact (tst_boolop (tstAll_and (tst_compare (ev_name rfl rfl rfl rfl) ev_int cmp_ne (by omega) rfl) (fun hc0 => (tstAll_and (tst_plain (ev_call (gl_law_is_quotient rfl) kp_law_is_quotient (evs_cons (ev_name rfl rfl rfl rfl) (evs_cons (ev_name rfl rfl rfl rfl) (evs_cons (ev_name rfl rfl rfl rfl) evs_nil (fun _ => rfl)) (fun _ => rfl)) (fun _ => rfl)) (c_law_is_quotient (by omega) (SY y hy) (SZ z hz)) (fun _ => rfl) (fun _ => rfl)) (fun _ _ => rfl)) (fun hc1 => tstAll_nil))))))), fun hb => (by exact (ev_tuple (evs_cons (ev_name rfl rfl rfl rfl) (evs_cons (ev_name rfl rfl rfl rfl) (evs_cons (ev_name rfl rfl rfl rfl) evs_nil (fun _ => rfl)) (fun _ => rfl)) (fun _ => rfl)) (Nat.le_of_ble_eq_true rfl))), by exact ext1 rfl ext0⟩)) (Nat.le_trans (len_filter hz5) (by decide)) (fun _ _ => rfl)) (Nat.zero_lt_succ 0) rfl (Nat.le_trans (Nat.add_le_add_left (len_filter hz5) _) hL2) rfl (fun _ => rfl) (fun _ => rfl) (fun env h => by cases env; subst h; rfl) (fun env h => by cases env; subst h; rfl)) ex_nil), by exact ext1 rfl ext0⟩)))))) (by rw [TRq_eq]; rfl)) (Nat.zero_lt_succ _) (low_t3 _) (fun l hl => by rw [List.mem_singleton.mp hl]; rfl) (grow_ok rfl rfl rfl) (ex_return (ev_call (gl_law_is_narrow_right rfl) kp_law_is_narrow_right (evs_cons (ev_call (gl_Quotient rfl) kp_Quotient (evs_cons ev_int (evs_cons ev_int (evs_cons ev_int evs_nil (fun _ => rfl)) (fun _ => rfl)) (fun _ => rfl)) (calls_q w (by omega)) (fun _ => rfl) (fun _ => rfl)) (evs_cons (ev_name rfl rfl rfl rfl) (evs_cons (ev_name rfl rfl rfl rfl) evs_nil (fun _ => rfl)) (fun _ => rfl)) (fun _ => rfl)) (narrow_q NN0 (by omega) hTL hTm) (fun _ => rfl) (fun _ => rfl)) rfl) (fun _ => rfl) (fun env h => by cases env; subst h; rfl)))))))

end
end Mine

/- P11 -/
namespace Mine
section
variable {w : World} {mean : ExcName → Option Value} {mg mb : Str → Option Value} {k : Nat} {σ : Store} {sc : Scope}

variable {a0 b0 a1 b1 a2 b2 : Int}
abbrev ptt (o1 o2 y c : Int) : Bool := (c.fmod y == 0 && ((decide (o1 ≤ c.fdiv y) && decide (c.fdiv y ≤ o2)) && true))
def PLs (o1 o2 p1 p2 g1 g2 : Int) : List (Int × Int) := (rngL p1 (p2 + 1)).flatMap fun y => ((rngL g1 (g2 + 1)).filter (ptt o1 o2 y)).map fun c => (y, c)
theorem PLs_eq (o1 o2 p1 p2 g1 g2 : Int) : (((rngL p1 (p2 + 1)).filter (fun _ : Int => true)).flatMap fun y => ((rngL g1 (g2 + 1)).filter (ptt o1 o2 y)).map (fun c => PV.tup [PV.int y, PV.int c])) = (PLs o1 o2 p1 p2 g1 g2).map pr2 := by
  rw [List.filter_eq_self.mpr fun _ _ => rfl]
  unfold PLs
  simp only [List.map_flatMap, List.map_map]
  rfl
theorem mem_PLs {o1 o2 p1 p2 g1 g2 : Int} (hp : 1 ≤ p1) {z : Int × Int} : z ∈ PLs o1 o2 p1 p2 g1 g2 ↔ (p1 ≤ z.1 ∧ z.1 ≤ p2) ∧ (g1 ≤ z.2 ∧ z.2 ≤ g2) ∧ ∃ x, o1 ≤ x ∧ x ≤ o2 ∧ z.1 * x = z.2 ∧ z.2.fdiv z.1 = x := by
  unfold PLs
  simp only [List.mem_flatMap, List.mem_map, List.mem_filter, mem_rngL, Bool.and_eq_true, beq_iff_eq, decide_eq_true_eq, and_true]
  constructor
  · rintro ⟨y, hy, c, ⟨hc, h1, h2⟩, rfl⟩
    have := Int.fmod_add_mul_fdiv c y
    exact ⟨by dsimp only; omega, by dsimp only; omega, c.fdiv y, h2.1, h2.2, by dsimp only; omega, rfl⟩
  · rintro ⟨hy, hc, x, h1, h2, h3, h4⟩
    refine ⟨z.1, by omega, z.2, ⟨by omega, ?_, by omega, by omega⟩, rfl⟩
    rw [← h3]; exact Int.mul_fmod_right _ _
theorem PLs_len {o1 o2 p1 p2 g1 g2 : Int} (h1 : (rngL p1 (p2 + 1)).length ≤ 5) (h2 : (rngL g1 (g2 + 1)).length ≤ 5) : (PLs o1 o2 p1 p2 g1 g2).length ≤ 25 := by
  have := flat_len (wd := 5) (F := fun y => ((rngL g1 (g2 + 1)).filter (ptt o1 o2 y)).map fun c => (y, c)) (xs := rngL p1 (p2 + 1)) fun y hy => len_filter h2
  unfold PLs; omega
theorem wide_out {l h ga gb oa ob M : Int} (hl : 1 ≤ l) (hlh : l ≤ h) (h1 : -M ≤ ga) (h2 : ga ≤ gb) (h3 : gb ≤ M) : iab (tout l h ga gb oa ob).1 ≤ M ∧ iab (tout l h ga gb oa ob).2 ≤ M := by
  have e : prs l h ga gb = [(ga, l), (gb, l), (ga, h), (gb, h)] := by
    unfold prs
    rw [List.filter_cons_of_pos (by simp only [decide_eq_true_eq]; omega), List.filter_cons_of_neg (by simp only [decide_eq_true_eq]; omega)]
    rw [show max l 1 = l by omega]; rfl
  have hM : 0 ≤ M := by omega
  have cd : ∀ c b : Int, -M ≤ c → c ≤ M → 1 ≤ b → -M ≤ cdiv c b ∧ cdiv c b ≤ M := fun c b c1 c2 hb => by
    have q1 : M ≤ M * b := by have := Int.mul_le_mul_of_nonneg_left hb hM; omega
    constructor
    · have := (cdiv_le_pos (a := c) (b := b) (x := -M - 1) (by omega))
      rw [show (-M - 1) * b = -(M * b) - b by rw [Int.sub_mul, Int.neg_mul, Int.one_mul]] at this
      omega
    · exact (cdiv_le_pos (by omega)).mpr (by omega)
  have fd : ∀ c b : Int, -M ≤ c → c ≤ M → 1 ≤ b → -M ≤ c.fdiv b ∧ c.fdiv b ≤ M := fun c b c1 c2 hb => by
    have := cd (-c) b (by omega) (by omega) hb
    unfold cdiv at this
    rw [Int.neg_neg] at this
    omega
  unfold tout
  rw [if_neg (by omega), e, if_neg (List.cons_ne_nil _ _)]
  have m1 := mnL_mem (l := [(ga, l), (gb, l), (ga, h), (gb, h)].map fun z => cdiv z.1 z.2) (List.cons_ne_nil _ _)
  have m2 := mxL_mem (l := [(ga, l), (gb, l), (ga, h), (gb, h)].map fun z => z.1.fdiv z.2) (List.cons_ne_nil _ _)
  generalize mnL ([(ga, l), (gb, l), (ga, h), (gb, h)].map fun z => cdiv z.1 z.2) = A at *
  generalize mxL ([(ga, l), (gb, l), (ga, h), (gb, h)].map fun z => z.1.fdiv z.2) = C at *
  simp only [List.map_cons, List.map_nil, List.mem_cons, List.not_mem_nil, or_false] at m1 m2
  have k1 := cd ga l h1 (by omega) hl
  have k2 := cd gb l (by omega) h3 hl
  have k3 := cd ga h h1 (by omega) (by omega)
  have k4 := cd gb h (by omega) h3 (by omega)
  have k5 := fd ga l h1 (by omega) hl
  have k6 := fd gb l (by omega) h3 hl
  have k7 := fd ga h h1 (by omega) (by omega)
  have k8 := fd gb h (by omega) h3 (by omega)
  have := iab_or A
  have := iab_or C
  dsimp only
  constructor <;> omega

theorem c_law_wide_products_right {n c sign : Int} {τ : Store} (hk : 105 ≤ k) (hn : 0 ≤ n) (hc0 : 0 ≤ c) (hc9 : c ≤ 500) (hs : sign = 1 ∨ sign = -1) :
    ∃ n' c', 0 ≤ n' ∧ c ≤ c' ∧ c' ≤ c + 10 ∧ CallsV (GG w mean mg mb) k (.ref 334) ([.int n, .int c] :: τ) [.cell 0, .int sign] (.bool true) ([.int n', .int c'] :: τ) := by
  obtain ⟨p, u, n2, y1, y2, y3, y4, y5, C2⟩ := c_law_around (w := w) (mean := mean) (mg := mg) (mb := mb) (k := k - 1) (τ := τ) (m := 3) (by omega) hn (c := c) (by omega) (by omega)
  obtain ⟨v1, n1, x1, x2, x3, C1⟩ := c_law_step (w := w) (mean := mean) (mg := mg) (mb := mb) (k := k - 1) (τ := τ) (many := 9) (by omega) y5 (c := c + 2) (by omega) (by omega) (by decide) (by decide)
  obtain ⟨p', u', n4, u1, u2, u3, u4, u5, C3⟩ := c_law_around (w := w) (mean := mean) (mg := mg) (mb := mb) (k := k - 1) (τ := τ) (m := v1 - 4) (by omega) x3 (c := c + 2 + 1) (by omega) (by omega)
  refine ⟨n4, c + 2 + 1 + 2, u5, by omega, by omega, ?_⟩
  have hh : PySem.Challenge.rw_pc0029_01.name = PySem.Str.ofString "law" := rfl
  have hH : hd.heap_39 w.params = hd.heap_39 w.params := rfl
  revert hh hH
  k_fill
  intro hh hH
  obtain ⟨j, rfl⟩ : ∃ j, k = j + 1 := ⟨k - 1, by omega⟩
  refine' calls_def ?ho ?hcd ?hn ?hl ?hnn ?hb ?hkind ?hnd ?hk ?hco ?hgen ?hcn ?h
  case ho => (show (hd.heap_39 w.params).lookup 334 = _); k_is
  case hcd => (show codeIn (hd.heap_39 w.params) _ _ = _); k_is
  case hn => rfl
  case hl => rfl
  case hnn => decide
  case hb => exact vals2 (fun _ _ => rfl)
  case hkind => decide
  case hnd => decide
  case hk => rfl
  case hco => rfl
  case hgen => rfl
  case hcn => decide
  replace C1 := C1.le (k' := j) (by omega)
  replace C2 := C2.le (k' := j) (by omega)
  replace C3 := C3.le (k' := j) (by omega)
  have hss : Small sign := small_of (by omega) (by omega)
  generalize ha0 : 3 - p = p1 at C2
  generalize hb0 : 3 + u = p2 at C2
  generalize ha2 : v1 - 4 - p' = g1 at C3
  generalize hb2 : v1 - 4 + u' = g2 at C3
  have A0 : 1 ≤ p1 := by omega
  have A1 : p1 ≤ p2 := by omega
  have A2 : p2 ≤ 5 := by omega
  have A3 : -6 ≤ g1 := by omega
  have A4 : g1 ≤ g2 := by omega
  have A5 : g2 ≤ 6 := by omega
  have A6 : g2 - g1 ≤ 4 := by omega
  have A7 : p2 - p1 ≤ 4 := by omega
  refine (ex_cons (ex1_assign (ev_call (gl_sorted rfl) keep_builtin (evs_cons (ev_list (evs_cons ev_int (evs_cons (ev_mul (Small.mulOk (small_of (by decide) (by decide)) hss) (ev_call0 (gl_law_out rfl) kp_law_out (c_law_out (by omega))) (ev_name rfl rfl rfl rfl)) evs_nil (fun _ => rfl)) (fun _ => rfl)) (Nat.le_of_ble_eq_true rfl)) evs_nil (fun _ => rfl)) calls_sorted2 (fun _ => rfl) (fun _ => rfl)) (.inl rfl) (fun env h => by cases env; subst h; rfl)) (ex_cons (ex1_assign_tuple (ev_tuple (evs_cons (ev_tuple (evs_cons (ev_item (ev_name rfl rfl rfl rfl) ev_int ⟨by decide, rfl, (Nat.le_of_ble_eq_true rfl)⟩ (fun _ _ => rfl)) (evs_cons (ev_item (ev_name rfl rfl rfl rfl) ev_int ⟨by decide, rfl, (Nat.le_of_ble_eq_true rfl)⟩ (fun _ _ => rfl)) evs_nil (fun _ => rfl)) (fun _ => rfl)) (Nat.le_of_ble_eq_true rfl)) (evs_cons (ev_call (gl_law_around rfl) kp_law_around (evs_cons (ev_name rfl rfl rfl rfl) (evs_cons ev_int evs_nil (fun _ => rfl)) (fun _ => rfl)) C2 (fun _ => rfl) (fun _ => rfl)) (evs_cons (ev_call (gl_law_around rfl) kp_law_around (evs_cons (ev_name rfl rfl rfl rfl) (evs_cons (ev_sub (ev_call (gl_law_step rfl) kp_law_step (evs_cons (ev_name rfl rfl rfl rfl) (evs_cons ev_int evs_nil (fun _ => rfl)) (fun _ => rfl)) C1 (fun _ => rfl) (fun _ => rfl)) ev_int) evs_nil (fun _ => rfl)) (fun _ => rfl)) C3 (fun _ => rfl) (fun _ => rfl)) evs_nil (fun _ => rfl)) (fun _ => rfl)) (fun _ => rfl)) (Nat.le_of_ble_eq_true rfl)) (asg_tuple (asgs_cons (asg_name (.inr ⟨rfl, rfl⟩)) (asgs_cons (asg_name (.inr ⟨rfl, rfl⟩)) (asgs_cons (asg_name (.inr ⟨rfl, rfl⟩)) asgs_nil (fun _ => rfl)) (fun _ => rfl)) (fun _ => rfl)) (fun _ => rfl) (fun _ => rfl)) (fun _ => rfl) (fun env h => by cases env; subst h; rfl)) (ex_cons (ex1_assign_tuple (ev_tuple (evs_cons (ev_call (gl_Times rfl) kp_Times (evs_cons ev_int (evs_cons ev_int (evs_cons ev_int evs_nil (fun _ => rfl)) (fun _ => rfl)) (fun _ => rfl)) (calls_t w (by omega)) (fun _ => rfl) (fun _ => rfl)) (evs_cons (ev_list (evs_cons (ev_name rfl rfl rfl rfl) (evs_cons (ev_name rfl rfl rfl rfl) (evs_cons (ev_name rfl rfl rfl rfl) evs_nil (fun _ => rfl)) (fun _ => rfl)) (fun _ => rfl)) (Nat.le_of_ble_eq_true rfl)) evs_nil (fun _ => rfl)) (fun _ => rfl)) (Nat.le_of_ble_eq_true rfl)) (asg_tuple (asgs_cons (asg_name (.inr ⟨rfl, rfl⟩)) (asgs_cons (asg_name (.inr ⟨rfl, rfl⟩)) asgs_nil (fun _ => rfl)) (fun _ => rfl)) (fun _ => rfl) (fun _ => rfl)) (fun _ => rfl) (fun env h => by cases env; subst h; rfl)) ?rest)))
  generalize ha1 : min 0 (10 ^ 20 * sign) = o1
  generalize hb1 : max 0 (10 ^ 20 * sign) = o2
  have hsig : (sign = 1 ∧ o1 = 0 ∧ o2 = 10 ^ 20) ∨ (sign = -1 ∧ o1 = -10 ^ 20 ∧ o2 = 0) := by omega
  have hp5 : (rngL p1 (p2 + 1)).length ≤ 5 := by rw [length_rngL]; omega
  have hg5 : (rngL g1 (g2 + 1)).length ≤ 5 := by rw [length_rngL]; omega
  have NZ : ∀ y ∈ rngL p1 (p2 + 1), y ≠ 0 := fun y hy => by have := mem_rngL.mp hy; omega
  have SY : ∀ y ∈ rngL p1 (p2 + 1), Small y := fun y hy => by have := mem_rngL.mp hy; exact small_of (by omega) (by omega)
  have SG : ∀ y ∈ rngL g1 (g2 + 1), Small y := fun y hy => by have := mem_rngL.mp hy; exact small_of (by omega) (by omega)
  have SO : ∀ x ∈ [o1, o2], Small x := fun x hx => by
    simp only [List.mem_cons, List.not_mem_nil, or_false] at hx
    exact small_of (by omega) (by omega)
  have SP : ∀ x ∈ [p1, p2], Small x := fun x hx => by
    simp only [List.mem_cons, List.not_mem_nil, or_false] at hx
    exact small_of (by omega) (by omega)
  let XS : List Int := [0, sign, 2 * sign, 3 * sign, 7 * sign, 10 ^ 20 * sign]
  have SXS : ∀ x ∈ XS, Small x := fun x hx => by
    simp only [XS, List.mem_cons, List.not_mem_nil, or_false] at hx
    exact small_of (by omega) (by omega)
  let PL := PLs o1 o2 p1 p2 g1 g2
  have PLeq := PLs_eq o1 o2 p1 p2 g1 g2
  have PLlen : PL.length ≤ 25 := PLs_len hp5 hg5
  have PLm : ∀ z, z ∈ PL ↔ _ := fun z => mem_PLs (o1 := o1) (o2 := o2) (p2 := p2) (g1 := g1) (g2 := g2) A0 (z := z)
  have PLok : ∀ z ∈ PL, z.1 ≠ 0 ∧ Small z.1 := fun z hz => by
    have := (PLm z).mp hz
    exact ⟨by omega, small_of (by omega) (by omega)⟩
  have PRK : ∀ z ∈ prs p1 p2 g1 g2, z.2 ≠ 0 ∧ Small z.2 := prs_ok (by omega) (by omega)
  have W0 : ∀ x ∈ XS, tcb g1 g2 p1 p2 x = ((rngL p1 (p2 + 1)).map fun y => decide (g1 ≤ x * y) && decide (x * y ≤ g2)).any (· == true) := fun x hx => by
    rw [Bool.eq_iff_iff, tcb_iff A1, List.any_map, List.any_eq_true]
    simp only [Function.comp, beq_true, Bool.and_eq_true, decide_eq_true_eq, mem_rngL]
    exact ⟨fun ⟨y, a, b, c, d⟩ => ⟨y, ⟨a, by omega⟩, c, d⟩, fun ⟨y, a, c, d⟩ => ⟨y, a.1, by omega, c, d⟩⟩
  have W1 : ((rngL p1 (p2 + 1)).any fun y => !(tcb g1 g2 o1 o2 y == (PL.map fun z => z.1).any (· == y))) = false := by
    rw [List.any_eq_false]
    intro y hy
    have hy' := mem_rngL.mp hy
    have : tcb g1 g2 o1 o2 y = (PL.map fun z => z.1).any (· == y) := by
      rw [Bool.eq_iff_iff, tcb_iff (by omega), List.any_map, List.any_eq_true]
      simp only [Function.comp, beq_iff_eq]
      constructor
      · rintro ⟨x, a, b, c, d⟩
        refine ⟨(y, y * x), (PLm _).mpr ⟨by dsimp only; omega, ⟨c, d⟩, x, a, b, rfl, ?_⟩, rfl⟩
        exact Int.mul_fdiv_cancel_left _ (by omega)
      · rintro ⟨z, hz, rfl⟩
        obtain ⟨_, h2, x, a, b, c, d⟩ := (PLm z).mp hz
        exact ⟨x, a, b, by omega, by omega⟩
    rw [this]; simp
  have W2 : ((rngL g1 (g2 + 1)).any fun c => !(tcb2 o1 o2 p1 p2 c == (PL.map fun z => z.2).any (· == c))) = false := by
    rw [List.any_eq_false]
    intro c hc
    have hc' := mem_rngL.mp hc
    have : tcb2 o1 o2 p1 p2 c = (PL.map fun z => z.2).any (· == c) := by
      rw [Bool.eq_iff_iff, tcb2_iff (by omega) A1, List.any_map, List.any_eq_true]
      simp only [Function.comp, beq_iff_eq]
      constructor
      · rintro ⟨x, y, a, b, d, e, f⟩
        refine ⟨(y, c), (PLm _).mpr ⟨⟨d, e⟩, by dsimp only; omega, x, a, b, by rw [Int.mul_comm]; exact f, ?_⟩, rfl⟩
        rw [← f, Int.mul_comm]
        exact Int.mul_fdiv_cancel_left _ (by omega)
      · rintro ⟨z, hz, rfl⟩
        obtain ⟨h1, h2, x, a, b, c, d⟩ := (PLm z).mp hz
        exact ⟨x, z.1, a, b, h1.1, h1.2, by rw [Int.mul_comm]; exact c⟩
    rw [this]; simp
  have W3 : (PL.any fun z => !(decide ((tout p1 p2 g1 g2 o1 o2).1 ≤ z.2.fdiv z.1) && decide (z.2.fdiv z.1 ≤ (tout p1 p2 g1 g2 o1 o2).2))) = false := by
    rw [List.any_eq_false]
    intro z hz
    obtain ⟨h1, h2, x, a, b, c, d⟩ := (PLm z).mp hz
    have := tout_in (l := p1) (h := p2) (ga := g1) (gb := g2) (oa := o1) (ob := o2) (x := x) (y := z.1) h1 (by rw [Int.mul_comm, c]; exact h2) ⟨a, b⟩
    rw [d]
    simp [this.1, this.2]
  have WO := wide_out (oa := o1) (ob := o2) (M := max (iab g1) (iab g2)) A0 A1 (by have := iab_or g1; omega) A4 (by have := iab_or g2; omega)
  refine (ex_cons (ex1_assign (ev_listcomp (outs := PL.map pr2) rfl ⟨rfl, by decide, by decide, by decide, rfl⟩ (ev_call (gl_law_all rfl) kp_law_all (evs_cons (ev_name rfl rfl rfl rfl) evs_nil (fun _ => rfl)) (c_law_all (by omega)) (fun _ => rfl) (fun _ => rfl)) itemsOf_rng (Cl.conv (by exact (clM (g := PV.int) (fun y : Int => true) (fun y => ((rngL g1 (g2 + 1)).filter (ptt o1 o2 y)).map (fun c => PV.tup [PV.int y, PV.int c])) rfl rfl (fun _ _ => rfl) (rngL p1 (p2 + 1)) (fun y hy => ⟨_, _, _, (asg_name (.inl rfl)), tsts_nil, fun _ => (by exact (ev_call (gl_law_all rfl) kp_law_all (evs_cons (ev_name rfl rfl rfl rfl) evs_nil (fun _ => rfl)) (c_law_all (by omega)) (fun _ => rfl) (fun _ => rfl))), itemsOf_rng, fun _ => (by exact (clL (g := PV.int) (fun c : Int => ptt o1 o2 y c) (fun c => PV.tup [PV.int y, PV.int c]) rfl rfl rfl (rngL g1 (g2 + 1)) (fun c hc => ⟨_, (asg_name (.inl rfl)), (tsts_one (by exact (tst_boolop (tstAll_and (tst_compare (ev_mod (NZ y hy) (ev_name rfl rfl rfl rfl) (ev_name rfl rfl rfl rfl)) ev_int cmp_eq (by omega) rfl) (fun hc0 => (tstAll_and (tst_chain (ev_item (ev_name rfl rfl rfl rfl) ev_int ⟨by decide, rfl, (Nat.le_of_ble_eq_true rfl)⟩ (fun _ _ => rfl)) (ev_floordiv (NZ y hy) (SY y hy) (ev_name rfl rfl rfl rfl) (ev_name rfl rfl rfl rfl)) cmp_le (ev_item (ev_name rfl rfl rfl rfl) ev_int ⟨by decide, rfl, (Nat.le_of_ble_eq_true rfl)⟩ (fun _ _ => rfl)) cmp_le (by omega) rfl) (fun hc1 => tstAll_nil))))))), fun _ => (by exact (ev_tuple (evs_cons (ev_name rfl rfl rfl rfl) (evs_cons (ev_name rfl rfl rfl rfl) evs_nil (fun _ => rfl)) (fun _ => rfl)) (Nat.le_of_ble_eq_true rfl))), by exact ext1 rfl ext0⟩))), by exact ext1 rfl ext0⟩))) PLeq) (Nat.le_trans (by rw [List.length_map]; exact PLlen) (by decide)) (fun _ _ => rfl)) (.inr rfl) (fun env h => by cases env; subst h; rfl)) (ex_cons (ex1_for (ev_list (evs_cons ev_int (evs_cons (ev_name rfl rfl rfl rfl) (evs_cons (ev_mul (Small.mulOk (small_of (by decide) (by decide)) hss) ev_int (ev_name rfl rfl rfl rfl)) (evs_cons (ev_mul (Small.mulOk (small_of (by decide) (by decide)) hss) ev_int (ev_name rfl rfl rfl rfl)) (evs_cons (ev_mul (Small.mulOk (small_of (by decide) (by decide)) hss) ev_int (ev_name rfl rfl rfl rfl)) (evs_cons (ev_mul (Small.mulOk (small_of (by decide) (by decide)) hss) (ev_call0 (gl_law_out rfl) kp_law_out (c_law_out (by omega))) (ev_name rfl rfl rfl rfl)) evs_nil (fun _ => rfl)) (fun _ => rfl)) (fun _ => rfl)) (fun _ => rfl)) (fun _ => rfl)) (fun _ => rfl)) (Nat.le_of_ble_eq_true rfl)) (rfl : _ = some (XS.map PV.int)) ((fl_any (g := PV.int) (r := .none) (fun _ => false) XS (fun x hx => ⟨_, _, asg_name (.inr ⟨rfl, rfl⟩), fun hb => absurd hb (by decide), fun hb => (by exact ex_skip (Tst.conv (tst_compare (ev_mcall (ev_name rfl rfl rfl rfl) pg_199_can_be fi_199_can_be fn_199_can_be ke_199_can_be mn_can_be (evs_cons (ev_name rfl rfl rfl rfl) (evs_cons ev_int (evs_cons (ev_name rfl rfl rfl rfl) evs_nil (fun _ => rfl)) (fun _ => rfl)) (fun _ => rfl)) (c_199_can_be_0 (by omega) (SXS x hx)) rfl (fun _ => rfl) (fun _ => rfl) (fun _ => rfl)) (ev_compare ev_bool (by exact Run.conv (ev_listcomp rfl ⟨rfl, by decide, by decide, by decide, rfl⟩ (ev_call (gl_law_all rfl) kp_law_all (evs_cons (ev_name rfl rfl rfl rfl) evs_nil (fun _ => rfl)) (c_law_all (by omega)) (fun _ => rfl) (fun _ => rfl)) itemsOf_rng (clL (g := PV.int) (fun y : Int => true) (fun y => PV.bool (decide (g1 ≤ x * y) && decide (x * y ≤ g2))) rfl rfl rfl (rngL p1 (p2 + 1)) (fun y hy => ⟨_, (asg_name (.inl rfl)), tsts_nil, fun _ => (by exact (ev_chain (ev_item (ev_name rfl rfl rfl rfl) ev_int ⟨by decide, rfl, (Nat.le_of_ble_eq_true rfl)⟩ (fun _ _ => rfl)) (ev_mul (Small.mulOk (SXS x hx) (SY y hy)) (ev_name rfl rfl rfl rfl) (ev_name rfl rfl rfl rfl)) cmp_le (ev_item (ev_name rfl rfl rfl rfl) ev_int ⟨by decide, rfl, (Nat.le_of_ble_eq_true rfl)⟩ (fun _ _ => rfl)) cmp_le (by omega) rfl)), by exact ext1 rfl ext0⟩)) (Nat.le_trans (len_filter hp5) (by decide)) (fun _ _ => rfl)) (show PV.lst _ = PV.lst (((rngL p1 (p2 + 1)).map fun y => decide (g1 ≤ x * y) && decide (x * y ≤ g2)).map PV.bool) by rw [filter_tt, List.map_map]; rfl)) cmp_in_bools (by omega) rfl) cmp_ne_bool (by omega) rfl) (by rw [W0 x hx]; simp)) ex_nil), by exact ext1 rfl ext0⟩)).2 (by simp)).choose_spec.2 (fun _ _ => rfl)) (ex_weaken (ex_skip (Tst.conv (tst_compare (ev_listcomp rfl ⟨rfl, by decide, by decide, by decide, rfl⟩ (ev_call (gl_law_all rfl) kp_law_all (evs_cons (ev_name rfl rfl rfl rfl) evs_nil (fun _ => rfl)) (c_law_all (by omega)) (fun _ => rfl) (fun _ => rfl)) itemsOf_rng (clL (g := PV.int) (fun y : Int => !(tcb g1 g2 o1 o2 y == (PL.map fun z => z.1).any (· == y))) (fun y => PV.int y) rfl rfl rfl (rngL p1 (p2 + 1)) (fun y hy => ⟨_, (asg_name (.inl rfl)), (tsts_one (by exact (tst_compare (ev_mcall (ev_name rfl rfl rfl rfl) pg_199_can_be fi_199_can_be fn_199_can_be ke_199_can_be mn_can_be (evs_cons (ev_name rfl rfl rfl rfl) (evs_cons ev_int (evs_cons (ev_name rfl rfl rfl rfl) evs_nil (fun _ => rfl)) (fun _ => rfl)) (fun _ => rfl)) (c_199_can_be_1 (by omega) (SY y hy)) rfl (fun _ => rfl) (fun _ => rfl) (fun _ => rfl)) (ev_compare (ev_name rfl rfl rfl rfl) (by exact Run.conv (ev_listcomp rfl ⟨rfl, by decide, by decide, by decide, rfl⟩ (ev_name rfl rfl rfl rfl) rfl (clL (g := pr2) (fun z : Int × Int => true) (fun z => PV.int z.1) rfl rfl rfl PL (fun z hz => ⟨_, (asg_name (.inl rfl)), tsts_nil, fun _ => (by exact (ev_item (ev_name rfl rfl rfl rfl) ev_int ⟨by decide, rfl, (Nat.le_of_ble_eq_true rfl)⟩ (fun _ _ => rfl))), by exact ext1 rfl ext0⟩)) (Nat.le_trans (len_filter PLlen) (by decide)) (fun _ _ => rfl)) (show PV.lst _ = PV.lst ((PL.map fun z => z.1).map PV.int) by rw [filter_tt, List.map_map]; rfl)) cmp_in_ints (by omega) rfl) cmp_ne_bool (by omega) rfl))), fun hb => (by exact (ev_name rfl rfl rfl rfl)), by exact ext1 rfl ext0⟩)) (Nat.le_trans (len_filter hp5) (by decide)) (fun _ _ => rfl)) (ev_list evs_nil (Nat.le_of_ble_eq_true rfl)) cmp_ne_nil (by omega) rfl) (by rw [any_filter]; exact W1)) (ex_skip (Tst.conv (tst_compare (ev_listcomp rfl ⟨rfl, by decide, by decide, by decide, rfl⟩ (ev_call (gl_law_all rfl) kp_law_all (evs_cons (ev_name rfl rfl rfl rfl) evs_nil (fun _ => rfl)) (c_law_all (by omega)) (fun _ => rfl) (fun _ => rfl)) itemsOf_rng (clL (g := PV.int) (fun c : Int => !(tcb2 o1 o2 p1 p2 c == (PL.map fun z => z.2).any (· == c))) (fun c => PV.int c) rfl rfl rfl (rngL g1 (g2 + 1)) (fun c hc => ⟨_, (asg_name (.inl rfl)), (tsts_one (by exact (tst_compare (ev_mcall (ev_name rfl rfl rfl rfl) pg_199_can_be fi_199_can_be fn_199_can_be ke_199_can_be mn_can_be (evs_cons (ev_name rfl rfl rfl rfl) (evs_cons ev_int (evs_cons (ev_name rfl rfl rfl rfl) evs_nil (fun _ => rfl)) (fun _ => rfl)) (fun _ => rfl)) (c_199_can_be_2 (by omega) (SG c hc)) rfl (fun _ => rfl) (fun _ => rfl) (fun _ => rfl)) (ev_compare (ev_name rfl rfl rfl rfl) (by exact Run.conv (ev_listcomp rfl ⟨rfl, by decide, by decide, by decide, rfl⟩ (ev_name rfl rfl rfl rfl) rfl (clL (g := pr2) (fun z : Int × Int => true) (fun z => PV.int z.2) rfl rfl rfl PL (fun z hz => ⟨_, (asg_name (.inl rfl)), tsts_nil, fun _ => (by exact (ev_item (ev_name rfl rfl rfl rfl) ev_int ⟨by decide, rfl, (Nat.le_of_ble_eq_true rfl)⟩ (fun _ _ => rfl))), by exact ext1 rfl ext0⟩)) (Nat.le_trans (len_filter PLlen) (by decide)) (fun _ _ => rfl)) (show PV.lst _ = PV.lst ((PL.map fun z => z.2).map PV.int) by rw [filter_tt, List.map_map]; rfl)) cmp_in_ints (by omega) rfl) cmp_ne_bool (by omega) rfl))), fun hb => (by exact (ev_name rfl rfl rfl rfl)), by exact ext1 rfl ext0⟩)) (Nat.le_trans (len_filter hg5) (by decide)) (fun _ _ => rfl)) (ev_list evs_nil (Nat.le_of_ble_eq_true rfl)) cmp_ne_nil (by omega) rfl) (by rw [any_filter]; exact W2)) (ex_cons (ex1_assign_tuple (ev_mcall (ev_name rfl rfl rfl rfl) pg_199_outer fi_199_outer fn_199_outer ke_199_outer mn_outer (evs_cons (ev_name rfl rfl rfl rfl) (evs_cons ev_int evs_nil (fun _ => rfl)) (fun _ => rfl)) (c_199_outer_0 (by omega) PRK) rfl (fun _ => rfl) (fun _ => rfl) (fun _ => rfl)) (asg_tuple (asgs_cons (asg_name (.inr ⟨rfl, rfl⟩)) (asgs_cons (asg_name (.inr ⟨rfl, rfl⟩)) asgs_nil (fun _ => rfl)) (fun _ => rfl)) (fun _ => rfl) (fun _ => rfl)) (fun _ => rfl) (fun env h => by cases env; subst h; rfl)) (ex_skip (Tst.conv (tst_compare (ev_listcomp rfl ⟨rfl, by decide, by decide, by decide, rfl⟩ (ev_name rfl rfl rfl rfl) rfl (clL (g := pr2) (fun z : Int × Int => !(decide ((tout p1 p2 g1 g2 o1 o2).1 ≤ z.2.fdiv z.1) && decide (z.2.fdiv z.1 ≤ (tout p1 p2 g1 g2 o1 o2).2))) (fun z => PV.int (z.2.fdiv z.1)) rfl rfl rfl PL (fun z hz => ⟨_, (asg_tuple (asgs_cons (asg_name (.inl rfl)) (asgs_cons (asg_name (.inl rfl)) asgs_nil (fun _ => rfl)) (fun _ => rfl)) (fun _ => rfl) (fun _ => rfl)), (tsts_one (by exact (tst_not (tst_chain (ev_name rfl rfl rfl rfl) (ev_floordiv (PLok z hz).1 (PLok z hz).2 (ev_name rfl rfl rfl rfl) (ev_name rfl rfl rfl rfl)) cmp_le (ev_name rfl rfl rfl rfl) cmp_le (by omega) rfl)))), fun hb => (by exact (ev_floordiv (PLok z hz).1 (PLok z hz).2 (ev_name rfl rfl rfl rfl) (ev_name rfl rfl rfl rfl))), by exact ext1 rfl (ext1 rfl ext0)⟩)) (Nat.le_trans (len_filter PLlen) (by decide)) (fun _ _ => rfl)) (ev_list evs_nil (Nat.le_of_ble_eq_true rfl)) cmp_ne_nil (by omega) rfl) (by rw [any_filter]; exact W3)) (ex_cons (ex1_assign_comp (outs := (cor o1 o2 p1 p2).map PV.int) rfl ⟨rfl, by decide, by decide, by decide, rfl⟩ (ev_name rfl rfl rfl rfl) rfl (by exact (clM (g := PV.int) (fun x : Int => true) (fun x => ([p1, p2].filter (fun _ : Int => true)).map (fun y => PV.int (x * y))) rfl rfl (fun _ _ => rfl) [o1, o2] (fun x hx => ⟨_, _, _, (asg_name (.inl rfl)), tsts_nil, fun _ => (by exact (ev_name rfl rfl rfl rfl)), rfl, fun _ => (by exact (clL (g := PV.int) (fun y : Int => true) (fun y => PV.int (x * y)) rfl rfl rfl [p1, p2] (fun y hy => ⟨_, (asg_name (.inl rfl)), tsts_nil, fun _ => (by exact (ev_mul (Small.mulOk (SO x hx) (SP y hy)) (ev_name rfl rfl rfl rfl) (ev_name rfl rfl rfl rfl))), by exact ext1 rfl ext0⟩))), by exact ext1 rfl ext0⟩))) (Nat.le_of_ble_eq_true rfl) (fun _ _ => rfl) rfl (fun env h => by cases env; subst h; rfl)) (ex_return (ev_boolop (evAll_and (ev_compare (ev_call (gl_max rfl) keep_builtin (evs_cons (ev_call (gl_abs rfl) keep_builtin (evs_cons (ev_name rfl rfl rfl rfl) evs_nil (fun _ => rfl)) calls_abs (fun _ => rfl) (fun _ => rfl)) (evs_cons (ev_call (gl_abs rfl) keep_builtin (evs_cons (ev_name rfl rfl rfl rfl) evs_nil (fun _ => rfl)) calls_abs (fun _ => rfl) (fun _ => rfl)) evs_nil (fun _ => rfl)) (fun _ => rfl)) calls_max2 (fun _ => rfl) (fun _ => rfl)) (ev_call (gl_max rfl) keep_builtin (evs_cons (ev_call (gl_abs rfl) keep_builtin (evs_cons (ev_item (ev_name rfl rfl rfl rfl) ev_int (by exact ⟨by decide, rfl, (Nat.le_of_ble_eq_true rfl)⟩) (fun _ _ => rfl)) evs_nil (fun _ => rfl)) calls_abs (fun _ => rfl) (fun _ => rfl)) (evs_cons (ev_call (gl_abs rfl) keep_builtin (evs_cons (ev_item (ev_name rfl rfl rfl rfl) ev_int (by exact ⟨by decide, rfl, (Nat.le_of_ble_eq_true rfl)⟩) (fun _ _ => rfl)) evs_nil (fun _ => rfl)) calls_abs (fun _ => rfl) (fun _ => rfl)) evs_nil (fun _ => rfl)) (fun _ => rfl)) calls_max2 (fun _ => rfl) (fun _ => rfl)) cmp_le (by omega) rfl) (fun hc => (evAll_one (ev_compare (ev_call (gl_tuple rfl) keep_type (evs_cons (ev_mcall (ev_name rfl rfl rfl rfl) pg_199_outer fi_199_outer fn_199_outer ke_199_outer mn_outer (evs_cons (ev_name rfl rfl rfl rfl) (evs_cons ev_int evs_nil (fun _ => rfl)) (fun _ => rfl)) (c_199_outer_2 (by omega) ⟨SO, SP⟩) rfl (fun _ => rfl) (fun _ => rfl) (fun _ => rfl)) evs_nil (fun _ => rfl)) calls_tuple (fun _ => rfl) (fun _ => rfl)) (ev_tuple (evs_cons (ev_call (gl_min rfl) keep_builtin (evs_cons (ev_name rfl rfl rfl rfl) evs_nil (fun _ => rfl)) (calls_minL (l := cor o1 o2 p1 p2) (List.cons_ne_nil _ _)) (fun _ => rfl) (fun _ => rfl)) (evs_cons (ev_call (gl_max rfl) keep_builtin (evs_cons (ev_name rfl rfl rfl rfl) evs_nil (fun _ => rfl)) (calls_maxL (l := cor o1 o2 p1 p2) (List.cons_ne_nil _ _)) (fun _ => rfl) (fun _ => rfl)) evs_nil (fun _ => rfl)) (fun _ => rfl)) (Nat.le_of_ble_eq_true rfl)) (cmp_eq_tup (l := [_, _]) (r := [_, _]) rfl) (by omega) rfl))))) ?_)))))) ((fl_any (g := PV.int) (r := .none) (fun _ => false) XS (fun x hx => ⟨_, _, asg_name (.inr ⟨rfl, rfl⟩), fun hb => absurd hb (by decide), fun hb => (by exact ex_skip (Tst.conv (tst_compare (ev_mcall (ev_name rfl rfl rfl rfl) pg_199_can_be fi_199_can_be fn_199_can_be ke_199_can_be mn_can_be (evs_cons (ev_name rfl rfl rfl rfl) (evs_cons ev_int (evs_cons (ev_name rfl rfl rfl rfl) evs_nil (fun _ => rfl)) (fun _ => rfl)) (fun _ => rfl)) (c_199_can_be_0 (by omega) (SXS x hx)) rfl (fun _ => rfl) (fun _ => rfl) (fun _ => rfl)) (ev_compare ev_bool (by exact Run.conv (ev_listcomp rfl ⟨rfl, by decide, by decide, by decide, rfl⟩ (ev_call (gl_law_all rfl) kp_law_all (evs_cons (ev_name rfl rfl rfl rfl) evs_nil (fun _ => rfl)) (c_law_all (by omega)) (fun _ => rfl) (fun _ => rfl)) itemsOf_rng (clL (g := PV.int) (fun y : Int => true) (fun y => PV.bool (decide (g1 ≤ x * y) && decide (x * y ≤ g2))) rfl rfl rfl (rngL p1 (p2 + 1)) (fun y hy => ⟨_, (asg_name (.inl rfl)), tsts_nil, fun _ => (by exact (ev_chain (ev_item (ev_name rfl rfl rfl rfl) ev_int ⟨by decide, rfl, (Nat.le_of_ble_eq_true rfl)⟩ (fun _ _ => rfl)) (ev_mul (Small.mulOk (SXS x hx) (SY y hy)) (ev_name rfl rfl rfl rfl) (ev_name rfl rfl rfl rfl)) cmp_le (ev_item (ev_name rfl rfl rfl rfl) ev_int ⟨by decide, rfl, (Nat.le_of_ble_eq_true rfl)⟩ (fun _ _ => rfl)) cmp_le (by omega) rfl)), by exact ext1 rfl ext0⟩)) (Nat.le_trans (len_filter hp5) (by decide)) (fun _ _ => rfl)) (show PV.lst _ = PV.lst (((rngL p1 (p2 + 1)).map fun y => decide (g1 ≤ x * y) && decide (x * y ≤ g2)).map PV.bool) by rw [filter_tt, List.map_map]; rfl)) cmp_in_bools (by omega) rfl) cmp_ne_bool (by omega) rfl) (by rw [W0 x hx]; simp)) ex_nil), by exact ext1 rfl ext0⟩)).2 (by simp)).choose_spec.1)))
  congr 1
  simp only [Bool.and_eq_true, decide_eq_true_eq]
  exact ⟨Int.max_le.mpr WO, trivial⟩

end
end Mine

/- P12 -/
namespace Mine
section
variable {w : World} {mean : ExcName → Option Value} {mg mb : Str → Option Value} {k : Nat} {σ : Store} {sc : Scope}

variable {a0 b0 a1 b1 a2 b2 : Int}
abbrev ttt (a2 b2 x y : Int) : Bool := decide (a2 ≤ x * y) && decide (x * y ≤ b2)
def trnT (t : Int × Int × Int) : Int × Int × Int := (t.2.1, t.1, t.2.2)
def TRt (a0 b0 a1 b1 a2 b2 : Int) : List (Int × Int × Int) := (rngL a0 (b0 + 1)).flatMap fun x => ((rngL a1 (b1 + 1)).filter (ttt a2 b2 x)).map fun y => (x, y, x * y)
theorem TRt_eq : ((rngL a0 (b0 + 1)).flatMap fun x => (((rngL a1 (b1 + 1)).filter (ttt a2 b2 x)).map (fun y => PV.tup [PV.int x, PV.int y, PV.int (x * y)]))) = (TRt a0 b0 a1 b1 a2 b2).map t3 := by
  unfold TRt
  simp only [List.map_flatMap, List.map_map]
  rfl
theorem TRt_mem (t : Int × Int × Int) : t ∈ TRt a0 b0 a1 b1 a2 b2 ↔ (a0 ≤ t.1 ∧ t.1 ≤ b0) ∧ (a1 ≤ t.2.1 ∧ t.2.1 ≤ b1) ∧ (a2 ≤ t.2.2 ∧ t.2.2 ≤ b2) ∧ t.1 * t.2.1 = t.2.2 := by
  unfold TRt
  simp only [List.mem_flatMap, List.mem_map, List.mem_filter, mem_rngL, Bool.and_eq_true, decide_eq_true_eq]
  constructor
  · rintro ⟨x, hx, y, ⟨hy, h1, h2⟩, rfl⟩
    exact ⟨by dsimp only; omega, by dsimp only; omega, ⟨h1, h2⟩, rfl⟩
  · rintro ⟨hx, hy, hz, h1⟩
    exact ⟨t.1, by omega, t.2.1, ⟨by omega, by rw [h1]; exact hz.1, by rw [h1]; exact hz.2⟩, by rw [h1]⟩
theorem TRt_mem' (t : Int × Int × Int) : t ∈ (TRt a0 b0 a1 b1 a2 b2).map trnT ↔ (a1 ≤ t.1 ∧ t.1 ≤ b1) ∧ (a0 ≤ t.2.1 ∧ t.2.1 ≤ b0) ∧ (a2 ≤ t.2.2 ∧ t.2.2 ≤ b2) ∧ t.1 * t.2.1 = t.2.2 := by
  rw [List.mem_map]
  constructor
  · rintro ⟨s, hs, rfl⟩
    obtain ⟨h1, h2, h3, h4⟩ := (TRt_mem s).mp hs
    exact ⟨h2, h1, h3, (Int.mul_comm _ _).trans h4⟩
  · rintro ⟨h1, h2, h3, h4⟩
    exact ⟨(t.2.1, t.1, t.2.2), (TRt_mem _).mpr ⟨h2, h1, h3, (Int.mul_comm _ _).trans h4⟩, rfl⟩
theorem sub4 {x1 x2 x3 y : Str} {R1 R2 R3 L : PV} {ρ : Vars} (h1 : ρ.lookup x1 = some R1) (h2 : ρ.lookup x2 = some R2) (h3 : ρ.lookup x3 = some R3) (h4 : ρ.lookup y = some L) :
    ∀ z pv, List.lookup z [(x1, R1), (x2, R2), (x3, R3), (y, L)] = some pv → ρ.lookup z = some pv := fun z pv e => by
  rcases lookup_cons_cases e with ⟨rfl, rfl⟩ | ⟨_, e⟩
  · exact h1
  rcases lookup_cons_cases e with ⟨rfl, rfl⟩ | ⟨_, e⟩
  · exact h2
  rcases lookup_cons_cases e with ⟨rfl, rfl⟩ | ⟨_, e⟩
  · exact h3
  rcases lookup_cons_cases e with ⟨rfl, rfl⟩ | ⟨_, e⟩
  · exact h4
  cases e
theorem grow4 {ρ₂ : Vars} {x1 x2 x3 y : Str} {R1 R2 R3 : PV} {n : Nat} {Ls : List PV} (h1 : ρ₂.lookup x1 = some R1) (h2 : ρ₂.lookup x2 = some R2) (h3 : ρ₂.lookup x3 = some R3) (h4 : ρ₂.lookup y = some (.cell n)) (l1 : R1.lowc n = true) (l2 : R2.lowc n = true) (l3 : R3.lowc n = true) :
    ∀ z pv, List.lookup z [(x1, R1), (x2, R2), (x3, R3), (y, .lst Ls)] = some pv → (ρ₂.lookup z = some pv ∧ pv.lowc n = true) ∨ (pv = .lst Ls ∧ ρ₂.lookup z = some (.cell n)) := fun z pv e => by
  rcases lookup_cons_cases e with ⟨rfl, rfl⟩ | ⟨_, e⟩
  · exact .inl ⟨h1, l1⟩
  rcases lookup_cons_cases e with ⟨rfl, rfl⟩ | ⟨_, e⟩
  · exact .inl ⟨h2, l2⟩
  rcases lookup_cons_cases e with ⟨rfl, rfl⟩ | ⟨_, e⟩
  · exact .inl ⟨h3, l3⟩
  rcases lookup_cons_cases e with ⟨rfl, rfl⟩ | ⟨_, e⟩
  · exact .inr ⟨rfl, h4⟩
  cases e

theorem c_law_products_right {n c : Int} (hk : 106 ≤ k) (hn : 0 ≤ n) (hc0 : 0 ≤ c) (hc9 : c ≤ 400) :
    ∃ n' c', 0 ≤ n' ∧ c ≤ c' ∧ c' ≤ c + 20 ∧ CallsV (GG w mean mg mb) k (.ref 339) [[.int n, .int c]] [.cell 0] (.bool true) [[.int n', .int c']] := by
  obtain ⟨v1, n1, x11, x12, hn1, C1⟩ := c_law_step (w := w) (mean := mean) (mg := mg) (mb := mb) (k := k - 1) (τ := []) (many := 3) (by omega) hn hc0 (by omega) (by decide) (by decide)
  obtain ⟨v2, n2, x21, x22, hn2, C2⟩ := c_law_step (w := w) (mean := mean) (mg := mg) (mb := mb) (k := k - 1) (τ := []) (many := 2) (by omega) hn1 (c := c + 1) (by omega) (by omega) (by decide) (by decide)
  obtain hw | hw | hw : v1 = 2 ∨ v1 = 0 ∨ v1 = 1 := by omega
  · obtain ⟨n3, c3, h1, h2, h3, CW⟩ := c_law_wide_products_right (w := w) (mean := mean) (mg := mg) (mb := mb) (k := k - 1) (τ := []) (by omega) hn2 (c := c + 1 + 1) (by omega) (by omega) (sg_or v2)
    refine ⟨n3, c3, h1, by omega, by omega, ?_⟩
    have hh : PySem.Challenge.rw_pc0029_01.name = PySem.Str.ofString "law" := rfl
    have hH : hd.heap_39 w.params = hd.heap_39 w.params := rfl
    revert hh hH
    k_fill
    intro hh hH
    obtain ⟨j, rfl⟩ : ∃ j, k = j + 1 := ⟨k - 1, by omega⟩
    refine' calls_def ?ho ?hcd ?hn ?hl ?hnn ?hb ?hkind ?hnd ?hk ?hco ?hgen ?hcn ?h
    case ho => (show (hd.heap_39 w.params).lookup 339 = _); k_is
    case hcd => (show codeIn (hd.heap_39 w.params) _ _ = _); k_is
    case hn => rfl
    case hl => rfl
    case hnn => decide
    case hb => exact vals1 (fun _ => rfl)
    case hkind => decide
    case hnd => decide
    case hk => rfl
    case hco => rfl
    case hgen => rfl
    case hcn => decide
    replace C1 := C1.le (k' := j) (by omega)
    replace C2 := C2.le (k' := j) (by omega)
    replace CW := CW.le (k' := j) (by omega)
    refine (ex_cons (ex1_swap (xs := [Str.ofString "way", Str.ofString "sign"]) (ev_tuple (evs_cons (ev_call (gl_law_step rfl) kp_law_step (evs_cons (ev_name rfl rfl rfl rfl) (evs_cons ev_int evs_nil (fun _ => rfl)) (fun _ => rfl)) C1 (fun _ => rfl) (fun _ => rfl)) (evs_cons (ev_item (ev_tuple (evs_cons ev_int (evs_cons (ev_neg ev_int) evs_nil (fun _ => rfl)) (fun _ => rfl)) (Nat.le_of_ble_eq_true rfl)) (ev_call (gl_law_step rfl) kp_law_step (evs_cons (ev_name rfl rfl rfl rfl) (evs_cons ev_int evs_nil (fun _ => rfl)) (fun _ => rfl)) C2 (fun _ => rfl) (fun _ => rfl)) (itmS x21 x22) (fun _ _ => rfl)) evs_nil (fun _ => rfl)) (fun _ => rfl)) (Nat.le_of_ble_eq_true rfl)) (swp_cons (.inl rfl) (swp_cons (.inl rfl) swp_nil)) rfl (fun _ => rfl) (fun env h => by cases env; subst h; rfl)) (ex_if_ret (tst_compare (ev_name rfl rfl rfl rfl) ev_int cmp_eq (by omega) rfl) (fun hc => (ex_return (ev_call (gl_law_wide_products_right rfl) kp_law_wide_products_right (evs_cons (ev_name rfl rfl rfl rfl) (evs_cons (ev_name rfl rfl rfl rfl) evs_nil (fun _ => rfl)) (fun _ => rfl)) CW (fun _ => rfl) (fun _ => rfl)) ?_)) (fun hc => absurd hc (by simp [hw]))))
    rfl
  · subst hw
    have hw : True := trivial
    obtain ⟨v3, n3, x31, x32, hn3, C3⟩ := c_law_step (w := w) (mean := mean) (mg := mg) (mb := mb) (k := k - 1) (τ := []) (many := 100) (by omega) hn2 (c := c + 1 + 1) (by omega) (by omega) (by decide) (by decide)
    obtain ⟨v4, n4, x41, x42, hn4, C4⟩ := c_law_step (w := w) (mean := mean) (mg := mg) (mb := mb) (k := k - 1) (τ := []) (many := 9) (by omega) hn3 (c := c + 1 + 1 + 1) (by omega) (by omega) (by decide) (by decide)
    obtain ⟨v5, n5, x51, x52, hn5, C5⟩ := c_law_step (w := w) (mean := mean) (mg := mg) (mb := mb) (k := k - 1) (τ := []) (many := 5) (by omega) hn4 (c := c + 1 + 1 + 1 + 1) (by omega) (by omega) (by decide) (by decide)
    obtain ⟨p6, u6, n6, y61, y62, y63, y64, hn6, C6⟩ := c_law_around (w := w) (mean := mean) (mg := mg) (mb := mb) (k := k - 1) (τ := []) (m := ((sg v2 * (10 ^ 20 + v3)) * (v4 - 4) + v5 - 2)) (by omega) hn5 (c := c + 1 + 1 + 1 + 1 + 1) (by omega) (by omega)
    obtain ⟨p7, u7, n7, y71, y72, y73, y74, hn7, C7⟩ := c_law_around (w := w) (mean := mean) (mg := mg) (mb := mb) (k := k - 1) (τ := []) (m := (sg v2 * (10 ^ 20 + v3))) (by omega) hn6 (c := c + 1 + 1 + 1 + 1 + 1 + 2) (by omega) (by omega)
    obtain ⟨p8, u8, n8, y81, y82, y83, y84, hn8, C8⟩ := c_law_around (w := w) (mean := mean) (mg := mg) (mb := mb) (k := k - 1) (τ := []) (m := (v4 - 4)) (by omega) hn7 (c := c + 1 + 1 + 1 + 1 + 1 + 2 + 2) (by omega) (by omega)
    have hsg := sg_or v2
    have hX : iab (sg v2 * (10 ^ 20 + v3)) ≤ (((10 ^ 20 + 100 : Nat)) : Int) := by
      have := iab_or (sg v2 * (10 ^ 20 + v3))
      rcases hsg with e | e <;> rw [e] at this ⊢ <;> omega
    have hY : iab (v4 - 4) ≤ (((10 : Nat)) : Int) := by
      have := iab_or (v4 - 4)
      omega
    have hP := mul_bnd hX hY
    have Sx : Small (sg v2 * (10 ^ 20 + v3)) := small_iab (Int.le_trans hX (by decide))
    have Sy : Small (v4 - 4) := small_iab (Int.le_trans hY (by decide))
    have Ss : Small (sg v2) := small_of (by omega) (by omega)
    have Sy0 : Small (10 ^ 20 + v3) := small_of (by omega) (by omega)
    have hG : -(10 ^ 50) ≤ ((sg v2 * (10 ^ 20 + v3)) * (v4 - 4) + v5 - 2) ∧ ((sg v2 * (10 ^ 20 + v3)) * (v4 - 4) + v5 - 2) ≤ 10 ^ 50 := by
      have := iab_or ((sg v2 * (10 ^ 20 + v3)) * (v4 - 4))
      generalize (sg v2 * (10 ^ 20 + v3)) * (v4 - 4) = p at *
      generalize iab p = ip at *
      omega
    have hX' := iab_or (sg v2 * (10 ^ 20 + v3))
    have hY' := iab_or (v4 - 4)
    refine ⟨n8, c + 1 + 1 + 1 + 1 + 1 + 2 + 2 + 2, hn8, by omega, by omega, ?_⟩
    have hh : PySem.Challenge.rw_pc0029_01.name = PySem.Str.ofString "law" := rfl
    have hH : hd.heap_39 w.params = hd.heap_39 w.params := rfl
    revert hh hH
    k_fill
    intro hh hH
    obtain ⟨j, rfl⟩ : ∃ j, k = j + 1 := ⟨k - 1, by omega⟩
    refine' calls_def ?ho ?hcd ?hn ?hl ?hnn ?hb ?hkind ?hnd ?hk ?hco ?hgen ?hcn ?h
    case ho => (show (hd.heap_39 w.params).lookup 339 = _); k_is
    case hcd => (show codeIn (hd.heap_39 w.params) _ _ = _); k_is
    case hn => rfl
    case hl => rfl
    case hnn => decide
    case hb => exact vals1 (fun _ => rfl)
    case hkind => decide
    case hnd => decide
    case hk => rfl
    case hco => rfl
    case hgen => rfl
    case hcn => decide
    replace C1 := C1.le (k' := j) (by omega)
    replace C2 := C2.le (k' := j) (by omega)
    replace C3 := C3.le (k' := j) (by omega)
    replace C4 := C4.le (k' := j) (by omega)
    replace C5 := C5.le (k' := j) (by omega)
    replace C6 := C6.le (k' := j) (by omega)
    replace C7 := C7.le (k' := j) (by omega)
    replace C8 := C8.le (k' := j) (by omega)
    generalize ha2 : ((sg v2 * (10 ^ 20 + v3)) * (v4 - 4) + v5 - 2) - p6 = a2 at C6
    generalize hb2 : ((sg v2 * (10 ^ 20 + v3)) * (v4 - 4) + v5 - 2) + u6 = b2 at C6
    generalize ha0 : (sg v2 * (10 ^ 20 + v3)) - p7 = a0 at C7
    generalize hb0 : (sg v2 * (10 ^ 20 + v3)) + u7 = b0 at C7
    generalize ha1 : (v4 - 4) - p8 = a1 at C8
    generalize hb1 : (v4 - 4) + u8 = b1 at C8
    have NN0 : Nar a0 b0 a1 b1 a2 b2 := by
      generalize ((sg v2 * (10 ^ 20 + v3)) * (v4 - 4) + v5 - 2) = xx at *
      generalize (sg v2 * (10 ^ 20 + v3)) = yy at *
      constructor <;> omega
    have NN1 : Nar a1 b1 a0 b0 a2 b2 := ⟨NN0.h1, NN0.h0, NN0.h2, NN0.w1, NN0.w0, NN0.w2, NN0.l1, NN0.u1, NN0.l0, NN0.u0, NN0.l2, NN0.u2⟩
    have hy5 : (rngL a1 (b1 + 1)).length ≤ 5 := by rw [length_rngL]; have := NN0.w1; omega
    have hx5 : (rngL a0 (b0 + 1)).length ≤ 5 := by rw [length_rngL]; have := NN0.w0; omega
    have SY : ∀ y ∈ rngL a1 (b1 + 1), Small y := fun y hy => by
      have := mem_rngL.mp hy; have := NN0.l1; have := NN0.u1
      exact small_of (by omega) (by omega)
    have SX : ∀ z ∈ rngL a0 (b0 + 1), Small z := fun y hy => by
      have := mem_rngL.mp hy; have := NN0.l0; have := NN0.u0
      exact small_of (by omega) (by omega)
    have hL0 : ([] : List PV).length + (rngL a0 (b0 + 1)).length * 5 ≤ 100000 := by rw [List.length_nil]; omega
    have hTL : (TRt a0 b0 a1 b1 a2 b2).length ≤ 1000 := by
      have := congrArg List.length (TRt_eq (a0 := a0) (b0 := b0) (a1 := a1) (b1 := b1) (a2 := a2) (b2 := b2))
      rw [List.length_map] at this
      have := flat_len (wd := 5) (F := fun x => (((rngL a1 (b1 + 1)).filter (ttt a2 b2 x)).map (fun y => PV.tup [PV.int x, PV.int y, PV.int (x * y)]))) (xs := rngL a0 (b0 + 1)) fun x hx => len_filter hy5
      omega
    have hTL1 : ((TRt a0 b0 a1 b1 a2 b2).map trnT).length ≤ 1000 := by rw [List.length_map]; exact hTL
    have hTm := TRt_mem (a0 := a0) (b0 := b0) (a1 := a1) (b1 := b1) (a2 := a2) (b2 := b2)
    have hTm1 := TRt_mem' (a0 := a0) (b0 := b0) (a1 := a1) (b1 := b1) (a2 := a2) (b2 := b2)
    exact (ex_cons (ex1_swap (xs := [Str.ofString "way", Str.ofString "sign"]) (ev_tuple (evs_cons (ev_call (gl_law_step rfl) kp_law_step (evs_cons (ev_name rfl rfl rfl rfl) (evs_cons ev_int evs_nil (fun _ => rfl)) (fun _ => rfl)) C1 (fun _ => rfl) (fun _ => rfl)) (evs_cons (ev_item (ev_tuple (evs_cons ev_int (evs_cons (ev_neg ev_int) evs_nil (fun _ => rfl)) (fun _ => rfl)) (Nat.le_of_ble_eq_true rfl)) (ev_call (gl_law_step rfl) kp_law_step (evs_cons (ev_name rfl rfl rfl rfl) (evs_cons ev_int evs_nil (fun _ => rfl)) (fun _ => rfl)) C2 (fun _ => rfl) (fun _ => rfl)) (itmS x21 x22) (fun _ _ => rfl)) evs_nil (fun _ => rfl)) (fun _ => rfl)) (Nat.le_of_ble_eq_true rfl)) (swp_cons (.inl rfl) (swp_cons (.inl rfl) swp_nil)) rfl (fun _ => rfl) (fun env h => by cases env; subst h; rfl)) (ex_skip (Tst.conv (tst_compare (ev_name rfl rfl rfl rfl) ev_int cmp_eq (by omega) rfl) (by simp [hw])) (ex_cons (ex1_assign (ev_mul (Small.mulOk Ss Sy0) (ev_name rfl rfl rfl rfl) (ev_add (ev_call0 (gl_law_out rfl) kp_law_out (c_law_out (by omega))) (ev_call (gl_law_step rfl) kp_law_step (evs_cons (ev_name rfl rfl rfl rfl) (evs_cons ev_int evs_nil (fun _ => rfl)) (fun _ => rfl)) C3 (fun _ => rfl) (fun _ => rfl)))) (.inr rfl) (fun env h => by cases env; subst h; rfl)) (ex_cons (ex1_assign (ev_if_true (Tst.conv (tst_compare (ev_name rfl rfl rfl rfl) ev_int cmp_eq (by omega) rfl) rfl) (ev_sub (ev_call (gl_law_step rfl) kp_law_step (evs_cons (ev_name rfl rfl rfl rfl) (evs_cons ev_int evs_nil (fun _ => rfl)) (fun _ => rfl)) C4 (fun _ => rfl) (fun _ => rfl)) ev_int)) (.inl rfl) (fun env h => by cases env; subst h; rfl)) (ex_cons (ex1_assign (ev_call (gl_law_around rfl) kp_law_around (evs_cons (ev_name rfl rfl rfl rfl) (evs_cons (ev_sub (ev_add (ev_mul (Small.mulOk Sx Sy) (ev_name rfl rfl rfl rfl) (ev_name rfl rfl rfl rfl)) (ev_call (gl_law_step rfl) kp_law_step (evs_cons (ev_name rfl rfl rfl rfl) (evs_cons ev_int evs_nil (fun _ => rfl)) (fun _ => rfl)) C5 (fun _ => rfl) (fun _ => rfl))) ev_int) evs_nil (fun _ => rfl)) (fun _ => rfl)) C6 (fun _ => rfl) (fun _ => rfl)) (.inr rfl) (fun env h => by cases env; subst h; rfl)) (ex_grow' (xs := [Str.ofString "one", Str.ofString "other", Str.ofString "triples"]) (σ₂ := [[PV.int n8, PV.int (c + 1 + 1 + 1 + 1 + 1 + 2 + 2 + 2)]]) (L := (TRt a0 b0 a1 b1 a2 b2).map t3) (ρ₀ := [(Str.ofString "one", .tup [.int a0, .int b0]), (Str.ofString "other", .tup [.int a1, .int b1]), (Str.ofString "goal", .tup [.int a2, .int b2]), (Str.ofString "triples", .cell 1)]) (ρ₃ := [(Str.ofString "one", .tup [.int a0, .int b0]), (Str.ofString "other", .tup [.int a1, .int b1]), (Str.ofString "goal", .tup [.int a2, .int b2]), (Str.ofString "triples", .lst ((TRt a0 b0 a1 b1 a2 b2).map t3))]) (evsN_cons (ev_call (gl_law_around rfl) kp_law_around (evs_cons (ev_name rfl rfl rfl rfl) (evs_cons (ev_name rfl rfl rfl rfl) evs_nil (fun _ => rfl)) (fun _ => rfl)) C7 (fun _ => rfl) (fun _ => rfl)) (evsN_cons (ev_call (gl_law_around rfl) kp_law_around (evs_cons (ev_name rfl rfl rfl rfl) (evs_cons (ev_name rfl rfl rfl rfl) evs_nil (fun _ => rfl)) (fun _ => rfl)) C8 (fun _ => rfl) (fun _ => rfl)) (evsN_one (Nat.zero_lt_succ _) (fun _ => rfl)) (fun _ => rfl)) (fun _ => rfl)) rfl (Nat.le_of_ble_eq_true rfl) (swp_cons (.inl rfl) (swp_cons (.inl rfl) (swp_cons (.inl rfl) swp_nil))) (by exact sub4 rfl rfl rfl rfl) (by exact next_cv (forAcc (ev_call (gl_law_all rfl) kp_law_all (evs_cons (ev_name rfl rfl rfl rfl) evs_nil (fun _ => rfl)) (c_law_all (by omega)) (fun _ => rfl) (fun _ => rfl)) itemsOf_rng (fun _ _ => rfl) (fl_accb (g := PV.int) (σ := [[PV.int n8, PV.int (c + 1 + 1 + 1 + 1 + 1 + 2 + 2 + 2)]]) (fun x => (((rngL a1 (b1 + 1)).filter (ttt a2 b2 x)).map (fun y => PV.tup [PV.int x, PV.int y, PV.int (x * y)]))) 5 100000 (rngL a0 (b0 + 1)) [] (fun x hx => len_filter hy5) hL0 (fun L hL2 x hx => ⟨_, _, asg_name (.inr ⟨rfl, rfl⟩), (by exact ex_cons (ex1_extend (ev_name rfl rfl rfl rfl) (ev_listcomp rfl ⟨rfl, by decide, by decide, by decide, rfl⟩ (ev_call (gl_law_all rfl) kp_law_all (evs_cons (ev_name rfl rfl rfl rfl) evs_nil (fun _ => rfl)) (c_law_all (by omega)) (fun _ => rfl) (fun _ => rfl)) itemsOf_rng (clL (g := PV.int) (fun y : Int => ttt a2 b2 x y) (fun y => PV.tup [PV.int x, PV.int y, PV.int (x * y)]) rfl rfl rfl (rngL a1 (b1 + 1)) (fun y hy => ⟨_, (asg_name (.inl rfl)), (tsts_one (by exact (tst_chain (ev_item (ev_name rfl rfl rfl rfl) ev_int (by exact ⟨by decide, rfl, (Nat.le_of_ble_eq_true rfl)⟩) (fun _ _ => rfl)) (ev_mul (Small.mulOk (SX x hx) (SY y hy)) (ev_name rfl rfl rfl rfl) (ev_name rfl rfl rfl rfl)) cmp_le (ev_item (ev_name rfl rfl rfl rfl) ev_int (by exact ⟨by decide, rfl, (Nat.le_of_ble_eq_true rfl)⟩) (fun _ _ => rfl)) cmp_le (by omega) rfl))), fun hb => (by exact (ev_tuple (evs_cons (ev_name rfl rfl rfl rfl) (evs_cons (ev_name rfl rfl rfl rfl) (evs_cons (ev_mul (Small.mulOk (SX x hx) (SY y hy)) (ev_name rfl rfl rfl rfl) (ev_name rfl rfl rfl rfl)) evs_nil (fun _ => rfl)) (fun _ => rfl)) (fun _ => rfl)) (Nat.le_of_ble_eq_true rfl))), by exact ext1 rfl ext0⟩)) (Nat.le_trans (len_filter hy5) (by decide)) (fun _ _ => rfl)) (Nat.zero_lt_succ 0) rfl (Nat.le_trans (Nat.add_le_add_left (len_filter hy5) _) hL2) rfl (fun _ => rfl) (fun _ => rfl) (fun env h => by cases env; subst h; rfl) (fun env h => by cases env; subst h; rfl)) ex_nil), by exact ext1 rfl ext0⟩))) (by rw [TRt_eq]; rfl)) (Nat.zero_lt_succ _) (low_t3 _) (fun l hl => by rw [List.mem_singleton.mp hl]; rfl) (grow4 rfl rfl rfl rfl rfl rfl rfl) (ex_cons (ex1_assign_comp (outs := ((TRt a0 b0 a1 b1 a2 b2).map trnT).map t3) rfl ⟨rfl, by decide, by decide, by decide, rfl⟩ (ev_name rfl rfl rfl rfl) rfl (Cl.conv (by exact (clL (g := t3) (fun t : Int × Int × Int => true) (fun t => t3 (trnT t)) rfl rfl rfl (TRt a0 b0 a1 b1 a2 b2) (fun t ht => ⟨_, (asg_tuple (asgs_cons (asg_name (.inl rfl)) (asgs_cons (asg_name (.inl rfl)) (asgs_cons (asg_name (.inl rfl)) asgs_nil (fun _ => rfl)) (fun _ => rfl)) (fun _ => rfl)) (fun _ => rfl) (fun _ => rfl)), tsts_nil, fun hb => (by exact (ev_tuple (evs_cons (ev_name rfl rfl rfl rfl) (evs_cons (ev_name rfl rfl rfl rfl) (evs_cons (ev_name rfl rfl rfl rfl) evs_nil (fun _ => rfl)) (fun _ => rfl)) (fun _ => rfl)) (Nat.le_of_ble_eq_true rfl))), by exact ext1 rfl (ext1 rfl (ext1 rfl ext0))⟩))) (by rw [filter_tt, List.map_map]; rfl)) (Nat.le_trans (by rw [List.length_map]; exact hTL1) (by decide)) (fun _ _ => rfl) rfl (fun env h => by cases env; subst h; rfl)) (ex_return (ev_boolop (evAll_and (ev_call (gl_law_is_narrow_right rfl) kp_law_is_narrow_right (evs_cons (ev_call (gl_Times rfl) kp_Times (evs_cons ev_int (evs_cons ev_int (evs_cons ev_int evs_nil (fun _ => rfl)) (fun _ => rfl)) (fun _ => rfl)) (calls_t w (by omega)) (fun _ => rfl) (fun _ => rfl)) (evs_cons (ev_list (evs_cons (ev_name rfl rfl rfl rfl) (evs_cons (ev_name rfl rfl rfl rfl) (evs_cons (ev_name rfl rfl rfl rfl) evs_nil (fun _ => rfl)) (fun _ => rfl)) (fun _ => rfl)) (Nat.le_of_ble_eq_true rfl)) (evs_cons (ev_name rfl rfl rfl rfl) evs_nil (fun _ => rfl)) (fun _ => rfl)) (fun _ => rfl)) (narrow_t NN0 (by omega) hTL hTm) (fun _ => rfl) (fun _ => rfl)) (fun hc => (evAll_one (ev_call (gl_law_is_narrow_right rfl) kp_law_is_narrow_right (evs_cons (ev_call (gl_Times rfl) kp_Times (evs_cons ev_int (evs_cons ev_int (evs_cons ev_int evs_nil (fun _ => rfl)) (fun _ => rfl)) (fun _ => rfl)) (calls_t w (by omega)) (fun _ => rfl) (fun _ => rfl)) (evs_cons (ev_list (evs_cons (ev_name rfl rfl rfl rfl) (evs_cons (ev_name rfl rfl rfl rfl) (evs_cons (ev_name rfl rfl rfl rfl) evs_nil (fun _ => rfl)) (fun _ => rfl)) (fun _ => rfl)) (Nat.le_of_ble_eq_true rfl)) (evs_cons (ev_name rfl rfl rfl rfl) evs_nil (fun _ => rfl)) (fun _ => rfl)) (fun _ => rfl)) (narrow_t NN1 (by omega) hTL1 hTm1) (fun _ => rfl) (fun _ => rfl)))))) rfl)) (fun _ => rfl) (fun env h => by cases env; subst h; rfl)))))))

  · subst hw
    have hw : True := trivial
    obtain ⟨v3, n3, x31, x32, hn3, C3⟩ := c_law_step (w := w) (mean := mean) (mg := mg) (mb := mb) (k := k - 1) (τ := []) (many := 100) (by omega) hn2 (c := c + 1 + 1) (by omega) (by omega) (by decide) (by decide)
    obtain ⟨v4, n4, x41, hn4, C4⟩ := c_law_great (w := w) (mean := mean) (mg := mg) (mb := mb) (k := k - 1) (τ := []) (by omega) hn3 (c := c + 1 + 1 + 1) (by omega) (by omega)
    obtain ⟨v5, n5, x51, x52, hn5, C5⟩ := c_law_step (w := w) (mean := mean) (mg := mg) (mb := mb) (k := k - 1) (τ := []) (many := 5) (by omega) hn4 (c := c + 1 + 1 + 1 + 2) (by omega) (by omega) (by decide) (by decide)
    obtain ⟨p6, u6, n6, y61, y62, y63, y64, hn6, C6⟩ := c_law_around (w := w) (mean := mean) (mg := mg) (mb := mb) (k := k - 1) (τ := []) (m := ((sg v2 * (10 ^ 20 + v3)) * v4 + v5 - 2)) (by omega) hn5 (c := c + 1 + 1 + 1 + 2 + 1) (by omega) (by omega)
    obtain ⟨p7, u7, n7, y71, y72, y73, y74, hn7, C7⟩ := c_law_around (w := w) (mean := mean) (mg := mg) (mb := mb) (k := k - 1) (τ := []) (m := (sg v2 * (10 ^ 20 + v3))) (by omega) hn6 (c := c + 1 + 1 + 1 + 2 + 1 + 2) (by omega) (by omega)
    obtain ⟨p8, u8, n8, y81, y82, y83, y84, hn8, C8⟩ := c_law_around (w := w) (mean := mean) (mg := mg) (mb := mb) (k := k - 1) (τ := []) (m := v4) (by omega) hn7 (c := c + 1 + 1 + 1 + 2 + 1 + 2 + 2) (by omega) (by omega)
    have hsg := sg_or v2
    have hX : iab (sg v2 * (10 ^ 20 + v3)) ≤ (((10 ^ 20 + 100 : Nat)) : Int) := by
      have := iab_or (sg v2 * (10 ^ 20 + v3))
      rcases hsg with e | e <;> rw [e] at this ⊢ <;> omega
    have hY : iab v4 ≤ (((10 ^ 20 + 100 : Nat)) : Int) := by
      have := iab_or v4
      omega
    have hP := mul_bnd hX hY
    have Sx : Small (sg v2 * (10 ^ 20 + v3)) := small_iab (Int.le_trans hX (by decide))
    have Sy : Small v4 := small_iab (Int.le_trans hY (by decide))
    have Ss : Small (sg v2) := small_of (by omega) (by omega)
    have Sy0 : Small (10 ^ 20 + v3) := small_of (by omega) (by omega)
    have hG : -(10 ^ 50) ≤ ((sg v2 * (10 ^ 20 + v3)) * v4 + v5 - 2) ∧ ((sg v2 * (10 ^ 20 + v3)) * v4 + v5 - 2) ≤ 10 ^ 50 := by
      have := iab_or ((sg v2 * (10 ^ 20 + v3)) * v4)
      generalize (sg v2 * (10 ^ 20 + v3)) * v4 = p at *
      generalize iab p = ip at *
      omega
    have hX' := iab_or (sg v2 * (10 ^ 20 + v3))
    have hY' := iab_or v4
    refine ⟨n8, c + 1 + 1 + 1 + 2 + 1 + 2 + 2 + 2, hn8, by omega, by omega, ?_⟩
    have hh : PySem.Challenge.rw_pc0029_01.name = PySem.Str.ofString "law" := rfl
    have hH : hd.heap_39 w.params = hd.heap_39 w.params := rfl
    revert hh hH
    k_fill
    intro hh hH
    obtain ⟨j, rfl⟩ : ∃ j, k = j + 1 := ⟨k - 1, by omega⟩
    refine' calls_def ?ho ?hcd ?hn ?hl ?hnn ?hb ?hkind ?hnd ?hk ?hco ?hgen ?hcn ?h
    case ho => (show (hd.heap_39 w.params).lookup 339 = _); k_is
    case hcd => (show codeIn (hd.heap_39 w.params) _ _ = _); k_is
    case hn => rfl
    case hl => rfl
    case hnn => decide
    case hb => exact vals1 (fun _ => rfl)
    case hkind => decide
    case hnd => decide
    case hk => rfl
    case hco => rfl
    case hgen => rfl
    case hcn => decide
    replace C1 := C1.le (k' := j) (by omega)
    replace C2 := C2.le (k' := j) (by omega)
    replace C3 := C3.le (k' := j) (by omega)
    replace C4 := C4.le (k' := j) (by omega)
    replace C5 := C5.le (k' := j) (by omega)
    replace C6 := C6.le (k' := j) (by omega)
    replace C7 := C7.le (k' := j) (by omega)
    replace C8 := C8.le (k' := j) (by omega)
    generalize ha2 : ((sg v2 * (10 ^ 20 + v3)) * v4 + v5 - 2) - p6 = a2 at C6
    generalize hb2 : ((sg v2 * (10 ^ 20 + v3)) * v4 + v5 - 2) + u6 = b2 at C6
    generalize ha0 : (sg v2 * (10 ^ 20 + v3)) - p7 = a0 at C7
    generalize hb0 : (sg v2 * (10 ^ 20 + v3)) + u7 = b0 at C7
    generalize ha1 : v4 - p8 = a1 at C8
    generalize hb1 : v4 + u8 = b1 at C8
    have NN0 : Nar a0 b0 a1 b1 a2 b2 := by
      generalize ((sg v2 * (10 ^ 20 + v3)) * v4 + v5 - 2) = xx at *
      generalize (sg v2 * (10 ^ 20 + v3)) = yy at *
      constructor <;> omega
    have NN1 : Nar a1 b1 a0 b0 a2 b2 := ⟨NN0.h1, NN0.h0, NN0.h2, NN0.w1, NN0.w0, NN0.w2, NN0.l1, NN0.u1, NN0.l0, NN0.u0, NN0.l2, NN0.u2⟩
    have hy5 : (rngL a1 (b1 + 1)).length ≤ 5 := by rw [length_rngL]; have := NN0.w1; omega
    have hx5 : (rngL a0 (b0 + 1)).length ≤ 5 := by rw [length_rngL]; have := NN0.w0; omega
    have SY : ∀ y ∈ rngL a1 (b1 + 1), Small y := fun y hy => by
      have := mem_rngL.mp hy; have := NN0.l1; have := NN0.u1
      exact small_of (by omega) (by omega)
    have SX : ∀ z ∈ rngL a0 (b0 + 1), Small z := fun y hy => by
      have := mem_rngL.mp hy; have := NN0.l0; have := NN0.u0
      exact small_of (by omega) (by omega)
    have hL0 : ([] : List PV).length + (rngL a0 (b0 + 1)).length * 5 ≤ 100000 := by rw [List.length_nil]; omega
    have hTL : (TRt a0 b0 a1 b1 a2 b2).length ≤ 1000 := by
      have := congrArg List.length (TRt_eq (a0 := a0) (b0 := b0) (a1 := a1) (b1 := b1) (a2 := a2) (b2 := b2))
      rw [List.length_map] at this
      have := flat_len (wd := 5) (F := fun x => (((rngL a1 (b1 + 1)).filter (ttt a2 b2 x)).map (fun y => PV.tup [PV.int x, PV.int y, PV.int (x * y)]))) (xs := rngL a0 (b0 + 1)) fun x hx => len_filter hy5
      omega
    have hTL1 : ((TRt a0 b0 a1 b1 a2 b2).map trnT).length ≤ 1000 := by rw [List.length_map]; exact hTL
    have hTm := TRt_mem (a0 := a0) (b0 := b0) (a1 := a1) (b1 := b1) (a2 := a2) (b2 := b2)
    have hTm1 := TRt_mem' (a0 := a0) (b0 := b0) (a1 := a1) (b1 := b1) (a2 := a2) (b2 := b2)
    exact (ex_cons (ex1_swap (xs := [Str.ofString "way", Str.ofString "sign"]) (ev_tuple (evs_cons (ev_call (gl_law_step rfl) kp_law_step (evs_cons (ev_name rfl rfl rfl rfl) (evs_cons ev_int evs_nil (fun _ => rfl)) (fun _ => rfl)) C1 (fun _ => rfl) (fun _ => rfl)) (evs_cons (ev_item (ev_tuple (evs_cons ev_int (evs_cons (ev_neg ev_int) evs_nil (fun _ => rfl)) (fun _ => rfl)) (Nat.le_of_ble_eq_true rfl)) (ev_call (gl_law_step rfl) kp_law_step (evs_cons (ev_name rfl rfl rfl rfl) (evs_cons ev_int evs_nil (fun _ => rfl)) (fun _ => rfl)) C2 (fun _ => rfl) (fun _ => rfl)) (itmS x21 x22) (fun _ _ => rfl)) evs_nil (fun _ => rfl)) (fun _ => rfl)) (Nat.le_of_ble_eq_true rfl)) (swp_cons (.inl rfl) (swp_cons (.inl rfl) swp_nil)) rfl (fun _ => rfl) (fun env h => by cases env; subst h; rfl)) (ex_skip (Tst.conv (tst_compare (ev_name rfl rfl rfl rfl) ev_int cmp_eq (by omega) rfl) (by simp [hw])) (ex_cons (ex1_assign (ev_mul (Small.mulOk Ss Sy0) (ev_name rfl rfl rfl rfl) (ev_add (ev_call0 (gl_law_out rfl) kp_law_out (c_law_out (by omega))) (ev_call (gl_law_step rfl) kp_law_step (evs_cons (ev_name rfl rfl rfl rfl) (evs_cons ev_int evs_nil (fun _ => rfl)) (fun _ => rfl)) C3 (fun _ => rfl) (fun _ => rfl)))) (.inr rfl) (fun env h => by cases env; subst h; rfl)) (ex_cons (ex1_assign (ev_if_false (Tst.conv (tst_compare (ev_name rfl rfl rfl rfl) ev_int cmp_eq (by omega) rfl) rfl) (ev_call (gl_law_great rfl) kp_law_great (evs_cons (ev_name rfl rfl rfl rfl) evs_nil (fun _ => rfl)) C4 (fun _ => rfl) (fun _ => rfl))) (.inl rfl) (fun env h => by cases env; subst h; rfl)) (ex_cons (ex1_assign (ev_call (gl_law_around rfl) kp_law_around (evs_cons (ev_name rfl rfl rfl rfl) (evs_cons (ev_sub (ev_add (ev_mul (Small.mulOk Sx Sy) (ev_name rfl rfl rfl rfl) (ev_name rfl rfl rfl rfl)) (ev_call (gl_law_step rfl) kp_law_step (evs_cons (ev_name rfl rfl rfl rfl) (evs_cons ev_int evs_nil (fun _ => rfl)) (fun _ => rfl)) C5 (fun _ => rfl) (fun _ => rfl))) ev_int) evs_nil (fun _ => rfl)) (fun _ => rfl)) C6 (fun _ => rfl) (fun _ => rfl)) (.inr rfl) (fun env h => by cases env; subst h; rfl)) (ex_grow' (xs := [Str.ofString "one", Str.ofString "other", Str.ofString "triples"]) (σ₂ := [[PV.int n8, PV.int (c + 1 + 1 + 1 + 2 + 1 + 2 + 2 + 2)]]) (L := (TRt a0 b0 a1 b1 a2 b2).map t3) (ρ₀ := [(Str.ofString "one", .tup [.int a0, .int b0]), (Str.ofString "other", .tup [.int a1, .int b1]), (Str.ofString "goal", .tup [.int a2, .int b2]), (Str.ofString "triples", .cell 1)]) (ρ₃ := [(Str.ofString "one", .tup [.int a0, .int b0]), (Str.ofString "other", .tup [.int a1, .int b1]), (Str.ofString "goal", .tup [.int a2, .int b2]), (Str.ofString "triples", .lst ((TRt a0 b0 a1 b1 a2 b2).map t3))]) (evsN_cons (ev_call (gl_law_around rfl) kp_law_around (evs_cons (ev_name rfl rfl rfl rfl) (evs_cons (ev_name rfl rfl rfl rfl) evs_nil (fun _ => rfl)) (fun _ => rfl)) C7 (fun _ => rfl) (fun _ => rfl)) (evsN_cons (ev_call (gl_law_around rfl) kp_law_around (evs_cons (ev_name rfl rfl rfl rfl) (evs_cons (ev_name rfl rfl rfl rfl) evs_nil (fun _ => rfl)) (fun _ => rfl)) C8 (fun _ => rfl) (fun _ => rfl)) (evsN_one (Nat.zero_lt_succ _) (fun _ => rfl)) (fun _ => rfl)) (fun _ => rfl)) rfl (Nat.le_of_ble_eq_true rfl) (swp_cons (.inl rfl) (swp_cons (.inl rfl) (swp_cons (.inl rfl) swp_nil))) (by exact sub4 rfl rfl rfl rfl) (by exact next_cv (forAcc (ev_call (gl_law_all rfl) kp_law_all (evs_cons (ev_name rfl rfl rfl rfl) evs_nil (fun _ => rfl)) (c_law_all (by omega)) (fun _ => rfl) (fun _ => rfl)) itemsOf_rng (fun _ _ => rfl) (fl_accb (g := PV.int) (σ := [[PV.int n8, PV.int (c + 1 + 1 + 1 + 2 + 1 + 2 + 2 + 2)]]) (fun x => (((rngL a1 (b1 + 1)).filter (ttt a2 b2 x)).map (fun y => PV.tup [PV.int x, PV.int y, PV.int (x * y)]))) 5 100000 (rngL a0 (b0 + 1)) [] (fun x hx => len_filter hy5) hL0 (fun L hL2 x hx => ⟨_, _, asg_name (.inr ⟨rfl, rfl⟩), (by exact ex_cons (ex1_extend (ev_name rfl rfl rfl rfl) (ev_listcomp rfl ⟨rfl, by decide, by decide, by decide, rfl⟩ (ev_call (gl_law_all rfl) kp_law_all (evs_cons (ev_name rfl rfl rfl rfl) evs_nil (fun _ => rfl)) (c_law_all (by omega)) (fun _ => rfl) (fun _ => rfl)) itemsOf_rng (clL (g := PV.int) (fun y : Int => ttt a2 b2 x y) (fun y => PV.tup [PV.int x, PV.int y, PV.int (x * y)]) rfl rfl rfl (rngL a1 (b1 + 1)) (fun y hy => ⟨_, (asg_name (.inl rfl)), (tsts_one (by exact (tst_chain (ev_item (ev_name rfl rfl rfl rfl) ev_int (by exact ⟨by decide, rfl, (Nat.le_of_ble_eq_true rfl)⟩) (fun _ _ => rfl)) (ev_mul (Small.mulOk (SX x hx) (SY y hy)) (ev_name rfl rfl rfl rfl) (ev_name rfl rfl rfl rfl)) cmp_le (ev_item (ev_name rfl rfl rfl rfl) ev_int (by exact ⟨by decide, rfl, (Nat.le_of_ble_eq_true rfl)⟩) (fun _ _ => rfl)) cmp_le (by omega) rfl))), fun hb => (by exact (ev_tuple (evs_cons (ev_name rfl rfl rfl rfl) (evs_cons (ev_name rfl rfl rfl rfl) (evs_cons (ev_mul (Small.mulOk (SX x hx) (SY y hy)) (ev_name rfl rfl rfl rfl) (ev_name rfl rfl rfl rfl)) evs_nil (fun _ => rfl)) (fun _ => rfl)) (fun _ => rfl)) (Nat.le_of_ble_eq_true rfl))), by exact ext1 rfl ext0⟩)) (Nat.le_trans (len_filter hy5) (by decide)) (fun _ _ => rfl)) (Nat.zero_lt_succ 0) rfl (Nat.le_trans (Nat.add_le_add_left (len_filter hy5) _) hL2) rfl (fun _ => rfl) (fun _ => rfl) (fun env h => by cases env; subst h; rfl) (fun env h => by cases env; subst h; rfl)) ex_nil), by exact ext1 rfl ext0⟩))) (by rw [TRt_eq]; rfl)) (Nat.zero_lt_succ _) (low_t3 _) (fun l hl => by rw [List.mem_singleton.mp hl]; rfl) (grow4 rfl rfl rfl rfl rfl rfl rfl) (ex_cons (ex1_assign_comp (outs := ((TRt a0 b0 a1 b1 a2 b2).map trnT).map t3) rfl ⟨rfl, by decide, by decide, by decide, rfl⟩ (ev_name rfl rfl rfl rfl) rfl (Cl.conv (by exact (clL (g := t3) (fun t : Int × Int × Int => true) (fun t => t3 (trnT t)) rfl rfl rfl (TRt a0 b0 a1 b1 a2 b2) (fun t ht => ⟨_, (asg_tuple (asgs_cons (asg_name (.inl rfl)) (asgs_cons (asg_name (.inl rfl)) (asgs_cons (asg_name (.inl rfl)) asgs_nil (fun _ => rfl)) (fun _ => rfl)) (fun _ => rfl)) (fun _ => rfl) (fun _ => rfl)), tsts_nil, fun hb => (by exact (ev_tuple (evs_cons (ev_name rfl rfl rfl rfl) (evs_cons (ev_name rfl rfl rfl rfl) (evs_cons (ev_name rfl rfl rfl rfl) evs_nil (fun _ => rfl)) (fun _ => rfl)) (fun _ => rfl)) (Nat.le_of_ble_eq_true rfl))), by exact ext1 rfl (ext1 rfl (ext1 rfl ext0))⟩))) (by rw [filter_tt, List.map_map]; rfl)) (Nat.le_trans (by rw [List.length_map]; exact hTL1) (by decide)) (fun _ _ => rfl) rfl (fun env h => by cases env; subst h; rfl)) (ex_return (ev_boolop (evAll_and (ev_call (gl_law_is_narrow_right rfl) kp_law_is_narrow_right (evs_cons (ev_call (gl_Times rfl) kp_Times (evs_cons ev_int (evs_cons ev_int (evs_cons ev_int evs_nil (fun _ => rfl)) (fun _ => rfl)) (fun _ => rfl)) (calls_t w (by omega)) (fun _ => rfl) (fun _ => rfl)) (evs_cons (ev_list (evs_cons (ev_name rfl rfl rfl rfl) (evs_cons (ev_name rfl rfl rfl rfl) (evs_cons (ev_name rfl rfl rfl rfl) evs_nil (fun _ => rfl)) (fun _ => rfl)) (fun _ => rfl)) (Nat.le_of_ble_eq_true rfl)) (evs_cons (ev_name rfl rfl rfl rfl) evs_nil (fun _ => rfl)) (fun _ => rfl)) (fun _ => rfl)) (narrow_t NN0 (by omega) hTL hTm) (fun _ => rfl) (fun _ => rfl)) (fun hc => (evAll_one (ev_call (gl_law_is_narrow_right rfl) kp_law_is_narrow_right (evs_cons (ev_call (gl_Times rfl) kp_Times (evs_cons ev_int (evs_cons ev_int (evs_cons ev_int evs_nil (fun _ => rfl)) (fun _ => rfl)) (fun _ => rfl)) (calls_t w (by omega)) (fun _ => rfl) (fun _ => rfl)) (evs_cons (ev_list (evs_cons (ev_name rfl rfl rfl rfl) (evs_cons (ev_name rfl rfl rfl rfl) (evs_cons (ev_name rfl rfl rfl rfl) evs_nil (fun _ => rfl)) (fun _ => rfl)) (fun _ => rfl)) (Nat.le_of_ble_eq_true rfl)) (evs_cons (ev_name rfl rfl rfl rfl) evs_nil (fun _ => rfl)) (fun _ => rfl)) (fun _ => rfl)) (narrow_t NN1 (by omega) hTL1 hTm1) (fun _ => rfl) (fun _ => rfl)))))) rfl)) (fun _ => rfl) (fun env h => by cases env; subst h; rfl)))))))

end
end Mine

/- L1 -/
namespace Mine
section
variable {w : World} {mean : ExcName → Option Value} {mg mb : Str → Option Value} {k : Nat} {σ : Store} {sc : Scope}

section
variable {G : Gl} {X : Cx} {s : Shared} {ρ ρ₁ ρ₂ : Vars} {σ₁ σ' : Store} {t : Expr} {body : List Stmt} {a p : PV} {l : List PV} {v : Value}
theorem fl_inv {α : Type} {g : α → PV} (P : Store → Prop) : ∀ (xs : List α) (σ : Store), P σ →
    (∀ σ, P σ → ∀ x ∈ xs, ∃ ρ₁ ρ₂ σ', Asg G k sc true ρ t (g x) ρ₁ ∧ Ex G k sc ρ₁ σ body (.next ρ₂ σ') ∧ P σ' ∧ ∀ y pv, ρ.lookup y = some pv → ρ₂.lookup y = some pv) →
      ∃ ρ' σ', P σ' ∧ (∀ y pv, ρ.lookup y = some pv → ρ'.lookup y = some pv) ∧ Fl G k sc t body (xs.map g) ρ σ (.next ρ' σ')
  | [], σ, hP, _ => ⟨ρ, σ, hP, fun _ _ e => e, fl_nil⟩
  | x :: xs, σ, hP, h => by
    obtain ⟨ρ₁, ρ₂, σ₁, h1, h2, h3, h4⟩ := h σ hP x (.head _)
    obtain ⟨ρ', σ', a, b, c⟩ := fl_inv P xs σ₁ h3 fun σ hσ y hy => h σ hσ y (.tail _ hy)
    exact ⟨ρ', σ', a, b, fl_next h1 h2 (fl_weaken c h4)⟩
theorem for_mid (o : Ok G X sc s ρ σ) (hr : Room k X.A) (ho : X.own = true) (rv : Rep X.δ X.F s.heap a v) (hl : itemsOf a = some l) (P : Store → Prop) (h2 : ∃ ρ' σ', P σ' ∧ (∀ y pv, ρ.lookup y = some pv → ρ'.lookup y = some pv) ∧ Fl G k sc t body l ρ σ (.next ρ' σ'))
    {Q : Flow → Shared → Prop} {E : Value → Shared → Prop} {E' : Value → Shared → Prop} (hP : ∀ ρ' σ', P σ' → (∀ y pv, ρ.lookup y = some pv → ρ'.lookup y = some pv) → ∀ s', Ok G X sc s' ρ' σ' → Eff (X.W ++ X.δ) s.heap s'.heap → Same s s' → Q .next s') :
    wpAny (model G.prog G.w) X.A (pyIter v) (fun it s₂ => codeAny (model G.prog G.w) X.A (.forLoop t it body [] X.env) (fun r s' => match r with | .ok f => Q f s' | .error e => E' e s') s₂) E s := by
  obtain ⟨ρ', σ', hσ, hρ, h2⟩ := h2
  refine pyIter_ok o.toBase hl rv fun s₂ k₂ m₂ hi x => ?_
  have hnew : ∀ a ∈ [s.heap.objs.size], s.heap.get? a = none := fun a ha => by rw [List.mem_singleton.mp ha]; exact size_free _
  have o₂ := o.ban hnew k₂ (fun a ha => by rw [List.mem_singleton.mp ha]; exact hi.alive)
  refine h2 X s₂ _ o.WF o.δF o.new o₂ hr ho o.itCx x _ ?_
  exact fun s' o' e' m' => hP ρ' σ' hσ hρ s' o' (((Eff.of_keeps k₂).trans e').fresh (size_free _)) (m₂.trans m')
theorem run_ex {sts : List Stmt} {out : Out} (o : Ok G X sc s ρ σ) (hr : Room k X.A) (ho : X.own = true) (h : Ex G k sc ρ σ sts out) {Q : Flow → Shared → Prop} {E : Value → Shared → Prop} (hP : Post G X sc s out Q) : wpAny (model G.prog G.w) X.A (execs sts X.env) Q E s := h X s o hr ho Q E hP
theorem no_kind {kd : NameKind} {l : List (Str × NameKind)} (h : l.all (fun x => decide (x.2 ≠ kd)) = true) (x : Str) : l.lookup x ≠ some kd := fun e => by
  have := List.all_eq_true.mp h _ (mem_of_lookup e)
  simp at this
theorem keep_top (o : Ok G X sc s ρ σ) {h h' : Heap} (e : Eff (X.W ++ X.δ) h h') : ∀ b x, X.g.get? b = some x → h.get? b = some x → h'.get? b = some x := fun b x hb hx => e b x (fun m => by
  rcases List.mem_append.mp m with m | m
  · rw [o.Wg b m] at hb; cases hb
  · rw [o.δg b m] at hb; cases hb) hx

/-- the top frame -/
abbrev topX (env : Env) (g : Heap) (D : Addr) : Cx := { A₀ := callerA, A := callerA.deeper env, base := g, g := g, outer := [], fenv := env, env := env, Lf := env.locals, own := true, δ := [D], F := [D, env.locals] }
theorem top_ok {env : Env} {g : Heap} {D I : Addr} {m : Str → Option Value} {o₁ : Obj} {t₁ t₂ : Tok} (hsc : env.scope = sc) (hk : sc.kind = .function) (hg : env.globals = mainGlobals) (hb : env.builtins = builtinsNs) (hc : env.cells = []) (hf : env.frame = some env.locals)
    (F : Fr g env.locals s.heap m) (N : News g env.locals s.heap [(I, o₁), (D, ⟨.type "list", none, .seq #[.int 0 t₁, .int 0 t₂] 0, #[]⟩)]) (K0 : Below callerA g [] g) (KX : G.K.In g) (T : Top G.p G.loose G.mean G.mg G.mb g) (hm : m (Str.ofString "deck") = some (.ref D)) (hcell : ∀ x, sc.names.lookup x ≠ some .cell) (hfree : ∀ x, sc.names.lookup x ≠ some .free) :
    Ok G (topX env g D) sc s [(Str.ofString "deck", .cell 0)] [[.int 0, .int 0]] := by
  have hD := N _ (.tail _ (.head _))
  have hcs : (topX env g D).cs = [] := by show env.cells.map _ = []; rw [hc]; rfl
  have hW : (topX env g D).W = [env.locals] := by show env.locals :: (topX env g D).cs = _; rw [hcs]
  have gL : g.get? env.locals = none := by
    cases q : g.get? env.locals with
    | none => rfl
    | some x => exact absurd (Heap.lt_size q) (Nat.not_lt.mpr F.above)
  exact
    { hh := rfl, fr := rfl, frm := hf, fk := by show env.scope.kind = _; rw [hsc]; exact hk
      below := K0, kin := KX, top := T, F := ⟨m, F⟩
      δg := fun d hd => by rw [List.mem_singleton.mp hd]; exact hD.2.2
      δL := fun h => hD.2.1 (List.mem_singleton.mp h).symm
      δF := fun d hd => by rw [List.mem_singleton.mp hd]; exact .head _
      δn := List.nodup_cons.mpr ⟨List.not_mem_nil, List.nodup_nil⟩
      st := ⟨rfl, fun i d l h1 h2 => by
        match i with
        | 0 =>
          cases h1; cases h2
          exact ⟨[.int 0 t₁, .int 0 t₂], ⟨_, hD.1, rfl, 0, rfl⟩, Reps.cons ⟨_, rfl⟩ (Reps.one ⟨_, rfl⟩), fun h => absurd h (Nat.lt_irrefl 0)⟩
        | i + 1 => cases h1⟩
      al := fun a ha => by
        rcases List.mem_cons.mp ha with rfl | ha
        · exact isSome_of hD.1
        · rw [List.mem_singleton.mp ha]; exact ns_alive F.ns
      hsc := hsc, sck := hk, gl := hg, bl := hb
      WF := fun a ha => by rw [hW] at ha; exact .tail _ ha
      Wg := fun a ha => by rw [hW] at ha; rw [List.mem_singleton.mp ha]; exact gL
      nd := by rw [hcs]; exact List.nodup_cons.mpr ⟨List.not_mem_nil, List.nodup_nil⟩
      Wδ := fun a ha h => by
        rw [hcs] at ha
        have e1 := List.mem_singleton.mp ha
        have e2 := List.mem_singleton.mp h
        exact hD.2.1 (e2.symm.trans e1)
      Lf := .inl rfl
      ns := ⟨m, F.ns, fun x pv h1 h2 => by
        rcases lookup_cons_cases h1 with ⟨rfl, rfl⟩ | ⟨_, h1⟩
        · exact ⟨_, hm, D, rfl, rfl⟩
        · cases h1⟩
      cells := fun x pv h1 h2 => (h2.elim (hcell x) (hfree x)).elim
      cellsx := fun x h => (hcell x h).elim
      ca := fun c h => by rw [hcs] at h; cases h }
theorem for_top {env : Env} {g : Heap} {D I : Addr} {m : Str → Option Value} {o₁ : Obj} {t₁ t₂ : Tok} (hk : env.scope.kind = .function) (hg : env.globals = mainGlobals) (hb : env.builtins = builtinsNs) (hc : env.cells = []) (hf : env.frame = some env.locals)
    (F : Fr g env.locals s.heap m) (N : News g env.locals s.heap [(I, o₁), (D, ⟨.type "list", none, .seq #[.int 0 t₁, .int 0 t₂] 0, #[]⟩)]) (K0 : Below callerA g [] g) (KX : G.K.In g) (T : Top G.p G.loose G.mean G.mg G.mb g) (hm : m (Str.ofString "deck") = some (.ref D)) (hcell : ∀ x, env.scope.names.lookup x ≠ some .cell) (hfree : ∀ x, env.scope.names.lookup x ≠ some .free)
    (rv : Rep [D] [D, env.locals] s.heap a v) (hl : itemsOf a = some l) (P : Store → Prop) (h2 : ∃ ρ' σ', P σ' ∧ (∀ y pv, List.lookup y [(Str.ofString "deck", PV.cell 0)] = some pv → ρ'.lookup y = some pv) ∧ Fl G 200 env.scope t body l [(Str.ofString "deck", .cell 0)] [[.int 0, .int 0]] (.next ρ' σ'))
    {Q : Flow → Shared → Prop} {E : Value → Shared → Prop} {E' : Value → Shared → Prop} (hP : Room 200 (topX env g D).A → Ok G (topX env g D) env.scope s [(Str.ofString "deck", .cell 0)] [[.int 0, .int 0]] → ∀ ρ' σ', P σ' → (∀ y pv, List.lookup y [(Str.ofString "deck", PV.cell 0)] = some pv → ρ'.lookup y = some pv) → ∀ s', Ok G (topX env g D) env.scope s' ρ' σ' → Eff ((topX env g D).W ++ (topX env g D).δ) s.heap s'.heap → Same s s' → Q .next s') :
    wpAny (model G.prog G.w) (callerA.deeper env) (pyIter v) (fun it s₂ => codeAny (model G.prog G.w) (callerA.deeper env) (.forLoop t it body [] env) (fun r s' => match r with | .ok f => Q f s' | .error e => E' e s') s₂) E s :=
  have o := top_ok rfl hk hg hb hc hf F N K0 KX T hm hcell hfree
  have r : Room 200 (topX env g D).A := ⟨(by decide : 302 + 200 < 1000), (by decide : 7 + 8 * 200 < 9900)⟩
  for_mid (X := topX env g D) o r rfl rv hl P h2 (hP r o)
end

end


local macro_rules | `(tactic| k_qdec) => `(tactic| first | (rw [PySem.W.Fast.te17448422675489707002]; kernel_rfl) | (rw [PySem.W.Fast.te2458874890965802552]; kernel_rfl) | decide +kernel)
theorem law_holds : PySem.Challenge.rw_pc0029_01.Holds := by
  w_on
  refine holds_law hd.said fun said => ?_
  refine holds_open (q := hd.view_39) (loose := []) (Xt := fun s => xlAt hd.view_39 [] s && recOk (RowW.records (OpenRow.toRowW (OpenLaw.row PySem.Challenge.rw_pc0029_01))) s) (XP := XL hd.view_39 []) (Yf := Hook.obs (kHook hd.heap_39 hd.as hd.asEq)) (Ya := Hook.val (kHook hd.heap_39 hd.as hd.asEq)) (YP := Hook.says (kHook hd.heap_39 hd.as hd.asEq)) (N := 4946) ?hl (Hook.of (kHook hd.heap_39 hd.as hd.asEq)) (Hook.keeps (kHook hd.heap_39 hd.as hd.asEq)) (fun s e => xl_of s (Bool.and_eq_true_iff.mp e).1) XL.keeps (by rfl) (by rfl) (by rfl) (fun s e => recFacts_of (Bool.and_eq_true_iff.mp e).2) (by rfl) (by first | assumption | decide +kernel) (by decide +kernel) ⟨rfl, rfl, rfl, rfl, rfl, by decide +kernel⟩ ?hw ?hc
  case hl => exact hd.left
  case hw => w_witness2
  w_strict (k_go0; (all_goals try k_fold); (repeat' (first
    | (with_reducible refine wpAny_For ?_ (fun _ => rfl))
    | ((fail_if_success (with_reducible show wpAny _ _ (pyIter _) _ _ _)); (first | (k_unfold; (try dsimp only)) | (k_end; wrow_close) | walk1 | (dsimp only; walk1) | (leave1; walk_say "STEP leave1"; try dsimp only))))))
  with_reducible rename Fr _ _ _ _ => F9
  with_reducible rename News _ _ _ [_, _] => N9
  with_reducible rename Below _ _ _ _ => K9
  with_reducible rename Frag.In _ _ => X9
  with_reducible rename Top _ _ _ _ _ _ => T9
  with_reducible rename IntsAre _ (List.take 20 _) => I9
  rename (Shared.gens _ = #[]) => g9
  rename (_ < _) => hlt
  have NI := N9 _ (.head _)
  refine Mine.for_top (G := Mine.GG _ _ _ _) rfl rfl rfl rfl rfl F9 N9 K9 X9 T9 rfl (Mine.no_kind rfl) (Mine.no_kind rfl) (a := .lst (List.map Mine.PV.int (List.take 20 _))) ⟨_, _, rfl, (fun m => (List.mem_cons.mp m).elim (fun e => Nat.ne_of_gt hlt e) fun m => NI.2.1 (List.mem_singleton.mp m)), ⟨0, NI.1⟩, Mine.ints_reps I9⟩ rfl
    (fun σ => ∃ n : Int, 0 ≤ n ∧ n ≤ 10 ^ 60 ∧ σ = [[.int n, .int 0]]) (Mine.fl_inv _ _ _ ⟨0, by decide, by decide, rfl⟩ ?_) ?_
  · rintro σ ⟨n, h0, h9, e⟩ x hx
    subst e
    refine ⟨_, _, _, Mine.asg_name (.inl rfl), (ex_cons (ex1_setitem (ev_mod (by decide) (ev_add (ev_mul (Small.mulOk (small_of (by omega) (by omega)) (small_of (by decide) (by decide))) (ev_item (ev_name rfl rfl rfl rfl) ev_int ⟨by decide, _, rfl, rfl, (Nat.le_of_ble_eq_true rfl)⟩ (fun _ _ => rfl)) ev_int) (ev_call (gl_abs rfl) keep_builtin (evs_cons (ev_name rfl rfl rfl rfl) evs_nil (fun _ => rfl)) calls_abs (fun _ => rfl) (fun _ => rfl))) (ev_pow (by decide) (by decide) (by decide) ev_int ev_int)) (ev_name rfl rfl rfl rfl) ev_int rfl rfl (by decide) (show (0 : Int) < 2 by decide) (Nat.le_of_ble_eq_true rfl) (fun _ => rfl)) ex_nil), ⟨_, ?_, ?_, rfl⟩, by exact Mine.ext1 rfl Mine.ext0⟩
    · exact Int.fmod_nonneg_of_pos _ (by decide)
    · exact Int.le_of_lt (Int.fmod_lt_of_pos _ (by decide))
  · rintro RM OK ρ' σ' ⟨n, h0, h9, e⟩ hsub s' o' e' m'
    subst e
    obtain ⟨n1, c1, p1, p2, p3, Q1⟩ := Mine.c_law_quotients_right (w := _) (mean := _) (mg := _) (mb := _) (k := 200) (by decide) h0 (c := 0) (by decide) (by decide)
    obtain ⟨n2, c2, p4, p5, p6, P1⟩ := Mine.c_law_products_right (w := _) (mean := _) (mg := _) (mb := _) (k := 200) (by decide) p1 (c := c1) (by omega) (by omega)
    obtain ⟨n3, c3, p7, p8, p9, Q2⟩ := Mine.c_law_quotients_right (w := _) (mean := _) (mg := _) (mb := _) (k := 200) (by decide) p4 (c := c2) (by omega) (by omega)
    obtain ⟨n4, c4, p10, p11, p12, P2⟩ := Mine.c_law_products_right (w := _) (mean := _) (mg := _) (mb := _) (k := 200) (by decide) p7 (c := c3) (by omega) (by omega)
    dsimp only
    refine Mine.run_ex (o'.weaken hsub) RM rfl (out := .ret (.bool true) _) (by exact (ex_cons (ex1_for (ev_call (gl_range rfl) keep_type (evs_cons ev_int evs_nil (fun _ => rfl)) calls_range1 (fun _ => rfl) (fun _ => rfl)) (rfl : _ = some [PV.int 0, PV.int 1]) (fl_next (asg_name (.inl rfl)) (ex_skip (Tst.conv (tst_boolop (tstAll_or_false (Tst.conv (tst_not (tst_plain (ev_call (gl_law_quotients_right rfl) kp_law_quotients_right (evs_cons (ev_name rfl rfl rfl rfl) evs_nil (fun _ => rfl)) Q1 (fun _ => rfl) (fun _ => rfl)) (fun _ _ => rfl))) rfl) (tstAll_or_false (Tst.conv (tst_not (tst_plain (ev_call (gl_law_products_right rfl) kp_law_products_right (evs_cons (ev_name rfl rfl rfl rfl) evs_nil (fun _ => rfl)) P1 (fun _ => rfl) (fun _ => rfl)) (fun _ _ => rfl))) rfl) tstAll_nil))) rfl) ex_nil) (fl_next (asg_name (.inl rfl)) (ex_skip (Tst.conv (tst_boolop (tstAll_or_false (Tst.conv (tst_not (tst_plain (ev_call (gl_law_quotients_right rfl) kp_law_quotients_right (evs_cons (ev_name rfl rfl rfl rfl) evs_nil (fun _ => rfl)) Q2 (fun _ => rfl) (fun _ => rfl)) (fun _ _ => rfl))) rfl) (tstAll_or_false (Tst.conv (tst_not (tst_plain (ev_call (gl_law_products_right rfl) kp_law_products_right (evs_cons (ev_name rfl rfl rfl rfl) evs_nil (fun _ => rfl)) P2 (fun _ => rfl) (fun _ => rfl)) (fun _ _ => rfl))) rfl) tstAll_nil))) rfl) ex_nil) fl_nil)) (fun _ _ => rfl)) (ex_return ev_bool rfl))) ?_
    intro s'' v b'' e'' m'' r''
    have r'' : v = .bool true := r''
    subst r''
    refine ⟨.inl ⟨_, .bool true, [], rfl, fun _ => rfl, .bool _, ?_, fun _ => ⟨List.nodup_nil, fun _ h => nomatch h⟩⟩, fun b o hb => ?_, ?_, ?_⟩
    · w_strict wrow_post
    · exact Mine.keep_top OK (e'.trans e'') b o hb (F9.keep b o hb)
    · exact m''.2.2.trans m'.2.2
    · exact m''.1.trans (m'.1.trans g9)

end Mine

end

theorem PySem.Challenge.cw_pc0029_01_holds : PySem.Challenge.rw_pc0029_01.Holds := by
  exact Mine.law_holds

