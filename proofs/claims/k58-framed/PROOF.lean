import PyProof.Rows.All
import HandS.ForMost
import HandS.Exc
import HandS.ExcOwn
import HandS.TryOnly
import HandS.TryMany
import HandS.WordsExc
import HandS.Wide
import HandS.IsInst
import HandS.TupAny
import HandS.TupMul
import HandS.DictComp
import HandS.ExcField
import HandS.CallSlots
import HandS.Steps
import HandS.ExcInit
import PyProof.ExcBaseAll.IndexError
import PyProof.ExcBaseAll.LookupError
import PyProof.ExcBaseAll.ValueError
import PyProof.ExcBaseAll.OverflowError
import PyProof.Rows.FactsExc_KeyError
import HandS.ExcIs
import KE.KUnpackStar
import PyProof.CallFns
import HandS.Head0
import HandS.Head1
import HandS.Head2
import HandS.HeadEnd
import HandS.HeadHook1
import HandS.HeadHook2
import PySem.Challenge.RW_coveredtree_k58_programs_framed
set_option Elab.async false
set_option linter.all false
set_option autoImplicit false
set_option maxRecDepth 100000
set_option maxHeartbeats 4000000
/-! Zcore: a data semantics over the hand layer. A term of Python is given a Lean function of slots and a store;
    the reading says that what the machine does is what that function tells. -/
namespace Z
open PySem L2

/-! ### values, cells, stores -/
inductive RV where
  | p (d : PyData)
  | loc (n : Nat)
  | fn (k : Nat)
  | scr (ns : List Int)
  | ty (n : String)

inductive Cell where
  | lst (l : List RV)
  | tup (l : List RV)
  | dK (kvs : List (Key × RV))
  | ins (c : Nat) (fs : List (Str × RV))
  | gone

/-- the exception that an except suite holds: where it stands, its dict, its class, its fields, the slot of its name -/
structure XI where
  a : Addr
  d : Option Addr
  c : Nat
  fs : Option (List (Str × PyData))
  i : Nat
abbrev XC := Option XI
abbrev Store := List Cell
abbrev Env := List (Option RV)

inductive Res (α : Type) where
  | ok (a : α) (S : Store)
  | exc (c : Nat) (fs : Option (List (Str × PyData))) (S : Store)
  | stuck

def Res.bind {α β : Type} (r : Res α) (f : α → Store → Res β) : Res β :=
  match r with
  | .ok a S => f a S
  | .exc c fs S => .exc c fs S
  | .stuck => .stuck

/-- what a body tells -/
inductive SRes where
  | nx (e : Env) (S : Store)
  | rt (r : RV) (S : Store)
  | bk (e : Env) (S : Store)
  | ct (e : Env) (S : Store)
  | exc (c : Nat) (fs : Option (List (Str × PyData))) (e : Env) (S : Store)
  | stuck

abbrev ME := Env → Store → Res RV
abbrev MT := Env → Store → Res Bool
abbrev MA := Env → Store → Res (List RV)
abbrev MS := Env → Store → SRes

/-- the fixed ground: the written part, where numbered defs and classes stand -/
structure Gd where
  P : Program
  w : World
  K : PySem.W.Frag
  mg : Str → Option Value
  base : Heap
  adr : Nat → Addr

/-! ### relations -/
mutual
inductive Rp (K : PySem.W.Frag) (F : Hp) : V → PyData → Prop
  | non : Rp K F .non .none
  | bl (b : Bool) : Rp K F (.bl b) (.bool b)
  | int (i : Int) : Rp K F (.int i) (.int i)
  | str (x : Str) : Rp K F (.str x) (.str x)
  | lst {a : Addr} {xs : List V} {ds : List PyData} : F a = some (.lst xs) → Rps K F xs ds → Rp K F (.ref a) (.list ds)
  | tup {a : Addr} {xs : List V} {ds : List PyData} : SqT K F a xs → Rps K F xs ds → Rp K F (.ref a) (.tuple ds)
inductive Rps (K : PySem.W.Frag) (F : Hp) : List V → List PyData → Prop
  | nil : Rps K F [] []
  | cons {v : V} {vs : List V} {d : PyData} {ds : List PyData} : Rp K F v d → Rps K F vs ds → Rps K F (v :: vs) (d :: ds)
end

def Ex (H H' : Hp) : Prop := ∀ a o, H a = some o → H' a = some o
theorem Ex.refl (H : Hp) : Ex H H := fun _ _ h => h
theorem Ex.trans {H H1 H2 : Hp} (a : Ex H H1) (b : Ex H1 H2) : Ex H H2 := fun x o h => b x o (a x o h)
theorem Ex.new {H : Hp} {p : Addr} {o : HO} (h : H p = none) : Ex H (upd H p o) := fun a u e => by
  rw [upd_ne (ne_of_none e h)]; exact e
theorem Ex.rd {H H' : Hp} {a : Addr} {u : HO} (e : Ex H H') (h : Rd H a u) : Rd H' a u :=
  h.elim (fun h => .inl (e _ _ h)) (fun ⟨o, h⟩ => .inr ⟨o, e _ _ h⟩)
theorem Ex.sl {K : PySem.W.Frag} {H H' : Hp} {a : Addr} {xs : List V} (e : Ex H H') (h : SqL K H a xs) : SqL K H' a xs :=
  h.elim (fun h => .inl (e.rd h)) .inr
theorem Ex.st {K : PySem.W.Frag} {H H' : Hp} {a : Addr} {xs : List V} (e : Ex H H') (h : SqT K H a xs) : SqT K H' a xs :=
  h.elim (fun h => .inl (e.rd h)) .inr

section
variable {K : PySem.W.Frag} {F F' H : Hp}
mutual
theorem Rp.mono (e : Ex F F') : ∀ {d : PyData} {v : V}, Rp K F v d → Rp K F' v d
  | .none, _, h => by cases h; exact .non
  | .bool _, _, h => by cases h; exact .bl _
  | .int _, _, h => by cases h; exact .int _
  | .str _, _, h => by cases h; exact .str _
  | .list ds, _, h => by cases h with | lst a b => exact .lst (e _ _ a) (Rps.mono e b)
  | .tuple ds, _, h => by cases h with | tup a b => exact .tup (e.st a) (Rps.mono e b)
  | .dict _, _, h => by cases h
theorem Rps.mono (e : Ex F F') : ∀ {ds : List PyData} {vs : List V}, Rps K F vs ds → Rps K F' vs ds
  | [], _, h => by cases h; exact .nil
  | d :: ds, _, h => by cases h with | cons a b => exact .cons (Rp.mono e a) (Rps.mono e b)
end
mutual
theorem Rp.dp : ∀ {d : PyData} {v : V}, Rp K F v d → Dp K F v d
  | .none, _, h => by cases h; exact .non
  | .bool _, _, h => by cases h; exact .bl _
  | .int _, _, h => by cases h; exact .int _
  | .str _, _, h => by cases h; exact .str _
  | .list ds, _, h => by cases h with | lst a b => exact .lst (SqL.of a) (Rps.dp b)
  | .tuple ds, _, h => by cases h with | tup a b => exact .tup a (Rps.dp b)
  | .dict _, _, h => by cases h
theorem Rps.dp : ∀ {ds : List PyData} {vs : List V}, Rps K F vs ds → DpAll K F vs ds
  | [], _, h => by cases h; exact .nil
  | d :: ds, _, h => by cases h with | cons a b => exact .cons (Rp.dp a) (Rps.dp b)
end
theorem Rps.len {vs : List V} {ds : List PyData} (h : Rps K F vs ds) : vs.length = ds.length := by
  induction ds generalizing vs with
  | nil => cases h; rfl
  | cons d ds ih => cases h with | cons a b => simp [ih b]
theorem Rps.get {vs : List V} {ds : List PyData} (h : Rps K F vs ds) : ∀ {i : Nat} {d : PyData}, ds[i]? = some d → ∃ v, vs[i]? = some v ∧ Rp K F v d := by
  induction ds generalizing vs with
  | nil => intro i d e; simp at e
  | cons d0 ds ih =>
    cases h with
    | cons a b =>
      intro i d e
      cases i with
      | zero => simp at e; subst e; exact ⟨_, rfl, a⟩
      | succ i => simpa using ih b (by simpa using e)
theorem Rps.append {vs us : List V} {ds es : List PyData} (h : Rps K F vs ds) (k : Rps K F us es) : Rps K F (vs ++ us) (ds ++ es) := by
  induction ds generalizing vs with
  | nil => cases h; exact k
  | cons d0 ds ih => cases h with | cons a b => exact .cons a (ih b)
theorem Rps.take {vs : List V} {ds : List PyData} (h : Rps K F vs ds) (n : Nat) : Rps K F (vs.take n) (ds.take n) := by
  induction ds generalizing vs n with
  | nil => cases h; simpa using Rps.nil
  | cons d0 ds ih => cases h with | cons a b => cases n with
    | zero => exact .nil
    | succ n => exact .cons a (ih b n)
theorem Rps.drop {vs : List V} {ds : List PyData} (h : Rps K F vs ds) (n : Nat) : Rps K F (vs.drop n) (ds.drop n) := by
  induction ds generalizing vs n with
  | nil => cases h; simpa using Rps.nil
  | cons d0 ds ih => cases h with | cons a b => cases n with
    | zero => exact .cons a b
    | succ n => exact ih b n
end

/-- an exception's own dict, frozen -/
def ExcR (g : Gd) (F : Hp) (fs : Option (List (Str × PyData))) (d : Option Addr) : Prop := match fs with
  | none => d = none
  | some fs => ∃ dd fvs, d = some dd ∧ F dd = some (.xd fvs) ∧ ∀ f x, fs.lookup f = some x → ∃ u, fvs.lookup f = some u ∧ Rp g.K F u x
theorem ExcR.mono {g : Gd} {F F' : Hp} (e : Ex F F') : ∀ {fs : Option (List (Str × PyData))} {d : Option Addr}, ExcR g F fs d → ExcR g F' fs d
  | none, _, h => h
  | some _, _, ⟨dd, fvs, e1, e2, e3⟩ => ⟨dd, fvs, e1, e _ _ e2, fun f x hx => let ⟨u, h1, h2⟩ := e3 f x hx; ⟨u, h1, Rp.mono e h2⟩⟩

section
variable (g : Gd) (xc : XC) (γ : List Addr) (F : Hp)
def RVr (g : Gd) (_xc : XC) (γ : List Addr) (F : Hp) (r : RV) (v : V) : Prop :=
  match r with
  | .p d => Rp g.K F v d
  | .loc n => ∃ a, γ[n]? = some a ∧ v = .ref a
  | .fn k => v = .ref (g.adr k)
  | .scr ns => ∃ a, v = .ref a ∧ SqL g.K F a (ns.map V.int)
  | .ty n => v = .ty n
abbrev RVs : List RV → List V → Prop := Paired (RVr g xc γ F)
end
section
variable {g : Gd} {xc : XC} {γ γ' : List Addr} {F F' : Hp}
theorem pre_get {n : Nat} {a : Addr} (h : γ <+: γ') (e : γ[n]? = some a) : γ'[n]? = some a := by
  obtain ⟨t, rfl⟩ := h
  have hl : n < γ.length := (List.getElem?_eq_some_iff.mp e).1
  rw [List.getElem?_append_left hl]; exact e
theorem RVr.mono (h : γ <+: γ') (e : Ex F F') : ∀ {r : RV} {v : V}, RVr g xc γ F r v → RVr g xc γ' F' r v
  | .p _, _, q => Rp.mono e q
  | .loc _, _, ⟨a, e1, e2⟩ => ⟨a, pre_get h e1, e2⟩
  | .fn _, _, q => q
  | .scr _, _, ⟨a, e1, e2⟩ => ⟨a, e1, e.sl e2⟩
  | .ty _, _, q => q
theorem Paired.imp' {α β : Type} {A B : α → β → Prop} (f : ∀ a b, A a b → B a b) : ∀ {l₁ : List α} {l₂ : List β}, Paired A l₁ l₂ → Paired B l₁ l₂
  | _, _, .nil => .nil
  | _, _, .cons r t => .cons (f _ _ r) (Paired.imp' f t)
theorem RVs.mono (h : γ <+: γ') (e : Ex F F') {l : List RV} {vs : List V} (q : RVs g xc γ F l vs) : RVs g xc γ' F' l vs :=
  Paired.imp' (fun _ _ => RVr.mono h e) q
end

theorem nodup_at {α : Type} {l : List α} (hN : l.Nodup) {i j : Nat} {x : α} (a : l[i]? = some x) (b : l[j]? = some x) : i = j := by
  obtain ⟨h1, e1⟩ := List.getElem?_eq_some_iff.mp a
  obtain ⟨h2, e2⟩ := List.getElem?_eq_some_iff.mp b
  exact (List.getElem_inj hN).mp (e1.trans e2.symm)
/-- a cell at its address -/
def CellR (g : Gd) (xc : XC) (γ : List Addr) (F H : Hp) (a : Addr) : Cell → Prop
  | .lst l => ∃ vs, H a = some (.lst vs) ∧ RVs g xc γ F l vs
  | .tup l => ∃ vs, H a = some (.tup vs) ∧ RVs g xc γ F l vs
  | .dK kvs => ∃ kvs', H a = some (.dK kvs') ∧ Paired (fun (x : Key × RV) (y : Key × V) => x.1 = y.1 ∧ RVr g xc γ F x.2 y.2) kvs kvs'
  | .ins c fs => ∃ dx fs', H a = some (.ins (g.adr c) dx fs') ∧ Paired (fun (x : Str × RV) (y : Str × V) => x.1 = y.1 ∧ RVr g xc γ F x.2 y.2) fs fs'
  | .gone => H a ≠ none

/-- the store stands in the heap: F the frozen part, G a part that is to be left as it is -/
structure StR (g : Gd) (xc : XC) (γ : List Addr) (S : Store) (F G H : Hp) : Prop where
  fr : Ex F H
  gh : Ex G H
  fg : ∀ a, F a ≠ none → G a = none
  fc : ∀ a ∈ γ, G a = none
  fl : ∀ (n : Nat) (c : Cell) (a : Addr), S[n]? = some c → γ[n]? = some a → c ≠ .gone → F a = none
  len : γ.length = S.length
  nd : γ.Nodup
  cell : ∀ (n : Nat) (c : Cell) (a : Addr), S[n]? = some c → γ[n]? = some a → CellR g xc γ F H a c
def EnvR (g : Gd) (xc : XC) (γ : List Addr) (F : Hp) (env : Env) (σ : St) : Prop :=
  ∀ (i : Nat) (r : RV), env[i]? = some (some r) → ∃ v, σ[i]? = some (some v) ∧ RVr g xc γ F r v
/-- a later state -/
structure Nx (g : Gd) (xc : XC) (γ : List Addr) (F G : Hp) (γ' : List Addr) (S' : Store) (F' H' : Hp) : Prop where
  pre : γ <+: γ'
  ex : Ex F F'
  st : StR g xc γ' S' F' G H'

section
variable {g : Gd} {xc : XC} {γ γ1 γ2 : List Addr} {S S1 S2 : Store} {F F1 F2 G H H1 H2 : Hp}
theorem Nx.refl (st : StR g xc γ S F G H) : Nx g xc γ F G γ S F H := ⟨List.prefix_refl _, Ex.refl _, st⟩
theorem Nx.trans (a : Nx g xc γ F G γ1 S1 F1 H1) (b : Nx g xc γ1 F1 G γ2 S2 F2 H2) : Nx g xc γ F G γ2 S2 F2 H2 :=
  ⟨a.pre.trans b.pre, a.ex.trans b.ex, b.st⟩
theorem EnvR.mono {env : Env} {σ : St} (h : γ <+: γ1) (e : Ex F F1) (q : EnvR g xc γ F env σ) : EnvR g xc γ1 F1 env σ :=
  fun i r hi => let ⟨v, h1, h2⟩ := q i r hi; ⟨v, h1, RVr.mono h e h2⟩
end

/-- what is wanted of an exception -/
def XPost (g : Gd) (xc : XC) (γ : List Addr) (F G : Hp) (c : Nat) (fs : Option (List (Str × PyData))) (S' : Store) (E : Value → Option Addr → Hp → Prop) : Prop :=
  ∀ γ' F' H' d, Nx g xc γ F G γ' S' F' H' →
    ExcR g F' fs d →
    E (.ref (g.adr c)) d H'
/-- what is wanted of a result -/
def Post {α β : Type} (g : Gd) (xc : XC) (γ : List Addr) (F G : Hp) (R : List Addr → Hp → α → β → Prop) (Q : β → Hp → Prop) (E : Value → Option Addr → Hp → Prop) : Res α → Prop
  | .ok r S' => ∀ γ' F' H' v, Nx g xc γ F G γ' S' F' H' → R γ' F' r v → Q v H'
  | .exc c fs S' => XPost g xc γ F G c fs S' E
  | .stuck => False

section
variable {g : Gd} {xc : XC} {γ γ' γ1 γ2 : List Addr} {S S1 S2 : Store} {F F' F1 F2 G H H' H1 H2 : Hp}
theorem CellR.mono {a : Addr} {c : Cell} (h : γ <+: γ') (e : Ex F F') (ha : H' a = H a) : CellR g xc γ F H a c → CellR g xc γ' F' H' a c := by
  intro q
  cases c with
  | lst l => obtain ⟨vs, h1, h2⟩ := q; exact ⟨vs, ha.trans h1, h2.mono h e⟩
  | tup l => obtain ⟨vs, h1, h2⟩ := q; exact ⟨vs, ha.trans h1, h2.mono h e⟩
  | dK kvs => obtain ⟨vs, h1, h2⟩ := q; exact ⟨vs, ha.trans h1, Paired.imp' (fun _ _ z => ⟨z.1, z.2.mono h e⟩) h2⟩
  | ins c fs => obtain ⟨dx, vs, h1, h2⟩ := q; exact ⟨dx, vs, ha.trans h1, Paired.imp' (fun _ _ z => ⟨z.1, z.2.mono h e⟩) h2⟩
  | gone => exact fun z => q (ha ▸ z)
theorem CellR.some {a : Addr} {c : Cell} (q : CellR g xc γ F H a c) : H a ≠ none := by
  cases c with
  | lst l => obtain ⟨vs, h1, h2⟩ := q; rw [h1]; simp
  | tup l => obtain ⟨vs, h1, h2⟩ := q; rw [h1]; simp
  | dK kvs => obtain ⟨vs, h1, h2⟩ := q; rw [h1]; simp
  | ins c fs => obtain ⟨dx, vs, h1, h2⟩ := q; rw [h1]; simp
  | gone => exact q
theorem StR.at_ne (st : StR g xc γ S F G H) {a : Addr} (ha : a ∈ γ) : H a ≠ none := by
  obtain ⟨n, hn, e⟩ := List.getElem_of_mem ha
  have hs : n < S.length := by rw [← st.len]; exact hn
  exact (st.cell n S[n] a (List.getElem?_eq_getElem hs) (by rw [List.getElem?_eq_getElem hn, e])).some
/-- a new object, frozen -/
theorem StR.newF (st : StR g xc γ S F G H) {p : Addr} {o : HO} (hp : H p = none) : Nx g xc γ F G γ S (upd F p o) (upd H p o) := by
  have hF : F p = none := by
    cases e : F p with
    | none => rfl
    | some u => rw [st.fr p u e] at hp; cases hp
  refine ⟨List.prefix_refl _, Ex.new hF, ⟨fun a u h => ?_, fun a u h => ?_, fun a h => ?_, fun a h => ?_, fun n c a h1 h2 h3 => ?_, st.len, st.nd, fun n c a h1 h2 => ?_⟩⟩
  · by_cases e : a = p
    · subst e; rw [upd_same] at h ⊢; exact h
    · rw [upd_ne e] at h ⊢; exact st.fr a u h
  · have := st.gh a u h
    rw [upd_ne (ne_of_none this hp)]; exact this
  · by_cases e : a = p
    · subst e
      cases q : G a with
      | none => rfl
      | some u => rw [st.gh a u q] at hp; cases hp
    · rw [upd_ne e] at h; exact st.fg a h
  · have := st.at_ne h
    exact st.fc a h
  · have := st.at_ne (List.mem_of_getElem? h2)
    have ne : a ≠ p := fun z => this (z ▸ hp)
    rw [upd_ne ne]; exact st.fl n c a h1 h2 h3
  · have := st.at_ne (List.mem_of_getElem? h2)
    have ne : a ≠ p := fun z => this (z ▸ hp)
    exact (st.cell n c a h1 h2).mono (List.prefix_refl _) (Ex.new hF) (upd_ne ne)
/-- a new object that nothing knows of -/
theorem StR.newX (st : StR g xc γ S F G H) {p : Addr} {o : HO} (hp : H p = none) : StR g xc γ S F G (upd H p o) := by
  refine ⟨fun a u h => ?_, fun a u h => ?_, st.fg, st.fc, st.fl, st.len, st.nd, fun n c a h1 h2 => ?_⟩
  · have := st.fr a u h
    rw [upd_ne (ne_of_none this hp)]; exact this
  · have := st.gh a u h
    rw [upd_ne (ne_of_none this hp)]; exact this
  · have := st.at_ne (List.mem_of_getElem? h2)
    have ne : a ≠ p := fun z => this (z ▸ hp)
    exact (st.cell n c a h1 h2).mono (List.prefix_refl _) (Ex.refl _) (upd_ne ne)
/-- a new object, a cell -/
theorem StR.newC (st : StR g xc γ S F G H) {p : Addr} {o : HO} {c : Cell} (hp : H p = none) (hc : CellR g xc (γ ++ [p]) F (upd H p o) p c) : Nx g xc γ F G (γ ++ [p]) (S ++ [c]) F (upd H p o) := by
  have st2 := st.newX (o := o) hp
  have hF : F p = none := by
    cases e : F p with
    | none => rfl
    | some u => rw [st.fr p u e] at hp; cases hp
  have hG : G p = none := by
    cases e : G p with
    | none => rfl
    | some u => rw [st.gh p u e] at hp; cases hp
  have hγ : p ∉ γ := fun z => st.at_ne z hp
  refine ⟨List.prefix_append _ _, Ex.refl _, ⟨st2.fr, st2.gh, st.fg, fun a h => ?_, fun n c' a h1 h2 h3 => ?_, by simp [st.len], ?_, fun n c' a h1 h2 => ?_⟩⟩
  · rcases List.mem_append.mp h with h | h
    · exact st.fc a h
    · rw [List.mem_singleton.mp h]; exact hG
  · by_cases hn : n < γ.length
    · rw [List.getElem?_append_left hn] at h2
      rw [List.getElem?_append_left (by rw [← st.len]; exact hn)] at h1
      exact st.fl n c' a h1 h2 h3
    · have := List.mem_of_getElem? h2
      rw [List.getElem?_append_right (by omega)] at h2
      have := List.mem_singleton.mp (List.mem_of_getElem? h2)
      rw [this]; exact hF
  · refine List.nodup_append.mpr ⟨st.nd, by simp, fun x hx y hy => ?_⟩
    rw [List.mem_singleton.mp hy]; exact fun z => hγ (z ▸ hx)
  · by_cases hn : n < γ.length
    · rw [List.getElem?_append_left hn] at h2
      rw [List.getElem?_append_left (by rw [← st.len]; exact hn)] at h1
      exact (st2.cell n c' a h1 h2).mono (List.prefix_append _ _) (Ex.refl _) rfl
    · have e : n = γ.length := by
        have := (List.getElem?_eq_some_iff.mp h2).1
        simp at this; omega
      subst e
      rw [List.getElem?_append_right (Nat.le_refl _), Nat.sub_self] at h2
      rw [List.getElem?_append_right (by rw [st.len]; exact Nat.le_refl _), st.len, Nat.sub_self] at h1
      simp at h1 h2; subst h1; subst h2
      exact hc
/-- a cell written -/
theorem StR.wr (st : StR g xc γ S F G H) {n : Nat} {a : Addr} {o : HO} {c c0 : Cell} (h0 : S[n]? = some c0) (hg : c0 ≠ .gone) (ha : γ[n]? = some a) (hc : CellR g xc γ F (upd H a o) a c) : Nx g xc γ F G γ (S.set n c) F (upd H a o) := by
  have hm := List.mem_of_getElem? ha
  have hG := st.fc a hm
  have hF := st.fl n c0 a h0 ha hg
  have nx : ∀ b u, (F b = some u ∨ G b = some u) → b ≠ a := fun b u h z => by
    subst z
    rcases h with h | h
    · rw [hF] at h; cases h
    · rw [hG] at h; cases h
  refine ⟨List.prefix_refl _, Ex.refl _, ⟨fun b u h => ?_, fun b u h => ?_, st.fg, st.fc, fun m c' b h1 h2 h3 => ?_, by simp [st.len], st.nd, fun m c' b h1 h2 => ?_⟩⟩
  · rw [upd_ne (nx b u (.inl h))]; exact st.fr b u h
  · rw [upd_ne (nx b u (.inr h))]; exact st.gh b u h
  · by_cases e : m = n
    · subst e; rw [ha] at h2; cases h2; exact hF
    · rw [List.getElem?_set_ne (Ne.symm e)] at h1
      exact st.fl m c' b h1 h2 h3
  · by_cases e : m = n
    · subst e
      rw [ha] at h2; cases h2
      have hl : m < S.length := by rw [← st.len]; exact (List.getElem?_eq_some_iff.mp ha).1
      rw [List.getElem?_set_self hl] at h1
      cases h1; exact hc
    · rw [List.getElem?_set_ne (Ne.symm e)] at h1
      have hb : b ≠ a := fun z => e (nodup_at st.nd h2 (z ▸ ha))
      exact (st.cell m c' b h1 h2).mono (List.prefix_refl _) (Ex.refl _) (upd_ne hb)
end

section
variable {g : Gd} {xc : XC} {γ γ1 γ2 : List Addr} {S S1 S2 : Store} {F F1 F2 G H H1 H2 : Hp}
variable {α β α' β' : Type} {R : List Addr → Hp → α → β → Prop} {R' : List Addr → Hp → α' → β' → Prop} {Q : β → Hp → Prop} {Q' : β' → Hp → Prop} {E : Value → Option Addr → Hp → Prop}
theorem XPost.later {c : Nat} {fs : Option (List (Str × PyData))} {S' : Store} (h : XPost g xc γ F G c fs S' E) (n : Nx g xc γ F G γ1 S1 F1 H1) : XPost g xc γ1 F1 G c fs S' E :=
  fun γ' F' H' d n' q => h γ' F' H' d (n.trans n') q
theorem Post.later {r : Res α} (h : Post g xc γ F G R Q E r) (n : Nx g xc γ F G γ1 S1 F1 H1) : Post g xc γ1 F1 G R Q E r := by
  cases r with
  | ok r S' => exact fun γ' F' H' v n' q => h γ' F' H' v (n.trans n') q
  | exc c fs S' => exact XPost.later h n
  | stuck => exact h
/-- in a row -/
theorem Post.of_bind {r : Res α} {f : α → Store → Res α'} (h : Post g xc γ F G R' Q' E (r.bind f)) :
    Post g xc γ F G R (fun v H' => ∃ γ' S' F' x, r = .ok x S' ∧ Nx g xc γ F G γ' S' F' H' ∧ R γ' F' x v ∧ Post g xc γ' F' G R' Q' E (f x S')) E r := by
  cases r with
  | ok x S' => exact fun γ' F' H' v n q => ⟨γ', S', F', x, rfl, n, q, Post.later h n⟩
  | exc c fs S' => exact h
  | stuck => exact h
theorem Post.imp {r : Res α} (h : Post g xc γ F G R Q E r) {Q2 : β → Hp → Prop} (k : ∀ v H', Q v H' → Q2 v H') : Post g xc γ F G R Q2 E r := by
  cases r with
  | ok x S' => exact fun γ' F' H' v n q => k _ _ (h γ' F' H' v n q)
  | exc c fs S' => exact h
  | stuck => exact h
end
end Z


set_option Elab.async false
set_option linter.all false
set_option autoImplicit false
set_option maxRecDepth 100000
set_option maxHeartbeats 4000000
/-! Zexpr: contexts, judgements, expressions. -/
namespace Z
open PySem L2

structure Cxt where
  g : Gd
  N : List Str
  sc : Scope
  k : Nat
  top : Bool
  calm : Bool
  xc : XC

/-- a machine context that is as Γ says -/
structure Fit (Γ : Cxt) (X : Cx) (W : WX) : Prop where
  eP : X.prog = Γ.g.P
  ew : X.w = Γ.g.w
  eK : X.K = Γ.g.K
  em : X.mg = Γ.g.mg
  eb : X.base = Γ.g.base
  eN : X.N = Γ.N
  nd : Γ.N.Nodup
  es : X.env.scope = Γ.sc
  ec : X.calm = Γ.calm
  rm : Γ.calm = true → Room Γ.k X.A
  un : X.A.units + 16 * Γ.k + 200 < cLine
  gu : X.A.guards = some []
  tk : Takes X W
  tp : Γ.top = true → X.stack = X.env :: X.outer ∧ X.env.frame = some X.env.locals ∧ ∀ x, X.fn x = true
  ow : PassesOwn (model X.prog X.w) X.A X.env X.xe
  sx : Γ.top = true → ∀ x, Γ.xc = some x → ∃ X0 oe pn, X = Cx.suite X0 x.a ((x.a, oe) :: pn) ∧ Zc (.ref (Γ.g.adr x.c)) x.d oe ∧ ∃ vs, oe.data = .fields vs

section
variable {X : Cx}
theorem PE.imp {e : Expr} {t t' : TE} (h : PE X e t) (k : ∀ σ H Q, t' σ H Q → t σ H Q) : PE X e t' :=
  ⟨fun pins s σ H Q I q => h.run pins s σ H Q I (k σ H Q q)⟩
theorem PT.imp {e : Expr} {t t' : TT} (h : PT X e t) (k : ∀ σ H Q, t' σ H Q → t σ H Q) : PT X e t' :=
  ⟨fun pins s σ H Q I q => h.run pins s σ H Q I (k σ H Q q)⟩
theorem PA.imp {es : List Expr} {t t' : TA} (h : PA X es t) (k : ∀ σ H Q, t' σ H Q → t σ H Q) : PA X es t' :=
  ⟨fun pos pins s σ H Q I q => h.run pos pins s σ H Q I (k σ H Q q)⟩
theorem PS.imp {st : Stmt} {t t' : TS} (h : PS X st t) (k : ∀ D σ H, t' D σ H → t D σ H) : PS X st t' :=
  ⟨fun pins s σ H D I q => h.run pins s σ H D I (k D σ H q)⟩
theorem PSs.imp {st : List Stmt} {t t' : TS} (h : PSs X st t) (k : ∀ D σ H, t' D σ H → t D σ H) : PSs X st t' :=
  ⟨fun pins s σ H D I q => h.run pins s σ H D I (k D σ H q)⟩
end

/-- the slots as they are known -/
structure EnvK (g : Gd) (xc : XC) (γ : List Addr) (F : Hp) (env : Env) (σ : St) : Prop where
  len : env.length = σ.length
  rel : EnvR g xc γ F env σ
  xs : ∀ x, xc = some x → σ[x.i]? = some (some (.ref x.a)) ∧ ExcR g F x.fs x.d
theorem EnvK.mono {g : Gd} {xc : XC} {γ γ1 : List Addr} {F F1 : Hp} {env : Env} {σ : St} (q : EnvK g xc γ F env σ) (h : γ <+: γ1) (e : Ex F F1) : EnvK g xc γ1 F1 env σ :=
  ⟨q.len, q.rel.mono h e, fun x hx => ⟨(q.xs x hx).1, (q.xs x hx).2.mono e⟩⟩

section
variable (Γ : Cxt) (W : WX)
abbrev RelV' (Γ : Cxt) : List Addr → Hp → RV → V → Prop := fun γ F => RVr Γ.g Γ.xc γ F
abbrev RelVs' (Γ : Cxt) : List Addr → Hp → List RV → List V → Prop := fun γ F => RVs Γ.g Γ.xc γ F
abbrev RelB : List Addr → Hp → Bool → Bool → Prop := fun _ _ a b => a = b
abbrev Wσ (W : WX) (σ : St) : Value → Option Addr → Hp → Prop := fun c d H => W c d σ H
def rd {α β : Type} (R : List Addr → Hp → α → β → Prop) (m : Env → Store → Res α) : St → Hp → (β → Hp → Prop) → Prop := fun σ H Q =>
  ∃ γ S F G env, StR Γ.g Γ.xc γ S F G H ∧ EnvK Γ.g Γ.xc γ F env σ ∧ Post Γ.g Γ.xc γ F G R Q (Wσ W σ) (m env S)
abbrev rdE (m : ME) : TE := rd Γ W (RelV' Γ) m
abbrev rdT (m : MT) : TT := rd Γ W RelB m
abbrev rdA (m : MA) : TA := rd Γ W (RelVs' Γ) m
end
def SE (Γ : Cxt) (e : Expr) (m : ME) : Prop := ∀ X W, Fit Γ X W → PE X e (rdE Γ W m)
def ST (Γ : Cxt) (e : Expr) (m : MT) : Prop := ∀ X W, Fit Γ X W → PT X e (rdT Γ W m)
def SW (Γ : Cxt) (e : Expr) (m : MT) : Prop := ∀ X W, Fit Γ X W → PW X e (rdT Γ W m)
def SA (Γ : Cxt) (es : List Expr) (m : MA) : Prop := ∀ X W, Fit Γ X W → PA X es (rdA Γ W m)

/-! ### names, constants -/
section
variable {Γ : Cxt} {pos : Pos}
def mC (r : RV) : ME := fun _ S => .ok r S
def mVar (i : Nat) : ME := fun env S => match env[i]? with
  | some (some r) => .ok r S
  | _ => .stuck
theorem se_c {e : Expr} {v : V} {r : RV} (h : ∀ X W, Fit Γ X W → PE X e (tC v)) (hr : ∀ γ F, RVr Γ.g Γ.xc γ F r v) : SE Γ e (mC r) := fun X W fit =>
  PE.imp (h X W fit) fun σ H Q ⟨γ, S, F, G, env, st, er, po⟩ => po γ F H v (Nx.refl st) (hr γ F)
theorem se_int {i : Int} {j} : SE Γ (.Constant (.int i) j pos) (mC (.p (.int i))) := se_c (fun _ _ _ => pe_int) fun _ _ => .int i
theorem se_bl {b : Bool} {j} : SE Γ (.Constant (.bool b) j pos) (mC (.p (.bool b))) := se_c (fun _ _ _ => pe_bl) fun _ _ => .bl b
theorem se_non {j} : SE Γ (.Constant .none j pos) (mC (.p .none)) := se_c (fun _ _ _ => pe_non) fun _ _ => .non
theorem se_str {x : Str} {j} : SE Γ (.Constant (.str x) j pos) (mC (.p (.str x))) := se_c (fun _ _ _ => pe_str) fun _ _ => .str x
theorem se_var {i : Nat} {x : Str} (hN : Γ.N[i]? = some x := by rfl) (hv : Vis Γ.sc x := by first | exact Or.inl rfl | exact Or.inr (Or.inl rfl) | exact Or.inr (Or.inr rfl))
    (hd : (x == ("__debug__" : Str)) = false := by decide) (hcd : (x == ("__classdict__" : Str)) = false := by decide) : SE Γ (.Name x pos) (mVar i) := fun X W fit =>
  PE.imp (pe_var (i := i) (by rw [fit.eN]; exact hN) (by rw [fit.es]; exact hv) hd hcd) fun σ H Q ⟨γ, S, F, G, env, st, er, po⟩ => by
    unfold mVar at po
    split at po
    · rename_i r hr
      obtain ⟨v, h1, h2⟩ := er.rel i r hr
      exact ⟨v, h1, po γ F H v (Nx.refl st) h2⟩
    · exact po.elim
/-- a constant, a def, a class of the module -/
theorem se_glob {x : Str} {u : Value} {v : V} {r : RV} (hg : Γ.sc.names.lookup x = some .globalImplicit) (hm : Γ.g.mg x = some u) (rv : RelV v u) (hr : ∀ γ F, RVr Γ.g Γ.xc γ F r v) (hd : (x == ("__debug__" : Str)) = false := by decide) :
    SE Γ (.Name x pos) (mC r) :=
  se_c (fun X W fit => pe_glob (show X.env.kindOf x = _ by unfold Env.kindOf; rw [fit.es]; exact hg) (by rw [fit.em]; exact hm) rv hd) hr
end

/-! ### two operands -/
abbrev F2 := RV → RV → Store → Res RV
def mBin (f : F2) (ma mb : ME) : ME := fun env S => (ma env S).bind fun x S1 => (mb env S1).bind fun y S2 => f x y S2
/-- the machine's reading of an operator, by values, is what f tells -/
def R2Ok (Γ : Cxt) (K : PySem.W.Frag) (r : R2) (f : F2) : Prop := ∀ γ S F G H x y v u Q E, K = Γ.g.K → StR Γ.g Γ.xc γ S F G H → RVr Γ.g Γ.xc γ F x v → RVr Γ.g Γ.xc γ F y u →
  Post Γ.g Γ.xc γ F G (RelV' Γ) Q E (f x y S) → r v u H Q
section
variable {Γ : Cxt} {pos : Pos} {a b : Expr} {ma mb : ME} {f : F2}
theorem bin_read {W : WX} {r : R2} {K : PySem.W.Frag} (eK : K = Γ.g.K) (hr : R2Ok Γ K r f) : ∀ σ H Q, rdE Γ W (mBin f ma mb) σ H Q → tOp r (rdE Γ W ma) (rdE Γ W mb) σ H Q :=
  fun σ H Q ⟨γ, S, F, G, env, st, er, po⟩ => ⟨γ, S, F, G, env, st, er, Post.imp (Post.of_bind (R := RelV' Γ) po) fun v H1 ⟨γ1, S1, F1, x, e1, n1, r1, po1⟩ =>
    ⟨γ1, S1, F1, G, env, n1.st, er.mono n1.pre n1.ex, Post.imp (Post.of_bind (R := RelV' Γ) po1) fun u H2 ⟨γ2, S2, F2, y, e2, n2, r2, po2⟩ =>
      hr γ2 S2 F2 G H2 x y v u Q _ eK n2.st (r1.mono n2.pre n2.ex) r2 po2⟩⟩
theorem se_op {op : Operator} {r : PySem.W.Frag → R2} (ho : ∀ X W, Fit Γ X W → OpR X (binaryOp op) (r X.K)) (hr : ∀ K, R2Ok Γ K (r K) f) (ha : SE Γ a ma) (hb : SE Γ b mb) : SE Γ (.BinOp a op b pos) (mBin f ma mb) :=
  fun X W fit => PE.imp (pe_op (ho X W fit) (ha X W fit) (hb X W fit)) (bin_read fit.eK (hr X.K))
theorem se_cmp {op : CmpOp} {r : PySem.W.Frag → R2} (ho : ∀ X W, Fit Γ X W → OpR X (compareOp op) (r X.K)) (hr : ∀ K, R2Ok Γ K (r K) f) (ha : SE Γ a ma) (hb : SE Γ b mb) (hm : behindInMarks op b = false) : SE Γ (.Compare a [op] [b] pos) (mBin f ma mb) :=
  fun X W fit => PE.imp (pe_cmpR (ho X W fit) (ha X W fit) (hb X W fit) hm) (bin_read fit.eK (hr X.K))
def mTst (m : ME) : MT := fun env S => (m env S).bind fun x S1 => match x with
  | .p (.bool b) => .ok b S1
  | _ => .stuck
theorem tst_read {W : WX} {m : ME} : ∀ σ H Q, rdT Γ W (mTst m) σ H Q → tTest (rdE Γ W m) σ H Q :=
  fun σ H Q ⟨γ, S, F, G, env, st, er, po⟩ => ⟨γ, S, F, G, env, st, er, Post.imp (Post.of_bind (R := RelV' Γ) po) fun v H1 ⟨γ1, S1, F1, x, e1, n1, r1, po1⟩ => by
    split at po1
    · cases r1; exact ⟨_, rfl, po1 γ1 F1 H1 _ (Nx.refl n1.st) rfl⟩
    · exact po1.elim⟩
theorem st_cmp {op : CmpOp} {r : PySem.W.Frag → R2} (ho : ∀ X W, Fit Γ X W → OpR X (compareOp op) (r X.K)) (hr : ∀ K, R2Ok Γ K (r K) f) (ha : SE Γ a ma) (hb : SE Γ b mb) (hm : behindInMarks op b = false) : ST Γ (.Compare a [op] [b] pos) (mTst (mBin f ma mb)) :=
  fun X W fit => PT.imp (PT.imp (pt_cmpR (ho X W fit) (ha X W fit) (hb X W fit) hm) (fun σ H Q h => (show tTest (tOp (r X.K) (rdE Γ W ma) (rdE Γ W mb)) σ H Q from bin_read (W := W) fit.eK (hr X.K) σ H _ h))) (fun σ H Q h => tst_read (W := W) σ H Q h)
/-- an expression that gives True or False, as a test -/
theorem st_val {e : Expr} {m : ME} (h : SE Γ e m) (he : ∀ (env : PySem.Env) whole, isTrue e env whole = (do let v ← whole; standAt e.pos; holding [v] (truthy v)) := by intro _ _; rfl) : ST Γ e (mTst m) :=
  fun X W fit => PT.imp (pt_val (h X W fit) (he X.env)) fun σ H Q q => tst_read (W := W) σ H Q q
end

/-! ### and, or, not -/
section
variable {Γ : Cxt} {pos : Pos} {a b : Expr} {rest : List Expr}
def mAnd (t u : MT) : MT := fun env S => (t env S).bind fun c S1 => if c = true then u env S1 else .ok false S1
def mOr (t u : MT) : MT := fun env S => (t env S).bind fun c S1 => if c = true then .ok true S1 else u env S1
def mNot (t : MT) : MT := fun env S => (t env S).bind fun c S1 => .ok (!c) S1
variable {t u : MT}
theorem sw_and1 (h : ST Γ a t) : SW Γ (.BoolOp .And [a] pos) t := fun X W fit => pw_and1 (h X W fit)
theorem sw_or1 (h : ST Γ a t) : SW Γ (.BoolOp .Or [a] pos) t := fun X W fit => pw_or1 (h X W fit)
theorem and_read {W : WX} : ∀ σ H Q, rdT Γ W (mAnd t u) σ H Q → tAnd (rdT Γ W t) (rdT Γ W u) σ H Q :=
  fun σ H Q ⟨γ, S, F, G, env, st, er, po⟩ => ⟨γ, S, F, G, env, st, er, Post.imp (Post.of_bind (R := RelB) po) fun v H1 ⟨γ1, S1, F1, x, e1, n1, r1, po1⟩ => by
    cases r1
    cases v with
    | true => exact ⟨γ1, S1, F1, G, env, n1.st, er.mono n1.pre n1.ex, po1⟩
    | false => exact po1 γ1 F1 H1 _ (Nx.refl n1.st) rfl⟩
theorem or_read {W : WX} : ∀ σ H Q, rdT Γ W (mOr t u) σ H Q → tOr (rdT Γ W t) (rdT Γ W u) σ H Q :=
  fun σ H Q ⟨γ, S, F, G, env, st, er, po⟩ => ⟨γ, S, F, G, env, st, er, Post.imp (Post.of_bind (R := RelB) po) fun v H1 ⟨γ1, S1, F1, x, e1, n1, r1, po1⟩ => by
    cases r1
    cases v with
    | false => exact ⟨γ1, S1, F1, G, env, n1.st, er.mono n1.pre n1.ex, po1⟩
    | true => exact po1 γ1 F1 H1 _ (Nx.refl n1.st) rfl⟩
theorem PW.imp {X : Cx} {e : Expr} {t t' : TT} (h : PW X e t) (k : ∀ σ H Q, t' σ H Q → t σ H Q) : PW X e t' :=
  ⟨fun wh pins s σ H Q I q => h.run wh pins s σ H Q I (k σ H Q q)⟩
theorem sw_and (h : ST Γ a t) (k : SW Γ (.BoolOp .And (b :: rest) pos) u) : SW Γ (.BoolOp .And (a :: b :: rest) pos) (mAnd t u) := fun X W fit => PW.imp (pw_and (h X W fit) (k X W fit)) and_read
theorem sw_or (h : ST Γ a t) (k : SW Γ (.BoolOp .Or (b :: rest) pos) u) : SW Γ (.BoolOp .Or (a :: b :: rest) pos) (mOr t u) := fun X W fit => PW.imp (pw_or (h X W fit) (k X W fit)) or_read
theorem SW.st {e : Expr} (h : SW Γ e t) : ST Γ e t := fun X W fit => (h X W fit).pt
theorem st_not (h : ST Γ a t) : ST Γ (.UnaryOp .Not a pos) (mNot t) := fun X W fit => PT.imp (pt_not (h X W fit))
  fun σ H Q ⟨γ, S, F, G, env, st, er, po⟩ => ⟨γ, S, F, G, env, st, er, Post.imp (Post.of_bind (R := RelB) po) fun v H1 ⟨γ1, S1, F1, x, e1, n1, r1, po1⟩ => by
    cases r1; exact po1 γ1 F1 H1 _ (Nx.refl n1.st) rfl⟩
/-- as values: all but the last True or False -/
def mAndV (ma mb : ME) : ME := fun env S => (ma env S).bind fun x S1 => match x with
  | .p (.bool true) => mb env S1
  | .p (.bool false) => .ok (.p (.bool false)) S1
  | _ => .stuck
def mOrV (ma mb : ME) : ME := fun env S => (ma env S).bind fun x S1 => match x with
  | .p (.bool true) => .ok (.p (.bool true)) S1
  | .p (.bool false) => mb env S1
  | _ => .stuck
def mNotV (ma : ME) : ME := fun env S => (ma env S).bind fun x S1 => match x with
  | .p (.bool c) => .ok (.p (.bool (!c))) S1
  | _ => .stuck
def mIf (t : MT) (ma mb : ME) : ME := fun env S => (t env S).bind fun c S1 => if c = true then ma env S1 else mb env S1
variable {ma mb : ME}
theorem se_one {op} (h : SE Γ a ma) : SE Γ (.BoolOp op [a] pos) ma := fun X W fit => pe_one (h X W fit)
theorem se_and (h : SE Γ a ma) (k : SE Γ (.BoolOp .And (b :: rest) pos) mb) : SE Γ (.BoolOp .And (a :: b :: rest) pos) (mAndV ma mb) := fun X W fit => PE.imp (pe_and (h X W fit) (k X W fit))
  fun σ H Q ⟨γ, S, F, G, env, st, er, po⟩ => ⟨γ, S, F, G, env, st, er, Post.imp (Post.of_bind (R := RelV' Γ) po) fun v H1 ⟨γ1, S1, F1, x, e1, n1, r1, po1⟩ => by
    split at po1
    · cases r1; exact ⟨true, rfl, γ1, S1, F1, G, env, n1.st, er.mono n1.pre n1.ex, po1⟩
    · cases r1; exact ⟨false, rfl, po1 γ1 F1 H1 _ (Nx.refl n1.st) (.bl _)⟩
    · exact po1.elim⟩
theorem se_or (h : SE Γ a ma) (k : SE Γ (.BoolOp .Or (b :: rest) pos) mb) : SE Γ (.BoolOp .Or (a :: b :: rest) pos) (mOrV ma mb) := fun X W fit => PE.imp (pe_or (h X W fit) (k X W fit))
  fun σ H Q ⟨γ, S, F, G, env, st, er, po⟩ => ⟨γ, S, F, G, env, st, er, Post.imp (Post.of_bind (R := RelV' Γ) po) fun v H1 ⟨γ1, S1, F1, x, e1, n1, r1, po1⟩ => by
    split at po1
    · cases r1; exact ⟨true, rfl, po1 γ1 F1 H1 _ (Nx.refl n1.st) (.bl _)⟩
    · cases r1; exact ⟨false, rfl, γ1, S1, F1, G, env, n1.st, er.mono n1.pre n1.ex, po1⟩
    · exact po1.elim⟩
theorem se_not (h : SE Γ a ma) : SE Γ (.UnaryOp .Not a pos) (mNotV ma) := fun X W fit => PE.imp (pe_not (h X W fit))
  fun σ H Q ⟨γ, S, F, G, env, st, er, po⟩ => ⟨γ, S, F, G, env, st, er, Post.imp (Post.of_bind (R := RelV' Γ) po) fun v H1 ⟨γ1, S1, F1, x, e1, n1, r1, po1⟩ => by
    split at po1
    · cases r1; exact ⟨_, rfl, po1 γ1 F1 H1 _ (Nx.refl n1.st) (.bl _)⟩
    · exact po1.elim⟩
theorem se_if {c : Expr} (ht : ST Γ c t) (h : SE Γ a ma) (k : SE Γ b mb) : SE Γ (.IfExp c a b pos) (mIf t ma mb) := fun X W fit => PE.imp (pe_ifExp (ht X W fit) (h X W fit) (k X W fit))
  fun σ H Q ⟨γ, S, F, G, env, st, er, po⟩ => ⟨γ, S, F, G, env, st, er, Post.imp (Post.of_bind (R := RelB) po) fun v H1 ⟨γ1, S1, F1, x, e1, n1, r1, po1⟩ => by
    cases r1
    cases v with
    | true => exact ⟨γ1, S1, F1, G, env, n1.st, er.mono n1.pre n1.ex, po1⟩
    | false => exact ⟨γ1, S1, F1, G, env, n1.st, er.mono n1.pre n1.ex, po1⟩⟩
end

/-! ### arguments -/
section
variable {Γ : Cxt} {pos : Pos} {e : Expr} {es : List Expr} {m : ME} {ms : MA}
def aNil : MA := fun _ S => .ok [] S
def aCons (m : ME) (ms : MA) : MA := fun env S => (m env S).bind fun x S1 => (ms env S1).bind fun xs S2 => .ok (x :: xs) S2
theorem sa_nil : SA Γ [] aNil := fun X W fit => PA.imp pa_nil fun σ H Q ⟨γ, S, F, G, env, st, er, po⟩ => po γ F H [] (Nx.refl st) .nil
theorem sa_cons (h : SE Γ e m) (k : SA Γ es ms) (hs : ∀ env : PySem.Env, starEach (e :: es) env = (false, eval e env) :: starEach es env := by intro _; rfl) : SA Γ (e :: es) (aCons m ms) := fun X W fit => PA.imp (pa_cons (h X W fit) (k X W fit) (hs X.env))
  fun σ H Q ⟨γ, S, F, G, env, st, er, po⟩ => ⟨γ, S, F, G, env, st, er, Post.imp (Post.of_bind (R := RelV' Γ) po) fun v H1 ⟨γ1, S1, F1, x, e1, n1, r1, po1⟩ =>
    ⟨γ1, S1, F1, G, env, n1.st, er.mono n1.pre n1.ex, Post.imp (Post.of_bind (R := RelVs' Γ) po1) fun vs H2 ⟨γ2, S2, F2, xs, e2, n2, r2, po2⟩ =>
      po2 γ2 F2 H2 _ (Nx.refl n2.st) (.cons (r1.mono n2.pre n2.ex) r2)⟩⟩
end
end Z


set_option Elab.async false
set_option linter.all false
set_option autoImplicit false
set_option maxRecDepth 100000
set_option maxHeartbeats 4000000
/-! Zops: operators by values. -/
namespace Z
open PySem L2

/-! ### data and references -/
def allP : List RV → Option (List PyData)
  | [] => some []
  | .p d :: l => (allP l).map (d :: ·)
  | _ :: _ => none
section
variable {g : Gd} {xc : XC} {γ γ' : List Addr} {F F' : Hp} {S : Store} {G H : Hp}
theorem allP_ok : ∀ {l : List RV} {vs : List V} {ds : List PyData}, RVs g xc γ F l vs → allP l = some ds → Rps g.K F vs ds
  | [], _, ds, .nil, e => by simp [allP] at e; subst e; exact .nil
  | .p d :: l, _, ds, .cons r t, e => by
    simp only [allP, Option.map_eq_some_iff] at e
    obtain ⟨ds', e', rfl⟩ := e
    exact .cons r (allP_ok t e')
theorem map_p_ok : ∀ {vs : List V} {ds : List PyData}, Rps g.K F vs ds → RVs g xc γ F (ds.map RV.p) vs
  | _, [], .nil => .nil
  | _, d :: ds, .cons a b => .cons a (map_p_ok b)
theorem RVs.len {l : List RV} {vs : List V} (h : RVs g xc γ F l vs) : vs.length = l.length := (PySem.Paired.length h).symm
theorem RVs.at : ∀ {l : List RV} {vs : List V} {i : Nat} {r : RV}, RVs g xc γ F l vs → l[i]? = some r → ∃ v, vs[i]? = some v ∧ RVr g xc γ F r v
  | _, _, _, _, .nil, e => by simp at e
  | _, _, 0, _, .cons a b, e => by simp at e; subst e; exact ⟨_, rfl, a⟩
  | _, _, i + 1, _, .cons a b, e => by
    obtain ⟨v, h1, h2⟩ := RVs.at (i := i) b (by simpa using e)
    exact ⟨v, by simpa using h1, h2⟩
theorem RVs.app {l m : List RV} {vs us : List V} (h : RVs g xc γ F l vs) (k : RVs g xc γ F m us) : RVs g xc γ F (l ++ m) (vs ++ us) := by
  induction h with
  | nil => exact k
  | cons a b ih => exact .cons a ih
theorem RVs.tk {l : List RV} {vs : List V} (h : RVs g xc γ F l vs) (n : Nat) : RVs g xc γ F (l.take n) (vs.take n) := by
  induction h generalizing n with
  | nil => simpa using PySem.Paired.nil
  | cons a b ih => cases n with
    | zero => exact .nil
    | succ n => exact .cons a (ih n)
theorem RVs.dp {l : List RV} {vs : List V} (h : RVs g xc γ F l vs) (n : Nat) : RVs g xc γ F (l.drop n) (vs.drop n) := by
  induction h generalizing n with
  | nil => simpa using PySem.Paired.nil
  | cons a b ih => cases n with
    | zero => exact .cons a b
    | succ n => exact ih n
theorem RVs.st {l : List RV} {vs : List V} (h : RVs g xc γ F l vs) : ∀ {i : Nat} {r : RV} {v : V}, RVr g xc γ F r v → RVs g xc γ F (l.set i r) (vs.set i v) := by
  induction h with
  | nil => intro i r v _; simpa using PySem.Paired.nil
  | cons a b ih => intro i r v q; cases i with
    | zero => exact .cons q b
    | succ n => exact .cons a (ih q)
end

/-- a list's or a tuple's items -/
def seqv (S : Store) : RV → Option (List RV)
  | .p (.list ds) => some (ds.map RV.p)
  | .p (.tuple ds) => some (ds.map RV.p)
  | .loc n => match S[n]? with
    | some (.lst l) => some l
    | some (.tup l) => some l
    | _ => none
  | .scr ns => some (ns.map fun i => RV.p (.int i))
  | _ => none
section
variable {g : Gd} {xc : XC} {γ γ' : List Addr} {F F' : Hp} {S : Store} {G H : Hp}
theorem ints_ok : ∀ {ns : List Int}, RVs g xc γ F (ns.map fun i => RV.p (.int i)) (ns.map V.int)
  | [] => .nil
  | i :: ns => .cons (.int i) ints_ok
theorem seqv_ok (st : StR g xc γ S F G H) {r : RV} {v : V} {l : List RV} (q : RVr g xc γ F r v) (e : seqv S r = some l) :
    ∃ a vs, v = .ref a ∧ (SqL g.K H a vs ∨ SqT g.K H a vs) ∧ RVs g xc γ F l vs := by
  cases r with
  | p d =>
    cases d with
    | list ds =>
      simp only [seqv, Option.some.injEq] at e; subst e
      cases q with
      | lst h1 h2 => exact ⟨_, _, rfl, .inl (SqL.of (st.fr _ _ h1)), map_p_ok h2⟩
    | tuple ds =>
      simp only [seqv, Option.some.injEq] at e; subst e
      cases q with
      | tup h1 h2 => exact ⟨_, _, rfl, .inr (st.fr.st h1), map_p_ok h2⟩
    | none => cases e
    | bool b => cases e
    | int i => cases e
    | str x => cases e
    | dict k => cases e
  | loc n =>
    obtain ⟨a, h1, rfl⟩ := q
    simp only [seqv] at e
    split at e
    · rename_i l' hc
      cases e
      obtain ⟨vs, h2, h3⟩ := st.cell n _ a hc h1
      exact ⟨a, vs, rfl, .inl (SqL.of h2), h3⟩
    · rename_i l' hc
      cases e
      obtain ⟨vs, h2, h3⟩ := st.cell n _ a hc h1
      exact ⟨a, vs, rfl, .inr (SqT.of h2), h3⟩
    · cases e
  | scr ns =>
    obtain ⟨a, rfl, h2⟩ := q
    simp only [seqv, Option.some.injEq] at e; subst e
    exact ⟨a, _, rfl, .inl (st.fr.sl h2), ints_ok⟩
  | fn k => cases e
  | ty n => cases e
end

/-- a new list: frozen data, or a cell -/
def mkL (fz : Bool) (l : List RV) (S : Store) : Res RV :=
  if l.length ≤ sizeLine then
    if fz = true then
      match allP l with
      | some ds => .ok (.p (.list ds)) S
      | none => .stuck
    else .ok (.loc S.length) (S ++ [.lst l])
  else .stuck
def mkT (l : List RV) (S : Store) : Res RV :=
  if l.length ≤ sizeLine then
    match allP l with
    | some ds => .ok (.p (.tuple ds)) S
    | none => .ok (.loc S.length) (S ++ [.tup l])
  else .stuck
section
variable {g : Gd} {xc : XC} {γ γ' : List Addr} {F F' : Hp} {S : Store} {G H : Hp} {Q : VK} {E : Value → Option Addr → Hp → Prop}
theorem mkL_ok {fz : Bool} {l : List RV} {vs : List V} (st : StR g xc γ S F G H) (h : RVs g xc γ F l vs) (po : Post g xc γ F G (fun γ F => RVr g xc γ F) Q E (mkL fz l S)) :
    vs.length ≤ sizeLine ∧ ∀ p, H p = none → Q (.ref p) (upd H p (.lst vs)) := by
  unfold mkL at po
  by_cases hz : l.length ≤ sizeLine
  · rw [if_pos hz] at po
    refine ⟨by rw [h.len]; exact hz, fun p hp => ?_⟩
    cases fz with
    | true =>
      rw [if_pos rfl] at po
      split at po
      · rename_i ds e
        have n := st.newF (o := .lst vs) hp
        exact po γ _ _ _ n (.lst upd_same (Rps.mono n.ex (allP_ok h e)))
      · exact po.elim
    | false =>
      rw [if_neg (by simp)] at po
      have n := st.newC (c := .lst l) hp (o := .lst vs) ⟨vs, upd_same, h.mono (List.prefix_append _ _) (Ex.refl _)⟩
      exact po _ _ _ _ n ⟨p, by rw [← st.len]; simp, rfl⟩
  · rw [if_neg hz] at po; exact po.elim
theorem mkT_ok {l : List RV} {vs : List V} (st : StR g xc γ S F G H) (h : RVs g xc γ F l vs) (po : Post g xc γ F G (fun γ F => RVr g xc γ F) Q E (mkT l S)) :
    vs.length ≤ sizeLine ∧ ∀ p, H p = none → Q (.ref p) (upd H p (.tup vs)) := by
  unfold mkT at po
  by_cases hz : l.length ≤ sizeLine
  · rw [if_pos hz] at po
    refine ⟨by rw [h.len]; exact hz, fun p hp => ?_⟩
    split at po
    · rename_i ds e
      have n := st.newF (o := .tup vs) hp
      exact po γ _ _ _ n (.tup (SqT.of upd_same) (Rps.mono n.ex (allP_ok h e)))
    · have n := st.newC (c := .tup l) hp (o := .tup vs) ⟨vs, upd_same, h.mono (List.prefix_append _ _) (Ex.refl _)⟩
      exact po _ _ _ _ n ⟨p, by rw [← st.len]; simp, rfl⟩
  · rw [if_neg hz] at po; exact po.elim
end

/-! ### displays -/
section
variable {Γ : Cxt} {pos : Pos} {es : List Expr} {ms : MA}
def mLst (fz : Bool) (ms : MA) : ME := fun env S => (ms env S).bind fun l S1 => mkL fz l S1
def mTup (ms : MA) : ME := fun env S => (ms env S).bind fun l S1 => mkT l S1
theorem se_lst (fz : Bool) (h : SA Γ es ms) : SE Γ (.List es pos) (mLst fz ms) := fun X W fit => PE.imp (pe_lst (h X W fit))
  fun σ H Q ⟨γ, S, F, G, env, st, er, po⟩ => ⟨γ, S, F, G, env, st, er, Post.imp (Post.of_bind (R := RelVs' Γ) po) fun vs H1 ⟨γ1, S1, F1, x, e1, n1, r1, po1⟩ => mkL_ok n1.st r1 po1⟩
theorem se_tup {x1} (h : SA Γ es ms) : SE Γ (.Tuple es x1 pos) (mTup ms) := fun X W fit => PE.imp (pe_tup (h X W fit))
  fun σ H Q ⟨γ, S, F, G, env, st, er, po⟩ => ⟨γ, S, F, G, env, st, er, Post.imp (Post.of_bind (R := RelVs' Γ) po) fun vs H1 ⟨γ1, S1, F1, x, e1, n1, r1, po1⟩ => mkT_ok n1.st r1 po1⟩
end

/-! ### arithmetic -/
section
variable {Γ : Cxt} {K : PySem.W.Frag}
def okI (i : Int) (S : Store) : Res RV := .ok (.p (.int i)) S
def okB (b : Bool) (S : Store) : Res RV := .ok (.p (.bool b)) S
def okS (x : Str) (S : Store) : Res RV := .ok (.p (.str x)) S
def fII (C : Int → Int → Prop) [∀ i j, Decidable (C i j)] (f : Int → Int → Int) : F2 := fun x y S => match x, y with
  | .p (.int i), .p (.int j) => if C i j then okI (f i j) S else .stuck
  | _, _ => .stuck
theorem fII_ok {C : Int → Int → Prop} [∀ i j, Decidable (C i j)] {f : Int → Int → Int} {C' : Int → Int → Prop} (hc : ∀ i j, C i j → C' i j) : R2Ok Γ K (rI C' fun i j => .int (f i j)) (fII C f) := by
  intro γ S F G H x y v u Q E eK st rx ry po
  unfold fII at po
  split at po
  · rename_i i j
    cases rx; cases ry
    split at po
    · rename_i h
      exact ⟨_, _, rfl, rfl, hc _ _ h, po γ F H _ (Nx.refl st) (.int _)⟩
    · exact po.elim
  · exact po.elim
def fCmp (f : Int → Int → Bool) : F2 := fun x y S => match x, y with
  | .p (.int i), .p (.int j) => okB (f i j) S
  | _, _ => .stuck
theorem fCmp_ok {f : Int → Int → Bool} : R2Ok Γ K (rI0 fun i j => .bl (f i j)) (fCmp f) := by
  intro γ S F G H x y v u Q E eK st rx ry po
  unfold fCmp at po
  split at po
  · cases rx; cases ry; exact ⟨_, _, rfl, rfl, po γ F H _ (Nx.refl st) (.bl _)⟩
  · exact po.elim
def fSub : F2 := fII (fun _ _ => True) (· - ·)
def fMulI (i j : Int) (S : Store) : Res RV := if (-(2 ^ 64) < i ∧ i < 2 ^ 64) ∨ (-(2 ^ 64) < j ∧ j < 2 ^ 64) then okI (i * j) S else .stuck
def fDiv : F2 := fII (fun _ j => 0 < j ∧ j < 1073741824) (· / ·)
def fMod : F2 := fII (fun _ j => 0 < j) (· % ·)
def fPow : F2 := fII (fun i j => 0 ≤ j ∧ j ≤ 1000000 ∧ i.natAbs < 2 ^ 64) (fun i j => i ^ j.toNat)
def fLt : F2 := fCmp fun i j => decide (i < j)
def fLe : F2 := fCmp fun i j => decide (i ≤ j)
def fGt : F2 := fCmp fun i j => decide (j < i)
def fGe : F2 := fCmp fun i j => decide (j ≤ i)
/-- a + b: ints, texts, tuples, lists -/
def fAdd (fz : Bool) : F2 := fun x y S => match x, y with
  | .p (.int i), .p (.int j) => okI (i + j) S
  | .p (.str i), .p (.str j) => if i.length + j.length ≤ sizeLine then okS (i ++ j) S else .stuck
  | .p (.tuple i), .p (.tuple j) => if i.length + j.length ≤ sizeLine then .ok (.p (.tuple (i ++ j))) S else .stuck
  | .p (.list i), .p (.list j) => mkL fz (i.map RV.p ++ j.map RV.p) S
  | .loc n, .p (.list j) => match S[n]? with
    | some (.lst l) => mkL fz (l ++ j.map RV.p) S
    | _ => .stuck
  | .p (.list i), .loc m => match S[m]? with
    | some (.lst l) => mkL fz (i.map RV.p ++ l) S
    | _ => .stuck
  | .loc n, .loc m => match S[n]?, S[m]? with
    | some (.lst l), some (.lst l') => mkL fz (l ++ l') S
    | _, _ => .stuck
  | _, _ => .stuck
def rAddAll (K : PySem.W.Frag) : R2 := fun x y H Q => (rI0 (fun i j => V.int (i + j)) x y H Q ∨ (∃ i j, x = V.str i ∧ y = V.str j ∧ i.length + j.length ≤ sizeLine ∧ Q (.str (i ++ j)) H)) ∨ (rCatA K x y H Q ∨ rCat x y H Q)
theorem op_addAll {X : Cx} : OpR X (binaryOp .Add) (rAddAll X.K) := (op_add.or op_add_str).or (op_catA.or op_cat)
theorem cat_read {g : Gd} {xc : XC} {γ : List Addr} {F G H : Hp} {S : Store} {Q : VK} {E : Value → Option Addr → Hp → Prop} {fz : Bool} {l m : List RV} {a b : Addr} {vs us : List V} (st : StR g xc γ S F G H)
    (ha : H a = some (.lst vs)) (hb : H b = some (.lst us)) (r1 : RVs g xc γ F l vs) (r2 : RVs g xc γ F m us) (po : Post g xc γ F G (fun γ F => RVr g xc γ F) Q E (mkL fz (l ++ m) S)) : rCat (.ref a) (.ref b) H Q := by
  obtain ⟨h1, h2⟩ := mkL_ok st (r1.app r2) po
  exact ⟨a, b, vs, us, rfl, rfl, ha, hb, by rw [← List.length_append]; exact h1, h2⟩
theorem fAdd_ok {fz : Bool} : R2Ok Γ K (rAddAll K) (fAdd fz) := by
  intro γ S F G H x y v u Q E eK st rx ry po
  unfold fAdd at po
  split at po
  · cases rx; cases ry; exact .inl (.inl ⟨_, _, rfl, rfl, po γ F H _ (Nx.refl st) (.int _)⟩)
  · cases rx; cases ry
    split at po
    · rename_i hz; exact .inl (.inr ⟨_, _, rfl, rfl, hz, po γ F H _ (Nx.refl st) (.str _)⟩)
    · exact po.elim
  · rename_i i j
    cases rx with
    | tup h1 h2 => cases ry with
      | tup h3 h4 =>
        split at po
        · rename_i hz
          have hz' := hz
          rw [← h2.len, ← h4.len] at hz'
          rename_i a xs b ys
          refine .inr (.inl ⟨_, _, _, _, rfl, rfl, by rw [eK]; exact st.fr.st h1, by rw [eK]; exact st.fr.st h3, hz', fun e => ?_, fun e1 e2 => ?_, fun e1 e2 p hp => ?_⟩)
          · subst e; cases h2
            exact po γ F H _ (Nx.refl st) (.tup h3 h4)
          · subst e2; cases h4
            rw [List.append_nil] at po
            exact po γ F H _ (Nx.refl st) (.tup h1 h2)
          · have n := st.newF (o := .tup (xs ++ ys)) hp
            exact po γ _ _ _ n (.tup (SqT.of upd_same) (Rps.mono n.ex (h2.append h4)))
        · exact po.elim
  · cases rx with
    | lst h1 h2 => cases ry with
      | lst h3 h4 => exact .inr (.inr (cat_read st (st.fr _ _ h1) (st.fr _ _ h3) (map_p_ok h2) (map_p_ok h4) po))
  · obtain ⟨a, h1, rfl⟩ := rx
    split at po
    · rename_i hc
      obtain ⟨vs, h2, h3⟩ := st.cell _ _ a hc h1
      cases ry with
      | lst h5 h4 => exact .inr (.inr (cat_read st h2 (st.fr _ _ h5) h3 (map_p_ok h4) po))
    · exact po.elim
  · obtain ⟨a, h1, rfl⟩ := ry
    split at po
    · rename_i hc
      obtain ⟨vs, h2, h3⟩ := st.cell _ _ a hc h1
      cases rx with
      | lst h5 h4 => exact .inr (.inr (cat_read st (st.fr _ _ h5) h2 (map_p_ok h4) h3 po))
    · exact po.elim
  · obtain ⟨a, h1, rfl⟩ := rx
    obtain ⟨b, k1, rfl⟩ := ry
    split at po
    · rename_i hc kc
      obtain ⟨vs, h2, h3⟩ := st.cell _ _ a hc h1
      obtain ⟨us, k2, k3⟩ := st.cell _ _ b kc k1
      exact .inr (.inr (cat_read st h2 k2 h3 k3 po))
    · exact po.elim
  · exact po.elim
variable {pos : Pos} {a b : Expr} {ma mb : ME}
theorem se_add (fz : Bool) (ha : SE Γ a ma) (hb : SE Γ b mb) : SE Γ (.BinOp a .Add b pos) (mBin (fAdd fz) ma mb) := se_op (r := rAddAll) (fun _ _ _ => op_addAll) (fun _ => fAdd_ok) ha hb
theorem op_subC {X : Cx} : OpR X (binaryOp .Sub) (rI (fun _ _ => True) fun i j => .int (i - j)) := fun pins s σ H x y v u Q I rx ry h => let ⟨i, j, e1, e2, _, q⟩ := h; op_sub pins s σ H x y v u Q I rx ry ⟨i, j, e1, e2, q⟩
theorem se_sub (ha : SE Γ a ma) (hb : SE Γ b mb) : SE Γ (.BinOp a .Sub b pos) (mBin fSub ma mb) := se_op (r := fun _ => rI (fun _ _ => True) fun i j => .int (i - j)) (fun _ _ _ => op_subC) (fun _ => fII_ok fun _ _ h => h) ha hb
theorem se_div (ha : SE Γ a ma) (hb : SE Γ b mb) : SE Γ (.BinOp a .FloorDiv b pos) (mBin fDiv ma mb) := se_op (r := fun _ => rI CDiv fun i j => .int (i / j)) (fun _ _ _ => op_fdiv) (fun _ => fII_ok fun _ _ h => h) ha hb
theorem se_mod (ha : SE Γ a ma) (hb : SE Γ b mb) : SE Γ (.BinOp a .Mod b pos) (mBin fMod ma mb) := se_op (r := fun _ => rI (fun _ j => 0 < j) fun i j => .int (i % j)) (fun _ _ _ => op_mod) (fun _ => fII_ok fun _ _ h => h) ha hb
theorem se_pow (ha : SE Γ a ma) (hb : SE Γ b mb) : SE Γ (.BinOp a .Pow b pos) (mBin fPow ma mb) := se_op (r := fun _ => rI CPow fun i j => .int (i ^ j.toNat)) (fun _ _ _ => op_pow) (fun _ => fII_ok fun _ _ h => h) ha hb
theorem se_lt (ha : SE Γ a ma) (hb : SE Γ b mb) : SE Γ (.Compare a [.Lt] [b] pos) (mBin fLt ma mb) := se_cmp (r := fun _ => rI0 fun i j => .bl (decide (i < j))) (fun _ _ _ => op_lt) (fun _ => fCmp_ok) ha hb (nomark _)
theorem se_le (ha : SE Γ a ma) (hb : SE Γ b mb) : SE Γ (.Compare a [.LtE] [b] pos) (mBin fLe ma mb) := se_cmp (r := fun _ => rI0 fun i j => .bl (decide (i ≤ j))) (fun _ _ _ => op_le) (fun _ => fCmp_ok) ha hb (nomark _)
theorem se_gt (ha : SE Γ a ma) (hb : SE Γ b mb) : SE Γ (.Compare a [.Gt] [b] pos) (mBin fGt ma mb) := se_cmp (r := fun _ => rI0 fun i j => .bl (decide (j < i))) (fun _ _ _ => op_gt) (fun _ => fCmp_ok) ha hb (nomark _)
theorem se_ge (ha : SE Γ a ma) (hb : SE Γ b mb) : SE Γ (.Compare a [.GtE] [b] pos) (mBin fGe ma mb) := se_cmp (r := fun _ => rI0 fun i j => .bl (decide (j ≤ i))) (fun _ _ _ => op_ge) (fun _ => fCmp_ok) ha hb (nomark _)
theorem st_lt (ha : SE Γ a ma) (hb : SE Γ b mb) : ST Γ (.Compare a [.Lt] [b] pos) (mTst (mBin fLt ma mb)) := st_cmp (r := fun _ => rI0 fun i j => .bl (decide (i < j))) (fun _ _ _ => op_lt) (fun _ => fCmp_ok) ha hb (nomark _)
theorem st_le (ha : SE Γ a ma) (hb : SE Γ b mb) : ST Γ (.Compare a [.LtE] [b] pos) (mTst (mBin fLe ma mb)) := st_cmp (r := fun _ => rI0 fun i j => .bl (decide (i ≤ j))) (fun _ _ _ => op_le) (fun _ => fCmp_ok) ha hb (nomark _)
theorem st_gt (ha : SE Γ a ma) (hb : SE Γ b mb) : ST Γ (.Compare a [.Gt] [b] pos) (mTst (mBin fGt ma mb)) := st_cmp (r := fun _ => rI0 fun i j => .bl (decide (j < i))) (fun _ _ _ => op_gt) (fun _ => fCmp_ok) ha hb (nomark _)
theorem st_ge (ha : SE Γ a ma) (hb : SE Γ b mb) : ST Γ (.Compare a [.GtE] [b] pos) (mTst (mBin fGe ma mb)) := st_cmp (r := fun _ => rI0 fun i j => .bl (decide (j ≤ i))) (fun _ _ _ => op_ge) (fun _ => fCmp_ok) ha hb (nomark _)
def fNeg : RV → Store → Res RV := fun x S => match x with
  | .p (.int i) => okI (-i) S
  | _ => .stuck
def mUn (f : RV → Store → Res RV) (ma : ME) : ME := fun env S => (ma env S).bind fun x S1 => f x S1
theorem se_neg (ha : SE Γ a ma) : SE Γ (.UnaryOp .USub a pos) (mUn fNeg ma) := fun X W fit => PE.imp (pe_un un_neg (ha X W fit))
  fun σ H Q ⟨γ, S, F, G, env, st, er, po⟩ => ⟨γ, S, F, G, env, st, er, Post.imp (Post.of_bind (R := RelV' Γ) po) fun v H1 ⟨γ1, S1, F1, x, e1, n1, r1, po1⟩ => by
    unfold fNeg at po1
    split at po1
    · cases r1; exact ⟨_, rfl, po1 γ1 F1 H1 _ (Nx.refl n1.st) (.int _)⟩
    · exact po1.elim⟩
end
end Z


set_option Elab.async false
set_option linter.all false
set_option autoImplicit false
set_option maxRecDepth 100000
set_option maxHeartbeats 4000000
/-! Zmul: a tuple times any small number from nought on. -/
namespace Z
open PySem PySem.Spec PyProof.Rows L2
theorem mul_one_tup (l : Addr) (items : Array Value) (n : Nat) (sl : Array (Option Value)) (dd : Option Addr) (u : Tok) :
    Meets (Builtin.«tuple.__mul__» ⟨[.ref l, .int 1 u], []⟩) (fun _ R s => s.heap.get? l = some { cls := .type "tuple", dict := dd, data := .seq items n, slots := sl } ∧ R (.ok (.ret (.ref l))) s) :=
  .of_wp fun prog w A R s h => by
    obtain ⟨hq, g', d', tk', o'⟩ := s; obtain ⟨hl, h⟩ := h; have f1 := AutoSeq1.idx_int
    wp_walk using wpAny_loadPart' hl
    repeat (first
      | (refine wpAny_ite_false (by decide) ?_; wp_walk using wpAny_loadPart' hl)
      | (refine wpAny_ite_true (by simp) ?_; wp_walk using wpAny_loadPart' hl))
    exact ⟨_, rfl, h⟩
theorem mul_nought_tup (l : Addr) (items : Array Value) (n : Nat) (sl : Array (Option Value)) (dd : Option Addr) (u : Tok) (he : items.isEmpty = false) :
    Meets (Builtin.«tuple.__mul__» ⟨[.ref l, .int 0 u], []⟩) (fun _ R s => s.heap.get? l = some { cls := .type "tuple", dict := dd, data := .seq items n, slots := sl } ∧
      R (.ok (.ret (.ref s.heap.objs.size))) { s with heap := s.heap.push { cls := .type "tuple", data := .seq #[] }, toks := s.toks }) :=
  .of_wp fun prog w A R s h => by
    obtain ⟨hq, g', d', tk', o'⟩ := s; obtain ⟨hl, h⟩ := h; have f1 := AutoSeq1.idx_int
    wp_walk using wpAny_loadPart' hl
    repeat (first
      | (refine wpAny_ite_false (by simp [he]) ?_; wp_walk using wpAny_loadPart' hl)
      | (refine wpAny_ite_true (by simp) ?_; wp_walk using wpAny_loadPart' hl))
    exact ⟨_, rfl, h⟩

section
variable {X : Cx}
/-- t * k, k from nought on -/
def rRepA (K : PySem.W.Frag) : R2 := fun x y H Q => ∃ l k xs, x = V.ref l ∧ y = V.int k ∧ SqT K H l xs ∧ xs ≠ [] ∧ 0 ≤ k ∧ k ≤ 1000 ∧ xs.length ≤ 1000 ∧
  (k = 1 → Q (.ref l) H) ∧ (k ≠ 1 → ∀ p, H p = none → Q (.ref p) (upd H p (.tup (List.replicate k.toNat xs).flatten)))
theorem op_repA : OpR X (binaryOp .Mult) (rRepA X.K) := by
  intro pins s σ H x y v u Q I rx ry h
  obtain ⟨l, k, xs, rfl, rfl, hT, hne, h0, h1, hz, q1, q2⟩ := h
  by_cases hk : 2 ≤ k
  · exact op_repT pins s σ H _ _ v u Q I rx ry ⟨l, k, xs, rfl, rfl, hT, hne, hk, h1, hz, q2 (by omega)⟩
  · cases rx
    obtain ⟨t, rfl⟩ := ry
    obtain ⟨its, r, ⟨⟨cls, dd, data, sl⟩, ho, hc, n, hd⟩, hs⟩ := I.tuple hT
    simp only at hc hd
    subst hc hd
    have hi : its.toArray.isEmpty = false := by
      cases its with
      | nil => cases r; exact absurd rfl hne
      | cons a b => rfl
    by_cases e : k = 1
    · subst e
      refine wpAny_binaryOp_repeat_ref (U := "int") (T := "tuple") (by decide) ⟨_, ho, rfl⟩ (fun s' => typeIs_int s' 1 t) noFill_tuple_mul F.fills_int_mul F.slot_int_rmul repeat_tuple
        F.slot_int_index.lookup (call_meets F.slot_int_rmul (typeIs_int s 1 t) F.entry_int_rmul (F.args_int_rmul_2 _ _) (int_rmul_tuple 1 t l its.toArray n dd sl) ⟨ho, rfl, ⟨_, ho, rfl⟩,
          call_meets F.slot_tuple_mul ⟨_, ho, rfl⟩ F.entry_tuple_mul (F.args_tuple_mul_2 _ _) (mul_one_tup l its.toArray n sl dd t) ⟨ho, ?_⟩⟩)
      exact ⟨.ref l, H, I, rfl, q1 rfl⟩
    · have e0 : k = 0 := by omega
      subst e0
      refine wpAny_binaryOp_repeat_ref (U := "int") (T := "tuple") (by decide) ⟨_, ho, rfl⟩ (fun s' => typeIs_int s' 0 t) noFill_tuple_mul F.fills_int_mul F.slot_int_rmul repeat_tuple
        F.slot_int_index.lookup (call_meets F.slot_int_rmul (typeIs_int s 0 t) F.entry_int_rmul (F.args_int_rmul_2 _ _) (int_rmul_tuple 0 t l its.toArray n dd sl) ⟨ho, rfl, ⟨_, ho, rfl⟩,
          call_meets F.slot_tuple_mul ⟨_, ho, rfl⟩ F.entry_tuple_mul (F.args_tuple_mul_2 _ _) (mul_nought_tup l its.toArray n sl dd t hi) ⟨ho, ?_⟩⟩)
      refine ⟨.ref s.heap.objs.size, _, I.laid (t' := s.toks) (o := .tup []) (fun b ob q => Heap.get?_push_of_some _ q) (Nat.le_refl _) ?_, rfl, q2 (by omega) _ (I.hok.fresh (Nat.le_refl _))⟩
      exact ⟨Nat.zero_le _, [], .nil, IsTup.new _ _⟩
end

/-! ### a * b -/
section
variable {Γ : Cxt} {K : PySem.W.Frag}
def repl {α : Type} (k : Nat) (l : List α) : List α := match k with
  | 0 => []
  | k + 1 => l ++ repl k l
theorem repl_eq {α : Type} (k : Nat) (l : List α) : (List.replicate k l).flatten = repl k l := by
  induction k with
  | zero => rfl
  | succ k ih => rw [List.replicate_succ, List.flatten_cons, ih]; rfl
theorem repl_rps {F : Hp} {vs : List V} {ds : List PyData} (h : Rps K F vs ds) : ∀ k, Rps K F (repl k vs) (repl k ds)
  | 0 => .nil
  | k + 1 => h.append (repl_rps h k)
theorem repl_rvs {g : Gd} {xc : XC} {γ : List Addr} {F : Hp} {vs : List V} {l : List RV} (h : RVs g xc γ F l vs) : ∀ k, RVs g xc γ F (repl k l) (repl k vs)
  | 0 => .nil
  | k + 1 => h.app (repl_rvs h k)
/-- ints (one of them small); a tuple, a list, some times -/
def fMul (fz : Bool) : F2 := fun x y S => match x, y with
  | .p (.int i), .p (.int j) => fMulI i j S
  | .p (.tuple ds), .p (.int k) => if ds ≠ [] ∧ 0 ≤ k ∧ k ≤ 1000 ∧ ds.length ≤ 1000 then .ok (.p (.tuple (repl k.toNat ds))) S else .stuck
  | .p (.list ds), .p (.int k) => if -(2 ^ 63) ≤ k ∧ k < 2 ^ 63 ∧ ds.length * k.toNat ≤ sizeLine then mkL fz (repl k.toNat (ds.map RV.p)) S else .stuck
  | _, _ => .stuck
def rMulAll (K : PySem.W.Frag) : R2 := fun x y H Q => rI CMul (fun i j => V.int (i * j)) x y H Q ∨ (rRepA K x y H Q ∨ rRep x y H Q)
theorem op_mulAll {X : Cx} : OpR X (binaryOp .Mult) (rMulAll X.K) := op_mul.or (op_repA.or op_rep)
theorem fMul_ok {fz : Bool} : R2Ok Γ K (rMulAll K) (fMul fz) := by
  intro γ S F G H x y v u Q E eK st rx ry po
  unfold fMul at po
  split at po
  · unfold fMulI at po
    cases rx; cases ry
    split at po
    · rename_i h; exact .inl ⟨_, _, rfl, rfl, h, po γ F H _ (Nx.refl st) (.int _)⟩
    · exact po.elim
  · rename_i ds k
    cases ry
    cases rx with
    | @tup a xs _ h1 h2 =>
      split at po
      · rename_i hh
        obtain ⟨e1, e2, e3, e4⟩ := hh
        refine .inr (.inl ⟨a, k, xs, rfl, rfl, by rw [eK]; exact st.fr.st h1, fun z => by subst z; cases h2; exact e1 rfl, e2, e3, by rw [h2.len]; exact e4, fun z => ?_, fun z p hp => ?_⟩)
        · subst z
          have e : repl (1 : Int).toNat ds = ds := by show ds ++ [] = ds; simp
          rw [e] at po
          exact po γ F H _ (Nx.refl st) (.tup h1 h2)
        · rw [repl_eq]
          have n := st.newF (o := .tup (repl k.toNat xs)) hp
          exact po γ _ _ _ n (.tup (SqT.of upd_same) (Rps.mono n.ex (repl_rps h2 k.toNat)))
      · exact po.elim
  · rename_i ds k
    cases ry
    cases rx with
    | @lst a xs _ h1 h2 =>
      split at po
      · rename_i hh
        obtain ⟨e1, e2, e3⟩ := hh
        obtain ⟨z1, z2⟩ := mkL_ok st (repl_rvs (map_p_ok h2) k.toNat) po
        refine .inr (.inr ⟨a, k, xs, rfl, rfl, st.fr _ _ h1, e1, e2, by rw [h2.len]; exact e3, fun p hp => ?_⟩)
        rw [repl_eq]; exact z2 p hp
      · exact po.elim
  · exact po.elim
variable {pos : Pos} {a b : Expr} {ma mb : ME}
theorem se_mul (fz : Bool) (ha : SE Γ a ma) (hb : SE Γ b mb) : SE Γ (.BinOp a .Mult b pos) (mBin (fMul fz) ma mb) := se_op (r := rMulAll) (fun _ _ _ => op_mulAll) (fun _ => fMul_ok) ha hb
end
end Z


set_option Elab.async false
set_option linter.all false
set_option autoImplicit false
set_option maxRecDepth 100000
set_option maxHeartbeats 4000000
/-! Zcmp: equality, in, is None, chains; len, items, slices, isinstance. -/
namespace Z
open PySem L2

/-! ### what a value is as data, now -/
mutual
def toP (S : Store) : Nat → RV → Option PyData
  | _, .p d => some d
  | n + 1, .loc k => match S[k]? with
    | some (.lst l) => (toPs S n l).map .list
    | some (.tup l) => (toPs S n l).map .tuple
    | _ => none
  | _, .scr ns => some (.list (ns.map .int))
  | _, _ => none
def toPs (S : Store) : Nat → List RV → Option (List PyData)
  | _, [] => some []
  | n, r :: l => match toP S n r, toPs S n l with
    | some d, some ds => some (d :: ds)
    | _, _ => none
end
section
variable {g : Gd} {xc : XC} {γ : List Addr} {F G H : Hp} {S : Store}
theorem dp_ints : ∀ {ns : List Int}, DpAll g.K H (ns.map V.int) (ns.map PyData.int)
  | [] => .nil
  | i :: ns => .cons (.int i) dp_ints
mutual
theorem toP_ok (st : StR g xc γ S F G H) : ∀ (n : Nat) (r : RV) (v : V) (d : PyData), RVr g xc γ F r v → toP S n r = some d → Dp g.K H v d
  | n, .p d, v, d', q, e => by
    have : d = d' := by simpa [toP] using e
    subst this; exact (Rp.mono st.fr q).dp
  | 0, .loc k, v, d, q, e => by simp [toP] at e
  | n + 1, .loc k, v, d, q, e => by
    obtain ⟨a, h1, rfl⟩ := q
    simp only [toP] at e
    split at e
    · rename_i l hc
      obtain ⟨vs, h2, h3⟩ := st.cell k _ a hc h1
      simp only [Option.map_eq_some_iff] at e
      obtain ⟨ds, e, rfl⟩ := e
      exact .lst (SqL.of h2) (toPs_ok st n l vs ds h3 e)
    · rename_i l hc
      obtain ⟨vs, h2, h3⟩ := st.cell k _ a hc h1
      simp only [Option.map_eq_some_iff] at e
      obtain ⟨ds, e, rfl⟩ := e
      exact .tup (SqT.of h2) (toPs_ok st n l vs ds h3 e)
    · cases e
  | n, .scr ns, v, d, q, e => by
    obtain ⟨a, rfl, h⟩ := q
    have : PyData.list (ns.map .int) = d := by simpa [toP] using e
    subst this; exact .lst (st.fr.sl h) dp_ints
  | n, .fn k, v, d, q, e => by simp [toP] at e
  | n, .ty k, v, d, q, e => by simp [toP] at e
theorem toPs_ok (st : StR g xc γ S F G H) : ∀ (n : Nat) (l : List RV) (vs : List V) (ds : List PyData), RVs g xc γ F l vs → toPs S n l = some ds → DpAll g.K H vs ds
  | n, [], _, ds, .nil, e => by
    have : [] = ds := by simpa [toPs] using e
    subst this; exact .nil
  | n, r :: l, _, ds, .cons a b, e => by
    simp only [toPs] at e
    split at e
    · rename_i d ds' h1 h2
      cases e
      exact .cons (toP_ok st n r _ _ a h1) (toPs_ok st n l _ _ b h2)
    · cases e
end
end

/-! ### == -/
section
variable {Γ : Cxt} {K : PySem.W.Frag}
/-- == by data; two texts, of any signs -/
def eqD (n : Nat) (x y : RV) (S : Store) : Option Bool := match x, y with
  | .p (.str a), .p (.str b) => some (decide (a = b))
  | x, y => match toP S n x, toP S n y with
    | some d, some e => if SeqAt.shaped d = true ∧ SeqAt.shaped e = true then some (PyData.eqv d e) else none
    | _, _ => none
def fEq (neg : Bool) (n : Nat) : F2 := fun x y S => match eqD n x y S with
  | some b => okB (if neg then !b else b) S
  | none => .stuck
def rEqA (K : PySem.W.Frag) : R2 := fun x y H Q => rEq x y H Q ∨ rEqD K x y H Q
def rNeA (K : PySem.W.Frag) : R2 := fun x y H Q => rNe x y H Q ∨ rNeD K x y H Q
theorem eqD_ok {g : Gd} {xc : XC} {γ : List Addr} {F G H : Hp} {S : Store} (st : StR g xc γ S F G H) {n : Nat} {x y : RV} {v u : V} {b : Bool} (rx : RVr g xc γ F x v) (ry : RVr g xc γ F y u) (e : eqD n x y S = some b) :
    (scal v u = true ∧ decide (v = u) = b) ∨ ∃ d e, Dp g.K H v d ∧ Dp g.K H u e ∧ SeqAt.shaped d = true ∧ SeqAt.shaped e = true ∧ PyData.eqv d e = b := by
  unfold eqD at e
  split at e
  · rename_i a a'
    cases rx; cases ry; cases e
    refine .inl ⟨rfl, ?_⟩
    by_cases h : a = a'
    · subst h; simp
    · rw [decide_eq_false h, decide_eq_false]; intro z; cases z; exact h rfl
  · split at e
    · rename_i d d' h1 h2
      split at e
      · rename_i hs
        cases e
        exact .inr ⟨d, d', toP_ok st _ _ _ _ rx h1, toP_ok st _ _ _ _ ry h2, hs.1, hs.2, rfl⟩
      · cases e
    · cases e
theorem fEq_ok {n : Nat} : R2Ok Γ K (rEqA K) (fEq false n) := by
  intro γ S F G H x y v u Q E eK st rx ry po
  unfold fEq at po
  split at po
  · rename_i b e
    have q : Q (.bl b) H := po γ F H _ (Nx.refl st) (.bl _)
    rcases eqD_ok st rx ry e with ⟨h1, h2⟩ | ⟨d, e, h1, h2, h3, h4, h5⟩
    · exact .inl ⟨h1, by rw [h2]; exact q⟩
    · exact .inr ⟨d, e, by rw [eK]; exact h1, by rw [eK]; exact h2, h3, h4, by rw [h5]; exact q⟩
  · exact po.elim
theorem fNe_ok {n : Nat} : R2Ok Γ K (rNeA K) (fEq true n) := by
  intro γ S F G H x y v u Q E eK st rx ry po
  unfold fEq at po
  split at po
  · rename_i b e
    have q : Q (.bl (!b)) H := po γ F H _ (Nx.refl st) (.bl _)
    rcases eqD_ok st rx ry e with ⟨h1, h2⟩ | ⟨d, e, h1, h2, h3, h4, h5⟩
    · exact .inl ⟨h1, by rw [h2]; exact q⟩
    · exact .inr ⟨d, e, by rw [eK]; exact h1, by rw [eK]; exact h2, h3, h4, by rw [h5]; exact q⟩
  · exact po.elim
variable {pos : Pos} {a b : Expr} {ma mb : ME}
theorem un64 {X : Cx} {W : WX} (fit : Fit Γ X W) : X.A.units + 65 < cLine := by have := fit.un; omega
theorem se_eq (n : Nat) (ha : SE Γ a ma) (hb : SE Γ b mb) : SE Γ (.Compare a [.Eq] [b] pos) (mBin (fEq false n) ma mb) := se_cmp (r := rEqA) (fun _ _ fit => op_eq.or (op_eqD (by have := un64 fit; omega))) (fun _ => fEq_ok) ha hb (nomark _)
theorem se_ne (n : Nat) (ha : SE Γ a ma) (hb : SE Γ b mb) : SE Γ (.Compare a [.NotEq] [b] pos) (mBin (fEq true n) ma mb) := se_cmp (r := rNeA) (fun _ _ fit => op_ne.or (op_neD (by have := un64 fit; omega))) (fun _ => fNe_ok) ha hb (nomark _)
theorem st_eq (n : Nat) (ha : SE Γ a ma) (hb : SE Γ b mb) : ST Γ (.Compare a [.Eq] [b] pos) (mTst (mBin (fEq false n) ma mb)) := st_cmp (r := rEqA) (fun _ _ fit => op_eq.or (op_eqD (by have := un64 fit; omega))) (fun _ => fEq_ok) ha hb (nomark _)
theorem st_ne (n : Nat) (ha : SE Γ a ma) (hb : SE Γ b mb) : ST Γ (.Compare a [.NotEq] [b] pos) (mTst (mBin (fEq true n) ma mb)) := st_cmp (r := rNeA) (fun _ _ fit => op_ne.or (op_neD (by have := un64 fit; omega))) (fun _ => fNe_ok) ha hb (nomark _)

/-! ### is None -/
def isNon (x : RV) : Bool := match x with
  | .p .none => true
  | _ => false
def fIsN (neg : Bool) : F2 := fun x y S => match y with
  | .p .none => okB (if neg then !isNon x else isNon x) S
  | _ => .stuck
theorem isNon_ok {g : Gd} {xc : XC} {γ : List Addr} {F : Hp} {x : RV} {v : V} (r : RVr g xc γ F x v) : decide (v = .non) = isNon x := by
  cases x with
  | p d =>
    cases d with
    | none => cases r; rfl
    | bool b => cases r; rfl
    | int i => cases r; rfl
    | str x => cases r; rfl
    | list ds => cases r; rfl
    | tuple ds => cases r; rfl
    | dict k => cases r
  | loc n => obtain ⟨a, _, rfl⟩ := r; rfl
  | fn k => have r : v = .ref _ := r; subst r; rfl
  | ty k => have r : v = .ty _ := r; subst r; rfl
  | scr k => obtain ⟨a, rfl, _⟩ := r; rfl
theorem fIsN_ok : R2Ok Γ K (fun x y H Q => y = .non ∧ Q (.bl (decide (x = .non))) H) (fIsN false) := by
  intro γ S F G H x y v u Q E eK st rx ry po
  unfold fIsN at po
  split at po
  · cases ry; exact ⟨rfl, by rw [isNon_ok rx]; exact po γ F H _ (Nx.refl st) (.bl _)⟩
  · exact po.elim
theorem fNotN_ok : R2Ok Γ K (fun x y H Q => y = .non ∧ Q (.bl (!decide (x = .non))) H) (fIsN true) := by
  intro γ S F G H x y v u Q E eK st rx ry po
  unfold fIsN at po
  split at po
  · cases ry; exact ⟨rfl, by rw [isNon_ok rx]; exact po γ F H _ (Nx.refl st) (.bl _)⟩
  · exact po.elim
theorem se_isN (ha : SE Γ a ma) (hb : SE Γ b mb) : SE Γ (.Compare a [.Is] [b] pos) (mBin (fIsN false) ma mb) := se_cmp (r := fun _ x y H Q => y = .non ∧ Q (.bl (decide (x = .non))) H) (fun _ _ _ => op_isN) (fun _ => fIsN_ok) ha hb (nomark _)
theorem se_notN (ha : SE Γ a ma) (hb : SE Γ b mb) : SE Γ (.Compare a [.IsNot] [b] pos) (mBin (fIsN true) ma mb) := se_cmp (r := fun _ x y H Q => y = .non ∧ Q (.bl (!decide (x = .non))) H) (fun _ _ _ => op_notN) (fun _ => fNotN_ok) ha hb (nomark _)
theorem st_isN (ha : SE Γ a ma) (hb : SE Γ b mb) : ST Γ (.Compare a [.Is] [b] pos) (mTst (mBin (fIsN false) ma mb)) := st_cmp (r := fun _ x y H Q => y = .non ∧ Q (.bl (decide (x = .non))) H) (fun _ _ _ => op_isN) (fun _ => fIsN_ok) ha hb (nomark _)
theorem st_notN (ha : SE Γ a ma) (hb : SE Γ b mb) : ST Γ (.Compare a [.IsNot] [b] pos) (mTst (mBin (fIsN true) ma mb)) := st_cmp (r := fun _ x y H Q => y = .non ∧ Q (.bl (!decide (x = .non))) H) (fun _ _ _ => op_notN) (fun _ => fNotN_ok) ha hb (nomark _)

/-! ### in -/
def flatP : PyData → Bool
  | .none => true
  | .bool _ => true
  | .int _ => true
  | .str _ => true
  | _ => false
def inP (d : PyData) (ds : List PyData) : Bool := ds.any fun z => PyData.eqv z d
theorem eqV_ok {F : Hp} {v u : V} {d e : PyData} (h : Rp K F v d) (k : Rp K F u e) (f : flatP d = true) (f' : flatP e = true) : eqV v u = PyData.eqv d e := by
  cases d with
  | none => cases h; cases e with
    | none => cases k; simp [PyData.eqv, eqV]
    | bool b => cases k; simp [PyData.eqv, eqV]
    | int i => cases k; simp [PyData.eqv, eqV]
    | str x => cases k; simp [PyData.eqv, eqV]
    | list ds => cases f'
    | tuple ds => cases f'
    | dict k => cases f'
  | bool b => cases h; cases e with
    | none => cases k; simp [PyData.eqv, eqV]
    | bool b => cases k; simp [PyData.eqv, eqV]
    | int i => cases k; simp [PyData.eqv, eqV]
    | str x => cases k; simp [PyData.eqv, eqV]
    | list ds => cases f'
    | tuple ds => cases f'
    | dict k => cases f'
  | int i => cases h; cases e with
    | none => cases k; simp [PyData.eqv, eqV]
    | bool b => cases k; simp [PyData.eqv, eqV]
    | int i => cases k; simp [PyData.eqv, eqV]
    | str x => cases k; simp [PyData.eqv, eqV]
    | list ds => cases f'
    | tuple ds => cases f'
    | dict k => cases f'
  | str x => cases h; cases e with
    | none => cases k; simp [PyData.eqv, eqV]
    | bool b => cases k; simp [PyData.eqv, eqV]
    | int i => cases k; simp [PyData.eqv, eqV]
    | str x => cases k; simp [PyData.eqv, eqV]
    | list ds => cases f'
    | tuple ds => cases f'
    | dict k => cases f'
  | list ds => cases f
  | tuple ds => cases f
  | dict k => cases f
theorem flat_ok {F : Hp} {v : V} {d : PyData} (h : Rp K F v d) (f : flatP d = true) : flatV v = true := by
  cases d <;> first | (cases h; rfl) | (cases f)
theorem flats_ok {F : Hp} : ∀ {vs : List V} {ds : List PyData}, Rps K F vs ds → ds.all flatP = true → vs.all flatV = true
  | _, [], .nil, _ => rfl
  | _, d :: ds, .cons a b, f => by
    simp only [List.all_cons, Bool.and_eq_true] at f ⊢
    exact ⟨flat_ok a f.1, flats_ok b f.2⟩
theorem inV_ok {F : Hp} {v : V} {d : PyData} (h : Rp K F v d) (f : flatP d = true) : ∀ {vs : List V} {ds : List PyData}, Rps K F vs ds → ds.all flatP = true → inV v vs = inP d ds
  | _, [], .nil, _ => rfl
  | _, e :: ds, .cons a b, f' => by
    simp only [List.all_cons, Bool.and_eq_true] at f'
    have ih := inV_ok h f b f'.2
    unfold inV inP at ih ⊢
    simp only [List.any_cons, ih, eqV_ok a h f'.1 f]
/-- a sign in a text; a flat thing among flat ones -/
def fIn (neg : Bool) : F2 := fun x y S => match x, y with
  | .p (.str i), .p (.str j) => match i.cps.toList with
    | [c] => okB (if neg then !decide (c ∈ j.cps.toList) else decide (c ∈ j.cps.toList)) S
    | _ => .stuck
  | .p d, y => match (seqv S y).bind allP with
    | some ds => if flatP d = true ∧ ds.all flatP = true then okB (if neg then !inP d ds else inP d ds) S else .stuck
    | none => .stuck
  | _, _ => .stuck
def rInA (K : PySem.W.Frag) : R2 := fun x y H Q => rInS x y H Q ∨ rIn K false x y H Q
def rNiA (K : PySem.W.Frag) : R2 := fun x y H Q => rNotInS x y H Q ∨ rIn K true x y H Q
theorem fIn_some {g : Gd} {xc : XC} {γ : List Addr} {F G H : Hp} {S : Store} (st : StR g xc γ S F G H) {neg : Bool} {x y : RV} {v u : V} {Q : VK} {E : Value → Option Addr → Hp → Prop} (rx : RVr g xc γ F x v) (ry : RVr g xc γ F y u)
    (po : Post g xc γ F G (fun γ F => RVr g xc γ F) Q E (fIn neg x y S)) :
    (∃ c z, v = .str ⟨#[c]⟩ ∧ u = .str z ∧ Q (.bl (if neg then !decide (c ∈ z.cps.toList) else decide (c ∈ z.cps.toList))) H) ∨ rIn g.K neg v u H Q := by
  unfold fIn at po
  split at po
  · rename_i i j
    cases rx; cases ry
    split at po
    · rename_i c hc
      have e : i = ⟨#[c]⟩ := by
        cases i with | mk cps => exact congrArg Str.mk (Array.toList_inj.mp hc)
      subst e
      exact .inl ⟨c, j, rfl, rfl, po γ F H _ (Nx.refl st) (.bl _)⟩
    · exact po.elim
  · rename_i d y hne
    split at po
    · rename_i ds e
      split at po
      · rename_i hf
        simp only [Option.bind_eq_some_iff] at e
        obtain ⟨l, e1, e2⟩ := e
        obtain ⟨a, vs, rfl, h1, h2⟩ := seqv_ok st ry e1
        have h3 := allP_ok h2 e2
        refine .inr ⟨a, vs, rfl, h1, flat_ok rx hf.1, flats_ok h3 hf.2, ?_⟩
        rw [inV_ok rx hf.1 h3 hf.2]
        exact po γ F H _ (Nx.refl st) (.bl _)
      · exact po.elim
    · exact po.elim
  · exact po.elim
theorem fIn_ok : R2Ok Γ K (rInA K) (fIn false) := by
  intro γ S F G H x y v u Q E eK st rx ry po
  rcases fIn_some st rx ry po with h | h
  · exact .inl h
  · exact .inr (by rw [eK]; exact h)
theorem fNi_ok : R2Ok Γ K (rNiA K) (fIn true) := by
  intro γ S F G H x y v u Q E eK st rx ry po
  rcases fIn_some st rx ry po with h | h
  · exact .inl h
  · exact .inr (by rw [eK]; exact h)
theorem se_in (ha : SE Γ a ma) (hb : SE Γ b mb) (hm : behindInMarks .In b = false := by rfl) : SE Γ (.Compare a [.In] [b] pos) (mBin (fIn false) ma mb) := se_cmp (r := rInA) (fun _ _ _ => op_inS.or op_in_seq) (fun _ => fIn_ok) ha hb hm
theorem se_ni (ha : SE Γ a ma) (hb : SE Γ b mb) (hm : behindInMarks .NotIn b = false := by rfl) : SE Γ (.Compare a [.NotIn] [b] pos) (mBin (fIn true) ma mb) := se_cmp (r := rNiA) (fun _ _ _ => op_notInS.or op_notIn_seq) (fun _ => fNi_ok) ha hb hm
theorem st_in (ha : SE Γ a ma) (hb : SE Γ b mb) (hm : behindInMarks .In b = false := by rfl) : ST Γ (.Compare a [.In] [b] pos) (mTst (mBin (fIn false) ma mb)) := st_cmp (r := rInA) (fun _ _ _ => op_inS.or op_in_seq) (fun _ => fIn_ok) ha hb hm
theorem st_ni (ha : SE Γ a ma) (hb : SE Γ b mb) (hm : behindInMarks .NotIn b = false := by rfl) : ST Γ (.Compare a [.NotIn] [b] pos) (mTst (mBin (fIn true) ma mb)) := st_cmp (r := rNiA) (fun _ _ _ => op_notInS.or op_notIn_seq) (fun _ => fNi_ok) ha hb hm
end
end Z


set_option Elab.async false
set_option linter.all false
set_option autoImplicit false
set_option maxRecDepth 100000
set_option maxHeartbeats 4000000
/-! Zseq: chains; items, slices; calls of built-ins by values. -/
namespace Z
open PySem L2

section
variable {Γ : Cxt} {K : PySem.W.Frag} {pos : Pos} {a b c : Expr} {ma mb mc : ME}
/-! ### a < b < c -/
def mChain (f f' : F2) (ma mb mc : ME) : ME := fun env S => (ma env S).bind fun x S1 => (mb env S1).bind fun y S2 => (f x y S2).bind fun z S3 => match z with
  | .p (.bool true) => (mc env S3).bind fun w S4 => f' y w S4
  | .p (.bool false) => okB false S3
  | _ => .stuck
theorem chain_read {W : WX} {r r' : R2} {f f' : F2} (eK : K = Γ.g.K) (hr : R2Ok Γ K r f) (hr' : R2Ok Γ K r' f') : ∀ σ H Q, rdE Γ W (mChain f f' ma mb mc) σ H Q → tChain r r' (rdE Γ W ma) (rdE Γ W mb) (rdE Γ W mc) σ H Q :=
  fun σ H Q ⟨γ, S, F, G, env, st, er, po⟩ => ⟨γ, S, F, G, env, st, er, Post.imp (Post.of_bind (R := RelV' Γ) po) fun v H1 ⟨γ1, S1, F1, x, e1, n1, r1, po1⟩ =>
    ⟨γ1, S1, F1, G, env, n1.st, er.mono n1.pre n1.ex, Post.imp (Post.of_bind (R := RelV' Γ) po1) fun u H2 ⟨γ2, S2, F2, y, e2, n2, r2, po2⟩ =>
      hr γ2 S2 F2 G H2 x y v u _ _ eK n2.st (r1.mono n2.pre n2.ex) r2 (Post.imp (Post.of_bind (R := RelV' Γ) po2) fun z H3 ⟨γ3, S3, F3, z', e3, n3, r3, po3⟩ => by
        have er3 := ((er.mono n1.pre n1.ex).mono n2.pre n2.ex).mono n3.pre n3.ex
        split at po3
        · cases r3
          exact ⟨true, rfl, γ3, S3, F3, G, env, n3.st, er3, Post.imp (Post.of_bind (R := RelV' Γ) po3) fun w' H4 ⟨γ4, S4, F4, w1, e4, n4, r4, po4⟩ =>
            hr' γ4 S4 F4 G H4 y w1 u w' _ _ eK n4.st ((r2.mono n3.pre n3.ex).mono n4.pre n4.ex) r4 po4⟩
        · cases r3
          exact ⟨false, rfl, po3 γ3 F3 H3 _ (Nx.refl n3.st) (.bl _)⟩
        · exact po3.elim)⟩⟩
theorem st_chain {op op' : CmpOp} {r r' : PySem.W.Frag → R2} {f f' : F2} (ho : ∀ X W, Fit Γ X W → OpR X (compareOp op) (r X.K)) (ho' : ∀ X W, Fit Γ X W → OpR X (compareOp op') (r' X.K)) (hr : ∀ K, R2Ok Γ K (r K) f) (hr' : ∀ K, R2Ok Γ K (r' K) f')
    (ha : SE Γ a ma) (hb : SE Γ b mb) (hc : SE Γ c mc) (hl : lastMarks [op, op'] [b, c] = false := by rfl) : ST Γ (.Compare a [op, op'] [b, c] pos) (mTst (mChain f f' ma mb mc)) :=
  fun X W fit => PT.imp (PT.imp (pt_chain (ho X W fit) (ho' X W fit) (ha X W fit) (hb X W fit) (hc X W fit) hl) (fun σ H Q h => (show tTest (tChain (r X.K) (r' X.K) (rdE Γ W ma) (rdE Γ W mb) (rdE Γ W mc)) σ H Q from chain_read (W := W) fit.eK (hr X.K) (hr' X.K) σ H _ h))) (fun σ H Q h => tst_read (W := W) σ H Q h)
theorem se_chain {op op' : CmpOp} {r r' : PySem.W.Frag → R2} {f f' : F2} (ho : ∀ X W, Fit Γ X W → OpR X (compareOp op) (r X.K)) (ho' : ∀ X W, Fit Γ X W → OpR X (compareOp op') (r' X.K)) (hr : ∀ K, R2Ok Γ K (r K) f) (hr' : ∀ K, R2Ok Γ K (r' K) f')
    (ha : SE Γ a ma) (hb : SE Γ b mb) (hc : SE Γ c mc) (hl : lastMarks [op, op'] [b, c] = false := by rfl) : SE Γ (.Compare a [op, op'] [b, c] pos) (mChain f f' ma mb mc) :=
  fun X W fit => PE.imp (pe_chain (ho X W fit) (ho' X W fit) (ha X W fit) (hb X W fit) (hc X W fit) hl) (fun σ H Q h => chain_read (W := W) fit.eK (hr X.K) (hr' X.K) σ H _ h)
theorem st_lele (ha : SE Γ a ma) (hb : SE Γ b mb) (hc : SE Γ c mc) (hl : lastMarks [.LtE, .LtE] [b, c] = false := by rfl) : ST Γ (.Compare a [.LtE, .LtE] [b, c] pos) (mTst (mChain fLe fLe ma mb mc)) :=
  st_chain (r := fun _ => rI0 fun i j => .bl (decide (i ≤ j))) (r' := fun _ => rI0 fun i j => .bl (decide (i ≤ j))) (fun _ _ _ => op_le) (fun _ _ _ => op_le) (fun _ => fCmp_ok) (fun _ => fCmp_ok) ha hb hc hl
theorem se_lele (ha : SE Γ a ma) (hb : SE Γ b mb) (hc : SE Γ c mc) (hl : lastMarks [.LtE, .LtE] [b, c] = false := by rfl) : SE Γ (.Compare a [.LtE, .LtE] [b, c] pos) (mChain fLe fLe ma mb mc) :=
  se_chain (r := fun _ => rI0 fun i j => .bl (decide (i ≤ j))) (r' := fun _ => rI0 fun i j => .bl (decide (i ≤ j))) (fun _ _ _ => op_le) (fun _ _ _ => op_le) (fun _ => fCmp_ok) (fun _ => fCmp_ok) ha hb hc hl
theorem st_lelt (ha : SE Γ a ma) (hb : SE Γ b mb) (hc : SE Γ c mc) (hl : lastMarks [.LtE, .Lt] [b, c] = false := by rfl) : ST Γ (.Compare a [.LtE, .Lt] [b, c] pos) (mTst (mChain fLe fLt ma mb mc)) :=
  st_chain (r := fun _ => rI0 fun i j => .bl (decide (i ≤ j))) (r' := fun _ => rI0 fun i j => .bl (decide (i < j))) (fun _ _ _ => op_le) (fun _ _ _ => op_lt) (fun _ => fCmp_ok) (fun _ => fCmp_ok) ha hb hc hl
theorem se_lelt (ha : SE Γ a ma) (hb : SE Γ b mb) (hc : SE Γ c mc) (hl : lastMarks [.LtE, .Lt] [b, c] = false := by rfl) : SE Γ (.Compare a [.LtE, .Lt] [b, c] pos) (mChain fLe fLt ma mb mc) :=
  se_chain (r := fun _ => rI0 fun i j => .bl (decide (i ≤ j))) (r' := fun _ => rI0 fun i j => .bl (decide (i < j))) (fun _ _ _ => op_le) (fun _ _ _ => op_lt) (fun _ => fCmp_ok) (fun _ => fCmp_ok) ha hb hc hl

/-! ### x[i] -/
def fIx : F2 := fun x y S => match x, y with
  | .p (.str z), .p (.int i) => if z.length ≤ sizeLine then match atI z.cps.toList i with
      | some c => okS ⟨#[c]⟩ S
      | none => .stuck
    else .stuck
  | x, .p (.int i) => match seqv S x with
    | some l => match atI l i with
      | some r => .ok r S
      | none => .stuck
    | none => .stuck
  | _, _ => .stuck
theorem atI_rel {g : Gd} {xc : XC} {γ : List Addr} {F : Hp} {l : List RV} {vs : List V} {i : Int} {r : RV} (h : RVs g xc γ F l vs) (e : atI l i = some r) : ∃ v, atI vs i = some v ∧ RVr g xc γ F r v := by
  unfold atI at e ⊢
  rw [h.len]
  cases q : ixN l.length i with
  | none => rw [q] at e; cases e
  | some j => rw [q] at e; exact h.at e
theorem fIx_ok : R2Ok Γ K (rIx K) fIx := by
  intro γ S F G H x y v u Q E eK st rx ry po
  unfold fIx at po
  split at po
  · rename_i z i
    cases rx; cases ry
    split at po
    · rename_i hz
      split at po
      · rename_i c hc
        exact .inr (.inr ⟨z, i, c, rfl, rfl, hz, hc, po γ F H _ (Nx.refl st) (.str _)⟩)
      · exact po.elim
    · exact po.elim
  · rename_i x i hne
    cases ry
    split at po
    · rename_i l e
      split at po
      · rename_i r hr
        obtain ⟨a, vs, rfl, h1, h2⟩ := seqv_ok st rx e
        obtain ⟨v, h3, h4⟩ := atI_rel h2 hr
        have q := po γ F H v (Nx.refl st) h4
        rw [← eK] at h1
        rcases h1 with h1 | h1
        · exact .inl ⟨a, vs, i, v, rfl, rfl, h1, h3, q⟩
        · exact .inr (.inl ⟨a, vs, i, v, rfl, rfl, h1, h3, q⟩)
      · exact po.elim
    · exact po.elim
  · exact po.elim
theorem se_ix (ha : SE Γ a ma) (hb : SE Γ b mb) (hs : PlainIx b := by intro _ _; rfl) : SE Γ (.Subscript a b pos) (mBin fIx ma mb) :=
  fun X W fit => PE.imp (pe_ix ix_seq (ha X W fit) (hb X W fit) hs) (bin_read fit.eK fIx_ok)

/-! ### x[lo:hi] -/
abbrev MO := Env → Store → Res (Option Int)
def SO (Γ : Cxt) (e : Option Expr) (m : MO) : Prop := ∀ X W, Fit Γ X W → PO X e (rd Γ W (fun _ _ (a b : Option Int) => a = b) m)
def oNo : MO := fun _ S => .ok none S
def oSo (m : ME) : MO := fun env S => (m env S).bind fun x S1 => match x with
  | .p (.int i) => .ok (some i) S1
  | _ => .stuck
theorem PO.imp {X : Cx} {e : Option Expr} {t t' : TO} (h : PO X e t) (k : ∀ σ H Q, t' σ H Q → t σ H Q) : PO X e t' := ⟨fun pins s σ H Q I q => h.run pins s σ H Q I (k σ H Q q)⟩
theorem so_no : SO Γ none oNo := fun X W fit => PO.imp po_none fun σ H Q ⟨γ, S, F, G, env, st, er, po⟩ => po γ F H none (Nx.refl st) rfl
theorem so_so (ha : SE Γ a ma) : SO Γ (some a) (oSo ma) := fun X W fit => PO.imp (po_some (ha X W fit))
  fun σ H Q ⟨γ, S, F, G, env, st, er, po⟩ => ⟨γ, S, F, G, env, st, er, Post.imp (Post.of_bind (R := RelV' Γ) po) fun v H1 ⟨γ1, S1, F1, x, e1, n1, r1, po1⟩ => by
    split at po1
    · cases r1; exact ⟨_, rfl, po1 γ1 F1 H1 _ (Nx.refl n1.st) rfl⟩
    · exact po1.elim⟩
def cutG {α : Type} (xs : List α) (lo hi : Option Int) : List α := (xs.drop (HT.sIx xs.length 0 lo)).take (HT.sIx xs.length xs.length hi - HT.sIx xs.length 0 lo)
abbrev F3 := RV → Option Int → Option Int → Store → Res RV
def fSl (fz : Bool) : F3 := fun x lo hi S => match x with
  | .p (.str z) => if z.length ≤ sizeLine then okS (cutS z lo hi) S else .stuck
  | .p (.tuple ds) => .ok (.p (.tuple (cutG ds lo hi))) S
  | .p (.list ds) => mkL fz (cutG (ds.map RV.p) lo hi) S
  | .loc n => match S[n]? with
    | some (.lst l) => mkL fz (cutG l lo hi) S
    | _ => .stuck
  | _ => .stuck
def mSl (f : F3) (ma : ME) (ml mh : MO) : ME := fun env S => (ma env S).bind fun x S1 => (ml env S1).bind fun l S2 => (mh env S2).bind fun h S3 => f x l h S3
def rSlAll (K : PySem.W.Frag) : V → Option Int → Option Int → Hp → VK → Prop := fun x lo hi H Q => rSlS x lo hi H Q ∨ (rSlA K x lo hi H Q ∨ rSlL K x lo hi H Q)
theorem sl_all {X : Cx} : SlR X (rSlAll X.K) := sl_str.or (sl_tupA.or sl_list)
theorem cut_all {α : Type} {l : List α} {lo hi : Option Int} (h : HT.sIx l.length 0 lo = 0 ∧ HT.sIx l.length l.length hi = l.length) : cutG l lo hi = l := by
  unfold cutG; rw [h.1, h.2]; simp
theorem se_sl (fz : Bool) {lo hi : Option Expr} {p2 : Pos} {ml mh : MO} (ha : SE Γ a ma) (hl : SO Γ lo ml) (hh : SO Γ hi mh) : SE Γ (.Subscript a (.Slice lo hi none p2) pos) (mSl (fSl fz) ma ml mh) := fun X W fit => PE.imp (pe_slice sl_all (ha X W fit) (hl X W fit) (hh X W fit))
  fun σ H Q ⟨γ, S, F, G, env, st, er, po⟩ => ⟨γ, S, F, G, env, st, er, Post.imp (Post.of_bind (R := RelV' Γ) po) fun v H1 ⟨γ1, S1, F1, x, e1, n1, r1, po1⟩ =>
    ⟨γ1, S1, F1, G, env, n1.st, er.mono n1.pre n1.ex, Post.imp (Post.of_bind (R := fun _ _ (a b : Option Int) => a = b) po1) fun l H2 ⟨γ2, S2, F2, l', e2, n2, r2, po2⟩ =>
      ⟨γ2, S2, F2, G, env, n2.st, (er.mono n1.pre n1.ex).mono n2.pre n2.ex, Post.imp (Post.of_bind (R := fun _ _ (a b : Option Int) => a = b) po2) fun h H3 ⟨γ3, S3, F3, h', e3, n3, r3, po3⟩ => by
        cases r2; cases r3
        have rx := (r1.mono n2.pre n2.ex).mono n3.pre n3.ex
        have st := n3.st
        have eK := fit.eK
        unfold fSl at po3
        split at po3
        · cases rx
          split at po3
          · rename_i hz; exact .inl ⟨_, rfl, hz, po3 γ3 F3 H3 _ (Nx.refl st) (.str _)⟩
          · exact po3.elim
        · cases rx with
          | @tup aa xs _ h1 h2 =>
            refine .inr (.inl ⟨aa, xs, rfl, by rw [eK]; exact st.fr.st h1, fun hw => ?_, fun hw p hp => ?_⟩)
            · rw [h2.len] at hw
              rw [cut_all hw] at po3
              exact po3 γ3 F3 H3 _ (Nx.refl st) (.tup h1 h2)
            · have n := st.newF (o := .tup (cutV xs l h)) hp
              refine po3 γ3 _ _ _ n (.tup (SqT.of upd_same) (Rps.mono n.ex ?_))
              unfold cutV cutG
              rw [h2.len]
              exact (h2.drop _).take _
        · cases rx with
          | @lst aa xs _ h1 h2 =>
            refine .inr (.inr ⟨aa, xs, rfl, by rw [eK]; exact SqL.of (st.fr _ _ h1), (mkL_ok (vs := cutV xs l h) st ?_ po3).2⟩)
            have h4 := map_p_ok (g := Γ.g) (xc := Γ.xc) (γ := γ3) h2
            unfold cutV cutG
            rw [h4.len]
            exact (h4.dp _).tk _
        · obtain ⟨aa, h1, rfl⟩ := rx
          split at po3
          · rename_i ll hc
            obtain ⟨vs, h2, h4⟩ := st.cell _ _ aa hc h1
            refine .inr (.inr ⟨aa, vs, rfl, by rw [eK]; exact SqL.of h2, (mkL_ok (vs := cutV vs l h) st ?_ po3).2⟩)
            unfold cutV cutG
            rw [h4.len]
            exact (h4.dp _).tk _
          · exact po3.elim
        · exact po3.elim⟩⟩⟩

/-! ### calls of built-ins, by values -/
abbrev FN := List RV → Store → Res RV
def mCall (f : FN) (ms : MA) : ME := fun env S => (ms env S).bind fun l S1 => f l S1
def CROk (Γ : Cxt) (K : PySem.W.Frag) (r : List V → Hp → VK → Prop) (f : FN) : Prop := ∀ γ S F G H l vs Q E, K = Γ.g.K → StR Γ.g Γ.xc γ S F G H → RVs Γ.g Γ.xc γ F l vs → Post Γ.g Γ.xc γ F G (RelV' Γ) Q E (f l S) → r vs H Q
theorem cb_read {W : WX} {r : List V → Hp → VK → Prop} {f : FN} {ms : MA} (eK : K = Γ.g.K) (hr : CROk Γ K r f) : ∀ σ H Q, rdE Γ W (mCall f ms) σ H Q → tCB r (rdA Γ W ms) σ H Q :=
  fun σ H Q ⟨γ, S, F, G, env, st, er, po⟩ => ⟨γ, S, F, G, env, st, er, Post.imp (Post.of_bind (R := RelVs' Γ) po) fun vs H1 ⟨γ1, S1, F1, l, e1, n1, r1, po1⟩ => hr γ1 S1 F1 G H1 l vs Q _ eK n1.st r1 po1⟩
theorem se_callB {x : Str} {p : Pos} {e : Expr} {es : List Expr} {ms : MA} {id : String} {r : PySem.W.Frag → List V → Hp → VK → Prop} {f : FN} (hc : ∀ X W, Fit Γ X W → CallR X (.builtin id) (r X.K)) (hr : ∀ K, CROk Γ K (r K) f)
    (hg : Γ.sc.names.lookup x = some .globalImplicit) (hm : Γ.g.mg x = none) (hb : bootBuiltins x = some (.builtin id)) (ha : SA Γ (e :: es) ms) (hn : x ≠ ("__name__" : Str) := by decide) (hd : (x == ("__debug__" : Str)) = false := by decide)
    (he : ∀ env : PySem.Env, starEach (e :: es) env = (false, eval e env) :: starEach es env := by intro _; rfl) (hp : ∀ env : PySem.Env, (backTo pos (starEach es env)).any (·.1) = false := by intro _; rfl) :
    SE Γ (.Call (.Name x p) (e :: es) [] pos) (mCall f ms) := fun X W fit =>
  PE.imp (pe_callB (hc X W fit) (show X.env.kindOf x = _ by unfold PySem.Env.kindOf; rw [fit.es]; exact hg) (by rw [fit.em]; exact hm) hb (ha X W fit) hn hd (he X.env) (hp X.env)) (cb_read fit.eK (hr X.K))
theorem se_callTy {x : Str} {p : Pos} {e : Expr} {es : List Expr} {ms : MA} {T : String} {r : PySem.W.Frag → List V → Hp → VK → Prop} {f : FN} (hc : ∀ X W, Fit Γ X W → CallR X (.type T) (r X.K)) (hr : ∀ K, CROk Γ K (r K) f)
    (hg : Γ.sc.names.lookup x = some .globalImplicit) (hm : Γ.g.mg x = none) (hb : bootBuiltins x = some (.type T)) (ha : SA Γ (e :: es) ms) (hn : x ≠ ("__name__" : Str) := by decide) (hd : (x == ("__debug__" : Str)) = false := by decide)
    (he : ∀ env : PySem.Env, starEach (e :: es) env = (false, eval e env) :: starEach es env := by intro _; rfl) (hp : ∀ env : PySem.Env, (backTo pos (starEach es env)).any (·.1) = false := by intro _; rfl) :
    SE Γ (.Call (.Name x p) (e :: es) [] pos) (mCall f ms) := fun X W fit =>
  PE.imp (pe_callTy (hc X W fit) (show X.env.kindOf x = _ by unfold PySem.Env.kindOf; rw [fit.es]; exact hg) (by rw [fit.em]; exact hm) hb (ha X W fit) hn hd (he X.env) (hp X.env)) (cb_read fit.eK (hr X.K))
/-- a built-in class as a value -/
theorem se_ty {x : Str} {T : String} (hg : Γ.sc.names.lookup x = some .globalImplicit) (hm : Γ.g.mg x = none) (hb : bootBuiltins x = some (.type T)) (hn : x ≠ ("__name__" : Str) := by decide) (hd : (x == ("__debug__" : Str)) = false := by decide) :
    SE Γ (.Name x pos) (mC (.ty T)) :=
  se_c (v := .ty T) (fun X W fit => pe_bltn (show X.env.kindOf x = _ by unfold PySem.Env.kindOf; rw [fit.es]; exact hg) (by rw [fit.em]; exact hm) hb rfl hn hd) fun _ _ => rfl

/-! len, max, min, all, any, list, tuple -/
def fLen : FN := fun l S => match l with
  | [.p (.str z)] => if z.length ≤ sizeLine then okI z.length S else .stuck
  | [x] => match seqv S x with
    | some l => okI l.length S
    | none => .stuck
  | _ => .stuck
def rLenA (K : PySem.W.Frag) : List V → Hp → VK → Prop := fun xs H Q => (∃ z, xs = [V.str z] ∧ z.length ≤ sizeLine ∧ Q (.int z.length) H) ∨ (∃ p ys, xs = [V.ref p] ∧ (SqL K H p ys ∨ SqT K H p ys) ∧ Q (.int ys.length) H)
theorem fLen_ok : CROk Γ K (rLenA K) fLen := by
  intro γ S F G H l vs Q E eK st rl po
  unfold fLen at po
  split at po
  · cases rl with
    | cons r t => cases t; cases r
                  split at po
                  · rename_i hz; exact .inl ⟨_, rfl, hz, po γ F H _ (Nx.refl st) (.int _)⟩
                  · exact po.elim
  · cases rl with
    | cons r t =>
      cases t
      split at po
      · rename_i l' e
        obtain ⟨aa, vs, rfl, h1, h2⟩ := seqv_ok st r e
        refine .inr ⟨aa, vs, rfl, by rw [eK]; exact h1, ?_⟩
        rw [h2.len]
        exact po γ F H _ (Nx.refl st) (.int _)
      · exact po.elim
  · exact po.elim
theorem call_lenA {X : Cx} : CallR X (.builtin "len") (rLenA X.K) := call_len_str.or call_len_seq
def fMx (mx : Bool) : FN := fun l S => match l with
  | [.p (.int i), .p (.int j)] => okI (if mx then (if j > i then j else i) else (if j < i then j else i)) S
  | _ => .stuck
theorem fMax_ok : CROk Γ K (fun xs H Q => ∃ i j, xs = [V.int i, V.int j] ∧ Q (.int (if j > i then j else i)) H) (fMx true) := by
  intro γ S F G H l vs Q E eK st rl po
  unfold fMx at po
  split at po
  · cases rl with | cons r t => cases t with | cons r' t => cases t; cases r; cases r'; exact ⟨_, _, rfl, po γ F H _ (Nx.refl st) (.int _)⟩
  · exact po.elim
theorem fMin_ok : CROk Γ K (fun xs H Q => ∃ i j, xs = [V.int i, V.int j] ∧ Q (.int (if j < i then j else i)) H) (fMx false) := by
  intro γ S F G H l vs Q E eK st rl po
  unfold fMx at po
  split at po
  · cases rl with | cons r t => cases t with | cons r' t => cases t; cases r; cases r'; exact ⟨_, _, rfl, po γ F H _ (Nx.refl st) (.int _)⟩
  · exact po.elim
def bools : List RV → Option (List Bool)
  | [] => some []
  | .p (.bool b) :: l => (bools l).map (b :: ·)
  | _ :: _ => none
theorem bools_ok {g : Gd} {xc : XC} {γ : List Addr} {F : Hp} : ∀ {l : List RV} {vs : List V} {bs : List Bool}, RVs g xc γ F l vs → bools l = some bs → vs = bs.map V.bl
  | [], _, bs, .nil, e => by simp [bools] at e; subst e; rfl
  | .p (.bool b) :: l, _, bs, .cons r t, e => by
    simp only [bools, Option.map_eq_some_iff] at e
    obtain ⟨bs', e', rfl⟩ := e
    cases r
    rw [bools_ok t e']; rfl
/-- a list's items -/
def lstv (S : Store) : RV → Option (List RV)
  | .p (.list ds) => some (ds.map RV.p)
  | .loc n => match S[n]? with
    | some (.lst l) => some l
    | _ => none
  | .scr ns => some (ns.map fun i => RV.p (.int i))
  | _ => none
/-- a tuple's items -/
def tupv (S : Store) : RV → Option (List RV)
  | .p (.tuple ds) => some (ds.map RV.p)
  | .loc n => match S[n]? with
    | some (.tup l) => some l
    | _ => none
  | _ => none
theorem lstv_ok {g : Gd} {xc : XC} {γ : List Addr} {F G H : Hp} {S : Store} (st : StR g xc γ S F G H) {r : RV} {v : V} {l : List RV} (q : RVr g xc γ F r v) (e : lstv S r = some l) :
    ∃ a vs, v = .ref a ∧ SqL g.K H a vs ∧ RVs g xc γ F l vs := by
  unfold lstv at e
  split at e
  · cases e; cases q with | lst h1 h2 => exact ⟨_, _, rfl, SqL.of (st.fr _ _ h1), map_p_ok h2⟩
  · obtain ⟨a, h1, rfl⟩ := q
    split at e
    · rename_i l' hc
      cases e
      obtain ⟨vs, h2, h3⟩ := st.cell _ _ a hc h1
      exact ⟨a, vs, rfl, SqL.of h2, h3⟩
    · cases e
  · cases e; obtain ⟨a, rfl, h2⟩ := q; exact ⟨a, _, rfl, st.fr.sl h2, ints_ok⟩
  · cases e
theorem tupv_ok {g : Gd} {xc : XC} {γ : List Addr} {F G H : Hp} {S : Store} (st : StR g xc γ S F G H) {r : RV} {v : V} {l : List RV} (q : RVr g xc γ F r v) (e : tupv S r = some l) :
    ∃ a vs, v = .ref a ∧ SqT g.K H a vs ∧ RVs g xc γ F l vs := by
  unfold tupv at e
  split at e
  · cases e; cases q with | tup h1 h2 => exact ⟨_, _, rfl, st.fr.st h1, map_p_ok h2⟩
  · obtain ⟨a, h1, rfl⟩ := q
    split at e
    · rename_i l' hc
      cases e
      obtain ⟨vs, h2, h3⟩ := st.cell _ _ a hc h1
      exact ⟨a, vs, rfl, SqT.of h2, h3⟩
    · cases e
  · cases e
def fAll (al : Bool) : FN := fun l S => match l with
  | [x] => match (lstv S x).bind bools with
    | some bs => okB (if al then bs.all id else bs.any id) S
    | none => .stuck
  | _ => .stuck
theorem fAll_some {γ : List Addr} {S : Store} {F G H : Hp} {l : List RV} {vs : List V} {Q : VK} {E : Value → Option Addr → Hp → Prop} {al : Bool} (st : StR Γ.g Γ.xc γ S F G H) (rl : RVs Γ.g Γ.xc γ F l vs) (po : Post Γ.g Γ.xc γ F G (RelV' Γ) Q E (fAll al l S)) :
    ∃ (a : Addr) (bs : List Bool), vs = [V.ref a] ∧ SqL Γ.g.K H a (bs.map V.bl) ∧ Q (.bl (if al then bs.all id else bs.any id)) H := by
  unfold fAll at po
  split at po
  · cases rl with
    | cons r t =>
      cases t
      split at po
      · rename_i bs e
        simp only [Option.bind_eq_some_iff] at e
        obtain ⟨l', e1, e2⟩ := e
        obtain ⟨aa, us, rfl, h1, h2⟩ := lstv_ok st r e1
        have := bools_ok h2 e2
        subst this
        exact ⟨aa, bs, rfl, h1, po γ F H _ (Nx.refl st) (.bl _)⟩
      · exact po.elim
  · exact po.elim
theorem fAll_ok : CROk Γ K (rAll K) (fAll true) := fun γ S F G H l vs Q E eK st rl po => by
  obtain ⟨aa, bs, e, h, q⟩ := fAll_some st rl po
  exact ⟨aa, bs, e, by rw [eK]; exact h, q⟩
theorem fAny_ok : CROk Γ K (rAny K) (fAll false) := fun γ S F G H l vs Q E eK st rl po => by
  obtain ⟨aa, bs, e, h, q⟩ := fAll_some st rl po
  exact ⟨aa, bs, e, by rw [eK]; exact h, q⟩
/-- list(xs), tuple(xs) -/
def fListOf (fz : Bool) : FN := fun l S => match l with
  | [x] => match seqv S x with
    | some l => mkL fz l S
    | none => .stuck
  | _ => .stuck
def rListOf (K : PySem.W.Frag) : List V → Hp → VK → Prop := fun xs H Q => ∃ p ys, xs = [V.ref p] ∧ (SqL K H p ys ∨ SqT K H p ys) ∧ ∀ l, H l = none → Q (.ref l) (upd H l (.lst ys))
theorem fListOf_ok {fz : Bool} : CROk Γ K (rListOf K) (fListOf fz) := by
  intro γ S F G H l vs Q E eK st rl po
  unfold fListOf at po
  split at po
  · cases rl with
    | cons r t =>
      cases t
      split at po
      · rename_i l' e
        obtain ⟨aa, us, rfl, h1, h2⟩ := seqv_ok st r e
        exact ⟨aa, us, rfl, by rw [eK]; exact h1, (mkL_ok st h2 po).2⟩
      · exact po.elim
  · exact po.elim
def fTupleOf : FN := fun l S => match l with
  | [.p (.tuple ds)] => .ok (.p (.tuple ds)) S
  | [x] => match lstv S x with
    | some l => mkT l S
    | none => .stuck
  | _ => .stuck
def rTupleOf (K : PySem.W.Frag) : List V → Hp → VK → Prop := fun xs H Q => ∃ p ys, xs = [V.ref p] ∧ ((SqL K H p ys ∧ ∀ l, H l = none → Q (.ref l) (upd H l (.tup ys))) ∨ (SqT K H p ys ∧ Q (.ref p) H))
theorem fTupleOf_ok : CROk Γ K (rTupleOf K) fTupleOf := by
  intro γ S F G H l vs Q E eK st rl po
  unfold fTupleOf at po
  split at po
  · cases rl with
    | cons r t =>
      cases t
      cases r with
      | tup h1 h2 => exact ⟨_, _, rfl, .inr ⟨by rw [eK]; exact st.fr.st h1, po γ F H _ (Nx.refl st) (.tup h1 h2)⟩⟩
  · cases rl with
    | cons r t =>
      cases t
      split at po
      · rename_i l' e
        obtain ⟨aa, us, rfl, h1, h2⟩ := lstv_ok st r e
        exact ⟨aa, us, rfl, .inl ⟨by rw [eK]; exact h1, (mkT_ok st h2 po).2⟩⟩
      · exact po.elim
  · exact po.elim
/-- int(b), int(i) -/
def fInt1 : FN := fun l S => match l with
  | [.p (.int i)] => okI i S
  | [.p (.bool b)] => okI (if b then 1 else 0) S
  | _ => .stuck
theorem fInt1_ok : CROk Γ K (fun xs H Q => (∃ i, xs = [V.int i] ∧ Q (.int i) H) ∨ ∃ k, xs = [V.bl k] ∧ Q (.int (if k then 1 else 0)) H) fInt1 := by
  intro γ S F G H l vs Q E eK st rl po
  unfold fInt1 at po
  split at po
  · cases rl with | cons r t => cases t; cases r; exact .inl ⟨_, rfl, po γ F H _ (Nx.refl st) (.int _)⟩
  · cases rl with | cons r t => cases t; cases r; exact .inr ⟨_, rfl, po γ F H _ (Nx.refl st) (.int _)⟩
  · exact po.elim

/-! isinstance -/
/-- the type's name of a value -/
def tyN (S : Store) : RV → Option String
  | .p .none => some "NoneType"
  | .p (.bool _) => some "bool"
  | .p (.int _) => some "int"
  | .p (.str _) => some "str"
  | .p (.list _) => some "list"
  | .p (.tuple _) => some "tuple"
  | .loc n => match S[n]? with
    | some (.lst _) => some "list"
    | some (.tup _) => some "tuple"
    | some (.dK _) => some "dict"
    | _ => none
  | .scr _ => some "list"
  | _ => none
def isB (t T : String) : Bool := t == T || (t == "bool" && T == "int")
theorem isB_ok : ∀ t ∈ ["NoneType", "bool", "int", "str", "list", "tuple", "dict"], ∀ T ∈ ["bool", "int", "str", "list", "tuple", "dict"], kitB t T = some (isB t T) := by decide +kernel
theorem tyN_in {S : Store} {r : RV} {t : String} (e : tyN S r = some t) : t ∈ ["NoneType", "bool", "int", "str", "list", "tuple", "dict"] := by
  unfold tyN at e
  split at e
  · cases e; decide
  · cases e; decide
  · cases e; decide
  · cases e; decide
  · cases e; decide
  · cases e; decide
  · split at e
    · cases e; decide
    · cases e; decide
    · cases e; decide
    · cases e
  · cases e; decide
  · cases e
theorem tyx_tup {g : Gd} {H : Hp} {a : Addr} {xs : List V} (h : SqT g.K H a xs) : TyX g.K H (.ref a) (.type "tuple") := by
  rcases h with (h | ⟨o, h⟩) | ⟨o, its, n, h1, h2, _⟩
  · exact .base (.tup h)
  · exact .fTuple h
  · exact .kTuple h1 h2
theorem tyx_lst {g : Gd} {H : Hp} {a : Addr} {xs : List V} (h : SqL g.K H a xs) : TyX g.K H (.ref a) (.type "list") := by
  rcases h with (h | ⟨o, h⟩) | ⟨o, its, n, h1, h2, _⟩
  · exact .base (.lst h)
  · exact .base (.frz h)
  · exact .kList h1 h2
theorem tyN_ok {g : Gd} {xc : XC} {γ : List Addr} {F G H : Hp} {S : Store} (st : StR g xc γ S F G H) {r : RV} {v : V} {t : String} (q : RVr g xc γ F r v) (e : tyN S r = some t) : TyX g.K H v (.type t) := by
  unfold tyN at e
  split at e
  · cases e; cases q; exact .base .non
  · cases e; cases q; exact .base (.bl _)
  · cases e; cases q; exact .base (.int _)
  · cases e; cases q; exact .base (.str _)
  · cases e; cases q with | lst h1 h2 => exact tyx_lst (SqL.of (st.fr _ _ h1))
  · cases e; cases q with | tup h1 h2 => exact tyx_tup (st.fr.st h1)
  · obtain ⟨a, h1, rfl⟩ := q
    split at e
    · rename_i hc; cases e; obtain ⟨vs, h2, h3⟩ := st.cell _ _ a hc h1; exact tyx_lst (SqL.of h2)
    · rename_i hc; cases e; obtain ⟨vs, h2, h3⟩ := st.cell _ _ a hc h1; exact tyx_tup (SqT.of h2)
    · rename_i hc; cases e; obtain ⟨vs, h2, h3⟩ := st.cell _ _ a hc h1; exact .base (.dK h2)
    · cases e
  · cases e; obtain ⟨a, rfl, h2⟩ := q; exact tyx_lst (st.fr.sl h2)
  · cases e
def fIsi : FN := fun l S => match l with
  | [x, .ty T] => match tyN S x with
    | some t => if T ∈ ["bool", "int", "str", "list", "tuple", "dict"] then okB (isB t T) S else .stuck
    | none => .stuck
  | _ => .stuck
theorem fIsi_ok : CROk Γ K (rIsi K) fIsi := by
  intro γ S F G H l vs Q E eK st rl po
  unfold fIsi at po
  split at po
  · rename_i x T
    cases rl with
    | cons r t => cases t with
      | cons r' t =>
        cases t
        rename_i v u
        have r' : u = .ty T := r'
        subst r'
        split at po
        · rename_i t e
          split at po
          · rename_i hT
            refine ⟨_, _, _, _, _, rfl, .ty T, by rw [eK]; exact tyN_ok st r e, ?_, po γ F H _ (Nx.refl st) (.bl _)⟩
            exact kit_ty (isB_ok t (tyN_in e) T hT)
          · exact po.elim
        · exact po.elim
  · exact po.elim
end
end Z


set_option Elab.async false
set_option linter.all false
set_option autoImplicit false
set_option maxRecDepth 100000
set_option maxHeartbeats 4000000
/-! Zstmt: statements, targets, what is walked, for. -/
namespace Z
open PySem L2

section
variable (Γ : Cxt) (W : WX)
def SPost (γ : List Addr) (F G : Hp) (D : Ends) : SRes → Prop
  | .nx e S' => ∀ γ' F' H' σ', Nx Γ.g Γ.xc γ F G γ' S' F' H' → EnvK Γ.g Γ.xc γ' F' e σ' → D.nx σ' H'
  | .rt r S' => ∀ γ' F' H' v, Nx Γ.g Γ.xc γ F G γ' S' F' H' → RVr Γ.g Γ.xc γ' F' r v → D.rt v H'
  | .bk e S' => ∀ γ' F' H' σ', Nx Γ.g Γ.xc γ F G γ' S' F' H' → EnvK Γ.g Γ.xc γ' F' e σ' → D.bk σ' H'
  | .ct e S' => ∀ γ' F' H' σ', Nx Γ.g Γ.xc γ F G γ' S' F' H' → EnvK Γ.g Γ.xc γ' F' e σ' → D.ct σ' H'
  | .exc c fs e S' => ∀ γ' F' H' σ' d, Nx Γ.g Γ.xc γ F G γ' S' F' H' → EnvK Γ.g Γ.xc γ' F' e σ' → ExcR Γ.g F' fs d → W (.ref (Γ.g.adr c)) d σ' H'
  | .stuck => False
def rdS (m : MS) : TS := fun D σ H => ∃ γ S F G env, StR Γ.g Γ.xc γ S F G H ∧ EnvK Γ.g Γ.xc γ F env σ ∧ SPost Γ W γ F G D (m env S)
end
def SS (Γ : Cxt) (st : Stmt) (m : MS) : Prop := ∀ X W, Fit Γ X W → PS X st (rdS Γ W m)
def SSs (Γ : Cxt) (st : List Stmt) (m : MS) : Prop := ∀ X W, Fit Γ X W → PSs X st (rdS Γ W m)

def eS {α : Type} (r : Res α) (env : Env) (f : α → Store → SRes) : SRes := match r with
  | .ok a S => f a S
  | .exc c fs S => .exc c fs env S
  | .stuck => .stuck
section
variable {Γ : Cxt} {W : WX} {γ γ1 : List Addr} {F F1 G H1 : Hp} {S1 : Store} {D : Ends} {σ : St} {env : Env}
theorem SPost.later {r : SRes} (h : SPost Γ W γ F G D r) (n : Nx Γ.g Γ.xc γ F G γ1 S1 F1 H1) : SPost Γ W γ1 F1 G D r := by
  cases r with
  | nx e S' => exact fun γ' F' H' σ' n' q => h γ' F' H' σ' (n.trans n') q
  | rt r S' => exact fun γ' F' H' v n' q => h γ' F' H' v (n.trans n') q
  | bk e S' => exact fun γ' F' H' σ' n' q => h γ' F' H' σ' (n.trans n') q
  | ct e S' => exact fun γ' F' H' σ' n' q => h γ' F' H' σ' (n.trans n') q
  | exc c fs e S' => exact fun γ' F' H' σ' d n' q => h γ' F' H' σ' d (n.trans n') q
  | stuck => exact h
theorem SPost.of_eS {α β : Type} {R : List Addr → Hp → α → β → Prop} {r : Res α} {f : α → Store → SRes} (h : SPost Γ W γ F G D (eS r env f)) (er : EnvK Γ.g Γ.xc γ F env σ) :
    Post Γ.g Γ.xc γ F G R (fun v H' => ∃ γ' S' F' x, r = .ok x S' ∧ Nx Γ.g Γ.xc γ F G γ' S' F' H' ∧ R γ' F' x v ∧ SPost Γ W γ' F' G D (f x S')) (Wσ W σ) r := by
  cases r with
  | ok x S' => exact fun γ' F' H' v n q => ⟨γ', S', F', x, rfl, n, q, SPost.later h n⟩
  | exc c fs S' => exact fun γ' F' H' d n q => h γ' F' H' σ d n (er.mono n.pre n.ex) q
  | stuck => exact h
end

section
variable {Γ : Cxt} {pos : Pos} {e : Expr} {m : ME} {st : Stmt} {rest : List Stmt} {ms mr : MS}
def mSeq (a b : MS) : MS := fun env S => match a env S with
  | .nx e S' => b e S'
  | r => r
def mNext : MS := fun env S => .nx env S
theorem sss_nil : SSs Γ [] mNext := fun X W fit => PSs.imp pss_nil fun D σ H ⟨γ, S, F, G, env, st, er, po⟩ => po γ F H σ (Nx.refl st) er
theorem sss_cons (h : SS Γ st ms) (k : SSs Γ rest mr) : SSs Γ (st :: rest) (mSeq ms mr) := fun X W fit => PSs.imp (pss_cons (h X W fit) (k X W fit))
  fun D σ H ⟨γ, S, F, G, env, st, er, po⟩ => ⟨γ, S, F, G, env, st, er, by
    unfold mSeq at po
    generalize ms env S = r at po ⊢
    cases r with
    | nx e S' => exact fun γ' F' H' σ' n q => ⟨γ', S', F', G, e, n.st, q, SPost.later po n⟩
    | rt r S' => exact po
    | bk e S' => exact po
    | ct e S' => exact po
    | exc c fs e S' => exact po
    | stuck => exact po⟩
theorem sss_one (h : SS Γ st ms) : SSs Γ [st] ms := fun X W fit => pss_one (h X W fit)
theorem ss_pass : SS Γ (.Pass pos) mNext := fun X W fit => PS.imp ps_pass fun D σ H ⟨γ, S, F, G, env, st, er, po⟩ => po γ F H σ (Nx.refl st) er
theorem ss_break : SS Γ (.Break pos) (fun env S => .bk env S) := fun X W fit => PS.imp ps_break fun D σ H ⟨γ, S, F, G, env, st, er, po⟩ => po γ F H σ (Nx.refl st) er
theorem ss_continue : SS Γ (.Continue pos) (fun env S => .ct env S) := fun X W fit => PS.imp ps_continue fun D σ H ⟨γ, S, F, G, env, st, er, po⟩ => po γ F H σ (Nx.refl st) er
def mExp (m : ME) : MS := fun env S => eS (m env S) env fun _ S1 => .nx env S1
theorem ss_expr (h : SE Γ e m) (hs : ∀ env : PySem.Env, swapsWith e none pos.line env = pure false := by intro _; rfl) : SS Γ (.Expr e pos) (mExp m) := fun X W fit => PS.imp (ps_expr (h X W fit) (hs X.env))
  fun D σ H ⟨γ, S, F, G, env, st, er, po⟩ => ⟨γ, S, F, G, env, st, er, Post.imp (SPost.of_eS (R := RelV' Γ) po er) fun v H1 ⟨γ1, S1, F1, x, e1, n1, r1, po1⟩ => po1 γ1 F1 H1 σ (Nx.refl n1.st) (er.mono n1.pre n1.ex)⟩
theorem ss_doc {x : Str} {j : Nat} {p : Pos} : SS Γ (.Expr (.Constant (.str x) j p) pos) mNext := fun X W fit => PS.imp ps_doc fun D σ H ⟨γ, S, F, G, env, st, er, po⟩ => po γ F H σ (Nx.refl st) er
def mRet (m : ME) : MS := fun env S => eS (m env S) env fun r S1 => .rt r S1
theorem ss_ret (h : SE Γ e m) : SS Γ (.Return (some e) pos) (mRet m) := fun X W fit => PS.imp (ps_ret (h X W fit))
  fun D σ H ⟨γ, S, F, G, env, st, er, po⟩ => ⟨γ, S, F, G, env, st, er, Post.imp (SPost.of_eS (R := RelV' Γ) po er) fun v H1 ⟨γ1, S1, F1, x, e1, n1, r1, po1⟩ => po1 γ1 F1 H1 v (Nx.refl n1.st) r1⟩
theorem ss_retN : SS Γ (.Return none pos) (fun _ S => .rt (.p .none) S) := fun X W fit => PS.imp ps_retN fun D σ H ⟨γ, S, F, G, env, st, er, po⟩ => po γ F H .non (Nx.refl st) .non
def mIfS (t : MT) (a b : MS) : MS := fun env S => eS (t env S) env fun c S1 => if c = true then a env S1 else b env S1
theorem ss_if {c : Expr} {t : MT} {a b : List Stmt} {ma mb : MS} (ht : ST Γ c t) (ha : SSs Γ a ma) (hb : SSs Γ b mb) : SS Γ (.If c a b pos) (mIfS t ma mb) := fun X W fit => PS.imp (ps_if (ht X W fit) (ha X W fit) (hb X W fit))
  fun D σ H ⟨γ, S, F, G, env, st, er, po⟩ => ⟨γ, S, F, G, env, st, er, Post.imp (SPost.of_eS (R := RelB) po er) fun v H1 ⟨γ1, S1, F1, x, e1, n1, r1, po1⟩ => by
    cases r1
    cases v with
    | true => exact ⟨γ1, S1, F1, G, env, n1.st, er.mono n1.pre n1.ex, po1⟩
    | false => exact ⟨γ1, S1, F1, G, env, n1.st, er.mono n1.pre n1.ex, po1⟩⟩
end

/-! ### targets -/
abbrev Bd := RV → Env → Store → Res Env
abbrev Bds := List RV → Env → Store → Res Env
/-- only the slots of ts turn -/
def Turns (ts : List Nat) (σ σ' : St) : Prop := σ'.length = σ.length ∧ ∀ i, i ∉ ts → σ'[i]? = σ[i]?
section
variable (Γ : Cxt) (W : WX)
def GPost (γ : List Addr) (F G : Hp) (σ : St) (ts : List Nat) (Q : St → Hp → Prop) : Res Env → Prop
  | .ok e S' => ∀ γ' F' H' σ', Nx Γ.g Γ.xc γ F G γ' S' F' H' → EnvK Γ.g Γ.xc γ' F' e σ' → Turns ts σ σ' → Q σ' H'
  | _ => False
def rdG (b : Bd) (ts : List Nat) : TG := fun v σ H Q => ∃ γ S F G env r, StR Γ.g Γ.xc γ S F G H ∧ EnvK Γ.g Γ.xc γ F env σ ∧ RVr Γ.g Γ.xc γ F r v ∧ GPost Γ γ F G σ ts Q (b r env S)
def rdGs (b : Bds) (ts : List Nat) : TGs := fun vs σ H Q => ∃ γ S F G env l, StR Γ.g Γ.xc γ S F G H ∧ EnvK Γ.g Γ.xc γ F env σ ∧ RVs Γ.g Γ.xc γ F l vs ∧ GPost Γ γ F G σ ts Q (b l env S)
end
def SG (Γ : Cxt) (tg : Expr) (b : Bd) (ts : List Nat) : Prop := ∀ X W, Fit Γ X W → PG X tg (rdG Γ b ts)
def SGs (Γ : Cxt) (tgs : List Expr) (b : Bds) (ts : List Nat) : Prop := ∀ X W, Fit Γ X W → PGs X tgs (rdGs Γ b ts)
section
variable {X : Cx}
theorem PG.imp {e : Expr} {t t' : TG} (h : PG X e t) (k : ∀ v σ H Q, t' v σ H Q → t v σ H Q) : PG X e t' := ⟨fun pins s σ H v u Q I r q => h.run pins s σ H v u Q I r (k v σ H Q q)⟩
theorem PGs.imp {es : List Expr} {t t' : TGs} (h : PGs X es t) (k : ∀ v σ H Q, t' v σ H Q → t v σ H Q) : PGs X es t' := ⟨fun pins s σ H v u Q I r q => h.run pins s σ H v u Q I r (k v σ H Q q)⟩
end
theorem EnvK.set {g : Gd} {xc : XC} {γ : List Addr} {F : Hp} {env : Env} {σ : St} (er : EnvK g xc γ F env σ) (i : Nat) {r : RV} {v : V} (h : RVr g xc γ F r v) (hxi : ∀ x, xc = some x → x.i ≠ i) : EnvK g xc γ F (env.set i (some r)) (σ.set i (some v)) := by
  refine ⟨by simp [er.len], fun j r' hj => ?_, fun x hx => by rw [List.getElem?_set_ne (Ne.symm (hxi x hx))]; exact er.xs x hx⟩
  by_cases e : i = j
  · subst e
    have hl : i < env.length := by
      have := (List.getElem?_eq_some_iff.mp hj).1
      simpa using this
    rw [List.getElem?_set_self hl] at hj
    cases hj
    exact ⟨v, by rw [List.getElem?_set_self (by rw [← er.len]; exact hl)], h⟩
  · rw [List.getElem?_set_ne e] at hj
    obtain ⟨w, h1, h2⟩ := er.rel j r' hj
    exact ⟨w, by rw [List.getElem?_set_ne e]; exact h1, h2⟩
theorem Turns.set {σ : St} {i : Nat} {x : Option V} {ts : List Nat} (h : i ∈ ts) : Turns ts σ (σ.set i x) :=
  ⟨by simp, fun j hj => by rw [List.getElem?_set_ne]; intro e; subst e; exact hj h⟩
theorem Turns.refl {σ : St} {ts : List Nat} : Turns ts σ σ := ⟨rfl, fun _ _ => rfl⟩
theorem Turns.trans {σ σ1 σ2 : St} {ts us vs : List Nat} (a : Turns ts σ σ1) (b : Turns us σ1 σ2) (h : ∀ i, i ∈ ts ∨ i ∈ us → i ∈ vs) : Turns vs σ σ2 :=
  ⟨b.1.trans a.1, fun i hi => (b.2 i fun z => hi (h i (.inr z))).trans (a.2 i fun z => hi (h i (.inl z)))⟩
theorem Turns.wipe {σ σ1 : St} {ts : List Nat} (a : Turns ts σ σ1) : ∀ vs : List Nat, (∀ i ∈ ts, i ∈ vs) → wipe σ1 vs = wipe σ vs := by
  have key : ∀ (τ : St) (vs : List Nat) (j : Nat), (L2.wipe τ vs)[j]? = if j ∈ vs then (if j < τ.length then some none else none) else τ[j]? := by
    intro τ vs j
    induction vs with
    | nil => simp [L2.wipe]
    | cons v vs ih =>
      unfold L2.wipe
      by_cases e : v = j
      · subst e
        by_cases h : v < τ.length
        · rw [List.getElem?_set_self (by rw [wipe_length]; exact h)]; simp [h]
        · rw [List.getElem?_eq_none (by rw [List.length_set, wipe_length]; omega)]; simp [h]
      · rw [List.getElem?_set_ne e, ih]
        have : j ≠ v := fun z => e z.symm
        simp [this]
  intro vs h
  apply List.ext_getElem?
  intro j
  rw [key, key, a.1]
  by_cases hj : j ∈ vs
  · simp [hj]
  · simp only [hj, if_false]
    exact a.2 j fun z => hj (h j z)

section
variable {Γ : Cxt} {pos : Pos}
def bName (i : Nat) : Bd := fun r env S => .ok (env.set i (some r)) S
theorem fn_ok {X : Cx} {W : WX} (fit : Fit Γ X W) {x : Str} (h : Γ.top = true ∨ Γ.sc.names.lookup x = some .local) : X.fn x = true ∨ X.env.scope.names.lookup x = some .local :=
  h.elim (fun t => .inl ((fit.tp t).2.2 x)) fun h => .inr (by rw [fit.es]; exact h)
theorem sg_name {i : Nat} {x : Str} (hN : Γ.N[i]? = some x := by rfl) (hx : Loc Γ.sc x := by first | exact Or.inl rfl | exact Or.inr rfl) (hf : Γ.top = true ∨ Γ.sc.names.lookup x = some .local := by first | exact Or.inl rfl | exact Or.inr rfl) (hxi : ∀ x, Γ.xc = some x → x.i ≠ i := by first | (intro x h; cases h; done) | (intro x h; cases h; decide)) : SG Γ (.Name x pos) (bName i) [i] := fun X W fit =>
  PG.imp (pg_name (i := i) (by rw [fit.eN]; exact fit.nd) (by rw [fit.eN]; exact hN) (by rw [fit.es]; exact hx) (fn_ok fit hf)) fun v σ H Q ⟨γ, S, F, G, env, r, st, er, rr, po⟩ => po γ F H _ (Nx.refl st) (er.set i rr hxi) (Turns.set (by simp))
def bsNil : Bds := fun l env S => match l with
  | [] => .ok env S
  | _ => .stuck
def bsCons (b : Bd) (bs : Bds) : Bds := fun l env S => match l with
  | r :: l => (b r env S).bind fun e S1 => bs l e S1
  | [] => .stuck
theorem sgs_nil : SGs Γ [] bsNil [] := fun X W fit => PGs.imp pgs_nil fun v σ H Q ⟨γ, S, F, G, env, l, st, er, rr, po⟩ => by
  unfold bsNil at po
  split at po
  · cases rr; exact ⟨rfl, po γ F H σ (Nx.refl st) er Turns.refl⟩
  · exact po.elim
theorem sgs_cons {e : Expr} {es : List Expr} {b : Bd} {bs : Bds} {ts us : List Nat} (h : SG Γ e b ts) (k : SGs Γ es bs us)
    (hs : ∀ env : PySem.Env, assignEach (e :: es) env = (false, assign e env) :: assignEach es env := by intro _; rfl) : SGs Γ (e :: es) (bsCons b bs) (ts ++ us) := fun X W fit => by
  refine PGs.imp (pgs_cons (h X W fit) (k X W fit) (by rw [hs X.env]; rfl)) fun v σ H Q ⟨γ, S, F, G, env, l, st, er, rr, po⟩ => ?_
  unfold bsCons at po
  split at po
  · rename_i r l
    cases rr with
    | cons r1 r2 =>
      refine ⟨_, _, rfl, γ, S, F, G, env, r, st, er, r1, ?_⟩
      generalize b r env S = q at po ⊢
      cases q with
      | ok e1 S1 => exact fun γ' F' H' σ' n ek tu => ⟨γ', S1, F', G, e1, l, n.st, ek, RVs.mono n.pre n.ex r2, by
          have po : GPost Γ γ F G σ (ts ++ us) Q (bs l e1 S1) := po
          generalize bs l e1 S1 = q2 at po ⊢
          cases q2 with
          | ok e2 S2 => exact fun γ2 F2 H2 σ2 n2 ek2 tu2 => po γ2 F2 H2 σ2 (n.trans n2) ek2 (tu.trans tu2 fun i hi => List.mem_append.mpr hi)
          | exc c fs S2 => exact po
          | stuck => exact po⟩
      | exc c fs S1 => exact po
      | stuck => exact po
  · exact po.elim
/-- a, b = t -/
def bTup (n : Nat) (bs : Bds) : Bd := fun r env S => match tupv S r with
  | some l => if l.length = n then bs l env S else .stuck
  | none => .stuck
theorem sg_tup {es : List Expr} {k n : Nat} {bs : Bds} {ts : List Nat} (hc : Γ.calm = true) (h : SGs Γ es bs ts) (h1 : ∀ env : PySem.Env, (assignEach es env).length = n := by intro _; rfl)
    (h2 : ∀ env : PySem.Env, List.findIdx? (fun x => x.1) (assignEach es env) = none := by intro _; rfl) : SG Γ (.Tuple es k pos) (bTup n bs) ts := fun X W fit =>
  PG.imp (pg_tup (by rw [fit.ec]; exact hc) (h X W fit) (h1 X.env) (h2 X.env)) fun v σ H Q ⟨γ, S, F, G, env, r, st, er, rr, po⟩ => by
    unfold bTup at po
    split at po
    · rename_i l e
      split at po
      · rename_i hn
        obtain ⟨a, vs, rfl, q1, q2⟩ := tupv_ok st rr e
        exact ⟨a, vs, rfl, by rw [fit.eK]; exact q1, by rw [q2.len]; exact hn, γ, S, F, G, env, l, st, er, q2, po⟩
      · exact po.elim
    · exact po.elim
/-- a, b = xs, a list -/
def bLst (n : Nat) (bs : Bds) : Bd := fun r env S => match lstv S r with
  | some l => if l.length = n then bs l env S else .stuck
  | none => .stuck
theorem sg_lst {es : List Expr} {k n : Nat} {bs : Bds} {ts : List Nat} (hc : Γ.calm = true) (h : SGs Γ es bs ts) (h1 : ∀ env : PySem.Env, (assignEach es env).length = n := by intro _; rfl)
    (h2 : ∀ env : PySem.Env, List.findIdx? (fun x => x.1) (assignEach es env) = none := by intro _; rfl) : SG Γ (.Tuple es k pos) (bLst n bs) ts := fun X W fit =>
  PG.imp (pg_lst (by rw [fit.ec]; exact hc) (h X W fit) (h1 X.env) (h2 X.env)) fun v σ H Q ⟨γ, S, F, G, env, r, st, er, rr, po⟩ => by
    unfold bLst at po
    split at po
    · rename_i l e
      split at po
      · rename_i hn
        obtain ⟨a, vs, rfl, q1, q2⟩ := lstv_ok st rr e
        exact ⟨a, vs, rfl, by rw [fit.eK]; exact q1, by rw [q2.len]; exact hn, γ, S, F, G, env, l, st, er, q2, po⟩
      · exact po.elim
    · exact po.elim
/-- x = e, e a value or nested target -/
def mAsg (m : ME) (b : Bd) : MS := fun env S => eS (m env S) env fun r S1 => match b r env S1 with
  | .ok e S2 => .nx e S2
  | _ => .stuck
theorem asg_read {W : WX} {m : ME} {b : Bd} {ts : List Nat} : ∀ D σ H, rdS Γ W (mAsg m b) D σ H → tAsg (rdE Γ W m) (rdG Γ b ts) D σ H := fun D σ H ⟨γ, S, F, G, env, st, er, po⟩ =>
  ⟨γ, S, F, G, env, st, er, Post.imp (SPost.of_eS (R := RelV' Γ) po er) fun v H1 ⟨γ1, S1, F1, x, e1, n1, r1, po1⟩ => ⟨γ1, S1, F1, G, env, x, n1.st, er.mono n1.pre n1.ex, r1, by
    generalize b x env S1 = q at po1 ⊢
    cases q with
    | ok e S2 => exact fun γ' F' H' σ' n ek _ => po1 γ' F' H' σ' n ek
    | exc c fs S2 => exact po1
    | stuck => exact po1⟩⟩
theorem ss_asg {tg e : Expr} {m : ME} {b : Bd} {ts : List Nat} (he : SE Γ e m) (hg : SG Γ tg b ts) (hs : ∀ env : PySem.Env, swapsWithSole [tg] e pos.line env = pure false := by intro _; rfl) (hw : ∀ env : PySem.Env, swappedStores [tg] e env = pure none := by intro _; rfl)
    (ha : ∀ env : PySem.Env, (assignEach [tg] env).map (·.2) = [assign tg env] := by intro _; rfl) : SS Γ (.Assign [tg] e pos) (mAsg m b) := fun X W fit =>
  PS.imp (ps_asg (he X W fit) (hg X W fit) (hs X.env) (hw X.env) (ha X.env)) asg_read
theorem ss_set {i : Nat} {x : Str} {e : Expr} {m : ME} {p : Pos} (he : SE Γ e m) (hN : Γ.N[i]? = some x := by rfl) (hx : Loc Γ.sc x := by first | exact Or.inl rfl | exact Or.inr rfl) (hf : Γ.top = true ∨ Γ.sc.names.lookup x = some .local := by first | exact Or.inl rfl | exact Or.inr rfl)
    (hs : ∀ env : PySem.Env, env.scope = Γ.sc → swapsWith e (some (.Name x p)) pos.line env = pure false := by intro env h; first | rfl | (unfold swapsWith PySem.Env.kindOf PySem.Env.blockKind; rw [h]; rfl)) (hxi : ∀ x, Γ.xc = some x → x.i ≠ i := by first | (intro x h; cases h; done) | (intro x h; cases h; decide)) : SS Γ (.Assign [.Name x p] e pos) (mAsg m (bName i)) := fun X W fit =>
  PS.imp (ps_set (i := i) (by rw [fit.eN]; exact fit.nd) (by rw [fit.eN]; exact hN) (by rw [fit.es]; exact hx) (he X W fit) (hs X.env fit.es) (fn_ok fit hf)) fun D σ H ⟨γ, S, F, G, env, st, er, po⟩ =>
    ⟨γ, S, F, G, env, st, er, Post.imp (SPost.of_eS (R := RelV' Γ) po er) fun v H1 ⟨γ1, S1, F1, x, e1, n1, r1, po1⟩ => po1 γ1 F1 H1 _ (Nx.refl n1.st) ((er.mono n1.pre n1.ex).set i r1 hxi)⟩
/-- a, b = e1, e2 -/
def mPar (i j : Nat) (ms : MA) : MS := fun env S => eS (ms env S) env fun l S1 => match l with
  | [x, y] => .nx ((env.set i (some x)).set j (some y)) S1
  | _ => .stuck
theorem ss_par {i j : Nat} {x y : Str} {a b : Expr} {ms : MA} {px py pt : Pos} {kt k2 : Nat} {pt2 : Pos} (hc : Γ.calm = true) (ha : SA Γ [a, b] ms) (hi : Γ.N[i]? = some x := by rfl) (hj : Γ.N[j]? = some y := by rfl) (hij : i ≠ j := by decide) (hx0 : Γ.xc = none := by rfl)
    (hx : Γ.sc.names.lookup x = some .local := by rfl) (hy : Γ.sc.names.lookup y = some .local := by rfl)
    (hw : ∀ env : PySem.Env, env.scope = Γ.sc → swappedStores [.Tuple [.Name x px, .Name y py] kt pt] (.Tuple [a, b] k2 pt2) env = pure (some [x, y])) (hs : ∀ env : PySem.Env, swapsWithSole [.Tuple [.Name x px, .Name y py] kt pt] (.Tuple [a, b] k2 pt2) pos.line env = pure false := by intro _; rfl) :
    SS Γ (.Assign [.Tuple [.Name x px, .Name y py] kt pt] (.Tuple [a, b] k2 pt2) pos) (mPar i j ms) := fun X W fit =>
  PS.imp (ps_par (i := i) (j := j) (by rw [fit.ec]; exact hc) (by rw [fit.eN]; exact fit.nd) (by rw [fit.eN]; exact hi) (by rw [fit.eN]; exact hj) hij (by rw [fit.es]; exact hx) (by rw [fit.es]; exact hy) (ha X W fit) (hw X.env fit.es) (hs X.env)) fun D σ H ⟨γ, S, F, G, env, st, er, po⟩ =>
    ⟨γ, S, F, G, env, st, er, Post.imp (SPost.of_eS (R := RelVs' Γ) po er) fun vs H1 ⟨γ1, S1, F1, l, e1, n1, r1, po1⟩ => by
      split at po1
      · cases r1 with
        | cons q1 t => cases t with
          | cons q2 t => cases t; exact ⟨_, _, rfl, po1 γ1 F1 H1 _ (Nx.refl n1.st) (((er.mono n1.pre n1.ex).set i q1 (fun x h => by rw [hx0] at h; cases h)).set j q2 (fun x h => by rw [hx0] at h; cases h))⟩
      · exact po1.elim⟩
/-- o[i] = e, o a list cell -/
def fSetL (o i r : RV) (S : Store) : Option Store := match o, i with
  | .loc n, .p (.int k) => match S[n]? with
    | some (.lst l) => match ixN l.length k with
      | some j => some (S.set n (.lst (l.set j r)))
      | none => none
    | _ => none
  | _, _ => none
def bSub (mo mi : ME) : Bd := fun r env S => (mo env S).bind fun o S1 => (mi env S1).bind fun i S2 => match fSetL o i r S2 with
  | some S3 => .ok env S3
  | none => .stuck
theorem gpost_bind {α β : Type} {γ : List Addr} {F G : Hp} {σ : St} {ts : List Nat} {Q : St → Hp → Prop} {r : Res α} {f : α → Store → Res Env} {R : List Addr → Hp → α → β → Prop} {E : Value → Option Addr → Hp → Prop} (h : GPost Γ γ F G σ ts Q (r.bind f)) :
    Post Γ.g Γ.xc γ F G R (fun v H' => ∃ γ' S' F' x, r = .ok x S' ∧ Nx Γ.g Γ.xc γ F G γ' S' F' H' ∧ R γ' F' x v ∧ GPost Γ γ' F' G σ ts Q (f x S')) E r := by
  cases r with
  | ok x S' => exact fun γ' F' H' v n q => ⟨γ', S', F', x, rfl, n, q, by
      have h : GPost Γ γ F G σ ts Q (f x S') := h
      generalize f x S' = z at h ⊢
      cases z with
      | ok e S2 => exact fun γ2 F2 H2 σ2 n2 => h γ2 F2 H2 σ2 (n.trans n2)
      | exc c fs S2 => exact h
      | stuck => exact h⟩
  | exc c fs S' => exact h.elim
  | stuck => exact h
theorem sg_sub {o i : Expr} {mo mi : ME} (ho : SE Γ o mo) (hi : SE Γ i mi)
    (ha : ∀ (env : PySem.Env) (v : Value), assign (.Subscript o i pos) env v = (do
      let ov ← holding [v] (eval o env)
      let iv ← holding [v, ov] (eval i env)
      standAt pos
      holding [v, ov, iv] (setItem ov iv v)
      release [v, ov, iv] []) := by intro _ _; rfl) : SG Γ (.Subscript o i pos) (bSub mo mi) [] := fun X W fit =>
  PG.imp (pg_sub (ho X W fit) (hi X W fit) set_list (ha X.env)) fun v σ H Q ⟨γ, S, F, G, env, r, st, er, rr, po⟩ =>
    ⟨γ, S, F, G, env, st, er, Post.imp (gpost_bind (R := RelV' Γ) po) fun ov H1 ⟨γ1, S1, F1, o', e1, n1, r1, po1⟩ =>
      ⟨γ1, S1, F1, G, env, n1.st, er.mono n1.pre n1.ex, Post.imp (gpost_bind (R := RelV' Γ) po1) fun iv H2 ⟨γ2, S2, F2, i', e2, n2, r2, po2⟩ => by
        split at po2
        · rename_i S3 hS
          unfold fSetL at hS
          split at hS
          · rename_i n k kk
            split at hS
            · rename_i l hl
              split at hS
              · rename_i j hj
                cases hS
                cases r2
                obtain ⟨a, h1, rfl⟩ := r1.mono n2.pre n2.ex
                obtain ⟨vs, h2, h3⟩ := n2.st.cell n _ a hl h1
                have rr2 := (rr.mono n1.pre n1.ex).mono n2.pre n2.ex
                refine ⟨a, vs, k, j, rfl, rfl, h2, by rw [h3.len]; exact hj, ?_⟩
                have nn := n2.st.wr (o := .lst (vs.set j v)) (c := .lst (l.set j r)) hl (by simp) h1 ⟨_, upd_same, h3.st rr2⟩
                exact po2 γ2 F2 _ σ nn ((er.mono n1.pre n1.ex).mono n2.pre n2.ex) Turns.refl
              · cases hS
            · cases hS
          · cases hS
        · exact po2.elim⟩⟩
end
end Z


set_option Elab.async false
set_option linter.all false
set_option autoImplicit false
set_option maxRecDepth 100000
set_option maxHeartbeats 4000000
/-! Zloop: what is walked; for; comprehensions. -/
namespace Z
open PySem L2

inductive Item where
  | one (r : RV)
  | tup (l : List RV)
/-- the item as a value (a pair is laid anew) -/
def mkI (it : Item) (S : Store) : RV × Store := match it with
  | .one r => (r, S)
  | .tup l => match allP l with
    | some ds => (.p (.tuple ds), S)
    | none => (.loc S.length, S ++ [.tup l])
/-- the machine's iterator walks these items, as long as the guard says that what it walks stands -/
def IterOK (Γ : Cxt) (J : It) (γ : List Addr) (F : Hp) (items : List Item) (gd : Store → Bool) : Prop :=
  ∀ i γ' S' F' G' H', γ <+: γ' → Ex F F' → StR Γ.g Γ.xc γ' S' F' G' H' → gd S' = true →
    (∀ it, items[i]? = some it → J.go i H' ∧ ∀ x H2, J.yld i H' x H2 → match it with
      | .one r => H2 = H' ∧ RVr Γ.g Γ.xc γ F r x
      | .tup l => ∃ T vs, x = .ref T ∧ H' T = none ∧ H2 = upd H' T (.tup vs) ∧ RVs Γ.g Γ.xc γ F l vs) ∧
    (items.length ≤ i → J.stop i H')
abbrev MI := Env → Store → Res (List Item × (Store → Bool))
section
variable (Γ : Cxt) (W : WX)
def rdI (m : MI) : TI := fun σ H R => ∃ γ S F G env, StR Γ.g Γ.xc γ S F G H ∧ EnvK Γ.g Γ.xc γ F env σ ∧ Post Γ.g Γ.xc γ F G (fun γ' F' a (J : It) => IterOK Γ J γ' F' a.1 a.2) (fun J H' => R J H') (Wσ W σ) (m env S)
end
def SI (Γ : Cxt) (tg iter : Expr) (m : MI) : Prop := ∀ X W, Fit Γ X W → PI X tg iter (rdI Γ W m)
theorem PI.imp {X : Cx} {tg it : Expr} {t t' : TI} (h : PI X tg it t) (k : ∀ σ H Q, t' σ H Q → t σ H Q) : PI X tg it t' := ⟨fun pins s σ H Q I q => h.run pins s σ H Q I (k σ H Q q)⟩

section
variable {Γ : Cxt} {pos : Pos} {tg e : Expr} {m : ME}
/-- data, or the script: they stand -/
def frozen : RV → Bool
  | .p _ => true
  | .scr _ => true
  | _ => false
def iLst (m : ME) : MI := fun env S => (m env S).bind fun x S1 => if frozen x = true then match lstv S1 x with
    | some l => .ok (l.map .one, fun _ => true) S1
    | none => .stuck
  else .stuck
theorem lst_frozen {g : Gd} {xc : XC} {γ : List Addr} {F : Hp} {S : Store} {r : RV} {v : V} {l : List RV} (hf : frozen r = true) (q : RVr g xc γ F r v) (e : lstv S r = some l) : ∃ a vs, v = .ref a ∧ SqL g.K F a vs ∧ RVs g xc γ F l vs := by
  unfold lstv at e
  split at e
  · cases e; cases q with | lst h1 h2 => exact ⟨_, _, rfl, SqL.of h1, map_p_ok h2⟩
  · cases hf
  · cases e; obtain ⟨a, rfl, h2⟩ := q; exact ⟨a, _, rfl, h2, ints_ok⟩
  · cases e
theorem tup_frozen {g : Gd} {xc : XC} {γ : List Addr} {F : Hp} {S : Store} {r : RV} {v : V} {l : List RV} (hf : frozen r = true) (q : RVr g xc γ F r v) (e : tupv S r = some l) : ∃ a vs, v = .ref a ∧ SqT g.K F a vs ∧ RVs g xc γ F l vs := by
  unfold tupv at e
  split at e
  · cases e; cases q with | tup h1 h2 => exact ⟨_, _, rfl, h1, map_p_ok h2⟩
  · cases hf
  · cases e
theorem get_one {l : List RV} {i : Nat} {it : Item} (h : (l.map Item.one)[i]? = some it) : ∃ r, it = .one r ∧ l[i]? = some r := by
  rw [List.getElem?_map] at h
  cases e : l[i]? with
  | none => rw [e] at h; cases h
  | some r => rw [e] at h; cases h; exact ⟨r, rfl, rfl⟩
theorem si_lst (h : SE Γ e m) : SI Γ tg e (iLst m) := fun X W fit => PI.imp (pi_list (h X W fit)) fun σ H Q ⟨γ, S, F, G, env, st, er, po⟩ =>
  ⟨γ, S, F, G, env, st, er, Post.imp (Post.of_bind (R := RelV' Γ) po) fun v H1 ⟨γ1, S1, F1, x, e1, n1, r1, po1⟩ => by
    split at po1
    · rename_i hf
      split at po1
      · rename_i l hl
        obtain ⟨a, vs, rfl, h1, h2⟩ := lst_frozen hf r1 hl
        refine ⟨a, rfl, ⟨vs, n1.st.fr.sl (by rw [fit.eK]; exact h1)⟩, po1 γ1 F1 H1 (Itl X.K a) (Nx.refl n1.st) ?_⟩
        intro i γ' S' F' G' H' pre ex st' _
        have hs : SqL X.K H' a vs := by rw [fit.eK]; exact st'.fr.sl (ex.sl h1)
        refine ⟨fun it hi => ?_, fun hi => ⟨vs, hs, by rw [h2.len]; simpa using hi⟩⟩
        obtain ⟨r, rfl, hr⟩ := get_one hi
        obtain ⟨w, q1, q2⟩ := h2.at hr
        refine ⟨⟨vs, w, hs, q1⟩, fun x H2 ⟨y1, y2⟩ => ⟨y1, ?_⟩⟩
        have := y2 vs hs
        rw [q1] at this; cases this; exact q2
      · exact po1.elim
    · exact po1.elim⟩
def iTupl (m : ME) : MI := fun env S => (m env S).bind fun x S1 => if frozen x = true then match tupv S1 x with
    | some l => .ok (l.map .one, fun _ => true) S1
    | none => .stuck
  else .stuck
theorem si_tup (h : SE Γ e m) : SI Γ tg e (iTupl m) := fun X W fit => PI.imp (pi_tup (h X W fit)) fun σ H Q ⟨γ, S, F, G, env, st, er, po⟩ =>
  ⟨γ, S, F, G, env, st, er, Post.imp (Post.of_bind (R := RelV' Γ) po) fun v H1 ⟨γ1, S1, F1, x, e1, n1, r1, po1⟩ => by
    split at po1
    · rename_i hf
      split at po1
      · rename_i l hl
        obtain ⟨a, vs, rfl, h1, h2⟩ := tup_frozen hf r1 hl
        refine ⟨a, rfl, ⟨vs, n1.st.fr.st (by rw [fit.eK]; exact h1)⟩, po1 γ1 F1 H1 (Itt X.K a) (Nx.refl n1.st) ?_⟩
        intro i γ' S' F' G' H' pre ex st' _
        have hs : SqT X.K H' a vs := by rw [fit.eK]; exact st'.fr.st (ex.st h1)
        refine ⟨fun it hi => ?_, fun hi => ⟨vs, hs, by rw [h2.len]; simpa using hi⟩⟩
        obtain ⟨r, rfl, hr⟩ := get_one hi
        obtain ⟨w, q1, q2⟩ := h2.at hr
        refine ⟨⟨vs, w, hs, q1⟩, fun x H2 ⟨y1, y2⟩ => ⟨y1, ?_⟩⟩
        have := y2 vs hs
        rw [q1] at this; cases this; exact q2
      · exact po1.elim
    · exact po1.elim⟩
/-- the signs of a text -/
def signs (z : Str) : List RV := z.cps.toList.map fun c => .p (.str ⟨#[c]⟩)
def iStrs (m : ME) : MI := fun env S => (m env S).bind fun x S1 => match x with
  | .p (.str z) => .ok ((signs z).map .one, fun _ => true) S1
  | _ => .stuck
theorem si_str (h : SE Γ e m) : SI Γ tg e (iStrs m) := fun X W fit => PI.imp (pi_str (h X W fit)) fun σ H Q ⟨γ, S, F, G, env, st, er, po⟩ =>
  ⟨γ, S, F, G, env, st, er, Post.imp (Post.of_bind (R := RelV' Γ) po) fun v H1 ⟨γ1, S1, F1, x, e1, n1, r1, po1⟩ => by
    split at po1
    · rename_i z
      cases r1
      refine ⟨z, rfl, po1 γ1 F1 H1 (Its z) (Nx.refl n1.st) ?_⟩
      intro i γ' S' F' G' H' pre ex st' _
      refine ⟨fun it hi => ?_, fun hi => ?_⟩
      · obtain ⟨r, rfl, hr⟩ := get_one hi
        unfold signs at hr
        rw [List.getElem?_map, Array.getElem?_toList] at hr
        cases q : z.cps[i]? with
        | none => rw [q] at hr; cases hr
        | some c =>
          rw [q] at hr; cases hr
          refine ⟨?_, fun x H2 y => ?_⟩
          · have := (Array.getElem?_eq_some_iff.mp q).1; exact this
          · obtain ⟨y1, c', y2, y3⟩ := y
            rw [q] at y2; cases y2
            exact ⟨y1, by rw [y3]; exact .str _⟩
      · have : (signs z).length ≤ i := by simpa using hi
        unfold signs at this
        have : z.cps.size ≤ i := by simpa using this
        exact this
    · exact po1.elim⟩
/-- range(n), range(a, b) -/
def rng (lo : Int) (n : Nat) : List Item := (List.range n).map fun (i : Nat) => .one (.p (.int (lo + (i : Int))))
theorem rng_ok {lo : Int} {n : Nat} {γ : List Addr} {F : Hp} : IterOK Γ (Itr lo n) γ F (rng lo n) fun _ => true := by
  intro i γ' S' F' G' H' pre ex st' _
  refine ⟨fun it hi => ?_, fun hi => ?_⟩
  · unfold rng at hi
    rw [List.getElem?_map] at hi
    cases q : (List.range n)[i]? with
    | none => rw [q] at hi; cases hi
    | some j =>
      rw [q] at hi; cases hi
      have hl := (List.getElem?_eq_some_iff.mp q)
      obtain ⟨h1, h2⟩ := hl
      simp at h1 h2; subst h2
      exact ⟨h1, fun x H2 y => ⟨y.1, by rw [y.2]; exact .int _⟩⟩
  · have : n ≤ i := by simpa [rng] using hi
    exact this
def iRange1 (ms : MA) : MI := fun env S => (ms env S).bind fun l S1 => match l with
  | [.p (.int j)] => if -(2 ^ 62) ≤ j ∧ j < 2 ^ 62 then .ok (rng 0 j.toNat, fun _ => true) S1 else .stuck
  | _ => .stuck
def iRange2 (ms : MA) : MI := fun env S => (ms env S).bind fun l S1 => match l with
  | [.p (.int i), .p (.int j)] => if (-(2 ^ 62) ≤ i ∧ i < 2 ^ 62) ∧ (-(2 ^ 62) ≤ j ∧ j < 2 ^ 62) then .ok (rng i (j - i).toNat, fun _ => true) S1 else .stuck
  | _ => .stuck
theorem gl_of {X : Cx} {W : WX} (fit : Fit Γ X W) {x : Str} (h : Γ.sc.names.lookup x = some .globalImplicit) : Gl X x := by
  show X.env.kindOf x = _
  unfold PySem.Env.kindOf; rw [fit.es]; exact h
theorem si_range1 {p : Pos} {ms : MA} (hg : Γ.sc.names.lookup ("range" : Str) = some .globalImplicit) (hm : Γ.g.mg "range" = none) (ha : SA Γ [e] ms) (hs : ∀ env : PySem.Env, starEach [e] env = [(false, eval e env)] := by intro _; rfl) :
    SI Γ tg (.Call (.Name "range" p) [e] [] pos) (iRange1 ms) := fun X W fit => PI.imp (pi_range1 (gl_of fit hg) (by rw [fit.em]; exact hm) (ha X W fit) (hs X.env)) fun σ H Q ⟨γ, S, F, G, env, st, er, po⟩ =>
  ⟨γ, S, F, G, env, st, er, Post.imp (Post.of_bind (R := RelVs' Γ) po) fun v H1 ⟨γ1, S1, F1, x, e1, n1, r1, po1⟩ => by
    split at po1
    · rename_i j
      cases r1 with | cons r t => cases t; cases r
                                  split at po1
                                  · rename_i hj; exact ⟨j, rfl, hj.1, hj.2, po1 γ1 F1 H1 (Itr 0 j.toNat) (Nx.refl n1.st) rng_ok⟩
                                  · exact po1.elim
    · exact po1.elim⟩
theorem si_range2 {p : Pos} {e2 : Expr} {ms : MA} (hg : Γ.sc.names.lookup ("range" : Str) = some .globalImplicit) (hm : Γ.g.mg "range" = none) (ha : SA Γ [e, e2] ms) (hs : ∀ env : PySem.Env, starEach [e, e2] env = [(false, eval e env), (false, eval e2 env)] := by intro _; rfl) (hs2 : ∀ env : PySem.Env, starEach [e2] env = [(false, eval e2 env)] := by intro _; rfl) :
    SI Γ tg (.Call (.Name "range" p) [e, e2] [] pos) (iRange2 ms) := fun X W fit => PI.imp (pi_range2 (gl_of fit hg) (by rw [fit.em]; exact hm) (ha X W fit) (hs X.env) (hs2 X.env)) fun σ H Q ⟨γ, S, F, G, env, st, er, po⟩ =>
  ⟨γ, S, F, G, env, st, er, Post.imp (Post.of_bind (R := RelVs' Γ) po) fun v H1 ⟨γ1, S1, F1, x, e1, n1, r1, po1⟩ => by
    split at po1
    · rename_i i j
      cases r1 with | cons r t => cases t with | cons r' t => cases t; cases r; cases r'
                                                              split at po1
                                                              · rename_i hj; exact ⟨i, j, rfl, ⟨hj.1.1, hj.1.2, hj.2.1, hj.2.2⟩, po1 γ1 F1 H1 (Itr i (j - i).toNat) (Nx.refl n1.st) rng_ok⟩
                                                              · exact po1.elim
    · exact po1.elim⟩
/-- enumerate(xs) -/
def enumI (l : List RV) : List Item := l.mapIdx fun i r => .tup [.p (.int (i : Nat)), r]
theorem get_enum {l : List RV} {i : Nat} {it : Item} (h : (enumI l)[i]? = some it) : ∃ r, it = .tup [.p (.int (i : Nat)), r] ∧ l[i]? = some r := by
  unfold enumI at h
  rw [List.getElem?_mapIdx] at h
  cases e : l[i]? with
  | none => rw [e] at h; cases h
  | some r => rw [e] at h; cases h; exact ⟨r, rfl, rfl⟩
def iEnu (ms : MA) : MI := fun env S => (ms env S).bind fun l S1 => match l with
  | [x] => if frozen x = true then match lstv S1 x with
    | some l => .ok (enumI l, fun _ => true) S1
    | none => .stuck
    else .stuck
  | _ => .stuck
theorem si_enum {p tpos : Pos} {elts : List Expr} {kk : Nat} {ms : MA} (hg : Γ.sc.names.lookup ("enumerate" : Str) = some .globalImplicit) (hm : Γ.g.mg "enumerate" = none) (ha : SA Γ [e] ms) (hs : ∀ env : PySem.Env, starEach [e] env = [(false, eval e env)] := by intro _; rfl) :
    SI Γ (.Tuple elts kk tpos) (.Call (.Name "enumerate" p) [e] [] pos) (iEnu ms) := fun X W fit => PI.imp (pi_enum (gl_of fit hg) (by rw [fit.em]; exact hm) (ha X W fit) (hs X.env)) fun σ H Q ⟨γ, S, F, G, env, st, er, po⟩ =>
  ⟨γ, S, F, G, env, st, er, Post.imp (Post.of_bind (R := RelVs' Γ) po) fun v H1 ⟨γ1, S1, F1, x, e1, n1, r1, po1⟩ => by
    split at po1
    · rename_i x
      cases r1 with
      | cons r t =>
        cases t
        split at po1
        · rename_i hf
          split at po1
          · rename_i l hl
            obtain ⟨a, vs, rfl, h1, h2⟩ := lst_frozen hf r hl
            refine ⟨a, vs, rfl, n1.st.fr.sl (by rw [fit.eK]; exact h1), po1 γ1 F1 H1 (Ite X.K a) (Nx.refl n1.st) ?_⟩
            intro i γ' S' F' G' H' pre ex st' _
            have hs : SqL X.K H' a vs := by rw [fit.eK]; exact st'.fr.sl (ex.sl h1)
            refine ⟨fun it hi => ?_, fun hi => ⟨vs, hs, by rw [h2.len]; simpa [enumI] using hi⟩⟩
            obtain ⟨r, rfl, hr⟩ := get_enum hi
            obtain ⟨w, q1, q2⟩ := h2.at hr
            refine ⟨⟨vs, w, hs, q1⟩, fun x H2 ⟨T, z, y1, y2, y3, y4⟩ => ⟨T, _, y1, y2, y3, ?_⟩⟩
            have := y4 vs hs
            rw [q1] at this; cases this
            exact .cons (.int _) (.cons q2 .nil)
          · exact po1.elim
        · exact po1.elim
    · exact po1.elim⟩

theorem item_ok {γ : List Addr} {S : Store} {F G H H2 : Hp} {γ0 : List Addr} {F0 : Hp} {it : Item} {x : V} (st : StR Γ.g Γ.xc γ S F G H) (pre : γ0 <+: γ) (ex : Ex F0 F)
    (h : match it with
      | .one r => H2 = H ∧ RVr Γ.g Γ.xc γ0 F0 r x
      | .tup l => ∃ T vs, x = .ref T ∧ H T = none ∧ H2 = upd H T (.tup vs) ∧ RVs Γ.g Γ.xc γ0 F0 l vs) :
    ∃ γ2 F2, Nx Γ.g Γ.xc γ F G γ2 (mkI it S).2 F2 H2 ∧ RVr Γ.g Γ.xc γ2 F2 (mkI it S).1 x := by
  cases it with
  | one r => obtain ⟨rfl, q⟩ := h; exact ⟨γ, F, Nx.refl st, q.mono pre ex⟩
  | tup l =>
    obtain ⟨T, vs, rfl, hT, rfl, q⟩ := h
    have q := RVs.mono pre ex q
    cases e : allP l with
    | some ds =>
      have n := st.newF (o := .tup vs) hT
      have em : mkI (.tup l) S = (.p (.tuple ds), S) := by simp only [mkI, e]
      rw [em]
      exact ⟨γ, _, n, Rp.tup (SqT.of upd_same) (Rps.mono n.ex (allP_ok q e))⟩
    | none =>
      have n := st.newC (c := .tup l) hT (o := .tup vs) ⟨vs, upd_same, RVs.mono (List.prefix_append _ _) (Ex.refl _) q⟩
      have em : mkI (.tup l) S = (.loc S.length, S ++ [.tup l]) := by simp only [mkI, e]
      rw [em]
      exact ⟨_, _, n, ⟨T, by rw [← st.len]; simp, rfl⟩⟩

/-! ### for -/
def runFor (b : Bd) (body : MS) (gd : Store → Bool) : List Item → Env → Store → SRes
  | [], env, S => if gd S = true then .nx env S else .stuck
  | it :: its, env, S => if gd S = true then
      match b (mkI it S).1 env (mkI it S).2 with
      | .ok e1 S1 => match body e1 S1 with
        | .nx e S2 => runFor b body gd its e S2
        | .ct e S2 => runFor b body gd its e S2
        | .bk e S2 => .nx e S2
        | .rt r S2 => .rt r S2
        | .exc c fs e S2 => .exc c fs e S2
        | .stuck => .stuck
      | _ => .stuck
    else .stuck
def mFor (mi : MI) (b : Bd) (body : MS) : MS := fun env S => eS (mi env S) env fun a S1 => runFor b body a.2 a.1 env S1
theorem drop_get {α : Type} {l : List α} {i : Nat} {x : α} {r : List α} (h : l.drop i = x :: r) : l[i]? = some x ∧ l.drop (i + 1) = r := by
  have h1 : (l.drop i)[0]? = some x := by rw [h]; rfl
  rw [List.getElem?_drop] at h1
  refine ⟨by simpa using h1, ?_⟩
  have : (l.drop i).drop 1 = r := by rw [h]; rfl
  rw [List.drop_drop] at this
  exact this
theorem ss_for {iter : Expr} {body : List Stmt} {mi : MI} {b : Bd} {ts : List Nat} {mb : MS} (hc : Γ.calm = true) (hi : SI Γ tg iter mi) (hg : SG Γ tg b ts) (hb : SSs Γ body mb) (hf : ∀ (env : PySem.Env) x, foldedSetIterable iter env x = pure x := by intro _ _; rfl) :
    SS Γ (.For tg iter body [] pos) (mFor mi b mb) := fun X W fit => PS.imp (ps_for fit.ow (by rw [fit.ec]; exact hc) (hi X W fit) (hg X W fit) (hb X W fit) (hf X.env)) fun D σ H ⟨γ, S, F, G, env, st, er, po⟩ =>
  ⟨γ, S, F, G, env, st, er, Post.imp (SPost.of_eS (R := fun γ' F' a (J : It) => IterOK Γ J γ' F' a.1 a.2) po er) fun J H1 ⟨γ1, S1, F1, a, e1, n1, r1, po1⟩ => by
    obtain ⟨items, gd⟩ := a
    dsimp only at r1 po1
    refine ⟨fun i m σ' H' => m = items.length - i ∧ ∃ γ' S' F' env', γ1 <+: γ' ∧ Ex F1 F' ∧ StR Γ.g Γ.xc γ' S' F' G H' ∧ EnvK Γ.g Γ.xc γ' F' env' σ' ∧ SPost Γ W γ' F' G D (runFor b mb gd (items.drop i) env' S'),
      ⟨_, rfl, γ1, S1, F1, env, List.prefix_refl _, Ex.refl _, n1.st, er.mono n1.pre n1.ex, po1⟩, ?_⟩
    rintro i m σ' H' ⟨rfl, γ', S', F', env', pre, ex, st', er', po'⟩
    cases hd : items.drop i with
    | nil =>
      rw [hd] at po'
      unfold runFor at po'
      by_cases hgd : gd S' = true
      · rw [if_pos hgd] at po'
        exact .inl ⟨(r1 i γ' S' F' G H' pre ex st' hgd).2 (List.drop_eq_nil_iff.mp hd), po' γ' F' H' σ' (Nx.refl st') er'⟩
      · rw [if_neg hgd] at po'; exact po'.elim
    | cons it its =>
      rw [hd] at po'
      unfold runFor at po'
      by_cases hgd : gd S' = true
      · rw [if_pos hgd] at po'
        obtain ⟨hit, hnext⟩ := drop_get hd
        have hlt : i < items.length := (List.getElem?_eq_some_iff.mp hit).1
        obtain ⟨hgo, hy⟩ := (r1 i γ' S' F' G H' pre ex st' hgd).1 it hit
        refine .inr ⟨hgo, fun σ2 H2 => ∃ γ2 S2 F2 env2, γ1 <+: γ2 ∧ Ex F1 F2 ∧ StR Γ.g Γ.xc γ2 S2 F2 G H2 ∧ EnvK Γ.g Γ.xc γ2 F2 env2 σ2 ∧ SPost Γ W γ2 F2 G D (runFor b mb gd its env2 S2), ?_, ?_⟩
        · rintro σ2 H2 ⟨γ2, S2, F2, env2, p2, x2, st2, er2, po2⟩
          exact ⟨_, by omega, rfl, γ2, S2, F2, env2, p2, x2, st2, er2, by rw [hnext]; exact po2⟩
        · intro x H2 y
          obtain ⟨γ2, F2, n2, r2⟩ := item_ok st' pre ex (hy x H2 y)
          refine ⟨γ2, (mkI it S').2, F2, G, env', _, n2.st, er'.mono n2.pre n2.ex, r2, ?_⟩
          generalize b (mkI it S').1 env' (mkI it S').2 = q at po' ⊢
          cases q with
          | ok e2 S3 =>
            intro γ3 F3 H3 σ3 n3 ek3 _
            refine ⟨γ3, S3, F3, G, e2, n3.st, ek3, ?_⟩
            dsimp only at po'
            generalize mb e2 S3 = q2 at po' ⊢
            have n23 := n2.trans n3
            cases q2 with
            | nx e4 S4 => exact fun γ4 F4 H4 σ4 n4 ek4 => ⟨γ4, S4, F4, e4, pre.trans (n23.pre.trans n4.pre), ex.trans (n23.ex.trans n4.ex), n4.st, ek4, SPost.later po' (n23.trans n4)⟩
            | ct e4 S4 => exact fun γ4 F4 H4 σ4 n4 ek4 => ⟨γ4, S4, F4, e4, pre.trans (n23.pre.trans n4.pre), ex.trans (n23.ex.trans n4.ex), n4.st, ek4, SPost.later po' (n23.trans n4)⟩
            | bk e4 S4 => exact fun γ4 F4 H4 σ4 n4 ek4 => po' γ4 F4 H4 σ4 (n23.trans n4) ek4
            | rt r S4 => exact fun γ4 F4 H4 v n4 ek4 => po' γ4 F4 H4 v (n23.trans n4) ek4
            | exc c fs e4 S4 => exact fun γ4 F4 H4 σ4 d n4 ek4 => po' γ4 F4 H4 σ4 d (n23.trans n4) ek4
            | stuck => exact po'
          | exc c fs S3 => exact po'.elim
          | stuck => exact po'.elim
      · rw [if_neg hgd] at po'; exact po'.elim⟩
end

/-! ### [e for x in xs if t] -/
abbrev W0 : WX := fun _ _ _ _ => False
abbrev Cxt.blk (Γ : Cxt) (scope : Scope) : Cxt := { Γ with sc := relS scope Γ.sc, top := false }
theorem Fit.blk {Γ : Cxt} {X : Cx} {W : WX} (fit : Fit Γ X W) (scope : Scope) (s : Shared) (H : Hp) (C : Addr) (cl : List (Str × Addr)) (fp : List Addr) : Fit (Γ.blk scope) (X.blk s H scope (compEnvC scope cl C X.env) fp) W0 where
  eP := fit.eP
  ew := fit.ew
  eK := fit.eK
  em := fit.em
  eb := fit.eb
  eN := fit.eN
  nd := fit.nd
  es := by show relS scope X.env.scope = _; rw [fit.es]
  ec := fit.ec
  rm := fit.rm
  un := fit.un
  gu := fit.gu
  tk := takes0
  tp := fun z => by cases z
  ow := PassesOwn.never
  sx := fun z => by cases z
def STs (Γ : Cxt) (ifs : List Expr) (m : MT) : Prop := ∀ X W, Fit Γ X W → PTs X ifs (rdT Γ W m)
def tYesM : MT := fun _ S => .ok true S
theorem PTs.imp {X : Cx} {es : List Expr} {t t' : TT} (h : PTs X es t) (k : ∀ σ H Q, t' σ H Q → t σ H Q) : PTs X es t' := ⟨fun pins s σ H Q I q => h.run pins s σ H Q I (k σ H Q q)⟩
theorem sts_nil {Γ : Cxt} : STs Γ [] tYesM := fun X W fit => PTs.imp pts_nil fun σ H Q ⟨γ, S, F, G, env, st, er, po⟩ => po γ F H true (Nx.refl st) rfl
theorem sts_one {Γ : Cxt} {c : Expr} {m : MT} (h : ST Γ c m) : STs Γ [c] m := fun X W fit => pts_one (h X W fit)
def wipeE (env : Env) : List Nat → Env
  | [] => env
  | v :: vs => (wipeE env vs).set v none
theorem EnvK.unset {g : Gd} {xc : XC} {γ : List Addr} {F : Hp} {env : Env} {σ : St} (er : EnvK g xc γ F env σ) (i : Nat) (hxc : xc = none) : EnvK g xc γ F (env.set i none) (σ.set i none) := by
  refine ⟨by simp [er.len], fun j r' hj => ?_, fun x hx => by rw [hxc] at hx; cases hx⟩
  by_cases e : i = j
  · subst e
    have hl : i < env.length := by
      have := (List.getElem?_eq_some_iff.mp hj).1
      simpa using this
    rw [List.getElem?_set_self hl] at hj
    cases hj
  · rw [List.getElem?_set_ne e] at hj
    obtain ⟨w, h1, h2⟩ := er.rel j r' hj
    exact ⟨w, by rw [List.getElem?_set_ne e]; exact h1, h2⟩
theorem EnvK.wipe {g : Gd} {xc : XC} {γ : List Addr} {F : Hp} {env : Env} {σ : St} (er : EnvK g xc γ F env σ) (hxc : xc = none) : ∀ vs : List Nat, EnvK g xc γ F (wipeE env vs) (L2.wipe σ vs)
  | [] => er
  | v :: vs => (er.wipe hxc vs).unset v hxc
def runLc (b : Bd) (tt : MT) (te : ME) (gd : Store → Bool) : List Item → Env → Store → List RV → Res (List RV)
  | [], env, S, acc => if gd S = true then .ok acc S else .stuck
  | it :: its, env, S, acc => if gd S = true then
      match b (mkI it S).1 env (mkI it S).2 with
      | .ok e1 S1 => match tt e1 S1 with
        | .ok true S2 => match te e1 S2 with
          | .ok y S3 => if acc.length < sizeLine then runLc b tt te gd its env S3 (acc ++ [y]) else .stuck
          | _ => .stuck
        | .ok false S2 => runLc b tt te gd its env S2 acc
        | _ => .stuck
      | _ => .stuck
    else .stuck
def mLc (fz : Bool) (mi : MI) (b : Bd) (tt : MT) (te : ME) (vs : List Nat) : ME := fun env S => (mi env S).bind fun a S1 => (runLc b tt te a.2 a.1 (wipeE env vs) S1 []).bind fun l S2 => mkL fz l S2

section
variable {g : Gd} {xc : XC} {γ : List Addr} {S : Store} {F G H : Hp} {D : Addr} {o o' : HO}
theorem StR.hide (st : StR g xc γ S F G H) (hD : H D = none) : StR g xc γ S F (upd G D o) (upd H D o) := by
  have st2 := st.newX (o := o) hD
  have hF : F D = none := by
    cases e : F D with
    | none => rfl
    | some u => rw [st.fr D u e] at hD; cases hD
  refine ⟨st2.fr, fun a u h => ?_, fun a h => ?_, fun a h => ?_, st.fl, st.len, st.nd, st2.cell⟩
  · by_cases e : a = D
    · subst e; rw [upd_same] at h ⊢; exact h
    · rw [upd_ne e] at h ⊢; exact st.gh a u h
  · have : a ≠ D := fun z => by subst z; exact h hF
    rw [upd_ne this]; exact st.fg a h
  · have : a ≠ D := fun z => by subst z; exact st.at_ne h hD
    rw [upd_ne this]; exact st.fc a h
theorem StR.rehide (st : StR g xc γ S F (upd G D o) H) : StR g xc γ S F (upd G D o') (upd H D o') := by
  have hF : F D = none := by
    cases e : F D with
    | none => rfl
    | some u => have := st.fg D (by rw [e]; simp); rw [upd_same] at this; cases this
  have hγ : D ∉ γ := fun z => by have := st.fc D z; rw [upd_same] at this; cases this
  refine ⟨fun a u h => ?_, fun a u h => ?_, fun a h => ?_, fun a h => ?_, st.fl, st.len, st.nd, fun n c a h1 h2 => ?_⟩
  · have : a ≠ D := fun z => by subst z; rw [hF] at h; cases h
    rw [upd_ne this]; exact st.fr a u h
  · by_cases e : a = D
    · subst e; rw [upd_same] at h ⊢; exact h
    · rw [upd_ne e] at h ⊢; exact st.gh a u (by rw [upd_ne e]; exact h)
  · have : a ≠ D := fun z => by subst z; exact h hF
    have q := st.fg a h
    rw [upd_ne this] at q ⊢; exact q
  · have : a ≠ D := fun z => by subst z; exact hγ h
    have q := st.fc a h
    rw [upd_ne this] at q ⊢; exact q
  · have : a ≠ D := fun z => by subst z; exact hγ (List.mem_of_getElem? h2)
    exact (st.cell n c a h1 h2).mono (List.prefix_refl _) (Ex.refl _) (upd_ne this)
theorem StR.unhide (st : StR g xc γ S F (upd G D o) H) (hG : G D = none) : StR g xc γ S F G H ∧ F D = none ∧ D ∉ γ ∧ H D = some o := by
  have hF : F D = none := by
    cases e : F D with
    | none => rfl
    | some u => have := st.fg D (by rw [e]; simp); rw [upd_same] at this; cases this
  have hγ : D ∉ γ := fun z => by have := st.fc D z; rw [upd_same] at this; cases this
  refine ⟨⟨st.fr, fun a u h => ?_, fun a h => ?_, fun a h => ?_, st.fl, st.len, st.nd, st.cell⟩, hF, hγ, st.gh D o upd_same⟩
  · have : a ≠ D := fun z => by subst z; rw [hG] at h; cases h
    exact st.gh a u (by rw [upd_ne this]; exact h)
  · have : a ≠ D := fun z => by subst z; exact h hF
    have q := st.fg a h
    rw [upd_ne this] at q; exact q
  · have : a ≠ D := fun z => by subst z; exact hγ h
    have q := st.fc a h
    rw [upd_ne this] at q; exact q
/-- an object that stands apart is taken: frozen -/
theorem StR.takeF (st : StR g xc γ S F G H) (hH : H D = some o) (hF : F D = none) (hG : G D = none) (hγ : D ∉ γ) : Nx g xc γ F G γ S (upd F D o) H := by
  refine ⟨List.prefix_refl _, Ex.new hF, ⟨fun a u h => ?_, st.gh, fun a h => ?_, st.fc, fun n c a h1 h2 h3 => ?_, st.len, st.nd, fun n c a h1 h2 => (st.cell n c a h1 h2).mono (List.prefix_refl _) (Ex.new hF) rfl⟩⟩
  · by_cases e : a = D
    · subst e; rw [upd_same] at h; rw [hH]; exact h
    · rw [upd_ne e] at h; exact st.fr a u h
  · by_cases e : a = D
    · subst e; exact hG
    · rw [upd_ne e] at h; exact st.fg a h
  · have : a ≠ D := fun z => by subst z; exact hγ (List.mem_of_getElem? h2)
    rw [upd_ne this]; exact st.fl n c a h1 h2 h3
/-- .. as a cell -/
theorem StR.takeC (st : StR g xc γ S F G H) (hF : F D = none) (hG : G D = none) (hγ : D ∉ γ) {c : Cell} (hc : CellR g xc (γ ++ [D]) F H D c) : Nx g xc γ F G (γ ++ [D]) (S ++ [c]) F H := by
  refine ⟨List.prefix_append _ _, Ex.refl _, ⟨st.fr, st.gh, st.fg, fun a h => ?_, fun n c' a h1 h2 h3 => ?_, by simp [st.len], ?_, fun n c' a h1 h2 => ?_⟩⟩
  · rcases List.mem_append.mp h with h | h
    · exact st.fc a h
    · rw [List.mem_singleton.mp h]; exact hG
  · by_cases hn : n < γ.length
    · rw [List.getElem?_append_left hn] at h2
      rw [List.getElem?_append_left (by rw [← st.len]; exact hn)] at h1
      exact st.fl n c' a h1 h2 h3
    · rw [List.getElem?_append_right (by omega)] at h2
      have := List.mem_singleton.mp (List.mem_of_getElem? h2)
      rw [this]; exact hF
  · refine List.nodup_append.mpr ⟨st.nd, by simp, fun x hx y hy => ?_⟩
    rw [List.mem_singleton.mp hy]; exact fun z => hγ (z ▸ hx)
  · by_cases hn : n < γ.length
    · rw [List.getElem?_append_left hn] at h2
      rw [List.getElem?_append_left (by rw [← st.len]; exact hn)] at h1
      exact (st.cell n c' a h1 h2).mono (List.prefix_append _ _) (Ex.refl _) rfl
    · have e : n = γ.length := by
        have := (List.getElem?_eq_some_iff.mp h2).1
        simp at this; omega
      subst e
      rw [List.getElem?_append_right (Nat.le_refl _), Nat.sub_self] at h2
      rw [List.getElem?_append_right (by rw [st.len]; exact Nat.le_refl _), st.len, Nat.sub_self] at h1
      simp at h1 h2; subst h1; subst h2
      exact hc
theorem mkL_take {fz : Bool} {l : List RV} {vs : List V} {Q : VK} {E : Value → Option Addr → Hp → Prop} (st : StR g xc γ S F (upd G D (.lst vs)) H) (hG : G D = none) (h : RVs g xc γ F l vs) (po : Post g xc γ F G (fun γ F => RVr g xc γ F) Q E (mkL fz l S)) : Q (.ref D) H := by
  obtain ⟨st2, hF, hγ, hH⟩ := st.unhide hG
  unfold mkL at po
  split at po
  · cases fz with
    | true =>
      rw [if_pos rfl] at po
      split at po
      · rename_i ds e
        have n := st2.takeF hH hF hG hγ
        exact po γ _ _ _ n (.lst upd_same (Rps.mono n.ex (allP_ok h e)))
      · exact po.elim
    | false =>
      rw [if_neg (by simp)] at po
      have n := st2.takeC hF hG hγ (c := .lst l) ⟨vs, hH, RVs.mono (List.prefix_append _ _) (Ex.refl _) h⟩
      exact po _ _ _ _ n ⟨D, by rw [← st.len]; simp, rfl⟩
  · exact po.elim
end
end Z


set_option Elab.async false
set_option linter.all false
set_option autoImplicit false
set_option maxRecDepth 100000
set_option maxHeartbeats 4000000
/-! Zcomp: comprehensions, methods of lists, dicts. -/
namespace Z
open PySem L2
theorem wipe_twice {σ : St} (vs : List Nat) : L2.wipe (L2.wipe σ vs) vs = L2.wipe σ vs :=
  (Turns.wipe (σ := L2.wipe σ vs) (σ1 := L2.wipe σ vs) (ts := []) Turns.refl vs (by simp)).trans (by
    induction vs with
    | nil => rfl
    | cons v vs ih =>
      show (L2.wipe ((L2.wipe σ vs).set v none) vs).set v none = (L2.wipe σ vs).set v none
      have t : Turns [v] (L2.wipe σ vs) ((L2.wipe σ vs).set v none) := Turns.set (by simp)
      have h := t.wipe (v :: vs) (by simp)
      have h' : (L2.wipe ((L2.wipe σ vs).set v none) vs).set v none = (L2.wipe (L2.wipe σ vs) vs).set v none := h
      rw [h', ih])
abbrev slots (own : List (Str × Nat)) : List Nat := own.map (·.2)
section
variable {Γ : Cxt} {pos : Pos} {tg iter elt : Expr} {ifs : List Expr} {scope : Scope} {own : List (Str × Nat)} {mi : MI} {b : Bd} {ts : List Nat} {tt : MT} {te : ME}
theorem tst0 {α β : Type} {γ : List Addr} {F G : Hp} {R : List Addr → Hp → α → β → Prop} {Q : β → Hp → Prop} {r : Res α} {E E' : Value → Option Addr → Hp → Prop} (h : ∀ a S', r = .ok a S' → ∀ γ' F' H' v, Nx Γ.g Γ.xc γ F G γ' S' F' H' → R γ' F' a v → Q v H')
    (hx : ∃ a S', r = .ok a S') : Post Γ.g Γ.xc γ F G R Q E r := by
  obtain ⟨a, S', rfl⟩ := hx
  exact h a S' rfl
theorem lc_key (fz : Bool) (hx0 : Γ.xc = none) (hts : ∀ i ∈ ts, i ∈ slots own) {W : WX} : ∀ σ H Q, rdE Γ W (mLc fz mi b tt te (slots own)) σ H Q → tLc (rdI Γ W mi) (rdG (Γ.blk scope) b ts) (rdT (Γ.blk scope) W0 tt) (rdE (Γ.blk scope) W0 te) (own.map (·.2)) σ H Q := fun σ H Q ⟨γ, S, F, G, env, st, er, po⟩ =>
  ⟨γ, S, F, G, env, st, er, Post.imp (Post.of_bind (R := fun γ' F' a (J : It) => IterOK Γ J γ' F' a.1 a.2) po) fun J H1 ⟨γ1, S1, F1, a, e1, n1, r1, po1⟩ => by
    obtain ⟨items, gd⟩ := a
    dsimp only at r1 po1
    intro D hD
    have hG : G D = none := by
      cases e : G D with
      | none => rfl
      | some u => rw [n1.st.gh D u e] at hD; cases hD
    have erw := (er.mono n1.pre n1.ex).wipe hx0 (slots own)
    refine ⟨fun i m H' => m = items.length - i ∧ ∃ γ' S' F' acc vs, γ1 <+: γ' ∧ Ex F1 F' ∧ StR Γ.g Γ.xc γ' S' F' (upd G D (.lst vs)) H' ∧ RVs Γ.g Γ.xc γ' F' acc vs ∧
        Post Γ.g Γ.xc γ' F' G (RelV' Γ) Q (Wσ W σ) ((runLc b tt te gd (items.drop i) (wipeE env (slots own)) S' acc).bind fun l S2 => mkL fz l S2),
      ⟨_, rfl, γ1, S1, F1, [], [], List.prefix_refl _, Ex.refl _, n1.st.hide hD, .nil, po1⟩, ?_⟩
    rintro i m H' ⟨rfl, γ', S', F', acc, vs, pre, ex, st', ra, po'⟩
    cases hd : items.drop i with
    | nil =>
      rw [hd] at po'
      unfold runLc at po'
      by_cases hgd : gd S' = true
      · rw [if_pos hgd] at po'
        exact .inl ⟨(r1 i γ' S' F' _ H' pre ex st' hgd).2 (List.drop_eq_nil_iff.mp hd), mkL_take st' hG ra po'⟩
      · rw [if_neg hgd] at po'; exact po'.elim
    | cons it its =>
      rw [hd] at po'
      unfold runLc at po'
      by_cases hgd : gd S' = true
      · rw [if_pos hgd] at po'
        obtain ⟨hit, hnext⟩ := drop_get hd
        have hlt : i < items.length := (List.getElem?_eq_some_iff.mp hit).1
        obtain ⟨hgo, hy⟩ := (r1 i γ' S' F' _ H' pre ex st' hgd).1 it hit
        refine .inr ⟨hgo, fun H2 => ∃ γ2 S2 F2 acc2 vs2, γ1 <+: γ2 ∧ Ex F1 F2 ∧ StR Γ.g Γ.xc γ2 S2 F2 (upd G D (.lst vs2)) H2 ∧ RVs Γ.g Γ.xc γ2 F2 acc2 vs2 ∧
          Post Γ.g Γ.xc γ2 F2 G (RelV' Γ) Q (Wσ W σ) ((runLc b tt te gd its (wipeE env (slots own)) S2 acc2).bind fun l S2 => mkL fz l S2), ?_, ?_⟩
        · rintro H2 ⟨γ2, S2, F2, acc2, vs2, p2, x2, st2, ra2, po2⟩
          exact ⟨_, by omega, rfl, γ2, S2, F2, acc2, vs2, p2, x2, st2, ra2, by rw [hnext]; exact po2⟩
        · intro x H2 y
          obtain ⟨γ2, F2, n2, r2⟩ := item_ok st' pre ex (hy x H2 y)
          have lat : ∀ {γ3 : List Addr} {S3 : Store} {F3 H3 : Hp} {G' : Hp}, Nx Γ.g Γ.xc γ' F' G' γ3 S3 F3 H3 → γ1 <+: γ3 ∧ Ex F1 F3 := fun n => ⟨pre.trans n.pre, ex.trans n.ex⟩
          have erw2 := (erw.mono pre ex).mono n2.pre n2.ex
          refine ⟨γ2, (mkI it S').2, F2, _, _, _, n2.st, erw2, r2, ?_⟩
          generalize b (mkI it S').1 (wipeE env (slots own)) (mkI it S').2 = q at po' ⊢
          cases q with
          | ok e2 S3 =>
            intro γ3 F3 H3 σ3 n3 ek3 tu
            refine ⟨(tu.wipe _ hts).trans (wipe_twice _), γ3, S3, F3, _, e2, n3.st, ek3, ?_⟩
            dsimp only at po'
            have n23 := n2.trans n3
            generalize hq2 : tt e2 S3 = q2 at po' ⊢
            cases q2 with
            | ok c S4 =>
              intro γ4 F4 H4 c' n4 hcc
              cases hcc
              have n234 := n23.trans n4
              cases c with
              | true =>
                dsimp only at po'
                refine ⟨γ4, S4, F4, _, e2, n4.st, ek3.mono n4.pre n4.ex, ?_⟩
                generalize hq3 : te e2 S4 = q3 at po' ⊢
                cases q3 with
                | ok y S5 =>
                  intro γ5 F5 H5 v n5 hv
                  dsimp only at po'
                  have n2345 := n234.trans n5
                  have hH5 : H5 D = some (.lst vs) := n5.st.gh D _ upd_same
                  have ra5 := RVs.mono n2345.pre n2345.ex ra
                  by_cases hz : acc.length < sizeLine
                  · rw [if_pos hz] at po'
                    refine ⟨vs, hH5, by rw [ra.len]; exact hz, γ5, S5, F5, acc ++ [y], vs ++ [v], (lat n2345).1, (lat n2345).2, n5.st.rehide, ra5.app (.cons hv .nil), ?_⟩
                    -- the same wish, later
                    have key : ∀ {r : Res RV}, Post Γ.g Γ.xc γ' F' G (RelV' Γ) Q (Wσ W σ) r → Post Γ.g Γ.xc γ5 F5 G (RelV' Γ) Q (Wσ W σ) r := fun {r} h => by
                      cases r with
                      | ok r S' => exact fun γ'' F'' H'' v n' q => h γ'' F'' H'' v ⟨n2345.pre.trans n'.pre, n2345.ex.trans n'.ex, n'.st⟩ q
                      | exc c fs S' => exact fun γ'' F'' H'' d n' q => h γ'' F'' H'' d ⟨n2345.pre.trans n'.pre, n2345.ex.trans n'.ex, n'.st⟩ q
                      | stuck => exact h
                    exact key po'
                  · rw [if_neg hz] at po'; exact po'.elim
                | exc c fs S5 => exact po'.elim
                | stuck => exact po'.elim
              | false =>
                dsimp only at po'
                have ra4 := RVs.mono n234.pre n234.ex ra
                refine ⟨γ4, S4, F4, acc, vs, (lat n234).1, (lat n234).2, n4.st, ra4, ?_⟩
                have key : ∀ {r : Res RV}, Post Γ.g Γ.xc γ' F' G (RelV' Γ) Q (Wσ W σ) r → Post Γ.g Γ.xc γ4 F4 G (RelV' Γ) Q (Wσ W σ) r := fun {r} h => by
                  cases r with
                  | ok r S' => exact fun γ'' F'' H'' v n' q => h γ'' F'' H'' v ⟨n234.pre.trans n'.pre, n234.ex.trans n'.ex, n'.st⟩ q
                  | exc c fs S' => exact fun γ'' F'' H'' d n' q => h γ'' F'' H'' d ⟨n234.pre.trans n'.pre, n234.ex.trans n'.ex, n'.st⟩ q
                  | stuck => exact h
                exact key po'
            | exc c fs S4 => exact po'.elim
            | stuck => exact po'.elim
          | exc c fs S3 => exact po'.elim
          | stuck => exact po'.elim
      · rw [if_neg hgd] at po'; exact po'.elim⟩
theorem se_lc (fz : Bool) (hc : Γ.calm = true) (hx0 : Γ.xc = none) (hi : SI Γ tg iter mi) (ok : BlkOk Γ.N Γ.sc scope own) (hg : SG (Γ.blk scope) tg b ts) (hts : ∀ i ∈ ts, i ∈ slots own) (ht : STs (Γ.blk scope) ifs tt) (he : SE (Γ.blk scope) elt te)
    (hf : ∀ (env : PySem.Env) x, foldedSetIterable iter env x = pure x := by intro _ _; rfl) : SE Γ (.ListComp elt [⟨tg, iter, ifs, 0⟩] scope pos) (mLc fz mi b tt te (slots own)) := fun X W fit =>
  PE.imp (pe_lc (by rw [fit.ec]; exact hc) (by rw [fit.eN]; exact fit.nd) (hi X W fit) (by rw [fit.eN, fit.es]; exact ok) (fun s H C cl fp => hg _ W0 (fit.blk scope s H C cl fp)) (fun s H C cl fp => ht _ W0 (fit.blk scope s H C cl fp)) (fun s H C cl fp => he _ W0 (fit.blk scope s H C cl fp)) (fun x => hf X.env x)) (lc_key fz hx0 hts)
/-- name = [.. for ..] -/
theorem ss_setLc (fz : Bool) {i : Nat} {y : Str} {py spos : Pos} (hc : Γ.calm = true) (hx0 : Γ.xc = none) (hi : SI Γ tg iter mi) (ok : BlkOk Γ.N Γ.sc scope own) (hg : SG (Γ.blk scope) tg b ts) (hts : ∀ i ∈ ts, i ∈ slots own) (ht : STs (Γ.blk scope) ifs tt) (he : SE (Γ.blk scope) elt te)
    (hN : Γ.N[i]? = some y := by rfl) (hy : Γ.sc.names.lookup y = some .local := by rfl) (hk : Γ.sc.kind = .function := by rfl) (hl : (py.line == pos.line) = true := by rfl) (ha : (scope.names.any fun (n, k) => n == y && (k == .local || k == .cell)) = false := by rfl)
    (hf : ∀ (env : PySem.Env) x, foldedSetIterable iter env x = pure x := by intro _ _; rfl) : SS Γ (.Assign [.Name y py] (.ListComp elt [⟨tg, iter, ifs, 0⟩] scope pos) spos) (mAsg (mLc fz mi b tt te (slots own)) (bName i)) := fun X W fit =>
  PS.imp (ps_setLc (i := i) (by rw [fit.ec]; exact hc) (by rw [fit.eN]; exact fit.nd) (by rw [fit.eN]; exact hN) (by rw [fit.es]; exact hy) (sw_true (by rw [fit.es]; exact hk) (by rw [fit.es]; exact hy) hl ha) (hi X W fit) (by rw [fit.eN, fit.es]; exact ok)
    (fun s H C cl fp => hg _ W0 (fit.blk scope s H C cl fp)) (fun s H C cl fp => ht _ W0 (fit.blk scope s H C cl fp)) (fun s H C cl fp => he _ W0 (fit.blk scope s H C cl fp)) (fun x => hf X.env x)) fun D σ H ⟨γ, S, F, G, env, st, er, po⟩ =>
    lc_key (Γ := Γ) (scope := scope) fz hx0 hts (W := W) σ H _ ⟨γ, S, F, G, env, st, er, Post.imp (SPost.of_eS (R := RelV' Γ) po er) fun v H1 ⟨γ1, S1, F1, x, e1, n1, r1, po1⟩ => po1 γ1 F1 H1 _ (Nx.refl n1.st) ((er.mono n1.pre n1.ex).set i r1 fun x h => by rw [hx0] at h; cases h)⟩
end
end Z


set_option Elab.async false
set_option linter.all false
set_option autoImplicit false
set_option maxRecDepth 100000
set_option maxHeartbeats 4000000
/-! Zdict: methods of lists; dicts as cells. -/
namespace Z
open PySem L2

/-! ### o.m(e, ..), o of a built-in type -/
abbrev FM := RV → List RV → Store → Res RV
def tyOk (T : String) (x : RV) (S : Store) : Bool :=
  if T = "list" then (lstv S x).isSome else if T = "str" then (match x with
    | .p (.str _) => true
    | _ => false) else false
def mBM (T : String) (f : FM) (mo : ME) (ms : MA) : ME := fun env S => (mo env S).bind fun x S1 => if tyOk T x S1 = true then (ms env S1).bind fun l S2 => f x l S2 else .stuck
def MtOk (Γ : Cxt) (K : PySem.W.Frag) (r : V → List V → Hp → VK → Prop) (f : FM) : Prop := ∀ γ S F G H x v l vs Q E, K = Γ.g.K → StR Γ.g Γ.xc γ S F G H → RVr Γ.g Γ.xc γ F x v → RVs Γ.g Γ.xc γ F l vs → Post Γ.g Γ.xc γ F G (RelV' Γ) Q E (f x l S) → r v vs H Q
section
variable {Γ : Cxt} {K : PySem.W.Frag} {pos : Pos} {o e : Expr} {es : List Expr} {mo me : ME} {ms : MA}
theorem tyOk_ok {γ : List Addr} {S : Store} {F G H : Hp} {T : String} {x : RV} {v : V} (st : StR Γ.g Γ.xc γ S F G H) (r : RVr Γ.g Γ.xc γ F x v) (h : tyOk T x S = true) : tyV Γ.g.K T v H := by
  unfold tyOk at h
  split at h
  · rename_i e; subst e
    obtain ⟨l, hl⟩ := Option.isSome_iff_exists.mp h
    obtain ⟨a, vs, rfl, h1, h2⟩ := lstv_ok st r hl
    exact .inl ⟨rfl, vs, h1⟩
  · split at h
    · rename_i e; subst e
      split at h
      · cases r; rfl
      · cases h
    · cases h
theorem se_bm {name : Str} {apos cpos : Pos} {T id : String} {r : PySem.W.Frag → V → List V → Hp → VK → Prop} {f : FM} (pa : PlainAttrs T) (slot : Slot T name id) (hty : typeOf (.builtin id) = pure (.type "method_descriptor")) (hm : ∀ X W, Fit Γ X W → MtR X id (r X.K)) (hr : ∀ K, MtOk Γ K (r K) f)
    (ho : SE Γ o mo) (ha : SA Γ (e :: es) ms) (h1 : ∀ env : PySem.Env, attributeBase o name env (eval o env) = eval o env := by intro _; rfl)
    (h2 : ∀ env : PySem.Env, ((backTo cpos (starEach (e :: es) env)).all (fun x => !x.1) && (backToKw cpos (keywordEach [] env)).all (fun x => x.1.isSome) && decide (((e :: es).length + ([] : List Keyword).length + if ([] : List Keyword).isEmpty = true then 0 else 1) < 30)) = true := by intro _; rfl) (h3 : (apos.endLine == cpos.line) = true := by rfl)
    (h4 : ∀ env : PySem.Env, starEach (e :: es) env = (false, eval e env) :: starEach es env := by intro _; rfl) (h5 : ∀ env : PySem.Env, (backTo cpos (starEach es env)).any (fun x => x.1) = false := by intro _; rfl) :
    SE Γ (.Call (.Attribute o name apos) (e :: es) [] cpos) (mBM T f mo ms) := fun X W fit =>
  PE.imp (pe_bm pa slot hty (hm X W fit) (ho X W fit) (ha X W fit) (h1 X.env) (h2 X.env) h3 (h4 X.env) (h5 X.env)) fun σ H Q ⟨γ, S, F, G, env, st, er, po⟩ =>
    ⟨γ, S, F, G, env, st, er, Post.imp (Post.of_bind (R := RelV' Γ) po) fun v H1 ⟨γ1, S1, F1, x, e1, n1, r1, po1⟩ => by
      split at po1
      · rename_i ht
        refine ⟨by rw [fit.eK]; exact tyOk_ok n1.st r1 ht, γ1, S1, F1, G, env, n1.st, er.mono n1.pre n1.ex, Post.imp (Post.of_bind (R := RelVs' Γ) po1) fun vs H2 ⟨γ2, S2, F2, l, e2, n2, r2, po2⟩ => ?_⟩
        exact hr X.K γ2 S2 F2 G H2 x v l vs Q _ fit.eK n2.st (r1.mono n2.pre n2.ex) r2 po2
      · exact po1.elim⟩
def mBM0 (T : String) (f : FM) (mo : ME) : ME := fun env S => (mo env S).bind fun x S1 => if tyOk T x S1 = true then f x [] S1 else .stuck
theorem se_bm0 {name : Str} {apos cpos : Pos} {T id : String} {r : PySem.W.Frag → V → List V → Hp → VK → Prop} {f : FM} (pa : PlainAttrs T) (slot : Slot T name id) (hty : typeOf (.builtin id) = pure (.type "method_descriptor")) (hm : ∀ X W, Fit Γ X W → MtR X id (r X.K)) (hr : ∀ K, MtOk Γ K (r K) f)
    (ho : SE Γ o mo) (h1 : ∀ env : PySem.Env, attributeBase o name env (eval o env) = eval o env := by intro _; rfl) (h3 : (apos.endLine == cpos.line) = true := by rfl) : SE Γ (.Call (.Attribute o name apos) [] [] cpos) (mBM0 T f mo) := fun X W fit =>
  PE.imp (pe_bm0 pa slot hty (hm X W fit) (ho X W fit) (h1 X.env) h3) fun σ H Q ⟨γ, S, F, G, env, st, er, po⟩ =>
    ⟨γ, S, F, G, env, st, er, Post.imp (Post.of_bind (R := RelV' Γ) po) fun v H1 ⟨γ1, S1, F1, x, e1, n1, r1, po1⟩ => by
      split at po1
      · rename_i ht
        exact ⟨by rw [fit.eK]; exact tyOk_ok n1.st r1 ht, hr X.K γ1 S1 F1 G H1 x v [] [] Q _ fit.eK n1.st r1 .nil po1⟩
      · exact po1.elim⟩
def fAppend : FM := fun x l S => match x, l with
  | .loc n, [y] => match S[n]? with
    | some (.lst l) => if l.length < sizeLine then .ok (.p .none) (S.set n (.lst (l ++ [y]))) else .stuck
    | _ => .stuck
  | _, _ => .stuck
theorem fAppend_ok : MtOk Γ K rAppend fAppend := by
  intro γ S F G H x v l vs Q E eK st rx rl po
  unfold fAppend at po
  split at po
  · rename_i n y
    obtain ⟨a, h1, rfl⟩ := rx
    cases rl with
    | @cons _ w _ _ r t =>
      cases t
      split at po
      · rename_i l hc
        split at po
        · rename_i hz
          obtain ⟨ws, h2, h3⟩ := st.cell n _ a hc h1
          have nn := st.wr (o := .lst (ws ++ [w])) (c := .lst (l ++ [y])) hc (by simp) h1 ⟨_, upd_same, h3.app (.cons r .nil)⟩
          exact ⟨a, ws, _, rfl, rfl, h2, by rw [h3.len]; exact hz, po γ F _ _ nn .non⟩
        · exact po.elim
      · exact po.elim
  · exact po.elim
def fClear : FM := fun x l S => match x, l with
  | .loc n, [] => match S[n]? with
    | some (.lst l) => .ok (.p .none) (S.set n (.lst []))
    | _ => .stuck
  | _, _ => .stuck
theorem fClear_ok : MtOk Γ K rClear fClear := by
  intro γ S F G H x v l vs Q E eK st rx rl po
  unfold fClear at po
  split at po
  · rename_i n
    obtain ⟨a, h1, rfl⟩ := rx
    cases rl
    split at po
    · rename_i l hc
      obtain ⟨ws, h2, h3⟩ := st.cell n _ a hc h1
      have nn := st.wr (o := .lst []) (c := .lst []) hc (by simp) h1 ⟨_, upd_same, .nil⟩
      exact ⟨a, ws, rfl, rfl, h2, po γ F _ _ nn .non⟩
    · exact po.elim
  · exact po.elim
/-- the first place of a flat thing among flat ones -/
def idxP (d : PyData) : List PyData → Option Nat
  | [] => none
  | e :: l => if PyData.eqv e d = true then some 0 else (idxP d l).map (· + 1)
theorem idxP_ok {d : PyData} : ∀ {l : List PyData} {j : Nat}, idxP d l = some j → (∃ e, l[j]? = some e ∧ PyData.eqv e d = true) ∧ ∀ m e, m < j → l[m]? = some e → PyData.eqv e d = false
  | [], _, h => by cases h
  | e :: l, j, h => by
    unfold idxP at h
    split at h
    · rename_i q; cases h; exact ⟨⟨e, rfl, q⟩, fun m e h => by omega⟩
    · rename_i q
      simp only [Option.map_eq_some_iff] at h
      obtain ⟨j', h', rfl⟩ := h
      obtain ⟨⟨e', h1, h2⟩, h3⟩ := idxP_ok h'
      refine ⟨⟨e', by simpa using h1, h2⟩, fun m e2 hm he => ?_⟩
      cases m with
      | zero => simp at he; subst he; simpa using q
      | succ m => exact h3 m e2 (by omega) (by simpa using he)
def fIndex : FM := fun x l S => match l with
  | [.p d] => match (lstv S x).bind allP with
    | some ds => if flatP d = true ∧ ds.all flatP = true then match idxP d ds with
        | some j => okI (j : Nat) S
        | none => .stuck
      else .stuck
    | none => .stuck
  | _ => .stuck
theorem Rps.at' {F : Hp} {vs : List V} {ds : List PyData} (h : Rps K F vs ds) {i : Nat} {v : V} (e : vs[i]? = some v) : ∃ d, ds[i]? = some d ∧ Rp K F v d := by
  induction ds generalizing vs i with
  | nil => cases h; simp at e
  | cons d ds ih =>
    cases h with
    | cons a b => cases i with
      | zero => simp at e; subst e; exact ⟨d, rfl, a⟩
      | succ i => simpa using ih b (by simpa using e)
theorem fIndex_ok : MtOk Γ K (rIndex K) fIndex := by
  intro γ S F G H x v l vs Q E eK st rx rl po
  unfold fIndex at po
  split at po
  · rename_i d
    cases rl with
    | cons r t =>
      cases t
      split at po
      · rename_i ds e
        split at po
        · rename_i hf
          split at po
          · rename_i j hj
            simp only [Option.bind_eq_some_iff] at e
            obtain ⟨l', e1, e2⟩ := e
            obtain ⟨a, us, rfl, h1, h2⟩ := lstv_ok st rx e1
            have h3 := allP_ok h2 e2
            obtain ⟨⟨e, q1, q2⟩, q3⟩ := idxP_ok hj
            obtain ⟨z, z1, z2⟩ := h3.get q1
            have fl : ∀ {i : Nat} {e : PyData}, ds[i]? = some e → flatP e = true := fun h => List.all_eq_true.mp hf.2 _ (List.mem_of_getElem? h)
            refine ⟨a, us, _, j, z, rfl, rfl, by rw [eK]; exact h1, flat_ok r hf.1, flats_ok h3 hf.2, z1, by rw [eqV_ok z2 r (fl q1) hf.1]; exact q2, fun m z' hm hz' => ?_, po γ F H _ (Nx.refl st) (.int _)⟩
            obtain ⟨e', y1, y2⟩ := Rps.at' h3 hz'
            rw [eqV_ok y2 r (fl y1) hf.1]
            exact q3 m e' hm y1
          · exact po.elim
        · exact po.elim
      · exact po.elim
  · exact po.elim
theorem se_append {apos cpos : Pos} (ho : SE Γ o mo) (ha : SE Γ e me) (h1 : ∀ env : PySem.Env, attributeBase o "append" env (eval o env) = eval o env := by intro _; rfl) (h3 : (apos.endLine == cpos.line) = true := by rfl)
    (h4 : ∀ env : PySem.Env, starEach [e] env = (false, eval e env) :: starEach [] env := by intro _; rfl)
    (h2 : ∀ env : PySem.Env, ((backTo cpos (starEach [e] env)).all (fun x => !x.1) && (backToKw cpos (keywordEach [] env)).all (fun x => x.1.isSome) && decide (([e].length + ([] : List Keyword).length + if ([] : List Keyword).isEmpty = true then 0 else 1) < 30)) = true := by intro _; rfl) :
    SE Γ (.Call (.Attribute o "append" apos) [e] [] cpos) (mBM "list" fAppend mo (aCons me aNil)) :=
  se_bm (r := fun _ => rAppend) PySem.F.plainAttrs_list PySem.F.slot_list_append PySem.F.type_list_append (fun _ _ _ => mt_append) (fun _ => fAppend_ok) ho (sa_cons ha sa_nil h4) h1 h2 h3 h4
theorem se_clear {apos cpos : Pos} (ho : SE Γ o mo) (h1 : ∀ env : PySem.Env, attributeBase o "clear" env (eval o env) = eval o env := by intro _; rfl) (h3 : (apos.endLine == cpos.line) = true := by rfl) : SE Γ (.Call (.Attribute o "clear" apos) [] [] cpos) (mBM0 "list" fClear mo) :=
  se_bm0 (r := fun _ => rClear) PySem.F.plainAttrs_list PySem.F.slot_list_clear PySem.F.type_list_clear (fun _ _ _ => mt_clear) (fun _ => fClear_ok) ho h1 h3
theorem se_index {apos cpos : Pos} (ho : SE Γ o mo) (ha : SE Γ e me) (h1 : ∀ env : PySem.Env, attributeBase o "index" env (eval o env) = eval o env := by intro _; rfl) (h3 : (apos.endLine == cpos.line) = true := by rfl)
    (h4 : ∀ env : PySem.Env, starEach [e] env = (false, eval e env) :: starEach [] env := by intro _; rfl)
    (h2 : ∀ env : PySem.Env, ((backTo cpos (starEach [e] env)).all (fun x => !x.1) && (backToKw cpos (keywordEach [] env)).all (fun x => x.1.isSome) && decide (([e].length + ([] : List Keyword).length + if ([] : List Keyword).isEmpty = true then 0 else 1) < 30)) = true := by intro _; rfl) :
    SE Γ (.Call (.Attribute o "index" apos) [e] [] cpos) (mBM "list" fIndex mo (aCons me aNil)) :=
  se_bm (r := rIndex) PySem.F.plainAttrs_list PySem.F.slot_list_index PySem.F.type_list_index (fun _ _ _ => mt_index) (fun _ => fIndex_ok) ho (sa_cons ha sa_nil h4) h1 h2 h3 h4
end

/-! ### dicts -/
def keyOf : RV → Option Key
  | .p (.int i) => some (.inl i)
  | .p (.str x) => some (.inr x)
  | _ => none
def valR (kvs : List (Key × RV)) (k : Key) : Option RV := (kvs.find? fun kv => decide (kv.1 = k)).map (·.2)
def putR (kvs : List (Key × RV)) (k : Key) (v : RV) : List (Key × RV) :=
  if (kvs.any fun kv => decide (kv.1 = k)) = true then kvs.map (fun kv => if kv.1 = k then (kv.1, v) else kv) else kvs ++ [(k, v)]
section
variable {g : Gd} {xc : XC} {γ : List Addr} {F : Hp}
abbrev KVR (g : Gd) (xc : XC) (γ : List Addr) (F : Hp) : List (Key × RV) → List (Key × V) → Prop := Paired (fun (x : Key × RV) (y : Key × V) => x.1 = y.1 ∧ RVr g xc γ F x.2 y.2)
theorem keyOf_ok {r : RV} {v : V} {k : Key} (q : RVr g xc γ F r v) (e : keyOf r = some k) : v = kV k := by
  unfold keyOf at e
  split at e
  · cases e; cases q; rfl
  · cases e; cases q; rfl
  · cases e
theorem valR_some {k : Key} {r : RV} : ∀ {l : List (Key × RV)} {m : List (Key × V)}, KVR g xc γ F l m → valR l k = some r → ∃ v, valV m k = some v ∧ RVr g xc γ F r v
  | _, _, .nil, e => by cases e
  | x :: l, y :: m, .cons ⟨h1, h2⟩ t, e => by
    by_cases q : x.1 = k
    · have : valR (x :: l) k = some x.2 := by simp [valR, q]
      rw [this] at e; cases e
      exact ⟨y.2, valV_pos (h1 ▸ q), h2⟩
    · have : valR (x :: l) k = valR l k := by simp [valR, q]
      rw [this] at e
      obtain ⟨v, e1, e2⟩ := valR_some t e
      exact ⟨v, by rw [valV_neg (h1 ▸ q)]; exact e1, e2⟩
theorem valR_none {k : Key} : ∀ {l : List (Key × RV)} {m : List (Key × V)}, KVR g xc γ F l m → valR l k = none → valV m k = none
  | _, _, .nil, e => rfl
  | x :: l, y :: m, .cons ⟨h1, h2⟩ t, e => by
    by_cases q : x.1 = k
    · have : valR (x :: l) k = some x.2 := by simp [valR, q]
      rw [this] at e; cases e
    · have : valR (x :: l) k = valR l k := by simp [valR, q]
      rw [this] at e
      rw [valV_neg (h1 ▸ q)]; exact valR_none t e
theorem KVR.any {k : Key} : ∀ {l : List (Key × RV)} {m : List (Key × V)}, KVR g xc γ F l m → (l.any fun kv => decide (kv.1 = k)) = (m.any fun kv => decide (kv.1 = k))
  | _, _, .nil => rfl
  | x :: l, y :: m, .cons ⟨h1, h2⟩ t => by rw [List.any_cons, List.any_cons, KVR.any t, h1]
theorem KVR.map {k : Key} {r : RV} {v : V} (q : RVr g xc γ F r v) : ∀ {l : List (Key × RV)} {m : List (Key × V)}, KVR g xc γ F l m → KVR g xc γ F (l.map fun kv => if kv.1 = k then (kv.1, r) else kv) (m.map fun kv => if kv.1 = k then (kv.1, v) else kv)
  | _, _, .nil => .nil
  | x :: l, y :: m, .cons ⟨h1, h2⟩ t => by
    refine .cons ?_ (KVR.map q t)
    dsimp only
    by_cases e : x.1 = k
    · rw [if_pos e, if_pos (h1 ▸ e)]; exact ⟨h1, q⟩
    · rw [if_neg e, if_neg (h1 ▸ e)]; exact ⟨h1, h2⟩
theorem KVR.app {l l' : List (Key × RV)} {m m' : List (Key × V)} (h : KVR g xc γ F l m) (k : KVR g xc γ F l' m') : KVR g xc γ F (l ++ l') (m ++ m') := by
  induction h with
  | nil => exact k
  | cons a b ih => exact .cons a ih
theorem putR_ok {l : List (Key × RV)} {m : List (Key × V)} (h : KVR g xc γ F l m) {k : Key} {r : RV} {v : V} (q : RVr g xc γ F r v) : KVR g xc γ F (putR l k r) (putK m k v) := by
  unfold putR putK
  rw [KVR.any h]
  split
  · exact KVR.map q h
  · exact KVR.app h (.cons ⟨rfl, q⟩ .nil)
theorem KVR.len {l : List (Key × RV)} {m : List (Key × V)} (h : KVR g xc γ F l m) : m.length = l.length := (PySem.Paired.length h).symm
theorem KVR.mono {γ' : List Addr} {F' : Hp} (h : γ <+: γ') (e : Ex F F') {l : List (Key × RV)} {m : List (Key × V)} (q : KVR g xc γ F l m) : KVR g xc γ' F' l m := Paired.imp' (fun _ _ z => ⟨z.1, z.2.mono h e⟩) q
end
section
variable {Γ : Cxt} {K : PySem.W.Frag} {pos : Pos} {o e f : Expr} {mo me mf : ME}
theorem un1 {X : Cx} {W : WX} (fit : Fit Γ X W) : X.A.units + 1 < cLine := by have := fit.un; omega
def fDGet : F2 := fun x y S => match x with
  | .loc n => match S[n]?, keyOf y with
    | some (.dK kvs), some k => match valR kvs k with
      | some r => .ok r S
      | none => .stuck
    | _, _ => .stuck
  | _ => .stuck
theorem se_dget (ho : SE Γ o mo) (he : SE Γ e me) (hs : NoSl e := by intro _ _; rfl) : SE Γ (.Subscript o e pos) (mBin fDGet mo me) := fun X W fit => PE.imp (pe_dget (un1 fit) (ho X W fit) (he X W fit) hs)
  fun σ H Q ⟨γ, S, F, G, env, st, er, po⟩ => ⟨γ, S, F, G, env, st, er, Post.imp (Post.of_bind (R := RelV' Γ) po) fun v H1 ⟨γ1, S1, F1, x, e1, n1, r1, po1⟩ =>
    ⟨γ1, S1, F1, G, env, n1.st, er.mono n1.pre n1.ex, Post.imp (Post.of_bind (R := RelV' Γ) po1) fun u H2 ⟨γ2, S2, F2, y, e2, n2, r2, po2⟩ => by
      unfold fDGet at po2
      cases x with
      | loc n =>
        dsimp only at po2
        cases hc : S2[n]? with
        | none => rw [hc] at po2; exact po2.elim
        | some c =>
          cases hk : keyOf y with
          | none => rw [hc, hk] at po2; cases c <;> exact po2.elim
          | some k =>
            rw [hc, hk] at po2
            cases c with
            | dK kvs =>
              dsimp only at po2
              cases hr : valR kvs k with
              | none => rw [hr] at po2; exact po2.elim
              | some r =>
                rw [hr] at po2
                obtain ⟨a, h1, rfl⟩ := r1.mono n2.pre n2.ex
                obtain ⟨m, h2, h3⟩ := n2.st.cell n _ a hc h1
                obtain ⟨w, q1, q2⟩ := valR_some h3 hr
                have := keyOf_ok r2 hk
                subst this
                exact ⟨a, w, rfl, q1 ▸ DGet.k h2, po2 γ2 F2 H2 w (Nx.refl n2.st) q2⟩
            | _ => exact po2.elim
      | _ => exact po2.elim⟩⟩
def mDGet2 (mo me mf : ME) : ME := fun env S => (mo env S).bind fun x S1 => match x with
  | .loc n => match S1[n]? with
    | some (.dK _) => (me env S1).bind fun y S2 => (mf env S2).bind fun z S3 => match S3[n]?, keyOf y with
      | some (.dK kvs), some k => match valR kvs k with
        | some r => .ok r S3
        | none => .ok z S3
      | _, _ => .stuck
    | _ => .stuck
  | _ => .stuck
theorem se_dget2 {apos cpos : Pos} (ho : SE Γ o mo) (he : SE Γ e me) (hf : SE Γ f mf) (hm : ∀ X : Cx, M2 X o "get" apos e f cpos) : SE Γ (.Call (.Attribute o "get" apos) [e, f] [] cpos) (mDGet2 mo me mf) := fun X W fit => PE.imp (pe_dget2 (un1 fit) (ho X W fit) (he X W fit) (hf X W fit) (hm X))
  fun σ H Q ⟨γ, S, F, G, env, st, er, po⟩ => ⟨γ, S, F, G, env, st, er, Post.imp (Post.of_bind (R := RelV' Γ) po) fun v H1 ⟨γ1, S1, F1, x, e1, n1, r1, po1⟩ => by
    cases x with
    | loc n =>
      dsimp only at po1
      cases hc0 : S1[n]? with
      | none => rw [hc0] at po1; exact po1.elim
      | some c0 =>
      rw [hc0] at po1
      cases c0 with
      | dK kvs0 =>
        obtain ⟨a, h1, rfl⟩ := r1
        obtain ⟨m0, h20, h30⟩ := n1.st.cell n _ a hc0 h1
        refine ⟨a, rfl, .inl ⟨m0, .inl h20⟩, γ1, S1, F1, G, env, n1.st, er.mono n1.pre n1.ex, Post.imp (Post.of_bind (R := RelV' Γ) po1) fun u H2 ⟨γ2, S2, F2, y, e2, n2, r2, po2⟩ =>
          ⟨γ2, S2, F2, G, env, n2.st, (er.mono n1.pre n1.ex).mono n2.pre n2.ex, Post.imp (Post.of_bind (R := RelV' Γ) po2) fun w H3 ⟨γ3, S3, F3, z, e3, n3, r3, po3⟩ => ?_⟩⟩
        cases hc : S3[n]? with
        | none => rw [hc] at po3; exact po3.elim
        | some c =>
          cases hk : keyOf y with
          | none => rw [hc, hk] at po3; cases c <;> exact po3.elim
          | some k =>
            rw [hc, hk] at po3
            cases c with
            | dK kvs =>
              dsimp only at po3
              obtain ⟨m, h2, h3⟩ := n3.st.cell n _ a hc (pre_get (n2.pre.trans n3.pre) h1)
              have := keyOf_ok (r2.mono n3.pre n3.ex) hk
              subst this
              refine ⟨_, DGet.k h2, ?_⟩
              cases hv : valR kvs k with
              | some r =>
                rw [hv] at po3
                obtain ⟨w', q1, q2⟩ := valR_some h3 hv
                rw [q1]
                exact po3 γ3 F3 H3 w' (Nx.refl n3.st) q2
              | none =>
                rw [hv] at po3
                rw [valR_none h3 hv]
                exact po3 γ3 F3 H3 w (Nx.refl n3.st) r3
            | _ => exact po3.elim
      | _ => exact po1.elim
    | _ => exact po1.elim⟩
end
end Z


set_option Elab.async false
set_option linter.all false
set_option autoImplicit false
set_option maxRecDepth 100000
set_option maxHeartbeats 4000000
/-! Zcall: defs, their promises, their calls. -/
namespace Z
open PySem PySem.Spec PyProof.Rows L2

/-- what a def promises, by its function -/
def spZ (g : Gd) (mf : FN) : Sp := fun vs H Q E => ∃ γ S F G args, StR g none γ S F G H ∧ RVs g none γ F args vs ∧ Post g none γ F G (fun γ F => RVr g none γ F) Q E (mf args S)
structure FnZ (g : Gd) (k : Nat) (f : Addr) (fd : FuncData) (ps : List Str) (mf : FN) : Prop where
  len : ∀ args S, mf args S ≠ .stuck → args.length = ps.length
  run : ∀ (A : Around) (outer : List PySem.Env) (s : Shared) (H : Hp) (args : Args) (us : List Value) (vs : List V) (Q : VK) (E : XK), Room k A → A.guards = some [] → Env0 g.P g.w g.K g.mg g.base A outer s H → BindsTo s fd args (ps.zip us) → Vals vs us → spZ g mf vs H Q E →
    codeAny (model g.P g.w) A (.call (.ref f) args) (CR (L2.CX g.P g.w) outer g.P g.w H s Q E) s
theorem FnZ.mono {g : Gd} {j k : Nat} {f : Addr} {fd : FuncData} {ps : List Str} {mf : FN} (F : FnZ g j f fd ps mf) (h : j ≤ k) : FnZ g k f fd ps mf :=
  ⟨F.len, fun A outer s H args us vs Q E hr => F.run A outer s H args us vs Q E (hr.mono h)⟩

/-- from a body's end -/
def fin : SRes → Res RV
  | .rt r S => .ok r S
  | .nx _ S => .ok (.p .none) S
  | .exc c fs _ S => .exc c fs S
  | _ => .stuck
def mDef (np nN : Nat) (body : MS) : FN := fun args S => if args.length = np then fin (body (args.map some ++ List.replicate (nN - np) none) S) else .stuck
abbrev cxt (g : Gd) (N : List Str) (sc : Scope) (k : Nat) : Cxt := ⟨g, N, sc, k, true, true, none⟩
theorem start_env {g : Gd} {xc : XC} {γ : List Addr} {F : Hp} {args : List RV} {vs : List V} {N : List Str} {np : Nat} (hxc : xc = none) (h : RVs g xc γ F args vs) (hn : args.length = np) : EnvK g xc γ F (args.map some ++ List.replicate (N.length - np) none) (L2.start N vs) := by
  have hl := h.len
  refine ⟨by unfold L2.start; simp [hl, hn], fun i r hi => ?_, fun x hx => by rw [hxc] at hx; cases hx⟩
  by_cases q : i < args.length
  · rw [List.getElem?_append_left (by simpa using q), List.getElem?_map] at hi
    cases e : args[i]? with
    | none => rw [e] at hi; cases hi
    | some r' =>
      rw [e] at hi; cases hi
      obtain ⟨v, h1, h2⟩ := h.at e
      refine ⟨v, ?_, h2⟩
      unfold L2.start
      rw [List.getElem?_append_left (by rw [List.length_map, hl]; exact q), List.getElem?_map, h1]; rfl
  · rw [List.getElem?_append_right (by simpa using q), List.getElem?_replicate] at hi
    split at hi <;> cases hi
theorem Fit.start (g : Gd) {N ps : List Str} {sc : Scope} {k : Nat} (Sc : FnScope N ps sc) (qual : Str) (f : Addr) (cd : Value) (A : Around) (outer : List PySem.Env) (s : Shared) (H : Hp) (E : XK) (hr : Room k (A.deeper (envOfC qual sc s.heap.objs.size f cd))) (hg : A.guards = some []) :
    Fit (cxt g N sc k) (cxOf (L2.CX g.P g.w) g.P g.w g.K g.mg g.base N qual sc f cd A outer s H E) (fun cls d _ H => E cls d H) where
  eP := rfl
  ew := rfl
  eK := rfl
  em := rfl
  eb := rfl
  eN := rfl
  nd := Sc.nd
  es := rfl
  ec := rfl
  rm := fun _ => hr
  un := hr.un
  gu := hg
  tk := takes_of rfl rfl rfl rfl
  tp := fun _ => ⟨rfl, rfl, fun _ => rfl⟩
  ow := passes_of rfl
  sx := fun _ _ h => by cases h
theorem fnz_of {g : Gd} {x qual : Str} {st : Stmt} {f : Addr} {fd : FuncData} {N ps : List Str} {k : Nat} {body : MS} (F : Fun g.K x qual st f fd) (Sc : FnScope N ps (defScope st)) (hb : SSs (cxt g N (defScope st) k) (defBody st) body) :
    FnZ g (k + 1) f fd ps (mDef ps.length N.length body) := by
  obtain ⟨oc, od, kV, doc, pm, an, cdv, ct, osl, rfl, lk, hcd⟩ := F.ex
  refine ⟨fun args S h => ?_, fun A outer s H args us vs Q E hr hg e0 hbi r hsp => ?_⟩
  · unfold mDef at h
    by_cases q : args.length = ps.length
    · exact q
    · rw [if_neg q] at h; exact absurd rfl h
  obtain ⟨γ, S, F0, G, rs, st0, rr, po⟩ := hsp
  have hn : rs.length = ps.length := by
    unfold mDef at po
    by_cases q : rs.length = ps.length
    · exact q
    · rw [if_neg q] at po; exact po.elim
  have hl : vs.length = ps.length := by rw [rr.len]; exact hn
  have KX : g.K.In s.heap := e0.mod.kin.keeps fun b o e => (e0.bs b o e).1
  have lim : s.heap.NoLimit := e0.mod.nolimit.keeps fun b o e => (e0.bs b o e).1
  have hk : ∀ y ∈ ps.zip us, (defScope st).names.lookup y.1 = some .local ∨ ((defScope st).names.lookup y.1 = some .cell ∧ ((cellsFrom (s.heap.objs.size + 1) (defScope st).names []).lookup y.1).isSome = true) := by
    rintro ⟨n, v⟩ hy
    exact (Sc.par n (List.of_mem_zip hy).1).elim .inl fun q => .inr ⟨q, PySem.W.cellsFrom_some _ _ _ (.inl q)⟩
  refine codeAny_call_function hr.depth (KX _ _ lk) rfl Sc.co Sc.gen rfl (PySem.W.codeRec_of KX hcd) (hbi _ _ _ _ (wpAny_newFunctionEnv_cells Sc.kind hk fun env he s1 x1 => ?_))
  subst he
  refine ⟨lim.keeps x1.toInCall.keep, codeAny_func ?_⟩
  have hr' := hr.deeper (envOfC qual (defScope st) s.heap.objs.size f cdv)
  have I := inv_start (CX := L2.CX g.P g.w) (E := E) (H := H) (A := A) Sc hr.hd e0 hl r x1
  have hrun := (hb _ _ (Fit.start g Sc qual f cdv A outer s H E hr' hg)).run [] s1 (L2.start N vs) H { nx := fun _ H' => Q .non H', rt := Q } I ⟨γ, S, F0, G, _, st0, start_env (N := N) rfl rr hn, by
    unfold mDef at po
    rw [if_pos hn] at po
    generalize body _ S = q at po ⊢
    cases q with
    | nx e S' => exact fun γ' F' H' σ' n _ => po γ' F' H' .non n .non
    | rt r S' => exact po
    | bk e S' => exact po.elim
    | ct e S' => exact po.elim
    | exc c fs e S' => exact fun γ' F' H' σ' d n _ q => po γ' F' H' d n q
    | stuck => exact po⟩
  refine wpAny_mono hrun (fun fl s' hs => ?_) fun e s' hs => hs
  cases fl with
  | ret u => obtain ⟨v, σ', H', J, rv, q⟩ := hs; exact ⟨v, H', J.os, J.bare, J.base, J.hok, rv, q⟩
  | next => obtain ⟨σ', H', J, q⟩ := hs; exact ⟨.non, H', J.os, J.bare, J.base, J.hok, rfl, q⟩
  | brk => obtain ⟨_, _, _, q⟩ := hs; exact q.elim
  | cont => obtain ⟨_, _, _, q⟩ := hs; exact q.elim

/-- a def as its callers know it -/
structure DefZ (g : Gd) (x : Str) (k : Nat) (mf : FN) : Prop where
  ex : ∃ f fd ps, FnZ g k f fd ps mf ∧ g.mg x = some (.ref f) ∧ PySem.W.keepIn g.K (.ref f) = true ∧ Binds g.K fd ps []
section
variable {Γ : Cxt} {pos : Pos} {e : Expr} {es : List Expr} {ms : MA} {mf : FN} {x : Str} {p : Pos} {j : Nat}
theorem run_fnz {X : Cx} {W : WX} (fit : Fit Γ X W) {f : Addr} {fd : FuncData} {ps : List Str} (F : FnZ Γ.g j f fd ps mf) (hj : j ≤ Γ.k) (hc : Γ.calm = true) (hx : Γ.xc = none) (hb : Binds Γ.g.K fd ps []) {pins : List (Addr × Obj)} {σ : L2.St} {H : Hp} {s : Shared} {Q : VK} {us : List Value} {vs : List V}
    (I : L2.Inv X pins σ H s) (r : Vals vs us) {γ : List Addr} {S : Store} {F0 G : Hp} {l : List RV} (st : StR Γ.g Γ.xc γ S F0 G H) (rl : RVs Γ.g Γ.xc γ F0 l vs) (po : Post Γ.g Γ.xc γ F0 G (RelV' Γ) Q (Wσ W σ) (mf l S)) :
    wpAny (model X.prog X.w) X.A (call (.ref f) us) (EP X pins σ Q) X.xe s := by
  obtain ⟨⟨P, w, K, mg, base, adr⟩, N, sc, k, top, calm, xc⟩ := Γ
  obtain ⟨eP, ew, eK, em, eb, eN, nd, es, ec, rm, un, gu, tk, tp, ow, _⟩ := fit
  dsimp only at *
  subst eP ew eK em eb hx
  have hne : mf l S ≠ .stuck := fun z => by rw [z] at po; exact po
  have hl : us.length = ps.length := by rw [← r.length, rl.len]; exact F.len _ _ hne
  have hb' := hb s us I.kIn (by rw [List.append_nil]; exact hl)
  rw [List.append_nil] at hb'
  refine wpAny_call (codeAny_mono (F.run X.A X.stack s H ⟨us, []⟩ us vs Q (Wσ W σ) ((rm hc).mono hj) gu I.env0 hb' r ⟨γ, S, F0, G, l, st, rl, po⟩) fun r s' hq => ?_)
  cases r with
  | error e => exact tk e s' (XE.of_call I (fun _ _ _ h => h) hq)
  | ok fl =>
    cases fl with
    | ret u => exact I.after hq
    | next => exact hq.elim
    | brk => exact hq.elim
    | cont => exact hq.elim
theorem se_call (D : DefZ Γ.g x j mf) (ha : SA Γ (e :: es) ms) (hj : j ≤ Γ.k := by exact Nat.le_of_ble_eq_true rfl) (hg : Γ.sc.names.lookup x = some .globalImplicit := by rfl) (hc : Γ.calm = true := by rfl) (hx : Γ.xc = none := by rfl)
    (hd : (x == ("__debug__" : Str)) = false := by decide) (he : ∀ env : PySem.Env, starEach (e :: es) env = (false, eval e env) :: starEach es env := by intro _; rfl) (hp : ∀ env : PySem.Env, (backTo pos (starEach es env)).any (·.1) = false := by intro _; rfl) :
    SE Γ (.Call (.Name x p) (e :: es) [] pos) (mCall mf ms) := fun X W fit => by
  obtain ⟨f, fd, ps, F, hm, hk, hb⟩ := D.ex
  refine ⟨fun pins s σ H Q I ⟨γ, S, F0, G, env, st, er, po⟩ => ?_⟩
  refine wpAny_Call_Name_kw (ld_glob I (gl_of fit hg) (by rw [fit.em]; exact hm) ?_ hd)
  refine PySem.W.callWith_K (h₀ := X.base) I.ok.mod.kin (by rw [fit.eK]; exact hk) (thn ((ha X W fit).run pos pins s σ H _ I ⟨γ, S, F0, G, env, st, er, Post.of_bind (R := RelVs' Γ) po⟩) fun us s1 ⟨vs, H1, I1, r, γ1, S1, F1, l, e1, n1, r1, po1⟩ => ⟨I1.kIn, ?_⟩) (he X.env) (hp X.env)
  exact run_fnz fit F hj hc hx hb I1 r n1.st r1 po1
theorem se_call0 (D : DefZ Γ.g x j mf) (hj : j ≤ Γ.k := by exact Nat.le_of_ble_eq_true rfl) (hg : Γ.sc.names.lookup x = some .globalImplicit := by rfl) (hc : Γ.calm = true := by rfl) (hx : Γ.xc = none := by rfl)
    (hd : (x == ("__debug__" : Str)) = false := by decide) : SE Γ (.Call (.Name x p) [] [] pos) (mCall mf aNil) := fun X W fit => by
  obtain ⟨f, fd, ps, F, hm, hk, hb⟩ := D.ex
  refine ⟨fun pins s σ H Q I ⟨γ, S, F0, G, env, st, er, po⟩ => ?_⟩
  refine wpAny_Call_Name_kw (ld_glob I (gl_of fit hg) (by rw [fit.em]; exact hm) ?_ hd)
  exact PySem.W.callWith_K0 I.kIn (by rw [fit.eK]; exact hk) (run_fnz (us := []) fit F hj hc hx hb I .nil st .nil po)
end
end Z


set_option Elab.async false
set_option linter.all false
set_option autoImplicit false
set_option maxRecDepth 100000
set_option maxHeartbeats 4000000
/-! Zx1: own exception classes over any builtin one, made and filled by an own __init__. -/
namespace Z
open PySem PySem.Spec PyProof.Rows L2 PySem.HandSPX
/-- own classes, then bmB -/
def refsB (bmB : List Value) : List Value → Bool
  | .ref _ :: r => refsB bmB r
  | l => l == bmB
theorem refsB_split {bmB : List Value} : ∀ l : List Value, refsB bmB l = true → ∃ cs : List Addr, l = cs.map Value.ref ++ bmB := by
  intro l
  induction l with
  | nil => intro h; exact ⟨[], beq_iff_eq.mp h⟩
  | cons a r ih =>
    intro h
    cases a with
    | ref c => obtain ⟨cs, e⟩ := ih h; exact ⟨c :: cs, by rw [e]; rfl⟩
    | _ => exact ⟨[], beq_iff_eq.mp h⟩
theorem refs_contains (X : String) (bmB : List Value) : ∀ cs : List Addr, (cs.map Value.ref ++ bmB).contains (.type X) = bmB.contains (.type X)
  | [] => rfl
  | c :: cs => by
    show ((Value.ref c) :: (cs.map Value.ref ++ bmB)).contains (.type X) = _
    rw [List.contains_cons, refs_contains X bmB cs]; rfl
open Builtin Builtin.ObjectAttr in
theorem refs_pass (self : Value) (bmB : List Value) (h : refuseLoop self "__setattr__" bmB = pure ()) : ∀ cs : List Addr, refuseLoop self "__setattr__" (cs.map Value.ref ++ bmB) = pure ()
  | [] => h
  | c :: cs => by
    show refuseLoop self "__setattr__" ((Value.ref c) :: (cs.map Value.ref ++ bmB)) = _
    rw [PySem.refuseLoop_ref]; exact refs_pass self bmB h cs
open Builtin Builtin.ObjectAttr in
/-- a builtin class of exceptions: how it is made (newB's way), filled, stored at -/
structure BaseZ (B newB newId nInit initId : String) (bmN bmB : List Value) : Prop where
  N : ExcBaseFacts newB newId nInit bmN
  hB : bmB.contains (.type newB) = true
  hA : bmB.contains (.type "AttributeError") = false
  hNm : bmB.contains (.type "NameError") = false
  hI : bmB.contains (.type B) = true
  ob : bmB.contains (.type "object") = true
  init : Slot B "__init__" initId
  initEntry : entryFor table initId = some Builtin.«BaseException.__init__»
  initSplit : splitId initId = some (B, "__init__")
  initKind : builtinKind initId = some .slot
  initRow : Manifest.signature? initId = some ⟨.positional, "*", B, .self, [⟨"args", .varPos, false⟩]⟩
  noStar : (B != "*") = true
  pass : ∀ self, refuseLoop self "__setattr__" bmB = pure ()
abbrev mroVE : List Value := [.type "ValueError", .type "Exception", .type "BaseException", .type "object"]
abbrev mroIE : List Value := [.type "IndexError", .type "LookupError", .type "Exception", .type "BaseException", .type "object"]
abbrev mroLE : List Value := [.type "LookupError", .type "Exception", .type "BaseException", .type "object"]
abbrev mroKE : List Value := [.type "KeyError", .type "LookupError", .type "Exception", .type "BaseException", .type "object"]
abbrev mroOE : List Value := [.type "OverflowError", .type "ArithmeticError", .type "Exception", .type "BaseException", .type "object"]
theorem bVE : BaseZ "ValueError" "ValueError" "ValueError.__new__" "ValueError.__init__" "ValueError.__init__" mroVE mroVE := by
  have F := PySem.F.excBase_ValueError
  exact ⟨F, by decide +kernel, by decide +kernel, by decide +kernel, by decide +kernel, by decide +kernel, F.init, F.initEntry, F.initSplit, F.initKind, F.initRow, F.noStar, fun _ => by kernel_rfl⟩
theorem bIE : BaseZ "IndexError" "IndexError" "IndexError.__new__" "IndexError.__init__" "IndexError.__init__" mroIE mroIE := by
  have F := PySem.F.excBase_IndexError
  exact ⟨F, by decide +kernel, by decide +kernel, by decide +kernel, by decide +kernel, by decide +kernel, F.init, F.initEntry, F.initSplit, F.initKind, F.initRow, F.noStar, fun _ => by kernel_rfl⟩
theorem bOE : BaseZ "OverflowError" "OverflowError" "OverflowError.__new__" "OverflowError.__init__" "OverflowError.__init__" mroOE mroOE := by
  have F := PySem.F.excBase_OverflowError
  exact ⟨F, by decide +kernel, by decide +kernel, by decide +kernel, by decide +kernel, by decide +kernel, F.init, F.initEntry, F.initSplit, F.initKind, F.initRow, F.noStar, fun _ => by kernel_rfl⟩
theorem bKE : BaseZ "KeyError" "LookupError" "LookupError.__new__" "LookupError.__init__" "KeyError.__init__" mroLE mroKE := by
  have F := PySem.F.excBase_LookupError
  have G := PyProof.Rows.excClass_KeyError
  exact ⟨F, by decide +kernel, by decide +kernel, by decide +kernel, by decide +kernel, by decide +kernel, G.init, G.initEntry, G.initSplit, G.initKind, G.initSig, G.notStar, fun _ => by kernel_rfl⟩
end Z


set_option Elab.async false
set_option linter.all false
set_option autoImplicit false
set_option maxRecDepth 100000
set_option maxHeartbeats 4000000
/-! Zx2: the machine's steps for own exception classes over any builtin one. -/
namespace Z
open PySem PySem.Spec PySem.Calls PyProof.Rows PySem.W PySem.HandSPX
section
variable {M : Model} {A : Around} {E : Value → Shared → Prop} {h : Heap} {g : Array GenState} {d : Drawn} {t : Nat} {os : OsState}
variable {nm q : Str} {C N : Addr} {bs bmB bmN : List Value} {cs : List Addr} {hdct : Bool} {sn : List Str} {sub : List Value} {ab : Bool} {col : Option Bool} {dd : Option Addr} {k0 k1 k2 k3 k5 : Option Value} {B newB newId nInit initId : String}
theorem mroHas (X : String) (b : Bool) (e : bmB.contains (.type X) = b) : (Value.ref C :: (cs.map Value.ref ++ bmB)).contains (.type X) = b := by
  rw [List.contains_cons, refs_contains, e]; rfl
theorem zchk_new (Y : BaseZ B newB newId nInit initId bmN bmB) {rest : List Value} {Q : Unit → Shared → Prop} (hC : h.get? C = some (excClassObj nm q C N bs (cs.map Value.ref ++ bmB) hdct sn sub ab col dd k0 k1 k2 k3 k5 newId))
    (hq : Q () ⟨h, g, d, t, os⟩) : wpAny M A (checkBuiltinCall newId ⟨.ref C :: rest, []⟩) Q E ⟨h, g, d, t, os⟩ := by
  have hY := mroHas (C := C) (cs := cs) newB true Y.hB
  have hstar := Y.N.noStar
  simp only [checkBuiltinCall, Y.N.newKind, Y.N.newSplit, Y.N.newRow]
  repeat (first | refine wpAny_loadPart_at hC ?_ | (refine wpAny_isSubtype_exc hC ?_; rw [hY]) | refine wpAny_staticBase_exc hC ?_ | refine wpAny_madeBy_exc hC ?_ | simp only [bne_self_eq_false, Bool.false_eq_true, if_false] | wp_step)
  exact hq
theorem zchk_init (Y : BaseZ B newB newId nInit initId bmN bmB) {e : Addr} {oe : Obj} {rest : List Value} {Q : Unit → Shared → Prop} (hC : h.get? C = some (excClassObj nm q C N bs (cs.map Value.ref ++ bmB) hdct sn sub ab col dd k0 k1 k2 k3 k5 newId))
    (he : h.get? e = some oe) (hcls : oe.cls = .ref C) (hq : Q () ⟨h, g, d, t, os⟩) : wpAny M A (checkBuiltinCall initId ⟨.ref e :: rest, []⟩) Q E ⟨h, g, d, t, os⟩ := by
  have hY := mroHas (C := C) (cs := cs) B true Y.hI
  have hstar := Y.noStar
  simp only [checkBuiltinCall, Y.initKind, Y.initSplit, Y.initRow]
  repeat (first | (with_reducible refine wpAny_loadPart_at he ?_; rw [hcls]) | with_reducible refine wpAny_loadPart_at hC ?_ | (with_reducible refine wpAny_isSubtype_exc hC ?_; rw [hY]) | wp_step)
  refine wpAny_onRaise ?_
  rw [show ∀ (a b : String) (n : Nat), Bind.check ⟨.positional, "*", B, .self, [⟨"args", .varPos, false⟩]⟩ a b n (List.map (fun x => x.fst) ({ pos := Value.ref e :: rest } : Args).kw) = pure () from fun a b n => check_star_args _ _ _ _ _ _]
  exact wpAny_pure hq
end
section
variable {prog : Program} {w : World} {A : Around} {E : Value → Shared → Prop} {R : Result → Shared → Prop} {h : Heap} {g : Array GenState} {d : Drawn} {t : Nat} {os : OsState}
variable {nm q : Str} {C N : Addr} {bs bmB bmN : List Value} {cs : List Addr} {hdct : Bool} {sn : List Str} {sub : List Value} {ab : Bool} {col : Option Bool} {dd : Option Addr} {k0 k1 k2 k3 k5 : Option Value} {B newB newId nInit initId : String}
theorem znew (Y : BaseZ B newB newId nInit initId bmN bmB) {rest : List Value} (hC : h.get? C = some (excClassObj nm q C N bs (cs.map Value.ref ++ bmB) hdct sn sub ab col dd k0 k1 k2 k3 k5 newId))
    (hq : R (.ok (.ret (.ref (h.objs.size + 1)))) ⟨(h.push (kdv_tup rest)).push (excO C h.objs.size), g, d, t, os⟩) (hrest : rest.length ≤ sizeLine) :
    codeAny (model prog w) A (.builtin newId ⟨.ref C :: rest, []⟩) R ⟨h, g, d, t, os⟩ := by
  have hends := Y.N.ends
  have hcB := mroHas (C := C) (cs := cs) newB true Y.hB
  have hcA := mroHas (C := C) (cs := cs) "AttributeError" false Y.hA
  have hcN := mroHas (C := C) (cs := cs) "NameError" false Y.hNm
  refine codeAny_builtinAt Y.N.entry ?_
  unfold Builtin.«BaseException.__new__»
  refine PySem.wpAt_bind ?_
  show PySem.wpAt _ _ _ (stack >>= _) _ _ _
  refine PySem.wpAt_bind (PySem.wpAt_stack fun p below => PySem.wpAt_of_wpAny ?_)
  wp_walk
  refine PySem.wpAt_of_wpAny ?_
  rw [Y.N.owner]
  repeat (first | with_reducible refine wpAny_madeHere_exc Y.N.canon hC ?_ | with_reducible refine wpAny_loadPart_at hC ?_ | (with_reducible refine wpAny_isSubtype_exc hC ?_; first | rw [hcB] | rw [hcA] | rw [hcN]) | wp_step)
  show R _ _
  rw [Heap.size_push]
  exact hq
theorem ztype_call (Y : BaseZ B newB newId nInit initId bmN bmB) {rest : List Value} {fI : Addr} {Q : Fin → Shared → Prop} (hC : h.get? C = some (excClassObj nm q C N bs (cs.map Value.ref ++ bmB) hdct sn sub ab col dd k0 k1 k2 k3 k5 newId))
    (hi : Looks (model prog w) h (typeLookup (.ref C) "__init__") (some (.ref fI))) (hb : ∀ self, Looks (model prog w) h (bindSpecial (.ref fI) self) (.ref fI, [self])) (hrest : rest.length ≤ sizeLine)
    (hq : codeAny (model prog w) A (.call (.ref fI) ⟨.ref (h.objs.size + 1) :: rest, []⟩) (fun r s' => match r with | .ok (.ret v) => v = .none ∧ Q (.done (.ret (.ref (h.objs.size + 1)))) s' | .ok _ => False | .error e => E e s')
      ⟨(h.push (kdv_tup rest)).push (excO C h.objs.size), g, d, t, os⟩) : wpAny (model prog w) A (Builtin.«type.__call__» ⟨.ref C :: rest, []⟩) Q E ⟨h, g, d, t, os⟩ := by
  repeat (first | with_reducible refine wpAny_loadPart_at hC ?_ | with_reducible refine wpAny_madeBy_exc hC ?_ | wp_step)
  refine codeAny_call_builtin_code (Code.quiet_builtin _ Y.N.quiet) (zchk_new Y hC ?_)
  refine znew Y hC ?_ hrest
  show wpAny _ _ _ _ _ _
  have k : ∀ b o, h.get? b = some o → ((h.push (kdv_tup rest)).push (excO C h.objs.size)).get? b = some o := fun b o z => Heap.get?_push_of_some _ (Heap.get?_push_of_some _ z)
  have hC1 := k _ _ hC
  have hget : ((h.push (kdv_tup rest)).push (excO C h.objs.size)).get? (h.objs.size + 1) = some (excO C h.objs.size) := by heap_get
  have hcC : (Value.ref C :: (cs.map Value.ref ++ bmB)).contains (.ref C) = true := by simp
  have i1 := hi.keeps k
  have b1 := (hb (.ref (h.objs.size + 1))).keeps k
  unfold isInstance
  repeat (first | with_reducible refine wpAny_loadPart_at hget ?_ | (with_reducible refine wpAny_isSubtype_exc hC1 ?_; rw [hcC]) | wp_step)
  show wpAny _ _ (typeLookup (.ref C) _) _ _ _
  refine i1.at ?_
  refine wpAny_holding (wpAny_bind (b1.at ?_))
  refine wpAny_bind (wpAny_call (codeAny_mono hq fun r s' z => ?_))
  rcases r with e | (v | _ | _ | _) <;> first | exact z | exact z.elim | skip
  obtain ⟨rfl, z⟩ := z
  first
    | exact wpAny_pure (wpAny_pure z)
    | (wp_walk; exact z)
theorem zcall_own (Y : BaseZ B newB newId nInit initId bmN bmB) {rest : List Value} {fI : Addr} (hC : h.get? C = some (excClassObj nm q C N bs (cs.map Value.ref ++ bmB) hdct sn sub ab col dd k0 k1 k2 k3 k5 newId))
    (hi : Looks (model prog w) h (typeLookup (.ref C) "__init__") (some (.ref fI))) (hb : ∀ self, Looks (model prog w) h (bindSpecial (.ref fI) self) (.ref fI, [self])) (hrest : rest.length ≤ sizeLine)
    (hq : codeAny (model prog w) (A.under (.builtin "type.__call__" ⟨.ref C :: rest, []⟩)) (.call (.ref fI) ⟨.ref (h.objs.size + 1) :: rest, []⟩) (InitBack (h.objs.size + 1) R) ⟨(h.push (kdv_tup rest)).push (excO C h.objs.size), g, d, t, os⟩) :
    codeAny (model prog w) A (.call (.ref C) ⟨rest, []⟩) R ⟨h, g, d, t, os⟩ := by
  have f1 := tc_lookup
  have f2 := tc_bind (.ref C)
  have hTy : (⟨h, g, d, t, os⟩ : Shared).TypeIs (.ref C) "type" := ⟨_, hC, rfl⟩
  refine codeAny_of_tree ?_
  show wpAny _ _ (callAny (.ref C) _) _ _ _
  repeat (any_goals (first | assumption | with_reducible refine wpAny_loadPart_at hC ?_ | wp_step))
  refine ⟨rfl, ?_⟩
  refine codeAny_call_builtin_at (Code.quiet_builtin _ (by decide +kernel)) entry_typeCall (wpAny_check_type_call_sub hC (ztype_call Y hC hi hb hrest ?_))
  refine codeAny_mono hq fun r s' z => ?_
  rcases r with e | (v | _ | _ | _) <;> exact z
theorem zinit (Y : BaseZ B newB newId nInit initId bmN bmB) {e t0 : Addr} {rest : List Value} (hC : h.get? C = some (excClassObj nm q C N bs (cs.map Value.ref ++ bmB) hdct sn sub ab col dd k0 k1 k2 k3 k5 newId)) (he : h.get? e = some (excO C t0)) (hrest : rest.length ≤ sizeLine)
    (hq : ∀ h' t1, (∀ b o, b ≠ e → h.get? b = some o → h'.get? b = some o) → h'.get? e = some (excO C t1) → R (.ok (.ret .none)) ⟨h', g, d, t, os⟩) : codeAny (model prog w) A (.call (.builtin initId) ⟨.ref e :: rest, []⟩) R ⟨h, g, d, t, os⟩ := by
  refine codeAny_call_builtin Y.init.plain Y.initEntry (zchk_init Y hC he rfl ?_)
  wp_walk
  refine hq _ h.objs.size (fun b o hb ho => ?_) ?_
  · rw [Heap.get?_update_other _ _ (Ne.symm hb)]
    exact Heap.get?_push_of_some _ ho
  · rw [Heap.get?_update_self _ (Heap.get?_push_of_some _ he) rfl]
    rfl
end
/-! self.f = v -/
section
variable {prog : Program} {w : World} {A : Around} {E : Value → Shared → Prop} {R : Result → Shared → Prop} {hp : Heap} {g : Array GenState} {d : Drawn} {t : Nat} {os : OsState} {bmB bmN : List Value} {B newB newId nInit initId : String}
variable {K : Frag} {name : Str} {tk : Tok} {v : Value} {x C : Addr} {fv : Array Value} {nm q : Str} {N : Addr} {bs : List Value} {sn : List Str} {sub : List Value} {ab : Bool} {col : Option Bool} {cs : List Addr} {od : Option Obj} {dx : Option Addr}
open Builtin Builtin.ObjectAttr
theorem zosa (Y : BaseZ B newB newId nInit initId bmN bmB) (X : K.In hp) (I : InstAt hp x { cls := .ref C, dict := dx, data := .fields fv } C od)
    (hcd : clsIn K C = some ⟨nm, bs, .ref C :: (cs.map Value.ref ++ bmB), N, q, true, sn, sub, ab, col, false⟩) (ha : findIn K (.ref C) name = some none)
    (hq : wpAny (model prog w) A.in1 (storeInOwnDict (.ref x) (.ref C) (.str name tk) name v false) (fun r s' => match r with | .done f => R (.ok f) s' | _ => False) (fun _ _ => False) ⟨hp, g, d, t, os⟩) :
    codeAny (model prog w) A (.call (.builtin "object.__setattr__") ⟨[.ref x, .str name tk, v], []⟩) R ⟨hp, g, d, t, os⟩ := by
  have SF := F.store_object
  have hob := mroHas (C := C) (cs := cs) "object" true Y.ob
  have sub : Looks (model prog w) hp (isInstance (.ref x) (.type "object")) true := I.type.andThen (looks_mroIn X (by unfold mroIn; rw [hcd, Option.bind_some, if_neg (by simp), hob]))
  refine codeAny_call_builtin SF.slot.plain SF.entry (@check_slot (model prog w) _ _ ⟨hp, g, d, t, os⟩ "object.__setattr__" "object" "__setattr__" (.ref x) [.str name tk, v] [] _ SF.kind SF.split sub (SF.args (.ref x) (.str name tk) v) ?_)
  have hmr : Looks (model prog w) hp (mroOf (.ref C)) (.ref C :: (cs.map Value.ref ++ bmB)) := (looks_clsIn X hcd).andThen .now
  have L3 : Looks (model prog w) hp (storeTaker? none) none := .now
  rw [osa_eq, refuse_eq]
  refine wpAny_bind (wpAny_bind (I.type.at (wpAny_bind (hmr.at ?_))))
  rw [PySem.refuseLoop_ref, refs_pass _ _ (Y.pass _)]
  refine wpAny_pure (wpAny_bind (I.type.at (wpAny_bind ((looks_findIn X ha).at (wpAny_bind (L3.at ?_))))))
  refine wpAny_mono hq (fun r s' z => ?_) fun _ _ z => z.elim
  cases r with
  | done f => exact z
  | again c => exact z.elim
theorem zosa_new (Y : BaseZ B newB newId nInit initId bmN bmB) (X : K.In hp) (hx : hp.get? x = some { cls := .ref C, data := .fields fv })
    (hcd : clsIn K C = some ⟨nm, bs, .ref C :: (cs.map Value.ref ++ bmB), N, q, true, sn, sub, ab, col, false⟩) (ha : findIn K (.ref C) name = some none)
    (hq : ∀ h' tk' dx, (∀ b o, b ≠ x → hp.get? b = some o → h'.get? b = some o) → hp.objs.size ≤ dx → dx ≠ x → h'.get? x = some { cls := .ref C, dict := some dx, data := .fields fv } →
      h'.Ns1 dx (fun y => if y = name then some v else none) → R (.ok (.ret .none)) ⟨h', g, d, tk', os⟩) :
    codeAny (model prog w) A (.call (.builtin "object.__setattr__") ⟨[.ref x, .str name tk, v], []⟩) R ⟨hp, g, d, t, os⟩ := by
  have hxs : x ≠ hp.objs.size := Nat.ne_of_lt (Heap.lt_size hx)
  have hcls : Looks (model prog w) hp (classData C) _ := looks_clsIn X hcd
  refine zosa Y X (od := none) ⟨hx, rfl, rfl, trivial⟩ hcd ha ?_
  unfold storeInOwnDict ownDictForStores
  repeat (first | with_reducible refine store_in_new ?_ ?_ | with_reducible refine wpAny_loadPart_at hx ?_ | with_reducible refine hcls.at ?_ | wp_step)
  · exact ⟨_, #[], _, (Heap.get?_update_ne _ _ _ _ hxs.symm).trans (Heap.get?_push_at rfl rfl), rfl, fun e he => absurd he (by simp), fun _ => rfl⟩
  · intro h' tk' hn' hs
    have hx1 : (hp.push { cls := .type "dict", data := .dict #[] }).get? x = some { cls := .ref C, data := .fields fv } := Heap.get?_push_of_some _ hx
    exact hq h' tk' hp.objs.size (fun b o hb ho => (hs.2 b (Nat.ne_of_lt (Heap.lt_size ho))).trans ((Heap.get?_update_ne _ _ _ _ hb).trans (Heap.get?_push_of_some _ ho))) (Nat.le_refl _) hxs.symm
      ((hs.2 x hxs).trans (Heap.get?_update_self _ hx1 rfl)) hn'
theorem zosa_old {dy : Addr} {m0 : Str → Option Value} {nl : List Str} (Y : BaseZ B newB newId nInit initId bmN bmB) (X : K.In hp) (hx : hp.get? x = some { cls := .ref C, dict := some dy, data := .fields fv }) (hns : hp.Ns1 dy m0) (hw : Within m0 nl) (hz : nl.length ≤ 1000)
    (hcd : clsIn K C = some ⟨nm, bs, .ref C :: (cs.map Value.ref ++ bmB), N, q, true, sn, sub, ab, col, false⟩) (ha : findIn K (.ref C) name = some none)
    (hq : ∀ h' tk', (∀ b o, b ≠ dy → hp.get? b = some o → h'.get? b = some o) → h'.Ns1 dy (fun y => if y = name then some v else m0 y) → R (.ok (.ret .none)) ⟨h', g, d, tk', os⟩) :
    codeAny (model prog w) A (.call (.builtin "object.__setattr__") ⟨[.ref x, .str name tk, v], []⟩) R ⟨hp, g, d, t, os⟩ := by
  obtain ⟨oD, esD, epD, hoD, hdD, _⟩ := hns.count hw
  have hcls : Looks (model prog w) hp (classData C) _ := looks_clsIn X hcd
  refine zosa Y X (od := some oD) ⟨hx, rfl, rfl, hoD⟩ hcd ha ?_
  unfold storeInOwnDict ownDictForStores
  repeat (first | with_reducible refine PySem.OEX.store_in_old hns hw hz ?_ | with_reducible refine wpAny_loadPart_at hx ?_ | with_reducible refine hcls.at ?_ | wp_step)
  intro h' tk' hn' hs
  exact hq h' tk' (fun b o hb ho => (hs.2 b hb).trans ho) hn'
end
end Z


set_option Elab.async false
set_option linter.all false
set_option autoImplicit false
set_option maxRecDepth 100000
set_option maxHeartbeats 4000000
/-! Zx3: own exceptions in the hand layer: self.f = e, B.__init__(self, ..), C(..). -/
namespace Z
open PySem PySem.Spec PyProof.Rows L2
/-- what the written part says of an own class of exceptions -/
structure OexZ (K : PySem.W.Frag) (B newB newId nInit initId : String) (bmN bmB : List Value) (C : Addr) : Prop where
  Y : BaseZ B newB newId nInit initId bmN bmB
  cls : ∃ nm q N bs bm sn sub ab col dd k0 k1 k2 k3 k5, K.lookup C = some (excClassObj nm q C N bs bm true sn sub ab col dd k0 k1 k2 k3 k5 newId) ∧ refsB bmB bm = true
  sa : PySem.W.findIn K (.ref C) "__setattr__" = some (some (.builtin "object.__setattr__"))
  exC : PySem.W.subIn K (.ref C) (.type "BaseException") = some true
  tyC : PySem.W.typeIn K (.ref C) = some (.type "type")
  kC : PySem.W.keepIn K (.ref C) = true
section
variable {K : PySem.W.Frag} {B newB newId nInit initId : String} {bmN bmB : List Value} {C : Addr}
theorem OexZ.get (T : OexZ K B newB newId nInit initId bmN bmB C) : ∃ nm q N bs cs sn sub ab col dd k0 k1 k2 k3 k5, K.lookup C = some (excClassObj nm q C N bs (List.map Value.ref cs ++ bmB) true sn sub ab col dd k0 k1 k2 k3 k5 newId) ∧
    PySem.W.clsIn K C = some { name := nm, bases := bs, mro := .ref C :: (List.map Value.ref cs ++ bmB), ns := N, qualname := q, hasDict := true, slotNames := sn, subclasses := sub, abstract := ab, collection := col, hasDel := false } := by
  obtain ⟨nm, q, N, bs, bm, sn, sub, ab, col, dd, k0, k1, k2, k3, k5, h1, h2⟩ := T.cls
  obtain ⟨cs, rfl⟩ := refsB_split bm h2
  exact ⟨nm, q, N, bs, cs, sn, sub, ab, col, dd, k0, k1, k2, k3, k5, h1, by unfold PySem.W.clsIn; rw [h1] <;> rfl⟩
variable {X : Cx} {pins : List (Addr × Obj)} {σ : L2.St} {H : Hp} {s : Shared} {a dx : Addr} {f : Str} {y : V} {u : Value} {fs : List (Str × V)} {Q : Unit → Shared → Prop} {E : Value → Shared → Prop} {A : Around}
theorem zst_new (T : OexZ X.K B newB newId nInit initId bmN bmB C) (I : L2.Inv X pins σ H s) (e : H a = some (exo a C none)) (hno : PySem.W.findIn X.K (.ref C) f = some none) (ry : RelV y u)
    (h : ∀ dx s', H dx = none → dx ≠ a → L2.Inv X pins σ (upd (upd H dx (exd dx [(f, y)])) a (exo a C (some dx))) s' → Q () s') : wpAny (model X.prog X.w) A (setAttr (.ref a) f u) Q E s := by
  obtain ⟨nm, q, N, bs, cs, sn, sub, ab, col, dd, k0, k1, k2, k3, k5, hC, hcl⟩ := T.get
  obtain ⟨t1, ho⟩ := exo_at I.hok e
  obtain ⟨hp, g, d, t, os⟩ := s
  refine PySem.W.set_plain I.kIn (ox := { cls := .ref C, dict := none, data := .fields #[.ref t1, .none, .none, .none, .bool false, .none] }) (od := none) ⟨ho, rfl, rfl, trivial⟩ T.sa ?_
  refine zosa_new T.Y I.kIn ho hcl hno (fun h' tk' dx k dn dne hx hn => ?_)
  have hnd : H dx = none := I.hok.fresh dn
  have nd : ∀ {b : Addr} {o : Obj}, hp.get? b = some o → b ≠ dx := fun {b o} q => Nat.ne_of_lt (Nat.lt_of_lt_of_le (Heap.lt_size q) dn)
  have na : ∀ {b : Addr}, H b = none → b ≠ a := fun {b} n z => by rw [z, e] at n; cases n
  have U : L2.Un X.fs [] H (upd (upd H dx (exd dx [(f, y)])) a (exo a C (some dx))) hp h' := {
    keep := fun b o q n _ _ => k b o (na n) q
    slot := fun b o q n _ _ => ⟨o.slots, k b o (na n) q⟩
    free := fun b o q n _ => by rw [upd_ne (na n), upd_ne (nd q)]; exact n
    there := fun b o q _ => by
      by_cases hb : b = a
      · subst hb; exact ⟨_, hx⟩
      · exact ⟨o, k b o hb q⟩
    tups := fun b xs q => by rw [upd_ne (L2.at_ne e q exo_tup), upd_ne (ne_of_none q hnd)]; exact q
    frzs := fun b o v q => by rw [upd_ne (L2.at_ne e q exo_frz), upd_ne (ne_of_none q hnd)]; exact q
    tbls := fun b ps q => ⟨#[], by rw [upd_ne (L2.at_ne e q exo_tbl), upd_ne (ne_of_none q hnd), q]; simp⟩ }
  refine h dx _ hnd dne (I.un (t' := tk') U fun b o q => ?_)
  by_cases hb : b = a
  · subst hb
    rw [upd_same] at q; cases q
    exact exo_ok hx
  · rw [upd_ne hb] at q
    by_cases hd : b = dx
    · subst hd
      rw [upd_same] at q; cases q
      exact exd_ok hn (relO_put (fs := []) ry fun g => True.intro)
    · rw [upd_ne hd] at q
      refine (I.hok b o q).stay (fun c v hc z => k c v ?_ z) (fun c hc => ?_) fun c xs hc => ?_
      · rcases hc with hc | hc
        · rw [hc]; exact hb
        · exact L2.at_ne e hc exo_own
      · rw [upd_ne (L2.at_ne e hc exo_own), upd_ne (ne_of_none hc hnd)]; exact hc
      · rw [upd_ne (L2.at_ne e hc exo_tup), upd_ne (ne_of_none hc hnd)]; exact hc
theorem zst_old (T : OexZ X.K B newB newId nInit initId bmN bmB C) (I : L2.Inv X pins σ H s) (e : H a = some (exo a C (some dx))) (ed : H dx = some (exd dx fs)) (hl : fs.length ≤ 900) (hno : PySem.W.findIn X.K (.ref C) f = some none) (ry : RelV y u)
    (h : ∀ s', L2.Inv X pins σ (upd H dx (exd dx ((f, y) :: fs))) s' → Q () s') : wpAny (model X.prog X.w) A (setAttr (.ref a) f u) Q E s := by
  obtain ⟨nm, q, N, bs, cs, sn, sub, ab, col, dd, k0, k1, k2, k3, k5, hC, hcl⟩ := T.get
  obtain ⟨t1, ho⟩ := exo_at I.hok e
  obtain ⟨mA, hns, rel⟩ := exd_at I.hok ed
  have hw := within_of rel
  obtain ⟨hp, g, d, t, os⟩ := s
  obtain ⟨oD, _, _, hoD, _, _⟩ := hns.count hw
  refine PySem.W.set_plain I.kIn (ox := { cls := .ref C, dict := some dx, data := .fields #[.ref t1, .none, .none, .none, .bool false, .none] }) (od := some oD) ⟨ho, rfl, rfl, hoD⟩ T.sa ?_
  refine zosa_old T.Y I.kIn ho hns hw (by rw [List.length_map]; omega) hcl hno (fun h' tk' k hn => ?_)
  obtain ⟨o', _, _, e', _⟩ := id hn
  exact h _ (I.write (t' := tk') (x := dx) (e := dx) (o := exd dx ((f, y) :: fs)) (by rw [ed]; exact True.intro) (.inl rfl) k ⟨o', e'⟩ (exd_ok hn (relO_put ry rel)))
theorem zinit_ok {us : List Value} {Q : Value → Shared → Prop} (T : OexZ X.K B newB newId nInit initId bmN bmB C) (I : L2.Inv X pins σ H s) (e : H a = some (exo a C none)) (hl : us.length ≤ sizeLine) (h : ∀ s', L2.Inv X pins σ H s' → Q .none s') :
    wpAny (model X.prog X.w) A (call (.builtin initId) (.ref a :: us)) Q E s := by
  obtain ⟨nm, q, N, bs, cs, sn, sub, ab, col, dd, k0, k1, k2, k3, k5, hC, hcl⟩ := T.get
  obtain ⟨t1, ho⟩ := exo_at I.hok e
  obtain ⟨hp, g, d, t, os⟩ := s
  refine wpAny_call (zinit T.Y (I.kIn _ _ hC) ho hl fun h' t2 k hx => ?_)
  have J := I.write (t' := t) (x := a) (e := a) (o := exo a C none) (by rw [e]; exact True.intro) (.inl rfl) k ⟨_, hx⟩ (exo_ok hx)
  have eu : upd H a (exo a C none) = H := funext fun b => if hb : b = a then by rw [hb, upd_same, e] else by rw [upd_ne hb]
  rw [eu] at J
  exact h _ J

/-! readings -/
def tZI (K : PySem.W.Frag) (B newB newId nInit initId : String) (bmN bmB : List Value) (ta : TA) : TE := fun σ H Q => ta σ H fun vs H1 => ∃ (a C : Addr) (ws : List V), vs = .ref a :: ws ∧ ws.length ≤ 1000 ∧ OexZ K B newB newId nInit initId bmN bmB C ∧ H1 a = some (exo a C none) ∧ Q .non H1
def tZS (K : PySem.W.Frag) (B newB newId nInit initId : String) (bmN bmB : List Value) (f : Str) (to te : TE) : TS := fun D σ H => te σ H fun y H1 => to σ H1 fun x H2 => ∃ a C : Addr, x = .ref a ∧ OexZ K B newB newId nInit initId bmN bmB C ∧ PySem.W.findIn K (.ref C) f = some none ∧
  ((H2 a = some (exo a C none) ∧ ∀ dx, H2 dx = none → dx ≠ a → D.nx σ (upd (upd H2 dx (exd dx [(f, y)])) a (exo a C (some dx)))) ∨
    ∃ (dx : Addr) (fs : List (Str × V)), H2 a = some (exo a C (some dx)) ∧ H2 dx = some (exd dx fs) ∧ fs.length ≤ 900 ∧ D.nx σ (upd H2 dx (exd dx ((f, y) :: fs))))
end
section
variable {X : Cx} {o e : Expr} {es : List Expr} {to te : TE} {ta : TA} {f x : Str} {p p' p1 p2 pos : Pos} {B newB newId nInit initId : String} {bmN bmB : List Value}
theorem ps_zst (ho : PE X o to) (he : PE X e te) (hs : swapsWith e (some (.Attribute o f p')) pos.line X.env = pure false := by rfl) : PS X (.Assign [.Attribute o f p'] e pos) (tZS X.K B newB newId nInit initId bmN bmB f to te) := by
  refine ⟨fun pins s σ H D I h => ?_⟩
  refine plainObj_wpAny_Assign_Attribute (thn (he.run pins s σ H _ I h) fun v s1 ⟨y, H1, I1, r1, q1⟩ => thn (ho.run pins s1 σ H1 _ I1 q1) fun u s2 ⟨x, H2, I2, r2, a, C, ex, T, hno, q⟩ => ?_) hs
  subst ex
  obtain rfl : u = Value.ref a := r2
  rcases q with ⟨ea, q⟩ | ⟨dx, fs, ea, ed, hl, q⟩
  · exact zst_new T I2 ea hno r1 fun dx s' n ne J => ⟨σ, _, J, q dx n ne⟩
  · exact zst_old T I2 ea ed hl hno r1 fun s' J => ⟨σ, _, J, q⟩
theorem zi_end {pins : List (Addr × Obj)} {σ : L2.St} {H1 : Hp} {s1 : Shared} {Q : VK} {vs : List V} {us : List Value} {E : Value → Shared → Prop} (I1 : L2.Inv X pins σ H1 s1) (r1 : Vals vs us)
    (q : ∃ (a C : Addr) (ws : List V), vs = .ref a :: ws ∧ ws.length ≤ 1000 ∧ OexZ X.K B newB newId nInit initId bmN bmB C ∧ H1 a = some (exo a C none) ∧ Q .non H1) :
    wpAny (model X.prog X.w) X.A (call (.builtin initId) us) (EP X pins σ Q) E s1 := by
  obtain ⟨a, C, ws, rfl, hl, T, ea, q⟩ := q
  cases r1 with
  | @cons _ u0 _ ur ra rw' =>
    obtain rfl : u0 = Value.ref a := ra
    exact zinit_ok T I1 ea (by rw [← Paired.length rw', sizeLine_eq]; omega) fun s' J => ⟨.non, H1, J, rfl, q⟩
/-- B.__init__(self, ..), B builtin -/
theorem pe_zinit {pl : Sem Bool} (hg : Gl X x) (hm : X.mg x = none) (hbt : bootBuiltins x = some (.type B)) (hty : typeOf (.type B) = pure (.type "type")) (hst : Manifest.isStub B = false) (vV : PySem.W.findCls X.K (.type B) (.type "type") "__init__" = some (.val (.builtin initId)))
    (hin : PySem.W.handedIn (.builtin initId) = true) (ha : PA X (e :: es) ta) (hn : x ≠ "__name__" := by decide) (hdb : (x == ("__debug__" : Str)) = false := by decide)
    (hc : eval (.Call (.Attribute (.Name x p1) "__init__" p2) (e :: es) [] pos) X.env = (do
      let ov ← eval (.Name x p1) X.env
      standAt p2.atName
      let (f, first) ← holding [ov] (getMethod ov "__init__" pl)
      callWith pos f first (backTo pos (starEach (e :: es) X.env)) (backToKw pos (keywordEach [] X.env))) := by rfl)
    (he : starEach (e :: es) X.env = (false, eval e X.env) :: starEach es X.env := by rfl) (hpl : (backTo pos (starEach es X.env)).any (·.1) = false := by rfl) :
    PE X (.Call (.Attribute (.Name x p1) "__init__" p2) (e :: es) [] pos) (tZI X.K B newB newId nInit initId bmN bmB ta) := by
  refine ⟨fun pins s σ H Q I h => ?_⟩
  refine PySem.W.methodCall_KW (ld_blt I hg hm hbt ?_ hn hdb) hc
  obtain ⟨m, fr⟩ := I.fr
  refine PySem.W.method_type fr I.ok.mod.kin hty hst vV hin ?_
  show wpAny _ _ (callWith pos (Value.builtin initId) [] (backTo pos (starEach (e :: es) X.env)) []) _ _ _
  exact PyProof.Rows.callWith_method1 (thn (ha.run pos pins _ σ H _ (I.tok _) h) fun us s1 ⟨vs, H1, I1, r1, q⟩ => zi_end I1 r1 q) he hpl
/-- .. B an own class -/
theorem pe_zinitR {pl : Sem Bool} {T : Addr} (hg : Gl X x) (hm : X.mg x = some (.ref T)) (hsp : PySem.W.specialIn X.K (.ref T) "__getattribute__" = some (some (.builtin "type.__getattribute__"))) (hrd : PySem.W.readsIn X.K T (.type "type") = true)
    (vV : PySem.W.findCls X.K (.ref T) (.type "type") "__init__" = some (.val (.builtin initId))) (hin : PySem.W.handedIn (.builtin initId) = true) (ha : PA X (e :: es) ta) (hdb : (x == ("__debug__" : Str)) = false := by decide)
    (hc : eval (.Call (.Attribute (.Name x p1) "__init__" p2) (e :: es) [] pos) X.env = (do
      let ov ← eval (.Name x p1) X.env
      standAt p2.atName
      let (f, first) ← holding [ov] (getMethod ov "__init__" pl)
      callWith pos f first (backTo pos (starEach (e :: es) X.env)) (backToKw pos (keywordEach [] X.env))) := by rfl)
    (he : starEach (e :: es) X.env = (false, eval e X.env) :: starEach es X.env := by rfl) (hpl : (backTo pos (starEach es X.env)).any (·.1) = false := by rfl) :
    PE X (.Call (.Attribute (.Name x p1) "__init__" p2) (e :: es) [] pos) (tZI X.K B newB newId nInit initId bmN bmB ta) := by
  refine ⟨fun pins s σ H Q I h => ?_⟩
  refine PySem.W.methodCall_KW (ld_glob I hg hm ?_ hdb) hc
  refine PySem.W.method_cls I.kIn hsp (PySem.W.cls_value I.kIn hrd vV hin ?_)
  show wpAny _ _ (callWith pos (Value.builtin initId) [] (backTo pos (starEach (e :: es) X.env)) []) _ _ _
  exact PyProof.Rows.callWith_method1 (thn (ha.run pos pins _ σ H _ (I.tok _) h) fun us s1 ⟨vs, H1, I1, r1, q⟩ => zi_end I1 r1 q) he hpl
end
end Z


set_option Elab.async false
set_option linter.all false
set_option autoImplicit false
set_option maxRecDepth 100000
set_option maxHeartbeats 4000000
/-! Zx4: the def __init__ of an own exception class, C(..) and raise C(..). -/
namespace Z
open PySem PySem.Spec PyProof.Rows L2
/-- a base by its names -/
structure BaseN where
  (B newB newId nInit initId : String)
  (bmN bmB : List Value)
abbrev nVE : BaseN := ⟨"ValueError", "ValueError", "ValueError.__new__", "ValueError.__init__", "ValueError.__init__", mroVE, mroVE⟩
abbrev nIE : BaseN := ⟨"IndexError", "IndexError", "IndexError.__new__", "IndexError.__init__", "IndexError.__init__", mroIE, mroIE⟩
abbrev nOE : BaseN := ⟨"OverflowError", "OverflowError", "OverflowError.__new__", "OverflowError.__init__", "OverflowError.__init__", mroOE, mroOE⟩
abbrev nKE : BaseN := ⟨"KeyError", "LookupError", "LookupError.__new__", "LookupError.__init__", "KeyError.__init__", mroLE, mroKE⟩
abbrev OexN (K : PySem.W.Frag) (n : BaseN) (C : Addr) : Prop := OexZ K n.B n.newB n.newId n.nInit n.initId n.bmN n.bmB C
abbrev tZIn (K : PySem.W.Frag) (n : BaseN) (ta : TA) : TE := tZI K n.B n.newB n.newId n.nInit n.initId n.bmN n.bmB ta
abbrev tZSn (K : PySem.W.Frag) (n : BaseN) (f : Str) (to te : TE) : TS := tZS K n.B n.newB n.newId n.nInit n.initId n.bmN n.bmB f to te
/-- self.f1 = p1; .. -/
def tSts (K : PySem.W.Frag) (n : BaseN) : Nat → List Str → TS
  | _, [] => tNext
  | i, f :: r => tSeq (tZSn K n f (tVar 0) (tVar i)) (tSts K n (i + 1) r)
/-- what the def promises -/
def spI (K : PySem.W.Frag) (n : BaseN) (fields : List Str) : Sp := fun vs H Q E => ∃ (a C : Addr) (args : List V), vs = .ref a :: args ∧ args.length = fields.length ∧ fields ≠ [] ∧ fields.length ≤ 100 ∧ OexN K n C ∧ (∀ f ∈ fields, PySem.W.findIn K (.ref C) f = some none) ∧ H a = some (exo a C none) ∧
  ∀ (dx : Addr) (fvs : List (Str × V)) (H' : Hp), H dx = none → dx ≠ a → fvs = (fields.zip args).reverse → H' a = some (exo a C (some dx)) → H' dx = some (exd dx fvs) → (∀ b, b ≠ a → b ≠ dx → H' b = H b) → Q .non H'
theorem sts_old {K : PySem.W.Frag} {n : BaseN} {a C dx : Addr} {D : Ends} {σ : L2.St} (T : OexN K n C) (h0 : σ[0]? = some (some (.ref a))) : ∀ (fields : List Str) (args : List V) (i : Nat) (H : Hp) (fs : List (Str × V)), args.length = fields.length → fs.length + fields.length ≤ 200 →
    (∀ f ∈ fields, PySem.W.findIn K (.ref C) f = some none) → (∀ (j : Nat) (y : V), args[j]? = some y → σ[i + j]? = some (some y)) → H a = some (exo a C (some dx)) → H dx = some (exd dx fs) → dx ≠ a →
    (∀ H' : Hp, H' a = some (exo a C (some dx)) → H' dx = some (exd dx ((fields.zip args).reverse ++ fs)) → (∀ b, b ≠ a → b ≠ dx → H' b = H b) → D.nx σ H') → tSts K n i fields D σ H := by
  intro fields
  induction fields with
  | nil =>
    intro args i H fs hl hz hf hs ha hd hne q
    cases args with
    | nil => exact q H ha (by simpa using hd) fun b _ _ => rfl
    | cons _ _ => cases hl
  | cons f r ih =>
    intro args i H fs hl hz hf hs ha hd hne q
    cases args with
    | nil => cases hl
    | cons y ys =>
      have hy := hs 0 y rfl
      refine ⟨y, by simpa using hy, .ref a, h0, a, C, rfl, T, hf f (List.mem_cons_self ..), .inr ⟨dx, fs, ha, hd, by simp at hz; omega, ?_⟩⟩
      refine ih ys (i + 1) _ ((f, y) :: fs) (by simpa using hl) (by simp at hz ⊢; omega) (fun g hg => hf g (List.mem_cons_of_mem _ hg)) (fun j z hj => ?_) ?_ upd_same hne fun H' h1 h2 h3 => q H' h1 ?_ fun b n1 n2 => ?_
      · have := hs (j + 1) z (by simpa using hj)
        rw [show i + 1 + j = i + (j + 1) by omega]; exact this
      · rw [upd_ne (Ne.symm hne)]; exact ha
      · rw [h2]; simp
      · rw [h3 b n1 n2, upd_ne n2]
theorem sts_run {K : PySem.W.Frag} {n : BaseN} {a C : Addr} {D : Ends} {σ : L2.St} {fields : List Str} {args : List V} {H : Hp} (T : OexN K n C) (h0 : σ[0]? = some (some (.ref a))) (hl : args.length = fields.length) (hne : fields ≠ []) (hz : fields.length ≤ 100)
    (hf : ∀ f ∈ fields, PySem.W.findIn K (.ref C) f = some none) (hs : ∀ (j : Nat) (y : V), args[j]? = some y → σ[1 + j]? = some (some y)) (ha : H a = some (exo a C none))
    (q : ∀ (dx : Addr) (fvs : List (Str × V)) (H' : Hp), H dx = none → dx ≠ a → fvs = (fields.zip args).reverse → H' a = some (exo a C (some dx)) → H' dx = some (exd dx fvs) → (∀ b, b ≠ a → b ≠ dx → H' b = H b) → D.nx σ H') : tSts K n 1 fields D σ H := by
  cases fields with
  | nil => exact absurd rfl hne
  | cons f r =>
    cases args with
    | nil => cases hl
    | cons y ys =>
      have hy := hs 0 y rfl
      refine ⟨y, by simpa using hy, .ref a, h0, a, C, rfl, T, hf f (List.mem_cons_self ..), .inl ⟨ha, fun dx n1 n2 => ?_⟩⟩
      refine sts_old T h0 r ys 2 _ [(f, y)] (by simpa using hl) (by simp at hz ⊢; omega) (fun g hg => hf g (List.mem_cons_of_mem _ hg)) (fun j z hj => ?_) upd_same (by rw [upd_ne n2]; exact upd_same) n2 fun H' h1 h2 h3 => q dx _ H' n1 n2 rfl h1 ?_ fun b m1 m2 => ?_
      · have := hs (j + 1) z (by simpa using hj)
        rw [show 2 + j = 1 + (j + 1) by omega]; exact this
      · rw [h2]; simp
      · rw [h3 b m1 m2, upd_ne m1, upd_ne m2]
theorem pss_zsts {X : Cx} {n : BaseN} {i : Nat} {f x : Str} {r : List Str} {rest : List Stmt} {p p' p1 pos : Pos} (h0 : X.N[0]? = some ("self" : Str)) (hi : X.N[i]? = some x) (v0 : Vis X.env.scope "self") (vi : Vis X.env.scope x) (hr : PSs X rest (tSts X.K n (i + 1) r))
    (hd : (x == ("__debug__" : Str)) = false := by decide) (hcd : (x == ("__classdict__" : Str)) = false := by decide) (hs : swapsWith (.Name x p1) (some (.Attribute (.Name "self" p) f p')) pos.line X.env = pure false := by rfl) :
    PSs X (.Assign [.Attribute (.Name "self" p) f p'] (.Name x p1) pos :: rest) (tSts X.K n i (f :: r)) :=
  pss_cons (ps_zst (pe_var (i := 0) h0 v0) (pe_var (i := i) hi vi hd hcd) hs) hr
/-- the def __init__, by its body: the call of the base's, then the stores -/
theorem fn_init {P : Program} {w : World} {K : PySem.W.Frag} {mg : Str → Option Value} {base : Heap} {n : BaseN} {x qual : Str} {st : Stmt} {f : Addr} {fd : FuncData} {N ps fields : List Str} {ce : Expr} {cp : Pos} {m : Str} {rest : List Stmt} (F : Fun K x qual st f fd) (Sc : FnScope N ps (defScope st)) (hps : ps.length = fields.length + 1)
    (hb : defBody st = .Expr ce cp :: rest)
    (hc : ∀ (qual : Str) (g : Addr) (cdv : Value) (A : Around) (outer : List PySem.Env) (s : Shared) (H : Hp) (E : XK), PS (cxOf (L2.CX P w) P w K mg base N qual (defScope st) g cdv A outer s H E) (.Expr ce cp) (tDrop (tZIn K n (tCons (tVar 0) (tCons (tC (.str m)) tNil)))) ∧
      PSs (cxOf (L2.CX P w) P w K mg base N qual (defScope st) g cdv A outer s H E) rest (tSts K n 1 fields)) :
    FnOk P w K mg base (L2.CX P w) 1 f fd ps (spI K n fields) := by
  obtain ⟨oc, od, kV, doc, pm, an, cdv, ct, osl, rfl, lk, hcd⟩ := F.ex
  refine fn_of (k := 0) lk hcd Sc (fun vs H Q E h => ?_) fun A outer s H vs Q E hr hsp => ?_
  · obtain ⟨a, C, args, rfl, h1, _⟩ := h
    rw [List.length_cons, h1, hps]
  · obtain ⟨a, C, args, rfl, h1, h2, h3, T, h4, h5, q⟩ := hsp
    have hC := hc qual f cdv A outer s H E
    refine ⟨_, by rw [show defBody st = .Expr ce cp :: rest from hb]; exact pss_cons hC.1 hC.2, ?_⟩
    have g0 : (L2.start N (V.ref a :: args))[0]? = some (some (.ref a)) := rfl
    refine ⟨.ref a, g0, a, C, [.str m], rfl, by simp, T, h5, ?_⟩
    refine sts_run T g0 h1 h2 h3 h4 (fun j y hj => ?_) h5 q
    unfold L2.start
    have hl : j < args.length := (List.getElem?_eq_some_iff.mp hj).1
    rw [List.getElem?_append_left (by simp; omega), List.getElem?_map, show 1 + j = j + 1 by omega, List.getElem?_cons_succ, hj]; rfl

section
variable {X : Cx} {e : Expr} {es : List Expr} {ta : TA} {x : Str} {p pos : Pos} {n : BaseN} {C fI : Addr} {k : Nat} {fd : FuncData} {ps : List Str} {sp : Sp}
/-- C(..), C's own __init__ keeping sp -/
theorem pmk_zex (T : OexN X.K n C) (iC : PySem.W.findIn X.K (.ref C) "__init__" = some (some (.ref fI))) (tI : PySem.W.typeIn X.K (.ref fI) = some (.type "function"))
    (F1 : FnOk X.prog X.w X.K X.mg X.base (L2.CX X.prog X.w) k fI fd ps sp) (hr : Room (k + 1) X.A) (hb : Binds X.K fd ps []) (hx : Passes (L2.CX X.prog X.w) X (fun _ _ _ => False)) (hg : Gl X x) (hm : X.mg x = some (.ref C)) (ha : PA X (e :: es) ta)
    (hdb : (x == ("__debug__" : Str)) = false := by decide) (he : starEach (e :: es) X.env = (false, eval e X.env) :: starEach es X.env := by rfl) (hpl : (backTo pos (starEach es X.env)).any (·.1) = false := by rfl) :
    PMk X (.Call (.Name x p) (e :: es) [] pos) (tMkO C sp [] ta) := by
  intro pins s σ H Q I h
  obtain ⟨nm, q, N, bs, cs, sn, sub, ab, col, dd, k0, k1, k2, k3, k5, hC, hcl⟩ := T.get
  refine wpAny_Call_Name_kw (ld_glob I hg hm ?_ hdb)
  refine PySem.W.callWith_K (h₀ := X.base) I.ok.mod.kin T.kC (thn (ha.run pos pins s σ H _ I h) fun us s1 ⟨vs, H1, I1, r1, hz, q1⟩ => ⟨I1.kIn, ?_⟩) he hpl
  show wpAny _ _ (call (.ref C) us) _ _ _
  obtain ⟨hp, g, dr, tk, os⟩ := s1
  have hsz : hp.objs.size ≤ hp.objs.size + 1 := Nat.le_succ _
  have hn : H1 (hp.objs.size + 1) = none := I1.hok.fresh hsz
  have hq := q1 (hp.objs.size + 1) hn
  have kk : ∀ b o, hp.get? b = some o → ((hp.push (PySem.W.kdv_tup us)).push (PySem.HandSPX.excO C hp.objs.size)).get? b = some o := fun b o z => Heap.get?_push_of_some _ (Heap.get?_push_of_some _ z)
  have hget : ((hp.push (PySem.W.kdv_tup us)).push (PySem.HandSPX.excO C hp.objs.size)).get? (hp.objs.size + 1) = some (PySem.HandSPX.excO C hp.objs.size) := by heap_get
  have I2 := I1.laid (t' := tk) (a := hp.objs.size + 1) (o := exo (hp.objs.size + 1) C none) (h' := (hp.push (PySem.W.kdv_tup us)).push (PySem.HandSPX.excO C hp.objs.size)) kk hsz (exo_ok hget)
  rw [List.append_nil] at hq
  have r2 : Vals (V.ref (hp.objs.size + 1) :: vs) (Value.ref (hp.objs.size + 1) :: us) := .cons rfl r1
  have hl : (Value.ref (hp.objs.size + 1) :: us ++ []).length = ps.length := by
    rw [List.append_nil, ← r2.length]; exact F1.len _ _ _ _ hq
  have hus : us.length ≤ sizeLine := by rw [← Paired.length r1, sizeLine_eq]; omega
  have hb2 := hb _ (Value.ref (hp.objs.size + 1) :: us) I2.kIn hl
  rw [List.append_nil] at hb2
  refine wpAny_call (zcall_own T.Y (I1.kIn _ _ hC) (PySem.W.looks_findIn I1.kIn iC) (fun self => PySem.W.bind_fn I1.kIn self tI) hus
    (codeAny_mono (F1.run _ X.stack _ _ ⟨Value.ref (hp.objs.size + 1) :: us, []⟩ (Value.ref (hp.objs.size + 1) :: us) _ _ (fun _ _ _ => False) (hr.make C us []) (I2.env0.make C us []) hb2 r2 hq) fun r s' hq' => ?_))
  cases r with
  | error er => exact hx pins σ _ _ er s' I2 hq'
  | ok fl =>
    cases fl with
    | ret u =>
      obtain ⟨v, H2, os2, bare2, un2, hok2, rv, ev, d, fs, ea, ed, hd1, q2⟩ := hq'
      subst ev
      obtain ⟨h2, g2, d2, t2, os'⟩ := s'
      exact ⟨rv, mk_end (raises_own T.exC T.tyC) I1 hsz kk un2 hok2 os2 bare2 ea ed hd1 q2⟩
    | next => exact hq'.elim
    | brk => exact hq'.elim
    | cont => exact hq'.elim
end

/-! ### the mirror -/
/-- an own exception class with an own __init__ that keeps fields -/
structure ExcZ (g : Gd) (x : Str) (c : Nat) (n : BaseN) (fields : List Str) : Prop where
  mg : g.mg x = some (.ref (g.adr c))
  T : OexN g.K n (g.adr c)
  ini : ∃ fI fd ps, PySem.W.findIn g.K (.ref (g.adr c)) "__init__" = some (some (.ref fI)) ∧ PySem.W.typeIn g.K (.ref fI) = some (.type "function") ∧ FnOk g.P g.w g.K g.mg g.base (L2.CX g.P g.w) 1 fI fd ps (spI g.K n fields) ∧ Binds g.K fd ps []
  no : ∀ f ∈ fields, PySem.W.findIn g.K (.ref (g.adr c)) f = some none
  ne : fields ≠ []
  lt : fields.length ≤ 100
  nd : fields.Nodup
def mRaise (c : Nat) (fields : List Str) (ms : MA) : MS := fun env S => eS (ms env S) env fun l S1 => match allP l with
  | some ds => if ds.length = fields.length then .exc c (some (fields.zip ds)) env S1 else .stuck
  | none => .stuck
theorem lookup_mem {α : Type} {l : List (Str × α)} (hn : (l.map (·.1)).Nodup) {f : Str} {u : α} (h : (f, u) ∈ l) : l.lookup f = some u := by
  induction l with
  | nil => cases h
  | cons p l ih =>
    obtain ⟨g, z⟩ := p
    simp only [List.map_cons, List.nodup_cons] at hn
    rcases List.mem_cons.mp h with e | h
    · cases e; simp [List.lookup]
    · have : f ≠ g := fun e => hn.1 (e ▸ List.mem_map.mpr ⟨_, h, rfl⟩)
      have e : (f == g) = false := by simpa using this
      rw [List.lookup, e]; exact ih hn.2 h
theorem lookup_in {α : Type} {l : List (Str × α)} {f : Str} {u : α} (h : l.lookup f = some u) : (f, u) ∈ l := by
  induction l with
  | nil => cases h
  | cons p l ih =>
    obtain ⟨g, z⟩ := p
    by_cases e : f = g
    · subst e
      simp [List.lookup] at h
      subst h; exact List.mem_cons_self ..
    · have e' : (f == g) = false := by simpa using e
      rw [List.lookup, e'] at h
      exact List.mem_cons_of_mem _ (ih h)
theorem zip_rel {K : PySem.W.Frag} {F : Hp} {fields : List Str} {ds : List PyData} {vs : List V} (hn : fields.Nodup) (hl : ds.length = fields.length) (r : Rps K F vs ds) {f : Str} {x : PyData} (h : (fields.zip ds).lookup f = some x) : ∃ u, ((fields.zip vs).reverse).lookup f = some u ∧ Rp K F u x := by
  have hm := lookup_in h
  obtain ⟨j, hj⟩ := List.mem_iff_getElem?.mp hm
  obtain ⟨h1, h2⟩ := List.getElem?_zip_eq_some.mp hj
  obtain ⟨u, h3, h4⟩ := r.get h2
  refine ⟨u, lookup_mem ?_ (List.mem_reverse.mpr (List.mem_iff_getElem?.mpr ⟨j, List.getElem?_zip_eq_some.mpr ⟨h1, h3⟩⟩)), h4⟩
  rw [List.map_reverse, List.map_fst_zip (by rw [r.len]; omega)]
  exact List.pairwise_reverse.mpr (List.Pairwise.imp (fun h => Ne.symm h) hn)
theorem ss_raise {Γ : Cxt} {x : Str} {c : Nat} {n : BaseN} {fields : List Str} {e : Expr} {es : List Expr} {ms : MA} {p pos pos' : Pos} (D : ExcZ Γ.g x c n fields) (ha : SA Γ (e :: es) ms) (hk : 2 ≤ Γ.k := by exact Nat.le_of_ble_eq_true rfl) (hg : Γ.sc.names.lookup x = some .globalImplicit := by rfl) (hc : Γ.calm = true := by rfl)
    (hd : (x == ("__debug__" : Str)) = false := by decide) (he : ∀ env : PySem.Env, starEach (e :: es) env = (false, eval e env) :: starEach es env := by intro _; rfl) (hp : ∀ env : PySem.Env, (backTo pos (starEach es env)).any (·.1) = false := by intro _; rfl) :
    SS Γ (.Raise (some (.Call (.Name x p) (e :: es) [] pos)) none pos') (mRaise c fields ms) := fun X W fit => by
  obtain ⟨fI, fd, ps, h1, h2, F1, hb⟩ := D.ini
  have eK := fit.eK
  have T : OexN X.K n (Γ.g.adr c) := by rw [eK]; exact D.T
  have F1' : FnOk X.prog X.w X.K X.mg X.base (L2.CX X.prog X.w) 1 fI fd ps (spI X.K n fields) := by rw [fit.eP, fit.ew, eK, fit.em, fit.eb]; exact F1
  refine PS.imp (ps_raise (by rw [fit.ec]; exact hc) fit.tk (pmk_zex T (by rw [eK]; exact h1) (by rw [eK]; exact h2) F1' ((fit.rm hc).mono hk) (by rw [eK]; exact hb) (passes_call fit.tk fun _ _ _ _ z => z.elim) (gl_of fit hg) (by rw [fit.em]; exact D.mg) (ha X W fit) hd (he X.env) (hp X.env)))
    fun De σ H ⟨γ, S, F, G, env, st, er, po⟩ => ⟨γ, S, F, G, env, st, er, Post.imp (SPost.of_eS (R := RelVs' Γ) po er) fun vs H1 ⟨γ1, S1, F1, l, e1, n1, r1, po1⟩ => ?_⟩
  split at po1
  · rename_i ds hds
    split at po1
    · rename_i hl
      have rr : Rps Γ.g.K F1 vs ds := allP_ok r1 hds
      have hv : vs.length = fields.length := by rw [rr.len]; exact hl
      refine ⟨by rw [hv]; exact Nat.le_trans D.lt (by decide), fun a hn => ?_⟩
      rw [List.append_nil]
      refine ⟨a, _, vs, rfl, hv, D.ne, D.lt, T, fun f hf => by rw [eK]; exact D.no f hf, upd_same, fun dx fvs H' n1' n2 efv ha' hd' ho => ⟨rfl, dx, fvs, ha', hd', ?_, ?_⟩⟩
      · rw [upd_ne n2] at n1'; exact n1'
      · have hdx : H1 dx = none := by rw [upd_ne n2] at n1'; exact n1'
        have eH : upd (del H' a) dx (.xd fvs) = upd H1 dx (.xd fvs) := funext fun b => by
          by_cases hb1 : b = dx
          · rw [hb1, upd_same, upd_same]
          · rw [upd_ne hb1, upd_ne hb1]
            by_cases hb2 : b = a
            · rw [hb2, del_same, hn]
            · rw [del_ne hb2, ho b hb2 hb1, upd_ne hb2]
        rw [eH]
        have nn := n1.st.newF (o := HO.xd fvs) hdx
        refine po1 γ1 _ _ σ (some dx) nn ((er.mono n1.pre n1.ex).mono nn.pre nn.ex) ⟨dx, fvs, rfl, upd_same, fun f x hx => ?_⟩
        subst efv
        obtain ⟨u, q1, q2⟩ := zip_rel D.nd hl rr hx
        exact ⟨u, q1, q2.mono nn.ex⟩
    · exact po1.elim
  · exact po1.elim
end Z


set_option Elab.async false
set_option linter.all false
set_option autoImplicit false
set_option maxRecDepth 100000
set_option maxHeartbeats 4000000
/-! Zx5: try with several except clauses, each with a name or without, each of one class or of several. -/
namespace Z
open PySem PySem.Spec PyProof.Rows L2
/-- a clause's test answers what tst tells of the exception's class -/
def TstX (X : Cx) (te : Expr) (tst : Value → Option Bool) : Prop := ∀ (a : Addr) (oe : Obj) (cls : Value) (d : Option Addr) (pn : List (Addr × Obj)) (pins : List (Addr × Obj)) (σ : L2.St) (H : Hp) (s : Shared) (b : Bool) (Q : Bool → Shared → Prop) (E : Value → Shared → Prop),
  L2.Inv (X.suite a ((a, oe) :: pn)) pins σ H s → s.heap.get? a = some oe → oe.cls = cls → tst cls = some b → (∀ h', (∀ q o, s.heap.get? q = some o → h'.get? q = some o) → Q b { s with heap := h' }) →
  wpAny (model X.prog X.w) (X.A.mark (some (.ref a))) (eval te X.env) (fun c s1 => wpAny (model X.prog X.w) (X.A.mark (some (.ref a))) (excMatches (.ref a) c) Q E s1) E s
section
variable {X : Cx} {x x1 x2 x3 x4 : Str} {c c1 c2 c3 c4 : Value} {np p1 p2 p3 p4 tp : Pos} {kk : Nat}
theorem nm_read {a : Addr} {pn : List (Addr × Obj)} {pins : List (Addr × Obj)} {σ : L2.St} {H : Hp} {s : Shared} {Q : Value → Shared → Prop} {E : Value → Shared → Prop} {oe : Obj} (hc : Names X x c) (I : L2.Inv (X.suite a ((a, oe) :: pn)) pins σ H s) (q : Q c s) :
    wpAny (model X.prog X.w) (X.A.mark (some (.ref a))) (eval (.Name x np) X.env) Q E s := by
  obtain ⟨hg, hdbg, hm | ⟨hm, hv, hnn⟩⟩ := hc
  · exact ld_glob (X := X.suite a ((a, oe) :: pn)) I hg hm q hdbg
  · exact ld_blt (X := X.suite a ((a, oe) :: pn)) I hg hm hv q hnn hdbg
theorem tst_one (hc : Names X x c) : TstX X (.Name x np) (fun cls => PySem.W.exmOne X.K cls c) := fun a oe cls d pn pins σ H s b Q E I he hcl ht q => by
  have LT : PySem.W.Looks (model X.prog X.w) s.heap (typeOf (.ref a)) cls := fun A Q E s k q => wpAny_typeOf_ref (k _ _ he) (by rw [hcl]; exact q)
  exact nm_read hc I ((PySem.W.exm_one (M := model X.prog X.w) I.kIn LT ht).here (q s.heap fun _ _ z => z))
theorem tst_two (h1 : Names X x1 c1) (h2 : Names X x2 c2) : TstX X (.Tuple [.Name x1 p1, .Name x2 p2] kk tp) (fun cls => PySem.W.exmAny X.K cls [c1, c2]) := fun a oe cls d pn pins σ H s b Q E I he hcl ht q => by
  have LT : PySem.W.Looks (model X.prog X.w) s.heap (typeOf (.ref a)) cls := fun A Q E s k q => wpAny_typeOf_ref (k _ _ he) (by rw [hcl]; exact q)
  refine wpAny_Tuple (wpAny_items_cons (nm_read h1 I (wpAny_items_cons (nm_read h2 I (wpAny_items_nil ⟨by size_fits, ?_⟩)))))
  have kp : ∀ q o, s.heap.get? q = some o → (s.heap.push { cls := .type "tuple", data := .seq [c1, c2].toArray }).get? q = some o := fun _ _ z => Heap.get?_push_of_some _ z
  exact (PySem.W.exm_tup2 (M := model X.prog X.w) (I.kIn.keeps kp) (LT.keeps kp) (Heap.get?_push_size s.heap rfl) ht).here (q _ kp)
theorem tst_four (h1 : Names X x1 c1) (h2 : Names X x2 c2) (h3 : Names X x3 c3) (h4 : Names X x4 c4) : TstX X (.Tuple [.Name x1 p1, .Name x2 p2, .Name x3 p3, .Name x4 p4] kk tp) (fun cls => PySem.W.exmAny X.K cls [c1, c2, c3, c4]) := fun a oe cls d pn pins σ H s b Q E I he hcl ht q => by
  have LT : PySem.W.Looks (model X.prog X.w) s.heap (typeOf (.ref a)) cls := fun A Q E s k q => wpAny_typeOf_ref (k _ _ he) (by rw [hcl]; exact q)
  refine wpAny_Tuple (wpAny_items_cons (nm_read h1 I (wpAny_items_cons (nm_read h2 I (wpAny_items_cons (nm_read h3 I (wpAny_items_cons (nm_read h4 I (wpAny_items_nil ⟨by size_fits, ?_⟩)))))))))
  have kp : ∀ q o, s.heap.get? q = some o → (s.heap.push { cls := .type "tuple", data := .seq [c1, c2, c3, c4].toArray }).get? q = some o := fun _ _ z => Heap.get?_push_of_some _ z
  exact (PySem.W.exm_tup4 (M := model X.prog X.w) (I.kIn.keeps kp) (LT.keeps kp) (Heap.get?_push_size s.heap rfl) ht).here (q _ kp)
end
/-- a clause: its test, its name's slot, its suite -/
structure HdX where
  tst : Value → Option Bool
  slot : Option Nat
  ts : Addr → Value → Option Addr → TS
/-- what a suite's end does to its name -/
def unE (sl : Option Nat) (D : Ends) : Ends := match sl with
  | none => D
  | some i => { nx := fun σ' H' => D.nx (σ'.set i none) H', rt := D.rt, bk := fun σ' H' => D.bk (σ'.set i none) H', ct := fun σ' H' => D.ct (σ'.set i none) H' }
def inS (sl : Option Nat) (a : Addr) (σ : L2.St) : L2.St := match sl with
  | none => σ
  | some i => σ.set i (some (.ref a))
def wHd (Wout : WX) (D : Ends) : List HdX → WX
  | [] => Wout
  | h :: r => fun cls d σ H => ∃ b, h.tst cls = some b ∧ (b = true → ∀ a, H a = none → h.ts a cls d (unE h.slot D) (inS h.slot a σ) H) ∧ (b = false → wHd Wout D r cls d σ H)
inductive HdsX (X : Cx) : List ExceptHandler → List HdX → Prop
  | nil : HdsX X [] []
  | plain {te : Expr} {tst : Value → Option Bool} {ts : Addr → Value → Option Addr → TS} {b₀ : Stmt} {suite : List Stmt} {pos' : Pos} {hds : List ExceptHandler} {l : List HdX} (ht : TstX X te tst)
      (hsu : ∀ (a : Addr) (oe : Obj) (cls : Value) (d : Option Addr) (pn : List (Addr × Obj)), Zc cls d oe → (∃ vs, oe.data = .fields vs) → PSs (X.suite a ((a, oe) :: pn)) (b₀ :: suite) (ts a cls d)) (r : HdsX X hds l) :
      HdsX X (.ExceptHandler (some te) none (b₀ :: suite) pos' :: hds) (⟨tst, none, ts⟩ :: l)
  | named {te : Expr} {n : Str} {i : Nat} {tst : Value → Option Bool} {ts : Addr → Value → Option Addr → TS} {b₀ : Stmt} {suite : List Stmt} {pos' : Pos} {hds : List ExceptHandler} {l : List HdX} (ht : TstX X te tst) (hi : X.N[i]? = some n) (hln : X.env.kindOf n = some .local)
      (hsu : ∀ (a : Addr) (oe : Obj) (cls : Value) (d : Option Addr) (pn : List (Addr × Obj)), Zc cls d oe → (∃ vs, oe.data = .fields vs) → PSs (X.suite a ((a, oe) :: pn)) (b₀ :: suite) (ts a cls d)) (r : HdsX X hds l) :
      HdsX X (.ExceptHandler (some te) (some n) (b₀ :: suite) pos' :: hds) (⟨tst, some i, ts⟩ :: l)
theorem flying_keeps {base h h' : Heap} {l : List PySem.Env} {e : Addr} {Z : Obj → Prop} (fl : HandSPX.FlyingZ base l e Z h) (k : ∀ q o, h.get? q = some o → h'.get? q = some o) : HandSPX.FlyingZ base l e Z h' := by
  obtain ⟨k1, k2, k3, oe, vs, T, oT, ts, e1, e2, e3, e4, e5, e6, e7, e8⟩ := fl
  exact ⟨fun b o z => k _ _ (k1 b o z), k2, Heap.FunFrames.of_keeps (fun b o z _ => ⟨o, k _ _ z, rfl⟩) k3, oe, vs, T, oT, ts, k _ _ e1, e2, e3, e4, e5, e6, k _ _ e7, e8⟩
section
variable {X : Cx} {body : List Stmt} {h₀ : ExceptHandler} {hds : List ExceptHandler} {l : List HdX} {pos : Pos} {tb : WX → TS} {Wout : WX}
theorem ps_tryZ (hs : X.stack = X.env :: X.outer) (hf : X.env.frame = some X.env.locals) (hN : X.N.Nodup) (tk : Takes X Wout)
    (hb : ∀ (W : WX) (pn : List (Addr × Obj)) (xe : Value → Shared → Prop), Takes (X.tr pn xe) W → PassesOwn (model X.prog X.w) X.A X.env xe → PSs (X.tr pn xe) body (tb W))
    (hh : HdsX X (h₀ :: hds) l) : PS X (.Try body (h₀ :: hds) [] [] pos) (fun D σ H => tb (wHd Wout D l) D σ H) := by
  refine ⟨fun pins s σ H D I h => ?_⟩
  have ok := I.ok
  have hfr : X.A.frames = some (X.env :: X.outer) := by rw [ok.frames, hs]
  refine wpAny_Try_except ?_
  refine wpAny_mono ((hb (wHd Wout D l) (X.pn ++ pins) (fun e s₁ => wpAny (model X.prog X.w) X.A (noteFrame e X.env) (fun _ s₂ => wpAny (model X.prog X.w) X.A (setFlight e none) (fun _ s₃ =>
    wpAny (model X.prog X.w) X.A (handleBy e X.env (h₀ :: hds)) (SP X pins D) X.xe s₃) X.xe s₂) X.xe s₁) (fun u s' xx => ?_) PassesOwn.looking).run [] s σ H D (I.toTry _) h) (fun f s1 hsp => ?_) (fun e s1 he => he)
  · obtain ⟨a, B, sI, pins', σ', H', cls, d, rfl, J', nb, up, sky, na, os, ag, w⟩ := xx
    have J : L2.Inv X pins σ' H' sI := J'.ofTry ok
    have sky' : Sky B (X.env :: X.outer) a (Zc cls d) X.env.locals s'.heap := by rw [← hs]; exact sky
    show wpAny (model X.prog X.w) X.A (noteFrame (.ref a) X.env) _ _ _
    refine Sky.land Zc.steady hfr hf sky' fun h3 fl3 up3 => ?_
    have notFr : ∀ {h : Heap} {o : Obj} {vs : Array Value}, h.FunFrames B (X.env :: X.outer) → h.get? a = some o → o.data = .fields vs → a ∉ frs (X.env :: X.outer) := fun {h o vs} ff e dd hm => by
      obtain ⟨_, o', e', hnf⟩ := ff.mem hm
      rw [e] at e'; cases e'
      exact hnf _ dd
    obtain ⟨oe3, vs3, he3, hz3, hd3⟩ := fl3.there
    have nfr := notFr fl3.2.2.1 he3 hd3
    have nL : a ≠ X.env.locals := fun z => nfr (List.mem_filterMap.mpr ⟨X.env, List.mem_cons_self, by rw [hf, z]⟩)
    have nF : a ∉ X.fs := fun hm => by
      obtain ⟨e, he, q⟩ := List.mem_filterMap.mp hm
      exact nfr (List.mem_filterMap.mpr ⟨e, List.mem_cons_of_mem _ he, q⟩)
    have go : ∀ {hds' : List ExceptHandler} {l' : List HdX}, HdsX X hds' l' → wHd Wout D l' cls d σ' H' → ∀ h3 : Heap, HandSPX.FlyingZ B (X.env :: X.outer) a (Zc cls d) h3 → s'.heap.UpToSlots h3 →
        wpAny (model X.prog X.w) X.A (handleBy (.ref a) X.env hds') (SP X pins D) X.xe { s' with heap := h3 } := by
      intro hds' l' hk
      induction hk with
      | nil =>
        intro w h3 fl3 up3
        refine wpAny_handleBy_nil ?_
        obtain ⟨k1, k2, k3, oe, vs, T, oT, ts', he, hz, hd, h1, hr⟩ := id fl3
        unfold PySem.passOn
        refine wpAny_bind (wpAny_field he hd h1 ?_)
        rw [if_neg (show ¬ ((Value.ref T == Value.none) = true) from by simp)]
        have fin : wpAny (model X.prog X.w) X.A (setFlight (.ref a) X.env.frame) (fun _ s4 => wpAny (model X.prog X.w) X.A (throw (.ref a) : Sem Flow) (SP X pins D) X.xe s4) X.xe { s' with heap := h3 } := by
          rw [hf]
          refine HandSPX.setFlight_upZ fl3 fun h4 hh4 up4 => wpAny_throw (tk _ _ ?_)
          exact ⟨a, B, sI, pins, σ', H', cls, d, rfl, J, nb, (up.trans up3).trans up4, .inr (.inr (by rw [hs]; exact hh4)), na, os, ag, w⟩
        first
          | exact wpAny_bind (wpAny_pure (wpAny_bind fin))
          | exact wpAny_bind fin
      | @plain te tst ts b₀ suite pos' hds2 l2 ht hsu r ih =>
        intro w h3 fl3 up3
        obtain ⟨b, hb1, hyes, hno⟩ := w
        obtain ⟨oe3, vs3, he3, hz3, hd3⟩ := fl3.there
        have S3 := (J.landed (s' := { s' with heap := h3 }) nb fl3.1 (up.trans up3) os ag).suite he3 hd3 na nL nF
        refine wpAny_handleBy_cons (codeAny_handlers_test ?_) (by intro q; cases q)
        refine ht a oe3 cls d _ _ _ _ { s' with heap := h3 } b _ _ S3 he3 hz3.1 hb1 fun h5 k5 => ?_
        have fl5 := flying_keeps fl3 k5
        have up5 := up3.trans (Heap.UpToSlots.of_keeps k5)
        cases b with
        | true =>
          refine codeAny_handlers_suite ?_
          refine HandSPX.lands_againZ fl5 fun h4 fl4 up4 => ?_
          have J4 : L2.Inv X pins σ' H' { s' with heap := h4 } := J.landed nb fl4.1 ((up.trans up5).trans up4) os ag
          obtain ⟨oe4, vs4, he4, hz4, hd4⟩ := fl4.there
          have S4 := J4.suite he4 hd4 na nL nF
          refine wpAny_mono ((hsu a oe4 cls d (X.pn ++ pins) hz4 ⟨_, hd4⟩).run [] _ _ H' _ S4 (hyes rfl a na)) (fun f s6 hsp => ?_) (fun _ _ z => False.elim z)
          cases f with
          | next => obtain ⟨σ6, H6, S6, q6⟩ := hsp; exact ⟨_, _, S6.unsuite ok, q6⟩
          | brk => obtain ⟨σ6, H6, S6, q6⟩ := hsp; exact ⟨_, _, S6.unsuite ok, q6⟩
          | cont => obtain ⟨σ6, H6, S6, q6⟩ := hsp; exact ⟨_, _, S6.unsuite ok, q6⟩
          | ret u => obtain ⟨v6, σ6, H6, S6, r6, q6⟩ := hsp; exact ⟨_, _, _, S6.unsuite ok, r6, q6⟩
        | false =>
          show wpAny _ X.A (handleBy (.ref a) X.env hds2) _ _ _
          exact ih (hno rfl) h5 fl5 up5
      | @named te n i tst ts b₀ suite pos' hds2 l2 ht hi hln hsu r ih =>
        intro w h3 fl3 up3
        obtain ⟨b, hb1, hyes, hno⟩ := w
        obtain ⟨oe3, vs3, he3, hz3, hd3⟩ := fl3.there
        have S3 := (J.landed (s' := { s' with heap := h3 }) nb fl3.1 (up.trans up3) os ag).suite he3 hd3 na nL nF
        refine wpAny_handleBy_cons (codeAny_handlers_test ?_) (by intro q; cases q)
        refine ht a oe3 cls d _ _ _ _ { s' with heap := h3 } b _ _ S3 he3 hz3.1 hb1 fun h5 k5 => ?_
        have fl5 := flying_keeps fl3 k5
        have up5 := up3.trans (Heap.UpToSlots.of_keeps k5)
        cases b with
        | true =>
          refine codeAny_handlers_suite_as ?_
          refine HandSPX.lands_againZ fl5 fun h4 fl4 up4 => ?_
          have J4 : L2.Inv X pins σ' H' { s' with heap := h4 } := J.landed nb fl4.1 ((up.trans up5).trans up4) os ag
          obtain ⟨oe4, vs4, he4, hz4, hd4⟩ := fl4.there
          have S4 := J4.suite he4 hd4 na nL nF
          refine store_ok (X := X.suite a ((a, oe4) :: (X.pn ++ pins))) (v := .ref a) S4 hN hi (.inl hln) rfl (fun s5 S5 => ?_) (.inr hln)
          refine wpAny_mono ((hsu a oe4 cls d (X.pn ++ pins) hz4 ⟨_, hd4⟩).run [] s5 _ H' _ S5 (hyes rfl a na)) (fun f s6 hsp => ?_) (fun _ _ z => False.elim z)
          have end_ : ∀ {σ6 : L2.St} {H6 : Hp} {Q : Shared → Prop}, L2.Inv (X.suite a ((a, oe4) :: (X.pn ++ pins))) [] σ6 H6 s6 → (∀ s7, L2.Inv X pins (σ6.set i none) H6 s7 → Q s7) →
              wpAny (model X.prog X.w) X.A (do bindName X.env n .none; unbindBehindTheSuite X.env n pos') (fun _ s7 => Q s7) X.xe s6 := fun {σ6 H6 Q} S6 hq => gone_ok (S6.unsuite ok) hN hi hln hq
          cases f with
          | next => obtain ⟨σ6, H6, S6, q6⟩ := hsp; exact end_ S6 fun s7 J7 => ⟨_, _, J7, q6⟩
          | brk => obtain ⟨σ6, H6, S6, q6⟩ := hsp; exact end_ S6 fun s7 J7 => ⟨_, _, J7, q6⟩
          | cont => obtain ⟨σ6, H6, S6, q6⟩ := hsp; exact end_ S6 fun s7 J7 => ⟨_, _, J7, q6⟩
          | ret u => obtain ⟨v6, σ6, H6, S6, r6, q6⟩ := hsp; exact end_ S6 fun s7 J7 => ⟨_, _, _, J7, r6, q6⟩
        | false =>
          show wpAny _ X.A (handleBy (.ref a) X.env hds2) _ _ _
          exact ih (hno rfl) h5 fl5 up5
    exact go hh w h3 fl3 up3
  · cases f with
    | next => obtain ⟨σ', H', J', q⟩ := hsp; exact wpAny_execs_nil ⟨σ', H', J'.ofTry ok, q⟩
    | brk => obtain ⟨σ', H', J', q⟩ := hsp; exact ⟨σ', H', J'.ofTry ok, q⟩
    | cont => obtain ⟨σ', H', J', q⟩ := hsp; exact ⟨σ', H', J'.ofTry ok, q⟩
    | ret u => obtain ⟨v, σ', H', J', r, q⟩ := hsp; exact ⟨v, σ', H', J'.ofTry ok, r, q⟩
end
end Z


set_option Elab.async false
set_option linter.all false
set_option autoImplicit false
set_option maxRecDepth 100000
set_option maxHeartbeats 4000000
/-! Zx6: the mirror of try, of e.f and isinstance(e, C) in a suite, of raise C('..'). -/
namespace Z
open PySem PySem.Spec PyProof.Rows L2
section
variable {g : Gd} {xc xd : XC} {γ : List Addr} {F G H : Hp} {S : Store}
theorem StR.sw (st : StR g xc γ S F G H) : StR g xd γ S F G H := ⟨st.fr, st.gh, st.fg, st.fc, st.fl, st.len, st.nd, fun n c a h1 h2 => by
  have q := st.cell n c a h1 h2
  cases c <;> exact q⟩
theorem Nx.sw {γ' : List Addr} {F' H' : Hp} {S' : Store} (n : Nx g xc γ F G γ' S' F' H') : Nx g xd γ F G γ' S' F' H' := ⟨n.pre, n.ex, n.st.sw⟩
theorem EnvK.xc0 {env : Env} {σ : L2.St} (er : EnvK g xc γ F env σ) : EnvK g none γ F env σ := ⟨er.len, er.rel, fun x h => by cases h⟩
theorem EnvK.drop {env : Env} {σ : L2.St} (er : EnvK g xc γ F env σ) (i : Nat) : EnvK g none γ F (env.set i none) (σ.set i none) := er.xc0.unset i rfl
end
abbrev Fds := Option (List (Str × PyData))
structure HdM where
  tst : Nat → Option Bool
  slot : Option Nat
  body : Nat → Fds → MS
def unS (i : Nat) : SRes → SRes
  | .nx e S => .nx (e.set i none) S
  | .rt r S => .rt r S
  | .bk e S => .bk (e.set i none) S
  | .ct e S => .ct (e.set i none) S
  | _ => .stuck
def noX : SRes → SRes
  | .exc _ _ _ _ => .stuck
  | r => r
def runHd : List HdM → Nat → Fds → Env → Store → SRes
  | [], c, fs, env, S => .exc c fs env S
  | h :: r, c, fs, env, S => match h.tst c with
    | some true => match h.slot with
      | some i => if i < env.length then unS i (h.body c fs (env.set i none) S) else .stuck
      | none => noX (h.body c fs env S)
    | some false => runHd r c fs env S
    | none => .stuck
def mTry (mb : MS) (hs : List HdM) : MS := fun env S => match mb env S with
  | .exc c fs e S1 => runHd hs c fs e S1
  | r => r
/-- the context of a suite -/
abbrev Cxt.sui (Γ : Cxt) (x : Option XI) : Cxt := { Γ with calm := false, xc := x }
/-- a test of classes -/
def TstZ (Γ : Cxt) (te : Expr) (tst : Nat → Option Bool) : Prop := ∀ X W, Fit Γ X W → ∃ tv : Value → Option Bool, TstX X te tv ∧ ∀ c b, tst c = some b → tv (.ref (Γ.g.adr c)) = some b
/-- the classes that a name stands for -/
theorem tz_one {Γ : Cxt} {x : Str} {C : Value} {p : Pos} {tst : Nat → Option Bool} (hm : Γ.g.mg x = some C) (hx : ∀ c b, tst c = some b → PySem.W.exmOne Γ.g.K (.ref (Γ.g.adr c)) C = some b) (hg : Γ.sc.names.lookup x = some .globalImplicit := by rfl) (hd : (x == ("__debug__" : Str)) = false := by decide) : TstZ Γ (.Name x p) tst :=
  fun X W fit => ⟨_, tst_one ⟨gl_of fit hg, hd, .inl (by rw [fit.em]; exact hm)⟩, fun c b h => by rw [fit.eK]; exact hx c b h⟩
theorem tz_two {Γ : Cxt} {x1 x2 : Str} {C1 C2 : Value} {p1 p2 tp : Pos} {kk : Nat} {tst : Nat → Option Bool} (m1 : Γ.g.mg x1 = some C1) (m2 : Γ.g.mg x2 = some C2) (hx : ∀ c b, tst c = some b → PySem.W.exmAny Γ.g.K (.ref (Γ.g.adr c)) [C1, C2] = some b)
    (g1 : Γ.sc.names.lookup x1 = some .globalImplicit := by rfl) (g2 : Γ.sc.names.lookup x2 = some .globalImplicit := by rfl) (d1 : (x1 == ("__debug__" : Str)) = false := by decide) (d2 : (x2 == ("__debug__" : Str)) = false := by decide) : TstZ Γ (.Tuple [.Name x1 p1, .Name x2 p2] kk tp) tst :=
  fun X W fit => ⟨_, tst_two ⟨gl_of fit g1, d1, .inl (by rw [fit.em]; exact m1)⟩ ⟨gl_of fit g2, d2, .inl (by rw [fit.em]; exact m2)⟩, fun c b h => by rw [fit.eK]; exact hx c b h⟩
theorem tz_four {Γ : Cxt} {x1 x2 x3 x4 : Str} {C1 C2 C3 C4 : Value} {p1 p2 p3 p4 tp : Pos} {kk : Nat} {tst : Nat → Option Bool} (m1 : Γ.g.mg x1 = some C1) (m2 : Γ.g.mg x2 = some C2) (m3 : Γ.g.mg x3 = some C3) (m4 : Γ.g.mg x4 = some C4) (hx : ∀ c b, tst c = some b → PySem.W.exmAny Γ.g.K (.ref (Γ.g.adr c)) [C1, C2, C3, C4] = some b)
    (g1 : Γ.sc.names.lookup x1 = some .globalImplicit := by rfl) (g2 : Γ.sc.names.lookup x2 = some .globalImplicit := by rfl) (g3 : Γ.sc.names.lookup x3 = some .globalImplicit := by rfl) (g4 : Γ.sc.names.lookup x4 = some .globalImplicit := by rfl)
    (d1 : (x1 == ("__debug__" : Str)) = false := by decide) (d2 : (x2 == ("__debug__" : Str)) = false := by decide) (d3 : (x3 == ("__debug__" : Str)) = false := by decide) (d4 : (x4 == ("__debug__" : Str)) = false := by decide) : TstZ Γ (.Tuple [.Name x1 p1, .Name x2 p2, .Name x3 p3, .Name x4 p4] kk tp) tst :=
  fun X W fit => ⟨_, tst_four ⟨gl_of fit g1, d1, .inl (by rw [fit.em]; exact m1)⟩ ⟨gl_of fit g2, d2, .inl (by rw [fit.em]; exact m2)⟩ ⟨gl_of fit g3, d3, .inl (by rw [fit.em]; exact m3)⟩ ⟨gl_of fit g4, d4, .inl (by rw [fit.em]; exact m4)⟩, fun c b h => by rw [fit.eK]; exact hx c b h⟩
inductive HdZ (Γ : Cxt) : List ExceptHandler → List HdM → Prop
  | nil : HdZ Γ [] []
  | plain {te : Expr} {tst : Nat → Option Bool} {ms : Nat → Fds → MS} {b₀ : Stmt} {suite : List Stmt} {pos' : Pos} {hds : List ExceptHandler} {l : List HdM} (ht : TstZ Γ te tst) (hsu : ∀ c fs, SSs (Γ.sui none) (b₀ :: suite) (ms c fs)) (r : HdZ Γ hds l) :
      HdZ Γ (.ExceptHandler (some te) none (b₀ :: suite) pos' :: hds) (⟨tst, none, ms⟩ :: l)
  | named {te : Expr} {n : Str} {i : Nat} {tst : Nat → Option Bool} {ms : Nat → Fds → MS} {b₀ : Stmt} {suite : List Stmt} {pos' : Pos} {hds : List ExceptHandler} {l : List HdM} (ht : TstZ Γ te tst) (hi : Γ.N[i]? = some n) (hln : Γ.sc.names.lookup n = some .local)
      (hsu : ∀ a d c fs, SSs (Γ.sui (some ⟨a, d, c, fs, i⟩)) (b₀ :: suite) (ms c fs)) (r : HdZ Γ hds l) : HdZ Γ (.ExceptHandler (some te) (some n) (b₀ :: suite) pos' :: hds) (⟨tst, some i, ms⟩ :: l)
section
variable {Γ : Cxt} {X : Cx} {W : WX}
theorem Fit.tr (fit : Fit Γ X W) {W' : WX} {pn : List (Addr × Obj)} {xe : Value → Shared → Prop} (hx : Γ.xc = none) (tk : Takes (X.tr pn xe) W') (ow : PassesOwn (model X.prog X.w) X.A X.env xe) : Fit Γ (X.tr pn xe) W' where
  eP := fit.eP
  ew := fit.ew
  eK := fit.eK
  em := fit.em
  eb := fit.eb
  eN := fit.eN
  nd := fit.nd
  es := fit.es
  ec := fit.ec
  rm := fit.rm
  un := fit.un
  gu := fit.gu
  tk := tk
  tp := fit.tp
  ow := ow
  sx := fun _ x h => by rw [hx] at h; cases h
theorem Fit.suite (fit : Fit Γ X W) {a : Addr} {oe : Obj} {pn : List (Addr × Obj)} {xi : Option XI} (h : ∀ x, xi = some x → x.a = a ∧ Zc (.ref (Γ.g.adr x.c)) x.d oe ∧ ∃ vs, oe.data = .fields vs) : Fit (Γ.sui xi) (X.suite a ((a, oe) :: pn)) (fun _ _ _ _ => False) where
  eP := fit.eP
  ew := fit.ew
  eK := fit.eK
  em := fit.em
  eb := fit.eb
  eN := fit.eN
  nd := fit.nd
  es := fit.es
  ec := rfl
  rm := fun z => by cases z
  un := fit.un
  gu := fit.gu
  tk := takes_none5
  tp := fit.tp
  ow := PassesOwn.never
  sx := fun _ x hx => by obtain ⟨e, h1, h2⟩ := h x hx; subst e; exact ⟨X, oe, pn, rfl, h1, h2⟩
/-- a suite's end, seen from outside -/
theorem unS_post (hx : Γ.xc = none) {γ : List Addr} {F G : Hp} {D : Ends} {xi : XI} {W0 : WX} {i : Nat} {r : SRes} (h : SPost Γ W γ F G D (unS i r)) : SPost (Γ.sui (some xi)) W0 γ F G (unE (some i) D) r := by
  have key : ∀ {γ' : List Addr} {F' : Hp} {e : Env} {σ' : L2.St}, EnvK Γ.g (some xi) γ' F' e σ' → EnvK Γ.g Γ.xc γ' F' (e.set i none) (σ'.set i none) := fun q => by rw [hx]; exact q.drop i
  cases r with
  | nx e S' => exact fun γ' F' H' σ' n q => h γ' F' H' (σ'.set i none) n.sw (key q)
  | rt r S' => exact fun γ' F' H' v n q => h γ' F' H' v n.sw q
  | bk e S' => exact fun γ' F' H' σ' n q => h γ' F' H' (σ'.set i none) n.sw (key q)
  | ct e S' => exact fun γ' F' H' σ' n q => h γ' F' H' (σ'.set i none) n.sw (key q)
  | exc c fs e S' => exact h.elim
  | stuck => exact h.elim
theorem noX_post (hx : Γ.xc = none) {γ : List Addr} {F G : Hp} {D : Ends} {W0 : WX} {r : SRes} (h : SPost Γ W γ F G D (noX r)) : SPost (Γ.sui none) W0 γ F G D r := by
  have key : ∀ {γ' : List Addr} {F' : Hp} {e : Env} {σ' : L2.St}, EnvK Γ.g none γ' F' e σ' → EnvK Γ.g Γ.xc γ' F' e σ' := fun q => by rw [hx]; exact q
  cases r with
  | nx e S' => exact fun γ' F' H' σ' n q => h γ' F' H' σ' n.sw (key q)
  | rt r S' => exact fun γ' F' H' v n q => h γ' F' H' v n.sw q
  | bk e S' => exact fun γ' F' H' σ' n q => h γ' F' H' σ' n.sw (key q)
  | ct e S' => exact fun γ' F' H' σ' n q => h γ' F' H' σ' n.sw (key q)
  | exc c fs e S' => exact h.elim
  | stuck => exact h.elim
theorem hdz_x (fit : Fit Γ X W) (hx : Γ.xc = none) {hds : List ExceptHandler} {hs : List HdM} (h : HdZ Γ hds hs) : ∃ l, HdsX X hds l ∧ ∀ (Wout : WX) (D : Ends) (c : Nat) (fs : Fds) (env : Env) (S : Store) (γ : List Addr) (F G H : Hp) (d : Option Addr) (σ : L2.St),
    StR Γ.g Γ.xc γ S F G H → EnvK Γ.g Γ.xc γ F env σ → ExcR Γ.g F fs d → SPost Γ Wout γ F G D (runHd hs c fs env S) → wHd Wout D l (.ref (Γ.g.adr c)) d σ H := by
  induction h with
  | nil => exact ⟨[], .nil, fun Wout D c fs env S γ F G H d σ st er xr po => po γ F H σ d (Nx.refl st) er xr⟩
  | @plain te tst ms b₀ suite pos' hds l ht hsu r ih =>
    obtain ⟨l', h1, h2⟩ := ih
    obtain ⟨tv, t1, t2⟩ := ht X W fit
    refine ⟨⟨tv, none, fun a cls d D σ H => ∃ c fs, cls = .ref (Γ.g.adr c) ∧ rdS (Γ.sui none) (fun _ _ _ _ => False) (ms c fs) D σ H⟩ :: l', .plain t1 (fun a oe cls d pn hz hf => ⟨fun pins s σ H D I q => ?_⟩) h1, fun Wout D c fs env S γ F G H d σ st er xr po => ?_⟩
    · obtain ⟨c, fs, rfl, q⟩ := q
      exact (hsu c fs _ _ (fit.suite fun x h => by cases h)).run pins s σ H D I q
    · unfold runHd at po
      dsimp only at po
      cases e : tst c with
      | none => rw [e] at po; exact po.elim
      | some b =>
        rw [e] at po
        refine ⟨b, t2 c b e, fun hb a ha => ?_, fun hb => ?_⟩
        · subst hb
          exact ⟨c, fs, rfl, γ, S, F, G, env, st.sw, er.xc0, noX_post hx po⟩
        · subst hb
          exact h2 Wout D c fs env S γ F G H d σ st er xr po
  | @named te n i tst ms b₀ suite pos' hds l ht hi hln hsu r ih =>
    obtain ⟨l', h1, h2⟩ := ih
    obtain ⟨tv, t1, t2⟩ := ht X W fit
    refine ⟨⟨tv, some i, fun a cls d D σ H => ∃ c fs, cls = .ref (Γ.g.adr c) ∧ rdS (Γ.sui (some ⟨a, d, c, fs, i⟩)) (fun _ _ _ _ => False) (ms c fs) D σ H⟩ :: l',
      .named t1 (by rw [fit.eN]; exact hi) (show X.env.kindOf n = _ by unfold PySem.Env.kindOf; rw [fit.es]; exact hln) (fun a oe cls d pn hz hf => ⟨fun pins s σ H D I q => ?_⟩) h1, fun Wout D c fs env S γ F G H d σ st er xr po => ?_⟩
    · obtain ⟨c, fs, rfl, q⟩ := q
      exact (hsu a d c fs _ _ (fit.suite fun x h => by cases h; exact ⟨rfl, hz, hf⟩)).run pins s σ H D I q
    · unfold runHd at po
      dsimp only at po
      cases e : tst c with
      | none => rw [e] at po; exact po.elim
      | some b =>
        rw [e] at po
        refine ⟨b, t2 c b e, fun hb a ha => ?_, fun hb => ?_⟩
        · subst hb
          dsimp only at po
          split at po
          · rename_i hlt
            rw [er.len] at hlt
            refine ⟨c, fs, rfl, γ, S, F, G, env.set i none, st.sw, ⟨by simp [inS, er.len], fun j r hj => ?_, fun x hxx => ?_⟩, unS_post hx po⟩
            · by_cases hij : i = j
              · subst hij
                rw [List.getElem?_set_self (by rw [er.len]; exact hlt)] at hj; cases hj
              · rw [List.getElem?_set_ne hij] at hj
                obtain ⟨w, w1, w2⟩ := er.rel j r hj
                exact ⟨w, by show (σ.set i _)[j]? = _; rw [List.getElem?_set_ne hij]; exact w1, w2⟩
            · cases hxx
              exact ⟨by show (σ.set i _)[i]? = _; rw [List.getElem?_set_self hlt], xr⟩
          · exact po.elim
        · subst hb
          exact h2 Wout D c fs env S γ F G H d σ st er xr po
theorem try_split {Γ : Cxt} {W W' : WX} {D : Ends} {γ : List Addr} {F G : Hp} {env : Env} {S : Store} {mb : MS} {hs : List HdM} (po : SPost Γ W γ F G D (mTry mb hs env S))
    (h : ∀ c fs e S1 γ1 F1 H1 σ1 d, StR Γ.g Γ.xc γ1 S1 F1 G H1 → EnvK Γ.g Γ.xc γ1 F1 e σ1 → ExcR Γ.g F1 fs d → SPost Γ W γ1 F1 G D (runHd hs c fs e S1) → W' (.ref (Γ.g.adr c)) d σ1 H1) : SPost Γ W' γ F G D (mb env S) := by
  unfold mTry at po
  generalize mb env S = r at po ⊢
  cases r with
  | nx e S' => exact po
  | rt r S' => exact po
  | bk e S' => exact po
  | ct e S' => exact po
  | exc c fs e S' => exact fun γ' F' H' σ' d n q xr => h c fs e S' γ' F' H' σ' d n.st q xr (SPost.later po n)
  | stuck => exact po
end
theorem ss_try {Γ : Cxt} {body : List Stmt} {h₀ : ExceptHandler} {hds : List ExceptHandler} {mb : MS} {hs : List HdM} {pos : Pos} (hb : SSs Γ body mb) (hh : HdZ Γ (h₀ :: hds) hs) (ht : Γ.top = true := by rfl) (hx : Γ.xc = none := by rfl) : SS Γ (.Try body (h₀ :: hds) [] [] pos) (mTry mb hs) := fun X W fit => by
  obtain ⟨l, h1, h2⟩ := hdz_x fit hx hh
  obtain ⟨q1, q2, q3⟩ := fit.tp ht
  exact PS.imp (ps_tryZ (tb := fun W' => rdS Γ W' mb) q1 q2 (by rw [fit.eN]; exact fit.nd) fit.tk (fun W' pn xe tk ow => hb _ W' (fit.tr hx tk ow)) h1)
    fun D σ H ⟨γ, S, F, G, env, st, er, po⟩ => ⟨γ, S, F, G, env, st, er, try_split po fun c fs e S1 γ1 F1 H1 σ1 d st1 er1 xr po1 => h2 W D c fs e S1 γ1 F1 G H1 d σ1 st1 er1 xr po1⟩

/-! ### in a suite -/
section
variable {Γ : Cxt} {a : Addr} {d : Option Addr} {c i : Nat} {fs : Fds} {pos p : Pos} {n f : Str}
/-- what an own class must have, so that its exceptions can be asked -/
structure AskZ (K : PySem.W.Frag) (C : Addr) : Prop where
  x : XfC K C
  ca : PySem.W.findIn K (.ref C) "__class__" = some (some (.builtin "object.__class__"))
  cn : PySem.W.specialIn K (.builtin "object.__class__") "__get__" = some (some (.builtin "getset_descriptor.__get__"))
  ct : PySem.W.takesIn K (.builtin "object.__class__") = some true
  mo : PySem.W.mroIn K C (.type "object") = some true
def mXf (fs : Fds) (f : Str) : ME := fun _ S => match fs with
  | some l => match l.lookup f with
    | some x => .ok (.p x) S
    | none => .stuck
  | none => .stuck
theorem se_xf {Γ0 : Cxt} (T : (∃ l, fs = some l) → XfC Γ0.g.K (Γ0.g.adr c)) (hno : (∃ l, fs = some l) → PySem.W.findIn Γ0.g.K (.ref (Γ0.g.adr c)) f = some none) (ht : Γ0.top = true := by rfl) (hN : Γ0.N[i]? = some n := by rfl) (hv : Γ0.sc.names.lookup n = some .local := by rfl)
    (hd : (n == ("__debug__" : Str)) = false := by decide) (hcd : (n == ("__classdict__" : Str)) = false := by decide) (hb : ∀ env : PySem.Env, attributeBase (.Name n p) f env (eval (.Name n p) env) = eval (.Name n p) env := by intro _; rfl) :
    SE (Γ0.sui (some ⟨a, d, c, fs, i⟩)) (.Attribute (.Name n p) f pos) (mXf fs f) := fun X W fit => by
  cases hfs : fs with
  | none => exact ⟨fun pins s σ H Q I ⟨γ, S, F, G, env, st, er, po⟩ => po.elim⟩
  | some l =>
  obtain ⟨X0, oe, pn, eX, hz, hf⟩ := fit.sx ht ⟨a, d, c, fs, i⟩ rfl
  have eK := fit.eK
  subst eX
  have T' : XfC X0.K (Γ0.g.adr c) := by rw [show X0.K = Γ0.g.K from eK]; exact T ⟨l, hfs⟩
  have hno' : PySem.W.findIn X0.K (.ref (Γ0.g.adr c)) f = some none := by rw [show X0.K = Γ0.g.K from eK]; exact hno ⟨l, hfs⟩
  have he : PE (X0.suite a ((a, oe) :: pn)) (.Name n p) (tVar i) := pe_var (i := i) (by rw [fit.eN]; exact hN) (by rw [fit.es]; exact .inl hv) hd hcd
  refine PE.imp (pe_xf T' hno' hz hf he (hb _)) fun σ H Q ⟨γ, S, F, G, env, st, er, po⟩ => ?_
  obtain ⟨x1, x2⟩ := er.xs _ rfl
  refine ⟨.ref a, x1, rfl, rfl, ?_⟩
  subst hfs
  obtain ⟨dd, fvs, e1, e2, e3⟩ := x2
  unfold mXf at po
  dsimp only at po
  split at po
  · rename_i x hx
    obtain ⟨u, u1, u2⟩ := e3 f x hx
    exact ⟨dd, fvs, u, e1, st.fr _ _ e2, u1, po γ F H u (Nx.refl st) u2⟩
  · exact po.elim
end
end Z
namespace PySem.W
open PySem PySem.Spec PySem.Calls PyProof.Rows
section
variable {prog : Program} {w : World} {A : Around} {E : Value → Shared → Prop} {s : Shared} {K : Frag} {x D : Addr} {ox : Obj} {od : Option Obj}
theorem zfindObj {C : Addr} {name : Str} {a g : Value} (hc : (clsIn K C).isSome = true) (ha : findIn K (.ref C) name = some (some a)) (hg : specialIn K a "__get__" = some (some g)) (ht : takesIn K a = some true) : findObj K C od name = some (.bind g a) := by
  cases od with
  | none => exact findObj_dataN hc ha hg ht
  | some o => exact findObj_data hc ha hg ht
theorem zkin_class {Q : Option Value → Shared → Prop} (T : Z.AskZ K D) (X : K.In s.heap) (I : InstAt s.heap x ox D od) (h : Q (some (.ref D)) { s with toks := s.toks + 1 }) : wpAny (model prog w) A (getAttr? (.ref x) "__class__") Q E s := by
  have hf : findObj K D od "__class__" = some (.bind (.builtin "getset_descriptor.__get__") (.builtin "object.__class__")) := zfindObj (by obtain ⟨cd, hc, _⟩ := any_some T.x.hdC; rw [hc]; rfl) T.ca T.cn T.ct
  obtain ⟨hp, g, d, t, os⟩ := s
  have L0 := I.type (M := model prog w)
  have L1 := looks_findIn (M := model prog w) X T.x.ga
  have L2' := looks_findIn (M := model prog w) X T.x.gg
  have L3 := looks_find (M := model prog w) X I hf
  have sub : Looks (model prog w) hp (isInstance (.ref x) (.type "BaseException")) true := L0.andThen (looks_subIn X T.x.exC)
  have hx0 : (false && onTheHeap (Value.builtin "BaseException.__getattribute__")) = false := rfl
  have hx2 : (Value.builtin "BaseException.__getattribute__" == Value.builtin "object.__getattribute__") = false := by decide +kernel
  have hx1 : (onTheHeap (Value.ref D) && Value.builtin "BaseException.__getattribute__" == Value.builtin "object.__getattribute__") = false := by rw [hx2]; rfl
  unfold getAttr? getAttrBy? getAttrBy
  refine wpAny_bind (wpAny_mkText (wpAny_bind (wpAny_attempt (wpAny_holding (wpAny_bind (L0.at (wpAny_bind (L1.at ?_))))))))
  show wpAny _ _ (if (onTheHeap (Value.ref D) && Value.builtin "BaseException.__getattribute__" == Value.builtin "object.__getattribute__") = true then _ else _) _ _ _
  rw [hx1, if_neg Bool.false_ne_true]
  unfold getAttrByItsOwn hookBefore
  refine wpAny_bind ?_
  rw [if_pos (show onTheHeap (Value.ref D) = true from rfl)]
  refine L2'.at ?_
  refine wpAny_bind (wpAny_attempt (wpAny_holding ?_))
  unfold callGetattribute
  rw [hx0, if_neg Bool.false_ne_true]
  unfold boundAndCalled
  rw [PySem.F.excAttr_ValueError.ga.bind (.ref x)]
  refine wpAny_bind (wpAny_pure ?_)
  show wpAny _ _ (call (.builtin "BaseException.__getattribute__") [.ref x, .str "__class__" t]) _ _ _
  refine wpAny_call (codeAny_call_builtin PySem.F.excAttr_ValueError.ga.plain PySem.F.entry_bexc_ga ?_)
  refine @check_slot (model prog w) _ _ ⟨hp, g, d, t + 1, os⟩ "BaseException.__getattribute__" "BaseException" "__getattribute__" (.ref x) [.str "__class__" t] [] _ (by decide +kernel) (by decide +kernel) sub (PySem.F.args_bexc_ga (.ref x) (.str "__class__" t)) ?_
  unfold Builtin.«object.__getattribute__»
  refine wpAny_bind (wpAny_of_eq (a := ((Value.ref x : Value), [Value.str "__class__" t])) (by first | rfl | (simp only [slotArgs]; rfl)) ?_)
  refine wpAny_bind (wpAny_pure (wpAny_bind (L0.at (wpAny_bind (L3.at ?_)))))
  show wpAny _ _ (holding [Value.builtin "object.__class__"] (call (.builtin "getset_descriptor.__get__") [.builtin "object.__class__", .ref x, .ref D]) >>= ret) _ _ _
  refine wpAny_bind (wpAny_holding (wpAny_call (class_get (s := ⟨hp, g, d, t + 1, os⟩) X I T.mo ?_)))
  refine wpAny_pure ?_
  show wpAny _ _ (handedOut (.ref D)) _ _ _
  rw [handedOut_of (v := .ref D) rfl]
  first
    | exact wpAny_pure (wpAny_pure h)
    | exact wpAny_pure h
    | exact wpAny_pure (wpAny_bind (wpAny_pure (wpAny_pure h)))
theorem zkitx (T : Z.AskZ K D) : KitX K (.ref x) (.ref D) (fun h => InstAt h x ox D od) where
  ty := fun _ _ _ I => I.type
  it := fun _ _ X _ => by
    obtain ⟨cdD, hcD, _⟩ := any_some T.x.hdC
    unfold clsIn at hcD
    split at hcD
    · rename_i c' d' cd' sl' ho
      intro A' Q' E' s' k q
      unfold isType loadHead
      exact wpAny_bind (wpAny_loadPart (k _ _ (X _ _ ho)) (wpAny_pure q))
    · cases hcD
  ne := fun h tp dd its n sl X htp => by
    obtain ⟨cdD, hcD, _⟩ := any_some T.x.hdC
    refine Bool.eq_false_iff.mpr fun q => ?_
    obtain rfl : D = tp := Value.ref.inj (beq_iff_eq.mp q)
    unfold clsIn at hcD
    split at hcD
    · rename_i c' d' cd' sl' ho
      have z := (X _ _ ho).symm.trans htp
      cases z
    · cases hcD
  ca := fun X I k => zkin_class T X I k
end
end PySem.W
namespace Z
open PySem PySem.Spec PyProof.Rows L2
section
variable {a : Addr} {d : Option Addr} {c i : Nat} {fs : Fds} {pos p p1 p2 : Pos} {n x : Str}
/-- isinstance(e, C) in a suite, C an own class or a builtin one -/
theorem se_isE {Γ0 : Cxt} {ec : Expr} {cv : Value} {v : V} {b : Bool} (T : AskZ Γ0.g.K (Γ0.g.adr c)) (hq : PySem.W.kitOne Γ0.g.K (.ref (Γ0.g.adr c)) cv = some b) (hcl : ∀ X W, Fit (Γ0.sui (some ⟨a, d, c, fs, i⟩)) X W → PE X ec (tC v)) (rv : ∀ u, L2.RelV v u → u = cv)
    (hm : Γ0.g.mg "isinstance" = none) (hs : ∀ env : PySem.Env, starEach [.Name n p1, ec] env = (false, eval (.Name n p1) env) :: starEach [ec] env := by intro _; rfl) (hs2 : ∀ env : PySem.Env, starEach [ec] env = [(false, eval ec env)] := by intro _; rfl) (hp : ∀ env : PySem.Env, (backTo pos (starEach [ec] env)).any (·.1) = false := by intro _; rfl)
    (ht : Γ0.top = true := by rfl) (hN : Γ0.N[i]? = some n := by rfl) (hv : Γ0.sc.names.lookup n = some .local := by rfl) (hg : Γ0.sc.names.lookup ("isinstance" : Str) = some .globalImplicit := by rfl)
    (hd : (n == ("__debug__" : Str)) = false := by decide) (hcd : (n == ("__classdict__" : Str)) = false := by decide) :
    SE (Γ0.sui (some ⟨a, d, c, fs, i⟩)) (.Call (.Name "isinstance" p) [.Name n p1, ec] [] pos) (mC (.p (.bool b))) := fun X W fit => by
  obtain ⟨X0, oe, pn, eX, hz, vs, hf⟩ := fit.sx ht ⟨a, d, c, fs, i⟩ rfl
  have eK := fit.eK
  have he : PE X (.Name n p1) (tVar i) := pe_var (i := i) (by rw [fit.eN]; exact hN) (by rw [fit.es]; exact .inl hv) hd hcd
  have ha : PA X [.Name n p1, ec] (tCons (tVar i) (tCons (tC v) tNil)) := pa_cons he (pa_cons (hcl X W fit) pa_nil (by rw [hs2 X.env]; rfl)) (hs X.env)
  have gi : Gl X "isinstance" := gl_of fit hg
  have mi : X.mg "isinstance" = none := by rw [fit.em]; exact hm
  subst eX
  refine ⟨fun pins s σ H Q I ⟨γ, S, F, G, env, st, er, po⟩ => ?_⟩
  obtain ⟨x1, x2⟩ := er.xs _ rfl
  refine wpAny_Call_Name_kw (ld_blt (u := .builtin "isinstance") I gi mi (by decide +kernel) ?_ (by decide) (by decide))
  refine PyProof.Rows.callWith_builtin1 (thn (ha.run pos pins s σ H (fun us H1 => us = [.ref a, v] ∧ H1 = H) I ⟨.ref a, x1, rfl, rfl⟩) fun us s1 ⟨us', H1, I1, r1, e1, e2⟩ => ?_) (hs _) (hp _)
  subst e1 e2
  cases r1 with
  | cons ra rr => cases rr with
    | @cons _ u2 _ _ rb rr =>
      cases rr
      obtain rfl := rv _ rb
      cases ra
      obtain ⟨hget, _⟩ := I1.pin (a, oe) (List.mem_append.mpr (.inl List.mem_cons_self))
      have hod : ∃ od, PySem.W.InstAt s1.heap a oe (Γ0.g.adr c) od := by
        obtain ⟨hz1, hz2⟩ := hz
        have hnc : PySem.W.notCls oe = true := by unfold PySem.W.notCls; rw [hf] <;> rfl
        cases d with
        | none => exact ⟨none, hget, hz1, hnc, by rw [hz2]; trivial⟩
        | some dd =>
          cases fs with
          | none => cases x2
          | some l =>
            obtain ⟨dd', fvs, e1, e2, _⟩ := x2
            cases e1
            have hx : ObjOk X0.prog X0.w H1 s1.heap dd (.xd fvs) := I1.hok dd _ (st.fr _ _ e2)
            obtain ⟨mA, hns, _⟩ := hx
            obtain ⟨od, ho, _⟩ := lookIn_ns hns
            exact ⟨some od, hget, hz1, hnc, by rw [hz2]; exact ho⟩
      obtain ⟨od, J⟩ := hod
      have T' : AskZ X0.K (Γ0.g.adr c) := by rw [show X0.K = Γ0.g.K from eK]; exact T
      exact PySem.W.kia_one (PySem.W.zkitx T') I1.kIn J (by rw [show X0.K = Γ0.g.K from eK]; exact hq) (fun z => nomatch z) fun tk => ⟨.bl b, H1, I1.kept (t' := tk) fun _ _ z => z, rfl, po γ F H1 (.bl b) (Nx.refl st) (.bl b)⟩
end
end Z
namespace Z
open PySem PySem.Spec PyProof.Rows L2
/-- an own exception class without an own __init__ -/
structure ExcZ0 (g : Gd) (x : Str) (c : Nat) : Prop where
  mg : g.mg x = some (.ref (g.adr c))
  ex : ∃ B newId initId bmB, ExcBaseFacts B newId initId bmB ∧ PySem.W.excIn g.K (g.adr c) bmB newId = true
  kC : PySem.W.keepIn g.K (.ref (g.adr c)) = true
  exC : PySem.W.subIn g.K (.ref (g.adr c)) (.type "BaseException") = some true
  tyC : PySem.W.typeIn g.K (.ref (g.adr c)) = some (.type "type")
theorem ss_raise0 {Γ : Cxt} {x m : Str} {c j : Nat} {p p2 pos pos' : Pos} (D : ExcZ0 Γ.g x c) (hg : Γ.sc.names.lookup x = some .globalImplicit := by rfl) (hc : Γ.calm = true := by rfl) (hd : (x == ("__debug__" : Str)) = false := by decide) :
    SS Γ (.Raise (some (.Call (.Name x p) [.Constant (.str m) j p2] [] pos)) none pos') (fun env S => .exc c none env S) := fun X W fit => by
  obtain ⟨B, newId, initId, bmB, h1, h2⟩ := D.ex
  have eK := fit.eK
  exact PS.imp (ps_raise (by rw [fit.ec]; exact hc) fit.tk (pmk_own (C := Γ.g.adr c) h1 (by rw [eK]; exact h2) (by rw [fit.em]; exact D.mg) (by rw [eK]; exact D.kC) (raises_own (by rw [eK]; exact D.exC) (by rw [eK]; exact D.tyC)) (gl_of fit hg) hd))
    fun De σ H ⟨γ, S, F, G, env, st, er, po⟩ => po γ F H σ none (Nx.refl st) er rfl
end Z


set_option Elab.async false
set_option linter.all false
set_option autoImplicit false
set_option maxRecDepth 100000
set_option maxHeartbeats 4000000
/-! Zref: a cell made frozen data; a def's promise by a plainer function (what the caller no longer needs of the store is let go). -/
namespace Z
open PySem PySem.Spec PyProof.Rows L2
def frz (S : Store) : RV → Option (PyData × Store)
  | .loc n => match S[n]? with
    | some (.lst l) => (allP l).map fun ds => (.list ds, S.set n .gone)
    | some (.tup l) => (allP l).map fun ds => (.tuple ds, S.set n .gone)
    | _ => none
  | _ => none
def mFz (m : ME) : ME := fun env S => (m env S).bind fun r S1 => match frz S1 r with
  | some (d, S2) => .ok (.p d) S2
  | none => .ok r S1
section
variable {g : Gd} {xc : XC} {γ : List Addr} {S : Store} {F G H : Hp}
theorem StR.frz1 (st : StR g xc γ S F G H) {n : Nat} {a : Addr} {c0 : Cell} {o : HO} (h0 : S[n]? = some c0) (hg : c0 ≠ .gone) (ha : γ[n]? = some a) (hH : H a = some o) : Nx g xc γ F G γ (S.set n .gone) (upd F a o) H := by
  have hF := st.fl n c0 a h0 ha hg
  refine ⟨List.prefix_refl _, Ex.new hF, ⟨fun b u h => ?_, st.gh, fun b h => ?_, st.fc, fun m c b h1 h2 h3 => ?_, by simp [st.len], st.nd, fun m c b h1 h2 => ?_⟩⟩
  · by_cases e : b = a
    · subst e; rw [upd_same] at h; rw [hH]; exact h
    · rw [upd_ne e] at h; exact st.fr b u h
  · by_cases e : b = a
    · subst e; exact st.fc b (List.mem_of_getElem? ha)
    · rw [upd_ne e] at h; exact st.fg b h
  · by_cases e : n = m
    · subst e
      have hl : n < S.length := (List.getElem?_eq_some_iff.mp h0).1
      rw [List.getElem?_set_self hl] at h1; cases h1; exact absurd rfl h3
    · rw [List.getElem?_set_ne e] at h1
      have : b ≠ a := fun z => e (nodup_at st.nd ha (z ▸ h2))
      rw [upd_ne this]; exact st.fl m c b h1 h2 h3
  · by_cases e : n = m
    · subst e
      have hl : n < S.length := (List.getElem?_eq_some_iff.mp h0).1
      rw [List.getElem?_set_self hl] at h1; cases h1
      rw [ha] at h2; cases h2
      show H a ≠ none
      rw [hH]; simp
    · rw [List.getElem?_set_ne e] at h1
      exact (st.cell m c b h1 h2).mono (List.prefix_refl _) (Ex.new hF) rfl
theorem frz_ok (st : StR g xc γ S F G H) {r : RV} {v : V} {d : PyData} {S2 : Store} (rv : RVr g xc γ F r v) (h : frz S r = some (d, S2)) : ∃ F', Nx g xc γ F G γ S2 F' H ∧ Rp g.K F' v d := by
  cases r with
  | loc n =>
    obtain ⟨a, h1, rfl⟩ := rv
    simp only [frz] at h
    split at h
    · rename_i l hc
      obtain ⟨ds, e1, e2⟩ := Option.map_eq_some_iff.mp h
      cases e2
      obtain ⟨vs, h2, h3⟩ := st.cell n _ a hc h1
      have nn := st.frz1 hc (by simp) h1 h2
      exact ⟨_, nn, .lst upd_same (Rps.mono nn.ex (allP_ok h3 e1))⟩
    · rename_i l hc
      obtain ⟨ds, e1, e2⟩ := Option.map_eq_some_iff.mp h
      cases e2
      obtain ⟨vs, h2, h3⟩ := st.cell n _ a hc h1
      have nn := st.frz1 hc (by simp) h1 h2
      exact ⟨_, nn, .tup (SqT.of upd_same) (Rps.mono nn.ex (allP_ok h3 e1))⟩
    · cases h
  | p d => cases h
  | fn k => cases h
  | scr ns => cases h
  | ty n => cases h
end
theorem se_fz {Γ : Cxt} {e : Expr} {m : ME} (h : SE Γ e m) : SE Γ e (mFz m) := fun X W fit => PE.imp (h X W fit) fun σ H Q ⟨γ, S, F, G, env, st, er, po⟩ => ⟨γ, S, F, G, env, st, er, by
  refine Post.imp (Post.of_bind (R := RelV' Γ) po) fun v H1 ⟨γ1, S1, F1, r, e1, n1, r1, po1⟩ => ?_
  split at po1
  · rename_i d S2 hz
    obtain ⟨F2, n2, r2⟩ := frz_ok n1.st r1 hz
    exact po1 γ1 F2 H1 v n2 r2
  · exact po1 γ1 F1 H1 v (Nx.refl n1.st) r1⟩

/-! ### what a caller needs of the store -/
def RV.lt (m : Nat) : RV → Prop
  | .loc n => n < m
  | _ => True
def Cell.lt (m : Nat) : Cell → Prop
  | .lst l => ∀ r ∈ l, r.lt m
  | .tup l => ∀ r ∈ l, r.lt m
  | .dK kvs => ∀ r ∈ kvs, r.2.lt m
  | .ins _ fs => ∀ r ∈ fs, r.2.lt m
  | .gone => True
/-- S2 is what is kept of S1, reached from S0 -/
structure Wk (S0 S1 S2 : Store) : Prop where
  l0 : S0.length ≤ S2.length
  l1 : S2.length ≤ S1.length
  c : ∀ (n : Nat) (c : Cell), S2[n]? = some c → c = .gone ∨ (S1[n]? = some c ∧ (S0[n]? = some c ∨ c.lt S2.length))
def Ref (S0 : Store) (r s : Res RV) : Prop := match s with
  | .stuck => True
  | .ok a S2 => ∃ S1, r = .ok a S1 ∧ a.lt S2.length ∧ Wk S0 S1 S2
  | .exc c fs S2 => ∃ S1, r = .exc c fs S1 ∧ Wk S0 S1 S2
section
variable {g : Gd} {xc : XC} {γ γ0 γ1 : List Addr} {S S0 S1 S2 : Store} {F F0 F1 G H H0 H1 : Hp}
theorem RVr.cut {m : Nat} {r : RV} {v : V} (h : r.lt m) (q : RVr g xc γ F r v) : RVr g xc (γ.take m) F r v := by
  cases r with
  | loc n => obtain ⟨a, h1, h2⟩ := q; exact ⟨a, by rw [List.getElem?_take_of_lt h]; exact h1, h2⟩
  | p d => exact q
  | fn k => exact q
  | scr ns => exact q
  | ty n => exact q
theorem paired_mem {α β : Type} {A B : α → β → Prop} : ∀ {l : List α} {m : List β}, Paired A l m → (∀ a ∈ l, ∀ b, A a b → B a b) → Paired B l m
  | _, _, .nil, _ => .nil
  | _, _, .cons r t, h => .cons (h _ (List.mem_cons_self ..) _ r) (paired_mem t fun a ha => h a (List.mem_cons_of_mem _ ha))
theorem CellR.cut {m : Nat} {a : Addr} {c : Cell} (h : c.lt m) (q : CellR g xc γ F H a c) : CellR g xc (γ.take m) F H a c := by
  cases c with
  | lst l => obtain ⟨vs, h1, h2⟩ := q; exact ⟨vs, h1, paired_mem h2 fun r hr v q => q.cut (h r hr)⟩
  | tup l => obtain ⟨vs, h1, h2⟩ := q; exact ⟨vs, h1, paired_mem h2 fun r hr v q => q.cut (h r hr)⟩
  | dK kvs => obtain ⟨vs, h1, h2⟩ := q; exact ⟨vs, h1, paired_mem h2 fun r hr v q => ⟨q.1, q.2.cut (h r hr)⟩⟩
  | ins k fs => obtain ⟨dx, vs, h1, h2⟩ := q; exact ⟨dx, vs, h1, paired_mem h2 fun r hr v q => ⟨q.1, q.2.cut (h r hr)⟩⟩
  | gone => exact q
theorem RVr.ltγ {r : RV} {v : V} (q : RVr g xc γ F r v) : r.lt γ.length := by
  cases r with
  | loc n => obtain ⟨a, h1, h2⟩ := q; exact (List.getElem?_eq_some_iff.mp h1).1
  | _ => trivial
theorem paired_left {α β : Type} {A : α → β → Prop} : ∀ {l : List α} {m : List β}, Paired A l m → ∀ a ∈ l, ∃ b, A a b
  | _, _, .nil, a, h => by cases h
  | _, _, .cons r t, a, h => by
    rcases List.mem_cons.mp h with e | h
    · subst e; exact ⟨_, r⟩
    · exact paired_left t a h
theorem CellR.ltγ {a : Addr} {c : Cell} (q : CellR g xc γ F H a c) : c.lt γ.length := by
  cases c with
  | lst l => obtain ⟨vs, h1, h2⟩ := q; exact fun r hr => let ⟨v, z⟩ := paired_left h2 r hr; z.ltγ
  | tup l => obtain ⟨vs, h1, h2⟩ := q; exact fun r hr => let ⟨v, z⟩ := paired_left h2 r hr; z.ltγ
  | dK kvs => obtain ⟨vs, h1, h2⟩ := q; exact fun r hr => let ⟨v, z⟩ := paired_left h2 r hr; z.2.ltγ
  | ins k fs => obtain ⟨dx, vs, h1, h2⟩ := q; exact fun r hr => let ⟨v, z⟩ := paired_left h2 r hr; z.2.ltγ
  | gone => trivial
theorem Cell.lt_mono {m k : Nat} (h : m ≤ k) : ∀ {c : Cell}, c.lt m → c.lt k := by
  have rr : ∀ {r : RV}, r.lt m → r.lt k := fun {r} q => by
    cases r with
    | loc n => exact Nat.lt_of_lt_of_le q h
    | _ => trivial
  intro c q
  cases c with
  | lst l => exact fun r hr => rr (q r hr)
  | tup l => exact fun r hr => rr (q r hr)
  | dK kvs => exact fun r hr => rr (q r hr)
  | ins k fs => exact fun r hr => rr (q r hr)
  | gone => trivial
theorem Nx.cut (st0 : StR g xc γ0 S0 F0 G H0) (n : Nx g xc γ0 F0 G γ1 S1 F1 H1) (w : Wk S0 S1 S2) : Nx g xc γ0 F0 G (γ1.take S2.length) S2 F1 H1 := by
  have hl : S2.length ≤ γ1.length := by rw [n.st.len]; exact w.l1
  have pre : γ0 <+: γ1.take S2.length := List.prefix_take_iff.mpr ⟨n.pre, by rw [st0.len]; exact w.l0⟩
  refine ⟨pre, n.ex, ⟨n.st.fr, n.st.gh, n.st.fg, fun a h => n.st.fc a (List.mem_of_mem_take h), fun m c a h1 h2 h3 => ?_, by rw [List.length_take]; omega, n.st.nd.sublist (List.take_sublist ..), fun m c a h1 h2 => ?_⟩⟩
  · have hm : m < S2.length := (List.getElem?_eq_some_iff.mp h1).1
    rw [List.getElem?_take_of_lt hm] at h2
    rcases w.c m c h1 with q | ⟨q, _⟩
    · exact absurd q h3
    · exact n.st.fl m c a q h2 h3
  · have hm : m < S2.length := (List.getElem?_eq_some_iff.mp h1).1
    have h2' := h2
    rw [List.getElem?_take_of_lt hm] at h2
    rcases w.c m c h1 with q | ⟨q, z⟩
    · subst q
      exact n.st.at_ne (List.mem_of_getElem? h2)
    · refine (n.st.cell m c a q h2).cut ?_
      rcases z with z | z
      · have hm0 : m < γ0.length := by rw [st0.len]; exact (List.getElem?_eq_some_iff.mp z).1
        have := (st0.cell m c _ z (List.getElem?_eq_getElem hm0)).ltγ
        exact Cell.lt_mono (by rw [st0.len]; exact w.l0) this
      · exact z
theorem Ref.post {mf r s : Res RV} {Q : VK} {E : XK} (st0 : StR g xc γ0 S0 F0 G H0) (h : Ref S0 r s) (po : Post g xc γ0 F0 G (fun γ F => RVr g xc γ F) Q E s) : Post g xc γ0 F0 G (fun γ F => RVr g xc γ F) Q E r := by
  cases s with
  | stuck => exact po.elim
  | ok a S2 =>
    obtain ⟨S1, rfl, ha, w⟩ := h
    exact fun γ' F' H' v n q => po _ F' H' v (n.cut st0 w) (q.cut ha)
  | exc c fs S2 =>
    obtain ⟨S1, rfl, w⟩ := h
    exact fun γ' F' H' d n q => po _ F' H' d (n.cut st0 w) q
end
theorem FnZ.ref {g : Gd} {k : Nat} {f : Addr} {fd : FuncData} {ps : List Str} {mf sp : FN} (D : FnZ g k f fd ps mf) (h : ∀ args S, Ref S (mf args S) (sp args S)) : FnZ g k f fd ps sp where
  len := fun args S q => D.len args S fun z => by
    have := h args S
    rw [z] at this
    cases e : sp args S with
    | stuck => exact q e
    | ok a S2 => rw [e] at this; obtain ⟨_, z, _⟩ := this; cases z
    | exc c fs S2 => rw [e] at this; obtain ⟨_, z, _⟩ := this; cases z
  run := fun A outer s H args us vs Q E hr hg e0 hb rv ⟨γ, S, F, G, l, st, rl, po⟩ => D.run A outer s H args us vs Q E hr hg e0 hb rv ⟨γ, S, F, G, l, st, rl, Ref.post (mf := .stuck) st (h l S) po⟩
/-! ways to show it -/
theorem Ref.same {S : Store} {r : Res RV} (h : ∀ a S', r = .ok a S' → a.lt S'.length ∧ S.length ≤ S'.length ∧ ∀ (n : Nat) (c : Cell), S'[n]? = some c → S[n]? = some c ∨ c.lt S'.length) (h2 : ∀ c fs S', r = .exc c fs S' → S.length ≤ S'.length ∧ ∀ (n : Nat) (c : Cell), S'[n]? = some c → S[n]? = some c ∨ c.lt S'.length) : Ref S r r := by
  cases r with
  | stuck => trivial
  | ok a S' => obtain ⟨h1, h3, h4⟩ := h a S' rfl; exact ⟨S', rfl, h1, h3, Nat.le_refl _, fun n c q => .inr ⟨q, h4 n c q⟩⟩
  | exc c fs S' => obtain ⟨h3, h4⟩ := h2 c fs S' rfl; exact ⟨S', rfl, h3, Nat.le_refl _, fun n c q => .inr ⟨q, h4 n c q⟩⟩
theorem Wk.pre {S X : Store} : Wk S (S ++ X) S := ⟨Nat.le_refl _, by simp, fun n c q => .inr ⟨by rw [List.getElem?_append_left (List.getElem?_eq_some_iff.mp q).1]; exact q, .inl q⟩⟩
/-- a def that leaves nothing behind -/
theorem Ref.pure {S X : Store} {d : PyData} {r : Res RV} (h : r = .ok (.p d) (S ++ X)) : Ref S r (.ok (.p d) S) := ⟨_, h, trivial, Wk.pre⟩
theorem Ref.pure0 {S : Store} {d : PyData} {r : Res RV} (h : r = .ok (.p d) S) : Ref S r (.ok (.p d) S) := Ref.pure (X := []) (by rw [List.append_nil]; exact h)
theorem Ref.exc0 {S X : Store} {c : Nat} {fs : Fds} {r : Res RV} (h : r = .exc c fs (S ++ X)) : Ref S r (.exc c fs S) := ⟨_, h, Wk.pre⟩
/-- .. and writes one cell of plain data -/
theorem Wk.set {S X : Store} {i : Nat} {c : Cell} (hc : c.lt 0) : Wk S (S.set i c ++ X) (S.set i c) := ⟨by simp, by simp, fun n c' q => .inr ⟨by rw [List.getElem?_append_left (List.getElem?_eq_some_iff.mp q).1]; exact q, by
  by_cases e : i = n
  · subst e
    have hl : i < S.length := by have := (List.getElem?_eq_some_iff.mp q).1; simpa using this
    rw [List.getElem?_set_self hl] at q; cases q
    exact .inr (Cell.lt_mono (Nat.zero_le _) hc)
  · rw [List.getElem?_set_ne e] at q; exact .inl q⟩⟩
theorem Ref.set {S X : Store} {i : Nat} {c : Cell} {d : PyData} {r : Res RV} (hc : c.lt 0) (h : r = .ok (.p d) (S.set i c ++ X)) : Ref S r (.ok (.p d) (S.set i c)) := ⟨_, h, trivial, Wk.set hc⟩
end Z


set_option Elab.async false
set_option linter.all false
set_option autoImplicit false
set_option maxRecDepth 100000
set_option maxHeartbeats 4000000
/-! Zstar: a, *b = t, t a tuple. -/
namespace PySem.W
open PySem PySem.Spec PySem.Calls PyProof.Rows
section
variable {prog : Program} {w : World} {A : Around} {E : Value → Shared → Prop} {s : Shared} {env : Env} {elts : List Expr} {k : Nat} {pos : Pos}
theorem zun_starT {l : Addr} {items : Array Value} {n i : Nat} {Q : List Value → Shared → Prop} (hl : IsTup s.heap l items) (hh : A.handled = none) (hi : i < n) (hn : n ≤ items.size + 1) (hz : items.size ≤ 16384)
    (h : ∀ (h' : Heap) (tk : Tok), (∀ b o, s.heap.get? b = some o → h'.get? b = some o) →
      Q (items.toList.take i ++ [.ref h'.objs.size] ++ (items.toList.drop i).drop (items.size + 1 - n)) { s with heap := h'.push { cls := .type "list", data := .seq ((items.toList.drop i).take (items.size + 1 - n)).toArray }, toks := tk }) : wpAny (model prog w) A (unpackItems (.ref l) n (some i)) Q E s := by
  obtain ⟨o0, ho0, _⟩ := id hl
  have hll := Heap.lt_size ho0
  have hlt := Nat.ne_of_lt hll
  unfold unpackItems
  refine wpAny_bind ?_
  unfold notIterableAtAll
  refine wpAny_bind (wpAny_specialOf hl.typeIs slot_tuple_iter.lookup (wpAny_pure ?_))
  simp only [Bool.false_eq_true, if_false]
  refine wpAny_bind (wpAny_holding (iter_tuple hl (wpAny_bind (wpAny_holding (draw_tuple hlt i 0 _ _ ⟨_, Heap.get?_push_size _ rfl, rfl, rfl⟩ (hl.push _) (by omega) fun h₁ hit₁ hs₁ => ?_)))))
  have hl₁ : IsTup h₁ l items := (hl.push _).extBut hs₁.extBut hlt
  rw [Nat.zero_add] at hit₁
  obtain ⟨oi, hoi, _⟩ := id hit₁
  obtain ⟨ol, hol, _⟩ := id hl₁
  have hfl : (items.toList.take i).length = i := by rw [List.length_take, Array.length_toList]; omega
  rw [List.drop_zero, if_neg (show ¬ ((items.toList.take i).length < i) by rw [hfl]; omega)]
  refine wpAny_bind (wpAny_holding (kun_collect (s := { s with heap := h₁ }) (T := "tuple_iterator") (.inr (.inr (.inr rfl))) (Walks.tuple (A := A.in1) hh s.heap.objs.size l hlt items) (fun j u st => st.1.typeIs) (k := i) (by omega) ⟨hit₁, hl₁⟩ (Heap.lt_size hoi) (Heap.lt_size hol) (fun h₂ tk hk => ?_) (by rw [sizeLine_eq]; omega)))
  have hrl : (items.toList.drop i).length = items.size - i := by rw [List.length_drop, Array.length_toList]
  have hmid : (items.toList.drop i).length - (n - 1 - i) = items.size + 1 - n := by rw [hrl]; omega
  show wpAny _ _ (if (items.toList.drop i).length < n - 1 - i then _ else _) _ _ _
  rw [if_neg (by rw [hrl]; omega)]
  show wpAny _ _ (newList ((items.toList.drop i).take ((items.toList.drop i).length - (n - 1 - i))) >>= fun d => pure (items.toList.take i ++ [d] ++ (items.toList.drop i).drop ((items.toList.drop i).length - (n - 1 - i)))) _ _ _
  rw [hmid]
  have he : ∀ b o, s.heap.get? b = some o → h₂.get? b = some o := fun b o e => by
    have hb : b ≠ s.heap.objs.size := Nat.ne_of_lt (Heap.lt_size e)
    exact hk b o hb (hs₁.extBut b o hb (Heap.get?_push_of_some _ e))
  exact wpAny_bind (wpAny_newList (wpAny_pure (h _ tk he)) (by rw [List.length_take, hrl, sizeLine_eq]; omega))
end
end PySem.W
namespace Z
open PySem PySem.Spec PyProof.Rows L2
/-- a, *b = t: the i-th target of n takes the rest, a list -/
def bTupS (fz : Bool) (n i : Nat) (bs : Bds) : Bd := fun r env S => match tupv S r with
  | some l => if n ≤ l.length + 1 ∧ l.length ≤ 16384 then (mkL fz ((l.drop i).take (l.length + 1 - n)) S).bind fun x S1 => bs (l.take i ++ [x] ++ (l.drop i).drop (l.length + 1 - n)) env S1 else .stuck
  | none => .stuck
theorem RVs.dr {g : Gd} {xc : XC} {γ : List Addr} {F : Hp} {l : List RV} {vs : List V} (h : RVs g xc γ F l vs) : ∀ n : Nat, RVs g xc γ F (l.drop n) (vs.drop n) := by
  intro n
  induction h generalizing n with
  | nil => simp; exact .nil
  | cons r t ih => cases n with
    | zero => exact .cons r t
    | succ n => exact ih n
theorem vals_tk {vs : List V} {us : List Value} (h : Vals vs us) : ∀ n : Nat, Vals (vs.take n) (us.take n) := by
  intro n
  induction h generalizing n with
  | nil => simp; exact .nil
  | cons r t ih => cases n with
    | zero => exact .nil
    | succ n => exact .cons r (ih n)
theorem vals_dr {vs : List V} {us : List Value} (h : Vals vs us) : ∀ n : Nat, Vals (vs.drop n) (us.drop n) := by
  intro n
  induction h generalizing n with
  | nil => simp; exact .nil
  | cons r t ih => cases n with
    | zero => exact .cons r t
    | succ n => exact ih n
section
variable {Γ : Cxt} {pos : Pos}
theorem sgs_star {e : Expr} {es : List Expr} {b : Bd} {bs : Bds} {ts us : List Nat} {p : Pos} (h : SG Γ e b ts) (k : SGs Γ es bs us) (h1 : ∀ env : PySem.Env, assignEach (.Starred e p :: es) env = (true, assign e env) :: assignEach es env := by intro _; rfl)
    (h2 : ∀ env : PySem.Env, assignEach (e :: es) env = (false, assign e env) :: assignEach es env := by intro _; rfl) : SGs Γ (.Starred e p :: es) (bsCons b bs) (ts ++ us) := fun X W fit =>
  ⟨fun pins s σ H vs us' Q I r hh => by
    have z := (sgs_cons h k h2 X W fit).run pins s σ H vs us' Q I r hh
    rw [h2 X.env] at z
    rw [h1 X.env]
    exact z⟩
theorem gpost_mkL {fz : Bool} {γ : List Addr} {S : Store} {F G : Hp} {σ : L2.St} {ts : List Nat} {Q : L2.St → Hp → Prop} {l : List RV} {f : RV → Store → Res Env} (h : GPost Γ γ F G σ ts Q ((mkL fz l S).bind f)) :
    Post Γ.g Γ.xc γ F G (RelV' Γ) (fun v H' => ∃ γ' S' F' x, Nx Γ.g Γ.xc γ F G γ' S' F' H' ∧ RVr Γ.g Γ.xc γ' F' x v ∧ GPost Γ γ' F' G σ ts Q (f x S')) (fun _ _ _ => False) (mkL fz l S) := by
  refine Post.imp (gpost_bind (R := RelV' Γ) h) fun v H' ⟨γ', S', F', x, _, n, r, q⟩ => ⟨γ', S', F', x, n, r, q⟩
theorem sg_tupS (fz : Bool) {es : List Expr} {k n i : Nat} {bs : Bds} {ts : List Nat} (h : SGs Γ es bs ts) (hi : i < n := by decide) (hc : Γ.calm = true := by rfl) (h1 : ∀ env : PySem.Env, (assignEach es env).length = n := by intro _; rfl)
    (h2 : ∀ env : PySem.Env, List.findIdx? (fun x => x.1) (assignEach es env) = some i := by intro _; rfl) : SG Γ (.Tuple es k pos) (bTupS fz n i bs) ts := fun X W fit =>
  ⟨fun pins s σ H v u Q I rv ⟨γ, S, F, G, env, r, st, er, rr, po⟩ => by
    unfold bTupS at po
    split at po
    · rename_i l e
      split at po
      · rename_i hn
        obtain ⟨a, vs, rfl, q1, q2⟩ := tupv_ok st rr e
        obtain rfl : u = Value.ref a := rv
        obtain ⟨its, rv2, ht, hz⟩ := I.tuple (by rw [fit.eK]; exact q1)
        have hl : its.length = l.length := by rw [← rv2.length, q2.len]
        have e1 : its.toArray.size = l.length := (List.size_toArray (as := its)).trans hl
        rw [assign_Tuple]
        refine wpAny_bind (wpAny_standAt ?_)
        unfold PySem.unpack
        rw [h1 X.env, h2 X.env]
        refine wpAny_bind (wpAny_holding (PySem.W.zun_starT ht (I.ok.hd (by rw [fit.ec]; exact hc)) hi (by rw [e1]; exact hn.1) (by rw [e1]; exact hn.2) fun h' tk kp => ?_))
        rw [e1]
        have I1 : L2.Inv X pins σ H { s with heap := h', toks := tk } := I.kept (t' := tk) kp
        have hf : H h'.objs.size = none := I1.hok.fresh (Nat.le_refl _)
        have rm := vals_tk (vals_dr rv2 i) (l.length + 1 - n)
        have qm := RVs.tk (RVs.dr q2 i) (l.length + 1 - n)
        obtain ⟨z1, z2⟩ := mkL_ok st qm (gpost_mkL po)
        obtain ⟨γ1, S1, F1, x, n1, r1, po1⟩ := z2 _ hf
        have I2 : L2.Inv X pins σ (upd H h'.objs.size (.lst ((vs.drop i).take (l.length + 1 - n)))) { s with heap := h'.push { cls := .type "list", data := .seq ((its.drop i).take (l.length + 1 - n)).toArray }, toks := tk } :=
          I1.laid (t' := tk) (fun b o e => Heap.get?_push_of_some _ e) (Nat.le_refl _) ⟨z1, _, 0, rm, Heap.get?_push_size _ rfl⟩
        refine (h X W fit).run pins _ σ _ (vs.take i ++ [.ref h'.objs.size] ++ (vs.drop i).drop (l.length + 1 - n)) _ Q I2 ?_ ⟨γ1, S1, F1, G, env, _, n1.st, er.mono n1.pre n1.ex, ?_, po1⟩
        · have r0 : Vals [V.ref h'.objs.size] [Value.ref h'.objs.size] := .cons (show L2.RelV (.ref _) (.ref _) from rfl) .nil
          exact ((vals_tk rv2 i).append r0).append (vals_dr (vals_dr rv2 i) _)
        · exact RVs.app (RVs.app (RVs.mono n1.pre n1.ex (RVs.tk q2 i)) (.cons r1 .nil)) (RVs.mono n1.pre n1.ex (RVs.dr (RVs.dr q2 i) _))
      · exact po.elim
    · exact po.elim⟩
end
end Z


set_option Elab.async false
set_option linter.all false
set_option autoImplicit false
set_option maxRecDepth 100000
set_option maxHeartbeats 4000000
/-! Zmore: dict comprehensions and displays, a def called through a variable, repr. -/
namespace Z
open PySem PySem.Spec PyProof.Rows L2
/-! ### {k: v for ..} -/
def runDc (b : Bd) (tt : MT) (tk tv : ME) (gd : Store → Bool) : List Item → Env → Store → List (Key × RV) → Res (List (Key × RV))
  | [], env, S, acc => if gd S = true then .ok acc S else .stuck
  | it :: its, env, S, acc => if gd S = true then
      match b (mkI it S).1 env (mkI it S).2 with
      | .ok e1 S1 => match tt e1 S1 with
        | .ok true S2 => match tk e1 S2 with
          | .ok y S3 => match tv e1 S3 with
            | .ok z S4 => match keyOf y with
              | some k => if acc.length < sizeLine then runDc b tt tk tv gd its env S4 (putR acc k z) else .stuck
              | none => .stuck
            | _ => .stuck
          | _ => .stuck
        | .ok false S2 => runDc b tt tk tv gd its env S2 acc
        | _ => .stuck
      | _ => .stuck
    else .stuck
def mDc (mi : MI) (b : Bd) (tt : MT) (tk tv : ME) (vs : List Nat) : ME := fun env S => (mi env S).bind fun a S1 => (runDc b tt tk tv a.2 a.1 (wipeE env vs) S1 []).bind fun kvs S2 => .ok (.loc S2.length) (S2 ++ [Cell.dK kvs])
section
variable {Γ : Cxt} {pos : Pos} {tg iter kx vx : Expr} {ifs : List Expr} {scope : Scope} {own : List (Str × Nat)} {mi : MI} {b : Bd} {ts : List Nat} {tt : MT} {tk tv : ME}
theorem post_later2 {γ γ' : List Addr} {F F' G G' H' : Hp} {S' : Store} {Q : VK} {E : XK} (n : Nx Γ.g Γ.xc γ F G' γ' S' F' H') {r : Res RV} (h : Post Γ.g Γ.xc γ F G (RelV' Γ) Q E r) : Post Γ.g Γ.xc γ' F' G (RelV' Γ) Q E r := by
  cases r with
  | ok r S' => exact fun γ'' F'' H'' v n' q => h γ'' F'' H'' v ⟨n.pre.trans n'.pre, n.ex.trans n'.ex, n'.st⟩ q
  | exc c fs S' => exact fun γ'' F'' H'' d n' q => h γ'' F'' H'' d ⟨n.pre.trans n'.pre, n.ex.trans n'.ex, n'.st⟩ q
  | stuck => exact h
theorem se_dc (hc : Γ.calm = true) (hx0 : Γ.xc = none) (hi : SI Γ tg iter mi) (ok : BlkOk Γ.N Γ.sc scope own) (hg : SG (Γ.blk scope) tg b ts) (hts : ∀ i ∈ ts, i ∈ slots own) (ht : STs (Γ.blk scope) ifs tt) (hk : SE (Γ.blk scope) kx tk) (hv : SE (Γ.blk scope) vx tv)
    (hf : ∀ (env : PySem.Env) x, foldedSetIterable iter env x = pure x := by intro _ _; rfl) : SE Γ (.DictComp kx vx [⟨tg, iter, ifs, 0⟩] scope pos) (mDc mi b tt tk tv (slots own)) := fun X W fit =>
  PE.imp (pe_dc (by rw [fit.ec]; exact hc) (by rw [fit.eN]; exact fit.nd) (hi X W fit) (by rw [fit.eN, fit.es]; exact ok) (fun s H C cl fp => hg _ W0 (fit.blk scope s H C cl fp)) (fun s H C cl fp => ht _ W0 (fit.blk scope s H C cl fp)) (fun s H C cl fp => hk _ W0 (fit.blk scope s H C cl fp)) (fun s H C cl fp => hv _ W0 (fit.blk scope s H C cl fp)) (fun x => hf X.env x)) fun σ H Q ⟨γ, S, F, G, env, st, er, po⟩ =>
  ⟨γ, S, F, G, env, st, er, Post.imp (Post.of_bind (R := fun γ' F' a (J : It) => IterOK Γ J γ' F' a.1 a.2) po) fun J H1 ⟨γ1, S1, F1, a, e1, n1, r1, po1⟩ => by
    obtain ⟨items, gd⟩ := a
    dsimp only at r1 po1
    intro D hD
    have hG : G D = none := by
      cases e : G D with
      | none => rfl
      | some u => rw [n1.st.gh D u e] at hD; cases hD
    have erw := (er.mono n1.pre n1.ex).wipe hx0 (slots own)
    refine ⟨fun i m H' => m = items.length - i ∧ ∃ γ' S' F' acc vs, γ1 <+: γ' ∧ Ex F1 F' ∧ StR Γ.g Γ.xc γ' S' F' (upd G D (.dK vs)) H' ∧ KVR Γ.g Γ.xc γ' F' acc vs ∧
        Post Γ.g Γ.xc γ' F' G (RelV' Γ) Q (Wσ W σ) ((runDc b tt tk tv gd (items.drop i) (wipeE env (slots own)) S' acc).bind fun kvs S2 => .ok (.loc S2.length) (S2 ++ [Cell.dK kvs])),
      ⟨_, rfl, γ1, S1, F1, [], [], List.prefix_refl _, Ex.refl _, n1.st.hide hD, .nil, po1⟩, ?_⟩
    rintro i m H' ⟨rfl, γ', S', F', acc, vs, pre, ex, st', ra, po'⟩
    cases hd : items.drop i with
    | nil =>
      rw [hd] at po'
      unfold runDc at po'
      by_cases hgd : gd S' = true
      · rw [if_pos hgd] at po'
        refine .inl ⟨(r1 i γ' S' F' _ H' pre ex st' hgd).2 (List.drop_eq_nil_iff.mp hd), ?_⟩
        obtain ⟨st2, hF, hγ, hH⟩ := st'.unhide hG
        have n := st2.takeC hF hG hγ (c := .dK acc) ⟨vs, hH, KVR.mono (List.prefix_append _ _) (Ex.refl _) ra⟩
        exact po' _ _ _ _ n ⟨D, by rw [← st2.len]; simp, rfl⟩
      · rw [if_neg hgd] at po'; exact po'.elim
    | cons it its =>
      rw [hd] at po'
      unfold runDc at po'
      by_cases hgd : gd S' = true
      · rw [if_pos hgd] at po'
        obtain ⟨hit, hnext⟩ := drop_get hd
        have hlt : i < items.length := (List.getElem?_eq_some_iff.mp hit).1
        obtain ⟨hgo, hy⟩ := (r1 i γ' S' F' _ H' pre ex st' hgd).1 it hit
        refine .inr ⟨hgo, fun H2 => ∃ γ2 S2 F2 acc2 vs2, γ1 <+: γ2 ∧ Ex F1 F2 ∧ StR Γ.g Γ.xc γ2 S2 F2 (upd G D (.dK vs2)) H2 ∧ KVR Γ.g Γ.xc γ2 F2 acc2 vs2 ∧
          Post Γ.g Γ.xc γ2 F2 G (RelV' Γ) Q (Wσ W σ) ((runDc b tt tk tv gd its (wipeE env (slots own)) S2 acc2).bind fun kvs S2 => .ok (.loc S2.length) (S2 ++ [Cell.dK kvs])), ?_, ?_⟩
        · rintro H2 ⟨γ2, S2, F2, acc2, vs2, p2, x2, st2, ra2, po2⟩
          exact ⟨_, by omega, rfl, γ2, S2, F2, acc2, vs2, p2, x2, st2, ra2, by rw [hnext]; exact po2⟩
        · intro x H2 y
          obtain ⟨γ2, F2, n2, r2⟩ := item_ok st' pre ex (hy x H2 y)
          have lat : ∀ {γ3 : List Addr} {S3 : Store} {F3 H3 : Hp} {G' : Hp}, Nx Γ.g Γ.xc γ' F' G' γ3 S3 F3 H3 → γ1 <+: γ3 ∧ Ex F1 F3 := fun n => ⟨pre.trans n.pre, ex.trans n.ex⟩
          have erw2 := (erw.mono pre ex).mono n2.pre n2.ex
          refine ⟨γ2, (mkI it S').2, F2, _, _, _, n2.st, erw2, r2, ?_⟩
          generalize b (mkI it S').1 (wipeE env (slots own)) (mkI it S').2 = q at po' ⊢
          cases q with
          | ok e2 S3 =>
            intro γ3 F3 H3 σ3 n3 ek3 tu
            refine ⟨(tu.wipe _ hts).trans (wipe_twice _), γ3, S3, F3, _, e2, n3.st, ek3, ?_⟩
            dsimp only at po'
            have n23 := n2.trans n3
            generalize hq2 : tt e2 S3 = q2 at po' ⊢
            cases q2 with
            | ok c S4 =>
              intro γ4 F4 H4 c' n4 hcc
              cases hcc
              have n234 := n23.trans n4
              cases c with
              | true =>
                dsimp only at po'
                refine ⟨γ4, S4, F4, _, e2, n4.st, ek3.mono n4.pre n4.ex, ?_⟩
                generalize hq3 : tk e2 S4 = q3 at po' ⊢
                cases q3 with
                | ok y S5 =>
                  intro γ5 F5 H5 v n5 hv1
                  dsimp only at po'
                  refine ⟨γ5, S5, F5, _, e2, n5.st, (ek3.mono n4.pre n4.ex).mono n5.pre n5.ex, ?_⟩
                  generalize hq4 : tv e2 S5 = q4 at po' ⊢
                  cases q4 with
                  | ok z S6 =>
                    intro γ6 F6 H6 v2 n6 hv2
                    dsimp only at po'
                    have n26 := (n234.trans n5).trans n6
                    split at po'
                    · rename_i k hky
                      have hH6 : H6 D = some (.dK vs) := n6.st.gh D _ upd_same
                      have ra6 := KVR.mono n26.pre n26.ex ra
                      by_cases hz : acc.length < sizeLine
                      · rw [if_pos hz] at po'
                        refine ⟨vs, k, keyOf_ok hv1 hky, hH6, by rw [ra.len]; exact hz, γ6, S6, F6, _, _, (lat n26).1, (lat n26).2, n6.st.rehide, putR_ok ra6 hv2, post_later2 n26 po'⟩
                      · rw [if_neg hz] at po'; exact po'.elim
                    · exact po'.elim
                  | exc c fs S6 => exact po'.elim
                  | stuck => exact po'.elim
                | exc c fs S5 => exact po'.elim
                | stuck => exact po'.elim
              | false =>
                dsimp only at po'
                exact ⟨γ4, S4, F4, acc, vs, (lat n234).1, (lat n234).2, n4.st, KVR.mono n234.pre n234.ex ra, post_later2 n234 po'⟩
            | exc c fs S4 => exact po'.elim
            | stuck => exact po'.elim
          | exc c fs S3 => exact po'.elim
          | stuck => exact po'.elim
      · rw [if_neg hgd] at po'; exact po'.elim⟩
end

/-! ### {k: v, ..} -/
def runPr : List (ME × ME) → Env → Store → Res (List (RV × RV))
  | [], _, S => .ok [] S
  | (mk, mv) :: r, env, S => (mk env S).bind fun x S1 => (mv env S1).bind fun y S2 => (runPr r env S2).bind fun ps S3 => .ok ((x, y) :: ps) S3
def keysOf : List (RV × RV) → Option (List (Key × RV))
  | [] => some []
  | (x, y) :: r => match keyOf x, keysOf r with
    | some k, some l => some ((k, y) :: l)
    | _, _ => none
def mergeR (kvs more : List (Key × RV)) : List (Key × RV) := more.foldl (fun acc kv => putR acc kv.1 kv.2) kvs
def mDisp (trs : List (ME × ME)) : ME := fun env S => (runPr trs env S).bind fun ps S1 => match keysOf ps with
  | some kvs => if kvs.length ≤ 15 then .ok (.loc S1.length) (S1 ++ [Cell.dK (mergeR [] kvs)]) else .stuck
  | none => .stuck
section
variable {Γ : Cxt} {pos : Pos}
abbrev RVV (Γ : Cxt) : List Addr → Hp → List (RV × RV) → List (V × V) → Prop := fun γ F => Paired fun p q => RVr Γ.g Γ.xc γ F p.1 q.1 ∧ RVr Γ.g Γ.xc γ F p.2 q.2
def SPs (Γ : Cxt) (pos : Pos) (keys : List (Option Expr)) (values : List Expr) (trs : List (ME × ME)) : Prop := ∀ X W, Fit Γ X W → ∃ ts : List (TE × TE), PPs X pos keys values ts ∧
  ∀ σ H Q, rd Γ W (RVV Γ) (runPr trs) σ H Q → tPairs ts σ H Q
theorem sps_nil : SPs Γ pos [] [] [] := fun X W fit => ⟨[], pps_nil, fun σ H Q ⟨γ, S, F, G, env, st, er, po⟩ => po γ F H [] (Nx.refl st) .nil⟩
theorem sps_cons {k v : Expr} {ks : List (Option Expr)} {vs : List Expr} {mk mv : ME} {trs : List (ME × ME)} (hk : SE Γ k mk) (hv : SE Γ v mv) (hr : SPs Γ pos ks vs trs) : SPs Γ pos (some k :: ks) (v :: vs) ((mk, mv) :: trs) := fun X W fit => by
  obtain ⟨ts, h1, h2⟩ := hr X W fit
  refine ⟨_, pps_cons (hk X W fit) (hv X W fit) h1, fun σ H Q ⟨γ, S, F, G, env, st, er, po⟩ => ?_⟩
  unfold runPr at po
  exact ⟨γ, S, F, G, env, st, er, Post.imp (Post.of_bind (R := RelV' Γ) po) fun v H1 ⟨γ1, S1, F1, x, e1, n1, r1, po1⟩ => ⟨γ1, S1, F1, G, env, n1.st, er.mono n1.pre n1.ex,
    Post.imp (Post.of_bind (R := RelV' Γ) po1) fun u H2 ⟨γ2, S2, F2, y, e2, n2, r2, po2⟩ => h2 _ _ _ ⟨γ2, S2, F2, G, env, n2.st, (er.mono n1.pre n1.ex).mono n2.pre n2.ex,
      Post.imp (Post.of_bind (R := RVV Γ) po2) fun ps H3 ⟨γ3, S3, F3, l, e3, n3, r3, po3⟩ => po3 γ3 F3 H3 _ (Nx.refl n3.st) (.cons ⟨(r1.mono n2.pre n2.ex).mono n3.pre n3.ex, r2.mono n3.pre n3.ex⟩ r3)⟩⟩⟩
theorem keysOf_ok {γ : List Addr} {F : Hp} : ∀ {ps : List (RV × RV)} {qs : List (V × V)} {kvs : List (Key × RV)}, RVV Γ γ F ps qs → keysOf ps = some kvs → ∃ m : List (Key × V), qs = m.map (fun kv => (kV kv.1, kv.2)) ∧ KVR Γ.g Γ.xc γ F kvs m
  | [], _, kvs, .nil, e => by simp [keysOf] at e; subst e; exact ⟨[], rfl, .nil⟩
  | (x, y) :: r, (v, u) :: qs, kvs, .cons ⟨h1, h2⟩ t, e => by
    simp only [keysOf] at e
    split at e
    · rename_i k l e1 e2
      cases e
      obtain ⟨m, m1, m2⟩ := keysOf_ok t e2
      have := keyOf_ok h1 e1
      dsimp only at this
      subst this
      exact ⟨(k, u) :: m, by rw [m1]; rfl, .cons ⟨rfl, h2⟩ m2⟩
    · cases e
theorem merge_ok {γ : List Addr} {F : Hp} : ∀ {more : List (Key × RV)} {m : List (Key × V)} {kvs : List (Key × RV)} {vs : List (Key × V)}, KVR Γ.g Γ.xc γ F more m → KVR Γ.g Γ.xc γ F kvs vs → KVR Γ.g Γ.xc γ F (mergeR kvs more) (mergeK vs m)
  | [], _, _, _, .nil, h => h
  | (k, r) :: more, (k', v) :: m, kvs, vs, .cons ⟨h1, h2⟩ t, h => by
    dsimp only at h1 h2
    subst h1
    show KVR Γ.g Γ.xc γ F (mergeR (putR kvs k r) more) (mergeK (putK vs k v) m)
    exact merge_ok t (putR_ok h h2)
theorem rvv_mono {γ γ' : List Addr} {F F' : Hp} (h : γ <+: γ') (e : Ex F F') {ps : List (RV × RV)} {qs : List (V × V)} (q : RVV Γ γ F ps qs) : RVV Γ γ' F' ps qs := Paired.imp' (fun _ _ z => ⟨z.1.mono h e, z.2.mono h e⟩) q
theorem se_disp {keys : List (Option Expr)} {values : List Expr} {trs : List (ME × ME)} (h : SPs Γ pos keys values trs) (hall : keys.all (·.isSome) = true := by rfl) (hl : keys.length = values.length := by rfl) (h0 : keys ≠ [] := by simp) (h15 : keys.length ≤ 15 := by decide) :
    SE Γ (.Dict keys values pos) (mDisp trs) := fun X W fit => by
  obtain ⟨ts, q1, q2⟩ := h X W fit
  refine PE.imp (pe_disp q1 hall hl h0 h15) fun σ H Q ⟨γ, S, F, G, env, st, er, po⟩ p hp => q2 _ _ _ ⟨γ, S, F, upd G p (.dK []), env, st.hide hp, er, ?_⟩
  have hG : G p = none := by
    cases e : G p with
    | none => rfl
    | some u => rw [st.gh p u e] at hp; cases hp
  unfold mDisp at po
  generalize runPr trs env S = r at po ⊢
  cases r with
  | ok ps S1 =>
    intro γ1 F1 H1 qs n1 rr
    have hp1 : H1 p = some (.dK []) := n1.st.gh p _ upd_same
    refine ⟨hp1, ?_⟩
    have po : Post Γ.g Γ.xc γ F G (RelV' Γ) Q (Wσ W σ) (match keysOf ps with
      | some kvs => if kvs.length ≤ 15 then .ok (.loc S1.length) (S1 ++ [Cell.dK (mergeR [] kvs)]) else .stuck
      | none => .stuck) := po
    split at po
    · rename_i kvs hk
      obtain ⟨m, m1, m2⟩ := keysOf_ok rr hk
      split at po
      · rename_i hz
        refine ⟨m, m1, by rw [← m2.length]; exact hz, ?_⟩
        have st3 := n1.st.rehide (o' := .dK (mergeK [] m))
        obtain ⟨st4, hF, hγ, hH⟩ := st3.unhide hG
        have n4 := st4.takeC hF hG hγ (c := .dK (mergeR [] kvs)) ⟨_, hH, KVR.mono (List.prefix_append _ _) (Ex.refl _) (merge_ok m2 .nil)⟩
        exact po _ _ _ _ ⟨n1.pre.trans n4.pre, n1.ex.trans n4.ex, n4.st⟩ ⟨p, by rw [← st4.len]; simp, rfl⟩
      · exact po.elim
    · exact po.elim
  | exc c fs S1 =>
    intro γ1 F1 H1 d n1 q
    have z : XPost Γ.g Γ.xc γ F G c fs S1 (Wσ W σ) := po
    exact z γ1 F1 H1 d ⟨n1.pre, n1.ex, (n1.st.unhide hG).1⟩ q
  | stuck => exact po.elim
end

/-! ### f(..), f a variable that holds a def -/
structure DefV (g : Gd) (c : Nat) (k : Nat) (mf : FN) : Prop where
  ex : ∃ fd ps, FnZ g k (g.adr c) fd ps mf ∧ PySem.W.keepIn g.K (.ref (g.adr c)) = true ∧ Binds g.K fd ps []
def mCallV (tbl : Nat → Option FN) (i : Nat) (ms : MA) : ME := fun env S => match env[i]? with
  | some (some (.fn c)) => match tbl c with
    | some mf => (ms env S).bind fun l S1 => mf l S1
    | none => .stuck
  | _ => .stuck
section
variable {Γ : Cxt} {pos p : Pos} {e : Expr} {es : List Expr} {ms : MA} {tbl : Nat → Option FN} {x : Str} {i j : Nat}
theorem se_callV (D : ∀ c mf, tbl c = some mf → DefV Γ.g c j mf) (ha : SA Γ (e :: es) ms) (hj : j ≤ Γ.k := by exact Nat.le_of_ble_eq_true rfl) (hN : Γ.N[i]? = some x := by rfl) (hv : Vis Γ.sc x := by first | exact Or.inl rfl | exact Or.inr (Or.inl rfl) | exact Or.inr (Or.inr rfl)) (hc : Γ.calm = true := by rfl) (hx : Γ.xc = none := by rfl)
    (hd : (x == ("__debug__" : Str)) = false := by decide) (hcd : (x == ("__classdict__" : Str)) = false := by decide) (he : ∀ env : PySem.Env, starEach (e :: es) env = (false, eval e env) :: starEach es env := by intro _; rfl) (hp : ∀ env : PySem.Env, (backTo pos (starEach es env)).any (·.1) = false := by intro _; rfl) :
    SE Γ (.Call (.Name x p) (e :: es) [] pos) (mCallV tbl i ms) := fun X W fit => by
  refine ⟨fun pins s σ H Q I ⟨γ, S, F0, G, env, st, er, po⟩ => ?_⟩
  unfold mCallV at po
  split at po
  · rename_i c hi
    obtain ⟨v, h1, h2⟩ := er.rel i _ hi
    have h2 : v = .ref (Γ.g.adr c) := h2
    subst h2
    split at po
    · rename_i mf ht
      obtain ⟨fd, ps, F, hk, hb⟩ := D c mf ht
      refine wpAny_Call_Name_kw (thn ((pe_var (pos := p) (i := i) (by rw [fit.eN]; exact hN) (by rw [fit.es]; exact hv) hd hcd).run pins s σ H (fun v H1 => v = .ref (Γ.g.adr c) ∧ H1 = H) I ⟨_, h1, rfl, rfl⟩) fun u s1 ⟨v, H1, I1, r1, ev, eH⟩ => ?_)
      subst ev eH
      obtain rfl : u = Value.ref (Γ.g.adr c) := r1
      refine PySem.W.callWith_K (h₀ := X.base) I1.ok.mod.kin (by rw [fit.eK]; exact hk) (thn ((ha X W fit).run pos pins s1 σ H1 _ I1 ⟨γ, S, F0, G, env, st, er, Post.of_bind (R := RelVs' Γ) po⟩) fun us s2 ⟨vs, H2, I2, r, γ1, S1, F1, l, e1, n1, r2, po1⟩ => ⟨I2.kIn, ?_⟩) (he X.env) (hp X.env)
      exact run_fnz fit F hj hc hx hb I2 r n1.st r2 po1
    · exact po.elim
  · exact po.elim
end
end Z
namespace Z
open PySem PySem.Spec PyProof.Rows L2
/-! ### repr -/
def rRepr (K : PySem.W.Frag) : List V → Hp → VK → Prop := fun xs H Q => ∃ v d, xs = [v] ∧ Dp K H v d ∧ d.showable = true ∧ d.hasDict = false ∧ d.depth ≤ 64 ∧ d.shown.length ≤ sizeLine ∧ Q (.str d.shown) H
theorem call_reprZ {X : Cx} (hg : X.A.guards = some []) (hu : X.A.units + 100 < cLine) : CallR X (.builtin "repr") (rRepr X.K) := by
  intro pins s σ H xs us Q I r h
  obtain ⟨v, d, rfl, hd, h1, h2, h3, h4, q⟩ := h
  cases r with
  | @cons _ u _ _ ru rr =>
    cases rr
    obtain ⟨as, hr⟩ := Dp.reads I d v u hd ru
    have fin : ∀ h' tk, (∀ b o, s.heap.get? b = some o → h'.get? b = some o) → ∀ t, EP X pins σ Q (.str d.shown t) { s with heap := h', toks := tk } := fun h' tk k t => ⟨.str d.shown, H, I.kept (t' := tk) k, ⟨t, rfl⟩, q⟩
    cases hd with
    | non =>
      obtain rfl : u = Value.none := ru
      exact PySem.P.repr_of_none (fin s.heap _ (fun _ _ z => z) _)
    | bl b =>
      obtain rfl : u = Value.bool b := ru
      exact PySem.P.repr_of_bool (by cases b <;> exact fin s.heap (s.toks + 1) (fun _ _ z => z) s.toks)
    | int i =>
      obtain ⟨t, rfl⟩ := ru
      exact PySem.P.repr_of_int (by simpa [PyData.showable] using h1) (fin s.heap _ (fun _ _ z => z) _)
    | str x =>
      obtain ⟨t, rfl⟩ := ru
      exact PySem.P.repr_of_str (fin s.heap _ (fun _ _ z => z) _) h4
    | @lst a xs ds ha hx =>
      obtain rfl : u = Value.ref a := ru
      exact repr_of_reads' hr h1 (PyData.noDict_hsm h2) hg (by omega) (fun _ _ z => z) (fun h' u tk k => fin h' tk k u) h4
    | @tup a xs ds ha hx =>
      obtain rfl : u = Value.ref a := ru
      exact repr_of_reads' hr h1 (PyData.noDict_hsm h2) hg (by omega) (fun _ _ z => z) (fun h' u tk k => fin h' tk k u) h4
/-- what repr shows -/
structure Shw (d : PyData) : Prop where
  a : d.showable = true
  b : d.hasDict = false
  c : d.depth ≤ 64
  d : d.shown.length ≤ sizeLine
open Classical in
noncomputable def fRepr : FN := fun l S => match l with
  | [x] => match toP S 64 x with
    | some d => if Shw d then .ok (.p (.str d.shown)) S else .stuck
    | none => .stuck
  | _ => .stuck
theorem fRepr_ok {Γ : Cxt} {K : PySem.W.Frag} : CROk Γ K (rRepr K) fRepr := by
  intro γ S F G H l vs Q E hK st rl po
  unfold fRepr at po
  split at po
  · rename_i x
    cases rl with
    | cons r t =>
      cases t
      split at po
      · rename_i d hd
        split at po
        · rename_i hs
          exact ⟨_, d, rfl, by rw [hK]; exact toP_ok st _ _ _ _ r hd, hs.a, hs.b, hs.c, hs.d, po γ F H _ (Nx.refl st) (.str _)⟩
        · exact po.elim
      · exact po.elim
  · exact po.elim
theorem se_repr {Γ : Cxt} {e : Expr} {m : ME} {p pos : Pos} (ha : SE Γ e m) (hm : Γ.g.mg "repr" = none) (hg : Γ.sc.names.lookup ("repr" : Str) = some .globalImplicit := by rfl) (he : ∀ env : PySem.Env, starEach [e] env = (false, eval e env) :: starEach [] env := by intro _; rfl) : SE Γ (.Call (.Name "repr" p) [e] [] pos) (mCall fRepr (aCons m aNil)) :=
  se_callB (fun X W fit => call_reprZ fit.gu (by have := fit.un; omega)) (fun K => fRepr_ok) hg hm (by decide +kernel) (sa_cons ha sa_nil he) (by decide) (by decide) he (by intro _; rfl)
end Z


set_option Elab.async false
set_option linter.all false
set_option autoImplicit false
set_option maxRecDepth 100000
set_option maxHeartbeats 4000000
/-! Zbl: the builtins by name, the module's constants. -/
namespace Z
open PySem PySem.Spec PyProof.Rows L2
section
variable {Γ : Cxt} {p pos : Pos} {a b : Expr} {ma mb : ME} {x : Str}
theorem sa1 (ha : SE Γ a ma) (he : ∀ env : PySem.Env, starEach [a] env = (false, eval a env) :: starEach [] env := by intro _; rfl) : SA Γ [a] (aCons ma aNil) := sa_cons ha sa_nil he
theorem sa2 (ha : SE Γ a ma) (hb : SE Γ b mb) (he : ∀ env : PySem.Env, starEach [a, b] env = (false, eval a env) :: starEach [b] env := by intro _; rfl) (hf : ∀ env : PySem.Env, starEach [b] env = (false, eval b env) :: starEach [] env := by intro _; rfl) : SA Γ [a, b] (aCons ma (aCons mb aNil)) := sa_cons ha (sa_cons hb sa_nil hf) he
theorem se_len (ha : SE Γ a ma) (hm : Γ.g.mg "len" = none) (hg : Γ.sc.names.lookup ("len" : Str) = some .globalImplicit := by rfl) (he : ∀ env : PySem.Env, starEach [a] env = (false, eval a env) :: starEach [] env := by intro _; rfl) : SE Γ (.Call (.Name "len" p) [a] [] pos) (mCall fLen (aCons ma aNil)) :=
  se_callB (fun X W fit => call_lenA) (fun K => fLen_ok) hg hm (by decide +kernel) (sa1 ha he) (by decide) (by decide) he (by intro _; rfl)
theorem se_max (ha : SE Γ a ma) (hb : SE Γ b mb) (hm : Γ.g.mg "max" = none) (hg : Γ.sc.names.lookup ("max" : Str) = some .globalImplicit := by rfl) (hc : Γ.calm = true := by rfl) (he : ∀ env : PySem.Env, starEach [a, b] env = (false, eval a env) :: starEach [b] env := by intro _; rfl) (hf : ∀ env : PySem.Env, starEach [b] env = (false, eval b env) :: starEach [] env := by intro _; rfl)
    (hp : ∀ env : PySem.Env, (backTo pos (starEach [b] env)).any (·.1) = false := by intro _; rfl) : SE Γ (.Call (.Name "max" p) [a, b] [] pos) (mCall (fMx true) (aCons ma (aCons mb aNil))) :=
  se_callB (fun X W fit => call_max2 (by rw [fit.ec]; exact hc)) (fun K => fMax_ok) hg hm (by decide +kernel) (sa2 ha hb he hf) (by decide) (by decide) he hp
theorem se_min (ha : SE Γ a ma) (hb : SE Γ b mb) (hm : Γ.g.mg "min" = none) (hg : Γ.sc.names.lookup ("min" : Str) = some .globalImplicit := by rfl) (hc : Γ.calm = true := by rfl) (he : ∀ env : PySem.Env, starEach [a, b] env = (false, eval a env) :: starEach [b] env := by intro _; rfl) (hf : ∀ env : PySem.Env, starEach [b] env = (false, eval b env) :: starEach [] env := by intro _; rfl)
    (hp : ∀ env : PySem.Env, (backTo pos (starEach [b] env)).any (·.1) = false := by intro _; rfl) : SE Γ (.Call (.Name "min" p) [a, b] [] pos) (mCall (fMx false) (aCons ma (aCons mb aNil))) :=
  se_callB (fun X W fit => call_min2 (by rw [fit.ec]; exact hc)) (fun K => fMin_ok) hg hm (by decide +kernel) (sa2 ha hb he hf) (by decide) (by decide) he hp
theorem se_all (ha : SE Γ a ma) (hm : Γ.g.mg "all" = none) (hg : Γ.sc.names.lookup ("all" : Str) = some .globalImplicit := by rfl) (hc : Γ.calm = true := by rfl) (he : ∀ env : PySem.Env, starEach [a] env = (false, eval a env) :: starEach [] env := by intro _; rfl) : SE Γ (.Call (.Name "all" p) [a] [] pos) (mCall (fAll true) (aCons ma aNil)) :=
  se_callB (fun X W fit => cr_all (by rw [fit.ec]; exact hc)) (fun K => fAll_ok) hg hm (by decide +kernel) (sa1 ha he) (by decide) (by decide) he (by intro _; rfl)
theorem se_any (ha : SE Γ a ma) (hm : Γ.g.mg "any" = none) (hg : Γ.sc.names.lookup ("any" : Str) = some .globalImplicit := by rfl) (hc : Γ.calm = true := by rfl) (he : ∀ env : PySem.Env, starEach [a] env = (false, eval a env) :: starEach [] env := by intro _; rfl) : SE Γ (.Call (.Name "any" p) [a] [] pos) (mCall (fAll false) (aCons ma aNil)) :=
  se_callB (fun X W fit => cr_any (by rw [fit.ec]; exact hc)) (fun K => fAny_ok) hg hm (by decide +kernel) (sa1 ha he) (by decide) (by decide) he (by intro _; rfl)
theorem se_listOf (fz : Bool) (ha : SE Γ a ma) (hm : Γ.g.mg "list" = none) (hg : Γ.sc.names.lookup ("list" : Str) = some .globalImplicit := by rfl) (he : ∀ env : PySem.Env, starEach [a] env = (false, eval a env) :: starEach [] env := by intro _; rfl) : SE Γ (.Call (.Name "list" p) [a] [] pos) (mCall (fListOf fz) (aCons ma aNil)) :=
  se_callTy (fun X W fit => call_list_of) (fun K => fListOf_ok) hg hm (by decide +kernel) (sa1 ha he) (by decide) (by decide) he (by intro _; rfl)
theorem se_tupleOf (ha : SE Γ a ma) (hm : Γ.g.mg "tuple" = none) (hg : Γ.sc.names.lookup ("tuple" : Str) = some .globalImplicit := by rfl) (he : ∀ env : PySem.Env, starEach [a] env = (false, eval a env) :: starEach [] env := by intro _; rfl) : SE Γ (.Call (.Name "tuple" p) [a] [] pos) (mCall fTupleOf (aCons ma aNil)) :=
  se_callTy (fun X W fit => call_tuple_of) (fun K => fTupleOf_ok) hg hm (by decide +kernel) (sa1 ha he) (by decide) (by decide) he (by intro _; rfl)
theorem se_isi (ha : SE Γ a ma) (hb : SE Γ b mb) (hm : Γ.g.mg "isinstance" = none) (hg : Γ.sc.names.lookup ("isinstance" : Str) = some .globalImplicit := by rfl) (he : ∀ env : PySem.Env, starEach [a, b] env = (false, eval a env) :: starEach [b] env := by intro _; rfl) (hf : ∀ env : PySem.Env, starEach [b] env = (false, eval b env) :: starEach [] env := by intro _; rfl)
    (hp : ∀ env : PySem.Env, (backTo pos (starEach [b] env)).any (·.1) = false := by intro _; rfl) : SE Γ (.Call (.Name "isinstance" p) [a, b] [] pos) (mCall fIsi (aCons ma (aCons mb aNil))) :=
  se_callB (fun X W fit => call_isi) (fun K => fIsi_ok) hg hm (by decide +kernel) (sa2 ha hb he hf) (by decide) (by decide) he hp
theorem se_T {T : String} (hm : Γ.g.mg (Str.ofString T) = none) (hb : bootBuiltins (Str.ofString T) = some (.type T)) (hg : Γ.sc.names.lookup (Str.ofString T) = some .globalImplicit := by rfl) (hn : Str.ofString T ≠ ("__name__" : Str) := by decide) (hd : (Str.ofString T == ("__debug__" : Str)) = false := by decide) : SE Γ (.Name (Str.ofString T) pos) (mC (.ty T)) := se_ty hg hm hb hn hd
/-! the module's names -/
theorem se_gint {i : Int} (h : ∃ t, Γ.g.mg x = some (.int i t)) (hg : Γ.sc.names.lookup x = some .globalImplicit := by rfl) (hd : (x == ("__debug__" : Str)) = false := by decide) : SE Γ (.Name x pos) (mC (.p (.int i))) := by
  obtain ⟨t, h⟩ := h
  exact se_glob hg h (v := .int i) ⟨t, rfl⟩ (fun _ _ => .int i) hd
theorem se_gstr {z : Str} (h : ∃ t, Γ.g.mg x = some (.str z t)) (hg : Γ.sc.names.lookup x = some .globalImplicit := by rfl) (hd : (x == ("__debug__" : Str)) = false := by decide) : SE Γ (.Name x pos) (mC (.p (.str z))) := by
  obtain ⟨t, h⟩ := h
  exact se_glob hg h (v := .str z) ⟨t, rfl⟩ (fun _ _ => .str z) hd
theorem se_gp {d : PyData} (h : ∃ a, Γ.g.mg x = some (.ref a) ∧ ∀ F : Hp, Rp Γ.g.K F (.ref a) d) (hg : Γ.sc.names.lookup x = some .globalImplicit := by rfl) (hd : (x == ("__debug__" : Str)) = false := by decide) : SE Γ (.Name x pos) (mC (.p d)) := by
  obtain ⟨a, h, r⟩ := h
  exact se_glob hg h (v := .ref a) rfl (fun _ F => r F) hd
theorem se_gfn {c : Nat} (h : Γ.g.mg x = some (.ref (Γ.g.adr c))) (hg : Γ.sc.names.lookup x = some .globalImplicit := by rfl) (hd : (x == ("__debug__" : Str)) = false := by decide) : SE Γ (.Name x pos) (mC (.fn c)) :=
  se_glob hg h (v := .ref (Γ.g.adr c)) rfl (fun _ _ => rfl) hd
end
end Z


set_option Elab.async false
set_option linter.all false
set_option autoImplicit false
set_option maxRecDepth 100000
set_option maxHeartbeats 4000000
/-! Zlast: any frozen thing walked; what a suite asks of its exception, by tables of classes. -/
namespace Z
open PySem PySem.Spec PyProof.Rows L2
def iAny (m : ME) : MI := fun env S => (m env S).bind fun x S1 => match x with
  | .p (.str z) => .ok ((signs z).map .one, fun _ => true) S1
  | .p (.tuple ds) => .ok ((ds.map RV.p).map .one, fun _ => true) S1
  | .p (.list ds) => .ok ((ds.map RV.p).map .one, fun _ => true) S1
  | .scr ns => .ok ((ns.map fun i => RV.p (.int i)).map .one, fun _ => true) S1
  | _ => .stuck
theorem si_any {Γ : Cxt} {tg e : Expr} {m : ME} (h : SE Γ e m) : SI Γ tg e (iAny m) := fun X W fit => ⟨fun pins s σ H R I ⟨γ, S, F, G, env, st, er, po⟩ => by
  have go : ∀ m', SI Γ tg e m' → iAny m env S = m' env S → _ := fun m' hm he => (hm X W fit).run pins s σ H R I ⟨γ, S, F, G, env, st, er, by rw [← he]; exact po⟩
  cases q : m env S with
  | stuck => unfold iAny at po; rw [q] at po; exact po.elim
  | exc c fs S1 => exact go _ (si_lst h) (by unfold iAny iLst; rw [q]; rfl)
  | ok x S1 =>
    cases x with
    | p d =>
      cases d with
      | str z => exact go _ (si_str h) (by unfold iAny iStrs; rw [q]; rfl)
      | tuple ds => exact go _ (si_tup h) (by unfold iAny iTupl; rw [q]; rfl)
      | list ds => exact go _ (si_lst h) (by unfold iAny iLst; rw [q]; rfl)
      | _ => unfold iAny at po; rw [q] at po; exact po.elim
    | scr ns => exact go _ (si_lst h) (by unfold iAny iLst; rw [q]; rfl)
    | _ => unfold iAny at po; rw [q] at po; exact po.elim⟩
section
variable {a : Addr} {d : Option Addr} {c i : Nat} {fs : Fds} {pos p p1 p2 : Pos} {n x f : Str}
def mXfc (nE c : Nat) (fs : Fds) (f : Str) : ME := fun env S => if c < nE then mXf fs f env S else .stuck
theorem se_xfc {Γ0 : Cxt} {nE : Nat} (T : ∀ c, c < nE → AskZ Γ0.g.K (Γ0.g.adr c)) (hno : ∀ c, c < nE → PySem.W.findIn Γ0.g.K (.ref (Γ0.g.adr c)) f = some none) (ht : Γ0.top = true := by rfl) (hN : Γ0.N[i]? = some n := by rfl) (hv : Γ0.sc.names.lookup n = some .local := by rfl)
    (hd : (n == ("__debug__" : Str)) = false := by decide) (hcd : (n == ("__classdict__" : Str)) = false := by decide) (hb : ∀ env : PySem.Env, attributeBase (.Name n p) f env (eval (.Name n p) env) = eval (.Name n p) env := by intro _; rfl) :
    SE (Γ0.sui (some ⟨a, d, c, fs, i⟩)) (.Attribute (.Name n p) f pos) (mXfc nE c fs f) := fun X W fit => by
  by_cases h : c < nE
  · exact PE.imp (se_xf (p := p) (pos := pos) (fun _ => (T c h).x) (fun _ => hno c h) ht hN hv hd hcd hb X W fit) fun σ H Q ⟨γ, S, F, G, env, st, er, po⟩ => ⟨γ, S, F, G, env, st, er, by unfold mXfc at po; rw [if_pos h] at po; exact po⟩
  · exact ⟨fun pins s σ H Q I ⟨γ, S, F, G, env, st, er, po⟩ => by unfold mXfc at po; rw [if_neg h] at po; exact po.elim⟩
def mIsE (tst : Nat → Option Bool) (c : Nat) : ME := fun _ S => match tst c with
  | some b => .ok (.p (.bool b)) S
  | none => .stuck
theorem se_isEc {Γ0 : Cxt} {tst : Nat → Option Bool} {C : Value} (T : ∀ c b, tst c = some b → AskZ Γ0.g.K (Γ0.g.adr c) ∧ PySem.W.kitOne Γ0.g.K (.ref (Γ0.g.adr c)) C = some b) {u : V} (hu : RelV u C) (hr : ∀ w, L2.RelV u w → w = C) (hx : Γ0.g.mg x = some C) (hm : Γ0.g.mg "isinstance" = none) (hgx : Γ0.sc.names.lookup x = some .globalImplicit := by rfl)
    (hs : ∀ env : PySem.Env, starEach [.Name n p1, .Name x p2] env = (false, eval (.Name n p1) env) :: starEach [.Name x p2] env := by intro _; rfl) (hs2 : ∀ env : PySem.Env, starEach [.Name x p2] env = [(false, eval (.Name x p2) env)] := by intro _; rfl) (hp : ∀ env : PySem.Env, (backTo pos (starEach [.Name x p2] env)).any (·.1) = false := by intro _; rfl)
    (ht : Γ0.top = true := by rfl) (hN : Γ0.N[i]? = some n := by rfl) (hv : Γ0.sc.names.lookup n = some .local := by rfl) (hg : Γ0.sc.names.lookup ("isinstance" : Str) = some .globalImplicit := by rfl)
    (hd : (n == ("__debug__" : Str)) = false := by decide) (hcd : (n == ("__classdict__" : Str)) = false := by decide) (hdx : (x == ("__debug__" : Str)) = false := by decide) :
    SE (Γ0.sui (some ⟨a, d, c, fs, i⟩)) (.Call (.Name "isinstance" p) [.Name n p1, .Name x p2] [] pos) (mIsE tst c) := fun X W fit => by
  cases h : tst c with
  | none => exact ⟨fun pins s σ H Q I ⟨γ, S, F, G, env, st, er, po⟩ => by unfold mIsE at po; rw [h] at po; exact po.elim⟩
  | some b =>
    refine PE.imp (se_isE (v := u) (T c b h).1 (T c b h).2 (fun X W fit => pe_glob (show X.env.kindOf x = _ by unfold PySem.Env.kindOf; rw [fit.es]; exact hgx) (by rw [fit.em]; exact hx) hu hdx) hr hm hs hs2 hp ht hN hv hg hd hcd X W fit) fun σ H Q ⟨γ, S, F, G, env, st, er, po⟩ => ⟨γ, S, F, G, env, st, er, ?_⟩
    unfold mIsE at po; rw [h] at po; exact po
theorem se_isER {Γ0 : Cxt} {tst : Nat → Option Bool} {t : Nat} (T : ∀ c b, tst c = some b → AskZ Γ0.g.K (Γ0.g.adr c) ∧ PySem.W.kitOne Γ0.g.K (.ref (Γ0.g.adr c)) (.ref (Γ0.g.adr t)) = some b) (hx : Γ0.g.mg x = some (.ref (Γ0.g.adr t))) (hm : Γ0.g.mg "isinstance" = none) (hgx : Γ0.sc.names.lookup x = some .globalImplicit := by rfl)
    (hs : ∀ env : PySem.Env, starEach [.Name n p1, .Name x p2] env = (false, eval (.Name n p1) env) :: starEach [.Name x p2] env := by intro _; rfl) (hs2 : ∀ env : PySem.Env, starEach [.Name x p2] env = [(false, eval (.Name x p2) env)] := by intro _; rfl) (hp : ∀ env : PySem.Env, (backTo pos (starEach [.Name x p2] env)).any (·.1) = false := by intro _; rfl)
    (ht : Γ0.top = true := by rfl) (hN : Γ0.N[i]? = some n := by rfl) (hv : Γ0.sc.names.lookup n = some .local := by rfl) (hg : Γ0.sc.names.lookup ("isinstance" : Str) = some .globalImplicit := by rfl)
    (hd : (n == ("__debug__" : Str)) = false := by decide) (hcd : (n == ("__classdict__" : Str)) = false := by decide) (hdx : (x == ("__debug__" : Str)) = false := by decide) :
    SE (Γ0.sui (some ⟨a, d, c, fs, i⟩)) (.Call (.Name "isinstance" p) [.Name n p1, .Name x p2] [] pos) (mIsE tst c) :=
  se_isEc T (u := .ref (Γ0.g.adr t)) rfl (fun w h => h) hx hm hgx hs hs2 hp ht hN hv hg hd hcd hdx
end
end Z


set_option Elab.async false
set_option linter.all false
set_option autoImplicit false
set_option maxRecDepth 100000
set_option maxHeartbeats 4000000
/-! Zpure: a def told by what it does with an empty store; cells lent to a def as frozen data. -/
namespace Z
open PySem PySem.Spec PyProof.Rows L2
def noLoc : RV → Bool
  | .loc _ => false
  | _ => true
def pureF (mf : FN) : FN := fun args S => if args.all noLoc = true then match mf args [] with
    | .ok (.p d) _ => .ok (.p d) S
    | .exc c fs _ => .exc c fs S
    | _ => mf args S
  else mf args S
section
variable {g : Gd} {xc : XC} {γ γ' : List Addr} {S S' : Store} {F F' G G' H H' : Hp}
theorem noLoc_rvs : ∀ {l : List RV} {vs : List V}, l.all noLoc = true → RVs g xc γ F l vs → RVs g xc [] F l vs
  | _, _, _, .nil => .nil
  | r :: l, v :: vs, h, .cons a b => by
    rw [List.all_cons, Bool.and_eq_true] at h
    refine .cons ?_ (noLoc_rvs h.2 b)
    cases r with
    | loc n => exact absurd h.1 (by simp [noLoc])
    | _ => exact a
/-- no cells -/
theorem StR.none (fr : Ex F H) (gh : Ex G H) (fg : ∀ a, F a ≠ none → G a = none) : StR g xc [] [] F G H :=
  ⟨fr, gh, fg, (fun a h => by cases h), (fun n c a h => by cases h), rfl, List.nodup_nil, (fun n c a h => by cases h)⟩
/-- all cells are put aside -/
noncomputable def aside (γ : List Addr) (F H G : Hp) : Hp := by
  classical exact fun a => if a ∈ γ ∧ F a = Option.none then H a else G a
theorem aside_in {a : Addr} (h : a ∈ γ) (hF : F a = none) : aside γ F H G a = H a := by unfold aside; rw [if_pos ⟨h, hF⟩]
theorem aside_out {a : Addr} (h : ¬ (a ∈ γ ∧ F a = none)) : aside γ F H G a = G a := by unfold aside; rw [if_neg h]
theorem aside_st (st : StR g xc γ S F G H) : StR g xc [] [] F (aside γ F H G) H := by
  refine StR.none st.fr (fun a o h => ?_) (fun a h => ?_)
  · by_cases e : a ∈ γ ∧ F a = none
    · rw [aside_in e.1 e.2] at h; exact h
    · rw [aside_out e] at h; exact st.gh a o h
  · rw [aside_out fun z => h z.2]; exact st.fg a h
/-- .. and come back as they were -/
theorem aside_back (st : StR g xc γ S F G H) {γ' : List Addr} {S' : Store} (n : Nx g xc [] F (aside γ F H G) γ' S' F' H') : Nx g xc γ F G γ S F' H' := by
  have same : ∀ a ∈ γ, H' a = H a := fun a ha => by
    cases hF : F a with
    | none =>
      have hne := st.at_ne ha
      cases hH : H a with
      | none => exact absurd hH hne
      | some o => exact n.st.gh a o (by rw [aside_in ha hF]; exact hH)
    | some o => rw [st.fr a o hF]; exact n.st.fr a o (n.ex a o hF)
  refine ⟨List.prefix_refl _, n.ex, ⟨n.st.fr, fun a o h => ?_, fun a h => ?_, st.fc, fun m c a h1 h2 h3 => ?_, st.len, st.nd, fun m c a h1 h2 => ?_⟩⟩
  · refine n.st.gh a o ?_
    rw [aside_out fun z => ?_]
    · exact h
    · rw [st.fc a z.1] at h; cases h
  · by_cases e : a ∈ γ
    · exact st.fc a e
    · have := n.st.fg a h
      rwa [aside_out fun z => e z.1] at this
  · have hF := st.fl m c a h1 h2 h3
    have ha := List.mem_of_getElem? h2
    cases hF' : F' a with
    | none => rfl
    | some o =>
      have := n.st.fg a (by rw [hF']; simp)
      rw [aside_in ha hF] at this
      exact absurd this (st.at_ne ha)
  · exact (st.cell m c a h1 h2).mono (List.prefix_refl _) n.ex (same a (List.mem_of_getElem? h2))
end
theorem FnZ.pure {g : Gd} {k : Nat} {f : Addr} {fd : FuncData} {ps : List Str} {mf : FN} (D : FnZ g k f fd ps mf) : FnZ g k f fd ps (pureF mf) where
  len := fun args S q => by
    unfold pureF at q
    split at q
    · cases e : mf args [] with
      | stuck => rw [e] at q; exact D.len args S q
      | ok r S' => exact D.len args [] (by rw [e]; simp)
      | exc c fs S' => exact D.len args [] (by rw [e]; simp)
    · exact D.len args S q
  run := fun A outer s H args us vs Q E hr hg e0 hb rv ⟨γ, S, F, G, l, st, rl, po⟩ => by
    have keep : Post g none γ F G (fun γ F => RVr g none γ F) Q E (mf l S) → _ := fun po => D.run A outer s H args us vs Q E hr hg e0 hb rv ⟨γ, S, F, G, l, st, rl, po⟩
    unfold pureF at po
    split at po
    · rename_i hl
      have st' := aside_st st
      have rl' := noLoc_rvs hl rl
      cases e : mf l [] with
      | stuck => rw [e] at po; exact keep po
      | exc c fs S' =>
        rw [e] at po
        refine D.run A outer s H args us vs Q E hr hg e0 hb rv ⟨[], [], F, _, l, st', rl', ?_⟩
        rw [e]
        exact fun γ' F' H' d n q => po γ F' H' d (aside_back st n) q
      | ok r S' =>
        rw [e] at po
        cases r with
        | p d =>
          refine D.run A outer s H args us vs Q E hr hg e0 hb rv ⟨[], [], F, _, l, st', rl', ?_⟩
          rw [e]
          exact fun γ' F' H' v n q => po γ F' H' v (aside_back st n) q
        | _ => exact keep po
    · exact keep po

/-! ### cells lent as frozen data -/
mutual
def toQ (S : Store) : Nat → RV → Option PyData
  | _, .p d => some d
  | n + 1, .loc k => match S[k]? with
    | some (.lst l) => (toQs S n l).map .list
    | some (.tup l) => (toQs S n l).map .tuple
    | _ => none
  | _, _ => none
def toQs (S : Store) : Nat → List RV → Option (List PyData)
  | _, [] => some []
  | n, r :: l => match toQ S n r, toQs S n l with
    | some d, some ds => some (d :: ds)
    | _, _ => none
end
def toA (S : Store) : RV → Option RV
  | .loc n => (toQ S 64 (.loc n)).map .p
  | r => some r
def toAs (S : Store) : List RV → Option (List RV)
  | [] => some []
  | r :: l => match toA S r, toAs S l with
    | some d, some ds => some (d :: ds)
    | _, _ => none
def scal : PyData → Bool
  | .none => true
  | .bool _ => true
  | .int _ => true
  | .str _ => true
  | _ => false
def lendF (mf : FN) : FN := fun args S => if args.all noLoc = true then mf args S else match toAs S args with
    | some args' => match mf args' [] with
      | .ok (.p d) _ => if scal d = true then .ok (.p d) S else .stuck
      | .exc c none _ => .exc c none S
      | _ => .stuck
    | none => .stuck
section
variable {g : Gd} {xc : XC} {γ γ' : List Addr} {S S' : Store} {F F' G G' H H' : Hp}
noncomputable def froz (γ : List Addr) (F H : Hp) : Hp := by
  classical exact fun a => if a ∈ γ then H a else F a
theorem froz_in {a : Addr} (h : a ∈ γ) : froz γ F H a = H a := by unfold froz; rw [if_pos h]
theorem froz_out {a : Addr} (h : a ∉ γ) : froz γ F H a = F a := by unfold froz; rw [if_neg h]
theorem froz_ex (st : StR g xc γ S F G H) : Ex F (froz γ F H) := fun a o h => by
  by_cases e : a ∈ γ
  · rw [froz_in e]; exact st.fr a o h
  · rw [froz_out e]; exact h
theorem froz_st (st : StR g xc γ S F G H) : StR g xc [] [] (froz γ F H) G H := by
  refine StR.none (fun a o h => ?_) st.gh (fun a h => ?_)
  · by_cases e : a ∈ γ
    · rw [froz_in e] at h; exact h
    · rw [froz_out e] at h; exact st.fr a o h
  · by_cases e : a ∈ γ
    · exact st.fc a e
    · rw [froz_out e] at h; exact st.fg a h
theorem froz_back (st : StR g xc γ S F G H) {γ' : List Addr} {S' : Store} (n : Nx g xc [] (froz γ F H) G γ' S' F' H') : Nx g xc γ F G γ S F H' := by
  have same : ∀ a ∈ γ, H' a = H a := fun a ha => by
    have hne := st.at_ne ha
    cases hH : H a with
    | none => exact absurd hH hne
    | some o => exact n.st.fr a o (n.ex a o (by rw [froz_in ha]; exact hH))
  refine ⟨List.prefix_refl _, Ex.refl _, ⟨fun a o h => n.st.fr a o (n.ex a o (froz_ex st a o h)), n.st.gh, st.fg, st.fc, st.fl, st.len, st.nd, fun m c a h1 h2 => ?_⟩⟩
  exact (st.cell m c a h1 h2).mono (List.prefix_refl _) (Ex.refl _) (same a (List.mem_of_getElem? h2))
mutual
theorem toQ_ok (st : StR g xc γ S F G H) : ∀ (n : Nat) (r : RV) (v : V) (d : PyData), RVr g xc γ F r v → toQ S n r = some d → Rp g.K (froz γ F H) v d
  | n, .p d, v, d', q, e => by
    have : d = d' := by simpa [toQ] using e
    subst this; exact Rp.mono (froz_ex st) q
  | 0, .loc k, v, d, q, e => by simp [toQ] at e
  | n + 1, .loc k, v, d, q, e => by
    obtain ⟨a, h1, rfl⟩ := q
    have ha := List.mem_of_getElem? h1
    simp only [toQ] at e
    split at e
    · rename_i l hc
      obtain ⟨vs, h2, h3⟩ := st.cell k _ a hc h1
      simp only [Option.map_eq_some_iff] at e
      obtain ⟨ds, e, rfl⟩ := e
      exact .lst (by rw [froz_in ha]; exact h2) (toQs_ok st n l vs ds h3 e)
    · rename_i l hc
      obtain ⟨vs, h2, h3⟩ := st.cell k _ a hc h1
      simp only [Option.map_eq_some_iff] at e
      obtain ⟨ds, e, rfl⟩ := e
      exact .tup (SqT.of (by rw [froz_in ha]; exact h2)) (toQs_ok st n l vs ds h3 e)
    · cases e
  | n, .scr ns, v, d, q, e => by simp [toQ] at e
  | n, .fn k, v, d, q, e => by simp [toQ] at e
  | n, .ty k, v, d, q, e => by simp [toQ] at e
theorem toQs_ok (st : StR g xc γ S F G H) : ∀ (n : Nat) (l : List RV) (vs : List V) (ds : List PyData), RVs g xc γ F l vs → toQs S n l = some ds → Rps g.K (froz γ F H) vs ds
  | n, [], _, ds, .nil, e => by
    have : [] = ds := by simpa [toQs] using e
    subst this; exact .nil
  | n, r :: l, _, ds, .cons a b, e => by
    simp only [toQs] at e
    split at e
    · rename_i d ds' h1 h2
      cases e
      exact .cons (toQ_ok st n r _ _ a h1) (toQs_ok st n l _ _ b h2)
    · cases e
end
theorem toA_ok (st : StR g xc γ S F G H) {r r' : RV} {v : V} (q : RVr g xc γ F r v) (e : toA S r = some r') : RVr g xc [] (froz γ F H) r' v := by
  cases r with
  | loc n =>
    obtain ⟨d, h, rfl⟩ := Option.map_eq_some_iff.mp e
    exact toQ_ok st _ _ _ _ q h
  | p d => cases e; exact Rp.mono (froz_ex st) q
  | fn k => cases e; exact q
  | scr ns => cases e; obtain ⟨a, e1, e2⟩ := q; exact ⟨a, e1, (froz_ex st).sl e2⟩
  | ty n => cases e; exact q
theorem toAs_ok (st : StR g xc γ S F G H) : ∀ {l l' : List RV} {vs : List V}, RVs g xc γ F l vs → toAs S l = some l' → RVs g xc [] (froz γ F H) l' vs ∧ l'.length = l.length
  | [], l', _, .nil, e => by cases e; exact ⟨.nil, rfl⟩
  | r :: l, l', v :: vs, .cons a b, e => by
    simp only [toAs] at e
    split at e
    · rename_i d ds h1 h2
      cases e
      obtain ⟨k1, k2⟩ := toAs_ok st b h2
      exact ⟨.cons (toA_ok st a h1) k1, by simp [k2]⟩
    · cases e
theorem toAs_len : ∀ {l l' : List RV}, toAs S l = some l' → l'.length = l.length
  | [], l', e => by cases e; rfl
  | r :: l, l', e => by
    simp only [toAs] at e
    split at e
    · rename_i d ds h1 h2
      cases e
      simp [toAs_len h2]
    · cases e
theorem scal_rp {d : PyData} {v : V} (h : scal d = true) (q : Rp g.K F v d) : Rp g.K F' v d := by
  cases d with
  | none => cases q; exact .non
  | bool b => cases q; exact .bl _
  | int i => cases q; exact .int _
  | str x => cases q; exact .str _
  | _ => cases h
end
theorem FnZ.lend {g : Gd} {k : Nat} {f : Addr} {fd : FuncData} {ps : List Str} {mf : FN} (D : FnZ g k f fd ps mf) : FnZ g k f fd ps (lendF mf) where
  len := fun args S q => by
    unfold lendF at q
    split at q
    · exact D.len args S q
    · split at q
      · rename_i args' ha
        rw [← toAs_len ha]
        refine D.len args' [] fun z => ?_
        rw [z] at q
        exact q rfl
      · exact absurd rfl q
  run := fun A outer s H args us vs Q E hr hg e0 hb rv ⟨γ, S, F, G, l, st, rl, po⟩ => by
    unfold lendF at po
    split at po
    · exact D.run A outer s H args us vs Q E hr hg e0 hb rv ⟨γ, S, F, G, l, st, rl, po⟩
    · split at po
      · rename_i l' hl'
        have st' := froz_st st
        have rl' := (toAs_ok st rl hl').1
        cases e : mf l' [] with
        | stuck => rw [e] at po; exact po.elim
        | exc c fs S' =>
          rw [e] at po
          cases fs with
          | none =>
            refine D.run A outer s H args us vs Q E hr hg e0 hb rv ⟨[], [], froz γ F H, G, l', st', rl', ?_⟩
            rw [e]
            exact fun γ' F' H' d n q => po γ F H' d (froz_back st n) q
          | some fs => exact po.elim
        | ok r S' =>
          rw [e] at po
          cases r with
          | p d =>
            dsimp only at po
            split at po
            · rename_i hd
              refine D.run A outer s H args us vs Q E hr hg e0 hb rv ⟨[], [], froz γ F H, G, l', st', rl', ?_⟩
              rw [e]
              exact fun γ' F' H' v n q => po γ F H' v (froz_back st n) (scal_rp hd q)
            · exact po.elim
          | _ => exact po.elim
      · exact po.elim
theorem lend_noLoc {mf : FN} {args : List RV} {S : Store} (h : args.all noLoc = true) : lendF mf args S = mf args S := by unfold lendF; rw [if_pos h]
end Z


set_option Elab.async false
set_option linter.all false
set_option autoImplicit false
set_option maxRecDepth 100000
set_option maxHeartbeats 4000000
/-! Zend: the head's facts by one look, the law's call. -/
namespace Z
open PySem PySem.Spec PyProof.Rows L2
/-! ### the hook -/
def obsZ (fa : PySem.W.Frag → Bool) (fn : List He.DefD) (K : PySem.W.Frag) : He.AlD := (fa K && fn.all fun d => d.ok K, fn.map fun d => He.fnW K d.at_)
def SaysZ (fa : PySem.W.Frag → Bool) (fn : List He.DefD) (K : PySem.W.Frag) : Prop := obsZ fa fn K = He.valD fn
/-- what the module's names, and the machine's own table of classes, reach in n steps -/
def asZ (g : Addr → Option Obj) : Nat → List Addr
  | 0 => [mainGlobals, cStatics]
  | n + 1 => He.growD g (asZ g n)
def obsZG (n : Nat) (fa : PySem.W.Frag → Bool) (fn : List He.DefD) (g : Addr → Option Obj) : He.AlD := obsZ fa fn (He.frG g (asZ g n))
def hookZ (n : Nat) (fa : PySem.W.Frag → Bool) (fn : List He.DefD) : PySem.W.Hook where
  α := He.AlD
  obs := fun s => obsZG n fa fn s.heap.get?
  val := fun _ => He.valD fn
  says := fun _ h => ∃ K : PySem.W.Frag, K.In h ∧ SaysZ fa fn K
  of := fun _ _ e => ⟨_, He.frG_in, e⟩
  keeps := fun _ _ _ ⟨K, hK, c⟩ k => ⟨K, PySem.W.Frag.In.keeps hK k, c⟩
theorem obsZG_eq {n : Nat} {fa : PySem.W.Frag → Bool} {fn : List He.DefD} {g : Addr → Option Obj} {s : Shared} (h : ∀ a, g a = s.heap.get? a) : obsZG n fa fn g = (hookZ n fa fn).obs s := by
  rw [show g = s.heap.get? from funext h] <;> rfl
section
variable {fa : PySem.W.Frag → Bool} {fn : List He.DefD} {K : PySem.W.Frag}
theorem SaysZ.fact (c : SaysZ fa fn K) : fa K = true := (Bool.and_eq_true_iff.mp (show (fa K && fn.all fun d => d.ok K) = true from congrArg (fun z : He.AlD => z.1) c)).1
theorem SaysZ.def_ (c : SaysZ fa fn K) (i : Nat) {d : He.DefD} (h : fn[i]? = some d := by rfl) : ∃ fd, FunD K d.name d.qual d.params d.body d.scope (d.dvs K) (d.kws K) (He.fAd K d.at_) fd := by
  have c2 := (Bool.and_eq_true_iff.mp (show (fa K && fn.all fun d => d.ok K) = true from congrArg (fun z : He.AlD => z.1) c)).2
  have e : fn.map (fun d => He.fnW K d.at_) = fn.map He.DefD.val := congrArg (fun z : He.AlD => z.2) c
  have e2 : (fn.map fun d => He.fnW K d.at_)[i]? = (fn.map He.DefD.val)[i]? := by rw [e]
  rw [List.getElem?_map, List.getElem?_map, h] at e2
  exact He.DefD.funD (Option.some.inj e2) (List.all_eq_true.mp c2 d (List.mem_of_getElem? h))
end
/-! ### from a def of the head -/
theorem fnz_D {g : Gd} {x qual : Str} {st : Stmt} {f : Addr} {fd : FuncData} {N ps : List Str} {k : Nat} {body : MS} (F : FunD g.K x qual (defArgs st) (defBody st) (defScope st) [] [] f fd) (Sc : FnScope N ps (defScope st)) (hb : SSs (cxt g N (defScope st) k) (defBody st) body) :
    FnZ g (k + 1) f fd ps (mDef ps.length N.length body) := by
  obtain ⟨oc, od, dV, kV, doc, pm, an, cdv, ct, osl, e, lk, hcd, hD, _⟩ := F.ex
  rcases hD with ⟨_, rfl⟩ | ⟨z, _⟩
  · exact fnz_of (x := x) (qual := qual) ⟨⟨oc, od, kV, doc, pm, an, cdv, ct, osl, e, lk, hcd⟩, F.kp⟩ Sc hb
  · exact absurd rfl z
theorem fun_of {K : PySem.W.Frag} {x qual : Str} {st : Stmt} {f : Addr} {fd : FuncData} (F : FunD K x qual (defArgs st) (defBody st) (defScope st) [] [] f fd) : Fun K x qual st f fd := by
  obtain ⟨oc, od, dV, kV, doc, pm, an, cdv, ct, osl, e, lk, hcd, hD, _⟩ := F.ex
  rcases hD with ⟨_, rfl⟩ | ⟨z, _⟩
  · exact ⟨⟨oc, od, kV, doc, pm, an, cdv, ct, osl, e, lk, hcd⟩, F.kp⟩
  · exact absurd rfl z
/-! ### facts by decision -/
section
variable {K : PySem.W.Frag} {h : Heap} {mg : Str → Option Value}
def ckFree (K : PySem.W.Frag) (x : Str) : Bool := He.eqO (PySem.W.nsIn K mainGlobals x) (some none)
theorem ckFree_ok (X : K.In h) (G : h.Ns mainGlobals mg) {x : Str} (c : ckFree K x = true) : mg x = none := PySem.W.mg_none_of X G (He.eqO_ok c)
def ckGlo (K : PySem.W.Frag) (x : Str) : Bool := He.eqO (PySem.W.nsIn K mainGlobals x) (some (some (.ref (He.ga K x))))
theorem ckGlo_ok (X : K.In h) (G : h.Ns mainGlobals mg) {x : Str} (c : ckGlo K x = true) : mg x = some (.ref (He.ga K x)) := PySem.W.mg_of X G (He.eqO_ok c)
def ckInt (K : PySem.W.Frag) (x : Str) (i : Int) : Bool := (He.Fa.int x i).ok K
theorem ckInt_ok (X : K.In h) (G : h.Ns mainGlobals mg) {x : Str} {i : Int} (c : ckInt K x i = true) : ∃ t, mg x = some (.int i t) := He.int_ok X G c
def ckStr (K : PySem.W.Frag) (x z : Str) : Bool := (He.Fa.str x z).ok K
theorem ckStr_ok (X : K.In h) (G : h.Ns mainGlobals mg) {x z : Str} (c : ckStr K x z = true) : ∃ t, mg x = some (.str z t) := He.str_ok X G c
/-- a constant tuple of texts and numbers -/
def dvOf : PyData → He.Dv
  | .bool b => .bl b
  | .int i => .int i
  | .str x => .str x
  | _ => .non
def flatD : PyData → Bool
  | .none | .bool _ | .int _ | .str _ => true
  | _ => false
theorem rp_flat {K : PySem.W.Frag} {F : Hp} : ∀ {d : PyData}, flatD d = true → Rp K F (He.Dv.v K (dvOf d)) d
  | .none, _ => .non
  | .bool b, _ => .bl b
  | .int i, _ => .int i
  | .str x, _ => .str x
  | .list _, e => by cases e
  | .tuple _, e => by cases e
  | .dict _, e => by cases e
theorem rps_flat {K : PySem.W.Frag} {F : Hp} : ∀ {ds : List PyData}, ds.all flatD = true → Rps K F ((ds.map dvOf).map (He.Dv.v K)) ds
  | [], _ => .nil
  | d :: ds, e => by
    obtain ⟨e1, e2⟩ := Bool.and_eq_true_iff.mp (show (flatD d && ds.all flatD) = true from e)
    exact .cons (rp_flat e1) (rps_flat e2)
def ckTup (K : PySem.W.Frag) (x : Str) (ds : List PyData) : Bool := ckGlo K x && (ds.all flatD && He.tupB K x (ds.map dvOf))
theorem ckTup_ok (X : K.In h) (G : h.Ns mainGlobals mg) {x : Str} {ds : List PyData} (c : ckTup K x ds = true) : ∃ a, mg x = some (.ref a) ∧ ∀ F : Hp, Rp K F (.ref a) (.tuple ds) := by
  obtain ⟨c1, c2⟩ := Bool.and_eq_true_iff.mp c
  obtain ⟨c2, c3⟩ := Bool.and_eq_true_iff.mp c2
  exact ⟨_, ckGlo_ok X G c1, fun F => .tup (He.tupB_ok c3 F) (rps_flat c2)⟩
/-! exceptions -/
def oexB (K : PySem.W.Frag) (n : BaseN) (C : Addr) : Bool := (match K.lookup C with
  | some ⟨.type "type", _, .cls cd, sl⟩ => (match cd.mro, sl.toList with
    | .ref C' :: bm, [_, _, _, _, some (.builtin nw), _] => C' == C && nw == n.newId && !cd.hasDel && cd.hasDict && refsB n.bmB bm
    | _, _ => false)
  | _ => false) && (decide (PySem.W.findIn K (.ref C) "__setattr__" = some (some (.builtin "object.__setattr__"))) && (decide (PySem.W.subIn K (.ref C) (.type "BaseException") = some true) && (decide (PySem.W.typeIn K (.ref C) = some (.type "type")) && PySem.W.keepIn K (.ref C))))
theorem oexB_ok {n : BaseN} {C : Addr} (Y : BaseZ n.B n.newB n.newId n.nInit n.initId n.bmN n.bmB) (c : oexB K n C = true) : OexN K n C := by
  obtain ⟨c0, c⟩ := Bool.and_eq_true_iff.mp c
  obtain ⟨c1, c⟩ := Bool.and_eq_true_iff.mp c
  obtain ⟨c2, c⟩ := Bool.and_eq_true_iff.mp c
  obtain ⟨c3, c4⟩ := Bool.and_eq_true_iff.mp c
  refine ⟨Y, ?_, of_decide_eq_true c1, of_decide_eq_true c2, of_decide_eq_true c3, c4⟩
  split at c0
  · rename_i dd cd sl ho
    split at c0
    · rename_i C' bm k0 k1 k2 k3 nw k5 hm hs
      simp only [Bool.and_eq_true, beq_iff_eq, Bool.not_eq_true'] at c0
      obtain ⟨⟨⟨⟨rfl, rfl⟩, hdel⟩, hdi⟩, hr⟩ := c0
      obtain ⟨nm, bs, mro, ns, qn, hd, sn, sub, ab, col, del⟩ := cd
      dsimp only at hm hdel hdi
      subst hm hdel hdi
      have hsl : sl = #[k0, k1, k2, k3, some (.builtin n.newId), k5] := by
        obtain ⟨l⟩ := sl
        simp only at hs
        rw [hs]
      subst hsl
      exact ⟨nm, qn, ns, bs, bm, sn, sub, ab, col, dd, k0, k1, k2, k3, k5, ho, hr⟩
    · cases c0
  · cases c0
def askB (K : PySem.W.Frag) (C : Addr) : Bool := xfB K C && (decide (PySem.W.findIn K (.ref C) "__class__" = some (some (.builtin "object.__class__"))) && (decide (PySem.W.specialIn K (.builtin "object.__class__") "__get__" = some (some (.builtin "getset_descriptor.__get__"))) && (decide (PySem.W.takesIn K (.builtin "object.__class__") = some true) && decide (PySem.W.mroIn K C (.type "object") = some true))))
theorem askB_ok {C : Addr} (c : askB K C = true) : AskZ K C := by
  obtain ⟨c0, c⟩ := Bool.and_eq_true_iff.mp c
  obtain ⟨c1, c⟩ := Bool.and_eq_true_iff.mp c
  obtain ⟨c2, c⟩ := Bool.and_eq_true_iff.mp c
  obtain ⟨c3, c4⟩ := Bool.and_eq_true_iff.mp c
  exact ⟨xfB_ok c0, of_decide_eq_true c1, of_decide_eq_true c2, of_decide_eq_true c3, of_decide_eq_true c4⟩
def ex0B (K : PySem.W.Frag) (bmB : List Value) (newId : String) (C : Addr) : Bool := PySem.W.excIn K C bmB newId && (PySem.W.keepIn K (.ref C) && (decide (PySem.W.subIn K (.ref C) (.type "BaseException") = some true) && decide (PySem.W.typeIn K (.ref C) = some (.type "type"))))
end
end Z
namespace Z
open PySem PySem.Spec PyProof.Rows L2
/-- the head of the law's call -/
theorem law_callZ {P : Program} {w : World} {K : PySem.W.Frag} {mg mb : Str → Option Value} {adr : Nat → Addr} {k : Nat} {fa a : Addr} {fd : FuncData} {x : Str} {mf : FN} {s₁ : Shared} {vs : List Value} {ns : List Int}
    (KX : K.In s₁.heap) (hns : s₁.heap.Ns mainGlobals mg) (hb : s₁.heap.Ns builtinsNs mb) (hbb : ∀ x : Str, x ≠ "__name__" → mb x = bootBuiltins x) (hlim : s₁.heap.NoLimit) (hg : s₁.gens = #[])
    (ha : s₁.heap.get? a = some { cls := .type "list", data := .seq vs.toArray }) (hi : IntsAre vs ns) (hl : ns.length ≤ sizeLine) (hr : Room k callerA)
    (F : ∀ base : Heap, K.In base → base.Ns mainGlobals mg → FnZ ⟨P, w, K, mg, base, adr⟩ k fa fd [x] mf) (hbind : ∀ (s : Shared) (u : Value), BindsTo s fd ⟨[u], []⟩ [(x, u)]) (hmf : ∃ S', mf [.scr ns] [] = .ok (.p (.bool true)) S') :
    codeAny (model P w) callerA (.call (.ref fa) ⟨[.ref a], []⟩) (fun r s' => r = .ok (.ret (.bool true)) ∧ OldK s₁.heap s'.heap ∧ s'.os = s₁.os ∧ AllBare s'.gens) s₁ := by
  have rv := vals_ints hi
  have lenV := hi.length
  have core : ∀ H : Hp, Only H → SqL K H a (ns.map V.int) → HOk P w H s₁.heap → (∀ b, H b ≠ none → b = a) → (H a ≠ none → K.lookup a = none) →
      codeAny (model P w) callerA (.call (.ref fa) ⟨[.ref a], []⟩) (fun r s' => r = .ok (.ret (.bool true)) ∧ OldK s₁.heap s'.heap ∧ s'.os = s₁.os ∧ AllBare s'.gens) s₁ := by
    intro H hO hS hok hA hK
    have noA : ∀ {b : Addr} {o : Obj} {es : Array DictEntry} {ep : Nat}, s₁.heap.get? b = some o → o.data = .dict es ep → H b = none := fun {b o es ep} e d => by
      cases q : H b with
      | none => rfl
      | some u =>
        obtain rfl := hA b (by rw [q]; simp)
        rw [ha] at e; cases e
        cases (show Data.seq vs.toArray _ = Data.dict es ep from d)
    have nsK : ∀ {b : Addr} {m : Str → Option Value}, s₁.heap.Ns b m → (hidT s₁.heap H).Ns b m := fun {b m} ⟨o, es, ep, e, d, r⟩ => ⟨o, es, ep, hidT_get e (noA e d), d, r⟩
    have hKb : K.In (hidT s₁.heap H) := fun b o e => hidT_get (KX b o e) (by
      cases q : H b with
      | none => rfl
      | some u =>
        obtain rfl := hA b (by rw [q]; simp)
        rw [hK (by rw [q]; simp)] at e; cases e)
    have hM : Mod K mg (hidT s₁.heap H) := ⟨hKb, nsK hns, ⟨mb, nsK hb, hbb⟩, let ⟨mc, h1, h2⟩ := hlim; ⟨mc, nsK h1, h2⟩⟩
    have e0 : Env0 P w K mg (hidT s₁.heap H) callerA [] s₁ H := ⟨rfl, hM, fun b o e => of_hidT e, Nat.le_of_eq (hidT_size _ _), trivial, fun b hb => absurd (show b ∈ ([] : List Addr) from hb) (by simp), hok, .of_eq hg⟩
    obtain ⟨S', hmf⟩ := hmf
    have st : StR ⟨P, w, K, mg, hidT s₁.heap H, adr⟩ none [] [] H (fun _ => none) H := ⟨Ex.refl _, (fun _ _ z => by cases z), (fun _ _ => rfl), (fun _ z => by cases z), (fun n c a z => by simp at z), rfl, List.nodup_nil, (fun n c a z => by simp at z)⟩
    have rl : RVs ⟨P, w, K, mg, hidT s₁.heap H, adr⟩ none [] H [.scr ns] [.ref a] := .cons ⟨a, rfl, hS⟩ .nil
    refine codeAny_mono ((F _ hKb (nsK hns)).run callerA [] s₁ H ⟨[.ref a], []⟩ [.ref a] [.ref a] (fun v _ => v = .bl true) (fun _ _ _ => False) hr rfl e0 (hbind s₁ (.ref a)) (.cons rfl .nil) ⟨[], [], H, fun _ => none, [.scr ns], st, rl, by rw [hmf]; exact fun γ' F' H' v _ q => by cases q; rfl⟩) fun r s' h => ?_
    cases r with
    | error e =>
      obtain ⟨_, _, _, _, _, _, _, _, _, _, _, _, z⟩ := h
      exact z.elim
    | ok fl =>
      cases fl with
      | next => exact h.elim
      | brk => exact h.elim
      | cont => exact h.elim
      | ret u =>
        obtain ⟨v, H', os, bare, un, hok', r', rfl⟩ := h
        obtain rfl : u = Value.bool true := r'
        refine ⟨rfl, OldK.of_keep fun b o e => ?_, os, bare⟩
        cases q : H b with
        | none => exact un.keep b o e q (by intro z; exact absurd (show b ∈ ([] : List Addr) from z) (by simp)) (by simp)
        | some u =>
          rcases hO b with z | ⟨ob, xs, z⟩
          · rw [q] at z; cases z
          · have z2 := un.frzs b ob _ z
            obtain ⟨e1, _⟩ := hok b _ z
            obtain ⟨e2, _⟩ := hok' b _ z2
            rw [e] at e1; cases e1
            exact e2
  cases hk : K.lookup a with
  | some o =>
    have e := KX a o hk
    rw [ha] at e
    cases e
    exact core (fun _ => none) (fun _ => .inl rfl) (.inr ⟨_, vs.toArray, _, hk, rfl, rfl, rfl, by rw [List.size_toArray, lenV]; exact hl, by simpa using rv⟩) (fun b u z => by cases (show (none : Option HO) = some u from z)) (fun b z => absurd rfl z) fun z => absurd rfl z
  | none =>
    refine core (fun b => if b = a then some (.frz { cls := .type "list", data := .seq vs.toArray } (.lst (ns.map V.int))) else none) (fun b => ?_) (.inl (.inr ⟨{ cls := .type "list", data := .seq vs.toArray }, if_pos rfl⟩)) (fun b u z => ?_) (fun b z => ?_) fun _ => hk
    · by_cases hb : b = a
      · exact .inr ⟨_, _, if_pos hb⟩
      · exact .inl (if_neg hb)
    · by_cases hb : b = a
      · cases (if_pos hb).symm.trans z
        subst hb
        exact ⟨ha, by rw [List.length_map]; exact hl, vs, _, rv, ha⟩
      · cases (if_neg hb).symm.trans z
    · by_cases hb : b = a
      · exact hb
      · exact absurd (if_neg hb) z
theorem walkZ {l : PySem.W.OpenLaw} {n k : Nat} {q : Program} {loose : List Str} {XP : (Str → Option Value) → Heap → Prop} {YP : World → Heap → Prop} {d : DefRec} {x : Str} (hn : l.most = some n) (hn2 : n ≤ sizeLine) (hdf : d.params.defaults = []) (hr : Room k callerA)
    (F : ∀ (w : World) (mg : Str → Option Value) (fa : Addr) (h : Heap), YP w h → h.Ns mainGlobals mg → mg d.name = some (.ref fa) →
      ∃ (K : PySem.W.Frag) (fd : FuncData) (adr : Nat → Addr) (mf : FN), K.In h ∧ (∀ (s : Shared) (u : Value), BindsTo s fd ⟨[u], []⟩ [(x, u)]) ∧ (∀ ns : List Int, ns.length ≤ n → ∃ S', mf [.scr ns] [] = .ok (.p (.bool true)) S') ∧
        ∀ base : Heap, K.In base → base.Ns mainGlobals mg → FnZ ⟨l.prog, w, K, mg, base, adr⟩ k fa fd [x] mf) :
    PySem.W.WalkO q loose XP YP l.row.toRowW d [] (fun f vs => PySem.call f vs) := by
  refine Att.attach_call hn hdf fun w s₀ s₁ mg mb fa o pm cd doc a vs ns G Y ho hd hcd hmg hobj hints hlen hg => ?_
  obtain ⟨K, fd, adr, mf, KX, hb, hsp, hF⟩ := F w mg fa _ Y G.T.g hmg
  exact law_callZ KX G.T.g G.T.b G.T.builtins G.T.nolimit hg hobj hints (Nat.le_trans hlen hn2) hr hF hb (hsp ns hlen)
end Z
namespace Z
open PySem PySem.Spec PyProof.Rows L2
def ckVal (o : Option PySem.W.CFound) (v : Value) : Bool := match o with
  | some (.val u) => decide (u = v)
  | _ => false
theorem ckVal_ok {o : Option PySem.W.CFound} {v : Value} (c : ckVal o v = true) : o = some (.val v) := by
  unfold ckVal at c
  split at c
  · rw [of_decide_eq_true c]
  · cases c
abbrev mroRE : List Value := [.type "RuntimeError", .type "Exception", .type "BaseException", .type "object"]
abbrev mroZE : List Value := [.type "ZeroDivisionError", .type "ArithmeticError", .type "Exception", .type "BaseException", .type "object"]
theorem ex0_ok {g : Gd} {x : Str} {c : Nat} {B newId initId : String} {bmB : List Value} (F : ExcBaseFacts B newId initId bmB) (hm : g.mg x = some (.ref (g.adr c))) (h : ex0B g.K bmB newId (g.adr c) = true) : ExcZ0 g x c := by
  obtain ⟨c0, h⟩ := Bool.and_eq_true_iff.mp h
  obtain ⟨c1, h⟩ := Bool.and_eq_true_iff.mp h
  obtain ⟨c2, c3⟩ := Bool.and_eq_true_iff.mp h
  exact ⟨hm, ⟨B, newId, initId, bmB, F, c0⟩, c1, of_decide_eq_true c2, of_decide_eq_true c3⟩
end Z


set_option Elab.async false
set_option linter.all false
set_option autoImplicit false
set_option maxRecDepth 100000
set_option maxHeartbeats 4000000
/-! Zsimp: mirrors evaluated by simp. -/
namespace Z
open PySem PySem.Spec PyProof.Rows L2
section
variable {α β : Type} {env e : Env} {S S1 : Store} {a b : MS} {m ma mb mc : ME} {t u : MT} {r x y : RV} {c : Nat} {fs : Fds} {i n : Nat}
@[simp] theorem bind_ok {f : α → Store → Res β} {v : α} : (Res.ok v S).bind f = f v S := rfl
@[simp] theorem bind_exc {f : α → Store → Res β} : (Res.exc c fs S : Res α).bind f = .exc c fs S := rfl
@[simp] theorem bind_stuck {f : α → Store → Res β} : (Res.stuck : Res α).bind f = .stuck := rfl
@[simp] theorem eS_ok {f : α → Store → SRes} {v : α} : eS (.ok v S) env f = f v S := rfl
@[simp] theorem eS_exc {f : α → Store → SRes} : eS (.exc c fs S : Res α) env f = .exc c fs env S := rfl
@[simp] theorem eS_stuck {f : α → Store → SRes} : eS (.stuck : Res α) env f = .stuck := rfl
def seqR (r : SRes) (b : MS) : SRes := match r with
  | .nx e S' => b e S'
  | r => r
@[simp] theorem mSeq_app : mSeq a b env S = seqR (a env S) b := by unfold mSeq seqR; cases a env S <;> rfl
@[simp] theorem seqR_nx : seqR (.nx e S) b = b e S := rfl
@[simp] theorem seqR_rt : seqR (.rt r S) b = .rt r S := rfl
@[simp] theorem seqR_bk : seqR (.bk e S) b = .bk e S := rfl
@[simp] theorem seqR_ct : seqR (.ct e S) b = .ct e S := rfl
@[simp] theorem seqR_exc : seqR (.exc c fs e S) b = .exc c fs e S := rfl
@[simp] theorem seqR_stuck : seqR .stuck b = .stuck := rfl
@[simp] theorem seqR_ite {p : Prop} [Decidable p] {q r : SRes} : seqR (if p then q else r) b = if p then seqR q b else seqR r b := by split <;> rfl
@[simp] theorem mNext_app : mNext env S = .nx env S := rfl
@[simp] theorem mExp_app : mExp m env S = eS (m env S) env fun _ S1 => .nx env S1 := rfl
@[simp] theorem mRet_app : mRet m env S = eS (m env S) env fun r S1 => .rt r S1 := rfl
@[simp] theorem mIfS_app : mIfS t a b env S = eS (t env S) env fun c S1 => if c = true then a env S1 else b env S1 := rfl
def asgR (r : Res Env) : SRes := match r with
  | .ok e S => .nx e S
  | _ => .stuck
@[simp] theorem mAsg_app {bd : Bd} : mAsg m bd env S = eS (m env S) env fun r S1 => asgR (bd r env S1) := by
  unfold mAsg; congr
@[simp] theorem asgR_ok : asgR (.ok e S) = .nx e S := rfl
@[simp] theorem mC_app : mC r env S = .ok r S := rfl
@[simp] theorem mVar_app : mVar i env S = (match env[i]? with
  | some (some r) => .ok r S
  | _ => .stuck) := rfl
@[simp] theorem mBin_app {f : F2} : mBin f ma mb env S = (ma env S).bind fun x S1 => (mb env S1).bind fun y S2 => f x y S2 := rfl
@[simp] theorem mUn_app {f : RV → Store → Res RV} : mUn f ma env S = (ma env S).bind fun x S1 => f x S1 := rfl
def tstR (r : Res RV) : Res Bool := r.bind fun x S1 => match x with
  | .p (.bool b) => .ok b S1
  | _ => .stuck
@[simp] theorem mTst_app : mTst m env S = tstR (m env S) := rfl
@[simp] theorem tstR_b {b : Bool} : tstR (.ok (.p (.bool b)) S) = .ok b S := rfl
@[simp] theorem tstR_exc : tstR (.exc c fs S) = .exc c fs S := rfl
@[simp] theorem mAnd_app : mAnd t u env S = (t env S).bind fun c S1 => if c = true then u env S1 else .ok false S1 := rfl
@[simp] theorem mOr_app : mOr t u env S = (t env S).bind fun c S1 => if c = true then .ok true S1 else u env S1 := rfl
@[simp] theorem mNot_app : mNot t env S = (t env S).bind fun c S1 => .ok (!c) S1 := rfl
def andR (r : Res RV) (mb : ME) (env : Env) : Res RV := r.bind fun x S1 => match x with
  | .p (.bool true) => mb env S1
  | .p (.bool false) => .ok (.p (.bool false)) S1
  | _ => .stuck
@[simp] theorem mAndV_app : mAndV ma mb env S = andR (ma env S) mb env := rfl
@[simp] theorem andR_b {b : Bool} : andR (.ok (.p (.bool b)) S) mb env = if b = true then mb env S else .ok (.p (.bool false)) S := by cases b <;> rfl
def orR (r : Res RV) (mb : ME) (env : Env) : Res RV := r.bind fun x S1 => match x with
  | .p (.bool true) => .ok (.p (.bool true)) S1
  | .p (.bool false) => mb env S1
  | _ => .stuck
@[simp] theorem mOrV_app : mOrV ma mb env S = orR (ma env S) mb env := rfl
@[simp] theorem orR_b {b : Bool} : orR (.ok (.p (.bool b)) S) mb env = if b = true then .ok (.p (.bool true)) S else mb env S := by cases b <;> rfl
def notR (r : Res RV) : Res RV := r.bind fun x S1 => match x with
  | .p (.bool c) => .ok (.p (.bool (!c))) S1
  | _ => .stuck
@[simp] theorem mNotV_app : mNotV ma env S = notR (ma env S) := rfl
@[simp] theorem notR_b {b : Bool} : notR (.ok (.p (.bool b)) S) = .ok (.p (.bool (!b))) S := rfl
@[simp] theorem mIf_app : mIf t ma mb env S = (t env S).bind fun c S1 => if c = true then ma env S1 else mb env S1 := rfl
@[simp] theorem aNil_app : aNil env S = .ok [] S := rfl
@[simp] theorem aCons_app {ms : MA} : aCons m ms env S = (m env S).bind fun x S1 => (ms env S1).bind fun xs S2 => .ok (x :: xs) S2 := rfl
@[simp] theorem mCall_app {f : FN} {ms : MA} : mCall f ms env S = (ms env S).bind fun l S1 => f l S1 := rfl
@[simp] theorem mLst_app {fz : Bool} {ms : MA} : mLst fz ms env S = (ms env S).bind fun l S1 => mkL fz l S1 := rfl
@[simp] theorem mTup_app {ms : MA} : mTup ms env S = (ms env S).bind fun l S1 => mkT l S1 := rfl
@[simp] theorem mSl_app {f : F3} {ml mh : MO} : mSl f ma ml mh env S = (ma env S).bind fun x S1 => (ml env S1).bind fun l S2 => (mh env S2).bind fun h S3 => f x l h S3 := rfl
@[simp] theorem oNo_app : oNo env S = .ok none S := rfl
def osoR (r : Res RV) : Res (Option Int) := r.bind fun x S1 => match x with
  | .p (.int i) => .ok (some i) S1
  | _ => .stuck
@[simp] theorem oSo_app : oSo m env S = osoR (m env S) := rfl
@[simp] theorem osoR_i {i : Int} : osoR (.ok (.p (.int i)) S) = .ok (some i) S := rfl
def chR (f' : F2) (mc : ME) (env : Env) (y : RV) (r : Res RV) : Res RV := r.bind fun z S3 => match z with
  | .p (.bool true) => (mc env S3).bind fun w S4 => f' y w S4
  | .p (.bool false) => okB false S3
  | _ => .stuck
@[simp] theorem mChain_app {f f' : F2} : mChain f f' ma mb mc env S = (ma env S).bind fun x S1 => (mb env S1).bind fun y S2 => chR f' mc env y (f x y S2) := rfl
@[simp] theorem chR_b {f' : F2} {b : Bool} : chR f' mc env y (.ok (.p (.bool b)) S) = if b = true then (mc env S).bind fun w S4 => f' y w S4 else .ok (.p (.bool false)) S := by cases b <;> rfl
@[simp] theorem bName_app : bName i r env S = .ok (env.set i (some r)) S := rfl
@[simp] theorem bsNil_app : bsNil [] env S = .ok env S := rfl
@[simp] theorem bsCons_app {bd : Bd} {bs : Bds} {l : List RV} : bsCons bd bs (r :: l) env S = (bd r env S).bind fun e S1 => bs l e S1 := rfl
@[simp] theorem fin_rt : fin (.rt r S) = .ok r S := rfl
@[simp] theorem fin_nx : fin (.nx e S) = .ok (.p .none) S := rfl
@[simp] theorem fin_exc : fin (.exc c fs e S) = .exc c fs S := rfl
@[simp] theorem fin_ite {p : Prop} [Decidable p] {q r : SRes} : fin (if p then q else r) = if p then fin q else fin r := by split <;> rfl
@[simp] theorem okI_eq {j : Int} : okI j S = .ok (.p (.int j)) S := rfl
@[simp] theorem okB_eq {j : Bool} : okB j S = .ok (.p (.bool j)) S := rfl
@[simp] theorem okS_eq {j : Str} : okS j S = .ok (.p (.str j)) S := rfl
@[simp] theorem fLt_i {j k : Int} : fLt (.p (.int j)) (.p (.int k)) S = .ok (.p (.bool (decide (j < k)))) S := rfl
@[simp] theorem fLe_i {j k : Int} : fLe (.p (.int j)) (.p (.int k)) S = .ok (.p (.bool (decide (j ≤ k)))) S := rfl
@[simp] theorem fGt_i {j k : Int} : fGt (.p (.int j)) (.p (.int k)) S = .ok (.p (.bool (decide (k < j)))) S := rfl
@[simp] theorem fGe_i {j k : Int} : fGe (.p (.int j)) (.p (.int k)) S = .ok (.p (.bool (decide (k ≤ j)))) S := rfl
@[simp] theorem fAdd_i {fz : Bool} {j k : Int} : fAdd fz (.p (.int j)) (.p (.int k)) S = .ok (.p (.int (j + k))) S := rfl
@[simp] theorem fSub_i {j k : Int} : fSub (.p (.int j)) (.p (.int k)) S = .ok (.p (.int (j - k))) S := by simp [fSub, fII]
@[simp] theorem fEq_s {neg : Bool} {v w : Str} : fEq neg n (.p (.str v)) (.p (.str w)) S = .ok (.p (.bool (if neg then !decide (v = w) else decide (v = w)))) S := rfl
@[simp] theorem fEq_i {neg : Bool} {v w : Int} : fEq neg n (.p (.int v)) (.p (.int w)) S = .ok (.p (.bool (if neg then !decide (v = w) else decide (v = w)))) S := by
  simp [fEq, eqD, toP, SeqAt.shaped, PyData.eqv, PyData.canLay0, PyData.depth]
  rfl
@[simp] theorem fIsN_n {neg : Bool} : fIsN neg x (.p .none) S = .ok (.p (.bool (if neg then !isNon x else isNon x))) S := rfl
@[simp] theorem fLen_l {ds : List PyData} : fLen [.p (.list ds)] S = .ok (.p (.int ds.length)) S := by simp [fLen, seqv]
@[simp] theorem fLen_t {ds : List PyData} : fLen [.p (.tuple ds)] S = .ok (.p (.int ds.length)) S := by simp [fLen, seqv]
end
section
variable {env : Env} {S : Store} {bd : Bd} {tt : MT} {te m : ME} {vs : List Nat} {f : PyData → PyData}
@[simp] theorem allP_map {l : List PyData} : allP (l.map RV.p) = some l := by
  induction l with
  | nil => rfl
  | cons d l ih => simp [allP, ih]
@[simp] theorem allP_mapf {α : Type} {l : List α} {g : α → PyData} : allP (l.map fun d => RV.p (g d)) = some (l.map g) := by
  induction l with
  | nil => rfl
  | cons d l ih => simp [allP, ih]
theorem runLc_map {items : List PyData} : ∀ {acc : List RV}, (∀ d ∈ items, ∃ e1, bd (.p d) env S = .ok e1 S ∧ tt e1 S = .ok true S ∧ te e1 S = .ok (.p (f d)) S) → acc.length + items.length ≤ sizeLine →
    runLc bd tt te (fun _ => true) ((items.map RV.p).map Item.one) env S acc = .ok (acc ++ items.map fun d => .p (f d)) S := by
  induction items with
  | nil => intro acc _ _; simp [runLc]
  | cons d items ih =>
    intro acc h hl
    obtain ⟨e1, h1, h2, h3⟩ := h d (List.mem_cons_self ..)
    have := ih (acc := acc ++ [.p (f d)]) (fun x hx => h x (List.mem_cons_of_mem _ hx)) (by simp at hl ⊢; omega)
    have hz : acc.length < sizeLine := by simp at hl; omega
    simp only [List.map_cons, runLc, if_true, mkI, h1, h2, h3, if_pos hz]
    rw [this]; simp
theorem runLc_filter {items : List PyData} {p : PyData → Bool} : ∀ {acc : List RV}, (∀ d ∈ items, ∃ e1, bd (.p d) env S = .ok e1 S ∧ tt e1 S = .ok (p d) S ∧ te e1 S = .ok (.p (f d)) S) → acc.length + items.length ≤ sizeLine →
    runLc bd tt te (fun _ => true) ((items.map RV.p).map Item.one) env S acc = .ok (acc ++ (items.filter p).map fun d => .p (f d)) S := by
  induction items with
  | nil => intro acc _ _; simp [runLc]
  | cons d items ih =>
    intro acc h hl
    obtain ⟨e1, h1, h2, h3⟩ := h d (List.mem_cons_self ..)
    have hz : acc.length < sizeLine := by simp at hl; omega
    cases hp : p d with
    | true =>
      have := ih (acc := acc ++ [.p (f d)]) (fun x hx => h x (List.mem_cons_of_mem _ hx)) (by simp at hl ⊢; omega)
      simp only [List.map_cons, runLc, if_true, mkI, h1, h2, hp, h3, if_pos hz, List.filter_cons_of_pos]
      rw [this]; simp
    | false =>
      have := ih (acc := acc) (fun x hx => h x (List.mem_cons_of_mem _ hx)) (by simp at hl ⊢; omega)
      simp only [List.map_cons, runLc, if_true, mkI, h1, h2, hp]
      rw [this]; simp [List.filter_cons, hp]
def itemsOf : PyData → Option (List PyData)
  | .list ds => some ds
  | .tuple ds => some ds
  | .str z => some (z.cps.toList.map fun c => .str ⟨#[c]⟩)
  | _ => none
theorem iAny_of {d : PyData} {items : List PyData} (hm : m env S = .ok (.p d) S) (hi : itemsOf d = some items) : iAny m env S = .ok ((items.map RV.p).map Item.one, fun _ => true) S := by
  unfold iAny
  rw [hm]
  cases d with
  | list ds => cases hi; rfl
  | tuple ds => cases hi; rfl
  | str z => cases hi; simp [signs, Function.comp_def]
  | _ => cases hi
theorem mLc_map {d : PyData} {items : List PyData} (hm : m env S = .ok (.p d) S) (hi : itemsOf d = some items) (h : ∀ d ∈ items, ∃ e1, bd (.p d) (wipeE env vs) S = .ok e1 S ∧ tt e1 S = .ok true S ∧ te e1 S = .ok (.p (f d)) S) (hl : items.length ≤ sizeLine) :
    mLc true (iAny m) bd tt te vs env S = .ok (.p (.list (items.map f))) S := by
  unfold mLc
  rw [iAny_of hm hi]
  dsimp only [bind_ok]
  rw [runLc_map (f := f) h (by simpa using hl)]
  simp only [bind_ok, List.nil_append, mkL, List.length_map, if_pos hl, if_true, allP_mapf]
theorem mLc_filter {d : PyData} {items : List PyData} {p : PyData → Bool} (hm : m env S = .ok (.p d) S) (hi : itemsOf d = some items) (h : ∀ d ∈ items, ∃ e1, bd (.p d) (wipeE env vs) S = .ok e1 S ∧ tt e1 S = .ok (p d) S ∧ te e1 S = .ok (.p (f d)) S) (hl : items.length ≤ sizeLine) :
    mLc true (iAny m) bd tt te vs env S = .ok (.p (.list ((items.filter p).map f))) S := by
  unfold mLc
  rw [iAny_of hm hi]
  dsimp only [bind_ok]
  rw [runLc_filter (f := f) (p := p) h (by simpa using hl)]
  have : (items.filter p).length ≤ sizeLine := Nat.le_trans (List.length_filter_le ..) hl
  simp only [bind_ok, List.nil_append, mkL, List.length_map, if_pos this, if_true, allP_mapf]
theorem bools_map {α : Type} {l : List α} {g : α → Bool} : bools ((l.map fun d => PyData.bool (g d)).map RV.p) = some (l.map g) := by
  induction l with
  | nil => rfl
  | cons d l ih => simp only [List.map_cons, bools, ih, Option.map_some]
theorem fAll_map {α : Type} {l : List α} {g : α → Bool} : fAll true [.p (.list (l.map fun d => PyData.bool (g d)))] S = .ok (.p (.bool (l.all g))) S := by
  simp only [fAll, lstv, Option.bind_some, bools_map, if_true, okB_eq, List.all_map]; rfl
theorem atI_map {α β : Type} {l : List α} {g : α → β} {i : Int} : atI (l.map g) i = (atI l i).map g := by
  unfold atI
  rw [List.length_map]
  cases ixN l.length i with
  | none => rfl
  | some j => simp
theorem atI_nat {α : Type} {l : List α} (k : Nat) : atI l (k : Int) = l[k]? := by
  unfold atI ixN
  rw [if_pos (by omega)]
  by_cases h : k < l.length
  · rw [if_pos (by omega)]; simp
  · rw [if_neg (by omega)]
    simp only [Option.bind_none]
    rw [List.getElem?_eq_none (by omega)]
@[simp] theorem atI_0 {α : Type} {a : α} {l : List α} : atI (a :: l) 0 = some a := by have := atI_nat (l := a :: l) 0; simpa using this
@[simp] theorem atI_1 {α : Type} {a b : α} {l : List α} : atI (a :: b :: l) 1 = some b := by have := atI_nat (l := a :: b :: l) 1; simpa using this
@[simp] theorem atI_2 {α : Type} {a b c : α} {l : List α} : atI (a :: b :: c :: l) 2 = some c := by have := atI_nat (l := a :: b :: c :: l) 2; simpa using this
theorem atI_last {α : Type} {l : List α} {a : α} : atI (l ++ [a]) (-1) = some a := by
  have h : ixN (l ++ [a]).length (-1) = some l.length := by
    unfold ixN
    rw [if_neg (by omega), if_pos (by simp; omega)]
    simp; omega
  unfold atI
  rw [h]
  simp
@[simp] theorem fIx_t {ds : List PyData} {i : Int} : fIx (.p (.tuple ds)) (.p (.int i)) S = (match atI ds i with
  | some d => .ok (.p d) S
  | none => .stuck) := by
  simp only [fIx, seqv, atI_map]
  cases atI ds i <;> rfl
@[simp] theorem fIx_l {ds : List PyData} {i : Int} : fIx (.p (.list ds)) (.p (.int i)) S = (match atI ds i with
  | some d => .ok (.p d) S
  | none => .stuck) := by
  simp only [fIx, seqv, atI_map]
  cases atI ds i <;> rfl
@[simp] theorem bTup_p {n : Nat} {bs : Bds} {ds : List PyData} : bTup n bs (.p (.tuple ds)) env S = if ds.length = n then bs (ds.map RV.p) env S else .stuck := by simp [bTup, tupv]
@[simp] theorem mkT_p {l : List PyData} : mkT (l.map RV.p) S = if l.length ≤ sizeLine then .ok (.p (.tuple l)) S else .stuck := by simp [mkT]
@[simp] theorem mkL_p {l : List PyData} : mkL true (l.map RV.p) S = if l.length ≤ sizeLine then .ok (.p (.list l)) S else .stuck := by simp [mkL]
theorem size1 : (1 : Nat) ≤ sizeLine := by rw [sizeLine_eq]; omega
theorem sizeK {n : Nat} (h : n ≤ 100000) : n ≤ sizeLine := by rw [sizeLine_eq]; omega
@[simp] theorem mkT_1 {a : PyData} : mkT [.p a] S = .ok (.p (.tuple [a])) S := by simp [mkT, allP, sizeLine_eq]
@[simp] theorem mkT_2 {a b : PyData} : mkT [.p a, .p b] S = .ok (.p (.tuple [a, b])) S := by simp [mkT, allP, sizeLine_eq]
@[simp] theorem mkT_3 {a b c : PyData} : mkT [.p a, .p b, .p c] S = .ok (.p (.tuple [a, b, c])) S := by simp [mkT, allP, sizeLine_eq]
@[simp] theorem mkT_0 : mkT [] S = .ok (.p (.tuple [])) S := by simp [mkT, allP, sizeLine_eq]
@[simp] theorem mkL_0 : mkL true [] S = .ok (.p (.list [])) S := by simp [mkL, allP, sizeLine_eq]
@[simp] theorem mkL_1 {a : PyData} : mkL true [.p a] S = .ok (.p (.list [a])) S := by simp [mkL, allP, sizeLine_eq]
@[simp] theorem mkL_2 {a b : PyData} : mkL true [.p a, .p b] S = .ok (.p (.list [a, b])) S := by simp [mkL, allP, sizeLine_eq]
@[simp] theorem mkL_3 {a b c : PyData} : mkL true [.p a, .p b, .p c] S = .ok (.p (.list [a, b, c])) S := by simp [mkL, allP, sizeLine_eq]
@[simp] theorem mkLf_0 : mkL false [] S = .ok (.loc S.length) (S ++ [.lst []]) := by simp [mkL, sizeLine_eq]
@[simp] theorem mkLf_1 {a : RV} : mkL false [a] S = .ok (.loc S.length) (S ++ [.lst [a]]) := by simp [mkL, sizeLine_eq]
@[simp] theorem mkLf_2 {a b : RV} : mkL false [a, b] S = .ok (.loc S.length) (S ++ [.lst [a, b]]) := by simp [mkL, sizeLine_eq]
theorem fAdd_ll {i j : List PyData} (h : i.length + j.length ≤ sizeLine) : fAdd true (.p (.list i)) (.p (.list j)) S = .ok (.p (.list (i ++ j))) S := by
  simp only [fAdd]
  rw [← List.map_append, mkL_p, if_pos (by simpa using h)]
theorem fAdd_tt {z : Bool} {i j : List PyData} (h : i.length + j.length ≤ sizeLine) : fAdd z (.p (.tuple i)) (.p (.tuple j)) S = .ok (.p (.tuple (i ++ j))) S := by
  simp only [fAdd]; rw [if_pos h]
theorem fSl_t {z : Bool} {ds : List PyData} {lo hi : Option Int} : fSl z (.p (.tuple ds)) lo hi S = .ok (.p (.tuple (cutG ds lo hi))) S := rfl
theorem cutG_len {α : Type} {l : List α} {lo hi : Option Int} : (cutG l lo hi).length ≤ l.length := by
  unfold cutG; rw [List.length_take, List.length_drop]; omega
theorem cutG_map {α β : Type} {l : List α} {g : α → β} {lo hi : Option Int} : cutG (l.map g) lo hi = (cutG l lo hi).map g := by
  unfold cutG; simp
theorem fSl_l {ds : List PyData} {lo hi : Option Int} (h : ds.length ≤ sizeLine) : fSl true (.p (.list ds)) lo hi S = .ok (.p (.list (cutG ds lo hi))) S := by
  simp only [fSl, cutG_map, mkL_p]
  rw [if_pos (Nat.le_trans cutG_len h)]
theorem cutG_from {α : Type} {l : List α} (k : Nat) : cutG l (some (k : Int)) none = l.drop k := by
  unfold cutG
  rw [HT.sIx_nat, HT.sIx_none, List.take_of_length_le (by rw [List.length_drop]; omega)]
  by_cases h : k ≤ l.length
  · rw [Nat.min_eq_left h]
  · rw [Nat.min_eq_right (by omega), List.drop_length, List.drop_eq_nil_of_le (by omega)]
theorem cutG_to {α : Type} {l : List α} (k : Nat) : cutG l none (some (k : Int)) = l.take k := by
  unfold cutG
  rw [HT.sIx_nat, HT.sIx_none, List.drop_zero, Nat.sub_zero]
  by_cases h : k ≤ l.length
  · rw [Nat.min_eq_left h]
  · rw [Nat.min_eq_right (by omega), List.take_length, List.take_of_length_le (by omega)]
theorem cutG_mid {α : Type} {l : List α} (i j : Nat) (h : i ≤ j) : cutG l (some (i : Int)) (some (j : Int)) = (l.drop i).take (j - i) := by
  unfold cutG
  rw [HT.sIx_nat, HT.sIx_nat]
  by_cases h1 : j ≤ l.length
  · rw [Nat.min_eq_left h1, Nat.min_eq_left (by omega)]
  · by_cases h2 : i ≤ l.length
    · rw [Nat.min_eq_left h2, Nat.min_eq_right (by omega), List.take_of_length_le (by rw [List.length_drop]; omega), List.take_of_length_le (by rw [List.length_drop]; omega)]
    · have e : min i l.length = l.length := Nat.min_eq_right (by omega)
      have e2 : min j l.length = l.length := Nat.min_eq_right (by omega)
      simp only [e, e2, List.drop_length, List.take_nil]
      rw [List.drop_eq_nil_of_le (by omega)]; simp
end
/-! loops with an invariant -/
theorem runFor_from {b : Bd} {body : MS} {items : List Item} (I : Nat → Env → Store → Prop) (h : ∀ j it env S, items[j]? = some it → I j env S → ∃ e1 S1 e2 S2, b (mkI it S).1 env (mkI it S).2 = .ok e1 S1 ∧ (body e1 S1 = .nx e2 S2 ∨ body e1 S1 = .ct e2 S2) ∧ I (j + 1) e2 S2) :
    ∀ (n j : Nat) (env : Env) (S : Store), items.length - j = n → j ≤ items.length → I j env S → ∃ e' S', runFor b body (fun _ => true) (items.drop j) env S = .nx e' S' ∧ I items.length e' S' := by
  intro n
  induction n with
  | zero =>
    intro j env S hn hj hI
    obtain rfl : j = items.length := by omega
    exact ⟨env, S, by rw [List.drop_length]; simp [runFor], hI⟩
  | succ n ih =>
    intro j env S hn hj hI
    have hlt : j < items.length := by omega
    obtain ⟨e1, S1, e2, S2, h1, h2, h3⟩ := h j items[j] env S (List.getElem?_eq_getElem hlt) hI
    obtain ⟨e', S', h4, h5⟩ := ih (j + 1) e2 S2 (by omega) hlt h3
    refine ⟨e', S', ?_, h5⟩
    rw [List.drop_eq_getElem_cons hlt]
    simp only [runFor, if_true, h1]
    rcases h2 with h2 | h2 <;> rw [h2] <;> exact h4
theorem runFor_inv {b : Bd} {body : MS} {items : List Item} (I : Nat → Env → Store → Prop) (h : ∀ j it env S, items[j]? = some it → I j env S → ∃ e1 S1 e2 S2, b (mkI it S).1 env (mkI it S).2 = .ok e1 S1 ∧ (body e1 S1 = .nx e2 S2 ∨ body e1 S1 = .ct e2 S2) ∧ I (j + 1) e2 S2)
    {env : Env} {S : Store} (h0 : I 0 env S) : ∃ e' S', runFor b body (fun _ => true) items env S = .nx e' S' ∧ I items.length e' S' := by
  have := runFor_from I h items.length 0 env S (by omega) (Nat.zero_le _) h0
  rwa [List.drop_zero] at this
@[simp] theorem mFor_app {mi : MI} {b : Bd} {body : MS} {env : Env} {S : Store} : mFor mi b body env S = eS (mi env S) env fun a S1 => runFor b body a.2 a.1 env S1 := rfl
theorem iEnu_of {m : ME} {env : Env} {S : Store} {ds : List PyData} (h : m env S = .ok (.p (.list ds)) S) : iEnu (aCons m aNil) env S = .ok (enumI (ds.map RV.p), fun _ => true) S := by
  simp [iEnu, h, frozen, lstv]
theorem enumI_len {l : List RV} : (enumI l).length = l.length := by
  unfold enumI; simp
@[simp] theorem mkI_ip {j : Int} {d : PyData} {S : Store} : mkI (.tup [.p (.int j), .p d]) S = (.p (.tuple [.int j, d]), S) := by simp [mkI, allP]
@[simp] theorem mkI_one {r : RV} {S : Store} : mkI (.one r) S = (r, S) := rfl
/-! the last cell -/
@[simp] theorem get_last {S : Store} {c : Cell} {X : Store} : (S ++ c :: X)[S.length]? = some c := by simp
@[simp] theorem set_last {S : Store} {c c' : Cell} {X : Store} : (S ++ c :: X).set S.length c' = S ++ c' :: X := by
  rw [List.set_append_right _ _ (Nat.le_refl _), Nat.sub_self]; rfl
theorem fAppend_last {S : Store} {l : List RV} {y : RV} {X : Store} (h : l.length ≤ 100000) : fAppend (.loc S.length) [y] (S ++ Cell.lst l :: X) = .ok (.p .none) (S ++ Cell.lst (l ++ [y]) :: X) := by
  have : l.length < sizeLine := by rw [sizeLine_eq]; omega
  simp only [fAppend, get_last, if_pos this, set_last]
theorem tyOk_last {S : Store} {l : List RV} {X : Store} : tyOk "list" (.loc S.length) (S ++ Cell.lst l :: X) = true := by simp [tyOk, lstv]
@[simp] theorem mBM_app {T : String} {f : FM} {mo : ME} {ms : MA} {env : Env} {S : Store} : mBM T f mo ms env S = (mo env S).bind fun x S1 => if tyOk T x S1 = true then (ms env S1).bind fun l S2 => f x l S2 else .stuck := rfl
theorem fIn_cell {a : Str} {l : List Str} {S X : Store} {neg : Bool} : fIn neg (.p (.str a)) (.loc S.length) (S ++ Cell.lst (l.map fun s => RV.p (.str s)) :: X) = .ok (.p (.bool (if neg then !decide (a ∈ l) else decide (a ∈ l)))) (S ++ Cell.lst (l.map fun s => RV.p (.str s)) :: X) := by
  have h1 : (List.map (fun s => PyData.str s) l).all flatP = true := by simp [flatP]
  have h2 : inP (.str a) (List.map (fun s => PyData.str s) l) = decide (a ∈ l) := by
    unfold inP
    rw [List.any_map]
    clear h1
    induction l with
    | nil => rfl
    | cons b l ih =>
      rw [List.any_cons, ih]
      by_cases hb : b = a
      · subst hb; simp [PyData.eqv]
      · have : a ≠ b := fun z => hb z.symm
        simp [PyData.eqv, hb, this]
  simp only [fIn, seqv, get_last, Option.bind_some, allP_mapf]
  rw [if_pos ⟨rfl, h1⟩, h2]
  rfl
theorem mLc_mapF {env : Env} {S : Store} {bd : Bd} {tt : MT} {te m : ME} {vs : List Nat} {f : PyData → PyData} {d : PyData} {items : List PyData} (hm : m env S = .ok (.p d) S) (hi : itemsOf d = some items) (h : ∀ d ∈ items, ∃ e1, bd (.p d) (wipeE env vs) S = .ok e1 S ∧ tt e1 S = .ok true S ∧ te e1 S = .ok (.p (f d)) S) (hl : items.length ≤ sizeLine) :
    mLc false (iAny m) bd tt te vs env S = .ok (.loc S.length) (S ++ [.lst (items.map fun d => .p (f d))]) := by
  unfold mLc
  rw [iAny_of hm hi]
  dsimp only [bind_ok]
  rw [runLc_map (f := f) h (by simpa using hl)]
  simp [mkL, hl]
theorem fAdd_cl {z : Bool} {S X : Store} {l : List RV} {j : List PyData} : fAdd z (.loc S.length) (.p (.list j)) (S ++ Cell.lst l :: X) = mkL z (l ++ j.map RV.p) (S ++ Cell.lst l :: X) := by
  simp only [fAdd, get_last]
end Z


set_option Elab.async false
set_option linter.all false
set_option autoImplicit false
set_option maxRecDepth 100000
set_option maxHeartbeats 4000000
/-! mirrors of the defs -/
namespace K58
open PySem PySem.Spec PyProof.Rows L2 Z
-- exception 0: TreeError
-- exception 1: NoProgram
-- exception 2: NoWishes
-- exception 3: NoPart
-- exception 4: TooMany
def tst_NoPart : Nat → Option Bool
  | 0 => some false
  | 1 => some false
  | 2 => some false
  | 3 => some true
  | 4 => some false
  | _ => none
def tst_NoProgram : Nat → Option Bool
  | 0 => some false
  | 1 => some true
  | 2 => some false
  | 3 => some false
  | 4 => some false
  | _ => none
def tst_NoWishes : Nat → Option Bool
  | 0 => some false
  | 1 => some false
  | 2 => some true
  | 3 => some false
  | 4 => some false
  | _ => none
def tst_TooMany : Nat → Option Bool
  | 0 => some false
  | 1 => some false
  | 2 => some false
  | 3 => some false
  | 4 => some true
  | _ => none
def tst_TreeError : Nat → Option Bool
  | 0 => some true
  | 1 => some true
  | 2 => some true
  | 3 => some false
  | 4 => some false
  | _ => none
abbrev N_is_whole : List Str := ["thing"]
noncomputable def b_is_whole : MS :=
  (mSeq (mRet (mAndV (mCall fIsi (aCons (mVar 0) (aCons (mC (.ty "int")) aNil))) (mNotV (mCall fIsi (aCons (mVar 0) (aCons (mC (.ty "bool")) aNil))))))
  mNext)
noncomputable def mf_is_whole : FN := mDef 1 1 b_is_whole
noncomputable abbrev sp_is_whole : FN := mf_is_whole
abbrev N_is_line : List Str := ["many", "thing", "number"]
noncomputable def b_is_line : MS :=
  (mSeq (mRet (mAndV (mCall fIsi (aCons (mVar 1) (aCons (mC (.ty "tuple")) aNil))) (mAndV (mBin (fEq false 8) (mCall fLen (aCons (mVar 1) aNil)) (mBin (fAdd true) (mVar 0) (mC (.p (.int 1))))) (mCall (fAll true) (aCons (mLc true (iAny (mVar 1)) (bName 2) tYesM (mCall sp_is_whole (aCons (mVar 2) aNil)) [2]) aNil)))))
  mNext)
noncomputable def mf_is_line : FN := mDef 2 3 b_is_line
noncomputable abbrev sp_is_line : FN := mf_is_line
abbrev N_is_wish : List Str := ["many", "thing"]
noncomputable def b_is_wish : MS :=
  (mSeq (mIfS (mOr (mNot (mTst (mCall fIsi (aCons (mVar 1) (aCons (mC (.ty "tuple")) aNil))))) (mOr (mTst (mBin (fEq true 8) (mCall fLen (aCons (mVar 1) aNil)) (mC (.p (.int 2))))) (mNot (mTst (mCall fIsi (aCons (mBin fIx (mVar 1) (mC (.p (.int 0)))) (aCons (mC (.ty "str")) aNil))))))) (mSeq (mRet (mC (.p (.bool false))))
  mNext) mNext)
  (mSeq (mRet (mAndV (mBin (fIn false) (mBin fIx (mVar 1) (mC (.p (.int 0)))) (mC (.p (PyData.tuple [(PyData.str "least"), (PyData.str "above")])))) (mCall sp_is_line (aCons (mVar 0) (aCons (mBin fIx (mVar 1) (mC (.p (.int 1)))) aNil)))))
  mNext))
noncomputable def mf_is_wish : FN := mDef 2 2 b_is_wish
noncomputable abbrev sp_is_wish : FN := mf_is_wish
abbrev N_is_name : List Str := ["thing", "sign"]
noncomputable def b_is_name : MS :=
  (mSeq (mIfS (mOr (mNot (mTst (mCall fIsi (aCons (mVar 0) (aCons (mC (.ty "str")) aNil))))) (mNot (mTst (mChain fLe fLe (mC (.p (.int 1))) (mCall fLen (aCons (mVar 0) aNil)) (mC (.p (PyData.int 6))))))) (mSeq (mRet (mC (.p (.bool false))))
  mNext) mNext)
  (mSeq (mRet (mCall (fAll true) (aCons (mLc true (iAny (mVar 0)) (bName 1) tYesM (mBin (fIn false) (mVar 1) (mC (.p (PyData.str "abcdefghijklmnopqrstuvwxyz")))) [1]) aNil)))
  mNext))
noncomputable def mf_is_name : FN := mDef 1 2 b_is_name
noncomputable abbrev sp_is_name : FN := mf_is_name
abbrev N_is_row_number : List Str := ["many", "thing"]
noncomputable def b_is_row_number : MS :=
  (mSeq (mRet (mAndV (mCall sp_is_whole (aCons (mVar 1) aNil)) (mChain fLe fLt (mC (.p (.int 0))) (mVar 1) (mVar 0))))
  mNext)
noncomputable def mf_is_row_number : FN := mDef 2 2 b_is_row_number
noncomputable abbrev sp_is_row_number : FN := mf_is_row_number
abbrev N_are_roads : List Str := ["many", "thing", "row"]
noncomputable def b_are_roads : MS :=
  (mSeq (mIfS (mOr (mNot (mTst (mCall fIsi (aCons (mVar 1) (aCons (mC (.ty "tuple")) aNil))))) (mNot (mTst (mChain fLe fLe (mC (.p (.int 2))) (mCall fLen (aCons (mVar 1) aNil)) (mC (.p (PyData.int 4))))))) (mSeq (mRet (mC (.p (.bool false))))
  mNext) mNext)
  (mSeq (mRet (mCall (fAll true) (aCons (mLc true (iAny (mVar 1)) (bName 2) tYesM (mCall sp_is_row_number (aCons (mVar 0) (aCons (mVar 2) aNil))) [2]) aNil)))
  mNext))
noncomputable def mf_are_roads : FN := mDef 2 3 b_are_roads
noncomputable abbrev sp_are_roads : FN := mf_are_roads
abbrev N_is_box : List Str := ["boxes", "thing"]
noncomputable def b_is_box : MS :=
  (mSeq (mRet (mAndV (mCall fIsi (aCons (mVar 1) (aCons (mC (.ty "str")) aNil))) (mBin (fIn false) (mVar 1) (mVar 0))))
  mNext)
noncomputable def mf_is_box : FN := mDef 2 2 b_is_box
noncomputable abbrev sp_is_box : FN := mf_is_box
abbrev N_is_row : List Str := ["boxes", "behind", "many", "row", "word", "rest", "over"]
noncomputable def b_is_row : MS :=
  (mSeq (mIfS (mOr (mNot (mTst (mCall fIsi (aCons (mVar 3) (aCons (mC (.ty "tuple")) aNil))))) (mOr (mTst (mBin (fEq false 8) (mCall fLen (aCons (mVar 3) aNil)) (mC (.p (.int 0))))) (mNot (mTst (mCall fIsi (aCons (mBin fIx (mVar 3) (mC (.p (.int 0)))) (aCons (mC (.ty "str")) aNil))))))) (mSeq (mRet (mC (.p (.bool false))))
  mNext) mNext)
  (mSeq (mAsg (mVar 3) (bTupS true 2 1 (bsCons (bName 4) (bsCons (bName 5) bsNil))))
  (mSeq (mAsg (mCall fLen (aCons (mVar 0) aNil)) (bName 6))
  (mSeq (mIfS (mTst (mBin (fEq false 8) (mVar 4) (mC (.p (.str "set"))))) (mSeq (mRet (mAndV (mBin (fEq false 8) (mCall fLen (aCons (mVar 5) aNil)) (mC (.p (.int 2)))) (mAndV (mCall sp_is_box (aCons (mVar 0) (aCons (mBin fIx (mVar 5) (mC (.p (.int 0)))) aNil))) (mCall sp_is_line (aCons (mVar 6) (aCons (mBin fIx (mVar 5) (mC (.p (.int 1)))) aNil))))))
  mNext) mNext)
  (mSeq (mIfS (mTst (mBin (fEq false 8) (mVar 4) (mC (.p (.str "read"))))) (mSeq (mRet (mAndV (mBin (fEq false 8) (mCall fLen (aCons (mVar 5) aNil)) (mC (.p (.int 1)))) (mCall sp_is_box (aCons (mVar 0) (aCons (mBin fIx (mVar 5) (mC (.p (.int 0)))) aNil)))))
  mNext) mNext)
  (mSeq (mIfS (mTst (mBin (fIn false) (mVar 4) (mTup (aCons (mC (.p (.str "want"))) (aCons (mC (.p (.str "claim"))) aNil))))) (mSeq (mRet (mAndV (mBin (fEq false 8) (mCall fLen (aCons (mVar 5) aNil)) (mC (.p (.int 1)))) (mCall sp_is_wish (aCons (mVar 6) (aCons (mBin fIx (mVar 5) (mC (.p (.int 0)))) aNil)))))
  mNext) mNext)
  (mSeq (mIfS (mTst (mBin (fEq false 8) (mVar 4) (mC (.p (.str "test"))))) (mSeq (mRet (mAndV (mBin (fEq false 8) (mCall fLen (aCons (mVar 5) aNil)) (mC (.p (.int 2)))) (mAndV (mCall sp_is_wish (aCons (mVar 6) (aCons (mBin fIx (mVar 5) (mC (.p (.int 0)))) aNil))) (mCall sp_is_row_number (aCons (mVar 2) (aCons (mBin fIx (mVar 5) (mC (.p (.int 1)))) aNil))))))
  mNext) mNext)
  (mSeq (mIfS (mTst (mBin (fEq false 8) (mVar 4) (mC (.p (.str "either"))))) (mSeq (mRet (mAndV (mBin (fEq false 8) (mCall fLen (aCons (mVar 5) aNil)) (mC (.p (.int 1)))) (mCall sp_are_roads (aCons (mVar 2) (aCons (mBin fIx (mVar 5) (mC (.p (.int 0)))) aNil)))))
  mNext) mNext)
  (mSeq (mIfS (mTst (mBin (fEq false 8) (mVar 4) (mC (.p (.str "jump"))))) (mSeq (mRet (mAndV (mBin (fEq false 8) (mCall fLen (aCons (mVar 5) aNil)) (mC (.p (.int 1)))) (mCall sp_is_row_number (aCons (mVar 2) (aCons (mBin fIx (mVar 5) (mC (.p (.int 0)))) aNil)))))
  mNext) mNext)
  (mSeq (mIfS (mTst (mBin (fEq false 8) (mVar 4) (mC (.p (.str "call"))))) (mSeq (mRet (mAndV (mBin (fEq false 8) (mCall fLen (aCons (mVar 5) aNil)) (mC (.p (.int 1)))) (mAndV (mCall fIsi (aCons (mBin fIx (mVar 5) (mC (.p (.int 0)))) (aCons (mC (.ty "str")) aNil))) (mBin (fIn false) (mBin fIx (mVar 5) (mC (.p (.int 0)))) (mVar 1)))))
  mNext) mNext)
  (mSeq (mRet (mAndV (mBin (fEq false 8) (mVar 4) (mC (.p (.str "end")))) (mBin (fEq false 8) (mVar 5) (mLst true aNil))))
  mNext)))))))))))
noncomputable def mf_is_row : FN := mDef 4 7 b_is_row
noncomputable abbrev sp_is_row : FN := mf_is_row
abbrev N_name_of : List Str := ["thing"]
noncomputable def b_name_of : MS :=
  (mSeq (mIfS (mTst (mCall fIsi (aCons (mVar 0) (aCons (mC (.ty "tuple")) aNil)))) (mSeq (mRet (mBin fIx (mVar 0) (mC (.p (.int 0)))))
  mNext) mNext)
  (mSeq (mRet (mVar 0))
  mNext))
noncomputable def mf_name_of : FN := mDef 1 1 b_name_of
noncomputable abbrev sp_name_of : FN := mf_name_of
abbrev N_is_part : List Str := ["thing"]
noncomputable def b_is_part : MS :=
  (mSeq (mIfS (mOr (mNot (mTst (mCall fIsi (aCons (mVar 0) (aCons (mC (.ty "tuple")) aNil))))) (mOr (mTst (mBin (fEq true 8) (mCall fLen (aCons (mVar 0) aNil)) (mC (.p (.int 2))))) (mNot (mTst (mCall sp_is_name (aCons (mBin fIx (mVar 0) (mC (.p (.int 0)))) aNil)))))) (mSeq (mRet (mC (.p (.bool false))))
  mNext) mNext)
  (mSeq (mRet (mAndV (mCall fIsi (aCons (mBin fIx (mVar 0) (mC (.p (.int 1)))) (aCons (mC (.ty "list")) aNil))) (mChain fLe fLe (mC (.p (.int 1))) (mCall fLen (aCons (mBin fIx (mVar 0) (mC (.p (.int 1)))) aNil)) (mC (.p (PyData.int 24))))))
  mNext))
noncomputable def mf_is_part : FN := mDef 1 1 b_is_part
noncomputable abbrev sp_is_part : FN := mf_is_part
noncomputable def tbl_wrong_thing : Nat → Option FN
  | 100 => some sp_is_name
  | 101 => some sp_is_part
  | _ => none
abbrev N_wrong_thing : List Str := ["things", "is_good", "names", "number", "thing"]
noncomputable def b_wrong_thing : MS :=
  (mSeq (mAsg (mLst false aNil) (bName 2))
  (mSeq (mFor (iEnu (aCons (mVar 0) aNil)) (bTup 2 (bsCons (bName 3) (bsCons (bName 4) bsNil)))
  (mSeq (mIfS (mOr (mNot (mTst (mCallV tbl_wrong_thing 1 (aCons (mVar 4) aNil)))) (mTst (mBin (fIn false) (mCall sp_name_of (aCons (mVar 4) aNil)) (mVar 2)))) (mSeq (mRet (mVar 3))
  mNext) mNext)
  (mSeq (mExp (mBM "list" fAppend (mVar 2) (aCons (mCall sp_name_of (aCons (mVar 4) aNil)) aNil)))
  mNext)))
  (mSeq (mRet (mC (.p .none)))
  mNext)))
noncomputable def mf_wrong_thing : FN := mDef 2 5 b_wrong_thing
noncomputable abbrev sp_wrong_thing : FN := mf_wrong_thing
abbrev N_look_at_list : List Str := ["word", "thing", "most", "is_good", "number"]
noncomputable def b_look_at_list : MS :=
  (mSeq (mIfS (mOr (mNot (mTst (mCall fIsi (aCons (mVar 1) (aCons (mC (.ty "list")) aNil))))) (mNot (mTst (mChain fLe fLe (mC (.p (.int 1))) (mCall fLen (aCons (mVar 1) aNil)) (mVar 2))))) (mSeq (mRaise 1 ["part", "number", "row"] (aCons (mVar 0) (aCons (mC (.p .none)) (aCons (mC (.p .none)) aNil))))
  mNext) mNext)
  (mSeq (mAsg (mCall sp_wrong_thing (aCons (mVar 1) (aCons (mVar 3) aNil))) (bName 4))
  (mSeq (mIfS (mTst (mBin (fIsN true) (mVar 4) (mC (.p .none)))) (mSeq (mRaise 1 ["part", "number", "row"] (aCons (mVar 0) (aCons (mVar 4) (aCons (mC (.p .none)) aNil))))
  mNext) mNext)
  mNext)))
noncomputable def mf_look_at_list : FN := mDef 4 5 b_look_at_list
noncomputable abbrev sp_look_at_list : FN := mf_look_at_list
abbrev N_look_at : List Str := ["thing", "boxes", "parts", "number", "name", "rows", "behind", "other", "more", "at", "row"]
noncomputable def b_look_at : MS :=
  (mSeq (mIfS (mOr (mNot (mTst (mCall fIsi (aCons (mVar 0) (aCons (mC (.ty "tuple")) aNil))))) (mTst (mBin (fEq true 8) (mCall fLen (aCons (mVar 0) aNil)) (mC (.p (.int 2)))))) (mSeq (mRaise 1 ["part", "number", "row"] (aCons (mC (.p (.str "program"))) (aCons (mC (.p .none)) (aCons (mC (.p .none)) aNil))))
  mNext) mNext)
  (mSeq (mAsg (mVar 0) (bTup 2 (bsCons (bName 1) (bsCons (bName 2) bsNil))))
  (mSeq (mExp (mCall sp_look_at_list (aCons (mC (.p (.str "boxes"))) (aCons (mVar 1) (aCons (mC (.p (PyData.int 8))) (aCons (mC (.fn 100)) aNil))))))
  (mSeq (mExp (mCall sp_look_at_list (aCons (mC (.p (.str "parts"))) (aCons (mVar 2) (aCons (mC (.p (PyData.int 6))) (aCons (mC (.fn 101)) aNil))))))
  (mSeq (mFor (iEnu (aCons (mVar 2) aNil)) (bTup 2 (bsCons (bName 3) (bsCons (bTup 2 (bsCons (bName 4) (bsCons (bName 5) bsNil))) bsNil)))
  (mSeq (mAsg (mLc true (iAny (mSl (fSl true) (mVar 2) (oSo (mBin (fAdd true) (mVar 3) (mC (.p (.int 1))))) oNo)) (bTup 2 (bsCons (bName 7) (bsCons (bName 8) bsNil))) tYesM (mVar 7) [7, 8]) (bName 6))
  (mSeq (mFor (iEnu (aCons (mVar 5) aNil)) (bTup 2 (bsCons (bName 9) (bsCons (bName 10) bsNil)))
  (mSeq (mIfS (mNot (mTst (mCall sp_is_row (aCons (mVar 1) (aCons (mVar 6) (aCons (mCall fLen (aCons (mVar 5) aNil)) (aCons (mVar 10) aNil))))))) (mSeq (mRaise 1 ["part", "number", "row"] (aCons (mC (.p (.str "rows"))) (aCons (mVar 3) (aCons (mVar 9) aNil))))
  mNext) mNext)
  (mSeq (mIfS (mAnd (mTst (mBin (fEq false 8) (mVar 9) (mBin fSub (mCall fLen (aCons (mVar 5) aNil)) (mC (.p (.int 1)))))) (mTst (mBin (fIn true) (mBin fIx (mVar 10) (mC (.p (.int 0)))) (mTup (aCons (mC (.p (.str "either"))) (aCons (mC (.p (.str "jump"))) (aCons (mC (.p (.str "end"))) aNil))))))) (mSeq (mRaise 1 ["part", "number", "row"] (aCons (mC (.p (.str "rows"))) (aCons (mVar 3) (aCons (mVar 9) aNil))))
  mNext) mNext)
  mNext)))
  mNext)))
  mNext)))))
noncomputable def mf_look_at : FN := mDef 1 11 b_look_at
noncomputable abbrev sp_look_at : FN := lendF mf_look_at
abbrev N_part_numbers : List Str := ["program", "number", "name", "rows"]
noncomputable def b_part_numbers : MS :=
  (mSeq (mRet (mDc (iEnu (aCons (mBin fIx (mVar 0) (mC (.p (.int 1)))) aNil)) (bTup 2 (bsCons (bName 1) (bsCons (bTup 2 (bsCons (bName 2) (bsCons (bName 3) bsNil))) bsNil))) tYesM (mVar 2) (mVar 1) [1, 2, 3]))
  mNext)
noncomputable def mf_part_numbers : FN := mDef 1 4 b_part_numbers
noncomputable abbrev sp_part_numbers : FN := mf_part_numbers
abbrev N_look_at_size : List Str := ["program", "boxes", "parts"]
noncomputable def b_look_at_size : MS :=
  (mSeq (mAsg (mVar 0) (bTup 2 (bsCons (bName 1) (bsCons (bName 2) bsNil))))
  (mSeq (mIfS (mTst (mBin fGt (mCall fLen (aCons (mVar 1) aNil)) (mC (.p (PyData.int 4))))) (mSeq (mRaise 4 ["many"] (aCons (mCall fLen (aCons (mVar 1) aNil)) aNil))
  mNext) mNext)
  (mSeq (mIfS (mTst (mBin fGt (mCall fLen (aCons (mVar 2) aNil)) (mC (.p (PyData.int 5))))) (mSeq (mRaise 4 ["many"] (aCons (mCall fLen (aCons (mVar 2) aNil)) aNil))
  mNext) mNext)
  mNext)))
noncomputable def mf_look_at_size : FN := mDef 1 3 b_look_at_size
noncomputable abbrev sp_look_at_size : FN := mf_look_at_size
abbrev N_look_at_call : List Str := ["program", "name", "wishes", "numbers", "over", "one"]
noncomputable def b_look_at_call : MS :=
  (mSeq (mAsg (mCall sp_part_numbers (aCons (mVar 0) aNil)) (bName 3))
  (mSeq (mIfS (mOr (mNot (mTst (mCall fIsi (aCons (mVar 1) (aCons (mC (.ty "str")) aNil))))) (mTst (mBin (fEq false 8) (mDGet2 (mVar 3) (mVar 1) (mC (.p (.int 0)))) (mC (.p (.int 0)))))) (mSeq (mRaise 3 ["name"] (aCons (mVar 1) aNil))
  mNext) mNext)
  (mSeq (mAsg (mBin (fMul true) (mC (.p (.int 2))) (mCall fLen (aCons (mBin fIx (mVar 0) (mC (.p (.int 0)))) aNil))) (bName 4))
  (mSeq (mIfS (mOr (mNot (mTst (mCall fIsi (aCons (mVar 2) (aCons (mC (.ty "list")) aNil))))) (mTst (mBin fGt (mCall fLen (aCons (mVar 2) aNil)) (mC (.p (PyData.int 12)))))) (mSeq (fun env S => .exc 2 none env S)
  mNext) mNext)
  (mSeq (mIfS (mNot (mTst (mCall (fAll true) (aCons (mLc true (iAny (mVar 2)) (bName 5) tYesM (mCall sp_is_wish (aCons (mVar 4) (aCons (mVar 5) aNil))) [5]) aNil)))) (mSeq (fun env S => .exc 2 none env S)
  mNext) mNext)
  mNext)))))
noncomputable def mf_look_at_call : FN := mDef 3 6 b_look_at_call
noncomputable abbrev sp_look_at_call : FN := mf_look_at_call
abbrev N_letters_without : List Str := ["names", "many", "letter"]
noncomputable def b_letters_without : MS :=
  (mSeq (mRet (mSl (fSl true) (mLc true (iAny (mC (.p (PyData.str "abcdefghijklmnopqrstuvwxyz")))) (bName 2) (mTst (mBin (fIn true) (mVar 2) (mVar 0))) (mVar 2) [2]) oNo (oSo (mVar 1))))
  mNext)
noncomputable def mf_letters_without : FN := mDef 2 3 b_letters_without
noncomputable abbrev sp_letters_without : FN := mf_letters_without
abbrev N_wider_row : List Str := ["row", "many", "word", "rest", "more", "asked", "line"]
noncomputable def b_wider_row : MS :=
  (mSeq (mAsg (mVar 0) (bTupS true 2 1 (bsCons (bName 2) (bsCons (bName 3) bsNil))))
  (mSeq (mAsg (mBin (fMul true) (mTup (aCons (mC (.p (.int 0))) aNil)) (mVar 1)) (bName 4))
  (mSeq (mIfS (mTst (mBin (fEq false 8) (mVar 2) (mC (.p (.str "set"))))) (mSeq (mRet (mTup (aCons (mVar 2) (aCons (mBin fIx (mVar 3) (mC (.p (.int 0)))) (aCons (mBin (fAdd true) (mBin fIx (mVar 3) (mC (.p (.int 1)))) (mVar 4)) aNil)))))
  mNext) mNext)
  (mSeq (mIfS (mTst (mBin (fIn false) (mVar 2) (mTup (aCons (mC (.p (.str "want"))) (aCons (mC (.p (.str "claim"))) (aCons (mC (.p (.str "test"))) aNil)))))) (mSeq (mAsg (mBin fIx (mVar 3) (mC (.p (.int 0)))) (bTup 2 (bsCons (bName 5) (bsCons (bName 6) bsNil))))
  (mSeq (mRet (mBin (fAdd true) (mTup (aCons (mVar 2) (aCons (mTup (aCons (mVar 5) (aCons (mBin (fAdd true) (mVar 6) (mVar 4)) aNil))) aNil))) (mCall fTupleOf (aCons (mSl (fSl true) (mVar 3) (oSo (mC (.p (.int 1)))) oNo) aNil))))
  mNext)) mNext)
  (mSeq (mRet (mVar 0))
  mNext)))))
noncomputable def mf_wider_row : FN := mDef 2 7 b_wider_row
noncomputable abbrev sp_wider_row : FN := mf_wider_row
abbrev N_claim_of : List Str := ["wish", "many", "word", "plain", "factors"]
noncomputable def b_claim_of : MS :=
  (mSeq (mAsg (mVar 0) (bTup 2 (bsCons (bName 2) (bsCons (bTupS true 2 1 (bsCons (bName 3) (bsCons (bName 4) bsNil))) bsNil))))
  (mSeq (mRet (mTup (aCons (mC (.p (.str "claim"))) (aCons (mTup (aCons (mVar 2) (aCons (mBin (fAdd true) (mTup (aCons (mVar 3) aNil)) (mCall fTupleOf (aCons (mBin (fAdd true) (mSl (fSl true) (mVar 4) (oSo (mVar 1)) oNo) (mSl (fSl true) (mVar 4) oNo (oSo (mVar 1)))) aNil))) aNil))) aNil))))
  mNext))
noncomputable def mf_claim_of : FN := mDef 2 5 b_claim_of
noncomputable abbrev sp_claim_of : FN := mf_claim_of
abbrev N_first_rows : List Str := ["boxes", "more", "name", "wishes", "many", "rows", "box", "at", "wish"]
noncomputable def b_first_rows : MS :=
  (mSeq (mAsg (mCall fLen (aCons (mVar 0) aNil)) (bName 4))
  (mSeq (mAsg (mLc false (iAny (mVar 1)) (bName 6) tYesM (mTup (aCons (mC (.p (.str "read"))) (aCons (mVar 6) aNil))) [6]) (bName 5))
  (mSeq (mFor (iEnu (aCons (mVar 0) aNil)) (bTup 2 (bsCons (bName 7) (bsCons (bName 6) bsNil)))
  (mSeq (mExp (mBM "list" fAppend (mVar 5) (aCons (mTup (aCons (mC (.p (.str "set"))) (aCons (mVar 6) (aCons (mBin (fAdd true) (mBin (fAdd true) (mBin (fMul true) (mTup (aCons (mC (.p (.int 0))) aNil)) (mBin (fAdd true) (mBin (fAdd true) (mC (.p (.int 1))) (mVar 4)) (mVar 7))) (mTup (aCons (mC (.p (.int 1))) aNil))) (mBin (fMul true) (mTup (aCons (mC (.p (.int 0))) aNil)) (mBin fSub (mBin fSub (mVar 4) (mVar 7)) (mC (.p (.int 1)))))) aNil)))) aNil)))
  mNext))
  (mSeq (mRet (mBin (fAdd false) (mBin (fAdd true) (mBin (fAdd true) (mVar 5) (mLst true (aCons (mTup (aCons (mC (.p (.str "call"))) (aCons (mVar 2) aNil))) aNil))) (mLc true (iAny (mVar 3)) (bName 8) tYesM (mCall sp_claim_of (aCons (mVar 8) (aCons (mVar 4) aNil))) [8])) (mLst true (aCons (mTup (aCons (mC (.p (.str "end"))) aNil)) aNil))))
  mNext))))
noncomputable def mf_first_rows : FN := mDef 4 9 b_first_rows
noncomputable abbrev sp_first_rows : FN := mf_first_rows
abbrev N_framed : List Str := ["program", "name", "wishes", "boxes", "parts", "many", "more", "first", "part", "found", "other", "rows", "row"]
noncomputable def b_framed : MS :=
  (mSeq (mExp (mCall sp_look_at (aCons (mVar 0) aNil)))
  (mSeq (mExp (mCall sp_look_at_size (aCons (mVar 0) aNil)))
  (mSeq (mExp (mCall sp_look_at_call (aCons (mVar 0) (aCons (mVar 1) (aCons (mVar 2) aNil)))))
  (mSeq (mAsg (mVar 0) (bTup 2 (bsCons (bName 3) (bsCons (bName 4) bsNil))))
  (mSeq (mAsg (mCall fLen (aCons (mVar 3) aNil)) (bName 5))
  (mSeq (mAsg (mCall sp_letters_without (aCons (mVar 3) (aCons (mVar 5) aNil))) (bName 6))
  (mSeq (mAsg (mBin fIx (mCall sp_letters_without (aCons (mLc true (iAny (mVar 4)) (bName 8) tYesM (mBin fIx (mVar 8) (mC (.p (.int 0)))) [8]) (aCons (mC (.p (.int 1))) aNil))) (mC (.p (.int 0)))) (bName 7))
  (mSeq (mAsg (mLst false (aCons (mTup (aCons (mVar 7) (aCons (mCall sp_first_rows (aCons (mVar 3) (aCons (mVar 6) (aCons (mVar 1) (aCons (mVar 2) aNil))))) aNil))) aNil)) (bName 9))
  (mSeq (mFor (iAny (mSl (fSl true) (mVar 4) (oSo (mBin fDGet (mCall sp_part_numbers (aCons (mVar 0) aNil)) (mVar 1))) oNo)) (bTup 2 (bsCons (bName 10) (bsCons (bName 11) bsNil)))
  (mSeq (mExp (mBM "list" fAppend (mVar 9) (aCons (mTup (aCons (mVar 10) (aCons (mLc true (iAny (mVar 11)) (bName 12) tYesM (mCall sp_wider_row (aCons (mVar 12) (aCons (mVar 5) aNil))) [12]) aNil))) aNil)))
  mNext))
  (mSeq (mRet (mTup (aCons (mBin (fAdd false) (mVar 3) (mVar 6)) (aCons (mVar 9) aNil))))
  mNext))))))))))
noncomputable def mf_framed : FN := mDef 3 13 b_framed
noncomputable abbrev sp_framed : FN := mf_framed
abbrev N__law_pool : List Str := ["_law_script", "_law_k", "_law_cell", "_law_number", "_law_seed"]
noncomputable def b__law_pool : MS :=
  (mSeq (mAsg (mC (.p (.int 0))) (bName 2))
  (mSeq (mIfS (mTst (mBin fLt (mVar 1) (mCall fLen (aCons (mVar 0) aNil)))) (mSeq (mAsg (mBin fIx (mVar 0) (mVar 1)) (bName 2))
  mNext) mNext)
  (mSeq (mAsg (mCall (fMx true) (aCons (mVar 2) (aCons (mBin fSub (mUn fNeg (mC (.p (.int 1)))) (mVar 2)) aNil))) (bName 3))
  (mSeq (mAsg (mBin fMod (mBin (fAdd true) (mBin (fAdd true) (mBin (fMul true) (mBin fMod (mVar 3) (mC (.p (.int 2147483629)))) (mC (.p (.int 16807)))) (mBin (fMul true) (mC (.p (.int 104729))) (mVar 1))) (mC (.p (.int 11)))) (mC (.p (.int 2147483647)))) (bName 4))
  (mSeq (mIfS (mTst (mBin fLt (mVar 3) (mBin fPow (mC (.p (.int 10))) (mC (.p (.int 18)))))) (mSeq (mAsg (mC (.p (.int 0))) (bName 3))
  mNext) mNext)
  (mSeq (mRet (mLst false (aCons (mVar 3) (aCons (mVar 4) aNil))))
  mNext))))))
noncomputable def mf__law_pool : FN := mDef 2 5 b__law_pool
noncomputable abbrev sp__law_pool : FN := mf__law_pool
abbrev N__law_take : List Str := ["_law_pool_here", "_law_many", "_law_digit"]
noncomputable def b__law_take : MS :=
  (mSeq (mIfS (mTst (mBin fGt (mBin fIx (mVar 0) (mC (.p (.int 0)))) (mC (.p (.int 0))))) (mSeq (mAsg (mBin fMod (mBin fIx (mVar 0) (mC (.p (.int 0)))) (mVar 1)) (bName 2))
  (mSeq (mAsg (mBin fDiv (mBin fIx (mVar 0) (mC (.p (.int 0)))) (mVar 1)) (bSub (mVar 0) (mC (.p (.int 0)))))
  (mSeq (mRet (mVar 2))
  mNext))) mNext)
  (mSeq (mAsg (mBin fMod (mBin (fAdd true) (mBin (fMul true) (mBin fIx (mVar 0) (mC (.p (.int 1)))) (mC (.p (.int 48271)))) (mC (.p (.int 11)))) (mC (.p (.int 2147483647)))) (bSub (mVar 0) (mC (.p (.int 1)))))
  (mSeq (mRet (mBin fMod (mBin fDiv (mBin fMod (mBin (fMul true) (mBin fIx (mVar 0) (mC (.p (.int 1)))) (mBin fIx (mVar 0) (mC (.p (.int 1))))) (mC (.p (.int 2147483629)))) (mC (.p (.int 64)))) (mVar 1)))
  mNext)))
noncomputable def mf__law_take : FN := mDef 2 3 b__law_take
noncomputable abbrev sp__law_take : FN := mf__law_take
abbrev N__law_line : List Str := ["_law_pool_here", "_law_many", "_law_line_here", "_law_box"]
noncomputable def b__law_line : MS :=
  (mSeq (mAsg (mLst false (aCons (mBin fIx (mLst true (aCons (mC (.p (.int 0))) (aCons (mC (.p (.int 1))) (aCons (mUn fNeg (mC (.p (.int 1)))) (aCons (mC (.p (.int 2))) (aCons (mUn fNeg (mC (.p (.int 3)))) (aCons (mC (.p (.int 5))) (aCons (mC (.p (.int 10))) (aCons (mUn fNeg (mC (.p (.int 7)))) aNil))))))))) (mCall sp__law_take (aCons (mVar 0) (aCons (mC (.p (.int 8))) aNil)))) aNil)) (bName 2))
  (mSeq (mFor (iRange1 (aCons (mVar 1) aNil)) (bName 3)
  (mSeq (mExp (mBM "list" fAppend (mVar 2) (aCons (mBin fIx (mLst true (aCons (mC (.p (.int 0))) (aCons (mC (.p (.int 0))) (aCons (mC (.p (.int 1))) (aCons (mC (.p (.int 1))) (aCons (mUn fNeg (mC (.p (.int 1)))) (aCons (mUn fNeg (mC (.p (.int 1)))) (aCons (mC (.p (.int 2))) (aCons (mUn fNeg (mC (.p (.int 3)))) aNil))))))))) (mCall sp__law_take (aCons (mVar 0) (aCons (mC (.p (.int 8))) aNil)))) aNil)))
  mNext))
  (mSeq (mRet (mCall fTupleOf (aCons (mFz (mVar 2)) aNil)))
  mNext)))
noncomputable def mf__law_line : FN := mDef 2 4 b__law_line
noncomputable abbrev sp__law_line : FN := mf__law_line
abbrev N__law_wish : List Str := ["_law_pool_here", "_law_many"]
noncomputable def b__law_wish : MS :=
  (mSeq (mRet (mTup (aCons (mBin fIx (mLst true (aCons (mC (.p (.str "least"))) (aCons (mC (.p (.str "least"))) (aCons (mC (.p (.str "above"))) aNil)))) (mCall sp__law_take (aCons (mVar 0) (aCons (mC (.p (.int 3))) aNil)))) (aCons (mCall sp__law_line (aCons (mVar 0) (aCons (mVar 1) aNil))) aNil))))
  mNext)
noncomputable def mf__law_wish : FN := mDef 2 2 b__law_wish
noncomputable abbrev sp__law_wish : FN := mf__law_wish
abbrev N__law_row : List Str := ["_law_pool_here", "_law_boxes", "_law_behind", "_law_many", "_law_size", "_law_word", "_law_box", "_law_k"]
noncomputable def b__law_row : MS :=
  (mSeq (mAsg (mCall fLen (aCons (mVar 1) aNil)) (bName 4))
  (mSeq (mAsg (mBin fIx (mLst true (aCons (mC (.p (.str "set"))) (aCons (mC (.p (.str "set"))) (aCons (mC (.p (.str "read"))) (aCons (mC (.p (.str "want"))) (aCons (mC (.p (.str "claim"))) (aCons (mC (.p (.str "claim"))) (aCons (mC (.p (.str "test"))) (aCons (mC (.p (.str "either"))) (aCons (mC (.p (.str "jump"))) (aCons (mC (.p (.str "call"))) aNil))))))))))) (mCall sp__law_take (aCons (mVar 0) (aCons (mC (.p (.int 10))) aNil)))) (bName 5))
  (mSeq (mAsg (mBin fIx (mVar 1) (mCall sp__law_take (aCons (mVar 0) (aCons (mVar 4) aNil)))) (bName 6))
  (mSeq (mIfS (mTst (mBin (fEq false 8) (mVar 5) (mC (.p (.str "set"))))) (mSeq (mRet (mTup (aCons (mVar 5) (aCons (mVar 6) (aCons (mCall sp__law_line (aCons (mVar 0) (aCons (mVar 4) aNil))) aNil)))))
  mNext) mNext)
  (mSeq (mIfS (mOr (mTst (mBin (fEq false 8) (mVar 5) (mC (.p (.str "want"))))) (mTst (mBin (fEq false 8) (mVar 5) (mC (.p (.str "claim")))))) (mSeq (mRet (mTup (aCons (mVar 5) (aCons (mCall sp__law_wish (aCons (mVar 0) (aCons (mVar 4) aNil))) aNil))))
  mNext) mNext)
  (mSeq (mIfS (mTst (mBin (fEq false 8) (mVar 5) (mC (.p (.str "test"))))) (mSeq (mRet (mTup (aCons (mVar 5) (aCons (mCall sp__law_wish (aCons (mVar 0) (aCons (mVar 4) aNil))) (aCons (mCall sp__law_take (aCons (mVar 0) (aCons (mVar 3) aNil))) aNil)))))
  mNext) mNext)
  (mSeq (mIfS (mTst (mBin (fEq false 8) (mVar 5) (mC (.p (.str "either"))))) (mSeq (mRet (mTup (aCons (mVar 5) (aCons (mCall fTupleOf (aCons (mLc true (iRange1 (aCons (mBin (fAdd true) (mC (.p (.int 2))) (mCall sp__law_take (aCons (mVar 0) (aCons (mC (.p (.int 3))) aNil)))) aNil)) (bName 7) tYesM (mCall sp__law_take (aCons (mVar 0) (aCons (mVar 3) aNil))) [7]) aNil)) aNil))))
  mNext) mNext)
  (mSeq (mIfS (mAnd (mTst (mBin (fEq false 8) (mVar 5) (mC (.p (.str "jump"))))) (mTst (mBin fGt (mVar 3) (mC (.p (.int 1)))))) (mSeq (mRet (mTup (aCons (mVar 5) (aCons (mCall sp__law_take (aCons (mVar 0) (aCons (mVar 3) aNil))) aNil))))
  mNext) mNext)
  (mSeq (mIfS (mAnd (mTst (mBin (fEq false 8) (mVar 5) (mC (.p (.str "call"))))) (mTst (mBin (fEq true 8) (mVar 2) (mLst true aNil)))) (mSeq (mRet (mTup (aCons (mVar 5) (aCons (mBin fIx (mVar 2) (mCall sp__law_take (aCons (mVar 0) (aCons (mCall fLen (aCons (mVar 2) aNil)) aNil)))) aNil))))
  mNext) mNext)
  (mSeq (mRet (mTup (aCons (mC (.p (.str "read"))) (aCons (mVar 6) aNil))))
  mNext))))))))))
noncomputable def mf__law_row : FN := mDef 4 8 b__law_row
noncomputable abbrev sp__law_row : FN := mf__law_row
abbrev N__law_program : List Str := ["_law_pool_here", "_law_size", "_law_most", "_law_parts", "_law_boxes", "_law_names", "_law_found", "_law_number", "_law_name", "_law_many", "_law_rows", "_law_k", "_law_last"]
noncomputable def b__law_program : MS :=
  (mSeq (mAsg (mSl (fSl true) (mLst true (aCons (mC (.p (.str "x"))) (aCons (mC (.p (.str "y"))) (aCons (mC (.p (.str "z"))) (aCons (mC (.p (.str "total"))) (aCons (mC (.p (.str "k"))) (aCons (mC (.p (.str "m"))) (aCons (mC (.p (.str "n"))) (aCons (mC (.p (.str "w"))) aNil))))))))) oNo (oSo (mBin (fAdd true) (mC (.p (.int 1))) (mCall sp__law_take (aCons (mVar 0) (aCons (mVar 1) aNil)))))) (bName 4))
  (mSeq (mAsg (mSl (fSl true) (mLst true (aCons (mC (.p (.str "main"))) (aCons (mC (.p (.str "step"))) (aCons (mC (.p (.str "x"))) (aCons (mC (.p (.str "a"))) (aCons (mC (.p (.str "bc"))) (aCons (mC (.p (.str "last"))) aNil))))))) oNo (oSo (mBin (fAdd true) (mC (.p (.int 1))) (mCall sp__law_take (aCons (mVar 0) (aCons (mVar 3) aNil)))))) (bName 5))
  (mSeq (mAsg (mLst false aNil) (bName 6))
  (mSeq (mFor (iEnu (aCons (mVar 5) aNil)) (bTup 2 (bsCons (bName 7) (bsCons (bName 8) bsNil)))
  (mSeq (mAsg (mBin (fAdd true) (mC (.p (.int 1))) (mCall sp__law_take (aCons (mVar 0) (aCons (mVar 2) aNil)))) (bName 9))
  (mSeq (mAsg (mLc true (iRange1 (aCons (mBin fSub (mVar 9) (mC (.p (.int 1)))) aNil)) (bName 11) tYesM (mCall sp__law_row (aCons (mVar 0) (aCons (mVar 4) (aCons (mSl (fSl true) (mVar 5) (oSo (mBin (fAdd true) (mVar 7) (mC (.p (.int 1))))) oNo) (aCons (mVar 9) aNil))))) [11]) (bName 10))
  (mSeq (mAsg (mLst true (aCons (mTup (aCons (mC (.p (.str "end"))) aNil)) (aCons (mTup (aCons (mC (.p (.str "end"))) aNil)) (aCons (mTup (aCons (mC (.p (.str "jump"))) (aCons (mCall sp__law_take (aCons (mVar 0) (aCons (mVar 9) aNil))) aNil))) (aCons (mTup (aCons (mC (.p (.str "either"))) (aCons (mTup (aCons (mCall sp__law_take (aCons (mVar 0) (aCons (mVar 9) aNil))) (aCons (mC (.p (.int 0))) aNil))) aNil))) aNil))))) (bName 12))
  (mSeq (mExp (mBM "list" fAppend (mVar 6) (aCons (mTup (aCons (mVar 8) (aCons (mBin (fAdd true) (mVar 10) (mLst true (aCons (mBin fIx (mVar 12) (mCall sp__law_take (aCons (mVar 0) (aCons (mC (.p (.int 4))) aNil)))) aNil))) aNil))) aNil)))
  mNext)))))
  (mSeq (mRet (mTup (aCons (mVar 4) (aCons (mFz (mVar 6)) aNil))))
  mNext)))))
noncomputable def mf__law_program : FN := mDef 4 13 b__law_program
noncomputable abbrev sp__law_program : FN := mf__law_program
abbrev N__law_wider : List Str := ["_law_row_here", "_law_many"]
noncomputable def b__law_wider : MS :=
  (mSeq (mIfS (mTst (mBin (fEq false 8) (mBin fIx (mVar 0) (mC (.p (.int 0)))) (mC (.p (.str "set"))))) (mSeq (mRet (mTup (aCons (mBin fIx (mVar 0) (mC (.p (.int 0)))) (aCons (mBin fIx (mVar 0) (mC (.p (.int 1)))) (aCons (mBin (fAdd true) (mBin fIx (mVar 0) (mC (.p (.int 2)))) (mBin (fMul true) (mTup (aCons (mC (.p (.int 0))) aNil)) (mVar 1))) aNil)))))
  mNext) mNext)
  (mSeq (mIfS (mTst (mBin (fIn false) (mBin fIx (mVar 0) (mC (.p (.int 0)))) (mLst true (aCons (mC (.p (.str "want"))) (aCons (mC (.p (.str "claim"))) (aCons (mC (.p (.str "test"))) aNil)))))) (mSeq (mRet (mBin (fAdd true) (mTup (aCons (mBin fIx (mVar 0) (mC (.p (.int 0)))) (aCons (mTup (aCons (mBin fIx (mBin fIx (mVar 0) (mC (.p (.int 1)))) (mC (.p (.int 0)))) (aCons (mBin (fAdd true) (mBin fIx (mBin fIx (mVar 0) (mC (.p (.int 1)))) (mC (.p (.int 1)))) (mBin (fMul true) (mTup (aCons (mC (.p (.int 0))) aNil)) (mVar 1))) aNil))) aNil))) (mSl (fSl true) (mVar 0) (oSo (mC (.p (.int 2)))) oNo)))
  mNext) mNext)
  (mSeq (mRet (mVar 0))
  mNext)))
noncomputable def mf__law_wider : FN := mDef 2 2 b__law_wider
noncomputable abbrev sp__law_wider : FN := mf__law_wider
abbrev N__law_free : List Str := ["_law_taken", "_law_many", "_law_letters", "_law_letter"]
noncomputable def b__law_free : MS :=
  (mSeq (mAsg (mLc true (iAny (mC (.p (.str "abcdefghijklmnopqrstuvwxyz")))) (bName 3) (mTst (mBin (fIn true) (mVar 3) (mVar 0))) (mVar 3) [3]) (bName 2))
  (mSeq (mRet (mSl (fSl true) (mVar 2) oNo (oSo (mVar 1))))
  mNext))
noncomputable def mf__law_free : FN := mDef 2 4 b__law_free
noncomputable abbrev sp__law_free : FN := mf__law_free
abbrev N__law_made : List Str := ["_law_program_here", "_law_name", "_law_wishes", "_law_boxes", "_law_parts", "_law_many", "_law_more", "_law_rows", "_law_box", "_law_at", "_law_line_here", "_law_word", "_law_names", "_law_one", "_law_some", "_law_found", "_law_row_here"]
noncomputable def b__law_made : MS :=
  (mSeq (mAsg (mVar 0) (bTup 2 (bsCons (bName 3) (bsCons (bName 4) bsNil))))
  (mSeq (mAsg (mCall fLen (aCons (mVar 3) aNil)) (bName 5))
  (mSeq (mAsg (mCall sp__law_free (aCons (mVar 3) (aCons (mVar 5) aNil))) (bName 6))
  (mSeq (mAsg (mLc false (iAny (mVar 6)) (bName 8) tYesM (mTup (aCons (mC (.p (.str "read"))) (aCons (mVar 8) aNil))) [8]) (bName 7))
  (mSeq (mFor (iRange1 (aCons (mVar 5) aNil)) (bName 9)
  (mSeq (mAsg (mBin (fMul false) (mLst true (aCons (mC (.p (.int 0))) aNil)) (mBin (fAdd true) (mBin (fMul true) (mC (.p (.int 2))) (mVar 5)) (mC (.p (.int 1))))) (bName 10))
  (mSeq (mAsg (mC (.p (.int 1))) (bSub (mVar 10) (mBin (fAdd true) (mBin (fAdd true) (mC (.p (.int 1))) (mVar 5)) (mVar 9))))
  (mSeq (mExp (mBM "list" fAppend (mVar 7) (aCons (mTup (aCons (mC (.p (.str "set"))) (aCons (mBin fIx (mVar 3) (mVar 9)) (aCons (mCall fTupleOf (aCons (mVar 10) aNil)) aNil)))) aNil)))
  mNext))))
  (mSeq (mExp (mBM "list" fAppend (mVar 7) (aCons (mTup (aCons (mC (.p (.str "call"))) (aCons (mVar 1) aNil))) aNil)))
  (mSeq (mFor (iAny (mVar 2)) (bTup 2 (bsCons (bName 11) (bsCons (bName 10) bsNil)))
  (mSeq (mExp (mBM "list" fAppend (mVar 7) (aCons (mTup (aCons (mC (.p (.str "claim"))) (aCons (mTup (aCons (mVar 11) (aCons (mBin (fAdd true) (mBin (fAdd true) (mSl (fSl true) (mVar 10) oNo (oSo (mC (.p (.int 1))))) (mSl (fSl true) (mVar 10) (oSo (mBin (fAdd true) (mC (.p (.int 1))) (mVar 5))) oNo)) (mSl (fSl true) (mVar 10) (oSo (mC (.p (.int 1)))) (oSo (mBin (fAdd true) (mC (.p (.int 1))) (mVar 5))))) aNil))) aNil))) aNil)))
  mNext))
  (mSeq (mAsg (mLc true (iAny (mVar 4)) (bTup 2 (bsCons (bName 13) (bsCons (bName 14) bsNil))) tYesM (mVar 13) [13, 14]) (bName 12))
  (mSeq (mAsg (mLst false (aCons (mTup (aCons (mBin fIx (mCall sp__law_free (aCons (mVar 12) (aCons (mC (.p (.int 1))) aNil))) (mC (.p (.int 0)))) (aCons (mBin (fAdd true) (mVar 7) (mLst true (aCons (mTup (aCons (mC (.p (.str "end"))) aNil)) aNil))) aNil))) aNil)) (bName 15))
  (mSeq (mFor (iAny (mSl (fSl true) (mVar 4) (oSo (mBM "list" fIndex (mVar 12) (aCons (mVar 1) aNil))) oNo)) (bTup 2 (bsCons (bName 13) (bsCons (bName 14) bsNil)))
  (mSeq (mExp (mBM "list" fAppend (mVar 15) (aCons (mTup (aCons (mVar 13) (aCons (mLc true (iAny (mVar 14)) (bName 16) tYesM (mCall sp__law_wider (aCons (mVar 16) (aCons (mVar 5) aNil))) [16]) aNil))) aNil)))
  mNext))
  (mSeq (mRet (mTup (aCons (mBin (fAdd true) (mCall (fListOf true) (aCons (mVar 3) aNil)) (mVar 6)) (aCons (mFz (mVar 15)) aNil))))
  mNext)))))))))))
noncomputable def mf__law_made : FN := mDef 3 17 b__law_made
noncomputable abbrev sp__law_made : FN := mf__law_made
abbrev N__law_is_wish : List Str := ["_law_size", "_law_thing", "_law_part"]
noncomputable def b__law_is_wish : MS :=
  (mSeq (mIfS (mOr (mNot (mTst (mCall fIsi (aCons (mVar 1) (aCons (mC (.ty "tuple")) aNil))))) (mOr (mTst (mBin (fEq true 8) (mCall fLen (aCons (mVar 1) aNil)) (mC (.p (.int 2))))) (mTst (mBin (fIn true) (mBin fIx (mVar 1) (mC (.p (.int 0)))) (mLst true (aCons (mC (.p (.str "least"))) (aCons (mC (.p (.str "above"))) aNil))))))) (mSeq (mRet (mC (.p (.bool false))))
  mNext) mNext)
  (mSeq (mIfS (mOr (mNot (mTst (mCall fIsi (aCons (mBin fIx (mVar 1) (mC (.p (.int 1)))) (aCons (mC (.ty "tuple")) aNil))))) (mTst (mBin (fEq true 8) (mCall fLen (aCons (mBin fIx (mVar 1) (mC (.p (.int 1)))) aNil)) (mBin (fAdd true) (mVar 0) (mC (.p (.int 1))))))) (mSeq (mRet (mC (.p (.bool false))))
  mNext) mNext)
  (mSeq (mRet (mBin (fEq false 8) (mLc true (iAny (mBin fIx (mVar 1) (mC (.p (.int 1))))) (bName 2) (mOr (mNot (mTst (mCall fIsi (aCons (mVar 2) (aCons (mC (.ty "int")) aNil))))) (mTst (mCall fIsi (aCons (mVar 2) (aCons (mC (.ty "bool")) aNil))))) (mVar 2) [2]) (mLst true aNil)))
  mNext)))
noncomputable def mf__law_is_wish : FN := mDef 2 3 b__law_is_wish
noncomputable abbrev sp__law_is_wish : FN := mf__law_is_wish
abbrev N__law_due : List Str := ["_law_program_here", "_law_name", "_law_wishes", "_law_boxes", "_law_parts", "_law_one", "_law_some"]
noncomputable def b__law_due : MS :=
  (mSeq (mAsg (mVar 0) (bTup 2 (bsCons (bName 3) (bsCons (bName 4) bsNil))))
  (mSeq (mIfS (mTst (mBin fGt (mCall fLen (aCons (mVar 3) aNil)) (mC (.p (.int 4))))) (mSeq (mRet (mLst true (aCons (mC (.p (.str "many"))) (aCons (mCall fLen (aCons (mVar 3) aNil)) aNil))))
  mNext) mNext)
  (mSeq (mIfS (mTst (mBin fGt (mCall fLen (aCons (mVar 4) aNil)) (mC (.p (.int 5))))) (mSeq (mRet (mLst true (aCons (mC (.p (.str "many"))) (aCons (mCall fLen (aCons (mVar 4) aNil)) aNil))))
  mNext) mNext)
  (mSeq (mIfS (mOr (mNot (mTst (mCall fIsi (aCons (mVar 1) (aCons (mC (.ty "str")) aNil))))) (mTst (mBin (fIn true) (mVar 1) (mLc true (iAny (mSl (fSl true) (mVar 4) (oSo (mC (.p (.int 1)))) oNo)) (bTup 2 (bsCons (bName 5) (bsCons (bName 6) bsNil))) tYesM (mVar 5) [5, 6])))) (mSeq (mRet (mLst true (aCons (mC (.p (.str "part"))) (aCons (mVar 1) aNil))))
  mNext) mNext)
  (mSeq (mIfS (mOr (mNot (mTst (mCall fIsi (aCons (mVar 2) (aCons (mC (.ty "list")) aNil))))) (mTst (mBin fGt (mCall fLen (aCons (mVar 2) aNil)) (mC (.p (.int 12)))))) (mSeq (mRet (mLst true (aCons (mC (.p (.str "wishes"))) aNil)))
  mNext) mNext)
  (mSeq (mIfS (mTst (mBin (fEq true 8) (mLc true (iAny (mVar 2)) (bName 5) (mNot (mTst (mCall sp__law_is_wish (aCons (mBin (fMul true) (mC (.p (.int 2))) (mCall fLen (aCons (mVar 3) aNil))) (aCons (mVar 5) aNil))))) (mVar 5) [5]) (mLst true aNil))) (mSeq (mRet (mLst true (aCons (mC (.p (.str "wishes"))) aNil)))
  mNext) mNext)
  (mSeq (mRet (mLst true (aCons (mC (.p (.str "told"))) (aCons (mCall sp__law_made (aCons (mVar 0) (aCons (mVar 1) (aCons (mVar 2) aNil)))) aNil))))
  mNext)))))))
noncomputable def mf__law_due : FN := mDef 3 7 b__law_due
noncomputable abbrev sp__law_due : FN := mf__law_due
abbrev N__law_told : List Str := ["_law_program_here", "_law_name", "_law_wishes", "e"]
noncomputable def b__law_told : MS :=
  (mSeq (mTry (mSeq (mRet (mLst false (aCons (mC (.p (.str "told"))) (aCons (mCall sp_framed (aCons (mVar 0) (aCons (mVar 1) (aCons (mVar 2) aNil)))) aNil))))
  mNext) [⟨tst_TooMany, (some 3), fun c fs => (mSeq (mRet (mLst false (aCons (mC (.p (.str "many"))) (aCons (mXfc 5 c fs "many") aNil))))
  mNext)⟩, ⟨tst_NoPart, (some 3), fun c fs => (mSeq (mRet (mLst false (aCons (mC (.p (.str "part"))) (aCons (mXfc 5 c fs "name") aNil))))
  mNext)⟩, ⟨tst_TreeError, (some 3), fun c fs => (mSeq (mRet (mIf (mTst (mIsE tst_NoWishes c)) (mLst false (aCons (mC (.p (.str "wishes"))) aNil)) (mLst false (aCons (mC (.p (.str "odd"))) aNil))))
  mNext)⟩])
  mNext)
noncomputable def mf__law_told : FN := mDef 3 4 b__law_told
noncomputable abbrev sp__law_told : FN := mf__law_told
abbrev N__law_right : List Str := ["_law_program_here", "_law_name", "_law_wishes", "_law_kept", "_law_due_here", "_law_found"]
noncomputable def b__law_right : MS :=
  (mSeq (mAsg (mCall fRepr (aCons (mLst true (aCons (mVar 0) (aCons (mVar 1) (aCons (mVar 2) aNil)))) aNil)) (bName 3))
  (mSeq (mAsg (mCall sp__law_due (aCons (mVar 0) (aCons (mVar 1) (aCons (mVar 2) aNil)))) (bName 4))
  (mSeq (mAsg (mCall sp__law_told (aCons (mVar 0) (aCons (mVar 1) (aCons (mVar 2) aNil)))) (bName 5))
  (mSeq (mIfS (mOr (mTst (mBin (fEq true 8) (mCall fRepr (aCons (mVar 5) aNil)) (mCall fRepr (aCons (mVar 4) aNil)))) (mTst (mBin (fEq true 8) (mCall fRepr (aCons (mLst true (aCons (mVar 0) (aCons (mVar 1) (aCons (mVar 2) aNil)))) aNil)) (mVar 3)))) (mSeq (mRet (mC (.p (.bool false))))
  mNext) mNext)
  (mSeq (mIfS (mTst (mBin (fEq true 8) (mBin fIx (mVar 4) (mC (.p (.int 0)))) (mC (.p (.str "told"))))) (mSeq (mRet (mC (.p (.bool true))))
  mNext) mNext)
  (mSeq (mIfS (mTst (mBin (fIsN true) (mCall sp_look_at (aCons (mBin fIx (mVar 5) (mC (.p (.int 1)))) aNil)) (mC (.p .none)))) (mSeq (mRet (mC (.p (.bool false))))
  mNext) mNext)
  (mSeq (mExp (mBM0 "list" fClear (mBin fIx (mBin fIx (mVar 5) (mC (.p (.int 1)))) (mC (.p (.int 0))))))
  (mSeq (mExp (mBM "list" fAppend (mBin fIx (mBin fIx (mBin fIx (mBin fIx (mVar 5) (mC (.p (.int 1)))) (mC (.p (.int 1)))) (mC (.p (.int 0)))) (mC (.p (.int 1)))) (aCons (mC (.p .none)) aNil)))
  (mSeq (mRet (mAndV (mBin (fEq false 8) (mCall fRepr (aCons (mCall sp__law_told (aCons (mVar 0) (aCons (mVar 1) (aCons (mVar 2) aNil)))) aNil)) (mCall fRepr (aCons (mVar 4) aNil))) (mBin (fEq false 8) (mCall fRepr (aCons (mLst true (aCons (mVar 0) (aCons (mVar 1) (aCons (mVar 2) aNil)))) aNil)) (mVar 3))))
  mNext)))))))))
noncomputable def mf__law_right : FN := mDef 3 6 b__law_right
noncomputable abbrev sp__law_right : FN := mf__law_right
abbrev N__law_renamed : List Str := ["_law_program_here", "_law_names", "_law_found", "_law_name", "_law_rows", "_law_some", "_law_row_here", "_law_box"]
noncomputable def b__law_renamed : MS :=
  (mSeq (mAsg (mDisp [((mC (.p (.str "x"))), (mC (.p (.str "a")))), ((mC (.p (.str "y"))), (mC (.p (.str "c")))), ((mC (.p (.str "z"))), (mC (.p (.str "b")))), ((mC (.p (.str "total"))), (mC (.p (.str "x")))), ((mC (.p (.str "k"))), (mC (.p (.str "d"))))]) (bName 1))
  (mSeq (mAsg (mLst false aNil) (bName 2))
  (mSeq (mFor (iAny (mBin fIx (mVar 0) (mC (.p (.int 1))))) (bTup 2 (bsCons (bName 3) (bsCons (bName 4) bsNil)))
  (mSeq (mAsg (mLst false aNil) (bName 5))
  (mSeq (mFor (iAny (mVar 4)) (bName 6)
  (mSeq (mIfS (mTst (mBin (fIn false) (mBin fIx (mVar 6) (mC (.p (.int 0)))) (mLst true (aCons (mC (.p (.str "set"))) (aCons (mC (.p (.str "read"))) aNil))))) (mSeq (mAsg (mBin (fAdd true) (mTup (aCons (mBin fIx (mVar 6) (mC (.p (.int 0)))) (aCons (mBin fDGet (mVar 1) (mBin fIx (mVar 6) (mC (.p (.int 1))))) aNil))) (mSl (fSl true) (mVar 6) (oSo (mC (.p (.int 2)))) oNo)) (bName 6))
  mNext) mNext)
  (mSeq (mExp (mBM "list" fAppend (mVar 5) (aCons (mVar 6) aNil)))
  mNext)))
  (mSeq (mExp (mBM "list" fAppend (mVar 2) (aCons (mTup (aCons (mVar 3) (aCons (mFz (mVar 5)) aNil))) aNil)))
  mNext))))
  (mSeq (mRet (mTup (aCons (mLc true (iAny (mBin fIx (mVar 0) (mC (.p (.int 0))))) (bName 7) tYesM (mBin fDGet (mVar 1) (mVar 7)) [7]) (aCons (mFz (mVar 2)) aNil))))
  mNext))))
noncomputable def mf__law_renamed : FN := mDef 1 8 b__law_renamed
noncomputable abbrev sp__law_renamed : FN := mf__law_renamed
abbrev N__law_no_program : List Str := ["_law_thing"]
noncomputable def b__law_no_program : MS :=
  (mSeq (mTry (mSeq (mExp (mCall sp_framed (aCons (mVar 0) (aCons (mC (.p .none)) (aCons (mC (.p .none)) aNil)))))
  mNext) [⟨tst_NoProgram, none, fun c fs => (mSeq (mRet (mC (.p (.bool true))))
  mNext)⟩])
  (mSeq (mRet (mC (.p (.bool false))))
  mNext))
noncomputable def mf__law_no_program : FN := mDef 1 1 b__law_no_program
noncomputable abbrev sp__law_no_program : FN := mf__law_no_program
abbrev N_law : List Str := ["_law_script", "_law_k", "_law_pool_here", "_law_program_here", "_law_size", "_law_wishes", "_law_turn", "_law_flat", "_law_odd", "_law_names", "_law_name", "_law_rows", "_law_menu", "_law_one", "_law_some"]
noncomputable def b_law : MS :=
  (mSeq (mIfS (mOr (mNot (mTst (mCall sp__law_no_program (aCons (mC (.p .none)) aNil)))) (mNot (mTst (mCall sp__law_no_program (aCons (mTup (aCons (mLst true aNil) (aCons (mLst true aNil) aNil))) aNil))))) (mSeq (mRet (mC (.p (.bool false))))
  mNext) mNext)
  (mSeq (mFor (iRange1 (aCons (mCall (fMx true) (aCons (mC (.p (.int 1))) (aCons (mCall (fMx false) (aCons (mCall fLen (aCons (mVar 0) aNil)) (aCons (mC (.p (.int 10))) aNil))) aNil))) aNil)) (bName 1)
  (mSeq (mAsg (mCall sp__law_pool (aCons (mVar 0) (aCons (mVar 1) aNil))) (bName 2))
  (mSeq (mAsg (mCall sp__law_program (aCons (mVar 2) (aCons (mC (.p (.int 5))) (aCons (mC (.p (.int 6))) (aCons (mC (.p (.int 6))) aNil))))) (bName 3))
  (mSeq (mIfS (mTst (mBin (fEq false 8) (mCall sp__law_take (aCons (mVar 2) (aCons (mC (.p (.int 2))) aNil))) (mC (.p (.int 0))))) (mSeq (mAsg (mCall sp__law_renamed (aCons (mVar 3) aNil)) (bName 3))
  mNext) mNext)
  (mSeq (mAsg (mBin (fMul true) (mC (.p (.int 2))) (mCall fLen (aCons (mBin fIx (mVar 3) (mC (.p (.int 0)))) aNil))) (bName 4))
  (mSeq (mAsg (mLc true (iRange1 (aCons (mCall sp__law_take (aCons (mVar 2) (aCons (mC (.p (.int 5))) aNil))) aNil)) (bName 6) tYesM (mCall sp__law_wish (aCons (mVar 2) (aCons (mVar 4) aNil))) [6]) (bName 5))
  (mSeq (mAsg (mTup (aCons (mC (.p (.str "above"))) (aCons (mBin (fAdd true) (mTup (aCons (mC (.p (.int 1))) aNil)) (mBin (fMul true) (mTup (aCons (mC (.p (.int 0))) aNil)) (mVar 4))) aNil))) (bName 7))
  (mSeq (mAsg (mLst true (aCons (mC (.p .none)) (aCons (mTup aNil) (aCons (mBin (fAdd true) (mVar 5) (mLst true (aCons (mC (.p .none)) aNil))) (aCons (mBin (fAdd true) (mVar 5) (mLst true (aCons (mTup (aCons (mC (.p (.str "least"))) (aCons (mBin (fMul true) (mTup (aCons (mC (.p (.int 0))) aNil)) (mVar 4)) aNil))) aNil))) (aCons (mLst true (aCons (mTup (aCons (mC (.p (.str "least"))) (aCons (mBin (fMul true) (mLst true (aCons (mC (.p (.int 0))) aNil)) (mBin (fAdd true) (mVar 4) (mC (.p (.int 1))))) aNil))) aNil)) aNil)))))) (bName 8))
  (mSeq (mAsg (mBin (fAdd true) (mVar 8) (mLst true (aCons (mBin (fMul true) (mLst true (aCons (mVar 7) aNil)) (mC (.p (.int 12)))) (aCons (mBin (fMul true) (mLst true (aCons (mVar 7) aNil)) (mC (.p (.int 13)))) (aCons (mCall fTupleOf (aCons (mVar 5) aNil)) (aCons (mC (.p (.str "none"))) aNil)))))) (bName 8))
  (mSeq (mAsg (mLc true (iAny (mBin fIx (mVar 3) (mC (.p (.int 1))))) (bTup 2 (bsCons (bName 10) (bsCons (bName 11) bsNil))) tYesM (mVar 10) [10, 11]) (bName 9))
  (mSeq (mAsg (mLst true (aCons (mBin fIx (mVar 9) (mUn fNeg (mC (.p (.int 1))))) (aCons (mBin fIx (mVar 9) (mCall sp__law_take (aCons (mVar 2) (aCons (mCall fLen (aCons (mVar 9) aNil)) aNil)))) (aCons (mC (.p (.str "nobody"))) (aCons (mC (.p .none)) (aCons (mBin fIx (mVar 9) (mC (.p (.int 0)))) (aCons (mLst true (aCons (mBin fIx (mVar 9) (mUn fNeg (mC (.p (.int 1))))) aNil)) aNil))))))) (bName 12))
  (mSeq (mAsg (mBin fIx (mVar 12) (mCall sp__law_take (aCons (mVar 2) (aCons (mC (.p (.int 6))) aNil)))) (bName 10))
  (mSeq (mFor (iAny (mLst true (aCons (mTup (aCons (mBin fIx (mVar 9) (mUn fNeg (mC (.p (.int 1))))) (aCons (mVar 5) aNil))) (aCons (mTup (aCons (mVar 10) (aCons (mVar 5) aNil))) (aCons (mTup (aCons (mVar 10) (aCons (mBin fIx (mVar 8) (mCall sp__law_take (aCons (mVar 2) (aCons (mC (.p (.int 9))) aNil)))) aNil))) aNil))))) (bTup 2 (bsCons (bName 13) (bsCons (bName 14) bsNil)))
  (mSeq (mIfS (mNot (mTst (mCall sp__law_right (aCons (mVar 3) (aCons (mVar 13) (aCons (mVar 14) aNil)))))) (mSeq (mRet (mC (.p (.bool false))))
  mNext) mNext)
  mNext))
  mNext)))))))))))))
  (mSeq (mRet (mC (.p (.bool true))))
  mNext)))
noncomputable def mf_law : FN := mDef 1 15 b_law
noncomputable abbrev sp_law : FN := mf_law
end K58


set_option Elab.async false
set_option linter.all false
set_option autoImplicit false
set_option maxRecDepth 100000
set_option maxHeartbeats 4000000
/-! k58's mathematics 1: what the program's tests tell of good things. -/
namespace K58
open PySem PySem.Spec PyProof.Rows L2 Z
def isWhole : PyData → Bool
  | .int _ => true
  | _ => false
def noD : PyData → Bool
  | .dict _ => false
  | _ => true
theorem is_whole_eq {d : PyData} {S : Store} (h : noD d = true) : sp_is_whole [.p d] S = .ok (.p (.bool (isWhole d))) S := by
  cases d <;> first | (cases h; done) | simp [sp_is_whole, mf_is_whole, b_is_whole, mDef, fIsi, tyN, isB, isWhole]
def isLine (n : Int) : PyData → Bool
  | .tuple ds => decide ((ds.length : Int) = n + 1) && ds.all isWhole
  | _ => false
theorem is_line_t {n : Int} {ds : List PyData} {S : Store} (h : ∀ d ∈ ds, noD d = true) (hl : ds.length ≤ 1000) : sp_is_line [.p (.int n), .p (.tuple ds)] S = .ok (.p (.bool (isLine n (.tuple ds)))) S := by
  have hlc : mLc true (iAny (mVar 1)) (bName 2) tYesM (mCall sp_is_whole (aCons (mVar 2) aNil)) [2] [some (.p (.int n)), some (.p (.tuple ds)), none] S = .ok (.p (.list (ds.map fun d => .bool (isWhole d)))) S :=
    mLc_map (d := .tuple ds) (items := ds) (by simp) rfl (fun d hd => ⟨_, rfl, rfl, by simp [wipeE, is_whole_eq (h d hd)]⟩) (by rw [sizeLine_eq]; omega)
  by_cases hn : (ds.length : Int) = n + 1
  · simp [sp_is_line, mf_is_line, b_is_line, mDef, fIsi, tyN, isB, isLine, hn, hlc, fAll_map]
  · simp [sp_is_line, mf_is_line, b_is_line, mDef, fIsi, tyN, isB, isLine, hn]
/-- a wish: its word, its line -/
def wishD (u : Str) (l : List Int) : PyData := .tuple [.str u, .tuple (l.map .int)]
theorem is_line_ints {n : Int} {l : List Int} {S : Store} (hn : (l.length : Int) = n + 1) (hl : l.length ≤ 1000) : sp_is_line [.p (.int n), .p (.tuple (l.map .int))] S = .ok (.p (.bool true)) S := by
  rw [is_line_t (by simp [noD]) (by simpa using hl)]
  simp [isLine, hn, isWhole]
theorem is_wish_ok {n : Int} {u : Str} {l : List Int} {S : Store} (hu : u = "least" ∨ u = "above") (hn : (l.length : Int) = n + 1) (hl : l.length ≤ 1000) : sp_is_wish [.p (.int n), .p (wishD u l)] S = .ok (.p (.bool true)) S := by
  have e : fIn false (.p (.str u)) (.p (.tuple [.str "least", .str "above"])) S = .ok (.p (.bool true)) S := by
    rcases hu with rfl | rfl <;> simp [fIn, seqv, allP, flatP, inP, PyData.eqv]
  simp [sp_is_wish, mf_is_wish, b_is_wish, mDef, fIsi, tyN, isB, wishD, e, is_line_ints hn hl]
inductive Rw where
  | set (b : Str) (l : List Int)
  | read (b : Str)
  | want (u : Str) (l : List Int)
  | claim (u : Str) (l : List Int)
  | test (u : Str) (l : List Int) (k : Int)
  | either (ks : List Int)
  | jump (k : Int)
  | call (p : Str)
  | fin
def Rw.d : Rw → PyData
  | .set b l => .tuple [.str "set", .str b, .tuple (l.map .int)]
  | .read b => .tuple [.str "read", .str b]
  | .want u l => .tuple [.str "want", wishD u l]
  | .claim u l => .tuple [.str "claim", wishD u l]
  | .test u l k => .tuple [.str "test", wishD u l, .int k]
  | .either ks => .tuple [.str "either", .tuple (ks.map .int)]
  | .jump k => .tuple [.str "jump", .int k]
  | .call p => .tuple [.str "call", .str p]
  | .fin => .tuple [.str "end"]
def wishOk (n : Nat) (u : Str) (l : List Int) : Prop := (u = "least" ∨ u = "above") ∧ l.length = n + 1
def Rw.ok (boxes behind : List Str) (many : Nat) : Rw → Prop
  | .set b l => b ∈ boxes ∧ l.length = boxes.length + 1
  | .read b => b ∈ boxes
  | .want u l => wishOk boxes.length u l
  | .claim u l => wishOk boxes.length u l
  | .test u l k => wishOk boxes.length u l ∧ 0 ≤ k ∧ k < many
  | .either ks => 2 ≤ ks.length ∧ ks.length ≤ 4 ∧ ∀ k ∈ ks, 0 ≤ k ∧ k < many
  | .jump k => 0 ≤ k ∧ k < many
  | .call p => p ∈ behind
  | .fin => True
theorem bTupS_21 {bs : Bds} {a : PyData} {r : List PyData} {env : Z.Env} {S : Store} (h : r.length ≤ 1000) : bTupS true 2 1 bs (.p (.tuple (a :: r))) env S = bs [.p a, .p (.list r)] env S := by
  have e : (mkL true (List.take (r.length + 1 + 1 - 2) (List.map RV.p r)) S) = .ok (.p (.list r)) S := by
    rw [← List.map_take, mkL_p, List.take_of_length_le (by omega), if_pos (sizeK (by omega))]
  simp only [bTupS, tupv, List.map_cons, List.length_cons, List.length_map, List.drop_succ_cons, List.drop_zero, List.take_succ_cons, List.take_zero]
  rw [if_pos (by omega), e]
  simp [List.drop_eq_nil_of_le]
theorem in_strs {a : Str} {l : List Str} {S : Store} {neg : Bool} : fIn neg (.p (.str a)) (.p (.list (l.map .str))) S = .ok (.p (.bool (if neg then !decide (a ∈ l) else decide (a ∈ l)))) S := by
  have h1 : (List.map PyData.str l).all flatP = true := by simp [flatP]
  have h2 : inP (.str a) (List.map PyData.str l) = decide (a ∈ l) := by
    unfold inP
    rw [List.any_map]
    induction l with
    | nil => rfl
    | cons b l ih =>
      rw [List.any_cons, ih (by simp [flatP])]
      by_cases hb : b = a
      · subst hb; simp [PyData.eqv]
      · have : a ≠ b := fun z => hb z.symm
        simp [PyData.eqv, hb, this]
  simp only [fIn, seqv, Option.bind_some, allP_map]
  rw [if_pos ⟨rfl, h1⟩, h2]
  rfl
theorem eqv_str {a b : Str} : PyData.eqv (.str b) (.str a) = decide (a = b) := by
  by_cases h : a = b
  · subst h; simp [PyData.eqv]
  · have : b ≠ a := fun z => h z.symm
    simp [PyData.eqv, h, this]
theorem fIn_t2 {a x y : Str} {S : Store} {neg : Bool} : fIn neg (.p (.str a)) (.p (.tuple [.str x, .str y])) S = .ok (.p (.bool (if neg then !(decide (a = x) || decide (a = y)) else (decide (a = x) || decide (a = y))))) S := by
  simp [fIn, seqv, allP, flatP, inP, eqv_str]
theorem fIn_t3 {a x y z : Str} {S : Store} {neg : Bool} : fIn neg (.p (.str a)) (.p (.tuple [.str x, .str y, .str z])) S = .ok (.p (.bool (if neg then !(decide (a = x) || (decide (a = y) || decide (a = z))) else (decide (a = x) || (decide (a = y) || decide (a = z)))))) S := by
  simp [fIn, seqv, allP, flatP, inP, eqv_str]
theorem fIn_l2 {a x y : Str} {S : Store} {neg : Bool} : fIn neg (.p (.str a)) (.p (.list [.str x, .str y])) S = .ok (.p (.bool (if neg then !(decide (a = x) || decide (a = y)) else (decide (a = x) || decide (a = y))))) S := by
  simp [fIn, seqv, allP, flatP, inP, eqv_str]
theorem fIn_l3 {a x y z : Str} {S : Store} {neg : Bool} : fIn neg (.p (.str a)) (.p (.list [.str x, .str y, .str z])) S = .ok (.p (.bool (if neg then !(decide (a = x) || (decide (a = y) || decide (a = z))) else (decide (a = x) || (decide (a = y) || decide (a = z)))))) S := by
  simp [fIn, seqv, allP, flatP, inP, eqv_str]
theorem is_box_ok {b : Str} {boxes : List Str} {S : Store} (h : b ∈ boxes) : sp_is_box [.p (.list (boxes.map .str)), .p (.str b)] S = .ok (.p (.bool true)) S := by
  simp [sp_is_box, mf_is_box, b_is_box, mDef, fIsi, tyN, isB, in_strs, h]
theorem is_row_number_ok {k : Int} {many : Nat} {S : Store} (h : 0 ≤ k ∧ k < many) : sp_is_row_number [.p (.int many), .p (.int k)] S = .ok (.p (.bool true)) S := by
  simp [sp_is_row_number, mf_is_row_number, b_is_row_number, mDef, is_whole_eq (d := .int k) rfl, isWhole, h.1, h.2]
theorem are_roads_ok {ks : List Int} {many : Nat} {S : Store} (h1 : 2 ≤ ks.length) (h2 : ks.length ≤ 4) (h : ∀ k ∈ ks, 0 ≤ k ∧ k < many) : sp_are_roads [.p (.int many), .p (.tuple (ks.map .int))] S = .ok (.p (.bool true)) S := by
  have hlc : mLc true (iAny (mVar 1)) (bName 2) tYesM (mCall sp_is_row_number (aCons (mVar 0) (aCons (mVar 2) aNil))) [2] [some (.p (.int many)), some (.p (.tuple (ks.map .int))), none] S = .ok (.p (.list (ks.map fun d => .bool true))) S := by
    have := mLc_map (f := fun _ => .bool true) (m := mVar 1) (bd := bName 2) (tt := tYesM) (te := mCall sp_is_row_number (aCons (mVar 0) (aCons (mVar 2) aNil))) (vs := [2]) (env := [some (.p (.int many)), some (.p (.tuple (ks.map .int))), none]) (S := S) (d := .tuple (ks.map .int)) (items := ks.map .int) (by simp) rfl (fun d hd => by
      obtain ⟨k, hk, rfl⟩ := List.mem_map.mp hd
      exact ⟨_, rfl, rfl, by simp [wipeE, is_row_number_ok (h k hk)]⟩) (sizeK (by simp; omega))
    rw [this, List.map_map]; rfl
  have e1 : (2 : Int) ≤ ks.length := by omega
  have e2 : (ks.length : Int) ≤ 4 := by omega
  simp [sp_are_roads, mf_are_roads, b_are_roads, mDef, fIsi, tyN, isB, e1, e2, hlc, fAll_map]
theorem is_row_ok {boxes behind : List Str} {many : Nat} {S : Store} (hb : boxes.length ≤ 100) : ∀ {r : Rw}, r.ok boxes behind many → sp_is_row [.p (.list (boxes.map .str)), .p (.list (behind.map .str)), .p (.int many), .p r.d] S = .ok (.p (.bool true)) S := by
  intro r h
  have wk : ∀ {u : Str} {l : List Int}, wishOk boxes.length u l → sp_is_wish [.p (.int boxes.length), .p (wishD u l)] S = .ok (.p (.bool true)) S := fun w => is_wish_ok w.1 (by rw [w.2]; simp) (by rw [w.2]; omega)
  cases r with
  | set b l =>
    obtain ⟨h1, h2⟩ := h
    have h3 := is_line_ints (n := boxes.length) (l := l) (S := S) (by omega) (by omega)
    simp (decide := true) [sp_is_row, mf_is_row, b_is_row, mDef, fIsi, tyN, isB, Rw.d, bTupS_21, is_box_ok h1, h3]
  | read b =>
    have h : b ∈ boxes := h
    simp (decide := true) [sp_is_row, mf_is_row, b_is_row, mDef, fIsi, tyN, isB, Rw.d, bTupS_21, is_box_ok h]
  | want u l =>
    have h := wk h
    simp (decide := true) [sp_is_row, mf_is_row, b_is_row, mDef, fIsi, tyN, isB, Rw.d, bTupS_21, h, fIn_t2, fIn_t3]
  | claim u l =>
    have h := wk h
    simp (decide := true) [sp_is_row, mf_is_row, b_is_row, mDef, fIsi, tyN, isB, Rw.d, bTupS_21, h, fIn_t2, fIn_t3]
  | test u l k =>
    have h1 := wk h.1
    have h2 := is_row_number_ok (S := S) h.2
    simp (decide := true) [sp_is_row, mf_is_row, b_is_row, mDef, fIsi, tyN, isB, Rw.d, bTupS_21, h1, h2, fIn_t2, fIn_t3]
  | either ks =>
    have h1 := are_roads_ok (S := S) h.1 h.2.1 h.2.2
    simp (decide := true) [sp_is_row, mf_is_row, b_is_row, mDef, fIsi, tyN, isB, Rw.d, bTupS_21, h1, fIn_t2, fIn_t3]
  | jump k =>
    have h2 := is_row_number_ok (S := S) h
    simp (decide := true) [sp_is_row, mf_is_row, b_is_row, mDef, fIsi, tyN, isB, Rw.d, bTupS_21, h2, fIn_t2, fIn_t3]
  | call p =>
    have h : p ∈ behind := h
    have h2 := in_strs (a := p) (l := behind) (S := S) (neg := false)
    simp (decide := true) [sp_is_row, mf_is_row, b_is_row, mDef, fIsi, tyN, isB, Rw.d, bTupS_21, h, h2, fIn_t2, fIn_t3]
  | fin =>
    simp (decide := true) [sp_is_row, mf_is_row, b_is_row, mDef, fIsi, tyN, isB, Rw.d, bTupS_21, fIn_t2, fIn_t3, fEq, eqD, toP, SeqAt.shaped, PyData.canLay0, PyData.canLayAll0, PyData.depth, PyData.depthAll, PyData.eqv]
end K58


set_option Elab.async false
set_option linter.all false
set_option autoImplicit false
set_option maxRecDepth 100000
set_option maxHeartbeats 4000000
/-! k58's mathematics 2: names, parts, look_at. -/
namespace K58
open PySem PySem.Spec PyProof.Rows L2 Z
def letters : Str := "abcdefghijklmnopqrstuvwxyz"
def nameOk (s : Str) : Prop := 1 ≤ s.length ∧ s.length ≤ 6 ∧ ∀ c ∈ s.cps.toList, c ∈ letters.cps.toList
theorem fLen_s {z : Str} {S : Store} (h : z.length ≤ 100000) : fLen [.p (.str z)] S = .ok (.p (.int z.length)) S := by
  simp [fLen, sizeK h]
theorem is_name_ok {s : Str} {S : Store} (h : nameOk s) : sp_is_name [.p (.str s)] S = .ok (.p (.bool true)) S := by
  obtain ⟨h1, h2, h3⟩ := h
  have hlc : mLc true (iAny (mVar 0)) (bName 1) tYesM (mBin (fIn false) (mVar 1) (mC (.p (.str letters)))) [1] [some (.p (.str s)), none] S = .ok (.p (.list (s.cps.toList.map fun c => .bool true))) S := by
    have := mLc_map (f := fun _ => .bool true) (m := mVar 0) (bd := bName 1) (tt := tYesM) (te := mBin (fIn false) (mVar 1) (mC (.p (.str letters)))) (vs := [1]) (env := [some (.p (.str s)), none]) (S := S) (d := .str s) (items := s.cps.toList.map fun c => .str ⟨#[c]⟩) (by simp) rfl (fun d hd => by
      obtain ⟨c, hc, rfl⟩ := List.mem_map.mp hd
      have := h3 c hc
      exact ⟨_, rfl, rfl, by simp [wipeE, fIn]; simpa using this⟩) (sizeK (by simp; exact Nat.le_trans h2 (by omega)))
    rw [this, List.map_map]; rfl
  have e1 : (1 : Int) ≤ s.length := by omega
  have e2 : (s.length : Int) ≤ 6 := by omega
  have el : (PyData.str "abcdefghijklmnopqrstuvwxyz") = PyData.str letters := rfl
  simp [sp_is_name, mf_is_name, b_is_name, mDef, fIsi, tyN, isB, fLen_s (z := s) (by omega), e1, e2, el, hlc, fAll_map]
def partD (n : Str) (rows : List PyData) : PyData := .tuple [.str n, .list rows]
theorem is_part_ok {s : Str} {rows : List PyData} {S : Store} (h : nameOk s) (h1 : 1 ≤ rows.length) (h2 : rows.length ≤ 24) : sp_is_part [.p (partD s rows)] S = .ok (.p (.bool true)) S := by
  have e1 : (1 : Int) ≤ rows.length := by omega
  have e2 : (rows.length : Int) ≤ 24 := by omega
  simp [sp_is_part, mf_is_part, b_is_part, mDef, fIsi, tyN, isB, partD, is_name_ok h, e1, e2]
theorem name_of_s {s : Str} {S : Store} : sp_name_of [.p (.str s)] S = .ok (.p (.str s)) S := by
  simp [sp_name_of, mf_name_of, b_name_of, mDef, fIsi, tyN, isB]
theorem name_of_p {s : Str} {rows : List PyData} {S : Store} : sp_name_of [.p (partD s rows)] S = .ok (.p (.str s)) S := by
  simp [sp_name_of, mf_name_of, b_name_of, mDef, fIsi, tyN, isB, partD]
noncomputable def wtB : MS := (mSeq (mIfS (mOr (mNot (mTst (mCallV tbl_wrong_thing 1 (aCons (mVar 4) aNil)))) (mTst (mBin (fIn false) (mCall sp_name_of (aCons (mVar 4) aNil)) (mVar 2)))) (mSeq (mRet (mVar 3)) mNext) mNext) (mSeq (mExp (mBM "list" fAppend (mVar 2) (aCons (mCall sp_name_of (aCons (mVar 4) aNil)) aNil))) mNext))
theorem wtB_ok {c : Nat} {mf : FN} {d ds : PyData} {s : Str} {l : List Str} {j : Int} {S : Store} (ht : tbl_wrong_thing c = some mf) (hg : ∀ S, mf [.p d] S = .ok (.p (.bool true)) S) (hn : ∀ S, sp_name_of [.p d] S = .ok (.p (.str s)) S) (hs : s ∉ l) (hl : l.length ≤ 100000) :
    wtB [some (.p ds), some (.fn c), some (.loc S.length), some (.p (.int j)), some (.p d)] (S ++ [.lst (l.map fun s => .p (.str s))]) = .nx [some (.p ds), some (.fn c), some (.loc S.length), some (.p (.int j)), some (.p d)] (S ++ [.lst ((l ++ [s]).map fun s => .p (.str s))]) := by
  simp [wtB, mCallV, ht, hg, hn, fIn_cell, hs, tyOk_last, fAppend_last (l := l.map fun s => RV.p (.str s)) (by simpa using hl)]
/-- a good list of named things: no number is told -/
theorem wrong_thing_ok {ds : List PyData} {c : Nat} {mf : FN} {nm : PyData → Str} {S : Store} (ht : tbl_wrong_thing c = some mf) (hg : ∀ d ∈ ds, ∀ S, mf [.p d] S = .ok (.p (.bool true)) S) (hn : ∀ d ∈ ds, ∀ S, sp_name_of [.p d] S = .ok (.p (.str (nm d))) S)
    (hd : (ds.map nm).Nodup) (hl : ds.length ≤ 100) : ∃ X, sp_wrong_thing [.p (.list ds), .fn c] S = .ok (.p .none) (S ++ X) := by
  have hloop := runFor_inv (b := bTup 2 (bsCons (bName 3) (bsCons (bName 4) bsNil))) (body := wtB) (items := enumI (ds.map RV.p))
    (fun j env S' => ∃ x3 x4, env = [some (.p (.list ds)), some (.fn c), some (.loc S.length), x3, x4] ∧ S' = S ++ [.lst (((ds.take j).map nm).map fun s => .p (.str s))])
    (fun j it env S' hit ⟨x3, x4, he, hS⟩ => by
      subst he hS
      obtain ⟨r, rfl, hr⟩ := get_enum hit
      rw [List.getElem?_map] at hr
      obtain ⟨d, hd1, rfl⟩ := Option.map_eq_some_iff.mp hr
      have hm := List.mem_of_getElem? hd1
      have hj : j < ds.length := (List.getElem?_eq_some_iff.mp hd1).1
      have e0 : ds.take (j + 1) = ds.take j ++ [d] := by rw [List.take_succ, hd1]; rfl
      have hs : nm d ∉ (ds.take j).map nm := by
        have h2 : ((ds.take (j + 1)).map nm).Nodup := by rw [List.map_take]; exact hd.sublist (List.take_sublist ..)
        rw [e0, List.map_append, List.nodup_append] at h2
        exact fun z => h2.2.2 _ z (nm d) (by simp) rfl
      refine ⟨[some (.p (.list ds)), some (.fn c), some (.loc S.length), some (.p (.int j)), some (.p d)], _, _, _, by rw [mkI_ip, bTup_p]; rfl, .inl (wtB_ok ht (hg d hm) (hn d hm) hs (by simp; omega)), _, _, rfl, ?_⟩
      simp [e0])
    (env := [some (.p (.list ds)), some (.fn c), some (.loc S.length), none, none]) (S := S ++ [.lst []]) ⟨none, none, rfl, rfl⟩
  obtain ⟨e', S', h1, x3, x4, he, hS⟩ := hloop
  refine ⟨[.lst (((ds.take (enumI (ds.map RV.p)).length).map nm).map fun s => .p (.str s))], ?_⟩
  rw [← hS]
  have h1 := h1
  unfold wtB at h1
  simp [sp_wrong_thing, mf_wrong_thing, b_wrong_thing, mDef, iEnu_of (m := mVar 0) (ds := ds), h1]
/-! look_at_list, look_at -/
theorem look_at_list_ok {w : Str} {ds : List PyData} {most : Int} {c : Nat} {mf : FN} {nm : PyData → Str} {S : Store} (ht : tbl_wrong_thing c = some mf) (hg : ∀ d ∈ ds, ∀ S, mf [.p d] S = .ok (.p (.bool true)) S) (hn : ∀ d ∈ ds, ∀ S, sp_name_of [.p d] S = .ok (.p (.str (nm d))) S)
    (hd : (ds.map nm).Nodup) (h1 : 1 ≤ ds.length) (h2 : (ds.length : Int) ≤ most) (hl : ds.length ≤ 100) : ∃ X, sp_look_at_list [.p (.str w), .p (.list ds), .p (.int most), .fn c] S = .ok (.p .none) (S ++ X) := by
  obtain ⟨X, hX⟩ := wrong_thing_ok (S := S) ht hg hn hd hl
  have e1 : (1 : Int) ≤ ds.length := by omega
  refine ⟨X, ?_⟩
  simp [sp_look_at_list, mf_look_at_list, b_look_at_list, mDef, fIsi, tyN, isB, e1, h2, hX, Z.isNon]
/-- a program as data -/
def prog (boxes : List Str) (parts : List (Str × List Rw)) : PyData := .tuple [.list (boxes.map .str), .list (parts.map fun p => partD p.1 (p.2.map Rw.d))]
/-- the last row leads on -/
def Rw.lastOk : Rw → Bool
  | .either _ => true
  | .jump _ => true
  | .fin => true
  | _ => false
/-- a good program: what the document asks -/
structure Good (boxes : List Str) (parts : List (Str × List Rw)) : Prop where
  b1 : 1 ≤ boxes.length
  b2 : boxes.length ≤ 8
  bn : ∀ s ∈ boxes, nameOk s
  bd : boxes.Nodup
  p1 : 1 ≤ parts.length
  p2 : parts.length ≤ 6
  pn : ∀ p ∈ parts, nameOk p.1
  pd : (parts.map (·.1)).Nodup
  r1 : ∀ p ∈ parts, 1 ≤ p.2.length ∧ p.2.length ≤ 24
  row : ∀ (i : Nat) (p : Str × List Rw), parts[i]? = some p → ∀ r ∈ p.2, r.ok boxes ((parts.drop (i + 1)).map (·.1)) p.2.length
  last : ∀ p ∈ parts, ∀ r, p.2[p.2.length - 1]? = some r → r.lastOk = true
noncomputable def laRow : MS := (mSeq (mIfS (mNot (mTst (mCall sp_is_row (aCons (mVar 1) (aCons (mVar 6) (aCons (mCall fLen (aCons (mVar 5) aNil)) (aCons (mVar 10) aNil))))))) (mSeq (mRaise 1 ["part", "number", "row"] (aCons (mC (.p (.str "rows"))) (aCons (mVar 3) (aCons (mVar 9) aNil))))
  mNext) mNext)
  (mSeq (mIfS (mAnd (mTst (mBin (fEq false 8) (mVar 9) (mBin fSub (mCall fLen (aCons (mVar 5) aNil)) (mC (.p (.int 1)))))) (mTst (mBin (fIn true) (mBin fIx (mVar 10) (mC (.p (.int 0)))) (mTup (aCons (mC (.p (.str "either"))) (aCons (mC (.p (.str "jump"))) (aCons (mC (.p (.str "end"))) aNil))))))) (mSeq (mRaise 1 ["part", "number", "row"] (aCons (mC (.p (.str "rows"))) (aCons (mVar 3) (aCons (mVar 9) aNil))))
  mNext) mNext)
  mNext))
theorem Rw.word (r : Rw) : ∃ w rest, r.d = .tuple (.str w :: rest) ∧ (r.lastOk = true → w = "either" ∨ w = "jump" ∨ w = "end") := by
  cases r <;> exact ⟨_, _, rfl, by simp [Rw.lastOk]⟩
theorem laRow_ok {boxes behind : List Str} {rows : List Rw} {r : Rw} {e0 e2 e4 e7 e8 : Option RV} {i : Int} {j : Nat} {S : Store} (hb : boxes.length ≤ 100) (h : r.ok boxes behind rows.length) (hl : j + 1 = rows.length → r.lastOk = true) :
    laRow [e0, some (.p (.list (boxes.map .str))), e2, some (.p (.int i)), e4, some (.p (.list (rows.map Rw.d))), some (.p (.list (behind.map .str))), e7, e8, some (.p (.int j)), some (.p r.d)] S =
      .nx [e0, some (.p (.list (boxes.map .str))), e2, some (.p (.int i)), e4, some (.p (.list (rows.map Rw.d))), some (.p (.list (behind.map .str))), e7, e8, some (.p (.int j)), some (.p r.d)] S := by
  have h1 := is_row_ok (behind := behind) (many := rows.length) (S := S) hb h
  obtain ⟨w, rest, hw, hlw⟩ := r.word
  by_cases hj : (j : Int) = (rows.length : Int) - 1
  · have := hlw (hl (by omega))
    rw [hw] at h1 ⊢
    rcases this with rfl | rfl | rfl <;> simp (decide := true) [laRow, h1, hj, fIn_t3]
  · simp [laRow, h1, hj]
noncomputable def laPart : MS := (mSeq (mAsg (mLc true (iAny (mSl (fSl true) (mVar 2) (oSo (mBin (fAdd true) (mVar 3) (mC (.p (.int 1))))) oNo)) (bTup 2 (bsCons (bName 7) (bsCons (bName 8) bsNil))) tYesM (mVar 7) [7, 8]) (bName 6))
  (mSeq (mFor (iEnu (aCons (mVar 5) aNil)) (bTup 2 (bsCons (bName 9) (bsCons (bName 10) bsNil))) laRow) mNext))
theorem laPart_ok {boxes : List Str} {parts : List (Str × List Rw)} {p : Str × List Rw} {e0 e6 e7 e8 e9 e10 : Option RV} {i : Nat} {S : Store} (G : Good boxes parts) (hp : parts[i]? = some p) :
    ∃ e6' e9' e10', laPart [e0, some (.p (.list (boxes.map .str))), some (.p (.list (parts.map fun p => partD p.1 (p.2.map Rw.d)))), some (.p (.int i)), some (.p (.str p.1)), some (.p (.list (p.2.map Rw.d))), e6, e7, e8, e9, e10] S =
      .nx [e0, some (.p (.list (boxes.map .str))), some (.p (.list (parts.map fun p => partD p.1 (p.2.map Rw.d)))), some (.p (.int i)), some (.p (.str p.1)), some (.p (.list (p.2.map Rw.d))), e6', e7, e8, e9', e10'] S := by
  have hm := List.mem_of_getElem? hp
  have hsl : fSl true (.p (.list (parts.map fun p => partD p.1 (p.2.map Rw.d)))) (some ((i : Int) + 1)) none S = .ok (.p (.list ((parts.drop (i + 1)).map fun p => partD p.1 (p.2.map Rw.d)))) S := by
    rw [fSl_l (sizeK (by simp; have := G.p2; omega))]
    have := cutG_from (l := parts.map fun p => partD p.1 (p.2.map Rw.d)) (i + 1)
    rw [show ((i : Int) + 1) = ((i + 1 : Nat) : Int) by omega, this, List.map_drop]
  have hlc : mLc true (iAny (mSl (fSl true) (mVar 2) (oSo (mBin (fAdd true) (mVar 3) (mC (.p (.int 1))))) oNo)) (bTup 2 (bsCons (bName 7) (bsCons (bName 8) bsNil))) tYesM (mVar 7) [7, 8] [e0, some (.p (.list (boxes.map .str))), some (.p (.list (parts.map fun p => partD p.1 (p.2.map Rw.d)))), some (.p (.int i)), some (.p (.str p.1)), some (.p (.list (p.2.map Rw.d))), e6, e7, e8, e9, e10] S
      = .ok (.p (.list (((parts.drop (i + 1)).map (·.1)).map .str))) S := by
    have := mLc_map (f := fun d => match d with
        | .tuple (x :: _) => x
        | _ => .none) (m := mSl (fSl true) (mVar 2) (oSo (mBin (fAdd true) (mVar 3) (mC (.p (.int 1))))) oNo) (bd := bTup 2 (bsCons (bName 7) (bsCons (bName 8) bsNil))) (tt := tYesM) (te := mVar 7) (vs := [7, 8])
        (env := [e0, some (.p (.list (boxes.map .str))), some (.p (.list (parts.map fun p => partD p.1 (p.2.map Rw.d)))), some (.p (.int i)), some (.p (.str p.1)), some (.p (.list (p.2.map Rw.d))), e6, e7, e8, e9, e10]) (S := S)
        (d := .list ((parts.drop (i + 1)).map fun p => partD p.1 (p.2.map Rw.d))) (items := (parts.drop (i + 1)).map fun p => partD p.1 (p.2.map Rw.d)) (by simpa using hsl) rfl (fun d hd => by
          obtain ⟨q, hq, rfl⟩ := List.mem_map.mp hd
          exact ⟨_, by rw [partD, bTup_p]; rfl, rfl, by simp [wipeE, partD]⟩) (sizeK (by simp; have := G.p2; omega))
    rw [this, List.map_map, List.map_map]; rfl
  have hloop := runFor_inv (b := bTup 2 (bsCons (bName 9) (bsCons (bName 10) bsNil))) (body := laRow) (items := enumI ((p.2.map Rw.d).map RV.p))
    (fun j env S' => ∃ x9 x10, env = [e0, some (.p (.list (boxes.map .str))), some (.p (.list (parts.map fun p => partD p.1 (p.2.map Rw.d)))), some (.p (.int i)), some (.p (.str p.1)), some (.p (.list (p.2.map Rw.d))), some (.p (.list (((parts.drop (i + 1)).map (·.1)).map .str))), e7, e8, x9, x10] ∧ S' = S)
    (fun j it env S' hit ⟨x9, x10, he, hS⟩ => by
      subst he hS
      obtain ⟨r, rfl, hr⟩ := get_enum hit
      rw [List.getElem?_map, List.getElem?_map] at hr
      obtain ⟨d, hd1, rfl⟩ := Option.map_eq_some_iff.mp hr
      obtain ⟨r, hr1, rfl⟩ := Option.map_eq_some_iff.mp hd1
      have hj : j < p.2.length := (List.getElem?_eq_some_iff.mp hr1).1
      refine ⟨_, _, _, _, by rw [mkI_ip, bTup_p]; rfl, .inl (laRow_ok (by have := G.b2; omega) (G.row i p hp r (List.mem_of_getElem? hr1)) fun hl => G.last p hm r (by rw [← hl]; simpa using hr1)), _, _, rfl, rfl⟩)
    (env := [e0, some (.p (.list (boxes.map .str))), some (.p (.list (parts.map fun p => partD p.1 (p.2.map Rw.d)))), some (.p (.int i)), some (.p (.str p.1)), some (.p (.list (p.2.map Rw.d))), some (.p (.list (((parts.drop (i + 1)).map (·.1)).map .str))), e7, e8, e9, e10]) (S := S) ⟨_, _, rfl, rfl⟩
  obtain ⟨e', S', h1, x9, x10, he, hS⟩ := hloop
  refine ⟨some (.p (.list (((parts.drop (i + 1)).map (·.1)).map .str))), x9, x10, ?_⟩
  · unfold laPart
    simp only [mSeq_app, mAsg_app, hlc, eS_ok, bName_app, asgR_ok, seqR_nx, mFor_app, List.set]
    rw [iEnu_of (m := mVar 5) (ds := p.2.map Rw.d) (by simp)]
    simp only [eS_ok, h1, he, hS, seqR_nx, mNext_app]
theorem look_at_ok {boxes : List Str} {parts : List (Str × List Rw)} {S : Store} (G : Good boxes parts) : ∃ X, sp_look_at [.p (prog boxes parts)] S = .ok (.p .none) (S ++ X) := by
  obtain ⟨X1, hX1⟩ := look_at_list_ok (w := "boxes") (ds := boxes.map .str) (most := 8) (c := 100) (mf := sp_is_name) (nm := fun d => match d with
      | .str s => s
      | _ => "") (S := S) rfl (fun d hd S => by
        obtain ⟨s, hs, rfl⟩ := List.mem_map.mp hd
        exact is_name_ok (G.bn s hs)) (fun d hd S => by
        obtain ⟨s, hs, rfl⟩ := List.mem_map.mp hd
        exact name_of_s) (by rw [List.map_map]; simpa [Function.comp_def] using G.bd) (by simpa using G.b1) (by have := G.b2; simp; omega) (by have := G.b2; simp; omega)
  obtain ⟨X2, hX2⟩ := look_at_list_ok (w := "parts") (ds := parts.map fun p => partD p.1 (p.2.map Rw.d)) (most := 6) (c := 101) (mf := sp_is_part) (nm := fun d => match d with
      | .tuple (.str s :: _) => s
      | _ => "") (S := S ++ X1) rfl (fun d hd S => by
        obtain ⟨p, hp, rfl⟩ := List.mem_map.mp hd
        exact is_part_ok (G.pn p hp) (by simpa using (G.r1 p hp).1) (by simpa using (G.r1 p hp).2)) (fun d hd S => by
        obtain ⟨p, hp, rfl⟩ := List.mem_map.mp hd
        exact name_of_p) (by rw [List.map_map]; simpa [Function.comp_def, partD] using G.pd) (by simpa using G.p1) (by have := G.p2; simp; omega) (by have := G.p2; simp; omega)
  have hloop := runFor_inv (b := bTup 2 (bsCons (bName 3) (bsCons (bTup 2 (bsCons (bName 4) (bsCons (bName 5) bsNil))) bsNil))) (body := laPart) (items := enumI ((parts.map fun p => partD p.1 (p.2.map Rw.d)).map RV.p))
    (fun j env S' => ∃ x3 x4 x5 x6 x9 x10, env = [some (.p (prog boxes parts)), some (.p (.list (boxes.map .str))), some (.p (.list (parts.map fun p => partD p.1 (p.2.map Rw.d)))), x3, x4, x5, x6, none, none, x9, x10] ∧ S' = S ++ X1 ++ X2)
    (fun j it env S' hit ⟨x3, x4, x5, x6, x9, x10, he, hS⟩ => by
      subst he hS
      obtain ⟨r, rfl, hr⟩ := get_enum hit
      rw [List.getElem?_map, List.getElem?_map] at hr
      obtain ⟨d, hd1, rfl⟩ := Option.map_eq_some_iff.mp hr
      obtain ⟨p, hp, rfl⟩ := Option.map_eq_some_iff.mp hd1
      obtain ⟨y6, y9, y10, hy⟩ := laPart_ok (e0 := some (.p (prog boxes parts))) (e6 := x6) (e7 := none) (e8 := none) (e9 := x9) (e10 := x10) (S := S ++ X1 ++ X2) G hp
      refine ⟨_, _, _, _, ?_, .inl hy, _, _, _, _, _, _, rfl, rfl⟩
      rw [mkI_ip, bTup_p, if_pos (by rfl)]
      simp [partD])
    (env := [some (.p (prog boxes parts)), some (.p (.list (boxes.map .str))), some (.p (.list (parts.map fun p => partD p.1 (p.2.map Rw.d)))), none, none, none, none, none, none, none, none]) (S := S ++ X1 ++ X2) ⟨_, _, _, _, _, _, rfl, rfl⟩
  obtain ⟨e', S', h1, x3, x4, x5, x6, x9, x10, he, hS⟩ := hloop
  refine ⟨X1 ++ X2, ?_⟩
  have h1 := h1
  unfold laPart laRow at h1
  have hpr : prog boxes parts = .tuple [.list (boxes.map .str), .list (parts.map fun p => partD p.1 (p.2.map Rw.d))] := rfl
  rw [hpr] at h1 ⊢
  simp only [List.append_assoc] at h1 hX2 hS
  simp only [List.map_map] at h1
  rw [show sp_look_at = lendF mf_look_at from rfl, lend_noLoc (by rfl)]
  simp [mf_look_at, b_look_at, mDef, fIsi, tyN, isB, hX1, hX2, iEnu_of (m := mVar 2) (ds := parts.map fun p => partD p.1 (p.2.map Rw.d)), h1, hS]
end K58


set_option Elab.async false
set_option linter.all false
set_option autoImplicit false
set_option maxRecDepth 100000
set_option maxHeartbeats 4000000
/-! k58's mathematics 3: sizes, letters, wider rows, claims. -/
namespace K58
open PySem PySem.Spec PyProof.Rows L2 Z
theorem prog_eq (boxes : List Str) (parts : List (Str × List Rw)) : prog boxes parts = .tuple [.list (boxes.map .str), .list (parts.map fun p => partD p.1 (p.2.map Rw.d))] := rfl
theorem raise1 {c : Nat} {f : Str} {m : ME} {env : Z.Env} {S : Store} {d : PyData} (h : m env S = .ok (.p d) S) : mRaise c [f] (aCons m aNil) env S = .exc c (some [(f, d)]) env S := by
  simp [mRaise, h, allP]
theorem look_at_size_ok {boxes : List Str} {parts : List (Str × List Rw)} {S : Store} : sp_look_at_size [.p (prog boxes parts)] S =
    if 4 < boxes.length then .exc 4 (some [("many", .int boxes.length)]) S else if 5 < parts.length then .exc 4 (some [("many", .int parts.length)]) S else .ok (.p .none) S := by
  rw [prog_eq]
  by_cases h1 : 4 < boxes.length
  · have e1 : (4 : Int) < boxes.length := by omega
    simp [sp_look_at_size, mf_look_at_size, b_look_at_size, mDef, e1, h1, raise1 (d := .int boxes.length)]
  · have e1 : ¬ (4 : Int) < boxes.length := by omega
    by_cases h2 : 5 < parts.length
    · have e2 : (5 : Int) < parts.length := by omega
      simp [sp_look_at_size, mf_look_at_size, b_look_at_size, mDef, e1, h1, e2, h2, raise1 (d := .int parts.length)]
    · have e2 : ¬ (5 : Int) < parts.length := by omega
      simp [sp_look_at_size, mf_look_at_size, b_look_at_size, mDef, e1, h1, e2, h2]
/-- the letters that are none of some names -/
def lettersOf (names : List Str) (many : Nat) : List Str := ((letters.cps.toList.map fun c => (⟨#[c]⟩ : Str)).filter fun s => !decide (s ∈ names)).take many
theorem letters_without_ok {names : List Str} {many : Nat} {S : Store} : sp_letters_without [.p (.list (names.map .str)), .p (.int many)] S = .ok (.p (.list ((lettersOf names many).map .str))) S := by
  have hlc : mLc true (iAny (mC (.p (.str letters)))) (bName 2) (mTst (mBin (fIn true) (mVar 2) (mVar 0))) (mVar 2) [2] [some (.p (.list (names.map .str))), some (.p (.int many)), none] S = .ok (.p (.list (((letters.cps.toList.map fun c => (⟨#[c]⟩ : Str)).filter fun s => !decide (s ∈ names)).map .str))) S := by
    have := mLc_filter (f := fun d => d) (p := fun d => match d with
        | .str s => !decide (s ∈ names)
        | _ => false) (m := mC (.p (.str letters))) (bd := bName 2) (tt := mTst (mBin (fIn true) (mVar 2) (mVar 0))) (te := mVar 2) (vs := [2]) (env := [some (.p (.list (names.map .str))), some (.p (.int many)), none]) (S := S) (d := .str letters) (items := letters.cps.toList.map fun c => .str ⟨#[c]⟩) (by simp) rfl (fun d hd => by
      obtain ⟨c, hc, rfl⟩ := List.mem_map.mp hd
      exact ⟨_, rfl, by simp [wipeE, in_strs], by simp [wipeE]⟩) (sizeK (by decide))
    rw [this]
    simp [List.filter_map, Function.comp_def]
  have el : (PyData.str "abcdefghijklmnopqrstuvwxyz") = PyData.str letters := rfl
  have hz : (((letters.cps.toList.map fun c => (⟨#[c]⟩ : Str)).filter fun s => !decide (s ∈ names)).map PyData.str).length ≤ sizeLine := by
    rw [List.length_map]
    exact Nat.le_trans (List.length_filter_le ..) (sizeK (by decide))
  simp only [sp_letters_without, mf_letters_without, b_letters_without, mDef, el]
  simp [hlc, fSl_l hz, cutG_to, lettersOf]
/-- a row over many boxes more -/
def Rw.wider (many : Nat) : Rw → Rw
  | .set b l => .set b (l ++ List.replicate many 0)
  | .want u l => .want u (l ++ List.replicate many 0)
  | .claim u l => .claim u (l ++ List.replicate many 0)
  | .test u l k => .test u (l ++ List.replicate many 0) k
  | r => r
theorem repl_one {d : PyData} : ∀ n : Nat, repl n [d] = List.replicate n d := by
  intro n
  induction n with
  | zero => rfl
  | succ n ih => simp [repl, ih, List.replicate_succ]
theorem noughts {z : Bool} {d : PyData} {n : Nat} {S : Store} (h : n ≤ 1000) : fMul z (.p (.tuple [d])) (.p (.int n)) S = .ok (.p (.tuple (List.replicate n d))) S := by
  have e : ((n : Int) ≤ 1000) := by omega
  simp [fMul, e, repl_one]
theorem size2 {a b : List PyData} (ha : a.length ≤ 1000) (hb : b.length ≤ 1000) : a.length + b.length ≤ sizeLine := sizeK (by omega)
theorem bTup_wish {bs : Bds} {u : Str} {l : List Int} {env : Z.Env} {S : Store} : bTup 2 bs (.p (wishD u l)) env S = bs [.p (.str u), .p (.tuple (l.map .int))] env S := by
  rw [wishD, bTup_p, if_pos (by rfl)]; rfl
theorem cut1 {a : PyData} {l : List PyData} : cutG (a :: l) (some 1) none = l := by
  have := cutG_from (l := a :: l) 1
  simpa using this
theorem wider_row_ok {r : Rw} {n : Nat} {S : Store} (hn : n ≤ 1000) (hr : ∀ l : List Int, (∃ b, r = .set b l) ∨ (∃ u, r = .want u l) ∨ (∃ u, r = .claim u l) ∨ (∃ u k, r = .test u l k) → l.length ≤ 1000) (hk : ∀ ks, r = .either ks → ks.length ≤ 100) :
    sp_wider_row [.p r.d, .p (.int n)] S = .ok (.p (r.wider n).d) S := by
  have ad : ∀ {l : List Int}, l.length ≤ 1000 → fAdd true (.p (.tuple (l.map .int))) (.p (.tuple (List.replicate n (.int 0)))) S = .ok (.p (.tuple ((l ++ List.replicate n 0).map .int))) S := fun hl => by
    rw [fAdd_tt (size2 (by simpa using hl) (by simpa using hn))]; simp
  cases r with
  | set b l =>
    have hl := hr l (.inl ⟨_, rfl⟩)
    simp (decide := true) [sp_wider_row, mf_wider_row, b_wider_row, mDef, Rw.d, Rw.wider, bTupS_21, noughts hn, ad hl]
  | want u l =>
    have hl := hr l (.inr (.inl ⟨_, rfl⟩))
    simp (decide := true) [sp_wider_row, mf_wider_row, b_wider_row, mDef, Rw.d, Rw.wider, bTupS_21, noughts hn, ad hl, fIn_t3, bTup_wish, fSl_l, cut1, fTupleOf, lstv, mkT, allP, fAdd_tt, wishD, sizeLine_eq]
  | claim u l =>
    have hl := hr l (.inr (.inr (.inl ⟨_, rfl⟩)))
    simp (decide := true) [sp_wider_row, mf_wider_row, b_wider_row, mDef, Rw.d, Rw.wider, bTupS_21, noughts hn, ad hl, fIn_t3, bTup_wish, fSl_l, cut1, fTupleOf, lstv, mkT, allP, fAdd_tt, wishD, sizeLine_eq]
  | test u l k =>
    have hl := hr l (.inr (.inr (.inr ⟨_, _, rfl⟩)))
    simp (decide := true) [sp_wider_row, mf_wider_row, b_wider_row, mDef, Rw.d, Rw.wider, bTupS_21, noughts hn, ad hl, fIn_t3, bTup_wish, fSl_l, cut1, fTupleOf, lstv, mkT, allP, fAdd_tt, wishD, sizeLine_eq]
  | _ => simp (decide := true) [sp_wider_row, mf_wider_row, b_wider_row, mDef, Rw.d, Rw.wider, bTupS_21, noughts hn, fIn_t3]
/-- a wish of a call as a claim: what was behind stands first -/
theorem claim_of_ok {u : Str} {a : Int} {l : List Int} {n : Nat} {S : Store} (hl : l.length ≤ 1000) : sp_claim_of [.p (wishD u (a :: l)), .p (.int n)] S = .ok (.p (Rw.claim u (a :: (l.drop n ++ l.take n))).d) S := by
  have h1 : (l.map PyData.int).length ≤ sizeLine := sizeK (by simp; omega)
  have h2 : fAdd true (.p (.list ((l.map PyData.int).drop n))) (.p (.list ((l.map PyData.int).take n))) S = .ok (.p (.list ((l.drop n ++ l.take n).map .int))) S := by
    rw [fAdd_ll (sizeK (by simp; omega))]; simp
  have h3 : fTupleOf [.p (.list ((l.drop n ++ l.take n).map .int))] S = .ok (.p (.tuple ((l.drop n ++ l.take n).map .int))) S := by
    simp only [fTupleOf, lstv]
    rw [mkT_p, if_pos (sizeK (by simp; omega))]
  have h4 : fAdd true (.p (.tuple [.int a])) (.p (.tuple ((l.drop n ++ l.take n).map .int))) S = .ok (.p (.tuple ((a :: (l.drop n ++ l.take n)).map .int))) S := by
    rw [fAdd_tt (sizeK (by simp; omega))]; simp
  have h5 : ∀ env, bTup 2 (bsCons (bName 2) (bsCons (bTupS true 2 1 (bsCons (bName 3) (bsCons (bName 4) bsNil))) bsNil)) (.p (wishD u (a :: l))) env S = .ok (((env.set 2 (some (.p (.str u)))).set 3 (some (.p (.int a)))).set 4 (some (.p (.list (l.map .int))))) S := fun env => by
    rw [bTup_wish]
    simp [bTupS_21 (a := .int a) (r := l.map .int) (by simpa using hl)]
  unfold sp_claim_of mf_claim_of mDef b_claim_of
  simp only [List.length_cons, List.length_nil, Nat.zero_add, if_true, List.map_cons, List.map_nil, List.cons_append, List.nil_append, mSeq_app, mAsg_app, mVar_app, List.replicate, List.getElem?_cons_zero, eS_ok, h5, asgR_ok, seqR_nx, mRet_app]
  simp [fSl_l h1, cutG_from, cutG_to]
  simp only [List.map_append, List.map_drop, List.map_take, List.map_cons] at h2 h3 h4
  simp [h2, h3, h4, Rw.d, wishD]
end K58


set_option Elab.async false
set_option linter.all false
set_option autoImplicit false
set_option maxRecDepth 100000
set_option maxHeartbeats 4000000
/-! k58's mathematics 4: the numbers of parts, what is refused. -/
namespace K58
open PySem PySem.Spec PyProof.Rows L2 Z
/-- names with their numbers, from k on -/
def numsFrom : Nat → List Str → List (Key × RV)
  | _, [] => []
  | k, s :: r => (Sum.inr s, .p (.int k)) :: numsFrom (k + 1) r
theorem nums_key {s : Str} : ∀ {k : Nat} {l : List Str}, s ∉ l → ((numsFrom k l).any fun kv => decide (kv.1 = (Sum.inr s : Key))) = false := by
  intro k l
  induction l generalizing k with
  | nil => intro _; rfl
  | cons a l ih =>
    intro h
    have h1 : s ≠ a := fun z => h (z ▸ List.mem_cons_self ..)
    have h2 := ih (k := k + 1) fun z => h (List.mem_cons_of_mem _ z)
    simp only [numsFrom, List.any_cons, h2, Bool.or_false]
    simp
    exact fun z => h1 z.symm
theorem nums_app {k : Nat} {l : List Str} {s : Str} : numsFrom k l ++ [(Sum.inr s, .p (.int ((k + l.length : Nat) : Int)))] = numsFrom k (l ++ [s]) := by
  induction l generalizing k with
  | nil => simp [numsFrom]
  | cons a l ih =>
    have := ih (k := k + 1)
    simp only [numsFrom, List.cons_append, List.length_cons] at this ⊢
    rw [← this, show k + 1 + l.length = k + (l.length + 1) by omega]
theorem nums_val {s : Str} : ∀ {k i : Nat} {l : List Str}, l.Nodup → l[i]? = some s → valR (numsFrom k l) (Sum.inr s) = some (.p (.int ((k + i : Nat) : Int))) := by
  intro k i l
  induction l generalizing k i with
  | nil => intro _ h; simp at h
  | cons a l ih =>
    intro hn h
    rw [List.nodup_cons] at hn
    cases i with
    | zero =>
      simp at h; subst h
      simp [valR, numsFrom]
    | succ i =>
      have h' : l[i]? = some s := by simpa using h
      have hne : a ≠ s := fun z => hn.1 (z ▸ List.mem_of_getElem? h')
      have := ih (k := k + 1) hn.2 h'
      simp only [valR, numsFrom, List.find?_cons] at this ⊢
      have e : decide ((Sum.inr a : Key) = Sum.inr s) = false := by simp [hne]
      rw [e]
      dsimp only
      rw [this, show k + 1 + i = k + (i + 1) by omega]
theorem nums_none {s : Str} : ∀ {k : Nat} {l : List Str}, s ∉ l → valR (numsFrom k l) (Sum.inr s) = none := by
  intro k l h
  have := nums_key (k := k) h
  unfold valR
  rw [List.find?_eq_none.mpr]
  · rfl
  · intro x hx
    have := List.any_eq_false.mp this x hx
    simpa using this
theorem runDc_parts {b : Bd} {tt : MT} {tk tv : ME} {env : Z.Env} {S : Store} {ds : List PyData} {nm : PyData → Str} (hd : (ds.map nm).Nodup) (hl : ds.length ≤ 1000)
    (h : ∀ (j : Nat) (d : PyData), ds[j]? = some d → ∃ e1, b (.p (.tuple [.int j, d])) env S = .ok e1 S ∧ tt e1 S = .ok true S ∧ tk e1 S = .ok (.p (.str (nm d))) S ∧ tv e1 S = .ok (.p (.int j)) S) :
    ∀ (n j : Nat), ds.length - j = n → j ≤ ds.length → runDc b tt tk tv (fun _ => true) ((enumI (ds.map RV.p)).drop j) env S (numsFrom 0 ((ds.take j).map nm)) = .ok (numsFrom 0 (ds.map nm)) S := by
  have hlen : (enumI (ds.map RV.p)).length = ds.length := by rw [enumI_len, List.length_map]
  intro n
  induction n with
  | zero =>
    intro j hn hj
    obtain rfl : j = ds.length := by omega
    rw [List.drop_of_length_le (by omega), List.take_length]
    simp [runDc]
  | succ n ih =>
    intro j hn hj
    have hlt : j < ds.length := by omega
    have hlt' : j < (enumI (ds.map RV.p)).length := by omega
    obtain ⟨r, hr1, hr2⟩ := get_enum (List.getElem?_eq_getElem hlt')
    rw [List.getElem?_map] at hr2
    obtain ⟨d, hd1, rfl⟩ := Option.map_eq_some_iff.mp hr2
    obtain ⟨e1, h1, h2, h3, h4⟩ := h j d hd1
    have e0 : ds.take (j + 1) = ds.take j ++ [d] := by rw [List.take_succ, hd1]; rfl
    have hs : nm d ∉ (ds.take j).map nm := by
      have h2 : ((ds.take (j + 1)).map nm).Nodup := by rw [List.map_take]; exact hd.sublist (List.take_sublist ..)
      rw [e0, List.map_append, List.nodup_append] at h2
      exact fun z => h2.2.2 _ z (nm d) (by simp) rfl
    have hp : putR (numsFrom 0 ((ds.take j).map nm)) (Sum.inr (nm d)) (.p (.int j)) = numsFrom 0 ((ds.take (j + 1)).map nm) := by
      unfold putR
      rw [nums_key hs]
      have := nums_app (k := 0) (l := (ds.take j).map nm) (s := nm d)
      rw [e0, List.map_append]
      simp at this ⊢
      rw [← this, Nat.min_eq_left (by omega)]
    have hz : (numsFrom 0 ((ds.take j).map nm)).length < sizeLine := by
      have : ∀ k l, (numsFrom k l).length = l.length := by
        intro k l
        induction l generalizing k with
        | nil => rfl
        | cons a l ih => simp [numsFrom, ih]
      rw [this, sizeLine_eq]; simp; omega
    rw [List.drop_eq_getElem_cons hlt', hr1]
    simp only [runDc, if_true, mkI_ip, h1, h2, h3, h4, keyOf, if_pos hz, hp]
    exact ih (j + 1) (by omega) hlt
theorem part_numbers_ok {boxes : List Str} {parts : List (Str × List Rw)} {S : Store} (hd : (parts.map (·.1)).Nodup) (hl : parts.length ≤ 1000) :
    sp_part_numbers [.p (prog boxes parts)] S = .ok (.loc S.length) (S ++ [.dK (numsFrom 0 (parts.map (·.1)))]) := by
  have hnm : ((parts.map fun p => partD p.1 (p.2.map Rw.d)).map fun d => match d with
      | .tuple (.str s :: _) => s
      | _ => "") = parts.map (·.1) := by
    rw [List.map_map]; rfl
  have := runDc_parts (b := bTup 2 (bsCons (bName 1) (bsCons (bTup 2 (bsCons (bName 2) (bsCons (bName 3) bsNil))) bsNil))) (tt := tYesM) (tk := mVar 2) (tv := mVar 1) (env := [some (.p (prog boxes parts)), none, none, none]) (S := S) (ds := parts.map fun p => partD p.1 (p.2.map Rw.d))
    (nm := fun d => match d with
      | .tuple (.str s :: _) => s
      | _ => "") (by rw [hnm]; exact hd) (by simpa using hl) (fun j d hj => by
        rw [List.getElem?_map] at hj
        obtain ⟨p, hp, rfl⟩ := Option.map_eq_some_iff.mp hj
        refine ⟨[some (.p (prog boxes parts)), some (.p (.int j)), some (.p (.str p.1)), some (.p (.list (p.2.map Rw.d)))], ?_, rfl, by simp [partD], by simp⟩
        rw [bTup_p, if_pos (by rfl)]
        simp [partD]) parts.length 0 (by simp) (Nat.zero_le _)
  rw [List.drop_zero, hnm] at this
  have e : mDc (iEnu (aCons (mBin fIx (mVar 0) (mC (.p (.int 1)))) aNil)) (bTup 2 (bsCons (bName 1) (bsCons (bTup 2 (bsCons (bName 2) (bsCons (bName 3) bsNil))) bsNil))) tYesM (mVar 2) (mVar 1) [1, 2, 3] [some (.p (prog boxes parts)), none, none, none] S = .ok (.loc S.length) (S ++ [.dK (numsFrom 0 (parts.map (·.1)))]) := by
    unfold mDc
    rw [iEnu_of (ds := parts.map fun p => partD p.1 (p.2.map Rw.d)) (by simp [prog_eq])]
    simp only [bind_ok, wipeE, List.set]
    simp only [List.take_zero, List.map_nil, numsFrom] at this
    rw [this]
    rfl
  unfold sp_part_numbers mf_part_numbers mDef b_part_numbers
  simp only [List.length_cons, List.length_nil, Nat.zero_add, if_true, List.map_cons, List.map_nil, List.cons_append, List.nil_append, List.replicate, mSeq_app, mRet_app]
  rw [e]
  simp
/-- what a call is refused with, of a good program -/
inductive CallWhy where
  | part
  | wishes
open Classical in
noncomputable def callWhy (boxes : List Str) (parts : List (Str × List Rw)) (name wishes : PyData) : Option CallWhy :=
  if ¬ (∃ (s : Str) (i : Nat), name = .str s ∧ (parts.map (·.1))[i + 1]? = some s) then some .part
  else if ¬ (∃ ws : List (Str × List Int), wishes = .list (ws.map fun w => wishD w.1 w.2) ∧ ws.length ≤ 12 ∧ ∀ w ∈ ws, wishOk (2 * boxes.length) w.1 w.2) then some .wishes
  else none
end K58


set_option Elab.async false
set_option linter.all false
set_option autoImplicit false
set_option maxRecDepth 100000
set_option maxHeartbeats 4000000
/-! k58's mathematics 5: wishes good and odd, look_at_call. -/
namespace K58
open PySem PySem.Spec PyProof.Rows L2 Z
/-- a wish, or one of the law's odd ones -/
inductive Wl (n : Nat) : PyData → Bool → Prop
  | good {u : Str} {l : List Int} (h : wishOk n u l) (hn : n ≤ 100) : Wl n (wishD u l) true
  | non : Wl n .none false
  | short {u : Str} {l : List Int} (hu : u = "least" ∨ u = "above") (h : l.length ≠ n + 1) (hl : l.length ≤ 1000) : Wl n (wishD u l) false
  | lst {u : Str} {ds : List PyData} (hu : u = "least" ∨ u = "above") : Wl n (.tuple [.str u, .list ds]) false
theorem is_wish_l {n : Nat} {d : PyData} {b : Bool} {S : Store} (h : Wl n d b) : sp_is_wish [.p (.int n), .p d] S = .ok (.p (.bool b)) S := by
  cases h with
  | good h hn => exact is_wish_ok h.1 (by rw [h.2]; simp) (by rw [h.2]; omega)
  | non => simp [sp_is_wish, mf_is_wish, b_is_wish, mDef, fIsi, tyN, isB]
  | @short u l hu h hl =>
    have e : fIn false (.p (.str u)) (.p (.tuple [.str "least", .str "above"])) S = .ok (.p (.bool true)) S := by
      rcases hu with rfl | rfl <;> simp (decide := true) [fIn_t2]
    have e2 : sp_is_line [.p (.int n), .p (.tuple (l.map .int))] S = .ok (.p (.bool false)) S := by
      rw [is_line_t (by simp [noD]) (by simpa using hl)]
      have : ¬ ((l.length : Int) = n + 1) := by omega
      simp [isLine, this]
    simp [sp_is_wish, mf_is_wish, b_is_wish, mDef, fIsi, tyN, isB, wishD, e, e2]
  | @lst u ds hu =>
    have e : fIn false (.p (.str u)) (.p (.tuple [.str "least", .str "above"])) S = .ok (.p (.bool true)) S := by
      rcases hu with rfl | rfl <;> simp (decide := true) [fIn_t2]
    have e2 : sp_is_line [.p (.int n), .p (.list ds)] S = .ok (.p (.bool false)) S := by
      simp [sp_is_line, mf_is_line, b_is_line, mDef, fIsi, tyN, isB]
    simp [sp_is_wish, mf_is_wish, b_is_wish, mDef, fIsi, tyN, isB, e, e2]
/-- the wishes handed in: a list of such, or no list -/
inductive Ws (n : Nat) : PyData → Bool → Prop
  | lst {ds : List PyData} {bs : List Bool} (h : Paired (Wl n) ds bs) (hl : ds.length ≤ 100) : Ws n (.list ds) (decide (ds.length ≤ 12) && bs.all id)
  | tup {ds : List PyData} : Ws n (.tuple ds) false
  | non : Ws n .none false
  | str {s : Str} : Ws n (.str s) false
/-- the name: of a part behind the first one, or not -/
inductive Nm (names : List Str) : PyData → Option Nat → Prop
  | at {s : Str} {i : Nat} (h : names[i + 1]? = some s) : Nm names (.str s) (some (i + 1))
  | first {s : Str} (h : names[0]? = some s) : Nm names (.str s) none
  | no {s : Str} (h : s ∉ names) : Nm names (.str s) none
  | non : Nm names .none none
  | lst {ds : List PyData} : Nm names (.list ds) none
theorem paired_f {n : Nat} : ∀ {ds : List PyData} {bs : List Bool}, Paired (Wl n) ds bs → ∃ f : PyData → Bool, (∀ d ∈ ds, Wl n d (f d)) ∧ bs.all id = ds.all f
  | [], _, .nil => ⟨fun _ => true, (fun _ h => by cases h), rfl⟩
  | d :: ds, b :: bs, .cons h t => by
    obtain ⟨f, h1, h2⟩ := paired_f t
    by_cases hm : d ∈ ds
    · refine ⟨f, fun x hx => ?_, ?_⟩
      · rcases List.mem_cons.mp hx with e | hx
        · subst e; exact h1 x hm
        · exact h1 x hx
      · have : b = f d := by
          have a1 := is_wish_l (S := []) h
          have a2 := is_wish_l (S := []) (h1 d hm)
          rw [a1] at a2
          simpa using a2
        simp [h2, this]
    · classical
      refine ⟨fun x => if x = d then b else f x, fun x hx => ?_, ?_⟩
      · rcases List.mem_cons.mp hx with e | hx
        · subst e; simpa using h
        · have : x ≠ d := fun z => hm (z ▸ hx)
          simpa [this] using h1 x hx
      · have : ∀ x ∈ ds, (if x = d then b else f x) = f x := fun x hx => by
          have : x ≠ d := fun z => hm (z ▸ hx)
          simp [this]
        rw [List.all_cons, List.all_cons]
        simp only [id, if_true, h2]
        congr 1
        rw [Bool.eq_iff_iff, List.all_eq_true, List.all_eq_true]
        exact ⟨fun z x hx => by rw [this x hx]; exact z x hx, fun z x hx => by rw [← this x hx]; exact z x hx⟩
theorem dget2_name {env : Z.Env} {S : Store} {names : List Str} {s : Str} {j : Nat} (h3 : env[3]? = some (some (.loc S.length))) (h1 : env[1]? = some (some (.p (.str s)))) :
    mDGet2 (mVar 3) (mVar 1) (mC (.p (.int 0))) env (S ++ [.dK (numsFrom 0 names)]) = .ok ((valR (numsFrom 0 names) (Sum.inr s)).getD (.p (.int 0))) (S ++ [.dK (numsFrom 0 names)]) := by
  simp only [mDGet2, mVar_app, h3, h1, bind_ok, get_last, mC_app, keyOf]
  cases valR (numsFrom 0 names) (Sum.inr s) <;> rfl
/-- what the name and the wishes are told -/
def callDue (name : PyData) (i : Option Nat) (b : Bool) (S : Store) : Res RV := match i with
  | none => .exc 3 (some [("name", name)]) S
  | some _ => if b = true then .ok (.p .none) S else .exc 2 none S
theorem look_at_call_ok {boxes : List Str} {parts : List (Str × List Rw)} {name wishes : PyData} {i : Option Nat} {b : Bool} {S : Store} (G : Good boxes parts) (hn : Nm (parts.map (·.1)) name i) (hw : Ws (2 * boxes.length) wishes b) :
    ∃ X, sp_look_at_call [.p (prog boxes parts), .p name, .p wishes] S = callDue name i b (S ++ X) := by
  have hd := G.pd
  refine ⟨[.dK (numsFrom 0 (parts.map (·.1)))], ?_⟩
  have hp := part_numbers_ok (boxes := boxes) (S := S) hd (by have := G.p2; omega)
  cases hn with
  | non => simp [sp_look_at_call, mf_look_at_call, b_look_at_call, mDef, fIsi, tyN, isB, hp, callDue, raise1 (d := .none)]
  | @lst ds => simp [sp_look_at_call, mf_look_at_call, b_look_at_call, mDef, fIsi, tyN, isB, hp, callDue, raise1 (d := .list ds)]
  | @first s h =>
    have hv := nums_val (k := 0) hd h
    have hg := dget2_name (env := [some (.p (prog boxes parts)), some (.p (.str s)), some (.p wishes), some (.loc S.length), none, none]) (S := S) (names := parts.map (·.1)) (s := s) (j := 0) rfl rfl
    rw [hv] at hg
    simp [sp_look_at_call, mf_look_at_call, b_look_at_call, mDef, fIsi, tyN, isB, hp, callDue, hg, raise1 (d := .str s)]
  | @no s h =>
    have hv := nums_none (k := 0) h
    have hg := dget2_name (env := [some (.p (prog boxes parts)), some (.p (.str s)), some (.p wishes), some (.loc S.length), none, none]) (S := S) (names := parts.map (·.1)) (s := s) (j := 0) rfl rfl
    rw [hv] at hg
    simp [sp_look_at_call, mf_look_at_call, b_look_at_call, mDef, fIsi, tyN, isB, hp, callDue, hg, raise1 (d := .str s)]
  | @«at» s k h =>
    have hv := nums_val (k := 0) hd h
    have hg := dget2_name (env := [some (.p (prog boxes parts)), some (.p (.str s)), some (.p wishes), some (.loc S.length), none, none]) (S := S) (names := parts.map (·.1)) (s := s) (j := 0) rfl rfl
    rw [hv] at hg
    have hne : ¬ ((k : Int) + 1 = 0) := by omega
    have hg2 : mDGet2 (mVar 3) (mVar 1) (mC (.p (.int 0))) [some (.p (prog boxes parts)), some (.p (.str s)), some (.p wishes), some (.loc S.length), none, none] (S ++ [.dK (numsFrom 0 (parts.map (·.1)))]) = .ok (.p (.int ((k : Int) + 1))) (S ++ [.dK (numsFrom 0 (parts.map (·.1)))]) := by
      rw [hg]; simp
    have ho : ∀ S', fMul true (.p (.int 2)) (.p (.int boxes.length)) S' = .ok (.p (.int ((2 * boxes.length : Nat) : Int))) S' := fun S' => by
      have : (boxes.length : Int) < 2 ^ 64 := by have := G.b2; omega
      simp [fMul, fMulI]
    have hq : ∀ S', fIx (.p (prog boxes parts)) (.p (.int 0)) S' = .ok (.p (.list (boxes.map .str))) S' := fun S' => by simp [prog_eq]
    cases hw with
    | tup => simp [sp_look_at_call, mf_look_at_call, b_look_at_call, mDef, fIsi, tyN, isB, hp, callDue, hg2, hne, hq, ho]
    | non => simp [sp_look_at_call, mf_look_at_call, b_look_at_call, mDef, fIsi, tyN, isB, hp, callDue, hg2, hne, hq, ho]
    | str => simp [sp_look_at_call, mf_look_at_call, b_look_at_call, mDef, fIsi, tyN, isB, hp, callDue, hg2, hne, hq, ho]
    | @lst ds bs h hl =>
      obtain ⟨f, hf, hbs⟩ := paired_f h
      rw [hbs]
      have el : ∀ S', fLen [.p (.list ds)] S' = .ok (.p (.int ds.length)) S' := fun S' => fLen_l
      by_cases hc : ds.length ≤ 12
      · have e1 : ¬ ((12 : Int) < ds.length) := by omega
        have hlc : mLc true (iAny (mVar 2)) (bName 5) tYesM (mCall sp_is_wish (aCons (mVar 4) (aCons (mVar 5) aNil))) [5] [some (.p (prog boxes parts)), some (.p (.str s)), some (.p (.list ds)), some (.loc S.length), some (.p (.int (2 * (boxes.length : Int)))), none] (S ++ [.dK (numsFrom 0 (parts.map (·.1)))]) = .ok (.p (.list (ds.map fun d => .bool (f d)))) (S ++ [.dK (numsFrom 0 (parts.map (·.1)))]) :=
          mLc_map (d := .list ds) (items := ds) (by simp) rfl (fun d hd => ⟨_, rfl, rfl, by have := is_wish_l (S := S ++ [.dK (numsFrom 0 (parts.map (·.1)))]) (hf d hd); simp [wipeE] at this ⊢; exact this⟩) (sizeK (by omega))
        cases hall : ds.all f <;> simp [sp_look_at_call, mf_look_at_call, b_look_at_call, mDef, fIsi, tyN, isB, hp, callDue, hg2, hne, hq, ho, e1, hlc, fAll_map, hall, hc]
      · have e1 : (12 : Int) < ds.length := by omega
        simp [sp_look_at_call, mf_look_at_call, b_look_at_call, mDef, fIsi, tyN, isB, hp, callDue, hg2, hne, hq, ho, e1, hc]
end K58


set_option Elab.async false
set_option linter.all false
set_option autoImplicit false
set_option maxRecDepth 100000
set_option maxHeartbeats 4000000
/-! k58's mathematics 6: the first rows. -/
namespace K58
open PySem PySem.Spec PyProof.Rows L2 Z
/-- the box at is set to what was ahead -/
def setRow (many at_ : Nat) (b : Str) : Rw := .set b (List.replicate (1 + many + at_) 0 ++ [1] ++ List.replicate (many - at_ - 1) 0)
def claimRow (many : Nat) (w : Str × List Int) : Rw := match w.2 with
  | [] => .fin
  | a :: l => .claim w.1 (a :: (l.drop many ++ l.take many))
def firstRows (boxes more : List Str) (name : Str) (ws : List (Str × List Int)) : List Rw :=
  more.map .read ++ boxes.mapIdx (fun at_ b => setRow boxes.length at_ b) ++ [.call name] ++ ws.map (claimRow boxes.length) ++ [.fin]
noncomputable def frB : MS := (mSeq (mExp (mBM "list" fAppend (mVar 5) (aCons (mTup (aCons (mC (.p (.str "set"))) (aCons (mVar 6) (aCons (mBin (fAdd true) (mBin (fAdd true) (mBin (fMul true) (mTup (aCons (mC (.p (.int 0))) aNil)) (mBin (fAdd true) (mBin (fAdd true) (mC (.p (.int 1))) (mVar 4)) (mVar 7))) (mTup (aCons (mC (.p (.int 1))) aNil))) (mBin (fMul true) (mTup (aCons (mC (.p (.int 0))) aNil)) (mBin fSub (mBin fSub (mVar 4) (mVar 7)) (mC (.p (.int 1)))))) aNil)))) aNil)))
  mNext)
theorem frB_ok {e0 e1 e2 e3 e8 : Option RV} {many j : Nat} {b : Str} {l : List Rw} {S : Store} (hm : many ≤ 100) (hj : j < many) (hl : l.length ≤ 1000) :
    frB [e0, e1, e2, e3, some (.p (.int many)), some (.loc S.length), some (.p (.str b)), some (.p (.int j)), e8] (S ++ [.lst ((l.map Rw.d).map .p)]) =
      .nx [e0, e1, e2, e3, some (.p (.int many)), some (.loc S.length), some (.p (.str b)), some (.p (.int j)), e8] (S ++ [.lst (((l ++ [setRow many j b]).map Rw.d).map .p)]) := by
  have a1 : ∀ S', fMul true (.p (.tuple [.int 0])) (.p (.int (1 + (many : Int) + (j : Int)))) S' = .ok (.p (.tuple (List.replicate (1 + many + j) (.int 0)))) S' := fun S' => by
    have := noughts (z := true) (d := .int 0) (n := 1 + many + j) (S := S') (by omega)
    simpa using this
  have a2 : ∀ S', fMul true (.p (.tuple [.int 0])) (.p (.int ((many : Int) - (j : Int) - 1))) S' = .ok (.p (.tuple (List.replicate (many - j - 1) (.int 0)))) S' := fun S' => by
    have := noughts (z := true) (d := .int 0) (n := many - j - 1) (S := S') (by omega)
    rwa [show ((many - j - 1 : Nat) : Int) = (many : Int) - (j : Int) - 1 by omega] at this
  have a3 : ∀ S', fAdd true (.p (.tuple (List.replicate (1 + many + j) (.int 0)))) (.p (.tuple [.int 1])) S' = .ok (.p (.tuple (List.replicate (1 + many + j) (.int 0) ++ [.int 1]))) S' := fun S' => fAdd_tt (sizeK (by simp; omega))
  have a4 : ∀ S', fAdd true (.p (.tuple (List.replicate (1 + many + j) (.int 0) ++ [.int 1]))) (.p (.tuple (List.replicate (many - j - 1) (.int 0)))) S' = .ok (.p (.tuple ((List.replicate (1 + many + j) (0 : Int) ++ [1] ++ List.replicate (many - j - 1) 0).map .int))) S' := fun S' => by
    rw [fAdd_tt (sizeK (by simp; omega))]; simp
  have a5 := fAppend_last (S := S) (l := (l.map Rw.d).map .p) (y := .p (setRow many j b).d) (X := []) (by simp; omega)
  unfold frB
  simp only [mSeq_app, mExp_app, mBM_app, mVar_app, mBin_app, mTup_app, aCons_app, aNil_app, mC_app, bind_ok, List.getElem?_cons_succ, List.getElem?_cons_zero, tyOk_last, if_true, mkT_1, fAdd_i, fSub_i, a1, a2, a3, a4, mkT_3, eS_ok, seqR_nx, mNext_app]
  have e : (PyData.tuple [.str "set", .str b, .tuple ((List.replicate (1 + many + j) (0 : Int) ++ [1] ++ List.replicate (many - j - 1) 0).map .int)]) = (setRow many j b).d := rfl
  rw [e, a5]
  simp
theorem mapIdx_take {α β : Type} {l : List α} {g : Nat → α → β} {j : Nat} {a : α} (h : l[j]? = some a) : ((l.mapIdx g).take (j + 1)) = (l.mapIdx g).take j ++ [g j a] := by
  rw [List.take_succ, List.getElem?_mapIdx, h]; rfl
theorem first_rows_loop {boxes more : List Str} {e0 e1 e2 e3 : Option RV} {S : Store} (hb : boxes.length ≤ 100) (hmo : more.length ≤ 100) : ∃ x6 x7,
    runFor (bTup 2 (bsCons (bName 7) (bsCons (bName 6) bsNil))) frB (fun _ => true) (enumI ((boxes.map PyData.str).map RV.p)) [e0, e1, e2, e3, some (.p (.int boxes.length)), some (.loc S.length), none, none, none] (S ++ [.lst (((more.map Rw.read).map Rw.d).map .p)]) =
      .nx [e0, e1, e2, e3, some (.p (.int boxes.length)), some (.loc S.length), x6, x7, none] (S ++ [.lst (((more.map Rw.read ++ boxes.mapIdx (fun at_ b => setRow boxes.length at_ b)).map Rw.d).map .p)]) := by
  obtain ⟨e', S', h1, x6, x7, he, hS⟩ := runFor_inv (b := bTup 2 (bsCons (bName 7) (bsCons (bName 6) bsNil))) (body := frB) (items := enumI ((boxes.map PyData.str).map RV.p))
    (fun j env S' => ∃ x6 x7, env = [e0, e1, e2, e3, some (.p (.int boxes.length)), some (.loc S.length), x6, x7, none] ∧ S' = S ++ [.lst (((more.map Rw.read ++ (boxes.mapIdx (fun at_ b => setRow boxes.length at_ b)).take j).map Rw.d).map .p)])
    (fun j it env S' hit ⟨x6, x7, he, hS⟩ => by
      subst he hS
      obtain ⟨r, rfl, hr⟩ := get_enum hit
      rw [List.getElem?_map, List.getElem?_map] at hr
      obtain ⟨d, hd1, rfl⟩ := Option.map_eq_some_iff.mp hr
      obtain ⟨b, hb1, rfl⟩ := Option.map_eq_some_iff.mp hd1
      have hj : j < boxes.length := (List.getElem?_eq_some_iff.mp hb1).1
      refine ⟨_, _, _, _, by rw [mkI_ip, bTup_p]; rfl, .inl (frB_ok (b := b) hb hj (by simp; omega)), _, _, rfl, ?_⟩
      rw [mapIdx_take hb1]; simp)
    (env := [e0, e1, e2, e3, some (.p (.int boxes.length)), some (.loc S.length), none, none, none]) (S := S ++ [.lst (((more.map Rw.read).map Rw.d).map .p)]) ⟨_, _, rfl, by simp⟩
  refine ⟨x6, x7, ?_⟩
  rw [h1, he, hS, enumI_len, List.length_map, List.length_map, List.take_of_length_le (by simp)]
theorem first_rows_ok {boxes more : List Str} {nm : Str} {ws : List (Str × List Int)} {S : Store} (hb : boxes.length ≤ 100) (hmo : more.length ≤ 100) (hw : ws.length ≤ 100) (hl : ∀ w ∈ ws, 1 ≤ w.2.length ∧ w.2.length ≤ 1000) :
    ∃ c, sp_first_rows [.p (.list (boxes.map .str)), .p (.list (more.map .str)), .p (.str nm), .p (.list (ws.map fun w => wishD w.1 w.2))] S = .ok (.loc (S.length + 1)) (S ++ [c, .lst (((firstRows boxes more nm ws).map Rw.d).map .p)]) := by
  obtain ⟨x6, x7, hloop⟩ := first_rows_loop (boxes := boxes) (more := more) (e0 := some (.p (.list (boxes.map .str)))) (e1 := some (.p (.list (more.map .str)))) (e2 := some (.p (.str nm))) (e3 := some (.p (.list (ws.map fun w => wishD w.1 w.2)))) (S := S) hb hmo
  have h1 : mLc false (iAny (mVar 1)) (bName 6) tYesM (mTup (aCons (mC (.p (.str "read"))) (aCons (mVar 6) aNil))) [6] [some (.p (.list (boxes.map .str))), some (.p (.list (more.map .str))), some (.p (.str nm)), some (.p (.list (ws.map fun w => wishD w.1 w.2))), some (.p (.int boxes.length)), none, none, none, none] S
      = .ok (.loc S.length) (S ++ [.lst (((more.map Rw.read).map Rw.d).map .p)]) := by
    have := mLc_mapF (f := fun d => .tuple [.str "read", d]) (m := mVar 1) (bd := bName 6) (tt := tYesM) (te := mTup (aCons (mC (.p (.str "read"))) (aCons (mVar 6) aNil))) (vs := [6]) (env := [some (.p (.list (boxes.map .str))), some (.p (.list (more.map .str))), some (.p (.str nm)), some (.p (.list (ws.map fun w => wishD w.1 w.2))), some (.p (.int boxes.length)), none, none, none, none]) (S := S)
      (d := .list (more.map .str)) (items := more.map .str) (by simp) rfl (fun d hd => ⟨_, rfl, rfl, by simp [wipeE]⟩) (sizeK (by simp; omega))
    rw [this, List.map_map, List.map_map, List.map_map]; rfl
  have h2 : ∀ S', mLc true (iAny (mVar 3)) (bName 8) tYesM (mCall sp_claim_of (aCons (mVar 8) (aCons (mVar 4) aNil))) [8] [some (.p (.list (boxes.map .str))), some (.p (.list (more.map .str))), some (.p (.str nm)), some (.p (.list (ws.map fun w => wishD w.1 w.2))), some (.p (.int boxes.length)), some (.loc S.length), x6, x7, none] S'
      = .ok (.p (.list ((ws.map (claimRow boxes.length)).map Rw.d))) S' := fun S' => by
    have := mLc_map (f := fun d => match d with
        | .tuple [.str u, .tuple (a :: l)] => .tuple [.str "claim", .tuple [.str u, .tuple (a :: (l.drop boxes.length ++ l.take boxes.length))]]
        | _ => .none) (m := mVar 3) (bd := bName 8) (tt := tYesM) (te := mCall sp_claim_of (aCons (mVar 8) (aCons (mVar 4) aNil))) (vs := [8]) (env := [some (.p (.list (boxes.map .str))), some (.p (.list (more.map .str))), some (.p (.str nm)), some (.p (.list (ws.map fun w => wishD w.1 w.2))), some (.p (.int boxes.length)), some (.loc S.length), x6, x7, none]) (S := S')
      (d := .list (ws.map fun w => wishD w.1 w.2)) (items := ws.map fun w => wishD w.1 w.2) (by simp) rfl (fun d hd => by
        obtain ⟨⟨u, l⟩, hw', rfl⟩ := List.mem_map.mp hd
        obtain ⟨q1, q2⟩ := hl _ hw'
        cases l with
        | nil => simp at q1
        | cons a l =>
          have := claim_of_ok (u := u) (a := a) (l := l) (n := boxes.length) (S := S') (by simp at q2; omega)
          simp only [wishD, Rw.d, List.map_cons, List.map_append, List.map_drop, List.map_take] at this
          exact ⟨_, rfl, rfl, by simp [wipeE, wishD, this]⟩) (sizeK (by simp; omega))
    rw [this, List.map_map, List.map_map]
    congr 3
    apply List.map_congr_left
    rintro ⟨u, l⟩ hw'
    obtain ⟨q1, q2⟩ := hl _ hw'
    cases l with
    | nil => simp at q1
    | cons a l => simp [wishD, claimRow, Rw.d]
  refine ⟨.lst (((more.map Rw.read ++ boxes.mapIdx (fun at_ b => setRow boxes.length at_ b)).map Rw.d).map .p), ?_⟩
  unfold sp_first_rows mf_first_rows mDef b_first_rows
  unfold frB at hloop
  simp only [List.length_cons, List.length_nil, Nat.zero_add, if_true, List.map_cons, List.map_nil, List.cons_append, List.nil_append, List.replicate]
  have b1 : ∀ (l : List PyData) (x : PyData), l.length ≤ 1000 → fAdd true (.loc S.length) (.p (.list [x])) (S ++ [.lst (l.map .p)]) = .ok (.p (.list (l ++ [x]))) (S ++ [.lst (l.map .p)]) := fun l x hx => by
    rw [fAdd_cl, ← List.map_append, mkL_p, if_pos (sizeK (by simp; omega))]
  have b3 : ∀ (l : List PyData) (x : PyData) (S' : Store), l.length ≤ 1000 → fAdd false (.p (.list l)) (.p (.list [x])) S' = .ok (.loc S'.length) (S' ++ [.lst ((l ++ [x]).map .p)]) := fun l x S' hx => by
    have : l.length + 1 ≤ sizeLine := sizeK (by omega)
    simp [fAdd, mkL, this]
  have hz : ((more.map Rw.read ++ boxes.mapIdx (fun at_ b => setRow boxes.length at_ b)).map Rw.d).length ≤ 1000 := by simp; omega
  have c1 := b1 _ (.tuple [.str "call", .str nm]) hz
  have c2 : ∀ S', fAdd true (.p (.list ((more.map Rw.read ++ boxes.mapIdx (fun at_ b => setRow boxes.length at_ b)).map Rw.d ++ [.tuple [.str "call", .str nm]]))) (.p (.list ((ws.map (claimRow boxes.length)).map Rw.d))) S' = .ok (.p (.list (((more.map Rw.read ++ boxes.mapIdx (fun at_ b => setRow boxes.length at_ b)).map Rw.d ++ [.tuple [.str "call", .str nm]]) ++ (ws.map (claimRow boxes.length)).map Rw.d))) S' := fun S' =>
    fAdd_ll (sizeK (by simp; omega))
  simp only [mSeq_app, mAsg_app, mCall_app, aCons_app, aNil_app, mVar_app, List.getElem?_cons_zero, bind_ok, fLen_l, List.length_map, eS_ok, bName_app, List.set, asgR_ok, seqR_nx, h1, mFor_app]
  rw [iEnu_of (ds := boxes.map .str) (by simp)]
  simp only [eS_ok, hloop, seqR_nx, mSeq_app, mRet_app, mBin_app, mVar_app, List.getElem?_cons_succ, List.getElem?_cons_zero, bind_ok, mLst_app, aCons_app, aNil_app, mTup_app, mC_app, mkT_2, mkT_1, mkL_1, c1, h2, c2]
  rw [b3 _ _ _ (by simp; omega)]
  simp [firstRows, Rw.d]
end K58


set_option Elab.async false
set_option linter.all false
set_option autoImplicit false
set_option maxRecDepth 100000
set_option maxHeartbeats 4000000
/-! k58's mathematics 7: framed. -/
namespace K58
open PySem PySem.Spec PyProof.Rows L2 Z
/-- the rows of a part over many boxes more -/
theorem wider_rows_ok {rows : List Rw} {n : Nat} {env : Z.Env} {S : Store} (hn : n ≤ 1000) (hl : rows.length ≤ 1000) (h5 : (env.set 12 none)[5]? = some (some (.p (.int n)))) (h11 : env[11]? = some (some (.p (.list (rows.map Rw.d))))) (h12 : 12 < env.length)
    (hr : ∀ r ∈ rows, ∀ S, sp_wider_row [.p r.d, .p (.int n)] S = .ok (.p (r.wider n).d) S) :
    mLc true (iAny (mVar 11)) (bName 12) tYesM (mCall sp_wider_row (aCons (mVar 12) (aCons (mVar 5) aNil))) [12] env S = .ok (.p (.list ((rows.map (Rw.wider n)).map Rw.d))) S := by
  have h5' : env[5]? = some (some (.p (.int n))) := by rwa [List.getElem?_set_ne (by omega)] at h5
  have := mLc_map (f := fun d => match sp_wider_row [.p d, .p (.int n)] S with
      | .ok (.p d') _ => d'
      | _ => .none) (m := mVar 11) (bd := bName 12) (tt := tYesM) (te := mCall sp_wider_row (aCons (mVar 12) (aCons (mVar 5) aNil))) (vs := [12]) (env := env) (S := S) (d := .list (rows.map Rw.d)) (items := rows.map Rw.d) (by simp [h11]) rfl (fun d hd => by
      obtain ⟨r, hr', rfl⟩ := List.mem_map.mp hd
      refine ⟨_, rfl, rfl, ?_⟩
      have e1 : ((wipeE env [12]).set 12 (some (.p r.d)))[12]? = some (some (.p r.d)) := by rw [List.getElem?_set_self (by simpa [wipeE] using h12)]
      have e2 : ((wipeE env [12]).set 12 (some (.p r.d)))[5]? = some (some (.p (.int n))) := by
        rw [List.getElem?_set_ne (by omega)]; simpa [wipeE] using h5
      simp only [mCall_app, aCons_app, mVar_app, e1, e2, aNil_app, bind_ok, hr r hr' S]) (sizeK (by simp; omega))
  rw [this, List.map_map, List.map_map]
  congr 3
  apply List.map_congr_left
  intro r hr'
  simp [hr r hr' S]
noncomputable def fmB : MS := (mSeq (mExp (mBM "list" fAppend (mVar 9) (aCons (mTup (aCons (mVar 10) (aCons (mLc true (iAny (mVar 11)) (bName 12) tYesM (mCall sp_wider_row (aCons (mVar 12) (aCons (mVar 5) aNil))) [12]) aNil))) aNil)))
  mNext)
theorem fmB_ok {e0 e1 e2 e3 e4 e6 e7 e8 e12 : Option RV} {n : Nat} {p : Str × List Rw} {l : List RV} {T X : Store} (hn : n ≤ 1000) (hp : p.2.length ≤ 1000) (hl : l.length ≤ 1000) (hr : ∀ r ∈ p.2, ∀ S, sp_wider_row [.p r.d, .p (.int n)] S = .ok (.p (r.wider n).d) S) :
    fmB [e0, e1, e2, e3, e4, some (.p (.int n)), e6, e7, e8, some (.loc T.length), some (.p (.str p.1)), some (.p (.list (p.2.map Rw.d))), e12] (T ++ .lst l :: X) =
      .nx [e0, e1, e2, e3, e4, some (.p (.int n)), e6, e7, e8, some (.loc T.length), some (.p (.str p.1)), some (.p (.list (p.2.map Rw.d))), e12] (T ++ .lst (l ++ [.p (partD p.1 ((p.2.map (Rw.wider n)).map Rw.d))]) :: X) := by
  have h := wider_rows_ok (rows := p.2) (n := n) (env := [e0, e1, e2, e3, e4, some (.p (.int n)), e6, e7, e8, some (.loc T.length), some (.p (.str p.1)), some (.p (.list (p.2.map Rw.d))), e12]) (S := T ++ .lst l :: X) hn hp rfl rfl (by simp) hr
  have ha := fAppend_last (S := T) (l := l) (y := .p (partD p.1 ((p.2.map (Rw.wider n)).map Rw.d))) (X := X) (by omega)
  unfold fmB
  simp only [mSeq_app, mExp_app, mBM_app, mVar_app, mTup_app, aCons_app, aNil_app, bind_ok, List.getElem?_cons_succ, List.getElem?_cons_zero, tyOk_last, if_true, h, mkT_2]
  rw [show (PyData.tuple [.str p.1, .list ((p.2.map (Rw.wider n)).map Rw.d)]) = partD p.1 ((p.2.map (Rw.wider n)).map Rw.d) from rfl, ha]
  simp
theorem fm_loop {e0 e1 e2 e3 e4 e6 e7 e8 : Option RV} {n : Nat} {ps : List (Str × List Rw)} {l : List RV} {T X : Store} (hn : n ≤ 1000) (hps : ps.length ≤ 100) (hp : ∀ p ∈ ps, p.2.length ≤ 1000) (hl : l.length ≤ 100) (hr : ∀ p ∈ ps, ∀ r ∈ p.2, ∀ S, sp_wider_row [.p r.d, .p (.int n)] S = .ok (.p (r.wider n).d) S) : ∃ x10 x11,
    runFor (bTup 2 (bsCons (bName 10) (bsCons (bName 11) bsNil))) fmB (fun _ => true) (((ps.map fun p => partD p.1 (p.2.map Rw.d)).map RV.p).map Item.one) [e0, e1, e2, e3, e4, some (.p (.int n)), e6, e7, e8, some (.loc T.length), none, none, none] (T ++ .lst l :: X) =
      .nx [e0, e1, e2, e3, e4, some (.p (.int n)), e6, e7, e8, some (.loc T.length), x10, x11, none] (T ++ .lst (l ++ ps.map fun p => .p (partD p.1 ((p.2.map (Rw.wider n)).map Rw.d))) :: X) := by
  obtain ⟨e', S', h1, x10, x11, he, hS⟩ := runFor_inv (b := bTup 2 (bsCons (bName 10) (bsCons (bName 11) bsNil))) (body := fmB) (items := ((ps.map fun p => partD p.1 (p.2.map Rw.d)).map RV.p).map Item.one)
    (fun j env S' => ∃ x10 x11, env = [e0, e1, e2, e3, e4, some (.p (.int n)), e6, e7, e8, some (.loc T.length), x10, x11, none] ∧ S' = T ++ .lst (l ++ (ps.take j).map fun p => .p (partD p.1 ((p.2.map (Rw.wider n)).map Rw.d))) :: X)
    (fun j it env S' hit ⟨x10, x11, he, hS⟩ => by
      subst he hS
      obtain ⟨r, rfl, hr0⟩ := get_one hit
      rw [List.getElem?_map, List.getElem?_map] at hr0
      obtain ⟨d, hd1, rfl⟩ := Option.map_eq_some_iff.mp hr0
      obtain ⟨p, hp1, rfl⟩ := Option.map_eq_some_iff.mp hd1
      have hm := List.mem_of_getElem? hp1
      have e0' : ps.take (j + 1) = ps.take j ++ [p] := by rw [List.take_succ, hp1]; rfl
      refine ⟨_, _, _, _, by rw [mkI_one, partD, bTup_p]; rfl, .inl (fmB_ok (p := p) hn (hp p hm) (by simp; omega) (hr p hm)), _, _, rfl, ?_⟩
      rw [e0']; simp)
    (env := [e0, e1, e2, e3, e4, some (.p (.int n)), e6, e7, e8, some (.loc T.length), none, none, none]) (S := T ++ .lst l :: X) ⟨_, _, rfl, by simp⟩
  refine ⟨x10, x11, ?_⟩
  rw [h1, he, hS, List.length_map, List.length_map, List.length_map, List.take_of_length_le (Nat.le_refl _)]
end K58


set_option Elab.async false
set_option linter.all false
set_option autoImplicit false
set_option maxRecDepth 100000
set_option maxHeartbeats 4000000
/-! k58's mathematics 8: framed, joined. -/
namespace K58
open PySem PySem.Spec PyProof.Rows L2 Z
/-- what framed tells, as cells behind T -/
def frCells (c : Cell) (dk : Cell) (boxes more : List Str) (first nm : Str) (ws : List (Str × List Int)) (rest : List (Str × List Rw)) (t : Nat) : Store :=
  [c, .lst (((firstRows boxes more nm ws).map Rw.d).map .p), .tup [.p (.str first), .loc (t + 1)],
    .lst (.loc (t + 2) :: rest.map fun p => .p (partD p.1 ((p.2.map (Rw.wider boxes.length)).map Rw.d))), dk, .lst (((boxes ++ more).map PyData.str).map .p), .tup [.loc (t + 5), .loc (t + 3)]]
theorem frCells_len {c dk : Cell} {boxes more : List Str} {first nm : Str} {ws : List (Str × List Int)} {rest : List (Str × List Rw)} {t : Nat} : (frCells c dk boxes more first nm ws rest t).length = 7 := rfl
theorem lettersOf_len {names : List Str} {many : Nat} : (lettersOf names many).length ≤ 26 := by
  unfold lettersOf
  rw [List.length_take]
  have h1 := List.length_filter_le (fun s => !decide (s ∈ names)) (letters.cps.toList.map fun c => (⟨#[c]⟩ : Str))
  have h2 : (letters.cps.toList.map fun c => (⟨#[c]⟩ : Str)).length = 26 := by decide
  omega
theorem wishes_good {n : Nat} {ws : List (Str × List Int)} (hb : n ≤ 4) (hw : ws.length ≤ 12) (hws : ∀ w ∈ ws, wishOk (2 * n) w.1 w.2) : Ws (2 * n) (.list (ws.map fun w => wishD w.1 w.2)) true := by
  have hp : Paired (Wl (2 * n)) (ws.map fun w => wishD w.1 w.2) (ws.map fun _ => true) := by
    clear hw
    induction ws with
    | nil => exact .nil
    | cons w ws ih => exact .cons (.good (hws w (List.mem_cons_self ..)) (by omega)) (ih fun x hx => hws x (List.mem_cons_of_mem _ hx))
  have := Ws.lst hp (by simp; omega)
  have e : (decide ((ws.map fun w => wishD w.1 w.2).length ≤ 12) && (ws.map fun _ => true).all id) = true := by simp [hw]
  rwa [e] at this
theorem framed_ok {boxes : List Str} {parts : List (Str × List Rw)} {nm first : Str} {i : Nat} {ws : List (Str × List Int)} {S : Store} (G : Good boxes parts) (hb : boxes.length ≤ 4) (hp : parts.length ≤ 5) (hn : (parts.map (·.1))[i + 1]? = some nm) (hw : ws.length ≤ 12) (hws : ∀ w ∈ ws, wishOk (2 * boxes.length) w.1 w.2)
    (hf : lettersOf (parts.map (·.1)) 1 = [first]) (hwr : ∀ p ∈ parts, ∀ r ∈ p.2, ∀ S, sp_wider_row [.p r.d, .p (.int boxes.length)] S = .ok (.p (r.wider boxes.length).d) S) :
    ∃ T c dk, S <+: T ∧ sp_framed [.p (prog boxes parts), .p (.str nm), .p (.list (ws.map fun w => wishD w.1 w.2))] S = .ok (.loc (T.length + 6)) (T ++ frCells c dk boxes (lettersOf boxes boxes.length) first nm ws (parts.drop (i + 1)) T.length) := by
  obtain ⟨X1, h1⟩ := look_at_ok (S := S) G
  have h2 : sp_look_at_size [.p (prog boxes parts)] (S ++ X1) = .ok (.p .none) (S ++ X1) := by rw [look_at_size_ok, if_neg (by omega), if_neg (by omega)]
  obtain ⟨X2, h3⟩ := look_at_call_ok (S := S ++ X1) (name := .str nm) (i := some (i + 1)) (b := true) G (.at hn) (wishes_good hb hw hws)
  simp only [callDue, if_true] at h3
  have hT : S <+: S ++ X1 ++ X2 := (List.prefix_append S X1).trans (List.prefix_append _ X2)
  generalize S ++ X1 ++ X2 = T at h3 hT
  have hll := lettersOf_len (names := boxes) (many := boxes.length)
  obtain ⟨c, h4⟩ := first_rows_ok (boxes := boxes) (more := lettersOf boxes boxes.length) (nm := nm) (ws := ws) (S := T) (by omega) (by omega) (by omega) (fun w hw' => by have := (hws w hw').2; omega)
  have hpn := part_numbers_ok (boxes := boxes) (parts := parts) (S := T ++ [c, .lst (((firstRows boxes (lettersOf boxes boxes.length) nm ws).map Rw.d).map .p), .tup [.p (.str first), .loc (T.length + 1)], .lst [.loc (T.length + 2)]]) G.pd (by omega)
  have hi : i + 1 < parts.length := by have := (List.getElem?_eq_some_iff.mp hn).1; simpa using this
  have hval := nums_val (k := 0) G.pd hn
  have hlet : ∀ S, sp_letters_without [.p (.list (boxes.map .str)), .p (.int boxes.length)] S = .ok (.p (.list ((lettersOf boxes boxes.length).map .str))) S := fun S => letters_without_ok
  have hlet1 : ∀ S, sp_letters_without [.p (.list ((parts.map (·.1)).map .str)), .p (.int 1)] S = .ok (.p (.list [.str first])) S := fun S => by
    have := letters_without_ok (names := parts.map (·.1)) (many := 1) (S := S)
    rw [hf] at this; simpa using this
  have hlc : mLc true (iAny (mVar 4)) (bName 8) tYesM (mBin fIx (mVar 8) (mC (.p (.int 0)))) [8] [some (.p (prog boxes parts)), some (.p (.str nm)), some (.p (.list (ws.map fun w => wishD w.1 w.2))), some (.p (.list (boxes.map .str))), some (.p (.list (parts.map fun p => partD p.1 (p.2.map Rw.d)))), some (.p (.int boxes.length)), some (.p (.list ((lettersOf boxes boxes.length).map .str))), none, none, none, none, none, none] T = .ok (.p (.list ((parts.map (·.1)).map .str))) T := by
    have := mLc_map (f := fun d => match d with
        | .tuple (x :: _) => x
        | _ => .none) (m := mVar 4) (bd := bName 8) (tt := tYesM) (te := mBin fIx (mVar 8) (mC (.p (.int 0)))) (vs := [8]) (env := [some (.p (prog boxes parts)), some (.p (.str nm)), some (.p (.list (ws.map fun w => wishD w.1 w.2))), some (.p (.list (boxes.map .str))), some (.p (.list (parts.map fun p => partD p.1 (p.2.map Rw.d)))), some (.p (.int boxes.length)), some (.p (.list ((lettersOf boxes boxes.length).map .str))), none, none, none, none, none, none]) (S := T)
      (d := .list (parts.map fun p => partD p.1 (p.2.map Rw.d))) (items := parts.map fun p => partD p.1 (p.2.map Rw.d)) (by simp) rfl (fun d hd => by
        obtain ⟨q, hq, rfl⟩ := List.mem_map.mp hd
        exact ⟨_, rfl, rfl, by simp [wipeE, partD]⟩) (sizeK (by simp; omega))
    rw [this, List.map_map, List.map_map]; rfl
  obtain ⟨x10, x11, hloop⟩ := fm_loop (e0 := some (.p (prog boxes parts))) (e1 := some (.p (.str nm))) (e2 := some (.p (.list (ws.map fun w => wishD w.1 w.2)))) (e3 := some (.p (.list (boxes.map .str)))) (e4 := some (.p (.list (parts.map fun p => partD p.1 (p.2.map Rw.d))))) (e6 := some (.p (.list ((lettersOf boxes boxes.length).map .str)))) (e7 := some (.p (.str first))) (e8 := none) (n := boxes.length) (ps := parts.drop (i + 1)) (l := [.loc (T.length + 2)])
    (T := T ++ [c, .lst (((firstRows boxes (lettersOf boxes boxes.length) nm ws).map Rw.d).map .p), .tup [.p (.str first), .loc (T.length + 1)]]) (X := [.dK (numsFrom 0 (parts.map (·.1)))]) (by omega) (by simp; omega) (fun p hp' => by have := (G.r1 p (List.mem_of_mem_drop hp')).2; omega) (by simp) (fun p hp' => hwr p (List.mem_of_mem_drop hp'))
  refine ⟨T, c, .dK (numsFrom 0 (parts.map (·.1))), hT, ?_⟩
  unfold sp_framed mf_framed mDef b_framed
  unfold fmB at hloop
  have hpr : prog boxes parts = .tuple [.list (boxes.map .str), .list (parts.map fun p => partD p.1 (p.2.map Rw.d))] := rfl
  have hun : ∀ env S, bTup 2 (bsCons (bName 3) (bsCons (bName 4) bsNil)) (.p (prog boxes parts)) env S = .ok ((env.set 3 (some (.p (.list (boxes.map .str))))).set 4 (some (.p (.list (parts.map fun p => partD p.1 (p.2.map Rw.d)))))) S := fun env S => by
    rw [hpr, bTup_p, if_pos (by rfl)]; rfl
  simp only [List.length_cons, List.length_nil, Nat.zero_add, if_true, List.map_cons, List.map_nil, List.cons_append, List.nil_append, List.replicate]
  simp only [mSeq_app, mExp_app, mAsg_app, mCall_app, aCons_app, aNil_app, mVar_app, List.getElem?_cons_zero, List.getElem?_cons_succ, bind_ok, h1, eS_ok, seqR_nx, h2, h3, hun, asgR_ok, List.set, fLen_l, List.length_map, bName_app, hlet, mBin_app, hlc, mC_app, hlet1, fIx_l, atI_0, mLst_app, mTup_app, h4]
  have t1 : ∀ (k : Nat) (S : Store), mkT [.p (.str first), .loc k] S = .ok (.loc S.length) (S ++ [.tup [.p (.str first), .loc k]]) := fun k S => by simp [mkT, allP, sizeLine_eq]
  have t2 : ∀ (j k : Nat) (S : Store), mkT [.loc j, .loc k] S = .ok (.loc S.length) (S ++ [.tup [.loc j, .loc k]]) := fun j k S => by simp [mkT, allP, sizeLine_eq]
  have a1 : ∀ S, fAdd false (.p (.list (boxes.map .str))) (.p (.list ((lettersOf boxes boxes.length).map .str))) S = .ok (.loc S.length) (S ++ [.lst (((boxes ++ lettersOf boxes boxes.length).map PyData.str).map .p)]) := fun S => by
    have : boxes.length + (lettersOf boxes boxes.length).length ≤ sizeLine := sizeK (by omega)
    simp [fAdd, mkL, this]
  have hsl : ∀ S, fSl true (.p (.list (parts.map fun p => partD p.1 (p.2.map Rw.d)))) (some ((i : Int) + 1)) none S = .ok (.p (.list ((parts.drop (i + 1)).map fun p => partD p.1 (p.2.map Rw.d)))) S := fun S => by
    rw [fSl_l (sizeK (by simp; omega))]
    have := cutG_from (l := parts.map fun p => partD p.1 (p.2.map Rw.d)) (i + 1)
    rw [show ((i : Int) + 1) = ((i + 1 : Nat) : Int) by omega, this, List.map_drop]
  simp only [t1, bind_ok, mkLf_1, eS_ok, seqR_nx, List.length_append, List.length_cons, List.length_nil, List.append_assoc, List.cons_append, List.nil_append, mSeq_app, mFor_app]
  simp only [List.append_assoc, List.cons_append, List.nil_append] at hpn
  have hia : ∀ env : Z.Env, env[0]? = some (some (.p (prog boxes parts))) → env[1]? = some (some (.p (.str nm))) → env[4]? = some (some (.p (.list (parts.map fun p => partD p.1 (p.2.map Rw.d))))) → iAny (mSl (fSl true) (mVar 4) (oSo (mBin fDGet (mCall sp_part_numbers (aCons (mVar 0) aNil)) (mVar 1))) oNo) env (T ++ [c, .lst (((firstRows boxes (lettersOf boxes boxes.length) nm ws).map Rw.d).map .p), .tup [.p (.str first), .loc (T.length + 1)], .lst [.loc (T.length + 2)]])
      = .ok ((((parts.drop (i + 1)).map fun p => partD p.1 (p.2.map Rw.d)).map RV.p).map .one, fun _ => true) (T ++ [c, .lst (((firstRows boxes (lettersOf boxes boxes.length) nm ws).map Rw.d).map .p), .tup [.p (.str first), .loc (T.length + 1)], .lst [.loc (T.length + 2)], .dK (numsFrom 0 (parts.map (·.1)))]) := fun env h0 h1 h4 => by
    have hdg : fDGet (.loc (T.length + 4)) (.p (.str nm)) (T ++ [c, .lst (((firstRows boxes (lettersOf boxes boxes.length) nm ws).map Rw.d).map .p), .tup [.p (.str first), .loc (T.length + 1)], .lst [.loc (T.length + 2)], .dK (numsFrom 0 (parts.map (·.1)))]) = .ok (.p (.int ((i : Int) + 1))) (T ++ [c, .lst (((firstRows boxes (lettersOf boxes boxes.length) nm ws).map Rw.d).map .p), .tup [.p (.str first), .loc (T.length + 1)], .lst [.loc (T.length + 2)], .dK (numsFrom 0 (parts.map (·.1)))]) := by
      have hg : (T ++ [c, .lst (((firstRows boxes (lettersOf boxes boxes.length) nm ws).map Rw.d).map .p), .tup [.p (.str first), .loc (T.length + 1)], .lst [.loc (T.length + 2)], .dK (numsFrom 0 (parts.map (·.1)))])[T.length + 4]? = some (.dK (numsFrom 0 (parts.map (·.1)))) := by simp
      simp [fDGet, hg, keyOf, hval]
    simp only [iAny, mSl_app, mVar_app, h4, bind_ok, oSo_app, mBin_app, mCall_app, aCons_app, h0, aNil_app, hpn, h1, List.length_append, List.length_cons, List.length_nil, Nat.zero_add, Nat.reduceAdd, hdg, osoR_i, oNo_app, hsl]
  simp only [hia, List.getElem?_cons_zero, List.getElem?_cons_succ, eS_ok]
  simp only [List.length_append, List.length_cons, List.length_nil, Nat.zero_add, Nat.reduceAdd, List.append_assoc, List.cons_append, List.nil_append] at hloop
  simp only [Nat.zero_add, Nat.reduceAdd, hloop, seqR_nx, mSeq_app, mRet_app, mTup_app, aCons_app, mBin_app, mVar_app, List.getElem?_cons_zero, List.getElem?_cons_succ, bind_ok, a1, aNil_app, t2, eS_ok, seqR_rt, fin_rt, frCells, List.length_append, List.length_cons, List.length_nil, List.append_assoc, List.cons_append, List.nil_append]
end K58


set_option Elab.async false
set_option linter.all false
set_option autoImplicit false
set_option maxRecDepth 100000
set_option maxHeartbeats 4000000
/-! k58's mathematics 9: the framed program is a good one. -/
namespace K58
open PySem PySem.Spec PyProof.Rows L2 Z
def lettersL : List Str := letters.cps.toList.map fun c => (⟨#[c]⟩ : Str)
theorem lettersL_nd : lettersL.Nodup := by decide +kernel
theorem lettersL_ok : ∀ s ∈ lettersL, nameOk s := by unfold nameOk; decide +kernel
theorem lettersL_len : lettersL.length = 26 := by decide +kernel
theorem lettersOf_eq {names : List Str} {many : Nat} : lettersOf names many = (lettersL.filter fun s => !decide (s ∈ names)).take many := rfl
theorem lettersOf_mem {names : List Str} {many : Nat} {s : Str} (h : s ∈ lettersOf names many) : s ∈ lettersL ∧ s ∉ names := by
  rw [lettersOf_eq] at h
  have := List.mem_filter.mp (List.mem_of_mem_take h)
  exact ⟨this.1, by simpa using this.2⟩
theorem lettersOf_nd {names : List Str} {many : Nat} : (lettersOf names many).Nodup := by
  rw [lettersOf_eq]
  exact (lettersL_nd.sublist (List.filter_sublist ..)).sublist (List.take_sublist ..)
theorem nd_le : ∀ (l names : List Str), l.Nodup → (∀ s ∈ l, s ∈ names) → l.length ≤ names.length := by
  intro l
  induction l with
  | nil => intro names _ _; simp
  | cons a l ih =>
    intro names hn hs
    rw [List.nodup_cons] at hn
    have ha := hs a (List.mem_cons_self ..)
    have := ih (names.erase a) hn.2 fun s hs' => (List.mem_erase_of_ne (fun z : s = a => hn.1 (z ▸ hs'))).mpr (hs s (List.mem_cons_of_mem _ hs'))
    rw [List.length_erase_of_mem ha] at this
    have : 0 < names.length := List.length_pos_of_mem ha
    rw [List.length_cons]; omega
theorem filt_len (names L : List Str) (h : L.Nodup) : L.length ≤ (L.filter fun s => !decide (s ∈ names)).length + names.length := by
  have h1 := nd_le (L.filter fun s => decide (s ∈ names)) names (h.sublist (List.filter_sublist ..)) fun s hs => by simpa using (List.mem_filter.mp hs).2
  have h2 : L.length = (L.filter fun s => decide (s ∈ names)).length + (L.filter fun s => !decide (s ∈ names)).length := by
    clear h h1
    induction L with
    | nil => rfl
    | cons a L ih => by_cases q : a ∈ names <;> simp [q] <;> omega
  omega
theorem lettersOf_length {names : List Str} {many : Nat} (h : names.length + many ≤ 26) : (lettersOf names many).length = many := by
  have := filt_len names lettersL lettersL_nd
  rw [lettersL_len] at this
  rw [lettersOf_eq, List.length_take]
  omega
/-- the framed program -/
def FPb (boxes : List Str) : List Str := boxes ++ lettersOf boxes boxes.length
def FPp (boxes : List Str) (parts : List (Str × List Rw)) (nm first : Str) (ws : List (Str × List Int)) (i : Nat) : List (Str × List Rw) :=
  (first, firstRows boxes (lettersOf boxes boxes.length) nm ws) :: (parts.drop (i + 1)).map fun p => (p.1, p.2.map (Rw.wider boxes.length))
theorem wider_ok {boxes more behind : List Str} {many : Nat} {r : Rw} (hm : more.length = boxes.length) (h : r.ok boxes behind many) : (r.wider boxes.length).ok (boxes ++ more) behind many := by
  have wk : ∀ {u : Str} {l : List Int}, wishOk boxes.length u l → wishOk (boxes ++ more).length u (l ++ List.replicate boxes.length 0) := fun w => ⟨w.1, by rw [List.length_append, List.length_append, w.2, List.length_replicate, hm]; omega⟩
  cases r with
  | set b l => exact ⟨List.mem_append_left _ h.1, by rw [List.length_append, List.length_append, h.2, List.length_replicate, hm]; omega⟩
  | read b => exact List.mem_append_left _ h
  | want u l => exact wk h
  | claim u l => exact wk h
  | test u l k => exact ⟨wk h.1, h.2⟩
  | either ks => exact h
  | jump k => exact h
  | call p => exact h
  | fin => exact h
theorem firstRows_len {boxes more : List Str} {nm : Str} {ws : List (Str × List Int)} : (firstRows boxes more nm ws).length = more.length + boxes.length + ws.length + 2 := by
  simp [firstRows]; omega
theorem firstRows_ok {boxes more behind : List Str} {nm : Str} {ws : List (Str × List Int)} {many : Nat} (hm : more.length = boxes.length) (hn : nm ∈ behind) (hws : ∀ w ∈ ws, wishOk (2 * boxes.length) w.1 w.2) : ∀ r ∈ firstRows boxes more nm ws, r.ok (boxes ++ more) behind many := by
  intro r hr
  simp only [firstRows, List.mem_append, List.mem_map, List.mem_singleton] at hr
  rcases hr with (((⟨b, hb, rfl⟩ | hr) | rfl) | ⟨w, hw, rfl⟩) | rfl
  · exact List.mem_append_right _ hb
  · obtain ⟨j, hj, rfl⟩ := List.mem_mapIdx.mp hr
    refine ⟨List.mem_append_left _ (List.getElem_mem hj), ?_⟩
    rw [List.length_append, List.length_append, List.length_append, List.length_replicate, List.length_replicate, hm]
    simp; omega
  · exact hn
  · obtain ⟨u, l⟩ := w
    obtain ⟨h1, h2⟩ := hws _ hw
    cases l with
    | nil => simp at h2
    | cons a l =>
      refine ⟨h1, ?_⟩
      simp only [List.length_cons] at h2 ⊢
      simp only [List.length_append, List.length_drop, List.length_take, hm]
      omega
  · trivial
theorem wider_last {r : Rw} {n : Nat} : (r.wider n).lastOk = r.lastOk := by cases r <;> rfl
theorem FP_good {boxes : List Str} {parts : List (Str × List Rw)} {nm first : Str} {i : Nat} {ws : List (Str × List Int)} (G : Good boxes parts) (hb : boxes.length ≤ 4) (hp : parts.length ≤ 5) (hn : (parts.map (·.1))[i + 1]? = some nm) (hw : ws.length ≤ 12) (hws : ∀ w ∈ ws, wishOk (2 * boxes.length) w.1 w.2)
    (hf : lettersOf (parts.map (·.1)) 1 = [first]) : Good (FPb boxes) (FPp boxes parts nm first ws i) := by
  have hm : (lettersOf boxes boxes.length).length = boxes.length := lettersOf_length (by omega)
  have hi : i + 1 < parts.length := by have := (List.getElem?_eq_some_iff.mp hn).1; simpa using this
  obtain ⟨hf1, hf2⟩ := lettersOf_mem (s := first) (by rw [hf]; exact List.mem_singleton_self _)
  have hnd : ((FPp boxes parts nm first ws i).map (·.1)) = first :: (parts.drop (i + 1)).map (·.1) := by simp [FPp, Function.comp_def]
  have hnm : nm ∈ (parts.drop (i + 1)).map (·.1) := by
    rw [List.map_drop]
    have : ((parts.map (·.1)).drop (i + 1))[0]? = some nm := by rw [List.getElem?_drop]; exact hn
    exact List.mem_of_getElem? this
  refine ⟨?_, ?_, ?_, ?_, ?_, ?_, ?_, ?_, ?_, ?_, ?_⟩
  · have := G.b1; simp [FPb]; omega
  · simp only [FPb, List.length_append, hm]; omega
  · intro s hs
    rcases List.mem_append.mp hs with h | h
    · exact G.bn s h
    · exact lettersL_ok s (lettersOf_mem h).1
  · refine List.nodup_append.mpr ⟨G.bd, lettersOf_nd, fun x hx y hy => ?_⟩
    exact fun z => (lettersOf_mem hy).2 (z ▸ hx)
  · simp [FPp]
  · simp only [FPp, List.length_cons, List.length_map, List.length_drop]; omega
  · intro p hp'
    rcases List.mem_cons.mp hp' with rfl | h
    · exact lettersL_ok _ hf1
    · obtain ⟨q, hq, rfl⟩ := List.mem_map.mp h
      exact G.pn q (List.mem_of_mem_drop hq)
  · rw [hnd, List.nodup_cons]
    refine ⟨fun z => hf2 ?_, ?_⟩
    · rw [List.map_drop] at z; exact List.mem_of_mem_drop z
    · rw [List.map_drop]; exact G.pd.sublist (List.drop_sublist ..)
  · intro p hp'
    rcases List.mem_cons.mp hp' with rfl | h
    · dsimp only; rw [firstRows_len, hm]; omega
    · obtain ⟨q, hq, rfl⟩ := List.mem_map.mp h
      simpa using G.r1 q (List.mem_of_mem_drop hq)
  · intro j p hj r hr
    cases j with
    | zero =>
      simp only [FPp, List.getElem?_cons_zero, Option.some.injEq] at hj
      subst hj
      refine firstRows_ok hm ?_ hws r hr
      simp only [FPp, List.drop_succ_cons, List.drop_zero, List.map_map]
      simpa [Function.comp_def] using hnm
    | succ j =>
      simp only [FPp, List.getElem?_cons_succ, List.getElem?_map, List.getElem?_drop, Option.map_eq_some_iff] at hj
      obtain ⟨q, hq, rfl⟩ := hj
      obtain ⟨r', hr', rfl⟩ := List.mem_map.mp hr
      have := wider_ok hm (G.row _ q hq r' hr')
      simp only [FPp, List.drop_succ_cons, List.length_map]
      rw [List.map_drop, List.map_map]
      have e : (((parts.drop (i + 1)).map ((fun x : Str × List Rw => x.1) ∘ fun p => (p.1, p.2.map (Rw.wider boxes.length)))).drop (j + 1)) = (parts.drop (i + 1 + j + 1)).map (·.1) := by
        rw [← List.map_drop, List.drop_drop]
        simp only [Function.comp_def]
        congr 2
      rw [e]
      exact this
  · intro p hp' r hr
    rcases List.mem_cons.mp hp' with rfl | h
    · rw [firstRows_len] at hr
      have : (firstRows boxes (lettersOf boxes boxes.length) nm ws)[(lettersOf boxes boxes.length).length + boxes.length + ws.length + 2 - 1]? = some Rw.fin := by
        unfold firstRows
        rw [List.getElem?_append_right (by simp; omega)]
        have : (lettersOf boxes boxes.length).length + boxes.length + ws.length + 2 - 1 - ((lettersOf boxes boxes.length).map Rw.read ++ boxes.mapIdx (fun at_ b => setRow boxes.length at_ b) ++ [Rw.call nm] ++ ws.map (claimRow boxes.length)).length = 0 := by simp; omega
        rw [this]; rfl
      rw [this] at hr; cases hr; rfl
    · obtain ⟨q, hq, rfl⟩ := List.mem_map.mp h
      simp only [List.length_map, List.getElem?_map, Option.map_eq_some_iff] at hr
      obtain ⟨r', hr', rfl⟩ := hr
      rw [wider_last]
      exact G.last q (List.mem_of_mem_drop hq) r' hr'
end K58


set_option Elab.async false
set_option linter.all false
set_option autoImplicit false
set_option maxRecDepth 100000
set_option maxHeartbeats 4000000
/-! k58's mathematics 10: the pool, draws. -/
namespace K58
open PySem PySem.Spec PyProof.Rows L2 Z
def poolC (a s : Int) : Cell := .lst [.p (.int a), .p (.int s)]
/-- cell n of S is a pool -/
def PlAt (n : Nat) (S : Store) : Prop := ∃ a s : Int, 0 ≤ a ∧ 0 ≤ s ∧ S[n]? = some (poolC a s)
/-- S with the pool at n drawn from, more cells behind -/
def Sp (n : Nat) (S S' : Store) : Prop := ∃ (a s : Int) (X : Store), 0 ≤ a ∧ 0 ≤ s ∧ S' = S.set n (poolC a s) ++ X
theorem PlAt.lt {n : Nat} {S : Store} (h : PlAt n S) : n < S.length := by
  obtain ⟨a, s, _, _, h⟩ := h
  exact (List.getElem?_eq_some_iff.mp h).1
theorem Sp.at {n : Nat} {S S' : Store} (h : Sp n S S') (hn : n < S.length) : PlAt n S' := by
  obtain ⟨a, s, X, ha, hs, rfl⟩ := h
  exact ⟨a, s, ha, hs, by rw [List.getElem?_append_left (by simpa using hn), List.getElem?_set_self hn]⟩
theorem set_same {S : Store} {n : Nat} {c : Cell} (h : S[n]? = some c) : S.set n c = S := by
  apply List.ext_getElem?
  intro m
  by_cases e : n = m
  · subst e
    rw [List.getElem?_set_self (List.getElem?_eq_some_iff.mp h).1, h]
  · rw [List.getElem?_set_ne e]
theorem Sp.refl {n : Nat} {S : Store} (h : PlAt n S) : Sp n S S := by
  obtain ⟨a, s, ha, hs, h⟩ := h
  exact ⟨a, s, [], ha, hs, by rw [set_same h, List.append_nil]⟩
theorem Sp.trans {n : Nat} {S S1 S2 : Store} (hn : n < S.length) (h : Sp n S S1) (k : Sp n S1 S2) : Sp n S S2 := by
  obtain ⟨a, s, X, ha, hs, rfl⟩ := h
  obtain ⟨a', s', X', ha', hs', rfl⟩ := k
  exact ⟨a', s', X ++ X', ha', hs', by rw [List.set_append_left _ _ (by simpa using hn), List.set_set, List.append_assoc]⟩
theorem Sp.more {n : Nat} {S S1 : Store} {Y : Store} (h : Sp n S S1) : Sp n S (S1 ++ Y) := by
  obtain ⟨a, s, X, ha, hs, rfl⟩ := h
  exact ⟨a, s, X ++ Y, ha, hs, by rw [List.append_assoc]⟩
theorem Sp.app {n : Nat} {S Y S' : Store} (hn : n < S.length) (h : Sp n (S ++ Y) S') : ∃ (a s : Int) (X : Store), 0 ≤ a ∧ 0 ≤ s ∧ S' = S.set n (poolC a s) ++ (Y ++ X) := by
  obtain ⟨a, s, X, ha, hs, rfl⟩ := h
  exact ⟨a, s, X, ha, hs, by rw [List.set_append_left _ _ hn, List.append_assoc]⟩
theorem PlAt.app {n : Nat} {S Y : Store} (h : PlAt n S) : PlAt n (S ++ Y) := by
  obtain ⟨a, s, ha, hs, h'⟩ := h
  exact ⟨a, s, ha, hs, by rw [List.getElem?_append_left (PlAt.lt ⟨a, s, ha, hs, h'⟩)]; exact h'⟩
theorem PlAt.set {n : Nat} {S : Store} {a s : Int} (hn : n < S.length) (ha : 0 ≤ a) (hs : 0 ≤ s) : PlAt n (S.set n (poolC a s)) := ⟨a, s, ha, hs, List.getElem?_set_self hn⟩
theorem fIx_pool0 {n : Nat} {S : Store} {a s : Int} (h : S[n]? = some (poolC a s)) : fIx (.loc n) (.p (.int 0)) S = .ok (.p (.int a)) S := by
  simp [fIx, seqv, h, poolC]
theorem fIx_pool1 {n : Nat} {S : Store} {a s : Int} (h : S[n]? = some (poolC a s)) : fIx (.loc n) (.p (.int 1)) S = .ok (.p (.int s)) S := by
  simp [fIx, seqv, h, poolC]
theorem fSetL_pool0 {n : Nat} {S : Store} {a s x : Int} (h : S[n]? = some (poolC a s)) : fSetL (.loc n) (.p (.int 0)) (.p (.int x)) S = some (S.set n (poolC x s)) := by
  simp [fSetL, h, poolC, ixN]
theorem fSetL_pool1 {n : Nat} {S : Store} {a s x : Int} (h : S[n]? = some (poolC a s)) : fSetL (.loc n) (.p (.int 1)) (.p (.int x)) S = some (S.set n (poolC a x)) := by
  simp [fSetL, h, poolC, ixN]
theorem fMod_i {j k : Int} {S : Store} (h : 0 < k) : fMod (.p (.int j)) (.p (.int k)) S = .ok (.p (.int (j % k))) S := by simp [fMod, fII, h]
theorem fDiv_i {j k : Int} {S : Store} (h : 0 < k) (h2 : k < 1073741824) : fDiv (.p (.int j)) (.p (.int k)) S = .ok (.p (.int (j / k))) S := by simp [fDiv, fII, h, h2]
theorem fMul_r {z : Bool} {j k : Int} {S : Store} (h : 0 ≤ k) (h2 : k < 2 ^ 64) : fMul z (.p (.int j)) (.p (.int k)) S = .ok (.p (.int (j * k))) S := by
  have : -(2 ^ 64) < k := by omega
  simp only [fMul, fMulI]
  rw [if_pos (.inr ⟨this, h2⟩)]; rfl
theorem take_ok {n : Nat} {S : Store} {many : Int} (h : PlAt n S) (h0 : 0 < many) (h1 : many < 1000000) : ∃ d a s : Int, 0 ≤ d ∧ d < many ∧ 0 ≤ a ∧ 0 ≤ s ∧ sp__law_take [.loc n, .p (.int many)] S = .ok (.p (.int d)) (S.set n (poolC a s)) := by
  have hn := h.lt
  obtain ⟨a, s, ha, hs, h⟩ := h
  by_cases ha0 : 0 < a
  · refine ⟨a % many, a / many, s, Int.emod_nonneg _ (by omega), Int.emod_lt_of_pos _ h0, Int.ediv_nonneg ha (by omega), hs, ?_⟩
    simp [sp__law_take, mf__law_take, b__law_take, mDef, fIx_pool0 h, ha0, fMod_i h0, fDiv_i h0 (by omega), bSub, fSetL_pool0 h]
  · have e1 : (0 : Int) ≤ (s * 48271 + 11) % 2147483647 := Int.emod_nonneg _ (by omega)
    have e2 : (s * 48271 + 11) % 2147483647 < 2147483647 := Int.emod_lt_of_pos _ (by omega)
    refine ⟨((s * 48271 + 11) % 2147483647) * ((s * 48271 + 11) % 2147483647) % 2147483629 / 64 % many, a, (s * 48271 + 11) % 2147483647, Int.emod_nonneg _ (by omega), Int.emod_lt_of_pos _ h0, ha, e1, ?_⟩
    have h2 : (S.set n (poolC a ((s * 48271 + 11) % 2147483647)))[n]? = some (poolC a ((s * 48271 + 11) % 2147483647)) := List.getElem?_set_self hn
    have m1 : ∀ S', fMul true (.p (.int s)) (.p (.int 48271)) S' = .ok (.p (.int (s * 48271))) S' := fun S' => fMul_r (by omega) (by omega)
    have m2 : ∀ S', fMul true (.p (.int ((s * 48271 + 11) % 2147483647))) (.p (.int ((s * 48271 + 11) % 2147483647))) S' = .ok (.p (.int (((s * 48271 + 11) % 2147483647) * ((s * 48271 + 11) % 2147483647)))) S' := fun S' => fMul_r e1 (by omega)
    simp only [sp__law_take, mf__law_take, b__law_take, mDef, List.length_cons, List.length_nil, Nat.zero_add, if_true, List.map_cons, List.map_nil, List.cons_append, List.nil_append, List.replicate, mSeq_app, mIfS_app, mTst_app, mBin_app, mVar_app, mC_app, List.getElem?_cons_zero, List.getElem?_cons_succ, bind_ok, fIx_pool0 h, fGt_i, decide_eq_false ha0, tstR_b, eS_ok, if_false, Bool.false_eq_true, mNext_app, seqR_nx, mAsg_app, fIx_pool1 h, m1, fAdd_i, fMod_i (show (0 : Int) < 2147483647 by omega), bSub, fSetL_pool1 h, asgR_ok, mRet_app, fIx_pool1 h2, m2, fMod_i (show (0 : Int) < 2147483629 by omega), fDiv_i (show (0 : Int) < 64 by omega) (by omega), fMod_i h0, seqR_rt, fin_rt]
/-- a draw from a list -/
theorem atI_draw {α : Type} {ds : List α} {d : Int} (h0 : 0 ≤ d) (h1 : d < ds.length) : ∃ x ∈ ds, atI ds d = some x := by
  obtain ⟨k, rfl⟩ := Int.eq_ofNat_of_zero_le h0
  have hk : k < ds.length := by omega
  refine ⟨ds[k], List.getElem_mem hk, ?_⟩
  rw [Z.atI_nat, List.getElem?_eq_getElem hk]
/-- comprehensions whose parts draw -/
theorem runLc_st {bd : Bd} {tt : MT} {te : ME} {env : Z.Env} (P : Store → Prop) (R : PyData → Prop) {items : List Item} (h : ∀ it ∈ items, ∀ S, P S → ∃ e1 S1 d S2, bd (mkI it S).1 env (mkI it S).2 = .ok e1 S1 ∧ tt e1 S1 = .ok true S1 ∧ te e1 S1 = .ok (.p d) S2 ∧ R d ∧ P S2) :
    ∀ {acc : List RV} {S : Store}, P S → acc.length + items.length ≤ sizeLine → ∃ (ds : List PyData) (S' : Store), runLc bd tt te (fun _ => true) items env S acc = .ok (acc ++ ds.map RV.p) S' ∧ ds.length = items.length ∧ (∀ d ∈ ds, R d) ∧ P S' := by
  induction items with
  | nil => intro acc S hS _; exact ⟨[], S, by simp [runLc], rfl, (fun d hd => by cases hd), hS⟩
  | cons it items ih =>
    intro acc S hS hl
    obtain ⟨e1, S1, d, S2, h1, h2, h3, h4, h5⟩ := h it (List.mem_cons_self ..) S hS
    obtain ⟨ds, S', k1, k2, k3, k4⟩ := ih (fun x hx => h x (List.mem_cons_of_mem _ hx)) (acc := acc ++ [.p d]) h5 (by simp at hl ⊢; omega)
    have hz : acc.length < sizeLine := by simp at hl; omega
    refine ⟨d :: ds, S', ?_, by simp [k2], ?_, k4⟩
    · simp only [runLc, if_true, h1, h2, h3, if_pos hz]
      rw [k1]; simp
    · intro x hx
      rcases List.mem_cons.mp hx with rfl | hx
      · exact h4
      · exact k3 x hx
theorem mLc_st {bd : Bd} {tt : MT} {te : ME} {env : Z.Env} {mi : MI} {vs : List Nat} {S S1 : Store} (P : Store → Prop) (R : PyData → Prop) {items : List Item} (hm : mi env S = .ok (items, fun _ => true) S1) (h : ∀ it ∈ items, ∀ S, P S → ∃ e1 S1 d S2, bd (mkI it S).1 (wipeE env vs) (mkI it S).2 = .ok e1 S1 ∧ tt e1 S1 = .ok true S1 ∧ te e1 S1 = .ok (.p d) S2 ∧ R d ∧ P S2)
    (hS : P S1) (hl : items.length ≤ 100000) : ∃ (ds : List PyData) (S' : Store), mLc true mi bd tt te vs env S = .ok (.p (.list ds)) S' ∧ ds.length = items.length ∧ (∀ d ∈ ds, R d) ∧ P S' := by
  obtain ⟨ds, S', k1, k2, k3, k4⟩ := runLc_st P R h (acc := []) hS (by have := sizeK hl; simpa using this)
  refine ⟨ds, S', ?_, k2, k3, k4⟩
  unfold mLc
  rw [hm]
  simp only [bind_ok, k1, List.nil_append, mkL_p]
  rw [if_pos (by rw [k2]; exact sizeK hl)]
theorem rng_len {a : Int} {n : Nat} : (rng a n).length = n := by
  simp [rng]
theorem rng_mem {a : Int} {n : Nat} {it : Item} (h : it ∈ rng a n) : ∃ j : Int, it = .one (.p (.int j)) := by
  simp only [rng, List.mem_map] at h
  obtain ⟨k, _, rfl⟩ := h
  exact ⟨_, rfl⟩
theorem iRange1_ok {m : ME} {env : Z.Env} {S S1 : Store} {j : Int} (h : m env S = .ok (.p (.int j)) S1) (h0 : -1000 ≤ j) (h1 : j ≤ 1000000) : iRange1 (aCons m aNil) env S = .ok (rng 0 j.toNat, fun _ => true) S1 := by
  simp only [iRange1, aCons_app, h, bind_ok, aNil_app]
  rw [if_pos (by omega)]
@[simp] theorem fNeg_i {i : Int} {S : Store} : fNeg (.p (.int i)) S = .ok (.p (.int (-i))) S := rfl
noncomputable def ml1 : ME := (mLst true (aCons (mC (.p (.int 0))) (aCons (mC (.p (.int 1))) (aCons (mUn fNeg (mC (.p (.int 1)))) (aCons (mC (.p (.int 2))) (aCons (mUn fNeg (mC (.p (.int 3)))) (aCons (mC (.p (.int 5))) (aCons (mC (.p (.int 10))) (aCons (mUn fNeg (mC (.p (.int 7)))) aNil)))))))))
noncomputable def ml2 : ME := (mLst true (aCons (mC (.p (.int 0))) (aCons (mC (.p (.int 0))) (aCons (mC (.p (.int 1))) (aCons (mC (.p (.int 1))) (aCons (mUn fNeg (mC (.p (.int 1)))) (aCons (mUn fNeg (mC (.p (.int 1)))) (aCons (mC (.p (.int 2))) (aCons (mUn fNeg (mC (.p (.int 3)))) aNil)))))))))
theorem ml1_ok {env : Z.Env} {S : Store} : ml1 env S = .ok (.p (.list (([0, 1, -1, 2, -3, 5, 10, -7] : List Int).map .int))) S := by
  simp [ml1, mkL, allP, sizeLine_eq]
theorem ml2_ok {env : Z.Env} {S : Store} : ml2 env S = .ok (.p (.list (([0, 0, 1, 1, -1, -1, 2, -3] : List Int).map .int))) S := by
  simp [ml2, mkL, allP, sizeLine_eq]
theorem draw_ints {vs : List Int} {d : Int} {S : Store} (h0 : 0 ≤ d) (h1 : d < vs.length) : ∃ v ∈ vs, fIx (.p (.list (vs.map .int))) (.p (.int d)) S = .ok (.p (.int v)) S := by
  obtain ⟨x, hx, he⟩ := atI_draw (ds := vs) h0 h1
  refine ⟨x, hx, ?_⟩
  rw [fIx_l, atI_map, he]; rfl
theorem draw_of {l : ME} {vs : List Int} {n : Nat} {env : Z.Env} {S : Store} {k : Int} (hl : ∀ S, l env S = .ok (.p (.list (vs.map .int))) S) (hk : k = vs.length) (hk0 : 0 < k) (hk1 : k < 1000) (h : PlAt n S) (he : env[0]? = some (some (.loc n))) :
    ∃ v ∈ vs, ∃ a s : Int, 0 ≤ a ∧ 0 ≤ s ∧ mBin fIx l (mCall sp__law_take (aCons (mVar 0) (aCons (mC (.p (.int k))) aNil))) env S = .ok (.p (.int v)) (S.set n (poolC a s)) := by
  obtain ⟨d, a, s, h0, h1, ha, hs, ht⟩ := take_ok (many := k) h hk0 (by omega)
  obtain ⟨v, hv, hx⟩ := draw_ints (S := S.set n (poolC a s)) h0 (by rw [← hk]; exact h1)
  refine ⟨v, hv, a, s, ha, hs, ?_⟩
  simp only [mBin_app, hl, bind_ok, mCall_app, aCons_app, mVar_app, he, mC_app, aNil_app, ht, hx]
noncomputable def lnB : MS := (mSeq (mExp (mBM "list" fAppend (mVar 2) (aCons (mBin fIx ml2 (mCall sp__law_take (aCons (mVar 0) (aCons (mC (.p (.int 8))) aNil)))) aNil)))
  mNext)
theorem mFz_last {i : Nat} {env : Z.Env} {T X : Store} {l : List PyData} (h : env[i]? = some (some (.loc T.length))) : mFz (mVar i) env (T ++ .lst (l.map .p) :: X) = .ok (.p (.list l)) (T ++ .gone :: X) := by
  simp only [mFz, mVar_app, h, bind_ok, frz, get_last, allP_map, Option.map_some, set_last]
theorem lnB_ok {n many : Nat} {T : Store} {l : List Int} {x3 : Option RV} (h : PlAt n T) (hl : l.length ≤ 1000) : ∃ v a s : Int, v.natAbs ≤ 100 ∧ 0 ≤ a ∧ 0 ≤ s ∧
    lnB [some (.loc n), some (.p (.int many)), some (.loc T.length), x3] (T ++ [.lst ((l.map .int).map .p)]) = .nx [some (.loc n), some (.p (.int many)), some (.loc T.length), x3] (T.set n (poolC a s) ++ [.lst (((l ++ [v]).map .int).map .p)]) := by
  obtain ⟨v, hv, a', s', ha', hs', h2⟩ := draw_of (l := ml2) (env := [some (.loc n), some (.p (.int many)), some (.loc T.length), x3]) (S := T ++ [.lst ((l.map .int).map .p)]) (k := 8) (fun _ => ml2_ok) rfl (by omega) (by omega) h.app rfl
  rw [List.set_append_left _ _ h.lt] at h2
  have hty := tyOk_last (S := T) (l := (l.map PyData.int).map RV.p) (X := [])
  have hap := fAppend_last (S := T.set n (poolC a' s')) (l := (l.map PyData.int).map RV.p) (y := .p (.int v)) (X := []) (by simp; omega)
  rw [List.length_set] at hap
  refine ⟨v, a', s', ?_, ha', hs', ?_⟩
  · revert v; simp
  · unfold lnB
    simp only [mSeq_app, mExp_app, mBM_app, mVar_app, List.getElem?_cons_succ, List.getElem?_cons_zero, bind_ok, hty, if_true, aCons_app, h2, aNil_app, hap, eS_ok, seqR_nx, mNext_app]
    simp
theorem ln_loop {n many : Nat} {S : Store} {x3 : Option RV} {v a s : Int} (hn : n < S.length) (hv : v.natAbs ≤ 100) (ha : 0 ≤ a) (hs : 0 ≤ s) (hm : many ≤ 100) : ∃ (l : List Int) (x3' : Option RV) (a' s' : Int), 0 ≤ a' ∧ 0 ≤ s' ∧ l.length = many + 1 ∧ (∀ x ∈ l, x.natAbs ≤ 100) ∧
    runFor (bName 3) lnB (fun _ => true) (rng 0 many) [some (.loc n), some (.p (.int many)), some (.loc S.length), x3] (S.set n (poolC a s) ++ [.lst [.p (.int v)]]) = .nx [some (.loc n), some (.p (.int many)), some (.loc S.length), x3'] (S.set n (poolC a' s') ++ [.lst ((l.map .int).map .p)]) := by
  obtain ⟨e', S', hl, l, x3', a', s', ha', hs', he, hS, hll, hlb⟩ := runFor_inv (b := bName 3) (body := lnB) (items := rng 0 many)
    (fun j env S' => ∃ (l : List Int) (x3 : Option RV) (a s : Int), 0 ≤ a ∧ 0 ≤ s ∧ env = [some (.loc n), some (.p (.int many)), some (.loc S.length), x3] ∧ S' = S.set n (poolC a s) ++ [.lst ((l.map .int).map .p)] ∧ l.length = j + 1 ∧ ∀ x ∈ l, x.natAbs ≤ 100)
    (fun j it env S' hit ⟨l, x3, a, s, ha, hs, he, hS, hll, hlb⟩ => by
      subst he hS
      have hjm : j < many := by have := (List.getElem?_eq_some_iff.mp hit).1; simpa [rng_len] using this
      obtain ⟨i, rfl⟩ := rng_mem (List.mem_of_getElem? hit)
      obtain ⟨v, a', s', hv, ha', hs', h2⟩ := lnB_ok (many := many) (l := l) (x3 := some (.p (.int i))) (PlAt.set hn ha hs) (by omega)
      rw [List.length_set, List.set_set] at h2
      refine ⟨_, _, _, _, rfl, .inl h2, l ++ [v], _, a', s', ha', hs', rfl, rfl, by simp [hll], ?_⟩
      intro x hx
      rcases List.mem_append.mp hx with hx | hx
      · exact hlb x hx
      · rw [List.mem_singleton.mp hx]; exact hv)
    (env := [some (.loc n), some (.p (.int many)), some (.loc S.length), x3]) (S := S.set n (poolC a s) ++ [.lst [.p (.int v)]]) ⟨[v], _, a, s, ha, hs, rfl, rfl, rfl, fun x hx => by rw [List.mem_singleton.mp hx]; exact hv⟩
  rw [rng_len] at hll
  exact ⟨l, x3', a', s', ha', hs', hll, hlb, by rw [hl, he, hS]⟩
/-- a line drawn -/
theorem line_ok {n : Nat} {S : Store} {many : Nat} (h : PlAt n S) (hm : many ≤ 100) : ∃ (l : List Int) (S' : Store), sp__law_line [.loc n, .p (.int many)] S = .ok (.p (.tuple (l.map .int))) S' ∧ l.length = many + 1 ∧ (∀ x ∈ l, x.natAbs ≤ 100) ∧ Sp n S S' := by
  have hn := h.lt
  obtain ⟨v, hv, a, s, ha, hs, h1⟩ := draw_of (l := ml1) (env := [some (.loc n), some (.p (.int many)), none, none]) (k := 8) (fun _ => ml1_ok) rfl (by omega) (by omega) h rfl
  have hv' : v.natAbs ≤ 100 := by clear h1; revert v; simp
  obtain ⟨l, x3, a', s', ha', hs', hll, hlb, hl⟩ := ln_loop (many := many) (S := S) (x3 := none) (v := v) hn hv' ha hs hm
  refine ⟨l, _, ?_, hll, hlb, a', s', [.gone], ha', hs', rfl⟩
  have hr := iRange1_ok (m := mVar 1) (env := [some (.loc n), some (.p (.int many)), some (.loc S.length), none]) (S := S.set n (poolC a s) ++ [.lst [.p (.int v)]]) (S1 := S.set n (poolC a s) ++ [.lst [.p (.int v)]]) (j := (many : Int)) rfl (by omega) (by omega)
  rw [Int.toNat_natCast] at hr
  have hT : (S.set n (poolC a s)).length = S.length := by simp
  have hfz := mFz_last (i := 2) (env := [some (.loc n), some (.p (.int many)), some (.loc S.length), x3]) (T := S.set n (poolC a' s')) (X := []) (l := l.map .int) (by rw [List.length_set]; rfl)
  have hft : fTupleOf [.p (.list (l.map .int))] (S.set n (poolC a' s') ++ [.gone]) = .ok (.p (.tuple (l.map .int))) (S.set n (poolC a' s') ++ [.gone]) := by
    simp only [fTupleOf, lstv]
    rw [mkT_p, if_pos (sizeK (by simp; omega))]
  unfold sp__law_line mf__law_line mDef b__law_line
  unfold ml1 at h1
  unfold lnB ml2 at hl
  simp -implicitDefEqProofs only [List.length_cons, List.length_nil, Nat.zero_add, if_true, List.map_cons, List.map_nil, List.cons_append, List.nil_append, List.replicate, mSeq_app, mAsg_app, mLst_app, aCons_app, h1, bind_ok, aNil_app, mkLf_1, eS_ok, bName_app, List.set, asgR_ok, seqR_nx, hT, mFor_app, hr, hl, mSeq_app, mRet_app, mCall_app, aCons_app, mVar_app, List.getElem?_cons_succ, List.getElem?_cons_zero, hfz, hft, seqR_rt, fin_rt]
theorem strs_draw {vs : List Str} {d : Int} {S : Store} (h0 : 0 ≤ d) (h1 : d < vs.length) : ∃ v ∈ vs, fIx (.p (.list (vs.map .str))) (.p (.int d)) S = .ok (.p (.str v)) S := by
  obtain ⟨x, hx, he⟩ := atI_draw (ds := vs) h0 h1
  refine ⟨x, hx, ?_⟩
  rw [fIx_l, atI_map, he]; rfl
/-- a wish drawn -/
theorem wish_ok {n : Nat} {S : Store} {many : Nat} (h : PlAt n S) (hm : many ≤ 100) : ∃ (u : Str) (l : List Int) (S' : Store), sp__law_wish [.loc n, .p (.int many)] S = .ok (.p (wishD u l)) S' ∧ wishOk many u l ∧ (∀ x ∈ l, x.natAbs ≤ 100) ∧ Sp n S S' := by
  have hn := h.lt
  obtain ⟨d, a, s, h0, h1, ha, hs, ht⟩ := take_ok (many := 3) h (by omega) (by omega)
  obtain ⟨u, hu, hx⟩ := strs_draw (vs := ["least", "least", "above"]) (S := S.set n (poolC a s)) h0 (by simpa using h1)
  obtain ⟨l, S', hl, hll, hlb, hsp⟩ := line_ok (PlAt.set hn ha hs) hm
  refine ⟨u, l, S', ?_, ⟨by simpa using hu, hll⟩, hlb, Sp.trans hn ⟨a, s, [], ha, hs, by simp⟩ hsp⟩
  simp only [List.map_cons, List.map_nil] at hx
  simp [sp__law_wish, mf__law_wish, b__law_wish, mDef, ht, hx, hl, wishD]
end K58


set_option Elab.async false
set_option linter.all false
set_option autoImplicit false
set_option maxRecDepth 100000
set_option maxHeartbeats 4000000
/-! k58's mathematics 11: rows and programs drawn. -/
namespace K58
open PySem PySem.Spec PyProof.Rows L2 Z
def Rw.ints : Rw → List Int
  | .set _ l => l
  | .read _ => []
  | .want _ l => l
  | .claim _ l => l
  | .test _ l k => k :: l
  | .either ks => ks
  | .jump k => [k]
  | .call _ => []
  | .fin => []
def Rw.sm (r : Rw) : Prop := ∀ x ∈ r.ints, x.natAbs ≤ 100
noncomputable def mlw : ME := (mLst true (aCons (mC (.p (.str "set"))) (aCons (mC (.p (.str "set"))) (aCons (mC (.p (.str "read"))) (aCons (mC (.p (.str "want"))) (aCons (mC (.p (.str "claim"))) (aCons (mC (.p (.str "claim"))) (aCons (mC (.p (.str "test"))) (aCons (mC (.p (.str "either"))) (aCons (mC (.p (.str "jump"))) (aCons (mC (.p (.str "call"))) aNil)))))))))))
def words : List Str := ["set", "set", "read", "want", "claim", "claim", "test", "either", "jump", "call"]
theorem mlw_ok {env : Z.Env} {S : Store} : mlw env S = .ok (.p (.list (words.map .str))) S := by
  simp [mlw, mkL, allP, sizeLine_eq, words]
theorem sdraw_of {l mk : ME} {vs : List Str} {n : Nat} {env : Z.Env} {S : Store} {k : Int} (hl : ∀ S, l env S = .ok (.p (.list (vs.map .str))) S) (hkm : ∀ S, mk env S = .ok (.p (.int k)) S) (hk : k = vs.length) (hk0 : 0 < k) (hk1 : k < 1000) (h : PlAt n S) (he : env[0]? = some (some (.loc n))) :
    ∃ v ∈ vs, ∃ a s : Int, 0 ≤ a ∧ 0 ≤ s ∧ mBin fIx l (mCall sp__law_take (aCons (mVar 0) (aCons mk aNil))) env S = .ok (.p (.str v)) (S.set n (poolC a s)) := by
  obtain ⟨d, a, s, h0, h1, ha, hs, ht⟩ := take_ok (many := k) h hk0 (by omega)
  obtain ⟨v, hv, hx⟩ := strs_draw (vs := vs) (S := S.set n (poolC a s)) h0 (by rw [← hk]; exact h1)
  refine ⟨v, hv, a, s, ha, hs, ?_⟩
  simp only [mBin_app, hl, bind_ok, mCall_app, aCons_app, mVar_app, he, hkm, aNil_app, ht, hx]
/-- roads drawn -/
theorem roads_ok {n many : Nat} {env : Z.Env} {S : Store} (h : PlAt n S) (hm : 1 ≤ many) (hm2 : many ≤ 100) (h0 : env[0]? = some (some (.loc n))) (h3 : env[3]? = some (some (.p (.int many)))) (hl : 7 < env.length) : ∃ (ks : List Int) (S' : Store),
    mLc true (iRange1 (aCons (mBin (fAdd true) (mC (.p (.int 2))) (mCall sp__law_take (aCons (mVar 0) (aCons (mC (.p (.int 3))) aNil)))) aNil)) (bName 7) tYesM (mCall sp__law_take (aCons (mVar 0) (aCons (mVar 3) aNil))) [7] env S = .ok (.p (.list (ks.map .int))) S' ∧ 2 ≤ ks.length ∧ ks.length ≤ 4 ∧ (∀ k ∈ ks, 0 ≤ k ∧ k < many) ∧ Sp n S S' := by
  have hn := h.lt
  obtain ⟨d, a, s, d0, d1, ha, hs, ht⟩ := take_ok (many := 3) h (by omega) (by omega)
  have hr := iRange1_ok (m := mBin (fAdd true) (mC (.p (.int 2))) (mCall sp__law_take (aCons (mVar 0) (aCons (mC (.p (.int 3))) aNil)))) (env := env) (S := S) (S1 := S.set n (poolC a s)) (j := 2 + d) (by
    simp only [mBin_app, mC_app, bind_ok, mCall_app, aCons_app, mVar_app, h0, aNil_app, ht, fAdd_i]) (by omega) (by omega)
  obtain ⟨ds, S', k1, k2, k3, k4⟩ := mLc_st (bd := bName 7) (tt := tYesM) (te := mCall sp__law_take (aCons (mVar 0) (aCons (mVar 3) aNil))) (env := env) (vs := [7]) (P := fun S' => Sp n S S') (R := fun d => ∃ k : Int, d = .int k ∧ 0 ≤ k ∧ k < many) hr (fun it hit S1 hS1 => by
    obtain ⟨j, rfl⟩ := rng_mem hit
    have hp := hS1.at hn
    obtain ⟨d', a', s', d0', d1', ha', hs', ht'⟩ := take_ok (many := many) hp (by omega) (by omega)
    refine ⟨_, _, .int d', S1.set n (poolC a' s'), by rw [mkI_one, bName_app], rfl, ?_, ⟨d', rfl, d0', d1'⟩, hS1.trans hn ⟨a', s', [], ha', hs', by simp⟩⟩
    have e0 : ((wipeE env [7]).set 7 (some (.p (.int j))))[0]? = some (some (.loc n)) := by
      rw [List.getElem?_set_ne (by omega)]; simp only [wipeE]; rw [List.getElem?_set_ne (by omega)]; exact h0
    have e3 : ((wipeE env [7]).set 7 (some (.p (.int j))))[3]? = some (some (.p (.int many))) := by
      rw [List.getElem?_set_ne (by omega)]; simp only [wipeE]; rw [List.getElem?_set_ne (by omega)]; exact h3
    simp only [mCall_app, aCons_app, mVar_app, e0, e3, bind_ok, aNil_app, ht']) ⟨a, s, [], ha, hs, by simp⟩ (by rw [rng_len]; omega)
  rw [rng_len] at k2
  have hks : ∃ ks : List Int, ds = ks.map .int ∧ ∀ k ∈ ks, 0 ≤ k ∧ k < many := by
    clear k1 k2
    induction ds with
    | nil => exact ⟨[], rfl, fun _ h => by cases h⟩
    | cons d ds ih =>
      obtain ⟨ks, e, hk⟩ := ih fun x hx => k3 x (List.mem_cons_of_mem _ hx)
      obtain ⟨k, rfl, hk0⟩ := k3 d (List.mem_cons_self ..)
      exact ⟨k :: ks, by rw [e]; rfl, fun x hx => by
        rcases List.mem_cons.mp hx with rfl | hx
        · exact hk0
        · exact hk x hx⟩
  obtain ⟨ks, rfl, hk⟩ := hks
  rw [List.length_map] at k2
  exact ⟨ks, S', k1, by omega, by omega, hk, k4⟩
noncomputable def rowTail : MS :=
  (mSeq (mIfS (mTst (mBin (fEq false 8) (mVar 5) (mC (.p (.str "set"))))) (mSeq (mRet (mTup (aCons (mVar 5) (aCons (mVar 6) (aCons (mCall sp__law_line (aCons (mVar 0) (aCons (mVar 4) aNil))) aNil)))))
  mNext) mNext)
  (mSeq (mIfS (mOr (mTst (mBin (fEq false 8) (mVar 5) (mC (.p (.str "want"))))) (mTst (mBin (fEq false 8) (mVar 5) (mC (.p (.str "claim")))))) (mSeq (mRet (mTup (aCons (mVar 5) (aCons (mCall sp__law_wish (aCons (mVar 0) (aCons (mVar 4) aNil))) aNil))))
  mNext) mNext)
  (mSeq (mIfS (mTst (mBin (fEq false 8) (mVar 5) (mC (.p (.str "test"))))) (mSeq (mRet (mTup (aCons (mVar 5) (aCons (mCall sp__law_wish (aCons (mVar 0) (aCons (mVar 4) aNil))) (aCons (mCall sp__law_take (aCons (mVar 0) (aCons (mVar 3) aNil))) aNil)))))
  mNext) mNext)
  (mSeq (mIfS (mTst (mBin (fEq false 8) (mVar 5) (mC (.p (.str "either"))))) (mSeq (mRet (mTup (aCons (mVar 5) (aCons (mCall fTupleOf (aCons (mLc true (iRange1 (aCons (mBin (fAdd true) (mC (.p (.int 2))) (mCall sp__law_take (aCons (mVar 0) (aCons (mC (.p (.int 3))) aNil)))) aNil)) (bName 7) tYesM (mCall sp__law_take (aCons (mVar 0) (aCons (mVar 3) aNil))) [7]) aNil)) aNil))))
  mNext) mNext)
  (mSeq (mIfS (mAnd (mTst (mBin (fEq false 8) (mVar 5) (mC (.p (.str "jump"))))) (mTst (mBin fGt (mVar 3) (mC (.p (.int 1)))))) (mSeq (mRet (mTup (aCons (mVar 5) (aCons (mCall sp__law_take (aCons (mVar 0) (aCons (mVar 3) aNil))) aNil))))
  mNext) mNext)
  (mSeq (mIfS (mAnd (mTst (mBin (fEq false 8) (mVar 5) (mC (.p (.str "call"))))) (mTst (mBin (fEq true 8) (mVar 2) (mLst true aNil)))) (mSeq (mRet (mTup (aCons (mVar 5) (aCons (mBin fIx (mVar 2) (mCall sp__law_take (aCons (mVar 0) (aCons (mCall fLen (aCons (mVar 2) aNil)) aNil)))) aNil))))
  mNext) mNext)
  (mSeq (mRet (mTup (aCons (mC (.p (.str "read"))) (aCons (mVar 6) aNil))))
  mNext)))))))
theorem canLay_name {s : Str} (h : nameOk s) : (PyData.str s).canLay0 = true := by
  have hl : ∀ c ∈ letters.cps.toList, c < 0x110000 := by decide +kernel
  simp only [PyData.canLay0, PyData.strOk, Array.all_eq_true_iff_forall_mem]
  intro c hc
  have := hl c (h.2.2 c (by simpa using hc))
  simpa using this
theorem canLay_names : ∀ {l : List Str}, (∀ s ∈ l, nameOk s) → PyData.canLayAll0 (l.map .str) = true
  | [], _ => rfl
  | s :: l, h => by
    simp only [List.map_cons, PyData.canLayAll0, Bool.and_eq_true]
    exact ⟨canLay_name (h s (List.mem_cons_self ..)), canLay_names fun x hx => h x (List.mem_cons_of_mem _ hx)⟩
theorem depth_names : ∀ {l : List Str}, PyData.depthAll (l.map .str) ≤ 1
  | [] => by simp [PyData.depthAll]
  | s :: l => by
    have := depth_names (l := l)
    simp only [List.map_cons, PyData.depthAll, PyData.depth]; omega
theorem ne_nil {behind : List Str} {S : Store} (h : ∀ s ∈ behind, nameOk s) : fEq true 8 (.p (.list (behind.map .str))) (.p (.list [])) S = .ok (.p (.bool (!decide (behind = [])))) S := by
  have h1 := canLay_names h
  have h2 := depth_names (l := behind)
  have hs : SeqAt.shaped (.list (behind.map .str)) = true := by
    simp [SeqAt.shaped, PyData.canLay0, h1, PyData.depth]
    omega
  have hs2 : SeqAt.shaped (.list []) = true := by decide
  have he : PyData.eqv (.list (behind.map .str)) (.list []) = decide (behind = []) := by
    cases behind <;> simp [PyData.eqv, PyData.eqvAll]
  simp only [fEq, eqD, toP, hs, hs2, he]
  simp
/-- a row drawn: word and box -/
theorem row_start {n many : Nat} {boxes behind : List Str} {S : Store} (h : PlAt n S) (hb1 : 1 ≤ boxes.length) (hb2 : boxes.length ≤ 8) : ∃ w ∈ words, ∃ b ∈ boxes, ∃ a s : Int, 0 ≤ a ∧ 0 ≤ s ∧
    sp__law_row [.loc n, .p (.list (boxes.map .str)), .p (.list (behind.map .str)), .p (.int many)] S = fin (rowTail [some (.loc n), some (.p (.list (boxes.map .str))), some (.p (.list (behind.map .str))), some (.p (.int many)), some (.p (.int boxes.length)), some (.p (.str w)), some (.p (.str b)), none] (S.set n (poolC a s))) := by
  have hn := h.lt
  obtain ⟨w, hw, a, s, ha, hs, h1⟩ := sdraw_of (l := mlw) (mk := mC (.p (.int 10))) (env := [some (.loc n), some (.p (.list (boxes.map .str))), some (.p (.list (behind.map .str))), some (.p (.int many)), some (.p (.int boxes.length)), none, none, none]) (k := 10) (fun _ => mlw_ok) (fun _ => rfl) rfl (by omega) (by omega) h rfl
  have hp1 : PlAt n (S.set n (poolC a s)) := PlAt.set hn ha hs
  obtain ⟨b, hb, a', s', ha', hs', h2⟩ := sdraw_of (l := mVar 1) (mk := mVar 4) (env := [some (.loc n), some (.p (.list (boxes.map .str))), some (.p (.list (behind.map .str))), some (.p (.int many)), some (.p (.int boxes.length)), some (.p (.str w)), none, none]) (k := boxes.length) (vs := boxes) (fun _ => rfl) (fun _ => rfl) rfl (by omega) (by omega) hp1 rfl
  rw [List.set_set] at h2
  refine ⟨w, hw, b, hb, a', s', ha', hs', ?_⟩
  unfold mlw at h1
  unfold sp__law_row mf__law_row mDef b__law_row rowTail
  simp -implicitDefEqProofs only [List.length_cons, List.length_nil, Nat.zero_add, if_true, List.map_cons, List.map_nil, List.cons_append, List.nil_append, List.replicate, mSeq_app, mAsg_app, mCall_app, aCons_app, aNil_app, mVar_app, List.getElem?_cons_succ, List.getElem?_cons_zero, bind_ok, fLen_l, List.length_map, eS_ok, bName_app, List.set, asgR_ok, seqR_nx, h1, h2]
/-- a row drawn -/
theorem row_ok {n many : Nat} {boxes behind : List Str} {S : Store} (h : PlAt n S) (hb1 : 1 ≤ boxes.length) (hb2 : boxes.length ≤ 8) (hbe : behind.length ≤ 10) (hbn : ∀ s ∈ behind, nameOk s) (hm : 1 ≤ many) (hm2 : many ≤ 100) : ∃ (r : Rw) (S' : Store),
    sp__law_row [.loc n, .p (.list (boxes.map .str)), .p (.list (behind.map .str)), .p (.int many)] S = .ok (.p r.d) S' ∧ r.ok boxes behind many ∧ r.sm ∧ Sp n S S' := by
  have hn := h.lt
  obtain ⟨w, hw, b, hb, a, s, ha, hs, h1⟩ := row_start (behind := behind) (many := many) h hb1 hb2
  rw [h1]
  clear h1
  have hsp : Sp n S (S.set n (poolC a s)) := ⟨a, s, [], ha, hs, by simp⟩
  have hp : PlAt n (S.set n (poolC a s)) := PlAt.set hn ha hs
  generalize S.set n (poolC a s) = T at hsp hp
  have hnT := hp.lt
  have tr : ∀ {S'}, Sp n T S' → Sp n S S' := fun k => hsp.trans hn k
  have hread : ∀ w', w' = "read" ∨ (w' = "jump" ∧ ¬ (1 : Int) < many) ∨ (w' = "call" ∧ behind = []) → w = w' → ∃ (r : Rw) (S' : Store), fin (rowTail [some (.loc n), some (.p (.list (boxes.map .str))), some (.p (.list (behind.map .str))), some (.p (.int many)), some (.p (.int boxes.length)), some (.p (.str w)), some (.p (.str b)), none] T) = .ok (.p r.d) S' ∧ r.ok boxes behind many ∧ r.sm ∧ Sp n S S' := by
    rintro w' (rfl | ⟨rfl, hj⟩ | ⟨rfl, hj⟩) rfl
    · exact ⟨.read b, T, by simp (decide := true) -implicitDefEqProofs [rowTail, Rw.d], hb, by simp [Rw.sm, Rw.ints], hsp⟩
    · exact ⟨.read b, T, by simp (decide := true) -implicitDefEqProofs [rowTail, Rw.d, hj], hb, by simp [Rw.sm, Rw.ints], hsp⟩
    · subst hj
      have hne := ne_nil (behind := []) (S := T) (by simp)
      simp only [List.map_nil] at hne
      exact ⟨.read b, T, by simp (decide := true) -implicitDefEqProofs [rowTail, Rw.d, hne], hb, by simp [Rw.sm, Rw.ints], hsp⟩
  have hset : w = "set" → ∃ (r : Rw) (S' : Store), fin (rowTail [some (.loc n), some (.p (.list (boxes.map .str))), some (.p (.list (behind.map .str))), some (.p (.int many)), some (.p (.int boxes.length)), some (.p (.str w)), some (.p (.str b)), none] T) = .ok (.p r.d) S' ∧ r.ok boxes behind many ∧ r.sm ∧ Sp n S S' := by
    rintro rfl
    obtain ⟨l, S', k1, k2, k3, k4⟩ := line_ok (many := boxes.length) hp (by omega)
    exact ⟨.set b l, S', by simp (decide := true) -implicitDefEqProofs [rowTail, Rw.d, k1], ⟨hb, k2⟩, k3, tr k4⟩
  have hwish : w = "want" ∨ w = "claim" → ∃ (r : Rw) (S' : Store), fin (rowTail [some (.loc n), some (.p (.list (boxes.map .str))), some (.p (.list (behind.map .str))), some (.p (.int many)), some (.p (.int boxes.length)), some (.p (.str w)), some (.p (.str b)), none] T) = .ok (.p r.d) S' ∧ r.ok boxes behind many ∧ r.sm ∧ Sp n S S' := by
    obtain ⟨u, l, S', k1, k2, k3, k4⟩ := wish_ok (many := boxes.length) hp (by omega)
    rintro (rfl | rfl)
    · exact ⟨.want u l, S', by simp (decide := true) -implicitDefEqProofs [rowTail, Rw.d, k1], k2, k3, tr k4⟩
    · exact ⟨.claim u l, S', by simp (decide := true) -implicitDefEqProofs [rowTail, Rw.d, k1], k2, k3, tr k4⟩
  simp only [words, List.mem_cons, List.not_mem_nil, or_false] at hw
  rcases hw with hw | hw | hw | hw | hw | hw | hw | hw | hw | hw
  · exact hset hw
  · exact hset hw
  · exact hread _ (.inl rfl) hw
  · exact hwish (.inl hw)
  · exact hwish (.inr hw)
  · exact hwish (.inr hw)
  · subst hw
    obtain ⟨u, l, S', k1, k2, k3, k4⟩ := wish_ok (many := boxes.length) hp (by omega)
    obtain ⟨d, a', s', d0, d1, ha', hs', ht⟩ := take_ok (many := many) (k4.at hnT) (by omega) (by omega)
    refine ⟨.test u l d, _, by simp (decide := true) -implicitDefEqProofs [rowTail, Rw.d, k1, ht]; rfl, ⟨k2, d0, d1⟩, ?_, tr (k4.trans hnT ⟨a', s', [], ha', hs', by simp⟩)⟩
    intro x hx
    rcases List.mem_cons.mp hx with rfl | hx
    · omega
    · exact k3 x hx
  · subst hw
    obtain ⟨ks, S', k1, k2, k3, k4, k5⟩ := roads_ok (env := [some (.loc n), some (.p (.list (boxes.map .str))), some (.p (.list (behind.map .str))), some (.p (.int many)), some (.p (.int boxes.length)), some (.p (.str "either")), some (.p (.str b)), none]) (many := many) hp hm hm2 rfl rfl (by simp)
    have hft : fTupleOf [.p (.list (ks.map .int))] S' = .ok (.p (.tuple (ks.map .int))) S' := by
      simp only [fTupleOf, lstv]
      rw [mkT_p, if_pos (sizeK (by simp; omega))]
    refine ⟨.either ks, S', by simp (decide := true) -implicitDefEqProofs [rowTail, Rw.d, k1, hft], ⟨k2, k3, k4⟩, ?_, tr k5⟩
    intro x hx
    have := k4 x hx
    omega
  · by_cases hj : (1 : Int) < many
    · subst hw
      obtain ⟨d, a', s', d0, d1, ha', hs', ht⟩ := take_ok (many := many) hp (by omega) (by omega)
      refine ⟨.jump d, _, by simp (decide := true) -implicitDefEqProofs [rowTail, Rw.d, hj, ht]; rfl, ⟨d0, d1⟩, ?_, tr ⟨a', s', [], ha', hs', by simp⟩⟩
      intro x hx
      rw [List.mem_singleton.mp hx]; omega
    · exact hread _ (.inr (.inl ⟨rfl, hj⟩)) hw
  · by_cases hj : behind = []
    · exact hread _ (.inr (.inr ⟨rfl, hj⟩)) hw
    · subst hw
      have hne := ne_nil (behind := behind) (S := T) hbn
      have hl : 0 < behind.length := List.length_pos_iff.mpr hj
      obtain ⟨d, a', s', d0, d1, ha', hs', ht⟩ := take_ok (many := behind.length) hp (by omega) (by omega)
      obtain ⟨v, hv, hx⟩ := strs_draw (vs := behind) (S := T.set n (poolC a' s')) d0 d1
      exact ⟨.call v, _, by simp (decide := true) -implicitDefEqProofs [rowTail, Rw.d, hne, hj, ht, -fIx_l, hx]; rfl, hv, by simp [Rw.sm, Rw.ints], tr ⟨a', s', [], ha', hs', by simp⟩⟩
end K58


set_option Elab.async false
set_option linter.all false
set_option autoImplicit false
set_option maxRecDepth 100000
set_option maxHeartbeats 4000000
/-! k58's mathematics 12: programs drawn. -/
namespace K58
open PySem PySem.Spec PyProof.Rows L2 Z
noncomputable def pgB : MS :=
  (mSeq (mAsg (mBin (fAdd true) (mC (.p (.int 1))) (mCall sp__law_take (aCons (mVar 0) (aCons (mVar 2) aNil)))) (bName 9))
  (mSeq (mAsg (mLc true (iRange1 (aCons (mBin fSub (mVar 9) (mC (.p (.int 1)))) aNil)) (bName 11) tYesM (mCall sp__law_row (aCons (mVar 0) (aCons (mVar 4) (aCons (mSl (fSl true) (mVar 5) (oSo (mBin (fAdd true) (mVar 7) (mC (.p (.int 1))))) oNo) (aCons (mVar 9) aNil))))) [11]) (bName 10))
  (mSeq (mAsg (mLst true (aCons (mTup (aCons (mC (.p (.str "end"))) aNil)) (aCons (mTup (aCons (mC (.p (.str "end"))) aNil)) (aCons (mTup (aCons (mC (.p (.str "jump"))) (aCons (mCall sp__law_take (aCons (mVar 0) (aCons (mVar 9) aNil))) aNil))) (aCons (mTup (aCons (mC (.p (.str "either"))) (aCons (mTup (aCons (mCall sp__law_take (aCons (mVar 0) (aCons (mVar 9) aNil))) (aCons (mC (.p (.int 0))) aNil))) aNil))) aNil))))) (bName 12))
  (mSeq (mExp (mBM "list" fAppend (mVar 6) (aCons (mTup (aCons (mVar 8) (aCons (mBin (fAdd true) (mVar 10) (mLst true (aCons (mBin fIx (mVar 12) (mCall sp__law_take (aCons (mVar 0) (aCons (mC (.p (.int 4))) aNil)))) aNil))) aNil))) aNil)))
  mNext))))
theorem ex_rows {R : Rw → Prop} : ∀ {ds : List PyData}, (∀ d ∈ ds, ∃ r : Rw, d = r.d ∧ R r) → ∃ rs : List Rw, ds = rs.map Rw.d ∧ ∀ r ∈ rs, R r
  | [], _ => ⟨[], rfl, fun _ h => by cases h⟩
  | d :: ds, h => by
    obtain ⟨rs, e, hk⟩ := ex_rows fun x hx => h x (List.mem_cons_of_mem _ hx)
    obtain ⟨r, rfl, hr⟩ := h d (List.mem_cons_self ..)
    exact ⟨r :: rs, by rw [e]; rfl, fun x hx => by
      rcases List.mem_cons.mp hx with rfl | hx
      · exact hr
      · exact hk x hx⟩
@[simp] theorem mkL_4 {a b c d : PyData} {S : Store} : mkL true [.p a, .p b, .p c, .p d] S = .ok (.p (.list [a, b, c, d])) S := by simp [mkL, allP, sizeLine_eq]
theorem pgB_ok {n j : Nat} {boxes names : List Str} {T X : Store} {l : List RV} {nm : Str} {x9 x10 x12 e1 e3 : Option RV} (h : PlAt n T) (hb1 : 1 ≤ boxes.length) (hb2 : boxes.length ≤ 8) (hnn : ∀ s ∈ names, nameOk s) (hnl : names.length ≤ 10) (hl : l.length ≤ 100) :
    ∃ (rows : List Rw) (a s : Int) (X' : Store) (y9 y10 y12 : Option RV), 0 ≤ a ∧ 0 ≤ s ∧ 1 ≤ rows.length ∧ rows.length ≤ 6 ∧ (∀ r ∈ rows, r.ok boxes (names.drop (j + 1)) rows.length ∧ r.sm) ∧ (∀ r, rows[rows.length - 1]? = some r → r.lastOk = true) ∧
      pgB [some (.loc n), e1, some (.p (.int 6)), e3, some (.p (.list (boxes.map .str))), some (.p (.list (names.map .str))), some (.loc T.length), some (.p (.int j)), some (.p (.str nm)), x9, x10, none, x12] (T ++ .lst l :: X) =
        .nx [some (.loc n), e1, some (.p (.int 6)), e3, some (.p (.list (boxes.map .str))), some (.p (.list (names.map .str))), some (.loc T.length), some (.p (.int j)), some (.p (.str nm)), y9, y10, none, y12] (T.set n (poolC a s) ++ .lst (l ++ [.p (partD nm (rows.map Rw.d))]) :: X') := by
  have hp : PlAt n (T ++ .lst l :: X) := h.app
  have hn := hp.lt
  obtain ⟨d, a, s, d0, d1, ha, hs, ht⟩ := take_ok (many := 6) hp (by omega) (by omega)
  obtain ⟨m, rfl⟩ := Int.eq_ofNat_of_zero_le d0
  have hsp : Sp n (T ++ .lst l :: X) ((T ++ .lst l :: X).set n (poolC a s)) := ⟨a, s, [], ha, hs, by simp⟩
  have hp1 := hsp.at hn
  generalize (T ++ Cell.lst l :: X).set n (poolC a s) = S1 at ht hsp hp1
  have hn1 := hp1.lt
  have hr := iRange1_ok (m := mBin fSub (mVar 9) (mC (.p (.int 1)))) (env := [some (.loc n), e1, some (.p (.int 6)), e3, some (.p (.list (boxes.map .str))), some (.p (.list (names.map .str))), some (.loc T.length), some (.p (.int j)), some (.p (.str nm)), some (.p (.int (1 + (m : Int)))), x10, none, x12]) (S := S1) (S1 := S1) (j := 1 + (m : Int) - 1) (by simp) (by omega) (by omega)
  rw [show (1 + (m : Int) - 1).toNat = m by omega] at hr
  have hsl : ∀ S, fSl true (.p (.list (names.map .str))) (some ((j : Int) + 1)) none S = .ok (.p (.list ((names.drop (j + 1)).map .str))) S := fun S => by
    rw [fSl_l (sizeK (by simp; omega))]
    have := cutG_from (l := names.map PyData.str) (j + 1)
    rw [show ((j : Int) + 1) = ((j + 1 : Nat) : Int) by omega, this, List.map_drop]
  obtain ⟨ds, S2, k1, k2, k3, k4⟩ := mLc_st (bd := bName 11) (tt := tYesM) (te := mCall sp__law_row (aCons (mVar 0) (aCons (mVar 4) (aCons (mSl (fSl true) (mVar 5) (oSo (mBin (fAdd true) (mVar 7) (mC (.p (.int 1))))) oNo) (aCons (mVar 9) aNil))))) (vs := [11])
    (P := fun S' => Sp n S1 S') (R := fun d => ∃ r : Rw, d = r.d ∧ (r.ok boxes (names.drop (j + 1)) (m + 1) ∧ r.sm)) hr (fun it hit S3 hS3 => by
      obtain ⟨i, rfl⟩ := rng_mem hit
      obtain ⟨r, S4, q1, q2, q3, q4⟩ := row_ok (boxes := boxes) (behind := names.drop (j + 1)) (many := m + 1) (hS3.at hn1) hb1 hb2 (by rw [List.length_drop]; omega) (fun s hs => hnn s (List.mem_of_mem_drop hs)) (by omega) (by omega)
      rw [show ((m + 1 : Nat) : Int) = 1 + (m : Int) by omega] at q1
      refine ⟨_, _, r.d, S4, by rw [mkI_one, bName_app], rfl, ?_, ⟨r, rfl, q2, q3⟩, hS3.trans hn1 q4⟩
      simp -implicitDefEqProofs only [wipeE, List.set, mCall_app, aCons_app, mVar_app, List.getElem?_cons_zero, List.getElem?_cons_succ, bind_ok, mSl_app, oSo_app, mBin_app, mC_app, fAdd_i, osoR_i, oNo_app, hsl, aNil_app, q1]) (Sp.refl hp1) (by rw [rng_len]; omega)
  rw [rng_len] at k2
  obtain ⟨rs, rfl, hrs⟩ := ex_rows k3
  rw [List.length_map] at k2
  have hp2 := k4.at hn1
  have hn2 := hp2.lt
  obtain ⟨g1, a2, s2, g10, g11, ha2, hs2, ht2⟩ := take_ok (many := 1 + (m : Int)) hp2 (by omega) (by omega)
  have hp3 : PlAt n (S2.set n (poolC a2 s2)) := PlAt.set hn2 ha2 hs2
  obtain ⟨g2, a3, s3, g20, g21, ha3, hs3, ht3⟩ := take_ok (many := 1 + (m : Int)) hp3 (by omega) (by omega)
  rw [List.set_set] at ht3
  have hp4 : PlAt n (S2.set n (poolC a3 s3)) := PlAt.set hn2 ha3 hs3
  obtain ⟨g3, a4, s4, g30, g31, ha4, hs4, ht4⟩ := take_ok (many := 4) hp4 (by omega) (by omega)
  rw [List.set_set] at ht4
  have hsp4 : Sp n (T ++ .lst l :: X) (S2.set n (poolC a4 s4)) := (hsp.trans hn k4).trans hn ⟨a4, s4, [], ha4, hs4, by simp⟩
  obtain ⟨a5, s5, X', ha5, hs5, e5⟩ := hsp4.app h.lt
  obtain ⟨r, hrl, hrx⟩ := atI_draw (ds := [Rw.fin, Rw.fin, Rw.jump g1, Rw.either [g2, 0]]) g30 (by simpa using g31)
  have hx : fIx (.p (.list [.tuple [.str "end"], .tuple [.str "end"], .tuple [.str "jump", .int g1], .tuple [.str "either", .tuple [.int g2, .int 0]]])) (.p (.int g3)) (S2.set n (poolC a4 s4)) = .ok (.p r.d) (S2.set n (poolC a4 s4)) := by
    have : ([.tuple [.str "end"], .tuple [.str "end"], .tuple [.str "jump", .int g1], .tuple [.str "either", .tuple [.int g2, .int 0]]] : List PyData) = [Rw.fin, Rw.fin, Rw.jump g1, Rw.either [g2, 0]].map Rw.d := rfl
    rw [this, fIx_l, atI_map, hrx]; rfl
  have hrok : r.ok boxes (names.drop (j + 1)) (m + 1) ∧ r.sm ∧ r.lastOk = true := by
    simp only [List.mem_cons, List.not_mem_nil, or_false] at hrl
    rcases hrl with rfl | rfl | rfl | rfl
    · exact ⟨trivial, by simp [Rw.sm, Rw.ints], rfl⟩
    · exact ⟨trivial, by simp [Rw.sm, Rw.ints], rfl⟩
    · refine ⟨⟨g10, by omega⟩, ?_, rfl⟩
      intro x hx
      rw [List.mem_singleton.mp hx]; omega
    · refine ⟨⟨by simp, by simp, ?_⟩, ?_, rfl⟩
      · intro x hx
        simp only [List.mem_cons, List.not_mem_nil, or_false] at hx
        rcases hx with rfl | rfl <;> omega
      · intro x hx
        simp only [Rw.ints, List.mem_cons, List.not_mem_nil, or_false] at hx
        rcases hx with rfl | rfl <;> omega
  have hlen : (rs ++ [r]).length = m + 1 := by simp [k2]
  refine ⟨rs ++ [r], a5, s5, X ++ X', some (.p (.int (1 + (m : Int)))), some (.p (.list (rs.map Rw.d))), some (.p (.list [.tuple [.str "end"], .tuple [.str "end"], .tuple [.str "jump", .int g1], .tuple [.str "either", .tuple [.int g2, .int 0]]])), ha5, hs5, by omega, by omega, ?_, ?_, ?_⟩
  · intro x hx
    rw [hlen]
    rcases List.mem_append.mp hx with hx | hx
    · exact hrs x hx
    · rw [List.mem_singleton.mp hx]; exact ⟨hrok.1, hrok.2.1⟩
  · intro x hx
    rw [hlen, show m + 1 - 1 = rs.length by omega] at hx
    simp at hx
    rw [← hx]; exact hrok.2.2
  have hty2 : tyOk "list" (.loc T.length) (S2.set n (poolC a3 s3)) = true := by
    obtain ⟨a6, s6, X6, _, _, e6⟩ := ((hsp.trans hn k4).trans hn ⟨a3, s3, [], ha3, hs3, by simp⟩ : Sp n (T ++ .lst l :: X) (S2.set n (poolC a3 s3))).app h.lt
    have := tyOk_last (S := T.set n (poolC a6 s6)) (l := l) (X := X ++ X6)
    rw [List.length_set] at this
    rw [e6, List.cons_append]; exact this
  have had : ∀ S', fAdd true (.p (.list (rs.map Rw.d))) (.p (.list [r.d])) S' = .ok (.p (.list ((rs ++ [r]).map Rw.d))) S' := fun S' => by
    rw [fAdd_ll (sizeK (by simp; omega))]; simp
  have hap : fAppend (.loc T.length) [.p (partD nm ((rs ++ [r]).map Rw.d))] (S2.set n (poolC a4 s4)) = .ok (.p .none) (T.set n (poolC a5 s5) ++ .lst (l ++ [.p (partD nm ((rs ++ [r]).map Rw.d))]) :: (X ++ X')) := by
    have := fAppend_last (S := T.set n (poolC a5 s5)) (l := l) (y := .p (partD nm ((rs ++ [r]).map Rw.d))) (X := X ++ X') (by omega)
    rw [List.length_set] at this
    rw [e5, List.cons_append]; exact this
  unfold pgB
  have hpd : PyData.tuple [.str nm, .list ((rs ++ [r]).map Rw.d)] = partD nm ((rs ++ [r]).map Rw.d) := rfl
  simp -implicitDefEqProofs only [mSeq_app, mAsg_app, mBin_app, mC_app, bind_ok, mCall_app, aCons_app, mVar_app, List.getElem?_cons_zero, List.getElem?_cons_succ, aNil_app, ht, fAdd_i, eS_ok, bName_app, List.set, asgR_ok, seqR_nx, k1, mLst_app, mTup_app, mkT_1, mkT_2, ht2, ht3, mkL_4, mExp_app, mBM_app, hty2, if_true, ht4, hx, mkL_1, had, hpd, hap, mNext_app]
end K58


set_option Elab.async false
set_option linter.all false
set_option autoImplicit false
set_option maxRecDepth 100000
set_option maxHeartbeats 4000000
/-! k58's mathematics 13: programs drawn, joined; renamed. -/
namespace K58
open PySem PySem.Spec PyProof.Rows L2 Z
structure Prg (boxes : List Str) (parts : List (Str × List Rw)) : Prop where
  good : Good boxes parts
  sm : ∀ p ∈ parts, ∀ r ∈ p.2, r.sm
  r6 : ∀ p ∈ parts, p.2.length ≤ 6
  b5 : boxes.length ≤ 5
def bxN : List Str := ["x", "y", "z", "total", "k", "m", "n", "w"]
def ptN : List Str := ["main", "step", "x", "a", "bc", "last"]
noncomputable def mlb : ME := (mLst true (aCons (mC (.p (.str "x"))) (aCons (mC (.p (.str "y"))) (aCons (mC (.p (.str "z"))) (aCons (mC (.p (.str "total"))) (aCons (mC (.p (.str "k"))) (aCons (mC (.p (.str "m"))) (aCons (mC (.p (.str "n"))) (aCons (mC (.p (.str "w"))) aNil)))))))))
noncomputable def mlp : ME := (mLst true (aCons (mC (.p (.str "main"))) (aCons (mC (.p (.str "step"))) (aCons (mC (.p (.str "x"))) (aCons (mC (.p (.str "a"))) (aCons (mC (.p (.str "bc"))) (aCons (mC (.p (.str "last"))) aNil)))))))
theorem mlb_ok {env : Z.Env} {S : Store} : mlb env S = .ok (.p (.list (bxN.map .str))) S := by simp [mlb, mkL, allP, sizeLine_eq, bxN]
theorem mlp_ok {env : Z.Env} {S : Store} : mlp env S = .ok (.p (.list (ptN.map .str))) S := by simp [mlp, mkL, allP, sizeLine_eq, ptN]
/-- some of a list's first, as many as drawn -/
theorem first_of {l mk : ME} {vs : List Str} {n : Nat} {env : Z.Env} {S : Store} {k : Int} (hl : ∀ S, l env S = .ok (.p (.list (vs.map .str))) S) (hkm : ∀ S, mk env S = .ok (.p (.int k)) S) (hk0 : 0 < k) (hk1 : k ≤ vs.length) (hv : vs.length ≤ 100) (h : PlAt n S) (he : env[0]? = some (some (.loc n))) :
    ∃ (d : Nat) (a s : Int), d + 1 ≤ k ∧ 0 ≤ a ∧ 0 ≤ s ∧ mSl (fSl true) l oNo (oSo (mBin (fAdd true) (mC (.p (.int 1))) (mCall sp__law_take (aCons (mVar 0) (aCons mk aNil))))) env S = .ok (.p (.list ((vs.take (d + 1)).map .str))) (S.set n (poolC a s)) := by
  obtain ⟨d, a, s, h0, h1, ha, hs, ht⟩ := take_ok (many := k) h hk0 (by omega)
  obtain ⟨d, rfl⟩ := Int.eq_ofNat_of_zero_le h0
  refine ⟨d, a, s, by omega, ha, hs, ?_⟩
  have hsl : fSl true (.p (.list (vs.map .str))) none (some (1 + (d : Int))) (S.set n (poolC a s)) = .ok (.p (.list ((vs.take (d + 1)).map .str))) (S.set n (poolC a s)) := by
    rw [fSl_l (sizeK (by simp; omega))]
    have := cutG_to (l := vs.map PyData.str) (d + 1)
    rw [show (1 + (d : Int)) = ((d + 1 : Nat) : Int) by omega, this, List.map_take]
  simp -implicitDefEqProofs only [mSl_app, hl, bind_ok, oNo_app, oSo_app, mBin_app, mC_app, mCall_app, aCons_app, mVar_app, he, hkm, aNil_app, ht, fAdd_i, osoR_i, hsl]
/-- what holds of the parts read so far -/
def PtOk (boxes names : List Str) (l : List (Str × List Rw)) : Prop := ∀ (i : Nat) (p : Str × List Rw), l[i]? = some p → 1 ≤ p.2.length ∧ p.2.length ≤ 6 ∧ (∀ r ∈ p.2, r.ok boxes (names.drop (i + 1)) p.2.length ∧ r.sm) ∧ (∀ r, p.2[p.2.length - 1]? = some r → r.lastOk = true)
theorem pg_loop {n : Nat} {boxes names : List Str} {T : Store} {x9 x10 x12 e1 e3 x7 x8 : Option RV} (h : PlAt n T) (hb1 : 1 ≤ boxes.length) (hb2 : boxes.length ≤ 8) (hnn : ∀ s ∈ names, nameOk s) (hnl : names.length ≤ 10) :
    ∃ (l : List (Str × List Rw)) (a s : Int) (X' : Store) (y7 y8 y9 y10 y12 : Option RV), 0 ≤ a ∧ 0 ≤ s ∧ l.map (·.1) = names ∧ PtOk boxes names l ∧
      runFor (bTup 2 (bsCons (bName 7) (bsCons (bName 8) bsNil))) pgB (fun _ => true) (enumI ((names.map PyData.str).map RV.p)) [some (.loc n), e1, some (.p (.int 6)), e3, some (.p (.list (boxes.map .str))), some (.p (.list (names.map .str))), some (.loc T.length), x7, x8, x9, x10, none, x12] (T ++ [.lst []]) =
        .nx [some (.loc n), e1, some (.p (.int 6)), e3, some (.p (.list (boxes.map .str))), some (.p (.list (names.map .str))), some (.loc T.length), y7, y8, y9, y10, none, y12] (T.set n (poolC a s) ++ .lst ((l.map fun p => partD p.1 (p.2.map Rw.d)).map .p) :: X') := by
  have hn := h.lt
  obtain ⟨e', S', hl, l, a, s, X', y7, y8, y9, y10, y12, ha, hs, hm, hpt, he, hS⟩ := runFor_inv (b := bTup 2 (bsCons (bName 7) (bsCons (bName 8) bsNil))) (body := pgB) (items := enumI ((names.map PyData.str).map RV.p))
    (fun j env S' => ∃ (l : List (Str × List Rw)) (a s : Int) (X' : Store) (y7 y8 y9 y10 y12 : Option RV), 0 ≤ a ∧ 0 ≤ s ∧ l.map (·.1) = names.take j ∧ PtOk boxes names l ∧
      env = [some (.loc n), e1, some (.p (.int 6)), e3, some (.p (.list (boxes.map .str))), some (.p (.list (names.map .str))), some (.loc T.length), y7, y8, y9, y10, none, y12] ∧ S' = T.set n (poolC a s) ++ .lst ((l.map fun p => partD p.1 (p.2.map Rw.d)).map .p) :: X')
    (fun j it env S' hit ⟨l, a, s, X', y7, y8, y9, y10, y12, ha, hs, hm, hpt, he, hS⟩ => by
      subst he hS
      obtain ⟨r, rfl, hr⟩ := get_enum hit
      rw [List.getElem?_map, List.getElem?_map] at hr
      obtain ⟨d, hd1, rfl⟩ := Option.map_eq_some_iff.mp hr
      obtain ⟨nm, hnm, rfl⟩ := Option.map_eq_some_iff.mp hd1
      have hj : j < names.length := (List.getElem?_eq_some_iff.mp hnm).1
      have hll : l.length = j := by have := congrArg List.length hm; simp at this; omega
      obtain ⟨rows, a', s', X2, z9, z10, z12, ha', hs', h1, h2, h3, h4, hb⟩ := pgB_ok (j := j) (boxes := boxes) (names := names) (T := T.set n (poolC a s)) (X := X') (l := (l.map fun p => partD p.1 (p.2.map Rw.d)).map .p) (nm := nm) (x9 := y9) (x10 := y10) (x12 := y12) (e1 := e1) (e3 := e3) (PlAt.set hn ha hs) hb1 hb2 hnn hnl (by simp; omega)
      rw [List.length_set, List.set_set] at hb
      refine ⟨_, _, _, _, by rw [mkI_ip, bTup_p, if_pos (by rfl)]; rfl, .inl hb, l ++ [(nm, rows)], a', s', X2, _, _, _, _, _, ha', hs', ?_, ?_, rfl, by simp⟩
      · rw [List.map_append, hm, List.take_succ, hnm]; rfl
      · intro i p hi
        by_cases hil : i < l.length
        · rw [List.getElem?_append_left hil] at hi; exact hpt i p hi
        · rw [List.getElem?_append_right (by omega)] at hi
          have hi0 : i - l.length = 0 := by
            have := (List.getElem?_eq_some_iff.mp hi).1
            simp at this; omega
          rw [hi0] at hi
          simp at hi
          subst hi
          have : i = j := by omega
          subst this
          exact ⟨h1, h2, h3, h4⟩)
    (env := [some (.loc n), e1, some (.p (.int 6)), e3, some (.p (.list (boxes.map .str))), some (.p (.list (names.map .str))), some (.loc T.length), x7, x8, x9, x10, none, x12]) (S := T ++ [.lst []])
    (by
      obtain ⟨a, s, ha, hs, hg⟩ := h
      exact ⟨[], a, s, [], _, _, _, _, _, ha, hs, by simp, fun i p hi => by simp at hi, rfl, by rw [set_same hg]; rfl⟩)
  refine ⟨l, a, s, X', y7, y8, y9, y10, y12, ha, hs, ?_, hpt, by rw [hl, he, hS]⟩
  rw [hm, enumI_len, List.length_map, List.length_map, List.take_length]
/-- a program drawn -/
theorem program_ok {n : Nat} {S : Store} (h : PlAt n S) : ∃ (boxes : List Str) (parts : List (Str × List Rw)) (S' : Store), sp__law_program [.loc n, .p (.int 5), .p (.int 6), .p (.int 6)] S = .ok (.p (prog boxes parts)) S' ∧ Prg boxes parts ∧ (∃ k, boxes = bxN.take k ∧ k ≤ 5) ∧ (parts.map (·.1)) <+: ptN ∧ Sp n S S' := by
  have hn := h.lt
  obtain ⟨d, a, s, hd, ha, hs, h1⟩ := first_of (l := mlb) (mk := mVar 1) (vs := bxN) (env := [some (.loc n), some (.p (.int 5)), some (.p (.int 6)), some (.p (.int 6)), none, none, none, none, none, none, none, none, none]) (k := 5) (fun _ => mlb_ok) (fun _ => rfl) (by omega) (by decide) (by decide) h rfl
  obtain ⟨d', a', s', hd', ha', hs', h2⟩ := first_of (l := mlp) (mk := mVar 3) (vs := ptN) (env := [some (.loc n), some (.p (.int 5)), some (.p (.int 6)), some (.p (.int 6)), some (.p (.list ((bxN.take (d + 1)).map .str))), none, none, none, none, none, none, none, none]) (k := 6) (fun _ => mlp_ok) (fun _ => rfl) (by omega) (by decide) (by decide) (PlAt.set hn ha hs) rfl
  rw [List.set_set] at h2
  have hbx : ∀ s ∈ bxN, nameOk s := by unfold nameOk; decide +kernel
  have hpx : ∀ s ∈ ptN, nameOk s := by unfold nameOk; decide +kernel
  have hbl : (bxN.take (d + 1)).length = d + 1 := by rw [List.length_take]; have : bxN.length = 8 := rfl; omega
  have hpl : (ptN.take (d' + 1)).length = d' + 1 := by rw [List.length_take]; have : ptN.length = 6 := rfl; omega
  obtain ⟨l, a2, s2, X', y7, y8, y9, y10, y12, ha2, hs2, hm, hpt, hl⟩ := pg_loop (boxes := bxN.take (d + 1)) (names := ptN.take (d' + 1)) (T := S.set n (poolC a' s')) (x7 := none) (x8 := none) (x9 := none) (x10 := none) (x12 := none) (e1 := some (.p (.int 5))) (e3 := some (.p (.int 6))) (PlAt.set hn ha' hs') (by omega) (by omega) (fun s hs => hpx s (List.mem_of_mem_take hs)) (by omega)
  rw [List.set_set] at hl
  have hlm : l.length = d' + 1 := by have := congrArg List.length hm; rw [hpl] at this; simpa using this
  refine ⟨bxN.take (d + 1), l, S.set n (poolC a2 s2) ++ .gone :: X', ?_, ⟨⟨by omega, by omega, fun s hs => hbx s (List.mem_of_mem_take hs), ?_, by omega, by omega, ?_, ?_, ?_, ?_, ?_⟩, ?_, ?_, by omega⟩, ⟨d + 1, rfl, by omega⟩, by rw [hm]; exact List.take_prefix _ _, a2, s2, .gone :: X', ha2, hs2, rfl⟩
  · have hfz := mFz_last (i := 6) (env := [some (.loc n), some (.p (.int 5)), some (.p (.int 6)), some (.p (.int 6)), some (.p (.list ((bxN.take (d + 1)).map .str))), some (.p (.list ((ptN.take (d' + 1)).map .str))), some (.loc S.length), y7, y8, y9, y10, none, y12]) (T := S.set n (poolC a2 s2)) (X := X') (l := l.map fun p => partD p.1 (p.2.map Rw.d)) (by rw [List.length_set]; rfl)
    have hT : (S.set n (poolC a' s')).length = S.length := by simp
    unfold mlb at h1
    unfold mlp at h2
    rw [hT] at hl
    unfold pgB at hl
    have hen : ∀ (env : Z.Env) S', env[5]? = some (some (.p (.list ((ptN.take (d' + 1)).map .str)))) → iEnu (aCons (mVar 5) aNil) env S' = .ok (enumI (((ptN.take (d' + 1)).map PyData.str).map RV.p), fun _ => true) S' := fun env S' h5 => iEnu_of (by simp [h5])
    unfold sp__law_program mf__law_program mDef b__law_program
    simp -implicitDefEqProofs only [List.length_cons, List.length_nil, Nat.zero_add, if_true, List.cons_append, List.nil_append, List.replicate, mSeq_app, mAsg_app, h1, eS_ok, bName_app, List.set, asgR_ok, seqR_nx, h2, mLst_app, aNil_app, bind_ok, mkLf_0, hT]
    simp -implicitDefEqProofs only [List.map_cons, List.map_nil, List.length_cons, List.length_nil, Nat.zero_add, if_true, List.cons_append, List.nil_append, List.replicate, mSeq_app, mAsg_app, h1, eS_ok, bName_app, List.set, asgR_ok, seqR_nx, h2, mLst_app, aNil_app, bind_ok, mkLf_0, hT, mFor_app, hen, List.getElem?_cons_succ, List.getElem?_cons_zero, hl, mRet_app, mTup_app, aCons_app, mVar_app, hfz, mkT_2, seqR_rt, fin_rt]
    rfl
  · exact (show bxN.Nodup by decide +kernel).sublist (List.take_sublist ..)
  · intro p hp
    have : p.1 ∈ l.map (·.1) := List.mem_map_of_mem hp
    rw [hm] at this
    exact hpx _ (List.mem_of_mem_take this)
  · rw [hm]; exact (show ptN.Nodup by decide +kernel).sublist (List.take_sublist ..)
  · intro p hp
    obtain ⟨i, hi, e⟩ := List.getElem_of_mem hp
    have := hpt i p (by rw [List.getElem?_eq_getElem hi, e])
    exact ⟨this.1, by omega⟩
  · intro i p hi r hr
    have := (hpt i p hi).2.2.1 r hr
    rw [List.map_drop, hm]; exact this.1
  · intro p hp
    obtain ⟨i, hi, e⟩ := List.getElem_of_mem hp
    exact (hpt i p (by rw [List.getElem?_eq_getElem hi, e])).2.2.2
  · intro p hp r hr
    obtain ⟨i, hi, e⟩ := List.getElem_of_mem hp
    exact ((hpt i p (by rw [List.getElem?_eq_getElem hi, e])).2.2.1 r hr).2
  · intro p hp
    obtain ⟨i, hi, e⟩ := List.getElem_of_mem hp
    exact (hpt i p (by rw [List.getElem?_eq_getElem hi, e])).2.1
end K58


set_option Elab.async false
set_option linter.all false
set_option autoImplicit false
set_option maxRecDepth 100000
set_option maxHeartbeats 4000000
/-! k58's mathematics 14: programs renamed. -/
namespace K58
open PySem PySem.Spec PyProof.Rows L2 Z
def ren (b : Str) : Str := if b = "x" then "a" else if b = "y" then "c" else if b = "z" then "b" else if b = "total" then "x" else if b = "k" then "d" else b
def Rw.ren : Rw → Rw
  | .set b l => .set (K58.ren b) l
  | .read b => .read (K58.ren b)
  | r => r
def renD : List (Key × RV) := [(.inr "x", .p (.str "a")), (.inr "y", .p (.str "c")), (.inr "z", .p (.str "b")), (.inr "total", .p (.str "x")), (.inr "k", .p (.str "d"))]
def bx5 : List Str := ["x", "y", "z", "total", "k"]
theorem ren_get {b : Str} (h : b ∈ bx5) : valR renD (.inr b) = some (.p (.str (ren b))) := by
  simp only [bx5, List.mem_cons, List.not_mem_nil, or_false] at h
  rcases h with rfl | rfl | rfl | rfl | rfl <;> simp (decide := true) [valR, renD, ren]
theorem ren_inj : ∀ a ∈ bx5, ∀ b ∈ bx5, ren a = ren b → a = b := by decide +kernel
theorem ren_name : ∀ a ∈ bx5, nameOk (ren a) := by unfold nameOk; decide +kernel
noncomputable def rnB : MS :=
  (mSeq (mIfS (mTst (mBin (fIn false) (mBin fIx (mVar 6) (mC (.p (.int 0)))) (mLst true (aCons (mC (.p (.str "set"))) (aCons (mC (.p (.str "read"))) aNil))))) (mSeq (mAsg (mBin (fAdd true) (mTup (aCons (mBin fIx (mVar 6) (mC (.p (.int 0)))) (aCons (mBin fDGet (mVar 1) (mBin fIx (mVar 6) (mC (.p (.int 1))))) aNil))) (mSl (fSl true) (mVar 6) (oSo (mC (.p (.int 2)))) oNo)) (bName 6))
  mNext) mNext)
  (mSeq (mExp (mBM "list" fAppend (mVar 5) (aCons (mVar 6) aNil)))
  mNext))
theorem cut2 {a b : PyData} {l : List PyData} : cutG (a :: b :: l) (some 2) none = l := by
  have := cutG_from (l := a :: b :: l) 2
  simpa using this
/-- the boxes of a row are among these -/
def Rw.bxs (r : Rw) : Prop := ∀ b, (∃ l, r = .set b l) ∨ r = .read b → b ∈ bx5
theorem rnB_ok {e0 e2 e3 e4 e7 : Option RV} {i1 : Nat} {r : Rw} {T X : Store} {l : List RV} (h1 : i1 < T.length) (hd : T[i1]? = some (.dK renD)) (hl : l.length ≤ 1000) (hb : r.bxs) :
    ∃ y6, rnB [e0, some (.loc i1), e2, e3, e4, some (.loc T.length), some (.p r.d), e7] (T ++ .lst l :: X) = .nx [e0, some (.loc i1), e2, e3, e4, some (.loc T.length), y6, e7] (T ++ .lst (l ++ [.p r.ren.d]) :: X) := by
  have hty := tyOk_last (S := T) (l := l) (X := X)
  have hap := fAppend_last (S := T) (l := l) (y := .p r.ren.d) (X := X) (by omega)
  have hg : (T ++ .lst l :: X)[i1]? = some (.dK renD) := by rw [List.getElem?_append_left h1]; exact hd
  cases r with
  | set b l' =>
    have hv := ren_get (hb b (.inl ⟨_, rfl⟩))
    have ha : ∀ S, fAdd true (.p (.tuple [.str "set", .str (ren b)])) (.p (.tuple [.tuple (l'.map .int)])) S = .ok (.p (.tuple [.str "set", .str (ren b), .tuple (l'.map .int)])) S := fun S => by
      rw [fAdd_tt (sizeK (by simp))]; rfl
    simp only [Rw.ren, Rw.d] at hap
    refine ⟨some (.p (.tuple [.str "set", .str (ren b), .tuple (l'.map .int)])), ?_⟩
    simp (decide := true) -implicitDefEqProofs [rnB, Rw.d, Rw.ren, fIn_l2, fDGet, hg, keyOf, hv, fSl_t, cut2, ha, hty, hap]
  | read b =>
    have hv := ren_get (hb b (.inr rfl))
    have ha : ∀ S, fAdd true (.p (.tuple [.str "read", .str (ren b)])) (.p (.tuple [])) S = .ok (.p (.tuple [.str "read", .str (ren b)])) S := fun S => by
      rw [fAdd_tt (sizeK (by simp))]; rfl
    simp only [Rw.ren, Rw.d] at hap
    refine ⟨some (.p (.tuple [.str "read", .str (ren b)])), ?_⟩
    simp (decide := true) -implicitDefEqProofs [rnB, Rw.d, Rw.ren, fIn_l2, fDGet, hg, keyOf, hv, fSl_t, cut2, ha, hty, hap]
  | want u l =>
    simp only [Rw.ren, Rw.d] at hap
    refine ⟨some (.p (.tuple [.str "want", wishD u l])), ?_⟩
    simp (decide := true) -implicitDefEqProofs [rnB, Rw.d, Rw.ren, fIn_l2, hty, hap]
  | claim u l =>
    simp only [Rw.ren, Rw.d] at hap
    refine ⟨some (.p (.tuple [.str "claim", wishD u l])), ?_⟩
    simp (decide := true) -implicitDefEqProofs [rnB, Rw.d, Rw.ren, fIn_l2, hty, hap]
  | test u l k =>
    simp only [Rw.ren, Rw.d] at hap
    refine ⟨some (.p (.tuple [.str "test", wishD u l, .int k])), ?_⟩
    simp (decide := true) -implicitDefEqProofs [rnB, Rw.d, Rw.ren, fIn_l2, hty, hap]
  | either ks =>
    simp only [Rw.ren, Rw.d] at hap
    refine ⟨some (.p (.tuple [.str "either", .tuple (ks.map .int)])), ?_⟩
    simp (decide := true) -implicitDefEqProofs [rnB, Rw.d, Rw.ren, fIn_l2, hty, hap]
  | jump k =>
    simp only [Rw.ren, Rw.d] at hap
    refine ⟨some (.p (.tuple [.str "jump", .int k])), ?_⟩
    simp (decide := true) -implicitDefEqProofs [rnB, Rw.d, Rw.ren, fIn_l2, hty, hap]
  | call p =>
    simp only [Rw.ren, Rw.d] at hap
    refine ⟨some (.p (.tuple [.str "call", .str p])), ?_⟩
    simp (decide := true) -implicitDefEqProofs [rnB, Rw.d, Rw.ren, fIn_l2, hty, hap]
  | fin =>
    simp only [Rw.ren, Rw.d] at hap
    refine ⟨some (.p (.tuple [.str "end"])), ?_⟩
    simp (decide := true) -implicitDefEqProofs [rnB, Rw.d, Rw.ren, fIn_l2, hty, hap]
theorem rn_rows {e0 e2 e3 e4 e6 e7 : Option RV} {i1 : Nat} {rows : List Rw} {T X : Store} (h1 : i1 < T.length) (hd : T[i1]? = some (.dK renD)) (hl : rows.length ≤ 100) (hb : ∀ r ∈ rows, r.bxs) :
    ∃ y6, runFor (bName 6) rnB (fun _ => true) (((rows.map Rw.d).map RV.p).map Item.one) [e0, some (.loc i1), e2, e3, e4, some (.loc T.length), e6, e7] (T ++ .lst [] :: X) =
      .nx [e0, some (.loc i1), e2, e3, e4, some (.loc T.length), y6, e7] (T ++ .lst (((rows.map Rw.ren).map Rw.d).map .p) :: X) := by
  obtain ⟨e', S', h, y6, he, hS⟩ := runFor_inv (b := bName 6) (body := rnB) (items := ((rows.map Rw.d).map RV.p).map Item.one)
    (fun j env S' => ∃ y6, env = [e0, some (.loc i1), e2, e3, e4, some (.loc T.length), y6, e7] ∧ S' = T ++ .lst ((((rows.take j).map Rw.ren).map Rw.d).map .p) :: X)
    (fun j it env S' hit ⟨y6, he, hS⟩ => by
      subst he hS
      obtain ⟨r, rfl, hr0⟩ := get_one hit
      rw [List.getElem?_map, List.getElem?_map] at hr0
      obtain ⟨d, hd1, rfl⟩ := Option.map_eq_some_iff.mp hr0
      obtain ⟨r, hr1, rfl⟩ := Option.map_eq_some_iff.mp hd1
      obtain ⟨z6, hz⟩ := rnB_ok (e0 := e0) (e2 := e2) (e3 := e3) (e4 := e4) (e7 := e7) (r := r) (T := T) (X := X) (l := (((rows.take j).map Rw.ren).map Rw.d).map .p) h1 hd (by simp; omega) (hb r (List.mem_of_getElem? hr1))
      refine ⟨_, _, _, _, by rw [mkI_one, bName_app]; rfl, .inl hz, z6, rfl, ?_⟩
      rw [List.take_succ, hr1]; simp)
    (env := [e0, some (.loc i1), e2, e3, e4, some (.loc T.length), e6, e7]) (S := T ++ .lst [] :: X) ⟨_, rfl, by simp⟩
  refine ⟨y6, ?_⟩
  rw [h, he, hS]
  simp
noncomputable def rpB : MS :=
  (mSeq (mAsg (mLst false aNil) (bName 5))
  (mSeq (mFor (iAny (mVar 4)) (bName 6) rnB)
  (mSeq (mExp (mBM "list" fAppend (mVar 2) (aCons (mTup (aCons (mVar 3) (aCons (mFz (mVar 5)) aNil))) aNil)))
  mNext)))
theorem rpB_ok {e0 e5 e6 e7 : Option RV} {i1 : Nat} {p : Str × List Rw} {T X : Store} {l : List RV} (h1 : i1 < T.length) (hd : T[i1]? = some (.dK renD)) (hl : l.length ≤ 1000) (hr : p.2.length ≤ 100) (hb : ∀ r ∈ p.2, r.bxs) :
    ∃ y5 y6 X', rpB [e0, some (.loc i1), some (.loc T.length), some (.p (.str p.1)), some (.p (.list (p.2.map Rw.d))), e5, e6, e7] (T ++ .lst l :: X) =
      .nx [e0, some (.loc i1), some (.loc T.length), some (.p (.str p.1)), some (.p (.list (p.2.map Rw.d))), y5, y6, e7] (T ++ .lst (l ++ [.p (partD p.1 ((p.2.map Rw.ren).map Rw.d))]) :: X') := by
  obtain ⟨y6, h⟩ := rn_rows (e0 := e0) (e2 := some (.loc T.length)) (e3 := some (.p (.str p.1))) (e4 := some (.p (.list (p.2.map Rw.d)))) (e6 := e6) (e7 := e7) (i1 := i1) (rows := p.2) (T := T ++ .lst l :: X) (X := []) (by simp; omega) (by rw [List.getElem?_append_left h1]; exact hd) hr hb
  have hfz := mFz_last (i := 5) (env := [e0, some (.loc i1), some (.loc T.length), some (.p (.str p.1)), some (.p (.list (p.2.map Rw.d))), some (.loc (T ++ .lst l :: X).length), y6, e7]) (T := T ++ .lst l :: X) (X := []) (l := (p.2.map Rw.ren).map Rw.d) rfl
  have hty : ∀ Y, tyOk "list" (.loc T.length) (T ++ .lst l :: X ++ Y) = true := fun Y => by
    have := tyOk_last (S := T) (l := l) (X := X ++ Y)
    rw [List.append_assoc, List.cons_append]; exact this
  have hap : ∀ Y, fAppend (.loc T.length) [.p (partD p.1 ((p.2.map Rw.ren).map Rw.d))] (T ++ .lst l :: X ++ Y) = .ok (.p .none) (T ++ .lst (l ++ [.p (partD p.1 ((p.2.map Rw.ren).map Rw.d))]) :: (X ++ Y)) := fun Y => by
    have := fAppend_last (S := T) (l := l) (y := .p (partD p.1 ((p.2.map Rw.ren).map Rw.d))) (X := X ++ Y) (by omega)
    rw [List.append_assoc, List.cons_append]; exact this
  have hpd : PyData.tuple [.str p.1, .list ((p.2.map Rw.ren).map Rw.d)] = partD p.1 ((p.2.map Rw.ren).map Rw.d) := rfl
  have hia : ∀ (env : Z.Env) S', env[4]? = some (some (.p (.list (p.2.map Rw.d)))) → iAny (mVar 4) env S' = .ok (((p.2.map Rw.d).map RV.p).map .one, fun _ => true) S' := fun env S' h4 => iAny_of (d := .list (p.2.map Rw.d)) (by simp [h4]) rfl
  generalize hU : T ++ .lst l :: X = U at h hfz hty hap
  refine ⟨some (.loc U.length), y6, X ++ [.gone], ?_⟩
  unfold rpB
  simp -implicitDefEqProofs only [mSeq_app, mAsg_app, mLst_app, aNil_app, bind_ok, mkLf_0, eS_ok, bName_app, List.set, asgR_ok, seqR_nx, mFor_app, hia, List.getElem?_cons_succ, List.getElem?_cons_zero, h, mExp_app, mBM_app, mVar_app, hty, if_true, aCons_app, mTup_app, hfz, mkT_2, hpd, hap, mNext_app]
theorem ren_row_ok {boxes behind : List Str} {many : Nat} {r : Rw} (h : r.ok boxes behind many) : r.ren.ok (boxes.map ren) behind many := by
  cases r with
  | set b l => exact ⟨List.mem_map_of_mem h.1, by rw [List.length_map]; exact h.2⟩
  | read b => exact List.mem_map_of_mem (f := ren) h
  | want u l => show wishOk _ u l; rw [List.length_map]; exact h
  | claim u l => show wishOk _ u l; rw [List.length_map]; exact h
  | test u l k => exact ⟨by rw [List.length_map]; exact h.1, h.2⟩
  | either ks => exact h
  | jump k => exact h
  | call p => exact h
  | fin => exact h
theorem ren_last {r : Rw} : r.ren.lastOk = r.lastOk := by cases r <;> rfl
theorem ren_ints {r : Rw} : r.ren.ints = r.ints := by cases r <;> rfl
theorem ren_prg {boxes : List Str} {parts : List (Str × List Rw)} (P : Prg boxes parts) (hb : ∀ b ∈ boxes, b ∈ bx5) : Prg (boxes.map ren) (parts.map fun p => (p.1, p.2.map Rw.ren)) := by
  have G := P.good
  have hfst : (parts.map fun p => (p.1, p.2.map Rw.ren)).map (·.1) = parts.map (·.1) := by simp [Function.comp_def]
  refine ⟨⟨by simpa using G.b1, by simpa using G.b2, ?_, ?_, by simpa using G.p1, by simpa using G.p2, ?_, ?_, ?_, ?_, ?_⟩, ?_, ?_, by simpa using P.b5⟩
  · intro s hs
    obtain ⟨b, hb', rfl⟩ := List.mem_map.mp hs
    exact ren_name b (hb b hb')
  · have := G.bd
    clear hfst P G
    induction boxes with
    | nil => simp
    | cons b boxes ih =>
      rw [List.nodup_cons] at this
      rw [List.map_cons, List.nodup_cons]
      refine ⟨fun z => ?_, ih (fun x hx => hb x (List.mem_cons_of_mem _ hx)) this.2⟩
      have hnm := this.1
      obtain ⟨c, hc, e⟩ := List.mem_map.mp z
      have := ren_inj c (hb c (List.mem_cons_of_mem _ hc)) b (hb b (List.mem_cons_self ..)) e
      subst this
      exact hnm hc
  · intro p hp
    obtain ⟨q, hq, rfl⟩ := List.mem_map.mp hp
    exact G.pn q hq
  · rw [hfst]; exact G.pd
  · intro p hp
    obtain ⟨q, hq, rfl⟩ := List.mem_map.mp hp
    simpa using G.r1 q hq
  · intro i p hi r hr
    rw [List.getElem?_map] at hi
    obtain ⟨q, hq, rfl⟩ := Option.map_eq_some_iff.mp hi
    obtain ⟨r', hr', rfl⟩ := List.mem_map.mp hr
    have := ren_row_ok (G.row i q hq r' hr')
    rw [List.map_drop, hfst, ← List.map_drop, List.length_map]
    exact this
  · intro p hp r hr
    obtain ⟨q, hq, rfl⟩ := List.mem_map.mp hp
    simp only [List.length_map, List.getElem?_map] at hr
    obtain ⟨r', hr', rfl⟩ := Option.map_eq_some_iff.mp hr
    rw [ren_last]; exact G.last q hq r' hr'
  · intro p hp r hr
    obtain ⟨q, hq, rfl⟩ := List.mem_map.mp hp
    obtain ⟨r', hr', rfl⟩ := List.mem_map.mp hr
    unfold Rw.sm
    rw [ren_ints]; exact P.sm q hq r' hr'
  · intro p hp
    obtain ⟨q, hq, rfl⟩ := List.mem_map.mp hp
    simpa using P.r6 q hq
end K58


set_option Elab.async false
set_option linter.all false
set_option autoImplicit false
set_option maxRecDepth 100000
set_option maxHeartbeats 4000000
/-! k58's mathematics 15: programs renamed, joined. -/
namespace K58
open PySem PySem.Spec PyProof.Rows L2 Z
theorem rp_loop {e0 e3 e4 e5 e6 e7 : Option RV} {i1 : Nat} {parts : List (Str × List Rw)} {T : Store} (h1 : i1 < T.length) (hd : T[i1]? = some (.dK renD)) (hl : parts.length ≤ 100) (hr : ∀ p ∈ parts, p.2.length ≤ 100) (hb : ∀ p ∈ parts, ∀ r ∈ p.2, r.bxs) :
    ∃ y3 y4 y5 y6 X', runFor (bTup 2 (bsCons (bName 3) (bsCons (bName 4) bsNil))) rpB (fun _ => true) (((parts.map fun p => partD p.1 (p.2.map Rw.d)).map RV.p).map Item.one) [e0, some (.loc i1), some (.loc T.length), e3, e4, e5, e6, e7] (T ++ [.lst []]) =
      .nx [e0, some (.loc i1), some (.loc T.length), y3, y4, y5, y6, e7] (T ++ .lst ((parts.map fun p => partD p.1 ((p.2.map Rw.ren).map Rw.d)).map .p) :: X') := by
  obtain ⟨e', S', h, y3, y4, y5, y6, X', he, hS⟩ := runFor_inv (b := bTup 2 (bsCons (bName 3) (bsCons (bName 4) bsNil))) (body := rpB) (items := ((parts.map fun p => partD p.1 (p.2.map Rw.d)).map RV.p).map Item.one)
    (fun j env S' => ∃ y3 y4 y5 y6 X', env = [e0, some (.loc i1), some (.loc T.length), y3, y4, y5, y6, e7] ∧ S' = T ++ .lst (((parts.take j).map fun p => partD p.1 ((p.2.map Rw.ren).map Rw.d)).map .p) :: X')
    (fun j it env S' hit ⟨y3, y4, y5, y6, X', he, hS⟩ => by
      subst he hS
      obtain ⟨r, rfl, hr0⟩ := get_one hit
      rw [List.getElem?_map, List.getElem?_map] at hr0
      obtain ⟨d, hd1, rfl⟩ := Option.map_eq_some_iff.mp hr0
      obtain ⟨p, hp1, rfl⟩ := Option.map_eq_some_iff.mp hd1
      have hm := List.mem_of_getElem? hp1
      obtain ⟨z5, z6, X2, hz⟩ := rpB_ok (e0 := e0) (e5 := y5) (e6 := y6) (e7 := e7) (p := p) (T := T) (X := X') (l := ((parts.take j).map fun p => partD p.1 ((p.2.map Rw.ren).map Rw.d)).map .p) h1 hd (by simp; omega) (hr p hm) (hb p hm)
      refine ⟨_, _, _, _, by rw [mkI_one, partD, bTup_p]; rfl, .inl hz, _, _, _, _, X2, rfl, ?_⟩
      rw [List.take_succ, hp1]; simp)
    (env := [e0, some (.loc i1), some (.loc T.length), e3, e4, e5, e6, e7]) (S := T ++ [.lst []]) ⟨_, _, _, _, [], rfl, by simp⟩
  refine ⟨y3, y4, y5, y6, X', ?_⟩
  rw [h, he, hS]
  simp
def renS : PyData → PyData
  | .str b => .str (ren b)
  | d => d
theorem renS_map {boxes : List Str} : (boxes.map PyData.str).map renS = (boxes.map ren).map .str := by simp [Function.comp_def, renS]
theorem renamed_ok {boxes : List Str} {parts : List (Str × List Rw)} {S : Store} (P : Prg boxes parts) (hb : ∀ b ∈ boxes, b ∈ bx5) : ∃ X, sp__law_renamed [.p (prog boxes parts)] S = .ok (.p (prog (boxes.map ren) (parts.map fun p => (p.1, p.2.map Rw.ren)))) (S ++ X) := by
  have G := P.good
  have hbx : ∀ p ∈ parts, ∀ r ∈ p.2, r.bxs := by
    intro p hp r hr b hb'
    obtain ⟨i, hi, e⟩ := List.getElem_of_mem hp
    have := G.row i p (by rw [List.getElem?_eq_getElem hi, e]) r hr
    rcases hb' with ⟨l, rfl⟩ | rfl
    · exact hb b this.1
    · exact hb b this
  obtain ⟨y3, y4, y5, y6, X', hl⟩ := rp_loop (e0 := some (.p (prog boxes parts))) (e3 := none) (e4 := none) (e5 := none) (e6 := none) (e7 := none) (i1 := S.length) (parts := parts) (T := S ++ [.dK renD]) (by simp) (by simp) (by have := G.p2; omega) (fun p hp => by have := (G.r1 p hp).2; omega) hbx
  have hU : ∀ Y, (S ++ [Cell.dK renD] ++ Y)[S.length]? = some (.dK renD) := fun Y => by simp
  have hT : (S ++ [Cell.dK renD]).length = S.length + 1 := by simp
  rw [hT] at hl
  have hdisp : ∀ env, mDisp [((mC (.p (.str "x"))), (mC (.p (.str "a")))), ((mC (.p (.str "y"))), (mC (.p (.str "c")))), ((mC (.p (.str "z"))), (mC (.p (.str "b")))), ((mC (.p (.str "total"))), (mC (.p (.str "x")))), ((mC (.p (.str "k"))), (mC (.p (.str "d"))))] env S = .ok (.loc S.length) (S ++ [.dK renD]) := fun env => by
    simp (decide := true) [mDisp, runPr, keysOf, keyOf, mergeR, putR, renD]
  have hfx : ∀ S', fIx (.p (prog boxes parts)) (.p (.int 1)) S' = .ok (.p (.list (parts.map fun p => partD p.1 (p.2.map Rw.d)))) S' := fun S' => by simp [prog_eq]
  have hfx0 : ∀ S', fIx (.p (prog boxes parts)) (.p (.int 0)) S' = .ok (.p (.list (boxes.map .str))) S' := fun S' => by simp [prog_eq]
  have hia : ∀ (env : Z.Env) S', env[0]? = some (some (.p (prog boxes parts))) → iAny (mBin fIx (mVar 0) (mC (.p (.int 1)))) env S' = .ok (((parts.map fun p => partD p.1 (p.2.map Rw.d)).map RV.p).map .one, fun _ => true) S' := fun env S' h0 => iAny_of (d := .list (parts.map fun p => partD p.1 (p.2.map Rw.d))) (by simp only [mBin_app, mVar_app, h0, bind_ok, mC_app, hfx]) rfl
  have hlc : mLc true (iAny (mBin fIx (mVar 0) (mC (.p (.int 0))))) (bName 7) tYesM (mBin fDGet (mVar 1) (mVar 7)) [7] [some (.p (prog boxes parts)), some (.loc S.length), some (.loc (S.length + 1)), y3, y4, y5, y6, none] (S ++ [.dK renD] ++ .lst ((parts.map fun p => partD p.1 ((p.2.map Rw.ren).map Rw.d)).map .p) :: X') = .ok (.p (.list ((boxes.map ren).map .str))) (S ++ [.dK renD] ++ .lst ((parts.map fun p => partD p.1 ((p.2.map Rw.ren).map Rw.d)).map .p) :: X') := by
    have := mLc_map (f := renS) (m := mBin fIx (mVar 0) (mC (.p (.int 0)))) (bd := bName 7) (tt := tYesM) (te := mBin fDGet (mVar 1) (mVar 7)) (vs := [7]) (env := [some (.p (prog boxes parts)), some (.loc S.length), some (.loc (S.length + 1)), y3, y4, y5, y6, none]) (S := S ++ [.dK renD] ++ .lst ((parts.map fun p => partD p.1 ((p.2.map Rw.ren).map Rw.d)).map .p) :: X')
      (d := .list (boxes.map .str)) (items := boxes.map .str) (by simp [hfx0]) rfl (fun d hd => by
        obtain ⟨b, hb', rfl⟩ := List.mem_map.mp hd
        refine ⟨_, rfl, rfl, ?_⟩
        simp only [wipeE, List.set, mBin_app, mVar_app, List.getElem?_cons_zero, List.getElem?_cons_succ, bind_ok, fDGet, hU, keyOf, ren_get (hb b hb'), renS]) (sizeK (by have := G.b2; simp; omega))
    rw [this, renS_map]
  have hfz := mFz_last (i := 2) (env := [some (.p (prog boxes parts)), some (.loc S.length), some (.loc (S.length + 1)), y3, y4, y5, y6, none]) (T := S ++ [.dK renD]) (X := X') (l := parts.map fun p => partD p.1 ((p.2.map Rw.ren).map Rw.d)) (by rw [hT]; rfl)
  refine ⟨[.dK renD] ++ .gone :: X', ?_⟩
  unfold rpB rnB at hl
  unfold sp__law_renamed mf__law_renamed mDef b__law_renamed
  simp -implicitDefEqProofs only [List.length_cons, List.length_nil, Nat.zero_add, if_true, List.cons_append, List.nil_append, List.replicate, List.map_cons, List.map_nil, mSeq_app, mAsg_app, hdisp, eS_ok, bName_app, List.set, asgR_ok, seqR_nx, mLst_app, aNil_app, bind_ok, mkLf_0, hT, mFor_app, hia, List.getElem?_cons_succ, List.getElem?_cons_zero, hl, mRet_app, mTup_app, aCons_app, hlc, hfz, mkT_2, seqR_rt, fin_rt]
  rw [List.append_assoc, prog_eq]
  simp [Function.comp_def]
end K58


set_option Elab.async false
set_option linter.all false
set_option autoImplicit false
set_option maxRecDepth 100000
set_option maxHeartbeats 4000000
/-! k58's mathematics 16: the law's own framed program. -/
namespace K58
open PySem PySem.Spec PyProof.Rows L2 Z
theorem law_free_ok {names : List Str} {many : Nat} {S : Store} : sp__law_free [.p (.list (names.map .str)), .p (.int many)] S = .ok (.p (.list ((lettersOf names many).map .str))) S := by
  have hlc : mLc true (iAny (mC (.p (.str letters)))) (bName 3) (mTst (mBin (fIn true) (mVar 3) (mVar 0))) (mVar 3) [3] [some (.p (.list (names.map .str))), some (.p (.int many)), none, none] S = .ok (.p (.list (((letters.cps.toList.map fun c => (⟨#[c]⟩ : Str)).filter fun s => !decide (s ∈ names)).map .str))) S := by
    have := mLc_filter (f := fun d => d) (p := fun d => match d with
        | .str s => !decide (s ∈ names)
        | _ => false) (m := mC (.p (.str letters))) (bd := bName 3) (tt := mTst (mBin (fIn true) (mVar 3) (mVar 0))) (te := mVar 3) (vs := [3]) (env := [some (.p (.list (names.map .str))), some (.p (.int many)), none, none]) (S := S) (d := .str letters) (items := letters.cps.toList.map fun c => .str ⟨#[c]⟩) (by simp) rfl (fun d hd => by
      obtain ⟨c, hc, rfl⟩ := List.mem_map.mp hd
      exact ⟨_, rfl, by simp [wipeE, in_strs], by simp [wipeE]⟩) (sizeK (by decide))
    rw [this]
    simp [List.filter_map, Function.comp_def]
  have el : (PyData.str "abcdefghijklmnopqrstuvwxyz") = PyData.str letters := rfl
  have hz : (((letters.cps.toList.map fun c => (⟨#[c]⟩ : Str)).filter fun s => !decide (s ∈ names)).map PyData.str).length ≤ sizeLine := by
    rw [List.length_map]
    exact Nat.le_trans (List.length_filter_le ..) (sizeK (by decide))
  simp only [sp__law_free, mf__law_free, b__law_free, mDef, el]
  simp -implicitDefEqProofs [hlc, fSl_l hz, cutG_to, lettersOf]
theorem cut2t {a b : PyData} {l : List PyData} : cutG (a :: b :: l) (some 2) none = l := cut2
theorem law_wider_ok {r : Rw} {n : Nat} {S : Store} (hn : n ≤ 1000) (hr : ∀ l : List Int, (∃ b, r = .set b l) ∨ (∃ u, r = .want u l) ∨ (∃ u, r = .claim u l) ∨ (∃ u k, r = .test u l k) → l.length ≤ 1000) :
    sp__law_wider [.p r.d, .p (.int n)] S = .ok (.p (r.wider n).d) S := by
  have ad : ∀ {l : List Int}, l.length ≤ 1000 → fAdd true (.p (.tuple (l.map .int))) (.p (.tuple (List.replicate n (.int 0)))) S = .ok (.p (.tuple ((l ++ List.replicate n 0).map .int))) S := fun hl => by
    rw [fAdd_tt (size2 (by simpa using hl) (by simpa using hn))]; simp
  have hs2 : (2 : Nat) ≤ sizeLine := sizeK (by omega)
  have hs3 : (3 : Nat) ≤ sizeLine := sizeK (by omega)
  cases r with
  | set b l =>
    have hl := hr l (.inl ⟨_, rfl⟩)
    simp (decide := true) -implicitDefEqProofs [sp__law_wider, mf__law_wider, b__law_wider, mDef, Rw.d, Rw.wider, noughts hn, ad hl]
  | want u l =>
    have hl := hr l (.inr (.inl ⟨_, rfl⟩))
    simp (decide := true) -implicitDefEqProofs [sp__law_wider, mf__law_wider, b__law_wider, mDef, Rw.d, Rw.wider, noughts hn, ad hl, fIn_l3, wishD, fSl_t, cut2t, fAdd_tt, hs2, hs3]
  | claim u l =>
    have hl := hr l (.inr (.inr (.inl ⟨_, rfl⟩)))
    simp (decide := true) -implicitDefEqProofs [sp__law_wider, mf__law_wider, b__law_wider, mDef, Rw.d, Rw.wider, noughts hn, ad hl, fIn_l3, wishD, fSl_t, cut2t, fAdd_tt, hs2, hs3]
  | test u l k =>
    have hl := hr l (.inr (.inr (.inr ⟨_, _, rfl⟩)))
    simp (decide := true) -implicitDefEqProofs [sp__law_wider, mf__law_wider, b__law_wider, mDef, Rw.d, Rw.wider, noughts hn, ad hl, fIn_l3, wishD, fSl_t, cut2t, fAdd_tt, hs2, hs3]
  | _ => simp (decide := true) -implicitDefEqProofs [sp__law_wider, mf__law_wider, b__law_wider, mDef, Rw.d, Rw.wider, noughts hn, fIn_l3]
theorem set_repl {α : Type} {x y : α} (a b : Nat) : (List.replicate (a + 1 + b) x).set a y = List.replicate a x ++ [y] ++ List.replicate b x := by
  induction a with
  | zero => rw [Nat.add_comm (0 + 1) b, Nat.zero_add, List.replicate_succ]; rfl
  | succ a ih =>
    rw [show a + 1 + 1 + b = (a + 1 + b) + 1 by omega, List.replicate_succ, List.set_cons_succ, ih, List.replicate_succ]
    simp
noncomputable def stB : MS :=
  (mSeq (mAsg (mBin (fMul false) (mLst true (aCons (mC (.p (.int 0))) aNil)) (mBin (fAdd true) (mBin (fMul true) (mC (.p (.int 2))) (mVar 5)) (mC (.p (.int 1))))) (bName 10))
  (mSeq (mAsg (mC (.p (.int 1))) (bSub (mVar 10) (mBin (fAdd true) (mBin (fAdd true) (mC (.p (.int 1))) (mVar 5)) (mVar 9))))
  (mSeq (mExp (mBM "list" fAppend (mVar 7) (aCons (mTup (aCons (mC (.p (.str "set"))) (aCons (mBin fIx (mVar 3) (mVar 9)) (aCons (mCall fTupleOf (aCons (mVar 10) aNil)) aNil)))) aNil)))
  mNext)))
theorem stB_ok {e0 e1 e2 e4 e6 e8 e10 e11 e12 e13 e14 e15 e16 : Option RV} {boxes : List Str} {j : Nat} {b : Str} {S X : Store} {l : List Rw} (hb : boxes.length ≤ 100) (hj : boxes[j]? = some b) (hl : l.length ≤ 1000) :
    ∃ y10 X', stB [e0, e1, e2, some (.p (.list (boxes.map .str))), e4, some (.p (.int boxes.length)), e6, some (.loc S.length), e8, some (.p (.int j)), e10, e11, e12, e13, e14, e15, e16] (S ++ .lst ((l.map Rw.d).map .p) :: X) =
      .nx [e0, e1, e2, some (.p (.list (boxes.map .str))), e4, some (.p (.int boxes.length)), e6, some (.loc S.length), e8, some (.p (.int j)), y10, e11, e12, e13, e14, e15, e16] (S ++ .lst (((l ++ [setRow boxes.length j b]).map Rw.d).map .p) :: X') := by
  have hjl : j < boxes.length := (List.getElem?_eq_some_iff.mp hj).1
  generalize hn : boxes.length = n at *
  have hty : ∀ Y, tyOk "list" (.loc S.length) (S ++ .lst ((l.map Rw.d).map .p) :: X ++ Y) = true := fun Y => by
    have := tyOk_last (S := S) (l := (l.map Rw.d).map .p) (X := X ++ Y)
    rw [List.append_assoc, List.cons_append]; exact this
  have hap : ∀ Y, fAppend (.loc S.length) [.p (setRow n j b).d] (S ++ .lst ((l.map Rw.d).map .p) :: X ++ Y) = .ok (.p .none) (S ++ .lst (((l ++ [setRow n j b]).map Rw.d).map .p) :: (X ++ Y)) := fun Y => by
    have := fAppend_last (S := S) (l := (l.map Rw.d).map .p) (y := .p (setRow n j b).d) (X := X ++ Y) (by simp; omega)
    rw [List.append_assoc, List.cons_append, this]; simp
  generalize (S ++ .lst ((l.map Rw.d).map .p) :: X) = U at hty hap
  have hm1 : ∀ S', fMul true (.p (.int 2)) (.p (.int n)) S' = .ok (.p (.int (2 * n))) S' := fun S' => fMul_r (by omega) (by omega)
  have hm2 : fMul false (.p (.list [.int 0])) (.p (.int (2 * (n : Int) + 1))) U = .ok (.loc U.length) (U ++ [.lst (List.replicate (1 + n + j + 1 + (n - j - 1)) (.p (.int 0)))]) := by
    have e1 : (2 * (n : Int) + 1).toNat = 2 * n + 1 := by omega
    have e2 : -(2 ^ 63) ≤ 2 * (n : Int) + 1 := by omega
    have e3 : 2 * (n : Int) + 1 < 2 ^ 63 := by omega
    have e4 : ([PyData.int 0].length * (2 * n + 1)) ≤ sizeLine := sizeK (by simp; omega)
    have e5 : ∀ k, repl k [RV.p (PyData.int 0)] = List.replicate k (.p (.int 0)) := by
      intro k
      induction k with
      | zero => rfl
      | succ k ih => simp [repl, ih, List.replicate_succ]
    simp only [fMul]
    rw [e1, if_pos ⟨e2, e3, e4⟩]
    simp only [List.map_cons, List.map_nil, e5, mkL]
    rw [if_pos (sizeK (by simp; omega)), if_neg (by simp), show 2 * n + 1 = 1 + n + j + 1 + (n - j - 1) by omega]
  have hst : fSetL (.loc U.length) (.p (.int (1 + (n : Int) + (j : Int)))) (.p (.int 1)) (U ++ [.lst (List.replicate (1 + n + j + 1 + (n - j - 1)) (.p (.int 0)))]) = some (U ++ [.lst (((List.replicate (1 + n + j) (0 : Int) ++ [1] ++ List.replicate (n - j - 1) 0).map PyData.int).map RV.p)]) := by
    have hix : ixN (1 + n + j + 1 + (n - j - 1)) (1 + (n : Int) + (j : Int)) = some (1 + n + j) := by
      unfold ixN
      rw [if_pos (by omega), if_pos (by omega)]
      first | (congr 1; done) | (congr 1; omega)
    simp only [fSetL, get_last, List.length_replicate, hix, set_last, set_repl]
    simp
  have hix : ∀ S', fIx (.p (.list (boxes.map .str))) (.p (.int j)) S' = .ok (.p (.str b)) S' := fun S' => by
    rw [fIx_l, atI_map, Z.atI_nat, hj]; rfl
  have hft : fTupleOf [.loc U.length] (U ++ [.lst (((List.replicate (1 + n + j) (0 : Int) ++ [1] ++ List.replicate (n - j - 1) 0).map PyData.int).map RV.p)]) = .ok (.p (.tuple ((List.replicate (1 + n + j) (0 : Int) ++ [1] ++ List.replicate (n - j - 1) 0).map .int))) (U ++ [.lst (((List.replicate (1 + n + j) (0 : Int) ++ [1] ++ List.replicate (n - j - 1) 0).map PyData.int).map RV.p)]) := by
    simp only [fTupleOf, lstv, get_last]
    rw [mkT_p, if_pos (sizeK (by simp; omega))]
  have hsd : PyData.tuple [.str "set", .str b, .tuple ((List.replicate (1 + n + j) (0 : Int) ++ [1] ++ List.replicate (n - j - 1) 0).map .int)] = (setRow n j b).d := rfl
  refine ⟨some (.loc U.length), X ++ [.lst (((List.replicate (1 + n + j) (0 : Int) ++ [1] ++ List.replicate (n - j - 1) 0).map PyData.int).map RV.p)], ?_⟩
  unfold stB
  simp -implicitDefEqProofs only [mSeq_app, mAsg_app, mBin_app, mLst_app, aCons_app, mC_app, aNil_app, bind_ok, mkL_1, mVar_app, List.getElem?_cons_zero, List.getElem?_cons_succ, hm1, fAdd_i, hm2, eS_ok, bName_app, List.set, asgR_ok, seqR_nx, bSub, hst, mExp_app, mBM_app, hty, if_true, mTup_app, hix, mCall_app, hft, mkT_3, hsd, hap, mNext_app]
theorem st_loop {e0 e1 e2 e4 e6 e8 e9 e10 e11 e12 e13 e14 e15 e16 : Option RV} {boxes : List Str} {S : Store} {l : List Rw} (hb : boxes.length ≤ 100) (hl : l.length ≤ 100) :
    ∃ y9 y10 X', runFor (bName 9) stB (fun _ => true) (rng 0 boxes.length) [e0, e1, e2, some (.p (.list (boxes.map .str))), e4, some (.p (.int boxes.length)), e6, some (.loc S.length), e8, e9, e10, e11, e12, e13, e14, e15, e16] (S ++ [.lst ((l.map Rw.d).map .p)]) =
      .nx [e0, e1, e2, some (.p (.list (boxes.map .str))), e4, some (.p (.int boxes.length)), e6, some (.loc S.length), e8, y9, y10, e11, e12, e13, e14, e15, e16] (S ++ .lst (((l ++ boxes.mapIdx (fun at_ b => setRow boxes.length at_ b)).map Rw.d).map .p) :: X') := by
  obtain ⟨e', S', h, y9, y10, X', he, hS⟩ := runFor_inv (b := bName 9) (body := stB) (items := rng 0 boxes.length)
    (fun j env S' => ∃ y9 y10 X', env = [e0, e1, e2, some (.p (.list (boxes.map .str))), e4, some (.p (.int boxes.length)), e6, some (.loc S.length), e8, y9, y10, e11, e12, e13, e14, e15, e16] ∧ S' = S ++ .lst (((l ++ (boxes.mapIdx (fun at_ b => setRow boxes.length at_ b)).take j).map Rw.d).map .p) :: X')
    (fun j it env S' hit ⟨y9, y10, X', he, hS⟩ => by
      subst he hS
      have hj : j < boxes.length := by have := (List.getElem?_eq_some_iff.mp hit).1; simpa [rng_len] using this
      have hit2 : it = .one (.p (.int (j : Int))) := by
        have : (rng 0 boxes.length)[j]? = some (.one (.p (.int (0 + (j : Int))))) := by simp [rng, hj]
        rw [hit] at this
        rw [Option.some.inj this, Int.zero_add]
      subst hit2
      obtain ⟨z10, X2, hz⟩ := stB_ok (e0 := e0) (e1 := e1) (e2 := e2) (e4 := e4) (e6 := e6) (e8 := e8) (e10 := y10) (e11 := e11) (e12 := e12) (e13 := e13) (e14 := e14) (e15 := e15) (e16 := e16) (S := S) (X := X') (l := l ++ (boxes.mapIdx (fun at_ b => setRow boxes.length at_ b)).take j) hb (List.getElem?_eq_getElem hj) (by simp; omega)
      refine ⟨_, _, _, _, by rw [mkI_one, bName_app]; rfl, .inl hz, _, _, X2, rfl, ?_⟩
      rw [mapIdx_take (List.getElem?_eq_getElem hj)]; simp)
    (env := [e0, e1, e2, some (.p (.list (boxes.map .str))), e4, some (.p (.int boxes.length)), e6, some (.loc S.length), e8, e9, e10, e11, e12, e13, e14, e15, e16]) (S := S ++ [.lst ((l.map Rw.d).map .p)]) ⟨_, _, [], rfl, by simp⟩
  refine ⟨y9, y10, X', ?_⟩
  rw [h, he, hS, rng_len, List.take_of_length_le (by simp)]
end K58


set_option Elab.async false
set_option linter.all false
set_option autoImplicit false
set_option maxRecDepth 100000
set_option maxHeartbeats 4000000
/-! k58's mathematics 17: the law's own framed program, joined. -/
namespace K58
open PySem PySem.Spec PyProof.Rows L2 Z
noncomputable def clB : MS :=
  (mSeq (mExp (mBM "list" fAppend (mVar 7) (aCons (mTup (aCons (mC (.p (.str "claim"))) (aCons (mTup (aCons (mVar 11) (aCons (mBin (fAdd true) (mBin (fAdd true) (mSl (fSl true) (mVar 10) oNo (oSo (mC (.p (.int 1))))) (mSl (fSl true) (mVar 10) (oSo (mBin (fAdd true) (mC (.p (.int 1))) (mVar 5))) oNo)) (mSl (fSl true) (mVar 10) (oSo (mC (.p (.int 1)))) (oSo (mBin (fAdd true) (mC (.p (.int 1))) (mVar 5))))) aNil))) aNil))) aNil)))
  mNext)
theorem clB_ok {e0 e1 e2 e3 e4 e6 e8 e9 e12 e13 e14 e15 e16 : Option RV} {n : Nat} {u : Str} {a : Int} {ln : List Int} {S X : Store} {l : List Rw} (hn : n ≤ 100) (hln : ln.length ≤ 1000) (hl : l.length ≤ 1000) :
    clB [e0, e1, e2, e3, e4, some (.p (.int n)), e6, some (.loc S.length), e8, e9, some (.p (.tuple ((a :: ln).map .int))), some (.p (.str u)), e12, e13, e14, e15, e16] (S ++ .lst ((l.map Rw.d).map .p) :: X) =
      .nx [e0, e1, e2, e3, e4, some (.p (.int n)), e6, some (.loc S.length), e8, e9, some (.p (.tuple ((a :: ln).map .int))), some (.p (.str u)), e12, e13, e14, e15, e16] (S ++ .lst (((l ++ [claimRow n (u, a :: ln)]).map Rw.d).map .p) :: X) := by
  have hty := tyOk_last (S := S) (l := (l.map Rw.d).map .p) (X := X)
  have hap := fAppend_last (S := S) (l := (l.map Rw.d).map .p) (y := .p (claimRow n (u, a :: ln)).d) (X := X) (by simp; omega)
  have c1 : cutG ((a :: ln).map PyData.int) none (some 1) = [.int a] := by
    have := cutG_to (l := (a :: ln).map PyData.int) 1
    simpa using this
  have c2 : cutG ((a :: ln).map PyData.int) (some (1 + (n : Int))) none = (ln.drop n).map .int := by
    have := cutG_from (l := (a :: ln).map PyData.int) (1 + n)
    rw [show (1 + (n : Int)) = ((1 + n : Nat) : Int) by omega, this, Nat.add_comm]; simp
  have c3 : cutG ((a :: ln).map PyData.int) (some 1) (some (1 + (n : Int))) = (ln.take n).map .int := by
    have := cutG_mid (l := (a :: ln).map PyData.int) 1 (1 + n) (by omega)
    rw [show (1 + (n : Int)) = ((1 + n : Nat) : Int) by omega]
    rw [show (1 : Int) = ((1 : Nat) : Int) by rfl, this]; simp
  have d1 : ∀ S', fAdd true (.p (.tuple [.int a])) (.p (.tuple ((ln.drop n).map .int))) S' = .ok (.p (.tuple (.int a :: (ln.drop n).map .int))) S' := fun S' => by
    rw [fAdd_tt (sizeK (by simp; omega))]; rfl
  have d2 : ∀ S', fAdd true (.p (.tuple (.int a :: (ln.drop n).map .int))) (.p (.tuple ((ln.take n).map .int))) S' = .ok (.p (.tuple ((a :: (ln.drop n ++ ln.take n)).map .int))) S' := fun S' => by
    rw [fAdd_tt (sizeK (by simp; omega))]; simp
  have hcd : PyData.tuple [.str "claim", .tuple [.str u, .tuple ((a :: (ln.drop n ++ ln.take n)).map .int)]] = (claimRow n (u, a :: ln)).d := rfl
  unfold clB
  simp -implicitDefEqProofs only [mSeq_app, mExp_app, mBM_app, mVar_app, List.getElem?_cons_zero, List.getElem?_cons_succ, bind_ok, hty, if_true, aCons_app, mTup_app, mC_app, mBin_app, mSl_app, oNo_app, oSo_app, osoR_i, fSl_t, c1, c2, c3, fAdd_i, d1, d2, aNil_app, mkT_2, hcd, hap, eS_ok, seqR_nx, mNext_app]
  simp
theorem cl_loop {e0 e1 e2 e3 e4 e6 e8 e9 e10 e11 e12 e13 e14 e15 e16 : Option RV} {n : Nat} {ws : List (Str × List Int)} {S X : Store} {l : List Rw} (hn : n ≤ 100) (hl : l.length ≤ 100) (hw : ws.length ≤ 100) (hwl : ∀ w ∈ ws, 1 ≤ w.2.length ∧ w.2.length ≤ 1000) :
    ∃ y10 y11, runFor (bTup 2 (bsCons (bName 11) (bsCons (bName 10) bsNil))) clB (fun _ => true) (((ws.map fun w => wishD w.1 w.2).map RV.p).map Item.one) [e0, e1, e2, e3, e4, some (.p (.int n)), e6, some (.loc S.length), e8, e9, e10, e11, e12, e13, e14, e15, e16] (S ++ .lst ((l.map Rw.d).map .p) :: X) =
      .nx [e0, e1, e2, e3, e4, some (.p (.int n)), e6, some (.loc S.length), e8, e9, y10, y11, e12, e13, e14, e15, e16] (S ++ .lst (((l ++ ws.map (claimRow n)).map Rw.d).map .p) :: X) := by
  obtain ⟨e', S', h, y10, y11, he, hS⟩ := runFor_inv (b := bTup 2 (bsCons (bName 11) (bsCons (bName 10) bsNil))) (body := clB) (items := ((ws.map fun w => wishD w.1 w.2).map RV.p).map Item.one)
    (fun j env S' => ∃ y10 y11, env = [e0, e1, e2, e3, e4, some (.p (.int n)), e6, some (.loc S.length), e8, e9, y10, y11, e12, e13, e14, e15, e16] ∧ S' = S ++ .lst (((l ++ (ws.take j).map (claimRow n)).map Rw.d).map .p) :: X)
    (fun j it env S' hit ⟨y10, y11, he, hS⟩ => by
      subst he hS
      obtain ⟨r, rfl, hr0⟩ := get_one hit
      rw [List.getElem?_map, List.getElem?_map] at hr0
      obtain ⟨d, hd1, rfl⟩ := Option.map_eq_some_iff.mp hr0
      obtain ⟨⟨u, lw⟩, hw1, rfl⟩ := Option.map_eq_some_iff.mp hd1
      have hm := hwl _ (List.mem_of_getElem? hw1)
      cases lw with
      | nil => simp at hm
      | cons a ln =>
        have hz := clB_ok (e0 := e0) (e1 := e1) (e2 := e2) (e3 := e3) (e4 := e4) (e6 := e6) (e8 := e8) (e9 := e9) (e12 := e12) (e13 := e13) (e14 := e14) (e15 := e15) (e16 := e16) (n := n) (u := u) (a := a) (ln := ln) (S := S) (X := X) (l := l ++ (ws.take j).map (claimRow n)) hn (by simp at hm; omega) (by simp; omega)
        refine ⟨_, _, _, _, by rw [mkI_one, bTup_wish]; rfl, .inl hz, _, _, rfl, ?_⟩
        rw [List.take_succ, hw1]; simp)
    (env := [e0, e1, e2, e3, e4, some (.p (.int n)), e6, some (.loc S.length), e8, e9, e10, e11, e12, e13, e14, e15, e16]) (S := S ++ .lst ((l.map Rw.d).map .p) :: X) ⟨_, _, rfl, by simp⟩
  refine ⟨y10, y11, ?_⟩
  rw [h, he, hS]
  simp
noncomputable def fdB : MS :=
  (mSeq (mExp (mBM "list" fAppend (mVar 15) (aCons (mTup (aCons (mVar 13) (aCons (mLc true (iAny (mVar 14)) (bName 16) tYesM (mCall sp__law_wider (aCons (mVar 16) (aCons (mVar 5) aNil))) [16]) aNil))) aNil)))
  mNext)
theorem law_wider_rows {rows : List Rw} {n : Nat} {env : Z.Env} {S : Store} (hl : rows.length ≤ 1000) (h5 : env[5]? = some (some (.p (.int n)))) (h14 : env[14]? = some (some (.p (.list (rows.map Rw.d))))) (h16 : 16 < env.length)
    (hr : ∀ r ∈ rows, ∀ S, sp__law_wider [.p r.d, .p (.int n)] S = .ok (.p (r.wider n).d) S) :
    mLc true (iAny (mVar 14)) (bName 16) tYesM (mCall sp__law_wider (aCons (mVar 16) (aCons (mVar 5) aNil))) [16] env S = .ok (.p (.list ((rows.map (Rw.wider n)).map Rw.d))) S := by
  have := mLc_map (f := fun d => match sp__law_wider [.p d, .p (.int n)] S with
      | .ok (.p d') _ => d'
      | _ => .none) (m := mVar 14) (bd := bName 16) (tt := tYesM) (te := mCall sp__law_wider (aCons (mVar 16) (aCons (mVar 5) aNil))) (vs := [16]) (env := env) (S := S) (d := .list (rows.map Rw.d)) (items := rows.map Rw.d) (by simp [h14]) rfl (fun d hd => by
      obtain ⟨r, hr', rfl⟩ := List.mem_map.mp hd
      refine ⟨_, rfl, rfl, ?_⟩
      have e1 : ((wipeE env [16]).set 16 (some (.p r.d)))[16]? = some (some (.p r.d)) := by rw [List.getElem?_set_self (by simpa [wipeE] using h16)]
      have e2 : ((wipeE env [16]).set 16 (some (.p r.d)))[5]? = some (some (.p (.int n))) := by
        rw [List.getElem?_set_ne (by omega)]; simp only [wipeE]; rw [List.getElem?_set_ne (by omega)]; exact h5
      simp only [mCall_app, aCons_app, mVar_app, e1, e2, aNil_app, bind_ok, hr r hr' S]) (sizeK (by simp; omega))
  rw [this, List.map_map, List.map_map]
  congr 3
  apply List.map_congr_left
  intro r hr'
  simp [hr r hr' S]
theorem fdB_ok {e0 e1 e2 e3 e4 e6 e7 e8 e9 e10 e11 e12 e16 : Option RV} {n : Nat} {p : Str × List Rw} {l : List RV} {T X : Store} (hp : p.2.length ≤ 1000) (hl : l.length ≤ 1000) (hr : ∀ r ∈ p.2, ∀ S, sp__law_wider [.p r.d, .p (.int n)] S = .ok (.p (r.wider n).d) S) :
    fdB [e0, e1, e2, e3, e4, some (.p (.int n)), e6, e7, e8, e9, e10, e11, e12, some (.p (.str p.1)), some (.p (.list (p.2.map Rw.d))), some (.loc T.length), e16] (T ++ .lst l :: X) =
      .nx [e0, e1, e2, e3, e4, some (.p (.int n)), e6, e7, e8, e9, e10, e11, e12, some (.p (.str p.1)), some (.p (.list (p.2.map Rw.d))), some (.loc T.length), e16] (T ++ .lst (l ++ [.p (partD p.1 ((p.2.map (Rw.wider n)).map Rw.d))]) :: X) := by
  have h := law_wider_rows (rows := p.2) (n := n) (env := [e0, e1, e2, e3, e4, some (.p (.int n)), e6, e7, e8, e9, e10, e11, e12, some (.p (.str p.1)), some (.p (.list (p.2.map Rw.d))), some (.loc T.length), e16]) (S := T ++ .lst l :: X) hp rfl rfl (by simp) hr
  have hty := tyOk_last (S := T) (l := l) (X := X)
  have ha := fAppend_last (S := T) (l := l) (y := .p (partD p.1 ((p.2.map (Rw.wider n)).map Rw.d))) (X := X) (by omega)
  have hpd : PyData.tuple [.str p.1, .list ((p.2.map (Rw.wider n)).map Rw.d)] = partD p.1 ((p.2.map (Rw.wider n)).map Rw.d) := rfl
  unfold fdB
  simp -implicitDefEqProofs only [mSeq_app, mExp_app, mBM_app, mVar_app, mTup_app, aCons_app, aNil_app, bind_ok, List.getElem?_cons_succ, List.getElem?_cons_zero, hty, if_true, h, mkT_2, hpd, ha, eS_ok, seqR_nx, mNext_app]
theorem fd_loop {e0 e1 e2 e3 e4 e6 e7 e8 e9 e10 e11 e12 e13 e14 e16 : Option RV} {n : Nat} {ps : List (Str × List Rw)} {l : List PyData} {T X : Store} (hps : ps.length ≤ 100) (hp : ∀ p ∈ ps, p.2.length ≤ 1000) (hl : l.length ≤ 100) (hr : ∀ p ∈ ps, ∀ r ∈ p.2, ∀ S, sp__law_wider [.p r.d, .p (.int n)] S = .ok (.p (r.wider n).d) S) : ∃ x13 x14,
    runFor (bTup 2 (bsCons (bName 13) (bsCons (bName 14) bsNil))) fdB (fun _ => true) (((ps.map fun p => partD p.1 (p.2.map Rw.d)).map RV.p).map Item.one) [e0, e1, e2, e3, e4, some (.p (.int n)), e6, e7, e8, e9, e10, e11, e12, e13, e14, some (.loc T.length), e16] (T ++ .lst (l.map .p) :: X) =
      .nx [e0, e1, e2, e3, e4, some (.p (.int n)), e6, e7, e8, e9, e10, e11, e12, x13, x14, some (.loc T.length), e16] (T ++ .lst ((l ++ ps.map fun p => partD p.1 ((p.2.map (Rw.wider n)).map Rw.d)).map .p) :: X) := by
  obtain ⟨e', S', h1, x13, x14, he, hS⟩ := runFor_inv (b := bTup 2 (bsCons (bName 13) (bsCons (bName 14) bsNil))) (body := fdB) (items := ((ps.map fun p => partD p.1 (p.2.map Rw.d)).map RV.p).map Item.one)
    (fun j env S' => ∃ x13 x14, env = [e0, e1, e2, e3, e4, some (.p (.int n)), e6, e7, e8, e9, e10, e11, e12, x13, x14, some (.loc T.length), e16] ∧ S' = T ++ .lst ((l ++ (ps.take j).map fun p => partD p.1 ((p.2.map (Rw.wider n)).map Rw.d)).map .p) :: X)
    (fun j it env S' hit ⟨x13, x14, he, hS⟩ => by
      subst he hS
      obtain ⟨r, rfl, hr0⟩ := get_one hit
      rw [List.getElem?_map, List.getElem?_map] at hr0
      obtain ⟨d, hd1, rfl⟩ := Option.map_eq_some_iff.mp hr0
      obtain ⟨p, hp1, rfl⟩ := Option.map_eq_some_iff.mp hd1
      have hm := List.mem_of_getElem? hp1
      refine ⟨_, _, _, _, by rw [mkI_one, partD, bTup_p]; rfl, .inl (fdB_ok (p := p) (hp p hm) (by simp; omega) (hr p hm)), _, _, rfl, ?_⟩
      rw [List.take_succ, hp1]; simp)
    (env := [e0, e1, e2, e3, e4, some (.p (.int n)), e6, e7, e8, e9, e10, e11, e12, e13, e14, some (.loc T.length), e16]) (S := T ++ .lst (l.map .p) :: X) ⟨_, _, rfl, by simp⟩
  refine ⟨x13, x14, ?_⟩
  rw [h1, he, hS]
  simp
/-- the place of a name -/
theorem index_ok {names : List Str} {i : Nat} {s : Str} {S : Store} (hd : names.Nodup) (h : names[i]? = some s) (hl : names.length ≤ 1000) : fIndex (.p (.list (names.map .str))) [.p (.str s)] S = .ok (.p (.int i)) S := by
  have hx : idxP (.str s) (names.map PyData.str) = some i := by
    clear hl
    induction names generalizing i with
    | nil => simp at h
    | cons a names ih =>
      rw [List.nodup_cons] at hd
      cases i with
      | zero =>
        simp at h; subst h
        simp [idxP, eqv_str]
      | succ i =>
        have h' : names[i]? = some s := by simpa using h
        have hne : s ≠ a := fun z => hd.1 (z ▸ List.mem_of_getElem? h')
        simp [idxP, eqv_str, hne, ih hd.2 h']
  have h1 : (names.map PyData.str).all flatP = true := by simp [flatP]
  simp only [fIndex, lstv, Option.bind_some, allP_map]
  rw [if_pos ⟨rfl, h1⟩, hx]
  rfl
end K58


set_option Elab.async false
set_option linter.all false
set_option autoImplicit false
set_option maxRecDepth 100000
set_option maxHeartbeats 4000000
/-! k58's mathematics 18: the law's own framed program: what it is. -/
namespace K58
open PySem PySem.Spec PyProof.Rows L2 Z
theorem made_ok {boxes : List Str} {parts : List (Str × List Rw)} {nm first : Str} {i : Nat} {ws : List (Str × List Int)} {S : Store} (P : Prg boxes parts) (hb : boxes.length ≤ 4) (hn : (parts.map (·.1))[i + 1]? = some nm) (hw : ws.length ≤ 12) (hws : ∀ w ∈ ws, wishOk (2 * boxes.length) w.1 w.2)
    (hf : lettersOf (parts.map (·.1)) 1 = [first]) (hwr : ∀ p ∈ parts, ∀ r ∈ p.2, ∀ S, sp__law_wider [.p r.d, .p (.int boxes.length)] S = .ok (.p (r.wider boxes.length).d) S) :
    ∃ X, sp__law_made [.p (prog boxes parts), .p (.str nm), .p (.list (ws.map fun w => wishD w.1 w.2))] S = .ok (.p (prog (FPb boxes) (FPp boxes parts nm first ws i))) (S ++ X) := by
  have G := P.good
  have hb1 := G.b1
  have hp1 := G.p1
  have hp2 := G.p2
  have hmo : (lettersOf boxes boxes.length).length = boxes.length := lettersOf_length (by omega)
  have hi : i + 1 < parts.length := by have := (List.getElem?_eq_some_iff.mp hn).1; simpa using this
  generalize hmore : lettersOf boxes boxes.length = more at hmo
  have hfree : ∀ S, sp__law_free [.p (.list (boxes.map .str)), .p (.int boxes.length)] S = .ok (.p (.list (more.map .str))) S := fun S => by rw [← hmore]; exact law_free_ok
  have hfree1 : ∀ S, sp__law_free [.p (.list ((parts.map (·.1)).map .str)), .p (.int 1)] S = .ok (.p (.list [.str first])) S := fun S => by
    have := law_free_ok (names := parts.map (·.1)) (many := 1) (S := S)
    rw [hf] at this; simpa using this
  obtain ⟨y9, y10, X1, hst⟩ := st_loop (e0 := some (.p (prog boxes parts))) (e1 := some (.p (.str nm))) (e2 := some (.p (.list (ws.map fun w => wishD w.1 w.2)))) (e4 := some (.p (.list (parts.map fun p => partD p.1 (p.2.map Rw.d))))) (e6 := some (.p (.list (more.map .str)))) (e8 := none) (e9 := none) (e10 := none) (e11 := none) (e12 := none) (e13 := none) (e14 := none) (e15 := none) (e16 := none) (boxes := boxes) (S := S) (l := more.map .read) (by omega) (by simp; omega)
  generalize hr1 : more.map Rw.read ++ boxes.mapIdx (fun at_ b => setRow boxes.length at_ b) = rows1 at hst
  have hr1l : rows1.length ≤ 10 := by rw [← hr1]; simp; omega
  have hap := fAppend_last (S := S) (l := (rows1.map Rw.d).map .p) (y := .p (.tuple [.str "call", .str nm])) (X := X1) (by simp; omega)
  have hty := tyOk_last (S := S) (l := (rows1.map Rw.d).map .p) (X := X1)
  have hapl : ((rows1.map Rw.d).map RV.p ++ [.p (.tuple [.str "call", .str nm])]) = (((rows1 ++ [Rw.call nm]).map Rw.d).map RV.p) := by simp [Rw.d]
  rw [hapl] at hap
  obtain ⟨z10, z11, hcl⟩ := cl_loop (e0 := some (.p (prog boxes parts))) (e1 := some (.p (.str nm))) (e2 := some (.p (.list (ws.map fun w => wishD w.1 w.2)))) (e3 := some (.p (.list (boxes.map .str)))) (e4 := some (.p (.list (parts.map fun p => partD p.1 (p.2.map Rw.d))))) (e6 := some (.p (.list (more.map .str)))) (e8 := none) (e9 := y9) (e10 := y10) (e11 := none) (e12 := none) (e13 := none) (e14 := none) (e15 := none) (e16 := none) (n := boxes.length) (ws := ws) (S := S) (X := X1) (l := rows1 ++ [.call nm]) (by omega) (by simp; omega) (by omega) (fun w hw' => by have := (hws w hw').2; omega)
  generalize hr2 : rows1 ++ [Rw.call nm] ++ ws.map (claimRow boxes.length) = rows2 at hcl
  have hr2l : rows2.length ≤ 30 := by rw [← hr2]; simp; omega
  have hlc : ∀ U, mLc true (iAny (mVar 4)) (bTup 2 (bsCons (bName 13) (bsCons (bName 14) bsNil))) tYesM (mVar 13) [13, 14] [some (.p (prog boxes parts)), some (.p (.str nm)), some (.p (.list (ws.map fun w => wishD w.1 w.2))), some (.p (.list (boxes.map .str))), some (.p (.list (parts.map fun p => partD p.1 (p.2.map Rw.d)))), some (.p (.int boxes.length)), some (.p (.list (more.map .str))), some (.loc S.length), none, y9, z10, z11, none, none, none, none, none] U = .ok (.p (.list ((parts.map (·.1)).map .str))) U := fun U => by
    have := mLc_map (f := fun d => match d with
        | .tuple (x :: _) => x
        | _ => .none) (m := mVar 4) (bd := bTup 2 (bsCons (bName 13) (bsCons (bName 14) bsNil))) (tt := tYesM) (te := mVar 13) (vs := [13, 14]) (env := [some (.p (prog boxes parts)), some (.p (.str nm)), some (.p (.list (ws.map fun w => wishD w.1 w.2))), some (.p (.list (boxes.map .str))), some (.p (.list (parts.map fun p => partD p.1 (p.2.map Rw.d)))), some (.p (.int boxes.length)), some (.p (.list (more.map .str))), some (.loc S.length), none, y9, z10, z11, none, none, none, none, none]) (S := U)
      (d := .list (parts.map fun p => partD p.1 (p.2.map Rw.d))) (items := parts.map fun p => partD p.1 (p.2.map Rw.d)) (by simp) rfl (fun d hd => by
        obtain ⟨q, hq, rfl⟩ := List.mem_map.mp hd
        exact ⟨_, by rw [partD, bTup_p, if_pos (by rfl)]; rfl, rfl, by simp [wipeE, partD]⟩) (sizeK (by simp; omega))
    rw [this, List.map_map, List.map_map]; rfl
  have hadd : fAdd true (.loc S.length) (.p (.list [.tuple [.str "end"]])) (S ++ .lst ((rows2.map Rw.d).map .p) :: X1) = .ok (.p (.list ((rows2 ++ [Rw.fin]).map Rw.d))) (S ++ .lst ((rows2.map Rw.d).map .p) :: X1) := by
    rw [fAdd_cl, ← List.map_append, mkL_p, if_pos (sizeK (by simp; omega))]
    simp [Rw.d]
  have hrows : rows2 ++ [Rw.fin] = firstRows boxes more nm ws := by rw [← hr2, ← hr1]; rfl
  obtain ⟨x13, x14, hfd⟩ := fd_loop (e0 := some (.p (prog boxes parts))) (e1 := some (.p (.str nm))) (e2 := some (.p (.list (ws.map fun w => wishD w.1 w.2)))) (e3 := some (.p (.list (boxes.map .str)))) (e4 := some (.p (.list (parts.map fun p => partD p.1 (p.2.map Rw.d))))) (e6 := some (.p (.list (more.map .str)))) (e7 := some (.loc S.length)) (e8 := none) (e9 := y9) (e10 := z10) (e11 := z11) (e12 := some (.p (.list ((parts.map (·.1)).map .str)))) (e13 := none) (e14 := none) (e16 := none) (n := boxes.length) (ps := parts.drop (i + 1)) (l := [partD first ((rows2 ++ [Rw.fin]).map Rw.d)]) (T := S ++ .lst ((rows2.map Rw.d).map .p) :: X1) (X := [])
    (by simp; omega) (fun p hp' => by have := (G.r1 p (List.mem_of_mem_drop hp')).2; omega) (by simp) (fun p hp' => hwr p (List.mem_of_mem_drop hp'))
  have hidx : ∀ S', fIndex (.p (.list ((parts.map (·.1)).map .str))) [.p (.str nm)] S' = .ok (.p (.int ((i + 1 : Nat) : Int))) S' := fun S' => index_ok G.pd hn (by simp; omega)
  have hsl : ∀ S, fSl true (.p (.list (parts.map fun p => partD p.1 (p.2.map Rw.d)))) (some (((i + 1 : Nat) : Int))) none S = .ok (.p (.list ((parts.drop (i + 1)).map fun p => partD p.1 (p.2.map Rw.d)))) S := fun S => by
    rw [fSl_l (sizeK (by simp; omega))]
    have := cutG_from (l := parts.map fun p => partD p.1 (p.2.map Rw.d)) (i + 1)
    rw [this, List.map_drop]
  have hia : ∀ (env : Z.Env) U, env[1]? = some (some (.p (.str nm))) → env[4]? = some (some (.p (.list (parts.map fun p => partD p.1 (p.2.map Rw.d))))) → env[12]? = some (some (.p (.list ((parts.map (·.1)).map .str)))) → iAny (mSl (fSl true) (mVar 4) (oSo (mBM "list" fIndex (mVar 12) (aCons (mVar 1) aNil))) oNo) env U
      = .ok ((((parts.drop (i + 1)).map fun p => partD p.1 (p.2.map Rw.d)).map RV.p).map .one, fun _ => true) U := fun env U h1 h4 h12 => by
    have hty' : tyOk "list" (.p (.list ((parts.map (·.1)).map .str))) U = true := by simp [tyOk, lstv]
    simp only [iAny, mSl_app, mVar_app, h4, bind_ok, oSo_app, mBM_app, h12, hty', if_true, aCons_app, h1, aNil_app, hidx, osoR_i, oNo_app, hsl]
  have hiw : ∀ (env : Z.Env) U, env[2]? = some (some (.p (.list (ws.map fun w => wishD w.1 w.2)))) → iAny (mVar 2) env U = .ok (((ws.map fun w => wishD w.1 w.2).map RV.p).map .one, fun _ => true) U := fun env U h => iAny_of (d := .list (ws.map fun w => wishD w.1 w.2)) (by simp [h]) rfl
  have hread : mLc false (iAny (mVar 6)) (bName 8) tYesM (mTup (aCons (mC (.p (.str "read"))) (aCons (mVar 8) aNil))) [8] [some (.p (prog boxes parts)), some (.p (.str nm)), some (.p (.list (ws.map fun w => wishD w.1 w.2))), some (.p (.list (boxes.map .str))), some (.p (.list (parts.map fun p => partD p.1 (p.2.map Rw.d)))), some (.p (.int boxes.length)), some (.p (.list (more.map .str))), none, none, none, none, none, none, none, none, none, none] S
      = .ok (.loc S.length) (S ++ [.lst (((more.map Rw.read).map Rw.d).map .p)]) := by
    have := mLc_mapF (f := fun d => .tuple [.str "read", d]) (m := mVar 6) (bd := bName 8) (tt := tYesM) (te := mTup (aCons (mC (.p (.str "read"))) (aCons (mVar 8) aNil))) (vs := [8]) (env := [some (.p (prog boxes parts)), some (.p (.str nm)), some (.p (.list (ws.map fun w => wishD w.1 w.2))), some (.p (.list (boxes.map .str))), some (.p (.list (parts.map fun p => partD p.1 (p.2.map Rw.d)))), some (.p (.int boxes.length)), some (.p (.list (more.map .str))), none, none, none, none, none, none, none, none, none, none]) (S := S)
      (d := .list (more.map .str)) (items := more.map .str) (by simp) rfl (fun d hd => ⟨_, rfl, rfl, by simp [wipeE]⟩) (sizeK (by simp; omega))
    rw [this, List.map_map, List.map_map, List.map_map]; rfl
  have hun : ∀ env S, bTup 2 (bsCons (bName 3) (bsCons (bName 4) bsNil)) (.p (prog boxes parts)) env S = .ok ((env.set 3 (some (.p (.list (boxes.map .str))))).set 4 (some (.p (.list (parts.map fun p => partD p.1 (p.2.map Rw.d)))))) S := fun env S => by
    rw [prog_eq, bTup_p, if_pos (by rfl)]; rfl
  have hrg : ∀ (env : Z.Env) U, env[5]? = some (some (.p (.int boxes.length))) → iRange1 (aCons (mVar 5) aNil) env U = .ok (rng 0 boxes.length, fun _ => true) U := fun env U h5 => by
    have := iRange1_ok (m := mVar 5) (env := env) (S := U) (S1 := U) (j := (boxes.length : Int)) (by simp [h5]) (by omega) (by omega)
    rwa [Int.toNat_natCast] at this
  have hfz := mFz_last (i := 15) (env := [some (.p (prog boxes parts)), some (.p (.str nm)), some (.p (.list (ws.map fun w => wishD w.1 w.2))), some (.p (.list (boxes.map .str))), some (.p (.list (parts.map fun p => partD p.1 (p.2.map Rw.d)))), some (.p (.int boxes.length)), some (.p (.list (more.map .str))), some (.loc S.length), none, y9, z10, z11, some (.p (.list ((parts.map (·.1)).map .str))), x13, x14, some (.loc (S ++ .lst ((rows2.map Rw.d).map .p) :: X1).length), none]) (T := S ++ .lst ((rows2.map Rw.d).map .p) :: X1) (X := []) (l := [partD first ((rows2 ++ [Rw.fin]).map Rw.d)] ++ (parts.drop (i + 1)).map fun p => partD p.1 ((p.2.map (Rw.wider boxes.length)).map Rw.d)) rfl
  have hlo : ∀ U, fListOf true [.p (.list (boxes.map .str))] U = .ok (.p (.list (boxes.map .str))) U := fun U => by
    simp only [fListOf, seqv]
    rw [mkL_p, if_pos (sizeK (by simp; omega))]
  have hbm : ∀ U, fAdd true (.p (.list (boxes.map .str))) (.p (.list (more.map .str))) U = .ok (.p (.list ((boxes ++ more).map .str))) U := fun U => by
    rw [fAdd_ll (sizeK (by simp; omega))]; simp
  have hpd : PyData.tuple [.str first, .list ((rows2 ++ [Rw.fin]).map Rw.d)] = partD first ((rows2 ++ [Rw.fin]).map Rw.d) := rfl
  refine ⟨.lst ((rows2.map Rw.d).map .p) :: X1 ++ [.gone], ?_⟩
  unfold stB at hst
  unfold clB at hcl
  unfold fdB at hfd
  have hU : ∀ Y, (S ++ .lst ((rows2.map Rw.d).map .p) :: X1) ++ Y = (S ++ .lst ((rows2.map Rw.d).map .p) :: X1) ++ Y := fun _ => rfl
  generalize hUU : (S ++ .lst ((rows2.map Rw.d).map .p) :: X1) = U at hcl hadd hfd hfz
  unfold sp__law_made mf__law_made mDef b__law_made
  simp -implicitDefEqProofs only [List.length_cons, List.length_nil, Nat.zero_add, if_true, List.cons_append, List.nil_append, List.replicate, List.map_cons, List.map_nil, mSeq_app, mAsg_app, mVar_app, List.getElem?_cons_succ, List.getElem?_cons_zero, eS_ok, hun, bName_app, List.set, asgR_ok, seqR_nx, mCall_app, aCons_app, aNil_app, bind_ok, fLen_l, List.length_map, hfree, hread, mFor_app, hrg, hst, mExp_app, mBM_app, hty, if_true, mTup_app, mC_app, mkT_2, hap, hiw, hcl, hlc, mLst_app, mBin_app, hfree1, fIx_l, atI_0, mkT_1, mkL_1, hadd]
  simp only [List.cons_append, List.nil_append, List.map_cons, List.map_nil] at hfz hfd
  simp -implicitDefEqProofs only [hpd, mkLf_1, eS_ok, seqR_nx, mSeq_app, mFor_app, hia, List.getElem?_cons_succ, List.getElem?_cons_zero, hfd, mRet_app, mTup_app, aCons_app, mBin_app, mCall_app, mVar_app, bind_ok, aNil_app, hlo, hbm, hfz, mkT_2, seqR_rt, fin_rt]
  rw [← hUU, prog_eq, hrows]
  simp [FPb, FPp, hmore, Function.comp_def]
end K58


set_option Elab.async false
set_option linter.all false
set_option autoImplicit false
set_option maxRecDepth 100000
set_option maxHeartbeats 4000000
/-! k58's mathematics 19: what repr shows. -/
namespace K58
open PySem PySem.Spec PyProof.Rows L2 Z
/-- small data: k deep, W wide -/
structure Sm (k W : Nat) (d : PyData) : Prop where
  dp : d.depth ≤ k
  wt : d.weight ≤ W
  ls : d.leavesShort 13 = true
  sh : d.showable = true
  nd : d.hasDict = false
  cl : d.canLay0 = true
theorem Sm.mono {k W k' W' : Nat} {d : PyData} (h : Sm k W d) (hk : k ≤ k' := by omega) (hW : W ≤ W' := by omega) : Sm k' W' d := ⟨Nat.le_trans h.dp hk, Nat.le_trans h.wt hW, h.ls, h.sh, h.nd, h.cl⟩
theorem Sm.shw {k W : Nat} {d : PyData} (h : Sm k W d) (hk : k ≤ 64 := by omega) (hW : W ≤ 1048576 := by omega) : Shw d :=
  ⟨h.sh, h.nd, Nat.le_trans h.dp hk, PyData.shown_fits (B := 13) (by omega) (by omega) h.ls (Nat.le_trans h.wt (Nat.le_trans hW (by decide)))⟩
theorem Sm.non {k W : Nat} : Sm k W .none := ⟨by simp [PyData.depth], by simp [PyData.weight], rfl, rfl, rfl, rfl⟩
theorem Sm.int {k : Nat} {i : Int} (h : i.natAbs ≤ 127) : Sm k 7 (.int i) := by
  have hlg : i.natAbs.log2 < 7 := by
    by_cases hz : i.natAbs = 0
    · rw [hz]; decide
    · exact (Nat.log2_lt hz).mpr (by omega)
  refine ⟨by simp [PyData.depth], ?_, ?_, ?_, rfl, rfl⟩
  · simp only [PyData.weight]
    split <;> omega
  · simp only [PyData.leavesShort, decide_eq_true_eq]
    exact PyData.shown_int_le (by omega)
  · simp only [PyData.showable, decide_eq_true_eq]
    omega
theorem Sm.str {k : Nat} {s : Str} (h : s.length ≤ 7) (hc : ∀ c ∈ s.cps.toList, c < 0x110000) : Sm k 7 (.str s) := by
  refine ⟨by simp [PyData.depth], h, ?_, rfl, rfl, ?_⟩
  · simp only [PyData.leavesShort, List.all_eq_true, decide_eq_true_eq]
    intro c hm
    have := hc c hm
    have e : (16 : Nat) ^ 8 = 4294967296 := by decide
    omega
  · simp only [PyData.canLay0, PyData.strOk, Array.all_eq_true_iff_forall_mem]
    intro c hm
    have := hc c (by simpa using hm)
    simpa using this
theorem Sm.name {k : Nat} {s : Str} (h : nameOk s) : Sm k 7 (.str s) := by
  have hl : ∀ c ∈ letters.cps.toList, c < 0x110000 := by decide +kernel
  exact Sm.str (by have := h.2.1; omega) fun c hc => hl c (h.2.2 c hc)
theorem Sm.all {k W : Nat} : ∀ {ds : List PyData}, (∀ d ∈ ds, Sm k W d) → PyData.depthAll ds ≤ k ∧ PyData.weightAll ds ≤ ds.length * (W + 1) ∧ PyData.leavesShortAll 13 ds = true ∧ PyData.showableAll ds = true ∧ PyData.hasDictAll ds = false ∧ PyData.canLayAll0 ds = true
  | [], _ => ⟨by simp [PyData.depthAll], by simp [PyData.weightAll], rfl, rfl, rfl, rfl⟩
  | d :: ds, h => by
    obtain ⟨h1, h2, h3, h4, h5, h6⟩ := Sm.all fun x hx => h x (List.mem_cons_of_mem _ hx)
    have hd := h d (List.mem_cons_self ..)
    have e1 := hd.dp
    have e2 := hd.wt
    refine ⟨by simp only [PyData.depthAll]; omega, ?_, by simp [PyData.leavesShortAll, hd.ls, h3], by simp [PyData.showableAll, hd.sh, h4], by simp [PyData.hasDictAll, hd.nd, h5], by simp [PyData.canLayAll0, hd.cl, h6]⟩
    simp only [PyData.weightAll, List.length_cons, Nat.add_mul]
    omega
theorem Sm.list {k W n M : Nat} {ds : List PyData} (h : ∀ d ∈ ds, Sm k W d) (hl : ds.length ≤ n) (hM : n * (W + 1) ≤ M := by omega) : Sm (k + 1) M (.list ds) := by
  obtain ⟨h1, h2, h3, h4, h5, h6⟩ := Sm.all h
  have : ds.length * (W + 1) ≤ n * (W + 1) := Nat.mul_le_mul_right _ hl
  exact ⟨by simp only [PyData.depth]; omega, by simp only [PyData.weight]; omega, by simpa [PyData.leavesShort] using h3, by simpa [PyData.showable] using h4, by simpa [PyData.hasDict] using h5, by simpa [PyData.canLay0] using h6⟩
theorem Sm.tuple {k W n M : Nat} {ds : List PyData} (h : ∀ d ∈ ds, Sm k W d) (hl : ds.length ≤ n) (hM : n * (W + 1) ≤ M := by omega) : Sm (k + 1) M (.tuple ds) := by
  obtain ⟨h1, h2, h3, h4, h5, h6⟩ := Sm.all h
  have : ds.length * (W + 1) ≤ n * (W + 1) := Nat.mul_le_mul_right _ hl
  exact ⟨by simp only [PyData.depth]; omega, by simp only [PyData.weight]; omega, by simpa [PyData.leavesShort] using h3, by simpa [PyData.showable] using h4, by simpa [PyData.hasDict] using h5, by simpa [PyData.canLay0] using h6⟩
theorem Sm.tuple2 {k W M : Nat} {a b : PyData} (ha : Sm k W a) (hb : Sm k W b) (hM : 2 * (W + 1) ≤ M := by omega) : Sm (k + 1) M (.tuple [a, b]) :=
  Sm.tuple (n := 2) (fun d hd => by
    simp only [List.mem_cons, List.not_mem_nil, or_false] at hd
    rcases hd with rfl | rfl <;> assumption) (by simp) hM
theorem Sm.tuple3 {k W M : Nat} {a b c : PyData} (ha : Sm k W a) (hb : Sm k W b) (hc : Sm k W c) (hM : 3 * (W + 1) ≤ M := by omega) : Sm (k + 1) M (.tuple [a, b, c]) :=
  Sm.tuple (n := 3) (fun d hd => by
    simp only [List.mem_cons, List.not_mem_nil, or_false] at hd
    rcases hd with rfl | rfl | rfl <;> assumption) (by simp) hM
theorem Sm.list1 {k W M : Nat} {a : PyData} (ha : Sm k W a) (hM : W + 1 ≤ M := by omega) : Sm (k + 1) M (.list [a]) :=
  Sm.list (n := 1) (fun d hd => by rw [List.mem_singleton.mp hd]; exact ha) (by simp) (by omega)
theorem Sm.list2 {k W M : Nat} {a b : PyData} (ha : Sm k W a) (hb : Sm k W b) (hM : 2 * (W + 1) ≤ M := by omega) : Sm (k + 1) M (.list [a, b]) :=
  Sm.list (n := 2) (fun d hd => by
    simp only [List.mem_cons, List.not_mem_nil, or_false] at hd
    rcases hd with rfl | rfl <;> assumption) (by simp) hM
theorem Sm.list3 {k W M : Nat} {a b c : PyData} (ha : Sm k W a) (hb : Sm k W b) (hc : Sm k W c) (hM : 3 * (W + 1) ≤ M := by omega) : Sm (k + 1) M (.list [a, b, c]) :=
  Sm.list (n := 3) (fun d hd => by
    simp only [List.mem_cons, List.not_mem_nil, or_false] at hd
    rcases hd with rfl | rfl | rfl <;> assumption) (by simp) hM
theorem line_Sm {l : List Int} (h : l.length ≤ 11) (hs : ∀ x ∈ l, x.natAbs ≤ 100) : Sm 1 88 (.tuple (l.map .int)) :=
  Sm.tuple (n := 11) (W := 7) (fun d hd => by
    obtain ⟨x, hx, rfl⟩ := List.mem_map.mp hd
    exact Sm.int (by have := hs x hx; omega)) (by simpa using h)
theorem lw {w : Str} (h : w = "least" ∨ w = "above") : Sm 1 88 (.str w) := by
  rcases h with rfl | rfl <;> exact (Sm.str (k := 1) (by decide) (by decide +kernel)).mono
theorem wish_Sm {u : Str} {l : List Int} (hu : u = "least" ∨ u = "above") (h : l.length ≤ 11) (hs : ∀ x ∈ l, x.natAbs ≤ 100) : Sm 2 178 (wishD u l) :=
  Sm.tuple2 (lw hu) (line_Sm h hs)
theorem wd {w : Str} {k W : Nat} (hw : w ∈ (["set", "read", "want", "claim", "test", "either", "jump", "call", "end", "told", "many", "part", "wishes", "none", "nobody"] : List Str)) (hW : 7 ≤ W) : Sm k W (.str w) := by
  simp only [List.mem_cons, List.not_mem_nil, or_false] at hw
  refine Sm.mono (k := k) (W := 7) ?_ (by omega) hW
  rcases hw with rfl | rfl | rfl | rfl | rfl | rfl | rfl | rfl | rfl | rfl | rfl | rfl | rfl | rfl | rfl <;> exact Sm.str (by decide) (by decide +kernel)
theorem row_Sm {boxes behind : List Str} {many : Nat} {r : Rw} (h : r.ok boxes behind many) (hb : boxes.length ≤ 8) (hs : r.sm) (hbn : ∀ b ∈ boxes, nameOk b) (hbe : ∀ b ∈ behind, nameOk b) : Sm 3 537 r.d := by
  have nm : ∀ {b}, nameOk b → Sm 2 178 (.str b) := fun h => (Sm.name (k := 2) h).mono
  have it : ∀ {i : Int}, i.natAbs ≤ 100 → Sm 2 178 (.int i) := fun h => (Sm.int (k := 2) (by omega)).mono
  have ln : ∀ {l : List Int}, l.length ≤ 11 → (∀ x ∈ l, x.natAbs ≤ 100) → Sm 2 178 (.tuple (l.map .int)) := fun h hs => (line_Sm h hs).mono
  cases r with
  | set b l => exact Sm.tuple3 (W := 178) (wd (by simp) (by omega)) (nm (hbn b h.1)) (ln (by have := h.2; omega) hs)
  | read b =>
    have : Sm 3 358 (.tuple [.str "read", .str b]) := Sm.tuple2 (W := 178) (wd (by simp) (by omega)) (nm (hbn b h))
    exact this.mono
  | want u l =>
    have : Sm 3 358 (.tuple [.str "want", wishD u l]) := Sm.tuple2 (W := 178) (wd (by simp) (by omega)) (wish_Sm h.1 (by have := h.2; omega) hs)
    exact this.mono
  | claim u l =>
    have : Sm 3 358 (.tuple [.str "claim", wishD u l]) := Sm.tuple2 (W := 178) (wd (by simp) (by omega)) (wish_Sm h.1 (by have := h.2; omega) hs)
    exact this.mono
  | test u l k => exact Sm.tuple3 (W := 178) (wd (by simp) (by omega)) (wish_Sm h.1.1 (by have := h.1.2; omega) fun x hx => hs x (List.mem_cons_of_mem _ hx)) (it (hs k (List.mem_cons_self ..)))
  | either ks =>
    have : Sm 3 358 (.tuple [.str "either", .tuple (ks.map .int)]) := Sm.tuple2 (W := 178) (wd (by simp) (by omega)) (ln (by have := h.2.1; omega) hs)
    exact this.mono
  | jump k =>
    have : Sm 3 358 (.tuple [.str "jump", .int k]) := Sm.tuple2 (W := 178) (wd (by simp) (by omega)) (it (hs k (List.mem_cons_self ..)))
    exact this.mono
  | call p =>
    have : Sm 3 358 (.tuple [.str "call", .str p]) := Sm.tuple2 (W := 178) (wd (by simp) (by omega)) (nm (hbe p h))
    exact this.mono
  | fin =>
    have : Sm 3 179 (.tuple [.str "end"]) := Sm.tuple (n := 1) (k := 2) (W := 178) (fun d hd => by rw [List.mem_singleton.mp hd]; exact wd (by simp) (by omega)) (by simp)
    exact this.mono
theorem prog_Sm {boxes : List Str} {parts : List (Str × List Rw)} (G : Good boxes parts) (sm : ∀ p ∈ parts, ∀ r ∈ p.2, r.sm) : Sm 7 309926 (prog boxes parts) := by
  have h1 : ∀ p ∈ parts, Sm 5 25826 (partD p.1 (p.2.map Rw.d)) := by
    intro p hp
    obtain ⟨i, hi, e⟩ := List.getElem_of_mem hp
    have hrow := G.row i p (by rw [List.getElem?_eq_getElem hi, e])
    have h2 : Sm 4 12912 (.list (p.2.map Rw.d)) := Sm.list (n := 24) (W := 537) (fun d hd => by
      obtain ⟨r, hr, rfl⟩ := List.mem_map.mp hd
      exact row_Sm (hrow r hr) G.b2 (sm p hp r hr) G.bn (fun b hb => by
        obtain ⟨q, hq, rfl⟩ := List.mem_map.mp hb
        exact G.pn q (List.mem_of_mem_drop hq))) (by simpa using (G.r1 p hp).2)
    have h3 : Sm 4 12912 (.str p.1) := (Sm.name (k := 4) (G.pn p hp)).mono
    exact Sm.tuple2 h3 h2
  have h3 : Sm 6 154962 (.list (parts.map fun p => partD p.1 (p.2.map Rw.d))) := Sm.list (n := 6) (W := 25826) (fun d hd => by
    obtain ⟨p, hp, rfl⟩ := List.mem_map.mp hd
    exact h1 p hp) (by simpa using G.p2)
  have h4 : Sm 1 64 (.list (boxes.map .str)) := Sm.list (n := 8) (W := 7) (fun d hd => by
    obtain ⟨b, hb, rfl⟩ := List.mem_map.mp hd
    exact Sm.name (G.bn b hb)) (by simpa using G.b2)
  have h5 : Sm 6 154962 (.list (boxes.map .str)) := h4.mono
  exact Sm.tuple2 h5 h3
theorem fRepr_p {d : PyData} {S : Store} (h : Shw d) : fRepr [.p d] S = .ok (.p (.str d.shown)) S := by
  simp only [fRepr, toP]
  rw [if_pos h]
theorem fRepr_loc {n : Nat} {d : PyData} {S : Store} (ht : toP S 64 (.loc n) = some d) (h : Shw d) : fRepr [.loc n] S = .ok (.p (.str d.shown)) S := by
  simp only [fRepr, ht]
  rw [if_pos h]
end K58


set_option Elab.async false
set_option linter.all false
set_option autoImplicit false
set_option maxRecDepth 100000
set_option maxHeartbeats 4000000
/-! k58's mathematics 20: what is due, what is told. -/
namespace K58
open PySem PySem.Spec PyProof.Rows L2 Z
/-- the wishes handed in -/
inductive Wd (n : Nat) : PyData → Option (List (Str × List Int)) → Prop
  | good {ws : List (Str × List Int)} (h : ws.length ≤ 12) (hw : ∀ w ∈ ws, wishOk n w.1 w.2 ∧ ∀ x ∈ w.2, x.natAbs ≤ 100) : Wd n (.list (ws.map fun w => wishD w.1 w.2)) (some ws)
  | many {ws : List (Str × List Int)} (h : ws.length = 13) (hw : ∀ w ∈ ws, wishOk n w.1 w.2 ∧ ∀ x ∈ w.2, x.natAbs ≤ 100) : Wd n (.list (ws.map fun w => wishD w.1 w.2)) none
  | odd {ws : List (Str × List Int)} {d : PyData} (h : ws.length ≤ 4) (hw : ∀ w ∈ ws, wishOk n w.1 w.2 ∧ ∀ x ∈ w.2, x.natAbs ≤ 100) (hd : Wl n d false) (hs : Sm 2 178 d) : Wd n (.list ((ws.map fun w => wishD w.1 w.2) ++ [d])) none
  | tup {ds : List PyData} (hs : ∀ d ∈ ds, Sm 2 178 d) (h : ds.length ≤ 4) : Wd n (.tuple ds) none
  | non : Wd n .none none
  | str : Wd n (.str "none") none
theorem paired_app {α β : Type} {R : α → β → Prop} : ∀ {l l' : List α} {m m' : List β}, Paired R l m → Paired R l' m' → Paired R (l ++ l') (m ++ m')
  | _, _, _, _, .nil, h => h
  | _, _, _, _, .cons a b, h => .cons a (paired_app b h)
theorem Wd.ws {n : Nat} {d : PyData} {o : Option (List (Str × List Int))} (hn : n ≤ 8) (h : Wd n d o) : Ws n d o.isSome := by
  have pd : ∀ {ws : List (Str × List Int)}, (∀ w ∈ ws, wishOk n w.1 w.2 ∧ ∀ x ∈ w.2, x.natAbs ≤ 100) → Paired (Wl n) (ws.map fun w => wishD w.1 w.2) (ws.map fun _ => true) := fun {ws} hw => by
    induction ws with
    | nil => exact .nil
    | cons w ws ih => exact .cons (.good (hw w (List.mem_cons_self ..)).1 (by omega)) (ih fun x hx => hw x (List.mem_cons_of_mem _ hx))
  cases h with
  | good h hw =>
    rename_i ws
    have := Ws.lst (pd hw) (by simp; omega)
    have e : (decide ((ws.map fun w => wishD w.1 w.2).length ≤ 12) && (ws.map fun _ => true).all id) = true := by simp [h]
    rwa [e] at this
  | many h hw =>
    rename_i ws
    have := Ws.lst (pd hw) (by simp; omega)
    have e : (decide ((ws.map fun w => wishD w.1 w.2).length ≤ 12) && (ws.map fun _ => true).all id) = false := by simp [h]
    rwa [e] at this
  | @odd ws d h hw hd hs =>
    have := Ws.lst (paired_app (pd hw) (.cons hd .nil)) (by simp; omega)
    have e : (decide (((ws.map fun w => wishD w.1 w.2) ++ [d]).length ≤ 12) && ((ws.map fun _ => true) ++ [false]).all id) = false := by simp
    rwa [e] at this
  | tup => exact .tup
  | non => exact .non
  | str => exact .str
theorem Wd.sm {n : Nat} {d : PyData} {o : Option (List (Str × List Int))} (hn : n ≤ 10) (h : Wd n d o) : Sm 3 2400 d := by
  have ws : ∀ {ws : List (Str × List Int)}, (∀ w ∈ ws, wishOk n w.1 w.2 ∧ ∀ x ∈ w.2, x.natAbs ≤ 100) → ∀ d ∈ ws.map fun w => wishD w.1 w.2, Sm 2 178 d := fun {ws} hw d hd => by
    obtain ⟨w, hw', rfl⟩ := List.mem_map.mp hd
    have := hw w hw'
    exact wish_Sm this.1.1 (by have := this.1.2; omega) this.2
  cases h with
  | good h hw => exact Sm.list (n := 12) (W := 178) (ws hw) (by simpa using h)
  | many h hw => exact Sm.list (n := 13) (W := 178) (ws hw) (by simp; omega)
  | odd h hw hd hs =>
    exact Sm.list (n := 5) (W := 178) (fun d hd' => by
      rcases List.mem_append.mp hd' with hd' | hd'
      · exact ws hw d hd'
      · rw [List.mem_singleton.mp hd']; exact hs) (by simp; omega)
  | tup hs h => exact Sm.tuple (n := 4) (W := 178) hs h
  | non => exact Sm.non
  | str => exact wd (by simp) (by omega)
theorem eq_nil_t {neg : Bool} {S : Store} : fEq neg 8 (.p (.list [])) (.p (.list [])) S = .ok (.p (.bool (if neg then false else true))) S := by
  have h : SeqAt.shaped (.list []) = true := by decide
  have he : PyData.eqv (.list []) (.list []) = true := by simp [PyData.eqv, PyData.eqvAll]
  simp only [fEq, eqD, toP, h, he]
  cases neg <;> rfl
theorem eq_nil_f {neg : Bool} {d : PyData} {ds : List PyData} {S : Store} (h : Sm 8 100000 (.list (d :: ds))) : fEq neg 8 (.p (.list (d :: ds))) (.p (.list [])) S = .ok (.p (.bool (if neg then true else false))) S := by
  have h1 : SeqAt.shaped (.list (d :: ds)) = true := by
    have := h.dp
    unfold SeqAt.shaped
    rw [h.cl]
    simp; omega
  have h2 : SeqAt.shaped (.list []) = true := by decide
  have he : PyData.eqv (.list (d :: ds)) (.list []) = false := by simp [PyData.eqv, PyData.eqvAll]
  simp only [fEq, eqD, toP, h1, h2, he]
  cases neg <;> rfl
theorem law_is_wish_ok {n : Nat} {d : PyData} {b : Bool} {S : Store} (h : Wl n d b) : sp__law_is_wish [.p (.int n), .p d] S = .ok (.p (.bool b)) S := by
  have hfi : ∀ u : Str, u = "least" ∨ u = "above" → ∀ S, fIn true (.p (.str u)) (.p (.list [.str "least", .str "above"])) S = .ok (.p (.bool false)) S := fun u hu S => by
    rcases hu with rfl | rfl <;> simp (decide := true) [fIn_l2]
  cases h with
  | @good u l h hn =>
    have hlc : mLc true (iAny (mBin fIx (mVar 1) (mC (.p (.int 1))))) (bName 2) (mOr (mNot (mTst (mCall fIsi (aCons (mVar 2) (aCons (mC (.ty "int")) aNil))))) (mTst (mCall fIsi (aCons (mVar 2) (aCons (mC (.ty "bool")) aNil))))) (mVar 2) [2] [some (.p (.int n)), some (.p (wishD u l)), none] S = .ok (.p (.list [])) S := by
      have := mLc_filter (f := fun d => d) (p := fun _ => false) (m := mBin fIx (mVar 1) (mC (.p (.int 1)))) (bd := bName 2) (tt := mOr (mNot (mTst (mCall fIsi (aCons (mVar 2) (aCons (mC (.ty "int")) aNil))))) (mTst (mCall fIsi (aCons (mVar 2) (aCons (mC (.ty "bool")) aNil))))) (te := mVar 2) (vs := [2]) (env := [some (.p (.int n)), some (.p (wishD u l)), none]) (S := S) (d := .tuple (l.map .int)) (items := l.map .int) (by simp [wishD]) rfl (fun d hd => by
        obtain ⟨x, hx, rfl⟩ := List.mem_map.mp hd
        exact ⟨_, rfl, by simp [wipeE, fIsi, tyN, isB], by simp [wipeE]⟩) (sizeK (by simp; have := h.2; omega))
      rw [this]; simp
    have hl : ((l.length : Int) = n + 1) := by rw [h.2]; simp
    unfold wishD at hlc ⊢
    simp -implicitDefEqProofs [sp__law_is_wish, mf__law_is_wish, b__law_is_wish, mDef, fIsi, tyN, isB, hfi u h.1, hl, hlc, eq_nil_t]
  | non => simp -implicitDefEqProofs [sp__law_is_wish, mf__law_is_wish, b__law_is_wish, mDef, fIsi, tyN, isB]
  | @short u l hu h hl =>
    have hl : ¬ ((l.length : Int) = n + 1) := by omega
    simp -implicitDefEqProofs [sp__law_is_wish, mf__law_is_wish, b__law_is_wish, mDef, fIsi, tyN, isB, wishD, hfi u hu, hl]
  | @lst u ds hu =>
    simp -implicitDefEqProofs [sp__law_is_wish, mf__law_is_wish, b__law_is_wish, mDef, fIsi, tyN, isB, hfi u hu]
/-- the first letter of no part's name -/
def firstOf (parts : List (Str × List Rw)) : Str := (lettersOf (parts.map (·.1)) 1).headD ""
theorem firstOf_eq {parts : List (Str × List Rw)} (h : parts.length ≤ 6) : lettersOf (parts.map (·.1)) 1 = [firstOf parts] := by
  have : (lettersOf (parts.map (·.1)) 1).length = 1 := lettersOf_length (by simp; omega)
  unfold firstOf
  cases q : lettersOf (parts.map (·.1)) 1 with
  | nil => rw [q] at this; simp at this
  | cons a l => cases l with
    | nil => rfl
    | cons b l => rw [q] at this; simp at this
/-- a name as a text -/
def nmS : PyData → Str
  | .str s => s
  | _ => ""
/-- what is due -/
def dueP (boxes : List Str) (parts : List (Str × List Rw)) (name : PyData) (i : Option Nat) (o : Option (List (Str × List Int))) : PyData :=
  if 4 < boxes.length then .list [.str "many", .int boxes.length]
  else if 5 < parts.length then .list [.str "many", .int parts.length]
  else match i with
    | none => .list [.str "part", name]
    | some i => match o with
      | none => .list [.str "wishes"]
      | some ws => .list [.str "told", prog (FPb boxes) (FPp boxes parts (nmS name) (firstOf parts) ws (i - 1))]
theorem row_lens {boxes : List Str} {parts : List (Str × List Rw)} (G : Good boxes parts) : ∀ p ∈ parts, ∀ r ∈ p.2, (∀ l : List Int, (∃ b, r = .set b l) ∨ (∃ u, r = .want u l) ∨ (∃ u, r = .claim u l) ∨ (∃ u k, r = .test u l k) → l.length ≤ 1000) ∧ ∀ ks, r = .either ks → ks.length ≤ 100 := by
  intro p hp r hr
  obtain ⟨i, hi, e⟩ := List.getElem_of_mem hp
  have h := G.row i p (by rw [List.getElem?_eq_getElem hi, e]) r hr
  have := G.b2
  refine ⟨?_, ?_⟩
  · rintro l (⟨b, rfl⟩ | ⟨u, rfl⟩ | ⟨u, rfl⟩ | ⟨u, k, rfl⟩)
    · have := h.2; omega
    · have := h.2; omega
    · have := h.2; omega
    · have := h.1.2; omega
  · rintro ks rfl
    have := h.2.1; omega
theorem bad_wishes {n : Nat} {boxes : List Str} {name wishes : PyData} {S : Store} {e4 : Option RV} (ws : List (Str × List Int)) (ds : List PyData) (hn : n ≤ 10) (hw : ∀ w ∈ ws, wishOk n w.1 w.2) (hd : ∀ d ∈ ds, Wl n d false) (hl : ws.length + ds.length ≤ 100) (e0 : Option RV) (hb : 2 * boxes.length = n) :
    mLc true (iAny (mVar 2)) (bName 5) (mNot (mTst (mCall sp__law_is_wish (aCons (mBin (fMul true) (mC (.p (.int 2))) (mCall fLen (aCons (mVar 3) aNil))) (aCons (mVar 5) aNil))))) (mVar 5) [5] [e0, some (.p name), some (.p (.list ((ws.map fun w => wishD w.1 w.2) ++ ds))), some (.p (.list (boxes.map .str))), e4, none, none] S = .ok (.p (.list ds)) S := by
  classical
  have hm : ∀ S', fMul true (.p (.int 2)) (.p (.int boxes.length)) S' = .ok (.p (.int n)) S' := fun S' => by
    rw [fMul_r (by omega) (by omega), ← hb]; simp
  have key : ∀ d, (∃ b, Wl n d b) → ∃ b, Wl n d b ∧ sp__law_is_wish [.p (.int n), .p d] S = .ok (.p (.bool b)) S := fun d ⟨b, h⟩ => ⟨b, h, law_is_wish_ok h⟩
  have hgood : ∀ w ∈ ws, sp__law_is_wish [.p (.int n), .p (wishD w.1 w.2)] S = .ok (.p (.bool true)) S := fun w hw' => law_is_wish_ok (.good (hw w hw') (by omega))
  have hbad : ∀ d ∈ ds, sp__law_is_wish [.p (.int n), .p d] S = .ok (.p (.bool false)) S := fun d hd' => law_is_wish_ok (hd d hd')
  have := mLc_filter (f := fun d => d) (p := fun d => match sp__law_is_wish [.p (.int n), .p d] S with
      | .ok (.p (.bool b)) _ => !b
      | _ => false) (m := mVar 2) (bd := bName 5) (tt := mNot (mTst (mCall sp__law_is_wish (aCons (mBin (fMul true) (mC (.p (.int 2))) (mCall fLen (aCons (mVar 3) aNil))) (aCons (mVar 5) aNil))))) (te := mVar 5) (vs := [5]) (env := [e0, some (.p name), some (.p (.list ((ws.map fun w => wishD w.1 w.2) ++ ds))), some (.p (.list (boxes.map .str))), e4, none, none]) (S := S)
      (d := .list ((ws.map fun w => wishD w.1 w.2) ++ ds)) (items := (ws.map fun w => wishD w.1 w.2) ++ ds) (by simp) rfl (fun d hd' => by
        rcases List.mem_append.mp hd' with hd' | hd'
        · obtain ⟨w, hw', rfl⟩ := List.mem_map.mp hd'
          exact ⟨_, rfl, by simp [wipeE, hm, hgood w hw'], by simp [wipeE]⟩
        · exact ⟨_, rfl, by simp [wipeE, hm, hbad d hd'], by simp [wipeE]⟩) (sizeK (by simp; omega))
  rw [this]
  have h1 : ((ws.map fun w => wishD w.1 w.2).filter fun d => match sp__law_is_wish [.p (.int n), .p d] S with
      | .ok (.p (.bool b)) _ => !b
      | _ => false) = [] := by
    rw [List.filter_eq_nil_iff]
    intro d hd'
    obtain ⟨w, hw', rfl⟩ := List.mem_map.mp hd'
    rw [hgood w hw']; simp
  have h2 : (ds.filter fun d => match sp__law_is_wish [.p (.int n), .p d] S with
      | .ok (.p (.bool b)) _ => !b
      | _ => false) = ds := by
    rw [List.filter_eq_self]
    intro d hd'
    rw [hbad d hd']; rfl
  rw [List.filter_append, h1, h2]
  simp
end K58


set_option Elab.async false
set_option linter.all false
set_option autoImplicit false
set_option maxRecDepth 100000
set_option maxHeartbeats 4000000
/-! k58's mathematics 21: what is due. -/
namespace K58
open PySem PySem.Spec PyProof.Rows L2 Z
theorem nm_in {names : List Str} {name : PyData} {i : Option Nat} {S : Store} (hd : names.Nodup) (h : Nm names name i) : ∀ s, name = .str s → fIn true (.p name) (.p (.list ((names.drop 1).map .str))) S = .ok (.p (.bool i.isNone)) S := by
  rintro s rfl
  rw [in_strs]
  cases h with
  | @«at» s i h =>
    have : s ∈ names.drop 1 := List.mem_of_getElem? (i := i) (by rw [List.getElem?_drop, Nat.add_comm]; exact h)
    rw [decide_eq_true this]; rfl
  | first h =>
    have : s ∉ names.drop 1 := by
      cases names with
      | nil => simp at h
      | cons a names =>
        simp at h; subst h
        rw [List.nodup_cons] at hd
        simpa using hd.1
    rw [decide_eq_false this]; rfl
  | no h =>
    have : s ∉ names.drop 1 := fun z => h (List.mem_of_mem_drop z)
    rw [decide_eq_false this]; rfl
noncomputable def dueTail : MS :=
  (mSeq (mIfS (mOr (mNot (mTst (mCall fIsi (aCons (mVar 2) (aCons (mC (.ty "list")) aNil))))) (mTst (mBin fGt (mCall fLen (aCons (mVar 2) aNil)) (mC (.p (.int 12)))))) (mSeq (mRet (mLst true (aCons (mC (.p (.str "wishes"))) aNil)))
  mNext) mNext)
  (mSeq (mIfS (mTst (mBin (fEq true 8) (mLc true (iAny (mVar 2)) (bName 5) (mNot (mTst (mCall sp__law_is_wish (aCons (mBin (fMul true) (mC (.p (.int 2))) (mCall fLen (aCons (mVar 3) aNil))) (aCons (mVar 5) aNil))))) (mVar 5) [5]) (mLst true aNil))) (mSeq (mRet (mLst true (aCons (mC (.p (.str "wishes"))) aNil)))
  mNext) mNext)
  (mSeq (mRet (mLst true (aCons (mC (.p (.str "told"))) (aCons (mCall sp__law_made (aCons (mVar 0) (aCons (mVar 1) (aCons (mVar 2) aNil)))) aNil))))
  mNext)))
theorem dueTail_ok {boxes : List Str} {parts : List (Str × List Rw)} {s : Str} {i : Nat} {wishes : PyData} {o : Option (List (Str × List Int))} {S : Store} (P : Prg boxes parts) (hb : boxes.length ≤ 4) (hn : (parts.map (·.1))[i + 1]? = some s) (hw : Wd (2 * boxes.length) wishes o) :
    ∃ X, fin (dueTail [some (.p (prog boxes parts)), some (.p (.str s)), some (.p wishes), some (.p (.list (boxes.map .str))), some (.p (.list (parts.map fun p => partD p.1 (p.2.map Rw.d)))), none, none] S) =
      .ok (.p (match o with
        | none => .list [.str "wishes"]
        | some ws => .list [.str "told", prog (FPb boxes) (FPp boxes parts s (firstOf parts) ws i)])) (S ++ X) := by
  have G := P.good
  have hsm := hw.sm (by omega)
  cases hw with
  | @good ws h hw =>
    have hbw := bad_wishes (n := 2 * boxes.length) (boxes := boxes) (name := .str s) (wishes := .none) (S := S) (e4 := some (.p (.list (parts.map fun p => partD p.1 (p.2.map Rw.d))))) ws [] (by omega) (fun w hw' => (hw w hw').1) (by simp) (by simp; omega) (some (.p (prog boxes parts))) rfl
    rw [List.append_nil] at hbw
    obtain ⟨X, hm⟩ := made_ok (S := S) P hb hn h (fun w hw' => (hw w hw').1) (firstOf_eq G.p2) (fun p hp r hr S => law_wider_ok (by omega) (row_lens G p hp r hr).1)
    have hl : ¬ ((12 : Int) < ws.length) := by omega
    exact ⟨X, by simp -implicitDefEqProofs [dueTail, fIsi, tyN, isB, hl, hbw, eq_nil_t, hm]⟩
  | @many ws h hw =>
    have hl : (12 : Int) < ws.length := by omega
    exact ⟨[], by simp -implicitDefEqProofs [dueTail, fIsi, tyN, isB, hl]⟩
  | @odd ws d h hw hd hs =>
    have hbw := bad_wishes (n := 2 * boxes.length) (boxes := boxes) (name := .str s) (wishes := .none) (S := S) (e4 := some (.p (.list (parts.map fun p => partD p.1 (p.2.map Rw.d))))) ws [d] (by omega) (fun w hw' => (hw w hw').1) (fun x hx => by rw [List.mem_singleton.mp hx]; exact hd) (by simp; omega) (some (.p (prog boxes parts))) rfl
    have hl : ¬ ((12 : Int) < (ws.length : Int) + 1) := by omega
    have hne : ∀ S, fEq true 8 (.p (.list [d])) (.p (.list [])) S = .ok (.p (.bool true)) S := fun S => eq_nil_f (neg := true) ((Sm.list1 (k := 2) (W := 178) (M := 200) hs).mono)
    exact ⟨[], by simp -implicitDefEqProofs [dueTail, fIsi, tyN, isB, hl, hbw, hne]⟩
  | tup => exact ⟨[], by simp -implicitDefEqProofs [dueTail, fIsi, tyN, isB]⟩
  | non => exact ⟨[], by simp -implicitDefEqProofs [dueTail, fIsi, tyN, isB]⟩
  | str => exact ⟨[], by simp -implicitDefEqProofs [dueTail, fIsi, tyN, isB]⟩
theorem due_ok {boxes : List Str} {parts : List (Str × List Rw)} {name wishes : PyData} {i : Option Nat} {o : Option (List (Str × List Int))} {S : Store} (P : Prg boxes parts) (hn : Nm (parts.map (·.1)) name i) (hw : Wd (2 * boxes.length) wishes o) :
    ∃ X, sp__law_due [.p (prog boxes parts), .p name, .p wishes] S = .ok (.p (dueP boxes parts name i o)) (S ++ X) := by
  have G := P.good
  have hun : ∀ env S, bTup 2 (bsCons (bName 3) (bsCons (bName 4) bsNil)) (.p (prog boxes parts)) env S = .ok ((env.set 3 (some (.p (.list (boxes.map .str))))).set 4 (some (.p (.list (parts.map fun p => partD p.1 (p.2.map Rw.d)))))) S := fun env S => by
    rw [prog_eq, bTup_p, if_pos (by rfl)]; rfl
  by_cases h1 : 4 < boxes.length
  · have e1 : (4 : Int) < boxes.length := by omega
    exact ⟨[], by simp -implicitDefEqProofs [sp__law_due, mf__law_due, b__law_due, mDef, hun, e1, dueP, h1]⟩
  · have e1 : ¬ (4 : Int) < boxes.length := by omega
    by_cases h2 : 5 < parts.length
    · have e2 : (5 : Int) < parts.length := by omega
      exact ⟨[], by simp -implicitDefEqProofs [sp__law_due, mf__law_due, b__law_due, mDef, hun, e1, dueP, h1, e2, h2]⟩
    · have e2 : ¬ (5 : Int) < parts.length := by omega
      have hp2 := G.p2
      have hsl : ∀ S, fSl true (.p (.list (parts.map fun p => partD p.1 (p.2.map Rw.d)))) (some 1) none S = .ok (.p (.list ((parts.drop 1).map fun p => partD p.1 (p.2.map Rw.d)))) S := fun S => by
        rw [fSl_l (sizeK (by simp; omega))]
        have := cutG_from (l := parts.map fun p => partD p.1 (p.2.map Rw.d)) 1
        rw [show (1 : Int) = ((1 : Nat) : Int) by rfl, this, List.map_drop]
      have hlc : mLc true (iAny (mSl (fSl true) (mVar 4) (oSo (mC (.p (.int 1)))) oNo)) (bTup 2 (bsCons (bName 5) (bsCons (bName 6) bsNil))) tYesM (mVar 5) [5, 6] [some (.p (prog boxes parts)), some (.p name), some (.p wishes), some (.p (.list (boxes.map .str))), some (.p (.list (parts.map fun p => partD p.1 (p.2.map Rw.d)))), none, none] S = .ok (.p (.list (((parts.map (·.1)).drop 1).map .str))) S := by
        have := mLc_map (f := fun d => match d with
            | .tuple (x :: _) => x
            | _ => .none) (m := mSl (fSl true) (mVar 4) (oSo (mC (.p (.int 1)))) oNo) (bd := bTup 2 (bsCons (bName 5) (bsCons (bName 6) bsNil))) (tt := tYesM) (te := mVar 5) (vs := [5, 6]) (env := [some (.p (prog boxes parts)), some (.p name), some (.p wishes), some (.p (.list (boxes.map .str))), some (.p (.list (parts.map fun p => partD p.1 (p.2.map Rw.d)))), none, none]) (S := S)
          (d := .list ((parts.drop 1).map fun p => partD p.1 (p.2.map Rw.d))) (items := (parts.drop 1).map fun p => partD p.1 (p.2.map Rw.d)) (by simpa using hsl S) rfl (fun d hd => by
            obtain ⟨q, hq, rfl⟩ := List.mem_map.mp hd
            exact ⟨_, by rw [partD, bTup_p, if_pos (by rfl)]; rfl, rfl, by simp [wipeE, partD]⟩) (sizeK (by simp; omega))
        rw [this, List.map_map, ← List.map_drop, List.map_map]; rfl
      have hin := nm_in (S := S) G.pd hn
      generalize ((parts.map (·.1)).drop 1).map PyData.str = L at hlc hin
      cases hn with
      | non => exact ⟨[], by simp -implicitDefEqProofs [sp__law_due, mf__law_due, b__law_due, mDef, hun, e1, dueP, h1, e2, h2, fIsi, tyN, isB]⟩
      | @lst ds => exact ⟨[], by simp -implicitDefEqProofs [sp__law_due, mf__law_due, b__law_due, mDef, hun, e1, dueP, h1, e2, h2, fIsi, tyN, isB]⟩
      | @first s h =>
        have hin := hin s rfl
        exact ⟨[], by simp -implicitDefEqProofs [sp__law_due, mf__law_due, b__law_due, mDef, hun, e1, dueP, h1, e2, h2, fIsi, tyN, isB, hlc, hin]⟩
      | @no s h =>
        have hin := hin s rfl
        exact ⟨[], by simp -implicitDefEqProofs [sp__law_due, mf__law_due, b__law_due, mDef, hun, e1, dueP, h1, e2, h2, fIsi, tyN, isB, hlc, hin]⟩
      | @«at» s k h =>
        have hin := hin s rfl
        obtain ⟨X, ht⟩ := dueTail_ok (S := S) P (by omega) h hw
        refine ⟨X, ?_⟩
        have hst : sp__law_due [.p (prog boxes parts), .p (.str s), .p wishes] S = fin (dueTail [some (.p (prog boxes parts)), some (.p (.str s)), some (.p wishes), some (.p (.list (boxes.map .str))), some (.p (.list (parts.map fun p => partD p.1 (p.2.map Rw.d)))), none, none] S) := by
          unfold dueTail
          simp -implicitDefEqProofs only [sp__law_due, mf__law_due, b__law_due, mDef, List.length_cons, List.length_nil, Nat.zero_add, if_true, List.cons_append, List.nil_append, List.replicate, List.map_cons, List.map_nil, mSeq_app, mAsg_app, mVar_app, List.getElem?_cons_zero, List.getElem?_cons_succ, eS_ok, hun, List.set, asgR_ok, seqR_nx, mIfS_app, mTst_app, mBin_app, mCall_app, aCons_app, bind_ok, aNil_app, fLen_l, List.length_map, mC_app, fGt_i, decide_eq_false e1, decide_eq_false e2, tstR_b, Bool.false_eq_true, if_false, mNext_app, mOr_app, mNot_app, hlc, hin, Option.isNone_some]
          simp -implicitDefEqProofs [fIsi, tyN, isB, hlc, hin]
        rw [hst, ht]
        cases o <;> simp [dueP, h1, h2, nmS]
end K58


set_option Elab.async false
set_option linter.all false
set_option autoImplicit false
set_option maxRecDepth 100000
set_option maxHeartbeats 4000000
/-! k58's mathematics 22: what is told. -/
namespace K58
open PySem PySem.Spec PyProof.Rows L2 Z
inductive Why : Nat → Fds → List PyData → Prop
  | many (k : Nat) : Why 4 (some [("many", .int k)]) [.str "many", .int k]
  | part (d : PyData) : Why 3 (some [("name", d)]) [.str "part", d]
  | wishes : Why 2 none [.str "wishes"]
theorem framed_no {boxes : List Str} {parts : List (Str × List Rw)} {name wishes : PyData} {i : Option Nat} {o : Option (List (Str × List Int))} {S : Store} (G : Good boxes parts) (hn : Nm (parts.map (·.1)) name i) (hw : Wd (2 * boxes.length) wishes o) (h : 4 < boxes.length ∨ 5 < parts.length ∨ i = none ∨ o = none) :
    ∃ X c fs ds, sp_framed [.p (prog boxes parts), .p name, .p wishes] S = .exc c fs (S ++ X) ∧ dueP boxes parts name i o = .list ds ∧ Why c fs ds := by
  obtain ⟨X1, h1⟩ := look_at_ok (S := S) G
  have hsz := look_at_size_ok (boxes := boxes) (parts := parts) (S := S ++ X1)
  by_cases b1 : 4 < boxes.length
  · rw [if_pos b1] at hsz
    exact ⟨X1, 4, some [("many", .int boxes.length)], [.str "many", .int boxes.length], by simp -implicitDefEqProofs [sp_framed, mf_framed, b_framed, mDef, h1, hsz], by unfold dueP; rw [if_pos b1], .many _⟩
  · rw [if_neg b1] at hsz
    by_cases b2 : 5 < parts.length
    · rw [if_pos b2] at hsz
      exact ⟨X1, 4, some [("many", .int parts.length)], [.str "many", .int parts.length], by simp -implicitDefEqProofs [sp_framed, mf_framed, b_framed, mDef, h1, hsz], by unfold dueP; rw [if_neg b1, if_pos b2], .many _⟩
    · rw [if_neg b2] at hsz
      obtain ⟨X2, h3⟩ := look_at_call_ok (S := S ++ X1) G hn (hw.ws (by omega))
      cases i with
      | none =>
        simp only [callDue] at h3
        exact ⟨X1 ++ X2, 3, some [("name", name)], [.str "part", name], by simp -implicitDefEqProofs [sp_framed, mf_framed, b_framed, mDef, h1, hsz, h3], by unfold dueP; rw [if_neg b1, if_neg b2], .part _⟩
      | some i =>
        cases o with
        | none =>
          simp only [callDue, Option.isSome_none, Bool.false_eq_true, if_false] at h3
          exact ⟨X1 ++ X2, 2, none, [.str "wishes"], by simp -implicitDefEqProofs [sp_framed, mf_framed, b_framed, mDef, h1, hsz, h3], by unfold dueP; rw [if_neg b1, if_neg b2], .wishes⟩
        | some ws =>
          rcases h with h | h | h | h
          · exact absurd h b1
          · exact absurd h b2
          · cases h
          · cases h
theorem told_no {boxes : List Str} {parts : List (Str × List Rw)} {name wishes : PyData} {i : Option Nat} {o : Option (List (Str × List Int))} {S : Store} (G : Good boxes parts) (hn : Nm (parts.map (·.1)) name i) (hw : Wd (2 * boxes.length) wishes o) (h : 4 < boxes.length ∨ 5 < parts.length ∨ i = none ∨ o = none) :
    ∃ X ds, sp__law_told [.p (prog boxes parts), .p name, .p wishes] S = .ok (.loc (S ++ X).length) (S ++ X ++ [.lst (ds.map .p)]) ∧ dueP boxes parts name i o = .list ds ∧ ∃ w rest, ds = .str w :: rest ∧ w ≠ "told" := by
  obtain ⟨X, c, fs, ds, h1, h2, h3⟩ := framed_no (S := S) G hn hw h
  refine ⟨X, ds, ?_, h2, by cases h3 <;> exact ⟨_, _, rfl, by decide⟩⟩
  cases h3 with
  | many k => simp -implicitDefEqProofs [sp__law_told, mf__law_told, b__law_told, mDef, mTry, h1, runHd, tst_TooMany, unS, mXfc, mXf]
  | part d => simp -implicitDefEqProofs [sp__law_told, mf__law_told, b__law_told, mDef, mTry, h1, runHd, tst_TooMany, tst_NoPart, unS, mXfc, mXf]
  | wishes => simp -implicitDefEqProofs [sp__law_told, mf__law_told, b__law_told, mDef, mTry, h1, runHd, tst_TooMany, tst_NoPart, tst_TreeError, tst_NoWishes, mIsE, unS, mXfc, mXf]
theorem told_yes {boxes : List Str} {parts : List (Str × List Rw)} {nm : Str} {i : Nat} {ws : List (Str × List Int)} {S : Store} (G : Good boxes parts) (hb : boxes.length ≤ 4) (hp : parts.length ≤ 5) (hn : (parts.map (·.1))[i + 1]? = some nm) (hw : ws.length ≤ 12) (hws : ∀ w ∈ ws, wishOk (2 * boxes.length) w.1 w.2) :
    ∃ T c dk, S <+: T ∧ sp__law_told [.p (prog boxes parts), .p (.str nm), .p (.list (ws.map fun w => wishD w.1 w.2))] S = .ok (.loc (T.length + 7)) (T ++ (frCells c dk boxes (lettersOf boxes boxes.length) (firstOf parts) nm ws (parts.drop (i + 1)) T.length ++ [.lst [.p (.str "told"), .loc (T.length + 6)]])) := by
  obtain ⟨T, c, dk, hT, h⟩ := framed_ok (S := S) G hb hp hn hw hws (firstOf_eq G.p2) (fun p hp r hr S => wider_row_ok (by omega) (row_lens G p hp r hr).1 (row_lens G p hp r hr).2)
  refine ⟨T, c, dk, hT, ?_⟩
  generalize hfc : frCells c dk boxes (lettersOf boxes boxes.length) (firstOf parts) nm ws (parts.drop (i + 1)) T.length = Y at h
  have hY : Y.length = 7 := by rw [← hfc]; rfl
  simp -implicitDefEqProofs [sp__law_told, mf__law_told, b__law_told, mDef, mTry, h, hY]
theorem toPs_map {S : Store} {n : Nat} {l : List PyData} : toPs S n (l.map RV.p) = some l := by
  induction l with
  | nil => simp [toPs]
  | cons d l ih => simp [toPs, toP, ih]
theorem toP_lst {S : Store} {n k : Nat} {l : List RV} {ds : List PyData} (h : S[k]? = some (.lst l)) (hl : toPs S n l = some ds) : toP S (n + 1) (.loc k) = some (.list ds) := by
  simp only [toP, h, hl]; rfl
theorem toP_tup {S : Store} {n k : Nat} {l : List RV} {ds : List PyData} (h : S[k]? = some (.tup l)) (hl : toPs S n l = some ds) : toP S (n + 1) (.loc k) = some (.tuple ds) := by
  simp only [toP, h, hl]; rfl
theorem toPs_cons {S : Store} {n : Nat} {r : RV} {l : List RV} {d : PyData} {ds : List PyData} (h : toP S n r = some d) (hl : toPs S n l = some ds) : toPs S n (r :: l) = some (d :: ds) := by
  simp only [toPs, h, hl]
theorem toP_p {S : Store} {n : Nat} {d : PyData} : toP S n (.p d) = some d := by simp [toP]
theorem toPs_nil {S : Store} {n : Nat} : toPs S n [] = some [] := by simp [toPs]
/-- the framed program, read from its cells -/
theorem fr_read {c dk : Cell} {boxes : List Str} {parts : List (Str × List Rw)} {nm : Str} {i : Nat} {ws : List (Str × List Int)} {T Z : Store} (k : Nat) :
    toP (T ++ (frCells c dk boxes (lettersOf boxes boxes.length) (firstOf parts) nm ws (parts.drop (i + 1)) T.length ++ Z)) (k + 4) (.loc (T.length + 6)) = some (prog (FPb boxes) (FPp boxes parts nm (firstOf parts) ws i)) := by
  generalize hU : T ++ (frCells c dk boxes (lettersOf boxes boxes.length) (firstOf parts) nm ws (parts.drop (i + 1)) T.length ++ Z) = U
  have get : ∀ j, U[T.length + j]? = (frCells c dk boxes (lettersOf boxes boxes.length) (firstOf parts) nm ws (parts.drop (i + 1)) T.length ++ Z)[j]? := fun j => by
    rw [← hU, List.getElem?_append_right (by omega)]; congr 1; omega
  have g1 := get 1
  have g2 := get 2
  have g3 := get 3
  have g5 := get 5
  have g6 := get 6
  simp only [frCells, List.cons_append, List.getElem?_cons_succ, List.getElem?_cons_zero] at g1 g2 g3 g5 g6
  have h1 := toP_lst (n := k) g1 toPs_map
  have h2 := toP_tup g2 (toPs_cons (toP_p (d := .str (firstOf parts))) (toPs_cons h1 toPs_nil))
  have h3 := toP_lst g3 (toPs_cons h2 (by
    have := toPs_map (S := U) (n := k + 2) (l := (parts.drop (i + 1)).map fun p => partD p.1 ((p.2.map (Rw.wider boxes.length)).map Rw.d))
    rw [List.map_map] at this
    exact this))
  have h5 := toP_lst (n := k + 2) g5 toPs_map
  have h6 := toP_tup g6 (toPs_cons h5 (toPs_cons h3 toPs_nil))
  rw [h6, prog_eq]
  simp [FPb, FPp, Function.comp_def, partD]
end K58


set_option Elab.async false
set_option linter.all false
set_option autoImplicit false
set_option maxRecDepth 100000
set_option maxHeartbeats 4000000
/-! k58's mathematics 23: right. -/
namespace K58
open PySem PySem.Spec PyProof.Rows L2 Z
theorem toQs_map {S : Store} {n : Nat} {l : List PyData} : toQs S n (l.map RV.p) = some l := by
  induction l with
  | nil => simp [toQs]
  | cons d l ih => simp [toQs, toQ, ih]
theorem toQ_lst {S : Store} {n k : Nat} {l : List RV} {ds : List PyData} (h : S[k]? = some (.lst l)) (hl : toQs S n l = some ds) : toQ S (n + 1) (.loc k) = some (.list ds) := by
  simp only [toQ, h, hl]; rfl
theorem toQ_tup {S : Store} {n k : Nat} {l : List RV} {ds : List PyData} (h : S[k]? = some (.tup l)) (hl : toQs S n l = some ds) : toQ S (n + 1) (.loc k) = some (.tuple ds) := by
  simp only [toQ, h, hl]; rfl
theorem toQs_cons {S : Store} {n : Nat} {r : RV} {l : List RV} {d : PyData} {ds : List PyData} (h : toQ S n r = some d) (hl : toQs S n l = some ds) : toQs S n (r :: l) = some (d :: ds) := by
  simp only [toQs, h, hl]
theorem toQ_p {S : Store} {n : Nat} {d : PyData} : toQ S n (.p d) = some d := by simp [toQ]
theorem toQs_nil {S : Store} {n : Nat} : toQs S n [] = some [] := by simp [toQs]
theorem fr_readQ {c dk : Cell} {boxes : List Str} {parts : List (Str × List Rw)} {nm : Str} {i : Nat} {ws : List (Str × List Int)} {T Z : Store} (k : Nat) :
    toQ (T ++ (frCells c dk boxes (lettersOf boxes boxes.length) (firstOf parts) nm ws (parts.drop (i + 1)) T.length ++ Z)) (k + 4) (.loc (T.length + 6)) = some (prog (FPb boxes) (FPp boxes parts nm (firstOf parts) ws i)) := by
  generalize hU : T ++ (frCells c dk boxes (lettersOf boxes boxes.length) (firstOf parts) nm ws (parts.drop (i + 1)) T.length ++ Z) = U
  have get : ∀ j, U[T.length + j]? = (frCells c dk boxes (lettersOf boxes boxes.length) (firstOf parts) nm ws (parts.drop (i + 1)) T.length ++ Z)[j]? := fun j => by
    rw [← hU, List.getElem?_append_right (by omega)]; congr 1; omega
  have g1 := get 1
  have g2 := get 2
  have g3 := get 3
  have g5 := get 5
  have g6 := get 6
  simp only [frCells, List.cons_append, List.getElem?_cons_succ, List.getElem?_cons_zero] at g1 g2 g3 g5 g6
  have h1 := toQ_lst (n := k) g1 toQs_map
  have h2 := toQ_tup g2 (toQs_cons (toQ_p (d := .str (firstOf parts))) (toQs_cons h1 toQs_nil))
  have h3 := toQ_lst g3 (toQs_cons h2 (by
    have := toQs_map (S := U) (n := k + 2) (l := (parts.drop (i + 1)).map fun p => partD p.1 ((p.2.map (Rw.wider boxes.length)).map Rw.d))
    rw [List.map_map] at this
    exact this))
  have h5 := toQ_lst (n := k + 2) g5 toQs_map
  have h6 := toQ_tup g6 (toQs_cons h5 (toQs_cons h3 toQs_nil))
  rw [h6, prog_eq]
  simp [FPb, FPp, Function.comp_def, partD]
theorem look_lend {G : Prop} {n : Nat} {boxes : List Str} {parts : List (Str × List Rw)} {S : Store} (hg : Good boxes parts) (h : toQ S 64 (.loc n) = some (prog boxes parts)) : sp_look_at [.loc n] S = .ok (.p .none) S := by
  obtain ⟨X, hX⟩ := look_at_ok (S := []) hg
  have hX : mf_look_at [.p (prog boxes parts)] [] = .ok (.p .none) ([] ++ X) := by
    rw [← hX]
    exact (lend_noLoc (by rfl)).symm
  show lendF mf_look_at [.loc n] S = _
  unfold lendF
  rw [if_neg (by simp [noLoc])]
  simp only [toAs, toA, h, Option.map_some, hX]
  rfl
theorem FP_sm {boxes : List Str} {parts : List (Str × List Rw)} {nm first : Str} {i : Nat} {ws : List (Str × List Int)} (sm : ∀ p ∈ parts, ∀ r ∈ p.2, r.sm) (hw : ∀ w ∈ ws, ∀ x ∈ w.2, x.natAbs ≤ 100) : ∀ p ∈ FPp boxes parts nm first ws i, ∀ r ∈ p.2, r.sm := by
  intro p hp r hr
  rcases List.mem_cons.mp hp with rfl | h
  · simp only [firstRows, List.mem_append, List.mem_map, List.mem_singleton] at hr
    rcases hr with (((⟨b, hb, rfl⟩ | hr) | rfl) | ⟨w, hw', rfl⟩) | rfl
    · simp [Rw.sm, Rw.ints]
    · obtain ⟨j, hj, rfl⟩ := List.mem_mapIdx.mp hr
      intro x hx
      simp only [setRow, Rw.ints, List.mem_append, List.mem_replicate, List.mem_singleton] at hx
      rcases hx with (⟨_, rfl⟩ | rfl) | ⟨_, rfl⟩ <;> omega
    · simp [Rw.sm, Rw.ints]
    · obtain ⟨u, l⟩ := w
      cases l with
      | nil => simp [claimRow, Rw.sm, Rw.ints]
      | cons a l =>
        intro x hx
        have := hw _ hw'
        simp only [claimRow, Rw.ints, List.mem_cons, List.mem_append] at hx
        rcases hx with rfl | hx | hx
        · exact this _ (List.mem_cons_self ..)
        · exact this _ (List.mem_cons_of_mem _ (List.mem_of_mem_drop hx))
        · exact this _ (List.mem_cons_of_mem _ (List.mem_of_mem_take hx))
    · simp [Rw.sm, Rw.ints]
  · obtain ⟨q, hq, rfl⟩ := List.mem_map.mp h
    obtain ⟨r', hr', rfl⟩ := List.mem_map.mp hr
    have := sm q (List.mem_of_mem_drop hq) r' hr'
    have ap : ∀ {l : List Int}, (∀ x ∈ l, x.natAbs ≤ 100) → ∀ x ∈ l ++ List.replicate boxes.length (0 : Int), x.natAbs ≤ 100 := fun h x hx => by
      rcases List.mem_append.mp hx with hx | hx
      · exact h x hx
      · rw [(List.mem_replicate.mp hx).2]; decide
    cases r' with
    | set b l => exact ap this
    | want u l => exact ap this
    | claim u l => exact ap this
    | test u l k =>
      intro x hx
      rcases List.mem_cons.mp hx with rfl | hx
      · exact this _ (List.mem_cons_self ..)
      · exact ap (fun y hy => this y (List.mem_cons_of_mem _ hy)) x hx
    | _ => exact this
theorem due_Sm {boxes : List Str} {parts : List (Str × List Rw)} {name wishes : PyData} {i : Option Nat} {o : Option (List (Str × List Int))} (P : Prg boxes parts) (hn : Nm (parts.map (·.1)) name i) (hw : Wd (2 * boxes.length) wishes o) (hsn : Sm 2 178 name) : Sm 8 929781 (dueP boxes parts name i o) := by
  have G := P.good
  have h8 := G.b2
  have h6 := G.p2
  unfold dueP
  split
  · exact (Sm.list2 (k := 7) (W := 309926) (M := 619854) (wd (by simp) (by omega)) ((Sm.int (k := 7) (by omega)).mono)).mono
  · rename_i h4
    split
    · exact (Sm.list2 (k := 7) (W := 309926) (M := 619854) (wd (by simp) (by omega)) ((Sm.int (k := 7) (by omega)).mono)).mono
    · rename_i h5
      cases i with
      | none => exact (Sm.list2 (k := 7) (W := 309926) (M := 619854) (wd (by simp) (by omega)) hsn.mono).mono
      | some i =>
        cases o with
        | none => exact (Sm.list1 (k := 7) (W := 309926) (M := 619854) (wd (by simp) (by omega))).mono
        | some ws =>
          cases hn with
          | @«at» s i h =>
            cases hw with
            | good hl hw' =>
              have hg := FP_good (first := firstOf parts) G (by omega) (by omega) h hl (fun w hw => (hw' w hw).1) (firstOf_eq h6)
              exact (Sm.list2 (k := 7) (W := 309926) (M := 619854) (wd (by simp) (by omega)) (prog_Sm hg (FP_sm P.sm fun w hw => (hw' w hw).2))).mono
end K58


set_option Elab.async false
set_option linter.all false
set_option autoImplicit false
set_option maxRecDepth 100000
set_option maxHeartbeats 4000000
/-! k58's mathematics 24: right, joined. -/
namespace K58
open PySem PySem.Spec PyProof.Rows L2 Z
theorem mBM0_app {T : String} {f : FM} {mo : ME} {env : Z.Env} {S : Store} : mBM0 T f mo env S = (mo env S).bind fun x S1 => if tyOk T x S1 = true then f x [] S1 else .stuck := rfl
theorem right_no {boxes : List Str} {parts : List (Str × List Rw)} {name wishes : PyData} {i : Option Nat} {o : Option (List (Str × List Int))} {S : Store} (P : Prg boxes parts) (hn : Nm (parts.map (·.1)) name i) (hw : Wd (2 * boxes.length) wishes o) (hsn : Sm 2 178 name) (h : 4 < boxes.length ∨ 5 < parts.length ∨ i = none ∨ o = none) :
    ∃ X, sp__law_right [.p (prog boxes parts), .p name, .p wishes] S = .ok (.p (.bool true)) (S ++ X) := by
  have hb5 := P.b5
  have hK : Shw (.list [prog boxes parts, name, wishes]) := (Sm.list3 (k := 7) (W := 309926) (M := 929781) (prog_Sm P.good P.sm) hsn.mono (hw.sm (by omega)).mono).shw
  have hk : ∀ S', fRepr [.p (.list [prog boxes parts, name, wishes])] S' = _ := fun S' => fRepr_p hK
  have hdS := due_Sm P hn hw hsn
  obtain ⟨X1, h1⟩ := due_ok (S := S) P hn hw
  obtain ⟨X2, ds, h2, hds, w, rest, rfl, hne⟩ := told_no (S := S ++ X1) P.good hn hw h
  rw [hds] at h1 hdS
  have hd : ∀ S', fRepr [.p (.list (.str w :: rest))] S' = _ := fun S' => fRepr_p hdS.shw
  have hf := fRepr_loc (toP_lst (n := 63) (k := (S ++ X1 ++ X2).length) (S := S ++ X1 ++ X2 ++ [.lst ((PyData.str w :: rest).map RV.p)]) get_last toPs_map) hdS.shw
  generalize hU : (S ++ X1 ++ X2).length = k at h2 hf
  refine ⟨X1 ++ X2 ++ [.lst ((PyData.str w :: rest).map RV.p)], ?_⟩
  rw [← List.append_assoc, ← List.append_assoc]
  generalize hV : S ++ X1 ++ X2 ++ [.lst ((PyData.str w :: rest).map RV.p)] = V at h2 hf
  unfold sp__law_right mf__law_right mDef b__law_right
  simp -implicitDefEqProofs only [List.length_cons, List.length_nil, Nat.zero_add, if_true, List.cons_append, List.nil_append, List.replicate, List.map_cons, List.map_nil, mSeq_app, mAsg_app, mCall_app, aCons_app, mLst_app, mVar_app, List.getElem?_cons_zero, List.getElem?_cons_succ, aNil_app, bind_ok, mkL_3, hk, eS_ok, bName_app, List.set, asgR_ok, seqR_nx, h1, h2, mIfS_app, mOr_app, mTst_app, mBin_app, hf, hd, fEq_s, decide_true, Bool.not_true, tstR_b, Bool.false_eq_true, if_false, mNext_app, fIx_l, atI_0, mC_app, decide_eq_false hne, Bool.not_false, mRet_app, seqR_rt, fin_rt]
end K58


set_option Elab.async false
set_option linter.all false
set_option autoImplicit false
set_option maxRecDepth 100000
set_option maxHeartbeats 4000000
/-! k58's mathematics 25: right, where a program is told. -/
namespace K58
open PySem PySem.Spec PyProof.Rows L2 Z
theorem set_behind {T Y : Store} {j : Nat} {c : Cell} : (T ++ Y).set (T.length + j) c = T ++ Y.set j c := by
  rw [List.set_append_right _ _ (by omega)]; congr 2; omega
theorem get_behind {T Y : Store} {j : Nat} : (T ++ Y)[T.length + j]? = Y[j]? := by
  rw [List.getElem?_append_right (by omega)]; congr 1; omega
theorem fIx_lst {S : Store} {k : Nat} {l : List RV} {i : Int} {r : RV} (h : S[k]? = some (.lst l)) (hi : atI l i = some r) : fIx (.loc k) (.p (.int i)) S = .ok r S := by
  simp only [fIx, seqv, h, hi]
theorem fIx_tup {S : Store} {k : Nat} {l : List RV} {i : Int} {r : RV} (h : S[k]? = some (.tup l)) (hi : atI l i = some r) : fIx (.loc k) (.p (.int i)) S = .ok r S := by
  simp only [fIx, seqv, h, hi]
theorem tyOk_lst {S : Store} {k : Nat} {l : List RV} (h : S[k]? = some (.lst l)) : tyOk "list" (.loc k) S = true := by
  simp [tyOk, lstv, h]
theorem fClear_lst {S : Store} {k : Nat} {l : List RV} (h : S[k]? = some (.lst l)) : fClear (.loc k) [] S = .ok (.p .none) (S.set k (.lst [])) := by
  simp only [fClear, h]
theorem fAppend_lst {S : Store} {k : Nat} {l : List RV} {y : RV} (h : S[k]? = some (.lst l)) (hl : l.length ≤ 1000) : fAppend (.loc k) [y] S = .ok (.p .none) (S.set k (.lst (l ++ [y]))) := by
  have : l.length < sizeLine := by rw [sizeLine_eq]; omega
  simp only [fAppend, h, if_pos this]
theorem right_yes {boxes : List Str} {parts : List (Str × List Rw)} {nm : Str} {i : Nat} {ws : List (Str × List Int)} {S : Store} (P : Prg boxes parts) (hb : boxes.length ≤ 4) (hp : parts.length ≤ 5) (hn : (parts.map (·.1))[i + 1]? = some nm) (hl : ws.length ≤ 12) (hw : ∀ w ∈ ws, wishOk (2 * boxes.length) w.1 w.2 ∧ ∀ x ∈ w.2, x.natAbs ≤ 100) :
    ∃ X, sp__law_right [.p (prog boxes parts), .p (.str nm), .p (.list (ws.map fun w => wishD w.1 w.2))] S = .ok (.p (.bool true)) (S ++ X) := by
  have G := P.good
  have hWd : Wd (2 * boxes.length) _ (some ws) := Wd.good hl hw
  have hNm := Nm.at (names := parts.map (·.1)) hn
  have hnk : nameOk nm := by
    have := List.mem_of_getElem? hn
    obtain ⟨p, hp', rfl⟩ := List.mem_map.mp this
    exact G.pn p hp'
  have hsn : Sm 2 178 (.str nm) := (Sm.name (k := 2) hnk).mono
  have hK : Shw (.list [prog boxes parts, .str nm, .list (ws.map fun w => wishD w.1 w.2)]) := (Sm.list3 (k := 7) (W := 309926) (M := 929781) (prog_Sm P.good P.sm) hsn.mono (hWd.sm (by omega)).mono).shw
  have hk : ∀ S', fRepr [.p (.list [prog boxes parts, .str nm, .list (ws.map fun w => wishD w.1 w.2)])] S' = _ := fun S' => fRepr_p hK
  have hdS := due_Sm P hNm hWd hsn
  obtain ⟨X1, h1⟩ := due_ok (S := S) P hNm hWd
  have hdp : dueP boxes parts (.str nm) (some (i + 1)) (some ws) = .list [.str "told", prog (FPb boxes) (FPp boxes parts nm (firstOf parts) ws i)] := by
    unfold dueP
    rw [if_neg (by omega), if_neg (by omega)]
    rfl
  rw [hdp] at h1 hdS
  have hgood := FP_good (first := firstOf parts) G hb hp hn hl (fun w hw' => (hw w hw').1) (firstOf_eq G.p2)
  have hd : ∀ S', fRepr [.p (.list [.str "told", prog (FPb boxes) (FPp boxes parts nm (firstOf parts) ws i)])] S' = _ := fun S' => fRepr_p hdS.shw
  have rd : ∀ T c dk, fRepr [.loc (T.length + 7)] (T ++ (frCells c dk boxes (lettersOf boxes boxes.length) (firstOf parts) nm ws (parts.drop (i + 1)) T.length ++ [.lst [.p (.str "told"), .loc (T.length + 6)]])) = .ok (.p (.str (PyData.list [.str "told", prog (FPb boxes) (FPp boxes parts nm (firstOf parts) ws i)]).shown)) (T ++ (frCells c dk boxes (lettersOf boxes boxes.length) (firstOf parts) nm ws (parts.drop (i + 1)) T.length ++ [.lst [.p (.str "told"), .loc (T.length + 6)]])) := fun T c dk =>
    fRepr_loc (toP_lst (n := 63) (by rw [get_behind]; rfl) (toPs_cons toP_p (toPs_cons (fr_read 59) toPs_nil))) hdS.shw
  obtain ⟨T, c, dk, hT, h2⟩ := told_yes (S := S ++ X1) G hb hp hn hl fun w hw' => (hw w hw').1
  have hf := rd T c dk
  have hlk := look_lend (G := True) (n := T.length + 6) hgood (fr_readQ (T := T) (c := c) (dk := dk) (Z := [.lst [.p (.str "told"), .loc (T.length + 6)]]) 60)
  generalize hY : frCells c dk boxes (lettersOf boxes boxes.length) (firstOf parts) nm ws (parts.drop (i + 1)) T.length ++ [.lst [.p (.str "told"), .loc (T.length + 6)]] = Y at h2 hf hlk
  have y7 : Y[7]? = some (.lst [.p (.str "told"), .loc (T.length + 6)]) := by rw [← hY]; rfl
  have y6 : Y[6]? = some (.tup [.loc (T.length + 5), .loc (T.length + 3)]) := by rw [← hY]; rfl
  have y5 : Y[5]? = some (.lst (((boxes ++ lettersOf boxes boxes.length).map PyData.str).map .p)) := by rw [← hY]; rfl
  have y3 : Y[3]? = some (.lst (.loc (T.length + 2) :: (parts.drop (i + 1)).map fun p => .p (partD p.1 ((p.2.map (Rw.wider boxes.length)).map Rw.d)))) := by rw [← hY]; rfl
  have y2 : Y[2]? = some (.tup [.p (.str (firstOf parts)), .loc (T.length + 1)]) := by rw [← hY]; rfl
  have y1 : Y[1]? = some (.lst (((firstRows boxes (lettersOf boxes boxes.length) nm ws).map Rw.d).map .p)) := by rw [← hY]; rfl
  have hYl : Y.length = 8 := by rw [← hY]; rfl
  clear hY
  -- reading before
  have r71 : ∀ Y', Y'[7]? = some (.lst [.p (.str "told"), .loc (T.length + 6)]) → fIx (.loc (T.length + 7)) (.p (.int 1)) (T ++ Y') = .ok (.loc (T.length + 6)) (T ++ Y') := fun Y' h => fIx_lst (by rw [get_behind]; exact h) (by simp)
  have r60 : fIx (.loc (T.length + 6)) (.p (.int 0)) (T ++ Y) = .ok (.loc (T.length + 5)) (T ++ Y) := fIx_tup (by rw [get_behind]; exact y6) (by simp)
  have t5 : tyOk "list" (.loc (T.length + 5)) (T ++ Y) = true := tyOk_lst (by rw [get_behind]; exact y5)
  have c5 : fClear (.loc (T.length + 5)) [] (T ++ Y) = .ok (.p .none) (T ++ Y.set 5 (.lst [])) := by
    rw [fClear_lst (by rw [get_behind]; exact y5), set_behind]
  have v7 : (Y.set 5 (.lst []))[7]? = some (.lst [.p (.str "told"), .loc (T.length + 6)]) := by rw [List.getElem?_set_ne (by omega)]; exact y7
  have v6 : (Y.set 5 (.lst []))[6]? = some (.tup [.loc (T.length + 5), .loc (T.length + 3)]) := by rw [List.getElem?_set_ne (by omega)]; exact y6
  have v3 : (Y.set 5 (.lst []))[3]? = some (.lst (.loc (T.length + 2) :: (parts.drop (i + 1)).map fun p => .p (partD p.1 ((p.2.map (Rw.wider boxes.length)).map Rw.d)))) := by rw [List.getElem?_set_ne (by omega)]; exact y3
  have v2 : (Y.set 5 (.lst []))[2]? = some (.tup [.p (.str (firstOf parts)), .loc (T.length + 1)]) := by rw [List.getElem?_set_ne (by omega)]; exact y2
  have v1 : (Y.set 5 (.lst []))[1]? = some (.lst (((firstRows boxes (lettersOf boxes boxes.length) nm ws).map Rw.d).map .p)) := by rw [List.getElem?_set_ne (by omega)]; exact y1
  generalize Y.set 5 (.lst []) = V at c5 v7 v6 v3 v2 v1
  have r61 : fIx (.loc (T.length + 6)) (.p (.int 1)) (T ++ V) = .ok (.loc (T.length + 3)) (T ++ V) := fIx_tup (by rw [get_behind]; exact v6) (by simp)
  have r30 : fIx (.loc (T.length + 3)) (.p (.int 0)) (T ++ V) = .ok (.loc (T.length + 2)) (T ++ V) := fIx_lst (by rw [get_behind]; exact v3) (by simp)
  have r21 : fIx (.loc (T.length + 2)) (.p (.int 1)) (T ++ V) = .ok (.loc (T.length + 1)) (T ++ V) := fIx_tup (by rw [get_behind]; exact v2) (by simp)
  have t1 : tyOk "list" (.loc (T.length + 1)) (T ++ V) = true := tyOk_lst (by rw [get_behind]; exact v1)
  have a1 := fAppend_lst (S := T ++ V) (k := T.length + 1) (y := .p .none) (by rw [get_behind]; exact v1) (by
    have : (lettersOf boxes boxes.length).length ≤ 26 := lettersOf_len
    simp only [List.length_map, firstRows_len]; omega)
  rw [set_behind] at a1
  generalize V.set 1 (.lst ((((firstRows boxes (lettersOf boxes boxes.length) nm ws).map Rw.d).map RV.p) ++ [.p .none])) = W at a1
  obtain ⟨T2, c2, dk2, hT2, h3⟩ := told_yes (S := T ++ W) G hb hp hn hl fun w hw' => (hw w hw').1
  have hf2 := rd T2 c2 dk2
  generalize frCells c2 dk2 boxes (lettersOf boxes boxes.length) (firstOf parts) nm ws (parts.drop (i + 1)) T2.length ++ [.lst [.p (.str "told"), .loc (T2.length + 6)]] = Y2 at h3 hf2
  obtain ⟨Z1, rfl⟩ := hT
  obtain ⟨Z2, rfl⟩ := hT2
  refine ⟨X1 ++ Z1 ++ W ++ Z2 ++ Y2, ?_⟩
  have hfin : S ++ (X1 ++ Z1 ++ W ++ Z2 ++ Y2) = S ++ X1 ++ Z1 ++ W ++ Z2 ++ Y2 := by simp only [List.append_assoc]
  rw [hfin]
  have r71a := r71 Y y7
  have r71b := r71 V v7
  clear r71
  generalize (S ++ X1 ++ Z1).length = t at *
  generalize (S ++ X1 ++ Z1 ++ W ++ Z2).length = t2 at *
  unfold sp__law_right mf__law_right mDef b__law_right
  simp -implicitDefEqProofs only [List.length_cons, List.length_nil, Nat.zero_add, if_true, List.cons_append, List.nil_append, List.replicate, List.map_cons, List.map_nil, mSeq_app, mAsg_app, mCall_app, aCons_app, mLst_app, mVar_app, List.getElem?_cons_zero, List.getElem?_cons_succ, aNil_app, bind_ok, mkL_3, hk, eS_ok, bName_app, List.set, asgR_ok, seqR_nx, h1, h2, mIfS_app, mOr_app, mTst_app, mBin_app, hf, hd, fEq_s, decide_true, Bool.not_true, tstR_b, Bool.false_eq_true, if_false, mNext_app, fIx_l, atI_0, mC_app, mRet_app, seqR_rt, fin_rt, r71a, hlk, fIsN_n, Z.isNon, mExp_app, mBM0_app, r60, t5, c5, mBM_app, r71b, r61, r30, r21, t1, a1, mAndV_app, h3, hf2, andR_b]
end K58


set_option Elab.async false
set_option linter.all false
set_option autoImplicit false
set_option maxRecDepth 100000
set_option maxHeartbeats 4000000
/-! k58's mathematics 26: the pool, no program, the draws of a cell. -/
namespace K58
open PySem PySem.Spec PyProof.Rows L2 Z
noncomputable def ls0 : MS := (mAsg (mCall sp__law_pool (aCons (mVar 0) (aCons (mVar 1) aNil))) (bName 2))
noncomputable def ls1 : MS := (mAsg (mCall sp__law_program (aCons (mVar 2) (aCons (mC (.p (.int 5))) (aCons (mC (.p (.int 6))) (aCons (mC (.p (.int 6))) aNil))))) (bName 3))
noncomputable def ls2 : MS := (mIfS (mTst (mBin (fEq false 8) (mCall sp__law_take (aCons (mVar 2) (aCons (mC (.p (.int 2))) aNil))) (mC (.p (.int 0))))) (mSeq (mAsg (mCall sp__law_renamed (aCons (mVar 3) aNil)) (bName 3))
  mNext) mNext)
noncomputable def ls3 : MS := (mAsg (mBin (fMul true) (mC (.p (.int 2))) (mCall fLen (aCons (mBin fIx (mVar 3) (mC (.p (.int 0)))) aNil))) (bName 4))
noncomputable def ls4 : MS := (mAsg (mLc true (iRange1 (aCons (mCall sp__law_take (aCons (mVar 2) (aCons (mC (.p (.int 5))) aNil))) aNil)) (bName 6) tYesM (mCall sp__law_wish (aCons (mVar 2) (aCons (mVar 4) aNil))) [6]) (bName 5))
noncomputable def ls5 : MS := (mAsg (mTup (aCons (mC (.p (.str "above"))) (aCons (mBin (fAdd true) (mTup (aCons (mC (.p (.int 1))) aNil)) (mBin (fMul true) (mTup (aCons (mC (.p (.int 0))) aNil)) (mVar 4))) aNil))) (bName 7))
noncomputable def ls6 : MS := (mAsg (mLst true (aCons (mC (.p .none)) (aCons (mTup aNil) (aCons (mBin (fAdd true) (mVar 5) (mLst true (aCons (mC (.p .none)) aNil))) (aCons (mBin (fAdd true) (mVar 5) (mLst true (aCons (mTup (aCons (mC (.p (.str "least"))) (aCons (mBin (fMul true) (mTup (aCons (mC (.p (.int 0))) aNil)) (mVar 4)) aNil))) aNil))) (aCons (mLst true (aCons (mTup (aCons (mC (.p (.str "least"))) (aCons (mBin (fMul true) (mLst true (aCons (mC (.p (.int 0))) aNil)) (mBin (fAdd true) (mVar 4) (mC (.p (.int 1))))) aNil))) aNil)) aNil)))))) (bName 8))
noncomputable def ls7 : MS := (mAsg (mBin (fAdd true) (mVar 8) (mLst true (aCons (mBin (fMul true) (mLst true (aCons (mVar 7) aNil)) (mC (.p (.int 12)))) (aCons (mBin (fMul true) (mLst true (aCons (mVar 7) aNil)) (mC (.p (.int 13)))) (aCons (mCall fTupleOf (aCons (mVar 5) aNil)) (aCons (mC (.p (.str "none"))) aNil)))))) (bName 8))
noncomputable def ls8 : MS := (mAsg (mLc true (iAny (mBin fIx (mVar 3) (mC (.p (.int 1))))) (bTup 2 (bsCons (bName 10) (bsCons (bName 11) bsNil))) tYesM (mVar 10) [10, 11]) (bName 9))
noncomputable def ls9 : MS := (mAsg (mLst true (aCons (mBin fIx (mVar 9) (mUn fNeg (mC (.p (.int 1))))) (aCons (mBin fIx (mVar 9) (mCall sp__law_take (aCons (mVar 2) (aCons (mCall fLen (aCons (mVar 9) aNil)) aNil)))) (aCons (mC (.p (.str "nobody"))) (aCons (mC (.p .none)) (aCons (mBin fIx (mVar 9) (mC (.p (.int 0)))) (aCons (mLst true (aCons (mBin fIx (mVar 9) (mUn fNeg (mC (.p (.int 1))))) aNil)) aNil))))))) (bName 12))
noncomputable def ls10 : MS := (mAsg (mBin fIx (mVar 12) (mCall sp__law_take (aCons (mVar 2) (aCons (mC (.p (.int 6))) aNil)))) (bName 10))
noncomputable def ls11 : MS := (mFor (iAny (mLst true (aCons (mTup (aCons (mBin fIx (mVar 9) (mUn fNeg (mC (.p (.int 1))))) (aCons (mVar 5) aNil))) (aCons (mTup (aCons (mVar 10) (aCons (mVar 5) aNil))) (aCons (mTup (aCons (mVar 10) (aCons (mBin fIx (mVar 8) (mCall sp__law_take (aCons (mVar 2) (aCons (mC (.p (.int 9))) aNil)))) aNil))) aNil))))) (bTup 2 (bsCons (bName 13) (bsCons (bName 14) bsNil)))
  (mSeq (mIfS (mNot (mTst (mCall sp__law_right (aCons (mVar 3) (aCons (mVar 13) (aCons (mVar 14) aNil)))))) (mSeq (mRet (mC (.p (.bool false))))
  mNext) mNext)
  mNext))
noncomputable def lawB : MS := (mSeq ls0 (mSeq ls1 (mSeq ls2 (mSeq ls3 (mSeq ls4 (mSeq ls5 (mSeq ls6 (mSeq ls7 (mSeq ls8 (mSeq ls9 (mSeq ls10 (mSeq ls11 mNext))))))))))))
theorem fLen_scr {ns : List Int} {S : Store} : fLen [.scr ns] S = .ok (.p (.int ns.length)) S := by simp [fLen, seqv]
theorem fMx_t {i j : Int} {S : Store} : fMx true [.p (.int i), .p (.int j)] S = .ok (.p (.int (if j > i then j else i))) S := rfl
theorem fMx_f {i j : Int} {S : Store} : fMx false [.p (.int i), .p (.int j)] S = .ok (.p (.int (if j < i then j else i))) S := rfl
theorem fPow_10 {S : Store} : fPow (.p (.int 10)) (.p (.int 18)) S = .ok (.p (.int 1000000000000000000)) S := by simp [fPow, fII]
theorem pool_ok {ns : List Int} {k : Nat} {S : Store} (hk : k ≤ 1000) : ∃ a s, 0 ≤ a ∧ 0 ≤ s ∧ sp__law_pool [.scr ns, .p (.int k)] S = .ok (.loc S.length) (S ++ [poolC a s]) := by

  have fin1 : ∀ cell : Int, ∃ a s : Int, 0 ≤ a ∧ 0 ≤ s ∧ fin ((mSeq (mAsg (mCall (fMx true) (aCons (mVar 2) (aCons (mBin fSub (mUn fNeg (mC (.p (.int 1)))) (mVar 2)) aNil))) (bName 3))
  (mSeq (mAsg (mBin fMod (mBin (fAdd true) (mBin (fAdd true) (mBin (fMul true) (mBin fMod (mVar 3) (mC (.p (.int 2147483629)))) (mC (.p (.int 16807)))) (mBin (fMul true) (mC (.p (.int 104729))) (mVar 1))) (mC (.p (.int 11)))) (mC (.p (.int 2147483647)))) (bName 4))
  (mSeq (mIfS (mTst (mBin fLt (mVar 3) (mBin fPow (mC (.p (.int 10))) (mC (.p (.int 18)))))) (mSeq (mAsg (mC (.p (.int 0))) (bName 3))
  mNext) mNext)
  (mSeq (mRet (mLst false (aCons (mVar 3) (aCons (mVar 4) aNil))))
  mNext)))) [some (.scr ns), some (.p (.int k)), some (.p (.int cell)), none, none] S) = .ok (.loc S.length) (S ++ [poolC a s]) := by
    intro cell
    have h0 : ∀ x : Int, (0 : Int) ≤ (if -1 - x > x then -1 - x else x) := fun x => by split <;> omega
    generalize hn : (if -1 - cell > cell then -1 - cell else cell) = num
    have hn0 : 0 ≤ num := hn ▸ h0 cell
    have m1 : ∀ j S', fMul true (.p (.int j)) (.p (.int 16807)) S' = .ok (.p (.int (j * 16807))) S' := fun j S' => fMul_r (by omega) (by omega)
    have m2 : ∀ S', fMul true (.p (.int 104729)) (.p (.int k)) S' = .ok (.p (.int (104729 * k))) S' := fun S' => fMul_r (by omega) (by omega)
    by_cases hl : num < 1000000000000000000
    · refine ⟨0, (num % 2147483629 * 16807 + 104729 * k + 11) % 2147483647, by omega, Int.emod_nonneg _ (by omega), ?_⟩
      simp -implicitDefEqProofs only [mSeq_app, mAsg_app, mCall_app, aCons_app, mVar_app, List.getElem?_cons_zero, List.getElem?_cons_succ, bind_ok, mBin_app, mUn_app, mC_app, fNeg_i, fSub_i, aNil_app, fMx_t, hn, eS_ok, bName_app, List.set, asgR_ok, seqR_nx, fMod_i (show (0 : Int) < 2147483629 by omega), m1, m2, fAdd_i, fMod_i (show (0 : Int) < 2147483647 by omega), mIfS_app, mTst_app, fPow_10, fLt_i, decide_eq_true hl, tstR_b, if_true, mNext_app, mRet_app, mLst_app, mkLf_2, seqR_rt, fin_rt, poolC]
    · refine ⟨num, (num % 2147483629 * 16807 + 104729 * k + 11) % 2147483647, hn0, Int.emod_nonneg _ (by omega), ?_⟩
      simp -implicitDefEqProofs only [mSeq_app, mAsg_app, mCall_app, aCons_app, mVar_app, List.getElem?_cons_zero, List.getElem?_cons_succ, bind_ok, mBin_app, mUn_app, mC_app, fNeg_i, fSub_i, aNil_app, fMx_t, hn, eS_ok, bName_app, List.set, asgR_ok, seqR_nx, fMod_i (show (0 : Int) < 2147483629 by omega), m1, m2, fAdd_i, fMod_i (show (0 : Int) < 2147483647 by omega), mIfS_app, mTst_app, fPow_10, fLt_i, decide_eq_false hl, tstR_b, Bool.false_eq_true, if_false, mNext_app, mRet_app, mLst_app, mkLf_2, seqR_rt, fin_rt, poolC]
  by_cases hlt : (k : Int) < ns.length
  · have hk' : k < ns.length := by omega
    obtain ⟨a, s, ha, hs, h⟩ := fin1 ns[k]
    refine ⟨a, s, ha, hs, ?_⟩
    have hix : fIx (.scr ns) (.p (.int k)) S = .ok (.p (.int ns[k])) S := by
      simp only [fIx, seqv, Z.atI_nat, List.getElem?_map, List.getElem?_eq_getElem hk', Option.map_some]
    rw [← h]
    simp -implicitDefEqProofs only [sp__law_pool, mf__law_pool, b__law_pool, mDef, List.length_cons, List.length_nil, Nat.zero_add, if_true, List.cons_append, List.nil_append, List.replicate, List.map_cons, List.map_nil, mSeq_app, mAsg_app, mC_app, eS_ok, bName_app, List.set, asgR_ok, seqR_nx, mIfS_app, mTst_app, mBin_app, mVar_app, List.getElem?_cons_zero, List.getElem?_cons_succ, bind_ok, mCall_app, aCons_app, aNil_app, fLen_scr, fLt_i, decide_eq_true hlt, tstR_b, hix, mNext_app]
  · obtain ⟨a, s, ha, hs, h⟩ := fin1 0
    refine ⟨a, s, ha, hs, ?_⟩
    rw [← h]
    simp -implicitDefEqProofs only [sp__law_pool, mf__law_pool, b__law_pool, mDef, List.length_cons, List.length_nil, Nat.zero_add, if_true, List.cons_append, List.nil_append, List.replicate, List.map_cons, List.map_nil, mSeq_app, mAsg_app, mC_app, eS_ok, bName_app, List.set, asgR_ok, seqR_nx, mIfS_app, mTst_app, mBin_app, mVar_app, List.getElem?_cons_zero, List.getElem?_cons_succ, bind_ok, mCall_app, aCons_app, aNil_app, fLen_scr, fLt_i, decide_eq_false hlt, tstR_b, Bool.false_eq_true, if_false, mNext_app]
theorem raise3 {c : Nat} {f g h : Str} {a b d : PyData} {ma mb md : ME} {env : Z.Env} {S : Store} (h1 : ma env S = .ok (.p a) S) (h2 : mb env S = .ok (.p b) S) (h3 : md env S = .ok (.p d) S) : mRaise c [f, g, h] (aCons ma (aCons mb (aCons md aNil))) env S = .exc c (some [(f, a), (g, b), (h, d)]) env S := by
  simp [mRaise, h1, h2, h3, allP]
theorem no_program_1 {S : Store} : sp__law_no_program [.p .none] S = .ok (.p (.bool true)) S := by
  have h1 : sp_look_at [.p .none] S = .exc 1 (some [("part", .str "program"), ("number", .none), ("row", .none)]) S := by
    rw [show sp_look_at = lendF mf_look_at from rfl, lend_noLoc (by rfl)]
    simp -implicitDefEqProofs [mf_look_at, b_look_at, mDef, fIsi, tyN, isB, raise3 (a := .str "program") (b := .none) (d := .none)]
  have h2 : sp_framed [.p .none, .p .none, .p .none] S = .exc 1 (some [("part", .str "program"), ("number", .none), ("row", .none)]) S := by
    simp -implicitDefEqProofs [sp_framed, mf_framed, b_framed, mDef, h1]
  simp -implicitDefEqProofs [sp__law_no_program, mf__law_no_program, b__law_no_program, mDef, mTry, h2, runHd, tst_NoProgram, noX]
theorem no_program_2 {S : Store} : sp__law_no_program [.p (.tuple [.list [], .list []])] S = .ok (.p (.bool true)) S := by
  have h0 : sp_look_at_list [.p (.str "boxes"), .p (.list []), .p (.int 8), .fn 100] S = .exc 1 (some [("part", .str "boxes"), ("number", .none), ("row", .none)]) S := by
    simp -implicitDefEqProofs [sp_look_at_list, mf_look_at_list, b_look_at_list, mDef, fIsi, tyN, isB, raise3 (a := .str "boxes") (b := .none) (d := .none)]
  have h1 : sp_look_at [.p (.tuple [.list [], .list []])] S = .exc 1 (some [("part", .str "boxes"), ("number", .none), ("row", .none)]) S := by
    rw [show sp_look_at = lendF mf_look_at from rfl, lend_noLoc (by rfl)]
    simp -implicitDefEqProofs [mf_look_at, b_look_at, mDef, fIsi, tyN, isB, h0]
  have h2 : sp_framed [.p (.tuple [.list [], .list []]), .p .none, .p .none] S = .exc 1 (some [("part", .str "boxes"), ("number", .none), ("row", .none)]) S := by
    simp -implicitDefEqProofs [sp_framed, mf_framed, b_framed, mDef, h1]
  simp -implicitDefEqProofs [sp__law_no_program, mf__law_no_program, b__law_no_program, mDef, mTry, h2, runHd, tst_NoProgram, noX]
/-- wishes drawn -/
def WsOk (n : Nat) (ws : List (Str × List Int)) : Prop := ∀ w ∈ ws, wishOk n w.1 w.2 ∧ ∀ x ∈ w.2, x.natAbs ≤ 100
theorem ls4_ok {e0 e1 e3 e5 e6 e7 e8 e9 e10 e11 e12 e13 e14 : Option RV} {n size : Nat} {S : Store} (h : PlAt n S) (hs : size ≤ 100) : ∃ (ws : List (Str × List Int)) (S' : Store), ws.length ≤ 4 ∧ WsOk size ws ∧ Sp n S S' ∧
    ls4 [e0, e1, some (.loc n), e3, some (.p (.int size)), e5, e6, e7, e8, e9, e10, e11, e12, e13, e14] S = .nx [e0, e1, some (.loc n), e3, some (.p (.int size)), some (.p (.list (ws.map fun w => wishD w.1 w.2))), e6, e7, e8, e9, e10, e11, e12, e13, e14] S' := by
  have hn := h.lt
  obtain ⟨d, a, s, d0, d1, ha, hs', ht⟩ := take_ok (many := 5) h (by omega) (by omega)
  have hr := iRange1_ok (m := mCall sp__law_take (aCons (mVar 2) (aCons (mC (.p (.int 5))) aNil))) (env := [e0, e1, some (.loc n), e3, some (.p (.int size)), e5, e6, e7, e8, e9, e10, e11, e12, e13, e14]) (S := S) (S1 := S.set n (poolC a s)) (j := d) (by
    simp -implicitDefEqProofs only [mCall_app, aCons_app, mVar_app, List.getElem?_cons_zero, List.getElem?_cons_succ, bind_ok, mC_app, aNil_app, ht]) (by omega) (by omega)
  obtain ⟨ds, S2, k1, k2, k3, k4⟩ := mLc_st (bd := bName 6) (tt := tYesM) (te := mCall sp__law_wish (aCons (mVar 2) (aCons (mVar 4) aNil))) (vs := [6])
    (P := fun S' => Sp n S S') (R := fun d => ∃ w : Str × List Int, d = wishD w.1 w.2 ∧ wishOk size w.1 w.2 ∧ ∀ x ∈ w.2, x.natAbs ≤ 100) hr (fun it hit S3 hS3 => by
      obtain ⟨i, rfl⟩ := rng_mem hit
      obtain ⟨u, l, S4, q1, q2, q3, q4⟩ := wish_ok (many := size) (hS3.at hn) hs
      refine ⟨_, _, wishD u l, S4, by rw [mkI_one, bName_app], rfl, ?_, ⟨(u, l), rfl, q2, q3⟩, hS3.trans hn q4⟩
      simp -implicitDefEqProofs only [wipeE, List.set, mCall_app, aCons_app, mVar_app, List.getElem?_cons_zero, List.getElem?_cons_succ, bind_ok, aNil_app, q1]) ⟨a, s, [], ha, hs', by simp⟩ (by rw [rng_len]; omega)
  rw [rng_len] at k2
  have hws : ∃ ws : List (Str × List Int), ds = ws.map (fun w => wishD w.1 w.2) ∧ WsOk size ws := by
    clear k1 k2
    induction ds with
    | nil => exact ⟨[], rfl, fun _ h => by cases h⟩
    | cons d ds ih =>
      obtain ⟨ws, e, hk⟩ := ih fun x hx => k3 x (List.mem_cons_of_mem _ hx)
      obtain ⟨w, rfl, hw0⟩ := k3 d (List.mem_cons_self ..)
      exact ⟨w :: ws, by rw [e]; rfl, fun x hx => by
        rcases List.mem_cons.mp hx with rfl | hx
        · exact hw0
        · exact hk x hx⟩
  obtain ⟨ws, rfl, hwok⟩ := hws
  rw [List.length_map] at k2
  refine ⟨ws, S2, by omega, hwok, k4, ?_⟩
  unfold ls4
  simp -implicitDefEqProofs only [mAsg_app, k1, eS_ok, bName_app, List.set, asgR_ok]
end K58


set_option Elab.async false
set_option linter.all false
set_option autoImplicit false
set_option maxRecDepth 100000
set_option maxHeartbeats 4000000
/-! k58's mathematics 27: the statements of a cell. -/
namespace K58
open PySem PySem.Spec PyProof.Rows L2 Z
section
variable {e0 e1 e2 e3 e4 e5 e6 e7 e8 e9 e10 e11 e12 e13 e14 : Option RV} {n : Nat} {S : Store}
theorem ls0_ok {ns : List Int} {k : Nat} (hk : k ≤ 1000) : ∃ a s, 0 ≤ a ∧ 0 ≤ s ∧ ls0 [some (.scr ns), some (.p (.int k)), e2, e3, e4, e5, e6, e7, e8, e9, e10, e11, e12, e13, e14] S = .nx [some (.scr ns), some (.p (.int k)), some (.loc S.length), e3, e4, e5, e6, e7, e8, e9, e10, e11, e12, e13, e14] (S ++ [poolC a s]) := by
  obtain ⟨a, s, ha, hs, h⟩ := pool_ok (ns := ns) (S := S) hk
  refine ⟨a, s, ha, hs, ?_⟩
  unfold ls0
  simp -implicitDefEqProofs only [mAsg_app, mCall_app, aCons_app, mVar_app, List.getElem?_cons_zero, List.getElem?_cons_succ, bind_ok, aNil_app, h, eS_ok, bName_app, List.set, asgR_ok]
theorem ls1_ok (h : PlAt n S) : ∃ (boxes : List Str) (parts : List (Str × List Rw)) (S' : Store), Prg boxes parts ∧ (∀ b ∈ boxes, b ∈ bx5) ∧ (parts.map (·.1)) <+: ptN ∧ Sp n S S' ∧
    ls1 [e0, e1, some (.loc n), e3, e4, e5, e6, e7, e8, e9, e10, e11, e12, e13, e14] S = .nx [e0, e1, some (.loc n), some (.p (prog boxes parts)), e4, e5, e6, e7, e8, e9, e10, e11, e12, e13, e14] S' := by
  obtain ⟨boxes, parts, S', q, P, ⟨k, hk, hk5⟩, hpre, hsp⟩ := program_ok h
  refine ⟨boxes, parts, S', P, ?_, hpre, hsp, ?_⟩
  · intro b hb
    rw [hk] at hb
    have : bxN.take k <+: bxN.take 5 := by
      rw [show bxN.take k = (bxN.take 5).take k by rw [List.take_take, Nat.min_eq_left hk5]]
      exact List.take_prefix _ _
    exact this.subset hb
  · unfold ls1
    simp -implicitDefEqProofs only [mAsg_app, mCall_app, aCons_app, mVar_app, mC_app, List.getElem?_cons_zero, List.getElem?_cons_succ, bind_ok, aNil_app, q, eS_ok, bName_app, List.set, asgR_ok]
theorem ls2_ok {boxes : List Str} {parts : List (Str × List Rw)} (h : PlAt n S) (P : Prg boxes parts) (hb : ∀ b ∈ boxes, b ∈ bx5) : ∃ (boxes' : List Str) (parts' : List (Str × List Rw)) (S' : Store), Prg boxes' parts' ∧ parts'.map (·.1) = parts.map (·.1) ∧ Sp n S S' ∧
    ls2 [e0, e1, some (.loc n), some (.p (prog boxes parts)), e4, e5, e6, e7, e8, e9, e10, e11, e12, e13, e14] S = .nx [e0, e1, some (.loc n), some (.p (prog boxes' parts')), e4, e5, e6, e7, e8, e9, e10, e11, e12, e13, e14] S' := by
  obtain ⟨d, a, s, d0, d1, ha, hs, ht⟩ := take_ok (many := 2) h (by omega) (by omega)
  have hsp : Sp n S (S.set n (poolC a s)) := ⟨a, s, [], ha, hs, by simp⟩
  by_cases hd : d = 0
  · obtain ⟨X, hr⟩ := renamed_ok (S := S.set n (poolC a s)) P hb
    refine ⟨boxes.map ren, parts.map fun p => (p.1, p.2.map Rw.ren), S.set n (poolC a s) ++ X, ren_prg P hb, by simp [Function.comp_def], hsp.more, ?_⟩
    unfold ls2
    simp -implicitDefEqProofs only [mIfS_app, mTst_app, mBin_app, mCall_app, aCons_app, mVar_app, mC_app, List.getElem?_cons_zero, List.getElem?_cons_succ, bind_ok, aNil_app, ht, fEq_i, Bool.false_eq_true, if_false, decide_eq_true hd, tstR_b, eS_ok, if_true, mSeq_app, mAsg_app, hr, bName_app, List.set, asgR_ok, seqR_nx, mNext_app]
  · refine ⟨boxes, parts, S.set n (poolC a s), P, rfl, hsp, ?_⟩
    unfold ls2
    simp -implicitDefEqProofs only [mIfS_app, mTst_app, mBin_app, mCall_app, aCons_app, mVar_app, mC_app, List.getElem?_cons_zero, List.getElem?_cons_succ, bind_ok, aNil_app, ht, fEq_i, Bool.false_eq_true, if_false, decide_eq_false hd, tstR_b, eS_ok, mNext_app]
theorem ls3_ok {boxes : List Str} {parts : List (Str × List Rw)} (hb : boxes.length ≤ 8) : ls3 [e0, e1, e2, some (.p (prog boxes parts)), e4, e5, e6, e7, e8, e9, e10, e11, e12, e13, e14] S = .nx [e0, e1, e2, some (.p (prog boxes parts)), some (.p (.int ((2 * boxes.length : Nat) : Int))), e5, e6, e7, e8, e9, e10, e11, e12, e13, e14] S := by
  have hfx0 : ∀ S', fIx (.p (prog boxes parts)) (.p (.int 0)) S' = .ok (.p (.list (boxes.map .str))) S' := fun S' => by simp [prog_eq]
  have hm : ∀ S', fMul true (.p (.int 2)) (.p (.int boxes.length)) S' = .ok (.p (.int ((2 * boxes.length : Nat) : Int))) S' := fun S' => by
    rw [fMul_r (by omega) (by omega)]; simp
  unfold ls3
  simp -implicitDefEqProofs only [mAsg_app, mBin_app, mC_app, bind_ok, mCall_app, aCons_app, mVar_app, List.getElem?_cons_zero, List.getElem?_cons_succ, hfx0, aNil_app, fLen_l, List.length_map, hm, eS_ok, bName_app, List.set, asgR_ok]
def flatL (size : Nat) : List Int := 1 :: List.replicate size 0
def flatW (size : Nat) : Str × List Int := ("above", flatL size)
theorem ls5_ok {size : Nat} (hs : size ≤ 20) : ls5 [e0, e1, e2, e3, some (.p (.int size)), e5, e6, e7, e8, e9, e10, e11, e12, e13, e14] S = .nx [e0, e1, e2, e3, some (.p (.int size)), e5, e6, some (.p (wishD "above" (flatL size))), e8, e9, e10, e11, e12, e13, e14] S := by
  have hnt : ∀ S', fMul true (.p (.tuple [.int 0])) (.p (.int size)) S' = _ := fun S' => noughts (z := true) (d := .int 0) (n := size) (S := S') (by omega)
  have ha : ∀ S', fAdd true (.p (.tuple [.int 1])) (.p (.tuple (List.replicate size (.int 0)))) S' = .ok (.p (.tuple ((flatL size).map .int))) S' := fun S' => by
    rw [fAdd_tt (sizeK (by simp; omega))]; simp [flatL]
  unfold ls5
  simp -implicitDefEqProofs only [mAsg_app, mTup_app, aCons_app, mC_app, bind_ok, mBin_app, aNil_app, mkT_1, mVar_app, List.getElem?_cons_zero, List.getElem?_cons_succ, hnt, ha, mkT_2, eS_ok, bName_app, List.set, asgR_ok, wishD]
/-- the odd wishes -/
def odd1 (ws : List (Str × List Int)) (size : Nat) : List PyData :=
  [.none, .tuple [], .list ((ws.map fun w => wishD w.1 w.2) ++ [.none]), .list ((ws.map fun w => wishD w.1 w.2) ++ [wishD "least" (List.replicate size 0)]), .list [.tuple [.str "least", .list (List.replicate (size + 1) (.int 0))]]]
def odd2 (ws : List (Str × List Int)) (size : Nat) : List PyData :=
  [.list (List.replicate 12 (wishD "above" (flatL size))), .list (List.replicate 13 (wishD "above" (flatL size))), .tuple (ws.map fun w => wishD w.1 w.2), .str "none"]
theorem mkL_5 {a b c d e : PyData} {S : Store} : mkL true [.p a, .p b, .p c, .p d, .p e] S = .ok (.p (.list [a, b, c, d, e])) S := by simp [mkL, allP, sizeLine_eq]
theorem mkL_6 {a b c d e f : PyData} {S : Store} : mkL true [.p a, .p b, .p c, .p d, .p e, .p f] S = .ok (.p (.list [a, b, c, d, e, f])) S := by simp [mkL, allP, sizeLine_eq]
theorem repl_p {d : PyData} {k : Nat} : repl k [RV.p d] = (List.replicate k d).map .p := by
  induction k with
  | zero => rfl
  | succ k ih => simp [repl, ih, List.replicate_succ]
theorem fMul_l {d : PyData} {k : Nat} {S : Store} (h : k ≤ 100) : fMul true (.p (.list [d])) (.p (.int k)) S = .ok (.p (.list (List.replicate k d))) S := by
  have e2 : -(2 ^ 63) ≤ (k : Int) := by omega
  have e3 : (k : Int) < 2 ^ 63 := by omega
  have e4 : ([d].length * k) ≤ sizeLine := sizeK (by simp; omega)
  simp only [fMul, Int.toNat_natCast]
  rw [if_pos ⟨e2, e3, e4⟩]
  simp only [List.map_cons, List.map_nil, repl_p]
  rw [mkL_p, if_pos (sizeK (by simp; omega))]
theorem ls6_ok {ws : List (Str × List Int)} {size : Nat} (hs : size ≤ 20) (hw : ws.length ≤ 4) : ls6 [e0, e1, e2, e3, some (.p (.int size)), some (.p (.list (ws.map fun w => wishD w.1 w.2))), e6, e7, e8, e9, e10, e11, e12, e13, e14] S = .nx [e0, e1, e2, e3, some (.p (.int size)), some (.p (.list (ws.map fun w => wishD w.1 w.2))), e6, e7, some (.p (.list (odd1 ws size))), e9, e10, e11, e12, e13, e14] S := by
  have hnt : ∀ S', fMul true (.p (.tuple [.int 0])) (.p (.int size)) S' = _ := fun S' => noughts (z := true) (d := .int 0) (n := size) (S := S') (by omega)
  have hml : ∀ S', fMul true (.p (.list [.int 0])) (.p (.int ((size : Int) + 1))) S' = .ok (.p (.list (List.replicate (size + 1) (.int 0)))) S' := fun S' => by
    have := fMul_l (d := .int 0) (k := size + 1) (S := S') (by omega)
    simpa using this
  have had : ∀ d S', fAdd true (.p (.list (ws.map fun w => wishD w.1 w.2))) (.p (.list [d])) S' = .ok (.p (.list ((ws.map fun w => wishD w.1 w.2) ++ [d]))) S' := fun d S' => fAdd_ll (sizeK (by simp; omega))
  unfold ls6
  simp -implicitDefEqProofs only [mAsg_app, mLst_app, mTup_app, aCons_app, mC_app, bind_ok, mBin_app, aNil_app, mkT_0, mkT_1, mkL_1, mVar_app, List.getElem?_cons_zero, List.getElem?_cons_succ, hnt, hml, had, mkT_2, fAdd_i, mkL_5, eS_ok, bName_app, List.set, asgR_ok]
  simp [odd1, wishD]
theorem ls7_ok {ws : List (Str × List Int)} {size : Nat} (hs : size ≤ 20) (hw : ws.length ≤ 4) : ls7 [e0, e1, e2, e3, some (.p (.int size)), some (.p (.list (ws.map fun w => wishD w.1 w.2))), e6, some (.p (wishD "above" (flatL size))), some (.p (.list (odd1 ws size))), e9, e10, e11, e12, e13, e14] S = .nx [e0, e1, e2, e3, some (.p (.int size)), some (.p (.list (ws.map fun w => wishD w.1 w.2))), e6, some (.p (wishD "above" (flatL size))), some (.p (.list (odd1 ws size ++ odd2 ws size))), e9, e10, e11, e12, e13, e14] S := by
  have h12 : ∀ d S', fMul true (.p (.list [d])) (.p (.int 12)) S' = .ok (.p (.list (List.replicate 12 d))) S' := fun d S' => fMul_l (k := 12) (by omega)
  have h13 : ∀ d S', fMul true (.p (.list [d])) (.p (.int 13)) S' = .ok (.p (.list (List.replicate 13 d))) S' := fun d S' => fMul_l (k := 13) (by omega)
  have hft : ∀ S', fTupleOf [.p (.list (ws.map fun w => wishD w.1 w.2))] S' = .ok (.p (.tuple (ws.map fun w => wishD w.1 w.2))) S' := fun S' => by
    simp only [fTupleOf, lstv]
    rw [mkT_p, if_pos (sizeK (by simp; omega))]
  have had : ∀ S', fAdd true (.p (.list (odd1 ws size))) (.p (.list (odd2 ws size))) S' = .ok (.p (.list (odd1 ws size ++ odd2 ws size))) S' := fun S' => fAdd_ll (sizeK (by simp [odd1, odd2]))
  have ho : (PyData.list [.list (List.replicate 12 (wishD "above" (flatL size))), .list (List.replicate 13 (wishD "above" (flatL size))), .tuple (ws.map fun w => wishD w.1 w.2), .str "none"]) = .list (odd2 ws size) := rfl
  unfold ls7
  simp -implicitDefEqProofs only [mAsg_app, mLst_app, mTup_app, aCons_app, mC_app, bind_ok, mBin_app, mCall_app, aNil_app, mkL_1, mVar_app, List.getElem?_cons_zero, List.getElem?_cons_succ, h12, h13, hft, mkL_4, ho, had, eS_ok, bName_app, List.set, asgR_ok]
theorem ls8_ok {boxes : List Str} {parts : List (Str × List Rw)} (hp : parts.length ≤ 6) : ls8 [e0, e1, e2, some (.p (prog boxes parts)), e4, e5, e6, e7, e8, e9, e10, e11, e12, e13, e14] S = .nx [e0, e1, e2, some (.p (prog boxes parts)), e4, e5, e6, e7, e8, some (.p (.list ((parts.map (·.1)).map .str))), e10, e11, e12, e13, e14] S := by
  have hfx : ∀ S', fIx (.p (prog boxes parts)) (.p (.int 1)) S' = .ok (.p (.list (parts.map fun p => partD p.1 (p.2.map Rw.d)))) S' := fun S' => by simp [prog_eq]
  have hlc : mLc true (iAny (mBin fIx (mVar 3) (mC (.p (.int 1))))) (bTup 2 (bsCons (bName 10) (bsCons (bName 11) bsNil))) tYesM (mVar 10) [10, 11] [e0, e1, e2, some (.p (prog boxes parts)), e4, e5, e6, e7, e8, e9, e10, e11, e12, e13, e14] S = .ok (.p (.list ((parts.map (·.1)).map .str))) S := by
    have := mLc_map (f := fun d => match d with
        | .tuple (x :: _) => x
        | _ => .none) (m := mBin fIx (mVar 3) (mC (.p (.int 1)))) (bd := bTup 2 (bsCons (bName 10) (bsCons (bName 11) bsNil))) (tt := tYesM) (te := mVar 10) (vs := [10, 11]) (env := [e0, e1, e2, some (.p (prog boxes parts)), e4, e5, e6, e7, e8, e9, e10, e11, e12, e13, e14]) (S := S)
      (d := .list (parts.map fun p => partD p.1 (p.2.map Rw.d))) (items := parts.map fun p => partD p.1 (p.2.map Rw.d)) (by simp [hfx]) rfl (fun d hd => by
        obtain ⟨q, hq, rfl⟩ := List.mem_map.mp hd
        exact ⟨_, by rw [partD, bTup_p, if_pos (by rfl)]; rfl, rfl, by simp [wipeE, partD]⟩) (sizeK (by simp; omega))
    rw [this, List.map_map, List.map_map]; rfl
  unfold ls8
  simp -implicitDefEqProofs only [mAsg_app, hlc, eS_ok, bName_app, List.set, asgR_ok]
end
end K58


set_option Elab.async false
set_option linter.all false
set_option autoImplicit false
set_option maxRecDepth 100000
set_option maxHeartbeats 4000000
/-! k58's mathematics 28: a cell, the law. -/
namespace K58
open PySem PySem.Spec PyProof.Rows L2 Z
/-- a name handed in -/
def NmOk (names : List Str) (d : PyData) : Prop := (∃ i, Nm names d i) ∧ Sm 2 178 d
/-- wishes handed in -/
def WdOk (n : Nat) (d : PyData) : Prop := ∃ o, Wd n d o
theorem nm_mem {names : List Str} {s : Str} (h : s ∈ names) : ∃ i, Nm names (.str s) i := by
  obtain ⟨j, hj, e⟩ := List.getElem_of_mem h
  cases j with
  | zero => exact ⟨_, .first (by rw [List.getElem?_eq_getElem hj, e])⟩
  | succ j => exact ⟨_, .at (i := j) (by rw [List.getElem?_eq_getElem hj, e])⟩
theorem NmOk.mem {names : List Str} {s : Str} (hn : ∀ s ∈ names, nameOk s) (h : s ∈ names) : NmOk names (.str s) := ⟨nm_mem h, (Sm.name (k := 2) (hn s h)).mono⟩
section
variable {e0 e1 e2 e3 e4 e5 e6 e7 e8 e9 e10 e11 e12 e13 e14 : Option RV} {n : Nat} {S : Store}
theorem last_ix {names : List Str} (h : names ≠ []) : fIx (.p (.list (names.map .str))) (.p (.int (-1))) S = .ok (.p (.str (names.getLast h))) S := by
  rw [fIx_l, atI_map]
  have : atI names (-1) = some (names.getLast h) := by
    conv => lhs; rw [← List.dropLast_concat_getLast h]
    exact atI_last
  rw [this]; rfl
/-- the menu of names -/
theorem ls9_ok {names : List Str} (h : PlAt n S) (hne : names ≠ []) (hl : names.length ≤ 6) (hn : ∀ s ∈ names, nameOk s) (hno : ("nobody" : Str) ∉ names) : ∃ (menu : List PyData) (S' : Store), menu.length = 6 ∧ (∀ d ∈ menu, NmOk names d) ∧ Sp n S S' ∧
    ls9 [e0, e1, some (.loc n), e3, e4, e5, e6, e7, e8, some (.p (.list (names.map .str))), e10, e11, e12, e13, e14] S = .nx [e0, e1, some (.loc n), e3, e4, e5, e6, e7, e8, some (.p (.list (names.map .str))), e10, e11, some (.p (.list menu)), e13, e14] S' := by
  have hpos : 0 < names.length := List.length_pos_iff.mpr hne
  obtain ⟨d, a, s, d0, d1, ha, hs, ht⟩ := take_ok (many := names.length) h (by omega) (by omega)
  obtain ⟨v, hv, hx⟩ := strs_draw (vs := names) (S := S.set n (poolC a s)) d0 d1
  have hfirst : ∃ f ∈ names, ∀ S', fIx (.p (.list (names.map .str))) (.p (.int 0)) S' = .ok (.p (.str f)) S' := by
    cases names with
    | nil => exact absurd rfl hne
    | cons f names => exact ⟨f, List.mem_cons_self .., fun S' => by simp⟩
  obtain ⟨f, hf, hx0⟩ := hfirst
  have hlast : ∀ S', fIx (.p (.list (names.map .str))) (.p (.int (-1))) S' = _ := fun S' => last_ix (S := S') hne
  have hlm := List.getLast_mem hne
  generalize names.getLast hne = la at hlast hlm
  refine ⟨[.str la, .str v, .str "nobody", .none, .str f, .list [.str la]], S.set n (poolC a s), rfl, ?_, ⟨a, s, [], ha, hs, by simp⟩, ?_⟩
  · intro x hx
    simp only [List.mem_cons, List.not_mem_nil, or_false] at hx
    rcases hx with rfl | rfl | rfl | rfl | rfl | rfl
    · exact NmOk.mem hn hlm
    · exact NmOk.mem hn hv
    · exact ⟨⟨_, .no hno⟩, wd (by simp) (by omega)⟩
    · exact ⟨⟨_, .non⟩, Sm.non⟩
    · exact NmOk.mem hn hf
    · exact ⟨⟨_, .lst⟩, (Sm.list1 (k := 1) (W := 100) (M := 178) ((Sm.name (k := 1) (hn la hlm)).mono))⟩
  · unfold ls9
    simp -implicitDefEqProofs only [mAsg_app, mLst_app, aCons_app, mBin_app, mVar_app, List.getElem?_cons_zero, List.getElem?_cons_succ, bind_ok, mUn_app, mC_app, fNeg_i, hlast, mCall_app, aNil_app, fLen_l, List.length_map, ht, hx, hx0, mkL_1, mkL_6, eS_ok, bName_app, List.set, asgR_ok]
theorem ls10_ok {menu : List PyData} {Q : PyData → Prop} (h : PlAt n S) (hl : menu.length = 6) (hq : ∀ d ∈ menu, Q d) : ∃ (d : PyData) (S' : Store), Q d ∧ Sp n S S' ∧
    ls10 [e0, e1, some (.loc n), e3, e4, e5, e6, e7, e8, e9, e10, e11, some (.p (.list menu)), e13, e14] S = .nx [e0, e1, some (.loc n), e3, e4, e5, e6, e7, e8, e9, some (.p d), e11, some (.p (.list menu)), e13, e14] S' := by
  obtain ⟨d, a, s, d0, d1, ha, hs, ht⟩ := take_ok (many := 6) h (by omega) (by omega)
  obtain ⟨v, hv, hx⟩ := atI_draw (ds := menu) d0 (by omega)
  refine ⟨v, S.set n (poolC a s), hq v hv, ⟨a, s, [], ha, hs, by simp⟩, ?_⟩
  have hfx : fIx (.p (.list menu)) (.p (.int d)) (S.set n (poolC a s)) = .ok (.p v) (S.set n (poolC a s)) := by rw [fIx_l, hx]
  unfold ls10
  simp -implicitDefEqProofs only [mAsg_app, mBin_app, mVar_app, List.getElem?_cons_zero, List.getElem?_cons_succ, bind_ok, mCall_app, aCons_app, mC_app, aNil_app, ht, hfx, eS_ok, bName_app, List.set, asgR_ok]
theorem flat_ok (size : Nat) : wishOk size "above" (flatL size) ∧ ∀ x ∈ flatL size, x.natAbs ≤ 100 := by
  refine ⟨⟨.inr rfl, by simp [flatL]⟩, ?_⟩
  intro x hx
  rcases List.mem_cons.mp hx with rfl | hx
  · decide
  · rw [(List.mem_replicate.mp hx).2]; decide
theorem flats_map {size k : Nat} : List.replicate k (wishD "above" (flatL size)) = (List.replicate k (flatW size)).map fun w => wishD w.1 w.2 := by
  rw [List.map_replicate]; rfl
theorem odd_ok {ws : List (Str × List Int)} {size : Nat} (hs : size ≤ 10) (hl : ws.length ≤ 4) (hw : WsOk size ws) : ∀ d ∈ odd1 ws size ++ odd2 ws size, WdOk size d := by
  have fl : ∀ k, ∀ w ∈ List.replicate k (flatW size), wishOk size w.1 w.2 ∧ ∀ x ∈ w.2, x.natAbs ≤ 100 := fun k w hw => by
    rw [(List.mem_replicate.mp hw).2]; exact flat_ok size
  have hshort : Sm 2 178 (wishD "least" (List.replicate size 0)) := wish_Sm (.inl rfl) (by simp; omega) fun x hx => by rw [(List.mem_replicate.mp hx).2]; decide
  have hlst : Sm 2 178 (.tuple [.str "least", .list (List.replicate (size + 1) (.int 0))]) := by
    have h1 : Sm 1 88 (.list (List.replicate (size + 1) (.int 0))) := Sm.list (n := 11) (W := 7) (fun d hd => by rw [(List.mem_replicate.mp hd).2]; exact Sm.int (by decide)) (by simp; omega)
    exact Sm.tuple2 (lw (.inl rfl)) h1
  intro d hd
  simp only [odd1, odd2, List.mem_append, List.mem_cons, List.not_mem_nil, or_false] at hd
  rcases hd with (rfl | rfl | rfl | rfl | rfl) | (rfl | rfl | rfl | rfl)
  · exact ⟨_, .non⟩
  · exact ⟨_, .tup (by simp) (by simp)⟩
  · exact ⟨_, .odd hl hw .non Sm.non⟩
  · exact ⟨_, .odd hl hw (.short (.inl rfl) (by simp) (by simp; omega)) hshort⟩
  · exact ⟨_, .odd (ws := []) (by simp) (fun w h => by cases h) (.lst (.inl rfl)) hlst⟩
  · rw [flats_map]; exact ⟨_, .good (by simp) (fl 12)⟩
  · rw [flats_map]; exact ⟨_, .many (by simp) (fl 13)⟩
  · refine ⟨_, .tup (fun d hd => ?_) (by simpa using hl)⟩
    obtain ⟨w, hw', rfl⟩ := List.mem_map.mp hd
    have := hw w hw'
    exact wish_Sm this.1.1 (by have := this.1.2; omega) this.2
  · exact ⟨_, .str⟩
theorem right_ok {boxes : List Str} {parts : List (Str × List Rw)} {name wishes : PyData} (P : Prg boxes parts) (hn : NmOk (parts.map (·.1)) name) (hw : WdOk (2 * boxes.length) wishes) : ∃ X, sp__law_right [.p (prog boxes parts), .p name, .p wishes] S = .ok (.p (.bool true)) (S ++ X) := by
  obtain ⟨⟨i, hn⟩, hsn⟩ := hn
  obtain ⟨o, hw⟩ := hw
  by_cases h : 4 < boxes.length ∨ 5 < parts.length ∨ i = none ∨ o = none
  · exact right_no P hn hw hsn h
  · have hb : boxes.length ≤ 4 := by
      by_cases q : 4 < boxes.length
      · exact absurd (.inl q) h
      · omega
    have hp : parts.length ≤ 5 := by
      by_cases q : 5 < parts.length
      · exact absurd (.inr (.inl q)) h
      · omega
    cases i with
    | none => exact absurd (.inr (.inr (.inl rfl))) h
    | some i =>
      cases o with
      | none => exact absurd (.inr (.inr (.inr rfl))) h
      | some ws =>
        cases hn with
        | «at» hn =>
          cases hw with
          | good hl hw => exact right_yes P hb hp hn hl hw
noncomputable def rgB : MS := (mSeq (mIfS (mNot (mTst (mCall sp__law_right (aCons (mVar 3) (aCons (mVar 13) (aCons (mVar 14) aNil)))))) (mSeq (mRet (mC (.p (.bool false))))
  mNext) mNext)
  mNext)
theorem rg_loop {boxes : List Str} {parts : List (Str × List Rw)} {its : List (PyData × PyData)} (P : Prg boxes parts) (hi : ∀ q ∈ its, NmOk (parts.map (·.1)) q.1 ∧ WdOk (2 * boxes.length) q.2) : ∃ y13 y14 X,
    runFor (bTup 2 (bsCons (bName 13) (bsCons (bName 14) bsNil))) rgB (fun _ => true) (((its.map fun q => PyData.tuple [q.1, q.2]).map RV.p).map Item.one) [e0, e1, e2, some (.p (prog boxes parts)), e4, e5, e6, e7, e8, e9, e10, e11, e12, e13, e14] S =
      .nx [e0, e1, e2, some (.p (prog boxes parts)), e4, e5, e6, e7, e8, e9, e10, e11, e12, y13, y14] (S ++ X) := by
  obtain ⟨e', S', h, y13, y14, X, he, hS⟩ := runFor_inv (b := bTup 2 (bsCons (bName 13) (bsCons (bName 14) bsNil))) (body := rgB) (items := ((its.map fun q => PyData.tuple [q.1, q.2]).map RV.p).map Item.one)
    (fun j env S' => ∃ y13 y14 X, env = [e0, e1, e2, some (.p (prog boxes parts)), e4, e5, e6, e7, e8, e9, e10, e11, e12, y13, y14] ∧ S' = S ++ X)
    (fun j it env S' hit ⟨y13, y14, X, he, hS⟩ => by
      subst he hS
      obtain ⟨r, rfl, hr0⟩ := get_one hit
      rw [List.getElem?_map, List.getElem?_map] at hr0
      obtain ⟨d, hd1, rfl⟩ := Option.map_eq_some_iff.mp hr0
      obtain ⟨q, hq, rfl⟩ := Option.map_eq_some_iff.mp hd1
      obtain ⟨h1, h2⟩ := hi q (List.mem_of_getElem? hq)
      obtain ⟨X2, hr⟩ := right_ok (S := S ++ X) P h1 h2
      refine ⟨_, _, [e0, e1, e2, some (.p (prog boxes parts)), e4, e5, e6, e7, e8, e9, e10, e11, e12, some (.p q.1), some (.p q.2)], S ++ X ++ X2, by rw [mkI_one, bTup_p, if_pos (by rfl)]; rfl, .inl ?_, _, _, X ++ X2, rfl, by rw [List.append_assoc]⟩
      unfold rgB
      simp -implicitDefEqProofs only [List.set, mSeq_app, mIfS_app, mNot_app, mTst_app, mCall_app, aCons_app, mVar_app, List.getElem?_cons_zero, List.getElem?_cons_succ, bind_ok, aNil_app, hr, tstR_b, Bool.not_true, eS_ok, Bool.false_eq_true, if_false, mNext_app, seqR_nx])
    (env := [e0, e1, e2, some (.p (prog boxes parts)), e4, e5, e6, e7, e8, e9, e10, e11, e12, e13, e14]) (S := S) ⟨_, _, [], rfl, by simp⟩
  exact ⟨y13, y14, X, by rw [h, he, hS]⟩
theorem ls11_ok {boxes : List Str} {parts : List (Str × List Rw)} {name wishes : PyData} {odd : List PyData} (h : PlAt n S) (P : Prg boxes parts) (hne : parts.map (·.1) ≠ []) (hn : NmOk (parts.map (·.1)) name) (hw : WdOk (2 * boxes.length) wishes) (hol : odd.length = 9) (ho : ∀ d ∈ odd, WdOk (2 * boxes.length) d) : ∃ y13 y14 S', Sp n S S' ∧
    ls11 [e0, e1, some (.loc n), some (.p (prog boxes parts)), e4, some (.p wishes), e6, e7, some (.p (.list odd)), some (.p (.list ((parts.map (·.1)).map .str))), some (.p name), e11, e12, e13, e14] S =
      .nx [e0, e1, some (.loc n), some (.p (prog boxes parts)), e4, some (.p wishes), e6, e7, some (.p (.list odd)), some (.p (.list ((parts.map (·.1)).map .str))), some (.p name), e11, e12, y13, y14] S' := by
  obtain ⟨d, a, s, d0, d1, ha, hs, ht⟩ := take_ok (many := 9) h (by omega) (by omega)
  obtain ⟨v, hv, hx⟩ := atI_draw (ds := odd) d0 (by omega)
  have hfx : fIx (.p (.list odd)) (.p (.int d)) (S.set n (poolC a s)) = .ok (.p v) (S.set n (poolC a s)) := by rw [fIx_l, hx]
  have hlast : ∀ S', fIx (.p (.list ((parts.map (·.1)).map .str))) (.p (.int (-1))) S' = _ := fun S' => last_ix (S := S') hne
  have hlm := List.getLast_mem hne
  generalize (parts.map (·.1)).getLast hne = la at hlast hlm
  have hla : NmOk (parts.map (·.1)) (.str la) := NmOk.mem (fun s hs => by
    obtain ⟨p, hp, rfl⟩ := List.mem_map.mp hs
    exact P.good.pn p hp) hlm
  obtain ⟨y13, y14, X, hr⟩ := rg_loop (e0 := e0) (e1 := e1) (e2 := some (.loc n)) (e4 := e4) (e5 := some (.p wishes)) (e6 := e6) (e7 := e7) (e8 := some (.p (.list odd))) (e9 := some (.p (.list ((parts.map (·.1)).map .str)))) (e10 := some (.p name)) (e11 := e11) (e12 := e12) (e13 := e13) (e14 := e14) (S := S.set n (poolC a s)) (its := [(.str la, wishes), (name, wishes), (name, v)]) P (fun q hq => by
    simp only [List.mem_cons, List.not_mem_nil, or_false] at hq
    rcases hq with rfl | rfl | rfl
    · exact ⟨hla, hw⟩
    · exact ⟨hn, hw⟩
    · exact ⟨hn, ho v hv⟩)
  refine ⟨y13, y14, S.set n (poolC a s) ++ X, ⟨a, s, X, ha, hs, rfl⟩, ?_⟩
  have hia : ∀ env, env = [e0, e1, some (.loc n), some (.p (prog boxes parts)), e4, some (.p wishes), e6, e7, some (.p (.list odd)), some (.p (.list ((parts.map (·.1)).map .str))), some (.p name), e11, e12, e13, e14] →
      iAny (mLst true (aCons (mTup (aCons (mBin fIx (mVar 9) (mUn fNeg (mC (.p (.int 1))))) (aCons (mVar 5) aNil))) (aCons (mTup (aCons (mVar 10) (aCons (mVar 5) aNil))) (aCons (mTup (aCons (mVar 10) (aCons (mBin fIx (mVar 8) (mCall sp__law_take (aCons (mVar 2) (aCons (mC (.p (.int 9))) aNil)))) aNil))) aNil)))) env S = .ok ((([(PyData.str la, wishes), (name, wishes), (name, v)].map fun q => PyData.tuple [q.1, q.2]).map RV.p).map Item.one, fun _ => true) (S.set n (poolC a s)) := by
    rintro env rfl
    simp -implicitDefEqProofs only [iAny, mLst_app, mTup_app, aCons_app, mBin_app, mVar_app, List.getElem?_cons_zero, List.getElem?_cons_succ, bind_ok, mUn_app, mC_app, fNeg_i, hlast, aNil_app, mkT_2, mCall_app, ht, hfx, mkL_3, List.map_cons, List.map_nil]
  unfold rgB at hr
  unfold ls11
  simp -implicitDefEqProofs only [mFor_app, hia _ rfl, eS_ok, hr]
end
theorem lawB_ok {ns : List Int} {k : Nat} {S : Store} {e2 e3 e4 e5 e6 e7 e8 e9 e10 e11 e12 e13 e14 : Option RV} (hk : k ≤ 1000) : ∃ y2 y3 y4 y5 y6 y7 y8 y9 y10 y11 y12 y13 y14 S',
    lawB [some (.scr ns), some (.p (.int k)), e2, e3, e4, e5, e6, e7, e8, e9, e10, e11, e12, e13, e14] S = .nx [some (.scr ns), some (.p (.int k)), y2, y3, y4, y5, y6, y7, y8, y9, y10, y11, y12, y13, y14] S' := by
  obtain ⟨a, s, ha, hs, h0⟩ := ls0_ok (ns := ns) (S := S) (e2 := e2) (e3 := e3) (e4 := e4) (e5 := e5) (e6 := e6) (e7 := e7) (e8 := e8) (e9 := e9) (e10 := e10) (e11 := e11) (e12 := e12) (e13 := e13) (e14 := e14) hk
  have p1 : PlAt S.length (S ++ [poolC a s]) := ⟨a, s, ha, hs, by simp⟩
  generalize S ++ [poolC a s] = S1 at h0 p1
  generalize S.length = n at h0 p1
  obtain ⟨boxes0, parts0, S2, P0, hb0, hpre, sp1, h1⟩ := ls1_ok (e0 := some (.scr ns)) (e1 := some (.p (.int k))) (e3 := e3) (e4 := e4) (e5 := e5) (e6 := e6) (e7 := e7) (e8 := e8) (e9 := e9) (e10 := e10) (e11 := e11) (e12 := e12) (e13 := e13) (e14 := e14) p1
  have p2 := sp1.at p1.lt
  obtain ⟨boxes, parts, S3, P, hnm, sp2, h2⟩ := ls2_ok (e0 := some (.scr ns)) (e1 := some (.p (.int k))) (e4 := e4) (e5 := e5) (e6 := e6) (e7 := e7) (e8 := e8) (e9 := e9) (e10 := e10) (e11 := e11) (e12 := e12) (e13 := e13) (e14 := e14) p2 P0 hb0
  have p3 := sp2.at p2.lt
  have hb5 := P.b5
  have h3 := ls3_ok (e0 := some (.scr ns)) (e1 := some (.p (.int k))) (e2 := some (.loc n)) (e4 := e4) (e5 := e5) (e6 := e6) (e7 := e7) (e8 := e8) (e9 := e9) (e10 := e10) (e11 := e11) (e12 := e12) (e13 := e13) (e14 := e14) (S := S3) (boxes := boxes) (parts := parts) (by omega)
  obtain ⟨ws, S4, hwl, hws, sp4, h4⟩ := ls4_ok (e0 := some (.scr ns)) (e1 := some (.p (.int k))) (e3 := some (.p (prog boxes parts))) (e5 := e5) (e6 := e6) (e7 := e7) (e8 := e8) (e9 := e9) (e10 := e10) (e11 := e11) (e12 := e12) (e13 := e13) (e14 := e14) (size := 2 * boxes.length) p3 (by omega)
  have p4 := sp4.at p3.lt
  have h5 := ls5_ok (e0 := some (.scr ns)) (e1 := some (.p (.int k))) (e2 := some (.loc n)) (e3 := some (.p (prog boxes parts))) (e5 := some (.p (.list (ws.map fun w => wishD w.1 w.2)))) (e6 := e6) (e7 := e7) (e8 := e8) (e9 := e9) (e10 := e10) (e11 := e11) (e12 := e12) (e13 := e13) (e14 := e14) (S := S4) (size := 2 * boxes.length) (by omega)
  have h6 := ls6_ok (e0 := some (.scr ns)) (e1 := some (.p (.int k))) (e2 := some (.loc n)) (e3 := some (.p (prog boxes parts))) (e6 := e6) (e7 := some (.p (wishD "above" (flatL (2 * boxes.length))))) (e8 := e8) (e9 := e9) (e10 := e10) (e11 := e11) (e12 := e12) (e13 := e13) (e14 := e14) (S := S4) (ws := ws) (size := 2 * boxes.length) (by omega) hwl
  have h7 := ls7_ok (e0 := some (.scr ns)) (e1 := some (.p (.int k))) (e2 := some (.loc n)) (e3 := some (.p (prog boxes parts))) (e6 := e6) (e9 := e9) (e10 := e10) (e11 := e11) (e12 := e12) (e13 := e13) (e14 := e14) (S := S4) (ws := ws) (size := 2 * boxes.length) (by omega) hwl
  have hol : (odd1 ws (2 * boxes.length) ++ odd2 ws (2 * boxes.length)).length = 9 := rfl
  have hodd := odd_ok (ws := ws) (size := 2 * boxes.length) (by omega) hwl hws
  generalize odd1 ws (2 * boxes.length) ++ odd2 ws (2 * boxes.length) = odd at h7 hol hodd
  have h8 := ls8_ok (e0 := some (.scr ns)) (e1 := some (.p (.int k))) (e2 := some (.loc n)) (e4 := some (.p (.int ((2 * boxes.length : Nat) : Int)))) (e5 := some (.p (.list (ws.map fun w => wishD w.1 w.2)))) (e6 := e6) (e7 := some (.p (wishD "above" (flatL (2 * boxes.length))))) (e8 := some (.p (.list odd))) (e9 := e9) (e10 := e10) (e11 := e11) (e12 := e12) (e13 := e13) (e14 := e14) (S := S4) (boxes := boxes) (parts := parts) P.good.p2
  have hne : parts.map (·.1) ≠ [] := fun z => by
    have := P.good.p1
    rw [List.map_eq_nil_iff] at z; rw [z] at this; simp at this
  have hnn : ∀ s ∈ parts.map (·.1), nameOk s := fun s hs => by
    obtain ⟨p, hp, rfl⟩ := List.mem_map.mp hs
    exact P.good.pn p hp
  have hno : ("nobody" : Str) ∉ parts.map (·.1) := fun z => by
    rw [hnm] at z
    exact (show ("nobody" : Str) ∉ ptN by decide +kernel) (hpre.subset z)
  obtain ⟨menu, S5, hml, hmq, sp5, h9⟩ := ls9_ok (e0 := some (.scr ns)) (e1 := some (.p (.int k))) (e3 := some (.p (prog boxes parts))) (e4 := some (.p (.int ((2 * boxes.length : Nat) : Int)))) (e5 := some (.p (.list (ws.map fun w => wishD w.1 w.2)))) (e6 := e6) (e7 := some (.p (wishD "above" (flatL (2 * boxes.length))))) (e8 := some (.p (.list odd))) (e10 := e10) (e11 := e11) (e12 := e12) (e13 := e13) (e14 := e14) p4 hne (by have := P.good.p2; simpa using this) hnn hno
  have p5 := sp5.at p4.lt
  obtain ⟨name, S6, hname, sp6, h10⟩ := ls10_ok (e0 := some (.scr ns)) (e1 := some (.p (.int k))) (e3 := some (.p (prog boxes parts))) (e4 := some (.p (.int ((2 * boxes.length : Nat) : Int)))) (e5 := some (.p (.list (ws.map fun w => wishD w.1 w.2)))) (e6 := e6) (e7 := some (.p (wishD "above" (flatL (2 * boxes.length))))) (e8 := some (.p (.list odd))) (e9 := some (.p (.list ((parts.map (·.1)).map .str)))) (e10 := e10) (e11 := e11) (e13 := e13) (e14 := e14) p5 hml hmq
  have p6 := sp6.at p5.lt
  obtain ⟨y13, y14, S7, sp7, h11⟩ := ls11_ok (e0 := some (.scr ns)) (e1 := some (.p (.int k))) (e4 := some (.p (.int ((2 * boxes.length : Nat) : Int)))) (e6 := e6) (e7 := some (.p (wishD "above" (flatL (2 * boxes.length))))) (e11 := e11) (e12 := some (.p (.list menu))) (e13 := e13) (e14 := e14) p6 P hne hname ⟨_, .good (by omega) hws⟩ hol hodd
  refine ⟨some (.loc n), some (.p (prog boxes parts)), some (.p (.int ((2 * boxes.length : Nat) : Int))), some (.p (.list (ws.map fun w => wishD w.1 w.2))), e6, some (.p (wishD "above" (flatL (2 * boxes.length)))), some (.p (.list odd)), some (.p (.list ((parts.map (·.1)).map .str))), some (.p name), e11, some (.p (.list menu)), y13, y14, S7, ?_⟩
  unfold lawB
  simp -implicitDefEqProofs only [mSeq_app, h0, seqR_nx, h1, h2, h3, h4, h5, h6, h7, h8, h9, h10, h11, mNext_app]
end K58


set_option Elab.async false
set_option linter.all false
set_option autoImplicit false
set_option maxRecDepth 100000
set_option maxHeartbeats 4000000
/-! k58's law. -/
namespace K58
open PySem PySem.Spec PyProof.Rows L2 Z
theorem law_ok (ns : List Int) (h : ns.length ≤ 63) : ∃ S', sp_law [.scr ns] [] = .ok (.p (.bool true)) S' := by
  have hcnt : ∀ S, fMx false [.p (.int ns.length), .p (.int 10)] S = _ := fun S => fMx_f
  generalize hm : (if (10 : Int) < ns.length then (10 : Int) else ns.length) = m at hcnt
  have hm0 : 0 ≤ m ∧ m ≤ 10 := by rw [← hm]; split <;> omega
  have hcnt2 : ∀ S, fMx true [.p (.int 1), .p (.int m)] S = _ := fun S => fMx_t
  generalize hm2 : (if m > (1 : Int) then m else 1) = c at hcnt2
  have hc : 1 ≤ c ∧ c ≤ 10 := by rw [← hm2]; split <;> omega
  obtain ⟨e', S', hl, y⟩ := runFor_inv (b := bName 1) (body := lawB) (items := rng 0 c.toNat)
    (fun j env S' => ∃ x1 y2 y3 y4 y5 y6 y7 y8 y9 y10 y11 y12 y13 y14, env = [some (.scr ns), x1, y2, y3, y4, y5, y6, y7, y8, y9, y10, y11, y12, y13, y14])
    (fun j it env S' hit ⟨x1, y2, y3, y4, y5, y6, y7, y8, y9, y10, y11, y12, y13, y14, he⟩ => by
      subst he
      have hj : j < c.toNat := by have := (List.getElem?_eq_some_iff.mp hit).1; simpa [rng_len] using this
      have hit2 : it = .one (.p (.int (j : Int))) := by
        have : (rng 0 c.toNat)[j]? = some (.one (.p (.int (0 + (j : Int))))) := by simp [rng, hj]
        rw [hit] at this
        rw [Option.some.inj this, Int.zero_add]
      subst hit2
      obtain ⟨z2, z3, z4, z5, z6, z7, z8, z9, z10, z11, z12, z13, z14, S2, hB⟩ := lawB_ok (ns := ns) (k := j) (S := S') (e2 := y2) (e3 := y3) (e4 := y4) (e5 := y5) (e6 := y6) (e7 := y7) (e8 := y8) (e9 := y9) (e10 := y10) (e11 := y11) (e12 := y12) (e13 := y13) (e14 := y14) (by omega)
      exact ⟨_, _, _, S2, by rw [mkI_one, bName_app]; rfl, .inl hB, _, _, _, _, _, _, _, _, _, _, _, _, _, _, rfl⟩)
    (env := [some (.scr ns), none, none, none, none, none, none, none, none, none, none, none, none, none, none]) (S := []) ⟨_, _, _, _, _, _, _, _, _, _, _, _, _, _, rfl⟩
  obtain ⟨x1, y2, y3, y4, y5, y6, y7, y8, y9, y10, y11, y12, y13, y14, he⟩ := y
  refine ⟨S', ?_⟩
  have hr := iRange1_ok (m := mCall (fMx true) (aCons (mC (.p (.int 1))) (aCons (mCall (fMx false) (aCons (mCall fLen (aCons (mVar 0) aNil)) (aCons (mC (.p (.int 10))) aNil))) aNil))) (env := [some (.scr ns), none, none, none, none, none, none, none, none, none, none, none, none, none, none]) (S := []) (S1 := []) (j := c) (by
    simp -implicitDefEqProofs only [mCall_app, aCons_app, mC_app, mVar_app, List.getElem?_cons_zero, bind_ok, aNil_app, fLen_scr, hcnt, hcnt2]) (by omega) (by omega)
  unfold lawB ls0 ls1 ls2 ls3 ls4 ls5 ls6 ls7 ls8 ls9 ls10 ls11 at hl
  unfold sp_law mf_law mDef b_law
  simp -implicitDefEqProofs only [List.length_cons, List.length_nil, Nat.zero_add, if_true, List.cons_append, List.nil_append, List.replicate, List.map_cons, List.map_nil, mSeq_app, mIfS_app, mOr_app, mNot_app, mTst_app, mCall_app, aCons_app, mC_app, bind_ok, aNil_app, no_program_1, mTup_app, mLst_app, mkL_0, mkT_2, no_program_2, tstR_b, Bool.not_true, Bool.false_eq_true, if_false, eS_ok, mNext_app, seqR_nx, mFor_app, hr, hl, mRet_app, seqR_rt, fin_rt]
end K58


set_option Elab.async false
set_option linter.all false
set_option autoImplicit false
set_option maxRecDepth 100000
set_option maxHeartbeats 4000000
/-! the facts of the text, the derivations -/
namespace K58
open PySem PySem.Spec PyProof.Rows L2 Z
def top (i : Nat) : Stmt := PySem.Challenge.pw_coveredtree_k58_programs_framed.main.body.getD i (.Pass ⟨0, 0, 0, 0⟩)
structure Tx (g : Gd) : Prop where
  f_all : g.mg "all" = none
  f_bool : g.mg "bool" = none
  f_enumerate : g.mg "enumerate" = none
  f_int : g.mg "int" = none
  f_isinstance : g.mg "isinstance" = none
  f_len : g.mg "len" = none
  f_list : g.mg "list" = none
  f_max : g.mg "max" = none
  f_min : g.mg "min" = none
  f_range : g.mg "range" = none
  f_repr : g.mg "repr" = none
  f_str : g.mg "str" = none
  f_tuple : g.mg "tuple" = none
  g_NoPart : g.mg "NoPart" = some (.ref (g.adr 3))
  g_NoProgram : g.mg "NoProgram" = some (.ref (g.adr 1))
  g_NoWishes : g.mg "NoWishes" = some (.ref (g.adr 2))
  g_TooMany : g.mg "TooMany" = some (.ref (g.adr 4))
  g_TreeError : g.mg "TreeError" = some (.ref (g.adr 0))
  m_LETTERS : ∃ t, g.mg "LETTERS" = some (.str "abcdefghijklmnopqrstuvwxyz" t)
  m_MOST_BOXES : ∃ t, g.mg "MOST_BOXES" = some (.int 8 t)
  m_MOST_CALL_WISHES : ∃ t, g.mg "MOST_CALL_WISHES" = some (.int 12 t)
  m_MOST_FRAMED_BOXES : ∃ t, g.mg "MOST_FRAMED_BOXES" = some (.int 4 t)
  m_MOST_FRAMED_PARTS : ∃ t, g.mg "MOST_FRAMED_PARTS" = some (.int 5 t)
  m_MOST_LETTERS : ∃ t, g.mg "MOST_LETTERS" = some (.int 6 t)
  m_MOST_PARTS : ∃ t, g.mg "MOST_PARTS" = some (.int 6 t)
  m_MOST_ROADS : ∃ t, g.mg "MOST_ROADS" = some (.int 4 t)
  m_MOST_ROWS : ∃ t, g.mg "MOST_ROWS" = some (.int 24 t)
  m_WORDS : ∃ a, g.mg "WORDS" = some (.ref a) ∧ ∀ F : Hp, Rp g.K F (.ref a) (PyData.tuple [(PyData.str "least"), (PyData.str "above")])
  v_is_name : g.mg "is_name" = some (.ref (g.adr 100))
  v_is_part : g.mg "is_part" = some (.ref (g.adr 101))
  x_NoPart : ExcZ g "NoPart" 3 nKE ["name"]
  x_NoProgram : ExcZ g "NoProgram" 1 nVE ["part", "number", "row"]
  x_NoWishes : ExcZ0 g "NoWishes" 2
  x_TooMany : ExcZ g "TooMany" 4 nOE ["many"]
  ex_NoPart : ∀ c b, tst_NoPart c = some b → PySem.W.exmOne g.K (.ref (g.adr c)) (.ref (g.adr 3)) = some b
  is_NoPart : ∀ c b, tst_NoPart c = some b → AskZ g.K (g.adr c) ∧ PySem.W.kitOne g.K (.ref (g.adr c)) (.ref (g.adr 3)) = some b
  ex_NoProgram : ∀ c b, tst_NoProgram c = some b → PySem.W.exmOne g.K (.ref (g.adr c)) (.ref (g.adr 1)) = some b
  is_NoProgram : ∀ c b, tst_NoProgram c = some b → AskZ g.K (g.adr c) ∧ PySem.W.kitOne g.K (.ref (g.adr c)) (.ref (g.adr 1)) = some b
  ex_NoWishes : ∀ c b, tst_NoWishes c = some b → PySem.W.exmOne g.K (.ref (g.adr c)) (.ref (g.adr 2)) = some b
  is_NoWishes : ∀ c b, tst_NoWishes c = some b → AskZ g.K (g.adr c) ∧ PySem.W.kitOne g.K (.ref (g.adr c)) (.ref (g.adr 2)) = some b
  ex_TooMany : ∀ c b, tst_TooMany c = some b → PySem.W.exmOne g.K (.ref (g.adr c)) (.ref (g.adr 4)) = some b
  is_TooMany : ∀ c b, tst_TooMany c = some b → AskZ g.K (g.adr c) ∧ PySem.W.kitOne g.K (.ref (g.adr c)) (.ref (g.adr 4)) = some b
  ex_TreeError : ∀ c b, tst_TreeError c = some b → PySem.W.exmOne g.K (.ref (g.adr c)) (.ref (g.adr 0)) = some b
  is_TreeError : ∀ c b, tst_TreeError c = some b → AskZ g.K (g.adr c) ∧ PySem.W.kitOne g.K (.ref (g.adr c)) (.ref (g.adr 0)) = some b
  ask : ∀ c, c < 5 → AskZ g.K (g.adr c)
  nof : ∀ c, c < 5 → ∀ f ∈ (["many", "name", "number", "part", "row"] : List Str), PySem.W.findIn g.K (.ref (g.adr c)) f = some none
theorem dv_is_whole {g : Gd} (T : Tx g) : SSs (cxt g N_is_whole (defScope (top 7)) 0) (defBody (top 7)) b_is_whole :=
  (sss_cons (ss_ret (se_and (se_isi se_var (se_T (T := "int") T.f_int (by decide +kernel)) T.f_isinstance) (se_one (se_not (se_isi se_var (se_T (T := "bool") T.f_bool (by decide +kernel)) T.f_isinstance)))))
  sss_nil)
theorem sc_is_whole : FnScope N_is_whole ["thing"] (defScope (top 7)) := ⟨rfl, rfl, rfl, by decide +kernel, rfl, by decide +kernel, by decide +kernel⟩
theorem dv_is_line {g : Gd} (T : Tx g) (D_is_whole : DefZ g "is_whole" 1 sp_is_whole) : SSs (cxt g N_is_line (defScope (top 10)) 1) (defBody (top 10)) b_is_line :=
  (sss_cons (ss_ret (se_and (se_isi se_var (se_T (T := "tuple") T.f_tuple (by decide +kernel)) T.f_isinstance) (se_and (se_eq 8 (se_len se_var T.f_len) (se_add true se_var se_int)) (se_one (se_all (se_lc (own := [("number", 2)]) true (by rfl) (by rfl) (si_any se_var) (by show BlkOk N_is_line (defScope (top 10)) _ _; exact ⟨rfl, by decide +kernel, by decide +kernel, by decide +kernel, by decide +kernel⟩) sg_name (by decide) sts_nil (se_call D_is_whole (sa_cons se_var sa_nil))) T.f_all)))))
  sss_nil)
theorem sc_is_line : FnScope N_is_line ["many", "thing"] (defScope (top 10)) := ⟨rfl, rfl, rfl, by decide +kernel, rfl, by decide +kernel, by decide +kernel⟩
theorem dv_is_wish {g : Gd} (T : Tx g) (D_is_line : DefZ g "is_line" 2 sp_is_line) : SSs (cxt g N_is_wish (defScope (top 11)) 2) (defBody (top 11)) b_is_wish :=
  (sss_cons (ss_if (SW.st (sw_or (st_not (st_val (se_isi se_var (se_T (T := "tuple") T.f_tuple (by decide +kernel)) T.f_isinstance))) (sw_or (st_ne 8 (se_len se_var T.f_len) se_int) (sw_or1 (st_not (st_val (se_isi (se_ix se_var se_int) (se_T (T := "str") T.f_str (by decide +kernel)) T.f_isinstance))))))) (sss_cons (ss_ret se_bl)
  sss_nil) sss_nil)
  (sss_cons (ss_ret (se_and (se_in (se_ix se_var se_int) (se_gp T.m_WORDS)) (se_one (se_call D_is_line (sa_cons se_var (sa_cons (se_ix se_var se_int) sa_nil))))))
  sss_nil))
theorem sc_is_wish : FnScope N_is_wish ["many", "thing"] (defScope (top 11)) := ⟨rfl, rfl, rfl, by decide +kernel, rfl, by decide +kernel, by decide +kernel⟩
theorem dv_is_name {g : Gd} (T : Tx g) : SSs (cxt g N_is_name (defScope (top 19)) 0) (defBody (top 19)) b_is_name :=
  (sss_cons (ss_if (SW.st (sw_or (st_not (st_val (se_isi se_var (se_T (T := "str") T.f_str (by decide +kernel)) T.f_isinstance))) (sw_or1 (st_not (st_lele se_int (se_len se_var T.f_len) (se_gint T.m_MOST_LETTERS)))))) (sss_cons (ss_ret se_bl)
  sss_nil) sss_nil)
  (sss_cons (ss_ret (se_all (se_lc (own := [("sign", 1)]) true (by rfl) (by rfl) (si_any se_var) (by show BlkOk N_is_name (defScope (top 19)) _ _; exact ⟨rfl, by decide +kernel, by decide +kernel, by decide +kernel, by decide +kernel⟩) sg_name (by decide) sts_nil (se_in se_var (se_gstr T.m_LETTERS))) T.f_all))
  sss_nil))
theorem sc_is_name : FnScope N_is_name ["thing"] (defScope (top 19)) := ⟨rfl, rfl, rfl, by decide +kernel, rfl, by decide +kernel, by decide +kernel⟩
theorem dv_is_row_number {g : Gd} (T : Tx g) (D_is_whole : DefZ g "is_whole" 1 sp_is_whole) : SSs (cxt g N_is_row_number (defScope (top 20)) 1) (defBody (top 20)) b_is_row_number :=
  (sss_cons (ss_ret (se_and (se_call D_is_whole (sa_cons se_var sa_nil)) (se_one (se_lelt se_int se_var se_var))))
  sss_nil)
theorem sc_is_row_number : FnScope N_is_row_number ["many", "thing"] (defScope (top 20)) := ⟨rfl, rfl, rfl, by decide +kernel, rfl, by decide +kernel, by decide +kernel⟩
theorem dv_are_roads {g : Gd} (T : Tx g) (D_is_row_number : DefZ g "is_row_number" 2 sp_is_row_number) : SSs (cxt g N_are_roads (defScope (top 21)) 2) (defBody (top 21)) b_are_roads :=
  (sss_cons (ss_if (SW.st (sw_or (st_not (st_val (se_isi se_var (se_T (T := "tuple") T.f_tuple (by decide +kernel)) T.f_isinstance))) (sw_or1 (st_not (st_lele se_int (se_len se_var T.f_len) (se_gint T.m_MOST_ROADS)))))) (sss_cons (ss_ret se_bl)
  sss_nil) sss_nil)
  (sss_cons (ss_ret (se_all (se_lc (own := [("row", 2)]) true (by rfl) (by rfl) (si_any se_var) (by show BlkOk N_are_roads (defScope (top 21)) _ _; exact ⟨rfl, by decide +kernel, by decide +kernel, by decide +kernel, by decide +kernel⟩) sg_name (by decide) sts_nil (se_call D_is_row_number (sa_cons se_var (sa_cons se_var sa_nil)))) T.f_all))
  sss_nil))
theorem sc_are_roads : FnScope N_are_roads ["many", "thing"] (defScope (top 21)) := ⟨rfl, rfl, rfl, by decide +kernel, rfl, by decide +kernel, by decide +kernel⟩
theorem dv_is_box {g : Gd} (T : Tx g) : SSs (cxt g N_is_box (defScope (top 22)) 0) (defBody (top 22)) b_is_box :=
  (sss_cons (ss_ret (se_and (se_isi se_var (se_T (T := "str") T.f_str (by decide +kernel)) T.f_isinstance) (se_one (se_in se_var se_var))))
  sss_nil)
theorem sc_is_box : FnScope N_is_box ["boxes", "thing"] (defScope (top 22)) := ⟨rfl, rfl, rfl, by decide +kernel, rfl, by decide +kernel, by decide +kernel⟩
theorem dv_is_row {g : Gd} (T : Tx g) (D_is_box : DefZ g "is_box" 1 sp_is_box) (D_is_line : DefZ g "is_line" 2 sp_is_line) (D_is_wish : DefZ g "is_wish" 3 sp_is_wish) (D_is_row_number : DefZ g "is_row_number" 2 sp_is_row_number) (D_are_roads : DefZ g "are_roads" 3 sp_are_roads) : SSs (cxt g N_is_row (defScope (top 23)) 3) (defBody (top 23)) b_is_row :=
  (sss_cons (ss_if (SW.st (sw_or (st_not (st_val (se_isi se_var (se_T (T := "tuple") T.f_tuple (by decide +kernel)) T.f_isinstance))) (sw_or (st_eq 8 (se_len se_var T.f_len) se_int) (sw_or1 (st_not (st_val (se_isi (se_ix se_var se_int) (se_T (T := "str") T.f_str (by decide +kernel)) T.f_isinstance))))))) (sss_cons (ss_ret se_bl)
  sss_nil) sss_nil)
  (sss_cons (ss_asg se_var (sg_tupS true (n := 2) (i := 1) (sgs_cons sg_name (sgs_star sg_name sgs_nil))))
  (sss_cons (ss_set (se_len se_var T.f_len))
  (sss_cons (ss_if (st_eq 8 se_var se_str) (sss_cons (ss_ret (se_and (se_eq 8 (se_len se_var T.f_len) se_int) (se_and (se_call D_is_box (sa_cons se_var (sa_cons (se_ix se_var se_int) sa_nil))) (se_one (se_call D_is_line (sa_cons se_var (sa_cons (se_ix se_var se_int) sa_nil)))))))
  sss_nil) sss_nil)
  (sss_cons (ss_if (st_eq 8 se_var se_str) (sss_cons (ss_ret (se_and (se_eq 8 (se_len se_var T.f_len) se_int) (se_one (se_call D_is_box (sa_cons se_var (sa_cons (se_ix se_var se_int) sa_nil))))))
  sss_nil) sss_nil)
  (sss_cons (ss_if (st_in se_var (se_tup (sa_cons se_str (sa_cons se_str sa_nil)))) (sss_cons (ss_ret (se_and (se_eq 8 (se_len se_var T.f_len) se_int) (se_one (se_call D_is_wish (sa_cons se_var (sa_cons (se_ix se_var se_int) sa_nil))))))
  sss_nil) sss_nil)
  (sss_cons (ss_if (st_eq 8 se_var se_str) (sss_cons (ss_ret (se_and (se_eq 8 (se_len se_var T.f_len) se_int) (se_and (se_call D_is_wish (sa_cons se_var (sa_cons (se_ix se_var se_int) sa_nil))) (se_one (se_call D_is_row_number (sa_cons se_var (sa_cons (se_ix se_var se_int) sa_nil)))))))
  sss_nil) sss_nil)
  (sss_cons (ss_if (st_eq 8 se_var se_str) (sss_cons (ss_ret (se_and (se_eq 8 (se_len se_var T.f_len) se_int) (se_one (se_call D_are_roads (sa_cons se_var (sa_cons (se_ix se_var se_int) sa_nil))))))
  sss_nil) sss_nil)
  (sss_cons (ss_if (st_eq 8 se_var se_str) (sss_cons (ss_ret (se_and (se_eq 8 (se_len se_var T.f_len) se_int) (se_one (se_call D_is_row_number (sa_cons se_var (sa_cons (se_ix se_var se_int) sa_nil))))))
  sss_nil) sss_nil)
  (sss_cons (ss_if (st_eq 8 se_var se_str) (sss_cons (ss_ret (se_and (se_eq 8 (se_len se_var T.f_len) se_int) (se_and (se_isi (se_ix se_var se_int) (se_T (T := "str") T.f_str (by decide +kernel)) T.f_isinstance) (se_one (se_in (se_ix se_var se_int) se_var)))))
  sss_nil) sss_nil)
  (sss_cons (ss_ret (se_and (se_eq 8 se_var se_str) (se_one (se_eq 8 se_var (se_lst true sa_nil)))))
  sss_nil)))))))))))
theorem sc_is_row : FnScope N_is_row ["boxes", "behind", "many", "row"] (defScope (top 23)) := ⟨rfl, rfl, rfl, by decide +kernel, rfl, by decide +kernel, by decide +kernel⟩
theorem dv_name_of {g : Gd} (T : Tx g) : SSs (cxt g N_name_of (defScope (top 25)) 0) (defBody (top 25)) b_name_of :=
  (sss_cons (ss_if (st_val (se_isi se_var (se_T (T := "tuple") T.f_tuple (by decide +kernel)) T.f_isinstance)) (sss_cons (ss_ret (se_ix se_var se_int))
  sss_nil) sss_nil)
  (sss_cons (ss_ret se_var)
  sss_nil))
theorem sc_name_of : FnScope N_name_of ["thing"] (defScope (top 25)) := ⟨rfl, rfl, rfl, by decide +kernel, rfl, by decide +kernel, by decide +kernel⟩
theorem dv_is_part {g : Gd} (T : Tx g) (D_is_name : DefZ g "is_name" 1 sp_is_name) : SSs (cxt g N_is_part (defScope (top 26)) 1) (defBody (top 26)) b_is_part :=
  (sss_cons (ss_if (SW.st (sw_or (st_not (st_val (se_isi se_var (se_T (T := "tuple") T.f_tuple (by decide +kernel)) T.f_isinstance))) (sw_or (st_ne 8 (se_len se_var T.f_len) se_int) (sw_or1 (st_not (st_val (se_call D_is_name (sa_cons (se_ix se_var se_int) sa_nil)))))))) (sss_cons (ss_ret se_bl)
  sss_nil) sss_nil)
  (sss_cons (ss_ret (se_and (se_isi (se_ix se_var se_int) (se_T (T := "list") T.f_list (by decide +kernel)) T.f_isinstance) (se_one (se_lele se_int (se_len (se_ix se_var se_int) T.f_len) (se_gint T.m_MOST_ROWS)))))
  sss_nil))
theorem sc_is_part : FnScope N_is_part ["thing"] (defScope (top 26)) := ⟨rfl, rfl, rfl, by decide +kernel, rfl, by decide +kernel, by decide +kernel⟩
theorem dv_wrong_thing {g : Gd} (T : Tx g) (D_name_of : DefZ g "name_of" 1 sp_name_of) (DV : ∀ c mf, tbl_wrong_thing c = some mf → DefV g c 2 mf) : SSs (cxt g N_wrong_thing (defScope (top 24)) 2) (defBody (top 24)) b_wrong_thing :=
  (sss_cons (ss_set (se_lst false sa_nil))
  (sss_cons (ss_for (by rfl) (si_enum (by rfl) T.f_enumerate (sa_cons se_var sa_nil)) (sg_tup (by rfl) (sgs_cons sg_name (sgs_cons sg_name sgs_nil))) (sss_cons (ss_if (SW.st (sw_or (st_not (st_val (se_callV DV (sa_cons se_var sa_nil)))) (sw_or1 (st_in (se_call D_name_of (sa_cons se_var sa_nil)) se_var)))) (sss_cons (ss_ret se_var)
  sss_nil) sss_nil)
  (sss_cons (ss_expr (se_append se_var (se_call D_name_of (sa_cons se_var sa_nil))))
  sss_nil)))
  (sss_cons (ss_ret se_non)
  sss_nil)))
theorem sc_wrong_thing : FnScope N_wrong_thing ["things", "is_good"] (defScope (top 24)) := ⟨rfl, rfl, rfl, by decide +kernel, rfl, by decide +kernel, by decide +kernel⟩
theorem dv_look_at_list {g : Gd} (T : Tx g) (D_wrong_thing : DefZ g "wrong_thing" 3 sp_wrong_thing) : SSs (cxt g N_look_at_list (defScope (top 27)) 3) (defBody (top 27)) b_look_at_list :=
  (sss_cons (ss_if (SW.st (sw_or (st_not (st_val (se_isi se_var (se_T (T := "list") T.f_list (by decide +kernel)) T.f_isinstance))) (sw_or1 (st_not (st_lele se_int (se_len se_var T.f_len) se_var))))) (sss_cons (ss_raise T.x_NoProgram (sa_cons se_var (sa_cons se_non (sa_cons se_non sa_nil))))
  sss_nil) sss_nil)
  (sss_cons (ss_set (se_call D_wrong_thing (sa_cons se_var (sa_cons se_var sa_nil))))
  (sss_cons (ss_if (st_notN se_var se_non) (sss_cons (ss_raise T.x_NoProgram (sa_cons se_var (sa_cons se_var (sa_cons se_non sa_nil))))
  sss_nil) sss_nil)
  sss_nil)))
theorem sc_look_at_list : FnScope N_look_at_list ["word", "thing", "most", "is_good"] (defScope (top 27)) := ⟨rfl, rfl, rfl, by decide +kernel, rfl, by decide +kernel, by decide +kernel⟩
theorem dv_look_at {g : Gd} (T : Tx g) (D_look_at_list : DefZ g "look_at_list" 4 sp_look_at_list) (D_is_row : DefZ g "is_row" 4 sp_is_row) : SSs (cxt g N_look_at (defScope (top 28)) 4) (defBody (top 28)) b_look_at :=
  (sss_cons (ss_if (SW.st (sw_or (st_not (st_val (se_isi se_var (se_T (T := "tuple") T.f_tuple (by decide +kernel)) T.f_isinstance))) (sw_or1 (st_ne 8 (se_len se_var T.f_len) se_int)))) (sss_cons (ss_raise T.x_NoProgram (sa_cons se_str (sa_cons se_non (sa_cons se_non sa_nil))))
  sss_nil) sss_nil)
  (sss_cons (ss_asg se_var (sg_tup (by rfl) (sgs_cons sg_name (sgs_cons sg_name sgs_nil))))
  (sss_cons (ss_expr (se_call D_look_at_list (sa_cons se_str (sa_cons se_var (sa_cons (se_gint T.m_MOST_BOXES) (sa_cons (se_gfn T.v_is_name) sa_nil))))))
  (sss_cons (ss_expr (se_call D_look_at_list (sa_cons se_str (sa_cons se_var (sa_cons (se_gint T.m_MOST_PARTS) (sa_cons (se_gfn T.v_is_part) sa_nil))))))
  (sss_cons (ss_for (by rfl) (si_enum (by rfl) T.f_enumerate (sa_cons se_var sa_nil)) (sg_tup (by rfl) (sgs_cons sg_name (sgs_cons (sg_tup (by rfl) (sgs_cons sg_name (sgs_cons sg_name sgs_nil))) sgs_nil))) (sss_cons (ss_setLc (own := [("other", 7), ("more", 8)]) true (by rfl) (by rfl) (si_any (se_sl true se_var (so_so (se_add true se_var se_int)) so_no)) (by show BlkOk N_look_at (defScope (top 28)) _ _; exact ⟨rfl, by decide +kernel, by decide +kernel, by decide +kernel, by decide +kernel⟩) (sg_tup (by rfl) (sgs_cons sg_name (sgs_cons sg_name sgs_nil))) (by decide) sts_nil se_var)
  (sss_cons (ss_for (by rfl) (si_enum (by rfl) T.f_enumerate (sa_cons se_var sa_nil)) (sg_tup (by rfl) (sgs_cons sg_name (sgs_cons sg_name sgs_nil))) (sss_cons (ss_if (st_not (st_val (se_call D_is_row (sa_cons se_var (sa_cons se_var (sa_cons (se_len se_var T.f_len) (sa_cons se_var sa_nil))))))) (sss_cons (ss_raise T.x_NoProgram (sa_cons se_str (sa_cons se_var (sa_cons se_var sa_nil))))
  sss_nil) sss_nil)
  (sss_cons (ss_if (SW.st (sw_and (st_eq 8 se_var (se_sub (se_len se_var T.f_len) se_int)) (sw_and1 (st_ni (se_ix se_var se_int) (se_tup (sa_cons se_str (sa_cons se_str (sa_cons se_str sa_nil)))))))) (sss_cons (ss_raise T.x_NoProgram (sa_cons se_str (sa_cons se_var (sa_cons se_var sa_nil))))
  sss_nil) sss_nil)
  sss_nil)))
  sss_nil)))
  sss_nil)))))
theorem sc_look_at : FnScope N_look_at ["thing"] (defScope (top 28)) := ⟨rfl, rfl, rfl, by decide +kernel, rfl, by decide +kernel, by decide +kernel⟩
theorem dv_part_numbers {g : Gd} (T : Tx g) : SSs (cxt g N_part_numbers (defScope (top 29)) 0) (defBody (top 29)) b_part_numbers :=
  (sss_cons (ss_ret (se_dc (own := [("number", 1), ("name", 2), ("rows", 3)]) (by rfl) (by rfl) (si_enum (by rfl) T.f_enumerate (sa_cons (se_ix se_var se_int) sa_nil)) (by show BlkOk N_part_numbers (defScope (top 29)) _ _; exact ⟨rfl, by decide +kernel, by decide +kernel, by decide +kernel, by decide +kernel⟩) (sg_tup (by rfl) (sgs_cons sg_name (sgs_cons (sg_tup (by rfl) (sgs_cons sg_name (sgs_cons sg_name sgs_nil))) sgs_nil))) (by decide) sts_nil se_var se_var))
  sss_nil)
theorem sc_part_numbers : FnScope N_part_numbers ["program"] (defScope (top 29)) := ⟨rfl, rfl, rfl, by decide +kernel, rfl, by decide +kernel, by decide +kernel⟩
theorem dv_look_at_size {g : Gd} (T : Tx g) : SSs (cxt g N_look_at_size (defScope (top 34)) 2) (defBody (top 34)) b_look_at_size :=
  (sss_cons (ss_asg se_var (sg_tup (by rfl) (sgs_cons sg_name (sgs_cons sg_name sgs_nil))))
  (sss_cons (ss_if (st_gt (se_len se_var T.f_len) (se_gint T.m_MOST_FRAMED_BOXES)) (sss_cons (ss_raise T.x_TooMany (sa_cons (se_len se_var T.f_len) sa_nil))
  sss_nil) sss_nil)
  (sss_cons (ss_if (st_gt (se_len se_var T.f_len) (se_gint T.m_MOST_FRAMED_PARTS)) (sss_cons (ss_raise T.x_TooMany (sa_cons (se_len se_var T.f_len) sa_nil))
  sss_nil) sss_nil)
  sss_nil)))
theorem sc_look_at_size : FnScope N_look_at_size ["program"] (defScope (top 34)) := ⟨rfl, rfl, rfl, by decide +kernel, rfl, by decide +kernel, by decide +kernel⟩
theorem dv_look_at_call {g : Gd} (T : Tx g) (D_part_numbers : DefZ g "part_numbers" 1 sp_part_numbers) (D_is_wish : DefZ g "is_wish" 3 sp_is_wish) : SSs (cxt g N_look_at_call (defScope (top 35)) 3) (defBody (top 35)) b_look_at_call :=
  (sss_cons (ss_set (se_call D_part_numbers (sa_cons se_var sa_nil)))
  (sss_cons (ss_if (SW.st (sw_or (st_not (st_val (se_isi se_var (se_T (T := "str") T.f_str (by decide +kernel)) T.f_isinstance))) (sw_or1 (st_eq 8 (se_dget2 se_var se_var se_int (fun X => ⟨by rfl, by rfl, by rfl, by rfl⟩)) se_int)))) (sss_cons (ss_raise T.x_NoPart (sa_cons se_var sa_nil))
  sss_nil) sss_nil)
  (sss_cons (ss_set (se_mul true se_int (se_len (se_ix se_var se_int) T.f_len)))
  (sss_cons (ss_if (SW.st (sw_or (st_not (st_val (se_isi se_var (se_T (T := "list") T.f_list (by decide +kernel)) T.f_isinstance))) (sw_or1 (st_gt (se_len se_var T.f_len) (se_gint T.m_MOST_CALL_WISHES))))) (sss_cons (ss_raise0 T.x_NoWishes)
  sss_nil) sss_nil)
  (sss_cons (ss_if (st_not (st_val (se_all (se_lc (own := [("one", 5)]) true (by rfl) (by rfl) (si_any se_var) (by show BlkOk N_look_at_call (defScope (top 35)) _ _; exact ⟨rfl, by decide +kernel, by decide +kernel, by decide +kernel, by decide +kernel⟩) sg_name (by decide) sts_nil (se_call D_is_wish (sa_cons se_var (sa_cons se_var sa_nil)))) T.f_all))) (sss_cons (ss_raise0 T.x_NoWishes)
  sss_nil) sss_nil)
  sss_nil)))))
theorem sc_look_at_call : FnScope N_look_at_call ["program", "name", "wishes"] (defScope (top 35)) := ⟨rfl, rfl, rfl, by decide +kernel, rfl, by decide +kernel, by decide +kernel⟩
theorem dv_letters_without {g : Gd} (T : Tx g) : SSs (cxt g N_letters_without (defScope (top 36)) 0) (defBody (top 36)) b_letters_without :=
  (sss_cons (ss_ret (se_sl true (se_lc (own := [("letter", 2)]) true (by rfl) (by rfl) (si_any (se_gstr T.m_LETTERS)) (by show BlkOk N_letters_without (defScope (top 36)) _ _; exact ⟨rfl, by decide +kernel, by decide +kernel, by decide +kernel, by decide +kernel⟩) sg_name (by decide) (sts_one (st_ni se_var se_var)) se_var) so_no (so_so se_var)))
  sss_nil)
theorem sc_letters_without : FnScope N_letters_without ["names", "many"] (defScope (top 36)) := ⟨rfl, rfl, rfl, by decide +kernel, rfl, by decide +kernel, by decide +kernel⟩
theorem dv_wider_row {g : Gd} (T : Tx g) : SSs (cxt g N_wider_row (defScope (top 37)) 0) (defBody (top 37)) b_wider_row :=
  (sss_cons (ss_asg se_var (sg_tupS true (n := 2) (i := 1) (sgs_cons sg_name (sgs_star sg_name sgs_nil))))
  (sss_cons (ss_set (se_mul true (se_tup (sa_cons se_int sa_nil)) se_var))
  (sss_cons (ss_if (st_eq 8 se_var se_str) (sss_cons (ss_ret (se_tup (sa_cons se_var (sa_cons (se_ix se_var se_int) (sa_cons (se_add true (se_ix se_var se_int) se_var) sa_nil)))))
  sss_nil) sss_nil)
  (sss_cons (ss_if (st_in se_var (se_tup (sa_cons se_str (sa_cons se_str (sa_cons se_str sa_nil))))) (sss_cons (ss_asg (se_ix se_var se_int) (sg_tup (by rfl) (sgs_cons sg_name (sgs_cons sg_name sgs_nil))))
  (sss_cons (ss_ret (se_add true (se_tup (sa_cons se_var (sa_cons (se_tup (sa_cons se_var (sa_cons (se_add true se_var se_var) sa_nil))) sa_nil))) (se_tupleOf (se_sl true se_var (so_so se_int) so_no) T.f_tuple)))
  sss_nil)) sss_nil)
  (sss_cons (ss_ret se_var)
  sss_nil)))))
theorem sc_wider_row : FnScope N_wider_row ["row", "many"] (defScope (top 37)) := ⟨rfl, rfl, rfl, by decide +kernel, rfl, by decide +kernel, by decide +kernel⟩
theorem dv_claim_of {g : Gd} (T : Tx g) : SSs (cxt g N_claim_of (defScope (top 38)) 0) (defBody (top 38)) b_claim_of :=
  (sss_cons (ss_asg se_var (sg_tup (by rfl) (sgs_cons sg_name (sgs_cons (sg_tupS true (n := 2) (i := 1) (sgs_cons sg_name (sgs_star sg_name sgs_nil))) sgs_nil))))
  (sss_cons (ss_ret (se_tup (sa_cons se_str (sa_cons (se_tup (sa_cons se_var (sa_cons (se_add true (se_tup (sa_cons se_var sa_nil)) (se_tupleOf (se_add true (se_sl true se_var (so_so se_var) so_no) (se_sl true se_var so_no (so_so se_var))) T.f_tuple)) sa_nil))) sa_nil))))
  sss_nil))
theorem sc_claim_of : FnScope N_claim_of ["wish", "many"] (defScope (top 38)) := ⟨rfl, rfl, rfl, by decide +kernel, rfl, by decide +kernel, by decide +kernel⟩
theorem dv_first_rows {g : Gd} (T : Tx g) (D_claim_of : DefZ g "claim_of" 1 sp_claim_of) : SSs (cxt g N_first_rows (defScope (top 39)) 1) (defBody (top 39)) b_first_rows :=
  (sss_cons (ss_set (se_len se_var T.f_len))
  (sss_cons (ss_setLc (own := [("box", 6)]) false (by rfl) (by rfl) (si_any se_var) (by show BlkOk N_first_rows (defScope (top 39)) _ _; exact ⟨rfl, by decide +kernel, by decide +kernel, by decide +kernel, by decide +kernel⟩) sg_name (by decide) sts_nil (se_tup (sa_cons se_str (sa_cons se_var sa_nil))))
  (sss_cons (ss_for (by rfl) (si_enum (by rfl) T.f_enumerate (sa_cons se_var sa_nil)) (sg_tup (by rfl) (sgs_cons sg_name (sgs_cons sg_name sgs_nil))) (sss_cons (ss_expr (se_append se_var (se_tup (sa_cons se_str (sa_cons se_var (sa_cons (se_add true (se_add true (se_mul true (se_tup (sa_cons se_int sa_nil)) (se_add true (se_add true se_int se_var) se_var)) (se_tup (sa_cons se_int sa_nil))) (se_mul true (se_tup (sa_cons se_int sa_nil)) (se_sub (se_sub se_var se_var) se_int))) sa_nil))))))
  sss_nil))
  (sss_cons (ss_ret (se_add false (se_add true (se_add true se_var (se_lst true (sa_cons (se_tup (sa_cons se_str (sa_cons se_var sa_nil))) sa_nil))) (se_lc (own := [("wish", 8)]) true (by rfl) (by rfl) (si_any se_var) (by show BlkOk N_first_rows (defScope (top 39)) _ _; exact ⟨rfl, by decide +kernel, by decide +kernel, by decide +kernel, by decide +kernel⟩) sg_name (by decide) sts_nil (se_call D_claim_of (sa_cons se_var (sa_cons se_var sa_nil))))) (se_lst true (sa_cons (se_tup (sa_cons se_str sa_nil)) sa_nil))))
  sss_nil))))
theorem sc_first_rows : FnScope N_first_rows ["boxes", "more", "name", "wishes"] (defScope (top 39)) := ⟨rfl, rfl, rfl, by decide +kernel, rfl, by decide +kernel, by decide +kernel⟩
theorem dv_framed {g : Gd} (T : Tx g) (D_look_at : DefZ g "look_at" 5 sp_look_at) (D_look_at_size : DefZ g "look_at_size" 3 sp_look_at_size) (D_look_at_call : DefZ g "look_at_call" 4 sp_look_at_call) (D_letters_without : DefZ g "letters_without" 1 sp_letters_without) (D_first_rows : DefZ g "first_rows" 2 sp_first_rows) (D_part_numbers : DefZ g "part_numbers" 1 sp_part_numbers) (D_wider_row : DefZ g "wider_row" 1 sp_wider_row) : SSs (cxt g N_framed (defScope (top 40)) 5) (defBody (top 40)) b_framed :=
  (sss_cons (ss_expr (se_call D_look_at (sa_cons se_var sa_nil)))
  (sss_cons (ss_expr (se_call D_look_at_size (sa_cons se_var sa_nil)))
  (sss_cons (ss_expr (se_call D_look_at_call (sa_cons se_var (sa_cons se_var (sa_cons se_var sa_nil)))))
  (sss_cons (ss_asg se_var (sg_tup (by rfl) (sgs_cons sg_name (sgs_cons sg_name sgs_nil))))
  (sss_cons (ss_set (se_len se_var T.f_len))
  (sss_cons (ss_set (se_call D_letters_without (sa_cons se_var (sa_cons se_var sa_nil))))
  (sss_cons (ss_set (se_ix (se_call D_letters_without (sa_cons (se_lc (own := [("part", 8)]) true (by rfl) (by rfl) (si_any se_var) (by show BlkOk N_framed (defScope (top 40)) _ _; exact ⟨rfl, by decide +kernel, by decide +kernel, by decide +kernel, by decide +kernel⟩) sg_name (by decide) sts_nil (se_ix se_var se_int)) (sa_cons se_int sa_nil))) se_int))
  (sss_cons (ss_set (se_lst false (sa_cons (se_tup (sa_cons se_var (sa_cons (se_call D_first_rows (sa_cons se_var (sa_cons se_var (sa_cons se_var (sa_cons se_var sa_nil))))) sa_nil))) sa_nil)))
  (sss_cons (ss_for (by rfl) (si_any (se_sl true se_var (so_so (se_dget (se_call D_part_numbers (sa_cons se_var sa_nil)) se_var)) so_no)) (sg_tup (by rfl) (sgs_cons sg_name (sgs_cons sg_name sgs_nil))) (sss_cons (ss_expr (se_append se_var (se_tup (sa_cons se_var (sa_cons (se_lc (own := [("row", 12)]) true (by rfl) (by rfl) (si_any se_var) (by show BlkOk N_framed (defScope (top 40)) _ _; exact ⟨rfl, by decide +kernel, by decide +kernel, by decide +kernel, by decide +kernel⟩) sg_name (by decide) sts_nil (se_call D_wider_row (sa_cons se_var (sa_cons se_var sa_nil)))) sa_nil)))))
  sss_nil))
  (sss_cons (ss_ret (se_tup (sa_cons (se_add false se_var se_var) (sa_cons se_var sa_nil))))
  sss_nil))))))))))
theorem sc_framed : FnScope N_framed ["program", "name", "wishes"] (defScope (top 40)) := ⟨rfl, rfl, rfl, by decide +kernel, rfl, by decide +kernel, by decide +kernel⟩
theorem dv__law_pool {g : Gd} (T : Tx g) : SSs (cxt g N__law_pool (defScope (top 42)) 0) (defBody (top 42)) b__law_pool :=
  (sss_cons (ss_set se_int)
  (sss_cons (ss_if (st_lt se_var (se_len se_var T.f_len)) (sss_cons (ss_set (se_ix se_var se_var))
  sss_nil) sss_nil)
  (sss_cons (ss_set (se_max se_var (se_sub (se_neg se_int) se_var) T.f_max))
  (sss_cons (ss_set (se_mod (se_add true (se_add true (se_mul true (se_mod se_var se_int) se_int) (se_mul true se_int se_var)) se_int) se_int))
  (sss_cons (ss_if (st_lt se_var (se_pow se_int se_int)) (sss_cons (ss_set se_int)
  sss_nil) sss_nil)
  (sss_cons (ss_ret (se_lst false (sa_cons se_var (sa_cons se_var sa_nil))))
  sss_nil))))))
theorem sc__law_pool : FnScope N__law_pool ["_law_script", "_law_k"] (defScope (top 42)) := ⟨rfl, rfl, rfl, by decide +kernel, rfl, by decide +kernel, by decide +kernel⟩
theorem dv__law_take {g : Gd} (T : Tx g) : SSs (cxt g N__law_take (defScope (top 43)) 0) (defBody (top 43)) b__law_take :=
  (sss_cons (ss_if (st_gt (se_ix se_var se_int) se_int) (sss_cons (ss_set (se_mod (se_ix se_var se_int) se_var))
  (sss_cons (ss_asg (se_div (se_ix se_var se_int) se_var) (sg_sub se_var se_int))
  (sss_cons (ss_ret se_var)
  sss_nil))) sss_nil)
  (sss_cons (ss_asg (se_mod (se_add true (se_mul true (se_ix se_var se_int) se_int) se_int) se_int) (sg_sub se_var se_int))
  (sss_cons (ss_ret (se_mod (se_div (se_mod (se_mul true (se_ix se_var se_int) (se_ix se_var se_int)) se_int) se_int) se_var))
  sss_nil)))
theorem sc__law_take : FnScope N__law_take ["_law_pool_here", "_law_many"] (defScope (top 43)) := ⟨rfl, rfl, rfl, by decide +kernel, rfl, by decide +kernel, by decide +kernel⟩
theorem dv__law_line {g : Gd} (T : Tx g) (D__law_take : DefZ g "_law_take" 1 sp__law_take) : SSs (cxt g N__law_line (defScope (top 44)) 1) (defBody (top 44)) b__law_line :=
  (sss_cons (ss_set (se_lst false (sa_cons (se_ix (se_lst true (sa_cons se_int (sa_cons se_int (sa_cons (se_neg se_int) (sa_cons se_int (sa_cons (se_neg se_int) (sa_cons se_int (sa_cons se_int (sa_cons (se_neg se_int) sa_nil))))))))) (se_call D__law_take (sa_cons se_var (sa_cons se_int sa_nil)))) sa_nil)))
  (sss_cons (ss_for (by rfl) (si_range1 (by rfl) T.f_range (sa_cons se_var sa_nil)) sg_name (sss_cons (ss_expr (se_append se_var (se_ix (se_lst true (sa_cons se_int (sa_cons se_int (sa_cons se_int (sa_cons se_int (sa_cons (se_neg se_int) (sa_cons (se_neg se_int) (sa_cons se_int (sa_cons (se_neg se_int) sa_nil))))))))) (se_call D__law_take (sa_cons se_var (sa_cons se_int sa_nil))))))
  sss_nil))
  (sss_cons (ss_ret (se_tupleOf (se_fz se_var) T.f_tuple))
  sss_nil)))
theorem sc__law_line : FnScope N__law_line ["_law_pool_here", "_law_many"] (defScope (top 44)) := ⟨rfl, rfl, rfl, by decide +kernel, rfl, by decide +kernel, by decide +kernel⟩
theorem dv__law_wish {g : Gd} (T : Tx g) (D__law_take : DefZ g "_law_take" 1 sp__law_take) (D__law_line : DefZ g "_law_line" 2 sp__law_line) : SSs (cxt g N__law_wish (defScope (top 45)) 2) (defBody (top 45)) b__law_wish :=
  (sss_cons (ss_ret (se_tup (sa_cons (se_ix (se_lst true (sa_cons se_str (sa_cons se_str (sa_cons se_str sa_nil)))) (se_call D__law_take (sa_cons se_var (sa_cons se_int sa_nil)))) (sa_cons (se_call D__law_line (sa_cons se_var (sa_cons se_var sa_nil))) sa_nil))))
  sss_nil)
theorem sc__law_wish : FnScope N__law_wish ["_law_pool_here", "_law_many"] (defScope (top 45)) := ⟨rfl, rfl, rfl, by decide +kernel, rfl, by decide +kernel, by decide +kernel⟩
theorem dv__law_row {g : Gd} (T : Tx g) (D__law_take : DefZ g "_law_take" 1 sp__law_take) (D__law_line : DefZ g "_law_line" 2 sp__law_line) (D__law_wish : DefZ g "_law_wish" 3 sp__law_wish) : SSs (cxt g N__law_row (defScope (top 46)) 3) (defBody (top 46)) b__law_row :=
  (sss_cons (ss_set (se_len se_var T.f_len))
  (sss_cons (ss_set (se_ix (se_lst true (sa_cons se_str (sa_cons se_str (sa_cons se_str (sa_cons se_str (sa_cons se_str (sa_cons se_str (sa_cons se_str (sa_cons se_str (sa_cons se_str (sa_cons se_str sa_nil))))))))))) (se_call D__law_take (sa_cons se_var (sa_cons se_int sa_nil)))))
  (sss_cons (ss_set (se_ix se_var (se_call D__law_take (sa_cons se_var (sa_cons se_var sa_nil)))))
  (sss_cons (ss_if (st_eq 8 se_var se_str) (sss_cons (ss_ret (se_tup (sa_cons se_var (sa_cons se_var (sa_cons (se_call D__law_line (sa_cons se_var (sa_cons se_var sa_nil))) sa_nil)))))
  sss_nil) sss_nil)
  (sss_cons (ss_if (SW.st (sw_or (st_eq 8 se_var se_str) (sw_or1 (st_eq 8 se_var se_str)))) (sss_cons (ss_ret (se_tup (sa_cons se_var (sa_cons (se_call D__law_wish (sa_cons se_var (sa_cons se_var sa_nil))) sa_nil))))
  sss_nil) sss_nil)
  (sss_cons (ss_if (st_eq 8 se_var se_str) (sss_cons (ss_ret (se_tup (sa_cons se_var (sa_cons (se_call D__law_wish (sa_cons se_var (sa_cons se_var sa_nil))) (sa_cons (se_call D__law_take (sa_cons se_var (sa_cons se_var sa_nil))) sa_nil)))))
  sss_nil) sss_nil)
  (sss_cons (ss_if (st_eq 8 se_var se_str) (sss_cons (ss_ret (se_tup (sa_cons se_var (sa_cons (se_tupleOf (se_lc (own := [("_law_k", 7)]) true (by rfl) (by rfl) (si_range1 (by rfl) T.f_range (sa_cons (se_add true se_int (se_call D__law_take (sa_cons se_var (sa_cons se_int sa_nil)))) sa_nil)) (by show BlkOk N__law_row (defScope (top 46)) _ _; exact ⟨rfl, by decide +kernel, by decide +kernel, by decide +kernel, by decide +kernel⟩) sg_name (by decide) sts_nil (se_call D__law_take (sa_cons se_var (sa_cons se_var sa_nil)))) T.f_tuple) sa_nil))))
  sss_nil) sss_nil)
  (sss_cons (ss_if (SW.st (sw_and (st_eq 8 se_var se_str) (sw_and1 (st_gt se_var se_int)))) (sss_cons (ss_ret (se_tup (sa_cons se_var (sa_cons (se_call D__law_take (sa_cons se_var (sa_cons se_var sa_nil))) sa_nil))))
  sss_nil) sss_nil)
  (sss_cons (ss_if (SW.st (sw_and (st_eq 8 se_var se_str) (sw_and1 (st_ne 8 se_var (se_lst true sa_nil))))) (sss_cons (ss_ret (se_tup (sa_cons se_var (sa_cons (se_ix se_var (se_call D__law_take (sa_cons se_var (sa_cons (se_len se_var T.f_len) sa_nil)))) sa_nil))))
  sss_nil) sss_nil)
  (sss_cons (ss_ret (se_tup (sa_cons se_str (sa_cons se_var sa_nil))))
  sss_nil))))))))))
theorem sc__law_row : FnScope N__law_row ["_law_pool_here", "_law_boxes", "_law_behind", "_law_many"] (defScope (top 46)) := ⟨rfl, rfl, rfl, by decide +kernel, rfl, by decide +kernel, by decide +kernel⟩
theorem dv__law_program {g : Gd} (T : Tx g) (D__law_take : DefZ g "_law_take" 1 sp__law_take) (D__law_row : DefZ g "_law_row" 4 sp__law_row) : SSs (cxt g N__law_program (defScope (top 47)) 4) (defBody (top 47)) b__law_program :=
  (sss_cons (ss_set (se_sl true (se_lst true (sa_cons se_str (sa_cons se_str (sa_cons se_str (sa_cons se_str (sa_cons se_str (sa_cons se_str (sa_cons se_str (sa_cons se_str sa_nil))))))))) so_no (so_so (se_add true se_int (se_call D__law_take (sa_cons se_var (sa_cons se_var sa_nil)))))))
  (sss_cons (ss_set (se_sl true (se_lst true (sa_cons se_str (sa_cons se_str (sa_cons se_str (sa_cons se_str (sa_cons se_str (sa_cons se_str sa_nil))))))) so_no (so_so (se_add true se_int (se_call D__law_take (sa_cons se_var (sa_cons se_var sa_nil)))))))
  (sss_cons (ss_set (se_lst false sa_nil))
  (sss_cons (ss_for (by rfl) (si_enum (by rfl) T.f_enumerate (sa_cons se_var sa_nil)) (sg_tup (by rfl) (sgs_cons sg_name (sgs_cons sg_name sgs_nil))) (sss_cons (ss_set (se_add true se_int (se_call D__law_take (sa_cons se_var (sa_cons se_var sa_nil)))))
  (sss_cons (ss_setLc (own := [("_law_k", 11)]) true (by rfl) (by rfl) (si_range1 (by rfl) T.f_range (sa_cons (se_sub se_var se_int) sa_nil)) (by show BlkOk N__law_program (defScope (top 47)) _ _; exact ⟨rfl, by decide +kernel, by decide +kernel, by decide +kernel, by decide +kernel⟩) sg_name (by decide) sts_nil (se_call D__law_row (sa_cons se_var (sa_cons se_var (sa_cons (se_sl true se_var (so_so (se_add true se_var se_int)) so_no) (sa_cons se_var sa_nil))))))
  (sss_cons (ss_set (se_lst true (sa_cons (se_tup (sa_cons se_str sa_nil)) (sa_cons (se_tup (sa_cons se_str sa_nil)) (sa_cons (se_tup (sa_cons se_str (sa_cons (se_call D__law_take (sa_cons se_var (sa_cons se_var sa_nil))) sa_nil))) (sa_cons (se_tup (sa_cons se_str (sa_cons (se_tup (sa_cons (se_call D__law_take (sa_cons se_var (sa_cons se_var sa_nil))) (sa_cons se_int sa_nil))) sa_nil))) sa_nil))))))
  (sss_cons (ss_expr (se_append se_var (se_tup (sa_cons se_var (sa_cons (se_add true se_var (se_lst true (sa_cons (se_ix se_var (se_call D__law_take (sa_cons se_var (sa_cons se_int sa_nil)))) sa_nil))) sa_nil)))))
  sss_nil)))))
  (sss_cons (ss_ret (se_tup (sa_cons se_var (sa_cons (se_fz se_var) sa_nil))))
  sss_nil)))))
theorem sc__law_program : FnScope N__law_program ["_law_pool_here", "_law_size", "_law_most", "_law_parts"] (defScope (top 47)) := ⟨rfl, rfl, rfl, by decide +kernel, rfl, by decide +kernel, by decide +kernel⟩
theorem dv__law_wider {g : Gd} (T : Tx g) : SSs (cxt g N__law_wider (defScope (top 48)) 0) (defBody (top 48)) b__law_wider :=
  (sss_cons (ss_if (st_eq 8 (se_ix se_var se_int) se_str) (sss_cons (ss_ret (se_tup (sa_cons (se_ix se_var se_int) (sa_cons (se_ix se_var se_int) (sa_cons (se_add true (se_ix se_var se_int) (se_mul true (se_tup (sa_cons se_int sa_nil)) se_var)) sa_nil)))))
  sss_nil) sss_nil)
  (sss_cons (ss_if (st_in (se_ix se_var se_int) (se_lst true (sa_cons se_str (sa_cons se_str (sa_cons se_str sa_nil))))) (sss_cons (ss_ret (se_add true (se_tup (sa_cons (se_ix se_var se_int) (sa_cons (se_tup (sa_cons (se_ix (se_ix se_var se_int) se_int) (sa_cons (se_add true (se_ix (se_ix se_var se_int) se_int) (se_mul true (se_tup (sa_cons se_int sa_nil)) se_var)) sa_nil))) sa_nil))) (se_sl true se_var (so_so se_int) so_no)))
  sss_nil) sss_nil)
  (sss_cons (ss_ret se_var)
  sss_nil)))
theorem sc__law_wider : FnScope N__law_wider ["_law_row_here", "_law_many"] (defScope (top 48)) := ⟨rfl, rfl, rfl, by decide +kernel, rfl, by decide +kernel, by decide +kernel⟩
theorem dv__law_free {g : Gd} (T : Tx g) : SSs (cxt g N__law_free (defScope (top 49)) 0) (defBody (top 49)) b__law_free :=
  (sss_cons (ss_setLc (own := [("_law_letter", 3)]) true (by rfl) (by rfl) (si_any se_str) (by show BlkOk N__law_free (defScope (top 49)) _ _; exact ⟨rfl, by decide +kernel, by decide +kernel, by decide +kernel, by decide +kernel⟩) sg_name (by decide) (sts_one (st_ni se_var se_var)) se_var)
  (sss_cons (ss_ret (se_sl true se_var so_no (so_so se_var)))
  sss_nil))
theorem sc__law_free : FnScope N__law_free ["_law_taken", "_law_many"] (defScope (top 49)) := ⟨rfl, rfl, rfl, by decide +kernel, rfl, by decide +kernel, by decide +kernel⟩
theorem dv__law_made {g : Gd} (T : Tx g) (D__law_free : DefZ g "_law_free" 1 sp__law_free) (D__law_wider : DefZ g "_law_wider" 1 sp__law_wider) : SSs (cxt g N__law_made (defScope (top 50)) 1) (defBody (top 50)) b__law_made :=
  (sss_cons (ss_asg se_var (sg_tup (by rfl) (sgs_cons sg_name (sgs_cons sg_name sgs_nil))))
  (sss_cons (ss_set (se_len se_var T.f_len))
  (sss_cons (ss_set (se_call D__law_free (sa_cons se_var (sa_cons se_var sa_nil))))
  (sss_cons (ss_setLc (own := [("_law_box", 8)]) false (by rfl) (by rfl) (si_any se_var) (by show BlkOk N__law_made (defScope (top 50)) _ _; exact ⟨rfl, by decide +kernel, by decide +kernel, by decide +kernel, by decide +kernel⟩) sg_name (by decide) sts_nil (se_tup (sa_cons se_str (sa_cons se_var sa_nil))))
  (sss_cons (ss_for (by rfl) (si_range1 (by rfl) T.f_range (sa_cons se_var sa_nil)) sg_name (sss_cons (ss_set (se_mul false (se_lst true (sa_cons se_int sa_nil)) (se_add true (se_mul true se_int se_var) se_int)))
  (sss_cons (ss_asg se_int (sg_sub se_var (se_add true (se_add true se_int se_var) se_var)))
  (sss_cons (ss_expr (se_append se_var (se_tup (sa_cons se_str (sa_cons (se_ix se_var se_var) (sa_cons (se_tupleOf se_var T.f_tuple) sa_nil))))))
  sss_nil))))
  (sss_cons (ss_expr (se_append se_var (se_tup (sa_cons se_str (sa_cons se_var sa_nil)))))
  (sss_cons (ss_for (by rfl) (si_any se_var) (sg_tup (by rfl) (sgs_cons sg_name (sgs_cons sg_name sgs_nil))) (sss_cons (ss_expr (se_append se_var (se_tup (sa_cons se_str (sa_cons (se_tup (sa_cons se_var (sa_cons (se_add true (se_add true (se_sl true se_var so_no (so_so se_int)) (se_sl true se_var (so_so (se_add true se_int se_var)) so_no)) (se_sl true se_var (so_so se_int) (so_so (se_add true se_int se_var)))) sa_nil))) sa_nil)))))
  sss_nil))
  (sss_cons (ss_setLc (own := [("_law_one", 13), ("_law_some", 14)]) true (by rfl) (by rfl) (si_any se_var) (by show BlkOk N__law_made (defScope (top 50)) _ _; exact ⟨rfl, by decide +kernel, by decide +kernel, by decide +kernel, by decide +kernel⟩) (sg_tup (by rfl) (sgs_cons sg_name (sgs_cons sg_name sgs_nil))) (by decide) sts_nil se_var)
  (sss_cons (ss_set (se_lst false (sa_cons (se_tup (sa_cons (se_ix (se_call D__law_free (sa_cons se_var (sa_cons se_int sa_nil))) se_int) (sa_cons (se_add true se_var (se_lst true (sa_cons (se_tup (sa_cons se_str sa_nil)) sa_nil))) sa_nil))) sa_nil)))
  (sss_cons (ss_for (by rfl) (si_any (se_sl true se_var (so_so (se_index se_var se_var)) so_no)) (sg_tup (by rfl) (sgs_cons sg_name (sgs_cons sg_name sgs_nil))) (sss_cons (ss_expr (se_append se_var (se_tup (sa_cons se_var (sa_cons (se_lc (own := [("_law_row_here", 16)]) true (by rfl) (by rfl) (si_any se_var) (by show BlkOk N__law_made (defScope (top 50)) _ _; exact ⟨rfl, by decide +kernel, by decide +kernel, by decide +kernel, by decide +kernel⟩) sg_name (by decide) sts_nil (se_call D__law_wider (sa_cons se_var (sa_cons se_var sa_nil)))) sa_nil)))))
  sss_nil))
  (sss_cons (ss_ret (se_tup (sa_cons (se_add true (se_listOf true se_var T.f_list) se_var) (sa_cons (se_fz se_var) sa_nil))))
  sss_nil)))))))))))
theorem sc__law_made : FnScope N__law_made ["_law_program_here", "_law_name", "_law_wishes"] (defScope (top 50)) := ⟨rfl, rfl, rfl, by decide +kernel, rfl, by decide +kernel, by decide +kernel⟩
theorem dv__law_is_wish {g : Gd} (T : Tx g) : SSs (cxt g N__law_is_wish (defScope (top 51)) 0) (defBody (top 51)) b__law_is_wish :=
  (sss_cons (ss_if (SW.st (sw_or (st_not (st_val (se_isi se_var (se_T (T := "tuple") T.f_tuple (by decide +kernel)) T.f_isinstance))) (sw_or (st_ne 8 (se_len se_var T.f_len) se_int) (sw_or1 (st_ni (se_ix se_var se_int) (se_lst true (sa_cons se_str (sa_cons se_str sa_nil)))))))) (sss_cons (ss_ret se_bl)
  sss_nil) sss_nil)
  (sss_cons (ss_if (SW.st (sw_or (st_not (st_val (se_isi (se_ix se_var se_int) (se_T (T := "tuple") T.f_tuple (by decide +kernel)) T.f_isinstance))) (sw_or1 (st_ne 8 (se_len (se_ix se_var se_int) T.f_len) (se_add true se_var se_int))))) (sss_cons (ss_ret se_bl)
  sss_nil) sss_nil)
  (sss_cons (ss_ret (se_eq 8 (se_lc (own := [("_law_part", 2)]) true (by rfl) (by rfl) (si_any (se_ix se_var se_int)) (by show BlkOk N__law_is_wish (defScope (top 51)) _ _; exact ⟨rfl, by decide +kernel, by decide +kernel, by decide +kernel, by decide +kernel⟩) sg_name (by decide) (sts_one (SW.st (sw_or (st_not (st_val (se_isi se_var (se_T (T := "int") T.f_int (by decide +kernel)) T.f_isinstance))) (sw_or1 (st_val (se_isi se_var (se_T (T := "bool") T.f_bool (by decide +kernel)) T.f_isinstance)))))) se_var) (se_lst true sa_nil)))
  sss_nil)))
theorem sc__law_is_wish : FnScope N__law_is_wish ["_law_size", "_law_thing"] (defScope (top 51)) := ⟨rfl, rfl, rfl, by decide +kernel, rfl, by decide +kernel, by decide +kernel⟩
theorem dv__law_due {g : Gd} (T : Tx g) (D__law_is_wish : DefZ g "_law_is_wish" 1 sp__law_is_wish) (D__law_made : DefZ g "_law_made" 2 sp__law_made) : SSs (cxt g N__law_due (defScope (top 52)) 2) (defBody (top 52)) b__law_due :=
  (sss_cons (ss_asg se_var (sg_tup (by rfl) (sgs_cons sg_name (sgs_cons sg_name sgs_nil))))
  (sss_cons (ss_if (st_gt (se_len se_var T.f_len) se_int) (sss_cons (ss_ret (se_lst true (sa_cons se_str (sa_cons (se_len se_var T.f_len) sa_nil))))
  sss_nil) sss_nil)
  (sss_cons (ss_if (st_gt (se_len se_var T.f_len) se_int) (sss_cons (ss_ret (se_lst true (sa_cons se_str (sa_cons (se_len se_var T.f_len) sa_nil))))
  sss_nil) sss_nil)
  (sss_cons (ss_if (SW.st (sw_or (st_not (st_val (se_isi se_var (se_T (T := "str") T.f_str (by decide +kernel)) T.f_isinstance))) (sw_or1 (st_ni se_var (se_lc (own := [("_law_one", 5), ("_law_some", 6)]) true (by rfl) (by rfl) (si_any (se_sl true se_var (so_so se_int) so_no)) (by show BlkOk N__law_due (defScope (top 52)) _ _; exact ⟨rfl, by decide +kernel, by decide +kernel, by decide +kernel, by decide +kernel⟩) (sg_tup (by rfl) (sgs_cons sg_name (sgs_cons sg_name sgs_nil))) (by decide) sts_nil se_var))))) (sss_cons (ss_ret (se_lst true (sa_cons se_str (sa_cons se_var sa_nil))))
  sss_nil) sss_nil)
  (sss_cons (ss_if (SW.st (sw_or (st_not (st_val (se_isi se_var (se_T (T := "list") T.f_list (by decide +kernel)) T.f_isinstance))) (sw_or1 (st_gt (se_len se_var T.f_len) se_int)))) (sss_cons (ss_ret (se_lst true (sa_cons se_str sa_nil)))
  sss_nil) sss_nil)
  (sss_cons (ss_if (st_ne 8 (se_lc (own := [("_law_one", 5)]) true (by rfl) (by rfl) (si_any se_var) (by show BlkOk N__law_due (defScope (top 52)) _ _; exact ⟨rfl, by decide +kernel, by decide +kernel, by decide +kernel, by decide +kernel⟩) sg_name (by decide) (sts_one (st_not (st_val (se_call D__law_is_wish (sa_cons (se_mul true se_int (se_len se_var T.f_len)) (sa_cons se_var sa_nil)))))) se_var) (se_lst true sa_nil)) (sss_cons (ss_ret (se_lst true (sa_cons se_str sa_nil)))
  sss_nil) sss_nil)
  (sss_cons (ss_ret (se_lst true (sa_cons se_str (sa_cons (se_call D__law_made (sa_cons se_var (sa_cons se_var (sa_cons se_var sa_nil)))) sa_nil))))
  sss_nil)))))))
theorem sc__law_due : FnScope N__law_due ["_law_program_here", "_law_name", "_law_wishes"] (defScope (top 52)) := ⟨rfl, rfl, rfl, by decide +kernel, rfl, by decide +kernel, by decide +kernel⟩
theorem dv__law_told {g : Gd} (T : Tx g) (D_framed : DefZ g "framed" 6 sp_framed) : SSs (cxt g N__law_told (defScope (top 53)) 6) (defBody (top 53)) b__law_told :=
  (sss_cons (ss_try (sss_cons (ss_ret (se_lst false (sa_cons se_str (sa_cons (se_call D_framed (sa_cons se_var (sa_cons se_var (sa_cons se_var sa_nil)))) sa_nil))))
  sss_nil) (.named (tz_one T.g_TooMany T.ex_TooMany) (by rfl) (by rfl) (fun a d c fs => (sss_cons (ss_ret (se_lst false (sa_cons se_str (sa_cons (se_xfc T.ask (fun c h => T.nof c h _ (by decide))) sa_nil))))
  sss_nil)) (.named (tz_one T.g_NoPart T.ex_NoPart) (by rfl) (by rfl) (fun a d c fs => (sss_cons (ss_ret (se_lst false (sa_cons se_str (sa_cons (se_xfc T.ask (fun c h => T.nof c h _ (by decide))) sa_nil))))
  sss_nil)) (.named (tz_one T.g_TreeError T.ex_TreeError) (by rfl) (by rfl) (fun a d c fs => (sss_cons (ss_ret (se_if (st_val (se_isER T.is_NoWishes T.g_NoWishes T.f_isinstance)) (se_lst false (sa_cons se_str sa_nil)) (se_lst false (sa_cons se_str sa_nil))))
  sss_nil)) HdZ.nil))))
  sss_nil)
theorem sc__law_told : FnScope N__law_told ["_law_program_here", "_law_name", "_law_wishes"] (defScope (top 53)) := ⟨rfl, rfl, rfl, by decide +kernel, rfl, by decide +kernel, by decide +kernel⟩
theorem dv__law_right {g : Gd} (T : Tx g) (D__law_due : DefZ g "_law_due" 3 sp__law_due) (D__law_told : DefZ g "_law_told" 7 sp__law_told) (D_look_at : DefZ g "look_at" 5 sp_look_at) : SSs (cxt g N__law_right (defScope (top 54)) 7) (defBody (top 54)) b__law_right :=
  (sss_cons (ss_set (se_repr (se_lst true (sa_cons se_var (sa_cons se_var (sa_cons se_var sa_nil)))) T.f_repr))
  (sss_cons (ss_set (se_call D__law_due (sa_cons se_var (sa_cons se_var (sa_cons se_var sa_nil)))))
  (sss_cons (ss_set (se_call D__law_told (sa_cons se_var (sa_cons se_var (sa_cons se_var sa_nil)))))
  (sss_cons (ss_if (SW.st (sw_or (st_ne 8 (se_repr se_var T.f_repr) (se_repr se_var T.f_repr)) (sw_or1 (st_ne 8 (se_repr (se_lst true (sa_cons se_var (sa_cons se_var (sa_cons se_var sa_nil)))) T.f_repr) se_var)))) (sss_cons (ss_ret se_bl)
  sss_nil) sss_nil)
  (sss_cons (ss_if (st_ne 8 (se_ix se_var se_int) se_str) (sss_cons (ss_ret se_bl)
  sss_nil) sss_nil)
  (sss_cons (ss_if (st_notN (se_call D_look_at (sa_cons (se_ix se_var se_int) sa_nil)) se_non) (sss_cons (ss_ret se_bl)
  sss_nil) sss_nil)
  (sss_cons (ss_expr (se_clear (se_ix (se_ix se_var se_int) se_int)))
  (sss_cons (ss_expr (se_append (se_ix (se_ix (se_ix (se_ix se_var se_int) se_int) se_int) se_int) se_non))
  (sss_cons (ss_ret (se_and (se_eq 8 (se_repr (se_call D__law_told (sa_cons se_var (sa_cons se_var (sa_cons se_var sa_nil)))) T.f_repr) (se_repr se_var T.f_repr)) (se_one (se_eq 8 (se_repr (se_lst true (sa_cons se_var (sa_cons se_var (sa_cons se_var sa_nil)))) T.f_repr) se_var))))
  sss_nil)))))))))
theorem sc__law_right : FnScope N__law_right ["_law_program_here", "_law_name", "_law_wishes"] (defScope (top 54)) := ⟨rfl, rfl, rfl, by decide +kernel, rfl, by decide +kernel, by decide +kernel⟩
theorem dv__law_renamed {g : Gd} (T : Tx g) : SSs (cxt g N__law_renamed (defScope (top 55)) 0) (defBody (top 55)) b__law_renamed :=
  (sss_cons (ss_set (se_disp (sps_cons se_str se_str (sps_cons se_str se_str (sps_cons se_str se_str (sps_cons se_str se_str (sps_cons se_str se_str sps_nil)))))))
  (sss_cons (ss_set (se_lst false sa_nil))
  (sss_cons (ss_for (by rfl) (si_any (se_ix se_var se_int)) (sg_tup (by rfl) (sgs_cons sg_name (sgs_cons sg_name sgs_nil))) (sss_cons (ss_set (se_lst false sa_nil))
  (sss_cons (ss_for (by rfl) (si_any se_var) sg_name (sss_cons (ss_if (st_in (se_ix se_var se_int) (se_lst true (sa_cons se_str (sa_cons se_str sa_nil)))) (sss_cons (ss_set (se_add true (se_tup (sa_cons (se_ix se_var se_int) (sa_cons (se_dget se_var (se_ix se_var se_int)) sa_nil))) (se_sl true se_var (so_so se_int) so_no)))
  sss_nil) sss_nil)
  (sss_cons (ss_expr (se_append se_var se_var))
  sss_nil)))
  (sss_cons (ss_expr (se_append se_var (se_tup (sa_cons se_var (sa_cons (se_fz se_var) sa_nil)))))
  sss_nil))))
  (sss_cons (ss_ret (se_tup (sa_cons (se_lc (own := [("_law_box", 7)]) true (by rfl) (by rfl) (si_any (se_ix se_var se_int)) (by show BlkOk N__law_renamed (defScope (top 55)) _ _; exact ⟨rfl, by decide +kernel, by decide +kernel, by decide +kernel, by decide +kernel⟩) sg_name (by decide) sts_nil (se_dget se_var se_var)) (sa_cons (se_fz se_var) sa_nil))))
  sss_nil))))
theorem sc__law_renamed : FnScope N__law_renamed ["_law_program_here"] (defScope (top 55)) := ⟨rfl, rfl, rfl, by decide +kernel, rfl, by decide +kernel, by decide +kernel⟩
theorem dv__law_no_program {g : Gd} (T : Tx g) (D_framed : DefZ g "framed" 6 sp_framed) : SSs (cxt g N__law_no_program (defScope (top 56)) 6) (defBody (top 56)) b__law_no_program :=
  (sss_cons (ss_try (sss_cons (ss_expr (se_call D_framed (sa_cons se_var (sa_cons se_non (sa_cons se_non sa_nil)))))
  sss_nil) (.plain (tz_one T.g_NoProgram T.ex_NoProgram) (fun c fs => (sss_cons (ss_ret se_bl)
  sss_nil)) HdZ.nil))
  (sss_cons (ss_ret se_bl)
  sss_nil))
theorem sc__law_no_program : FnScope N__law_no_program ["_law_thing"] (defScope (top 56)) := ⟨rfl, rfl, rfl, by decide +kernel, rfl, by decide +kernel, by decide +kernel⟩
theorem dv_law {g : Gd} (T : Tx g) (D__law_no_program : DefZ g "_law_no_program" 7 sp__law_no_program) (D__law_pool : DefZ g "_law_pool" 1 sp__law_pool) (D__law_program : DefZ g "_law_program" 5 sp__law_program) (D__law_take : DefZ g "_law_take" 1 sp__law_take) (D__law_renamed : DefZ g "_law_renamed" 1 sp__law_renamed) (D__law_wish : DefZ g "_law_wish" 3 sp__law_wish) (D__law_right : DefZ g "_law_right" 8 sp__law_right) : SSs (cxt g N_law (defScope (top 57)) 8) (defBody (top 57)) b_law :=
  (sss_cons (ss_if (SW.st (sw_or (st_not (st_val (se_call D__law_no_program (sa_cons se_non sa_nil)))) (sw_or1 (st_not (st_val (se_call D__law_no_program (sa_cons (se_tup (sa_cons (se_lst true sa_nil) (sa_cons (se_lst true sa_nil) sa_nil))) sa_nil))))))) (sss_cons (ss_ret se_bl)
  sss_nil) sss_nil)
  (sss_cons (ss_for (by rfl) (si_range1 (by rfl) T.f_range (sa_cons (se_max se_int (se_min (se_len se_var T.f_len) se_int T.f_min) T.f_max) sa_nil)) sg_name (sss_cons (ss_set (se_call D__law_pool (sa_cons se_var (sa_cons se_var sa_nil))))
  (sss_cons (ss_set (se_call D__law_program (sa_cons se_var (sa_cons se_int (sa_cons se_int (sa_cons se_int sa_nil))))))
  (sss_cons (ss_if (st_eq 8 (se_call D__law_take (sa_cons se_var (sa_cons se_int sa_nil))) se_int) (sss_cons (ss_set (se_call D__law_renamed (sa_cons se_var sa_nil)))
  sss_nil) sss_nil)
  (sss_cons (ss_set (se_mul true se_int (se_len (se_ix se_var se_int) T.f_len)))
  (sss_cons (ss_setLc (own := [("_law_turn", 6)]) true (by rfl) (by rfl) (si_range1 (by rfl) T.f_range (sa_cons (se_call D__law_take (sa_cons se_var (sa_cons se_int sa_nil))) sa_nil)) (by show BlkOk N_law (defScope (top 57)) _ _; exact ⟨rfl, by decide +kernel, by decide +kernel, by decide +kernel, by decide +kernel⟩) sg_name (by decide) sts_nil (se_call D__law_wish (sa_cons se_var (sa_cons se_var sa_nil))))
  (sss_cons (ss_set (se_tup (sa_cons se_str (sa_cons (se_add true (se_tup (sa_cons se_int sa_nil)) (se_mul true (se_tup (sa_cons se_int sa_nil)) se_var)) sa_nil))))
  (sss_cons (ss_set (se_lst true (sa_cons se_non (sa_cons (se_tup sa_nil) (sa_cons (se_add true se_var (se_lst true (sa_cons se_non sa_nil))) (sa_cons (se_add true se_var (se_lst true (sa_cons (se_tup (sa_cons se_str (sa_cons (se_mul true (se_tup (sa_cons se_int sa_nil)) se_var) sa_nil))) sa_nil))) (sa_cons (se_lst true (sa_cons (se_tup (sa_cons se_str (sa_cons (se_mul true (se_lst true (sa_cons se_int sa_nil)) (se_add true se_var se_int)) sa_nil))) sa_nil)) sa_nil)))))))
  (sss_cons (ss_set (se_add true se_var (se_lst true (sa_cons (se_mul true (se_lst true (sa_cons se_var sa_nil)) se_int) (sa_cons (se_mul true (se_lst true (sa_cons se_var sa_nil)) se_int) (sa_cons (se_tupleOf se_var T.f_tuple) (sa_cons se_str sa_nil)))))))
  (sss_cons (ss_setLc (own := [("_law_name", 10), ("_law_rows", 11)]) true (by rfl) (by rfl) (si_any (se_ix se_var se_int)) (by show BlkOk N_law (defScope (top 57)) _ _; exact ⟨rfl, by decide +kernel, by decide +kernel, by decide +kernel, by decide +kernel⟩) (sg_tup (by rfl) (sgs_cons sg_name (sgs_cons sg_name sgs_nil))) (by decide) sts_nil se_var)
  (sss_cons (ss_set (se_lst true (sa_cons (se_ix se_var (se_neg se_int)) (sa_cons (se_ix se_var (se_call D__law_take (sa_cons se_var (sa_cons (se_len se_var T.f_len) sa_nil)))) (sa_cons se_str (sa_cons se_non (sa_cons (se_ix se_var se_int) (sa_cons (se_lst true (sa_cons (se_ix se_var (se_neg se_int)) sa_nil)) sa_nil))))))))
  (sss_cons (ss_set (se_ix se_var (se_call D__law_take (sa_cons se_var (sa_cons se_int sa_nil)))))
  (sss_cons (ss_for (by rfl) (si_any (se_lst true (sa_cons (se_tup (sa_cons (se_ix se_var (se_neg se_int)) (sa_cons se_var sa_nil))) (sa_cons (se_tup (sa_cons se_var (sa_cons se_var sa_nil))) (sa_cons (se_tup (sa_cons se_var (sa_cons (se_ix se_var (se_call D__law_take (sa_cons se_var (sa_cons se_int sa_nil)))) sa_nil))) sa_nil))))) (sg_tup (by rfl) (sgs_cons sg_name (sgs_cons sg_name sgs_nil))) (sss_cons (ss_if (st_not (st_val (se_call D__law_right (sa_cons se_var (sa_cons se_var (sa_cons se_var sa_nil)))))) (sss_cons (ss_ret se_bl)
  sss_nil) sss_nil)
  sss_nil))
  sss_nil)))))))))))))
  (sss_cons (ss_ret se_bl)
  sss_nil)))
theorem sc_law : FnScope N_law ["_law_script"] (defScope (top 57)) := ⟨rfl, rfl, rfl, by decide +kernel, rfl, by decide +kernel, by decide +kernel⟩
end K58


set_option Elab.async false
set_option linter.all false
set_option autoImplicit false
set_option maxRecDepth 100000
set_option maxHeartbeats 0
/-! the head, the chain of defs, the end -/
namespace K58
open PySem PySem.Spec PyProof.Rows L2 Z
def nm : Nat → Str
  | 0 => "TreeError"
  | 1 => "NoProgram"
  | 2 => "NoWishes"
  | 3 => "NoPart"
  | 4 => "TooMany"
  | 100 => "is_name"
  | 101 => "is_part"
  | _ => ""
def adr (K : PySem.W.Frag) (k : Nat) : Addr := He.ga K (nm k)
def fa0 (K : PySem.W.Frag) : Bool :=
  (ckFree K "all") &&
  ((ckFree K "bool") &&
  ((ckFree K "enumerate") &&
  ((ckFree K "int") &&
  ((ckFree K "isinstance") &&
  ((ckFree K "len") &&
  ((ckFree K "list") &&
  ((ckFree K "max") &&
  ((ckFree K "min") &&
  ((ckFree K "range") &&
  ((ckFree K "repr") &&
  ((ckFree K "str"))))))))))))
def fa1 (K : PySem.W.Frag) : Bool :=
  (ckFree K "tuple") &&
  ((ckGlo K "NoPart") &&
  ((ckGlo K "NoProgram") &&
  ((ckGlo K "NoWishes") &&
  ((ckGlo K "TooMany") &&
  ((ckGlo K "TreeError") &&
  ((ckStr K "LETTERS" "abcdefghijklmnopqrstuvwxyz") &&
  ((ckInt K "MOST_BOXES" 8) &&
  ((ckInt K "MOST_CALL_WISHES" 12) &&
  ((ckInt K "MOST_FRAMED_BOXES" 4) &&
  ((ckInt K "MOST_FRAMED_PARTS" 5) &&
  ((ckInt K "MOST_LETTERS" 6))))))))))))
def fa2 (K : PySem.W.Frag) : Bool :=
  (ckInt K "MOST_PARTS" 6) &&
  ((ckInt K "MOST_ROADS" 4) &&
  ((ckInt K "MOST_ROWS" 24) &&
  ((ckTup K "WORDS" [(PyData.str "least"), (PyData.str "above")]) &&
  ((ckGlo K "is_name") &&
  ((ckGlo K "is_part") &&
  ((ckGlo K "is_whole") &&
  ((ckGlo K "is_line") &&
  ((ckGlo K "is_wish") &&
  ((ckGlo K "is_name") &&
  ((ckGlo K "is_row_number") &&
  ((ckGlo K "are_roads"))))))))))))
def fa3 (K : PySem.W.Frag) : Bool :=
  (ckGlo K "is_box") &&
  ((ckGlo K "is_row") &&
  ((ckGlo K "name_of") &&
  ((ckGlo K "is_part") &&
  ((ckGlo K "wrong_thing") &&
  ((ckGlo K "look_at_list") &&
  ((ckGlo K "look_at") &&
  ((ckGlo K "part_numbers") &&
  ((ckGlo K "look_at_size") &&
  ((ckGlo K "look_at_call") &&
  ((ckGlo K "letters_without") &&
  ((ckGlo K "wider_row"))))))))))))
def fa4 (K : PySem.W.Frag) : Bool :=
  (ckGlo K "claim_of") &&
  ((ckGlo K "first_rows") &&
  ((ckGlo K "framed") &&
  ((ckGlo K "_law_pool") &&
  ((ckGlo K "_law_take") &&
  ((ckGlo K "_law_line") &&
  ((ckGlo K "_law_wish") &&
  ((ckGlo K "_law_row") &&
  ((ckGlo K "_law_program") &&
  ((ckGlo K "_law_wider") &&
  ((ckGlo K "_law_free") &&
  ((ckGlo K "_law_made"))))))))))))
def fa5 (K : PySem.W.Frag) : Bool :=
  (ckGlo K "_law_is_wish") &&
  ((ckGlo K "_law_due") &&
  ((ckGlo K "_law_told") &&
  ((ckGlo K "_law_right") &&
  ((ckGlo K "_law_renamed") &&
  ((ckGlo K "_law_no_program") &&
  ((ckGlo K "law") &&
  ((ckGlo K "TreeError") &&
  ((ckGlo K "NoProgram") &&
  ((ckGlo K "NoWishes") &&
  ((ckGlo K "NoPart") &&
  ((ckGlo K "TooMany"))))))))))))
def fa6 (K : PySem.W.Frag) : Bool :=
  (oexB K nVE (He.ga K "NoProgram")) &&
  (((He.Fa.meth "NoProgram" "__init__").ok K) &&
  (((["part", "number", "row"] : List Str).all fun f => decide (PySem.W.findIn K (.ref (He.ga K "NoProgram")) f = some none)) &&
  ((oexB K nKE (He.ga K "NoPart")) &&
  (((He.Fa.meth "NoPart" "__init__").ok K) &&
  (((["name"] : List Str).all fun f => decide (PySem.W.findIn K (.ref (He.ga K "NoPart")) f = some none)) &&
  ((oexB K nOE (He.ga K "TooMany")) &&
  (((He.Fa.meth "TooMany" "__init__").ok K) &&
  (((["many"] : List Str).all fun f => decide (PySem.W.findIn K (.ref (He.ga K "TooMany")) f = some none)) &&
  ((ckFree K "KeyError") &&
  ((ckVal (PySem.W.findCls K (.type "KeyError") (.type "type") "__init__") (.builtin "KeyError.__init__")) &&
  ((ckFree K "OverflowError"))))))))))))
def fa7 (K : PySem.W.Frag) : Bool :=
  (ckVal (PySem.W.findCls K (.type "OverflowError") (.type "type") "__init__") (.builtin "OverflowError.__init__")) &&
  ((decide (PySem.W.specialIn K (.ref (He.ga K "TreeError")) "__getattribute__" = some (some (.builtin "type.__getattribute__")))) &&
  ((PySem.W.readsIn K (He.ga K "TreeError") (.type "type")) &&
  ((ckVal (PySem.W.findCls K (.ref (He.ga K "TreeError")) (.type "type") "__init__") (.builtin "ValueError.__init__")) &&
  ((ex0B K mroVE "ValueError.__new__" (He.ga K "NoWishes")) &&
  (((List.range 5).all fun c => match tst_NoPart c with | some b => decide (PySem.W.exmOne K (.ref (adr K c)) (.ref (adr K 3)) = some b) | none => true) &&
  (((List.range 5).all fun c => match tst_NoPart c with | some b => decide (PySem.W.kitOne K (.ref (adr K c)) (.ref (adr K 3)) = some b) | none => true) &&
  (((List.range 5).all fun c => match tst_NoProgram c with | some b => decide (PySem.W.exmOne K (.ref (adr K c)) (.ref (adr K 1)) = some b) | none => true) &&
  (((List.range 5).all fun c => match tst_NoProgram c with | some b => decide (PySem.W.kitOne K (.ref (adr K c)) (.ref (adr K 1)) = some b) | none => true) &&
  (((List.range 5).all fun c => match tst_NoWishes c with | some b => decide (PySem.W.exmOne K (.ref (adr K c)) (.ref (adr K 2)) = some b) | none => true) &&
  (((List.range 5).all fun c => match tst_NoWishes c with | some b => decide (PySem.W.kitOne K (.ref (adr K c)) (.ref (adr K 2)) = some b) | none => true) &&
  (((List.range 5).all fun c => match tst_TooMany c with | some b => decide (PySem.W.exmOne K (.ref (adr K c)) (.ref (adr K 4)) = some b) | none => true))))))))))))
def fa8 (K : PySem.W.Frag) : Bool :=
  ((List.range 5).all fun c => match tst_TooMany c with | some b => decide (PySem.W.kitOne K (.ref (adr K c)) (.ref (adr K 4)) = some b) | none => true) &&
  (((List.range 5).all fun c => match tst_TreeError c with | some b => decide (PySem.W.exmOne K (.ref (adr K c)) (.ref (adr K 0)) = some b) | none => true) &&
  (((List.range 5).all fun c => match tst_TreeError c with | some b => decide (PySem.W.kitOne K (.ref (adr K c)) (.ref (adr K 0)) = some b) | none => true) &&
  (((List.range 5).all fun c => askB K (adr K c)) &&
  (((List.range 5).all fun c => (["many", "name", "number", "part", "row"] : List Str).all fun f => decide (PySem.W.findIn K (.ref (adr K c)) f = some none))))))
def fa (K : PySem.W.Frag) : Bool := fa0 K && (fa1 K && (fa2 K && (fa3 K && (fa4 K && (fa5 K && (fa6 K && (fa7 K && (fa8 K))))))))
def dd_is_whole : He.DefD := ⟨("is_whole", none), "is_whole", "is_whole", defArgs (top 7), defBody (top 7), defScope (top 7), [], []⟩
def dd_is_line : He.DefD := ⟨("is_line", none), "is_line", "is_line", defArgs (top 10), defBody (top 10), defScope (top 10), [], []⟩
def dd_is_wish : He.DefD := ⟨("is_wish", none), "is_wish", "is_wish", defArgs (top 11), defBody (top 11), defScope (top 11), [], []⟩
def dd_is_name : He.DefD := ⟨("is_name", none), "is_name", "is_name", defArgs (top 19), defBody (top 19), defScope (top 19), [], []⟩
def dd_is_row_number : He.DefD := ⟨("is_row_number", none), "is_row_number", "is_row_number", defArgs (top 20), defBody (top 20), defScope (top 20), [], []⟩
def dd_are_roads : He.DefD := ⟨("are_roads", none), "are_roads", "are_roads", defArgs (top 21), defBody (top 21), defScope (top 21), [], []⟩
def dd_is_box : He.DefD := ⟨("is_box", none), "is_box", "is_box", defArgs (top 22), defBody (top 22), defScope (top 22), [], []⟩
def dd_is_row : He.DefD := ⟨("is_row", none), "is_row", "is_row", defArgs (top 23), defBody (top 23), defScope (top 23), [], []⟩
def dd_name_of : He.DefD := ⟨("name_of", none), "name_of", "name_of", defArgs (top 25), defBody (top 25), defScope (top 25), [], []⟩
def dd_is_part : He.DefD := ⟨("is_part", none), "is_part", "is_part", defArgs (top 26), defBody (top 26), defScope (top 26), [], []⟩
def dd_wrong_thing : He.DefD := ⟨("wrong_thing", none), "wrong_thing", "wrong_thing", defArgs (top 24), defBody (top 24), defScope (top 24), [], []⟩
def dd_look_at_list : He.DefD := ⟨("look_at_list", none), "look_at_list", "look_at_list", defArgs (top 27), defBody (top 27), defScope (top 27), [], []⟩
def dd_look_at : He.DefD := ⟨("look_at", none), "look_at", "look_at", defArgs (top 28), defBody (top 28), defScope (top 28), [], []⟩
def dd_part_numbers : He.DefD := ⟨("part_numbers", none), "part_numbers", "part_numbers", defArgs (top 29), defBody (top 29), defScope (top 29), [], []⟩
def dd_look_at_size : He.DefD := ⟨("look_at_size", none), "look_at_size", "look_at_size", defArgs (top 34), defBody (top 34), defScope (top 34), [], []⟩
def dd_look_at_call : He.DefD := ⟨("look_at_call", none), "look_at_call", "look_at_call", defArgs (top 35), defBody (top 35), defScope (top 35), [], []⟩
def dd_letters_without : He.DefD := ⟨("letters_without", none), "letters_without", "letters_without", defArgs (top 36), defBody (top 36), defScope (top 36), [], []⟩
def dd_wider_row : He.DefD := ⟨("wider_row", none), "wider_row", "wider_row", defArgs (top 37), defBody (top 37), defScope (top 37), [], []⟩
def dd_claim_of : He.DefD := ⟨("claim_of", none), "claim_of", "claim_of", defArgs (top 38), defBody (top 38), defScope (top 38), [], []⟩
def dd_first_rows : He.DefD := ⟨("first_rows", none), "first_rows", "first_rows", defArgs (top 39), defBody (top 39), defScope (top 39), [], []⟩
def dd_framed : He.DefD := ⟨("framed", none), "framed", "framed", defArgs (top 40), defBody (top 40), defScope (top 40), [], []⟩
def dd__law_pool : He.DefD := ⟨("_law_pool", none), "_law_pool", "_law_pool", defArgs (top 42), defBody (top 42), defScope (top 42), [], []⟩
def dd__law_take : He.DefD := ⟨("_law_take", none), "_law_take", "_law_take", defArgs (top 43), defBody (top 43), defScope (top 43), [], []⟩
def dd__law_line : He.DefD := ⟨("_law_line", none), "_law_line", "_law_line", defArgs (top 44), defBody (top 44), defScope (top 44), [], []⟩
def dd__law_wish : He.DefD := ⟨("_law_wish", none), "_law_wish", "_law_wish", defArgs (top 45), defBody (top 45), defScope (top 45), [], []⟩
def dd__law_row : He.DefD := ⟨("_law_row", none), "_law_row", "_law_row", defArgs (top 46), defBody (top 46), defScope (top 46), [], []⟩
def dd__law_program : He.DefD := ⟨("_law_program", none), "_law_program", "_law_program", defArgs (top 47), defBody (top 47), defScope (top 47), [], []⟩
def dd__law_wider : He.DefD := ⟨("_law_wider", none), "_law_wider", "_law_wider", defArgs (top 48), defBody (top 48), defScope (top 48), [], []⟩
def dd__law_free : He.DefD := ⟨("_law_free", none), "_law_free", "_law_free", defArgs (top 49), defBody (top 49), defScope (top 49), [], []⟩
def dd__law_made : He.DefD := ⟨("_law_made", none), "_law_made", "_law_made", defArgs (top 50), defBody (top 50), defScope (top 50), [], []⟩
def dd__law_is_wish : He.DefD := ⟨("_law_is_wish", none), "_law_is_wish", "_law_is_wish", defArgs (top 51), defBody (top 51), defScope (top 51), [], []⟩
def dd__law_due : He.DefD := ⟨("_law_due", none), "_law_due", "_law_due", defArgs (top 52), defBody (top 52), defScope (top 52), [], []⟩
def dd__law_told : He.DefD := ⟨("_law_told", none), "_law_told", "_law_told", defArgs (top 53), defBody (top 53), defScope (top 53), [], []⟩
def dd__law_right : He.DefD := ⟨("_law_right", none), "_law_right", "_law_right", defArgs (top 54), defBody (top 54), defScope (top 54), [], []⟩
def dd__law_renamed : He.DefD := ⟨("_law_renamed", none), "_law_renamed", "_law_renamed", defArgs (top 55), defBody (top 55), defScope (top 55), [], []⟩
def dd__law_no_program : He.DefD := ⟨("_law_no_program", none), "_law_no_program", "_law_no_program", defArgs (top 56), defBody (top 56), defScope (top 56), [], []⟩
def dd_law : He.DefD := ⟨("law", none), "law", "law", defArgs (top 57), defBody (top 57), defScope (top 57), [], []⟩
def dd_NoProgram : He.DefD := ⟨("NoProgram", some "__init__"), "__init__", "NoProgram.__init__", defArgs (inClass (top 2) 0), defBody (inClass (top 2) 0), defScope (inClass (top 2) 0), [], []⟩
def dd_NoPart : He.DefD := ⟨("NoPart", some "__init__"), "__init__", "NoPart.__init__", defArgs (inClass (top 4) 0), defBody (inClass (top 4) 0), defScope (inClass (top 4) 0), [], []⟩
def dd_TooMany : He.DefD := ⟨("TooMany", some "__init__"), "__init__", "TooMany.__init__", defArgs (inClass (top 5) 0), defBody (inClass (top 5) 0), defScope (inClass (top 5) 0), [], []⟩
def fnL : List He.DefD := [dd_is_whole, dd_is_line, dd_is_wish, dd_is_name, dd_is_row_number, dd_are_roads, dd_is_box, dd_is_row, dd_name_of, dd_is_part, dd_wrong_thing, dd_look_at_list, dd_look_at, dd_part_numbers, dd_look_at_size, dd_look_at_call, dd_letters_without, dd_wider_row, dd_claim_of, dd_first_rows, dd_framed, dd__law_pool, dd__law_take, dd__law_line, dd__law_wish, dd__law_row, dd__law_program, dd__law_wider, dd__law_free, dd__law_made, dd__law_is_wish, dd__law_due, dd__law_told, dd__law_right, dd__law_renamed, dd__law_no_program, dd_law, dd_NoProgram, dd_NoPart, dd_TooMany]
def names : List Str := (["TreeError", "NoProgram", "NoWishes", "NoPart", "TooMany", "is_whole", "WORDS", "is_line", "is_wish", "LETTERS", "MOST_LETTERS", "MOST_BOXES", "MOST_PARTS", "MOST_ROWS", "MOST_ROADS", "is_name", "is_row_number", "are_roads", "is_box", "is_row", "wrong_thing", "name_of", "is_part", "look_at_list", "look_at", "part_numbers", "MOST_FRAMED_BOXES", "MOST_FRAMED_PARTS", "MOST_CALL_WISHES", "look_at_size"] : List Str) ++ (["look_at_call", "letters_without", "wider_row", "claim_of", "first_rows", "framed", "_law_pool", "_law_take", "_law_line", "_law_wish", "_law_row", "_law_program", "_law_wider", "_law_free", "_law_made", "_law_is_wish", "_law_due", "_law_told", "_law_right", "_law_renamed", "_law_no_program"] : List Str)
abbrev R : PySem.W.OpenRow := PySem.W.OpenLaw.row PySem.Challenge.rw_coveredtree_k58_programs_framed
abbrev qv : Program := PySem.W.view R.prog [57]
abbrev hk : PySem.W.Hook := hookZ 5 fa fnL
def ob (s : PySem.W.SharedT) : He.AlD := obsZG 5 fa fnL (HandSHeadRun.getT s)
theorem ob_eq (s : PySem.W.SharedT) : ob s = hk.obs s.abs := obsZG_eq (HandSHeadRun.getT_eq s)
theorem run (w : World) : HandSHeadRun.RunEq R qv hk ob 4000 names w := by
  intro os
  kernel_rfl
theorem tst_NoPart_lt {c : Nat} {b : Bool} (h : tst_NoPart c = some b) : c < 5 := by
  unfold tst_NoPart at h
  split at h <;> first | omega | cases h
theorem tst_NoProgram_lt {c : Nat} {b : Bool} (h : tst_NoProgram c = some b) : c < 5 := by
  unfold tst_NoProgram at h
  split at h <;> first | omega | cases h
theorem tst_NoWishes_lt {c : Nat} {b : Bool} (h : tst_NoWishes c = some b) : c < 5 := by
  unfold tst_NoWishes at h
  split at h <;> first | omega | cases h
theorem tst_TooMany_lt {c : Nat} {b : Bool} (h : tst_TooMany c = some b) : c < 5 := by
  unfold tst_TooMany at h
  split at h <;> first | omega | cases h
theorem tst_TreeError_lt {c : Nat} {b : Bool} (h : tst_TreeError c = some b) : c < 5 := by
  unfold tst_TreeError at h
  split at h <;> first | omega | cases h
theorem sc_NoProgram : FnScope ["self", "part", "number", "row"] ["self", "part", "number", "row"] (defScope (inClass (top 2) 0)) := ⟨rfl, rfl, rfl, by decide +kernel, rfl, by decide +kernel, by decide +kernel⟩
theorem ok_NoProgram {P : Program} {w : World} {K : PySem.W.Frag} {mg : Str → Option Value} {base : Heap} {f : Addr} {fd : FuncData} (F : Fun K "__init__" "NoProgram.__init__" (inClass (top 2) 0) f fd) (mg_b : mg "TreeError" = some (.ref (He.ga K "TreeError"))) (c_sp : PySem.W.specialIn K (.ref (He.ga K "TreeError")) "__getattribute__" = some (some (.builtin "type.__getattribute__"))) (c_rd : PySem.W.readsIn K (He.ga K "TreeError") (.type "type") = true) (c_fc : PySem.W.findCls K (.ref (He.ga K "TreeError")) (.type "type") "__init__" = some (.val (.builtin "ValueError.__init__"))) :
    FnOk P w K mg base (L2.CX P w) 1 f fd ["self", "part", "number", "row"] (spI K nVE ["part", "number", "row"]) :=
  fn_init (m := "no program") F sc_NoProgram rfl rfl fun qual g cdv A outer s H E => ⟨ps_expr (pe_zinitR (T := He.ga K "TreeError") rfl mg_b c_sp c_rd c_fc rfl (pa_cons (pe_var (i := 0) rfl (.inl rfl)) (pa_cons pe_str pa_nil))), (pss_zsts (i := 1) rfl rfl (.inl rfl) (.inl rfl) (pss_zsts (i := 2) rfl rfl (.inl rfl) (.inl rfl) (pss_zsts (i := 3) rfl rfl (.inl rfl) (.inl rfl) pss_nil)))⟩
theorem sc_NoPart : FnScope ["self", "name"] ["self", "name"] (defScope (inClass (top 4) 0)) := ⟨rfl, rfl, rfl, by decide +kernel, rfl, by decide +kernel, by decide +kernel⟩
theorem ok_NoPart {P : Program} {w : World} {K : PySem.W.Frag} {mg : Str → Option Value} {base : Heap} {f : Addr} {fd : FuncData} (F : Fun K "__init__" "NoPart.__init__" (inClass (top 4) 0) f fd) (mg_b : mg "KeyError" = none) (c_fc : PySem.W.findCls K (.type "KeyError") (.type "type") "__init__" = some (.val (.builtin "KeyError.__init__"))) :
    FnOk P w K mg base (L2.CX P w) 1 f fd ["self", "name"] (spI K nKE ["name"]) :=
  fn_init (m := "no such name") F sc_NoPart rfl rfl fun qual g cdv A outer s H E => ⟨ps_expr (pe_zinit rfl mg_b (by decide +kernel) (by kernel_rfl) (by decide +kernel) c_fc rfl (pa_cons (pe_var (i := 0) rfl (.inl rfl)) (pa_cons pe_str pa_nil))), (pss_zsts (i := 1) rfl rfl (.inl rfl) (.inl rfl) pss_nil)⟩
theorem sc_TooMany : FnScope ["self", "many"] ["self", "many"] (defScope (inClass (top 5) 0)) := ⟨rfl, rfl, rfl, by decide +kernel, rfl, by decide +kernel, by decide +kernel⟩
theorem ok_TooMany {P : Program} {w : World} {K : PySem.W.Frag} {mg : Str → Option Value} {base : Heap} {f : Addr} {fd : FuncData} (F : Fun K "__init__" "TooMany.__init__" (inClass (top 5) 0) f fd) (mg_b : mg "OverflowError" = none) (c_fc : PySem.W.findCls K (.type "OverflowError") (.type "type") "__init__" = some (.val (.builtin "OverflowError.__init__"))) :
    FnOk P w K mg base (L2.CX P w) 1 f fd ["self", "many"] (spI K nOE ["many"]) :=
  fn_init (m := "too many") F sc_TooMany rfl rfl fun qual g cdv A outer s H E => ⟨ps_expr (pe_zinit rfl mg_b (by decide +kernel) (by kernel_rfl) (by decide +kernel) c_fc rfl (pa_cons (pe_var (i := 0) rfl (.inl rfl)) (pa_cons pe_str pa_nil))), (pss_zsts (i := 1) rfl rfl (.inl rfl) (.inl rfl) pss_nil)⟩
section
variable {P : Program} {w : World} {K : PySem.W.Frag} {h : Heap} {mg : Str → Option Value} {f : Addr}
theorem chain (X : K.In h) (G : h.Ns mainGlobals mg) (hfa : mg ("law" : Str) = some (.ref f)) (c : SaysZ fa fnL K) :
    ∃ fd : FuncData, (∀ (s : Shared) (v : Value), BindsTo s fd ⟨[v], []⟩ [("_law_script", v)]) ∧ ∀ base : Heap, K.In base → base.Ns mainGlobals mg → FnZ ⟨P, w, K, mg, base, adr K⟩ 9 f fd ["_law_script"] sp_law := by
  have cc := c.fact
  unfold fa at cc
  obtain ⟨k0, cc⟩ := Bool.and_eq_true_iff.mp cc
  obtain ⟨k1, cc⟩ := Bool.and_eq_true_iff.mp cc
  obtain ⟨k2, cc⟩ := Bool.and_eq_true_iff.mp cc
  obtain ⟨k3, cc⟩ := Bool.and_eq_true_iff.mp cc
  obtain ⟨k4, cc⟩ := Bool.and_eq_true_iff.mp cc
  obtain ⟨k5, cc⟩ := Bool.and_eq_true_iff.mp cc
  obtain ⟨k6, cc⟩ := Bool.and_eq_true_iff.mp cc
  obtain ⟨k7, cc⟩ := Bool.and_eq_true_iff.mp cc
  have k8 := cc
  unfold fa0 at k0
  obtain ⟨c_f_all, k0⟩ := Bool.and_eq_true_iff.mp k0
  obtain ⟨c_f_bool, k0⟩ := Bool.and_eq_true_iff.mp k0
  obtain ⟨c_f_enumerate, k0⟩ := Bool.and_eq_true_iff.mp k0
  obtain ⟨c_f_int, k0⟩ := Bool.and_eq_true_iff.mp k0
  obtain ⟨c_f_isinstance, k0⟩ := Bool.and_eq_true_iff.mp k0
  obtain ⟨c_f_len, k0⟩ := Bool.and_eq_true_iff.mp k0
  obtain ⟨c_f_list, k0⟩ := Bool.and_eq_true_iff.mp k0
  obtain ⟨c_f_max, k0⟩ := Bool.and_eq_true_iff.mp k0
  obtain ⟨c_f_min, k0⟩ := Bool.and_eq_true_iff.mp k0
  obtain ⟨c_f_range, k0⟩ := Bool.and_eq_true_iff.mp k0
  obtain ⟨c_f_repr, k0⟩ := Bool.and_eq_true_iff.mp k0
  have c_f_str := k0
  unfold fa1 at k1
  obtain ⟨c_f_tuple, k1⟩ := Bool.and_eq_true_iff.mp k1
  obtain ⟨c_g_NoPart, k1⟩ := Bool.and_eq_true_iff.mp k1
  obtain ⟨c_g_NoProgram, k1⟩ := Bool.and_eq_true_iff.mp k1
  obtain ⟨c_g_NoWishes, k1⟩ := Bool.and_eq_true_iff.mp k1
  obtain ⟨c_g_TooMany, k1⟩ := Bool.and_eq_true_iff.mp k1
  obtain ⟨c_g_TreeError, k1⟩ := Bool.and_eq_true_iff.mp k1
  obtain ⟨c_m_LETTERS, k1⟩ := Bool.and_eq_true_iff.mp k1
  obtain ⟨c_m_MOST_BOXES, k1⟩ := Bool.and_eq_true_iff.mp k1
  obtain ⟨c_m_MOST_CALL_WISHES, k1⟩ := Bool.and_eq_true_iff.mp k1
  obtain ⟨c_m_MOST_FRAMED_BOXES, k1⟩ := Bool.and_eq_true_iff.mp k1
  obtain ⟨c_m_MOST_FRAMED_PARTS, k1⟩ := Bool.and_eq_true_iff.mp k1
  have c_m_MOST_LETTERS := k1
  unfold fa2 at k2
  obtain ⟨c_m_MOST_PARTS, k2⟩ := Bool.and_eq_true_iff.mp k2
  obtain ⟨c_m_MOST_ROADS, k2⟩ := Bool.and_eq_true_iff.mp k2
  obtain ⟨c_m_MOST_ROWS, k2⟩ := Bool.and_eq_true_iff.mp k2
  obtain ⟨c_m_WORDS, k2⟩ := Bool.and_eq_true_iff.mp k2
  obtain ⟨c_v_is_name, k2⟩ := Bool.and_eq_true_iff.mp k2
  obtain ⟨c_v_is_part, k2⟩ := Bool.and_eq_true_iff.mp k2
  obtain ⟨c_d_is_whole, k2⟩ := Bool.and_eq_true_iff.mp k2
  obtain ⟨c_d_is_line, k2⟩ := Bool.and_eq_true_iff.mp k2
  obtain ⟨c_d_is_wish, k2⟩ := Bool.and_eq_true_iff.mp k2
  obtain ⟨c_d_is_name, k2⟩ := Bool.and_eq_true_iff.mp k2
  obtain ⟨c_d_is_row_number, k2⟩ := Bool.and_eq_true_iff.mp k2
  have c_d_are_roads := k2
  unfold fa3 at k3
  obtain ⟨c_d_is_box, k3⟩ := Bool.and_eq_true_iff.mp k3
  obtain ⟨c_d_is_row, k3⟩ := Bool.and_eq_true_iff.mp k3
  obtain ⟨c_d_name_of, k3⟩ := Bool.and_eq_true_iff.mp k3
  obtain ⟨c_d_is_part, k3⟩ := Bool.and_eq_true_iff.mp k3
  obtain ⟨c_d_wrong_thing, k3⟩ := Bool.and_eq_true_iff.mp k3
  obtain ⟨c_d_look_at_list, k3⟩ := Bool.and_eq_true_iff.mp k3
  obtain ⟨c_d_look_at, k3⟩ := Bool.and_eq_true_iff.mp k3
  obtain ⟨c_d_part_numbers, k3⟩ := Bool.and_eq_true_iff.mp k3
  obtain ⟨c_d_look_at_size, k3⟩ := Bool.and_eq_true_iff.mp k3
  obtain ⟨c_d_look_at_call, k3⟩ := Bool.and_eq_true_iff.mp k3
  obtain ⟨c_d_letters_without, k3⟩ := Bool.and_eq_true_iff.mp k3
  have c_d_wider_row := k3
  unfold fa4 at k4
  obtain ⟨c_d_claim_of, k4⟩ := Bool.and_eq_true_iff.mp k4
  obtain ⟨c_d_first_rows, k4⟩ := Bool.and_eq_true_iff.mp k4
  obtain ⟨c_d_framed, k4⟩ := Bool.and_eq_true_iff.mp k4
  obtain ⟨c_d__law_pool, k4⟩ := Bool.and_eq_true_iff.mp k4
  obtain ⟨c_d__law_take, k4⟩ := Bool.and_eq_true_iff.mp k4
  obtain ⟨c_d__law_line, k4⟩ := Bool.and_eq_true_iff.mp k4
  obtain ⟨c_d__law_wish, k4⟩ := Bool.and_eq_true_iff.mp k4
  obtain ⟨c_d__law_row, k4⟩ := Bool.and_eq_true_iff.mp k4
  obtain ⟨c_d__law_program, k4⟩ := Bool.and_eq_true_iff.mp k4
  obtain ⟨c_d__law_wider, k4⟩ := Bool.and_eq_true_iff.mp k4
  obtain ⟨c_d__law_free, k4⟩ := Bool.and_eq_true_iff.mp k4
  have c_d__law_made := k4
  unfold fa5 at k5
  obtain ⟨c_d__law_is_wish, k5⟩ := Bool.and_eq_true_iff.mp k5
  obtain ⟨c_d__law_due, k5⟩ := Bool.and_eq_true_iff.mp k5
  obtain ⟨c_d__law_told, k5⟩ := Bool.and_eq_true_iff.mp k5
  obtain ⟨c_d__law_right, k5⟩ := Bool.and_eq_true_iff.mp k5
  obtain ⟨c_d__law_renamed, k5⟩ := Bool.and_eq_true_iff.mp k5
  obtain ⟨c_d__law_no_program, k5⟩ := Bool.and_eq_true_iff.mp k5
  obtain ⟨c_d_law, k5⟩ := Bool.and_eq_true_iff.mp k5
  obtain ⟨c_e_TreeError, k5⟩ := Bool.and_eq_true_iff.mp k5
  obtain ⟨c_e_NoProgram, k5⟩ := Bool.and_eq_true_iff.mp k5
  obtain ⟨c_e_NoWishes, k5⟩ := Bool.and_eq_true_iff.mp k5
  obtain ⟨c_e_NoPart, k5⟩ := Bool.and_eq_true_iff.mp k5
  have c_e_TooMany := k5
  unfold fa6 at k6
  obtain ⟨c_oe_NoProgram, k6⟩ := Bool.and_eq_true_iff.mp k6
  obtain ⟨c_in_NoProgram, k6⟩ := Bool.and_eq_true_iff.mp k6
  obtain ⟨c_no_NoProgram, k6⟩ := Bool.and_eq_true_iff.mp k6
  obtain ⟨c_oe_NoPart, k6⟩ := Bool.and_eq_true_iff.mp k6
  obtain ⟨c_in_NoPart, k6⟩ := Bool.and_eq_true_iff.mp k6
  obtain ⟨c_no_NoPart, k6⟩ := Bool.and_eq_true_iff.mp k6
  obtain ⟨c_oe_TooMany, k6⟩ := Bool.and_eq_true_iff.mp k6
  obtain ⟨c_in_TooMany, k6⟩ := Bool.and_eq_true_iff.mp k6
  obtain ⟨c_no_TooMany, k6⟩ := Bool.and_eq_true_iff.mp k6
  obtain ⟨c_fb_KeyError, k6⟩ := Bool.and_eq_true_iff.mp k6
  obtain ⟨c_fc_KeyError, k6⟩ := Bool.and_eq_true_iff.mp k6
  have c_fb_OverflowError := k6
  unfold fa7 at k7
  obtain ⟨c_fc_OverflowError, k7⟩ := Bool.and_eq_true_iff.mp k7
  obtain ⟨c_sp_TreeError, k7⟩ := Bool.and_eq_true_iff.mp k7
  obtain ⟨c_rd_TreeError, k7⟩ := Bool.and_eq_true_iff.mp k7
  obtain ⟨c_fc_TreeError, k7⟩ := Bool.and_eq_true_iff.mp k7
  obtain ⟨c_x0_NoWishes, k7⟩ := Bool.and_eq_true_iff.mp k7
  obtain ⟨c_ex_NoPart, k7⟩ := Bool.and_eq_true_iff.mp k7
  obtain ⟨c_is_NoPart, k7⟩ := Bool.and_eq_true_iff.mp k7
  obtain ⟨c_ex_NoProgram, k7⟩ := Bool.and_eq_true_iff.mp k7
  obtain ⟨c_is_NoProgram, k7⟩ := Bool.and_eq_true_iff.mp k7
  obtain ⟨c_ex_NoWishes, k7⟩ := Bool.and_eq_true_iff.mp k7
  obtain ⟨c_is_NoWishes, k7⟩ := Bool.and_eq_true_iff.mp k7
  have c_ex_TooMany := k7
  unfold fa8 at k8
  obtain ⟨c_is_TooMany, k8⟩ := Bool.and_eq_true_iff.mp k8
  obtain ⟨c_ex_TreeError, k8⟩ := Bool.and_eq_true_iff.mp k8
  obtain ⟨c_is_TreeError, k8⟩ := Bool.and_eq_true_iff.mp k8
  obtain ⟨c_ask, k8⟩ := Bool.and_eq_true_iff.mp k8
  have c_nof := k8
  obtain ⟨fd_is_whole, F_is_whole⟩ := c.def_ 0 (d := dd_is_whole) rfl
  obtain ⟨fd_is_line, F_is_line⟩ := c.def_ 1 (d := dd_is_line) rfl
  obtain ⟨fd_is_wish, F_is_wish⟩ := c.def_ 2 (d := dd_is_wish) rfl
  obtain ⟨fd_is_name, F_is_name⟩ := c.def_ 3 (d := dd_is_name) rfl
  obtain ⟨fd_is_row_number, F_is_row_number⟩ := c.def_ 4 (d := dd_is_row_number) rfl
  obtain ⟨fd_are_roads, F_are_roads⟩ := c.def_ 5 (d := dd_are_roads) rfl
  obtain ⟨fd_is_box, F_is_box⟩ := c.def_ 6 (d := dd_is_box) rfl
  obtain ⟨fd_is_row, F_is_row⟩ := c.def_ 7 (d := dd_is_row) rfl
  obtain ⟨fd_name_of, F_name_of⟩ := c.def_ 8 (d := dd_name_of) rfl
  obtain ⟨fd_is_part, F_is_part⟩ := c.def_ 9 (d := dd_is_part) rfl
  obtain ⟨fd_wrong_thing, F_wrong_thing⟩ := c.def_ 10 (d := dd_wrong_thing) rfl
  obtain ⟨fd_look_at_list, F_look_at_list⟩ := c.def_ 11 (d := dd_look_at_list) rfl
  obtain ⟨fd_look_at, F_look_at⟩ := c.def_ 12 (d := dd_look_at) rfl
  obtain ⟨fd_part_numbers, F_part_numbers⟩ := c.def_ 13 (d := dd_part_numbers) rfl
  obtain ⟨fd_look_at_size, F_look_at_size⟩ := c.def_ 14 (d := dd_look_at_size) rfl
  obtain ⟨fd_look_at_call, F_look_at_call⟩ := c.def_ 15 (d := dd_look_at_call) rfl
  obtain ⟨fd_letters_without, F_letters_without⟩ := c.def_ 16 (d := dd_letters_without) rfl
  obtain ⟨fd_wider_row, F_wider_row⟩ := c.def_ 17 (d := dd_wider_row) rfl
  obtain ⟨fd_claim_of, F_claim_of⟩ := c.def_ 18 (d := dd_claim_of) rfl
  obtain ⟨fd_first_rows, F_first_rows⟩ := c.def_ 19 (d := dd_first_rows) rfl
  obtain ⟨fd_framed, F_framed⟩ := c.def_ 20 (d := dd_framed) rfl
  obtain ⟨fd__law_pool, F__law_pool⟩ := c.def_ 21 (d := dd__law_pool) rfl
  obtain ⟨fd__law_take, F__law_take⟩ := c.def_ 22 (d := dd__law_take) rfl
  obtain ⟨fd__law_line, F__law_line⟩ := c.def_ 23 (d := dd__law_line) rfl
  obtain ⟨fd__law_wish, F__law_wish⟩ := c.def_ 24 (d := dd__law_wish) rfl
  obtain ⟨fd__law_row, F__law_row⟩ := c.def_ 25 (d := dd__law_row) rfl
  obtain ⟨fd__law_program, F__law_program⟩ := c.def_ 26 (d := dd__law_program) rfl
  obtain ⟨fd__law_wider, F__law_wider⟩ := c.def_ 27 (d := dd__law_wider) rfl
  obtain ⟨fd__law_free, F__law_free⟩ := c.def_ 28 (d := dd__law_free) rfl
  obtain ⟨fd__law_made, F__law_made⟩ := c.def_ 29 (d := dd__law_made) rfl
  obtain ⟨fd__law_is_wish, F__law_is_wish⟩ := c.def_ 30 (d := dd__law_is_wish) rfl
  obtain ⟨fd__law_due, F__law_due⟩ := c.def_ 31 (d := dd__law_due) rfl
  obtain ⟨fd__law_told, F__law_told⟩ := c.def_ 32 (d := dd__law_told) rfl
  obtain ⟨fd__law_right, F__law_right⟩ := c.def_ 33 (d := dd__law_right) rfl
  obtain ⟨fd__law_renamed, F__law_renamed⟩ := c.def_ 34 (d := dd__law_renamed) rfl
  obtain ⟨fd__law_no_program, F__law_no_program⟩ := c.def_ 35 (d := dd__law_no_program) rfl
  obtain ⟨fd_law, F_law⟩ := c.def_ 36 (d := dd_law) rfl
  obtain ⟨fd_NoProgram, F_NoProgram⟩ := c.def_ 37 (d := dd_NoProgram) rfl
  obtain ⟨fd_NoPart, F_NoPart⟩ := c.def_ 38 (d := dd_NoPart) rfl
  obtain ⟨fd_TooMany, F_TooMany⟩ := c.def_ 39 (d := dd_TooMany) rfl
  have e := hfa.symm.trans (ckGlo_ok X G c_d_law)
  cases e
  have B_is_whole : Binds K fd_is_whole ["thing"] [] := FunD.bindsN F_is_whole fun _ _ _ _ _ _ us hl => match us, hl with | [_], _ => rfl
  have B_is_line : Binds K fd_is_line ["many", "thing"] [] := FunD.bindsN F_is_line fun _ _ _ _ _ _ us hl => match us, hl with | [_, _], _ => rfl
  have B_is_wish : Binds K fd_is_wish ["many", "thing"] [] := FunD.bindsN F_is_wish fun _ _ _ _ _ _ us hl => match us, hl with | [_, _], _ => rfl
  have B_is_name : Binds K fd_is_name ["thing"] [] := FunD.bindsN F_is_name fun _ _ _ _ _ _ us hl => match us, hl with | [_], _ => rfl
  have B_is_row_number : Binds K fd_is_row_number ["many", "thing"] [] := FunD.bindsN F_is_row_number fun _ _ _ _ _ _ us hl => match us, hl with | [_, _], _ => rfl
  have B_are_roads : Binds K fd_are_roads ["many", "thing"] [] := FunD.bindsN F_are_roads fun _ _ _ _ _ _ us hl => match us, hl with | [_, _], _ => rfl
  have B_is_box : Binds K fd_is_box ["boxes", "thing"] [] := FunD.bindsN F_is_box fun _ _ _ _ _ _ us hl => match us, hl with | [_, _], _ => rfl
  have B_is_row : Binds K fd_is_row ["boxes", "behind", "many", "row"] [] := FunD.bindsN F_is_row fun _ _ _ _ _ _ us hl => match us, hl with | [_, _, _, _], _ => rfl
  have B_name_of : Binds K fd_name_of ["thing"] [] := FunD.bindsN F_name_of fun _ _ _ _ _ _ us hl => match us, hl with | [_], _ => rfl
  have B_is_part : Binds K fd_is_part ["thing"] [] := FunD.bindsN F_is_part fun _ _ _ _ _ _ us hl => match us, hl with | [_], _ => rfl
  have B_wrong_thing : Binds K fd_wrong_thing ["things", "is_good"] [] := FunD.bindsN F_wrong_thing fun _ _ _ _ _ _ us hl => match us, hl with | [_, _], _ => rfl
  have B_look_at_list : Binds K fd_look_at_list ["word", "thing", "most", "is_good"] [] := FunD.bindsN F_look_at_list fun _ _ _ _ _ _ us hl => match us, hl with | [_, _, _, _], _ => rfl
  have B_look_at : Binds K fd_look_at ["thing"] [] := FunD.bindsN F_look_at fun _ _ _ _ _ _ us hl => match us, hl with | [_], _ => rfl
  have B_part_numbers : Binds K fd_part_numbers ["program"] [] := FunD.bindsN F_part_numbers fun _ _ _ _ _ _ us hl => match us, hl with | [_], _ => rfl
  have B_look_at_size : Binds K fd_look_at_size ["program"] [] := FunD.bindsN F_look_at_size fun _ _ _ _ _ _ us hl => match us, hl with | [_], _ => rfl
  have B_look_at_call : Binds K fd_look_at_call ["program", "name", "wishes"] [] := FunD.bindsN F_look_at_call fun _ _ _ _ _ _ us hl => match us, hl with | [_, _, _], _ => rfl
  have B_letters_without : Binds K fd_letters_without ["names", "many"] [] := FunD.bindsN F_letters_without fun _ _ _ _ _ _ us hl => match us, hl with | [_, _], _ => rfl
  have B_wider_row : Binds K fd_wider_row ["row", "many"] [] := FunD.bindsN F_wider_row fun _ _ _ _ _ _ us hl => match us, hl with | [_, _], _ => rfl
  have B_claim_of : Binds K fd_claim_of ["wish", "many"] [] := FunD.bindsN F_claim_of fun _ _ _ _ _ _ us hl => match us, hl with | [_, _], _ => rfl
  have B_first_rows : Binds K fd_first_rows ["boxes", "more", "name", "wishes"] [] := FunD.bindsN F_first_rows fun _ _ _ _ _ _ us hl => match us, hl with | [_, _, _, _], _ => rfl
  have B_framed : Binds K fd_framed ["program", "name", "wishes"] [] := FunD.bindsN F_framed fun _ _ _ _ _ _ us hl => match us, hl with | [_, _, _], _ => rfl
  have B__law_pool : Binds K fd__law_pool ["_law_script", "_law_k"] [] := FunD.bindsN F__law_pool fun _ _ _ _ _ _ us hl => match us, hl with | [_, _], _ => rfl
  have B__law_take : Binds K fd__law_take ["_law_pool_here", "_law_many"] [] := FunD.bindsN F__law_take fun _ _ _ _ _ _ us hl => match us, hl with | [_, _], _ => rfl
  have B__law_line : Binds K fd__law_line ["_law_pool_here", "_law_many"] [] := FunD.bindsN F__law_line fun _ _ _ _ _ _ us hl => match us, hl with | [_, _], _ => rfl
  have B__law_wish : Binds K fd__law_wish ["_law_pool_here", "_law_many"] [] := FunD.bindsN F__law_wish fun _ _ _ _ _ _ us hl => match us, hl with | [_, _], _ => rfl
  have B__law_row : Binds K fd__law_row ["_law_pool_here", "_law_boxes", "_law_behind", "_law_many"] [] := FunD.bindsN F__law_row fun _ _ _ _ _ _ us hl => match us, hl with | [_, _, _, _], _ => rfl
  have B__law_program : Binds K fd__law_program ["_law_pool_here", "_law_size", "_law_most", "_law_parts"] [] := FunD.bindsN F__law_program fun _ _ _ _ _ _ us hl => match us, hl with | [_, _, _, _], _ => rfl
  have B__law_wider : Binds K fd__law_wider ["_law_row_here", "_law_many"] [] := FunD.bindsN F__law_wider fun _ _ _ _ _ _ us hl => match us, hl with | [_, _], _ => rfl
  have B__law_free : Binds K fd__law_free ["_law_taken", "_law_many"] [] := FunD.bindsN F__law_free fun _ _ _ _ _ _ us hl => match us, hl with | [_, _], _ => rfl
  have B__law_made : Binds K fd__law_made ["_law_program_here", "_law_name", "_law_wishes"] [] := FunD.bindsN F__law_made fun _ _ _ _ _ _ us hl => match us, hl with | [_, _, _], _ => rfl
  have B__law_is_wish : Binds K fd__law_is_wish ["_law_size", "_law_thing"] [] := FunD.bindsN F__law_is_wish fun _ _ _ _ _ _ us hl => match us, hl with | [_, _], _ => rfl
  have B__law_due : Binds K fd__law_due ["_law_program_here", "_law_name", "_law_wishes"] [] := FunD.bindsN F__law_due fun _ _ _ _ _ _ us hl => match us, hl with | [_, _, _], _ => rfl
  have B__law_told : Binds K fd__law_told ["_law_program_here", "_law_name", "_law_wishes"] [] := FunD.bindsN F__law_told fun _ _ _ _ _ _ us hl => match us, hl with | [_, _, _], _ => rfl
  have B__law_right : Binds K fd__law_right ["_law_program_here", "_law_name", "_law_wishes"] [] := FunD.bindsN F__law_right fun _ _ _ _ _ _ us hl => match us, hl with | [_, _, _], _ => rfl
  have B__law_renamed : Binds K fd__law_renamed ["_law_program_here"] [] := FunD.bindsN F__law_renamed fun _ _ _ _ _ _ us hl => match us, hl with | [_], _ => rfl
  have B__law_no_program : Binds K fd__law_no_program ["_law_thing"] [] := FunD.bindsN F__law_no_program fun _ _ _ _ _ _ us hl => match us, hl with | [_], _ => rfl
  have B_law : Binds K fd_law ["_law_script"] [] := FunD.bindsN F_law fun _ _ _ _ _ _ us hl => match us, hl with | [_], _ => rfl
  have B_NoProgram : Binds K fd_NoProgram ["self", "part", "number", "row"] [] := FunD.bindsN F_NoProgram fun _ _ _ _ _ _ us hl => match us, hl with | [_, _, _, _], _ => rfl
  have B_NoPart : Binds K fd_NoPart ["self", "name"] [] := FunD.bindsN F_NoPart fun _ _ _ _ _ _ us hl => match us, hl with | [_, _], _ => rfl
  have B_TooMany : Binds K fd_TooMany ["self", "many"] [] := FunD.bindsN F_TooMany fun _ _ _ _ _ _ us hl => match us, hl with | [_, _], _ => rfl
  have b := FunD.bindsA (ps := ["_law_script"]) F_law fun _ _ _ _ _ _ us hl => match us, hl with | [_], _ => rfl
  refine ⟨fd_law, fun s v => b s [v] rfl, fun base hK hN => ?_⟩
  have T : Tx (⟨P, w, K, mg, base, adr K⟩ : Gd) := {
    f_all := ckFree_ok X G c_f_all
    f_bool := ckFree_ok X G c_f_bool
    f_enumerate := ckFree_ok X G c_f_enumerate
    f_int := ckFree_ok X G c_f_int
    f_isinstance := ckFree_ok X G c_f_isinstance
    f_len := ckFree_ok X G c_f_len
    f_list := ckFree_ok X G c_f_list
    f_max := ckFree_ok X G c_f_max
    f_min := ckFree_ok X G c_f_min
    f_range := ckFree_ok X G c_f_range
    f_repr := ckFree_ok X G c_f_repr
    f_str := ckFree_ok X G c_f_str
    f_tuple := ckFree_ok X G c_f_tuple
    g_NoPart := ckGlo_ok X G c_g_NoPart
    g_NoProgram := ckGlo_ok X G c_g_NoProgram
    g_NoWishes := ckGlo_ok X G c_g_NoWishes
    g_TooMany := ckGlo_ok X G c_g_TooMany
    g_TreeError := ckGlo_ok X G c_g_TreeError
    m_LETTERS := ckStr_ok X G c_m_LETTERS
    m_MOST_BOXES := ckInt_ok X G c_m_MOST_BOXES
    m_MOST_CALL_WISHES := ckInt_ok X G c_m_MOST_CALL_WISHES
    m_MOST_FRAMED_BOXES := ckInt_ok X G c_m_MOST_FRAMED_BOXES
    m_MOST_FRAMED_PARTS := ckInt_ok X G c_m_MOST_FRAMED_PARTS
    m_MOST_LETTERS := ckInt_ok X G c_m_MOST_LETTERS
    m_MOST_PARTS := ckInt_ok X G c_m_MOST_PARTS
    m_MOST_ROADS := ckInt_ok X G c_m_MOST_ROADS
    m_MOST_ROWS := ckInt_ok X G c_m_MOST_ROWS
    m_WORDS := ckTup_ok X G c_m_WORDS
    v_is_name := ckGlo_ok X G c_v_is_name
    v_is_part := ckGlo_ok X G c_v_is_part
    x_NoPart := ⟨ckGlo_ok X G c_e_NoPart, oexB_ok bKE c_oe_NoPart, ⟨_, fd_NoPart, _, (He.meth_ok c_in_NoPart).1, beq_iff_eq.mp (He.meth_ok c_in_NoPart).2, ok_NoPart (fun_of F_NoPart) (ckFree_ok X G c_fb_KeyError) (ckVal_ok c_fc_KeyError), B_NoPart⟩, fun f hf => of_decide_eq_true (List.all_eq_true.mp c_no_NoPart f hf), by simp, by simp, by decide +kernel⟩
    x_NoProgram := ⟨ckGlo_ok X G c_e_NoProgram, oexB_ok bVE c_oe_NoProgram, ⟨_, fd_NoProgram, _, (He.meth_ok c_in_NoProgram).1, beq_iff_eq.mp (He.meth_ok c_in_NoProgram).2, ok_NoProgram (fun_of F_NoProgram) (ckGlo_ok X G c_e_TreeError) (of_decide_eq_true c_sp_TreeError) c_rd_TreeError (ckVal_ok c_fc_TreeError), B_NoProgram⟩, fun f hf => of_decide_eq_true (List.all_eq_true.mp c_no_NoProgram f hf), by simp, by simp, by decide +kernel⟩
    x_NoWishes := ex0_ok PySem.F.excBase_ValueError (ckGlo_ok X G c_e_NoWishes) c_x0_NoWishes
    x_TooMany := ⟨ckGlo_ok X G c_e_TooMany, oexB_ok bOE c_oe_TooMany, ⟨_, fd_TooMany, _, (He.meth_ok c_in_TooMany).1, beq_iff_eq.mp (He.meth_ok c_in_TooMany).2, ok_TooMany (fun_of F_TooMany) (ckFree_ok X G c_fb_OverflowError) (ckVal_ok c_fc_OverflowError), B_TooMany⟩, fun f hf => of_decide_eq_true (List.all_eq_true.mp c_no_TooMany f hf), by simp, by simp, by decide +kernel⟩
    ex_NoPart := fun c b hb => by
      have := List.all_eq_true.mp c_ex_NoPart c (List.mem_range.mpr (tst_NoPart_lt hb))
      rw [hb] at this
      exact of_decide_eq_true this
    is_NoPart := fun c b hb => by
      have := List.all_eq_true.mp c_is_NoPart c (List.mem_range.mpr (tst_NoPart_lt hb))
      rw [hb] at this
      exact ⟨askB_ok (List.all_eq_true.mp c_ask c (List.mem_range.mpr (tst_NoPart_lt hb))), of_decide_eq_true this⟩
    ex_NoProgram := fun c b hb => by
      have := List.all_eq_true.mp c_ex_NoProgram c (List.mem_range.mpr (tst_NoProgram_lt hb))
      rw [hb] at this
      exact of_decide_eq_true this
    is_NoProgram := fun c b hb => by
      have := List.all_eq_true.mp c_is_NoProgram c (List.mem_range.mpr (tst_NoProgram_lt hb))
      rw [hb] at this
      exact ⟨askB_ok (List.all_eq_true.mp c_ask c (List.mem_range.mpr (tst_NoProgram_lt hb))), of_decide_eq_true this⟩
    ex_NoWishes := fun c b hb => by
      have := List.all_eq_true.mp c_ex_NoWishes c (List.mem_range.mpr (tst_NoWishes_lt hb))
      rw [hb] at this
      exact of_decide_eq_true this
    is_NoWishes := fun c b hb => by
      have := List.all_eq_true.mp c_is_NoWishes c (List.mem_range.mpr (tst_NoWishes_lt hb))
      rw [hb] at this
      exact ⟨askB_ok (List.all_eq_true.mp c_ask c (List.mem_range.mpr (tst_NoWishes_lt hb))), of_decide_eq_true this⟩
    ex_TooMany := fun c b hb => by
      have := List.all_eq_true.mp c_ex_TooMany c (List.mem_range.mpr (tst_TooMany_lt hb))
      rw [hb] at this
      exact of_decide_eq_true this
    is_TooMany := fun c b hb => by
      have := List.all_eq_true.mp c_is_TooMany c (List.mem_range.mpr (tst_TooMany_lt hb))
      rw [hb] at this
      exact ⟨askB_ok (List.all_eq_true.mp c_ask c (List.mem_range.mpr (tst_TooMany_lt hb))), of_decide_eq_true this⟩
    ex_TreeError := fun c b hb => by
      have := List.all_eq_true.mp c_ex_TreeError c (List.mem_range.mpr (tst_TreeError_lt hb))
      rw [hb] at this
      exact of_decide_eq_true this
    is_TreeError := fun c b hb => by
      have := List.all_eq_true.mp c_is_TreeError c (List.mem_range.mpr (tst_TreeError_lt hb))
      rw [hb] at this
      exact ⟨askB_ok (List.all_eq_true.mp c_ask c (List.mem_range.mpr (tst_TreeError_lt hb))), of_decide_eq_true this⟩
    ask := fun c hc => askB_ok (List.all_eq_true.mp c_ask c (List.mem_range.mpr hc))
    nof := fun c hc f hf => of_decide_eq_true (List.all_eq_true.mp (List.all_eq_true.mp c_nof c (List.mem_range.mpr hc)) f hf) }
  have Z_is_whole : FnZ (⟨P, w, K, mg, base, adr K⟩ : Gd) 1 (He.ga K "is_whole") fd_is_whole ["thing"] sp_is_whole := fnz_D F_is_whole sc_is_whole (dv_is_whole T)
  have D_is_whole : DefZ (⟨P, w, K, mg, base, adr K⟩ : Gd) "is_whole" 1 sp_is_whole := ⟨_, fd_is_whole, _, Z_is_whole, ckGlo_ok X G c_d_is_whole, F_is_whole.kp, B_is_whole⟩
  have Z_is_line : FnZ (⟨P, w, K, mg, base, adr K⟩ : Gd) 2 (He.ga K "is_line") fd_is_line ["many", "thing"] sp_is_line := fnz_D F_is_line sc_is_line (dv_is_line T D_is_whole)
  have D_is_line : DefZ (⟨P, w, K, mg, base, adr K⟩ : Gd) "is_line" 2 sp_is_line := ⟨_, fd_is_line, _, Z_is_line, ckGlo_ok X G c_d_is_line, F_is_line.kp, B_is_line⟩
  have Z_is_wish : FnZ (⟨P, w, K, mg, base, adr K⟩ : Gd) 3 (He.ga K "is_wish") fd_is_wish ["many", "thing"] sp_is_wish := fnz_D F_is_wish sc_is_wish (dv_is_wish T D_is_line)
  have D_is_wish : DefZ (⟨P, w, K, mg, base, adr K⟩ : Gd) "is_wish" 3 sp_is_wish := ⟨_, fd_is_wish, _, Z_is_wish, ckGlo_ok X G c_d_is_wish, F_is_wish.kp, B_is_wish⟩
  have Z_is_name : FnZ (⟨P, w, K, mg, base, adr K⟩ : Gd) 1 (He.ga K "is_name") fd_is_name ["thing"] sp_is_name := fnz_D F_is_name sc_is_name (dv_is_name T)
  have D_is_name : DefZ (⟨P, w, K, mg, base, adr K⟩ : Gd) "is_name" 1 sp_is_name := ⟨_, fd_is_name, _, Z_is_name, ckGlo_ok X G c_d_is_name, F_is_name.kp, B_is_name⟩
  have Z_is_row_number : FnZ (⟨P, w, K, mg, base, adr K⟩ : Gd) 2 (He.ga K "is_row_number") fd_is_row_number ["many", "thing"] sp_is_row_number := fnz_D F_is_row_number sc_is_row_number (dv_is_row_number T D_is_whole)
  have D_is_row_number : DefZ (⟨P, w, K, mg, base, adr K⟩ : Gd) "is_row_number" 2 sp_is_row_number := ⟨_, fd_is_row_number, _, Z_is_row_number, ckGlo_ok X G c_d_is_row_number, F_is_row_number.kp, B_is_row_number⟩
  have Z_are_roads : FnZ (⟨P, w, K, mg, base, adr K⟩ : Gd) 3 (He.ga K "are_roads") fd_are_roads ["many", "thing"] sp_are_roads := fnz_D F_are_roads sc_are_roads (dv_are_roads T D_is_row_number)
  have D_are_roads : DefZ (⟨P, w, K, mg, base, adr K⟩ : Gd) "are_roads" 3 sp_are_roads := ⟨_, fd_are_roads, _, Z_are_roads, ckGlo_ok X G c_d_are_roads, F_are_roads.kp, B_are_roads⟩
  have Z_is_box : FnZ (⟨P, w, K, mg, base, adr K⟩ : Gd) 1 (He.ga K "is_box") fd_is_box ["boxes", "thing"] sp_is_box := fnz_D F_is_box sc_is_box (dv_is_box T)
  have D_is_box : DefZ (⟨P, w, K, mg, base, adr K⟩ : Gd) "is_box" 1 sp_is_box := ⟨_, fd_is_box, _, Z_is_box, ckGlo_ok X G c_d_is_box, F_is_box.kp, B_is_box⟩
  have Z_is_row : FnZ (⟨P, w, K, mg, base, adr K⟩ : Gd) 4 (He.ga K "is_row") fd_is_row ["boxes", "behind", "many", "row"] sp_is_row := fnz_D F_is_row sc_is_row (dv_is_row T D_is_box D_is_line D_is_wish D_is_row_number D_are_roads)
  have D_is_row : DefZ (⟨P, w, K, mg, base, adr K⟩ : Gd) "is_row" 4 sp_is_row := ⟨_, fd_is_row, _, Z_is_row, ckGlo_ok X G c_d_is_row, F_is_row.kp, B_is_row⟩
  have Z_name_of : FnZ (⟨P, w, K, mg, base, adr K⟩ : Gd) 1 (He.ga K "name_of") fd_name_of ["thing"] sp_name_of := fnz_D F_name_of sc_name_of (dv_name_of T)
  have D_name_of : DefZ (⟨P, w, K, mg, base, adr K⟩ : Gd) "name_of" 1 sp_name_of := ⟨_, fd_name_of, _, Z_name_of, ckGlo_ok X G c_d_name_of, F_name_of.kp, B_name_of⟩
  have Z_is_part : FnZ (⟨P, w, K, mg, base, adr K⟩ : Gd) 2 (He.ga K "is_part") fd_is_part ["thing"] sp_is_part := fnz_D F_is_part sc_is_part (dv_is_part T D_is_name)
  have D_is_part : DefZ (⟨P, w, K, mg, base, adr K⟩ : Gd) "is_part" 2 sp_is_part := ⟨_, fd_is_part, _, Z_is_part, ckGlo_ok X G c_d_is_part, F_is_part.kp, B_is_part⟩
  have DV_wrong_thing : ∀ c mf, tbl_wrong_thing c = some mf → DefV (⟨P, w, K, mg, base, adr K⟩ : Gd) c 2 mf := fun c mf hc => by
    unfold tbl_wrong_thing at hc
    split at hc
    · cases hc
      exact ⟨fd_is_name, _, Z_is_name.mono (by decide), F_is_name.kp, B_is_name⟩
    · cases hc
      exact ⟨fd_is_part, _, Z_is_part.mono (by decide), F_is_part.kp, B_is_part⟩
    · cases hc
  have Z_wrong_thing : FnZ (⟨P, w, K, mg, base, adr K⟩ : Gd) 3 (He.ga K "wrong_thing") fd_wrong_thing ["things", "is_good"] sp_wrong_thing := fnz_D F_wrong_thing sc_wrong_thing (dv_wrong_thing T D_name_of DV_wrong_thing)
  have D_wrong_thing : DefZ (⟨P, w, K, mg, base, adr K⟩ : Gd) "wrong_thing" 3 sp_wrong_thing := ⟨_, fd_wrong_thing, _, Z_wrong_thing, ckGlo_ok X G c_d_wrong_thing, F_wrong_thing.kp, B_wrong_thing⟩
  have Z_look_at_list : FnZ (⟨P, w, K, mg, base, adr K⟩ : Gd) 4 (He.ga K "look_at_list") fd_look_at_list ["word", "thing", "most", "is_good"] sp_look_at_list := fnz_D F_look_at_list sc_look_at_list (dv_look_at_list T D_wrong_thing)
  have D_look_at_list : DefZ (⟨P, w, K, mg, base, adr K⟩ : Gd) "look_at_list" 4 sp_look_at_list := ⟨_, fd_look_at_list, _, Z_look_at_list, ckGlo_ok X G c_d_look_at_list, F_look_at_list.kp, B_look_at_list⟩
  have Z_look_at : FnZ (⟨P, w, K, mg, base, adr K⟩ : Gd) 5 (He.ga K "look_at") fd_look_at ["thing"] sp_look_at := FnZ.lend (fnz_D F_look_at sc_look_at (dv_look_at T D_look_at_list D_is_row))
  have D_look_at : DefZ (⟨P, w, K, mg, base, adr K⟩ : Gd) "look_at" 5 sp_look_at := ⟨_, fd_look_at, _, Z_look_at, ckGlo_ok X G c_d_look_at, F_look_at.kp, B_look_at⟩
  have Z_part_numbers : FnZ (⟨P, w, K, mg, base, adr K⟩ : Gd) 1 (He.ga K "part_numbers") fd_part_numbers ["program"] sp_part_numbers := fnz_D F_part_numbers sc_part_numbers (dv_part_numbers T)
  have D_part_numbers : DefZ (⟨P, w, K, mg, base, adr K⟩ : Gd) "part_numbers" 1 sp_part_numbers := ⟨_, fd_part_numbers, _, Z_part_numbers, ckGlo_ok X G c_d_part_numbers, F_part_numbers.kp, B_part_numbers⟩
  have Z_look_at_size : FnZ (⟨P, w, K, mg, base, adr K⟩ : Gd) 3 (He.ga K "look_at_size") fd_look_at_size ["program"] sp_look_at_size := fnz_D F_look_at_size sc_look_at_size (dv_look_at_size T)
  have D_look_at_size : DefZ (⟨P, w, K, mg, base, adr K⟩ : Gd) "look_at_size" 3 sp_look_at_size := ⟨_, fd_look_at_size, _, Z_look_at_size, ckGlo_ok X G c_d_look_at_size, F_look_at_size.kp, B_look_at_size⟩
  have Z_look_at_call : FnZ (⟨P, w, K, mg, base, adr K⟩ : Gd) 4 (He.ga K "look_at_call") fd_look_at_call ["program", "name", "wishes"] sp_look_at_call := fnz_D F_look_at_call sc_look_at_call (dv_look_at_call T D_part_numbers D_is_wish)
  have D_look_at_call : DefZ (⟨P, w, K, mg, base, adr K⟩ : Gd) "look_at_call" 4 sp_look_at_call := ⟨_, fd_look_at_call, _, Z_look_at_call, ckGlo_ok X G c_d_look_at_call, F_look_at_call.kp, B_look_at_call⟩
  have Z_letters_without : FnZ (⟨P, w, K, mg, base, adr K⟩ : Gd) 1 (He.ga K "letters_without") fd_letters_without ["names", "many"] sp_letters_without := fnz_D F_letters_without sc_letters_without (dv_letters_without T)
  have D_letters_without : DefZ (⟨P, w, K, mg, base, adr K⟩ : Gd) "letters_without" 1 sp_letters_without := ⟨_, fd_letters_without, _, Z_letters_without, ckGlo_ok X G c_d_letters_without, F_letters_without.kp, B_letters_without⟩
  have Z_wider_row : FnZ (⟨P, w, K, mg, base, adr K⟩ : Gd) 1 (He.ga K "wider_row") fd_wider_row ["row", "many"] sp_wider_row := fnz_D F_wider_row sc_wider_row (dv_wider_row T)
  have D_wider_row : DefZ (⟨P, w, K, mg, base, adr K⟩ : Gd) "wider_row" 1 sp_wider_row := ⟨_, fd_wider_row, _, Z_wider_row, ckGlo_ok X G c_d_wider_row, F_wider_row.kp, B_wider_row⟩
  have Z_claim_of : FnZ (⟨P, w, K, mg, base, adr K⟩ : Gd) 1 (He.ga K "claim_of") fd_claim_of ["wish", "many"] sp_claim_of := fnz_D F_claim_of sc_claim_of (dv_claim_of T)
  have D_claim_of : DefZ (⟨P, w, K, mg, base, adr K⟩ : Gd) "claim_of" 1 sp_claim_of := ⟨_, fd_claim_of, _, Z_claim_of, ckGlo_ok X G c_d_claim_of, F_claim_of.kp, B_claim_of⟩
  have Z_first_rows : FnZ (⟨P, w, K, mg, base, adr K⟩ : Gd) 2 (He.ga K "first_rows") fd_first_rows ["boxes", "more", "name", "wishes"] sp_first_rows := fnz_D F_first_rows sc_first_rows (dv_first_rows T D_claim_of)
  have D_first_rows : DefZ (⟨P, w, K, mg, base, adr K⟩ : Gd) "first_rows" 2 sp_first_rows := ⟨_, fd_first_rows, _, Z_first_rows, ckGlo_ok X G c_d_first_rows, F_first_rows.kp, B_first_rows⟩
  have Z_framed : FnZ (⟨P, w, K, mg, base, adr K⟩ : Gd) 6 (He.ga K "framed") fd_framed ["program", "name", "wishes"] sp_framed := fnz_D F_framed sc_framed (dv_framed T D_look_at D_look_at_size D_look_at_call D_letters_without D_first_rows D_part_numbers D_wider_row)
  have D_framed : DefZ (⟨P, w, K, mg, base, adr K⟩ : Gd) "framed" 6 sp_framed := ⟨_, fd_framed, _, Z_framed, ckGlo_ok X G c_d_framed, F_framed.kp, B_framed⟩
  have Z__law_pool : FnZ (⟨P, w, K, mg, base, adr K⟩ : Gd) 1 (He.ga K "_law_pool") fd__law_pool ["_law_script", "_law_k"] sp__law_pool := fnz_D F__law_pool sc__law_pool (dv__law_pool T)
  have D__law_pool : DefZ (⟨P, w, K, mg, base, adr K⟩ : Gd) "_law_pool" 1 sp__law_pool := ⟨_, fd__law_pool, _, Z__law_pool, ckGlo_ok X G c_d__law_pool, F__law_pool.kp, B__law_pool⟩
  have Z__law_take : FnZ (⟨P, w, K, mg, base, adr K⟩ : Gd) 1 (He.ga K "_law_take") fd__law_take ["_law_pool_here", "_law_many"] sp__law_take := fnz_D F__law_take sc__law_take (dv__law_take T)
  have D__law_take : DefZ (⟨P, w, K, mg, base, adr K⟩ : Gd) "_law_take" 1 sp__law_take := ⟨_, fd__law_take, _, Z__law_take, ckGlo_ok X G c_d__law_take, F__law_take.kp, B__law_take⟩
  have Z__law_line : FnZ (⟨P, w, K, mg, base, adr K⟩ : Gd) 2 (He.ga K "_law_line") fd__law_line ["_law_pool_here", "_law_many"] sp__law_line := fnz_D F__law_line sc__law_line (dv__law_line T D__law_take)
  have D__law_line : DefZ (⟨P, w, K, mg, base, adr K⟩ : Gd) "_law_line" 2 sp__law_line := ⟨_, fd__law_line, _, Z__law_line, ckGlo_ok X G c_d__law_line, F__law_line.kp, B__law_line⟩
  have Z__law_wish : FnZ (⟨P, w, K, mg, base, adr K⟩ : Gd) 3 (He.ga K "_law_wish") fd__law_wish ["_law_pool_here", "_law_many"] sp__law_wish := fnz_D F__law_wish sc__law_wish (dv__law_wish T D__law_take D__law_line)
  have D__law_wish : DefZ (⟨P, w, K, mg, base, adr K⟩ : Gd) "_law_wish" 3 sp__law_wish := ⟨_, fd__law_wish, _, Z__law_wish, ckGlo_ok X G c_d__law_wish, F__law_wish.kp, B__law_wish⟩
  have Z__law_row : FnZ (⟨P, w, K, mg, base, adr K⟩ : Gd) 4 (He.ga K "_law_row") fd__law_row ["_law_pool_here", "_law_boxes", "_law_behind", "_law_many"] sp__law_row := fnz_D F__law_row sc__law_row (dv__law_row T D__law_take D__law_line D__law_wish)
  have D__law_row : DefZ (⟨P, w, K, mg, base, adr K⟩ : Gd) "_law_row" 4 sp__law_row := ⟨_, fd__law_row, _, Z__law_row, ckGlo_ok X G c_d__law_row, F__law_row.kp, B__law_row⟩
  have Z__law_program : FnZ (⟨P, w, K, mg, base, adr K⟩ : Gd) 5 (He.ga K "_law_program") fd__law_program ["_law_pool_here", "_law_size", "_law_most", "_law_parts"] sp__law_program := fnz_D F__law_program sc__law_program (dv__law_program T D__law_take D__law_row)
  have D__law_program : DefZ (⟨P, w, K, mg, base, adr K⟩ : Gd) "_law_program" 5 sp__law_program := ⟨_, fd__law_program, _, Z__law_program, ckGlo_ok X G c_d__law_program, F__law_program.kp, B__law_program⟩
  have Z__law_wider : FnZ (⟨P, w, K, mg, base, adr K⟩ : Gd) 1 (He.ga K "_law_wider") fd__law_wider ["_law_row_here", "_law_many"] sp__law_wider := fnz_D F__law_wider sc__law_wider (dv__law_wider T)
  have D__law_wider : DefZ (⟨P, w, K, mg, base, adr K⟩ : Gd) "_law_wider" 1 sp__law_wider := ⟨_, fd__law_wider, _, Z__law_wider, ckGlo_ok X G c_d__law_wider, F__law_wider.kp, B__law_wider⟩
  have Z__law_free : FnZ (⟨P, w, K, mg, base, adr K⟩ : Gd) 1 (He.ga K "_law_free") fd__law_free ["_law_taken", "_law_many"] sp__law_free := fnz_D F__law_free sc__law_free (dv__law_free T)
  have D__law_free : DefZ (⟨P, w, K, mg, base, adr K⟩ : Gd) "_law_free" 1 sp__law_free := ⟨_, fd__law_free, _, Z__law_free, ckGlo_ok X G c_d__law_free, F__law_free.kp, B__law_free⟩
  have Z__law_made : FnZ (⟨P, w, K, mg, base, adr K⟩ : Gd) 2 (He.ga K "_law_made") fd__law_made ["_law_program_here", "_law_name", "_law_wishes"] sp__law_made := fnz_D F__law_made sc__law_made (dv__law_made T D__law_free D__law_wider)
  have D__law_made : DefZ (⟨P, w, K, mg, base, adr K⟩ : Gd) "_law_made" 2 sp__law_made := ⟨_, fd__law_made, _, Z__law_made, ckGlo_ok X G c_d__law_made, F__law_made.kp, B__law_made⟩
  have Z__law_is_wish : FnZ (⟨P, w, K, mg, base, adr K⟩ : Gd) 1 (He.ga K "_law_is_wish") fd__law_is_wish ["_law_size", "_law_thing"] sp__law_is_wish := fnz_D F__law_is_wish sc__law_is_wish (dv__law_is_wish T)
  have D__law_is_wish : DefZ (⟨P, w, K, mg, base, adr K⟩ : Gd) "_law_is_wish" 1 sp__law_is_wish := ⟨_, fd__law_is_wish, _, Z__law_is_wish, ckGlo_ok X G c_d__law_is_wish, F__law_is_wish.kp, B__law_is_wish⟩
  have Z__law_due : FnZ (⟨P, w, K, mg, base, adr K⟩ : Gd) 3 (He.ga K "_law_due") fd__law_due ["_law_program_here", "_law_name", "_law_wishes"] sp__law_due := fnz_D F__law_due sc__law_due (dv__law_due T D__law_is_wish D__law_made)
  have D__law_due : DefZ (⟨P, w, K, mg, base, adr K⟩ : Gd) "_law_due" 3 sp__law_due := ⟨_, fd__law_due, _, Z__law_due, ckGlo_ok X G c_d__law_due, F__law_due.kp, B__law_due⟩
  have Z__law_told : FnZ (⟨P, w, K, mg, base, adr K⟩ : Gd) 7 (He.ga K "_law_told") fd__law_told ["_law_program_here", "_law_name", "_law_wishes"] sp__law_told := fnz_D F__law_told sc__law_told (dv__law_told T D_framed)
  have D__law_told : DefZ (⟨P, w, K, mg, base, adr K⟩ : Gd) "_law_told" 7 sp__law_told := ⟨_, fd__law_told, _, Z__law_told, ckGlo_ok X G c_d__law_told, F__law_told.kp, B__law_told⟩
  have Z__law_right : FnZ (⟨P, w, K, mg, base, adr K⟩ : Gd) 8 (He.ga K "_law_right") fd__law_right ["_law_program_here", "_law_name", "_law_wishes"] sp__law_right := fnz_D F__law_right sc__law_right (dv__law_right T D__law_due D__law_told D_look_at)
  have D__law_right : DefZ (⟨P, w, K, mg, base, adr K⟩ : Gd) "_law_right" 8 sp__law_right := ⟨_, fd__law_right, _, Z__law_right, ckGlo_ok X G c_d__law_right, F__law_right.kp, B__law_right⟩
  have Z__law_renamed : FnZ (⟨P, w, K, mg, base, adr K⟩ : Gd) 1 (He.ga K "_law_renamed") fd__law_renamed ["_law_program_here"] sp__law_renamed := fnz_D F__law_renamed sc__law_renamed (dv__law_renamed T)
  have D__law_renamed : DefZ (⟨P, w, K, mg, base, adr K⟩ : Gd) "_law_renamed" 1 sp__law_renamed := ⟨_, fd__law_renamed, _, Z__law_renamed, ckGlo_ok X G c_d__law_renamed, F__law_renamed.kp, B__law_renamed⟩
  have Z__law_no_program : FnZ (⟨P, w, K, mg, base, adr K⟩ : Gd) 7 (He.ga K "_law_no_program") fd__law_no_program ["_law_thing"] sp__law_no_program := fnz_D F__law_no_program sc__law_no_program (dv__law_no_program T D_framed)
  have D__law_no_program : DefZ (⟨P, w, K, mg, base, adr K⟩ : Gd) "_law_no_program" 7 sp__law_no_program := ⟨_, fd__law_no_program, _, Z__law_no_program, ckGlo_ok X G c_d__law_no_program, F__law_no_program.kp, B__law_no_program⟩
  have Z_law : FnZ (⟨P, w, K, mg, base, adr K⟩ : Gd) 9 (He.ga K "law") fd_law ["_law_script"] sp_law := fnz_D F_law sc_law (dv_law T D__law_no_program D__law_pool D__law_program D__law_take D__law_renamed D__law_wish D__law_right)
  exact Z_law
end
end K58
open PySem PySem.W PySem.Calls PyProof.Rows
theorem PySem.Challenge.cw_coveredtree_k58_programs_framed_holds : PySem.Challenge.rw_coveredtree_k58_programs_framed.Holds := by
  w_on; o_law
  refine HandSHeadRun.head_any (r := OpenLaw.row PySem.Challenge.rw_coveredtree_k58_programs_framed) (q := K58.qv) (H := K58.hk) (ob := K58.ob) (M := 4000) (loose := K58.names) (d := HandSHeadRun.topDef (OpenLaw.row PySem.Challenge.rw_coveredtree_k58_programs_framed).prog 57) (kwd := []) K58.ob_eq
    (by kernel_rfl) (fun s => by kernel_rfl) K58.run (by kernel_rfl) (by kernel_rfl) (by kernel_rfl) (by rfl) (by first | assumption | decide +kernel) (by decide +kernel) ⟨rfl, rfl, rfl, rfl, rfl, by decide +kernel⟩ ?hw ?hc
  case hw => w_witness2
  case hc =>
    refine Z.walkZ (l := PySem.Challenge.rw_coveredtree_k58_programs_framed) (n := 63) (k := 9) (x := "_law_script") rfl (by decide) (by kernel_rfl) ⟨rfl, by decide, by decide⟩ ?F
    intro w mg fa h Y G hmg0
    obtain ⟨K, KX, c⟩ := Y
    have hmg : mg ("law" : PySem.Str) = some (.ref fa) := by
      have e : (HandSHeadRun.topDef (OpenLaw.row PySem.Challenge.rw_coveredtree_k58_programs_framed).prog 57).name = ("law" : PySem.Str) := by kernel_rfl
      rw [← e]
      exact hmg0
    obtain ⟨fd, hb, hF⟩ := K58.chain (P := (PySem.Challenge.rw_coveredtree_k58_programs_framed).prog) (w := w) KX G hmg c
    exact ⟨K, fd, K58.adr K, K58.sp_law, KX, hb, K58.law_ok, hF⟩


